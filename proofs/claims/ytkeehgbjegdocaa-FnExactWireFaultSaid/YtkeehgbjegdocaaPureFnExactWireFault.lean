/- FnExactWireFault: what the printed functions compute answers as the statement says: for every input the law is true. No condition beside the arguments being of their kinds. -/
import Derived.Test.YtkeehgbjegdocaaPFnExactWireFaultx2
import Derived.OpenShut
namespace Go.Proofs.Ytkeehgbjegdocaa.Pure
open Go.RowKit Go.Proofs.YtkeehgbjegdocaaW.PrintWords Go.Proofs.YtkeehgbjegdocaaW.PrintLast Go.Proofs.YtkeehgbjegdocaaW.PrintMore Go.Proofs.Ytkeehgbjegdocaa.PFnExactWireFault
set_option linter.unusedVariables false
set_option linter.unusedSimpArgs false

/-! ### plain words -/
theorem w64 {x : Int} (h0 : -9223372036854775808 ≤ x) (h1 : x ≤ 9223372036854775807) : wrap64 x = x := by unfold wrap64; omega
theorem ev_some {α : Type} {g : Nat → Option α} {r : α} (h : ∀ k, g k = some r) : Ev g r := ⟨0, fun k _ => h k⟩
theorem ev_bind {α β : Type} {g : Nat → Option α} {f : Nat → α → Option β} {a : α} {r : β} (h : Ev g a) (k : Ev (fun n => f n a) r) : Ev (fun n => (g n).bind (f n)) r := Ev.bind h k
theorem ev_val {α β : Type} {o : Option α} {a : α} (h : o = some a) {f : Nat → α → Option β} {r : β} (k : Ev (fun n => f n a) r) : Ev (fun n => o.bind (f n)) r := by
  subst h
  exact k
theorem ev_pos {α : Type} {c : Prop} [Decidable c] {a b : Nat → Option α} {r : α} (hc : c) (h : Ev a r) : Ev (fun k => if c then a k else b k) r := Ev.congr (fun _ => if_pos hc) h
theorem ev_neg {α : Type} {c : Prop} [Decidable c] {a b : Nat → Option α} {r : α} (hc : ¬ c) (h : Ev b r) : Ev (fun k => if c then a k else b k) r := Ev.congr (fun _ => if_neg hc) h
theorem ev_eq {α : Type} {g : Nat → Option α} {r r' : α} (h : Ev g r) (e : r = r') : Ev g r' := e ▸ h
theorem ev_uniq {α : Type} {g : Nat → Option α} {r r' : α} (h : Ev g r) (h' : Ev g r') : r = r' := by
  obtain ⟨K, hK⟩ := h
  obtain ⟨K', hK'⟩ := h'
  have h1 := hK (max K K') (Nat.le_max_left _ _)
  have h2 := hK' (max K K') (Nat.le_max_right _ _)
  exact Option.some.inj (h1.symm.trans h2)
/-- So many rounds are enough. -/
theorem ev_from {α : Type} {g : Nat → Option α} {r : α} (n : Nat) (h : ∀ k, g (k + n) = some r) : Ev g r :=
  ⟨n, fun k hk => by have := h (k - n); rwa [Nat.sub_add_cancel hk] at this⟩
theorem rd_nat (xs : List Int) (i : Nat) : rd xs (i : Int) = xs.getD i 0 := by simp [rd]
theorem rd_lt {xs : List Int} {i : Nat} (h : i < xs.length) : rd xs (i : Int) = xs[i] := by
  rw [rd_nat, List.getD_eq_getElem?_getD, List.getElem?_eq_getElem h]; rfl
theorem set_take {xs out : List Int} {i : Nat} (hi : i < xs.length) (hl : out.length = xs.length) (ht : out.take i = xs.take i) : (out.set i xs[i]).take (i + 1) = xs.take (i + 1) := by
  rw [List.take_succ_eq_append_getElem (by simp; omega), List.take_succ_eq_append_getElem hi]
  rw [List.take_set_of_le (Nat.le_refl i), ht]
  simp
/-- A copy, number by number. -/
theorem copy_loop (l : Nat → List Int → List Int → Int → Option (List Int))
    (h : ∀ k xs out i, l (k + 1) xs out i = if i < (xs.length : Int) then (if 0 ≤ i then (if i < (out.length : Int) then l k xs (out.set (i : Int).toNat (rd xs i)) (wrap64 (i + 1)) else none) else none) else some out)
    (xs : List Int) (hx : xs.length ≤ 4611686018427387904) : ∀ (d i : Nat) (out : List Int), i + d = xs.length → out.length = xs.length → out.take i = xs.take i → Ev (fun k => l k xs out (i : Int)) xs
  | 0, i, out, hd, hl, ht => by
    refine Ev.step (f := fun _ => some xs) (fun k => ?_) (Ev.now _)
    rw [h, if_neg (by omega)]
    congr 1
    rw [List.take_of_length_le (by omega), List.take_of_length_le (by omega)] at ht
    exact ht
  | d + 1, i, out, hd, hl, ht => by
    have hi : i < xs.length := by omega
    refine Ev.step (f := fun k => l k xs (out.set i xs[i]) ((i + 1 : Nat) : Int)) (fun k => ?_) (copy_loop l h xs hx d (i + 1) _ (by omega) (by simpa using hl) (set_take hi hl ht))
    rw [h, if_pos (by omega), if_pos (by omega), if_pos (by omega), w64 (by omega) (by omega), rd_lt hi]
    simp
/-- Two equal lists, number by number. -/
theorem same_loop (l : Nat → List Int → List Int → Int → Option Bool)
    (h : ∀ k xs ys i, l (k + 1) xs ys i = if i < (xs.length : Int) then (if 0 ≤ i then (if i < (ys.length : Int) then (if rd xs i = rd ys i then l k xs ys (wrap64 (i + 1)) else some false) else none) else none) else some true)
    (xs : List Int) (hx : xs.length ≤ 4611686018427387904) : ∀ (d i : Nat), i + d = xs.length → Ev (fun k => l k xs xs (i : Int)) true
  | 0, i, hd => by
    refine Ev.step (f := fun _ => some true) (fun k => ?_) (Ev.now _)
    rw [h, if_neg (by omega)]
  | d + 1, i, hd => by
    refine Ev.step (f := fun k => l k xs xs ((i + 1 : Nat) : Int)) (fun k => ?_) (same_loop l h xs hx d (i + 1) (by omega))
    rw [h, if_pos (by omega), if_pos (by omega), if_pos (by omega), if_pos rfl, w64 (by omega) (by omega)]
    simp

theorem toByteS_ev (xs : List Int) (hx : xs.length ≤ 1048576) : Ev (fun k => laws_toByteS.f k xs) xs := by
  refine Ev.congr (f := fun k => laws_toByteS.l0 k xs (List.replicate xs.length 0) 0) (fun k => ?_) ?_
  · unfold laws_toByteS.f
    rw [if_pos (by omega), if_pos (by omega)]
    simp
  · exact copy_loop _ (fun _ _ _ _ => rfl) xs (by omega) xs.length 0 _ (by omega) (by simp) rfl
theorem eqByteS_ev (xs : List Int) (hx : xs.length ≤ 1048576) : Ev (fun k => laws_eqByteS.f k xs xs) true := by
  refine Ev.congr (f := fun k => laws_eqByteS.l0 k xs xs 0) (fun k => ?_) (same_loop _ (fun _ _ _ _ => rfl) xs (by omega) xs.length 0 (by omega))
  unfold laws_eqByteS.f
  rw [if_pos rfl]

theorem in_spec (a b c : Int) : spec_l1In.f a b c = some (decide (b ≤ a ∧ a ≤ c)) := by
  unfold spec_l1In.f
  by_cases h : a ≥ b
  · rw [if_pos h]; congr 1; simp [h]
  · rw [if_neg h]; congr 1; simp; intro h'; omega
theorem in_impl : impl_in.f = spec_l1In.f := rfl

theorem wireFault_same : ∀ k, impl_WireFault.f k = spec_WireFault.f k := by
  intro k
  have hj : impl_WireFault.j0 k = spec_WireFault.j0 k := by
    cases k with
    | zero => rfl
    | succ k => funext b e s t g; simp only [impl_WireFault.j0, spec_WireFault.j0, impl_size_byte.f, in_impl, Option.bind_some]
  funext e s t g
  simp only [impl_WireFault.f, spec_WireFault.f, hj, in_impl]
/-- What is not right of a wire. -/
def wireM (e : Int) (s : List Int) (t : Int) (g : List Int) : Int :=
  if 0 ≤ e ∧ e ≤ 1000 then (if s.length > 2000 ∨ g.length > 2000 then 2 else (if 0 ≤ t ∧ t ≤ (s.length : Int) then 0 else 3)) else 3
theorem wire_ev (e : Int) (s : List Int) (t : Int) (g : List Int) : Ev (fun k => spec_WireFault.f k e s t g) (wireM e s t g) := by
  refine ev_from 1 (fun k => ?_)
  simp only [spec_WireFault.f, spec_WireFault.j0, in_spec, Option.bind_some, decide_eq_true_eq, wireM]
  by_cases h1 : 0 ≤ e ∧ e ≤ 1000
  · rw [if_pos h1, if_pos h1]
    by_cases h2 : s.length > 2000
    · rw [if_pos (show (s.length : Int) > 2000 by omega), if_pos (show s.length > 2000 ∨ g.length > 2000 from Or.inl h2)]
      all_goals simp
    · rw [if_neg (show ¬ (s.length : Int) > 2000 by omega)]
      by_cases h3 : g.length > 2000
      · rw [if_pos (show (g.length : Int) > 2000 by omega), if_pos (show s.length > 2000 ∨ g.length > 2000 from Or.inr h3)]
        all_goals simp
      · rw [if_neg (show ¬ (g.length : Int) > 2000 by omega), if_neg (show ¬ (s.length > 2000 ∨ g.length > 2000) by omega)]
        split <;> rfl
  · rw [if_neg h1, if_neg h1]

theorem FnExactWireFault : ∀ (a0_0 : Int) (a0_1 : List Int) (a0_2 : Int) (a0_3 : List Int), (Lit.int .i64 a0_0).wf = true → (a0_1.length ≤ 9223372036854775807 ∧ ∀ x ∈ a0_1, (Lit.int .u8 x).wf = true) → (Lit.int .i64 a0_2).wf = true → (a0_3.length ≤ 9223372036854775807 ∧ ∀ x ∈ a0_3, (Lit.int .u8 x).wf = true) → ∃ k, laws_FnExactWireFault.f k a0_0 a0_1 a0_2 a0_3 = some true := by
  intro e s t g _ hs _ hg
  obtain ⟨hs, _⟩ := hs
  obtain ⟨hg, _⟩ := hg
  by_cases hz : s.length + g.length ≤ 1048576
  · refine Ev.rounds ?_
    unfold laws_FnExactWireFault.f
    have hsz : laws_szWire.f e s t g 1048576 = some (1048576 - (s.length : Int) - (g.length : Int)) := by
      unfold laws_szWire.f laws_szByteS.f
      rw [w64 (by omega) (by omega), if_neg (by omega)]
      simp only [Option.bind_some]
      rw [if_neg (by omega), w64 (by omega) (by omega), if_neg (by omega)]
      simp only [Option.bind_some]
      rw [if_neg (by omega)]
    have hto : Ev (fun k => laws_toWire.f k e s t g) (e, s, t, g) := by
      unfold laws_toWire.f
      exact ev_bind (toByteS_ev s (by omega)) (ev_bind (toByteS_ev g (by omega)) (Ev.now _))
    refine ev_val (hsz) ?_
    simp only [wireFault_same]
    refine ev_neg (by omega) (ev_bind hto (ev_bind (wire_ev e s t g) (ev_bind hto (ev_bind (wire_ev e s t g) (ev_pos rfl (ev_bind hto (ev_bind (a := true) ?_ (ev_pos rfl (Ev.now _)))))))))
    unfold laws_eqWire.f
    exact ev_pos rfl (ev_bind (eqByteS_ev s (by omega)) (ev_pos rfl (ev_pos rfl (ev_bind (eqByteS_ev g (by omega)) (ev_pos rfl (Ev.now _))))))
  · refine ⟨0, ?_⟩
    unfold laws_FnExactWireFault.f laws_szWire.f laws_szByteS.f
    rw [w64 (by omega) (by omega)]
    by_cases h1 : (1048576 : Int) - (s.length : Int) < 0
    · rw [if_pos h1]; rfl
    · rw [if_neg h1]
      simp only [Option.bind_some]
      rw [if_neg h1, w64 (by omega) (by omega), if_pos (show (1048576 : Int) - (s.length : Int) - (g.length : Int) < 0 by omega)]
      rfl

end Go.Proofs.Ytkeehgbjegdocaa.Pure
