/- FnExactClockFault: what the printed functions compute answers as the statement says: for every input the law is true. No condition beside the arguments being of their kinds. -/
import Derived.Test.YtkeehgbjegdocaaPFnExactClockFaultx2
import Derived.OpenShut
namespace Go.Proofs.Ytkeehgbjegdocaa.Pure
open Go.RowKit Go.Proofs.YtkeehgbjegdocaaW.PrintWords Go.Proofs.YtkeehgbjegdocaaW.PrintLast Go.Proofs.YtkeehgbjegdocaaW.PrintMore Go.Proofs.Ytkeehgbjegdocaa.PFnExactClockFault
set_option linter.unusedVariables false
set_option linter.unusedSimpArgs false

/-! ### plain words -/
theorem w64 {x : Int} (h0 : -9223372036854775808 ≤ x) (h1 : x ≤ 9223372036854775807) : wrap64 x = x := by unfold wrap64; omega
theorem ev_some {α : Type} {g : Nat → Option α} {r : α} (h : ∀ k, g k = some r) : Ev g r := ⟨0, fun k _ => h k⟩
theorem ev_bind {α β : Type} {g : Nat → Option α} {f : Nat → α → Option β} {a : α} {r : β} (h : Ev g a) (k : Ev (fun n => f n a) r) : Ev (fun n => (g n).bind (f n)) r := Ev.bind h k
theorem ev_val {α β : Type} {o : Option α} {a : α} (h : o = some a) {f : Nat → α → Option β} {r : β} (k : Ev (fun n => f n a) r) : Ev (fun n => o.bind (f n)) r := by
  subst h
  exact k
theorem ev_pos {α : Type} {c : Prop} [Decidable c] {a b : Nat → Option α} {r : α} (hc : c) (h : Ev a r) : Ev (fun k => if c then a k else b k) r := Ev.congr (fun _ => if_pos hc) h
theorem ev_neg {α : Type} {c : Prop} [Decidable c] {a b : Nat → Option α} {r : α} (hc : ¬ c) (h : Ev b r) : Ev (fun k => if c then a k else b k) r := Ev.congr (fun _ => if_neg hc) h
theorem ev_eq {α : Type} {g : Nat → Option α} {r r' : α} (h : Ev g r) (e : r = r') : Ev g r' := e ▸ h
theorem ev_uniq {α : Type} {g : Nat → Option α} {r r' : α} (h : Ev g r) (h' : Ev g r') : r = r' := by
  obtain ⟨K, hK⟩ := h
  obtain ⟨K', hK'⟩ := h'
  have h1 := hK (max K K') (Nat.le_max_left _ _)
  have h2 := hK' (max K K') (Nat.le_max_right _ _)
  exact Option.some.inj (h1.symm.trans h2)
/-- So many rounds are enough. -/
theorem ev_from {α : Type} {g : Nat → Option α} {r : α} (n : Nat) (h : ∀ k, g (k + n) = some r) : Ev g r :=
  ⟨n, fun k hk => by have := h (k - n); rwa [Nat.sub_add_cancel hk] at this⟩
theorem rd_nat (xs : List Int) (i : Nat) : rd xs (i : Int) = xs.getD i 0 := by simp [rd]
theorem rd_lt {xs : List Int} {i : Nat} (h : i < xs.length) : rd xs (i : Int) = xs[i] := by
  rw [rd_nat, List.getD_eq_getElem?_getD, List.getElem?_eq_getElem h]; rfl
theorem set_take {xs out : List Int} {i : Nat} (hi : i < xs.length) (hl : out.length = xs.length) (ht : out.take i = xs.take i) : (out.set i xs[i]).take (i + 1) = xs.take (i + 1) := by
  rw [List.take_succ_eq_append_getElem (by simp; omega), List.take_succ_eq_append_getElem hi]
  rw [List.take_set_of_le (Nat.le_refl i), ht]
  simp
/-- A copy, number by number. -/
theorem copy_loop (l : Nat → List Int → List Int → Int → Option (List Int))
    (h : ∀ k xs out i, l (k + 1) xs out i = if i < (xs.length : Int) then (if 0 ≤ i then (if i < (out.length : Int) then l k xs (out.set (i : Int).toNat (rd xs i)) (wrap64 (i + 1)) else none) else none) else some out)
    (xs : List Int) (hx : xs.length ≤ 4611686018427387904) : ∀ (d i : Nat) (out : List Int), i + d = xs.length → out.length = xs.length → out.take i = xs.take i → Ev (fun k => l k xs out (i : Int)) xs
  | 0, i, out, hd, hl, ht => by
    refine Ev.step (f := fun _ => some xs) (fun k => ?_) (Ev.now _)
    rw [h, if_neg (by omega)]
    congr 1
    rw [List.take_of_length_le (by omega), List.take_of_length_le (by omega)] at ht
    exact ht
  | d + 1, i, out, hd, hl, ht => by
    have hi : i < xs.length := by omega
    refine Ev.step (f := fun k => l k xs (out.set i xs[i]) ((i + 1 : Nat) : Int)) (fun k => ?_) (copy_loop l h xs hx d (i + 1) _ (by omega) (by simpa using hl) (set_take hi hl ht))
    rw [h, if_pos (by omega), if_pos (by omega), if_pos (by omega), w64 (by omega) (by omega), rd_lt hi]
    simp
/-- Two equal lists, number by number. -/
theorem same_loop (l : Nat → List Int → List Int → Int → Option Bool)
    (h : ∀ k xs ys i, l (k + 1) xs ys i = if i < (xs.length : Int) then (if 0 ≤ i then (if i < (ys.length : Int) then (if rd xs i = rd ys i then l k xs ys (wrap64 (i + 1)) else some false) else none) else none) else some true)
    (xs : List Int) (hx : xs.length ≤ 4611686018427387904) : ∀ (d i : Nat), i + d = xs.length → Ev (fun k => l k xs xs (i : Int)) true
  | 0, i, hd => by
    refine Ev.step (f := fun _ => some true) (fun k => ?_) (Ev.now _)
    rw [h, if_neg (by omega)]
  | d + 1, i, hd => by
    refine Ev.step (f := fun k => l k xs xs ((i + 1 : Nat) : Int)) (fun k => ?_) (same_loop l h xs hx d (i + 1) (by omega))
    rw [h, if_pos (by omega), if_pos (by omega), if_pos (by omega), if_pos rfl, w64 (by omega) (by omega)]
    simp

theorem toInt64S_ev (xs : List Int) (hx : xs.length ≤ 1048576) : Ev (fun k => laws_toInt64S.f k xs) xs := by
  refine Ev.congr (f := fun k => laws_toInt64S.l0 k xs (List.replicate xs.length 0) 0) (fun k => ?_) ?_
  · unfold laws_toInt64S.f
    rw [if_pos (by omega), if_pos (by omega)]
    simp
  · exact copy_loop _ (fun _ _ _ _ => rfl) xs (by omega) xs.length 0 _ (by omega) (by simp) rfl
theorem eqInt64S_ev (xs : List Int) (hx : xs.length ≤ 1048576) : Ev (fun k => laws_eqInt64S.f k xs xs) true := by
  refine Ev.congr (f := fun k => laws_eqInt64S.l0 k xs xs 0) (fun k => ?_) (same_loop _ (fun _ _ _ _ => rfl) xs (by omega) xs.length 0 (by omega))
  unfold laws_eqInt64S.f
  rw [if_pos rfl]

theorem in_spec (a b c : Int) : spec_l1In.f a b c = some (decide (b ≤ a ∧ a ≤ c)) := by
  unfold spec_l1In.f
  by_cases h : a ≥ b
  · rw [if_pos h]; congr 1; simp [h]
  · rw [if_neg h]; congr 1; simp; intro h'; omega
theorem in_impl : impl_in.f = spec_l1In.f := rfl

def goodSeen (now p : Int) : Prop := 0 ≤ p ∧ -2 ≤ p - now ∧ p - now ≤ 2
instance (now p : Int) : Decidable (goodSeen now p) := by unfold goodSeen; exact inferInstance
/-- What is not right of a clock. -/
def clockM (now : Int) (l : List Int) : Int :=
  if 0 ≤ now ∧ now ≤ 1000000000 then (if l.length = 2 then (if goodSeen now (l.getD 0 0) ∧ goodSeen now (l.getD 1 0) then 0 else 3) else 1) else 3
theorem spec_clock_round (k : Nat) (now : Int) (l : List Int) (i : Nat) (hi : i < 2) (hl : l.length = 2) (h0 : 0 ≤ now) (h1 : now ≤ 1000000000) (hr : l.getD i 0 ≤ 9223372036854775807) :
    spec_ClockFault.l0 (k + 1) (i : Int) now l = if goodSeen now (l.getD i 0) then spec_ClockFault.l0 k ((i + 1 : Nat) : Int) now l else some 3 := by
  rw [spec_ClockFault.l0, if_pos (by omega), if_pos (by omega), if_pos (by omega), rd_nat]
  by_cases hn : l.getD i 0 < 0
  · rw [if_pos hn, if_neg (by unfold goodSeen; omega)]
  · rw [if_neg hn, in_spec, w64 (by omega) (by omega), w64 (by omega) (by omega)]
    simp only [Option.bind_some, decide_eq_true_eq]
    by_cases hg : goodSeen now (l.getD i 0)
    · rw [if_pos hg, if_pos (by unfold goodSeen at hg; omega)]; simp
    · rw [if_neg hg, if_neg (by unfold goodSeen at hg; omega)]
theorem impl_clock_round (k : Nat) (now : Int) (l : List Int) (i : Nat) (hi : i < 2) (hl : l.length = 2) (h0 : 0 ≤ now) (h1 : now ≤ 1000000000) :
    impl_ClockFault.l0 (k + 1) l (l.length : Int) (i : Int) now l = if goodSeen now (l.getD i 0) then impl_ClockFault.l0 k l (l.length : Int) ((i + 1 : Nat) : Int) now l else some 3 := by
  rw [impl_ClockFault.l0, if_pos (by omega), if_pos (by omega), if_pos (by omega), rd_nat, in_impl, in_spec, w64 (x := now - 2) (by omega) (by omega), w64 (x := now + 2) (by omega) (by omega), w64 (x := (i : Int) + 1) (by omega) (by omega)]
  simp only [Option.bind_some, decide_eq_true_eq]
  have hm : mx (now - 2) 0 = if now - 2 < 0 then 0 else now - 2 := rfl
  by_cases hg : goodSeen now (l.getD i 0)
  · rw [if_pos hg, if_pos (by unfold goodSeen at hg; rw [hm]; split <;> omega)]; simp
  · rw [if_neg hg, if_neg (by unfold goodSeen at hg; rw [hm]; split <;> omega)]
theorem spec_clock_ev (now : Int) (l : List Int) (hr : ∀ x ∈ l, x ≤ 9223372036854775807) : Ev (fun k => spec_ClockFault.f k now l) (clockM now l) := by
  refine ev_from 3 (fun k => ?_)
  unfold spec_ClockFault.f clockM
  rw [in_spec]
  simp only [Option.bind_some, decide_eq_true_eq]
  by_cases hn : 0 ≤ now ∧ now ≤ 1000000000
  · rw [if_pos hn, if_pos hn]
    by_cases hl : l.length = 2
    · rw [if_pos (by omega), if_pos hl]
      have g0 : l.getD 0 0 ≤ 9223372036854775807 := by
        rw [List.getD_eq_getElem?_getD, List.getElem?_eq_getElem (by omega)]; exact hr _ (List.getElem_mem _)
      have g1 : l.getD 1 0 ≤ 9223372036854775807 := by
        rw [List.getD_eq_getElem?_getD, List.getElem?_eq_getElem (by omega)]; exact hr _ (List.getElem_mem _)
      have e0 := spec_clock_round (k + 2) now l 0 (by omega) hl hn.1 hn.2 g0
      have e1 := spec_clock_round (k + 1) now l 1 (by omega) hl hn.1 hn.2 g1
      have e2 : spec_ClockFault.l0 (k + 1) ((1 + 1 : Nat) : Int) now l = some 0 := by rw [spec_ClockFault.l0, if_neg (by omega)]
      rw [show k + 3 = k + 2 + 1 from rfl, show (0 : Int) = ((0 : Nat) : Int) from rfl, e0]
      rw [show ((0 + 1 : Nat) : Int) = ((1 : Nat) : Int) from rfl, show k + 2 = k + 1 + 1 from rfl, e1, e2]
      by_cases h0 : goodSeen now (l.getD 0 0)
      · by_cases h1 : goodSeen now (l.getD 1 0)
        · rw [if_pos h0, if_pos h1, if_pos ⟨h0, h1⟩]
          all_goals rfl
        · rw [if_pos h0, if_neg h1, if_neg (fun z => h1 z.2)]
      · rw [if_neg h0, if_neg (fun z => h0 z.1)]
    · rw [if_neg (by omega), if_neg hl]
  · rw [if_neg hn, if_neg hn]
theorem impl_clock_ev (now : Int) (l : List Int) : Ev (fun k => impl_ClockFault.f k now l) (clockM now l) := by
  refine ev_from 3 (fun k => ?_)
  unfold impl_ClockFault.f clockM
  rw [in_impl, in_spec]
  simp only [Option.bind_some, decide_eq_true_eq]
  by_cases hn : 0 ≤ now ∧ now ≤ 1000000000
  · rw [if_pos hn, if_pos hn]
    by_cases hl : l.length = 2
    · rw [if_pos (by omega), if_pos hl]
      have e0 := impl_clock_round (k + 2) now l 0 (by omega) hl hn.1 hn.2
      have e1 := impl_clock_round (k + 1) now l 1 (by omega) hl hn.1 hn.2
      have e2 : impl_ClockFault.l0 (k + 1) l (l.length : Int) ((1 + 1 : Nat) : Int) now l = some 0 := by rw [impl_ClockFault.l0, if_neg (by omega)]
      rw [show k + 3 = k + 2 + 1 from rfl, show (0 : Int) = ((0 : Nat) : Int) from rfl, e0]
      rw [show ((0 + 1 : Nat) : Int) = ((1 : Nat) : Int) from rfl, show k + 2 = k + 1 + 1 from rfl, e1, e2]
      by_cases h0 : goodSeen now (l.getD 0 0)
      · by_cases h1 : goodSeen now (l.getD 1 0)
        · rw [if_pos h0, if_pos h1, if_pos ⟨h0, h1⟩]
          all_goals rfl
        · rw [if_pos h0, if_neg h1, if_neg (fun z => h1 z.2)]
      · rw [if_neg h0, if_neg (fun z => h0 z.1)]
    · rw [if_neg (by omega), if_neg hl]
  · rw [if_neg hn, if_neg hn]

theorem FnExactClockFault : ∀ (a0_0 : Int) (a0_1 : List Int), (Lit.int .i64 a0_0).wf = true → (a0_1.length ≤ 9223372036854775807 ∧ ∀ x ∈ a0_1, (Lit.int .i64 x).wf = true) → ∃ k, laws_FnExactClockFault.f k a0_0 a0_1 = some true := by
  intro now l hw hl
  obtain ⟨hlen, hall⟩ := hl
  have hr : ∀ x ∈ l, x ≤ 9223372036854775807 := fun x hx => (bounds_i64 (hall x hx)).2
  by_cases hs : l.length ≤ 1048576
  · have e : Ev (fun k => laws_FnExactClockFault.f k now l) true := by
      unfold laws_FnExactClockFault.f
      have hsz : laws_szClock.f now l 1048576 = some (1048576 - (l.length : Int)) := by
        unfold laws_szClock.f laws_szInt64S.f
        rw [w64 (by omega) (by omega), if_neg (by omega)]
        simp only [Option.bind_some]
        rw [if_neg (by omega)]
      have hto : Ev (fun k => laws_toClock.f k now l) (now, l) := by
        unfold laws_toClock.f
        exact ev_bind (toInt64S_ev l hs) (Ev.now _)
      refine ev_val (hsz) ?_
      refine ev_neg (by omega) (ev_bind hto (ev_bind (spec_clock_ev now l hr) (ev_bind hto (ev_bind (impl_clock_ev now l) (ev_pos rfl (ev_bind hto (ev_bind (a := true) ?_ (ev_pos rfl (Ev.now _)))))))))
      unfold laws_eqClock.f
      exact ev_pos rfl (ev_bind (eqInt64S_ev l hs) (ev_pos rfl (Ev.now _)))
    exact e.rounds
  · refine ⟨0, ?_⟩
    unfold laws_FnExactClockFault.f laws_szClock.f laws_szInt64S.f
    rw [w64 (by omega) (by omega), if_pos (show (1048576 : Int) - (l.length : Int) < 0 by omega)]
    all_goals rfl

end Go.Proofs.Ytkeehgbjegdocaa.Pure
