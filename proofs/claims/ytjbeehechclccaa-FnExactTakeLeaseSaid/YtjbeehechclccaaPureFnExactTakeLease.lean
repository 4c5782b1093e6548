/- FnExactTakeLease: what the printed functions compute answers as the statement says: for every input the law is true. No condition beside the arguments being of their kinds. -/
import Derived.Test.YtjbeehechclccaaPFnExactTakeLeasex1
import Derived.OpenShut
namespace Go.Proofs.Ytjbeehechclccaa.Pure
open Go.RowKit Go.Proofs.YtjbeehechclccaaW.PrintWords Go.Proofs.YtjbeehechclccaaW.PrintLast Go.Proofs.YtjbeehechclccaaW.PrintMore Go.Proofs.Ytjbeehechclccaa.PFnExactTakeLease
set_option linter.unusedVariables false
set_option linter.unusedSimpArgs false

/-! ### plain words -/
theorem w64 {x : Int} (h0 : -9223372036854775808 ≤ x) (h1 : x ≤ 9223372036854775807) : wrap64 x = x := by unfold wrap64; omega
theorem ev_some {α : Type} {g : Nat → Option α} {r : α} (h : ∀ k, g k = some r) : Ev g r := ⟨0, fun k _ => h k⟩
theorem ev_bind {α β : Type} {g : Nat → Option α} {f : Nat → α → Option β} {a : α} {r : β} (h : Ev g a) (k : Ev (fun n => f n a) r) : Ev (fun n => (g n).bind (f n)) r := Ev.bind h k
theorem ev_val {α β : Type} {o : Option α} {a : α} (h : o = some a) {f : Nat → α → Option β} {r : β} (k : Ev (fun n => f n a) r) : Ev (fun n => o.bind (f n)) r := by
  subst h
  exact k
theorem ev_pos {α : Type} {c : Prop} [Decidable c] {a b : Nat → Option α} {r : α} (hc : c) (h : Ev a r) : Ev (fun k => if c then a k else b k) r := Ev.congr (fun _ => if_pos hc) h
theorem ev_neg {α : Type} {c : Prop} [Decidable c] {a b : Nat → Option α} {r : α} (hc : ¬ c) (h : Ev b r) : Ev (fun k => if c then a k else b k) r := Ev.congr (fun _ => if_neg hc) h
theorem ev_eq {α : Type} {g : Nat → Option α} {r r' : α} (h : Ev g r) (e : r = r') : Ev g r' := e ▸ h
theorem ev_uniq {α : Type} {g : Nat → Option α} {r r' : α} (h : Ev g r) (h' : Ev g r') : r = r' := by
  obtain ⟨K, hK⟩ := h
  obtain ⟨K', hK'⟩ := h'
  have h1 := hK (max K K') (Nat.le_max_left _ _)
  have h2 := hK' (max K K') (Nat.le_max_right _ _)
  exact Option.some.inj (h1.symm.trans h2)
/-- So many rounds are enough. -/
theorem ev_from {α : Type} {g : Nat → Option α} {r : α} (n : Nat) (h : ∀ k, g (k + n) = some r) : Ev g r :=
  ⟨n, fun k hk => by have := h (k - n); rwa [Nat.sub_add_cancel hk] at this⟩
theorem rd_nat (xs : List Int) (i : Nat) : rd xs (i : Int) = xs.getD i 0 := by simp [rd]
theorem rd_lt {xs : List Int} {i : Nat} (h : i < xs.length) : rd xs (i : Int) = xs[i] := by
  rw [rd_nat, List.getD_eq_getElem?_getD, List.getElem?_eq_getElem h]; rfl
theorem set_take {xs out : List Int} {i : Nat} (hi : i < xs.length) (hl : out.length = xs.length) (ht : out.take i = xs.take i) : (out.set i xs[i]).take (i + 1) = xs.take (i + 1) := by
  rw [List.take_succ_eq_append_getElem (by simp; omega), List.take_succ_eq_append_getElem hi]
  rw [List.take_set_of_le (Nat.le_refl i), ht]
  simp
/-- A copy, number by number. -/
theorem copy_loop (l : Nat → List Int → List Int → Int → Option (List Int))
    (h : ∀ k xs out i, l (k + 1) xs out i = if i < (xs.length : Int) then (if 0 ≤ i then (if i < (out.length : Int) then l k xs (out.set (i : Int).toNat (rd xs i)) (wrap64 (i + 1)) else none) else none) else some out)
    (xs : List Int) (hx : xs.length ≤ 4611686018427387904) : ∀ (d i : Nat) (out : List Int), i + d = xs.length → out.length = xs.length → out.take i = xs.take i → Ev (fun k => l k xs out (i : Int)) xs
  | 0, i, out, hd, hl, ht => by
    refine Ev.step (f := fun _ => some xs) (fun k => ?_) (Ev.now _)
    rw [h, if_neg (by omega)]
    congr 1
    rw [List.take_of_length_le (by omega), List.take_of_length_le (by omega)] at ht
    exact ht
  | d + 1, i, out, hd, hl, ht => by
    have hi : i < xs.length := by omega
    refine Ev.step (f := fun k => l k xs (out.set i xs[i]) ((i + 1 : Nat) : Int)) (fun k => ?_) (copy_loop l h xs hx d (i + 1) _ (by omega) (by simpa using hl) (set_take hi hl ht))
    rw [h, if_pos (by omega), if_pos (by omega), if_pos (by omega), w64 (by omega) (by omega), rd_lt hi]
    simp
/-- Two equal lists, number by number. -/
theorem same_loop (l : Nat → List Int → List Int → Int → Option Bool)
    (h : ∀ k xs ys i, l (k + 1) xs ys i = if i < (xs.length : Int) then (if 0 ≤ i then (if i < (ys.length : Int) then (if rd xs i = rd ys i then l k xs ys (wrap64 (i + 1)) else some false) else none) else none) else some true)
    (xs : List Int) (hx : xs.length ≤ 4611686018427387904) : ∀ (d i : Nat), i + d = xs.length → Ev (fun k => l k xs xs (i : Int)) true
  | 0, i, hd => by
    refine Ev.step (f := fun _ => some true) (fun k => ?_) (Ev.now _)
    rw [h, if_neg (by omega)]
  | d + 1, i, hd => by
    refine Ev.step (f := fun k => l k xs xs ((i + 1 : Nat) : Int)) (fun k => ?_) (same_loop l h xs hx d (i + 1) (by omega))
    rw [h, if_pos (by omega), if_pos (by omega), if_pos (by omega), if_pos rfl, w64 (by omega) (by omega)]
    simp

theorem in_spec (a b c : Int) : spec_l1In.f a b c = some (decide (b ≤ a ∧ a ≤ c)) := by
  unfold spec_l1In.f
  by_cases h : a ≥ b
  · rw [if_pos h]; congr 1; simp [h]
  · rw [if_neg h]; congr 1; simp; intro h'; omega
theorem in_impl : impl_in.f = spec_l1In.f := rfl

theorem leaseFault_same : impl_LeaseFault.f = spec_LeaseFault.f := by
  funext h e a d
  simp only [impl_LeaseFault.f, spec_LeaseFault.f, impl_isNode.f, impl_isEpoch.f, impl_isSeen.f, spec_l10Epoch.f, spec_l13Time.f, in_impl, in_spec, Option.bind_some]
/-- A lease is right. -/
def leaseOk (h e a d : Int) : Prop := (0 ≤ h ∧ h ≤ 1) ∧ (1 ≤ e ∧ e ≤ 1000) ∧ (0 ≤ a ∧ a ≤ 1000000002) ∧ (0 ≤ d ∧ d ≤ 1000000002)
instance (h e a d : Int) : Decidable (leaseOk h e a d) := by unfold leaseOk; exact inferInstance
theorem spec_lease (h e a d : Int) : spec_LeaseFault.f h e a d = some (if leaseOk h e a d then 0 else 3) := by
  unfold spec_LeaseFault.f spec_l10Epoch.f spec_l13Time.f
  simp only [in_spec, Option.bind_some, decide_eq_true_eq]
  by_cases h1 : 0 ≤ h ∧ h ≤ 1
  · by_cases h2 : 1 ≤ e ∧ e ≤ 1000
    · by_cases h3 : 0 ≤ a ∧ a ≤ 1000000002
      · by_cases h4 : 0 ≤ d ∧ d ≤ 1000000002
        · rw [if_pos h1, if_pos h2, if_pos h3, if_pos h4, if_pos (show leaseOk h e a d from ⟨h1, h2, h3, h4⟩)]
        · rw [if_pos h1, if_pos h2, if_pos h3, if_neg h4, if_neg (fun z : leaseOk h e a d => h4 z.2.2.2)]
      · rw [if_pos h1, if_pos h2, if_neg h3, if_neg (fun z : leaseOk h e a d => h3 z.2.2.1)]
    · rw [if_pos h1, if_neg h2, if_neg (fun z : leaseOk h e a d => h2 z.2.1)]
  · rw [if_neg h1, if_neg (fun z : leaseOk h e a d => h1 z.1)]

theorem takeLease_same (h e a d s : Int) : ∃ r, spec_TakeLease.f h e a d s = some r ∧ impl_TakeLease.f h e a d s = some r := by
  unfold spec_TakeLease.f impl_TakeLease.f impl_MayTake.f spec_l13Take.f impl_isSeen.f spec_l13Time.f
  simp only [leaseFault_same, in_impl, spec_lease, in_spec, Option.bind_some, decide_eq_true_eq]
  by_cases hq : leaseOk h e a d
  · rw [if_pos hq]
    rw [if_pos rfl, if_pos rfl, if_pos rfl]
    by_cases hs : 0 ≤ s ∧ s ≤ 1000000002
    · rw [if_pos hs]
      simp only [Option.bind_some, decide_eq_true_eq]
      by_cases ht : s ≥ wrap64 (wrap64 (d + 10) + 4)
      · rw [if_pos ht, if_pos ht]
        unfold leaseOk at hq
        by_cases he : e = 1000
        · rw [if_pos (by omega), if_pos he]; exact ⟨_, rfl, rfl⟩
        · rw [if_neg (by omega), if_neg he]; exact ⟨_, rfl, rfl⟩
      · rw [if_neg ht, if_neg ht]; exact ⟨_, rfl, rfl⟩
    · rw [if_neg hs]
      simp
  · rw [if_neg hq, if_neg (by omega), if_neg (by omega)]
    exact ⟨_, rfl, rfl⟩

theorem FnExactTakeLease : ∀ (a0_0 : Int) (a0_1 : Int) (a0_2 : Int) (a0_3 : Int) (a1 : Int), (Lit.int .i64 a0_0).wf = true → (Lit.int .i64 a0_1).wf = true → (Lit.int .i64 a0_2).wf = true → (Lit.int .i64 a0_3).wf = true → (Lit.int .i64 a1).wf = true → laws_FnExactTakeLease.f a0_0 a0_1 a0_2 a0_3 a1 = some true := by
  intro h e a d s _ _ _ _ _
  unfold laws_FnExactTakeLease.f laws_toLease.f
  simp only [Option.bind_some]
  obtain ⟨r, h1, h2⟩ := takeLease_same h e a d s
  rw [h1, h2]
  simp only [Option.bind_some]
  unfold laws_eqLeaseResult.f laws_eqLease.f
  simp

end Go.Proofs.Ytjbeehechclccaa.Pure
