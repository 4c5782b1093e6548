/- FnLeases: what the printed functions compute answers as the statement says: for every input the law is true. No condition beside the arguments being of their kinds. -/
import Derived.Test.YtgfoifkkffffgabPFnLeasesx6
import Derived.OpenShut
namespace Go.Proofs.Ytgfoifkkffffgab.Pure
open Go.RowKit Go.Proofs.YtgfoifkkffffgabW.PrintWords Go.Proofs.YtgfoifkkffffgabW.PrintLast Go.Proofs.YtgfoifkkffffgabW.PrintMore Go.Proofs.Ytgfoifkkffffgab.PFnLeases
set_option linter.unusedVariables false
set_option linter.unusedSimpArgs false

/-! ### plain words -/
theorem w64 {x : Int} (h0 : -9223372036854775808 ≤ x) (h1 : x ≤ 9223372036854775807) : wrap64 x = x := by unfold wrap64; omega
theorem ev_some {α : Type} {g : Nat → Option α} {r : α} (h : ∀ k, g k = some r) : Ev g r := ⟨0, fun k _ => h k⟩
theorem ev_bind {α β : Type} {g : Nat → Option α} {f : Nat → α → Option β} {a : α} {r : β} (h : Ev g a) (k : Ev (fun n => f n a) r) : Ev (fun n => (g n).bind (f n)) r := Ev.bind h k
theorem ev_val {α β : Type} {o : Option α} {a : α} (h : o = some a) {f : Nat → α → Option β} {r : β} (k : Ev (fun n => f n a) r) : Ev (fun n => o.bind (f n)) r := by
  subst h
  exact k
theorem ev_pos {α : Type} {c : Prop} [Decidable c] {a b : Nat → Option α} {r : α} (hc : c) (h : Ev a r) : Ev (fun k => if c then a k else b k) r := Ev.congr (fun _ => if_pos hc) h
theorem ev_neg {α : Type} {c : Prop} [Decidable c] {a b : Nat → Option α} {r : α} (hc : ¬ c) (h : Ev b r) : Ev (fun k => if c then a k else b k) r := Ev.congr (fun _ => if_neg hc) h
theorem ev_ite {α : Type} {c : Prop} [Decidable c] {a b : Nat → Option α} {x y : α} (h1 : c → Ev a x) (h2 : ¬ c → Ev b y) : Ev (fun k => if c then a k else b k) (if c then x else y) := by
  by_cases h : c
  · rw [if_pos h]
    exact ev_pos h (h1 h)
  · rw [if_neg h]
    exact ev_neg h (h2 h)
theorem ev_eq {α : Type} {g : Nat → Option α} {r r' : α} (h : Ev g r) (e : r = r') : Ev g r' := e ▸ h
theorem ev_uniq {α : Type} {g : Nat → Option α} {r r' : α} (h : Ev g r) (h' : Ev g r') : r = r' := by
  obtain ⟨K, hK⟩ := h
  obtain ⟨K', hK'⟩ := h'
  have h1 := hK (max K K') (Nat.le_max_left _ _)
  have h2 := hK' (max K K') (Nat.le_max_right _ _)
  exact Option.some.inj (h1.symm.trans h2)
/-- So many rounds are enough. -/
theorem ev_from {α : Type} {g : Nat → Option α} {r : α} (n : Nat) (h : ∀ k, g (k + n) = some r) : Ev g r :=
  ⟨n, fun k hk => by have := h (k - n); rwa [Nat.sub_add_cancel hk] at this⟩
theorem rd_nat (xs : List Int) (i : Nat) : rd xs (i : Int) = xs.getD i 0 := by simp [rd]
theorem rd_lt {xs : List Int} {i : Nat} (h : i < xs.length) : rd xs (i : Int) = xs[i] := by
  rw [rd_nat, List.getD_eq_getElem?_getD, List.getElem?_eq_getElem h]; rfl
theorem set_take {xs out : List Int} {i : Nat} (hi : i < xs.length) (hl : out.length = xs.length) (ht : out.take i = xs.take i) : (out.set i xs[i]).take (i + 1) = xs.take (i + 1) := by
  rw [List.take_succ_eq_append_getElem (by simp; omega), List.take_succ_eq_append_getElem hi]
  rw [List.take_set_of_le (Nat.le_refl i), ht]
  simp
/-- A copy, number by number. -/
theorem copy_loop (l : Nat → List Int → List Int → Int → Option (List Int))
    (h : ∀ k xs out i, l (k + 1) xs out i = if i < (xs.length : Int) then (if 0 ≤ i then (if i < (out.length : Int) then l k xs (out.set (i : Int).toNat (rd xs i)) (wrap64 (i + 1)) else none) else none) else some out)
    (xs : List Int) (hx : xs.length ≤ 4611686018427387904) : ∀ (d i : Nat) (out : List Int), i + d = xs.length → out.length = xs.length → out.take i = xs.take i → Ev (fun k => l k xs out (i : Int)) xs
  | 0, i, out, hd, hl, ht => by
    refine Ev.step (f := fun _ => some xs) (fun k => ?_) (Ev.now _)
    rw [h, if_neg (by omega)]
    congr 1
    rw [List.take_of_length_le (by omega), List.take_of_length_le (by omega)] at ht
    exact ht
  | d + 1, i, out, hd, hl, ht => by
    have hi : i < xs.length := by omega
    refine Ev.step (f := fun k => l k xs (out.set i xs[i]) ((i + 1 : Nat) : Int)) (fun k => ?_) (copy_loop l h xs hx d (i + 1) _ (by omega) (by simpa using hl) (set_take hi hl ht))
    rw [h, if_pos (by omega), if_pos (by omega), if_pos (by omega), w64 (by omega) (by omega), rd_lt hi]
    simp
/-- Two equal lists, number by number. -/
theorem same_loop (l : Nat → List Int → List Int → Int → Option Bool)
    (h : ∀ k xs ys i, l (k + 1) xs ys i = if i < (xs.length : Int) then (if 0 ≤ i then (if i < (ys.length : Int) then (if rd xs i = rd ys i then l k xs ys (wrap64 (i + 1)) else some false) else none) else none) else some true)
    (xs : List Int) (hx : xs.length ≤ 4611686018427387904) : ∀ (d i : Nat), i + d = xs.length → Ev (fun k => l k xs xs (i : Int)) true
  | 0, i, hd => by
    refine Ev.step (f := fun _ => some true) (fun k => ?_) (Ev.now _)
    rw [h, if_neg (by omega)]
  | d + 1, i, hd => by
    refine Ev.step (f := fun k => l k xs xs ((i + 1 : Nat) : Int)) (fun k => ?_) (same_loop l h xs hx d (i + 1) (by omega))
    rw [h, if_pos (by omega), if_pos (by omega), if_pos (by omega), if_pos rfl, w64 (by omega) (by omega)]
    simp

def isBytes (l : List Int) : Prop := ∀ x ∈ l, 0 ≤ x ∧ x ≤ 255
theorem rd_byte {l : List Int} (h : isBytes l) (i : Int) : 0 ≤ rd l i ∧ rd l i ≤ 255 := by
  unfold rd
  rw [List.getD_eq_getElem?_getD]
  cases hq : l[i.toNat]? with
  | none => exact ⟨by simp, by simp⟩
  | some x => exact h x (List.mem_of_getElem? hq)
/-- A draw. -/
theorem next_some (l : List Int) (hb : isBytes l) (s a : Int) (h0 : 0 ≤ s) (h1 : s ≤ 10000000) (ha : 1 ≤ a) : ∃ v, spec_l1Next.f l s a = some (v, s + 1) ∧ 0 ≤ v ∧ v < a := by
  have e0 : wrap64 (s + 1) = s + 1 := w64 (by omega) (by omega)
  have e1 : wrap64 (s + 1 - 1) = s := by rw [w64 (by omega) (by omega)]; omega
  unfold spec_l1Next.f
  simp only [e0, e1]
  rw [if_neg (show ¬ a < 1 by omega)]
  by_cases hl : (l.length : Int) = 0
  · rw [if_pos hl, if_neg (show ¬ a = 0 by omega), w64 (x := s * 7) (by omega) (by omega)]
    exact ⟨_, rfl, Int.tmod_nonneg a (by omega), Int.tmod_lt_of_pos _ (by omega)⟩
  · have hlp : (0 : Int) < (l.length : Int) := by omega
    have i0 : 0 ≤ Int.tmod s (l.length : Int) := Int.tmod_nonneg _ h0
    have i1 : Int.tmod s (l.length : Int) < (l.length : Int) := Int.tmod_lt_of_pos _ hlp
    have j0 : 0 ≤ Int.tmod (s + 1) (l.length : Int) := Int.tmod_nonneg _ (by omega)
    have j1 : Int.tmod (s + 1) (l.length : Int) < (l.length : Int) := Int.tmod_lt_of_pos _ hlp
    have q0 : 0 ≤ Int.tdiv s (l.length : Int) := Int.tdiv_nonneg h0 (by omega)
    have q1 : Int.tdiv s (l.length : Int) ≤ s := by rw [Int.tdiv_eq_ediv_of_nonneg h0]; exact Int.ediv_le_self _ h0
    obtain ⟨r0, r1⟩ := rd_byte hb (Int.tmod s (l.length : Int))
    obtain ⟨t0, t1⟩ := rd_byte hb (Int.tmod (s + 1) (l.length : Int))
    rw [if_neg hl, if_pos i0, if_pos i1, if_pos j0, if_pos j1]
    generalize rd l (Int.tmod s (l.length : Int)) = r at *
    generalize rd l (Int.tmod (s + 1) (l.length : Int)) = t at *
    generalize Int.tdiv s (l.length : Int) = q at *
    have w1 : wrap64 r = r := w64 (by omega) (by omega)
    have w2 : wrap64 q = q := w64 (by omega) (by omega)
    have w3 : wrap64 (q * 37) = q * 37 := w64 (by omega) (by omega)
    have w4 : wrap64 (r + q * 37) = r + q * 37 := w64 (by omega) (by omega)
    have w5 : wrap64 ((r + q * 37) * 251) = (r + q * 37) * 251 := w64 (by omega) (by omega)
    have w6 : wrap64 t = t := w64 (by omega) (by omega)
    have w7 : wrap64 (t * 13) = t * 13 := w64 (by omega) (by omega)
    have w8 : wrap64 ((r + q * 37) * 251 + t * 13) = (r + q * 37) * 251 + t * 13 := w64 (by omega) (by omega)
    have w9 : wrap64 ((r + q * 37) * 251 + t * 13 + s) = (r + q * 37) * 251 + t * 13 + s := w64 (by omega) (by omega)
    simp only [w1, w2, w3, w4, w5, w6, w7, w8, w9]
    by_cases h200 : a > 200
    · rw [if_pos h200, if_neg (show ¬ a = 0 by omega)]
      exact ⟨_, rfl, Int.tmod_nonneg _ (by omega), Int.tmod_lt_of_pos _ (by omega)⟩
    · rw [if_neg h200, if_neg (show ¬ a = 0 by omega)]
      exact ⟨_, rfl, Int.tmod_nonneg _ (by omega), Int.tmod_lt_of_pos _ (by omega)⟩
theorem pick_some (l : List Int) (hb : isBytes l) (s : Int) (h0 : 0 ≤ s) (h1 : s ≤ 10000000) (c : List Int) (hc : 1 ≤ c.length) : ∃ i : Nat, ∃ hi : i < c.length, spec_l1Pick.f l s c = some (c[i], s + 1) := by
  obtain ⟨v, hv, v0, v1⟩ := next_some l hb s (c.length : Int) h0 h1 (by omega)
  obtain ⟨i, rfl⟩ : ∃ i : Nat, v = i := ⟨v.toNat, by omega⟩
  refine ⟨i, by omega, ?_⟩
  unfold spec_l1Pick.f
  rw [hv]
  simp only [Option.bind_some]
  rw [if_pos v0, if_pos v1, rd_lt (by omega)]

theorem in_spec (a b c : Int) : spec_l1In.f a b c = some (decide (b ≤ a ∧ a ≤ c)) := by
  unfold spec_l1In.f
  by_cases h : a ≥ b
  · rw [if_pos h]; congr 1; simp [h]
  · rw [if_neg h]; congr 1; simp; intro h'; omega
theorem in_impl : impl_in.f = spec_l1In.f := rfl

theorem spec_max (a b : Int) : spec_l1Max.f a b = some (max a b) := by
  unfold spec_l1Max.f
  split <;> congr 1 <;> omega
theorem mx_max (a b : Int) : mx a b = max a b := by unfold mx; split <;> omega

theorem pick_mem (l : List Int) (hb : isBytes l) (s : Int) (h0 : 0 ≤ s) (h1 : s ≤ 10000000) (c : List Int) (hc : 1 ≤ c.length) : ∃ v, spec_l1Pick.f l s c = some (v, s + 1) ∧ v ∈ c := by
  obtain ⟨i, hi, hp⟩ := pick_some l hb s h0 h1 c hc
  exact ⟨_, hp, List.getElem_mem hi⟩
theorem lease_draw (l : List Int) (hb : isBytes l) (s : Int) (h0 : 0 ≤ s) (h1 : s ≤ 1000) : ∃ r, spec_l13Lease.f l s = some r ∧ 0 ≤ r.2.2.2.2 ∧ r.2.2.2.2 ≤ 2000 := by
  obtain ⟨a, ha, a0, a1⟩ := next_some l hb s 2 h0 (by omega) (by omega)
  obtain ⟨b, hb', b0, b1⟩ := next_some l hb (s + 1) 5 (by omega) (by omega) (by omega)
  obtain ⟨d, hd, d0, d1⟩ := next_some l hb (s + 1 + 1) 40 (by omega) (by omega) (by omega)
  obtain ⟨f, hf, f0, f1⟩ := next_some l hb (s + 1 + 1 + 1) 9 (by omega) (by omega) (by omega)
  obtain ⟨c, hc, c0, c1⟩ := next_some l hb (s + 1 + 1 + 1 + 1) 14 (by omega) (by omega) (by omega)
  obtain ⟨p1, hp1, _⟩ := pick_mem l hb (s + 1 + 1 + 1 + 1 + 1) (by omega) (by omega) [(-1), 2] (by simp)
  obtain ⟨p2, hp2, _⟩ := pick_mem l hb (s + 1 + 1 + 1 + 1 + 1) (by omega) (by omega) [0, 1000, 1001] (by simp)
  obtain ⟨p3, hp3, _⟩ := pick_mem l hb (s + 1 + 1 + 1 + 1 + 1) (by omega) (by omega) [(-1), 1000000002, 1000000003] (by simp)
  unfold spec_l13Lease.f
  rw [ha]
  simp only [Option.bind_some]
  rw [hb']
  simp only [Option.bind_some]
  rw [hd]
  simp only [Option.bind_some]
  rw [hf]
  simp only [Option.bind_some, spec_max]
  rw [hc]
  simp only [Option.bind_some]
  by_cases k0 : c = 0
  · rw [if_pos k0, hp1]
    exact ⟨_, rfl, by show 0 ≤ s + 1 + 1 + 1 + 1 + 1 + 1; omega, by show s + 1 + 1 + 1 + 1 + 1 + 1 ≤ 2000; omega⟩
  · rw [if_neg k0]
    by_cases k1 : c = 1
    · rw [if_pos k1, hp2]
      exact ⟨_, rfl, by show 0 ≤ s + 1 + 1 + 1 + 1 + 1 + 1; omega, by show s + 1 + 1 + 1 + 1 + 1 + 1 ≤ 2000; omega⟩
    · rw [if_neg k1]
      by_cases k2 : c = 2
      · rw [if_pos k2, hp3]
        exact ⟨_, rfl, by show 0 ≤ s + 1 + 1 + 1 + 1 + 1 + 1; omega, by show s + 1 + 1 + 1 + 1 + 1 + 1 ≤ 2000; omega⟩
      · rw [if_neg k2]
        exact ⟨_, rfl, by show 0 ≤ s + 1 + 1 + 1 + 1 + 1; omega, by show s + 1 + 1 + 1 + 1 + 1 ≤ 2000; omega⟩

theorem leaseFault_same : impl_LeaseFault.f = spec_LeaseFault.f := by
  funext h e a d
  simp only [impl_LeaseFault.f, spec_LeaseFault.f, impl_isNode.f, impl_isEpoch.f, impl_isSeen.f, spec_l10Epoch.f, spec_l13Time.f, in_impl, in_spec, Option.bind_some]
/-- A lease is right. -/
def leaseOk (h e a d : Int) : Prop := (0 ≤ h ∧ h ≤ 1) ∧ (1 ≤ e ∧ e ≤ 1000) ∧ (0 ≤ a ∧ a ≤ 1000000002) ∧ (0 ≤ d ∧ d ≤ 1000000002)
instance (h e a d : Int) : Decidable (leaseOk h e a d) := by unfold leaseOk; exact inferInstance
theorem spec_lease (h e a d : Int) : spec_LeaseFault.f h e a d = some (if leaseOk h e a d then 0 else 3) := by
  unfold spec_LeaseFault.f spec_l10Epoch.f spec_l13Time.f
  simp only [in_spec, Option.bind_some, decide_eq_true_eq]
  by_cases h1 : 0 ≤ h ∧ h ≤ 1
  · by_cases h2 : 1 ≤ e ∧ e ≤ 1000
    · by_cases h3 : 0 ≤ a ∧ a ≤ 1000000002
      · by_cases h4 : 0 ≤ d ∧ d ≤ 1000000002
        · rw [if_pos h1, if_pos h2, if_pos h3, if_pos h4, if_pos (show leaseOk h e a d from ⟨h1, h2, h3, h4⟩)]
        · rw [if_pos h1, if_pos h2, if_pos h3, if_neg h4, if_neg (fun z : leaseOk h e a d => h4 z.2.2.2)]
      · rw [if_pos h1, if_pos h2, if_neg h3, if_neg (fun z : leaseOk h e a d => h3 z.2.2.1)]
    · rw [if_pos h1, if_neg h2, if_neg (fun z : leaseOk h e a d => h2 z.2.1)]
  · rw [if_neg h1, if_neg (fun z : leaseOk h e a d => h1 z.1)]

theorem mayLead_some (h e a d s : Int) : ∃ b, spec_MayLead.f h e a d s = some b ∧ impl_MayLead.f h e a d s = some b := by
  unfold spec_MayLead.f impl_MayLead.f spec_l13Time.f impl_isSeen.f
  simp only [leaseFault_same, in_impl, spec_lease, in_spec, Option.bind_some]
  by_cases hq : leaseOk h e a d
  · rw [if_pos hq, if_pos rfl]
    split <;> exact ⟨_, rfl, rfl⟩
  · rw [if_neg hq, if_neg (by omega)]
    exact ⟨_, rfl, rfl⟩

theorem mayTake_some (h e a d s : Int) : ∃ b, spec_MayTake.f h e a d s = some b ∧ impl_MayTake.f h e a d s = some b := by
  unfold spec_MayTake.f impl_MayTake.f spec_l13Take.f impl_isSeen.f spec_l13Time.f
  simp only [leaseFault_same, in_impl, spec_lease, in_spec, Option.bind_some]
  by_cases hq : leaseOk h e a d
  · rw [if_pos hq, if_pos rfl, if_pos rfl]
    split <;> exact ⟨_, rfl, rfl⟩
  · rw [if_neg hq, if_neg (by omega), if_neg (by omega)]
    exact ⟨_, rfl, rfl⟩

def goodSeen (now p : Int) : Prop := 0 ≤ p ∧ -2 ≤ p - now ∧ p - now ≤ 2
instance (now p : Int) : Decidable (goodSeen now p) := by unfold goodSeen; exact inferInstance
/-- What is not right of a clock. -/
def clockM (now : Int) (l : List Int) : Int :=
  if 0 ≤ now ∧ now ≤ 1000000000 then (if l.length = 2 then (if goodSeen now (l.getD 0 0) ∧ goodSeen now (l.getD 1 0) then 0 else 3) else 1) else 3
theorem impl_clock_round (k : Nat) (now : Int) (l : List Int) (i : Nat) (hi : i < 2) (hl : l.length = 2) (h0 : 0 ≤ now) (h1 : now ≤ 1000000000) :
    impl_ClockFault.l0 (k + 1) l (l.length : Int) (i : Int) now l = if goodSeen now (l.getD i 0) then impl_ClockFault.l0 k l (l.length : Int) ((i + 1 : Nat) : Int) now l else some 3 := by
  rw [impl_ClockFault.l0, if_pos (by omega), if_pos (by omega), if_pos (by omega), rd_nat, in_impl, in_spec, w64 (x := now - 2) (by omega) (by omega), w64 (x := now + 2) (by omega) (by omega), w64 (x := (i : Int) + 1) (by omega) (by omega)]
  simp only [Option.bind_some, decide_eq_true_eq]
  have hm : mx (now - 2) 0 = if now - 2 < 0 then 0 else now - 2 := rfl
  by_cases hg : goodSeen now (l.getD i 0)
  · rw [if_pos hg, if_pos (by unfold goodSeen at hg; rw [hm]; split <;> omega)]; simp
  · rw [if_neg hg, if_neg (by unfold goodSeen at hg; rw [hm]; split <;> omega)]
theorem impl_clock_ev (now : Int) (l : List Int) : Ev (fun k => impl_ClockFault.f k now l) (clockM now l) := by
  refine ev_from 3 (fun k => ?_)
  unfold impl_ClockFault.f clockM
  rw [in_impl, in_spec]
  simp only [Option.bind_some, decide_eq_true_eq]
  by_cases hn : 0 ≤ now ∧ now ≤ 1000000000
  · rw [if_pos hn, if_pos hn]
    by_cases hl : l.length = 2
    · rw [if_pos (by omega), if_pos hl]
      have e0 := impl_clock_round (k + 2) now l 0 (by omega) hl hn.1 hn.2
      have e1 := impl_clock_round (k + 1) now l 1 (by omega) hl hn.1 hn.2
      have e2 : impl_ClockFault.l0 (k + 1) l (l.length : Int) ((1 + 1 : Nat) : Int) now l = some 0 := by rw [impl_ClockFault.l0, if_neg (by omega)]
      rw [show k + 3 = k + 2 + 1 from rfl, show (0 : Int) = ((0 : Nat) : Int) from rfl, e0]
      rw [show ((0 + 1 : Nat) : Int) = ((1 : Nat) : Int) from rfl, show k + 2 = k + 1 + 1 from rfl, e1, e2]
      by_cases h0 : goodSeen now (l.getD 0 0)
      · by_cases h1 : goodSeen now (l.getD 1 0)
        · rw [if_pos h0, if_pos h1, if_pos ⟨h0, h1⟩]
          all_goals rfl
        · rw [if_pos h0, if_neg h1, if_neg (fun z => h1 z.2)]
      · rw [if_neg h0, if_neg (fun z => h0 z.1)]
    · rw [if_neg (by omega), if_neg hl]
  · rw [if_neg hn, if_neg hn]
def offOk (x : Int) : Prop := -2 ≤ x ∧ x ≤ 2
instance (x : Int) : Decidable (offOk x) := by unfold offOk; exact inferInstance
/-- What time going by does to a clock. -/
def tickM (now : Int) (seen : List Int) (by_ : Int) (off : List Int) : Int × Int × List Int :=
  if clockM now seen = 0 then
    (if 0 ≤ by_ ∧ by_ ≤ 1000 then
      (if now + by_ > 1000000000 then (3, 0, []) else
        (if off.length = 2 then
          (if offOk (off.getD 0 0) ∧ offOk (off.getD 1 0) then (0, now + by_, [max (seen.getD 0 0) (max 0 (now + by_ + off.getD 0 0)), max (seen.getD 1 0) (max 0 (now + by_ + off.getD 1 0))])
          else (3, 0, []))
        else (1, 0, [])))
    else (3, 0, []))
  else (clockM now seen, 0, [])
theorem clockM_zero {now : Int} {l : List Int} (h : clockM now l = 0) : (0 ≤ now ∧ now ≤ 1000000000) ∧ l.length = 2 ∧ goodSeen now (l.getD 0 0) ∧ goodSeen now (l.getD 1 0) := by
  unfold clockM at h
  split at h
  · split at h
    · split at h
      · exact ⟨by assumption, by assumption, by assumption⟩
      · omega
    · omega
  · omega
theorem tick_impl_round (k : Nat) (off : List Int) (i : Nat) (now : Int) (seen : List Int) (t : Int) (out : List Int) (hi : i < 2) (ho : off.length = 2) (hs : seen.length = 2) (ht : 0 ≤ t ∧ t ≤ 1000000000) (hl : out.length < 17592186044416) :
    impl_TickClock.l0 (k + 1) off (off.length : Int) (i : Int) now seen t out = if offOk (off.getD i 0) then impl_TickClock.l0 k off (off.length : Int) ((i + 1 : Nat) : Int) now seen t (out ++ [max (seen.getD i 0) (max 0 (t + off.getD i 0))]) else some (3, 0, []) := by
  rw [impl_TickClock.l0, if_pos (by omega), if_pos (by omega), if_pos (by omega), rd_nat, in_impl, in_spec]
  simp only [Option.bind_some, decide_eq_true_eq]
  by_cases hg : offOk (off.getD i 0)
  · have hg' := hg
    unfold offOk at hg'
    rw [if_pos hg, if_pos hg', if_pos (by omega), w64 (x := t + off.getD i 0) (by omega) (by omega), rd_nat, mx_max, mx_max, if_pos hl, w64 (by omega) (by omega)]
    have e : max (max (seen.getD i 0) (t + off.getD i 0)) 0 = max (seen.getD i 0) (max 0 (t + off.getD i 0)) := by omega
    rw [e]
    simp
  · rw [if_neg hg, if_neg (show ¬ (-2 ≤ off.getD i 0 ∧ off.getD i 0 ≤ 2) from hg)]
theorem tick_impl_ev (now : Int) (seen : List Int) (by_ : Int) (off : List Int) : Ev (fun k => impl_TickClock.f k now seen by_ off) (tickM now seen by_ off) := by
  unfold impl_TickClock.f tickM
  refine ev_bind (impl_clock_ev now seen) ?_
  by_cases hc : clockM now seen = 0
  · obtain ⟨hn, hs, hg0, hg1⟩ := clockM_zero hc
    rw [if_pos hc]
    refine ev_pos hc ?_
    simp only [in_impl, in_spec, Option.bind_some, decide_eq_true_eq]
    by_cases hb : 0 ≤ by_ ∧ by_ ≤ 1000
    · rw [if_pos hb]
      refine ev_pos hb ?_
      refine ev_from 4 (fun k => ?_)
      rw [w64 (by omega) (by omega), show k + 4 = k + 3 + 1 from rfl, impl_TickClock.j0]
      by_cases ht : now + by_ > 1000000000
      · rw [if_pos (by simpa using ht), if_pos ht]
      · rw [if_neg (by simpa using ht), if_neg ht]
        by_cases ho : off.length = 2
        · rw [if_pos (by omega), if_pos ho, w64 (by omega) (by omega)]
          have e0 := tick_impl_round (k + 2) off 0 now seen (now + by_) [] (by omega) ho hs (by omega) (by simp)
          rw [show (0 : Int) = ((0 : Nat) : Int) from rfl, show k + 3 = k + 2 + 1 from rfl, e0]
          by_cases h0 : offOk (off.getD 0 0)
          · rw [if_pos h0]
            have e1 := tick_impl_round (k + 1) off 1 now seen (now + by_) ([] ++ [max (seen.getD 0 0) (max 0 (now + by_ + off.getD 0 0))]) (by omega) ho hs (by omega) (by simp)
            rw [show ((0 + 1 : Nat) : Int) = ((1 : Nat) : Int) from rfl, show k + 2 = k + 1 + 1 from rfl, e1]
            by_cases h1 : offOk (off.getD 1 0)
            · rw [if_pos h1, if_pos ⟨h0, h1⟩, impl_TickClock.l0, if_neg (by omega)]
              simp
            · rw [if_neg h1, if_neg (fun z => h1 z.2)]; rfl
          · rw [if_neg h0, if_neg (fun z => h0 z.1)]; rfl
        · rw [if_neg (by omega), if_neg ho]
    · rw [if_neg hb]
      refine ev_neg hb (ev_from 1 (fun k => ?_))
      rw [impl_TickClock.j0, if_pos rfl]
  · rw [if_neg hc]
    exact ev_neg hc (Ev.now _)

theorem lwAt_some (l : List Int) (hb : isBytes l) (i n : Int) (h0 : 0 ≤ i) (h1 : i ≤ 1000) (hn : 2 ≤ n) (hn2 : n ≤ 200) : ∃ v, laws_lwAt.f l i n = some v ∧ 0 ≤ v ∧ v < n := by
  unfold laws_lwAt.f
  rw [if_neg (show ¬ n ≤ 1 by omega)]
  by_cases hl : (l.length : Int) = 0
  · rw [if_pos hl, if_neg (show ¬ n = 0 by omega), w64 (x := i * 7) (by omega) (by omega)]
    exact ⟨_, rfl, Int.tmod_nonneg n (by omega), Int.tmod_lt_of_pos _ (by omega)⟩
  · have hlp : (0 : Int) < (l.length : Int) := by omega
    have i0 : 0 ≤ Int.tmod i (l.length : Int) := Int.tmod_nonneg _ h0
    have i1 : Int.tmod i (l.length : Int) < (l.length : Int) := Int.tmod_lt_of_pos _ hlp
    have q0 : 0 ≤ Int.tdiv i (l.length : Int) := Int.tdiv_nonneg h0 (by omega)
    have q1 : Int.tdiv i (l.length : Int) ≤ i := by rw [Int.tdiv_eq_ediv_of_nonneg h0]; exact Int.ediv_le_self _ h0
    obtain ⟨r0, r1⟩ := rd_byte hb (Int.tmod i (l.length : Int))
    rw [if_neg hl, if_pos i0, if_pos i1, if_neg (show ¬ n > 200 by omega), if_neg (show ¬ n = 0 by omega)]
    generalize rd l (Int.tmod i (l.length : Int)) = r at *
    generalize Int.tdiv i (l.length : Int) = q at *
    have w1 : wrap64 r = r := w64 (by omega) (by omega)
    have w2 : wrap64 q = q := w64 (by omega) (by omega)
    have w3 : wrap64 (q * 3) = q * 3 := w64 (by omega) (by omega)
    have w4 : wrap64 (r + q * 3) = r + q * 3 := w64 (by omega) (by omega)
    simp only [w1, w2, w3, w4]
    exact ⟨_, rfl, Int.tmod_nonneg _ (by omega), Int.tmod_lt_of_pos _ (by omega)⟩
theorem lead_val {h e a d s : Int} (hq : leaseOk h e a d) (hs : 0 ≤ s ∧ s ≤ 1000000002) : impl_MayLead.f h e a d s = some (decide (s < a + 6)) := by
  have hq2 := hq
  unfold leaseOk at hq2
  unfold impl_MayLead.f impl_isSeen.f
  simp only [leaseFault_same, in_impl, spec_lease, in_spec, Option.bind_some, decide_eq_true_eq]
  rw [if_pos hq, if_pos rfl, if_pos hs, w64 (x := a + 10) (by omega) (by omega), w64 (by omega) (by omega), show a + 10 - 4 = a + 6 by omega]
theorem take_val {h e a d s : Int} (hq : leaseOk h e a d) (hs : 0 ≤ s ∧ s ≤ 1000000002) : impl_MayTake.f h e a d s = some (decide (s ≥ d + 14)) := by
  have hq2 := hq
  unfold leaseOk at hq2
  unfold impl_MayTake.f impl_isSeen.f
  simp only [leaseFault_same, in_impl, spec_lease, in_spec, Option.bind_some, decide_eq_true_eq]
  rw [if_pos hq, if_pos rfl, if_pos hs, w64 (x := d + 10) (by omega) (by omega), w64 (by omega) (by omega), show d + 10 + 4 = d + 14 by omega]
theorem fault_val {h e a d : Int} (hq : leaseOk h e a d) : impl_LeaseFault.f h e a d = some 0 := by rw [leaseFault_same, spec_lease, if_pos hq]
theorem takeL_val {h e a d s : Int} (hq : leaseOk h e a d) (hs : 0 ≤ s ∧ s ≤ 1000000002) (he : e < 1000) : impl_TakeLease.f h e a d s = some (if s ≥ d + 14 then (0, 1 - h, e + 1, s, s) else (8, 0, 0, 0, 0)) := by
  have hq2 := hq
  unfold leaseOk at hq2
  unfold impl_TakeLease.f
  rw [fault_val hq, take_val hq hs]
  simp only [Option.bind_some, decide_eq_true_eq]
  rw [if_pos trivial, if_neg (show ¬ e = 1000 by omega), w64 (by omega) (by omega), w64 (by omega) (by omega)]
  split <;> rfl
def grantM (h e a d x y : Int) : Int × Int × Int × Int × Int := if x < a then (9, 0, 0, 0, 0) else (if y < d then (9, 0, 0, 0, 0) else (0, h, e, x, y))
theorem grant_val {h e a d x y : Int} (hq : leaseOk h e a d) (hx : 0 ≤ x ∧ x ≤ 1000000002) (hy : 0 ≤ y ∧ y ≤ 1000000002) : Ev (fun k => impl_GrantLease.f k h e a d x y) (grantM h e a d x y) := by
  refine ev_from 1 (fun k => ?_)
  unfold impl_GrantLease.f impl_isSeen.f grantM
  rw [fault_val hq]
  simp only [in_impl, in_spec, Option.bind_some, decide_eq_true_eq]
  rw [if_pos trivial, if_pos hx, impl_GrantLease.j0, if_neg (by simp [hy])]
  split
  · rfl
  · split <;> rfl
theorem end_draw (l : List Int) (hb : isBytes l) : ∃ r, spec_DrawMayTake.f l = some r := by
  obtain ⟨r, hr, r0, r1⟩ := lease_draw l hb 0 (by omega) (by omega)
  obtain ⟨v, hv, _, _⟩ := next_some l hb r.2.2.2.2 9 (by omega) (by omega) (by omega)
  obtain ⟨u, hu, _, _⟩ := next_some l hb (r.2.2.2.2 + 1) 9 (by omega) (by omega) (by omega)
  obtain ⟨z, hz, _⟩ := pick_mem l hb (r.2.2.2.2 + 1 + 1) (by omega) (by omega) [wrap64 (r.2.2.1 + v), wrap64 ((wrap64 (r.2.2.2.1 + 10)) + u), wrap64 (r.2.2.2.1 + 14), wrap64 (r.2.2.1 + 6), wrap64 (r.2.2.1 + 5), (-1)] (by simp)
  refine ⟨(r.1, r.2.1, r.2.2.1, r.2.2.2.1, z), ?_⟩
  unfold spec_DrawMayTake.f spec_l13With.f spec_l1Source.f
  simp only [Option.bind_some]
  rw [hr]
  simp only [Option.bind_some]
  rw [hv]
  simp only [Option.bind_some]
  rw [hu]
  simp only [Option.bind_some]
  rw [hz]
  rfl
theorem leases_end (l : List Int) (hb : isBytes l) (now : Int) (seen : List Int) (h e a d : Int) : Ev (fun k => laws_FnLeases.l0 k l 40 now seen h e a d) true := by
  obtain ⟨r, hr⟩ := end_draw l hb
  obtain ⟨b, hb1, hb2⟩ := mayTake_some r.1 r.2.1 r.2.2.1 r.2.2.2.1 r.2.2.2.2
  obtain ⟨c, hc1, hc2⟩ := mayLead_some r.1 r.2.1 r.2.2.1 r.2.2.2.1 r.2.2.2.2
  refine Ev.step (f := fun _ => some true) (fun k => ?_) (Ev.now _)
  rw [laws_FnLeases.l0, if_neg (by omega), hr]
  simp only [Option.bind_some]
  rw [hb1, hb2]
  simp only [Option.bind_some, beq_self_eq_true, if_true]
  rw [hc1, hc2]
  simp
def leaseInv (i now s0 s1 h e a d : Int) : Prop := (0 ≤ now ∧ now ≤ 5 * i) ∧ goodSeen now s0 ∧ goodSeen now s1 ∧ (h = 0 ∨ h = 1) ∧ (1 ≤ e ∧ e ≤ 1 + i) ∧ (0 ≤ a ∧ a ≤ now + 2) ∧ (0 ≤ d ∧ d ≤ now + 2) ∧ a - 4 ≤ d
set_option maxHeartbeats 2000000 in
theorem leases_loop (l : List Int) (hb : isBytes l) : ∀ (n i : Nat), i + n = 40 → ∀ now s0 s1 h e a d : Int, leaseInv (i : Int) now s0 s1 h e a d → Ev (fun k => laws_FnLeases.l0 k l (i : Int) now [s0, s1] h e a d) true
  | 0, i, hn, now, s0, s1, h, e, a, d, hv => by
    have e40 : (i : Int) = 40 := by omega
    rw [e40]
    exact leases_end l hb now [s0, s1] h e a d
  | n + 1, i, hn, now, s0, s1, h, e, a, d, hv => by
    have ih := leases_loop l hb n (i + 1) (by omega)
    obtain ⟨⟨v0, v1⟩, g0, g1, hh, ⟨e0, e1⟩, ⟨a0, a1⟩, ⟨d0, d1⟩, had⟩ := hv
    have gg0 := g0
    have gg1 := g1
    unfold goodSeen at gg0 gg1
    have wi : ∀ c : Int, 0 ≤ c → c ≤ 200 → wrap64 ((i : Int) + c) = (i : Int) + c := fun c h0 h1 => w64 (by omega) (by omega)
    obtain ⟨by_, hby, by0, by1⟩ := lwAt_some l hb (i : Int) 6 (by omega) (by omega) (by omega) (by omega)
    obtain ⟨p, hp, p0, p1⟩ := lwAt_some l hb ((i : Int) + 40) 5 (by omega) (by omega) (by omega) (by omega)
    obtain ⟨q, hq, q0, q1⟩ := lwAt_some l hb ((i : Int) + 80) 5 (by omega) (by omega) (by omega) (by omega)
    obtain ⟨c, hc, c0, c1⟩ := lwAt_some l hb ((i : Int) + 120) 4 (by omega) (by omega) (by omega) (by omega)
    have hT := tick_impl_ev now [s0, s1] by_ [p - 2, q - 2]
    obtain ⟨t0, ht0⟩ : ∃ t, t = max s0 (max 0 (now + by_ + (p - 2))) := ⟨_, rfl⟩
    obtain ⟨t1, ht1⟩ : ∃ t, t = max s1 (max 0 (now + by_ + (q - 2))) := ⟨_, rfl⟩
    have eT : tickM now [s0, s1] by_ [p - 2, q - 2] = (0, now + by_, [t0, t1]) := by
      unfold tickM clockM
      simp only [List.length_cons, List.length_nil, List.getD_cons_zero, List.getD_cons_succ]
      rw [if_pos (show 0 ≤ now ∧ now ≤ 1000000000 by omega), if_pos trivial, if_pos (show goodSeen now s0 ∧ goodSeen now s1 from ⟨g0, g1⟩), if_pos rfl, if_pos (show 0 ≤ by_ ∧ by_ ≤ 1000 by omega), if_neg (show ¬ now + by_ > 1000000000 by omega), if_pos trivial, if_pos (show offOk (p - 2) ∧ offOk (q - 2) by unfold offOk; omega), ← ht0, ← ht1]
    rw [eT] at hT
    have G0 : goodSeen (now + by_) t0 := by unfold goodSeen; omega
    have G1 : goodSeen (now + by_) t1 := by unfold goodSeen; omega
    have hC := impl_clock_ev (now + by_) [t0, t1]
    have eC : clockM (now + by_) [t0, t1] = 0 := by
      unfold clockM
      simp only [List.length_cons, List.length_nil, List.getD_cons_zero, List.getD_cons_succ]
      rw [if_pos (show 0 ≤ now + by_ ∧ now + by_ ≤ 1000000000 by omega), if_pos trivial, if_pos (show goodSeen (now + by_) t0 ∧ goodSeen (now + by_) t1 from ⟨G0, G1⟩)]
    rw [eC] at hC
    unfold goodSeen at G0 G1
    have hL : leaseOk h e a d := by unfold leaseOk; omega
    obtain ⟨th, hth⟩ : ∃ t, t = rd [t0, t1] h := ⟨_, rfl⟩
    obtain ⟨tg, htg⟩ : ∃ t, t = rd [t0, t1] (1 - h) := ⟨_, rfl⟩
    obtain ⟨sh, hsh⟩ : ∃ t, t = rd [s0, s1] h := ⟨_, rfl⟩
    have cases_ : (h = 0 ∧ th = t0 ∧ tg = t1 ∧ sh = s0) ∨ (h = 1 ∧ th = t1 ∧ tg = t0 ∧ sh = s1) := by
      rcases hh with rfl | rfl
      · exact Or.inl ⟨rfl, hth, htg, hsh⟩
      · exact Or.inr ⟨rfl, hth, htg, hsh⟩
    have B : (0 ≤ th ∧ th ≤ now + by_ + 2 ∧ now + by_ - 2 ≤ th) ∧ (0 ≤ tg ∧ tg ≤ now + by_ + 2 ∧ now + by_ - 2 ≤ tg) ∧ (0 ≤ sh ∧ sh ≤ now + 2) ∧ sh - 4 ≤ tg := by omega
    have w1h : wrap64 (1 - h) = 1 - h := w64 (by omega) (by omega)
    -- what the loop does on, with a lease that holds
    have on : ∀ h' e' a' d' : Int, (h' = 0 ∨ h' = 1) → 1 ≤ e' → e' ≤ e + 1 → 0 ≤ a' → a' ≤ now + by_ + 2 → 0 ≤ d' → d' ≤ now + by_ + 2 → a' - 4 ≤ d' → Ev (fun k => laws_FnLeases.l0 k l (wrap64 ((i : Int) + 1)) (now + by_) [t0, t1] h' e' a' d') true := by
      intro h' e' a' d' z1 z2 z3 z4 z5 z6 z7 z8
      rw [wi 1 (by omega) (by omega)]
      exact ih (now + by_) t0 t1 h' e' a' d' ⟨by omega, by unfold goodSeen; omega, by unfold goodSeen; omega, z1, by omega, by omega, by omega, z8⟩
    have same : Ev (fun k => laws_FnLeases.l0 k l (wrap64 ((i : Int) + 1)) (now + by_) [t0, t1] h e a d) true := on h e a d hh e0 (by omega) a0 (by omega) d0 (by omega) had
    have j3 : Ev (fun k => laws_FnLeases.j3 k l (i : Int) sh h false (now + by_) [t0, t1] h e a d) true := by
      refine Ev.step (fun k => by rw [laws_FnLeases.j3, if_neg (by simp)]) ?_
      rw [wi 120 (by omega) (by omega)]
      refine ev_val hc ?_
      by_cases c0' : c = 0
      · refine ev_pos c0' ?_
        rw [w1h]
        refine ev_pos (by omega) (ev_pos (show 1 - h < (([t0, t1] : List Int).length : Int) by simp; omega) ?_)
        rw [← htg]
        refine ev_bind (grant_val hL (by omega) (by omega)) ?_
        unfold grantM
        by_cases x1 : sh < a
        · rw [if_pos x1]
          exact ev_neg (by decide) (ev_val (fault_val hL) (ev_pos rfl same))
        · rw [if_neg x1]
          by_cases x2 : tg < d
          · rw [if_pos x2]
            exact ev_neg (by decide) (ev_val (fault_val hL) (ev_pos rfl same))
          · rw [if_neg x2]
            exact ev_pos rfl (ev_val (fault_val (show leaseOk h e sh tg by unfold leaseOk; omega)) (ev_pos rfl (on h e sh tg hh e0 (by omega) (by omega) (by omega) (by omega) (by omega) (by omega))))
      · refine ev_neg c0' ?_
        by_cases c1' : c = 1
        · refine ev_pos c1' ?_
          rw [w1h]
          refine ev_pos (by omega) (ev_pos (show 1 - h < (([t0, t1] : List Int).length : Int) by simp; omega) ?_)
          rw [← htg]
          refine ev_val (takeL_val hL (by omega) (by omega)) (ev_val (take_val hL (by omega)) ?_)
          by_cases x1 : tg ≥ d + 14
          · rw [if_pos x1]
            refine ev_neg (by simp [x1]) (ev_pos rfl (ev_pos rfl (ev_pos (by rw [w64 (by omega) (by omega)]) (ev_pos (by omega) (ev_pos (show h < (([t0, t1] : List Int).length : Int) by simp; omega) ?_)))))
            rw [← hth]
            refine ev_val (lead_val hL (by omega)) ?_
            refine Ev.step (fun k => by rw [laws_FnLeases.j4, if_neg (by simp; omega)]) ?_
            exact ev_pos rfl (ev_val (fault_val (show leaseOk (1 - h) (e + 1) tg tg by unfold leaseOk; omega)) (ev_pos rfl (on (1 - h) (e + 1) tg tg (by omega) (by omega) (by omega) (by omega) (by omega) (by omega) (by omega) (by omega))))
          · rw [if_neg x1]
            refine ev_neg (by simp [x1]) (ev_neg (by decide) ?_)
            refine Ev.step (fun k => by rw [laws_FnLeases.j4, if_neg (by simp)]) ?_
            exact ev_neg (by decide) (ev_val (fault_val hL) (ev_pos rfl same))
        · exact ev_neg c1' (ev_val (fault_val hL) (ev_pos rfl same))
    refine Ev.step (fun k => by rw [laws_FnLeases.l0, if_pos (show (i : Int) < 40 by omega)]) ?_
    rw [wi 40 (by omega) (by omega), wi 80 (by omega) (by omega)]
    refine ev_val hby (ev_val hp (ev_val hq ?_))
    rw [w64 (x := p - 2) (by omega) (by omega), w64 (x := q - 2) (by omega) (by omega)]
    refine ev_bind hT (ev_pos rfl (ev_bind hC (ev_pos rfl (ev_pos rfl (ev_pos (by omega) (ev_pos (show h < (([s0, s1] : List Int).length : Int) by simp; omega) (ev_pos (show h < (([t0, t1] : List Int).length : Int) by simp; omega) ?_)))))))
    rw [← hth, ← hsh, w1h]
    refine ev_val (lead_val hL (by omega)) ?_
    by_cases y1 : th < a + 6
    · refine ev_pos (by simp [y1]) (ev_pos (by omega) (ev_pos (show 1 - h < (([t0, t1] : List Int).length : Int) by simp; omega) ?_))
      rw [← htg]
      refine ev_val (take_val hL (by omega)) ?_
      have y2 : decide (tg ≥ d + 14) = false := decide_eq_false (by omega)
      rw [y2]
      exact j3
    · exact ev_neg (by simp; omega) j3
theorem FnLeases : ∀ (a0 : List Int), (a0.length ≤ 9223372036854775807 ∧ ∀ x ∈ a0, (Lit.int .u8 x).wf = true) → ∃ k, laws_FnLeases.f k a0 = some true := by
  intro l ⟨_, hall⟩
  have hb : isBytes l := fun x hx => bounds_u8 (hall x hx)
  by_cases hbig : (l.length : Int) > 1048576
  · refine ⟨0, ?_⟩
    unfold laws_FnLeases.f laws_lwBig.f
    simp only [Option.bind_some, hbig, decide_true]
    rfl
  · refine Ev.rounds ?_
    unfold laws_FnLeases.f laws_lwBig.f
    refine ev_val rfl (ev_neg (by simpa using hbig) ?_)
    exact leases_loop l hb 40 0 rfl 0 0 0 0 1 0 0 ⟨by omega, by unfold goodSeen; omega, by unfold goodSeen; omega, Or.inl rfl, by omega, by omega, by omega, by omega⟩

end Go.Proofs.Ytgfoifkkffffgab.Pure
