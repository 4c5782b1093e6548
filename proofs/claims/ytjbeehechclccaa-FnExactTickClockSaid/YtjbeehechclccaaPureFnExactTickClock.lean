/- FnExactTickClock: what the printed functions compute answers as the statement says: for every input the law is true. No condition beside the arguments being of their kinds. -/
import Derived.Test.YtjbeehechclccaaPFnExactTickClockx5
import Derived.OpenShut
namespace Go.Proofs.Ytjbeehechclccaa.Pure
open Go.RowKit Go.Proofs.YtjbeehechclccaaW.PrintWords Go.Proofs.YtjbeehechclccaaW.PrintLast Go.Proofs.YtjbeehechclccaaW.PrintMore Go.Proofs.Ytjbeehechclccaa.PFnExactTickClock
set_option linter.unusedVariables false
set_option linter.unusedSimpArgs false

/-! ### plain words -/
theorem w64 {x : Int} (h0 : -9223372036854775808 ≤ x) (h1 : x ≤ 9223372036854775807) : wrap64 x = x := by unfold wrap64; omega
theorem ev_some {α : Type} {g : Nat → Option α} {r : α} (h : ∀ k, g k = some r) : Ev g r := ⟨0, fun k _ => h k⟩
theorem ev_bind {α β : Type} {g : Nat → Option α} {f : Nat → α → Option β} {a : α} {r : β} (h : Ev g a) (k : Ev (fun n => f n a) r) : Ev (fun n => (g n).bind (f n)) r := Ev.bind h k
theorem ev_val {α β : Type} {o : Option α} {a : α} (h : o = some a) {f : Nat → α → Option β} {r : β} (k : Ev (fun n => f n a) r) : Ev (fun n => o.bind (f n)) r := by
  subst h
  exact k
theorem ev_pos {α : Type} {c : Prop} [Decidable c] {a b : Nat → Option α} {r : α} (hc : c) (h : Ev a r) : Ev (fun k => if c then a k else b k) r := Ev.congr (fun _ => if_pos hc) h
theorem ev_neg {α : Type} {c : Prop} [Decidable c] {a b : Nat → Option α} {r : α} (hc : ¬ c) (h : Ev b r) : Ev (fun k => if c then a k else b k) r := Ev.congr (fun _ => if_neg hc) h
theorem ev_eq {α : Type} {g : Nat → Option α} {r r' : α} (h : Ev g r) (e : r = r') : Ev g r' := e ▸ h
theorem ev_uniq {α : Type} {g : Nat → Option α} {r r' : α} (h : Ev g r) (h' : Ev g r') : r = r' := by
  obtain ⟨K, hK⟩ := h
  obtain ⟨K', hK'⟩ := h'
  have h1 := hK (max K K') (Nat.le_max_left _ _)
  have h2 := hK' (max K K') (Nat.le_max_right _ _)
  exact Option.some.inj (h1.symm.trans h2)
/-- So many rounds are enough. -/
theorem ev_from {α : Type} {g : Nat → Option α} {r : α} (n : Nat) (h : ∀ k, g (k + n) = some r) : Ev g r :=
  ⟨n, fun k hk => by have := h (k - n); rwa [Nat.sub_add_cancel hk] at this⟩
theorem rd_nat (xs : List Int) (i : Nat) : rd xs (i : Int) = xs.getD i 0 := by simp [rd]
theorem rd_lt {xs : List Int} {i : Nat} (h : i < xs.length) : rd xs (i : Int) = xs[i] := by
  rw [rd_nat, List.getD_eq_getElem?_getD, List.getElem?_eq_getElem h]; rfl
theorem set_take {xs out : List Int} {i : Nat} (hi : i < xs.length) (hl : out.length = xs.length) (ht : out.take i = xs.take i) : (out.set i xs[i]).take (i + 1) = xs.take (i + 1) := by
  rw [List.take_succ_eq_append_getElem (by simp; omega), List.take_succ_eq_append_getElem hi]
  rw [List.take_set_of_le (Nat.le_refl i), ht]
  simp
/-- A copy, number by number. -/
theorem copy_loop (l : Nat → List Int → List Int → Int → Option (List Int))
    (h : ∀ k xs out i, l (k + 1) xs out i = if i < (xs.length : Int) then (if 0 ≤ i then (if i < (out.length : Int) then l k xs (out.set (i : Int).toNat (rd xs i)) (wrap64 (i + 1)) else none) else none) else some out)
    (xs : List Int) (hx : xs.length ≤ 4611686018427387904) : ∀ (d i : Nat) (out : List Int), i + d = xs.length → out.length = xs.length → out.take i = xs.take i → Ev (fun k => l k xs out (i : Int)) xs
  | 0, i, out, hd, hl, ht => by
    refine Ev.step (f := fun _ => some xs) (fun k => ?_) (Ev.now _)
    rw [h, if_neg (by omega)]
    congr 1
    rw [List.take_of_length_le (by omega), List.take_of_length_le (by omega)] at ht
    exact ht
  | d + 1, i, out, hd, hl, ht => by
    have hi : i < xs.length := by omega
    refine Ev.step (f := fun k => l k xs (out.set i xs[i]) ((i + 1 : Nat) : Int)) (fun k => ?_) (copy_loop l h xs hx d (i + 1) _ (by omega) (by simpa using hl) (set_take hi hl ht))
    rw [h, if_pos (by omega), if_pos (by omega), if_pos (by omega), w64 (by omega) (by omega), rd_lt hi]
    simp
/-- Two equal lists, number by number. -/
theorem same_loop (l : Nat → List Int → List Int → Int → Option Bool)
    (h : ∀ k xs ys i, l (k + 1) xs ys i = if i < (xs.length : Int) then (if 0 ≤ i then (if i < (ys.length : Int) then (if rd xs i = rd ys i then l k xs ys (wrap64 (i + 1)) else some false) else none) else none) else some true)
    (xs : List Int) (hx : xs.length ≤ 4611686018427387904) : ∀ (d i : Nat), i + d = xs.length → Ev (fun k => l k xs xs (i : Int)) true
  | 0, i, hd => by
    refine Ev.step (f := fun _ => some true) (fun k => ?_) (Ev.now _)
    rw [h, if_neg (by omega)]
  | d + 1, i, hd => by
    refine Ev.step (f := fun k => l k xs xs ((i + 1 : Nat) : Int)) (fun k => ?_) (same_loop l h xs hx d (i + 1) (by omega))
    rw [h, if_pos (by omega), if_pos (by omega), if_pos (by omega), if_pos rfl, w64 (by omega) (by omega)]
    simp

theorem toInt64S_ev (xs : List Int) (hx : xs.length ≤ 1048576) : Ev (fun k => laws_toInt64S.f k xs) xs := by
  refine Ev.congr (f := fun k => laws_toInt64S.l0 k xs (List.replicate xs.length 0) 0) (fun k => ?_) ?_
  · unfold laws_toInt64S.f
    rw [if_pos (by omega), if_pos (by omega)]
    simp
  · exact copy_loop _ (fun _ _ _ _ => rfl) xs (by omega) xs.length 0 _ (by omega) (by simp) rfl
theorem eqInt64S_ev (xs : List Int) (hx : xs.length ≤ 1048576) : Ev (fun k => laws_eqInt64S.f k xs xs) true := by
  refine Ev.congr (f := fun k => laws_eqInt64S.l0 k xs xs 0) (fun k => ?_) (same_loop _ (fun _ _ _ _ => rfl) xs (by omega) xs.length 0 (by omega))
  unfold laws_eqInt64S.f
  rw [if_pos rfl]

/-- What marks leave: from m on, one more each. -/
def marked (f : Int → Int) (m : Int) (n : Nat) : List Int := (List.range n).map (fun j : Nat => f (m + (j : Int)))
theorem marked_length (f : Int → Int) (m : Int) (n : Nat) : (marked f m n).length = n := by simp [marked]
theorem marked_get {f : Int → Int} {m : Int} {n i : Nat} (h : i < (marked f m n).length) : (marked f m n)[i] = f (m + (i : Int)) := by simp [marked]
theorem mark_loop (f : Int → Int) (l : Nat → List Int → Int → Int → Option (Int × List Int))
    (h : ∀ k xs m i, l (k + 1) xs m i = if i < (xs.length : Int) then (if 0 ≤ i then (l k (xs.set (i : Int).toNat (f m)) (wrap64 (m + 1)) (wrap64 (i + 1))) else none) else some (m, xs))
    (n : Nat) (hn : n ≤ 2305843009213693952) (m0 : Int) (h0 : 0 ≤ m0) (h1 : m0 ≤ 2305843009213693952) :
    ∀ (d i : Nat) (xs : List Int), i + d = n → xs.length = n → xs.take i = (marked f m0 n).take i → Ev (fun k => l k xs (m0 + (i : Int)) (i : Int)) (m0 + (n : Int), marked f m0 n)
  | 0, i, xs, hd, hl, ht => by
    refine Ev.step (f := fun _ => some (m0 + (n : Int), marked f m0 n)) (fun k => ?_) (Ev.now _)
    rw [h, if_neg (by omega)]
    have hm := marked_length f m0 n
    rw [List.take_of_length_le (by omega), List.take_of_length_le (by omega)] at ht
    rw [ht, show i = n by omega]
  | d + 1, i, xs, hd, hl, ht => by
    have hm := marked_length f m0 n
    have hi : i < (marked f m0 n).length := by omega
    refine Ev.step (f := fun k => l k (xs.set i (marked f m0 n)[i]) (m0 + ((i + 1 : Nat) : Int)) ((i + 1 : Nat) : Int)) (fun k => ?_)
      (mark_loop f l h n hn m0 h0 h1 d (i + 1) _ (by omega) (by simpa using hl) (set_take hi (by omega) ht))
    rw [h, if_pos (by omega), if_pos (by omega), w64 (by omega) (by omega), w64 (by omega) (by omega), marked_get hi]
    simp [Int.add_assoc]
theorem held_loop (f : Int → Int) (l : Nat → List Int → Int → Int → Option Int)
    (h : ∀ k xs m i, l (k + 1) xs m i = if i < (xs.length : Int) then (if 0 ≤ i then (if rd xs i = f m then (l k xs (wrap64 (m + 1)) (wrap64 (i + 1))) else some (-1)) else none) else some m)
    (n : Nat) (hn : n ≤ 2305843009213693952) (m0 : Int) (h0 : 0 ≤ m0) (h1 : m0 ≤ 2305843009213693952) :
    ∀ (d i : Nat), i + d = n → Ev (fun k => l k (marked f m0 n) (m0 + (i : Int)) (i : Int)) (m0 + (n : Int))
  | 0, i, hd => by
    refine Ev.step (f := fun _ => some (m0 + (n : Int))) (fun k => ?_) (Ev.now _)
    have hm := marked_length f m0 n
    rw [h, if_neg (by omega), show i = n by omega]
  | d + 1, i, hd => by
    have hm := marked_length f m0 n
    have hi : i < (marked f m0 n).length := by omega
    refine Ev.step (f := fun k => l k (marked f m0 n) (m0 + ((i + 1 : Nat) : Int)) ((i + 1 : Nat) : Int)) (fun k => ?_) (held_loop f l h n hn m0 h0 h1 d (i + 1) (by omega))
    rw [h, if_pos (by omega), if_pos (by omega), rd_lt hi, marked_get hi, if_pos rfl, w64 (by omega) (by omega), w64 (by omega) (by omega)]
    simp [Int.add_assoc]

theorem markInt64S_ev (xs : List Int) (hx : xs.length ≤ 1048576) (m : Int) (h0 : 0 ≤ m) (h1 : m ≤ 1152921504606846976) : Ev (fun k => laws_markInt64S.f k xs m) (m + (xs.length : Int), marked id m xs.length) := by
  have := mark_loop id laws_markInt64S.l0 (fun _ _ _ _ => rfl) xs.length (by omega) m h0 (by omega) xs.length 0 xs (by omega) rfl rfl
  unfold laws_markInt64S.f
  simpa using this
theorem heldInt64S_ev (n : Nat) (hx : n ≤ 1048576) (m : Int) (h0 : 0 ≤ m) (h1 : m ≤ 1152921504606846976) : Ev (fun k => laws_heldInt64S.f k (marked id m n) m) (m + (n : Int)) := by
  have := held_loop id laws_heldInt64S.l0 (fun _ _ _ _ => rfl) n (by omega) m h0 (by omega) n 0 (by omega)
  unfold laws_heldInt64S.f
  simpa using this

theorem in_spec (a b c : Int) : spec_l1In.f a b c = some (decide (b ≤ a ∧ a ≤ c)) := by
  unfold spec_l1In.f
  by_cases h : a ≥ b
  · rw [if_pos h]; congr 1; simp [h]
  · rw [if_neg h]; congr 1; simp; intro h'; omega
theorem in_impl : impl_in.f = spec_l1In.f := rfl

def goodSeen (now p : Int) : Prop := 0 ≤ p ∧ -2 ≤ p - now ∧ p - now ≤ 2
instance (now p : Int) : Decidable (goodSeen now p) := by unfold goodSeen; exact inferInstance
/-- What is not right of a clock. -/
def clockM (now : Int) (l : List Int) : Int :=
  if 0 ≤ now ∧ now ≤ 1000000000 then (if l.length = 2 then (if goodSeen now (l.getD 0 0) ∧ goodSeen now (l.getD 1 0) then 0 else 3) else 1) else 3
theorem spec_clock_round (k : Nat) (now : Int) (l : List Int) (i : Nat) (hi : i < 2) (hl : l.length = 2) (h0 : 0 ≤ now) (h1 : now ≤ 1000000000) (hr : l.getD i 0 ≤ 9223372036854775807) :
    spec_ClockFault.l0 (k + 1) (i : Int) now l = if goodSeen now (l.getD i 0) then spec_ClockFault.l0 k ((i + 1 : Nat) : Int) now l else some 3 := by
  rw [spec_ClockFault.l0, if_pos (by omega), if_pos (by omega), if_pos (by omega), rd_nat]
  by_cases hn : l.getD i 0 < 0
  · rw [if_pos hn, if_neg (by unfold goodSeen; omega)]
  · rw [if_neg hn, in_spec, w64 (by omega) (by omega), w64 (by omega) (by omega)]
    simp only [Option.bind_some, decide_eq_true_eq]
    by_cases hg : goodSeen now (l.getD i 0)
    · rw [if_pos hg, if_pos (by unfold goodSeen at hg; omega)]; simp
    · rw [if_neg hg, if_neg (by unfold goodSeen at hg; omega)]
theorem impl_clock_round (k : Nat) (now : Int) (l : List Int) (i : Nat) (hi : i < 2) (hl : l.length = 2) (h0 : 0 ≤ now) (h1 : now ≤ 1000000000) :
    impl_ClockFault.l0 (k + 1) l (l.length : Int) (i : Int) now l = if goodSeen now (l.getD i 0) then impl_ClockFault.l0 k l (l.length : Int) ((i + 1 : Nat) : Int) now l else some 3 := by
  rw [impl_ClockFault.l0, if_pos (by omega), if_pos (by omega), if_pos (by omega), rd_nat, in_impl, in_spec, w64 (x := now - 2) (by omega) (by omega), w64 (x := now + 2) (by omega) (by omega), w64 (x := (i : Int) + 1) (by omega) (by omega)]
  simp only [Option.bind_some, decide_eq_true_eq]
  have hm : mx (now - 2) 0 = if now - 2 < 0 then 0 else now - 2 := rfl
  by_cases hg : goodSeen now (l.getD i 0)
  · rw [if_pos hg, if_pos (by unfold goodSeen at hg; rw [hm]; split <;> omega)]; simp
  · rw [if_neg hg, if_neg (by unfold goodSeen at hg; rw [hm]; split <;> omega)]
theorem spec_clock_ev (now : Int) (l : List Int) (hr : ∀ x ∈ l, x ≤ 9223372036854775807) : Ev (fun k => spec_ClockFault.f k now l) (clockM now l) := by
  refine ev_from 3 (fun k => ?_)
  unfold spec_ClockFault.f clockM
  rw [in_spec]
  simp only [Option.bind_some, decide_eq_true_eq]
  by_cases hn : 0 ≤ now ∧ now ≤ 1000000000
  · rw [if_pos hn, if_pos hn]
    by_cases hl : l.length = 2
    · rw [if_pos (by omega), if_pos hl]
      have g0 : l.getD 0 0 ≤ 9223372036854775807 := by
        rw [List.getD_eq_getElem?_getD, List.getElem?_eq_getElem (by omega)]; exact hr _ (List.getElem_mem _)
      have g1 : l.getD 1 0 ≤ 9223372036854775807 := by
        rw [List.getD_eq_getElem?_getD, List.getElem?_eq_getElem (by omega)]; exact hr _ (List.getElem_mem _)
      have e0 := spec_clock_round (k + 2) now l 0 (by omega) hl hn.1 hn.2 g0
      have e1 := spec_clock_round (k + 1) now l 1 (by omega) hl hn.1 hn.2 g1
      have e2 : spec_ClockFault.l0 (k + 1) ((1 + 1 : Nat) : Int) now l = some 0 := by rw [spec_ClockFault.l0, if_neg (by omega)]
      rw [show k + 3 = k + 2 + 1 from rfl, show (0 : Int) = ((0 : Nat) : Int) from rfl, e0]
      rw [show ((0 + 1 : Nat) : Int) = ((1 : Nat) : Int) from rfl, show k + 2 = k + 1 + 1 from rfl, e1, e2]
      by_cases h0 : goodSeen now (l.getD 0 0)
      · by_cases h1 : goodSeen now (l.getD 1 0)
        · rw [if_pos h0, if_pos h1, if_pos ⟨h0, h1⟩]
          all_goals rfl
        · rw [if_pos h0, if_neg h1, if_neg (fun z => h1 z.2)]
      · rw [if_neg h0, if_neg (fun z => h0 z.1)]
    · rw [if_neg (by omega), if_neg hl]
  · rw [if_neg hn, if_neg hn]
theorem impl_clock_ev (now : Int) (l : List Int) : Ev (fun k => impl_ClockFault.f k now l) (clockM now l) := by
  refine ev_from 3 (fun k => ?_)
  unfold impl_ClockFault.f clockM
  rw [in_impl, in_spec]
  simp only [Option.bind_some, decide_eq_true_eq]
  by_cases hn : 0 ≤ now ∧ now ≤ 1000000000
  · rw [if_pos hn, if_pos hn]
    by_cases hl : l.length = 2
    · rw [if_pos (by omega), if_pos hl]
      have e0 := impl_clock_round (k + 2) now l 0 (by omega) hl hn.1 hn.2
      have e1 := impl_clock_round (k + 1) now l 1 (by omega) hl hn.1 hn.2
      have e2 : impl_ClockFault.l0 (k + 1) l (l.length : Int) ((1 + 1 : Nat) : Int) now l = some 0 := by rw [impl_ClockFault.l0, if_neg (by omega)]
      rw [show k + 3 = k + 2 + 1 from rfl, show (0 : Int) = ((0 : Nat) : Int) from rfl, e0]
      rw [show ((0 + 1 : Nat) : Int) = ((1 : Nat) : Int) from rfl, show k + 2 = k + 1 + 1 from rfl, e1, e2]
      by_cases h0 : goodSeen now (l.getD 0 0)
      · by_cases h1 : goodSeen now (l.getD 1 0)
        · rw [if_pos h0, if_pos h1, if_pos ⟨h0, h1⟩]
          all_goals rfl
        · rw [if_pos h0, if_neg h1, if_neg (fun z => h1 z.2)]
      · rw [if_neg h0, if_neg (fun z => h0 z.1)]
    · rw [if_neg (by omega), if_neg hl]
  · rw [if_neg hn, if_neg hn]

theorem spec_max (a b : Int) : spec_l1Max.f a b = some (max a b) := by
  unfold spec_l1Max.f
  split <;> congr 1 <;> omega
theorem mx_max (a b : Int) : mx a b = max a b := by unfold mx; split <;> omega
def offOk (x : Int) : Prop := -2 ≤ x ∧ x ≤ 2
instance (x : Int) : Decidable (offOk x) := by unfold offOk; exact inferInstance
/-- What time going by does to a clock. -/
def tickM (now : Int) (seen : List Int) (by_ : Int) (off : List Int) : Int × Int × List Int :=
  if clockM now seen = 0 then
    (if 0 ≤ by_ ∧ by_ ≤ 1000 then
      (if now + by_ > 1000000000 then (3, 0, []) else
        (if off.length = 2 then
          (if offOk (off.getD 0 0) ∧ offOk (off.getD 1 0) then (0, now + by_, [max (seen.getD 0 0) (max 0 (now + by_ + off.getD 0 0)), max (seen.getD 1 0) (max 0 (now + by_ + off.getD 1 0))])
          else (3, 0, []))
        else (1, 0, [])))
    else (3, 0, []))
  else (clockM now seen, 0, [])
theorem clockM_zero {now : Int} {l : List Int} (h : clockM now l = 0) : (0 ≤ now ∧ now ≤ 1000000000) ∧ l.length = 2 ∧ goodSeen now (l.getD 0 0) ∧ goodSeen now (l.getD 1 0) := by
  unfold clockM at h
  split at h
  · split at h
    · split at h
      · exact ⟨by assumption, by assumption, by assumption⟩
      · omega
    · omega
  · omega
theorem tick_spec_round (k : Nat) (off : List Int) (i : Nat) (now : Int) (seen : List Int) (t : Int) (out : List Int) (hi : i < 2) (ho : off.length = 2) (hs : seen.length = 2) (ht : 0 ≤ t ∧ t ≤ 1000000000) (hl : out.length < 17592186044416) :
    spec_TickClock.l0 (k + 1) off (i : Int) now seen t out = if offOk (off.getD i 0) then spec_TickClock.l0 k off ((i + 1 : Nat) : Int) now seen t (out ++ [max (seen.getD i 0) (max 0 (t + off.getD i 0))]) else some (3, 0, []) := by
  rw [spec_TickClock.l0, if_pos (by omega), if_pos (by omega), if_pos (by omega), rd_nat, in_spec]
  simp only [Option.bind_some, decide_eq_true_eq]
  by_cases hg : offOk (off.getD i 0)
  · have hg' := hg
    unfold offOk at hg'
    rw [if_pos hg, if_pos hg', if_pos (by omega), spec_max, w64 (x := t + off.getD i 0) (by omega) (by omega)]
    simp only [Option.bind_some]
    rw [spec_max, rd_nat]
    simp only [Option.bind_some]
    rw [if_pos hl, w64 (by omega) (by omega)]
    simp
  · rw [if_neg hg, if_neg (show ¬ (-2 ≤ off.getD i 0 ∧ off.getD i 0 ≤ 2) from hg)]
theorem tick_impl_round (k : Nat) (off : List Int) (i : Nat) (now : Int) (seen : List Int) (t : Int) (out : List Int) (hi : i < 2) (ho : off.length = 2) (hs : seen.length = 2) (ht : 0 ≤ t ∧ t ≤ 1000000000) (hl : out.length < 17592186044416) :
    impl_TickClock.l0 (k + 1) off (off.length : Int) (i : Int) now seen t out = if offOk (off.getD i 0) then impl_TickClock.l0 k off (off.length : Int) ((i + 1 : Nat) : Int) now seen t (out ++ [max (seen.getD i 0) (max 0 (t + off.getD i 0))]) else some (3, 0, []) := by
  rw [impl_TickClock.l0, if_pos (by omega), if_pos (by omega), if_pos (by omega), rd_nat, in_impl, in_spec]
  simp only [Option.bind_some, decide_eq_true_eq]
  by_cases hg : offOk (off.getD i 0)
  · have hg' := hg
    unfold offOk at hg'
    rw [if_pos hg, if_pos hg', if_pos (by omega), w64 (x := t + off.getD i 0) (by omega) (by omega), rd_nat, mx_max, mx_max, if_pos hl, w64 (by omega) (by omega)]
    have e : max (max (seen.getD i 0) (t + off.getD i 0)) 0 = max (seen.getD i 0) (max 0 (t + off.getD i 0)) := by omega
    rw [e]
    simp
  · rw [if_neg hg, if_neg (show ¬ (-2 ≤ off.getD i 0 ∧ off.getD i 0 ≤ 2) from hg)]
theorem tick_spec_ev (now : Int) (seen : List Int) (by_ : Int) (off : List Int) (hr : ∀ x ∈ seen, x ≤ 9223372036854775807) : Ev (fun k => spec_TickClock.f k now seen by_ off) (tickM now seen by_ off) := by
  unfold spec_TickClock.f tickM
  refine ev_bind (spec_clock_ev now seen hr) ?_
  by_cases hc : clockM now seen = 0
  · obtain ⟨hn, hs, hg0, hg1⟩ := clockM_zero hc
    rw [if_pos hc]
    refine ev_pos hc ?_
    simp only [in_spec, Option.bind_some, decide_eq_true_eq]
    by_cases hb : 0 ≤ by_ ∧ by_ ≤ 1000
    · rw [if_pos hb]
      refine ev_pos hb ?_
      refine ev_from 4 (fun k => ?_)
      rw [w64 (by omega) (by omega), show k + 4 = k + 3 + 1 from rfl, spec_TickClock.j0]
      by_cases ht : now + by_ > 1000000000
      · rw [if_pos (by simpa using ht), if_pos ht]
      · rw [if_neg (by simpa using ht), if_neg ht]
        by_cases ho : off.length = 2
        · rw [if_pos (by omega), if_pos ho, w64 (by omega) (by omega)]
          have e0 := tick_spec_round (k + 2) off 0 now seen (now + by_) [] (by omega) ho hs (by omega) (by simp)
          rw [show (0 : Int) = ((0 : Nat) : Int) from rfl, show k + 3 = k + 2 + 1 from rfl, e0]
          by_cases h0 : offOk (off.getD 0 0)
          · rw [if_pos h0]
            have e1 := tick_spec_round (k + 1) off 1 now seen (now + by_) ([] ++ [max (seen.getD 0 0) (max 0 (now + by_ + off.getD 0 0))]) (by omega) ho hs (by omega) (by simp)
            rw [show ((0 + 1 : Nat) : Int) = ((1 : Nat) : Int) from rfl, show k + 2 = k + 1 + 1 from rfl, e1]
            by_cases h1 : offOk (off.getD 1 0)
            · rw [if_pos h1, if_pos ⟨h0, h1⟩, spec_TickClock.l0, if_neg (by omega)]
              simp
            · rw [if_neg h1, if_neg (fun z => h1 z.2)]; rfl
          · rw [if_neg h0, if_neg (fun z => h0 z.1)]; rfl
        · rw [if_neg (by omega), if_neg ho]
    · rw [if_neg hb]
      refine ev_neg hb (ev_from 1 (fun k => ?_))
      rw [spec_TickClock.j0, if_pos rfl]
  · rw [if_neg hc]
    exact ev_neg hc (Ev.now _)
theorem tick_impl_ev (now : Int) (seen : List Int) (by_ : Int) (off : List Int) : Ev (fun k => impl_TickClock.f k now seen by_ off) (tickM now seen by_ off) := by
  unfold impl_TickClock.f tickM
  refine ev_bind (impl_clock_ev now seen) ?_
  by_cases hc : clockM now seen = 0
  · obtain ⟨hn, hs, hg0, hg1⟩ := clockM_zero hc
    rw [if_pos hc]
    refine ev_pos hc ?_
    simp only [in_impl, in_spec, Option.bind_some, decide_eq_true_eq]
    by_cases hb : 0 ≤ by_ ∧ by_ ≤ 1000
    · rw [if_pos hb]
      refine ev_pos hb ?_
      refine ev_from 4 (fun k => ?_)
      rw [w64 (by omega) (by omega), show k + 4 = k + 3 + 1 from rfl, impl_TickClock.j0]
      by_cases ht : now + by_ > 1000000000
      · rw [if_pos (by simpa using ht), if_pos ht]
      · rw [if_neg (by simpa using ht), if_neg ht]
        by_cases ho : off.length = 2
        · rw [if_pos (by omega), if_pos ho, w64 (by omega) (by omega)]
          have e0 := tick_impl_round (k + 2) off 0 now seen (now + by_) [] (by omega) ho hs (by omega) (by simp)
          rw [show (0 : Int) = ((0 : Nat) : Int) from rfl, show k + 3 = k + 2 + 1 from rfl, e0]
          by_cases h0 : offOk (off.getD 0 0)
          · rw [if_pos h0]
            have e1 := tick_impl_round (k + 1) off 1 now seen (now + by_) ([] ++ [max (seen.getD 0 0) (max 0 (now + by_ + off.getD 0 0))]) (by omega) ho hs (by omega) (by simp)
            rw [show ((0 + 1 : Nat) : Int) = ((1 : Nat) : Int) from rfl, show k + 2 = k + 1 + 1 from rfl, e1]
            by_cases h1 : offOk (off.getD 1 0)
            · rw [if_pos h1, if_pos ⟨h0, h1⟩, impl_TickClock.l0, if_neg (by omega)]
              simp
            · rw [if_neg h1, if_neg (fun z => h1 z.2)]; rfl
          · rw [if_neg h0, if_neg (fun z => h0 z.1)]; rfl
        · rw [if_neg (by omega), if_neg ho]
    · rw [if_neg hb]
      refine ev_neg hb (ev_from 1 (fun k => ?_))
      rw [impl_TickClock.j0, if_pos rfl]
  · rw [if_neg hc]
    exact ev_neg hc (Ev.now _)

theorem tickM_len (now : Int) (seen : List Int) (by_ : Int) (off : List Int) : (tickM now seen by_ off).2.2.length ≤ 2 := by
  unfold tickM
  repeat' split
  all_goals simp
theorem eqClockResult_ev (r : Int × Int × List Int) (h : r.2.2.length ≤ 2) : Ev (fun k => laws_eqClockResult.f k r.1 r.2.1 r.2.2 r.1 r.2.1 r.2.2) true := by
  unfold laws_eqClockResult.f laws_eqClock.f
  exact ev_pos rfl (ev_bind (ev_pos rfl (ev_bind (eqInt64S_ev r.2.2 (by omega)) (ev_pos rfl (Ev.now _)))) (ev_pos rfl (Ev.now _)))
theorem heldClockResult_ev (r : Int × Int × List Int) (h : r.2.2.length ≤ 2) : Ev (fun k => laws_heldClockResult.f k r.1 r.2.1 (marked id 1 r.2.2.length) 1) (1 + (r.2.2.length : Int)) := by
  unfold laws_heldClockResult.f laws_heldClock.f
  exact ev_bind (ev_bind (heldInt64S_ev r.2.2.length (by omega) 1 (by omega) (by omega)) (ev_neg (by omega) (Ev.now _))) (ev_neg (by omega) (Ev.now _))
theorem FnExactTickClock : ∀ (a0_0 : Int) (a0_1 : List Int) (a1 : Int) (a2 : List Int), (Lit.int .i64 a0_0).wf = true → (a0_1.length ≤ 9223372036854775807 ∧ ∀ x ∈ a0_1, (Lit.int .i64 x).wf = true) → (Lit.int .i64 a1).wf = true → (a2.length ≤ 9223372036854775807 ∧ ∀ x ∈ a2, (Lit.int .i64 x).wf = true) → ∃ k, laws_FnExactTickClock.f k a0_0 a0_1 a1 a2 = some true := by
  intro now seen by_ off _ hseen _ hoff
  obtain ⟨hs, hall⟩ := hseen
  obtain ⟨ho, _⟩ := hoff
  have hr : ∀ x ∈ seen, x ≤ 9223372036854775807 := fun x hx => (bounds_i64 (hall x hx)).2
  by_cases h1 : off.length > 1048576
  · refine ⟨0, ?_⟩
    unfold laws_FnExactTickClock.f
    rw [if_pos (by omega)]
  by_cases h2 : seen.length ≤ 1048576
  · refine Ev.rounds ?_
    have hsz : laws_szClock.f now seen 1048576 = some (1048576 - (seen.length : Int)) := by
      unfold laws_szClock.f laws_szInt64S.f
      rw [w64 (by omega) (by omega), if_neg (by omega)]
      simp only [Option.bind_some]
      rw [if_neg (by omega)]
    have hto : Ev (fun k => laws_toClock.f k now seen) (now, seen) := by
      unfold laws_toClock.f
      exact ev_bind (toInt64S_ev seen h2) (Ev.now _)
    have hof := toInt64S_ev off (by omega)
    have hS := tick_spec_ev now seen by_ off hr
    have hI := tick_impl_ev now seen by_ off
    have hlen := tickM_len now seen by_ off
    have hE := eqClockResult_ev (tickM now seen by_ off) hlen
    have hH := heldClockResult_ev (tickM now seen by_ off) hlen
    have hM : Ev (fun k => laws_markClockResult.f k (tickM now seen by_ off).1 (tickM now seen by_ off).2.1 (tickM now seen by_ off).2.2 1) (1 + ((tickM now seen by_ off).2.2.length : Int), marked id 1 (tickM now seen by_ off).2.2.length) := by
      unfold laws_markClockResult.f laws_markClock.f
      exact ev_bind (ev_bind (markInt64S_ev _ (by omega) 1 (by omega) (by omega)) (Ev.now _)) (Ev.now _)
    unfold laws_FnExactTickClock.f
    refine ev_neg (by omega) ?_
    refine ev_val (hsz) (ev_neg (by omega) ?_)
    refine ev_bind hto (ev_bind hof (ev_bind hS (ev_bind hto (ev_bind hof (ev_bind hI (ev_bind hE (ev_pos rfl ?_)))))))
    refine ev_bind hto (ev_bind (a := true) ?_ (ev_pos rfl (ev_bind hof (ev_bind (eqInt64S_ev off (by omega)) (ev_pos rfl ?_)))))
    · unfold laws_eqClock.f
      exact ev_pos rfl (ev_bind (eqInt64S_ev seen h2) (ev_pos rfl (Ev.now _)))
    refine ev_bind (a := (1 + (seen.length : Int), marked id 1 seen.length)) ?_ (ev_bind (markInt64S_ev off (by omega) (1 + (seen.length : Int)) (by omega) (by omega)) ?_)
    · unfold laws_markClock.f
      exact ev_bind (markInt64S_ev seen h2 1 (by omega) (by omega)) (Ev.now _)
    refine ev_neg (show ¬ (1 + (seen.length : Int) + (off.length : Int) < 0) by omega) (ev_bind hE (ev_pos rfl ?_))
    refine ev_bind hM (ev_bind hH (ev_neg (by omega) (ev_pos rfl ?_)))
    refine ev_bind hto (ev_bind hof (ev_bind hI (ev_bind hE (ev_pos rfl ?_))))
    exact ev_bind hH (ev_neg (by omega) (ev_pos rfl (Ev.now _)))
  · refine ⟨0, ?_⟩
    unfold laws_FnExactTickClock.f laws_szClock.f laws_szInt64S.f
    rw [if_neg (by omega), w64 (by omega) (by omega), if_pos (show (1048576 : Int) - (seen.length : Int) < 0 by omega)]
    all_goals rfl

end Go.Proofs.Ytjbeehechclccaa.Pure
