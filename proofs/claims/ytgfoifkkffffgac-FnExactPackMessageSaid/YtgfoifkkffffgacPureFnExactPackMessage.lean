/- FnExactPackMessage: what the printed functions compute answers as the statement says: for every input the law is true. No condition beside the arguments being of their kinds. -/
import Derived.Test.YtgfoifkkffffgacPFnExactPackMessagex21
import Derived.OpenShut
namespace Go.Proofs.Ytgfoifkkffffgac.Pure
open Go.RowKit Go.Proofs.YtgfoifkkffffgacW.PrintWords Go.Proofs.YtgfoifkkffffgacW.PrintLast Go.Proofs.YtgfoifkkffffgacW.PrintMore Go.Proofs.Ytgfoifkkffffgac.PFnExactPackMessage
set_option linter.unusedVariables false
set_option linter.unusedSimpArgs false

/-! ### plain words -/
theorem w64 {x : Int} (h0 : -9223372036854775808 ≤ x) (h1 : x ≤ 9223372036854775807) : wrap64 x = x := by unfold wrap64; omega
theorem ev_some {α : Type} {g : Nat → Option α} {r : α} (h : ∀ k, g k = some r) : Ev g r := ⟨0, fun k _ => h k⟩
theorem ev_bind {α β : Type} {g : Nat → Option α} {f : Nat → α → Option β} {a : α} {r : β} (h : Ev g a) (k : Ev (fun n => f n a) r) : Ev (fun n => (g n).bind (f n)) r := Ev.bind h k
theorem ev_val {α β : Type} {o : Option α} {a : α} (h : o = some a) {f : Nat → α → Option β} {r : β} (k : Ev (fun n => f n a) r) : Ev (fun n => o.bind (f n)) r := by
  subst h
  exact k
theorem ev_pos {α : Type} {c : Prop} [Decidable c] {a b : Nat → Option α} {r : α} (hc : c) (h : Ev a r) : Ev (fun k => if c then a k else b k) r := Ev.congr (fun _ => if_pos hc) h
theorem ev_neg {α : Type} {c : Prop} [Decidable c] {a b : Nat → Option α} {r : α} (hc : ¬ c) (h : Ev b r) : Ev (fun k => if c then a k else b k) r := Ev.congr (fun _ => if_neg hc) h
theorem ev_ite {α : Type} {c : Prop} [Decidable c] {a b : Nat → Option α} {x y : α} (h1 : c → Ev a x) (h2 : ¬ c → Ev b y) : Ev (fun k => if c then a k else b k) (if c then x else y) := by
  by_cases h : c
  · rw [if_pos h]
    exact ev_pos h (h1 h)
  · rw [if_neg h]
    exact ev_neg h (h2 h)
theorem ev_eq {α : Type} {g : Nat → Option α} {r r' : α} (h : Ev g r) (e : r = r') : Ev g r' := e ▸ h
theorem ev_uniq {α : Type} {g : Nat → Option α} {r r' : α} (h : Ev g r) (h' : Ev g r') : r = r' := by
  obtain ⟨K, hK⟩ := h
  obtain ⟨K', hK'⟩ := h'
  have h1 := hK (max K K') (Nat.le_max_left _ _)
  have h2 := hK' (max K K') (Nat.le_max_right _ _)
  exact Option.some.inj (h1.symm.trans h2)
/-- So many rounds are enough. -/
theorem ev_from {α : Type} {g : Nat → Option α} {r : α} (n : Nat) (h : ∀ k, g (k + n) = some r) : Ev g r :=
  ⟨n, fun k hk => by have := h (k - n); rwa [Nat.sub_add_cancel hk] at this⟩
theorem rd_nat (xs : List Int) (i : Nat) : rd xs (i : Int) = xs.getD i 0 := by simp [rd]
theorem rd_lt {xs : List Int} {i : Nat} (h : i < xs.length) : rd xs (i : Int) = xs[i] := by
  rw [rd_nat, List.getD_eq_getElem?_getD, List.getElem?_eq_getElem h]; rfl
theorem set_take {xs out : List Int} {i : Nat} (hi : i < xs.length) (hl : out.length = xs.length) (ht : out.take i = xs.take i) : (out.set i xs[i]).take (i + 1) = xs.take (i + 1) := by
  rw [List.take_succ_eq_append_getElem (by simp; omega), List.take_succ_eq_append_getElem hi]
  rw [List.take_set_of_le (Nat.le_refl i), ht]
  simp
/-- A copy, number by number. -/
theorem copy_loop (l : Nat → List Int → List Int → Int → Option (List Int))
    (h : ∀ k xs out i, l (k + 1) xs out i = if i < (xs.length : Int) then (if 0 ≤ i then (if i < (out.length : Int) then l k xs (out.set (i : Int).toNat (rd xs i)) (wrap64 (i + 1)) else none) else none) else some out)
    (xs : List Int) (hx : xs.length ≤ 4611686018427387904) : ∀ (d i : Nat) (out : List Int), i + d = xs.length → out.length = xs.length → out.take i = xs.take i → Ev (fun k => l k xs out (i : Int)) xs
  | 0, i, out, hd, hl, ht => by
    refine Ev.step (f := fun _ => some xs) (fun k => ?_) (Ev.now _)
    rw [h, if_neg (by omega)]
    congr 1
    rw [List.take_of_length_le (by omega), List.take_of_length_le (by omega)] at ht
    exact ht
  | d + 1, i, out, hd, hl, ht => by
    have hi : i < xs.length := by omega
    refine Ev.step (f := fun k => l k xs (out.set i xs[i]) ((i + 1 : Nat) : Int)) (fun k => ?_) (copy_loop l h xs hx d (i + 1) _ (by omega) (by simpa using hl) (set_take hi hl ht))
    rw [h, if_pos (by omega), if_pos (by omega), if_pos (by omega), w64 (by omega) (by omega), rd_lt hi]
    simp
/-- Two equal lists, number by number. -/
theorem same_loop (l : Nat → List Int → List Int → Int → Option Bool)
    (h : ∀ k xs ys i, l (k + 1) xs ys i = if i < (xs.length : Int) then (if 0 ≤ i then (if i < (ys.length : Int) then (if rd xs i = rd ys i then l k xs ys (wrap64 (i + 1)) else some false) else none) else none) else some true)
    (xs : List Int) (hx : xs.length ≤ 4611686018427387904) : ∀ (d i : Nat), i + d = xs.length → Ev (fun k => l k xs xs (i : Int)) true
  | 0, i, hd => by
    refine Ev.step (f := fun _ => some true) (fun k => ?_) (Ev.now _)
    rw [h, if_neg (by omega)]
  | d + 1, i, hd => by
    refine Ev.step (f := fun k => l k xs xs ((i + 1 : Nat) : Int)) (fun k => ?_) (same_loop l h xs hx d (i + 1) (by omega))
    rw [h, if_pos (by omega), if_pos (by omega), if_pos (by omega), if_pos rfl, w64 (by omega) (by omega)]
    simp

/-- A loop that goes on to its end. -/
theorem for_loop {σ ρ : Type} (l : Nat → σ → Int → Option ρ) (n : Nat) (s : Nat → σ) {r : ρ}
    (hstep : ∀ i, i < n → ∀ r, Ev (fun k => l k (s (i + 1)) ((i + 1 : Nat) : Int)) r → Ev (fun k => l k (s i) (i : Int)) r)
    (hend : Ev (fun k => l k (s n) (n : Int)) r) : ∀ (d i : Nat), i + d = n → Ev (fun k => l k (s i) (i : Int)) r
  | 0, i, h => by
    have e : i = n := by omega
    rw [e]; exact hend
  | d + 1, i, h => hstep i (by omega) r (for_loop l n s hstep hend d (i + 1) (by omega))
/-- What a copy has so far. -/
def sofar {α β : Type} (f : α → β) (z : β) (xs : List α) (i : Nat) : List β := (xs.take i).map f ++ List.replicate (xs.length - i) z
theorem sofar_length {α β : Type} (f : α → β) (z : β) (xs : List α) (i : Nat) (hi : i ≤ xs.length) : (sofar f z xs i).length = xs.length := by
  unfold sofar
  simp
  omega
theorem sofar_set {α β : Type} (f : α → β) (z : β) (xs : List α) (i : Nat) (hi : i < xs.length) : (sofar f z xs i).set i (f xs[i]) = sofar f z xs (i + 1) := by
  unfold sofar
  rw [List.set_append_right _ _ (by simp; omega), List.take_succ_eq_append_getElem hi, List.map_append, List.append_assoc]
  congr 1
  have e : i - (List.map f (List.take i xs)).length = 0 := by simp; omega
  rw [e, show xs.length - i = xs.length - (i + 1) + 1 by omega, List.replicate_succ, List.set_cons_zero]
  rfl
theorem sofar_zero {α β : Type} (f : α → β) (z : β) (xs : List α) : sofar f z xs 0 = List.replicate xs.length z := by
  unfold sofar
  simp
theorem sofar_all {α β : Type} (f : α → β) (z : β) (xs : List α) : sofar f z xs xs.length = xs.map f := by
  unfold sofar
  simp
theorem getD_lt {α : Type} {z : α} {xs : List α} {i : Nat} (h : i < xs.length) : xs.getD i z = xs[i] := by
  rw [List.getD_eq_getElem?_getD, List.getElem?_eq_getElem h]; rfl
theorem conv_loop {α β : Type} (f : α → β) (z : β) (l : Nat → List β → Int → Option (List β)) (xs : List α)
    (hstep : ∀ (i : Nat) (hi : i < xs.length) (out : List β) (r : List β), out.length = xs.length → Ev (fun k => l k (out.set i (f xs[i])) ((i + 1 : Nat) : Int)) r → Ev (fun k => l k out (i : Int)) r)
    (hend : ∀ out : List β, Ev (fun k => l k out (xs.length : Int)) out) : Ev (fun k => l k (List.replicate xs.length z) 0) (xs.map f) := by
  have h := for_loop (fun k o i => l k o i) xs.length (sofar f z xs) (r := xs.map f) (fun i hi r hr => hstep i hi _ r (sofar_length f z xs i (by omega)) (by rw [sofar_set f z xs i hi]; exact hr)) (by rw [sofar_all]; exact hend _) xs.length 0 (by omega)
  rw [sofar_zero] at h
  exact h
theorem all_loop {ρ : Type} (l : Nat → Int → Option ρ) (n : Nat) {r : ρ}
    (hstep : ∀ i, i < n → ∀ r, Ev (fun k => l k ((i + 1 : Nat) : Int)) r → Ev (fun k => l k (i : Int)) r)
    (hend : Ev (fun k => l k (n : Int)) r) : Ev (fun k => l k 0) r :=
  for_loop (fun k (_ : Unit) i => l k i) n (fun _ => ()) (fun i hi r hr => hstep i hi r hr) hend n 0 (by omega)
/-- The first fault of a list, or zero. -/
def firstBad {α : Type} (f : α → Int) : List α → Int
  | [] => 0
  | x :: t => if f x = 0 then firstBad f t else f x
theorem firstBad_append {α : Type} (f : α → Int) (xs ys : List α) : firstBad f (xs ++ ys) = if firstBad f xs = 0 then firstBad f ys else firstBad f xs := by
  induction xs with
  | nil => simp [firstBad]
  | cons x t ih =>
    by_cases h : f x = 0
    · have e : ∀ z, firstBad f (x :: z) = firstBad f z := fun z => by simp [firstBad, h]
      rw [List.cons_append, e, e, ih]
    · have e : ∀ z, firstBad f (x :: z) = f x := fun z => by simp [firstBad, h]
      rw [List.cons_append, e, e, if_neg h]
theorem first_loop {α : Type} (f : α → Int) (l : Nat → Int → Option Int) (xs : List α)
    (hgo : ∀ (i : Nat) (hi : i < xs.length), f xs[i] = 0 → ∀ r, Ev (fun k => l k ((i + 1 : Nat) : Int)) r → Ev (fun k => l k (i : Int)) r)
    (hstop : ∀ (i : Nat) (hi : i < xs.length), f xs[i] ≠ 0 → Ev (fun k => l k (i : Int)) (f xs[i]))
    (hend : Ev (fun k => l k (xs.length : Int)) 0) : ∀ (d i : Nat), i + d = xs.length → Ev (fun k => l k (i : Int)) (firstBad f (xs.drop i))
  | 0, i, h => by
    have e : i = xs.length := by omega
    rw [e, List.drop_length]; exact hend
  | d + 1, i, h => by
    have hi : i < xs.length := by omega
    rw [List.drop_eq_getElem_cons hi, firstBad]
    by_cases hf : f xs[i] = 0
    · rw [if_pos hf]
      exact hgo i hi hf _ (first_loop f l xs hgo hstop hend d (i + 1) (by omega))
    · rw [if_neg hf]
      exact hstop i hi hf
theorem first_loop0 {α : Type} (f : α → Int) (l : Nat → Int → Option Int) (xs : List α)
    (hgo : ∀ (i : Nat) (hi : i < xs.length), f xs[i] = 0 → ∀ r, Ev (fun k => l k ((i + 1 : Nat) : Int)) r → Ev (fun k => l k (i : Int)) r)
    (hstop : ∀ (i : Nat) (hi : i < xs.length), f xs[i] ≠ 0 → Ev (fun k => l k (i : Int)) (f xs[i]))
    (hend : Ev (fun k => l k (xs.length : Int)) 0) : Ev (fun k => l k 0) (firstBad f xs) := by
  have h := first_loop f l xs hgo hstop hend xs.length 0 (by omega)
  rwa [List.drop_zero] at h
/-- The bind of an Ev, told by the bound value. -/
theorem ev_then {α β : Type} {g : Nat → Option α} {f : Nat → α → Option β} {a : α} {r : β} (k : Ev (fun n => f n a) r) (h : Ev g a) : Ev (fun n => (g n).bind (f n)) r := Ev.bind h k

theorem toInt64S_ev (xs : List Int) (hx : xs.length ≤ 1048576) : Ev (fun k => laws_toInt64S.f k xs) xs := by
  refine Ev.congr (f := fun k => laws_toInt64S.l0 k xs (List.replicate xs.length 0) 0) (fun k => ?_) ?_
  · unfold laws_toInt64S.f
    rw [if_pos (by omega), if_pos (by omega)]
    simp
  · exact copy_loop _ (fun _ _ _ _ => rfl) xs (by omega) xs.length 0 _ (by omega) (by simp) rfl
theorem eqInt64S_ev (xs : List Int) (hx : xs.length ≤ 1048576) : Ev (fun k => laws_eqInt64S.f k xs xs) true := by
  refine Ev.congr (f := fun k => laws_eqInt64S.l0 k xs xs 0) (fun k => ?_) (same_loop _ (fun _ _ _ _ => rfl) xs (by omega) xs.length 0 (by omega))
  unfold laws_eqInt64S.f
  rw [if_pos rfl]

theorem eqByteS_ev (xs : List Int) (hx : xs.length ≤ 1048576) : Ev (fun k => laws_eqByteS.f k xs xs) true := by
  refine Ev.congr (f := fun k => laws_eqByteS.l0 k xs xs 0) (fun k => ?_) (same_loop _ (fun _ _ _ _ => rfl) xs (by omega) xs.length 0 (by omega))
  unfold laws_eqByteS.f
  rw [if_pos rfl]

/-- What marks leave: from m on, one more each. -/
def marked (f : Int → Int) (m : Int) (n : Nat) : List Int := (List.range n).map (fun j : Nat => f (m + (j : Int)))
theorem marked_length (f : Int → Int) (m : Int) (n : Nat) : (marked f m n).length = n := by simp [marked]
theorem marked_get {f : Int → Int} {m : Int} {n i : Nat} (h : i < (marked f m n).length) : (marked f m n)[i] = f (m + (i : Int)) := by simp [marked]
theorem mark_loop (f : Int → Int) (l : Nat → List Int → Int → Int → Option (Int × List Int))
    (h : ∀ k xs m i, l (k + 1) xs m i = if i < (xs.length : Int) then (if 0 ≤ i then (l k (xs.set (i : Int).toNat (f m)) (wrap64 (m + 1)) (wrap64 (i + 1))) else none) else some (m, xs))
    (n : Nat) (hn : n ≤ 2305843009213693952) (m0 : Int) (h0 : 0 ≤ m0) (h1 : m0 ≤ 2305843009213693952) :
    ∀ (d i : Nat) (xs : List Int), i + d = n → xs.length = n → xs.take i = (marked f m0 n).take i → Ev (fun k => l k xs (m0 + (i : Int)) (i : Int)) (m0 + (n : Int), marked f m0 n)
  | 0, i, xs, hd, hl, ht => by
    refine Ev.step (f := fun _ => some (m0 + (n : Int), marked f m0 n)) (fun k => ?_) (Ev.now _)
    rw [h, if_neg (by omega)]
    have hm := marked_length f m0 n
    rw [List.take_of_length_le (by omega), List.take_of_length_le (by omega)] at ht
    rw [ht, show i = n by omega]
  | d + 1, i, xs, hd, hl, ht => by
    have hm := marked_length f m0 n
    have hi : i < (marked f m0 n).length := by omega
    refine Ev.step (f := fun k => l k (xs.set i (marked f m0 n)[i]) (m0 + ((i + 1 : Nat) : Int)) ((i + 1 : Nat) : Int)) (fun k => ?_)
      (mark_loop f l h n hn m0 h0 h1 d (i + 1) _ (by omega) (by simpa using hl) (set_take hi (by omega) ht))
    rw [h, if_pos (by omega), if_pos (by omega), w64 (by omega) (by omega), w64 (by omega) (by omega), marked_get hi]
    simp [Int.add_assoc]
theorem held_loop (f : Int → Int) (l : Nat → List Int → Int → Int → Option Int)
    (h : ∀ k xs m i, l (k + 1) xs m i = if i < (xs.length : Int) then (if 0 ≤ i then (if rd xs i = f m then (l k xs (wrap64 (m + 1)) (wrap64 (i + 1))) else some (-1)) else none) else some m)
    (n : Nat) (hn : n ≤ 2305843009213693952) (m0 : Int) (h0 : 0 ≤ m0) (h1 : m0 ≤ 2305843009213693952) :
    ∀ (d i : Nat), i + d = n → Ev (fun k => l k (marked f m0 n) (m0 + (i : Int)) (i : Int)) (m0 + (n : Int))
  | 0, i, hd => by
    refine Ev.step (f := fun _ => some (m0 + (n : Int))) (fun k => ?_) (Ev.now _)
    have hm := marked_length f m0 n
    rw [h, if_neg (by omega), show i = n by omega]
  | d + 1, i, hd => by
    have hm := marked_length f m0 n
    have hi : i < (marked f m0 n).length := by omega
    refine Ev.step (f := fun k => l k (marked f m0 n) (m0 + ((i + 1 : Nat) : Int)) ((i + 1 : Nat) : Int)) (fun k => ?_) (held_loop f l h n hn m0 h0 h1 d (i + 1) (by omega))
    rw [h, if_pos (by omega), if_pos (by omega), rd_lt hi, marked_get hi, if_pos rfl, w64 (by omega) (by omega), w64 (by omega) (by omega)]
    simp [Int.add_assoc]

theorem markInt64S_ev (xs : List Int) (hx : xs.length ≤ 1048576) (m : Int) (h0 : 0 ≤ m) (h1 : m ≤ 1152921504606846976) : Ev (fun k => laws_markInt64S.f k xs m) (m + (xs.length : Int), marked id m xs.length) := by
  have := mark_loop id laws_markInt64S.l0 (fun _ _ _ _ => rfl) xs.length (by omega) m h0 (by omega) xs.length 0 xs (by omega) rfl rfl
  unfold laws_markInt64S.f
  simpa using this

theorem markByteS_ev (xs : List Int) (hx : xs.length ≤ 1048576) (m : Int) (h0 : 0 ≤ m) (h1 : m ≤ 1152921504606846976) : Ev (fun k => laws_markByteS.f k xs m) (m + (xs.length : Int), marked (· % 256) m xs.length) := by
  have := mark_loop (· % 256) laws_markByteS.l0 (fun _ _ _ _ => rfl) xs.length (by omega) m h0 (by omega) xs.length 0 xs (by omega) rfl rfl
  unfold laws_markByteS.f
  simpa using this
theorem heldByteS_ev (n : Nat) (hx : n ≤ 1048576) (m : Int) (h0 : 0 ≤ m) (h1 : m ≤ 1152921504606846976) : Ev (fun k => laws_heldByteS.f k (marked (· % 256) m n) m) (m + (n : Int)) := by
  have := held_loop (· % 256) laws_heldByteS.l0 (fun _ _ _ _ => rfl) n (by omega) m h0 (by omega) n 0 (by omega)
  unfold laws_heldByteS.f
  simpa using this

theorem in_spec (a b c : Int) : spec_l1In.f a b c = some (decide (b ≤ a ∧ a ≤ c)) := by
  unfold spec_l1In.f
  by_cases h : a ≥ b
  · rw [if_pos h]; congr 1; simp [h]
  · rw [if_neg h]; congr 1; simp; intro h'; omega
theorem in_impl : impl_in.f = spec_l1In.f := rfl

def prefM (a b : Int) : Int := if 0 ≤ a ∧ a ≤ 65535 then (if 0 ≤ b ∧ b ≤ 16 then (if Go.bits .and .i64 a (wrap64 ((shl .i64 1 (16 - b)) - 1)) = 0 then 0 else 1) else 3) else 3
theorem spec_prefix_ev (a b : Int) : Ev (fun k => spec_PrefixFault.f k a b) (prefM a b) := by
  refine ev_from 1 (fun k => ?_)
  unfold spec_PrefixFault.f spec_l2Addr.f prefM
  simp only [in_spec, Option.bind_some, decide_eq_true_eq]
  by_cases ha : 0 ≤ a ∧ a ≤ 65535
  · rw [if_pos ha, if_pos ha, spec_PrefixFault.j0]
    by_cases hb : 0 ≤ b ∧ b ≤ 16
    · rw [if_pos hb, if_neg (by simp [hb])]
      unfold spec_l2Rest.f
      have e : IntKind.u64.wrap (wrap64 (16 - b)) = 16 - b := by
        rw [w64 (by omega) (by omega)]
        simp [IntKind.wrap, IntKind.bits, IntKind.signed]
        omega
      rw [e, if_pos (by omega)]
      simp only [Option.bind_some]
      split <;> rfl
    · rw [if_neg hb, if_pos (by simp; omega)]
  · rw [if_neg ha, if_neg ha, spec_PrefixFault.j0, if_pos rfl]
theorem impl_prefix_ev (a b : Int) : Ev (fun k => impl_PrefixFault.f k a b) (prefM a b) := by
  refine ev_from 1 (fun k => ?_)
  unfold impl_PrefixFault.f impl_isAddr.f prefM
  simp only [in_impl, in_spec, Option.bind_some, decide_eq_true_eq]
  by_cases ha : 0 ≤ a ∧ a ≤ 65535
  · rw [if_pos ha, if_pos ha, impl_PrefixFault.j0]
    by_cases hb : 0 ≤ b ∧ b ≤ 16
    · rw [if_pos hb, if_neg (by simp [hb]), w64 (x := 16 - b) (by omega) (by omega), if_pos (by omega)]
      split <;> rfl
    · rw [if_neg hb, if_pos (by simp; omega)]
  · rw [if_neg ha, if_neg ha, impl_PrefixFault.j0, if_pos rfl]
def prefsM (xs : List S91) : Int := firstBad (fun x : S91 => prefM x.f0 x.f1) xs
theorem spec_list_ev (xs : List S91) (hx : xs.length ≤ 200) : Ev (fun k => spec_l2List.f k xs) (prefsM xs) := by
  refine Ev.congr (f := fun k => spec_l2List.l0 k xs 0) (fun k => ?_) ?_
  · unfold spec_l2List.f
    rw [if_neg (by omega)]
  · refine first_loop0 (fun x : S91 => prefM x.f0 x.f1) (fun k i => spec_l2List.l0 k xs i) xs (fun i hi h0 r hr => ?_) (fun i hi h0 => ?_) ?_
    · refine Ev.step (f := fun k => (spec_PrefixFault.f k (xs[i].f0) (xs[i].f1)).bind fun t => if t = 0 then spec_l2List.l0 k xs ((i + 1 : Nat) : Int) else some t) (fun k => ?_) (ev_bind (spec_prefix_ev _ _) (ev_pos h0 hr))
      rw [spec_l2List.l0, if_pos (by omega), if_pos (by omega), w64 (by omega) (by omega)]
      simp only [rd_T91, Int.toNat_natCast, getD_lt hi]
      rfl
    · refine Ev.step (f := fun k => (spec_PrefixFault.f k (xs[i].f0) (xs[i].f1)).bind fun t => if t = 0 then spec_l2List.l0 k xs ((i + 1 : Nat) : Int) else some t) (fun k => ?_) (ev_bind (spec_prefix_ev _ _) (ev_neg h0 (Ev.now _)))
      rw [spec_l2List.l0, if_pos (by omega), if_pos (by omega), w64 (by omega) (by omega)]
      simp only [rd_T91, Int.toNat_natCast, getD_lt hi]
      rfl
    · refine Ev.step (f := fun _ => some 0) (fun k => ?_) (Ev.now _)
      rw [spec_l2List.l0, if_neg (by omega)]
theorem impl_list_ev (xs : List S91) (hx : xs.length ≤ 1048576) : Ev (fun k => impl_prefixesFault.f k xs) (prefsM xs) := by
  unfold impl_prefixesFault.f
  refine first_loop0 (fun x : S91 => prefM x.f0 x.f1) (fun k i => impl_prefixesFault.l0 k xs (xs.length : Int) i) xs (fun i hi h0 r hr => ?_) (fun i hi h0 => ?_) ?_
  · refine Ev.step (f := fun k => (impl_PrefixFault.f k (xs[i].f0) (xs[i].f1)).bind fun t => if t = 0 then impl_prefixesFault.l0 k xs (xs.length : Int) ((i + 1 : Nat) : Int) else some t) (fun k => ?_) (ev_bind (impl_prefix_ev _ _) (ev_pos h0 hr))
    rw [impl_prefixesFault.l0, if_pos (by omega), if_pos (by omega), if_pos (by omega), w64 (by omega) (by omega)]
    simp only [rd_T91, Int.toNat_natCast, getD_lt hi]
    rfl
  · refine Ev.step (f := fun k => (impl_PrefixFault.f k (xs[i].f0) (xs[i].f1)).bind fun t => if t = 0 then impl_prefixesFault.l0 k xs (xs.length : Int) ((i + 1 : Nat) : Int) else some t) (fun k => ?_) (ev_bind (impl_prefix_ev _ _) (ev_neg h0 (Ev.now _)))
    rw [impl_prefixesFault.l0, if_pos (by omega), if_pos (by omega), if_pos (by omega), w64 (by omega) (by omega)]
    simp only [rd_T91, Int.toNat_natCast, getD_lt hi]
    rfl
  · refine Ev.step (f := fun _ => some 0) (fun k => ?_) (Ev.now _)
    rw [impl_prefixesFault.l0, if_neg (by omega)]

def cP (x : S153) : S91 := ⟨x.f0, x.f1⟩
theorem toPrefixS_ev (xs : List S153) (hx : xs.length ≤ 1048576) : Ev (fun k => laws_toPrefixS.f k xs) (xs.map cP) := by
  refine Ev.congr (f := fun k => laws_toPrefixS.l0 k xs (List.replicate xs.length z91) 0) (fun k => ?_) (conv_loop cP z91 (fun k o i => laws_toPrefixS.l0 k xs o i) xs (fun i hi out r ho hr => ?_) (fun out => ?_))
  · unfold laws_toPrefixS.f
    rw [if_pos (by omega), if_pos (by omega)]
    simp
  · refine Ev.step (f := fun k => laws_toPrefixS.l0 k xs (out.set i (cP xs[i])) ((i + 1 : Nat) : Int)) (fun k => ?_) hr
    rw [laws_toPrefixS.l0, if_pos (by omega), if_pos (by omega), w64 (by omega) (by omega)]
    simp only [rd_T153, Int.toNat_natCast, getD_lt hi, laws_toPrefix.f, Option.bind_some]
    rw [if_pos (by omega)]
    rfl
  · refine Ev.step (f := fun _ => some out) (fun k => ?_) (Ev.now _)
    rw [laws_toPrefixS.l0, if_neg (by omega)]
theorem eqPrefixS_ev (xs : List S91) (hx : xs.length ≤ 1048576) : Ev (fun k => laws_eqPrefixS.f k xs xs) true := by
  refine Ev.congr (f := fun k => laws_eqPrefixS.l0 k xs xs 0) (fun k => ?_) (all_loop (fun k i => laws_eqPrefixS.l0 k xs xs i) xs.length (fun i hi r hr => ?_) ?_)
  · unfold laws_eqPrefixS.f
    rw [if_pos rfl]
  · refine Ev.step (f := fun k => laws_eqPrefixS.l0 k xs xs ((i + 1 : Nat) : Int)) (fun k => ?_) hr
    rw [laws_eqPrefixS.l0, if_pos (by omega), if_pos (by omega), if_pos (by omega), w64 (by omega) (by omega)]
    unfold laws_eqPrefix.f
    rw [if_pos rfl, if_pos rfl]
    rfl
  · refine Ev.step (f := fun _ => some true) (fun k => ?_) (Ev.now _)
    rw [laws_eqPrefixS.l0, if_neg (by omega)]

def sysM (x : Int) : Int := if 1 ≤ x ∧ x ≤ 65535 then 0 else 3
def attrsM (o : Int) (p : List Int) (n m l : Int) : Int :=
  if (0 ≤ o ∧ o ≤ 2) ∧ (0 ≤ n ∧ n ≤ 65535) ∧ (0 ≤ m ∧ m ≤ 65535) ∧ (0 ≤ l ∧ l ≤ 65535) then (if (p.length : Int) > 6 then 2 else firstBad sysM p) else 3
theorem sysM_or (p : List Int) : firstBad sysM p = 0 ∨ firstBad sysM p = 3 := by
  induction p with
  | nil => exact Or.inl rfl
  | cons x t ih =>
    rw [firstBad]
    split
    · exact ih
    · unfold sysM at *
      split at * <;> simp_all
theorem spec_attrs_ev (o : Int) (p : List Int) (n m l : Int) (hp : p.length ≤ 1048576) : Ev (fun k => spec_AttrsFault.f k o p n m l) (attrsM o p n m l) := by
  have hl : Ev (fun k => spec_AttrsFault.l0 k 0 o p n m l) (firstBad sysM p) := by
    refine first_loop0 sysM (fun k i => spec_AttrsFault.l0 k i o p n m l) p (fun i hi h0 r hr => ?_) (fun i hi h0 => ?_) ?_
    · refine Ev.step (f := fun k => spec_AttrsFault.l0 k ((i + 1 : Nat) : Int) o p n m l) (fun k => ?_) hr
      rw [spec_AttrsFault.l0, if_pos (by omega), if_pos (by omega), w64 (by omega) (by omega), rd_lt hi, in_spec]
      have hb : 1 ≤ p[i] ∧ p[i] ≤ 65535 := by unfold sysM at h0; split at h0; assumption; omega
      simp [hb]
    · refine Ev.step (f := fun k => some (sysM p[i])) (fun k => ?_) (Ev.now _)
      rw [spec_AttrsFault.l0, if_pos (by omega), if_pos (by omega), w64 (by omega) (by omega), rd_lt hi, in_spec]
      have hb : ¬ (1 ≤ p[i] ∧ p[i] ≤ 65535) := by intro hb; apply h0; unfold sysM; rw [if_pos hb]
      unfold sysM
      rw [if_neg hb]
      simp only [Option.bind_some, decide_eq_true_eq]
      rw [if_neg hb]
    · refine Ev.step (f := fun _ => some 0) (fun k => ?_) (Ev.now _)
      rw [spec_AttrsFault.l0, if_neg (by omega)]
  have hj : Ev (fun k => spec_AttrsFault.j0 k false o p n m l) (if (p.length : Int) > 6 then 2 else firstBad sysM p) := by
    refine Ev.step (f := fun k => if (p.length : Int) > 6 then some 2 else spec_AttrsFault.l0 k 0 o p n m l) (fun k => ?_) (ev_ite (fun _ => Ev.now _) (fun _ => hl))
    rw [spec_AttrsFault.j0, if_neg (by simp)]
  have ht : Ev (fun k => spec_AttrsFault.j0 k true o p n m l) 3 := by
    refine Ev.step (f := fun k => some 3) (fun k => ?_) (Ev.now _)
    rw [spec_AttrsFault.j0, if_pos rfl]
  unfold spec_AttrsFault.f attrsM spec_l3Word.f
  simp only [in_spec, Option.bind_some, decide_eq_true_eq]
  by_cases h1 : 0 ≤ o ∧ o ≤ 2
  · refine ev_pos h1 ?_
    by_cases h2 : 0 ≤ n ∧ n ≤ 65535
    · refine ev_pos h2 ?_
      by_cases h3 : 0 ≤ m ∧ m ≤ 65535
      · refine ev_pos h3 ?_
        by_cases h4 : 0 ≤ l ∧ l ≤ 65535
        · rw [if_pos ⟨h1, h2, h3, h4⟩]
          simpa [h4] using hj
        · rw [if_neg (fun z => h4 z.2.2.2)]
          have e : (!decide (0 ≤ l ∧ l ≤ 65535)) = true := by simp; omega
          rw [e]
          exact ht
      · rw [if_neg (fun z => h3 z.2.2.1)]
        exact ev_neg h3 ht
    · rw [if_neg (fun z => h2 z.2.1)]
      exact ev_neg h2 ht
  · rw [if_neg (fun z => h1 z.1)]
    exact ev_neg h1 ht
theorem index_ev (p : List Int) (hp : p.length ≤ 1048576) : ∀ (d i : Nat), i + d = p.length → ∃ t, Ev (fun k => slices_IndexFunc_int64_int64.l0 k p (p.length : Int) (i : Int)) t ∧ (t ≥ 0 ↔ firstBad sysM (p.drop i) ≠ 0)
  | 0, i, h => by
    refine ⟨-1, Ev.step (f := fun _ => some (-1)) (fun k => ?_) (Ev.now _), ?_⟩
    · rw [slices_IndexFunc_int64_int64.l0, if_neg (by omega)]
    · rw [List.drop_of_length_le (by omega)]; simp [firstBad]
  | d + 1, i, h => by
    have hi : i < p.length := by omega
    obtain ⟨t, ht, hq⟩ := index_ev p hp d (i + 1) (by omega)
    rw [List.drop_eq_getElem_cons hi, firstBad]
    by_cases hb : 1 ≤ p[i] ∧ p[i] ≤ 65535
    · refine ⟨t, Ev.step (f := fun k => slices_IndexFunc_int64_int64.l0 k p (p.length : Int) ((i + 1 : Nat) : Int)) (fun k => ?_) ht, ?_⟩
      · rw [slices_IndexFunc_int64_int64.l0, if_pos (by omega), if_pos (by omega), if_pos (by omega), w64 (by omega) (by omega), rd_lt hi]
        unfold impl_AttrsFault_1.f impl_isSystem.f
        simp only [in_impl, in_spec, Option.bind_some]
        rw [if_neg (by simp [hb])]
        rfl
      · rw [if_pos (by unfold sysM; rw [if_pos hb])]; exact hq
    · refine ⟨(i : Int), Ev.step (f := fun k => some (i : Int)) (fun k => ?_) (Ev.now _), ?_⟩
      · rw [slices_IndexFunc_int64_int64.l0, if_pos (by omega), if_pos (by omega), if_pos (by omega), rd_lt hi]
        unfold impl_AttrsFault_1.f impl_isSystem.f
        simp only [in_impl, in_spec, Option.bind_some]
        rw [if_pos (by simp only [Bool.not_eq_true', decide_eq_false_iff_not]; exact hb)]
      · have e : sysM p[i] = 3 := by unfold sysM; rw [if_neg hb]
        rw [e, if_neg (by omega)]
        simp
theorem impl_attrs_ev (o : Int) (p : List Int) (n m l : Int) (hp : p.length ≤ 1048576) : Ev (fun k => impl_AttrsFault.f k o p n m l) (attrsM o p n m l) := by
  obtain ⟨t, ht, hq⟩ := index_ev p hp p.length 0 (by omega)
  rw [List.drop_zero] at hq
  have hc : Ev (fun k => slices_ContainsFunc_int64_int64.f k p) (decide (t ≥ 0)) := by
    unfold slices_ContainsFunc_int64_int64.f slices_IndexFunc_int64_int64.f
    exact ev_bind ht (Ev.now _)
  have hj : Ev (fun k => impl_AttrsFault.j0 k false o p n m l) (if (p.length : Int) > 6 then 2 else firstBad sysM p) := by
    refine Ev.step (f := fun k => if (p.length : Int) > 6 then some 2 else ((slices_ContainsFunc_int64_int64.f k p).bind fun t198 => (if t198 = true then (some 3) else (some 0)))) (fun k => ?_) (ev_ite (fun _ => Ev.now _) (fun _ => ev_bind hc ?_))
    · rw [impl_AttrsFault.j0, if_neg (by simp)]
    · by_cases h : firstBad sysM p = 0
      · rw [h]
        exact ev_neg (by simp only [decide_eq_true_eq]; intro z; exact hq.1 z h) (Ev.now _)
      · have e : firstBad sysM p = 3 := (sysM_or p).resolve_left h
        rw [e]
        exact ev_pos (by simp only [decide_eq_true_eq]; exact hq.2 h) (Ev.now _)
  have htt : Ev (fun k => impl_AttrsFault.j0 k true o p n m l) 3 := by
    refine Ev.step (f := fun k => some 3) (fun k => ?_) (Ev.now _)
    rw [impl_AttrsFault.j0, if_pos rfl]
  unfold impl_AttrsFault.f attrsM impl_isTwo.f impl_isAddr.f
  simp only [in_impl, in_spec, Option.bind_some, decide_eq_true_eq]
  by_cases h1 : 0 ≤ o ∧ o ≤ 2
  · refine ev_pos h1 ?_
    by_cases h2 : 0 ≤ n ∧ n ≤ 65535
    · refine ev_pos h2 ?_
      by_cases h3 : 0 ≤ m ∧ m ≤ 65535
      · refine ev_pos h3 ?_
        by_cases h4 : 0 ≤ l ∧ l ≤ 65535
        · rw [if_pos ⟨h1, h2, h3, h4⟩]
          simpa [h4] using hj
        · rw [if_neg (fun z => h4 z.2.2.2)]
          have e : (!decide (0 ≤ l ∧ l ≤ 65535)) = true := by simp; omega
          rw [e]
          exact htt
      · rw [if_neg (fun z => h3 z.2.2.1)]
        exact ev_neg h3 htt
    · rw [if_neg (fun z => h2 z.2.1)]
      exact ev_neg h2 htt
  · rw [if_neg (fun z => h1 z.1)]
    exact ev_neg h1 htt

theorem grow_prefixes (n : Int) (h0 : 0 ≤ n) (h1 : n ≤ 4194304) : impl_Prefix_131.f n = some [] := by
  unfold impl_Prefix_131.f
  rw [if_neg (by omega), w64 (by omega) (by omega)]
  by_cases h : n > 0
  · rw [if_pos h, if_pos h0, if_pos (by simp only [List.length_nil]; omega)]
    simp only [Option.bind_some]
    rw [if_pos (by omega)]
    simp
  · rw [if_neg h]
theorem concat_prefixes_ev (a b : List S91) (ha : a.length ≤ 1048576) (hb : b.length ≤ 1048576) : Ev (fun k => impl_Prefix_73.f k [a, b]) (a ++ b) := by
  refine ev_from 6 (fun k => ?_)
  have r0 : rd_L4 [a, b] 0 = a := rfl
  have r1 : rd_L4 [a, b] 1 = b := rfl
  have e0 : wrap64 (0 + (a.length : Int)) = (a.length : Int) := by rw [w64 (by omega) (by omega)]; omega
  have e1 : wrap64 ((a.length : Int) + (b.length : Int)) = (a.length : Int) + (b.length : Int) := by rw [w64 (by omega) (by omega)]
  have w1 : wrap64 ((0 : Int) + 1) = 1 := by rw [w64 (by omega) (by omega)]; rfl
  have w2 : wrap64 ((1 : Int) + 1) = 2 := by rw [w64 (by omega) (by omega)]; rfl
  have L : (([a, b] : List (List S91)).length : Int) = 2 := rfl
  unfold impl_Prefix_73.f
  rw [L, show k + 6 = k + 5 + 1 from rfl, impl_Prefix_73.l0, L, r0, if_pos (by omega), if_pos (by omega), if_pos (by omega), e0, if_neg (by omega), w1]
  rw [show k + 5 = k + 4 + 1 from rfl, impl_Prefix_73.l0, L, r1, if_pos (by omega), if_pos (by omega), if_pos (by omega), e1, if_neg (by omega), w2]
  rw [show k + 4 = k + 3 + 1 from rfl, impl_Prefix_73.l0, if_neg (by omega), grow_prefixes _ (by omega) (by omega)]
  simp only [Option.bind_some]
  rw [L, show k + 3 = k + 2 + 1 from rfl, impl_Prefix_73.l1, L, r0, if_pos (by omega), if_pos (by omega), if_pos (by omega), if_pos (by simp only [List.length_nil]; omega), w1]
  rw [show k + 2 = k + 1 + 1 from rfl, impl_Prefix_73.l1, L, r1, if_pos (by omega), if_pos (by omega), if_pos (by omega), if_pos (by simp only [List.length_append, List.length_nil]; omega), w2]
  rw [impl_Prefix_73.l1, if_neg (by omega)]
  simp

def zeroM (o : Int) (p : List Int) (n m l : Int) : Bool := decide (o = 0 ∧ (p.length : Int) = 0 ∧ n = 0 ∧ m = 0 ∧ l = 0)
theorem spec_zero (o : Int) (p : List Int) (n m l : Int) : spec_l3Zero.f o p n m l = some (zeroM o p n m l) := by
  unfold spec_l3Zero.f zeroM
  repeat' split
  all_goals simp_all
  rw [Bool.eq_iff_iff]; simp
theorem impl_zero : impl_Attrs_isZero.f = spec_l3Zero.f := rfl
def shapeM (has : Bool) (o : Int) (p : List Int) (n m l : Int) (a : List S91) : Bool :=
  if has = true then ((a.length : Int) == 0) else (if (a.length : Int) > 0 then true else (if zeroM o p n m l = true then false else true))
def tailM (has : Bool) (o : Int) (p : List Int) (n m l : Int) (bad : Bool) : Int := if bad = true then 1 else (if has = true then attrsM o p n m l else 0)
def updM (w : List S91) (has : Bool) (o : Int) (p : List Int) (n m l : Int) (a : List S91) : Int :=
  if (w.length : Int) > 8 ∨ (a.length : Int) > 8 then 2 else (if prefsM (w ++ a) = 0 then tailM has o p n m l (shapeM has o p n m l a) else prefsM (w ++ a))
theorem spec_update_j1 (x : Bool) (w : List S91) (has : Bool) (o : Int) (p : List Int) (n m l : Int) (a : List S91) (hp : p.length ≤ 1048576) : Ev (fun k => spec_UpdateFault.j1 k x w has o p n m l a) (tailM has o p n m l x) := by
  refine Ev.step (f := fun k => if x = true then (some 1) else (if has = true then ((spec_AttrsFault.f k o p n m l).bind fun t127 => (some t127)) else (some 0))) (fun k => ?_) ?_
  · rw [spec_UpdateFault.j1]
  · exact ev_ite (fun _ => Ev.now _) (fun _ => ev_ite (fun _ => ev_bind (spec_attrs_ev o p n m l hp) (Ev.now _)) (fun _ => Ev.now _))
theorem impl_update_j1 (x : Bool) (w : List S91) (has : Bool) (o : Int) (p : List Int) (n m l : Int) (a : List S91) (hp : p.length ≤ 1048576) : Ev (fun k => impl_UpdateFault.j1 k x w has o p n m l a) (tailM has o p n m l x) := by
  refine Ev.step (f := fun k => if x = true then (some 1) else (if has = true then ((impl_AttrsFault.f k o p n m l).bind fun t127 => (some t127)) else (some 0))) (fun k => ?_) ?_
  · rw [impl_UpdateFault.j1]
  · exact ev_ite (fun _ => Ev.now _) (fun _ => ev_ite (fun _ => ev_bind (impl_attrs_ev o p n m l hp) (Ev.now _)) (fun _ => Ev.now _))
theorem spec_shape (w : List S91) (has : Bool) (o : Int) (p : List Int) (n m l : Int) (a : List S91) (hp : p.length ≤ 1048576) :
    Ev (fun k => if has = true then spec_UpdateFault.j1 k ((a.length : Int) == 0) w has o p n m l a else (if (a.length : Int) > 0 then spec_UpdateFault.j1 k true w has o p n m l a else ((spec_l3Zero.f o p n m l).bind fun t => if t = true then spec_UpdateFault.j1 k false w has o p n m l a else spec_UpdateFault.j1 k true w has o p n m l a))) (tailM has o p n m l (shapeM has o p n m l a)) := by
  unfold shapeM
  by_cases h1 : has = true
  · rw [if_pos h1]; exact ev_pos h1 (spec_update_j1 _ w has o p n m l a hp)
  · rw [if_neg h1]
    refine ev_neg h1 ?_
    by_cases h2 : (a.length : Int) > 0
    · rw [if_pos h2]; exact ev_pos h2 (spec_update_j1 _ w has o p n m l a hp)
    · rw [if_neg h2]
      refine ev_neg h2 (ev_val (spec_zero o p n m l) ?_)
      by_cases h3 : zeroM o p n m l = true
      · rw [if_pos h3]; exact ev_pos h3 (spec_update_j1 _ w has o p n m l a hp)
      · rw [if_neg h3]; exact ev_neg h3 (spec_update_j1 _ w has o p n m l a hp)
theorem impl_shape (w : List S91) (has : Bool) (o : Int) (p : List Int) (n m l : Int) (a : List S91) (hp : p.length ≤ 1048576) :
    Ev (fun k => if has = true then impl_UpdateFault.j1 k ((a.length : Int) == 0) w has o p n m l a else (if (a.length : Int) > 0 then impl_UpdateFault.j1 k true w has o p n m l a else ((impl_Attrs_isZero.f o p n m l).bind fun t => if t = true then impl_UpdateFault.j1 k false w has o p n m l a else impl_UpdateFault.j1 k true w has o p n m l a))) (tailM has o p n m l (shapeM has o p n m l a)) := by
  unfold shapeM
  by_cases h1 : has = true
  · rw [if_pos h1]; exact ev_pos h1 (impl_update_j1 _ w has o p n m l a hp)
  · rw [if_neg h1]
    refine ev_neg h1 ?_
    by_cases h2 : (a.length : Int) > 0
    · rw [if_pos h2]; exact ev_pos h2 (impl_update_j1 _ w has o p n m l a hp)
    · rw [if_neg h2]
      refine ev_neg h2 (ev_val (spec_zero o p n m l) ?_)
      by_cases h3 : zeroM o p n m l = true
      · rw [if_pos h3]; exact ev_pos h3 (impl_update_j1 _ w has o p n m l a hp)
      · rw [if_neg h3]; exact ev_neg h3 (impl_update_j1 _ w has o p n m l a hp)
theorem spec_update_ev (w : List S91) (has : Bool) (o : Int) (p : List Int) (n m l : Int) (a : List S91) (hp : p.length ≤ 1048576) : Ev (fun k => spec_UpdateFault.f k w has o p n m l a) (updM w has o p n m l a) := by
  have ht : Ev (fun k => spec_UpdateFault.j0 k true w has o p n m l a) 2 := by
    refine Ev.step (f := fun k => some 2) (fun k => ?_) (Ev.now _)
    rw [spec_UpdateFault.j0, if_pos rfl]
  unfold updM spec_UpdateFault.f
  by_cases h1 : (w.length : Int) > 8
  · rw [if_pos (Or.inl h1)]; exact ev_pos h1 ht
  · refine ev_neg h1 ?_
    by_cases h2 : (a.length : Int) > 8
    · rw [if_pos (Or.inr h2)]; simpa [h2] using ht
    · rw [if_neg (by omega)]
      simp only [h2, decide_false]
      refine Ev.step (fun k => by rw [spec_UpdateFault.j0, if_neg (by simp)]) ?_
      unfold prefsM
      rw [firstBad_append]
      refine ev_bind (spec_list_ev w (by omega)) ?_
      by_cases h3 : prefsM w = 0
      · refine ev_pos h3 (ev_bind (spec_list_ev a (by omega)) ?_)
        unfold prefsM at h3
        rw [if_pos h3]
        exact ev_ite (fun _ => spec_shape w has o p n m l a hp) (fun _ => Ev.now _)
      · refine ev_neg h3 ?_
        unfold prefsM at h3
        rw [if_neg h3, if_neg h3]
        exact Ev.now _
theorem impl_update_ev (w : List S91) (has : Bool) (o : Int) (p : List Int) (n m l : Int) (a : List S91) (hp : p.length ≤ 1048576) : Ev (fun k => impl_UpdateFault.f k w has o p n m l a) (updM w has o p n m l a) := by
  have ht : Ev (fun k => impl_UpdateFault.j0 k true w has o p n m l a) 2 := by
    refine Ev.step (f := fun k => some 2) (fun k => ?_) (Ev.now _)
    rw [impl_UpdateFault.j0, if_pos rfl]
  unfold updM impl_UpdateFault.f
  by_cases h1 : (w.length : Int) > 8
  · rw [if_pos (Or.inl h1)]; exact ev_pos h1 ht
  · refine ev_neg h1 ?_
    by_cases h2 : (a.length : Int) > 8
    · rw [if_pos (Or.inr h2)]; simpa [h2] using ht
    · rw [if_neg (by omega)]
      simp only [h2, decide_false]
      refine Ev.step (fun k => by rw [impl_UpdateFault.j0, if_neg (by simp)]) ?_
      refine ev_bind (concat_prefixes_ev w a (by omega) (by omega)) (ev_bind (impl_list_ev (w ++ a) (by simp; omega)) ?_)
      exact ev_ite (fun _ => impl_shape w has o p n m l a hp) (fun _ => Ev.now _)

theorem szUpdate_yes (w : List S153) (has : Bool) (o : Int) (p : List Int) (n m l : Int) (a : List S153) (hz : w.length + p.length + a.length ≤ 1048576) : laws_szUpdate.f w has o p n m l a 1048576 = some (1048576 - (w.length : Int) - (p.length : Int) - (a.length : Int)) := by
  unfold laws_szUpdate.f laws_szPrefixS.f laws_szAttrs.f laws_szInt64S.f
  rw [w64 (by omega) (by omega), if_neg (by omega)]
  simp only [Option.bind_some]
  rw [if_neg (by omega), w64 (by omega) (by omega), if_neg (by omega)]
  simp only [Option.bind_some]
  rw [if_neg (by omega)]
  simp only [Option.bind_some]
  rw [if_neg (by omega), w64 (by omega) (by omega), if_neg (by omega)]
  simp only [Option.bind_some]
  rw [if_neg (by omega)]
theorem szUpdate_no (w : List S153) (has : Bool) (o : Int) (p : List Int) (n m l : Int) (a : List S153) (hw : w.length ≤ 9223372036854775807) (hp : p.length ≤ 9223372036854775807) (ha : a.length ≤ 9223372036854775807) (hz : ¬ w.length + p.length + a.length ≤ 1048576) : laws_szUpdate.f w has o p n m l a 1048576 = some (-1) := by
  unfold laws_szUpdate.f laws_szPrefixS.f laws_szAttrs.f laws_szInt64S.f
  rw [w64 (by omega) (by omega)]
  by_cases h1 : (1048576 : Int) - (w.length : Int) < 0
  · rw [if_pos h1]; rfl
  · rw [if_neg h1]
    simp only [Option.bind_some]
    rw [if_neg h1, w64 (by omega) (by omega)]
    by_cases h2 : (1048576 : Int) - (w.length : Int) - (p.length : Int) < 0
    · rw [if_pos h2]; rfl
    · rw [if_neg h2]
      simp only [Option.bind_some]
      rw [if_neg h2]
      simp only [Option.bind_some]
      rw [if_neg h2, w64 (by omega) (by omega), if_pos (show (1048576 : Int) - (w.length : Int) - (p.length : Int) - (a.length : Int) < 0 by omega)]
      rfl
abbrev UR := List S91 × Bool × Int × List Int × Int × Int × Int × List S91
theorem toUpdate_ev (w : List S153) (has : Bool) (o : Int) (p : List Int) (n m l : Int) (a : List S153) (hw : w.length ≤ 1048576) (hp : p.length ≤ 1048576) (ha : a.length ≤ 1048576) : Ev (fun k => laws_toUpdate.f k w has o p n m l a) (w.map cP, has, o, p, n, m, l, a.map cP) := by
  unfold laws_toUpdate.f laws_toAttrs.f
  exact ev_bind (toPrefixS_ev w hw) (ev_bind (ev_bind (toInt64S_ev p hp) (Ev.now _)) (ev_bind (toPrefixS_ev a ha) (Ev.now _)))
theorem eqUpdate_ev (w : List S91) (has : Bool) (o : Int) (p : List Int) (n m l : Int) (a : List S91) (hw : w.length ≤ 1048576) (hp : p.length ≤ 1048576) (ha : a.length ≤ 1048576) : Ev (fun k => laws_eqUpdate.f k w has o p n m l a w has o p n m l a) true := by
  unfold laws_eqUpdate.f laws_eqAttrs.f
  exact ev_bind (eqPrefixS_ev w hw) (ev_pos rfl (ev_neg (by simp) (ev_bind (ev_pos rfl (ev_bind (eqInt64S_ev p hp) (ev_pos rfl (ev_pos rfl (ev_pos rfl (ev_pos rfl (Ev.now _))))))) (ev_pos rfl (ev_bind (eqPrefixS_ev a ha) (ev_pos rfl (Ev.now _)))))))

def openZ (a h i : Int) : Bool := if a = 0 then (if h = 0 then i == 0 else false) else false
def whyZ (y s : Int) : Bool := if y = 0 then s == 0 else false
def zeroU (w : List S91) (has : Bool) (o : Int) (p : List Int) (n m l : Int) (a : List S91) : Bool := if (w.length : Int) = 0 then (if (a.length : Int) = 0 then (if has = true then false else zeroM o p n m l) else false) else false
def bareB (kind : Int) (oz wz z : Bool) : Bool := if kind = 1 then (wz && z) else (if kind = 3 then (oz && z) else (if kind = 2 then (oz && wz) else (oz && (wz && z))))
def bodyM (kind : Int) (oz wz z : Bool) (u : Int) : Int := if bareB kind oz wz z = true then (if kind = 2 then u else 0) else 1
def openOk (a h i : Int) : Bool := if 1 ≤ a ∧ a ≤ 65535 then (if h = 0 ∨ (3 ≤ h ∧ h ≤ 200) then decide (1 ≤ i ∧ i ≤ 65535) else false) else false
def whyOk (y s : Int) : Bool := if 1 ≤ y ∧ y ≤ 6 then decide (0 ≤ s ∧ s ≤ 20) else false
def msgM (kind sy hold id why sub : Int) (w : List S91) (has : Bool) (o : Int) (p : List Int) (n m l : Int) (a : List S91) : Int :=
  if 1 ≤ kind ∧ kind ≤ 4 then (if kind = 1 ∧ openOk sy hold id = false then 3 else (if kind = 3 ∧ whyOk why sub = false then 3 else bodyM kind (openZ sy hold id) (whyZ why sub) (zeroU w has o p n m l a) (updM w has o p n m l a))) else 1
theorem spec_zeroU (w : List S91) (has : Bool) (o : Int) (p : List Int) (n m l : Int) (a : List S91) : spec_l4Zero.f w has o p n m l a = some (zeroU w has o p n m l a) := by
  unfold spec_l4Zero.f zeroU
  rw [spec_zero]
  repeat' split
  all_goals rfl
theorem impl_zeroU (w : List S91) (has : Bool) (o : Int) (p : List Int) (n m l : Int) (a : List S91) : impl_Update_isZero.f w has o p n m l a = some (zeroU w has o p n m l a) := by
  unfold impl_Update_isZero.f zeroU
  rw [impl_zero, spec_zero]
  simp only [Option.bind_some]
  by_cases h1 : (w.length : Int) = 0
  · rw [if_pos h1, if_pos h1]
    by_cases h2 : has = true
    · rw [if_pos h2, if_pos h2]; split <;> rfl
    · rw [if_neg h2, if_neg h2]
      by_cases h3 : (a.length : Int) = 0
      · rw [if_pos h3]
        have e : ((a.length : Int) == 0) = true := beq_iff_eq.mpr h3
        rw [e]
        cases zeroM o p n m l <;> rfl
      · rw [if_neg h3]
        have e : ((a.length : Int) == 0) = false := beq_eq_false_iff_ne.mpr h3
        rw [e]
        cases zeroM o p n m l <;> rfl
  · rw [if_neg h1, if_neg h1]
theorem zeroU_upd (w : List S91) (has : Bool) (o : Int) (p : List Int) (n m l : Int) (a : List S91) (h : zeroU w has o p n m l a = true) : updM w has o p n m l a = 0 := by
  unfold zeroU at h
  by_cases h1 : (w.length : Int) = 0
  · rw [if_pos h1] at h
    by_cases h3 : (a.length : Int) = 0
    · rw [if_pos h3] at h
      by_cases h2 : has = true
      · rw [if_pos h2] at h; cases h
      · rw [if_neg h2] at h
        have hw : w = [] := List.eq_nil_of_length_eq_zero (by omega)
        have ha : a = [] := List.eq_nil_of_length_eq_zero (by omega)
        subst hw ha
        simp [updM, prefsM, firstBad, tailM, shapeM, h2, h]
    · rw [if_neg h3] at h; cases h
  · rw [if_neg h1] at h; cases h
theorem bare_ev (kind sy hold id why sub : Int) (w : List S91) (has : Bool) (o : Int) (p : List Int) (n m l : Int) (a : List S91) : Ev (fun k => spec_l4Bare.f k kind sy hold id why sub w has o p n m l a) (bareB kind (openZ sy hold id) (whyZ why sub) (zeroU w has o p n m l a)) := by
  have e1 : ∀ k x3 x4, spec_l4Bare.j1 (k + 1) x3 x4 kind sy hold id why sub w has o p n m l a = some (bareB kind x3 x4 (zeroU w has o p n m l a)) := by
    intro k x3 x4
    rw [spec_l4Bare.j1, spec_zeroU]
    unfold bareB
    simp only [Option.bind_some]
    repeat' split
    all_goals simp_all
  have e0 : ∀ k x3, spec_l4Bare.j0 (k + 2) x3 kind sy hold id why sub w has o p n m l a = some (bareB kind x3 (whyZ why sub) (zeroU w has o p n m l a)) := by
    intro k x3
    rw [show k + 2 = k + 1 + 1 from rfl, spec_l4Bare.j0, e1, e1]
    unfold whyZ
    split <;> rfl
  refine ev_from 2 (fun k => ?_)
  unfold spec_l4Bare.f openZ
  rw [e0, e0]
  repeat' split
  all_goals rfl
theorem spec_msg_j1 (x : Bool) (kind sy hold id why sub : Int) (w : List S91) (has : Bool) (o : Int) (p : List Int) (n m l : Int) (a : List S91) (hp : p.length ≤ 1048576) :
    Ev (fun k => spec_MessageFault.j1 k x kind sy hold id why sub w has o p n m l a) (if x = true then 3 else bodyM kind (openZ sy hold id) (whyZ why sub) (zeroU w has o p n m l a) (updM w has o p n m l a)) := by
  refine Ev.step (fun k => by rw [spec_MessageFault.j1]) ?_
  refine ev_ite (fun _ => Ev.now _) (fun _ => ev_bind (bare_ev kind sy hold id why sub w has o p n m l a) ?_)
  unfold bodyM
  exact ev_ite (fun _ => ev_ite (fun _ => ev_bind (spec_update_ev w has o p n m l a hp) (Ev.now _)) (fun _ => Ev.now _)) (fun _ => Ev.now _)
theorem spec_msg_j0 (x : Bool) (kind sy hold id why sub : Int) (w : List S91) (has : Bool) (o : Int) (p : List Int) (n m l : Int) (a : List S91) (hp : p.length ≤ 1048576) :
    Ev (fun k => spec_MessageFault.j0 k x kind sy hold id why sub w has o p n m l a) (if x = true then 3 else (if kind = 3 ∧ whyOk why sub = false then 3 else bodyM kind (openZ sy hold id) (whyZ why sub) (zeroU w has o p n m l a) (updM w has o p n m l a))) := by
  have hj := fun x => spec_msg_j1 x kind sy hold id why sub w has o p n m l a hp
  refine Ev.step (fun k => by rw [spec_MessageFault.j0]) ?_
  refine ev_ite (fun _ => Ev.now _) (fun _ => ?_)
  simp only [in_spec, Option.bind_some, decide_eq_true_eq]
  by_cases h3 : kind = 3
  · refine ev_pos h3 ?_
    by_cases h4 : 1 ≤ why ∧ why ≤ 6
    · refine ev_pos h4 (ev_eq (hj _) ?_)
      unfold whyOk
      rw [if_pos h4]
      by_cases h5 : 0 ≤ sub ∧ sub ≤ 20 <;> simp [h5, h3]
    · refine ev_neg h4 (ev_eq (hj _) ?_)
      unfold whyOk
      rw [if_neg h4]
      simp [h3]
  · refine ev_neg h3 (ev_eq (hj _) ?_)
    simp [h3]
theorem spec_msg_ev (kind sy hold id why sub : Int) (w : List S91) (has : Bool) (o : Int) (p : List Int) (n m l : Int) (a : List S91) (hp : p.length ≤ 1048576) :
    Ev (fun k => spec_MessageFault.f k kind sy hold id why sub w has o p n m l a) (msgM kind sy hold id why sub w has o p n m l a) := by
  have hj := fun x => spec_msg_j0 x kind sy hold id why sub w has o p n m l a hp
  unfold spec_MessageFault.f msgM
  simp only [in_spec, Option.bind_some, decide_eq_true_eq]
  refine ev_ite (fun _ => ?_) (fun _ => Ev.now _)
  by_cases h1 : kind = 1
  · refine ev_pos h1 ?_
    by_cases h2 : 1 ≤ sy ∧ sy ≤ 65535
    · refine ev_pos h2 ?_
      have eh : spec_l4Hold.f hold = some (decide (hold = 0 ∨ (3 ≤ hold ∧ hold ≤ 200))) := by
        unfold spec_l4Hold.f
        rw [in_spec]
        simp only [Option.bind_some]
        by_cases hh : hold = 0 <;> simp [hh]
      rw [eh]
      simp only [Option.bind_some, decide_eq_true_eq]
      by_cases h3 : hold = 0 ∨ (3 ≤ hold ∧ hold ≤ 200)
      · refine ev_pos h3 (ev_eq (hj _) ?_)
        unfold openOk
        rw [if_pos h2, if_pos h3]
        by_cases h5 : 1 ≤ id ∧ id ≤ 65535 <;> simp [h5, h1]
      · refine ev_neg h3 (ev_eq (hj _) ?_)
        unfold openOk
        rw [if_pos h2, if_neg h3]
        simp [h1]
    · refine ev_neg h2 (ev_eq (hj _) ?_)
      unfold openOk
      rw [if_neg h2]
      simp [h1]
  · refine ev_neg h1 (ev_eq (hj _) ?_)
    simp [h1]
theorem impl_msg_j3 (x : Bool) (kind sy hold id why sub : Int) (w : List S91) (has : Bool) (o : Int) (p : List Int) (n m l : Int) (a : List S91) (hp : p.length ≤ 1048576) :
    Ev (fun k => impl_MessageFault.j3 k x kind sy hold id why sub w has o p n m l a) (if x = true then 1 else (if kind = 2 then updM w has o p n m l a else (if zeroU w has o p n m l a = true then updM w has o p n m l a else 1))) := by
  refine Ev.step (fun k => by rw [impl_MessageFault.j3]) ?_
  refine ev_ite (fun _ => Ev.now _) (fun _ => ev_ite (fun _ => ev_bind (impl_update_ev w has o p n m l a hp) (Ev.now _)) (fun _ => ev_val (impl_zeroU w has o p n m l a) (ev_ite (fun _ => ev_bind (impl_update_ev w has o p n m l a hp) (Ev.now _)) (fun _ => Ev.now _))))
theorem impl_msg_j2 (x : Bool) (kind sy hold id why sub : Int) (w : List S91) (has : Bool) (o : Int) (p : List Int) (n m l : Int) (a : List S91) (hp : p.length ≤ 1048576) :
    Ev (fun k => impl_MessageFault.j2 k x kind sy hold id why sub w has o p n m l a) (if x = true then 1 else (if (if kind = 3 then false else !(whyZ why sub)) = true then 1 else (if kind = 2 then updM w has o p n m l a else (if zeroU w has o p n m l a = true then updM w has o p n m l a else 1)))) := by
  have hj := fun x => impl_msg_j3 x kind sy hold id why sub w has o p n m l a hp
  refine Ev.step (fun k => by rw [impl_MessageFault.j2]) ?_
  refine ev_ite (fun _ => Ev.now _) (fun _ => ?_)
  by_cases h3 : kind = 3
  · rw [if_pos h3]; exact ev_pos h3 (hj _)
  · rw [if_neg h3]
    refine ev_neg h3 ?_
    unfold whyZ
    by_cases h4 : why = 0
    · rw [if_pos h4]; exact ev_pos h4 (hj _)
    · rw [if_neg h4]; exact ev_neg h4 (hj _)
theorem impl_msg_j1 (x : Bool) (kind sy hold id why sub : Int) (w : List S91) (has : Bool) (o : Int) (p : List Int) (n m l : Int) (a : List S91) (hp : p.length ≤ 1048576) :
    Ev (fun k => impl_MessageFault.j1 k x kind sy hold id why sub w has o p n m l a) (if x = true then 3 else bodyM kind (openZ sy hold id) (whyZ why sub) (zeroU w has o p n m l a) (updM w has o p n m l a)) := by
  have hj := fun x => impl_msg_j2 x kind sy hold id why sub w has o p n m l a hp
  have hu := zeroU_upd w has o p n m l a
  refine Ev.step (fun k => by rw [impl_MessageFault.j1]) ?_
  refine ev_ite (fun _ => Ev.now _) (fun _ => ?_)
  have key : Ev (fun k => impl_MessageFault.j2 k (if kind = 1 then false else !(openZ sy hold id)) kind sy hold id why sub w has o p n m l a) (bodyM kind (openZ sy hold id) (whyZ why sub) (zeroU w has o p n m l a) (updM w has o p n m l a)) := by
    refine ev_eq (hj _) ?_
    unfold bodyM bareB
    generalize zeroU w has o p n m l a = z at *
    generalize updM w has o p n m l a = u at *
    generalize openZ sy hold id = oz
    generalize whyZ why sub = wz
    by_cases k1 : kind = 1
    · have k2 : ¬ kind = 2 := by omega
      have k3 : ¬ kind = 3 := by omega
      cases oz <;> cases wz <;> cases z <;> simp_all
    · by_cases k3 : kind = 3
      · have k2 : ¬ kind = 2 := by omega
        cases oz <;> cases wz <;> cases z <;> simp_all
      · by_cases k2 : kind = 2
        · cases oz <;> cases wz <;> cases z <;> simp_all
        · cases oz <;> cases wz <;> cases z <;> simp_all
  by_cases h1 : kind = 1
  · rw [if_pos h1] at key; exact ev_pos h1 key
  · rw [if_neg h1] at key
    refine ev_neg h1 ?_
    unfold openZ at key ⊢
    by_cases h2 : sy = 0
    · rw [if_pos h2] at key ⊢
      refine ev_pos h2 ?_
      by_cases h3 : hold = 0
      · rw [if_pos h3] at key ⊢; exact ev_pos h3 key
      · rw [if_neg h3] at key ⊢; exact ev_neg h3 key
    · rw [if_neg h2] at key ⊢; exact ev_neg h2 key
theorem impl_msg_j0 (x : Bool) (kind sy hold id why sub : Int) (w : List S91) (has : Bool) (o : Int) (p : List Int) (n m l : Int) (a : List S91) (hp : p.length ≤ 1048576) :
    Ev (fun k => impl_MessageFault.j0 k x kind sy hold id why sub w has o p n m l a) (if x = true then 3 else (if kind = 3 ∧ whyOk why sub = false then 3 else bodyM kind (openZ sy hold id) (whyZ why sub) (zeroU w has o p n m l a) (updM w has o p n m l a))) := by
  have hj := fun x => impl_msg_j1 x kind sy hold id why sub w has o p n m l a hp
  refine Ev.step (fun k => by rw [impl_MessageFault.j0]) ?_
  refine ev_ite (fun _ => Ev.now _) (fun _ => ?_)
  have er : impl_areReasons.f why sub = some (whyOk why sub) := by
    unfold impl_areReasons.f whyOk
    simp only [in_impl, in_spec, Option.bind_some, decide_eq_true_eq]
    split <;> rfl
  rw [er]
  simp only [Option.bind_some]
  by_cases h3 : kind = 3
  · refine ev_pos h3 (ev_eq (hj _) ?_)
    cases whyOk why sub <;> simp [h3]
  · refine ev_neg h3 (ev_eq (hj _) ?_)
    simp [h3]
theorem impl_msg_ev (kind sy hold id why sub : Int) (w : List S91) (has : Bool) (o : Int) (p : List Int) (n m l : Int) (a : List S91) (hp : p.length ≤ 1048576) :
    Ev (fun k => impl_MessageFault.f k kind sy hold id why sub w has o p n m l a) (msgM kind sy hold id why sub w has o p n m l a) := by
  have hj := fun x => impl_msg_j0 x kind sy hold id why sub w has o p n m l a hp
  unfold impl_MessageFault.f msgM impl_isSystem.f
  simp only [in_impl, in_spec, Option.bind_some, decide_eq_true_eq]
  refine ev_ite (fun _ => ?_) (fun _ => Ev.now _)
  by_cases h1 : kind = 1
  · refine ev_pos h1 ?_
    by_cases h2 : 1 ≤ sy ∧ sy ≤ 65535
    · refine ev_pos h2 ?_
      have eh : impl_isHold.f hold = some (decide (hold = 0 ∨ (3 ≤ hold ∧ hold ≤ 200))) := by
        unfold impl_isHold.f
        rw [in_impl, in_spec]
        simp only [Option.bind_some]
        by_cases hh : hold = 0 <;> simp [hh]
      rw [eh]
      simp only [Option.bind_some, decide_eq_true_eq]
      by_cases h3 : hold = 0 ∨ (3 ≤ hold ∧ hold ≤ 200)
      · refine ev_pos h3 (ev_eq (hj _) ?_)
        unfold openOk
        rw [if_pos h2, if_pos h3]
        by_cases h5 : 1 ≤ id ∧ id ≤ 65535 <;> simp [h5, h1]
      · refine ev_neg h3 (ev_eq (hj _) ?_)
        unfold openOk
        rw [if_pos h2, if_neg h3]
        simp [h1]
    · refine ev_neg h2 (ev_eq (hj _) ?_)
      unfold openOk
      rw [if_neg h2]
      simp [h1]
  · refine ev_neg h1 (ev_eq (hj _) ?_)
    simp [h1]
theorem toMessage_ev (kind sy hold id why sub : Int) (w : List S153) (has : Bool) (o : Int) (p : List Int) (n m l : Int) (a : List S153) (hw : w.length ≤ 1048576) (hp : p.length ≤ 1048576) (ha : a.length ≤ 1048576) : Ev (fun k => laws_toMessage.f k kind sy hold id why sub w has o p n m l a) (kind, sy, hold, id, why, sub, w.map cP, has, o, p, n, m, l, a.map cP) := by
  unfold laws_toMessage.f
  exact ev_bind (toUpdate_ev w has o p n m l a hw hp ha) (Ev.now _)
theorem eqMessage_ev (kind sy hold id why sub : Int) (w : List S91) (has : Bool) (o : Int) (p : List Int) (n m l : Int) (a : List S91) (hw : w.length ≤ 1048576) (hp : p.length ≤ 1048576) (ha : a.length ≤ 1048576) : Ev (fun k => laws_eqMessage.f k kind sy hold id why sub w has o p n m l a kind sy hold id why sub w has o p n m l a) true := by
  unfold laws_eqMessage.f
  exact ev_pos rfl (ev_pos rfl (ev_pos rfl (ev_pos rfl (ev_pos rfl (ev_pos rfl (ev_bind (eqUpdate_ev w has o p n m l a hw hp ha) (ev_pos rfl (Ev.now _))))))))

theorem markPrefix_loop : ∀ (d i : Nat) (xs : List S91) (m : Int), i + d = xs.length → xs.length ≤ 1048576 → 0 ≤ m → m ≤ 1000000000 + 2 * (i : Int) → ∃ ys, Ev (fun k => laws_markPrefixS.l0 k xs m (i : Int)) (m + 2 * (d : Int), ys)
  | 0, i, xs, m, h, hx, h0, h1 => by
    refine ⟨xs, Ev.step (f := fun _ => some (m, xs)) (fun k => ?_) (ev_eq (Ev.now _) (by simp))⟩
    rw [laws_markPrefixS.l0, if_neg (by omega)]
  | d + 1, i, xs, m, h, hx, h0, h1 => by
    obtain ⟨ys, hy⟩ := markPrefix_loop d (i + 1) ((xs.set i (⟨m, (rd_T91 xs (i : Int)).f1⟩ : S91)).set i (⟨(rd_T91 (xs.set i (⟨m, (rd_T91 xs (i : Int)).f1⟩ : S91)) (i : Int)).f0, m + 1⟩ : S91)) (m + 2) (by simp; omega) (by simpa using hx) (by omega) (by omega)
    refine ⟨ys, ev_eq (Ev.step (fun k => ?_) hy) (by congr 1; omega)⟩
    rw [laws_markPrefixS.l0, if_pos (by omega), if_pos (by omega), w64 (x := m + 1) (by omega) (by omega), w64 (x := m + 1 + 1) (by omega) (by omega), w64 (x := (i : Int) + 1) (by omega) (by omega)]
    simp only [Option.bind_some, Int.toNat_natCast]
    rw [show m + 1 + 1 = m + 2 by omega]
    rfl
theorem markPrefixS_ev (xs : List S91) (hx : xs.length ≤ 1048576) (m : Int) (h0 : 0 ≤ m) (h1 : m ≤ 1000000000) : ∃ ys, Ev (fun k => laws_markPrefixS.f k xs m) (m + 2 * (xs.length : Int), ys) := by
  obtain ⟨ys, hy⟩ := markPrefix_loop xs.length 0 xs m (by omega) hx h0 (by omega)
  exact ⟨ys, hy⟩
theorem markUpdate_ev (w : List S91) (has : Bool) (o : Int) (p : List Int) (n m l : Int) (a : List S91) (hw : w.length ≤ 1048576) (hp : p.length ≤ 1048576) (ha : a.length ≤ 1048576) (q : Int) (h0 : 0 ≤ q) (h1 : q ≤ 10000000) :
    ∃ ys ps zs, Ev (fun k => laws_markUpdate.f k w has o p n m l a q) (q + 2 * (w.length : Int) + (p.length : Int) + 2 * (a.length : Int), ys, ps, zs) := by
  obtain ⟨ys, hy⟩ := markPrefixS_ev w hw q h0 (by omega)
  obtain ⟨zs, hz⟩ := markPrefixS_ev a ha (q + 2 * (w.length : Int) + (p.length : Int)) (by omega) (by omega)
  refine ⟨ys, marked id (q + 2 * (w.length : Int)) p.length, zs, ?_⟩
  unfold laws_markUpdate.f laws_markAttrs.f
  exact ev_bind hy (ev_bind (ev_bind (markInt64S_ev p hp (q + 2 * (w.length : Int)) (by omega) (by omega)) (Ev.now _)) (ev_bind hz (Ev.now _)))

/-- A loop that puts on. -/
theorem acc_loop {α ρ : Type} (f : α → List Int) (l : Nat → List Int → Int → Option ρ) (xs : List α) (acc0 : List Int) {r : ρ}
    (hstep : ∀ (i : Nat) (hi : i < xs.length) (acc : List Int) (r : ρ), acc = acc0 ++ (xs.take i).flatMap f → Ev (fun k => l k (acc ++ f xs[i]) ((i + 1 : Nat) : Int)) r → Ev (fun k => l k acc (i : Int)) r)
    (hend : Ev (fun k => l k (acc0 ++ xs.flatMap f) (xs.length : Int)) r) : Ev (fun k => l k acc0 0) r := by
  have h := for_loop (fun k o i => l k o i) xs.length (fun i => acc0 ++ (xs.take i).flatMap f) (r := r) (fun i hi r hr => hstep i hi _ r rfl (by
    rw [List.append_assoc, show (xs.take i).flatMap f ++ f xs[i] = (xs.take (i + 1)).flatMap f by rw [List.take_succ_eq_append_getElem hi, List.flatMap_append]; simp]; exact hr)) (by simpa using hend) xs.length 0 (by omega)
  simpa using h
theorem flat_len {α : Type} (f : α → List Int) (c : Nat) (hf : ∀ x, (f x).length = c) (xs : List α) : (xs.flatMap f).length = c * xs.length := by
  induction xs with
  | nil => simp
  | cons x t ih =>
    rw [List.flatMap_cons, List.length_append, hf, ih, List.length_cons, Nat.mul_succ]
    omega
def twoB (x : Int) : List Int := [(x / 256) % 256, x % 256]
theorem two_len (x : Int) : (twoB x).length = 2 := rfl
theorem two_spec_ev (x : Int) : Ev (fun k => spec_l1Bytes.f k x 2) (twoB x) := by
  refine ev_from 3 (fun k => ?_)
  have e1 : IntKind.u64.wrap (wrap64 (8 * 1)) = 8 := by decide +kernel
  have e0 : IntKind.u64.wrap (wrap64 (8 * 0)) = 0 := by decide +kernel
  have w1 : wrap64 (2 - 1) = 1 := by decide +kernel
  have w0 : wrap64 (1 - 1) = 0 := by decide +kernel
  have wm : wrap64 (0 - 1) = -1 := by decide +kernel
  have s8 : shr .i64 x 8 = x / 256 := by unfold shr; rfl
  have s0 : shr .i64 x 0 = x := by unfold shr; show x / 1 = x; exact Int.ediv_one x
  unfold spec_l1Bytes.f
  rw [w1, show k + 3 = k + 2 + 1 from rfl, spec_l1Bytes.l0, if_pos (by omega), e1, if_pos (by omega), if_pos (by simp), w0, s8]
  rw [show k + 2 = k + 1 + 1 from rfl, spec_l1Bytes.l0, if_pos (by omega), e0, if_pos (by omega), if_pos (by simp), wm, s0]
  rw [spec_l1Bytes.l0, if_neg (by omega)]
  rfl
theorem two_impl (l : List Int) (x : Int) (h : l.length ≤ 100000000) : impl_putTwo.f l x = some (l ++ twoB x) := by
  unfold impl_putTwo.f
  simp only [Option.bind_some]
  rw [if_pos (by simp; omega)]
  rfl
def prefB (x : S91) : List Int := twoB x.f0 ++ [x.f1 % 256]
theorem prefB_len (x : S91) : (prefB x).length = 3 := rfl
def prefsB (xs : List S91) : List Int := xs.flatMap prefB
theorem prefsB_len (xs : List S91) : (prefsB xs).length = 3 * xs.length := flat_len prefB 3 prefB_len xs
theorem take_len {α : Type} (f : α → List Int) (c : Nat) (hf : ∀ x, (f x).length = c) (xs : List α) (i : Nat) (hi : i ≤ xs.length) : ((xs.take i).flatMap f).length ≤ c * xs.length := by
  rw [flat_len f c hf, List.length_take, Nat.min_eq_left hi]
  exact Nat.mul_le_mul_left c hi
theorem prefixes_spec_ev (xs : List S91) (hx : xs.length ≤ 1048576) : Ev (fun k => spec_l3Prefixes.f k xs) (prefsB xs) := by
  unfold spec_l3Prefixes.f
  refine acc_loop prefB (fun k acc i => spec_l3Prefixes.l0 k xs acc i) xs [] (fun i hi acc r ha hr => ?_) ?_
  · have hl : acc.length ≤ 3 * xs.length := by rw [ha]; simpa using take_len prefB 3 prefB_len xs i (by omega)
    refine Ev.step (f := fun k => (spec_l1Bytes.f k (xs[i].f0) 2).bind fun t138 => (if acc.length + t138.length < 140737488355328 then ((some (acc ++ t138 : List Int)).bind fun y141 => ((some (([(xs[i].f1) % 256] : List Int) : List Int)).bind fun y145 => (if y141.length + y145.length < 140737488355328 then (spec_l3Prefixes.l0 k xs (y141 ++ y145) ((i + 1 : Nat) : Int)) else (none)))) else (none))) (fun k => ?_) (ev_bind (two_spec_ev _) (ev_pos (by rw [two_len]; omega) ?_))
    · rw [spec_l3Prefixes.l0, if_pos (by omega), if_pos (by omega), w64 (by omega) (by omega)]
      simp only [rd_T91, Int.toNat_natCast, getD_lt hi]
      rfl
    · simp only [Option.bind_some]
      refine ev_pos (by simp [two_len]; omega) ?_
      rw [List.append_assoc]
      exact hr
  · refine Ev.step (f := fun _ => some ([] ++ xs.flatMap prefB)) (fun k => ?_) (Ev.now _)
    rw [spec_l3Prefixes.l0, if_neg (by omega)]
theorem prefixes_impl_ev (acc0 : List Int) (xs : List S91) (hx : xs.length ≤ 1048576) (h0 : acc0.length ≤ 50000000) : Ev (fun k => impl_putPrefixes.f k acc0 xs) (acc0 ++ prefsB xs) := by
  unfold impl_putPrefixes.f
  refine acc_loop prefB (fun k acc i => impl_putPrefixes.l0 k acc xs (xs.length : Int) i) xs acc0 (fun i hi acc r ha hr => ?_) ?_
  · have hl : acc.length ≤ acc0.length + 3 * xs.length := by rw [ha, List.length_append]; have := take_len prefB 3 prefB_len xs i (by omega); omega
    refine Ev.step (f := fun k => impl_putPrefixes.l0 k (acc ++ prefB xs[i]) xs (xs.length : Int) ((i + 1 : Nat) : Int)) (fun k => ?_) hr
    rw [impl_putPrefixes.l0, if_pos (by omega), if_pos (by omega), if_pos (by omega), w64 (by omega) (by omega), two_impl _ _ (by omega)]
    simp only [rd_T91, Int.toNat_natCast, getD_lt hi, Option.bind_some]
    rw [if_pos (by simp [two_len]; omega), List.append_assoc]
    rfl
  · refine Ev.step (f := fun _ => some (acc0 ++ xs.flatMap prefB)) (fun k => ?_) (Ev.now _)
    rw [impl_putPrefixes.l0, if_neg (by omega)]

def attrB (o : Int) (p : List Int) (n m l : Int) (a : List S91) : List Int := p.flatMap twoB ++ [o % 256] ++ twoB n ++ twoB m ++ twoB l ++ prefsB a
def packB (w : List S91) (has : Bool) (o : Int) (p : List Int) (n m l : Int) (a : List S91) : List Int :=
  if has = true then ([(w.length : Int) % 256] ++ prefsB w ++ [(p.length : Int) % 256]) ++ p.flatMap twoB ++ [o % 256] ++ twoB n ++ twoB m ++ twoB l ++ prefsB a else [(w.length : Int) % 256] ++ prefsB w
theorem pack_spec_ev (w : List S91) (has : Bool) (o : Int) (p : List Int) (n m l : Int) (a : List S91) (hw : w.length ≤ 1048576) (hp : p.length ≤ 1048576) (ha : a.length ≤ 1048576) : Ev (fun k => spec_l3Pack.f k w has o p n m l a) (packB w has o p n m l a) := by
  have lw := prefsB_len w
  have la := prefsB_len a
  unfold spec_l3Pack.f packB
  simp only [Option.bind_some]
  refine ev_bind (prefixes_spec_ev w hw) (ev_pos (by simp [lw]; omega) ?_)
  refine ev_ite (fun _ => ev_pos (by simp [lw]; omega) ?_) (fun _ => Ev.now _)
  have lp := flat_len twoB 2 two_len p
  refine acc_loop twoB (fun k acc i => spec_l3Pack.l0 k acc i w has o p n m l a) p _ (fun i hi acc r hacc hr => ?_) ?_
  · have hl : acc.length ≤ 2 + 3 * w.length + 2 * p.length := by rw [hacc]; have := take_len twoB 2 two_len p i (by omega); simp only [List.length_append, List.length_cons, List.length_nil, lw]; omega
    refine Ev.step (f := fun k => (spec_l1Bytes.f k p[i] 2).bind fun t165 => (if acc.length + t165.length < 140737488355328 then (spec_l3Pack.l0 k (acc ++ t165) ((i + 1 : Nat) : Int) w has o p n m l a) else none)) (fun k => ?_) (ev_bind (two_spec_ev _) (ev_pos (by rw [two_len]; omega) hr))
    rw [spec_l3Pack.l0, if_pos (by omega), if_pos (by omega), w64 (by omega) (by omega), rd_lt hi]
    rfl
  · refine Ev.step (fun k => by rw [spec_l3Pack.l0, if_neg (by omega)]) ?_
    refine ev_pos (by simp [lw, lp]; omega) ?_
    simp only [Option.bind_some]
    refine ev_bind (two_spec_ev n) (ev_pos (by simp [lw, lp, two_len]; omega) (ev_bind (two_spec_ev m) (ev_pos (by simp [lw, lp, two_len]; omega) (ev_bind (two_spec_ev l) (ev_pos (by simp [lw, lp, two_len]; omega) (ev_bind (prefixes_spec_ev a ha) (ev_pos (by simp [lw, lp, la, two_len]; omega) (Ev.now _))))))))
theorem pack_impl_ev (w : List S91) (has : Bool) (o : Int) (p : List Int) (n m l : Int) (a : List S91) (hw : w.length ≤ 1048576) (hp : p.length ≤ 1048576) (ha : a.length ≤ 1048576) : Ev (fun k => impl_packUpdate.f k w has o p n m l a) (packB w has o p n m l a) := by
  have lw := prefsB_len w
  have la := prefsB_len a
  unfold impl_packUpdate.f packB
  refine ev_bind (prefixes_impl_ev _ w hw (by simp)) ?_
  refine ev_ite (fun _ => ev_pos (by simp [lw]; omega) ?_) (fun _ => Ev.now _)
  have lp := flat_len twoB 2 two_len p
  refine acc_loop twoB (fun k acc i => impl_packUpdate.l0 k acc p (p.length : Int) i w has o p n m l a) p _ (fun i hi acc r hacc hr => ?_) ?_
  · have hl : acc.length ≤ 2 + 3 * w.length + 2 * p.length := by rw [hacc]; have := take_len twoB 2 two_len p i (by omega); simp only [List.length_append, List.length_cons, List.length_nil, lw]; omega
    refine Ev.step (f := fun k => impl_packUpdate.l0 k (acc ++ twoB p[i]) p (p.length : Int) ((i + 1 : Nat) : Int) w has o p n m l a) (fun k => ?_) hr
    rw [impl_packUpdate.l0, if_pos (by omega), if_pos (by omega), if_pos (by omega), w64 (by omega) (by omega), rd_lt hi, two_impl _ _ (by omega)]
    rfl
  · refine Ev.step (fun k => by rw [impl_packUpdate.l0, if_neg (by omega)]) ?_
    refine ev_pos (by simp [lw, lp]; omega) ?_
    rw [two_impl _ n (by simp [lw, lp]; omega)]
    simp only [Option.bind_some]
    rw [two_impl _ m (by simp [lw, lp, two_len]; omega)]
    simp only [Option.bind_some]
    rw [two_impl _ l (by simp [lw, lp, two_len]; omega)]
    simp only [Option.bind_some]
    exact ev_bind (prefixes_impl_ev _ a ha (by simp [lw, lp, two_len]; omega)) (Ev.now _)
theorem packB_len (w : List S91) (has : Bool) (o : Int) (p : List Int) (n m l : Int) (a : List S91) : (packB w has o p n m l a).length ≤ 9 + 3 * w.length + 2 * p.length + 3 * a.length := by
  have lw := prefsB_len w
  have la := prefsB_len a
  have lp := flat_len twoB 2 two_len p
  unfold packB
  split
  · simp [lw, la, lp, two_len]; omega
  · simp [lw]; omega

abbrev BR := Int × List Int
theorem eqBytesResult_ev (r : BR) (h : r.2.length ≤ 1048576) : Ev (fun k => laws_eqBytesResult.f k r.1 r.2 r.1 r.2) true := by
  unfold laws_eqBytesResult.f
  exact ev_pos rfl (ev_bind (eqByteS_ev _ h) (ev_pos rfl (Ev.now _)))
theorem markBytesResult_ev (r : BR) (h : r.2.length ≤ 1048576) : Ev (fun k => laws_markBytesResult.f k r.1 r.2 1) (1 + (r.2.length : Int), marked (· % 256) 1 r.2.length) := by
  unfold laws_markBytesResult.f
  exact ev_bind (markByteS_ev _ h 1 (by omega) (by omega)) (Ev.now _)
theorem heldBytesResult_ev (r : BR) (h : r.2.length ≤ 1048576) : Ev (fun k => laws_heldBytesResult.f k r.1 (marked (· % 256) 1 r.2.length) 1) (1 + (r.2.length : Int)) := by
  unfold laws_heldBytesResult.f
  exact ev_bind (heldByteS_ev _ h 1 (by omega) (by omega)) (ev_neg (by omega) (Ev.now _))

theorem attrsM_path {o : Int} {p : List Int} {n m l : Int} (h : attrsM o p n m l = 0) : p.length ≤ 6 := by
  unfold attrsM at h
  split at h
  · split at h
    · omega
    · omega
  · omega
theorem updM_zero {w : List S91} {has : Bool} {o : Int} {p : List Int} {n m l : Int} {a : List S91} (h : updM w has o p n m l a = 0) : w.length ≤ 8 ∧ a.length ≤ 8 ∧ (has = true → p.length ≤ 6) := by
  unfold updM at h
  split at h
  · omega
  · refine ⟨by omega, by omega, fun hh => ?_⟩
    split at h
    · unfold tailM at h
      split at h
      · omega
      · first | exact attrsM_path h | (rw [if_pos hh] at h; exact attrsM_path h)
    · exact absurd h (by assumption)

def bodyB (kind sy hold id why sub : Int) (w : List S91) (has : Bool) (o : Int) (p : List Int) (n m l : Int) (a : List S91) : List Int :=
  if kind = 1 then twoB sy ++ [hold % 256] ++ twoB id else (if kind = 3 then [why % 256, sub % 256] else (if kind = 2 then packB w has o p n m l a else []))
def frameB (kind : Int) (body : List Int) : List Int := [255, 255] ++ twoB ((body.length : Int) + 5) ++ [kind % 256] ++ body
theorem frame_spec_ev (kind : Int) (body : List Int) (hb : body.length ≤ 100000000) : Ev (fun k => spec_l1Pack.f k kind body) (frameB kind body) := by
  unfold spec_l1Pack.f frameB
  simp only [Option.bind_some]
  rw [w64 (by omega) (by omega)]
  exact ev_bind (two_spec_ev _) (ev_pos (by simp [two_len]) (ev_pos (by simp [two_len]) (ev_pos (by simp only [List.length_append, List.length_cons, List.length_nil, two_len]; omega) (Ev.now _))))
theorem frame_impl (kind : Int) (body : List Int) (hb : body.length ≤ 120) (hk : 1 ≤ kind ∧ kind ≤ 4) : impl_PackFrame.f kind body = some (0, frameB kind body) := by
  unfold impl_PackFrame.f impl_FrameFault.f impl_packFrame.f impl_size_byte.f frameB
  simp only [in_impl, in_spec, Option.bind_some, decide_eq_true_eq]
  rw [if_pos hk, if_neg (show ¬ (body.length : Int) > 120 by omega)]
  simp only [Option.bind_some]
  rw [if_pos trivial, w64 (by omega) (by omega), two_impl _ _ (by simp), show (5 : Int) + (body.length : Int) = (body.length : Int) + 5 by omega]
  simp only [Option.bind_some]
  rw [if_pos (by simp [two_len]), if_pos (by simp only [List.length_append, List.length_cons, List.length_nil, two_len]; omega)]
  rfl
theorem bodyB_len (kind sy hold id why sub : Int) (w : List S91) (has : Bool) (o : Int) (p : List Int) (n m l : Int) (a : List S91) (hw : w.length ≤ 1048576) (hp : p.length ≤ 1048576) (ha : a.length ≤ 1048576) : (bodyB kind sy hold id why sub w has o p n m l a).length ≤ 100000000 := by
  have := packB_len w has o p n m l a
  unfold bodyB
  split
  · simp [two_len]
  · split
    · simp
    · split
      · omega
      · simp
theorem pack4_spec_ev (kind sy hold id why sub : Int) (w : List S91) (has : Bool) (o : Int) (p : List Int) (n m l : Int) (a : List S91) (hw : w.length ≤ 1048576) (hp : p.length ≤ 1048576) (ha : a.length ≤ 1048576) :
    Ev (fun k => spec_l4Pack.f k kind sy hold id why sub w has o p n m l a) (frameB kind (bodyB kind sy hold id why sub w has o p n m l a)) := by
  have hl := bodyB_len kind sy hold id why sub w has o p n m l a hw hp ha
  unfold bodyB at hl ⊢
  unfold spec_l4Pack.f
  simp only [Option.bind_some, List.nil_append, List.length_nil, Nat.zero_add]
  by_cases h1 : kind = 1
  · rw [if_pos h1] at hl ⊢
    exact ev_pos h1 (ev_bind (two_spec_ev _) (ev_pos (by simp [two_len]) (ev_pos (by simp [two_len]) (ev_bind (two_spec_ev _) (ev_pos (by simp [two_len]) (ev_bind (frame_spec_ev _ _ hl) (Ev.now _)))))))
  · rw [if_neg h1] at hl ⊢
    refine ev_neg h1 ?_
    by_cases h3 : kind = 3
    · rw [if_pos h3] at hl ⊢
      exact ev_pos h3 (ev_pos (by simp) (ev_bind (frame_spec_ev _ _ hl) (Ev.now _)))
    · rw [if_neg h3] at hl ⊢
      refine ev_neg h3 ?_
      by_cases h2 : kind = 2
      · rw [if_pos h2] at hl ⊢
        exact ev_pos h2 (ev_bind (pack_spec_ev w has o p n m l a hw hp ha) (ev_bind (frame_spec_ev _ _ hl) (Ev.now _)))
      · rw [if_neg h2] at hl ⊢
        exact ev_neg h2 (ev_bind (frame_spec_ev _ _ hl) (Ev.now _))
theorem body_impl_ev (kind sy hold id why sub : Int) (w : List S91) (has : Bool) (o : Int) (p : List Int) (n m l : Int) (a : List S91) (hw : w.length ≤ 1048576) (hp : p.length ≤ 1048576) (ha : a.length ≤ 1048576) :
    Ev (fun k => impl_Message_frame.f k kind sy hold id why sub w has o p n m l a) (kind, bodyB kind sy hold id why sub w has o p n m l a) := by
  unfold bodyB impl_Message_frame.f
  by_cases h1 : kind = 1
  · rw [if_pos h1]
    refine ev_pos h1 ?_
    rw [two_impl _ _ (by simp)]
    simp only [Option.bind_some, List.nil_append]
    refine ev_pos (by simp [two_len]) ?_
    rw [two_impl _ _ (by simp [two_len])]
    exact Ev.now _
  · rw [if_neg h1]
    refine ev_neg h1 ?_
    by_cases h3 : kind = 3
    · rw [if_pos h3]; exact ev_pos h3 (Ev.now _)
    · rw [if_neg h3]
      refine ev_neg h3 ?_
      by_cases h2 : kind = 2
      · rw [if_pos h2]; exact ev_pos h2 (ev_bind (pack_impl_ev w has o p n m l a hw hp ha) (Ev.now _))
      · rw [if_neg h2]; exact ev_neg h2 (Ev.now _)
theorem packB_small {w : List S91} {has : Bool} {o : Int} {p : List Int} {n m l : Int} {a : List S91} (h : updM w has o p n m l a = 0) : (packB w has o p n m l a).length ≤ 120 := by
  obtain ⟨h1, h2, h3⟩ := updM_zero h
  by_cases hh : has = true
  · have := h3 hh
    have := packB_len w has o p n m l a
    omega
  · unfold packB
    rw [if_neg hh]
    have := prefsB_len w
    simp [this]; omega
theorem msgM_zero {kind sy hold id why sub : Int} {w : List S91} {has : Bool} {o : Int} {p : List Int} {n m l : Int} {a : List S91} (h : msgM kind sy hold id why sub w has o p n m l a = 0) : (1 ≤ kind ∧ kind ≤ 4) ∧ (bodyB kind sy hold id why sub w has o p n m l a).length ≤ 120 := by
  unfold msgM at h
  by_cases h1 : 1 ≤ kind ∧ kind ≤ 4
  · rw [if_pos h1] at h
    refine ⟨h1, ?_⟩
    by_cases h2 : kind = 1 ∧ openOk sy hold id = false
    · rw [if_pos h2] at h; simp at h
    · rw [if_neg h2] at h
      by_cases h3 : kind = 3 ∧ whyOk why sub = false
      · rw [if_pos h3] at h; simp at h
      · rw [if_neg h3] at h
        unfold bodyB
        by_cases k1 : kind = 1
        · rw [if_pos k1]; simp [two_len]
        · rw [if_neg k1]
          by_cases k3 : kind = 3
          · rw [if_pos k3]; simp
          · rw [if_neg k3]
            by_cases k2 : kind = 2
            · rw [if_pos k2]
              unfold bodyM at h
              by_cases hb : bareB kind (openZ sy hold id) (whyZ why sub) (zeroU w has o p n m l a) = true
              · rw [if_pos hb, if_pos k2] at h; exact packB_small h
              · rw [if_neg hb] at h; simp at h
            · rw [if_neg k2]; simp
  · rw [if_neg h1] at h; simp at h
def packMsgM (kind sy hold id why sub : Int) (w : List S91) (has : Bool) (o : Int) (p : List Int) (n m l : Int) (a : List S91) : BR :=
  if msgM kind sy hold id why sub w has o p n m l a = 0 then (0, frameB kind (bodyB kind sy hold id why sub w has o p n m l a)) else (msgM kind sy hold id why sub w has o p n m l a, [])
theorem packMsg_small (kind sy hold id why sub : Int) (w : List S91) (has : Bool) (o : Int) (p : List Int) (n m l : Int) (a : List S91) : (packMsgM kind sy hold id why sub w has o p n m l a).2.length ≤ 1048576 := by
  unfold packMsgM
  split
  · obtain ⟨_, hl⟩ := msgM_zero (by assumption)
    show (frameB kind _).length ≤ 1048576
    unfold frameB
    simp only [List.length_append, List.length_cons, List.length_nil, two_len]
    omega
  · simp
theorem FnExactPackMessage : ∀ (a0_0 : Int) (a0_1 : Int) (a0_2 : Int) (a0_3 : Int) (a0_4 : Int) (a0_5 : Int) (a0_6_0 : List S153) (a0_6_1 : Bool) (a0_6_2_0 : Int) (a0_6_2_1 : List Int) (a0_6_2_2 : Int) (a0_6_2_3 : Int) (a0_6_2_4 : Int) (a0_6_3 : List S153), (Lit.int .i64 a0_0).wf = true → (Lit.int .i64 a0_1).wf = true → (Lit.int .i64 a0_2).wf = true → (Lit.int .i64 a0_3).wf = true → (Lit.int .i64 a0_4).wf = true → (Lit.int .i64 a0_5).wf = true → (a0_6_0.length ≤ 9223372036854775807 ∧ ∀ x ∈ a0_6_0, ((Lit.int .i64 x.f0).wf = true ∧ (Lit.int .i64 x.f1).wf = true)) → (Lit.int .i64 a0_6_2_0).wf = true → (a0_6_2_1.length ≤ 9223372036854775807 ∧ ∀ x ∈ a0_6_2_1, (Lit.int .i64 x).wf = true) → (Lit.int .i64 a0_6_2_2).wf = true → (Lit.int .i64 a0_6_2_3).wf = true → (Lit.int .i64 a0_6_2_4).wf = true → (a0_6_3.length ≤ 9223372036854775807 ∧ ∀ x ∈ a0_6_3, ((Lit.int .i64 x.f0).wf = true ∧ (Lit.int .i64 x.f1).wf = true)) → ∃ k, laws_FnExactPackMessage.f k a0_0 a0_1 a0_2 a0_3 a0_4 a0_5 a0_6_0 a0_6_1 a0_6_2_0 a0_6_2_1 a0_6_2_2 a0_6_2_3 a0_6_2_4 a0_6_3 = some true := by
  intro kind sy hold id why sub w has o p n m l a _ _ _ _ _ _ hw _ hp _ _ _ ha
  obtain ⟨hw, _⟩ := hw
  obtain ⟨hp, _⟩ := hp
  obtain ⟨ha, _⟩ := ha
  by_cases hz : w.length + p.length + a.length ≤ 1048576
  · refine Ev.rounds ?_
    have lw : (w.map cP).length ≤ 1048576 := by simp; omega
    have la : (a.map cP).length ≤ 1048576 := by simp; omega
    have lp : p.length ≤ 1048576 := by omega
    have hto := toMessage_ev kind sy hold id why sub w has o p n m l a (by omega) (by omega) (by omega)
    have hS : Ev (fun k => spec_PackMessage.f k kind sy hold id why sub (w.map cP) has o p n m l (a.map cP)) (packMsgM kind sy hold id why sub (w.map cP) has o p n m l (a.map cP)) := by
      unfold spec_PackMessage.f packMsgM
      exact ev_bind (spec_msg_ev kind sy hold id why sub (w.map cP) has o p n m l (a.map cP) lp) (ev_ite (fun _ => ev_bind (pack4_spec_ev kind sy hold id why sub (w.map cP) has o p n m l (a.map cP) lw lp la) (Ev.now _)) (fun _ => Ev.now _))
    have hI : Ev (fun k => impl_PackMessage.f k kind sy hold id why sub (w.map cP) has o p n m l (a.map cP)) (packMsgM kind sy hold id why sub (w.map cP) has o p n m l (a.map cP)) := by
      unfold impl_PackMessage.f packMsgM
      refine ev_bind (impl_msg_ev kind sy hold id why sub (w.map cP) has o p n m l (a.map cP) lp) (ev_ite (fun h => ev_bind (body_impl_ev kind sy hold id why sub (w.map cP) has o p n m l (a.map cP) lw lp la) ?_) (fun _ => Ev.now _))
      obtain ⟨hk, hl⟩ := msgM_zero h
      rw [frame_impl kind _ hl hk]
      exact Ev.now _
    have hsm := packMsg_small kind sy hold id why sub (w.map cP) has o p n m l (a.map cP)
    have hE := eqBytesResult_ev _ hsm
    have hM := markBytesResult_ev _ hsm
    have hH := heldBytesResult_ev _ hsm
    obtain ⟨ys, ps, zs, hMU⟩ := markUpdate_ev (w.map cP) has o p n m l (a.map cP) lw lp la 1 (by omega) (by omega)
    have hMM : Ev (fun k => laws_markMessage.f k kind sy hold id why sub (w.map cP) has o p n m l (a.map cP) 1) (1 + 2 * ((w.map cP).length : Int) + (p.length : Int) + 2 * ((a.map cP).length : Int), ys, ps, zs) := by
      unfold laws_markMessage.f
      exact ev_bind hMU (Ev.now _)
    have hsz : laws_szMessage.f kind sy hold id why sub w has o p n m l a 1048576 = some (1048576 - (w.length : Int) - (p.length : Int) - (a.length : Int)) := by
      unfold laws_szMessage.f
      rw [szUpdate_yes w has o p n m l a hz]
      simp only [Option.bind_some]
      rw [if_neg (by omega)]
    unfold laws_FnExactPackMessage.f
    refine ev_val hsz (ev_neg (by omega) ?_)
    refine ev_bind hto (ev_bind hS (ev_bind hto (ev_bind hI (ev_bind hE (ev_pos rfl ?_)))))
    refine ev_bind hto (ev_bind (eqMessage_ev kind sy hold id why sub (w.map cP) has o p n m l (a.map cP) lw lp la) (ev_pos rfl ?_))
    refine ev_bind hMM (ev_neg (show ¬ (1 + 2 * ((w.map cP).length : Int) + (p.length : Int) + 2 * ((a.map cP).length : Int) < 0) by omega) ?_)
    refine ev_bind hE (ev_pos rfl (ev_bind hM (ev_bind hH (ev_neg (by omega) (ev_pos rfl ?_)))))
    exact ev_bind hto (ev_bind hI (ev_bind hE (ev_pos rfl (ev_bind hH (ev_neg (by omega) (ev_pos rfl (Ev.now _)))))))
  · refine ⟨0, ?_⟩
    unfold laws_FnExactPackMessage.f laws_szMessage.f
    rw [szUpdate_no w has o p n m l a hw hp ha hz]
    rfl

end Go.Proofs.Ytgfoifkkffffgac.Pure
