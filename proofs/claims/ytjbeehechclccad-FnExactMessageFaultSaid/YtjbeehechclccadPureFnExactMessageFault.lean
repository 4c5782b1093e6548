/- FnExactMessageFault: what the printed functions compute answers as the statement says: for every input the law is true. No condition beside the arguments being of their kinds. -/
import Derived.Test.YtjbeehechclccadPFnExactMessageFaultx11
import Derived.OpenShut
namespace Go.Proofs.Ytjbeehechclccad.Pure
open Go.RowKit Go.Proofs.YtjbeehechclccadW.PrintWords Go.Proofs.YtjbeehechclccadW.PrintLast Go.Proofs.YtjbeehechclccadW.PrintMore Go.Proofs.Ytjbeehechclccad.PFnExactMessageFault
set_option linter.unusedVariables false
set_option linter.unusedSimpArgs false

/-! ### plain words -/
theorem w64 {x : Int} (h0 : -9223372036854775808 ≤ x) (h1 : x ≤ 9223372036854775807) : wrap64 x = x := by unfold wrap64; omega
theorem ev_some {α : Type} {g : Nat → Option α} {r : α} (h : ∀ k, g k = some r) : Ev g r := ⟨0, fun k _ => h k⟩
theorem ev_bind {α β : Type} {g : Nat → Option α} {f : Nat → α → Option β} {a : α} {r : β} (h : Ev g a) (k : Ev (fun n => f n a) r) : Ev (fun n => (g n).bind (f n)) r := Ev.bind h k
theorem ev_val {α β : Type} {o : Option α} {a : α} (h : o = some a) {f : Nat → α → Option β} {r : β} (k : Ev (fun n => f n a) r) : Ev (fun n => o.bind (f n)) r := by
  subst h
  exact k
theorem ev_pos {α : Type} {c : Prop} [Decidable c] {a b : Nat → Option α} {r : α} (hc : c) (h : Ev a r) : Ev (fun k => if c then a k else b k) r := Ev.congr (fun _ => if_pos hc) h
theorem ev_neg {α : Type} {c : Prop} [Decidable c] {a b : Nat → Option α} {r : α} (hc : ¬ c) (h : Ev b r) : Ev (fun k => if c then a k else b k) r := Ev.congr (fun _ => if_neg hc) h
theorem ev_ite {α : Type} {c : Prop} [Decidable c] {a b : Nat → Option α} {x y : α} (h1 : c → Ev a x) (h2 : ¬ c → Ev b y) : Ev (fun k => if c then a k else b k) (if c then x else y) := by
  by_cases h : c
  · rw [if_pos h]
    exact ev_pos h (h1 h)
  · rw [if_neg h]
    exact ev_neg h (h2 h)
theorem ev_eq {α : Type} {g : Nat → Option α} {r r' : α} (h : Ev g r) (e : r = r') : Ev g r' := e ▸ h
theorem ev_uniq {α : Type} {g : Nat → Option α} {r r' : α} (h : Ev g r) (h' : Ev g r') : r = r' := by
  obtain ⟨K, hK⟩ := h
  obtain ⟨K', hK'⟩ := h'
  have h1 := hK (max K K') (Nat.le_max_left _ _)
  have h2 := hK' (max K K') (Nat.le_max_right _ _)
  exact Option.some.inj (h1.symm.trans h2)
/-- So many rounds are enough. -/
theorem ev_from {α : Type} {g : Nat → Option α} {r : α} (n : Nat) (h : ∀ k, g (k + n) = some r) : Ev g r :=
  ⟨n, fun k hk => by have := h (k - n); rwa [Nat.sub_add_cancel hk] at this⟩
theorem rd_nat (xs : List Int) (i : Nat) : rd xs (i : Int) = xs.getD i 0 := by simp [rd]
theorem rd_lt {xs : List Int} {i : Nat} (h : i < xs.length) : rd xs (i : Int) = xs[i] := by
  rw [rd_nat, List.getD_eq_getElem?_getD, List.getElem?_eq_getElem h]; rfl
theorem set_take {xs out : List Int} {i : Nat} (hi : i < xs.length) (hl : out.length = xs.length) (ht : out.take i = xs.take i) : (out.set i xs[i]).take (i + 1) = xs.take (i + 1) := by
  rw [List.take_succ_eq_append_getElem (by simp; omega), List.take_succ_eq_append_getElem hi]
  rw [List.take_set_of_le (Nat.le_refl i), ht]
  simp
/-- A copy, number by number. -/
theorem copy_loop (l : Nat → List Int → List Int → Int → Option (List Int))
    (h : ∀ k xs out i, l (k + 1) xs out i = if i < (xs.length : Int) then (if 0 ≤ i then (if i < (out.length : Int) then l k xs (out.set (i : Int).toNat (rd xs i)) (wrap64 (i + 1)) else none) else none) else some out)
    (xs : List Int) (hx : xs.length ≤ 4611686018427387904) : ∀ (d i : Nat) (out : List Int), i + d = xs.length → out.length = xs.length → out.take i = xs.take i → Ev (fun k => l k xs out (i : Int)) xs
  | 0, i, out, hd, hl, ht => by
    refine Ev.step (f := fun _ => some xs) (fun k => ?_) (Ev.now _)
    rw [h, if_neg (by omega)]
    congr 1
    rw [List.take_of_length_le (by omega), List.take_of_length_le (by omega)] at ht
    exact ht
  | d + 1, i, out, hd, hl, ht => by
    have hi : i < xs.length := by omega
    refine Ev.step (f := fun k => l k xs (out.set i xs[i]) ((i + 1 : Nat) : Int)) (fun k => ?_) (copy_loop l h xs hx d (i + 1) _ (by omega) (by simpa using hl) (set_take hi hl ht))
    rw [h, if_pos (by omega), if_pos (by omega), if_pos (by omega), w64 (by omega) (by omega), rd_lt hi]
    simp
/-- Two equal lists, number by number. -/
theorem same_loop (l : Nat → List Int → List Int → Int → Option Bool)
    (h : ∀ k xs ys i, l (k + 1) xs ys i = if i < (xs.length : Int) then (if 0 ≤ i then (if i < (ys.length : Int) then (if rd xs i = rd ys i then l k xs ys (wrap64 (i + 1)) else some false) else none) else none) else some true)
    (xs : List Int) (hx : xs.length ≤ 4611686018427387904) : ∀ (d i : Nat), i + d = xs.length → Ev (fun k => l k xs xs (i : Int)) true
  | 0, i, hd => by
    refine Ev.step (f := fun _ => some true) (fun k => ?_) (Ev.now _)
    rw [h, if_neg (by omega)]
  | d + 1, i, hd => by
    refine Ev.step (f := fun k => l k xs xs ((i + 1 : Nat) : Int)) (fun k => ?_) (same_loop l h xs hx d (i + 1) (by omega))
    rw [h, if_pos (by omega), if_pos (by omega), if_pos (by omega), if_pos rfl, w64 (by omega) (by omega)]
    simp

/-- A loop that goes on to its end. -/
theorem for_loop {σ ρ : Type} (l : Nat → σ → Int → Option ρ) (n : Nat) (s : Nat → σ) {r : ρ}
    (hstep : ∀ i, i < n → ∀ r, Ev (fun k => l k (s (i + 1)) ((i + 1 : Nat) : Int)) r → Ev (fun k => l k (s i) (i : Int)) r)
    (hend : Ev (fun k => l k (s n) (n : Int)) r) : ∀ (d i : Nat), i + d = n → Ev (fun k => l k (s i) (i : Int)) r
  | 0, i, h => by
    have e : i = n := by omega
    rw [e]; exact hend
  | d + 1, i, h => hstep i (by omega) r (for_loop l n s hstep hend d (i + 1) (by omega))
/-- What a copy has so far. -/
def sofar {α β : Type} (f : α → β) (z : β) (xs : List α) (i : Nat) : List β := (xs.take i).map f ++ List.replicate (xs.length - i) z
theorem sofar_length {α β : Type} (f : α → β) (z : β) (xs : List α) (i : Nat) (hi : i ≤ xs.length) : (sofar f z xs i).length = xs.length := by
  unfold sofar
  simp
  omega
theorem sofar_set {α β : Type} (f : α → β) (z : β) (xs : List α) (i : Nat) (hi : i < xs.length) : (sofar f z xs i).set i (f xs[i]) = sofar f z xs (i + 1) := by
  unfold sofar
  rw [List.set_append_right _ _ (by simp; omega), List.take_succ_eq_append_getElem hi, List.map_append, List.append_assoc]
  congr 1
  have e : i - (List.map f (List.take i xs)).length = 0 := by simp; omega
  rw [e, show xs.length - i = xs.length - (i + 1) + 1 by omega, List.replicate_succ, List.set_cons_zero]
  rfl
theorem sofar_zero {α β : Type} (f : α → β) (z : β) (xs : List α) : sofar f z xs 0 = List.replicate xs.length z := by
  unfold sofar
  simp
theorem sofar_all {α β : Type} (f : α → β) (z : β) (xs : List α) : sofar f z xs xs.length = xs.map f := by
  unfold sofar
  simp
theorem getD_lt {α : Type} {z : α} {xs : List α} {i : Nat} (h : i < xs.length) : xs.getD i z = xs[i] := by
  rw [List.getD_eq_getElem?_getD, List.getElem?_eq_getElem h]; rfl
theorem conv_loop {α β : Type} (f : α → β) (z : β) (l : Nat → List β → Int → Option (List β)) (xs : List α)
    (hstep : ∀ (i : Nat) (hi : i < xs.length) (out : List β) (r : List β), out.length = xs.length → Ev (fun k => l k (out.set i (f xs[i])) ((i + 1 : Nat) : Int)) r → Ev (fun k => l k out (i : Int)) r)
    (hend : ∀ out : List β, Ev (fun k => l k out (xs.length : Int)) out) : Ev (fun k => l k (List.replicate xs.length z) 0) (xs.map f) := by
  have h := for_loop (fun k o i => l k o i) xs.length (sofar f z xs) (r := xs.map f) (fun i hi r hr => hstep i hi _ r (sofar_length f z xs i (by omega)) (by rw [sofar_set f z xs i hi]; exact hr)) (by rw [sofar_all]; exact hend _) xs.length 0 (by omega)
  rw [sofar_zero] at h
  exact h
theorem all_loop {ρ : Type} (l : Nat → Int → Option ρ) (n : Nat) {r : ρ}
    (hstep : ∀ i, i < n → ∀ r, Ev (fun k => l k ((i + 1 : Nat) : Int)) r → Ev (fun k => l k (i : Int)) r)
    (hend : Ev (fun k => l k (n : Int)) r) : Ev (fun k => l k 0) r :=
  for_loop (fun k (_ : Unit) i => l k i) n (fun _ => ()) (fun i hi r hr => hstep i hi r hr) hend n 0 (by omega)
/-- The first fault of a list, or zero. -/
def firstBad {α : Type} (f : α → Int) : List α → Int
  | [] => 0
  | x :: t => if f x = 0 then firstBad f t else f x
theorem firstBad_append {α : Type} (f : α → Int) (xs ys : List α) : firstBad f (xs ++ ys) = if firstBad f xs = 0 then firstBad f ys else firstBad f xs := by
  induction xs with
  | nil => simp [firstBad]
  | cons x t ih =>
    by_cases h : f x = 0
    · have e : ∀ z, firstBad f (x :: z) = firstBad f z := fun z => by simp [firstBad, h]
      rw [List.cons_append, e, e, ih]
    · have e : ∀ z, firstBad f (x :: z) = f x := fun z => by simp [firstBad, h]
      rw [List.cons_append, e, e, if_neg h]
theorem first_loop {α : Type} (f : α → Int) (l : Nat → Int → Option Int) (xs : List α)
    (hgo : ∀ (i : Nat) (hi : i < xs.length), f xs[i] = 0 → ∀ r, Ev (fun k => l k ((i + 1 : Nat) : Int)) r → Ev (fun k => l k (i : Int)) r)
    (hstop : ∀ (i : Nat) (hi : i < xs.length), f xs[i] ≠ 0 → Ev (fun k => l k (i : Int)) (f xs[i]))
    (hend : Ev (fun k => l k (xs.length : Int)) 0) : ∀ (d i : Nat), i + d = xs.length → Ev (fun k => l k (i : Int)) (firstBad f (xs.drop i))
  | 0, i, h => by
    have e : i = xs.length := by omega
    rw [e, List.drop_length]; exact hend
  | d + 1, i, h => by
    have hi : i < xs.length := by omega
    rw [List.drop_eq_getElem_cons hi, firstBad]
    by_cases hf : f xs[i] = 0
    · rw [if_pos hf]
      exact hgo i hi hf _ (first_loop f l xs hgo hstop hend d (i + 1) (by omega))
    · rw [if_neg hf]
      exact hstop i hi hf
theorem first_loop0 {α : Type} (f : α → Int) (l : Nat → Int → Option Int) (xs : List α)
    (hgo : ∀ (i : Nat) (hi : i < xs.length), f xs[i] = 0 → ∀ r, Ev (fun k => l k ((i + 1 : Nat) : Int)) r → Ev (fun k => l k (i : Int)) r)
    (hstop : ∀ (i : Nat) (hi : i < xs.length), f xs[i] ≠ 0 → Ev (fun k => l k (i : Int)) (f xs[i]))
    (hend : Ev (fun k => l k (xs.length : Int)) 0) : Ev (fun k => l k 0) (firstBad f xs) := by
  have h := first_loop f l xs hgo hstop hend xs.length 0 (by omega)
  rwa [List.drop_zero] at h
/-- The bind of an Ev, told by the bound value. -/
theorem ev_then {α β : Type} {g : Nat → Option α} {f : Nat → α → Option β} {a : α} {r : β} (k : Ev (fun n => f n a) r) (h : Ev g a) : Ev (fun n => (g n).bind (f n)) r := Ev.bind h k

theorem toInt64S_ev (xs : List Int) (hx : xs.length ≤ 1048576) : Ev (fun k => laws_toInt64S.f k xs) xs := by
  refine Ev.congr (f := fun k => laws_toInt64S.l0 k xs (List.replicate xs.length 0) 0) (fun k => ?_) ?_
  · unfold laws_toInt64S.f
    rw [if_pos (by omega), if_pos (by omega)]
    simp
  · exact copy_loop _ (fun _ _ _ _ => rfl) xs (by omega) xs.length 0 _ (by omega) (by simp) rfl
theorem eqInt64S_ev (xs : List Int) (hx : xs.length ≤ 1048576) : Ev (fun k => laws_eqInt64S.f k xs xs) true := by
  refine Ev.congr (f := fun k => laws_eqInt64S.l0 k xs xs 0) (fun k => ?_) (same_loop _ (fun _ _ _ _ => rfl) xs (by omega) xs.length 0 (by omega))
  unfold laws_eqInt64S.f
  rw [if_pos rfl]

theorem in_spec (a b c : Int) : spec_l1In.f a b c = some (decide (b ≤ a ∧ a ≤ c)) := by
  unfold spec_l1In.f
  by_cases h : a ≥ b
  · rw [if_pos h]; congr 1; simp [h]
  · rw [if_neg h]; congr 1; simp; intro h'; omega
theorem in_impl : impl_in.f = spec_l1In.f := rfl

def prefM (a b : Int) : Int := if 0 ≤ a ∧ a ≤ 65535 then (if 0 ≤ b ∧ b ≤ 16 then (if Go.bits .and .i64 a (wrap64 ((shl .i64 1 (16 - b)) - 1)) = 0 then 0 else 1) else 3) else 3
theorem spec_prefix_ev (a b : Int) : Ev (fun k => spec_PrefixFault.f k a b) (prefM a b) := by
  refine ev_from 1 (fun k => ?_)
  unfold spec_PrefixFault.f spec_l2Addr.f prefM
  simp only [in_spec, Option.bind_some, decide_eq_true_eq]
  by_cases ha : 0 ≤ a ∧ a ≤ 65535
  · rw [if_pos ha, if_pos ha, spec_PrefixFault.j0]
    by_cases hb : 0 ≤ b ∧ b ≤ 16
    · rw [if_pos hb, if_neg (by simp [hb])]
      unfold spec_l2Rest.f
      have e : IntKind.u64.wrap (wrap64 (16 - b)) = 16 - b := by
        rw [w64 (by omega) (by omega)]
        simp [IntKind.wrap, IntKind.bits, IntKind.signed]
        omega
      rw [e, if_pos (by omega)]
      simp only [Option.bind_some]
      split <;> rfl
    · rw [if_neg hb, if_pos (by simp; omega)]
  · rw [if_neg ha, if_neg ha, spec_PrefixFault.j0, if_pos rfl]
theorem impl_prefix_ev (a b : Int) : Ev (fun k => impl_PrefixFault.f k a b) (prefM a b) := by
  refine ev_from 1 (fun k => ?_)
  unfold impl_PrefixFault.f impl_isAddr.f prefM
  simp only [in_impl, in_spec, Option.bind_some, decide_eq_true_eq]
  by_cases ha : 0 ≤ a ∧ a ≤ 65535
  · rw [if_pos ha, if_pos ha, impl_PrefixFault.j0]
    by_cases hb : 0 ≤ b ∧ b ≤ 16
    · rw [if_pos hb, if_neg (by simp [hb]), w64 (x := 16 - b) (by omega) (by omega), if_pos (by omega)]
      split <;> rfl
    · rw [if_neg hb, if_pos (by simp; omega)]
  · rw [if_neg ha, if_neg ha, impl_PrefixFault.j0, if_pos rfl]
def prefsM (xs : List S139) : Int := firstBad (fun x : S139 => prefM x.f0 x.f1) xs
theorem spec_list_ev (xs : List S139) (hx : xs.length ≤ 200) : Ev (fun k => spec_l2List.f k xs) (prefsM xs) := by
  refine Ev.congr (f := fun k => spec_l2List.l0 k xs 0) (fun k => ?_) ?_
  · unfold spec_l2List.f
    rw [if_neg (by omega)]
  · refine first_loop0 (fun x : S139 => prefM x.f0 x.f1) (fun k i => spec_l2List.l0 k xs i) xs (fun i hi h0 r hr => ?_) (fun i hi h0 => ?_) ?_
    · refine Ev.step (f := fun k => (spec_PrefixFault.f k (xs[i].f0) (xs[i].f1)).bind fun t => if t = 0 then spec_l2List.l0 k xs ((i + 1 : Nat) : Int) else some t) (fun k => ?_) (ev_bind (spec_prefix_ev _ _) (ev_pos h0 hr))
      rw [spec_l2List.l0, if_pos (by omega), if_pos (by omega), w64 (by omega) (by omega)]
      simp only [rd_T139, Int.toNat_natCast, getD_lt hi]
      rfl
    · refine Ev.step (f := fun k => (spec_PrefixFault.f k (xs[i].f0) (xs[i].f1)).bind fun t => if t = 0 then spec_l2List.l0 k xs ((i + 1 : Nat) : Int) else some t) (fun k => ?_) (ev_bind (spec_prefix_ev _ _) (ev_neg h0 (Ev.now _)))
      rw [spec_l2List.l0, if_pos (by omega), if_pos (by omega), w64 (by omega) (by omega)]
      simp only [rd_T139, Int.toNat_natCast, getD_lt hi]
      rfl
    · refine Ev.step (f := fun _ => some 0) (fun k => ?_) (Ev.now _)
      rw [spec_l2List.l0, if_neg (by omega)]
theorem impl_list_ev (xs : List S139) (hx : xs.length ≤ 1048576) : Ev (fun k => impl_prefixesFault.f k xs) (prefsM xs) := by
  unfold impl_prefixesFault.f
  refine first_loop0 (fun x : S139 => prefM x.f0 x.f1) (fun k i => impl_prefixesFault.l0 k xs (xs.length : Int) i) xs (fun i hi h0 r hr => ?_) (fun i hi h0 => ?_) ?_
  · refine Ev.step (f := fun k => (impl_PrefixFault.f k (xs[i].f0) (xs[i].f1)).bind fun t => if t = 0 then impl_prefixesFault.l0 k xs (xs.length : Int) ((i + 1 : Nat) : Int) else some t) (fun k => ?_) (ev_bind (impl_prefix_ev _ _) (ev_pos h0 hr))
    rw [impl_prefixesFault.l0, if_pos (by omega), if_pos (by omega), if_pos (by omega), w64 (by omega) (by omega)]
    simp only [rd_T139, Int.toNat_natCast, getD_lt hi]
    rfl
  · refine Ev.step (f := fun k => (impl_PrefixFault.f k (xs[i].f0) (xs[i].f1)).bind fun t => if t = 0 then impl_prefixesFault.l0 k xs (xs.length : Int) ((i + 1 : Nat) : Int) else some t) (fun k => ?_) (ev_bind (impl_prefix_ev _ _) (ev_neg h0 (Ev.now _)))
    rw [impl_prefixesFault.l0, if_pos (by omega), if_pos (by omega), if_pos (by omega), w64 (by omega) (by omega)]
    simp only [rd_T139, Int.toNat_natCast, getD_lt hi]
    rfl
  · refine Ev.step (f := fun _ => some 0) (fun k => ?_) (Ev.now _)
    rw [impl_prefixesFault.l0, if_neg (by omega)]

def cP (x : S171) : S139 := ⟨x.f0, x.f1⟩
theorem toPrefixS_ev (xs : List S171) (hx : xs.length ≤ 1048576) : Ev (fun k => laws_toPrefixS.f k xs) (xs.map cP) := by
  refine Ev.congr (f := fun k => laws_toPrefixS.l0 k xs (List.replicate xs.length z139) 0) (fun k => ?_) (conv_loop cP z139 (fun k o i => laws_toPrefixS.l0 k xs o i) xs (fun i hi out r ho hr => ?_) (fun out => ?_))
  · unfold laws_toPrefixS.f
    rw [if_pos (by omega), if_pos (by omega)]
    simp
  · refine Ev.step (f := fun k => laws_toPrefixS.l0 k xs (out.set i (cP xs[i])) ((i + 1 : Nat) : Int)) (fun k => ?_) hr
    rw [laws_toPrefixS.l0, if_pos (by omega), if_pos (by omega), w64 (by omega) (by omega)]
    simp only [rd_T171, Int.toNat_natCast, getD_lt hi, laws_toPrefix.f, Option.bind_some]
    rw [if_pos (by omega)]
    rfl
  · refine Ev.step (f := fun _ => some out) (fun k => ?_) (Ev.now _)
    rw [laws_toPrefixS.l0, if_neg (by omega)]
theorem eqPrefixS_ev (xs : List S139) (hx : xs.length ≤ 1048576) : Ev (fun k => laws_eqPrefixS.f k xs xs) true := by
  refine Ev.congr (f := fun k => laws_eqPrefixS.l0 k xs xs 0) (fun k => ?_) (all_loop (fun k i => laws_eqPrefixS.l0 k xs xs i) xs.length (fun i hi r hr => ?_) ?_)
  · unfold laws_eqPrefixS.f
    rw [if_pos rfl]
  · refine Ev.step (f := fun k => laws_eqPrefixS.l0 k xs xs ((i + 1 : Nat) : Int)) (fun k => ?_) hr
    rw [laws_eqPrefixS.l0, if_pos (by omega), if_pos (by omega), if_pos (by omega), w64 (by omega) (by omega)]
    unfold laws_eqPrefix.f
    rw [if_pos rfl, if_pos rfl]
    rfl
  · refine Ev.step (f := fun _ => some true) (fun k => ?_) (Ev.now _)
    rw [laws_eqPrefixS.l0, if_neg (by omega)]

def sysM (x : Int) : Int := if 1 ≤ x ∧ x ≤ 65535 then 0 else 3
def attrsM (o : Int) (p : List Int) (n m l : Int) : Int :=
  if (0 ≤ o ∧ o ≤ 2) ∧ (0 ≤ n ∧ n ≤ 65535) ∧ (0 ≤ m ∧ m ≤ 65535) ∧ (0 ≤ l ∧ l ≤ 65535) then (if (p.length : Int) > 6 then 2 else firstBad sysM p) else 3
theorem sysM_or (p : List Int) : firstBad sysM p = 0 ∨ firstBad sysM p = 3 := by
  induction p with
  | nil => exact Or.inl rfl
  | cons x t ih =>
    rw [firstBad]
    split
    · exact ih
    · unfold sysM at *
      split at * <;> simp_all
theorem spec_attrs_ev (o : Int) (p : List Int) (n m l : Int) (hp : p.length ≤ 1048576) : Ev (fun k => spec_AttrsFault.f k o p n m l) (attrsM o p n m l) := by
  have hl : Ev (fun k => spec_AttrsFault.l0 k 0 o p n m l) (firstBad sysM p) := by
    refine first_loop0 sysM (fun k i => spec_AttrsFault.l0 k i o p n m l) p (fun i hi h0 r hr => ?_) (fun i hi h0 => ?_) ?_
    · refine Ev.step (f := fun k => spec_AttrsFault.l0 k ((i + 1 : Nat) : Int) o p n m l) (fun k => ?_) hr
      rw [spec_AttrsFault.l0, if_pos (by omega), if_pos (by omega), w64 (by omega) (by omega), rd_lt hi, in_spec]
      have hb : 1 ≤ p[i] ∧ p[i] ≤ 65535 := by unfold sysM at h0; split at h0; assumption; omega
      simp [hb]
    · refine Ev.step (f := fun k => some (sysM p[i])) (fun k => ?_) (Ev.now _)
      rw [spec_AttrsFault.l0, if_pos (by omega), if_pos (by omega), w64 (by omega) (by omega), rd_lt hi, in_spec]
      have hb : ¬ (1 ≤ p[i] ∧ p[i] ≤ 65535) := by intro hb; apply h0; unfold sysM; rw [if_pos hb]
      unfold sysM
      rw [if_neg hb]
      simp only [Option.bind_some, decide_eq_true_eq]
      rw [if_neg hb]
    · refine Ev.step (f := fun _ => some 0) (fun k => ?_) (Ev.now _)
      rw [spec_AttrsFault.l0, if_neg (by omega)]
  have hj : Ev (fun k => spec_AttrsFault.j0 k false o p n m l) (if (p.length : Int) > 6 then 2 else firstBad sysM p) := by
    refine Ev.step (f := fun k => if (p.length : Int) > 6 then some 2 else spec_AttrsFault.l0 k 0 o p n m l) (fun k => ?_) (ev_ite (fun _ => Ev.now _) (fun _ => hl))
    rw [spec_AttrsFault.j0, if_neg (by simp)]
  have ht : Ev (fun k => spec_AttrsFault.j0 k true o p n m l) 3 := by
    refine Ev.step (f := fun k => some 3) (fun k => ?_) (Ev.now _)
    rw [spec_AttrsFault.j0, if_pos rfl]
  unfold spec_AttrsFault.f attrsM spec_l3Word.f
  simp only [in_spec, Option.bind_some, decide_eq_true_eq]
  by_cases h1 : 0 ≤ o ∧ o ≤ 2
  · refine ev_pos h1 ?_
    by_cases h2 : 0 ≤ n ∧ n ≤ 65535
    · refine ev_pos h2 ?_
      by_cases h3 : 0 ≤ m ∧ m ≤ 65535
      · refine ev_pos h3 ?_
        by_cases h4 : 0 ≤ l ∧ l ≤ 65535
        · rw [if_pos ⟨h1, h2, h3, h4⟩]
          simpa [h4] using hj
        · rw [if_neg (fun z => h4 z.2.2.2)]
          have e : (!decide (0 ≤ l ∧ l ≤ 65535)) = true := by simp; omega
          rw [e]
          exact ht
      · rw [if_neg (fun z => h3 z.2.2.1)]
        exact ev_neg h3 ht
    · rw [if_neg (fun z => h2 z.2.1)]
      exact ev_neg h2 ht
  · rw [if_neg (fun z => h1 z.1)]
    exact ev_neg h1 ht
theorem index_ev (p : List Int) (hp : p.length ≤ 1048576) : ∀ (d i : Nat), i + d = p.length → ∃ t, Ev (fun k => slices_IndexFunc_int64_int64.l0 k p (p.length : Int) (i : Int)) t ∧ (t ≥ 0 ↔ firstBad sysM (p.drop i) ≠ 0)
  | 0, i, h => by
    refine ⟨-1, Ev.step (f := fun _ => some (-1)) (fun k => ?_) (Ev.now _), ?_⟩
    · rw [slices_IndexFunc_int64_int64.l0, if_neg (by omega)]
    · rw [List.drop_of_length_le (by omega)]; simp [firstBad]
  | d + 1, i, h => by
    have hi : i < p.length := by omega
    obtain ⟨t, ht, hq⟩ := index_ev p hp d (i + 1) (by omega)
    rw [List.drop_eq_getElem_cons hi, firstBad]
    by_cases hb : 1 ≤ p[i] ∧ p[i] ≤ 65535
    · refine ⟨t, Ev.step (f := fun k => slices_IndexFunc_int64_int64.l0 k p (p.length : Int) ((i + 1 : Nat) : Int)) (fun k => ?_) ht, ?_⟩
      · rw [slices_IndexFunc_int64_int64.l0, if_pos (by omega), if_pos (by omega), if_pos (by omega), w64 (by omega) (by omega), rd_lt hi]
        unfold impl_AttrsFault_1.f impl_isSystem.f
        simp only [in_impl, in_spec, Option.bind_some]
        rw [if_neg (by simp [hb])]
        rfl
      · rw [if_pos (by unfold sysM; rw [if_pos hb])]; exact hq
    · refine ⟨(i : Int), Ev.step (f := fun k => some (i : Int)) (fun k => ?_) (Ev.now _), ?_⟩
      · rw [slices_IndexFunc_int64_int64.l0, if_pos (by omega), if_pos (by omega), if_pos (by omega), rd_lt hi]
        unfold impl_AttrsFault_1.f impl_isSystem.f
        simp only [in_impl, in_spec, Option.bind_some]
        rw [if_pos (by simp only [Bool.not_eq_true', decide_eq_false_iff_not]; exact hb)]
      · have e : sysM p[i] = 3 := by unfold sysM; rw [if_neg hb]
        rw [e, if_neg (by omega)]
        simp
theorem impl_attrs_ev (o : Int) (p : List Int) (n m l : Int) (hp : p.length ≤ 1048576) : Ev (fun k => impl_AttrsFault.f k o p n m l) (attrsM o p n m l) := by
  obtain ⟨t, ht, hq⟩ := index_ev p hp p.length 0 (by omega)
  rw [List.drop_zero] at hq
  have hc : Ev (fun k => slices_ContainsFunc_int64_int64.f k p) (decide (t ≥ 0)) := by
    unfold slices_ContainsFunc_int64_int64.f slices_IndexFunc_int64_int64.f
    exact ev_bind ht (Ev.now _)
  have hj : Ev (fun k => impl_AttrsFault.j0 k false o p n m l) (if (p.length : Int) > 6 then 2 else firstBad sysM p) := by
    refine Ev.step (f := fun k => if (p.length : Int) > 6 then some 2 else ((slices_ContainsFunc_int64_int64.f k p).bind fun t198 => (if t198 = true then (some 3) else (some 0)))) (fun k => ?_) (ev_ite (fun _ => Ev.now _) (fun _ => ev_bind hc ?_))
    · rw [impl_AttrsFault.j0, if_neg (by simp)]
    · by_cases h : firstBad sysM p = 0
      · rw [h]
        exact ev_neg (by simp only [decide_eq_true_eq]; intro z; exact hq.1 z h) (Ev.now _)
      · have e : firstBad sysM p = 3 := (sysM_or p).resolve_left h
        rw [e]
        exact ev_pos (by simp only [decide_eq_true_eq]; exact hq.2 h) (Ev.now _)
  have htt : Ev (fun k => impl_AttrsFault.j0 k true o p n m l) 3 := by
    refine Ev.step (f := fun k => some 3) (fun k => ?_) (Ev.now _)
    rw [impl_AttrsFault.j0, if_pos rfl]
  unfold impl_AttrsFault.f attrsM impl_isTwo.f impl_isAddr.f
  simp only [in_impl, in_spec, Option.bind_some, decide_eq_true_eq]
  by_cases h1 : 0 ≤ o ∧ o ≤ 2
  · refine ev_pos h1 ?_
    by_cases h2 : 0 ≤ n ∧ n ≤ 65535
    · refine ev_pos h2 ?_
      by_cases h3 : 0 ≤ m ∧ m ≤ 65535
      · refine ev_pos h3 ?_
        by_cases h4 : 0 ≤ l ∧ l ≤ 65535
        · rw [if_pos ⟨h1, h2, h3, h4⟩]
          simpa [h4] using hj
        · rw [if_neg (fun z => h4 z.2.2.2)]
          have e : (!decide (0 ≤ l ∧ l ≤ 65535)) = true := by simp; omega
          rw [e]
          exact htt
      · rw [if_neg (fun z => h3 z.2.2.1)]
        exact ev_neg h3 htt
    · rw [if_neg (fun z => h2 z.2.1)]
      exact ev_neg h2 htt
  · rw [if_neg (fun z => h1 z.1)]
    exact ev_neg h1 htt

theorem grow_prefixes (n : Int) (h0 : 0 ≤ n) (h1 : n ≤ 4194304) : impl_Prefix_140.f n = some [] := by
  unfold impl_Prefix_140.f
  rw [if_neg (by omega), w64 (by omega) (by omega)]
  by_cases h : n > 0
  · rw [if_pos h, if_pos h0, if_pos (by simp only [List.length_nil]; omega)]
    simp only [Option.bind_some]
    rw [if_pos (by omega)]
    simp
  · rw [if_neg h]
theorem concat_prefixes_ev (a b : List S139) (ha : a.length ≤ 1048576) (hb : b.length ≤ 1048576) : Ev (fun k => impl_Prefix_98.f k [a, b]) (a ++ b) := by
  refine ev_from 6 (fun k => ?_)
  have r0 : rd_L3 [a, b] 0 = a := rfl
  have r1 : rd_L3 [a, b] 1 = b := rfl
  have e0 : wrap64 (0 + (a.length : Int)) = (a.length : Int) := by rw [w64 (by omega) (by omega)]; omega
  have e1 : wrap64 ((a.length : Int) + (b.length : Int)) = (a.length : Int) + (b.length : Int) := by rw [w64 (by omega) (by omega)]
  have w1 : wrap64 ((0 : Int) + 1) = 1 := by rw [w64 (by omega) (by omega)]; rfl
  have w2 : wrap64 ((1 : Int) + 1) = 2 := by rw [w64 (by omega) (by omega)]; rfl
  have L : (([a, b] : List (List S139)).length : Int) = 2 := rfl
  unfold impl_Prefix_98.f
  rw [L, show k + 6 = k + 5 + 1 from rfl, impl_Prefix_98.l0, L, r0, if_pos (by omega), if_pos (by omega), if_pos (by omega), e0, if_neg (by omega), w1]
  rw [show k + 5 = k + 4 + 1 from rfl, impl_Prefix_98.l0, L, r1, if_pos (by omega), if_pos (by omega), if_pos (by omega), e1, if_neg (by omega), w2]
  rw [show k + 4 = k + 3 + 1 from rfl, impl_Prefix_98.l0, if_neg (by omega), grow_prefixes _ (by omega) (by omega)]
  simp only [Option.bind_some]
  rw [L, show k + 3 = k + 2 + 1 from rfl, impl_Prefix_98.l1, L, r0, if_pos (by omega), if_pos (by omega), if_pos (by omega), if_pos (by simp only [List.length_nil]; omega), w1]
  rw [show k + 2 = k + 1 + 1 from rfl, impl_Prefix_98.l1, L, r1, if_pos (by omega), if_pos (by omega), if_pos (by omega), if_pos (by simp only [List.length_append, List.length_nil]; omega), w2]
  rw [impl_Prefix_98.l1, if_neg (by omega)]
  simp

def zeroM (o : Int) (p : List Int) (n m l : Int) : Bool := decide (o = 0 ∧ (p.length : Int) = 0 ∧ n = 0 ∧ m = 0 ∧ l = 0)
theorem spec_zero (o : Int) (p : List Int) (n m l : Int) : spec_l3Zero.f o p n m l = some (zeroM o p n m l) := by
  unfold spec_l3Zero.f zeroM
  repeat' split
  all_goals simp_all
  rw [Bool.eq_iff_iff]; simp
theorem impl_zero : impl_Attrs_isZero.f = spec_l3Zero.f := rfl
def shapeM (has : Bool) (o : Int) (p : List Int) (n m l : Int) (a : List S139) : Bool :=
  if has = true then ((a.length : Int) == 0) else (if (a.length : Int) > 0 then true else (if zeroM o p n m l = true then false else true))
def tailM (has : Bool) (o : Int) (p : List Int) (n m l : Int) (bad : Bool) : Int := if bad = true then 1 else (if has = true then attrsM o p n m l else 0)
def updM (w : List S139) (has : Bool) (o : Int) (p : List Int) (n m l : Int) (a : List S139) : Int :=
  if (w.length : Int) > 8 ∨ (a.length : Int) > 8 then 2 else (if prefsM (w ++ a) = 0 then tailM has o p n m l (shapeM has o p n m l a) else prefsM (w ++ a))
theorem spec_update_j1 (x : Bool) (w : List S139) (has : Bool) (o : Int) (p : List Int) (n m l : Int) (a : List S139) (hp : p.length ≤ 1048576) : Ev (fun k => spec_UpdateFault.j1 k x w has o p n m l a) (tailM has o p n m l x) := by
  refine Ev.step (f := fun k => if x = true then (some 1) else (if has = true then ((spec_AttrsFault.f k o p n m l).bind fun t127 => (some t127)) else (some 0))) (fun k => ?_) ?_
  · rw [spec_UpdateFault.j1]
  · exact ev_ite (fun _ => Ev.now _) (fun _ => ev_ite (fun _ => ev_bind (spec_attrs_ev o p n m l hp) (Ev.now _)) (fun _ => Ev.now _))
theorem impl_update_j1 (x : Bool) (w : List S139) (has : Bool) (o : Int) (p : List Int) (n m l : Int) (a : List S139) (hp : p.length ≤ 1048576) : Ev (fun k => impl_UpdateFault.j1 k x w has o p n m l a) (tailM has o p n m l x) := by
  refine Ev.step (f := fun k => if x = true then (some 1) else (if has = true then ((impl_AttrsFault.f k o p n m l).bind fun t127 => (some t127)) else (some 0))) (fun k => ?_) ?_
  · rw [impl_UpdateFault.j1]
  · exact ev_ite (fun _ => Ev.now _) (fun _ => ev_ite (fun _ => ev_bind (impl_attrs_ev o p n m l hp) (Ev.now _)) (fun _ => Ev.now _))
theorem spec_shape (w : List S139) (has : Bool) (o : Int) (p : List Int) (n m l : Int) (a : List S139) (hp : p.length ≤ 1048576) :
    Ev (fun k => if has = true then spec_UpdateFault.j1 k ((a.length : Int) == 0) w has o p n m l a else (if (a.length : Int) > 0 then spec_UpdateFault.j1 k true w has o p n m l a else ((spec_l3Zero.f o p n m l).bind fun t => if t = true then spec_UpdateFault.j1 k false w has o p n m l a else spec_UpdateFault.j1 k true w has o p n m l a))) (tailM has o p n m l (shapeM has o p n m l a)) := by
  unfold shapeM
  by_cases h1 : has = true
  · rw [if_pos h1]; exact ev_pos h1 (spec_update_j1 _ w has o p n m l a hp)
  · rw [if_neg h1]
    refine ev_neg h1 ?_
    by_cases h2 : (a.length : Int) > 0
    · rw [if_pos h2]; exact ev_pos h2 (spec_update_j1 _ w has o p n m l a hp)
    · rw [if_neg h2]
      refine ev_neg h2 (ev_val (spec_zero o p n m l) ?_)
      by_cases h3 : zeroM o p n m l = true
      · rw [if_pos h3]; exact ev_pos h3 (spec_update_j1 _ w has o p n m l a hp)
      · rw [if_neg h3]; exact ev_neg h3 (spec_update_j1 _ w has o p n m l a hp)
theorem impl_shape (w : List S139) (has : Bool) (o : Int) (p : List Int) (n m l : Int) (a : List S139) (hp : p.length ≤ 1048576) :
    Ev (fun k => if has = true then impl_UpdateFault.j1 k ((a.length : Int) == 0) w has o p n m l a else (if (a.length : Int) > 0 then impl_UpdateFault.j1 k true w has o p n m l a else ((impl_Attrs_isZero.f o p n m l).bind fun t => if t = true then impl_UpdateFault.j1 k false w has o p n m l a else impl_UpdateFault.j1 k true w has o p n m l a))) (tailM has o p n m l (shapeM has o p n m l a)) := by
  unfold shapeM
  by_cases h1 : has = true
  · rw [if_pos h1]; exact ev_pos h1 (impl_update_j1 _ w has o p n m l a hp)
  · rw [if_neg h1]
    refine ev_neg h1 ?_
    by_cases h2 : (a.length : Int) > 0
    · rw [if_pos h2]; exact ev_pos h2 (impl_update_j1 _ w has o p n m l a hp)
    · rw [if_neg h2]
      refine ev_neg h2 (ev_val (spec_zero o p n m l) ?_)
      by_cases h3 : zeroM o p n m l = true
      · rw [if_pos h3]; exact ev_pos h3 (impl_update_j1 _ w has o p n m l a hp)
      · rw [if_neg h3]; exact ev_neg h3 (impl_update_j1 _ w has o p n m l a hp)
theorem spec_update_ev (w : List S139) (has : Bool) (o : Int) (p : List Int) (n m l : Int) (a : List S139) (hp : p.length ≤ 1048576) : Ev (fun k => spec_UpdateFault.f k w has o p n m l a) (updM w has o p n m l a) := by
  have ht : Ev (fun k => spec_UpdateFault.j0 k true w has o p n m l a) 2 := by
    refine Ev.step (f := fun k => some 2) (fun k => ?_) (Ev.now _)
    rw [spec_UpdateFault.j0, if_pos rfl]
  unfold updM spec_UpdateFault.f
  by_cases h1 : (w.length : Int) > 8
  · rw [if_pos (Or.inl h1)]; exact ev_pos h1 ht
  · refine ev_neg h1 ?_
    by_cases h2 : (a.length : Int) > 8
    · rw [if_pos (Or.inr h2)]; simpa [h2] using ht
    · rw [if_neg (by omega)]
      simp only [h2, decide_false]
      refine Ev.step (fun k => by rw [spec_UpdateFault.j0, if_neg (by simp)]) ?_
      unfold prefsM
      rw [firstBad_append]
      refine ev_bind (spec_list_ev w (by omega)) ?_
      by_cases h3 : prefsM w = 0
      · refine ev_pos h3 (ev_bind (spec_list_ev a (by omega)) ?_)
        unfold prefsM at h3
        rw [if_pos h3]
        exact ev_ite (fun _ => spec_shape w has o p n m l a hp) (fun _ => Ev.now _)
      · refine ev_neg h3 ?_
        unfold prefsM at h3
        rw [if_neg h3, if_neg h3]
        exact Ev.now _
theorem impl_update_ev (w : List S139) (has : Bool) (o : Int) (p : List Int) (n m l : Int) (a : List S139) (hp : p.length ≤ 1048576) : Ev (fun k => impl_UpdateFault.f k w has o p n m l a) (updM w has o p n m l a) := by
  have ht : Ev (fun k => impl_UpdateFault.j0 k true w has o p n m l a) 2 := by
    refine Ev.step (f := fun k => some 2) (fun k => ?_) (Ev.now _)
    rw [impl_UpdateFault.j0, if_pos rfl]
  unfold updM impl_UpdateFault.f
  by_cases h1 : (w.length : Int) > 8
  · rw [if_pos (Or.inl h1)]; exact ev_pos h1 ht
  · refine ev_neg h1 ?_
    by_cases h2 : (a.length : Int) > 8
    · rw [if_pos (Or.inr h2)]; simpa [h2] using ht
    · rw [if_neg (by omega)]
      simp only [h2, decide_false]
      refine Ev.step (fun k => by rw [impl_UpdateFault.j0, if_neg (by simp)]) ?_
      refine ev_bind (concat_prefixes_ev w a (by omega) (by omega)) (ev_bind (impl_list_ev (w ++ a) (by simp; omega)) ?_)
      exact ev_ite (fun _ => impl_shape w has o p n m l a hp) (fun _ => Ev.now _)

theorem szUpdate_yes (w : List S171) (has : Bool) (o : Int) (p : List Int) (n m l : Int) (a : List S171) (hz : w.length + p.length + a.length ≤ 1048576) : laws_szUpdate.f w has o p n m l a 1048576 = some (1048576 - (w.length : Int) - (p.length : Int) - (a.length : Int)) := by
  unfold laws_szUpdate.f laws_szPrefixS.f laws_szAttrs.f laws_szInt64S.f
  rw [w64 (by omega) (by omega), if_neg (by omega)]
  simp only [Option.bind_some]
  rw [if_neg (by omega), w64 (by omega) (by omega), if_neg (by omega)]
  simp only [Option.bind_some]
  rw [if_neg (by omega)]
  simp only [Option.bind_some]
  rw [if_neg (by omega), w64 (by omega) (by omega), if_neg (by omega)]
  simp only [Option.bind_some]
  rw [if_neg (by omega)]
theorem szUpdate_no (w : List S171) (has : Bool) (o : Int) (p : List Int) (n m l : Int) (a : List S171) (hw : w.length ≤ 9223372036854775807) (hp : p.length ≤ 9223372036854775807) (ha : a.length ≤ 9223372036854775807) (hz : ¬ w.length + p.length + a.length ≤ 1048576) : laws_szUpdate.f w has o p n m l a 1048576 = some (-1) := by
  unfold laws_szUpdate.f laws_szPrefixS.f laws_szAttrs.f laws_szInt64S.f
  rw [w64 (by omega) (by omega)]
  by_cases h1 : (1048576 : Int) - (w.length : Int) < 0
  · rw [if_pos h1]; rfl
  · rw [if_neg h1]
    simp only [Option.bind_some]
    rw [if_neg h1, w64 (by omega) (by omega)]
    by_cases h2 : (1048576 : Int) - (w.length : Int) - (p.length : Int) < 0
    · rw [if_pos h2]; rfl
    · rw [if_neg h2]
      simp only [Option.bind_some]
      rw [if_neg h2]
      simp only [Option.bind_some]
      rw [if_neg h2, w64 (by omega) (by omega), if_pos (show (1048576 : Int) - (w.length : Int) - (p.length : Int) - (a.length : Int) < 0 by omega)]
      rfl
abbrev UR := List S139 × Bool × Int × List Int × Int × Int × Int × List S139
theorem toUpdate_ev (w : List S171) (has : Bool) (o : Int) (p : List Int) (n m l : Int) (a : List S171) (hw : w.length ≤ 1048576) (hp : p.length ≤ 1048576) (ha : a.length ≤ 1048576) : Ev (fun k => laws_toUpdate.f k w has o p n m l a) (w.map cP, has, o, p, n, m, l, a.map cP) := by
  unfold laws_toUpdate.f laws_toAttrs.f
  exact ev_bind (toPrefixS_ev w hw) (ev_bind (ev_bind (toInt64S_ev p hp) (Ev.now _)) (ev_bind (toPrefixS_ev a ha) (Ev.now _)))
theorem eqUpdate_ev (w : List S139) (has : Bool) (o : Int) (p : List Int) (n m l : Int) (a : List S139) (hw : w.length ≤ 1048576) (hp : p.length ≤ 1048576) (ha : a.length ≤ 1048576) : Ev (fun k => laws_eqUpdate.f k w has o p n m l a w has o p n m l a) true := by
  unfold laws_eqUpdate.f laws_eqAttrs.f
  exact ev_bind (eqPrefixS_ev w hw) (ev_pos rfl (ev_neg (by simp) (ev_bind (ev_pos rfl (ev_bind (eqInt64S_ev p hp) (ev_pos rfl (ev_pos rfl (ev_pos rfl (ev_pos rfl (Ev.now _))))))) (ev_pos rfl (ev_bind (eqPrefixS_ev a ha) (ev_pos rfl (Ev.now _)))))))

def openZ (a h i : Int) : Bool := if a = 0 then (if h = 0 then i == 0 else false) else false
def whyZ (y s : Int) : Bool := if y = 0 then s == 0 else false
def zeroU (w : List S139) (has : Bool) (o : Int) (p : List Int) (n m l : Int) (a : List S139) : Bool := if (w.length : Int) = 0 then (if (a.length : Int) = 0 then (if has = true then false else zeroM o p n m l) else false) else false
def bareB (kind : Int) (oz wz z : Bool) : Bool := if kind = 1 then (wz && z) else (if kind = 3 then (oz && z) else (if kind = 2 then (oz && wz) else (oz && (wz && z))))
def bodyM (kind : Int) (oz wz z : Bool) (u : Int) : Int := if bareB kind oz wz z = true then (if kind = 2 then u else 0) else 1
def openOk (a h i : Int) : Bool := if 1 ≤ a ∧ a ≤ 65535 then (if h = 0 ∨ (3 ≤ h ∧ h ≤ 200) then decide (1 ≤ i ∧ i ≤ 65535) else false) else false
def whyOk (y s : Int) : Bool := if 1 ≤ y ∧ y ≤ 6 then decide (0 ≤ s ∧ s ≤ 20) else false
def msgM (kind sy hold id why sub : Int) (w : List S139) (has : Bool) (o : Int) (p : List Int) (n m l : Int) (a : List S139) : Int :=
  if 1 ≤ kind ∧ kind ≤ 4 then (if kind = 1 ∧ openOk sy hold id = false then 3 else (if kind = 3 ∧ whyOk why sub = false then 3 else bodyM kind (openZ sy hold id) (whyZ why sub) (zeroU w has o p n m l a) (updM w has o p n m l a))) else 1
theorem spec_zeroU (w : List S139) (has : Bool) (o : Int) (p : List Int) (n m l : Int) (a : List S139) : spec_l4Zero.f w has o p n m l a = some (zeroU w has o p n m l a) := by
  unfold spec_l4Zero.f zeroU
  rw [spec_zero]
  repeat' split
  all_goals rfl
theorem impl_zeroU (w : List S139) (has : Bool) (o : Int) (p : List Int) (n m l : Int) (a : List S139) : impl_Update_isZero.f w has o p n m l a = some (zeroU w has o p n m l a) := by
  unfold impl_Update_isZero.f zeroU
  rw [impl_zero, spec_zero]
  simp only [Option.bind_some]
  by_cases h1 : (w.length : Int) = 0
  · rw [if_pos h1, if_pos h1]
    by_cases h2 : has = true
    · rw [if_pos h2, if_pos h2]; split <;> rfl
    · rw [if_neg h2, if_neg h2]
      by_cases h3 : (a.length : Int) = 0
      · rw [if_pos h3]
        have e : ((a.length : Int) == 0) = true := beq_iff_eq.mpr h3
        rw [e]
        cases zeroM o p n m l <;> rfl
      · rw [if_neg h3]
        have e : ((a.length : Int) == 0) = false := beq_eq_false_iff_ne.mpr h3
        rw [e]
        cases zeroM o p n m l <;> rfl
  · rw [if_neg h1, if_neg h1]
theorem zeroU_upd (w : List S139) (has : Bool) (o : Int) (p : List Int) (n m l : Int) (a : List S139) (h : zeroU w has o p n m l a = true) : updM w has o p n m l a = 0 := by
  unfold zeroU at h
  by_cases h1 : (w.length : Int) = 0
  · rw [if_pos h1] at h
    by_cases h3 : (a.length : Int) = 0
    · rw [if_pos h3] at h
      by_cases h2 : has = true
      · rw [if_pos h2] at h; cases h
      · rw [if_neg h2] at h
        have hw : w = [] := List.eq_nil_of_length_eq_zero (by omega)
        have ha : a = [] := List.eq_nil_of_length_eq_zero (by omega)
        subst hw ha
        simp [updM, prefsM, firstBad, tailM, shapeM, h2, h]
    · rw [if_neg h3] at h; cases h
  · rw [if_neg h1] at h; cases h
theorem bare_ev (kind sy hold id why sub : Int) (w : List S139) (has : Bool) (o : Int) (p : List Int) (n m l : Int) (a : List S139) : Ev (fun k => spec_l4Bare.f k kind sy hold id why sub w has o p n m l a) (bareB kind (openZ sy hold id) (whyZ why sub) (zeroU w has o p n m l a)) := by
  have e1 : ∀ k x3 x4, spec_l4Bare.j1 (k + 1) x3 x4 kind sy hold id why sub w has o p n m l a = some (bareB kind x3 x4 (zeroU w has o p n m l a)) := by
    intro k x3 x4
    rw [spec_l4Bare.j1, spec_zeroU]
    unfold bareB
    simp only [Option.bind_some]
    repeat' split
    all_goals simp_all
  have e0 : ∀ k x3, spec_l4Bare.j0 (k + 2) x3 kind sy hold id why sub w has o p n m l a = some (bareB kind x3 (whyZ why sub) (zeroU w has o p n m l a)) := by
    intro k x3
    rw [show k + 2 = k + 1 + 1 from rfl, spec_l4Bare.j0, e1, e1]
    unfold whyZ
    split <;> rfl
  refine ev_from 2 (fun k => ?_)
  unfold spec_l4Bare.f openZ
  rw [e0, e0]
  repeat' split
  all_goals rfl
theorem spec_msg_j1 (x : Bool) (kind sy hold id why sub : Int) (w : List S139) (has : Bool) (o : Int) (p : List Int) (n m l : Int) (a : List S139) (hp : p.length ≤ 1048576) :
    Ev (fun k => spec_MessageFault.j1 k x kind sy hold id why sub w has o p n m l a) (if x = true then 3 else bodyM kind (openZ sy hold id) (whyZ why sub) (zeroU w has o p n m l a) (updM w has o p n m l a)) := by
  refine Ev.step (fun k => by rw [spec_MessageFault.j1]) ?_
  refine ev_ite (fun _ => Ev.now _) (fun _ => ev_bind (bare_ev kind sy hold id why sub w has o p n m l a) ?_)
  unfold bodyM
  exact ev_ite (fun _ => ev_ite (fun _ => ev_bind (spec_update_ev w has o p n m l a hp) (Ev.now _)) (fun _ => Ev.now _)) (fun _ => Ev.now _)
theorem spec_msg_j0 (x : Bool) (kind sy hold id why sub : Int) (w : List S139) (has : Bool) (o : Int) (p : List Int) (n m l : Int) (a : List S139) (hp : p.length ≤ 1048576) :
    Ev (fun k => spec_MessageFault.j0 k x kind sy hold id why sub w has o p n m l a) (if x = true then 3 else (if kind = 3 ∧ whyOk why sub = false then 3 else bodyM kind (openZ sy hold id) (whyZ why sub) (zeroU w has o p n m l a) (updM w has o p n m l a))) := by
  have hj := fun x => spec_msg_j1 x kind sy hold id why sub w has o p n m l a hp
  refine Ev.step (fun k => by rw [spec_MessageFault.j0]) ?_
  refine ev_ite (fun _ => Ev.now _) (fun _ => ?_)
  simp only [in_spec, Option.bind_some, decide_eq_true_eq]
  by_cases h3 : kind = 3
  · refine ev_pos h3 ?_
    by_cases h4 : 1 ≤ why ∧ why ≤ 6
    · refine ev_pos h4 (ev_eq (hj _) ?_)
      unfold whyOk
      rw [if_pos h4]
      by_cases h5 : 0 ≤ sub ∧ sub ≤ 20 <;> simp [h5, h3]
    · refine ev_neg h4 (ev_eq (hj _) ?_)
      unfold whyOk
      rw [if_neg h4]
      simp [h3]
  · refine ev_neg h3 (ev_eq (hj _) ?_)
    simp [h3]
theorem spec_msg_ev (kind sy hold id why sub : Int) (w : List S139) (has : Bool) (o : Int) (p : List Int) (n m l : Int) (a : List S139) (hp : p.length ≤ 1048576) :
    Ev (fun k => spec_MessageFault.f k kind sy hold id why sub w has o p n m l a) (msgM kind sy hold id why sub w has o p n m l a) := by
  have hj := fun x => spec_msg_j0 x kind sy hold id why sub w has o p n m l a hp
  unfold spec_MessageFault.f msgM
  simp only [in_spec, Option.bind_some, decide_eq_true_eq]
  refine ev_ite (fun _ => ?_) (fun _ => Ev.now _)
  by_cases h1 : kind = 1
  · refine ev_pos h1 ?_
    by_cases h2 : 1 ≤ sy ∧ sy ≤ 65535
    · refine ev_pos h2 ?_
      have eh : spec_l4Hold.f hold = some (decide (hold = 0 ∨ (3 ≤ hold ∧ hold ≤ 200))) := by
        unfold spec_l4Hold.f
        rw [in_spec]
        simp only [Option.bind_some]
        by_cases hh : hold = 0 <;> simp [hh]
      rw [eh]
      simp only [Option.bind_some, decide_eq_true_eq]
      by_cases h3 : hold = 0 ∨ (3 ≤ hold ∧ hold ≤ 200)
      · refine ev_pos h3 (ev_eq (hj _) ?_)
        unfold openOk
        rw [if_pos h2, if_pos h3]
        by_cases h5 : 1 ≤ id ∧ id ≤ 65535 <;> simp [h5, h1]
      · refine ev_neg h3 (ev_eq (hj _) ?_)
        unfold openOk
        rw [if_pos h2, if_neg h3]
        simp [h1]
    · refine ev_neg h2 (ev_eq (hj _) ?_)
      unfold openOk
      rw [if_neg h2]
      simp [h1]
  · refine ev_neg h1 (ev_eq (hj _) ?_)
    simp [h1]
theorem impl_msg_j3 (x : Bool) (kind sy hold id why sub : Int) (w : List S139) (has : Bool) (o : Int) (p : List Int) (n m l : Int) (a : List S139) (hp : p.length ≤ 1048576) :
    Ev (fun k => impl_MessageFault.j3 k x kind sy hold id why sub w has o p n m l a) (if x = true then 1 else (if kind = 2 then updM w has o p n m l a else (if zeroU w has o p n m l a = true then updM w has o p n m l a else 1))) := by
  refine Ev.step (fun k => by rw [impl_MessageFault.j3]) ?_
  refine ev_ite (fun _ => Ev.now _) (fun _ => ev_ite (fun _ => ev_bind (impl_update_ev w has o p n m l a hp) (Ev.now _)) (fun _ => ev_val (impl_zeroU w has o p n m l a) (ev_ite (fun _ => ev_bind (impl_update_ev w has o p n m l a hp) (Ev.now _)) (fun _ => Ev.now _))))
theorem impl_msg_j2 (x : Bool) (kind sy hold id why sub : Int) (w : List S139) (has : Bool) (o : Int) (p : List Int) (n m l : Int) (a : List S139) (hp : p.length ≤ 1048576) :
    Ev (fun k => impl_MessageFault.j2 k x kind sy hold id why sub w has o p n m l a) (if x = true then 1 else (if (if kind = 3 then false else !(whyZ why sub)) = true then 1 else (if kind = 2 then updM w has o p n m l a else (if zeroU w has o p n m l a = true then updM w has o p n m l a else 1)))) := by
  have hj := fun x => impl_msg_j3 x kind sy hold id why sub w has o p n m l a hp
  refine Ev.step (fun k => by rw [impl_MessageFault.j2]) ?_
  refine ev_ite (fun _ => Ev.now _) (fun _ => ?_)
  by_cases h3 : kind = 3
  · rw [if_pos h3]; exact ev_pos h3 (hj _)
  · rw [if_neg h3]
    refine ev_neg h3 ?_
    unfold whyZ
    by_cases h4 : why = 0
    · rw [if_pos h4]; exact ev_pos h4 (hj _)
    · rw [if_neg h4]; exact ev_neg h4 (hj _)
theorem impl_msg_j1 (x : Bool) (kind sy hold id why sub : Int) (w : List S139) (has : Bool) (o : Int) (p : List Int) (n m l : Int) (a : List S139) (hp : p.length ≤ 1048576) :
    Ev (fun k => impl_MessageFault.j1 k x kind sy hold id why sub w has o p n m l a) (if x = true then 3 else bodyM kind (openZ sy hold id) (whyZ why sub) (zeroU w has o p n m l a) (updM w has o p n m l a)) := by
  have hj := fun x => impl_msg_j2 x kind sy hold id why sub w has o p n m l a hp
  have hu := zeroU_upd w has o p n m l a
  refine Ev.step (fun k => by rw [impl_MessageFault.j1]) ?_
  refine ev_ite (fun _ => Ev.now _) (fun _ => ?_)
  have key : Ev (fun k => impl_MessageFault.j2 k (if kind = 1 then false else !(openZ sy hold id)) kind sy hold id why sub w has o p n m l a) (bodyM kind (openZ sy hold id) (whyZ why sub) (zeroU w has o p n m l a) (updM w has o p n m l a)) := by
    refine ev_eq (hj _) ?_
    unfold bodyM bareB
    generalize zeroU w has o p n m l a = z at *
    generalize updM w has o p n m l a = u at *
    generalize openZ sy hold id = oz
    generalize whyZ why sub = wz
    by_cases k1 : kind = 1
    · have k2 : ¬ kind = 2 := by omega
      have k3 : ¬ kind = 3 := by omega
      cases oz <;> cases wz <;> cases z <;> simp_all
    · by_cases k3 : kind = 3
      · have k2 : ¬ kind = 2 := by omega
        cases oz <;> cases wz <;> cases z <;> simp_all
      · by_cases k2 : kind = 2
        · cases oz <;> cases wz <;> cases z <;> simp_all
        · cases oz <;> cases wz <;> cases z <;> simp_all
  by_cases h1 : kind = 1
  · rw [if_pos h1] at key; exact ev_pos h1 key
  · rw [if_neg h1] at key
    refine ev_neg h1 ?_
    unfold openZ at key ⊢
    by_cases h2 : sy = 0
    · rw [if_pos h2] at key ⊢
      refine ev_pos h2 ?_
      by_cases h3 : hold = 0
      · rw [if_pos h3] at key ⊢; exact ev_pos h3 key
      · rw [if_neg h3] at key ⊢; exact ev_neg h3 key
    · rw [if_neg h2] at key ⊢; exact ev_neg h2 key
theorem impl_msg_j0 (x : Bool) (kind sy hold id why sub : Int) (w : List S139) (has : Bool) (o : Int) (p : List Int) (n m l : Int) (a : List S139) (hp : p.length ≤ 1048576) :
    Ev (fun k => impl_MessageFault.j0 k x kind sy hold id why sub w has o p n m l a) (if x = true then 3 else (if kind = 3 ∧ whyOk why sub = false then 3 else bodyM kind (openZ sy hold id) (whyZ why sub) (zeroU w has o p n m l a) (updM w has o p n m l a))) := by
  have hj := fun x => impl_msg_j1 x kind sy hold id why sub w has o p n m l a hp
  refine Ev.step (fun k => by rw [impl_MessageFault.j0]) ?_
  refine ev_ite (fun _ => Ev.now _) (fun _ => ?_)
  have er : impl_areReasons.f why sub = some (whyOk why sub) := by
    unfold impl_areReasons.f whyOk
    simp only [in_impl, in_spec, Option.bind_some, decide_eq_true_eq]
    split <;> rfl
  rw [er]
  simp only [Option.bind_some]
  by_cases h3 : kind = 3
  · refine ev_pos h3 (ev_eq (hj _) ?_)
    cases whyOk why sub <;> simp [h3]
  · refine ev_neg h3 (ev_eq (hj _) ?_)
    simp [h3]
theorem impl_msg_ev (kind sy hold id why sub : Int) (w : List S139) (has : Bool) (o : Int) (p : List Int) (n m l : Int) (a : List S139) (hp : p.length ≤ 1048576) :
    Ev (fun k => impl_MessageFault.f k kind sy hold id why sub w has o p n m l a) (msgM kind sy hold id why sub w has o p n m l a) := by
  have hj := fun x => impl_msg_j0 x kind sy hold id why sub w has o p n m l a hp
  unfold impl_MessageFault.f msgM impl_isSystem.f
  simp only [in_impl, in_spec, Option.bind_some, decide_eq_true_eq]
  refine ev_ite (fun _ => ?_) (fun _ => Ev.now _)
  by_cases h1 : kind = 1
  · refine ev_pos h1 ?_
    by_cases h2 : 1 ≤ sy ∧ sy ≤ 65535
    · refine ev_pos h2 ?_
      have eh : impl_isHold.f hold = some (decide (hold = 0 ∨ (3 ≤ hold ∧ hold ≤ 200))) := by
        unfold impl_isHold.f
        rw [in_impl, in_spec]
        simp only [Option.bind_some]
        by_cases hh : hold = 0 <;> simp [hh]
      rw [eh]
      simp only [Option.bind_some, decide_eq_true_eq]
      by_cases h3 : hold = 0 ∨ (3 ≤ hold ∧ hold ≤ 200)
      · refine ev_pos h3 (ev_eq (hj _) ?_)
        unfold openOk
        rw [if_pos h2, if_pos h3]
        by_cases h5 : 1 ≤ id ∧ id ≤ 65535 <;> simp [h5, h1]
      · refine ev_neg h3 (ev_eq (hj _) ?_)
        unfold openOk
        rw [if_pos h2, if_neg h3]
        simp [h1]
    · refine ev_neg h2 (ev_eq (hj _) ?_)
      unfold openOk
      rw [if_neg h2]
      simp [h1]
  · refine ev_neg h1 (ev_eq (hj _) ?_)
    simp [h1]
theorem toMessage_ev (kind sy hold id why sub : Int) (w : List S171) (has : Bool) (o : Int) (p : List Int) (n m l : Int) (a : List S171) (hw : w.length ≤ 1048576) (hp : p.length ≤ 1048576) (ha : a.length ≤ 1048576) : Ev (fun k => laws_toMessage.f k kind sy hold id why sub w has o p n m l a) (kind, sy, hold, id, why, sub, w.map cP, has, o, p, n, m, l, a.map cP) := by
  unfold laws_toMessage.f
  exact ev_bind (toUpdate_ev w has o p n m l a hw hp ha) (Ev.now _)
theorem eqMessage_ev (kind sy hold id why sub : Int) (w : List S139) (has : Bool) (o : Int) (p : List Int) (n m l : Int) (a : List S139) (hw : w.length ≤ 1048576) (hp : p.length ≤ 1048576) (ha : a.length ≤ 1048576) : Ev (fun k => laws_eqMessage.f k kind sy hold id why sub w has o p n m l a kind sy hold id why sub w has o p n m l a) true := by
  unfold laws_eqMessage.f
  exact ev_pos rfl (ev_pos rfl (ev_pos rfl (ev_pos rfl (ev_pos rfl (ev_pos rfl (ev_bind (eqUpdate_ev w has o p n m l a hw hp ha) (ev_pos rfl (Ev.now _))))))))

theorem FnExactMessageFault : ∀ (a0_0 : Int) (a0_1 : Int) (a0_2 : Int) (a0_3 : Int) (a0_4 : Int) (a0_5 : Int) (a0_6_0 : List S171) (a0_6_1 : Bool) (a0_6_2_0 : Int) (a0_6_2_1 : List Int) (a0_6_2_2 : Int) (a0_6_2_3 : Int) (a0_6_2_4 : Int) (a0_6_3 : List S171), (Lit.int .i64 a0_0).wf = true → (Lit.int .i64 a0_1).wf = true → (Lit.int .i64 a0_2).wf = true → (Lit.int .i64 a0_3).wf = true → (Lit.int .i64 a0_4).wf = true → (Lit.int .i64 a0_5).wf = true → (a0_6_0.length ≤ 9223372036854775807 ∧ ∀ x ∈ a0_6_0, ((Lit.int .i64 x.f0).wf = true ∧ (Lit.int .i64 x.f1).wf = true)) → (Lit.int .i64 a0_6_2_0).wf = true → (a0_6_2_1.length ≤ 9223372036854775807 ∧ ∀ x ∈ a0_6_2_1, (Lit.int .i64 x).wf = true) → (Lit.int .i64 a0_6_2_2).wf = true → (Lit.int .i64 a0_6_2_3).wf = true → (Lit.int .i64 a0_6_2_4).wf = true → (a0_6_3.length ≤ 9223372036854775807 ∧ ∀ x ∈ a0_6_3, ((Lit.int .i64 x.f0).wf = true ∧ (Lit.int .i64 x.f1).wf = true)) → ∃ k, laws_FnExactMessageFault.f k a0_0 a0_1 a0_2 a0_3 a0_4 a0_5 a0_6_0 a0_6_1 a0_6_2_0 a0_6_2_1 a0_6_2_2 a0_6_2_3 a0_6_2_4 a0_6_3 = some true := by
  intro kind sy hold id why sub w has o p n m l a _ _ _ _ _ _ hw _ hp _ _ _ ha
  obtain ⟨hw, _⟩ := hw
  obtain ⟨hp, _⟩ := hp
  obtain ⟨ha, _⟩ := ha
  by_cases hz : w.length + p.length + a.length ≤ 1048576
  · refine Ev.rounds ?_
    have hto := toMessage_ev kind sy hold id why sub w has o p n m l a (by omega) (by omega) (by omega)
    have hS := spec_msg_ev kind sy hold id why sub (w.map cP) has o p n m l (a.map cP) (by omega)
    have hI := impl_msg_ev kind sy hold id why sub (w.map cP) has o p n m l (a.map cP) (by omega)
    have hsz : laws_szMessage.f kind sy hold id why sub w has o p n m l a 1048576 = some (1048576 - (w.length : Int) - (p.length : Int) - (a.length : Int)) := by
      unfold laws_szMessage.f
      rw [szUpdate_yes w has o p n m l a hz]
      simp only [Option.bind_some]
      rw [if_neg (by omega)]
    unfold laws_FnExactMessageFault.f
    refine ev_val hsz (ev_neg (by omega) ?_)
    refine ev_bind hto (ev_bind hS (ev_bind hto (ev_bind hI (ev_pos rfl ?_))))
    exact ev_bind hto (ev_bind (eqMessage_ev kind sy hold id why sub (w.map cP) has o p n m l (a.map cP) (by simp; omega) (by omega) (by simp; omega)) (ev_pos rfl (Ev.now _)))
  · refine ⟨0, ?_⟩
    unfold laws_FnExactMessageFault.f laws_szMessage.f
    rw [szUpdate_no w has o p n m l a hw hp ha hz]
    rfl

end Go.Proofs.Ytjbeehechclccad.Pure
