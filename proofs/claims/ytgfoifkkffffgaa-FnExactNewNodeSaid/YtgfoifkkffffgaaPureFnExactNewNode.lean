/- FnExactNewNode: what the printed functions compute answers as the statement says: for every input the law is true. No condition beside the arguments being of their kinds. -/
import Derived.Test.YtgfoifkkffffgaaPFnExactNewNodex90
import Derived.OpenShut
namespace Go.Proofs.Ytgfoifkkffffgaa.Pure
open Go.RowKit Go.Proofs.YtgfoifkkffffgaaW.PrintWords Go.Proofs.YtgfoifkkffffgaaW.PrintLast Go.Proofs.YtgfoifkkffffgaaW.PrintMore Go.Proofs.Ytgfoifkkffffgaa.PFnExactNewNode
set_option linter.unusedVariables false
set_option linter.unusedSimpArgs false

/-! ### plain words -/
theorem w64 {x : Int} (h0 : -9223372036854775808 ≤ x) (h1 : x ≤ 9223372036854775807) : wrap64 x = x := by unfold wrap64; omega
theorem ev_some {α : Type} {g : Nat → Option α} {r : α} (h : ∀ k, g k = some r) : Ev g r := ⟨0, fun k _ => h k⟩
theorem ev_bind {α β : Type} {g : Nat → Option α} {f : Nat → α → Option β} {a : α} {r : β} (h : Ev g a) (k : Ev (fun n => f n a) r) : Ev (fun n => (g n).bind (f n)) r := Ev.bind h k
theorem ev_val {α β : Type} {o : Option α} {a : α} (h : o = some a) {f : Nat → α → Option β} {r : β} (k : Ev (fun n => f n a) r) : Ev (fun n => o.bind (f n)) r := by
  subst h
  exact k
theorem ev_pos {α : Type} {c : Prop} [Decidable c] {a b : Nat → Option α} {r : α} (hc : c) (h : Ev a r) : Ev (fun k => if c then a k else b k) r := Ev.congr (fun _ => if_pos hc) h
theorem ev_neg {α : Type} {c : Prop} [Decidable c] {a b : Nat → Option α} {r : α} (hc : ¬ c) (h : Ev b r) : Ev (fun k => if c then a k else b k) r := Ev.congr (fun _ => if_neg hc) h
theorem ev_ite {α : Type} {c : Prop} [Decidable c] {a b : Nat → Option α} {x y : α} (h1 : c → Ev a x) (h2 : ¬ c → Ev b y) : Ev (fun k => if c then a k else b k) (if c then x else y) := by
  by_cases h : c
  · rw [if_pos h]
    exact ev_pos h (h1 h)
  · rw [if_neg h]
    exact ev_neg h (h2 h)
theorem ev_eq {α : Type} {g : Nat → Option α} {r r' : α} (h : Ev g r) (e : r = r') : Ev g r' := e ▸ h
theorem ev_uniq {α : Type} {g : Nat → Option α} {r r' : α} (h : Ev g r) (h' : Ev g r') : r = r' := by
  obtain ⟨K, hK⟩ := h
  obtain ⟨K', hK'⟩ := h'
  have h1 := hK (max K K') (Nat.le_max_left _ _)
  have h2 := hK' (max K K') (Nat.le_max_right _ _)
  exact Option.some.inj (h1.symm.trans h2)
/-- So many rounds are enough. -/
theorem ev_from {α : Type} {g : Nat → Option α} {r : α} (n : Nat) (h : ∀ k, g (k + n) = some r) : Ev g r :=
  ⟨n, fun k hk => by have := h (k - n); rwa [Nat.sub_add_cancel hk] at this⟩
theorem rd_nat (xs : List Int) (i : Nat) : rd xs (i : Int) = xs.getD i 0 := by simp [rd]
theorem rd_lt {xs : List Int} {i : Nat} (h : i < xs.length) : rd xs (i : Int) = xs[i] := by
  rw [rd_nat, List.getD_eq_getElem?_getD, List.getElem?_eq_getElem h]; rfl
theorem set_take {xs out : List Int} {i : Nat} (hi : i < xs.length) (hl : out.length = xs.length) (ht : out.take i = xs.take i) : (out.set i xs[i]).take (i + 1) = xs.take (i + 1) := by
  rw [List.take_succ_eq_append_getElem (by simp; omega), List.take_succ_eq_append_getElem hi]
  rw [List.take_set_of_le (Nat.le_refl i), ht]
  simp
/-- A copy, number by number. -/
theorem copy_loop (l : Nat → List Int → List Int → Int → Option (List Int))
    (h : ∀ k xs out i, l (k + 1) xs out i = if i < (xs.length : Int) then (if 0 ≤ i then (if i < (out.length : Int) then l k xs (out.set (i : Int).toNat (rd xs i)) (wrap64 (i + 1)) else none) else none) else some out)
    (xs : List Int) (hx : xs.length ≤ 4611686018427387904) : ∀ (d i : Nat) (out : List Int), i + d = xs.length → out.length = xs.length → out.take i = xs.take i → Ev (fun k => l k xs out (i : Int)) xs
  | 0, i, out, hd, hl, ht => by
    refine Ev.step (f := fun _ => some xs) (fun k => ?_) (Ev.now _)
    rw [h, if_neg (by omega)]
    congr 1
    rw [List.take_of_length_le (by omega), List.take_of_length_le (by omega)] at ht
    exact ht
  | d + 1, i, out, hd, hl, ht => by
    have hi : i < xs.length := by omega
    refine Ev.step (f := fun k => l k xs (out.set i xs[i]) ((i + 1 : Nat) : Int)) (fun k => ?_) (copy_loop l h xs hx d (i + 1) _ (by omega) (by simpa using hl) (set_take hi hl ht))
    rw [h, if_pos (by omega), if_pos (by omega), if_pos (by omega), w64 (by omega) (by omega), rd_lt hi]
    simp
/-- Two equal lists, number by number. -/
theorem same_loop (l : Nat → List Int → List Int → Int → Option Bool)
    (h : ∀ k xs ys i, l (k + 1) xs ys i = if i < (xs.length : Int) then (if 0 ≤ i then (if i < (ys.length : Int) then (if rd xs i = rd ys i then l k xs ys (wrap64 (i + 1)) else some false) else none) else none) else some true)
    (xs : List Int) (hx : xs.length ≤ 4611686018427387904) : ∀ (d i : Nat), i + d = xs.length → Ev (fun k => l k xs xs (i : Int)) true
  | 0, i, hd => by
    refine Ev.step (f := fun _ => some true) (fun k => ?_) (Ev.now _)
    rw [h, if_neg (by omega)]
  | d + 1, i, hd => by
    refine Ev.step (f := fun k => l k xs xs ((i + 1 : Nat) : Int)) (fun k => ?_) (same_loop l h xs hx d (i + 1) (by omega))
    rw [h, if_pos (by omega), if_pos (by omega), if_pos (by omega), if_pos rfl, w64 (by omega) (by omega)]
    simp

/-- A loop that goes on to its end. -/
theorem for_loop {σ ρ : Type} (l : Nat → σ → Int → Option ρ) (n : Nat) (s : Nat → σ) {r : ρ}
    (hstep : ∀ i, i < n → ∀ r, Ev (fun k => l k (s (i + 1)) ((i + 1 : Nat) : Int)) r → Ev (fun k => l k (s i) (i : Int)) r)
    (hend : Ev (fun k => l k (s n) (n : Int)) r) : ∀ (d i : Nat), i + d = n → Ev (fun k => l k (s i) (i : Int)) r
  | 0, i, h => by
    have e : i = n := by omega
    rw [e]; exact hend
  | d + 1, i, h => hstep i (by omega) r (for_loop l n s hstep hend d (i + 1) (by omega))
/-- What a copy has so far. -/
def sofar {α β : Type} (f : α → β) (z : β) (xs : List α) (i : Nat) : List β := (xs.take i).map f ++ List.replicate (xs.length - i) z
theorem sofar_length {α β : Type} (f : α → β) (z : β) (xs : List α) (i : Nat) (hi : i ≤ xs.length) : (sofar f z xs i).length = xs.length := by
  unfold sofar
  simp
  omega
theorem sofar_set {α β : Type} (f : α → β) (z : β) (xs : List α) (i : Nat) (hi : i < xs.length) : (sofar f z xs i).set i (f xs[i]) = sofar f z xs (i + 1) := by
  unfold sofar
  rw [List.set_append_right _ _ (by simp; omega), List.take_succ_eq_append_getElem hi, List.map_append, List.append_assoc]
  congr 1
  have e : i - (List.map f (List.take i xs)).length = 0 := by simp; omega
  rw [e, show xs.length - i = xs.length - (i + 1) + 1 by omega, List.replicate_succ, List.set_cons_zero]
  rfl
theorem sofar_zero {α β : Type} (f : α → β) (z : β) (xs : List α) : sofar f z xs 0 = List.replicate xs.length z := by
  unfold sofar
  simp
theorem sofar_all {α β : Type} (f : α → β) (z : β) (xs : List α) : sofar f z xs xs.length = xs.map f := by
  unfold sofar
  simp
theorem getD_lt {α : Type} {z : α} {xs : List α} {i : Nat} (h : i < xs.length) : xs.getD i z = xs[i] := by
  rw [List.getD_eq_getElem?_getD, List.getElem?_eq_getElem h]; rfl
theorem conv_loop {α β : Type} (f : α → β) (z : β) (l : Nat → List β → Int → Option (List β)) (xs : List α)
    (hstep : ∀ (i : Nat) (hi : i < xs.length) (out : List β) (r : List β), out.length = xs.length → Ev (fun k => l k (out.set i (f xs[i])) ((i + 1 : Nat) : Int)) r → Ev (fun k => l k out (i : Int)) r)
    (hend : ∀ out : List β, Ev (fun k => l k out (xs.length : Int)) out) : Ev (fun k => l k (List.replicate xs.length z) 0) (xs.map f) := by
  have h := for_loop (fun k o i => l k o i) xs.length (sofar f z xs) (r := xs.map f) (fun i hi r hr => hstep i hi _ r (sofar_length f z xs i (by omega)) (by rw [sofar_set f z xs i hi]; exact hr)) (by rw [sofar_all]; exact hend _) xs.length 0 (by omega)
  rw [sofar_zero] at h
  exact h
theorem all_loop {ρ : Type} (l : Nat → Int → Option ρ) (n : Nat) {r : ρ}
    (hstep : ∀ i, i < n → ∀ r, Ev (fun k => l k ((i + 1 : Nat) : Int)) r → Ev (fun k => l k (i : Int)) r)
    (hend : Ev (fun k => l k (n : Int)) r) : Ev (fun k => l k 0) r :=
  for_loop (fun k (_ : Unit) i => l k i) n (fun _ => ()) (fun i hi r hr => hstep i hi r hr) hend n 0 (by omega)
/-- The first fault of a list, or zero. -/
def firstBad {α : Type} (f : α → Int) : List α → Int
  | [] => 0
  | x :: t => if f x = 0 then firstBad f t else f x
theorem firstBad_append {α : Type} (f : α → Int) (xs ys : List α) : firstBad f (xs ++ ys) = if firstBad f xs = 0 then firstBad f ys else firstBad f xs := by
  induction xs with
  | nil => simp [firstBad]
  | cons x t ih =>
    by_cases h : f x = 0
    · have e : ∀ z, firstBad f (x :: z) = firstBad f z := fun z => by simp [firstBad, h]
      rw [List.cons_append, e, e, ih]
    · have e : ∀ z, firstBad f (x :: z) = f x := fun z => by simp [firstBad, h]
      rw [List.cons_append, e, e, if_neg h]
theorem first_loop {α : Type} (f : α → Int) (l : Nat → Int → Option Int) (xs : List α)
    (hgo : ∀ (i : Nat) (hi : i < xs.length), f xs[i] = 0 → ∀ r, Ev (fun k => l k ((i + 1 : Nat) : Int)) r → Ev (fun k => l k (i : Int)) r)
    (hstop : ∀ (i : Nat) (hi : i < xs.length), f xs[i] ≠ 0 → Ev (fun k => l k (i : Int)) (f xs[i]))
    (hend : Ev (fun k => l k (xs.length : Int)) 0) : ∀ (d i : Nat), i + d = xs.length → Ev (fun k => l k (i : Int)) (firstBad f (xs.drop i))
  | 0, i, h => by
    have e : i = xs.length := by omega
    rw [e, List.drop_length]; exact hend
  | d + 1, i, h => by
    have hi : i < xs.length := by omega
    rw [List.drop_eq_getElem_cons hi, firstBad]
    by_cases hf : f xs[i] = 0
    · rw [if_pos hf]
      exact hgo i hi hf _ (first_loop f l xs hgo hstop hend d (i + 1) (by omega))
    · rw [if_neg hf]
      exact hstop i hi hf
theorem first_loop0 {α : Type} (f : α → Int) (l : Nat → Int → Option Int) (xs : List α)
    (hgo : ∀ (i : Nat) (hi : i < xs.length), f xs[i] = 0 → ∀ r, Ev (fun k => l k ((i + 1 : Nat) : Int)) r → Ev (fun k => l k (i : Int)) r)
    (hstop : ∀ (i : Nat) (hi : i < xs.length), f xs[i] ≠ 0 → Ev (fun k => l k (i : Int)) (f xs[i]))
    (hend : Ev (fun k => l k (xs.length : Int)) 0) : Ev (fun k => l k 0) (firstBad f xs) := by
  have h := first_loop f l xs hgo hstop hend xs.length 0 (by omega)
  rwa [List.drop_zero] at h
/-- The bind of an Ev, told by the bound value. -/
theorem ev_then {α β : Type} {g : Nat → Option α} {f : Nat → α → Option β} {a : α} {r : β} (k : Ev (fun n => f n a) r) (h : Ev g a) : Ev (fun n => (g n).bind (f n)) r := Ev.bind h k

theorem eqByteS_ev (xs : List Int) (hx : xs.length ≤ 1048576) : Ev (fun k => laws_eqByteS.f k xs xs) true := by
  refine Ev.congr (f := fun k => laws_eqByteS.l0 k xs xs 0) (fun k => ?_) (same_loop _ (fun _ _ _ _ => rfl) xs (by omega) xs.length 0 (by omega))
  unfold laws_eqByteS.f
  rw [if_pos rfl]

/-- What marks leave: from m on, one more each. -/
def marked (f : Int → Int) (m : Int) (n : Nat) : List Int := (List.range n).map (fun j : Nat => f (m + (j : Int)))
theorem marked_length (f : Int → Int) (m : Int) (n : Nat) : (marked f m n).length = n := by simp [marked]
theorem marked_get {f : Int → Int} {m : Int} {n i : Nat} (h : i < (marked f m n).length) : (marked f m n)[i] = f (m + (i : Int)) := by simp [marked]
theorem mark_loop (f : Int → Int) (l : Nat → List Int → Int → Int → Option (Int × List Int))
    (h : ∀ k xs m i, l (k + 1) xs m i = if i < (xs.length : Int) then (if 0 ≤ i then (l k (xs.set (i : Int).toNat (f m)) (wrap64 (m + 1)) (wrap64 (i + 1))) else none) else some (m, xs))
    (n : Nat) (hn : n ≤ 2305843009213693952) (m0 : Int) (h0 : 0 ≤ m0) (h1 : m0 ≤ 2305843009213693952) :
    ∀ (d i : Nat) (xs : List Int), i + d = n → xs.length = n → xs.take i = (marked f m0 n).take i → Ev (fun k => l k xs (m0 + (i : Int)) (i : Int)) (m0 + (n : Int), marked f m0 n)
  | 0, i, xs, hd, hl, ht => by
    refine Ev.step (f := fun _ => some (m0 + (n : Int), marked f m0 n)) (fun k => ?_) (Ev.now _)
    rw [h, if_neg (by omega)]
    have hm := marked_length f m0 n
    rw [List.take_of_length_le (by omega), List.take_of_length_le (by omega)] at ht
    rw [ht, show i = n by omega]
  | d + 1, i, xs, hd, hl, ht => by
    have hm := marked_length f m0 n
    have hi : i < (marked f m0 n).length := by omega
    refine Ev.step (f := fun k => l k (xs.set i (marked f m0 n)[i]) (m0 + ((i + 1 : Nat) : Int)) ((i + 1 : Nat) : Int)) (fun k => ?_)
      (mark_loop f l h n hn m0 h0 h1 d (i + 1) _ (by omega) (by simpa using hl) (set_take hi (by omega) ht))
    rw [h, if_pos (by omega), if_pos (by omega), w64 (by omega) (by omega), w64 (by omega) (by omega), marked_get hi]
    simp [Int.add_assoc]
theorem held_loop (f : Int → Int) (l : Nat → List Int → Int → Int → Option Int)
    (h : ∀ k xs m i, l (k + 1) xs m i = if i < (xs.length : Int) then (if 0 ≤ i then (if rd xs i = f m then (l k xs (wrap64 (m + 1)) (wrap64 (i + 1))) else some (-1)) else none) else some m)
    (n : Nat) (hn : n ≤ 2305843009213693952) (m0 : Int) (h0 : 0 ≤ m0) (h1 : m0 ≤ 2305843009213693952) :
    ∀ (d i : Nat), i + d = n → Ev (fun k => l k (marked f m0 n) (m0 + (i : Int)) (i : Int)) (m0 + (n : Int))
  | 0, i, hd => by
    refine Ev.step (f := fun _ => some (m0 + (n : Int))) (fun k => ?_) (Ev.now _)
    have hm := marked_length f m0 n
    rw [h, if_neg (by omega), show i = n by omega]
  | d + 1, i, hd => by
    have hm := marked_length f m0 n
    have hi : i < (marked f m0 n).length := by omega
    refine Ev.step (f := fun k => l k (marked f m0 n) (m0 + ((i + 1 : Nat) : Int)) ((i + 1 : Nat) : Int)) (fun k => ?_) (held_loop f l h n hn m0 h0 h1 d (i + 1) (by omega))
    rw [h, if_pos (by omega), if_pos (by omega), rd_lt hi, marked_get hi, if_pos rfl, w64 (by omega) (by omega), w64 (by omega) (by omega)]
    simp [Int.add_assoc]

theorem markByteS_ev (xs : List Int) (hx : xs.length ≤ 1048576) (m : Int) (h0 : 0 ≤ m) (h1 : m ≤ 1152921504606846976) : Ev (fun k => laws_markByteS.f k xs m) (m + (xs.length : Int), marked (· % 256) m xs.length) := by
  have := mark_loop (· % 256) laws_markByteS.l0 (fun _ _ _ _ => rfl) xs.length (by omega) m h0 (by omega) xs.length 0 xs (by omega) rfl rfl
  unfold laws_markByteS.f
  simpa using this
theorem heldByteS_ev (n : Nat) (hx : n ≤ 1048576) (m : Int) (h0 : 0 ≤ m) (h1 : m ≤ 1152921504606846976) : Ev (fun k => laws_heldByteS.f k (marked (· % 256) m n) m) (m + (n : Int)) := by
  have := held_loop (· % 256) laws_heldByteS.l0 (fun _ _ _ _ => rfl) n (by omega) m h0 (by omega) n 0 (by omega)
  unfold laws_heldByteS.f
  simpa using this

theorem in_spec (a b c : Int) : spec_l1In.f a b c = some (decide (b ≤ a ∧ a ≤ c)) := by
  unfold spec_l1In.f
  by_cases h : a ≥ b
  · rw [if_pos h]; congr 1; simp [h]
  · rw [if_neg h]; congr 1; simp; intro h'; omega
theorem in_impl : impl_in.f = spec_l1In.f := rfl

theorem eqEntryS_ev (xs : List S51) (hx : xs.length ≤ 1048576) (hb : ∀ x ∈ xs, x.f1.f2.length ≤ 1048576) : Ev (fun k => laws_eqEntryS.f k xs xs) true := by
  refine Ev.congr (f := fun k => laws_eqEntryS.l0 k xs xs 0) (fun k => ?_) (all_loop (fun k i => laws_eqEntryS.l0 k xs xs i) xs.length (fun i hi r hr => ?_) ?_)
  · unfold laws_eqEntryS.f
    rw [if_pos rfl]
  · refine Ev.step (f := fun k => (laws_eqEntry.f k xs[i].f0 xs[i].f1.f0 xs[i].f1.f1 xs[i].f1.f2 xs[i].f0 xs[i].f1.f0 xs[i].f1.f1 xs[i].f1.f2).bind fun t => if t = true then laws_eqEntryS.l0 k xs xs ((i + 1 : Nat) : Int) else some false) (fun k => ?_) (ev_bind (a := true) ?_ (ev_pos rfl hr))
    · rw [laws_eqEntryS.l0, if_pos (by omega), if_pos (by omega), if_pos (by omega), w64 (by omega) (by omega)]
      simp only [rd_T51, Int.toNat_natCast, getD_lt hi]
      rfl
    · unfold laws_eqEntry.f laws_eqEvent.f
      exact ev_pos rfl (ev_bind (ev_pos rfl (ev_pos rfl (ev_bind (eqByteS_ev _ (hb _ (List.getElem_mem hi))) (ev_pos rfl (Ev.now _))))) (ev_pos rfl (Ev.now _)))
  · refine Ev.step (f := fun _ => some true) (fun k => ?_) (Ev.now _)
    rw [laws_eqEntryS.l0, if_neg (by omega)]

/-! ### what marks leave of entries -/
def markE : List S51 → Int → List S51
  | [], _ => []
  | x :: t, m => (⟨m, ⟨m + 1, m + 1 + 1, marked (· % 256) (m + 1 + 1 + 1) x.f1.f2.length⟩⟩ : S51) :: markE t (m + 1 + 1 + 1 + (x.f1.f2.length : Int))
def endE : List S51 → Int → Int
  | [], m => m
  | x :: t, m => endE t (m + 1 + 1 + 1 + (x.f1.f2.length : Int))
theorem endE_le : ∀ (xs : List S51) (m : Int), m ≤ endE xs m
  | [], m => Int.le_refl _
  | x :: t, m => by have := endE_le t (m + 1 + 1 + 1 + (x.f1.f2.length : Int)); unfold endE; omega
theorem markEntryS_ev : ∀ (xs : List S51) (m : Int), 0 ≤ m → m + (xs.length : Int) * 1048579 ≤ 1152921504606846976 → (∀ x ∈ xs, x.f1.f2.length ≤ 1048576) → Ev (fun k => laws_markEntryS.f k xs m) (endE xs m, markE xs m)
  | [], m, h0, h1, hb => ev_some (fun k => rfl)
  | x :: t, m, h0, h1, hb => by
    have hx := hb x (by simp)
    simp only [List.length_cons] at h1
    have ih := markEntryS_ev t (m + 1 + 1 + 1 + (x.f1.f2.length : Int)) (by omega) (by omega) (fun y hy => hb y (by simp [hy]))
    unfold laws_markEntryS.f endE markE
    rw [w64 (x := m + 1) (by omega) (by omega), w64 (x := m + 1 + 1) (by omega) (by omega), w64 (x := m + 1 + 1 + 1) (by omega) (by omega)]
    exact ev_bind (markByteS_ev x.f1.f2 hx (m + 1 + 1 + 1) (by omega) (by omega)) (ev_bind ih (Ev.now _))
theorem heldEntryS_loop : ∀ (t d : List S51) (m : Int), 0 ≤ m → m + (t.length : Int) * 1048579 ≤ 1152921504606846976 → d.length + t.length ≤ 1048576 → (∀ x ∈ t, x.f1.f2.length ≤ 1048576) → Ev (fun k => laws_heldEntryS.l0 k (d ++ markE t m) m (d.length : Int)) (endE t m)
  | [], d, m, h0, h1, hd, hb => by
    refine Ev.step (f := fun _ => some m) (fun k => ?_) (Ev.now _)
    rw [laws_heldEntryS.l0, if_neg (by simp [markE])]
  | x :: t, d, m, h0, h1, hd, hb => by
    have hx := hb x (by simp)
    simp only [List.length_cons] at h1 hd
    have ih := heldEntryS_loop t (d ++ [(⟨m, ⟨m + 1, m + 1 + 1, marked (· % 256) (m + 1 + 1 + 1) x.f1.f2.length⟩⟩ : S51)]) (m + 1 + 1 + 1 + (x.f1.f2.length : Int)) (by omega) (by omega) (by simp; omega) (fun y hy => hb y (by simp [hy]))
    have e : (d ++ markE (x :: t) m) = (d ++ [(⟨m, ⟨m + 1, m + 1 + 1, marked (· % 256) (m + 1 + 1 + 1) x.f1.f2.length⟩⟩ : S51)]) ++ markE t (m + 1 + 1 + 1 + (x.f1.f2.length : Int)) := by simp [markE]
    have hr : rd_T51 (d ++ markE (x :: t) m) (d.length : Int) = (⟨m, ⟨m + 1, m + 1 + 1, marked (· % 256) (m + 1 + 1 + 1) x.f1.f2.length⟩⟩ : S51) := by simp [rd_T51, markE]
    refine Ev.step (f := fun k => (laws_heldByteS.f k (marked (· % 256) (m + 1 + 1 + 1) x.f1.f2.length) (m + 1 + 1 + 1)).bind fun t179 => (if t179 < 0 then (some (-1)) else (laws_heldEntryS.l0 k (d ++ markE (x :: t) m) t179 (((d ++ [(⟨m, ⟨m + 1, m + 1 + 1, marked (· % 256) (m + 1 + 1 + 1) x.f1.f2.length⟩⟩ : S51)]).length : Nat) : Int)))) (fun k => ?_) (ev_bind (heldByteS_ev _ hx _ (by omega) (by omega)) (ev_neg (by omega) ?_))
    · rw [laws_heldEntryS.l0, if_pos (by simp [markE]; omega), if_pos (by omega), hr]
      simp only [w64 (x := m + 1) (by omega) (by omega), w64 (x := m + 1 + 1) (by omega) (by omega), w64 (x := m + 1 + 1 + 1) (by omega) (by omega), if_true]
      rw [w64 (x := (d.length : Int) + 1) (by omega) (by omega)]
      simp
    · rw [e]; exact ih
theorem endE_nonneg (xs : List S51) (m : Int) (h : 0 ≤ m) : ¬ endE xs m < 0 := by have := endE_le xs m; omega
theorem markNode_ev (id : Int) (up : Bool) (role ep : Int) (xs : List S51) (sure mt ot co m : Int) (h0 : 0 ≤ m) (h1 : m ≤ 16) (hl : xs.length ≤ 1048576) (hb : ∀ x ∈ xs, x.f1.f2.length ≤ 1048576) : Ev (fun k => laws_markNode.f k id up role ep xs sure mt ot co m) (endE xs m, markE xs m) := by
  unfold laws_markNode.f
  exact ev_bind (markEntryS_ev xs m h0 (by omega) hb) (Ev.now _)
theorem markNodeResult_ev (c id : Int) (up : Bool) (role ep : Int) (xs : List S51) (sure mt ot co m : Int) (h0 : 0 ≤ m) (h1 : m ≤ 16) (hl : xs.length ≤ 1048576) (hb : ∀ x ∈ xs, x.f1.f2.length ≤ 1048576) : Ev (fun k => laws_markNodeResult.f k c id up role ep xs sure mt ot co [] m) (endE xs m, markE xs m, []) := by
  unfold laws_markNodeResult.f
  exact ev_bind (markNode_ev id up role ep xs sure mt ot co m h0 h1 hl hb) (ev_bind (a := (endE xs m, [])) (ev_some (fun k => rfl)) (Ev.now _))
theorem heldNodeResult_ev (c id : Int) (up : Bool) (role ep : Int) (xs : List S51) (sure mt ot co m : Int) (h0 : 0 ≤ m) (h1 : m ≤ 16) (hl : xs.length ≤ 1048576) (hb : ∀ x ∈ xs, x.f1.f2.length ≤ 1048576) : Ev (fun k => laws_heldNodeResult.f k c id up role ep (markE xs m) sure mt ot co [] m) (endE xs m) := by
  have he := endE_nonneg xs m h0
  have h := heldEntryS_loop xs [] m h0 (by omega) (by simpa using hl) hb
  unfold laws_heldNodeResult.f laws_heldNode.f laws_heldEntryS.f
  refine ev_bind (ev_bind (a := endE xs m) (by simpa using h) (ev_neg he (Ev.now _))) (ev_neg he (ev_bind (a := endE xs m) ?_ (ev_neg he (Ev.now _))))
  unfold laws_heldMailS.f
  refine ev_from 1 (fun k => ?_)
  rw [laws_heldMailS.l0, if_neg (by simp)]
theorem eqNode_ev (id : Int) (up : Bool) (role ep : Int) (xs : List S51) (sure mt ot co : Int) (hl : xs.length ≤ 1048576) (hb : ∀ x ∈ xs, x.f1.f2.length ≤ 1048576) : Ev (fun k => laws_eqNode.f k id up role ep xs sure mt ot co id up role ep xs sure mt ot co) true := by
  unfold laws_eqNode.f
  exact ev_pos rfl (ev_neg (by simp) (ev_pos rfl (ev_pos rfl (ev_bind (eqEntryS_ev _ hl hb) (ev_pos rfl (ev_pos rfl (ev_pos rfl (ev_pos rfl (ev_pos rfl (Ev.now _))))))))))
theorem eqNodeResult_ev (c id : Int) (up : Bool) (role ep : Int) (xs : List S51) (sure mt ot co : Int) (hl : xs.length ≤ 1048576) (hb : ∀ x ∈ xs, x.f1.f2.length ≤ 1048576) : Ev (fun k => laws_eqNodeResult.f k c id up role ep xs sure mt ot co [] c id up role ep xs sure mt ot co []) true := by
  unfold laws_eqNodeResult.f
  refine ev_pos rfl (ev_bind (eqNode_ev id up role ep xs sure mt ot co hl hb) (ev_pos rfl (ev_bind (a := true) ?_ (ev_pos rfl (Ev.now _)))))
  unfold laws_eqMailS.f
  refine ev_from 1 (fun k => ?_)
  rw [if_pos rfl, laws_eqMailS.l0, if_neg (by simp)]

theorem FnExactNewNode : ∀ (a0 : Int), (Lit.int .i64 a0).wf = true → ∃ k, laws_FnExactNewNode.f k a0 = some true := by
  intro id _
  refine Ev.rounds ?_
  unfold laws_FnExactNewNode.f
  have hs : spec_NewNode.f id = some (if 0 ≤ id ∧ id ≤ 1 then (0, id, true, 0, 0, [], 0, 0, 0, 0, []) else (3, 0, false, 0, 0, [], 0, 0, 0, 0, [])) := by
    unfold spec_NewNode.f
    simp only [in_spec, Option.bind_some, decide_eq_true_eq]
    split <;> rfl
  have hi : impl_NewNode.f id = some (if 0 ≤ id ∧ id ≤ 1 then (0, id, true, 0, 0, [], 0, 0, 0, 0, []) else (3, 0, false, 0, 0, [], 0, 0, 0, 0, [])) := by
    unfold impl_NewNode.f impl_isNode.f
    simp only [in_impl, in_spec, Option.bind_some, decide_eq_true_eq]
    split <;> rfl
  obtain ⟨c, id', up', role', ep', ys, sure', mt', ot', co', e, hy, hyb⟩ : ∃ c id' up' role' ep' ys sure' mt' ot' co', (if 0 ≤ id ∧ id ≤ 1 then (0, id, true, 0, 0, [], 0, 0, 0, 0, []) else (3, 0, false, 0, 0, [], 0, 0, 0, 0, []) : Int × Int × Bool × Int × Int × (List S51) × Int × Int × Int × Int × (List S53)) = (c, id', up', role', ep', ys, sure', mt', ot', co', []) ∧ ys.length ≤ 1048576 ∧ ∀ x ∈ ys, x.f1.f2.length ≤ 1048576 := by
    split
    · exact ⟨_, _, _, _, _, _, _, _, _, _, rfl, by simp, by simp⟩
    · exact ⟨_, _, _, _, _, _, _, _, _, _, rfl, by simp, by simp⟩
  rw [e] at hs hi
  refine ev_val hs (ev_pos rfl (ev_val hi (ev_pos rfl ?_)))
  refine ev_bind (eqNodeResult_ev c id' up' role' ep' ys sure' mt' ot' co' hy hyb) (ev_pos rfl ?_)
  refine ev_bind (markNodeResult_ev c id' up' role' ep' ys sure' mt' ot' co' 1 (by decide) (by decide) hy hyb) (ev_pos rfl ?_)
  exact ev_bind (heldNodeResult_ev c id' up' role' ep' ys sure' mt' ot' co' 1 (by decide) (by decide) hy hyb) (ev_pos (endE_nonneg _ _ (by decide)) (ev_pos rfl (Ev.now _)))

end Go.Proofs.Ytgfoifkkffffgaa.Pure
