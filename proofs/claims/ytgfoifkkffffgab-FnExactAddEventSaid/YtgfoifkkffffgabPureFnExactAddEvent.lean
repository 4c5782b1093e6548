/- FnExactAddEvent: what the printed functions compute answers as the statement says: for every input the law is true. No condition beside the arguments being of their kinds. -/
import Derived.Test.YtgfoifkkffffgabPFnExactAddEventx90
import Derived.OpenShut
namespace Go.Proofs.Ytgfoifkkffffgab.Pure
open Go.RowKit Go.Proofs.YtgfoifkkffffgabW.PrintWords Go.Proofs.YtgfoifkkffffgabW.PrintLast Go.Proofs.YtgfoifkkffffgabW.PrintMore Go.Proofs.Ytgfoifkkffffgab.PFnExactAddEvent
set_option linter.unusedVariables false
set_option linter.unusedSimpArgs false

/-! ### plain words -/
theorem w64 {x : Int} (h0 : -9223372036854775808 ≤ x) (h1 : x ≤ 9223372036854775807) : wrap64 x = x := by unfold wrap64; omega
theorem ev_some {α : Type} {g : Nat → Option α} {r : α} (h : ∀ k, g k = some r) : Ev g r := ⟨0, fun k _ => h k⟩
theorem ev_bind {α β : Type} {g : Nat → Option α} {f : Nat → α → Option β} {a : α} {r : β} (h : Ev g a) (k : Ev (fun n => f n a) r) : Ev (fun n => (g n).bind (f n)) r := Ev.bind h k
theorem ev_val {α β : Type} {o : Option α} {a : α} (h : o = some a) {f : Nat → α → Option β} {r : β} (k : Ev (fun n => f n a) r) : Ev (fun n => o.bind (f n)) r := by
  subst h
  exact k
theorem ev_pos {α : Type} {c : Prop} [Decidable c] {a b : Nat → Option α} {r : α} (hc : c) (h : Ev a r) : Ev (fun k => if c then a k else b k) r := Ev.congr (fun _ => if_pos hc) h
theorem ev_neg {α : Type} {c : Prop} [Decidable c] {a b : Nat → Option α} {r : α} (hc : ¬ c) (h : Ev b r) : Ev (fun k => if c then a k else b k) r := Ev.congr (fun _ => if_neg hc) h
theorem ev_ite {α : Type} {c : Prop} [Decidable c] {a b : Nat → Option α} {x y : α} (h1 : c → Ev a x) (h2 : ¬ c → Ev b y) : Ev (fun k => if c then a k else b k) (if c then x else y) := by
  by_cases h : c
  · rw [if_pos h]
    exact ev_pos h (h1 h)
  · rw [if_neg h]
    exact ev_neg h (h2 h)
theorem ev_eq {α : Type} {g : Nat → Option α} {r r' : α} (h : Ev g r) (e : r = r') : Ev g r' := e ▸ h
theorem ev_uniq {α : Type} {g : Nat → Option α} {r r' : α} (h : Ev g r) (h' : Ev g r') : r = r' := by
  obtain ⟨K, hK⟩ := h
  obtain ⟨K', hK'⟩ := h'
  have h1 := hK (max K K') (Nat.le_max_left _ _)
  have h2 := hK' (max K K') (Nat.le_max_right _ _)
  exact Option.some.inj (h1.symm.trans h2)
/-- So many rounds are enough. -/
theorem ev_from {α : Type} {g : Nat → Option α} {r : α} (n : Nat) (h : ∀ k, g (k + n) = some r) : Ev g r :=
  ⟨n, fun k hk => by have := h (k - n); rwa [Nat.sub_add_cancel hk] at this⟩
theorem rd_nat (xs : List Int) (i : Nat) : rd xs (i : Int) = xs.getD i 0 := by simp [rd]
theorem rd_lt {xs : List Int} {i : Nat} (h : i < xs.length) : rd xs (i : Int) = xs[i] := by
  rw [rd_nat, List.getD_eq_getElem?_getD, List.getElem?_eq_getElem h]; rfl
theorem set_take {xs out : List Int} {i : Nat} (hi : i < xs.length) (hl : out.length = xs.length) (ht : out.take i = xs.take i) : (out.set i xs[i]).take (i + 1) = xs.take (i + 1) := by
  rw [List.take_succ_eq_append_getElem (by simp; omega), List.take_succ_eq_append_getElem hi]
  rw [List.take_set_of_le (Nat.le_refl i), ht]
  simp
/-- A copy, number by number. -/
theorem copy_loop (l : Nat → List Int → List Int → Int → Option (List Int))
    (h : ∀ k xs out i, l (k + 1) xs out i = if i < (xs.length : Int) then (if 0 ≤ i then (if i < (out.length : Int) then l k xs (out.set (i : Int).toNat (rd xs i)) (wrap64 (i + 1)) else none) else none) else some out)
    (xs : List Int) (hx : xs.length ≤ 4611686018427387904) : ∀ (d i : Nat) (out : List Int), i + d = xs.length → out.length = xs.length → out.take i = xs.take i → Ev (fun k => l k xs out (i : Int)) xs
  | 0, i, out, hd, hl, ht => by
    refine Ev.step (f := fun _ => some xs) (fun k => ?_) (Ev.now _)
    rw [h, if_neg (by omega)]
    congr 1
    rw [List.take_of_length_le (by omega), List.take_of_length_le (by omega)] at ht
    exact ht
  | d + 1, i, out, hd, hl, ht => by
    have hi : i < xs.length := by omega
    refine Ev.step (f := fun k => l k xs (out.set i xs[i]) ((i + 1 : Nat) : Int)) (fun k => ?_) (copy_loop l h xs hx d (i + 1) _ (by omega) (by simpa using hl) (set_take hi hl ht))
    rw [h, if_pos (by omega), if_pos (by omega), if_pos (by omega), w64 (by omega) (by omega), rd_lt hi]
    simp
/-- Two equal lists, number by number. -/
theorem same_loop (l : Nat → List Int → List Int → Int → Option Bool)
    (h : ∀ k xs ys i, l (k + 1) xs ys i = if i < (xs.length : Int) then (if 0 ≤ i then (if i < (ys.length : Int) then (if rd xs i = rd ys i then l k xs ys (wrap64 (i + 1)) else some false) else none) else none) else some true)
    (xs : List Int) (hx : xs.length ≤ 4611686018427387904) : ∀ (d i : Nat), i + d = xs.length → Ev (fun k => l k xs xs (i : Int)) true
  | 0, i, hd => by
    refine Ev.step (f := fun _ => some true) (fun k => ?_) (Ev.now _)
    rw [h, if_neg (by omega)]
  | d + 1, i, hd => by
    refine Ev.step (f := fun k => l k xs xs ((i + 1 : Nat) : Int)) (fun k => ?_) (same_loop l h xs hx d (i + 1) (by omega))
    rw [h, if_pos (by omega), if_pos (by omega), if_pos (by omega), if_pos rfl, w64 (by omega) (by omega)]
    simp

/-- A loop that goes on to its end. -/
theorem for_loop {σ ρ : Type} (l : Nat → σ → Int → Option ρ) (n : Nat) (s : Nat → σ) {r : ρ}
    (hstep : ∀ i, i < n → ∀ r, Ev (fun k => l k (s (i + 1)) ((i + 1 : Nat) : Int)) r → Ev (fun k => l k (s i) (i : Int)) r)
    (hend : Ev (fun k => l k (s n) (n : Int)) r) : ∀ (d i : Nat), i + d = n → Ev (fun k => l k (s i) (i : Int)) r
  | 0, i, h => by
    have e : i = n := by omega
    rw [e]; exact hend
  | d + 1, i, h => hstep i (by omega) r (for_loop l n s hstep hend d (i + 1) (by omega))
/-- What a copy has so far. -/
def sofar {α β : Type} (f : α → β) (z : β) (xs : List α) (i : Nat) : List β := (xs.take i).map f ++ List.replicate (xs.length - i) z
theorem sofar_length {α β : Type} (f : α → β) (z : β) (xs : List α) (i : Nat) (hi : i ≤ xs.length) : (sofar f z xs i).length = xs.length := by
  unfold sofar
  simp
  omega
theorem sofar_set {α β : Type} (f : α → β) (z : β) (xs : List α) (i : Nat) (hi : i < xs.length) : (sofar f z xs i).set i (f xs[i]) = sofar f z xs (i + 1) := by
  unfold sofar
  rw [List.set_append_right _ _ (by simp; omega), List.take_succ_eq_append_getElem hi, List.map_append, List.append_assoc]
  congr 1
  have e : i - (List.map f (List.take i xs)).length = 0 := by simp; omega
  rw [e, show xs.length - i = xs.length - (i + 1) + 1 by omega, List.replicate_succ, List.set_cons_zero]
  rfl
theorem sofar_zero {α β : Type} (f : α → β) (z : β) (xs : List α) : sofar f z xs 0 = List.replicate xs.length z := by
  unfold sofar
  simp
theorem sofar_all {α β : Type} (f : α → β) (z : β) (xs : List α) : sofar f z xs xs.length = xs.map f := by
  unfold sofar
  simp
theorem getD_lt {α : Type} {z : α} {xs : List α} {i : Nat} (h : i < xs.length) : xs.getD i z = xs[i] := by
  rw [List.getD_eq_getElem?_getD, List.getElem?_eq_getElem h]; rfl
theorem conv_loop {α β : Type} (f : α → β) (z : β) (l : Nat → List β → Int → Option (List β)) (xs : List α)
    (hstep : ∀ (i : Nat) (hi : i < xs.length) (out : List β) (r : List β), out.length = xs.length → Ev (fun k => l k (out.set i (f xs[i])) ((i + 1 : Nat) : Int)) r → Ev (fun k => l k out (i : Int)) r)
    (hend : ∀ out : List β, Ev (fun k => l k out (xs.length : Int)) out) : Ev (fun k => l k (List.replicate xs.length z) 0) (xs.map f) := by
  have h := for_loop (fun k o i => l k o i) xs.length (sofar f z xs) (r := xs.map f) (fun i hi r hr => hstep i hi _ r (sofar_length f z xs i (by omega)) (by rw [sofar_set f z xs i hi]; exact hr)) (by rw [sofar_all]; exact hend _) xs.length 0 (by omega)
  rw [sofar_zero] at h
  exact h
theorem all_loop {ρ : Type} (l : Nat → Int → Option ρ) (n : Nat) {r : ρ}
    (hstep : ∀ i, i < n → ∀ r, Ev (fun k => l k ((i + 1 : Nat) : Int)) r → Ev (fun k => l k (i : Int)) r)
    (hend : Ev (fun k => l k (n : Int)) r) : Ev (fun k => l k 0) r :=
  for_loop (fun k (_ : Unit) i => l k i) n (fun _ => ()) (fun i hi r hr => hstep i hi r hr) hend n 0 (by omega)
/-- The first fault of a list, or zero. -/
def firstBad {α : Type} (f : α → Int) : List α → Int
  | [] => 0
  | x :: t => if f x = 0 then firstBad f t else f x
theorem firstBad_append {α : Type} (f : α → Int) (xs ys : List α) : firstBad f (xs ++ ys) = if firstBad f xs = 0 then firstBad f ys else firstBad f xs := by
  induction xs with
  | nil => simp [firstBad]
  | cons x t ih =>
    by_cases h : f x = 0
    · have e : ∀ z, firstBad f (x :: z) = firstBad f z := fun z => by simp [firstBad, h]
      rw [List.cons_append, e, e, ih]
    · have e : ∀ z, firstBad f (x :: z) = f x := fun z => by simp [firstBad, h]
      rw [List.cons_append, e, e, if_neg h]
theorem first_loop {α : Type} (f : α → Int) (l : Nat → Int → Option Int) (xs : List α)
    (hgo : ∀ (i : Nat) (hi : i < xs.length), f xs[i] = 0 → ∀ r, Ev (fun k => l k ((i + 1 : Nat) : Int)) r → Ev (fun k => l k (i : Int)) r)
    (hstop : ∀ (i : Nat) (hi : i < xs.length), f xs[i] ≠ 0 → Ev (fun k => l k (i : Int)) (f xs[i]))
    (hend : Ev (fun k => l k (xs.length : Int)) 0) : ∀ (d i : Nat), i + d = xs.length → Ev (fun k => l k (i : Int)) (firstBad f (xs.drop i))
  | 0, i, h => by
    have e : i = xs.length := by omega
    rw [e, List.drop_length]; exact hend
  | d + 1, i, h => by
    have hi : i < xs.length := by omega
    rw [List.drop_eq_getElem_cons hi, firstBad]
    by_cases hf : f xs[i] = 0
    · rw [if_pos hf]
      exact hgo i hi hf _ (first_loop f l xs hgo hstop hend d (i + 1) (by omega))
    · rw [if_neg hf]
      exact hstop i hi hf
theorem first_loop0 {α : Type} (f : α → Int) (l : Nat → Int → Option Int) (xs : List α)
    (hgo : ∀ (i : Nat) (hi : i < xs.length), f xs[i] = 0 → ∀ r, Ev (fun k => l k ((i + 1 : Nat) : Int)) r → Ev (fun k => l k (i : Int)) r)
    (hstop : ∀ (i : Nat) (hi : i < xs.length), f xs[i] ≠ 0 → Ev (fun k => l k (i : Int)) (f xs[i]))
    (hend : Ev (fun k => l k (xs.length : Int)) 0) : Ev (fun k => l k 0) (firstBad f xs) := by
  have h := first_loop f l xs hgo hstop hend xs.length 0 (by omega)
  rwa [List.drop_zero] at h
/-- The bind of an Ev, told by the bound value. -/
theorem ev_then {α β : Type} {g : Nat → Option α} {f : Nat → α → Option β} {a : α} {r : β} (k : Ev (fun n => f n a) r) (h : Ev g a) : Ev (fun n => (g n).bind (f n)) r := Ev.bind h k

theorem toByteS_ev (xs : List Int) (hx : xs.length ≤ 1048576) : Ev (fun k => laws_toByteS.f k xs) xs := by
  refine Ev.congr (f := fun k => laws_toByteS.l0 k xs (List.replicate xs.length 0) 0) (fun k => ?_) ?_
  · unfold laws_toByteS.f
    rw [if_pos (by omega), if_pos (by omega)]
    simp
  · exact copy_loop _ (fun _ _ _ _ => rfl) xs (by omega) xs.length 0 _ (by omega) (by simp) rfl
theorem eqByteS_ev (xs : List Int) (hx : xs.length ≤ 1048576) : Ev (fun k => laws_eqByteS.f k xs xs) true := by
  refine Ev.congr (f := fun k => laws_eqByteS.l0 k xs xs 0) (fun k => ?_) (same_loop _ (fun _ _ _ _ => rfl) xs (by omega) xs.length 0 (by omega))
  unfold laws_eqByteS.f
  rw [if_pos rfl]

/-- What marks leave: from m on, one more each. -/
def marked (f : Int → Int) (m : Int) (n : Nat) : List Int := (List.range n).map (fun j : Nat => f (m + (j : Int)))
theorem marked_length (f : Int → Int) (m : Int) (n : Nat) : (marked f m n).length = n := by simp [marked]
theorem marked_get {f : Int → Int} {m : Int} {n i : Nat} (h : i < (marked f m n).length) : (marked f m n)[i] = f (m + (i : Int)) := by simp [marked]
theorem mark_loop (f : Int → Int) (l : Nat → List Int → Int → Int → Option (Int × List Int))
    (h : ∀ k xs m i, l (k + 1) xs m i = if i < (xs.length : Int) then (if 0 ≤ i then (l k (xs.set (i : Int).toNat (f m)) (wrap64 (m + 1)) (wrap64 (i + 1))) else none) else some (m, xs))
    (n : Nat) (hn : n ≤ 2305843009213693952) (m0 : Int) (h0 : 0 ≤ m0) (h1 : m0 ≤ 2305843009213693952) :
    ∀ (d i : Nat) (xs : List Int), i + d = n → xs.length = n → xs.take i = (marked f m0 n).take i → Ev (fun k => l k xs (m0 + (i : Int)) (i : Int)) (m0 + (n : Int), marked f m0 n)
  | 0, i, xs, hd, hl, ht => by
    refine Ev.step (f := fun _ => some (m0 + (n : Int), marked f m0 n)) (fun k => ?_) (Ev.now _)
    rw [h, if_neg (by omega)]
    have hm := marked_length f m0 n
    rw [List.take_of_length_le (by omega), List.take_of_length_le (by omega)] at ht
    rw [ht, show i = n by omega]
  | d + 1, i, xs, hd, hl, ht => by
    have hm := marked_length f m0 n
    have hi : i < (marked f m0 n).length := by omega
    refine Ev.step (f := fun k => l k (xs.set i (marked f m0 n)[i]) (m0 + ((i + 1 : Nat) : Int)) ((i + 1 : Nat) : Int)) (fun k => ?_)
      (mark_loop f l h n hn m0 h0 h1 d (i + 1) _ (by omega) (by simpa using hl) (set_take hi (by omega) ht))
    rw [h, if_pos (by omega), if_pos (by omega), w64 (by omega) (by omega), w64 (by omega) (by omega), marked_get hi]
    simp [Int.add_assoc]
theorem held_loop (f : Int → Int) (l : Nat → List Int → Int → Int → Option Int)
    (h : ∀ k xs m i, l (k + 1) xs m i = if i < (xs.length : Int) then (if 0 ≤ i then (if rd xs i = f m then (l k xs (wrap64 (m + 1)) (wrap64 (i + 1))) else some (-1)) else none) else some m)
    (n : Nat) (hn : n ≤ 2305843009213693952) (m0 : Int) (h0 : 0 ≤ m0) (h1 : m0 ≤ 2305843009213693952) :
    ∀ (d i : Nat), i + d = n → Ev (fun k => l k (marked f m0 n) (m0 + (i : Int)) (i : Int)) (m0 + (n : Int))
  | 0, i, hd => by
    refine Ev.step (f := fun _ => some (m0 + (n : Int))) (fun k => ?_) (Ev.now _)
    have hm := marked_length f m0 n
    rw [h, if_neg (by omega), show i = n by omega]
  | d + 1, i, hd => by
    have hm := marked_length f m0 n
    have hi : i < (marked f m0 n).length := by omega
    refine Ev.step (f := fun k => l k (marked f m0 n) (m0 + ((i + 1 : Nat) : Int)) ((i + 1 : Nat) : Int)) (fun k => ?_) (held_loop f l h n hn m0 h0 h1 d (i + 1) (by omega))
    rw [h, if_pos (by omega), if_pos (by omega), rd_lt hi, marked_get hi, if_pos rfl, w64 (by omega) (by omega), w64 (by omega) (by omega)]
    simp [Int.add_assoc]

theorem markByteS_ev (xs : List Int) (hx : xs.length ≤ 1048576) (m : Int) (h0 : 0 ≤ m) (h1 : m ≤ 1152921504606846976) : Ev (fun k => laws_markByteS.f k xs m) (m + (xs.length : Int), marked (· % 256) m xs.length) := by
  have := mark_loop (· % 256) laws_markByteS.l0 (fun _ _ _ _ => rfl) xs.length (by omega) m h0 (by omega) xs.length 0 xs (by omega) rfl rfl
  unfold laws_markByteS.f
  simpa using this
theorem heldByteS_ev (n : Nat) (hx : n ≤ 1048576) (m : Int) (h0 : 0 ≤ m) (h1 : m ≤ 1152921504606846976) : Ev (fun k => laws_heldByteS.f k (marked (· % 256) m n) m) (m + (n : Int)) := by
  have := held_loop (· % 256) laws_heldByteS.l0 (fun _ _ _ _ => rfl) n (by omega) m h0 (by omega) n 0 (by omega)
  unfold laws_heldByteS.f
  simpa using this

theorem in_spec (a b c : Int) : spec_l1In.f a b c = some (decide (b ≤ a ∧ a ≤ c)) := by
  unfold spec_l1In.f
  by_cases h : a ≥ b
  · rw [if_pos h]; congr 1; simp [h]
  · rw [if_neg h]; congr 1; simp; intro h'; omega
theorem in_impl : impl_in.f = spec_l1In.f := rfl

def evM (kd pr : Int) (b : List Int) : Int := if 1 ≤ kd ∧ kd ≤ 4 then (if 0 ≤ pr ∧ pr ≤ 2 then (if kd = 3 ∧ pr ≠ 0 then 3 else (if ((decide ((b.length : Int) > 0)) != (kd == 2)) = true then 1 else (if (b.length : Int) > 60 then 2 else 0))) else 3) else 1
def entM (x : S55) : Int := if 1 ≤ x.f0 ∧ x.f0 ≤ 1000 then evM x.f1.f0 x.f1.f1 x.f1.f2 else 3
theorem spec_event (k : Nat) (kd pr : Int) (b : List Int) : spec_EventFault.f (k + 1) kd pr b = some (evM kd pr b) := by
  unfold spec_EventFault.f evM spec_l7Peer.f
  simp only [in_spec, Option.bind_some, decide_eq_true_eq]
  by_cases h1 : 1 ≤ kd ∧ kd ≤ 4
  · rw [if_pos h1, if_pos h1]
    by_cases h2 : 0 ≤ pr ∧ pr ≤ 2
    · rw [if_pos h2, if_pos h2, spec_EventFault.j0, spec_EventFault.j0]
      by_cases h3 : kd = 3
      · rw [if_pos h3]
        by_cases h4 : pr = 0
        · rw [if_neg (show ¬ ((pr != 0) = true) by simp [h4]), if_neg (show ¬ (kd = 3 ∧ pr ≠ 0) from fun z => z.2 h4)]
          repeat' split
          all_goals rfl
        · rw [if_pos (show (pr != 0) = true by simp [h4]), if_pos (show kd = 3 ∧ pr ≠ 0 from ⟨h3, h4⟩)]
      · rw [if_neg h3, if_neg (show ¬ (false = true) by simp), if_neg (show ¬ (kd = 3 ∧ pr ≠ 0) from fun z => h3 z.1)]
        repeat' split
        all_goals rfl
    · rw [if_neg h2, if_neg h2, spec_EventFault.j0, if_pos rfl]
  · rw [if_neg h1, if_neg h1]
theorem event_same : ∀ k, impl_EventFault.f k = spec_EventFault.f k := by
  intro k
  have hj : ∀ x a b l, impl_EventFault.j0 k x a b l = spec_EventFault.j0 k x a b l := by
    intro x a b l
    cases k with
    | zero => rfl
    | succ k => rw [impl_EventFault.j0, spec_EventFault.j0, bne_comm]
  funext a b l
  simp only [impl_EventFault.f, spec_EventFault.f, hj, impl_isPeer.f, spec_l7Peer.f, in_impl]
theorem entry_same : ∀ k, impl_EntryFault.f k = spec_EntryFault.f k := by
  intro k
  funext a b c l
  simp only [impl_EntryFault.f, spec_EntryFault.f, event_same, impl_isEpoch.f, spec_l10Epoch.f, in_impl]
theorem spec_entry (k : Nat) (x : S55) : spec_EntryFault.f (k + 1) x.f0 x.f1.f0 x.f1.f1 x.f1.f2 = some (entM x) := by
  unfold spec_EntryFault.f spec_l10Epoch.f entM
  simp only [in_spec, Option.bind_some, decide_eq_true_eq, spec_event]
  split <;> rfl
def entAt (ep : Int) (xs : List S55) (i : Nat) : Int :=
  if entM (xs.getD i z55) = 0 then (if (xs.getD i z55).f0 > ep then 1 else (if i > 0 then (if (xs.getD i z55).f0 < (xs.getD (i - 1) z55).f0 then 1 else 0) else 0)) else entM (xs.getD i z55)
def firstIdx (f : Nat → Int) : Nat → Nat → Int
  | 0, _ => 0
  | d + 1, i => if f i = 0 then firstIdx f d (i + 1) else f i
theorem spec_log_round (k : Nat) (s0 : Int) (s1 : Bool) (s2 ep : Int) (xs : List S55) (s5 s6 s7 s8 : Int) (i : Nat) (hi : i < xs.length) (hx : xs.length ≤ 1048576) :
    spec_l12Log.l0 (k + 2) (i : Int) s0 s1 s2 ep xs s5 s6 s7 s8 = if entAt ep xs i = 0 then spec_l12Log.l0 (k + 1) ((i + 1 : Nat) : Int) s0 s1 s2 ep xs s5 s6 s7 s8 else some (entAt ep xs i, s0, s1, s2, ep, s5, s6, s7, s8) := by
  rw [show k + 2 = k + 1 + 1 from rfl, spec_l12Log.l0, if_pos (by omega), if_pos (by omega), w64 (x := (i : Int) + 1) (by omega) (by omega), w64 (x := (i : Int) - 1) (by omega) (by omega)]
  have e1 : ((i : Int) - 1).toNat = i - 1 := by omega
  simp only [rd_T55, Int.toNat_natCast, e1, spec_entry, Option.bind_some]
  unfold entAt
  by_cases h1 : entM (xs.getD i z55) = 0
  · rw [if_pos h1, if_pos h1]
    by_cases h2 : (xs.getD i z55).f0 > ep
    · rw [if_pos h2, if_pos h2, if_neg (by omega)]
    · rw [if_neg h2, if_neg h2]
      by_cases h3 : i > 0
      · rw [if_pos (show (i : Int) > 0 by omega), if_pos h3, if_pos (by omega), if_pos (by omega)]
        by_cases h4 : (xs.getD i z55).f0 < (xs.getD (i - 1) z55).f0
        · rw [if_pos h4, if_pos h4, if_neg (by omega)]
        · rw [if_neg h4, if_neg h4, if_pos rfl]; rfl
      · rw [if_neg (show ¬ (i : Int) > 0 by omega), if_neg h3, if_pos rfl]; rfl
  · rw [if_neg h1, if_neg h1, if_neg h1]
theorem spec_log_ev (s0 : Int) (s1 : Bool) (s2 ep : Int) (xs : List S55) (s5 s6 s7 s8 : Int) (hx : xs.length ≤ 1048576) : ∀ (d i : Nat), i + d = xs.length → Ev (fun k => spec_l12Log.l0 k (i : Int) s0 s1 s2 ep xs s5 s6 s7 s8) (firstIdx (entAt ep xs) d i, s0, s1, s2, ep, s5, s6, s7, s8)
  | 0, i, h => by
    refine Ev.step (f := fun _ => some (0, s0, s1, s2, ep, s5, s6, s7, s8)) (fun k => ?_) (Ev.now _)
    rw [spec_l12Log.l0, if_neg (by omega)]
  | d + 1, i, h => by
    have ih := spec_log_ev s0 s1 s2 ep xs s5 s6 s7 s8 hx d (i + 1) (by omega)
    obtain ⟨K, hK⟩ := ih
    refine ⟨K + 2, fun k hk => ?_⟩
    obtain ⟨j, rfl⟩ : ∃ j, k = j + 2 := ⟨k - 2, by omega⟩
    show spec_l12Log.l0 (j + 2) _ _ _ _ _ _ _ _ _ _ = _
    rw [spec_log_round j s0 s1 s2 ep xs s5 s6 s7 s8 i (by omega) hx, firstIdx]
    by_cases h1 : entAt ep xs i = 0
    · rw [if_pos h1, if_pos h1]; exact hK (j + 1) (by omega)
    · rw [if_neg h1, if_neg h1]
def formM (up : Bool) (role ep size sure mt ot co : Int) : Int :=
  if role = 1 then (if up = true then (if ep = 0 then 1 else (if mt = 0 then 0 else 1)) else 1) else (if ot = 0 then (if up = true then 0 else (if sure = size then (if mt = 0 then (if co = 0 then 0 else 1) else 1) else 1)) else 1)
def tailN (up : Bool) (role ep size sure mt ot co : Int) : Int :=
  if 0 ≤ sure ∧ sure ≤ size then (if 0 ≤ mt ∧ mt ≤ size then (if 0 ≤ ot ∧ ot ≤ size then (if 0 ≤ co ∧ co ≤ sure then formM up role ep size sure mt ot co else 3) else 3) else 3) else 3
def nodeM (id : Int) (up : Bool) (role ep : Int) (xs : List S55) (sure mt ot co : Int) : Int :=
  if (0 ≤ id ∧ id ≤ 1) ∧ (0 ≤ role ∧ role ≤ 1) ∧ (0 ≤ ep ∧ ep ≤ 1000) then (if (xs.length : Int) > 100 then 2 else (if firstIdx (entAt ep xs) xs.length 0 = 0 then tailN up role ep (xs.length : Int) sure mt ot co else firstIdx (entAt ep xs) xs.length 0)) else 3
theorem spec_node_j1 (size : Int) (x : Bool) (id : Int) (up : Bool) (role ep : Int) (xs : List S55) (sure mt ot co : Int) : Ev (fun k => (spec_l12Fault.j1 k size x id up role ep xs sure mt ot co).bind fun b => some b.1) (if x = true then 3 else formM up role ep size sure mt ot co) := by
  refine ev_from 1 (fun k => ?_)
  rw [spec_l12Fault.j1]
  unfold formM
  repeat' split
  all_goals simp_all
theorem spec_node_tail (id : Int) (up : Bool) (role ep : Int) (xs : List S55) (sure mt ot co : Int) (hx : xs.length ≤ 1048576) : Ev (fun k => (spec_l12Fault.j0 k false id up role ep xs sure mt ot co).bind fun b => some b.1) (if (xs.length : Int) > 100 then 2 else (if firstIdx (entAt ep xs) xs.length 0 = 0 then tailN up role ep (xs.length : Int) sure mt ot co else firstIdx (entAt ep xs) xs.length 0)) := by
  have hj := fun x => spec_node_j1 (xs.length : Int) x id up role ep xs sure mt ot co
  have hlog : Ev (fun k => spec_l12Log.f k id up role ep xs sure mt ot co) (if (xs.length : Int) > 100 then (2, id, up, role, ep, sure, mt, ot, co) else (firstIdx (entAt ep xs) xs.length 0, id, up, role, ep, sure, mt, ot, co)) := by
    unfold spec_l12Log.f
    exact ev_ite (fun _ => Ev.now _) (fun _ => spec_log_ev id up role ep xs sure mt ot co hx xs.length 0 (by omega))
  have step : ∀ r, Ev (fun k => ((spec_l12Log.f k id up role ep xs sure mt ot co).bind fun bt125 => (if bt125.1 = 0 then ((spec_l1In.f bt125.2.2.2.2.2.1 0 (xs.length : Int)).bind fun t134 => (if t134 = true then ((spec_l1In.f bt125.2.2.2.2.2.2.1 0 (xs.length : Int)).bind fun t135 => (if t135 = true then ((spec_l1In.f bt125.2.2.2.2.2.2.2.1 0 (xs.length : Int)).bind fun t136 => (if t136 = true then ((spec_l1In.f bt125.2.2.2.2.2.2.2.2 0 bt125.2.2.2.2.2.1).bind fun t137 => (spec_l12Fault.j1 k (xs.length : Int) (!t137) bt125.2.1 bt125.2.2.1 bt125.2.2.2.1 bt125.2.2.2.2.1 xs bt125.2.2.2.2.2.1 bt125.2.2.2.2.2.2.1 bt125.2.2.2.2.2.2.2.1 bt125.2.2.2.2.2.2.2.2)) else (spec_l12Fault.j1 k (xs.length : Int) true bt125.2.1 bt125.2.2.1 bt125.2.2.2.1 bt125.2.2.2.2.1 xs bt125.2.2.2.2.2.1 bt125.2.2.2.2.2.2.1 bt125.2.2.2.2.2.2.2.1 bt125.2.2.2.2.2.2.2.2))) else (spec_l12Fault.j1 k (xs.length : Int) true bt125.2.1 bt125.2.2.1 bt125.2.2.2.1 bt125.2.2.2.2.1 xs bt125.2.2.2.2.2.1 bt125.2.2.2.2.2.2.1 bt125.2.2.2.2.2.2.2.1 bt125.2.2.2.2.2.2.2.2))) else (spec_l12Fault.j1 k (xs.length : Int) true bt125.2.1 bt125.2.2.1 bt125.2.2.2.1 bt125.2.2.2.2.1 xs bt125.2.2.2.2.2.1 bt125.2.2.2.2.2.2.1 bt125.2.2.2.2.2.2.2.1 bt125.2.2.2.2.2.2.2.2))) else (some (bt125.1, bt125.2.1, bt125.2.2.1, bt125.2.2.2.1, bt125.2.2.2.2.1, bt125.2.2.2.2.2.1, bt125.2.2.2.2.2.2.1, bt125.2.2.2.2.2.2.2.1, bt125.2.2.2.2.2.2.2.2)))).bind fun b => some b.1) r → Ev (fun k => (spec_l12Fault.j0 k false id up role ep xs sure mt ot co).bind fun b => some b.1) r := by
    intro r hr
    refine Ev.step (fun k => ?_) hr
    rw [spec_l12Fault.j0, if_neg (by simp)]
  refine step _ ?_
  simp only [Option.bind_assoc]
  refine ev_bind hlog ?_
  by_cases hl : (xs.length : Int) > 100
  · rw [if_pos hl, if_pos hl]
    exact Ev.now _
  · rw [if_neg hl, if_neg hl]
    by_cases h0 : firstIdx (entAt ep xs) xs.length 0 = 0
    · rw [if_pos h0]
      simp only [h0, if_true, in_spec, Option.bind_some, decide_eq_true_eq]
      unfold tailN
      by_cases q1 : 0 ≤ sure ∧ sure ≤ (xs.length : Int)
      · simp only [q1, and_self, if_true]
        by_cases q2 : 0 ≤ mt ∧ mt ≤ (xs.length : Int)
        · simp only [q2, and_self, if_true]
          by_cases q3 : 0 ≤ ot ∧ ot ≤ (xs.length : Int)
          · simp only [q3, and_self, if_true]
            by_cases q4 : 0 ≤ co ∧ co ≤ sure
            · rw [if_pos q4]
              refine ev_eq (hj _) ?_
              simp [q4]
            · rw [if_neg q4]
              refine ev_eq (hj _) ?_
              rw [if_pos (by simp only [Bool.not_eq_true', decide_eq_false_iff_not]; exact q4)]
          · simp only [q3, if_false]; exact hj true
        · simp only [q2, if_false]; exact hj true
      · simp only [q1, if_false]; exact hj true
    · rw [if_neg h0]
      simp only [h0, if_false]
      exact Ev.now _

theorem impl_node_j3 (k : Nat) (size : Int) (x : Bool) (id : Int) (up : Bool) (role ep : Int) (xs : List S55) (sure mt ot co : Int) : impl_NodeFault.j3 (k + 1) size x id up role ep xs sure mt ot co = some (if x = true then 1 else (if up = true then 0 else (if sure = size then (if mt = 0 then (if co = 0 then 0 else 1) else 1) else 1))) := by
  rw [impl_NodeFault.j3]
  repeat' split
  all_goals rfl
theorem impl_node_j2 (k : Nat) (size : Int) (x : Bool) (id : Int) (up : Bool) (role ep : Int) (xs : List S55) (sure mt ot co : Int) : impl_NodeFault.j2 (k + 2) size (role == 1) x id up role ep xs sure mt ot co = some (if x = true then 3 else formM up role ep size sure mt ot co) := by
  rw [show k + 2 = k + 1 + 1 from rfl, impl_NodeFault.j2]
  simp only [impl_node_j3]
  unfold formM
  by_cases q1 : role = 1 <;> by_cases q2 : ot = 0 <;> by_cases q3 : ep = 0 <;> by_cases q4 : mt = 0 <;> cases x <;> cases up <;> simp [q1, q2, q3, q4]
theorem impl_log_round (k : Nat) (s0 : Int) (s1 : Bool) (s2 ep : Int) (xs : List S55) (s5 s6 s7 s8 : Int) (i : Nat) (hi : i < xs.length) (hx : xs.length ≤ 1048576) :
    impl_NodeFault.l0 (k + 2) xs (xs.length : Int) (i : Int) s0 s1 s2 ep xs s5 s6 s7 s8 = if entAt ep xs i = 0 then impl_NodeFault.l0 (k + 1) xs (xs.length : Int) ((i + 1 : Nat) : Int) s0 s1 s2 ep xs s5 s6 s7 s8 else some (entAt ep xs i) := by
  rw [show k + 2 = k + 1 + 1 from rfl, impl_NodeFault.l0, if_pos (by omega), if_pos (by omega), if_pos (by omega), w64 (x := (i : Int) + 1) (by omega) (by omega), w64 (x := (i : Int) - 1) (by omega) (by omega)]
  have e1 : ((i : Int) - 1).toNat = i - 1 := by omega
  simp only [entry_same, rd_T55, Int.toNat_natCast, e1, spec_entry, Option.bind_some]
  unfold entAt
  by_cases h1 : entM (xs.getD i z55) = 0
  · rw [if_pos h1, if_pos h1]
    by_cases h2 : (xs.getD i z55).f0 > ep
    · rw [if_pos h2, if_pos h2, if_neg (by omega)]
    · rw [if_neg h2, if_neg h2]
      by_cases h3 : i > 0
      · rw [if_pos (show (i : Int) > 0 by omega), if_pos h3, if_pos (by omega), if_pos (by omega)]
        by_cases h4 : (xs.getD i z55).f0 < (xs.getD (i - 1) z55).f0
        · rw [if_pos h4, if_pos h4, if_neg (by omega)]
        · rw [if_neg h4, if_neg h4, if_pos rfl]; rfl
      · rw [if_neg (show ¬ (i : Int) > 0 by omega), if_neg h3, if_pos rfl]; rfl
  · rw [if_neg h1, if_neg h1, if_neg h1]
theorem impl_log_ev (id : Int) (up : Bool) (role ep : Int) (xs : List S55) (sure mt ot co : Int) (hx : xs.length ≤ 1048576) : ∀ (d i : Nat), i + d = xs.length → Ev (fun k => impl_NodeFault.l0 k xs (xs.length : Int) (i : Int) id up role ep xs sure mt ot co) (if firstIdx (entAt ep xs) d i = 0 then tailN up role ep (xs.length : Int) sure mt ot co else firstIdx (entAt ep xs) d i)
  | 0, i, h => by
    rw [firstIdx, if_pos rfl]
    refine ev_from 3 (fun k => ?_)
    rw [show k + 3 = k + 2 + 1 from rfl, impl_NodeFault.l0, if_neg (by omega)]
    unfold impl_Entry_74.f tailN
    simp only [in_impl, in_spec, Option.bind_some, decide_eq_true_eq, impl_node_j2]
    by_cases q1 : 0 ≤ sure ∧ sure ≤ (xs.length : Int)
    · rw [if_pos q1, if_pos q1]
      by_cases q2 : 0 ≤ mt ∧ mt ≤ (xs.length : Int)
      · rw [if_pos q2, if_pos q2]
        by_cases q3 : 0 ≤ ot ∧ ot ≤ (xs.length : Int)
        · rw [if_pos q3, if_pos q3]
          by_cases q4 : 0 ≤ co ∧ co ≤ sure
          · rw [if_pos q4, if_neg (by simp [q4])]
          · rw [if_neg q4, if_pos (by simp only [Bool.not_eq_true', decide_eq_false_iff_not]; exact q4)]
        · rw [if_neg q3, if_neg q3]; rfl
      · rw [if_neg q2, if_neg q2]; rfl
    · rw [if_neg q1, if_neg q1]; rfl
  | d + 1, i, h => by
    have ih := impl_log_ev id up role ep xs sure mt ot co hx d (i + 1) (by omega)
    obtain ⟨K, hK⟩ := ih
    refine ⟨K + 2, fun k hk => ?_⟩
    obtain ⟨j, rfl⟩ : ∃ j, k = j + 2 := ⟨k - 2, by omega⟩
    show impl_NodeFault.l0 (j + 2) _ _ _ _ _ _ _ _ _ _ _ _ = _
    rw [impl_log_round j id up role ep xs sure mt ot co i (by omega) hx, firstIdx]
    by_cases h1 : entAt ep xs i = 0
    · rw [if_pos h1, if_pos h1]; exact hK (j + 1) (by omega)
    · rw [if_neg h1, if_neg h1, if_neg h1]
theorem impl_node_ev (id : Int) (up : Bool) (role ep : Int) (xs : List S55) (sure mt ot co : Int) (hx : xs.length ≤ 1048576) : Ev (fun k => impl_NodeFault.f k id up role ep xs sure mt ot co) (nodeM id up role ep xs sure mt ot co) := by
  have h3 : Ev (fun k => impl_NodeFault.j0 k true id up role ep xs sure mt ot co) 3 := by
    refine ev_from 1 (fun k => ?_)
    rw [impl_NodeFault.j0, if_pos rfl]
  have h0 : Ev (fun k => impl_NodeFault.j0 k false id up role ep xs sure mt ot co) (if (xs.length : Int) > 100 then 2 else (if firstIdx (entAt ep xs) xs.length 0 = 0 then tailN up role ep (xs.length : Int) sure mt ot co else firstIdx (entAt ep xs) xs.length 0)) := by
    refine Ev.step (fun k => by rw [impl_NodeFault.j0, if_neg (by simp)]) ?_
    exact ev_ite (fun _ => Ev.now _) (fun _ => impl_log_ev id up role ep xs sure mt ot co hx xs.length 0 (by omega))
  unfold impl_NodeFault.f impl_isNode.f nodeM
  simp only [in_impl, in_spec, Option.bind_some, decide_eq_true_eq]
  by_cases q1 : 0 ≤ id ∧ id ≤ 1
  · by_cases q2 : 0 ≤ role ∧ role ≤ 1
    · by_cases q3 : 0 ≤ ep ∧ ep ≤ 1000
      · rw [if_pos ⟨q1, q2, q3⟩]
        simpa [q1, q2, q3] using h0
      · rw [if_neg (fun z => q3 z.2.2)]
        have e : (!decide (0 ≤ ep ∧ ep ≤ 1000)) = true := by simp only [Bool.not_eq_true', decide_eq_false_iff_not]; exact q3
        simp only [q1, q2, e, and_self, if_true]
        exact h3
    · rw [if_neg (fun z => q2 z.2.1)]
      simp only [q1, q2, and_self, if_true, if_false]
      exact h3
  · rw [if_neg (fun z => q1 z.1)]
    simp only [q1, if_false]
    exact h3

theorem spec_node_j1F (size : Int) (x : Bool) (id : Int) (up : Bool) (role ep : Int) (xs : List S55) (sure mt ot co : Int) : Ev (fun k => spec_l12Fault.j1 k size x id up role ep xs sure mt ot co) ((if x = true then 3 else formM up role ep size sure mt ot co), id, up, role, ep, sure, mt, ot, co) := by
  refine ev_from 1 (fun k => ?_)
  rw [spec_l12Fault.j1]
  unfold formM
  repeat' split
  all_goals simp_all
theorem spec_node_tailF (id : Int) (up : Bool) (role ep : Int) (xs : List S55) (sure mt ot co : Int) (hx : xs.length ≤ 1048576) : Ev (fun k => spec_l12Fault.j0 k false id up role ep xs sure mt ot co) ((if (xs.length : Int) > 100 then 2 else (if firstIdx (entAt ep xs) xs.length 0 = 0 then tailN up role ep (xs.length : Int) sure mt ot co else firstIdx (entAt ep xs) xs.length 0)), id, up, role, ep, sure, mt, ot, co) := by
  have hj := fun x => spec_node_j1F (xs.length : Int) x id up role ep xs sure mt ot co
  have hlog : Ev (fun k => spec_l12Log.f k id up role ep xs sure mt ot co) (if (xs.length : Int) > 100 then (2, id, up, role, ep, sure, mt, ot, co) else (firstIdx (entAt ep xs) xs.length 0, id, up, role, ep, sure, mt, ot, co)) := by
    unfold spec_l12Log.f
    exact ev_ite (fun _ => Ev.now _) (fun _ => spec_log_ev id up role ep xs sure mt ot co hx xs.length 0 (by omega))
  refine Ev.step (fun k => by rw [spec_l12Fault.j0, if_neg (by simp)]) ?_
  refine ev_bind hlog ?_
  by_cases hl : (xs.length : Int) > 100
  · rw [if_pos hl, if_pos hl]
    exact Ev.now _
  · rw [if_neg hl, if_neg hl]
    by_cases h0 : firstIdx (entAt ep xs) xs.length 0 = 0
    · rw [if_pos h0]
      simp only [h0, if_true, in_spec, Option.bind_some, decide_eq_true_eq]
      unfold tailN
      by_cases q1 : 0 ≤ sure ∧ sure ≤ (xs.length : Int)
      · simp only [q1, and_self, if_true]
        by_cases q2 : 0 ≤ mt ∧ mt ≤ (xs.length : Int)
        · simp only [q2, and_self, if_true]
          by_cases q3 : 0 ≤ ot ∧ ot ≤ (xs.length : Int)
          · simp only [q3, and_self, if_true]
            by_cases q4 : 0 ≤ co ∧ co ≤ sure
            · rw [if_pos q4]
              refine ev_eq (hj _) ?_
              simp [q4]
            · rw [if_neg q4]
              refine ev_eq (hj _) ?_
              rw [if_pos (by simp only [Bool.not_eq_true', decide_eq_false_iff_not]; exact q4)]
          · simp only [q3, if_false]; exact hj true
        · simp only [q2, if_false]; exact hj true
      · simp only [q1, if_false]; exact hj true
    · rw [if_neg h0]
      simp only [h0, if_false]
      exact Ev.now _
theorem spec_fault_ev (id : Int) (up : Bool) (role ep : Int) (xs : List S55) (sure mt ot co : Int) (hx : xs.length ≤ 1048576) : Ev (fun k => spec_l12Fault.f k id up role ep xs sure mt ot co) (nodeM id up role ep xs sure mt ot co, id, up, role, ep, sure, mt, ot, co) := by
  have ht := spec_node_tailF id up role ep xs sure mt ot co hx
  have h3 : Ev (fun k => spec_l12Fault.j0 k true id up role ep xs sure mt ot co) (3, id, up, role, ep, sure, mt, ot, co) := by
    refine ev_from 1 (fun k => ?_)
    rw [spec_l12Fault.j0, if_pos rfl]
  unfold spec_l12Fault.f nodeM
  simp only [in_spec, Option.bind_some, decide_eq_true_eq]
  by_cases q1 : 0 ≤ id ∧ id ≤ 1
  · by_cases q2 : 0 ≤ role ∧ role ≤ 1
    · by_cases q3 : 0 ≤ ep ∧ ep ≤ 1000
      · rw [if_pos (show (0 ≤ id ∧ id ≤ 1) ∧ (0 ≤ role ∧ role ≤ 1) ∧ (0 ≤ ep ∧ ep ≤ 1000) from ⟨q1, q2, q3⟩)]
        simpa [q1, q2, q3] using ht
      · rw [if_neg (show ¬ ((0 ≤ id ∧ id ≤ 1) ∧ (0 ≤ role ∧ role ≤ 1) ∧ (0 ≤ ep ∧ ep ≤ 1000)) from fun z => q3 z.2.2)]
        have e : (!decide (0 ≤ ep ∧ ep ≤ 1000)) = true := by simp only [Bool.not_eq_true', decide_eq_false_iff_not]; exact q3
        simp only [q1, q2, e, and_self, if_true]
        exact h3
    · rw [if_neg (show ¬ ((0 ≤ id ∧ id ≤ 1) ∧ (0 ≤ role ∧ role ≤ 1) ∧ (0 ≤ ep ∧ ep ≤ 1000)) from fun z => q2 z.2.1)]
      simp only [q1, q2, and_self, if_true, if_false]
      exact h3
  · rw [if_neg (show ¬ ((0 ≤ id ∧ id ≤ 1) ∧ (0 ≤ role ∧ role ≤ 1) ∧ (0 ≤ ep ∧ ep ≤ 1000)) from fun z => q1 z.1)]
    simp only [q1, if_false]
    exact h3

def cE (x : S131) : S55 := ⟨x.f0, ⟨x.f1.f0, x.f1.f1, x.f1.f2⟩⟩
def sumB (xs : List S131) : Nat := (xs.map (fun x => x.f1.f2.length)).sum
theorem sumB_cons (x : S131) (t : List S131) : sumB (x :: t) = x.f1.f2.length + sumB t := by simp [sumB]
theorem sumB_mem {xs : List S131} {x : S131} (h : x ∈ xs) : x.f1.f2.length ≤ sumB xs := by
  induction xs with
  | nil => cases h
  | cons y t ih =>
    rw [sumB_cons]
    cases h with
    | head => omega
    | tail _ h => have := ih h; omega
theorem szEntry_val (x : S131) (m : Int) (h0 : 0 ≤ m) (h1 : m ≤ 1048576) (hl : x.f1.f2.length ≤ 9223372036854775807) : laws_szEntry.f x.f0 x.f1.f0 x.f1.f1 x.f1.f2 m = some (if (x.f1.f2.length : Int) ≤ m then m - (x.f1.f2.length : Int) else -1) := by
  unfold laws_szEntry.f laws_szEvent.f laws_szByteS.f
  rw [w64 (by omega) (by omega)]
  by_cases h : (x.f1.f2.length : Int) ≤ m
  · rw [if_pos h, if_neg (by omega)]
    simp only [Option.bind_some]
    rw [if_neg (by omega)]
    simp only [Option.bind_some]
    rw [if_neg (by omega)]
  · rw [if_neg h, if_pos (by omega)]
    rfl
theorem szEntryS_loop (xs : List S131) (hx : xs.length ≤ 1048576) (hall : ∀ x ∈ xs, x.f1.f2.length ≤ 9223372036854775807) : ∀ (d i : Nat) (m : Int), i + d = xs.length → 0 ≤ m → m ≤ 1048576 → Ev (fun k => laws_szEntryS.l0 k xs m (i : Int)) (if (sumB (xs.drop i) : Int) ≤ m then m - (sumB (xs.drop i) : Int) else -1)
  | 0, i, m, h, h0, h1 => by
    rw [List.drop_of_length_le (by omega)]
    refine Ev.step (f := fun _ => some m) (fun k => ?_) (ev_eq (Ev.now _) (by simp [sumB, h0]))
    rw [laws_szEntryS.l0, if_neg (by omega)]
  | d + 1, i, m, h, h0, h1 => by
    have hi : i < xs.length := by omega
    have hv := szEntry_val xs[i] m h0 h1 (hall _ (List.getElem_mem hi))
    rw [List.drop_eq_getElem_cons hi, sumB_cons]
    by_cases hle : (xs[i].f1.f2.length : Int) ≤ m
    · rw [if_pos hle] at hv
      have ih := szEntryS_loop xs hx hall d (i + 1) (m - (xs[i].f1.f2.length : Int)) (by omega) (by omega) (by omega)
      refine ev_eq (Ev.step (fun k => ?_) ih) ?_
      · rw [laws_szEntryS.l0, if_pos (by omega), if_pos (by omega), w64 (by omega) (by omega)]
        simp only [rd_T131, Int.toNat_natCast, getD_lt hi]
        rw [hv]
        simp only [Option.bind_some]
        rw [if_neg (by omega)]
        rfl
      · by_cases q : (sumB (xs.drop (i + 1)) : Int) ≤ m - (xs[i].f1.f2.length : Int)
        · rw [if_pos q, if_pos (by omega)]; omega
        · rw [if_neg q, if_neg (by omega)]
    · rw [if_neg hle] at hv
      rw [if_neg (by omega)]
      refine Ev.step (f := fun _ => some (-1)) (fun k => ?_) (Ev.now _)
      rw [laws_szEntryS.l0, if_pos (by omega), if_pos (by omega)]
      simp only [rd_T131, Int.toNat_natCast, getD_lt hi]
      rw [hv]
      rfl
theorem toEntryS_ev (xs : List S131) (hx : xs.length ≤ 1048576) (hb : ∀ x ∈ xs, x.f1.f2.length ≤ 1048576) : Ev (fun k => laws_toEntryS.f k xs) (xs.map cE) := by
  refine Ev.congr (f := fun k => laws_toEntryS.l0 k xs (List.replicate xs.length z55) 0) (fun k => ?_) (conv_loop cE z55 (fun k o i => laws_toEntryS.l0 k xs o i) xs (fun i hi out r ho hr => ?_) (fun out => ?_))
  · unfold laws_toEntryS.f
    rw [if_pos (by omega), if_pos (by omega)]
    simp
  · have hbi := toByteS_ev xs[i].f1.f2 (hb _ (List.getElem_mem hi))
    refine Ev.step (f := fun k => (laws_toEntry.f k xs[i].f0 xs[i].f1.f0 xs[i].f1.f1 xs[i].f1.f2).bind fun bt171 => laws_toEntryS.l0 k xs (out.set i (⟨bt171.1, (⟨bt171.2.1, bt171.2.2.1, bt171.2.2.2⟩ : S38)⟩ : S55)) ((i + 1 : Nat) : Int)) (fun k => ?_) (ev_bind (a := (xs[i].f0, xs[i].f1.f0, xs[i].f1.f1, xs[i].f1.f2)) ?_ hr)
    · rw [laws_toEntryS.l0, if_pos (by omega), if_pos (by omega), w64 (by omega) (by omega)]
      simp only [rd_T131, Int.toNat_natCast, getD_lt hi, show (i : Int) < (out.length : Int) by omega, if_true]
      rfl
    · unfold laws_toEntry.f laws_toEvent.f
      exact ev_bind (ev_bind hbi (Ev.now _)) (Ev.now _)
  · refine Ev.step (f := fun _ => some out) (fun k => ?_) (Ev.now _)
    rw [laws_toEntryS.l0, if_neg (by omega)]
theorem eqEntryS_ev (xs : List S55) (hx : xs.length ≤ 1048576) (hb : ∀ x ∈ xs, x.f1.f2.length ≤ 1048576) : Ev (fun k => laws_eqEntryS.f k xs xs) true := by
  refine Ev.congr (f := fun k => laws_eqEntryS.l0 k xs xs 0) (fun k => ?_) (all_loop (fun k i => laws_eqEntryS.l0 k xs xs i) xs.length (fun i hi r hr => ?_) ?_)
  · unfold laws_eqEntryS.f
    rw [if_pos rfl]
  · refine Ev.step (f := fun k => (laws_eqEntry.f k xs[i].f0 xs[i].f1.f0 xs[i].f1.f1 xs[i].f1.f2 xs[i].f0 xs[i].f1.f0 xs[i].f1.f1 xs[i].f1.f2).bind fun t => if t = true then laws_eqEntryS.l0 k xs xs ((i + 1 : Nat) : Int) else some false) (fun k => ?_) (ev_bind (a := true) ?_ (ev_pos rfl hr))
    · rw [laws_eqEntryS.l0, if_pos (by omega), if_pos (by omega), if_pos (by omega), w64 (by omega) (by omega)]
      simp only [rd_T55, Int.toNat_natCast, getD_lt hi]
      rfl
    · unfold laws_eqEntry.f laws_eqEvent.f
      exact ev_pos rfl (ev_bind (ev_pos rfl (ev_pos rfl (ev_bind (eqByteS_ev _ (hb _ (List.getElem_mem hi))) (ev_pos rfl (Ev.now _))))) (ev_pos rfl (Ev.now _)))
  · refine Ev.step (f := fun _ => some true) (fun k => ?_) (Ev.now _)
    rw [laws_eqEntryS.l0, if_neg (by omega)]

/-! ### what marks leave of entries -/
def markE : List S55 → Int → List S55
  | [], _ => []
  | x :: t, m => (⟨m, ⟨m + 1, m + 1 + 1, marked (· % 256) (m + 1 + 1 + 1) x.f1.f2.length⟩⟩ : S55) :: markE t (m + 1 + 1 + 1 + (x.f1.f2.length : Int))
def endE : List S55 → Int → Int
  | [], m => m
  | x :: t, m => endE t (m + 1 + 1 + 1 + (x.f1.f2.length : Int))
theorem endE_le : ∀ (xs : List S55) (m : Int), m ≤ endE xs m
  | [], m => Int.le_refl _
  | x :: t, m => by have := endE_le t (m + 1 + 1 + 1 + (x.f1.f2.length : Int)); unfold endE; omega
theorem markEntryS_ev : ∀ (xs : List S55) (m : Int), 0 ≤ m → m + (xs.length : Int) * 1048579 ≤ 1152921504606846976 → (∀ x ∈ xs, x.f1.f2.length ≤ 1048576) → Ev (fun k => laws_markEntryS.f k xs m) (endE xs m, markE xs m)
  | [], m, h0, h1, hb => ev_some (fun k => rfl)
  | x :: t, m, h0, h1, hb => by
    have hx := hb x (by simp)
    simp only [List.length_cons] at h1
    have ih := markEntryS_ev t (m + 1 + 1 + 1 + (x.f1.f2.length : Int)) (by omega) (by omega) (fun y hy => hb y (by simp [hy]))
    unfold laws_markEntryS.f endE markE
    rw [w64 (x := m + 1) (by omega) (by omega), w64 (x := m + 1 + 1) (by omega) (by omega), w64 (x := m + 1 + 1 + 1) (by omega) (by omega)]
    exact ev_bind (markByteS_ev x.f1.f2 hx (m + 1 + 1 + 1) (by omega) (by omega)) (ev_bind ih (Ev.now _))
theorem heldEntryS_loop : ∀ (t d : List S55) (m : Int), 0 ≤ m → m + (t.length : Int) * 1048579 ≤ 1152921504606846976 → d.length + t.length ≤ 1048576 → (∀ x ∈ t, x.f1.f2.length ≤ 1048576) → Ev (fun k => laws_heldEntryS.l0 k (d ++ markE t m) m (d.length : Int)) (endE t m)
  | [], d, m, h0, h1, hd, hb => by
    refine Ev.step (f := fun _ => some m) (fun k => ?_) (Ev.now _)
    rw [laws_heldEntryS.l0, if_neg (by simp [markE])]
  | x :: t, d, m, h0, h1, hd, hb => by
    have hx := hb x (by simp)
    simp only [List.length_cons] at h1 hd
    have ih := heldEntryS_loop t (d ++ [(⟨m, ⟨m + 1, m + 1 + 1, marked (· % 256) (m + 1 + 1 + 1) x.f1.f2.length⟩⟩ : S55)]) (m + 1 + 1 + 1 + (x.f1.f2.length : Int)) (by omega) (by omega) (by simp; omega) (fun y hy => hb y (by simp [hy]))
    have e : (d ++ markE (x :: t) m) = (d ++ [(⟨m, ⟨m + 1, m + 1 + 1, marked (· % 256) (m + 1 + 1 + 1) x.f1.f2.length⟩⟩ : S55)]) ++ markE t (m + 1 + 1 + 1 + (x.f1.f2.length : Int)) := by simp [markE]
    have hr : rd_T55 (d ++ markE (x :: t) m) (d.length : Int) = (⟨m, ⟨m + 1, m + 1 + 1, marked (· % 256) (m + 1 + 1 + 1) x.f1.f2.length⟩⟩ : S55) := by simp [rd_T55, markE]
    refine Ev.step (f := fun k => (laws_heldByteS.f k (marked (· % 256) (m + 1 + 1 + 1) x.f1.f2.length) (m + 1 + 1 + 1)).bind fun t179 => (if t179 < 0 then (some (-1)) else (laws_heldEntryS.l0 k (d ++ markE (x :: t) m) t179 (((d ++ [(⟨m, ⟨m + 1, m + 1 + 1, marked (· % 256) (m + 1 + 1 + 1) x.f1.f2.length⟩⟩ : S55)]).length : Nat) : Int)))) (fun k => ?_) (ev_bind (heldByteS_ev _ hx _ (by omega) (by omega)) (ev_neg (by omega) ?_))
    · rw [laws_heldEntryS.l0, if_pos (by simp [markE]; omega), if_pos (by omega), hr]
      simp only [w64 (x := m + 1) (by omega) (by omega), w64 (x := m + 1 + 1) (by omega) (by omega), w64 (x := m + 1 + 1 + 1) (by omega) (by omega), if_true]
      rw [w64 (x := (d.length : Int) + 1) (by omega) (by omega)]
      simp
    · rw [e]; exact ih
theorem endE_nonneg (xs : List S55) (m : Int) (h : 0 ≤ m) : ¬ endE xs m < 0 := by have := endE_le xs m; omega
theorem markNode_ev (id : Int) (up : Bool) (role ep : Int) (xs : List S55) (sure mt ot co m : Int) (h0 : 0 ≤ m) (h1 : m ≤ 16) (hl : xs.length ≤ 1048576) (hb : ∀ x ∈ xs, x.f1.f2.length ≤ 1048576) : Ev (fun k => laws_markNode.f k id up role ep xs sure mt ot co m) (endE xs m, markE xs m) := by
  unfold laws_markNode.f
  exact ev_bind (markEntryS_ev xs m h0 (by omega) hb) (Ev.now _)
theorem markNodeResult_ev (c id : Int) (up : Bool) (role ep : Int) (xs : List S55) (sure mt ot co m : Int) (h0 : 0 ≤ m) (h1 : m ≤ 16) (hl : xs.length ≤ 1048576) (hb : ∀ x ∈ xs, x.f1.f2.length ≤ 1048576) : Ev (fun k => laws_markNodeResult.f k c id up role ep xs sure mt ot co [] m) (endE xs m, markE xs m, []) := by
  unfold laws_markNodeResult.f
  exact ev_bind (markNode_ev id up role ep xs sure mt ot co m h0 h1 hl hb) (ev_bind (a := (endE xs m, [])) (ev_some (fun k => rfl)) (Ev.now _))
theorem heldNodeResult_ev (c id : Int) (up : Bool) (role ep : Int) (xs : List S55) (sure mt ot co m : Int) (h0 : 0 ≤ m) (h1 : m ≤ 16) (hl : xs.length ≤ 1048576) (hb : ∀ x ∈ xs, x.f1.f2.length ≤ 1048576) : Ev (fun k => laws_heldNodeResult.f k c id up role ep (markE xs m) sure mt ot co [] m) (endE xs m) := by
  have he := endE_nonneg xs m h0
  have h := heldEntryS_loop xs [] m h0 (by omega) (by simpa using hl) hb
  unfold laws_heldNodeResult.f laws_heldNode.f laws_heldEntryS.f
  refine ev_bind (ev_bind (a := endE xs m) (by simpa using h) (ev_neg he (Ev.now _))) (ev_neg he (ev_bind (a := endE xs m) ?_ (ev_neg he (Ev.now _))))
  unfold laws_heldMailS.f
  refine ev_from 1 (fun k => ?_)
  rw [laws_heldMailS.l0, if_neg (by simp)]
theorem eqNode_ev (id : Int) (up : Bool) (role ep : Int) (xs : List S55) (sure mt ot co : Int) (hl : xs.length ≤ 1048576) (hb : ∀ x ∈ xs, x.f1.f2.length ≤ 1048576) : Ev (fun k => laws_eqNode.f k id up role ep xs sure mt ot co id up role ep xs sure mt ot co) true := by
  unfold laws_eqNode.f
  exact ev_pos rfl (ev_neg (by simp) (ev_pos rfl (ev_pos rfl (ev_bind (eqEntryS_ev _ hl hb) (ev_pos rfl (ev_pos rfl (ev_pos rfl (ev_pos rfl (ev_pos rfl (Ev.now _))))))))))
theorem eqNodeResult_ev (c id : Int) (up : Bool) (role ep : Int) (xs : List S55) (sure mt ot co : Int) (hl : xs.length ≤ 1048576) (hb : ∀ x ∈ xs, x.f1.f2.length ≤ 1048576) : Ev (fun k => laws_eqNodeResult.f k c id up role ep xs sure mt ot co [] c id up role ep xs sure mt ot co []) true := by
  unfold laws_eqNodeResult.f
  refine ev_pos rfl (ev_bind (eqNode_ev id up role ep xs sure mt ot co hl hb) (ev_pos rfl (ev_bind (a := true) ?_ (ev_pos rfl (Ev.now _)))))
  unfold laws_eqMailS.f
  refine ev_from 1 (fun k => ?_)
  rw [if_pos rfl, laws_eqMailS.l0, if_neg (by simp)]

theorem spec_copy_loop (id : Int) (up : Bool) (role ep : Int) (xs : List S55) (sure mt ot co : Int) (hl : xs.length ≤ 1048576) (hb : ∀ x ∈ xs, x.f1.f2.length ≤ 1048576) : ∀ (t d : List S55), d ++ t = xs → Ev (fun k => spec_l12Copy.l0 k d (d.length : Int) id up role ep xs sure mt ot co) (id, up, role, ep, xs, sure, mt, ot, co)
  | [], d, h => by
    have e : d = xs := by simpa using h
    subst e
    refine Ev.step (f := fun _ => some (id, up, role, ep, d, sure, mt, ot, co)) (fun k => ?_) (Ev.now _)
    rw [spec_l12Copy.l0, if_neg (by omega)]
  | x :: t, d, h => by
    have hx : x ∈ xs := by rw [← h]; simp
    have hlen : d.length + (t.length + 1) = xs.length := by rw [← h]; simp
    have ih := spec_copy_loop id up role ep xs sure mt ot co hl hb t (d ++ [x]) (by rw [← h]; simp)
    have hr : rd_T55 xs (d.length : Int) = x := by rw [← h]; simp [rd_T55]
    have hc : spec_l12CopyEntry.f x.f0 x.f1.f0 x.f1.f1 x.f1.f2 = some (x.f0, x.f1.f0, x.f1.f1, x.f1.f2) := by
      have := hb x hx
      unfold spec_l12CopyEntry.f
      simp only [Option.bind_some, List.length_nil, Nat.zero_add, List.nil_append]
      rw [if_pos (by omega)]
    refine Ev.step (fun k => ?_) ih
    rw [spec_l12Copy.l0, if_pos (by omega), if_pos (by omega), hr, hc]
    simp only [Option.bind_some]
    rw [if_pos (by omega), w64 (by omega) (by omega)]
    simp
theorem spec_copy_ev (id : Int) (up : Bool) (role ep : Int) (xs : List S55) (sure mt ot co : Int) (hl : xs.length ≤ 1048576) (hb : ∀ x ∈ xs, x.f1.f2.length ≤ 1048576) : Ev (fun k => spec_l12Copy.f k id up role ep xs sure mt ot co) (id, up, role, ep, xs, sure, mt, ot, co) := by
  unfold spec_l12Copy.f
  exact spec_copy_loop id up role ep xs sure mt ot co hl hb xs [] rfl
theorem impl_copiedE (xs : List S55) (hl : xs.length ≤ 1048576) (hb : ∀ x ∈ xs, x.f1.f2.length ≤ 1048576) : impl_copiedEntries.f xs = some xs := by
  unfold impl_copiedEntries.f
  rw [if_pos ⟨by omega, fun x hx => by have := hb x hx; omega⟩]

theorem impl_copied (id : Int) (up : Bool) (role ep : Int) (xs : List S55) (sure mt ot co : Int) (hl : xs.length ≤ 1048576) (hb : ∀ x ∈ xs, x.f1.f2.length ≤ 1048576) : impl_Node_copied.f id up role ep xs sure mt ot co = some (id, up, role, ep, xs, sure, mt, ot, co) := by
  unfold impl_Node_copied.f
  rw [impl_copiedE xs hl hb]
  rfl

def askM (id : Int) (up : Bool) (role ep : Int) (xs : List S55) (sure mt ot co : Int) : Int := if nodeM id up role ep xs sure mt ot co = 0 then (if up = true then 0 else 10) else nodeM id up role ep xs sure mt ot co
theorem spec_asked_ev (id : Int) (up : Bool) (role ep : Int) (xs : List S55) (sure mt ot co : Int) (hl : xs.length ≤ 1048576) : Ev (fun k => spec_l12Asked.f k id up role ep xs sure mt ot co) (askM id up role ep xs sure mt ot co, id, up, role, ep, sure, mt, ot, co) := by
  unfold spec_l12Asked.f
  refine ev_bind (spec_fault_ev id up role ep xs sure mt ot co hl) ?_
  refine ev_eq (ev_ite (x := if up = true then (0, id, up, role, ep, sure, mt, ot, co) else (10, id, up, role, ep, sure, mt, ot, co)) (y := (nodeM id up role ep xs sure mt ot co, id, up, role, ep, sure, mt, ot, co)) (fun _ => ev_ite (fun _ => Ev.now _) (fun _ => Ev.now _)) (fun _ => Ev.now _)) ?_
  unfold askM
  split
  · split <;> rfl
  · rfl
theorem impl_up_ev (id : Int) (up : Bool) (role ep : Int) (xs : List S55) (sure mt ot co : Int) (hl : xs.length ≤ 1048576) : Ev (fun k => impl_upFault.f k id up role ep xs sure mt ot co) (askM id up role ep xs sure mt ot co) := by
  unfold impl_upFault.f askM
  refine ev_bind (impl_node_ev id up role ep xs sure mt ot co hl) ?_
  refine ev_ite (fun h => ?_) (fun _ => Ev.now _)
  rw [h]
  exact ev_ite (fun _ => Ev.now _) (fun _ => Ev.now _)
theorem nodeM_sure {id : Int} {up : Bool} {role ep : Int} {xs : List S55} {sure mt ot co : Int} (h : nodeM id up role ep xs sure mt ot co = 0) : (0 ≤ sure ∧ sure ≤ (xs.length : Int)) ∧ xs.length ≤ 100 := by
  unfold nodeM at h
  split at h
  · split at h
    · cases h
    · rename_i hl
      split at h
      · unfold tailN at h
        split at h
        · rename_i hs
          exact ⟨hs, by omega⟩
        · cases h
      · rename_i h1 h2
        exact absurd h h2
  · cases h
theorem askM_node {id : Int} {up : Bool} {role ep : Int} {xs : List S55} {sure mt ot co : Int} (h : askM id up role ep xs sure mt ot co = 0) : nodeM id up role ep xs sure mt ot co = 0 := by
  unfold askM at h
  split at h
  · assumption
  · exact h
def actM (id : Int) (up : Bool) (role ep : Int) (xs : List S55) (sure mt ot co : Int) : Int := if askM id up role ep xs sure mt ot co = 0 then (if role = 1 then 0 else 10) else askM id up role ep xs sure mt ot co

theorem spec_active_ev (id : Int) (up : Bool) (role ep : Int) (xs : List S55) (sure mt ot co : Int) (hl : xs.length ≤ 1048576) : Ev (fun k => spec_l12Active.f k id up role ep xs sure mt ot co) (actM id up role ep xs sure mt ot co, id, up, role, ep, sure, mt, ot, co) := by
  unfold spec_l12Active.f
  refine ev_bind (spec_asked_ev id up role ep xs sure mt ot co hl) ?_
  refine ev_eq (ev_ite (x := if role = 1 then (0, id, up, role, ep, sure, mt, ot, co) else (10, id, up, role, ep, sure, mt, ot, co)) (y := (askM id up role ep xs sure mt ot co, id, up, role, ep, sure, mt, ot, co)) (fun _ => ev_ite (fun _ => Ev.now _) (fun _ => Ev.now _)) (fun _ => Ev.now _)) ?_
  unfold actM
  split
  · split <;> rfl
  · rfl
theorem impl_active_ev (id : Int) (up : Bool) (role ep : Int) (xs : List S55) (sure mt ot co : Int) (hl : xs.length ≤ 1048576) : Ev (fun k => impl_activeFault.f k id up role ep xs sure mt ot co) (actM id up role ep xs sure mt ot co) := by
  unfold impl_activeFault.f actM
  refine ev_bind (impl_up_ev id up role ep xs sure mt ot co hl) ?_
  refine ev_ite (fun h => ?_) (fun _ => Ev.now _)
  rw [h]
  exact ev_ite (fun _ => Ev.now _) (fun _ => Ev.now _)
theorem actM_ask {id : Int} {up : Bool} {role ep : Int} {xs : List S55} {sure mt ot co : Int} (h : actM id up role ep xs sure mt ot co = 0) : askM id up role ep xs sure mt ot co = 0 := by
  unfold actM at h
  split at h
  · assumption
  · exact h

theorem endE_hi : ∀ (xs : List S55) (m : Int), (∀ x ∈ xs, x.f1.f2.length ≤ 1048576) → endE xs m ≤ m + (xs.length : Int) * 1048579
  | [], m, _ => by simp [endE]
  | x :: t, m, h => by
    have := endE_hi t (m + 1 + 1 + 1 + (x.f1.f2.length : Int)) (fun y hy => h y (by simp [hy]))
    have hx := h x (by simp)
    unfold endE
    simp only [List.length_cons]
    omega
def addM (id : Int) (up : Bool) (role ep : Int) (xs : List S55) (sure mt ot co kd pr : Int) (b : List Int) : Int × Int × Bool × Int × Int × (List S55) × Int × Int × Int × Int × (List S57) :=
  if actM id up role ep xs sure mt ot co = 0 then (if evM kd pr b = 0 then (if (xs.length : Int) ≥ 100 then (2, 0, false, 0, 0, [], 0, 0, 0, 0, []) else (0, id, up, role, ep, xs ++ [(⟨ep, ⟨kd, pr, b⟩⟩ : S55)], sure, mt, ot, co, [])) else (evM kd pr b, 0, false, 0, 0, [], 0, 0, 0, 0, [])) else (actM id up role ep xs sure mt ot co, 0, false, 0, 0, [], 0, 0, 0, 0, [])
theorem spec_add_ev (id : Int) (up : Bool) (role ep : Int) (xs : List S55) (sure mt ot co kd pr : Int) (b : List Int) (hl : xs.length ≤ 1048576) (hb : ∀ x ∈ xs, x.f1.f2.length ≤ 1048576) (hbl : b.length ≤ 1048576) : Ev (fun k => spec_AddEvent.f k id up role ep xs sure mt ot co kd pr b) (addM id up role ep xs sure mt ot co kd pr b) := by
  unfold spec_AddEvent.f addM
  refine ev_bind (spec_active_ev id up role ep xs sure mt ot co hl) ?_
  refine ev_ite (fun h => ?_) (fun _ => Ev.now _)
  refine ev_bind (ev_from 1 (fun k => spec_event k kd pr b)) ?_
  refine ev_ite (fun h2 => ?_) (fun _ => Ev.now _)
  refine ev_ite (fun h3 => Ev.now _) (fun h3 => ?_)
  have hc : spec_l12CopyEntry.f ep kd pr b = some (ep, kd, pr, b) := by
    unfold spec_l12CopyEntry.f
    simp only [Option.bind_some, List.length_nil, Nat.zero_add, List.nil_append]
    rw [if_pos (by omega)]
  exact ev_bind (spec_copy_ev id up role ep xs sure mt ot co hl hb) (ev_val hc (ev_pos (by show xs.length < _; omega) (Ev.now _)))
theorem impl_add_ev (id : Int) (up : Bool) (role ep : Int) (xs : List S55) (sure mt ot co kd pr : Int) (b : List Int) (hl : xs.length ≤ 1048576) (hb : ∀ x ∈ xs, x.f1.f2.length ≤ 1048576) (hbl : b.length ≤ 1048576) : Ev (fun k => impl_AddEvent.f k id up role ep xs sure mt ot co kd pr b) (addM id up role ep xs sure mt ot co kd pr b) := by
  unfold impl_AddEvent.f addM
  refine ev_bind (impl_active_ev id up role ep xs sure mt ot co hl) ?_
  have hcl : slices_Clone_byte_byte.f b = some b := by
    unfold slices_Clone_byte_byte.f
    simp only [Option.bind_some, List.length_nil, Nat.zero_add, List.nil_append]
    rw [if_pos (by omega)]
  refine ev_ite (fun h => ?_) (fun h => ?_)
  · refine ev_bind (a := evM kd pr b) (ev_from 1 (fun k => by rw [event_same]; exact spec_event k kd pr b)) ?_
    have h100 := (nodeM_sure (askM_node (actM_ask h))).2
    by_cases h2 : evM kd pr b = 0
    · rw [if_pos h2]
      by_cases h3 : (xs.length : Int) ≥ 100
      · rw [if_pos h3]
        refine ev_from 3 (fun k => ?_)
        rw [show k + 3 = k + 1 + 1 + 1 from rfl, impl_AddEvent.j0, if_pos h2, impl_AddEvent.j1, if_pos (by simp; omega), impl_AddEvent.j2, if_neg (by decide)]
      · rw [if_neg h3]
        refine ev_from 3 (fun k => ?_)
        rw [show k + 3 = k + 1 + 1 + 1 from rfl, impl_AddEvent.j0, if_pos h2, impl_AddEvent.j1, if_neg (by simp; omega), impl_AddEvent.j2, if_pos h2, impl_copied id up role ep xs sure mt ot co hl hb]
        simp only [Option.bind_some]
        rw [hcl]
        simp only [Option.bind_some]
        rw [if_pos (by omega)]
    · rw [if_neg h2]
      refine ev_from 3 (fun k => ?_)
      rw [show k + 3 = k + 1 + 1 + 1 from rfl, impl_AddEvent.j0, if_neg h2, impl_AddEvent.j1, if_neg (by decide), impl_AddEvent.j2, if_neg h2]
  · refine ev_from 3 (fun k => ?_)
    rw [show k + 3 = k + 1 + 1 + 1 from rfl, impl_AddEvent.j0, if_neg h, impl_AddEvent.j1, if_neg (by decide), impl_AddEvent.j2, if_neg h]
theorem FnExactAddEvent : ∀ (a0_0 : Int) (a0_1 : Bool) (a0_2 : Int) (a0_3 : Int) (a0_4 : List S131) (a0_5 : Int) (a0_6 : Int) (a0_7 : Int) (a0_8 : Int) (a1_0 : Int) (a1_1 : Int) (a1_2 : List Int), (Lit.int .i64 a0_0).wf = true → (Lit.int .i64 a0_2).wf = true → (Lit.int .i64 a0_3).wf = true → (a0_4.length ≤ 9223372036854775807 ∧ ∀ x ∈ a0_4, ((Lit.int .i64 x.f0).wf = true ∧ ((Lit.int .i64 x.f1.f0).wf = true ∧ (Lit.int .i64 x.f1.f1).wf = true ∧ (x.f1.f2.length ≤ 9223372036854775807 ∧ ∀ y ∈ x.f1.f2, (Lit.int .u8 y).wf = true)))) → (Lit.int .i64 a0_5).wf = true → (Lit.int .i64 a0_6).wf = true → (Lit.int .i64 a0_7).wf = true → (Lit.int .i64 a0_8).wf = true → (Lit.int .i64 a1_0).wf = true → (Lit.int .i64 a1_1).wf = true → (a1_2.length ≤ 9223372036854775807 ∧ ∀ x ∈ a1_2, (Lit.int .u8 x).wf = true) → ∃ k, laws_FnExactAddEvent.f k a0_0 a0_1 a0_2 a0_3 a0_4 a0_5 a0_6 a0_7 a0_8 a1_0 a1_1 a1_2 = some true := by
  intro id up role ep xs sure mt ot co kd pr b _ _ _ hxs _ _ _ _ _ _ hb0
  obtain ⟨hl, hall⟩ := hxs
  have hal : ∀ x ∈ xs, x.f1.f2.length ≤ 9223372036854775807 := fun x hx => (hall x hx).2.2.2.1
  by_cases hn : xs.length ≤ 1048576
  · have hsz : Ev (fun k => laws_szEntryS.f k xs 1048576) (if (sumB xs : Int) ≤ 1048576 - (xs.length : Int) then 1048576 - (xs.length : Int) - (sumB xs : Int) else -1) := by
      unfold laws_szEntryS.f
      rw [w64 (by omega) (by omega)]
      have h := szEntryS_loop xs hn hal xs.length 0 (1048576 - (xs.length : Int)) (by omega) (by omega) (by omega)
      rw [List.drop_zero] at h
      exact ev_neg (by omega) h
    refine Ev.rounds ?_
    unfold laws_FnExactAddEvent.f laws_szNode.f
    by_cases hs : (sumB xs : Int) ≤ 1048576 - (xs.length : Int)
    · rw [if_pos hs] at hsz
      have hb : ∀ x ∈ xs, x.f1.f2.length ≤ 1048576 := fun x hx => by have := sumB_mem hx; omega
      have hb2 : ∀ x ∈ xs.map cE, x.f1.f2.length ≤ 1048576 := fun x hx => by
        obtain ⟨y, hy, rfl⟩ := List.mem_map.mp hx
        exact hb y hy
      have lx : (xs.map cE).length ≤ 1048576 := by simp; omega
      have hto : Ev (fun k => laws_toNode.f k id up role ep xs sure mt ot co) (id, up, role, ep, xs.map cE, sure, mt, ot, co) := by
        unfold laws_toNode.f
        exact ev_bind (toEntryS_ev xs hn hb) (Ev.now _)
      refine ev_bind (ev_bind hsz (ev_neg (by omega) (Ev.now _))) (ev_neg (by omega) ?_)
      have hse : laws_szEvent.f kd pr b (1048576 - (xs.length : Int) - (sumB xs : Int)) = some (if (b.length : Int) ≤ 1048576 - (xs.length : Int) - (sumB xs : Int) then 1048576 - (xs.length : Int) - (sumB xs : Int) - (b.length : Int) else -1) := by
        have hb1 := hb0.1
        unfold laws_szEvent.f laws_szByteS.f
        rw [w64 (by omega) (by omega)]
        by_cases h : (b.length : Int) ≤ 1048576 - (xs.length : Int) - (sumB xs : Int)
        · rw [if_pos h, if_neg (by omega)]
          simp only [Option.bind_some]
          rw [if_neg (by omega)]
        · rw [if_neg h, if_pos (by omega)]
          rfl
      by_cases hbs : (b.length : Int) ≤ 1048576 - (xs.length : Int) - (sumB xs : Int)
      · rw [if_pos hbs] at hse
        have hbl : b.length ≤ 1048576 := by omega
        have hte : Ev (fun k => laws_toEvent.f k kd pr b) (kd, pr, b) := by
          unfold laws_toEvent.f
          exact ev_bind (toByteS_ev b hbl) (Ev.now _)
        refine ev_val hse (ev_neg (by omega) ?_)
        refine ev_bind hto (ev_bind hte ?_)
        refine ev_bind (spec_add_ev id up role ep (xs.map cE) sure mt ot co kd pr b lx hb2 hbl) ?_
        obtain ⟨c, id', up', role', ep', ys, sure', mt', ot', co', e, hy, hyb⟩ : ∃ c id' up' role' ep' ys sure' mt' ot' co', addM id up role ep (xs.map cE) sure mt ot co kd pr b = (c, id', up', role', ep', ys, sure', mt', ot', co', []) ∧ ys.length ≤ 1048576 ∧ ∀ x ∈ ys, x.f1.f2.length ≤ 1048576 := by
          unfold addM
          split
          · split
            · split
              · exact ⟨_, _, _, _, _, _, _, _, _, _, rfl, by simp, by simp⟩
              · rename_i h100
                refine ⟨_, _, _, _, _, _, _, _, _, _, rfl, by rw [List.length_append, List.length_singleton]; omega, fun x hx => ?_⟩
                rcases List.mem_append.1 hx with hx | hx
                · exact hb2 x hx
                · rw [List.mem_singleton] at hx
                  subst hx
                  exact hbl
            · exact ⟨_, _, _, _, _, _, _, _, _, _, rfl, by simp, by simp⟩
          · exact ⟨_, _, _, _, _, _, _, _, _, _, rfl, by simp, by simp⟩
        have hi := impl_add_ev id up role ep (xs.map cE) sure mt ot co kd pr b lx hb2 hbl
        rw [e] at hi ⊢
        refine ev_pos rfl (ev_bind hi (ev_pos rfl ?_))
        refine ev_bind (eqNodeResult_ev c id' up' role' ep' ys sure' mt' ot' co' hy hyb) (ev_pos rfl ?_)
        refine ev_bind (eqNode_ev id up role ep (xs.map cE) sure mt ot co lx hb2) (ev_pos rfl ?_)
        refine ev_bind (a := true) ?_ (ev_pos rfl ?_)
        · unfold laws_eqEvent.f
          exact ev_pos rfl (ev_pos rfl (ev_bind (eqByteS_ev b hbl) (ev_pos rfl (Ev.now _))))
        have h1 := endE_hi (xs.map cE) 1 hb2
        have h2 := endE_le (xs.map cE) 1
        refine ev_bind (markNode_ev id up role ep (xs.map cE) sure mt ot co 1 (by decide) (by decide) lx hb2) ?_
        refine ev_bind (a := (endE (xs.map cE) 1 + (b.length : Int), marked (· % 256) (endE (xs.map cE) 1) b.length)) ?_ (ev_pos (by show ¬ endE (xs.map cE) 1 + (b.length : Int) < 0; omega) ?_)
        · unfold laws_markEvent.f
          exact ev_bind (markByteS_ev b hbl (endE (xs.map cE) 1) (by omega) (by omega)) (Ev.now _)
        refine ev_bind (markNodeResult_ev c id' up' role' ep' ys sure' mt' ot' co' 1 (by decide) (by decide) hy hyb) (ev_pos rfl ?_)
        exact ev_bind (heldNodeResult_ev c id' up' role' ep' ys sure' mt' ot' co' 1 (by decide) (by decide) hy hyb) (ev_pos (endE_nonneg _ _ (by decide)) (ev_pos rfl (Ev.now _)))
      · rw [if_neg hbs] at hse
        exact ev_val hse (ev_pos (by omega) (Ev.now _))
    · rw [if_neg hs] at hsz
      exact ev_bind (ev_bind hsz (ev_pos (by omega) (Ev.now _))) (ev_pos (by omega) (Ev.now _))
  · refine ⟨0, ?_⟩
    unfold laws_FnExactAddEvent.f laws_szNode.f laws_szEntryS.f
    rw [w64 (by omega) (by omega), if_pos (show (1048576 : Int) - (xs.length : Int) < 0 by omega)]
    rfl

end Go.Proofs.Ytgfoifkkffffgab.Pure
