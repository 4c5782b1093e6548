/- FnExactMailFault: what the printed functions compute answers as the statement says: for every input the law is true. No condition beside the arguments being of their kinds. -/
import Derived.Test.YtgfoifkkffffgaaPFnExactMailFaultx11
import Derived.OpenShut
namespace Go.Proofs.Ytgfoifkkffffgaa.Pure
open Go.RowKit Go.Proofs.YtgfoifkkffffgaaW.PrintWords Go.Proofs.YtgfoifkkffffgaaW.PrintLast Go.Proofs.YtgfoifkkffffgaaW.PrintMore Go.Proofs.Ytgfoifkkffffgaa.PFnExactMailFault
set_option linter.unusedVariables false
set_option linter.unusedSimpArgs false

/-! ### plain words -/
theorem w64 {x : Int} (h0 : -9223372036854775808 ≤ x) (h1 : x ≤ 9223372036854775807) : wrap64 x = x := by unfold wrap64; omega
theorem ev_some {α : Type} {g : Nat → Option α} {r : α} (h : ∀ k, g k = some r) : Ev g r := ⟨0, fun k _ => h k⟩
theorem ev_bind {α β : Type} {g : Nat → Option α} {f : Nat → α → Option β} {a : α} {r : β} (h : Ev g a) (k : Ev (fun n => f n a) r) : Ev (fun n => (g n).bind (f n)) r := Ev.bind h k
theorem ev_val {α β : Type} {o : Option α} {a : α} (h : o = some a) {f : Nat → α → Option β} {r : β} (k : Ev (fun n => f n a) r) : Ev (fun n => o.bind (f n)) r := by
  subst h
  exact k
theorem ev_pos {α : Type} {c : Prop} [Decidable c] {a b : Nat → Option α} {r : α} (hc : c) (h : Ev a r) : Ev (fun k => if c then a k else b k) r := Ev.congr (fun _ => if_pos hc) h
theorem ev_neg {α : Type} {c : Prop} [Decidable c] {a b : Nat → Option α} {r : α} (hc : ¬ c) (h : Ev b r) : Ev (fun k => if c then a k else b k) r := Ev.congr (fun _ => if_neg hc) h
theorem ev_ite {α : Type} {c : Prop} [Decidable c] {a b : Nat → Option α} {x y : α} (h1 : c → Ev a x) (h2 : ¬ c → Ev b y) : Ev (fun k => if c then a k else b k) (if c then x else y) := by
  by_cases h : c
  · rw [if_pos h]
    exact ev_pos h (h1 h)
  · rw [if_neg h]
    exact ev_neg h (h2 h)
theorem ev_eq {α : Type} {g : Nat → Option α} {r r' : α} (h : Ev g r) (e : r = r') : Ev g r' := e ▸ h
theorem ev_uniq {α : Type} {g : Nat → Option α} {r r' : α} (h : Ev g r) (h' : Ev g r') : r = r' := by
  obtain ⟨K, hK⟩ := h
  obtain ⟨K', hK'⟩ := h'
  have h1 := hK (max K K') (Nat.le_max_left _ _)
  have h2 := hK' (max K K') (Nat.le_max_right _ _)
  exact Option.some.inj (h1.symm.trans h2)
/-- So many rounds are enough. -/
theorem ev_from {α : Type} {g : Nat → Option α} {r : α} (n : Nat) (h : ∀ k, g (k + n) = some r) : Ev g r :=
  ⟨n, fun k hk => by have := h (k - n); rwa [Nat.sub_add_cancel hk] at this⟩
theorem rd_nat (xs : List Int) (i : Nat) : rd xs (i : Int) = xs.getD i 0 := by simp [rd]
theorem rd_lt {xs : List Int} {i : Nat} (h : i < xs.length) : rd xs (i : Int) = xs[i] := by
  rw [rd_nat, List.getD_eq_getElem?_getD, List.getElem?_eq_getElem h]; rfl
theorem set_take {xs out : List Int} {i : Nat} (hi : i < xs.length) (hl : out.length = xs.length) (ht : out.take i = xs.take i) : (out.set i xs[i]).take (i + 1) = xs.take (i + 1) := by
  rw [List.take_succ_eq_append_getElem (by simp; omega), List.take_succ_eq_append_getElem hi]
  rw [List.take_set_of_le (Nat.le_refl i), ht]
  simp
/-- A copy, number by number. -/
theorem copy_loop (l : Nat → List Int → List Int → Int → Option (List Int))
    (h : ∀ k xs out i, l (k + 1) xs out i = if i < (xs.length : Int) then (if 0 ≤ i then (if i < (out.length : Int) then l k xs (out.set (i : Int).toNat (rd xs i)) (wrap64 (i + 1)) else none) else none) else some out)
    (xs : List Int) (hx : xs.length ≤ 4611686018427387904) : ∀ (d i : Nat) (out : List Int), i + d = xs.length → out.length = xs.length → out.take i = xs.take i → Ev (fun k => l k xs out (i : Int)) xs
  | 0, i, out, hd, hl, ht => by
    refine Ev.step (f := fun _ => some xs) (fun k => ?_) (Ev.now _)
    rw [h, if_neg (by omega)]
    congr 1
    rw [List.take_of_length_le (by omega), List.take_of_length_le (by omega)] at ht
    exact ht
  | d + 1, i, out, hd, hl, ht => by
    have hi : i < xs.length := by omega
    refine Ev.step (f := fun k => l k xs (out.set i xs[i]) ((i + 1 : Nat) : Int)) (fun k => ?_) (copy_loop l h xs hx d (i + 1) _ (by omega) (by simpa using hl) (set_take hi hl ht))
    rw [h, if_pos (by omega), if_pos (by omega), if_pos (by omega), w64 (by omega) (by omega), rd_lt hi]
    simp
/-- Two equal lists, number by number. -/
theorem same_loop (l : Nat → List Int → List Int → Int → Option Bool)
    (h : ∀ k xs ys i, l (k + 1) xs ys i = if i < (xs.length : Int) then (if 0 ≤ i then (if i < (ys.length : Int) then (if rd xs i = rd ys i then l k xs ys (wrap64 (i + 1)) else some false) else none) else none) else some true)
    (xs : List Int) (hx : xs.length ≤ 4611686018427387904) : ∀ (d i : Nat), i + d = xs.length → Ev (fun k => l k xs xs (i : Int)) true
  | 0, i, hd => by
    refine Ev.step (f := fun _ => some true) (fun k => ?_) (Ev.now _)
    rw [h, if_neg (by omega)]
  | d + 1, i, hd => by
    refine Ev.step (f := fun k => l k xs xs ((i + 1 : Nat) : Int)) (fun k => ?_) (same_loop l h xs hx d (i + 1) (by omega))
    rw [h, if_pos (by omega), if_pos (by omega), if_pos (by omega), if_pos rfl, w64 (by omega) (by omega)]
    simp

/-- A loop that goes on to its end. -/
theorem for_loop {σ ρ : Type} (l : Nat → σ → Int → Option ρ) (n : Nat) (s : Nat → σ) {r : ρ}
    (hstep : ∀ i, i < n → ∀ r, Ev (fun k => l k (s (i + 1)) ((i + 1 : Nat) : Int)) r → Ev (fun k => l k (s i) (i : Int)) r)
    (hend : Ev (fun k => l k (s n) (n : Int)) r) : ∀ (d i : Nat), i + d = n → Ev (fun k => l k (s i) (i : Int)) r
  | 0, i, h => by
    have e : i = n := by omega
    rw [e]; exact hend
  | d + 1, i, h => hstep i (by omega) r (for_loop l n s hstep hend d (i + 1) (by omega))
/-- What a copy has so far. -/
def sofar {α β : Type} (f : α → β) (z : β) (xs : List α) (i : Nat) : List β := (xs.take i).map f ++ List.replicate (xs.length - i) z
theorem sofar_length {α β : Type} (f : α → β) (z : β) (xs : List α) (i : Nat) (hi : i ≤ xs.length) : (sofar f z xs i).length = xs.length := by
  unfold sofar
  simp
  omega
theorem sofar_set {α β : Type} (f : α → β) (z : β) (xs : List α) (i : Nat) (hi : i < xs.length) : (sofar f z xs i).set i (f xs[i]) = sofar f z xs (i + 1) := by
  unfold sofar
  rw [List.set_append_right _ _ (by simp; omega), List.take_succ_eq_append_getElem hi, List.map_append, List.append_assoc]
  congr 1
  have e : i - (List.map f (List.take i xs)).length = 0 := by simp; omega
  rw [e, show xs.length - i = xs.length - (i + 1) + 1 by omega, List.replicate_succ, List.set_cons_zero]
  rfl
theorem sofar_zero {α β : Type} (f : α → β) (z : β) (xs : List α) : sofar f z xs 0 = List.replicate xs.length z := by
  unfold sofar
  simp
theorem sofar_all {α β : Type} (f : α → β) (z : β) (xs : List α) : sofar f z xs xs.length = xs.map f := by
  unfold sofar
  simp
theorem getD_lt {α : Type} {z : α} {xs : List α} {i : Nat} (h : i < xs.length) : xs.getD i z = xs[i] := by
  rw [List.getD_eq_getElem?_getD, List.getElem?_eq_getElem h]; rfl
theorem conv_loop {α β : Type} (f : α → β) (z : β) (l : Nat → List β → Int → Option (List β)) (xs : List α)
    (hstep : ∀ (i : Nat) (hi : i < xs.length) (out : List β) (r : List β), out.length = xs.length → Ev (fun k => l k (out.set i (f xs[i])) ((i + 1 : Nat) : Int)) r → Ev (fun k => l k out (i : Int)) r)
    (hend : ∀ out : List β, Ev (fun k => l k out (xs.length : Int)) out) : Ev (fun k => l k (List.replicate xs.length z) 0) (xs.map f) := by
  have h := for_loop (fun k o i => l k o i) xs.length (sofar f z xs) (r := xs.map f) (fun i hi r hr => hstep i hi _ r (sofar_length f z xs i (by omega)) (by rw [sofar_set f z xs i hi]; exact hr)) (by rw [sofar_all]; exact hend _) xs.length 0 (by omega)
  rw [sofar_zero] at h
  exact h
theorem all_loop {ρ : Type} (l : Nat → Int → Option ρ) (n : Nat) {r : ρ}
    (hstep : ∀ i, i < n → ∀ r, Ev (fun k => l k ((i + 1 : Nat) : Int)) r → Ev (fun k => l k (i : Int)) r)
    (hend : Ev (fun k => l k (n : Int)) r) : Ev (fun k => l k 0) r :=
  for_loop (fun k (_ : Unit) i => l k i) n (fun _ => ()) (fun i hi r hr => hstep i hi r hr) hend n 0 (by omega)
/-- The first fault of a list, or zero. -/
def firstBad {α : Type} (f : α → Int) : List α → Int
  | [] => 0
  | x :: t => if f x = 0 then firstBad f t else f x
theorem firstBad_append {α : Type} (f : α → Int) (xs ys : List α) : firstBad f (xs ++ ys) = if firstBad f xs = 0 then firstBad f ys else firstBad f xs := by
  induction xs with
  | nil => simp [firstBad]
  | cons x t ih =>
    by_cases h : f x = 0
    · have e : ∀ z, firstBad f (x :: z) = firstBad f z := fun z => by simp [firstBad, h]
      rw [List.cons_append, e, e, ih]
    · have e : ∀ z, firstBad f (x :: z) = f x := fun z => by simp [firstBad, h]
      rw [List.cons_append, e, e, if_neg h]
theorem first_loop {α : Type} (f : α → Int) (l : Nat → Int → Option Int) (xs : List α)
    (hgo : ∀ (i : Nat) (hi : i < xs.length), f xs[i] = 0 → ∀ r, Ev (fun k => l k ((i + 1 : Nat) : Int)) r → Ev (fun k => l k (i : Int)) r)
    (hstop : ∀ (i : Nat) (hi : i < xs.length), f xs[i] ≠ 0 → Ev (fun k => l k (i : Int)) (f xs[i]))
    (hend : Ev (fun k => l k (xs.length : Int)) 0) : ∀ (d i : Nat), i + d = xs.length → Ev (fun k => l k (i : Int)) (firstBad f (xs.drop i))
  | 0, i, h => by
    have e : i = xs.length := by omega
    rw [e, List.drop_length]; exact hend
  | d + 1, i, h => by
    have hi : i < xs.length := by omega
    rw [List.drop_eq_getElem_cons hi, firstBad]
    by_cases hf : f xs[i] = 0
    · rw [if_pos hf]
      exact hgo i hi hf _ (first_loop f l xs hgo hstop hend d (i + 1) (by omega))
    · rw [if_neg hf]
      exact hstop i hi hf
theorem first_loop0 {α : Type} (f : α → Int) (l : Nat → Int → Option Int) (xs : List α)
    (hgo : ∀ (i : Nat) (hi : i < xs.length), f xs[i] = 0 → ∀ r, Ev (fun k => l k ((i + 1 : Nat) : Int)) r → Ev (fun k => l k (i : Int)) r)
    (hstop : ∀ (i : Nat) (hi : i < xs.length), f xs[i] ≠ 0 → Ev (fun k => l k (i : Int)) (f xs[i]))
    (hend : Ev (fun k => l k (xs.length : Int)) 0) : Ev (fun k => l k 0) (firstBad f xs) := by
  have h := first_loop f l xs hgo hstop hend xs.length 0 (by omega)
  rwa [List.drop_zero] at h
/-- The bind of an Ev, told by the bound value. -/
theorem ev_then {α β : Type} {g : Nat → Option α} {f : Nat → α → Option β} {a : α} {r : β} (k : Ev (fun n => f n a) r) (h : Ev g a) : Ev (fun n => (g n).bind (f n)) r := Ev.bind h k

theorem toByteS_ev (xs : List Int) (hx : xs.length ≤ 1048576) : Ev (fun k => laws_toByteS.f k xs) xs := by
  refine Ev.congr (f := fun k => laws_toByteS.l0 k xs (List.replicate xs.length 0) 0) (fun k => ?_) ?_
  · unfold laws_toByteS.f
    rw [if_pos (by omega), if_pos (by omega)]
    simp
  · exact copy_loop _ (fun _ _ _ _ => rfl) xs (by omega) xs.length 0 _ (by omega) (by simp) rfl
theorem eqByteS_ev (xs : List Int) (hx : xs.length ≤ 1048576) : Ev (fun k => laws_eqByteS.f k xs xs) true := by
  refine Ev.congr (f := fun k => laws_eqByteS.l0 k xs xs 0) (fun k => ?_) (same_loop _ (fun _ _ _ _ => rfl) xs (by omega) xs.length 0 (by omega))
  unfold laws_eqByteS.f
  rw [if_pos rfl]

theorem in_spec (a b c : Int) : spec_l1In.f a b c = some (decide (b ≤ a ∧ a ≤ c)) := by
  unfold spec_l1In.f
  by_cases h : a ≥ b
  · rw [if_pos h]; congr 1; simp [h]
  · rw [if_neg h]; congr 1; simp; intro h'; omega
theorem in_impl : impl_in.f = spec_l1In.f := rfl

def evM (kd pr : Int) (b : List Int) : Int := if 1 ≤ kd ∧ kd ≤ 4 then (if 0 ≤ pr ∧ pr ≤ 2 then (if kd = 3 ∧ pr ≠ 0 then 3 else (if ((decide ((b.length : Int) > 0)) != (kd == 2)) = true then 1 else (if (b.length : Int) > 60 then 2 else 0))) else 3) else 1
def entM (x : S51) : Int := if 1 ≤ x.f0 ∧ x.f0 ≤ 1000 then evM x.f1.f0 x.f1.f1 x.f1.f2 else 3
theorem spec_event (k : Nat) (kd pr : Int) (b : List Int) : spec_EventFault.f (k + 1) kd pr b = some (evM kd pr b) := by
  unfold spec_EventFault.f evM spec_l7Peer.f
  simp only [in_spec, Option.bind_some, decide_eq_true_eq]
  by_cases h1 : 1 ≤ kd ∧ kd ≤ 4
  · rw [if_pos h1, if_pos h1]
    by_cases h2 : 0 ≤ pr ∧ pr ≤ 2
    · rw [if_pos h2, if_pos h2, spec_EventFault.j0, spec_EventFault.j0]
      by_cases h3 : kd = 3
      · rw [if_pos h3]
        by_cases h4 : pr = 0
        · rw [if_neg (show ¬ ((pr != 0) = true) by simp [h4]), if_neg (show ¬ (kd = 3 ∧ pr ≠ 0) from fun z => z.2 h4)]
          repeat' split
          all_goals rfl
        · rw [if_pos (show (pr != 0) = true by simp [h4]), if_pos (show kd = 3 ∧ pr ≠ 0 from ⟨h3, h4⟩)]
      · rw [if_neg h3, if_neg (show ¬ (false = true) by simp), if_neg (show ¬ (kd = 3 ∧ pr ≠ 0) from fun z => h3 z.1)]
        repeat' split
        all_goals rfl
    · rw [if_neg h2, if_neg h2, spec_EventFault.j0, if_pos rfl]
  · rw [if_neg h1, if_neg h1]
theorem event_same : ∀ k, impl_EventFault.f k = spec_EventFault.f k := by
  intro k
  have hj : ∀ x a b l, impl_EventFault.j0 k x a b l = spec_EventFault.j0 k x a b l := by
    intro x a b l
    cases k with
    | zero => rfl
    | succ k => rw [impl_EventFault.j0, spec_EventFault.j0, bne_comm]
  funext a b l
  simp only [impl_EventFault.f, spec_EventFault.f, hj, impl_isPeer.f, spec_l7Peer.f, in_impl]
theorem entry_same : ∀ k, impl_EntryFault.f k = spec_EntryFault.f k := by
  intro k
  funext a b c l
  simp only [impl_EntryFault.f, spec_EntryFault.f, event_same, impl_isEpoch.f, spec_l10Epoch.f, in_impl]
theorem spec_entry (k : Nat) (x : S51) : spec_EntryFault.f (k + 1) x.f0 x.f1.f0 x.f1.f1 x.f1.f2 = some (entM x) := by
  unfold spec_EntryFault.f spec_l10Epoch.f entM
  simp only [in_spec, Option.bind_some, decide_eq_true_eq, spec_event]
  split <;> rfl
def entAt (ep : Int) (xs : List S51) (i : Nat) : Int :=
  if entM (xs.getD i z51) = 0 then (if (xs.getD i z51).f0 > ep then 1 else (if i > 0 then (if (xs.getD i z51).f0 < (xs.getD (i - 1) z51).f0 then 1 else 0) else 0)) else entM (xs.getD i z51)
def firstIdx (f : Nat → Int) : Nat → Nat → Int
  | 0, _ => 0
  | d + 1, i => if f i = 0 then firstIdx f d (i + 1) else f i
theorem spec_log_round (k : Nat) (s0 : Int) (s1 : Bool) (s2 ep : Int) (xs : List S51) (s5 s6 s7 s8 : Int) (i : Nat) (hi : i < xs.length) (hx : xs.length ≤ 1048576) :
    spec_l12Log.l0 (k + 2) (i : Int) s0 s1 s2 ep xs s5 s6 s7 s8 = if entAt ep xs i = 0 then spec_l12Log.l0 (k + 1) ((i + 1 : Nat) : Int) s0 s1 s2 ep xs s5 s6 s7 s8 else some (entAt ep xs i, s0, s1, s2, ep, s5, s6, s7, s8) := by
  rw [show k + 2 = k + 1 + 1 from rfl, spec_l12Log.l0, if_pos (by omega), if_pos (by omega), w64 (x := (i : Int) + 1) (by omega) (by omega), w64 (x := (i : Int) - 1) (by omega) (by omega)]
  have e1 : ((i : Int) - 1).toNat = i - 1 := by omega
  simp only [rd_T51, Int.toNat_natCast, e1, spec_entry, Option.bind_some]
  unfold entAt
  by_cases h1 : entM (xs.getD i z51) = 0
  · rw [if_pos h1, if_pos h1]
    by_cases h2 : (xs.getD i z51).f0 > ep
    · rw [if_pos h2, if_pos h2, if_neg (by omega)]
    · rw [if_neg h2, if_neg h2]
      by_cases h3 : i > 0
      · rw [if_pos (show (i : Int) > 0 by omega), if_pos h3, if_pos (by omega), if_pos (by omega)]
        by_cases h4 : (xs.getD i z51).f0 < (xs.getD (i - 1) z51).f0
        · rw [if_pos h4, if_pos h4, if_neg (by omega)]
        · rw [if_neg h4, if_neg h4, if_pos rfl]; rfl
      · rw [if_neg (show ¬ (i : Int) > 0 by omega), if_neg h3, if_pos rfl]; rfl
  · rw [if_neg h1, if_neg h1, if_neg h1]
theorem spec_log_ev (s0 : Int) (s1 : Bool) (s2 ep : Int) (xs : List S51) (s5 s6 s7 s8 : Int) (hx : xs.length ≤ 1048576) : ∀ (d i : Nat), i + d = xs.length → Ev (fun k => spec_l12Log.l0 k (i : Int) s0 s1 s2 ep xs s5 s6 s7 s8) (firstIdx (entAt ep xs) d i, s0, s1, s2, ep, s5, s6, s7, s8)
  | 0, i, h => by
    refine Ev.step (f := fun _ => some (0, s0, s1, s2, ep, s5, s6, s7, s8)) (fun k => ?_) (Ev.now _)
    rw [spec_l12Log.l0, if_neg (by omega)]
  | d + 1, i, h => by
    have ih := spec_log_ev s0 s1 s2 ep xs s5 s6 s7 s8 hx d (i + 1) (by omega)
    obtain ⟨K, hK⟩ := ih
    refine ⟨K + 2, fun k hk => ?_⟩
    obtain ⟨j, rfl⟩ : ∃ j, k = j + 2 := ⟨k - 2, by omega⟩
    show spec_l12Log.l0 (j + 2) _ _ _ _ _ _ _ _ _ _ = _
    rw [spec_log_round j s0 s1 s2 ep xs s5 s6 s7 s8 i (by omega) hx, firstIdx]
    by_cases h1 : entAt ep xs i = 0
    · rw [if_pos h1, if_pos h1]; exact hK (j + 1) (by omega)
    · rw [if_neg h1, if_neg h1]
def formM (up : Bool) (role ep size sure mt ot co : Int) : Int :=
  if role = 1 then (if up = true then (if ep = 0 then 1 else (if mt = 0 then 0 else 1)) else 1) else (if ot = 0 then (if up = true then 0 else (if sure = size then (if mt = 0 then (if co = 0 then 0 else 1) else 1) else 1)) else 1)
def tailN (up : Bool) (role ep size sure mt ot co : Int) : Int :=
  if 0 ≤ sure ∧ sure ≤ size then (if 0 ≤ mt ∧ mt ≤ size then (if 0 ≤ ot ∧ ot ≤ size then (if 0 ≤ co ∧ co ≤ sure then formM up role ep size sure mt ot co else 3) else 3) else 3) else 3
def nodeM (id : Int) (up : Bool) (role ep : Int) (xs : List S51) (sure mt ot co : Int) : Int :=
  if (0 ≤ id ∧ id ≤ 1) ∧ (0 ≤ role ∧ role ≤ 1) ∧ (0 ≤ ep ∧ ep ≤ 1000) then (if (xs.length : Int) > 100 then 2 else (if firstIdx (entAt ep xs) xs.length 0 = 0 then tailN up role ep (xs.length : Int) sure mt ot co else firstIdx (entAt ep xs) xs.length 0)) else 3
theorem spec_node_j1 (size : Int) (x : Bool) (id : Int) (up : Bool) (role ep : Int) (xs : List S51) (sure mt ot co : Int) : Ev (fun k => (spec_l12Fault.j1 k size x id up role ep xs sure mt ot co).bind fun b => some b.1) (if x = true then 3 else formM up role ep size sure mt ot co) := by
  refine ev_from 1 (fun k => ?_)
  rw [spec_l12Fault.j1]
  unfold formM
  repeat' split
  all_goals simp_all
theorem spec_node_tail (id : Int) (up : Bool) (role ep : Int) (xs : List S51) (sure mt ot co : Int) (hx : xs.length ≤ 1048576) : Ev (fun k => (spec_l12Fault.j0 k false id up role ep xs sure mt ot co).bind fun b => some b.1) (if (xs.length : Int) > 100 then 2 else (if firstIdx (entAt ep xs) xs.length 0 = 0 then tailN up role ep (xs.length : Int) sure mt ot co else firstIdx (entAt ep xs) xs.length 0)) := by
  have hj := fun x => spec_node_j1 (xs.length : Int) x id up role ep xs sure mt ot co
  have hlog : Ev (fun k => spec_l12Log.f k id up role ep xs sure mt ot co) (if (xs.length : Int) > 100 then (2, id, up, role, ep, sure, mt, ot, co) else (firstIdx (entAt ep xs) xs.length 0, id, up, role, ep, sure, mt, ot, co)) := by
    unfold spec_l12Log.f
    exact ev_ite (fun _ => Ev.now _) (fun _ => spec_log_ev id up role ep xs sure mt ot co hx xs.length 0 (by omega))
  have step : ∀ r, Ev (fun k => ((spec_l12Log.f k id up role ep xs sure mt ot co).bind fun bt125 => (if bt125.1 = 0 then ((spec_l1In.f bt125.2.2.2.2.2.1 0 (xs.length : Int)).bind fun t134 => (if t134 = true then ((spec_l1In.f bt125.2.2.2.2.2.2.1 0 (xs.length : Int)).bind fun t135 => (if t135 = true then ((spec_l1In.f bt125.2.2.2.2.2.2.2.1 0 (xs.length : Int)).bind fun t136 => (if t136 = true then ((spec_l1In.f bt125.2.2.2.2.2.2.2.2 0 bt125.2.2.2.2.2.1).bind fun t137 => (spec_l12Fault.j1 k (xs.length : Int) (!t137) bt125.2.1 bt125.2.2.1 bt125.2.2.2.1 bt125.2.2.2.2.1 xs bt125.2.2.2.2.2.1 bt125.2.2.2.2.2.2.1 bt125.2.2.2.2.2.2.2.1 bt125.2.2.2.2.2.2.2.2)) else (spec_l12Fault.j1 k (xs.length : Int) true bt125.2.1 bt125.2.2.1 bt125.2.2.2.1 bt125.2.2.2.2.1 xs bt125.2.2.2.2.2.1 bt125.2.2.2.2.2.2.1 bt125.2.2.2.2.2.2.2.1 bt125.2.2.2.2.2.2.2.2))) else (spec_l12Fault.j1 k (xs.length : Int) true bt125.2.1 bt125.2.2.1 bt125.2.2.2.1 bt125.2.2.2.2.1 xs bt125.2.2.2.2.2.1 bt125.2.2.2.2.2.2.1 bt125.2.2.2.2.2.2.2.1 bt125.2.2.2.2.2.2.2.2))) else (spec_l12Fault.j1 k (xs.length : Int) true bt125.2.1 bt125.2.2.1 bt125.2.2.2.1 bt125.2.2.2.2.1 xs bt125.2.2.2.2.2.1 bt125.2.2.2.2.2.2.1 bt125.2.2.2.2.2.2.2.1 bt125.2.2.2.2.2.2.2.2))) else (some (bt125.1, bt125.2.1, bt125.2.2.1, bt125.2.2.2.1, bt125.2.2.2.2.1, bt125.2.2.2.2.2.1, bt125.2.2.2.2.2.2.1, bt125.2.2.2.2.2.2.2.1, bt125.2.2.2.2.2.2.2.2)))).bind fun b => some b.1) r → Ev (fun k => (spec_l12Fault.j0 k false id up role ep xs sure mt ot co).bind fun b => some b.1) r := by
    intro r hr
    refine Ev.step (fun k => ?_) hr
    rw [spec_l12Fault.j0, if_neg (by simp)]
  refine step _ ?_
  simp only [Option.bind_assoc]
  refine ev_bind hlog ?_
  by_cases hl : (xs.length : Int) > 100
  · rw [if_pos hl, if_pos hl]
    exact Ev.now _
  · rw [if_neg hl, if_neg hl]
    by_cases h0 : firstIdx (entAt ep xs) xs.length 0 = 0
    · rw [if_pos h0]
      simp only [h0, if_true, in_spec, Option.bind_some, decide_eq_true_eq]
      unfold tailN
      by_cases q1 : 0 ≤ sure ∧ sure ≤ (xs.length : Int)
      · simp only [q1, and_self, if_true]
        by_cases q2 : 0 ≤ mt ∧ mt ≤ (xs.length : Int)
        · simp only [q2, and_self, if_true]
          by_cases q3 : 0 ≤ ot ∧ ot ≤ (xs.length : Int)
          · simp only [q3, and_self, if_true]
            by_cases q4 : 0 ≤ co ∧ co ≤ sure
            · rw [if_pos q4]
              refine ev_eq (hj _) ?_
              simp [q4]
            · rw [if_neg q4]
              refine ev_eq (hj _) ?_
              rw [if_pos (by simp only [Bool.not_eq_true', decide_eq_false_iff_not]; exact q4)]
          · simp only [q3, if_false]; exact hj true
        · simp only [q2, if_false]; exact hj true
      · simp only [q1, if_false]; exact hj true
    · rw [if_neg h0]
      simp only [h0, if_false]
      exact Ev.now _

theorem impl_node_j3 (k : Nat) (size : Int) (x : Bool) (id : Int) (up : Bool) (role ep : Int) (xs : List S51) (sure mt ot co : Int) : impl_NodeFault.j3 (k + 1) size x id up role ep xs sure mt ot co = some (if x = true then 1 else (if up = true then 0 else (if sure = size then (if mt = 0 then (if co = 0 then 0 else 1) else 1) else 1))) := by
  rw [impl_NodeFault.j3]
  repeat' split
  all_goals rfl
theorem impl_node_j2 (k : Nat) (size : Int) (x : Bool) (id : Int) (up : Bool) (role ep : Int) (xs : List S51) (sure mt ot co : Int) : impl_NodeFault.j2 (k + 2) size (role == 1) x id up role ep xs sure mt ot co = some (if x = true then 3 else formM up role ep size sure mt ot co) := by
  rw [show k + 2 = k + 1 + 1 from rfl, impl_NodeFault.j2]
  simp only [impl_node_j3]
  unfold formM
  by_cases q1 : role = 1 <;> by_cases q2 : ot = 0 <;> by_cases q3 : ep = 0 <;> by_cases q4 : mt = 0 <;> cases x <;> cases up <;> simp [q1, q2, q3, q4]
theorem impl_log_round (k : Nat) (s0 : Int) (s1 : Bool) (s2 ep : Int) (xs : List S51) (s5 s6 s7 s8 : Int) (i : Nat) (hi : i < xs.length) (hx : xs.length ≤ 1048576) :
    impl_NodeFault.l0 (k + 2) xs (xs.length : Int) (i : Int) s0 s1 s2 ep xs s5 s6 s7 s8 = if entAt ep xs i = 0 then impl_NodeFault.l0 (k + 1) xs (xs.length : Int) ((i + 1 : Nat) : Int) s0 s1 s2 ep xs s5 s6 s7 s8 else some (entAt ep xs i) := by
  rw [show k + 2 = k + 1 + 1 from rfl, impl_NodeFault.l0, if_pos (by omega), if_pos (by omega), if_pos (by omega), w64 (x := (i : Int) + 1) (by omega) (by omega), w64 (x := (i : Int) - 1) (by omega) (by omega)]
  have e1 : ((i : Int) - 1).toNat = i - 1 := by omega
  simp only [entry_same, rd_T51, Int.toNat_natCast, e1, spec_entry, Option.bind_some]
  unfold entAt
  by_cases h1 : entM (xs.getD i z51) = 0
  · rw [if_pos h1, if_pos h1]
    by_cases h2 : (xs.getD i z51).f0 > ep
    · rw [if_pos h2, if_pos h2, if_neg (by omega)]
    · rw [if_neg h2, if_neg h2]
      by_cases h3 : i > 0
      · rw [if_pos (show (i : Int) > 0 by omega), if_pos h3, if_pos (by omega), if_pos (by omega)]
        by_cases h4 : (xs.getD i z51).f0 < (xs.getD (i - 1) z51).f0
        · rw [if_pos h4, if_pos h4, if_neg (by omega)]
        · rw [if_neg h4, if_neg h4, if_pos rfl]; rfl
      · rw [if_neg (show ¬ (i : Int) > 0 by omega), if_neg h3, if_pos rfl]; rfl
  · rw [if_neg h1, if_neg h1, if_neg h1]
theorem impl_log_ev (id : Int) (up : Bool) (role ep : Int) (xs : List S51) (sure mt ot co : Int) (hx : xs.length ≤ 1048576) : ∀ (d i : Nat), i + d = xs.length → Ev (fun k => impl_NodeFault.l0 k xs (xs.length : Int) (i : Int) id up role ep xs sure mt ot co) (if firstIdx (entAt ep xs) d i = 0 then tailN up role ep (xs.length : Int) sure mt ot co else firstIdx (entAt ep xs) d i)
  | 0, i, h => by
    rw [firstIdx, if_pos rfl]
    refine ev_from 3 (fun k => ?_)
    rw [show k + 3 = k + 2 + 1 from rfl, impl_NodeFault.l0, if_neg (by omega)]
    unfold impl_Entry.f tailN
    simp only [in_impl, in_spec, Option.bind_some, decide_eq_true_eq, impl_node_j2]
    by_cases q1 : 0 ≤ sure ∧ sure ≤ (xs.length : Int)
    · rw [if_pos q1, if_pos q1]
      by_cases q2 : 0 ≤ mt ∧ mt ≤ (xs.length : Int)
      · rw [if_pos q2, if_pos q2]
        by_cases q3 : 0 ≤ ot ∧ ot ≤ (xs.length : Int)
        · rw [if_pos q3, if_pos q3]
          by_cases q4 : 0 ≤ co ∧ co ≤ sure
          · rw [if_pos q4, if_neg (by simp [q4])]
          · rw [if_neg q4, if_pos (by simp only [Bool.not_eq_true', decide_eq_false_iff_not]; exact q4)]
        · rw [if_neg q3, if_neg q3]; rfl
      · rw [if_neg q2, if_neg q2]; rfl
    · rw [if_neg q1, if_neg q1]; rfl
  | d + 1, i, h => by
    have ih := impl_log_ev id up role ep xs sure mt ot co hx d (i + 1) (by omega)
    obtain ⟨K, hK⟩ := ih
    refine ⟨K + 2, fun k hk => ?_⟩
    obtain ⟨j, rfl⟩ : ∃ j, k = j + 2 := ⟨k - 2, by omega⟩
    show impl_NodeFault.l0 (j + 2) _ _ _ _ _ _ _ _ _ _ _ _ = _
    rw [impl_log_round j id up role ep xs sure mt ot co i (by omega) hx, firstIdx]
    by_cases h1 : entAt ep xs i = 0
    · rw [if_pos h1, if_pos h1]; exact hK (j + 1) (by omega)
    · rw [if_neg h1, if_neg h1, if_neg h1]
theorem impl_node_ev (id : Int) (up : Bool) (role ep : Int) (xs : List S51) (sure mt ot co : Int) (hx : xs.length ≤ 1048576) : Ev (fun k => impl_NodeFault.f k id up role ep xs sure mt ot co) (nodeM id up role ep xs sure mt ot co) := by
  have h3 : Ev (fun k => impl_NodeFault.j0 k true id up role ep xs sure mt ot co) 3 := by
    refine ev_from 1 (fun k => ?_)
    rw [impl_NodeFault.j0, if_pos rfl]
  have h0 : Ev (fun k => impl_NodeFault.j0 k false id up role ep xs sure mt ot co) (if (xs.length : Int) > 100 then 2 else (if firstIdx (entAt ep xs) xs.length 0 = 0 then tailN up role ep (xs.length : Int) sure mt ot co else firstIdx (entAt ep xs) xs.length 0)) := by
    refine Ev.step (fun k => by rw [impl_NodeFault.j0, if_neg (by simp)]) ?_
    exact ev_ite (fun _ => Ev.now _) (fun _ => impl_log_ev id up role ep xs sure mt ot co hx xs.length 0 (by omega))
  unfold impl_NodeFault.f impl_isNode.f nodeM
  simp only [in_impl, in_spec, Option.bind_some, decide_eq_true_eq]
  by_cases q1 : 0 ≤ id ∧ id ≤ 1
  · by_cases q2 : 0 ≤ role ∧ role ≤ 1
    · by_cases q3 : 0 ≤ ep ∧ ep ≤ 1000
      · rw [if_pos ⟨q1, q2, q3⟩]
        simpa [q1, q2, q3] using h0
      · rw [if_neg (fun z => q3 z.2.2)]
        have e : (!decide (0 ≤ ep ∧ ep ≤ 1000)) = true := by simp only [Bool.not_eq_true', decide_eq_false_iff_not]; exact q3
        simp only [q1, q2, e, and_self, if_true]
        exact h3
    · rw [if_neg (fun z => q2 z.2.1)]
      simp only [q1, q2, and_self, if_true, if_false]
      exact h3
  · rw [if_neg (fun z => q1 z.1)]
    simp only [q1, if_false]
    exact h3

theorem spec_node_j1F (size : Int) (x : Bool) (id : Int) (up : Bool) (role ep : Int) (xs : List S51) (sure mt ot co : Int) : Ev (fun k => spec_l12Fault.j1 k size x id up role ep xs sure mt ot co) ((if x = true then 3 else formM up role ep size sure mt ot co), id, up, role, ep, sure, mt, ot, co) := by
  refine ev_from 1 (fun k => ?_)
  rw [spec_l12Fault.j1]
  unfold formM
  repeat' split
  all_goals simp_all
theorem spec_node_tailF (id : Int) (up : Bool) (role ep : Int) (xs : List S51) (sure mt ot co : Int) (hx : xs.length ≤ 1048576) : Ev (fun k => spec_l12Fault.j0 k false id up role ep xs sure mt ot co) ((if (xs.length : Int) > 100 then 2 else (if firstIdx (entAt ep xs) xs.length 0 = 0 then tailN up role ep (xs.length : Int) sure mt ot co else firstIdx (entAt ep xs) xs.length 0)), id, up, role, ep, sure, mt, ot, co) := by
  have hj := fun x => spec_node_j1F (xs.length : Int) x id up role ep xs sure mt ot co
  have hlog : Ev (fun k => spec_l12Log.f k id up role ep xs sure mt ot co) (if (xs.length : Int) > 100 then (2, id, up, role, ep, sure, mt, ot, co) else (firstIdx (entAt ep xs) xs.length 0, id, up, role, ep, sure, mt, ot, co)) := by
    unfold spec_l12Log.f
    exact ev_ite (fun _ => Ev.now _) (fun _ => spec_log_ev id up role ep xs sure mt ot co hx xs.length 0 (by omega))
  refine Ev.step (fun k => by rw [spec_l12Fault.j0, if_neg (by simp)]) ?_
  refine ev_bind hlog ?_
  by_cases hl : (xs.length : Int) > 100
  · rw [if_pos hl, if_pos hl]
    exact Ev.now _
  · rw [if_neg hl, if_neg hl]
    by_cases h0 : firstIdx (entAt ep xs) xs.length 0 = 0
    · rw [if_pos h0]
      simp only [h0, if_true, in_spec, Option.bind_some, decide_eq_true_eq]
      unfold tailN
      by_cases q1 : 0 ≤ sure ∧ sure ≤ (xs.length : Int)
      · simp only [q1, and_self, if_true]
        by_cases q2 : 0 ≤ mt ∧ mt ≤ (xs.length : Int)
        · simp only [q2, and_self, if_true]
          by_cases q3 : 0 ≤ ot ∧ ot ≤ (xs.length : Int)
          · simp only [q3, and_self, if_true]
            by_cases q4 : 0 ≤ co ∧ co ≤ sure
            · rw [if_pos q4]
              refine ev_eq (hj _) ?_
              simp [q4]
            · rw [if_neg q4]
              refine ev_eq (hj _) ?_
              rw [if_pos (by simp only [Bool.not_eq_true', decide_eq_false_iff_not]; exact q4)]
          · simp only [q3, if_false]; exact hj true
        · simp only [q2, if_false]; exact hj true
      · simp only [q1, if_false]; exact hj true
    · rw [if_neg h0]
      simp only [h0, if_false]
      exact Ev.now _
theorem spec_fault_ev (id : Int) (up : Bool) (role ep : Int) (xs : List S51) (sure mt ot co : Int) (hx : xs.length ≤ 1048576) : Ev (fun k => spec_l12Fault.f k id up role ep xs sure mt ot co) (nodeM id up role ep xs sure mt ot co, id, up, role, ep, sure, mt, ot, co) := by
  have ht := spec_node_tailF id up role ep xs sure mt ot co hx
  have h3 : Ev (fun k => spec_l12Fault.j0 k true id up role ep xs sure mt ot co) (3, id, up, role, ep, sure, mt, ot, co) := by
    refine ev_from 1 (fun k => ?_)
    rw [spec_l12Fault.j0, if_pos rfl]
  unfold spec_l12Fault.f nodeM
  simp only [in_spec, Option.bind_some, decide_eq_true_eq]
  by_cases q1 : 0 ≤ id ∧ id ≤ 1
  · by_cases q2 : 0 ≤ role ∧ role ≤ 1
    · by_cases q3 : 0 ≤ ep ∧ ep ≤ 1000
      · rw [if_pos (show (0 ≤ id ∧ id ≤ 1) ∧ (0 ≤ role ∧ role ≤ 1) ∧ (0 ≤ ep ∧ ep ≤ 1000) from ⟨q1, q2, q3⟩)]
        simpa [q1, q2, q3] using ht
      · rw [if_neg (show ¬ ((0 ≤ id ∧ id ≤ 1) ∧ (0 ≤ role ∧ role ≤ 1) ∧ (0 ≤ ep ∧ ep ≤ 1000)) from fun z => q3 z.2.2)]
        have e : (!decide (0 ≤ ep ∧ ep ≤ 1000)) = true := by simp only [Bool.not_eq_true', decide_eq_false_iff_not]; exact q3
        simp only [q1, q2, e, and_self, if_true]
        exact h3
    · rw [if_neg (show ¬ ((0 ≤ id ∧ id ≤ 1) ∧ (0 ≤ role ∧ role ≤ 1) ∧ (0 ≤ ep ∧ ep ≤ 1000)) from fun z => q2 z.2.1)]
      simp only [q1, q2, and_self, if_true, if_false]
      exact h3
  · rw [if_neg (show ¬ ((0 ≤ id ∧ id ≤ 1) ∧ (0 ≤ role ∧ role ≤ 1) ∧ (0 ≤ ep ∧ ep ≤ 1000)) from fun z => q1 z.1)]
    simp only [q1, if_false]
    exact h3

def zeroM (e0 e1 e2 : Int) (l : List Int) : Bool := if e0 = 0 then (if e1 = 0 then (if e2 = 0 then ((l.length : Int) == 0) else false) else false) else false
def entR (ep pr : Int) (e : S51) : Int := if entM e = 0 then (if e.f0 > ep then 1 else (if e.f0 < pr then 1 else 0)) else entM e
def formB (kd ep at_ pr : Int) (has z : Bool) : Bool := if kd = 2 then (if has = true then false else (if pr = 0 then z else false)) else (if ((at_ == 0) == (pr == 0)) = true then (if has = true then decide (pr ≤ ep) else (if z = true then decide (pr ≤ ep) else false)) else false)
def mailR (kd ep at_ pr : Int) (has : Bool) (e : S51) : Int := if (1 ≤ ep ∧ ep ≤ 1000) ∧ (0 ≤ at_ ∧ at_ ≤ 100) ∧ (0 ≤ pr ∧ pr ≤ 1000) then (if formB kd ep at_ pr has (zeroM e.f0 e.f1.f0 e.f1.f1 e.f1.f2) = true then (if has = true then entR ep pr e else 0) else 1) else 3
def mailM (id kd rc ep at_ pr : Int) (has : Bool) (e : S51) : Int := if (1 ≤ kd ∧ kd ≤ 2) ∧ rc = id then mailR kd ep at_ pr has e else 1
theorem spec_zero (a b c : Int) (l : List Int) : spec_l12Zero.f a b c l = some (zeroM a b c l) := by
  unfold spec_l12Zero.f zeroM
  repeat' split
  all_goals rfl
theorem zero_same : impl_Entry_isZero.f = spec_l12Zero.f := rfl
theorem spec_form (kd rc ep at_ pr : Int) (has : Bool) (a b c : Int) (l : List Int) : spec_l12Form.f kd rc ep at_ pr has a b c l = some (formB kd ep at_ pr has (zeroM a b c l)) := by
  unfold spec_l12Form.f formB
  simp only [spec_zero, Option.bind_some]
  repeat' split
  all_goals rfl
theorem spec_mail_ev (id : Int) (up : Bool) (role nep : Int) (xs : List S51) (sure mt ot co kd rc ep at_ pr : Int) (has : Bool) (e0 e1 e2 : Int) (l : List Int) :
    Ev (fun k => (spec_l12Mail.f k id up role nep xs sure mt ot co kd rc ep at_ pr has e0 e1 e2 l).bind fun b => some b.1) (mailM id kd rc ep at_ pr has (⟨e0, (⟨e1, e2, l⟩ : S49)⟩ : S51)) := by
  refine ev_from 3 (fun k => ?_)
  have hj1 : ∀ x, (spec_l12Mail.j1 (k + 2) x id up role nep xs sure mt ot co kd rc ep at_ pr has e0 e1 e2 l).bind (fun b => some b.1) = some (if x = true then 3 else (if formB kd ep at_ pr has (zeroM e0 e1 e2 l) = true then (if has = true then entR ep pr (⟨e0, (⟨e1, e2, l⟩ : S49)⟩ : S51) else 0) else 1)) := by
    intro x
    rw [show k + 2 = k + 1 + 1 from rfl, spec_l12Mail.j1]
    have he := spec_entry k (⟨e0, (⟨e1, e2, l⟩ : S49)⟩ : S51)
    simp only [spec_form, Option.bind_some]
    unfold entR
    cases x
    · simp only [Bool.false_eq_true, if_false]
      cases formB kd ep at_ pr has (zeroM e0 e1 e2 l)
      · rfl
      · cases has
        · rfl
        · simp only [if_true]
          rw [he]
          simp only [Option.bind_some]
          by_cases h1 : entM (⟨e0, (⟨e1, e2, l⟩ : S49)⟩ : S51) = 0
          · simp only [h1, if_true]
            by_cases h2 : e0 > ep
            · simp [h2]
            · by_cases h3 : e0 < pr <;> simp [h2, h3]
          · simp [h1]
    · rfl
  have hj0 : ∀ x, (spec_l12Mail.j0 (k + 3) x id up role nep xs sure mt ot co kd rc ep at_ pr has e0 e1 e2 l).bind (fun b => some b.1) = some (if x = true then 1 else mailR kd ep at_ pr has (⟨e0, (⟨e1, e2, l⟩ : S49)⟩ : S51)) := by
    intro x
    rw [show k + 3 = k + 2 + 1 from rfl, spec_l12Mail.j0]
    cases x
    · unfold spec_l10Epoch.f mailR
      simp only [in_spec, Option.bind_some, decide_eq_true_eq, Bool.false_eq_true, if_false]
      by_cases q1 : 1 ≤ ep ∧ ep ≤ 1000
      · by_cases q2 : 0 ≤ at_ ∧ at_ ≤ 100
        · rw [if_pos q1, if_pos q2, hj1]
          by_cases q3 : 0 ≤ pr ∧ pr ≤ 1000
          · rw [if_neg (by simp [q3]), if_pos (show (1 ≤ ep ∧ ep ≤ 1000) ∧ (0 ≤ at_ ∧ at_ ≤ 100) ∧ (0 ≤ pr ∧ pr ≤ 1000) from ⟨q1, q2, q3⟩)]
          · rw [if_pos (by simp only [Bool.not_eq_true', decide_eq_false_iff_not]; exact q3), if_neg (show ¬ ((1 ≤ ep ∧ ep ≤ 1000) ∧ (0 ≤ at_ ∧ at_ ≤ 100) ∧ (0 ≤ pr ∧ pr ≤ 1000)) from fun z => q3 z.2.2)]
        · rw [if_pos q1, if_neg q2, hj1, if_pos rfl, if_neg (show ¬ ((1 ≤ ep ∧ ep ≤ 1000) ∧ (0 ≤ at_ ∧ at_ ≤ 100) ∧ (0 ≤ pr ∧ pr ≤ 1000)) from fun z => q2 z.2.1)]
      · rw [if_neg q1, hj1, if_pos rfl, if_neg (show ¬ ((1 ≤ ep ∧ ep ≤ 1000) ∧ (0 ≤ at_ ∧ at_ ≤ 100) ∧ (0 ≤ pr ∧ pr ≤ 1000)) from fun z => q1 z.1)]
    · rfl
  unfold spec_l12Mail.f mailM
  simp only [in_spec, Option.bind_some, decide_eq_true_eq]
  by_cases q1 : 1 ≤ kd ∧ kd ≤ 2
  · rw [if_pos q1, hj0]
    by_cases q2 : rc = id
    · rw [if_neg (by simp [q2]), if_pos (show (1 ≤ kd ∧ kd ≤ 2) ∧ rc = id from ⟨q1, q2⟩)]
    · rw [if_pos (by simp [q2]), if_neg (show ¬ ((1 ≤ kd ∧ kd ≤ 2) ∧ rc = id) from fun z => q2 z.2)]
  · rw [if_neg q1, hj0, if_pos rfl, if_neg (show ¬ ((1 ≤ kd ∧ kd ≤ 2) ∧ rc = id) from fun z => q1 z.1)]
theorem impl_mail_j0 (k : Nat) (x : Bool) (kd rc ep at_ pr : Int) (has : Bool) (e0 e1 e2 : Int) (l : List Int) (hk : kd = 1 ∨ kd = 2) :
    impl_MailFault.j0 (k + 6) x kd rc ep at_ pr has e0 e1 e2 l = some (if x = true then 1 else mailR kd ep at_ pr has (⟨e0, (⟨e1, e2, l⟩ : S49)⟩ : S51)) := by
  have he := spec_entry k (⟨e0, (⟨e1, e2, l⟩ : S49)⟩ : S51)
  have hj4 : ∀ x, impl_MailFault.j4 (k + 2) x kd rc ep at_ pr has e0 e1 e2 l = some (if x = true then 1 else (if has = true then entR ep pr (⟨e0, (⟨e1, e2, l⟩ : S49)⟩ : S51) else 0)) := by
    intro x
    rw [show k + 2 = k + 1 + 1 from rfl, impl_MailFault.j4]
    unfold entR
    cases x
    · cases has
      · rfl
      · simp only [Bool.false_eq_true, if_false, if_true]
        rw [entry_same, he]
        simp only [Option.bind_some]
        by_cases h1 : entM (⟨e0, (⟨e1, e2, l⟩ : S49)⟩ : S51) = 0
        · simp only [h1, if_true]
          by_cases h2 : e0 > ep
          · simp [h2]
          · by_cases h3 : e0 < pr <;> simp [h2, h3]
        · simp [h1]
    · rfl
  have hj3 : ∀ x, impl_MailFault.j3 (k + 3) x kd rc ep at_ pr has e0 e1 e2 l = some (if x = true then 1 else (if ((has || zeroM e0 e1 e2 l) && decide (pr ≤ ep)) = true then (if has = true then entR ep pr (⟨e0, (⟨e1, e2, l⟩ : S49)⟩ : S51) else 0) else 1)) := by
    intro x
    rw [show k + 3 = k + 2 + 1 from rfl, impl_MailFault.j3]
    simp only [zero_same, spec_zero, Option.bind_some, hj4]
    by_cases h1 : pr ≤ ep <;> cases x <;> cases has <;> cases zeroM e0 e1 e2 l <;> simp [h1] <;> omega
  have hj2 : ∀ x, impl_MailFault.j2 (k + 4) x kd rc ep at_ pr has e0 e1 e2 l = some (if x = true then 1 else (if (kd = 1 ∧ ((at_ == 0) != (pr == 0)) = true) then 1 else (if ((has || zeroM e0 e1 e2 l) && decide (pr ≤ ep)) = true then (if has = true then entR ep pr (⟨e0, (⟨e1, e2, l⟩ : S49)⟩ : S51) else 0) else 1))) := by
    intro x
    rw [show k + 4 = k + 3 + 1 from rfl, impl_MailFault.j2]
    simp only [hj3]
    cases x
    · by_cases h1 : kd = 1
      · cases h2 : ((at_ == 0) != (pr == 0)) <;> simp [h1]
      · simp [h1]
    · rfl
  have hj1 : ∀ x, (1 ≤ ep ∨ x = true) → impl_MailFault.j1 (k + 5) x kd rc ep at_ pr has e0 e1 e2 l = some (if x = true then 3 else (if formB kd ep at_ pr has (zeroM e0 e1 e2 l) = true then (if has = true then entR ep pr (⟨e0, (⟨e1, e2, l⟩ : S49)⟩ : S51) else 0) else 1)) := by
    intro x hx
    rw [show k + 5 = k + 4 + 1 from rfl, impl_MailFault.j1]
    simp only [hj2]
    unfold formB
    cases x
    · have h0 : 1 ≤ ep := hx.resolve_right (by simp)
      rcases hk with rfl | rfl
      · cases h2 : (at_ == 0) <;> cases h3 : (pr == 0) <;> cases has <;> cases zeroM e0 e1 e2 l <;> simp
      · by_cases h3 : pr = 0
        · cases has <;> cases zeroM e0 e1 e2 l <;> simp [h3, show (0 : Int) ≤ ep by omega]
        · cases has <;> simp [h3]
    · rfl
  rw [show k + 6 = k + 5 + 1 from rfl, impl_MailFault.j0]
  cases x
  · unfold impl_isEpoch.f mailR
    simp only [in_impl, in_spec, Option.bind_some, decide_eq_true_eq, Bool.false_eq_true, if_false]
    by_cases q1 : 1 ≤ ep ∧ ep ≤ 1000
    · by_cases q2 : 0 ≤ at_ ∧ at_ ≤ 100
      · rw [if_pos q1, if_pos q2, hj1 _ (.inl q1.1)]
        by_cases q3 : 0 ≤ pr ∧ pr ≤ 1000
        · rw [if_neg (by simp [q3]), if_pos (show (1 ≤ ep ∧ ep ≤ 1000) ∧ (0 ≤ at_ ∧ at_ ≤ 100) ∧ (0 ≤ pr ∧ pr ≤ 1000) from ⟨q1, q2, q3⟩)]
        · rw [if_pos (by simp only [Bool.not_eq_true', decide_eq_false_iff_not]; exact q3), if_neg (show ¬ ((1 ≤ ep ∧ ep ≤ 1000) ∧ (0 ≤ at_ ∧ at_ ≤ 100) ∧ (0 ≤ pr ∧ pr ≤ 1000)) from fun z => q3 z.2.2)]
      · rw [if_pos q1, if_neg q2, hj1 _ (.inr rfl), if_pos rfl, if_neg (show ¬ ((1 ≤ ep ∧ ep ≤ 1000) ∧ (0 ≤ at_ ∧ at_ ≤ 100) ∧ (0 ≤ pr ∧ pr ≤ 1000)) from fun z => q2 z.2.1)]
    · rw [if_neg q1, hj1 _ (.inr rfl), if_pos rfl, if_neg (show ¬ ((1 ≤ ep ∧ ep ≤ 1000) ∧ (0 ≤ at_ ∧ at_ ≤ 100) ∧ (0 ≤ pr ∧ pr ≤ 1000)) from fun z => q1 z.1)]
  · rfl
def mailF (id : Int) (up : Bool) (role nep : Int) (xs : List S51) (sure mt ot co kd rc ep at_ pr : Int) (has : Bool) (e : S51) : Int := if nodeM id up role nep xs sure mt ot co = 0 then mailM id kd rc ep at_ pr has e else nodeM id up role nep xs sure mt ot co
theorem spec_mailfault_ev (id : Int) (up : Bool) (role nep : Int) (xs : List S51) (sure mt ot co kd rc ep at_ pr : Int) (has : Bool) (e0 e1 e2 : Int) (l : List Int) (hx : xs.length ≤ 1048576) :
    Ev (fun k => spec_MailFault.f k id up role nep xs sure mt ot co kd rc ep at_ pr has e0 e1 e2 l) (mailF id up role nep xs sure mt ot co kd rc ep at_ pr has (⟨e0, (⟨e1, e2, l⟩ : S49)⟩ : S51)) := by
  unfold spec_MailFault.f mailF
  refine ev_bind (spec_fault_ev id up role nep xs sure mt ot co hx) ?_
  exact ev_ite (fun _ => spec_mail_ev id up role nep xs sure mt ot co kd rc ep at_ pr has e0 e1 e2 l) (fun _ => Ev.now _)
theorem impl_mailfault_ev (id : Int) (up : Bool) (role nep : Int) (xs : List S51) (sure mt ot co kd rc ep at_ pr : Int) (has : Bool) (e0 e1 e2 : Int) (l : List Int) (hx : xs.length ≤ 1048576) :
    Ev (fun k => impl_MailFault.f k id up role nep xs sure mt ot co kd rc ep at_ pr has e0 e1 e2 l) (mailF id up role nep xs sure mt ot co kd rc ep at_ pr has (⟨e0, (⟨e1, e2, l⟩ : S49)⟩ : S51)) := by
  unfold impl_MailFault.f mailF mailM
  refine ev_bind (impl_node_ev id up role nep xs sure mt ot co hx) ?_
  refine ev_ite (fun _ => ?_) (fun _ => Ev.now _)
  refine ev_from 6 (fun k => ?_)
  have h1 : ∀ k, impl_MailFault.j0 (k + 1) true kd rc ep at_ pr has e0 e1 e2 l = some 1 := fun k => by rw [impl_MailFault.j0, if_pos rfl]
  by_cases q1 : kd = 1
  · rw [if_pos q1, impl_mail_j0 k _ _ _ _ _ _ _ _ _ _ _ (.inl q1)]
    by_cases q3 : rc = id
    · rw [if_neg (by simp [q3]), if_pos (show (1 ≤ kd ∧ kd ≤ 2) ∧ rc = id from ⟨by omega, q3⟩)]
    · rw [if_pos (by simp [q3]), if_neg (show ¬ ((1 ≤ kd ∧ kd ≤ 2) ∧ rc = id) from fun z => q3 z.2)]
  · rw [if_neg q1]
    by_cases q2 : kd = 2
    · rw [if_pos q2, impl_mail_j0 k _ _ _ _ _ _ _ _ _ _ _ (.inr q2)]
      by_cases q3 : rc = id
      · rw [if_neg (by simp [q3]), if_pos (show (1 ≤ kd ∧ kd ≤ 2) ∧ rc = id from ⟨by omega, q3⟩)]
      · rw [if_pos (by simp [q3]), if_neg (show ¬ ((1 ≤ kd ∧ kd ≤ 2) ∧ rc = id) from fun z => q3 z.2)]
    · rw [if_neg q2, h1, if_neg (show ¬ ((1 ≤ kd ∧ kd ≤ 2) ∧ rc = id) from fun z => by omega)]

def cE (x : S44) : S51 := ⟨x.f0, ⟨x.f1.f0, x.f1.f1, x.f1.f2⟩⟩
def sumB (xs : List S44) : Nat := (xs.map (fun x => x.f1.f2.length)).sum
theorem sumB_cons (x : S44) (t : List S44) : sumB (x :: t) = x.f1.f2.length + sumB t := by simp [sumB]
theorem sumB_mem {xs : List S44} {x : S44} (h : x ∈ xs) : x.f1.f2.length ≤ sumB xs := by
  induction xs with
  | nil => cases h
  | cons y t ih =>
    rw [sumB_cons]
    cases h with
    | head => omega
    | tail _ h => have := ih h; omega
theorem szEntry_val (x : S44) (m : Int) (h0 : 0 ≤ m) (h1 : m ≤ 1048576) (hl : x.f1.f2.length ≤ 9223372036854775807) : laws_szEntry.f x.f0 x.f1.f0 x.f1.f1 x.f1.f2 m = some (if (x.f1.f2.length : Int) ≤ m then m - (x.f1.f2.length : Int) else -1) := by
  unfold laws_szEntry.f laws_szEvent.f laws_szByteS.f
  rw [w64 (by omega) (by omega)]
  by_cases h : (x.f1.f2.length : Int) ≤ m
  · rw [if_pos h, if_neg (by omega)]
    simp only [Option.bind_some]
    rw [if_neg (by omega)]
    simp only [Option.bind_some]
    rw [if_neg (by omega)]
  · rw [if_neg h, if_pos (by omega)]
    rfl
theorem szEntryS_loop (xs : List S44) (hx : xs.length ≤ 1048576) (hall : ∀ x ∈ xs, x.f1.f2.length ≤ 9223372036854775807) : ∀ (d i : Nat) (m : Int), i + d = xs.length → 0 ≤ m → m ≤ 1048576 → Ev (fun k => laws_szEntryS.l0 k xs m (i : Int)) (if (sumB (xs.drop i) : Int) ≤ m then m - (sumB (xs.drop i) : Int) else -1)
  | 0, i, m, h, h0, h1 => by
    rw [List.drop_of_length_le (by omega)]
    refine Ev.step (f := fun _ => some m) (fun k => ?_) (ev_eq (Ev.now _) (by simp [sumB, h0]))
    rw [laws_szEntryS.l0, if_neg (by omega)]
  | d + 1, i, m, h, h0, h1 => by
    have hi : i < xs.length := by omega
    have hv := szEntry_val xs[i] m h0 h1 (hall _ (List.getElem_mem hi))
    rw [List.drop_eq_getElem_cons hi, sumB_cons]
    by_cases hle : (xs[i].f1.f2.length : Int) ≤ m
    · rw [if_pos hle] at hv
      have ih := szEntryS_loop xs hx hall d (i + 1) (m - (xs[i].f1.f2.length : Int)) (by omega) (by omega) (by omega)
      refine ev_eq (Ev.step (fun k => ?_) ih) ?_
      · rw [laws_szEntryS.l0, if_pos (by omega), if_pos (by omega), w64 (by omega) (by omega)]
        simp only [rd_T44, Int.toNat_natCast, getD_lt hi]
        rw [hv]
        simp only [Option.bind_some]
        rw [if_neg (by omega)]
        rfl
      · by_cases q : (sumB (xs.drop (i + 1)) : Int) ≤ m - (xs[i].f1.f2.length : Int)
        · rw [if_pos q, if_pos (by omega)]; omega
        · rw [if_neg q, if_neg (by omega)]
    · rw [if_neg hle] at hv
      rw [if_neg (by omega)]
      refine Ev.step (f := fun _ => some (-1)) (fun k => ?_) (Ev.now _)
      rw [laws_szEntryS.l0, if_pos (by omega), if_pos (by omega)]
      simp only [rd_T44, Int.toNat_natCast, getD_lt hi]
      rw [hv]
      rfl
theorem toEntryS_ev (xs : List S44) (hx : xs.length ≤ 1048576) (hb : ∀ x ∈ xs, x.f1.f2.length ≤ 1048576) : Ev (fun k => laws_toEntryS.f k xs) (xs.map cE) := by
  refine Ev.congr (f := fun k => laws_toEntryS.l0 k xs (List.replicate xs.length z51) 0) (fun k => ?_) (conv_loop cE z51 (fun k o i => laws_toEntryS.l0 k xs o i) xs (fun i hi out r ho hr => ?_) (fun out => ?_))
  · unfold laws_toEntryS.f
    rw [if_pos (by omega), if_pos (by omega)]
    simp
  · have hbi := toByteS_ev xs[i].f1.f2 (hb _ (List.getElem_mem hi))
    refine Ev.step (f := fun k => (laws_toEntry.f k xs[i].f0 xs[i].f1.f0 xs[i].f1.f1 xs[i].f1.f2).bind fun bt171 => laws_toEntryS.l0 k xs (out.set i (⟨bt171.1, (⟨bt171.2.1, bt171.2.2.1, bt171.2.2.2⟩ : S49)⟩ : S51)) ((i + 1 : Nat) : Int)) (fun k => ?_) (ev_bind (a := (xs[i].f0, xs[i].f1.f0, xs[i].f1.f1, xs[i].f1.f2)) ?_ hr)
    · rw [laws_toEntryS.l0, if_pos (by omega), if_pos (by omega), w64 (by omega) (by omega)]
      simp only [rd_T44, Int.toNat_natCast, getD_lt hi, show (i : Int) < (out.length : Int) by omega, if_true]
      rfl
    · unfold laws_toEntry.f laws_toEvent.f
      exact ev_bind (ev_bind hbi (Ev.now _)) (Ev.now _)
  · refine Ev.step (f := fun _ => some out) (fun k => ?_) (Ev.now _)
    rw [laws_toEntryS.l0, if_neg (by omega)]
theorem eqEntryS_ev (xs : List S51) (hx : xs.length ≤ 1048576) (hb : ∀ x ∈ xs, x.f1.f2.length ≤ 1048576) : Ev (fun k => laws_eqEntryS.f k xs xs) true := by
  refine Ev.congr (f := fun k => laws_eqEntryS.l0 k xs xs 0) (fun k => ?_) (all_loop (fun k i => laws_eqEntryS.l0 k xs xs i) xs.length (fun i hi r hr => ?_) ?_)
  · unfold laws_eqEntryS.f
    rw [if_pos rfl]
  · refine Ev.step (f := fun k => (laws_eqEntry.f k xs[i].f0 xs[i].f1.f0 xs[i].f1.f1 xs[i].f1.f2 xs[i].f0 xs[i].f1.f0 xs[i].f1.f1 xs[i].f1.f2).bind fun t => if t = true then laws_eqEntryS.l0 k xs xs ((i + 1 : Nat) : Int) else some false) (fun k => ?_) (ev_bind (a := true) ?_ (ev_pos rfl hr))
    · rw [laws_eqEntryS.l0, if_pos (by omega), if_pos (by omega), if_pos (by omega), w64 (by omega) (by omega)]
      simp only [rd_T51, Int.toNat_natCast, getD_lt hi]
      rfl
    · unfold laws_eqEntry.f laws_eqEvent.f
      exact ev_pos rfl (ev_bind (ev_pos rfl (ev_pos rfl (ev_bind (eqByteS_ev _ (hb _ (List.getElem_mem hi))) (ev_pos rfl (Ev.now _))))) (ev_pos rfl (Ev.now _)))
  · refine Ev.step (f := fun _ => some true) (fun k => ?_) (Ev.now _)
    rw [laws_eqEntryS.l0, if_neg (by omega)]

theorem FnExactMailFault : ∀ (a0_0 : Int) (a0_1 : Bool) (a0_2 : Int) (a0_3 : Int) (a0_4 : List S44) (a0_5 : Int) (a0_6 : Int) (a0_7 : Int) (a0_8 : Int) (a1_0 : Int) (a1_1 : Int) (a1_2 : Int) (a1_3 : Int) (a1_4 : Int) (a1_5 : Bool) (a1_6_0 : Int) (a1_6_1_0 : Int) (a1_6_1_1 : Int) (a1_6_1_2 : List Int), (Lit.int .i64 a0_0).wf = true → (Lit.int .i64 a0_2).wf = true → (Lit.int .i64 a0_3).wf = true → (a0_4.length ≤ 9223372036854775807 ∧ ∀ x ∈ a0_4, ((Lit.int .i64 x.f0).wf = true ∧ ((Lit.int .i64 x.f1.f0).wf = true ∧ (Lit.int .i64 x.f1.f1).wf = true ∧ (x.f1.f2.length ≤ 9223372036854775807 ∧ ∀ y ∈ x.f1.f2, (Lit.int .u8 y).wf = true)))) → (Lit.int .i64 a0_5).wf = true → (Lit.int .i64 a0_6).wf = true → (Lit.int .i64 a0_7).wf = true → (Lit.int .i64 a0_8).wf = true → (Lit.int .i64 a1_0).wf = true → (Lit.int .i64 a1_1).wf = true → (Lit.int .i64 a1_2).wf = true → (Lit.int .i64 a1_3).wf = true → (Lit.int .i64 a1_4).wf = true → (Lit.int .i64 a1_6_0).wf = true → (Lit.int .i64 a1_6_1_0).wf = true → (Lit.int .i64 a1_6_1_1).wf = true → (a1_6_1_2.length ≤ 9223372036854775807 ∧ ∀ x ∈ a1_6_1_2, (Lit.int .u8 x).wf = true) → ∃ k, laws_FnExactMailFault.f k a0_0 a0_1 a0_2 a0_3 a0_4 a0_5 a0_6 a0_7 a0_8 a1_0 a1_1 a1_2 a1_3 a1_4 a1_5 a1_6_0 a1_6_1_0 a1_6_1_1 a1_6_1_2 = some true := by
  intro id up role ep xs sure mt ot co kd rc mep at_ pr has e0 e1 e2 l _ _ _ hxs _ _ _ _ _ _ _ _ _ _ _ _ hl2
  obtain ⟨hl, hall⟩ := hxs
  have hal : ∀ x ∈ xs, x.f1.f2.length ≤ 9223372036854775807 := fun x hx => (hall x hx).2.2.2.1
  by_cases hn : xs.length ≤ 1048576
  · have hsz : Ev (fun k => laws_szEntryS.f k xs 1048576) (if (sumB xs : Int) ≤ 1048576 - (xs.length : Int) then 1048576 - (xs.length : Int) - (sumB xs : Int) else -1) := by
      unfold laws_szEntryS.f
      rw [w64 (by omega) (by omega)]
      have h := szEntryS_loop xs hn hal xs.length 0 (1048576 - (xs.length : Int)) (by omega) (by omega) (by omega)
      rw [List.drop_zero] at h
      exact ev_neg (by omega) h
    refine Ev.rounds ?_
    unfold laws_FnExactMailFault.f laws_szNode.f
    by_cases hs : (sumB xs : Int) ≤ 1048576 - (xs.length : Int)
    · rw [if_pos hs] at hsz
      have hb : ∀ x ∈ xs, x.f1.f2.length ≤ 1048576 := fun x hx => by have := sumB_mem hx; omega
      have hb2 : ∀ x ∈ xs.map cE, x.f1.f2.length ≤ 1048576 := fun x hx => by
        obtain ⟨y, hy, rfl⟩ := List.mem_map.mp hx
        exact hb y hy
      have lx : (xs.map cE).length ≤ 1048576 := by simp; omega
      have hto : Ev (fun k => laws_toNode.f k id up role ep xs sure mt ot co) (id, up, role, ep, xs.map cE, sure, mt, ot, co) := by
        unfold laws_toNode.f
        exact ev_bind (toEntryS_ev xs hn hb) (Ev.now _)
      have hmv := szEntry_val (⟨e0, ⟨e1, e2, l⟩⟩ : S44) (1048576 - (xs.length : Int) - (sumB xs : Int)) (by omega) (by omega) hl2.1
      refine ev_bind (ev_bind hsz (ev_neg (by omega) (Ev.now _))) (ev_neg (by omega) ?_)
      by_cases hm : (l.length : Int) ≤ 1048576 - (xs.length : Int) - (sumB xs : Int)
      · have hmv2 : laws_szEntry.f e0 e1 e2 l (1048576 - (xs.length : Int) - (sumB xs : Int)) = some (1048576 - (xs.length : Int) - (sumB xs : Int) - (l.length : Int)) := by
          rw [if_pos hm] at hmv; exact hmv
        have hmail : laws_szMail.f kd rc mep at_ pr has e0 e1 e2 l (1048576 - (xs.length : Int) - (sumB xs : Int)) = some (1048576 - (xs.length : Int) - (sumB xs : Int) - (l.length : Int)) := by
          unfold laws_szMail.f
          rw [hmv2]
          simp only [Option.bind_some]
          rw [if_neg (by omega)]
        have hbl : l.length ≤ 1048576 := by omega
        have htm : Ev (fun k => laws_toMail.f k kd rc mep at_ pr has e0 e1 e2 l) (kd, rc, mep, at_, pr, has, e0, e1, e2, l) := by
          unfold laws_toMail.f laws_toEntry.f laws_toEvent.f
          exact ev_bind (ev_bind (ev_bind (toByteS_ev l hbl) (Ev.now _)) (Ev.now _)) (Ev.now _)
        refine ev_val hmail (ev_neg (by omega) ?_)
        refine ev_bind hto (ev_bind htm (ev_bind (spec_mailfault_ev id up role ep (xs.map cE) sure mt ot co kd rc mep at_ pr has e0 e1 e2 l lx) (ev_bind hto (ev_bind htm (ev_bind (impl_mailfault_ev id up role ep (xs.map cE) sure mt ot co kd rc mep at_ pr has e0 e1 e2 l lx) (ev_pos rfl (ev_bind hto (ev_bind (a := true) ?_ (ev_pos rfl (ev_bind htm (ev_bind (a := true) ?_ (ev_pos rfl (Ev.now _)))))))))))))
        · unfold laws_eqNode.f
          exact ev_pos rfl (ev_neg (by simp) (ev_pos rfl (ev_pos rfl (ev_bind (eqEntryS_ev _ lx hb2) (ev_pos rfl (ev_pos rfl (ev_pos rfl (ev_pos rfl (ev_pos rfl (Ev.now _))))))))))
        · unfold laws_eqMail.f laws_eqEntry.f laws_eqEvent.f
          exact ev_pos rfl (ev_pos rfl (ev_pos rfl (ev_pos rfl (ev_pos rfl (ev_neg (by simp) (ev_bind (ev_pos rfl (ev_bind (ev_pos rfl (ev_pos rfl (ev_bind (eqByteS_ev l hbl) (ev_pos rfl (Ev.now _))))) (ev_pos rfl (Ev.now _)))) (ev_pos rfl (Ev.now _))))))))
      · have hmail : laws_szMail.f kd rc mep at_ pr has e0 e1 e2 l (1048576 - (xs.length : Int) - (sumB xs : Int)) = some (-1) := by
          unfold laws_szMail.f
          rw [if_neg hm] at hmv
          have hmv2 : laws_szEntry.f e0 e1 e2 l (1048576 - (xs.length : Int) - (sumB xs : Int)) = some (-1) := hmv
          rw [hmv2]
          rfl
        exact ev_val hmail (ev_pos (by omega) (Ev.now _))
    · rw [if_neg hs] at hsz
      exact ev_bind (ev_bind hsz (ev_pos (by omega) (Ev.now _))) (ev_pos (by omega) (Ev.now _))
  · refine ⟨0, ?_⟩
    unfold laws_FnExactMailFault.f laws_szNode.f laws_szEntryS.f
    rw [w64 (by omega) (by omega), if_pos (show (1048576 : Int) - (xs.length : Int) < 0 by omega)]
    rfl

end Go.Proofs.Ytgfoifkkffffgaa.Pure
