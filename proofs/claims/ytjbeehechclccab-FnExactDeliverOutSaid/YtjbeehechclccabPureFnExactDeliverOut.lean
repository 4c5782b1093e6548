/- FnExactDeliverOut: what the printed functions compute answers as the statement says: for every input the law is true. No condition beside the arguments being of their kinds. -/
import Derived.Test.YtjbeehechclccabPFnExactDeliverOutx8
import Derived.OpenShut
namespace Go.Proofs.Ytjbeehechclccab.Pure
open Go.RowKit Go.Proofs.YtjbeehechclccabW.PrintWords Go.Proofs.YtjbeehechclccabW.PrintLast Go.Proofs.YtjbeehechclccabW.PrintMore Go.Proofs.Ytjbeehechclccab.PFnExactDeliverOut
set_option linter.unusedVariables false
set_option linter.unusedSimpArgs false

/-! ### plain words -/
theorem w64 {x : Int} (h0 : -9223372036854775808 ≤ x) (h1 : x ≤ 9223372036854775807) : wrap64 x = x := by unfold wrap64; omega
theorem ev_some {α : Type} {g : Nat → Option α} {r : α} (h : ∀ k, g k = some r) : Ev g r := ⟨0, fun k _ => h k⟩
theorem ev_bind {α β : Type} {g : Nat → Option α} {f : Nat → α → Option β} {a : α} {r : β} (h : Ev g a) (k : Ev (fun n => f n a) r) : Ev (fun n => (g n).bind (f n)) r := Ev.bind h k
theorem ev_val {α β : Type} {o : Option α} {a : α} (h : o = some a) {f : Nat → α → Option β} {r : β} (k : Ev (fun n => f n a) r) : Ev (fun n => o.bind (f n)) r := by
  subst h
  exact k
theorem ev_pos {α : Type} {c : Prop} [Decidable c] {a b : Nat → Option α} {r : α} (hc : c) (h : Ev a r) : Ev (fun k => if c then a k else b k) r := Ev.congr (fun _ => if_pos hc) h
theorem ev_neg {α : Type} {c : Prop} [Decidable c] {a b : Nat → Option α} {r : α} (hc : ¬ c) (h : Ev b r) : Ev (fun k => if c then a k else b k) r := Ev.congr (fun _ => if_neg hc) h
theorem ev_ite {α : Type} {c : Prop} [Decidable c] {a b : Nat → Option α} {x y : α} (h1 : c → Ev a x) (h2 : ¬ c → Ev b y) : Ev (fun k => if c then a k else b k) (if c then x else y) := by
  by_cases h : c
  · rw [if_pos h]
    exact ev_pos h (h1 h)
  · rw [if_neg h]
    exact ev_neg h (h2 h)
theorem ev_eq {α : Type} {g : Nat → Option α} {r r' : α} (h : Ev g r) (e : r = r') : Ev g r' := e ▸ h
theorem ev_uniq {α : Type} {g : Nat → Option α} {r r' : α} (h : Ev g r) (h' : Ev g r') : r = r' := by
  obtain ⟨K, hK⟩ := h
  obtain ⟨K', hK'⟩ := h'
  have h1 := hK (max K K') (Nat.le_max_left _ _)
  have h2 := hK' (max K K') (Nat.le_max_right _ _)
  exact Option.some.inj (h1.symm.trans h2)
/-- So many rounds are enough. -/
theorem ev_from {α : Type} {g : Nat → Option α} {r : α} (n : Nat) (h : ∀ k, g (k + n) = some r) : Ev g r :=
  ⟨n, fun k hk => by have := h (k - n); rwa [Nat.sub_add_cancel hk] at this⟩
theorem rd_nat (xs : List Int) (i : Nat) : rd xs (i : Int) = xs.getD i 0 := by simp [rd]
theorem rd_lt {xs : List Int} {i : Nat} (h : i < xs.length) : rd xs (i : Int) = xs[i] := by
  rw [rd_nat, List.getD_eq_getElem?_getD, List.getElem?_eq_getElem h]; rfl
theorem set_take {xs out : List Int} {i : Nat} (hi : i < xs.length) (hl : out.length = xs.length) (ht : out.take i = xs.take i) : (out.set i xs[i]).take (i + 1) = xs.take (i + 1) := by
  rw [List.take_succ_eq_append_getElem (by simp; omega), List.take_succ_eq_append_getElem hi]
  rw [List.take_set_of_le (Nat.le_refl i), ht]
  simp
/-- A copy, number by number. -/
theorem copy_loop (l : Nat → List Int → List Int → Int → Option (List Int))
    (h : ∀ k xs out i, l (k + 1) xs out i = if i < (xs.length : Int) then (if 0 ≤ i then (if i < (out.length : Int) then l k xs (out.set (i : Int).toNat (rd xs i)) (wrap64 (i + 1)) else none) else none) else some out)
    (xs : List Int) (hx : xs.length ≤ 4611686018427387904) : ∀ (d i : Nat) (out : List Int), i + d = xs.length → out.length = xs.length → out.take i = xs.take i → Ev (fun k => l k xs out (i : Int)) xs
  | 0, i, out, hd, hl, ht => by
    refine Ev.step (f := fun _ => some xs) (fun k => ?_) (Ev.now _)
    rw [h, if_neg (by omega)]
    congr 1
    rw [List.take_of_length_le (by omega), List.take_of_length_le (by omega)] at ht
    exact ht
  | d + 1, i, out, hd, hl, ht => by
    have hi : i < xs.length := by omega
    refine Ev.step (f := fun k => l k xs (out.set i xs[i]) ((i + 1 : Nat) : Int)) (fun k => ?_) (copy_loop l h xs hx d (i + 1) _ (by omega) (by simpa using hl) (set_take hi hl ht))
    rw [h, if_pos (by omega), if_pos (by omega), if_pos (by omega), w64 (by omega) (by omega), rd_lt hi]
    simp
/-- Two equal lists, number by number. -/
theorem same_loop (l : Nat → List Int → List Int → Int → Option Bool)
    (h : ∀ k xs ys i, l (k + 1) xs ys i = if i < (xs.length : Int) then (if 0 ≤ i then (if i < (ys.length : Int) then (if rd xs i = rd ys i then l k xs ys (wrap64 (i + 1)) else some false) else none) else none) else some true)
    (xs : List Int) (hx : xs.length ≤ 4611686018427387904) : ∀ (d i : Nat), i + d = xs.length → Ev (fun k => l k xs xs (i : Int)) true
  | 0, i, hd => by
    refine Ev.step (f := fun _ => some true) (fun k => ?_) (Ev.now _)
    rw [h, if_neg (by omega)]
  | d + 1, i, hd => by
    refine Ev.step (f := fun k => l k xs xs ((i + 1 : Nat) : Int)) (fun k => ?_) (same_loop l h xs hx d (i + 1) (by omega))
    rw [h, if_pos (by omega), if_pos (by omega), if_pos (by omega), if_pos rfl, w64 (by omega) (by omega)]
    simp

theorem toByteS_ev (xs : List Int) (hx : xs.length ≤ 1048576) : Ev (fun k => laws_toByteS.f k xs) xs := by
  refine Ev.congr (f := fun k => laws_toByteS.l0 k xs (List.replicate xs.length 0) 0) (fun k => ?_) ?_
  · unfold laws_toByteS.f
    rw [if_pos (by omega), if_pos (by omega)]
    simp
  · exact copy_loop _ (fun _ _ _ _ => rfl) xs (by omega) xs.length 0 _ (by omega) (by simp) rfl
theorem eqByteS_ev (xs : List Int) (hx : xs.length ≤ 1048576) : Ev (fun k => laws_eqByteS.f k xs xs) true := by
  refine Ev.congr (f := fun k => laws_eqByteS.l0 k xs xs 0) (fun k => ?_) (same_loop _ (fun _ _ _ _ => rfl) xs (by omega) xs.length 0 (by omega))
  unfold laws_eqByteS.f
  rw [if_pos rfl]

/-- What marks leave: from m on, one more each. -/
def marked (f : Int → Int) (m : Int) (n : Nat) : List Int := (List.range n).map (fun j : Nat => f (m + (j : Int)))
theorem marked_length (f : Int → Int) (m : Int) (n : Nat) : (marked f m n).length = n := by simp [marked]
theorem marked_get {f : Int → Int} {m : Int} {n i : Nat} (h : i < (marked f m n).length) : (marked f m n)[i] = f (m + (i : Int)) := by simp [marked]
theorem mark_loop (f : Int → Int) (l : Nat → List Int → Int → Int → Option (Int × List Int))
    (h : ∀ k xs m i, l (k + 1) xs m i = if i < (xs.length : Int) then (if 0 ≤ i then (l k (xs.set (i : Int).toNat (f m)) (wrap64 (m + 1)) (wrap64 (i + 1))) else none) else some (m, xs))
    (n : Nat) (hn : n ≤ 2305843009213693952) (m0 : Int) (h0 : 0 ≤ m0) (h1 : m0 ≤ 2305843009213693952) :
    ∀ (d i : Nat) (xs : List Int), i + d = n → xs.length = n → xs.take i = (marked f m0 n).take i → Ev (fun k => l k xs (m0 + (i : Int)) (i : Int)) (m0 + (n : Int), marked f m0 n)
  | 0, i, xs, hd, hl, ht => by
    refine Ev.step (f := fun _ => some (m0 + (n : Int), marked f m0 n)) (fun k => ?_) (Ev.now _)
    rw [h, if_neg (by omega)]
    have hm := marked_length f m0 n
    rw [List.take_of_length_le (by omega), List.take_of_length_le (by omega)] at ht
    rw [ht, show i = n by omega]
  | d + 1, i, xs, hd, hl, ht => by
    have hm := marked_length f m0 n
    have hi : i < (marked f m0 n).length := by omega
    refine Ev.step (f := fun k => l k (xs.set i (marked f m0 n)[i]) (m0 + ((i + 1 : Nat) : Int)) ((i + 1 : Nat) : Int)) (fun k => ?_)
      (mark_loop f l h n hn m0 h0 h1 d (i + 1) _ (by omega) (by simpa using hl) (set_take hi (by omega) ht))
    rw [h, if_pos (by omega), if_pos (by omega), w64 (by omega) (by omega), w64 (by omega) (by omega), marked_get hi]
    simp [Int.add_assoc]
theorem held_loop (f : Int → Int) (l : Nat → List Int → Int → Int → Option Int)
    (h : ∀ k xs m i, l (k + 1) xs m i = if i < (xs.length : Int) then (if 0 ≤ i then (if rd xs i = f m then (l k xs (wrap64 (m + 1)) (wrap64 (i + 1))) else some (-1)) else none) else some m)
    (n : Nat) (hn : n ≤ 2305843009213693952) (m0 : Int) (h0 : 0 ≤ m0) (h1 : m0 ≤ 2305843009213693952) :
    ∀ (d i : Nat), i + d = n → Ev (fun k => l k (marked f m0 n) (m0 + (i : Int)) (i : Int)) (m0 + (n : Int))
  | 0, i, hd => by
    refine Ev.step (f := fun _ => some (m0 + (n : Int))) (fun k => ?_) (Ev.now _)
    have hm := marked_length f m0 n
    rw [h, if_neg (by omega), show i = n by omega]
  | d + 1, i, hd => by
    have hm := marked_length f m0 n
    have hi : i < (marked f m0 n).length := by omega
    refine Ev.step (f := fun k => l k (marked f m0 n) (m0 + ((i + 1 : Nat) : Int)) ((i + 1 : Nat) : Int)) (fun k => ?_) (held_loop f l h n hn m0 h0 h1 d (i + 1) (by omega))
    rw [h, if_pos (by omega), if_pos (by omega), rd_lt hi, marked_get hi, if_pos rfl, w64 (by omega) (by omega), w64 (by omega) (by omega)]
    simp [Int.add_assoc]

theorem markByteS_ev (xs : List Int) (hx : xs.length ≤ 1048576) (m : Int) (h0 : 0 ≤ m) (h1 : m ≤ 1152921504606846976) : Ev (fun k => laws_markByteS.f k xs m) (m + (xs.length : Int), marked (· % 256) m xs.length) := by
  have := mark_loop (· % 256) laws_markByteS.l0 (fun _ _ _ _ => rfl) xs.length (by omega) m h0 (by omega) xs.length 0 xs (by omega) rfl rfl
  unfold laws_markByteS.f
  simpa using this
theorem heldByteS_ev (n : Nat) (hx : n ≤ 1048576) (m : Int) (h0 : 0 ≤ m) (h1 : m ≤ 1152921504606846976) : Ev (fun k => laws_heldByteS.f k (marked (· % 256) m n) m) (m + (n : Int)) := by
  have := held_loop (· % 256) laws_heldByteS.l0 (fun _ _ _ _ => rfl) n (by omega) m h0 (by omega) n 0 (by omega)
  unfold laws_heldByteS.f
  simpa using this

theorem in_spec (a b c : Int) : spec_l1In.f a b c = some (decide (b ≤ a ∧ a ≤ c)) := by
  unfold spec_l1In.f
  by_cases h : a ≥ b
  · rw [if_pos h]; congr 1; simp [h]
  · rw [if_neg h]; congr 1; simp; intro h'; omega
theorem in_impl : impl_in.f = spec_l1In.f := rfl

theorem wireFault_same : ∀ k, impl_WireFault.f k = spec_WireFault.f k := by
  intro k
  have hj : impl_WireFault.j0 k = spec_WireFault.j0 k := by
    cases k with
    | zero => rfl
    | succ k => funext b e s t g; simp only [impl_WireFault.j0, spec_WireFault.j0, impl_size_byte.f, in_impl, Option.bind_some]
  funext e s t g
  simp only [impl_WireFault.f, spec_WireFault.f, hj, in_impl]
/-- What is not right of a wire. -/
def wireM (e : Int) (s : List Int) (t : Int) (g : List Int) : Int :=
  if 0 ≤ e ∧ e ≤ 1000 then (if s.length > 2000 ∨ g.length > 2000 then 2 else (if 0 ≤ t ∧ t ≤ (s.length : Int) then 0 else 3)) else 3
theorem wire_ev (e : Int) (s : List Int) (t : Int) (g : List Int) : Ev (fun k => spec_WireFault.f k e s t g) (wireM e s t g) := by
  refine ev_from 1 (fun k => ?_)
  simp only [spec_WireFault.f, spec_WireFault.j0, in_spec, Option.bind_some, decide_eq_true_eq, wireM]
  by_cases h1 : 0 ≤ e ∧ e ≤ 1000
  · rw [if_pos h1, if_pos h1]
    by_cases h2 : s.length > 2000
    · rw [if_pos (show (s.length : Int) > 2000 by omega), if_pos (show s.length > 2000 ∨ g.length > 2000 from Or.inl h2)]
      all_goals simp
    · rw [if_neg (show ¬ (s.length : Int) > 2000 by omega)]
      by_cases h3 : g.length > 2000
      · rw [if_pos (show (g.length : Int) > 2000 by omega), if_pos (show s.length > 2000 ∨ g.length > 2000 from Or.inr h3)]
        all_goals simp
      · rw [if_neg (show ¬ (g.length : Int) > 2000 by omega), if_neg (show ¬ (s.length > 2000 ∨ g.length > 2000) by omega)]
        split <;> rfl
  · rw [if_neg h1, if_neg h1]

theorem clone_bytes (l : List Int) (h : l.length ≤ 1048576) : slices_Clone_byte_byte.f l = some l := by
  unfold slices_Clone_byte_byte.f
  simp only [Option.bind_some, List.length_nil, List.nil_append]
  rw [if_pos (by omega)]

/-- What a wire and an epoch have that is not right. -/
def askedM (e : Int) (s : List Int) (t : Int) (g : List Int) (ep : Int) : Int :=
  if wireM e s t g = 0 then (if 1 ≤ ep ∧ ep ≤ 1000 then (if ep < e then 9 else 0) else 3) else wireM e s t g
theorem asked_spec_ev (e : Int) (s : List Int) (t : Int) (g : List Int) (ep : Int) : Ev (fun k => spec_l11Asked.f k e s t g ep) (askedM e s t g ep) := by
  unfold spec_l11Asked.f spec_l10Epoch.f askedM
  refine ev_bind (wire_ev e s t g) ?_
  simp only [in_spec, Option.bind_some, decide_eq_true_eq]
  exact ev_ite (fun _ => ev_ite (fun _ => ev_ite (fun _ => Ev.now _) (fun _ => Ev.now _)) (fun _ => Ev.now _)) (fun _ => Ev.now _)
theorem asked_impl_ev (e : Int) (s : List Int) (t : Int) (g : List Int) (ep : Int) : Ev (fun k => impl_epochFault.f k e s t g ep) (askedM e s t g ep) := by
  unfold impl_epochFault.f impl_isEpoch.f askedM
  simp only [wireFault_same]
  refine ev_bind (wire_ev e s t g) ?_
  simp only [in_impl, in_spec, Option.bind_some, decide_eq_true_eq]
  exact ev_ite (fun _ => ev_ite (fun _ => ev_ite (fun _ => Ev.now _) (fun _ => Ev.now _)) (fun _ => Ev.now _)) (fun _ => Ev.now _)
theorem wireM_zero {e : Int} {s : List Int} {t : Int} {g : List Int} (h : wireM e s t g = 0) : (0 ≤ e ∧ e ≤ 1000) ∧ s.length ≤ 2000 ∧ g.length ≤ 2000 ∧ (0 ≤ t ∧ t ≤ (s.length : Int)) := by
  unfold wireM at h
  split at h
  · split at h
    · omega
    · split at h
      · exact ⟨by assumption, by omega, by omega, by assumption⟩
      · omega
  · omega
theorem askedM_zero {e : Int} {s : List Int} {t : Int} {g : List Int} {ep : Int} (h : askedM e s t g ep = 0) : wireM e s t g = 0 ∧ (1 ≤ ep ∧ ep ≤ 1000) ∧ e ≤ ep := by
  unfold askedM at h
  split at h
  · split at h
    · split at h
      · omega
      · exact ⟨by assumption, by assumption, by omega⟩
    · omega
  · exact absurd h (by assumption)
theorem copy_wire (e : Int) (s : List Int) (t : Int) (g : List Int) (hs : s.length ≤ 1048576) (hg : g.length ≤ 1048576) : spec_l11Copy.f e s t g = some (e, s, t, g) := by
  unfold spec_l11Copy.f
  simp only [Option.bind_some, List.length_nil, List.nil_append]
  rw [if_pos (by omega), if_pos (by omega)]
theorem result_wire (e : Int) (s : List Int) (t : Int) (g : List Int) (hs : s.length ≤ 1048576) (hg : g.length ≤ 1048576) : impl_Wire_result.f e s t g = some (0, [], e, s, t, g) := by
  unfold impl_Wire_result.f
  rw [clone_bytes s hs, clone_bytes g hg]
  rfl
def badW (c : Int) : Int × List Int × Int × List Int × Int × List Int := (c, [], 0, [], 0, [])

abbrev WR := Int × List Int × Int × List Int × Int × List Int
def smallW (r : WR) : Prop := r.2.1.length ≤ 8192 ∧ r.2.2.2.1.length ≤ 8192 ∧ r.2.2.2.2.2.length ≤ 8192
theorem eqWire_ev (e : Int) (s : List Int) (t : Int) (g : List Int) (hs : s.length ≤ 1048576) (hg : g.length ≤ 1048576) : Ev (fun k => laws_eqWire.f k e s t g e s t g) true := by
  unfold laws_eqWire.f
  exact ev_pos rfl (ev_bind (eqByteS_ev s hs) (ev_pos rfl (ev_pos rfl (ev_bind (eqByteS_ev g hg) (ev_pos rfl (Ev.now _))))))
theorem eqWireResult_ev (r : WR) (h : smallW r) : Ev (fun k => laws_eqWireResult.f k r.1 r.2.1 r.2.2.1 r.2.2.2.1 r.2.2.2.2.1 r.2.2.2.2.2 r.1 r.2.1 r.2.2.1 r.2.2.2.1 r.2.2.2.2.1 r.2.2.2.2.2) true := by
  obtain ⟨h1, h2, h3⟩ := h
  unfold laws_eqWireResult.f
  exact ev_pos rfl (ev_bind (eqByteS_ev _ (by omega)) (ev_pos rfl (ev_bind (eqWire_ev _ _ _ _ (by omega) (by omega)) (ev_pos rfl (Ev.now _)))))
theorem markWire_ev (e : Int) (s : List Int) (t : Int) (g : List Int) (hs : s.length ≤ 1048576) (hg : g.length ≤ 1048576) (m : Int) (h0 : 0 ≤ m) (h1 : m ≤ 1000000000) :
    Ev (fun k => laws_markWire.f k e s t g m) (m + (s.length : Int) + (g.length : Int), marked (· % 256) m s.length, marked (· % 256) (m + (s.length : Int)) g.length) := by
  unfold laws_markWire.f
  exact ev_bind (markByteS_ev s hs m h0 (by omega)) (ev_bind (markByteS_ev g hg (m + (s.length : Int)) (by omega) (by omega)) (Ev.now _))
theorem markWireResult_ev (r : WR) (h : smallW r) :
    Ev (fun k => laws_markWireResult.f k r.1 r.2.1 r.2.2.1 r.2.2.2.1 r.2.2.2.2.1 r.2.2.2.2.2 1)
      (1 + (r.2.1.length : Int) + (r.2.2.2.1.length : Int) + (r.2.2.2.2.2.length : Int), marked (· % 256) 1 r.2.1.length, marked (· % 256) (1 + (r.2.1.length : Int)) r.2.2.2.1.length, marked (· % 256) (1 + (r.2.1.length : Int) + (r.2.2.2.1.length : Int)) r.2.2.2.2.2.length) := by
  obtain ⟨h1, h2, h3⟩ := h
  unfold laws_markWireResult.f
  exact ev_bind (markByteS_ev _ (by omega) 1 (by omega) (by omega)) (ev_bind (markWire_ev _ _ _ _ (by omega) (by omega) _ (by omega) (by omega)) (Ev.now _))
theorem heldWireResult_ev (r : WR) (h : smallW r) :
    Ev (fun k => laws_heldWireResult.f k r.1 (marked (· % 256) 1 r.2.1.length) r.2.2.1 (marked (· % 256) (1 + (r.2.1.length : Int)) r.2.2.2.1.length) r.2.2.2.2.1 (marked (· % 256) (1 + (r.2.1.length : Int) + (r.2.2.2.1.length : Int)) r.2.2.2.2.2.length) 1)
      (1 + (r.2.1.length : Int) + (r.2.2.2.1.length : Int) + (r.2.2.2.2.2.length : Int)) := by
  obtain ⟨h1, h2, h3⟩ := h
  unfold laws_heldWireResult.f laws_heldWire.f
  refine ev_bind (heldByteS_ev _ (by omega) 1 (by omega) (by omega)) (ev_neg (by omega) (ev_bind (ev_bind (heldByteS_ev _ (by omega) _ (by omega) (by omega)) (ev_neg (by omega) (ev_bind (heldByteS_ev _ (by omega) _ (by omega) (by omega)) (ev_neg (by omega) (Ev.now _))))) (ev_neg (by omega) (Ev.now _))))
theorem toWire_ev (e : Int) (s : List Int) (t : Int) (g : List Int) (hs : s.length ≤ 1048576) (hg : g.length ≤ 1048576) : Ev (fun k => laws_toWire.f k e s t g) (e, s, t, g) := by
  unfold laws_toWire.f
  exact ev_bind (toByteS_ev s hs) (ev_bind (toByteS_ev g hg) (Ev.now _))
theorem szWire_yes (e : Int) (s : List Int) (t : Int) (g : List Int) (hz : s.length + g.length ≤ 1048576) : laws_szWire.f e s t g 1048576 = some (1048576 - (s.length : Int) - (g.length : Int)) := by
  unfold laws_szWire.f laws_szByteS.f
  rw [w64 (by omega) (by omega), if_neg (by omega)]
  simp only [Option.bind_some]
  rw [if_neg (by omega), w64 (by omega) (by omega), if_neg (by omega)]
  simp only [Option.bind_some]
  rw [if_neg (by omega)]
theorem szWire_no (e : Int) (s : List Int) (t : Int) (g : List Int) (hs : s.length ≤ 9223372036854775807) (hg : g.length ≤ 9223372036854775807) (hz : ¬ s.length + g.length ≤ 1048576) : laws_szWire.f e s t g 1048576 = some (-1) := by
  unfold laws_szWire.f laws_szByteS.f
  rw [w64 (by omega) (by omega)]
  by_cases h1 : (1048576 : Int) - (s.length : Int) < 0
  · rw [if_pos h1]; rfl
  · rw [if_neg h1]
    simp only [Option.bind_some]
    rw [if_neg h1, w64 (by omega) (by omega), if_pos (show (1048576 : Int) - (s.length : Int) - (g.length : Int) < 0 by omega)]
    rfl

theorem grow_bytes (n : Int) (h0 : 0 ≤ n) (h1 : n ≤ 4194304) : slices_Grow_byte_byte.f n = some [] := by
  unfold slices_Grow_byte_byte.f
  rw [if_neg (by omega), w64 (by omega) (by omega)]
  by_cases h : n > 0
  · rw [if_pos h, if_pos h0, if_pos (by simp only [List.length_nil]; omega)]
    simp only [Option.bind_some]
    rw [if_pos (by omega)]
    simp
  · rw [if_neg h]
theorem concat_bytes_ev (a b : List Int) (ha : a.length ≤ 1048576) (hb : b.length ≤ 1048576) : Ev (fun k => slices_Concat_byte_byte.f k [a, b]) (a ++ b) := by
  refine ev_from 6 (fun k => ?_)
  have r0 : rd_L1 [a, b] 0 = a := rfl
  have r1 : rd_L1 [a, b] 1 = b := rfl
  have e0 : wrap64 (0 + (a.length : Int)) = (a.length : Int) := by rw [w64 (by omega) (by omega)]; omega
  have e1 : wrap64 ((a.length : Int) + (b.length : Int)) = (a.length : Int) + (b.length : Int) := by rw [w64 (by omega) (by omega)]
  have w1 : wrap64 ((0 : Int) + 1) = 1 := by rw [w64 (by omega) (by omega)]; rfl
  have w2 : wrap64 ((1 : Int) + 1) = 2 := by rw [w64 (by omega) (by omega)]; rfl
  have L : (([a, b] : List (List Int)).length : Int) = 2 := rfl
  unfold slices_Concat_byte_byte.f
  rw [L, show k + 6 = k + 5 + 1 from rfl, slices_Concat_byte_byte.l0, L, r0, if_pos (by omega), if_pos (by omega), if_pos (by omega), e0, if_neg (by omega), w1]
  rw [show k + 5 = k + 4 + 1 from rfl, slices_Concat_byte_byte.l0, L, r1, if_pos (by omega), if_pos (by omega), if_pos (by omega), e1, if_neg (by omega), w2]
  rw [show k + 4 = k + 3 + 1 from rfl, slices_Concat_byte_byte.l0, if_neg (by omega), grow_bytes _ (by omega) (by omega)]
  simp only [Option.bind_some]
  rw [L, show k + 3 = k + 2 + 1 from rfl, slices_Concat_byte_byte.l1, L, r0, if_pos (by omega), if_pos (by omega), if_pos (by omega), if_pos (by simp only [List.length_nil]; omega), w1]
  rw [show k + 2 = k + 1 + 1 from rfl, slices_Concat_byte_byte.l1, L, r1, if_pos (by omega), if_pos (by omega), if_pos (by omega), if_pos (by simp only [List.length_append, List.length_nil]; omega), w2]
  rw [slices_Concat_byte_byte.l1, if_neg (by omega)]
  simp

theorem mn_min (a b : Int) : mn a b = min a b := by unfold mn; split <;> omega
theorem equal_loop (xs ys : List Int) (hl : xs.length = ys.length) (hx : xs.length ≤ 1048576) : ∀ (c i : Nat), i + c = xs.length → Ev (fun k => slices_Equal_byte_byte.l0 k xs ys (xs.length : Int) (i : Int)) (decide (xs.drop i = ys.drop i))
  | 0, i, h => by
    refine Ev.step (f := fun _ => some true) (fun k => ?_) (ev_eq (Ev.now _) ?_)
    · rw [slices_Equal_byte_byte.l0, if_neg (by omega)]
    · rw [List.drop_of_length_le (by omega), List.drop_of_length_le (by omega)]; simp
  | c + 1, i, h => by
    have hi : i < xs.length := by omega
    have hj : i < ys.length := by omega
    rw [List.drop_eq_getElem_cons hi, List.drop_eq_getElem_cons hj]
    by_cases he : xs[i] = ys[i]
    · refine Ev.step (f := fun k => slices_Equal_byte_byte.l0 k xs ys (xs.length : Int) ((i + 1 : Nat) : Int)) (fun k => ?_) (ev_eq (equal_loop xs ys hl hx c (i + 1) (by omega)) (decide_eq_decide.mpr ⟨fun z => by rw [he, z], fun z => (List.cons.inj z).2⟩))
      rw [slices_Equal_byte_byte.l0, if_pos (by omega), if_pos (by omega), if_pos (by omega), if_pos (by omega), w64 (by omega) (by omega), rd_lt hi, rd_lt hj, if_pos he]
      rfl
    · refine Ev.step (f := fun k => some false) (fun k => ?_) (ev_eq (Ev.now _) (decide_eq_false (fun z => he (List.cons.inj z).1)).symm)
      rw [slices_Equal_byte_byte.l0, if_pos (by omega), if_pos (by omega), if_pos (by omega), if_pos (by omega), rd_lt hi, rd_lt hj, if_neg he]
theorem equal_ev (xs ys : List Int) (hl : xs.length = ys.length) (hx : xs.length ≤ 1048576) : Ev (fun k => slices_Equal_byte_byte.f k xs ys) (decide (xs = ys)) := by
  unfold slices_Equal_byte_byte.f
  refine ev_pos (by omega) ?_
  have h := equal_loop xs ys hl hx xs.length 0 (by omega)
  simpa using h
def delM (e : Int) (s : List Int) (t : Int) (g d : List Int) (n b : Nat) : WR := if d.take b = (g.take (n + b)).drop n then (0, [], e, s, t, g ++ d.drop b) else badW 7
def deliverM (e : Int) (s : List Int) (t : Int) (g : List Int) (ep pl : Int) (d : List Int) : WR :=
  if askedM e s t g ep = 0 then (if 0 ≤ pl ∧ pl ≤ (g.length : Int) then (if pl + (d.length : Int) > 2000 then badW 2 else delM e s t g d pl.toNat (min d.length (g.length - pl.toNat))) else badW 3) else badW (askedM e s t g ep)
theorem deliver_small (e : Int) (s : List Int) (t : Int) (g : List Int) (ep pl : Int) (d : List Int) : smallW (deliverM e s t g ep pl d) := by
  have hb : ∀ c, smallW (badW c) := fun c => ⟨by simp [badW], by simp [badW], by simp [badW]⟩
  unfold deliverM
  split
  · obtain ⟨hw, _, _⟩ := askedM_zero (by assumption)
    obtain ⟨_, hs, hg, _⟩ := wireM_zero hw
    split
    · split
      · exact hb _
      · unfold delM
        split
        · exact ⟨by simp, by simp; omega, by simp; omega⟩
        · exact hb _
    · exact hb _
  · exact hb _
theorem deliver2 (e : Int) (s : List Int) (t : Int) (g : List Int) (n : Nat) (d : List Int) (a0 : Int) (a1 : List Int) (a2 : Int) (hn : n ≤ 2000) (hd : d.length ≤ 2000) : ∀ (c i : Nat) (out : List Int), i + c = d.length → out.length + c ≤ 1000000 → (c = 0 ∨ g.length ≤ n + i) → Ev (fun k => spec_DeliverOut.l0 k (n : Int) d (i : Int) a0 a1 a2 g e s t out) (0, [], e, s, t, out ++ d.drop i)
  | 0, i, out, h, ho, hc => by
    refine Ev.step (f := fun _ => some (0, [], e, s, t, out)) (fun k => ?_) (ev_eq (Ev.now _) ?_)
    · rw [spec_DeliverOut.l0, if_neg (by omega)]
    · rw [List.drop_of_length_le (by omega)]; simp
  | c + 1, i, out, h, ho, hc => by
    have hi : i < d.length := by omega
    refine Ev.step (f := fun k => spec_DeliverOut.l0 k (n : Int) d ((i + 1 : Nat) : Int) a0 a1 a2 g e s t (out ++ [d[i]])) (fun k => ?_) (ev_eq (deliver2 e s t g n d a0 a1 a2 hn hd c (i + 1) (out ++ [d[i]]) (by omega) (by simp; omega) (by omega)) ?_)
    · rw [spec_DeliverOut.l0, if_pos (by omega), w64 (x := (n : Int) + (i : Int)) (by omega) (by omega), if_neg (by omega), if_pos (by omega), if_pos (by omega), w64 (by omega) (by omega), rd_lt hi]
      rfl
    · rw [List.append_assoc, List.drop_eq_getElem_cons hi]; rfl
set_option maxHeartbeats 2000000 in
theorem deliver1 (e : Int) (s : List Int) (t : Int) (g : List Int) (n b : Nat) (d xs ys : List Int) (hg : g.length ≤ 2000) (hd : d.length ≤ 2000) (hb1 : b ≤ d.length) (hb2 : n + b ≤ g.length) (hb3 : b = d.length ∨ n + b = g.length)
    (hxl : xs.length = b) (hyl : ys.length = b) (hxi : ∀ i : Nat, i < b → rd d (i : Int) = rd xs (i : Int)) (hyi : ∀ i : Nat, i < b → rd g ((n + i : Nat) : Int) = rd ys (i : Int)) :
    ∀ (c i : Nat), i + c = b → Ev (fun k => spec_DeliverOut.l0 k (n : Int) d (i : Int) e s t g e s t g) (if xs.drop i = ys.drop i then (0, [], e, s, t, g ++ d.drop b) else badW 7)
  | 0, i, h => by
    have e1 : xs.drop i = ys.drop i := by
      rw [List.drop_of_length_le (by omega), List.drop_of_length_le (by omega)]
    rw [if_pos e1, show b = i by omega]
    exact deliver2 e s t g n d e s t (by omega) hd (d.length - i) i g (by omega) (by omega) (by omega)
  | c + 1, i, h => by
    have ih := deliver1 e s t g n b d xs ys hg hd hb1 hb2 hb3 hxl hyl hxi hyi c (i + 1) (by omega)
    have hx : i < xs.length := by omega
    have hy : i < ys.length := by omega
    have wn : wrap64 ((n : Int) + (i : Int)) = ((n + i : Nat) : Int) := by rw [w64 (by omega) (by omega)]; rfl
    have e1 := hxi i (by omega)
    have e2 := hyi i (by omega)
    rw [rd_lt hx] at e1
    rw [rd_lt hy] at e2
    rw [List.drop_eq_getElem_cons hx, List.drop_eq_getElem_cons hy]
    by_cases he : ys[i] = xs[i]
    · have fin : (if xs.drop (i + 1) = ys.drop (i + 1) then ((0, [], e, s, t, g ++ d.drop b) : WR) else badW 7) = (if xs[i] :: xs.drop (i + 1) = ys[i] :: ys.drop (i + 1) then (0, [], e, s, t, g ++ d.drop b) else badW 7) := by
        by_cases z : xs.drop (i + 1) = ys.drop (i + 1)
        · rw [if_pos z, if_pos (by rw [he, z])]
        · rw [if_neg z, if_neg (fun q => z (List.cons.inj q).2)]
      rw [← fin]
      refine Ev.step (fun k => ?_) ih
      rw [spec_DeliverOut.l0, if_pos (by omega), wn, if_pos (by omega), if_pos (by omega), if_pos (by omega), e1, e2, if_pos he, w64 (by omega) (by omega)]
      rfl
    · rw [if_neg (fun q => he (List.cons.inj q).1.symm)]
      refine Ev.step (f := fun k => some (badW 7)) (fun k => ?_) (Ev.now _)
      rw [spec_DeliverOut.l0, if_pos (by omega), wn, if_pos (by omega), if_pos (by omega), if_pos (by omega), e1, e2, if_neg he]
      rfl
theorem rd_take (d : List Int) (b i : Nat) (h : i < b) : rd d (i : Int) = rd (d.take b) (i : Int) := by
  rw [rd_nat, rd_nat, List.getD_eq_getElem?_getD, List.getD_eq_getElem?_getD, List.getElem?_take_of_lt h]
theorem rd_take_drop (g : List Int) (n b i : Nat) (h : i < b) : rd g ((n + i : Nat) : Int) = rd ((g.take (n + b)).drop n) (i : Int) := by
  rw [rd_nat, rd_nat, List.getD_eq_getElem?_getD, List.getD_eq_getElem?_getD, List.getElem?_drop, List.getElem?_take_of_lt (by omega)]
theorem deliver_spec_ev (e : Int) (s : List Int) (t : Int) (g : List Int) (ep pl : Int) (d : List Int) (hs : s.length ≤ 1048576) (hg : g.length ≤ 1048576) (hd : d.length ≤ 1048576) : Ev (fun k => spec_DeliverOut.f k e s t g ep pl d) (deliverM e s t g ep pl d) := by
  unfold spec_DeliverOut.f deliverM
  refine ev_bind (asked_spec_ev e s t g ep) ?_
  rw [copy_wire e s t g hs hg]
  simp only [in_spec, Option.bind_some, decide_eq_true_eq]
  refine ev_ite (fun h => ?_) (fun _ => Ev.now _)
  obtain ⟨hw, _, _⟩ := askedM_zero h
  obtain ⟨_, hs2, hg2, _⟩ := wireM_zero hw
  refine ev_ite (fun h1 => ?_) (fun _ => Ev.now _)
  rw [w64 (by omega) (by omega)]
  refine ev_ite (fun _ => Ev.now _) (fun h2 => ?_)
  obtain ⟨n, rfl⟩ : ∃ n : Nat, pl = n := ⟨pl.toNat, by omega⟩
  have key := deliver1 e s t g n (min d.length (g.length - n)) d (d.take (min d.length (g.length - n))) ((g.take (n + min d.length (g.length - n))).drop n) hg2 (by omega) (by omega) (by omega) (by omega) (by simp only [List.length_take]; omega) (by simp only [List.length_drop, List.length_take]; omega) (fun i hi => rd_take d _ i hi) (fun i hi => rd_take_drop g n _ i hi) (min d.length (g.length - n)) 0 (by omega)
  unfold delM
  simpa using key
theorem deliver_impl_ev (e : Int) (s : List Int) (t : Int) (g : List Int) (ep pl : Int) (d : List Int) (hs : s.length ≤ 1048576) (hg : g.length ≤ 1048576) (hd : d.length ≤ 1048576) : Ev (fun k => impl_DeliverOut.f k e s t g ep pl d) (deliverM e s t g ep pl d) := by
  unfold impl_DeliverOut.f deliverM
  refine ev_bind (asked_impl_ev e s t g ep) ?_
  simp only [impl_size_byte.f, in_impl, in_spec, Option.bind_some, decide_eq_true_eq]
  refine ev_ite (fun h => ?_) (fun _ => Ev.now _)
  obtain ⟨hw, _, _⟩ := askedM_zero h
  obtain ⟨_, hs2, hg2, _⟩ := wireM_zero hw
  refine ev_ite (fun h1 => ?_) (fun _ => Ev.now _)
  obtain ⟨n, rfl⟩ : ∃ n : Nat, pl = n := ⟨pl.toNat, by omega⟩
  rw [w64 (x := (n : Int) + (d.length : Int)) (by omega) (by omega)]
  refine ev_ite (fun _ => Ev.now _) (fun h2 => ?_)
  have eb : mn (d.length : Int) (wrap64 ((g.length : Int) - (n : Int))) = ((min d.length (g.length - n) : Nat) : Int) := by
    rw [w64 (by omega) (by omega), mn_min]; omega
  rw [eb]
  have hb1 : min d.length (g.length - n) ≤ d.length := Nat.min_le_left _ _
  have hb2 : n + min d.length (g.length - n) ≤ g.length := by omega
  rw [show ((n : Int)).toNat = n from rfl]
  generalize min d.length (g.length - n) = b at *
  rw [w64 (x := (n : Int) + (b : Int)) (by omega) (by omega), show ((n : Int) + (b : Int)).toNat = n + b by omega, show ((b : Int)).toNat = b from rfl]
  refine ev_pos (by omega) (ev_pos (by omega) (ev_pos (by omega) (ev_pos (by omega) (ev_pos (by omega) ?_))))
  refine ev_bind (equal_ev _ _ (by simp only [List.length_drop, List.length_take]; omega) (by simp only [List.length_take]; omega)) ?_
  unfold delM
  simp only [decide_eq_true_eq]
  refine ev_ite (fun _ => ?_) (fun _ => Ev.now _)
  refine ev_bind (concat_bytes_ev g (d.drop b) hg (by simp only [List.length_drop]; omega)) ?_
  rw [result_wire e s t (g ++ d.drop b) hs (by simp only [List.length_append, List.length_drop]; omega)]
  exact Ev.now _
theorem FnExactDeliverOut : ∀ (a0_0 : Int) (a0_1 : List Int) (a0_2 : Int) (a0_3 : List Int) (a1 : Int) (a2 : Int) (a3 : List Int), (Lit.int .i64 a0_0).wf = true → (a0_1.length ≤ 9223372036854775807 ∧ ∀ x ∈ a0_1, (Lit.int .u8 x).wf = true) → (Lit.int .i64 a0_2).wf = true → (a0_3.length ≤ 9223372036854775807 ∧ ∀ x ∈ a0_3, (Lit.int .u8 x).wf = true) → (Lit.int .i64 a1).wf = true → (Lit.int .i64 a2).wf = true → (a3.length ≤ 9223372036854775807 ∧ ∀ x ∈ a3, (Lit.int .u8 x).wf = true) → ∃ k, laws_FnExactDeliverOut.f k a0_0 a0_1 a0_2 a0_3 a1 a2 a3 = some true := by
  intro e s t g ep pl d _ hs _ hg _ _ hd
  obtain ⟨hs, _⟩ := hs
  obtain ⟨hg, _⟩ := hg
  obtain ⟨hd, _⟩ := hd
  by_cases h1 : d.length > 1048576
  · refine ⟨0, ?_⟩
    unfold laws_FnExactDeliverOut.f
    rw [if_pos (by omega)]
  by_cases hz : s.length + g.length ≤ 1048576
  · refine Ev.rounds ?_
    have hs' : s.length ≤ 1048576 := by omega
    have hg' : g.length ≤ 1048576 := by omega
    have hd' : d.length ≤ 1048576 := by omega
    have hto := toWire_ev e s t g hs' hg'
    have hof := toByteS_ev d hd'
    have hS := deliver_spec_ev e s t g ep pl d hs' hg' hd'
    have hI := deliver_impl_ev e s t g ep pl d hs' hg' hd'
    have hsm := deliver_small e s t g ep pl d
    have hE := eqWireResult_ev _ hsm
    have hM := markWireResult_ev _ hsm
    have hH := heldWireResult_ev _ hsm
    unfold laws_FnExactDeliverOut.f
    refine ev_neg (by omega) (ev_val (szWire_yes e s t g hz) (ev_neg (by omega) ?_))
    refine ev_bind hto (ev_bind hof (ev_bind hS (ev_bind hto (ev_bind hof (ev_bind hI (ev_bind hE (ev_pos rfl ?_)))))))
    refine ev_bind hto (ev_bind (eqWire_ev e s t g hs' hg') (ev_pos rfl (ev_bind hof (ev_bind (eqByteS_ev d hd') (ev_pos rfl ?_)))))
    refine ev_bind (markWire_ev e s t g hs' hg' 1 (by omega) (by omega)) (ev_bind (markByteS_ev d hd' (1 + (s.length : Int) + (g.length : Int)) (by omega) (by omega)) (ev_neg (show ¬ (1 + (s.length : Int) + (g.length : Int) + (d.length : Int) < 0) by omega) ?_))
    refine ev_bind hE (ev_pos rfl (ev_bind hM (ev_bind hH (ev_neg (by omega) (ev_pos rfl ?_)))))
    exact ev_bind hto (ev_bind hof (ev_bind hI (ev_bind hE (ev_pos rfl (ev_bind hH (ev_neg (by omega) (ev_pos rfl (Ev.now _))))))))
  · refine ⟨0, ?_⟩
    unfold laws_FnExactDeliverOut.f
    rw [if_neg (by omega), szWire_no e s t g hs hg hz]
    rfl

end Go.Proofs.Ytjbeehechclccab.Pure
