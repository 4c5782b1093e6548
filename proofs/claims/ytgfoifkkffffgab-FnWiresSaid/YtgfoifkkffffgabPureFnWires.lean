/- FnWires: what the printed functions compute answers as the statement says: for every input the law is true. No condition beside the arguments being of their kinds. -/
import Derived.Test.YtgfoifkkffffgabPFnWiresx10
import Derived.OpenShut
namespace Go.Proofs.Ytgfoifkkffffgab.Pure
open Go.RowKit Go.Proofs.YtgfoifkkffffgabW.PrintWords Go.Proofs.YtgfoifkkffffgabW.PrintLast Go.Proofs.YtgfoifkkffffgabW.PrintMore Go.Proofs.Ytgfoifkkffffgab.PFnWires
set_option linter.unusedVariables false
set_option linter.unusedSimpArgs false

/-! ### plain words -/
theorem w64 {x : Int} (h0 : -9223372036854775808 ≤ x) (h1 : x ≤ 9223372036854775807) : wrap64 x = x := by unfold wrap64; omega
theorem ev_some {α : Type} {g : Nat → Option α} {r : α} (h : ∀ k, g k = some r) : Ev g r := ⟨0, fun k _ => h k⟩
theorem ev_bind {α β : Type} {g : Nat → Option α} {f : Nat → α → Option β} {a : α} {r : β} (h : Ev g a) (k : Ev (fun n => f n a) r) : Ev (fun n => (g n).bind (f n)) r := Ev.bind h k
theorem ev_val {α β : Type} {o : Option α} {a : α} (h : o = some a) {f : Nat → α → Option β} {r : β} (k : Ev (fun n => f n a) r) : Ev (fun n => o.bind (f n)) r := by
  subst h
  exact k
theorem ev_pos {α : Type} {c : Prop} [Decidable c] {a b : Nat → Option α} {r : α} (hc : c) (h : Ev a r) : Ev (fun k => if c then a k else b k) r := Ev.congr (fun _ => if_pos hc) h
theorem ev_neg {α : Type} {c : Prop} [Decidable c] {a b : Nat → Option α} {r : α} (hc : ¬ c) (h : Ev b r) : Ev (fun k => if c then a k else b k) r := Ev.congr (fun _ => if_neg hc) h
theorem ev_ite {α : Type} {c : Prop} [Decidable c] {a b : Nat → Option α} {x y : α} (h1 : c → Ev a x) (h2 : ¬ c → Ev b y) : Ev (fun k => if c then a k else b k) (if c then x else y) := by
  by_cases h : c
  · rw [if_pos h]
    exact ev_pos h (h1 h)
  · rw [if_neg h]
    exact ev_neg h (h2 h)
theorem ev_eq {α : Type} {g : Nat → Option α} {r r' : α} (h : Ev g r) (e : r = r') : Ev g r' := e ▸ h
theorem ev_uniq {α : Type} {g : Nat → Option α} {r r' : α} (h : Ev g r) (h' : Ev g r') : r = r' := by
  obtain ⟨K, hK⟩ := h
  obtain ⟨K', hK'⟩ := h'
  have h1 := hK (max K K') (Nat.le_max_left _ _)
  have h2 := hK' (max K K') (Nat.le_max_right _ _)
  exact Option.some.inj (h1.symm.trans h2)
/-- So many rounds are enough. -/
theorem ev_from {α : Type} {g : Nat → Option α} {r : α} (n : Nat) (h : ∀ k, g (k + n) = some r) : Ev g r :=
  ⟨n, fun k hk => by have := h (k - n); rwa [Nat.sub_add_cancel hk] at this⟩
theorem rd_nat (xs : List Int) (i : Nat) : rd xs (i : Int) = xs.getD i 0 := by simp [rd]
theorem rd_lt {xs : List Int} {i : Nat} (h : i < xs.length) : rd xs (i : Int) = xs[i] := by
  rw [rd_nat, List.getD_eq_getElem?_getD, List.getElem?_eq_getElem h]; rfl
theorem set_take {xs out : List Int} {i : Nat} (hi : i < xs.length) (hl : out.length = xs.length) (ht : out.take i = xs.take i) : (out.set i xs[i]).take (i + 1) = xs.take (i + 1) := by
  rw [List.take_succ_eq_append_getElem (by simp; omega), List.take_succ_eq_append_getElem hi]
  rw [List.take_set_of_le (Nat.le_refl i), ht]
  simp
/-- A copy, number by number. -/
theorem copy_loop (l : Nat → List Int → List Int → Int → Option (List Int))
    (h : ∀ k xs out i, l (k + 1) xs out i = if i < (xs.length : Int) then (if 0 ≤ i then (if i < (out.length : Int) then l k xs (out.set (i : Int).toNat (rd xs i)) (wrap64 (i + 1)) else none) else none) else some out)
    (xs : List Int) (hx : xs.length ≤ 4611686018427387904) : ∀ (d i : Nat) (out : List Int), i + d = xs.length → out.length = xs.length → out.take i = xs.take i → Ev (fun k => l k xs out (i : Int)) xs
  | 0, i, out, hd, hl, ht => by
    refine Ev.step (f := fun _ => some xs) (fun k => ?_) (Ev.now _)
    rw [h, if_neg (by omega)]
    congr 1
    rw [List.take_of_length_le (by omega), List.take_of_length_le (by omega)] at ht
    exact ht
  | d + 1, i, out, hd, hl, ht => by
    have hi : i < xs.length := by omega
    refine Ev.step (f := fun k => l k xs (out.set i xs[i]) ((i + 1 : Nat) : Int)) (fun k => ?_) (copy_loop l h xs hx d (i + 1) _ (by omega) (by simpa using hl) (set_take hi hl ht))
    rw [h, if_pos (by omega), if_pos (by omega), if_pos (by omega), w64 (by omega) (by omega), rd_lt hi]
    simp
/-- Two equal lists, number by number. -/
theorem same_loop (l : Nat → List Int → List Int → Int → Option Bool)
    (h : ∀ k xs ys i, l (k + 1) xs ys i = if i < (xs.length : Int) then (if 0 ≤ i then (if i < (ys.length : Int) then (if rd xs i = rd ys i then l k xs ys (wrap64 (i + 1)) else some false) else none) else none) else some true)
    (xs : List Int) (hx : xs.length ≤ 4611686018427387904) : ∀ (d i : Nat), i + d = xs.length → Ev (fun k => l k xs xs (i : Int)) true
  | 0, i, hd => by
    refine Ev.step (f := fun _ => some true) (fun k => ?_) (Ev.now _)
    rw [h, if_neg (by omega)]
  | d + 1, i, hd => by
    refine Ev.step (f := fun k => l k xs xs ((i + 1 : Nat) : Int)) (fun k => ?_) (same_loop l h xs hx d (i + 1) (by omega))
    rw [h, if_pos (by omega), if_pos (by omega), if_pos (by omega), if_pos rfl, w64 (by omega) (by omega)]
    simp

def isBytes (l : List Int) : Prop := ∀ x ∈ l, 0 ≤ x ∧ x ≤ 255
theorem rd_byte {l : List Int} (h : isBytes l) (i : Int) : 0 ≤ rd l i ∧ rd l i ≤ 255 := by
  unfold rd
  rw [List.getD_eq_getElem?_getD]
  cases hq : l[i.toNat]? with
  | none => exact ⟨by simp, by simp⟩
  | some x => exact h x (List.mem_of_getElem? hq)
/-- A draw. -/
theorem next_some (l : List Int) (hb : isBytes l) (s a : Int) (h0 : 0 ≤ s) (h1 : s ≤ 10000000) (ha : 1 ≤ a) : ∃ v, spec_l1Next.f l s a = some (v, s + 1) ∧ 0 ≤ v ∧ v < a := by
  have e0 : wrap64 (s + 1) = s + 1 := w64 (by omega) (by omega)
  have e1 : wrap64 (s + 1 - 1) = s := by rw [w64 (by omega) (by omega)]; omega
  unfold spec_l1Next.f
  simp only [e0, e1]
  rw [if_neg (show ¬ a < 1 by omega)]
  by_cases hl : (l.length : Int) = 0
  · rw [if_pos hl, if_neg (show ¬ a = 0 by omega), w64 (x := s * 7) (by omega) (by omega)]
    exact ⟨_, rfl, Int.tmod_nonneg a (by omega), Int.tmod_lt_of_pos _ (by omega)⟩
  · have hlp : (0 : Int) < (l.length : Int) := by omega
    have i0 : 0 ≤ Int.tmod s (l.length : Int) := Int.tmod_nonneg _ h0
    have i1 : Int.tmod s (l.length : Int) < (l.length : Int) := Int.tmod_lt_of_pos _ hlp
    have j0 : 0 ≤ Int.tmod (s + 1) (l.length : Int) := Int.tmod_nonneg _ (by omega)
    have j1 : Int.tmod (s + 1) (l.length : Int) < (l.length : Int) := Int.tmod_lt_of_pos _ hlp
    have q0 : 0 ≤ Int.tdiv s (l.length : Int) := Int.tdiv_nonneg h0 (by omega)
    have q1 : Int.tdiv s (l.length : Int) ≤ s := by rw [Int.tdiv_eq_ediv_of_nonneg h0]; exact Int.ediv_le_self _ h0
    obtain ⟨r0, r1⟩ := rd_byte hb (Int.tmod s (l.length : Int))
    obtain ⟨t0, t1⟩ := rd_byte hb (Int.tmod (s + 1) (l.length : Int))
    rw [if_neg hl, if_pos i0, if_pos i1, if_pos j0, if_pos j1]
    generalize rd l (Int.tmod s (l.length : Int)) = r at *
    generalize rd l (Int.tmod (s + 1) (l.length : Int)) = t at *
    generalize Int.tdiv s (l.length : Int) = q at *
    have w1 : wrap64 r = r := w64 (by omega) (by omega)
    have w2 : wrap64 q = q := w64 (by omega) (by omega)
    have w3 : wrap64 (q * 37) = q * 37 := w64 (by omega) (by omega)
    have w4 : wrap64 (r + q * 37) = r + q * 37 := w64 (by omega) (by omega)
    have w5 : wrap64 ((r + q * 37) * 251) = (r + q * 37) * 251 := w64 (by omega) (by omega)
    have w6 : wrap64 t = t := w64 (by omega) (by omega)
    have w7 : wrap64 (t * 13) = t * 13 := w64 (by omega) (by omega)
    have w8 : wrap64 ((r + q * 37) * 251 + t * 13) = (r + q * 37) * 251 + t * 13 := w64 (by omega) (by omega)
    have w9 : wrap64 ((r + q * 37) * 251 + t * 13 + s) = (r + q * 37) * 251 + t * 13 + s := w64 (by omega) (by omega)
    simp only [w1, w2, w3, w4, w5, w6, w7, w8, w9]
    by_cases h200 : a > 200
    · rw [if_pos h200, if_neg (show ¬ a = 0 by omega)]
      exact ⟨_, rfl, Int.tmod_nonneg _ (by omega), Int.tmod_lt_of_pos _ (by omega)⟩
    · rw [if_neg h200, if_neg (show ¬ a = 0 by omega)]
      exact ⟨_, rfl, Int.tmod_nonneg _ (by omega), Int.tmod_lt_of_pos _ (by omega)⟩
theorem pick_some (l : List Int) (hb : isBytes l) (s : Int) (h0 : 0 ≤ s) (h1 : s ≤ 10000000) (c : List Int) (hc : 1 ≤ c.length) : ∃ i : Nat, ∃ hi : i < c.length, spec_l1Pick.f l s c = some (c[i], s + 1) := by
  obtain ⟨v, hv, v0, v1⟩ := next_some l hb s (c.length : Int) h0 h1 (by omega)
  obtain ⟨i, rfl⟩ : ∃ i : Nat, v = i := ⟨v.toNat, by omega⟩
  refine ⟨i, by omega, ?_⟩
  unfold spec_l1Pick.f
  rw [hv]
  simp only [Option.bind_some]
  rw [if_pos v0, if_pos v1, rd_lt (by omega)]

theorem some_ev (l : List Int) (hb : isBytes l) : ∀ (n : Nat) (s : Int) (acc : List Int), 0 ≤ s → s + 3 * (n : Int) ≤ 9000000 → acc.length + n ≤ 1000000 → ∃ xs, Ev (fun k => spec_l1Some.l0 k (n : Int) acc l s) (xs, s + 3 * (n : Int)) ∧ xs.length = acc.length + n
  | 0, s, acc, h0, h1, h2 => by
    refine ⟨acc, Ev.step (f := fun _ => some (acc, s)) (fun k => ?_) (ev_eq (Ev.now _) (by simp)), by simp⟩
    rw [spec_l1Some.l0, if_neg (by omega)]
  | n + 1, s, acc, h0, h1, h2 => by
    obtain ⟨v, hv, _, _⟩ := next_some l hb s 256 h0 (by omega) (by omega)
    obtain ⟨u, hu, _, _⟩ := next_some l hb (s + 1) 8 (by omega) (by omega) (by omega)
    obtain ⟨i, hi, hp⟩ := pick_some l hb (s + 1 + 1) (by omega) (by omega) [v, u, 255] (by simp)
    obtain ⟨xs, hx, hxl⟩ := some_ev l hb n (s + 3) (acc ++ [([v, u, 255] : List Int)[i] % 256]) (by omega) (by omega) (by simp; omega)
    refine ⟨xs, ev_eq (Ev.step (fun k => ?_) hx) (by congr 1; omega), by simp at hxl; omega⟩
    rw [spec_l1Some.l0, if_pos (by omega), hv]
    simp only [Option.bind_some]
    rw [hu]
    simp only [Option.bind_some]
    rw [hp]
    simp only [Option.bind_some]
    rw [if_pos (by omega), w64 (by omega) (by omega), show ((n + 1 : Nat) : Int) - 1 = (n : Int) by omega, show s + 1 + 1 + 1 = s + 3 by omega]

theorem in_spec (a b c : Int) : spec_l1In.f a b c = some (decide (b ≤ a ∧ a ≤ c)) := by
  unfold spec_l1In.f
  by_cases h : a ≥ b
  · rw [if_pos h]; congr 1; simp [h]
  · rw [if_neg h]; congr 1; simp; intro h'; omega
theorem in_impl : impl_in.f = spec_l1In.f := rfl

theorem wireFault_same : ∀ k, impl_WireFault.f k = spec_WireFault.f k := by
  intro k
  have hj : impl_WireFault.j0 k = spec_WireFault.j0 k := by
    cases k with
    | zero => rfl
    | succ k => funext b e s t g; simp only [impl_WireFault.j0, spec_WireFault.j0, impl_size_byte.f, in_impl, Option.bind_some]
  funext e s t g
  simp only [impl_WireFault.f, spec_WireFault.f, hj, in_impl]
/-- What is not right of a wire. -/
def wireM (e : Int) (s : List Int) (t : Int) (g : List Int) : Int :=
  if 0 ≤ e ∧ e ≤ 1000 then (if s.length > 2000 ∨ g.length > 2000 then 2 else (if 0 ≤ t ∧ t ≤ (s.length : Int) then 0 else 3)) else 3
theorem wire_ev (e : Int) (s : List Int) (t : Int) (g : List Int) : Ev (fun k => spec_WireFault.f k e s t g) (wireM e s t g) := by
  refine ev_from 1 (fun k => ?_)
  simp only [spec_WireFault.f, spec_WireFault.j0, in_spec, Option.bind_some, decide_eq_true_eq, wireM]
  by_cases h1 : 0 ≤ e ∧ e ≤ 1000
  · rw [if_pos h1, if_pos h1]
    by_cases h2 : s.length > 2000
    · rw [if_pos (show (s.length : Int) > 2000 by omega), if_pos (show s.length > 2000 ∨ g.length > 2000 from Or.inl h2)]
      all_goals simp
    · rw [if_neg (show ¬ (s.length : Int) > 2000 by omega)]
      by_cases h3 : g.length > 2000
      · rw [if_pos (show (g.length : Int) > 2000 by omega), if_pos (show s.length > 2000 ∨ g.length > 2000 from Or.inr h3)]
        all_goals simp
      · rw [if_neg (show ¬ (g.length : Int) > 2000 by omega), if_neg (show ¬ (s.length > 2000 ∨ g.length > 2000) by omega)]
        split <;> rfl
  · rw [if_neg h1, if_neg h1]

theorem clone_bytes (l : List Int) (h : l.length ≤ 1048576) : slices_Clone_byte_byte.f l = some l := by
  unfold slices_Clone_byte_byte.f
  simp only [Option.bind_some, List.length_nil, List.nil_append]
  rw [if_pos (by omega)]

/-- What a wire and an epoch have that is not right. -/
def askedM (e : Int) (s : List Int) (t : Int) (g : List Int) (ep : Int) : Int :=
  if wireM e s t g = 0 then (if 1 ≤ ep ∧ ep ≤ 1000 then (if ep < e then 9 else 0) else 3) else wireM e s t g
theorem asked_spec_ev (e : Int) (s : List Int) (t : Int) (g : List Int) (ep : Int) : Ev (fun k => spec_l11Asked.f k e s t g ep) (askedM e s t g ep) := by
  unfold spec_l11Asked.f spec_l10Epoch.f askedM
  refine ev_bind (wire_ev e s t g) ?_
  simp only [in_spec, Option.bind_some, decide_eq_true_eq]
  exact ev_ite (fun _ => ev_ite (fun _ => ev_ite (fun _ => Ev.now _) (fun _ => Ev.now _)) (fun _ => Ev.now _)) (fun _ => Ev.now _)
theorem asked_impl_ev (e : Int) (s : List Int) (t : Int) (g : List Int) (ep : Int) : Ev (fun k => impl_epochFault.f k e s t g ep) (askedM e s t g ep) := by
  unfold impl_epochFault.f impl_isEpoch.f askedM
  simp only [wireFault_same]
  refine ev_bind (wire_ev e s t g) ?_
  simp only [in_impl, in_spec, Option.bind_some, decide_eq_true_eq]
  exact ev_ite (fun _ => ev_ite (fun _ => ev_ite (fun _ => Ev.now _) (fun _ => Ev.now _)) (fun _ => Ev.now _)) (fun _ => Ev.now _)
theorem wireM_zero {e : Int} {s : List Int} {t : Int} {g : List Int} (h : wireM e s t g = 0) : (0 ≤ e ∧ e ≤ 1000) ∧ s.length ≤ 2000 ∧ g.length ≤ 2000 ∧ (0 ≤ t ∧ t ≤ (s.length : Int)) := by
  unfold wireM at h
  split at h
  · split at h
    · omega
    · split at h
      · exact ⟨by assumption, by omega, by omega, by assumption⟩
      · omega
  · omega
theorem askedM_zero {e : Int} {s : List Int} {t : Int} {g : List Int} {ep : Int} (h : askedM e s t g ep = 0) : wireM e s t g = 0 ∧ (1 ≤ ep ∧ ep ≤ 1000) ∧ e ≤ ep := by
  unfold askedM at h
  split at h
  · split at h
    · split at h
      · omega
      · exact ⟨by assumption, by assumption, by omega⟩
    · omega
  · exact absurd h (by assumption)
theorem copy_wire (e : Int) (s : List Int) (t : Int) (g : List Int) (hs : s.length ≤ 1048576) (hg : g.length ≤ 1048576) : spec_l11Copy.f e s t g = some (e, s, t, g) := by
  unfold spec_l11Copy.f
  simp only [Option.bind_some, List.length_nil, List.nil_append]
  rw [if_pos (by omega), if_pos (by omega)]
theorem result_wire (e : Int) (s : List Int) (t : Int) (g : List Int) (hs : s.length ≤ 1048576) (hg : g.length ≤ 1048576) : impl_Wire_result.f e s t g = some (0, [], e, s, t, g) := by
  unfold impl_Wire_result.f
  rw [clone_bytes s hs, clone_bytes g hg]
  rfl
def badW (c : Int) : Int × List Int × Int × List Int × Int × List Int := (c, [], 0, [], 0, [])

set_option maxHeartbeats 2000000 in
theorem wire_draw (l : List Int) (hb : isBytes l) : ∃ e s t g p, Ev (fun k => spec_l11Wire.f k l 0) (e, s, t, g, p) ∧ (-1 ≤ e ∧ e ≤ 1001) ∧ s.length ≤ 40 ∧ g.length ≤ 2001 ∧ 0 ≤ p ∧ p ≤ 1000 := by
  obtain ⟨e, he, e0, e1⟩ := next_some l hb 0 5 (by omega) (by omega) (by omega)
  obtain ⟨n, hn, n0, n1⟩ := next_some l hb (0 + 1) 30 (by omega) (by omega) (by omega)
  obtain ⟨n, rfl⟩ : ∃ i : Nat, n = i := ⟨n.toNat, by omega⟩
  obtain ⟨s, hs, hsl⟩ := some_ev l hb n (0 + 1 + 1) [] (by omega) (by omega) (by simp; omega)
  obtain ⟨m, hm, m0, m1⟩ := next_some l hb (0 + 1 + 1 + 3 * (n : Int)) 30 (by omega) (by omega) (by omega)
  obtain ⟨m, rfl⟩ : ∃ i : Nat, m = i := ⟨m.toNat, by omega⟩
  obtain ⟨g, hg, hgl⟩ := some_ev l hb m (0 + 1 + 1 + 3 * (n : Int) + 1) [] (by omega) (by omega) (by simp; omega)
  simp only [List.length_nil, Nat.zero_add] at hsl hgl
  have hs' : Ev (fun k => spec_l1Some.f k l (0 + 1 + 1) (n : Int)) (s, 0 + 1 + 1 + 3 * (n : Int)) := hs
  have hg' : Ev (fun k => spec_l1Some.f k l (0 + 1 + 1 + 3 * (n : Int) + 1) (m : Int)) (g, 0 + 1 + 1 + 3 * (n : Int) + 1 + 3 * (m : Int)) := hg
  have hw : wrap64 ((s.length : Int) + 1) = (s.length : Int) + 1 := w64 (by omega) (by omega)
  generalize hp : (0 : Int) + 1 + 1 + 3 * (n : Int) + 1 + 3 * (m : Int) = p at *
  obtain ⟨t, ht, t0, t1⟩ := next_some l hb p ((s.length : Int) + 1) (by omega) (by omega) (by omega)
  obtain ⟨c, hc, c0, c1⟩ := next_some l hb (p + 1) 18 (by omega) (by omega) (by omega)
  obtain ⟨i1, hi1, hp1⟩ := pick_some l hb (p + 1 + 1) (by omega) (by omega) [(-1), 1000, 1001] (by simp)
  obtain ⟨i2, hi2, hp2⟩ := pick_some l hb (p + 1 + 1) (by omega) (by omega) [(-1), wrap64 ((s.length : Int) + 1)] (by simp)
  obtain ⟨z, hz, z0, z1⟩ := next_some l hb (p + 1 + 1) 2 (by omega) (by omega) (by omega)
  have hz2 : wrap64 (2000 + z) = 2000 + z := w64 (by omega) (by omega)
  have key : ∀ r, Ev (fun _ => (if c = 0 then ((spec_l1Pick.f l (p + 1 + 1) (([(-1), 1000, 1001] : List Int))).bind fun bt145 => (some (bt145.1, s, t, g, bt145.2))) else (if c = 1 then ((spec_l1Pick.f l (p + 1 + 1) (([(-1), wrap64 ((s.length : Int) + 1)] : List Int))).bind fun bt150 => (some (e, s, bt150.1, g, bt150.2))) else (if c = 2 then ((spec_l1Next.f l (p + 1 + 1) 2).bind fun bt152 => (if 0 ≤ (wrap64 (2000 + bt152.1)) then (if (wrap64 (2000 + bt152.1) : Int).toNat ≤ 281474976710656 then (some (e, s, t, (List.replicate (wrap64 (2000 + bt152.1) : Int).toNat 0), bt152.2)) else (none)) else (none))) else (some (e, s, t, g, p + 1 + 1)))) : Option (Int × List Int × Int × List Int × Int))) r → Ev (fun k => spec_l11Wire.f k l 0) r := by
    intro r hr
    unfold spec_l11Wire.f
    refine ev_val he (ev_val hn (ev_bind hs' (ev_val hm (ev_bind hg' ?_))))
    have ht' : spec_l1Next.f l p (wrap64 ((s.length : Int) + 1)) = some (t, p + 1) := by rw [hw]; exact ht
    exact ev_val ht' (ev_val hc hr)
  by_cases h0 : c = 0
  · refine ⟨([(-1), 1000, 1001] : List Int)[i1], s, t, g, p + 1 + 1 + 1, key _ (ev_pos h0 (ev_val hp1 (Ev.now _))), ?_, by omega, by omega, by omega, by omega⟩
    match i1, hi1 with
    | 0, _ => simp
    | 1, _ => simp
    | 2, _ => simp
  · by_cases h1 : c = 1
    · exact ⟨e, s, ([(-1), wrap64 ((s.length : Int) + 1)] : List Int)[i2], g, p + 1 + 1 + 1, key _ (ev_neg h0 (ev_pos h1 (ev_val hp2 (Ev.now _)))), by omega, by omega, by omega, by omega, by omega⟩
    · by_cases h2 : c = 2
      · refine ⟨e, s, t, List.replicate (wrap64 (2000 + z)).toNat 0, p + 1 + 1 + 1, key _ (ev_neg h0 (ev_neg h1 (ev_pos h2 (ev_val hz ?_)))), by omega, by omega, by rw [hz2, List.length_replicate]; omega, by omega, by omega⟩
        exact ev_pos (by rw [hz2]; omega) (ev_pos (by rw [hz2]; omega) (Ev.now _))
      · exact ⟨e, s, t, g, p + 1 + 1, key _ (ev_neg h0 (ev_neg h1 (ev_neg h2 (Ev.now _)))), by omega, by omega, by omega, by omega, by omega⟩
theorem ev_val_eq {l : List Int} {s : Int} {c : List Int} {r : Int × Int} (h : spec_l1Pick.f l s c = some r) : (spec_l1Pick.f l s c).bind (fun bt161 => some (bt161.1, bt161.2)) = some r := by rw [h]; rfl

abbrev WR := Int × List Int × Int × List Int × Int × List Int
def takeInM (e : Int) (s : List Int) (t : Int) (g : List Int) (ep fr n : Int) : WR := if askedM e s t g ep = 0 then (if (0 ≤ fr ∧ fr ≤ (s.length : Int)) ∧ (0 ≤ n ∧ n ≤ 60) then (0, (s.take (min (fr + n) (s.length : Int)).toNat).drop fr.toNat, e, s, t, g) else badW 3) else badW (askedM e s t g ep)
theorem mn_min (a b : Int) : mn a b = min a b := by unfold mn; split <;> omega
theorem take_impl_ev (e : Int) (s : List Int) (t : Int) (g : List Int) (ep fr n : Int) (hs : s.length ≤ 1048576) (hg : g.length ≤ 1048576) : Ev (fun k => impl_TakeInput.f k e s t g ep fr n) (takeInM e s t g ep fr n) := by
  have hj : ∀ c : Int, c ≠ 0 → Ev (fun k => impl_TakeInput.j1 k fr n c e s t g) (badW c) := by
    intro c hc
    refine Ev.step (f := fun k => some (badW c)) (fun k => ?_) (Ev.now _)
    rw [impl_TakeInput.j1, if_neg hc]
    rfl
  have ht : ∀ c : Int, Ev (fun k => impl_TakeInput.j0 k fr n c true e s t g) (badW 3) := by
    intro c
    refine Ev.step (f := fun k => impl_TakeInput.j1 k fr n 3 e s t g) (fun k => ?_) (hj 3 (by omega))
    rw [impl_TakeInput.j0, if_pos rfl]
  unfold impl_TakeInput.f takeInM
  refine ev_bind (asked_impl_ev e s t g ep) ?_
  simp only [impl_size_byte.f, in_impl, in_spec, Option.bind_some, decide_eq_true_eq]
  refine ev_ite (fun h => ?_) (fun h => ?_)
  · by_cases h1 : 0 ≤ fr ∧ fr ≤ (s.length : Int)
    · refine ev_pos h1 ?_
      by_cases h2 : 0 ≤ n ∧ n ≤ 60
      · rw [if_pos ⟨h1, h2⟩]
        simp only [h2, and_self, decide_true, Bool.not_true]
        refine Ev.step (f := fun k => impl_TakeInput.j1 k fr n (askedM e s t g ep) e s t g) (fun k => ?_) ?_
        · rw [impl_TakeInput.j0, if_neg (by simp)]
        · refine Ev.step (f := fun k => some (0, (s.take (min (fr + n) (s.length : Int)).toNat).drop fr.toNat, e, s, t, g)) (fun k => ?_) (Ev.now _)
          rw [impl_TakeInput.j1, if_pos h, result_wire e s t g hs hg, w64 (by omega) (by omega)]
          simp only [Option.bind_some, impl_size_byte.f, mn_min]
          rw [if_pos (by omega), if_pos (by omega), if_pos (by omega), clone_bytes _ (by simp only [List.length_drop, List.length_take]; omega)]
          rfl
      · rw [if_neg (fun z => h2 z.2)]
        have e2 : (!decide (0 ≤ n ∧ n ≤ 60)) = true := by simp; omega
        rw [e2]
        exact ht _
    · rw [if_neg (fun z => h1 z.1)]
      exact ev_neg h1 (ht _)
  · refine Ev.step (f := fun k => impl_TakeInput.j1 k fr n (askedM e s t g ep) e s t g) (fun k => ?_) (hj _ h)
    rw [impl_TakeInput.j0, if_neg (by simp)]
theorem mx_max (a b : Int) : mx a b = max a b := by unfold mx; split <;> omega
def ackM (e : Int) (s : List Int) (t : Int) (g : List Int) (ep upto : Int) : WR := if askedM e s t g ep = 0 then (if 0 ≤ upto ∧ upto ≤ (s.length : Int) then (0, [], e, s, max t upto, g) else badW 3) else badW (askedM e s t g ep)
theorem ack_impl_ev (e : Int) (s : List Int) (t : Int) (g : List Int) (ep upto : Int) (hs : s.length ≤ 1048576) (hg : g.length ≤ 1048576) : Ev (fun k => impl_AckInput.f k e s t g ep upto) (ackM e s t g ep upto) := by
  unfold impl_AckInput.f ackM
  refine ev_bind (asked_impl_ev e s t g ep) ?_
  simp only [impl_size_byte.f, in_impl, in_spec, Option.bind_some]
  refine ev_ite (fun h => ?_) (fun h => ?_)
  · refine ev_from 1 (fun k => ?_)
    rw [impl_AckInput.j0, result_wire e s _ g hs hg, mx_max, h]
    by_cases hu : 0 ≤ upto ∧ upto ≤ (s.length : Int)
    · rw [if_pos hu]; simp [hu]
    · rw [if_neg hu]; simp [hu, badW]
  · refine ev_from 1 (fun k => ?_)
    rw [impl_AckInput.j0, if_neg (by simp), if_neg h]
    rfl

theorem grow_bytes (n : Int) (h0 : 0 ≤ n) (h1 : n ≤ 4194304) : slices_Grow_byte_byte.f n = some [] := by
  unfold slices_Grow_byte_byte.f
  rw [if_neg (by omega), w64 (by omega) (by omega)]
  by_cases h : n > 0
  · rw [if_pos h, if_pos h0, if_pos (by simp only [List.length_nil]; omega)]
    simp only [Option.bind_some]
    rw [if_pos (by omega)]
    simp
  · rw [if_neg h]
theorem concat_bytes_ev (a b : List Int) (ha : a.length ≤ 1048576) (hb : b.length ≤ 1048576) : Ev (fun k => slices_Concat_byte_byte.f k [a, b]) (a ++ b) := by
  refine ev_from 6 (fun k => ?_)
  have r0 : rd_L2 [a, b] 0 = a := rfl
  have r1 : rd_L2 [a, b] 1 = b := rfl
  have e0 : wrap64 (0 + (a.length : Int)) = (a.length : Int) := by rw [w64 (by omega) (by omega)]; omega
  have e1 : wrap64 ((a.length : Int) + (b.length : Int)) = (a.length : Int) + (b.length : Int) := by rw [w64 (by omega) (by omega)]
  have w1 : wrap64 ((0 : Int) + 1) = 1 := by rw [w64 (by omega) (by omega)]; rfl
  have w2 : wrap64 ((1 : Int) + 1) = 2 := by rw [w64 (by omega) (by omega)]; rfl
  have L : (([a, b] : List (List Int)).length : Int) = 2 := rfl
  unfold slices_Concat_byte_byte.f
  rw [L, show k + 6 = k + 5 + 1 from rfl, slices_Concat_byte_byte.l0, L, r0, if_pos (by omega), if_pos (by omega), if_pos (by omega), e0, if_neg (by omega), w1]
  rw [show k + 5 = k + 4 + 1 from rfl, slices_Concat_byte_byte.l0, L, r1, if_pos (by omega), if_pos (by omega), if_pos (by omega), e1, if_neg (by omega), w2]
  rw [show k + 4 = k + 3 + 1 from rfl, slices_Concat_byte_byte.l0, if_neg (by omega), grow_bytes _ (by omega) (by omega)]
  simp only [Option.bind_some]
  rw [L, show k + 3 = k + 2 + 1 from rfl, slices_Concat_byte_byte.l1, L, r0, if_pos (by omega), if_pos (by omega), if_pos (by omega), if_pos (by simp only [List.length_nil]; omega), w1]
  rw [show k + 2 = k + 1 + 1 from rfl, slices_Concat_byte_byte.l1, L, r1, if_pos (by omega), if_pos (by omega), if_pos (by omega), if_pos (by simp only [List.length_append, List.length_nil]; omega), w2]
  rw [slices_Concat_byte_byte.l1, if_neg (by omega)]
  simp

theorem equal_loop (xs ys : List Int) (hl : xs.length = ys.length) (hx : xs.length ≤ 1048576) : ∀ (c i : Nat), i + c = xs.length → Ev (fun k => slices_Equal_byte_byte.l0 k xs ys (xs.length : Int) (i : Int)) (decide (xs.drop i = ys.drop i))
  | 0, i, h => by
    refine Ev.step (f := fun _ => some true) (fun k => ?_) (ev_eq (Ev.now _) ?_)
    · rw [slices_Equal_byte_byte.l0, if_neg (by omega)]
    · rw [List.drop_of_length_le (by omega), List.drop_of_length_le (by omega)]; simp
  | c + 1, i, h => by
    have hi : i < xs.length := by omega
    have hj : i < ys.length := by omega
    rw [List.drop_eq_getElem_cons hi, List.drop_eq_getElem_cons hj]
    by_cases he : xs[i] = ys[i]
    · refine Ev.step (f := fun k => slices_Equal_byte_byte.l0 k xs ys (xs.length : Int) ((i + 1 : Nat) : Int)) (fun k => ?_) (ev_eq (equal_loop xs ys hl hx c (i + 1) (by omega)) (decide_eq_decide.mpr ⟨fun z => by rw [he, z], fun z => (List.cons.inj z).2⟩))
      rw [slices_Equal_byte_byte.l0, if_pos (by omega), if_pos (by omega), if_pos (by omega), if_pos (by omega), w64 (by omega) (by omega), rd_lt hi, rd_lt hj, if_pos he]
      rfl
    · refine Ev.step (f := fun k => some false) (fun k => ?_) (ev_eq (Ev.now _) (decide_eq_false (fun z => he (List.cons.inj z).1)).symm)
      rw [slices_Equal_byte_byte.l0, if_pos (by omega), if_pos (by omega), if_pos (by omega), if_pos (by omega), rd_lt hi, rd_lt hj, if_neg he]
theorem equal_ev (xs ys : List Int) (hl : xs.length = ys.length) (hx : xs.length ≤ 1048576) : Ev (fun k => slices_Equal_byte_byte.f k xs ys) (decide (xs = ys)) := by
  unfold slices_Equal_byte_byte.f
  refine ev_pos (by omega) ?_
  have h := equal_loop xs ys hl hx xs.length 0 (by omega)
  simpa using h
def delM (e : Int) (s : List Int) (t : Int) (g d : List Int) (n b : Nat) : WR := if d.take b = (g.take (n + b)).drop n then (0, [], e, s, t, g ++ d.drop b) else badW 7
def deliverM (e : Int) (s : List Int) (t : Int) (g : List Int) (ep pl : Int) (d : List Int) : WR :=
  if askedM e s t g ep = 0 then (if 0 ≤ pl ∧ pl ≤ (g.length : Int) then (if pl + (d.length : Int) > 2000 then badW 2 else delM e s t g d pl.toNat (min d.length (g.length - pl.toNat))) else badW 3) else badW (askedM e s t g ep)
theorem deliver2 (e : Int) (s : List Int) (t : Int) (g : List Int) (n : Nat) (d : List Int) (a0 : Int) (a1 : List Int) (a2 : Int) (hn : n ≤ 2000) (hd : d.length ≤ 2000) : ∀ (c i : Nat) (out : List Int), i + c = d.length → out.length + c ≤ 1000000 → (c = 0 ∨ g.length ≤ n + i) → Ev (fun k => spec_DeliverOut.l0 k (n : Int) d (i : Int) a0 a1 a2 g e s t out) (0, [], e, s, t, out ++ d.drop i)
  | 0, i, out, h, ho, hc => by
    refine Ev.step (f := fun _ => some (0, [], e, s, t, out)) (fun k => ?_) (ev_eq (Ev.now _) ?_)
    · rw [spec_DeliverOut.l0, if_neg (by omega)]
    · rw [List.drop_of_length_le (by omega)]; simp
  | c + 1, i, out, h, ho, hc => by
    have hi : i < d.length := by omega
    refine Ev.step (f := fun k => spec_DeliverOut.l0 k (n : Int) d ((i + 1 : Nat) : Int) a0 a1 a2 g e s t (out ++ [d[i]])) (fun k => ?_) (ev_eq (deliver2 e s t g n d a0 a1 a2 hn hd c (i + 1) (out ++ [d[i]]) (by omega) (by simp; omega) (by omega)) ?_)
    · rw [spec_DeliverOut.l0, if_pos (by omega), w64 (x := (n : Int) + (i : Int)) (by omega) (by omega), if_neg (by omega), if_pos (by omega), if_pos (by omega), w64 (by omega) (by omega), rd_lt hi]
      rfl
    · rw [List.append_assoc, List.drop_eq_getElem_cons hi]; rfl
set_option maxHeartbeats 2000000 in
theorem deliver1 (e : Int) (s : List Int) (t : Int) (g : List Int) (n b : Nat) (d xs ys : List Int) (hg : g.length ≤ 2000) (hd : d.length ≤ 2000) (hb1 : b ≤ d.length) (hb2 : n + b ≤ g.length) (hb3 : b = d.length ∨ n + b = g.length)
    (hxl : xs.length = b) (hyl : ys.length = b) (hxi : ∀ i : Nat, i < b → rd d (i : Int) = rd xs (i : Int)) (hyi : ∀ i : Nat, i < b → rd g ((n + i : Nat) : Int) = rd ys (i : Int)) :
    ∀ (c i : Nat), i + c = b → Ev (fun k => spec_DeliverOut.l0 k (n : Int) d (i : Int) e s t g e s t g) (if xs.drop i = ys.drop i then (0, [], e, s, t, g ++ d.drop b) else badW 7)
  | 0, i, h => by
    have e1 : xs.drop i = ys.drop i := by
      rw [List.drop_of_length_le (by omega), List.drop_of_length_le (by omega)]
    rw [if_pos e1, show b = i by omega]
    exact deliver2 e s t g n d e s t (by omega) hd (d.length - i) i g (by omega) (by omega) (by omega)
  | c + 1, i, h => by
    have ih := deliver1 e s t g n b d xs ys hg hd hb1 hb2 hb3 hxl hyl hxi hyi c (i + 1) (by omega)
    have hx : i < xs.length := by omega
    have hy : i < ys.length := by omega
    have wn : wrap64 ((n : Int) + (i : Int)) = ((n + i : Nat) : Int) := by rw [w64 (by omega) (by omega)]; rfl
    have e1 := hxi i (by omega)
    have e2 := hyi i (by omega)
    rw [rd_lt hx] at e1
    rw [rd_lt hy] at e2
    rw [List.drop_eq_getElem_cons hx, List.drop_eq_getElem_cons hy]
    by_cases he : ys[i] = xs[i]
    · have fin : (if xs.drop (i + 1) = ys.drop (i + 1) then ((0, [], e, s, t, g ++ d.drop b) : WR) else badW 7) = (if xs[i] :: xs.drop (i + 1) = ys[i] :: ys.drop (i + 1) then (0, [], e, s, t, g ++ d.drop b) else badW 7) := by
        by_cases z : xs.drop (i + 1) = ys.drop (i + 1)
        · rw [if_pos z, if_pos (by rw [he, z])]
        · rw [if_neg z, if_neg (fun q => z (List.cons.inj q).2)]
      rw [← fin]
      refine Ev.step (fun k => ?_) ih
      rw [spec_DeliverOut.l0, if_pos (by omega), wn, if_pos (by omega), if_pos (by omega), if_pos (by omega), e1, e2, if_pos he, w64 (by omega) (by omega)]
      rfl
    · rw [if_neg (fun q => he (List.cons.inj q).1.symm)]
      refine Ev.step (f := fun k => some (badW 7)) (fun k => ?_) (Ev.now _)
      rw [spec_DeliverOut.l0, if_pos (by omega), wn, if_pos (by omega), if_pos (by omega), if_pos (by omega), e1, e2, if_neg he]
      rfl
theorem rd_take (d : List Int) (b i : Nat) (h : i < b) : rd d (i : Int) = rd (d.take b) (i : Int) := by
  rw [rd_nat, rd_nat, List.getD_eq_getElem?_getD, List.getD_eq_getElem?_getD, List.getElem?_take_of_lt h]
theorem rd_take_drop (g : List Int) (n b i : Nat) (h : i < b) : rd g ((n + i : Nat) : Int) = rd ((g.take (n + b)).drop n) (i : Int) := by
  rw [rd_nat, rd_nat, List.getD_eq_getElem?_getD, List.getD_eq_getElem?_getD, List.getElem?_drop, List.getElem?_take_of_lt (by omega)]
theorem deliver_spec_ev (e : Int) (s : List Int) (t : Int) (g : List Int) (ep pl : Int) (d : List Int) (hs : s.length ≤ 1048576) (hg : g.length ≤ 1048576) (hd : d.length ≤ 1048576) : Ev (fun k => spec_DeliverOut.f k e s t g ep pl d) (deliverM e s t g ep pl d) := by
  unfold spec_DeliverOut.f deliverM
  refine ev_bind (asked_spec_ev e s t g ep) ?_
  rw [copy_wire e s t g hs hg]
  simp only [in_spec, Option.bind_some, decide_eq_true_eq]
  refine ev_ite (fun h => ?_) (fun _ => Ev.now _)
  obtain ⟨hw, _, _⟩ := askedM_zero h
  obtain ⟨_, hs2, hg2, _⟩ := wireM_zero hw
  refine ev_ite (fun h1 => ?_) (fun _ => Ev.now _)
  rw [w64 (by omega) (by omega)]
  refine ev_ite (fun _ => Ev.now _) (fun h2 => ?_)
  obtain ⟨n, rfl⟩ : ∃ n : Nat, pl = n := ⟨pl.toNat, by omega⟩
  have key := deliver1 e s t g n (min d.length (g.length - n)) d (d.take (min d.length (g.length - n))) ((g.take (n + min d.length (g.length - n))).drop n) hg2 (by omega) (by omega) (by omega) (by omega) (by simp only [List.length_take]; omega) (by simp only [List.length_drop, List.length_take]; omega) (fun i hi => rd_take d _ i hi) (fun i hi => rd_take_drop g n _ i hi) (min d.length (g.length - n)) 0 (by omega)
  unfold delM
  simpa using key
theorem deliver_impl_ev (e : Int) (s : List Int) (t : Int) (g : List Int) (ep pl : Int) (d : List Int) (hs : s.length ≤ 1048576) (hg : g.length ≤ 1048576) (hd : d.length ≤ 1048576) : Ev (fun k => impl_DeliverOut.f k e s t g ep pl d) (deliverM e s t g ep pl d) := by
  unfold impl_DeliverOut.f deliverM
  refine ev_bind (asked_impl_ev e s t g ep) ?_
  simp only [impl_size_byte.f, in_impl, in_spec, Option.bind_some, decide_eq_true_eq]
  refine ev_ite (fun h => ?_) (fun _ => Ev.now _)
  obtain ⟨hw, _, _⟩ := askedM_zero h
  obtain ⟨_, hs2, hg2, _⟩ := wireM_zero hw
  refine ev_ite (fun h1 => ?_) (fun _ => Ev.now _)
  obtain ⟨n, rfl⟩ : ∃ n : Nat, pl = n := ⟨pl.toNat, by omega⟩
  rw [w64 (x := (n : Int) + (d.length : Int)) (by omega) (by omega)]
  refine ev_ite (fun _ => Ev.now _) (fun h2 => ?_)
  have eb : mn (d.length : Int) (wrap64 ((g.length : Int) - (n : Int))) = ((min d.length (g.length - n) : Nat) : Int) := by
    rw [w64 (by omega) (by omega), mn_min]; omega
  rw [eb]
  have hb1 : min d.length (g.length - n) ≤ d.length := Nat.min_le_left _ _
  have hb2 : n + min d.length (g.length - n) ≤ g.length := by omega
  rw [show ((n : Int)).toNat = n from rfl]
  generalize min d.length (g.length - n) = b at *
  rw [w64 (x := (n : Int) + (b : Int)) (by omega) (by omega), show ((n : Int) + (b : Int)).toNat = n + b by omega, show ((b : Int)).toNat = b from rfl]
  refine ev_pos (by omega) (ev_pos (by omega) (ev_pos (by omega) (ev_pos (by omega) (ev_pos (by omega) ?_))))
  refine ev_bind (equal_ev _ _ (by simp only [List.length_drop, List.length_take]; omega) (by simp only [List.length_take]; omega)) ?_
  unfold delM
  simp only [decide_eq_true_eq]
  refine ev_ite (fun _ => ?_) (fun _ => Ev.now _)
  refine ev_bind (concat_bytes_ev g (d.drop b) hg (by simp only [List.length_drop]; omega)) ?_
  rw [result_wire e s t (g ++ d.drop b) hs (by simp only [List.length_append, List.length_drop]; omega)]
  exact Ev.now _

def sendM (e : Int) (s : List Int) (t : Int) (g d : List Int) : WR := if wireM e s t g = 0 then (if (s.length : Int) + (d.length : Int) > 2000 then badW 2 else (0, [], e, s ++ d, t, g)) else badW (wireM e s t g)
theorem send_impl_ev (e : Int) (s : List Int) (t : Int) (g d : List Int) (hs : s.length ≤ 1048576) (hg : g.length ≤ 1048576) (hd : d.length ≤ 1048576) : Ev (fun k => impl_PeerSends.f k e s t g d) (sendM e s t g d) := by
  have hj : ∀ c : Int, c ≠ 0 → Ev (fun k => impl_PeerSends.j1 k d c e s t g) (badW c) := by
    intro c hc
    refine Ev.step (f := fun k => some (badW c)) (fun k => ?_) (Ev.now _)
    rw [impl_PeerSends.j1, if_neg hc]
    rfl
  unfold impl_PeerSends.f sendM
  simp only [wireFault_same]
  refine ev_bind (wire_ev e s t g) ?_
  rw [w64 (by omega) (by omega)]
  refine ev_ite (fun h => ?_) (fun h => ?_)
  · by_cases h1 : (s.length : Int) + (d.length : Int) > 2000
    · rw [if_pos h1]
      simp only [h1, decide_true]
      refine Ev.step (f := fun k => impl_PeerSends.j1 k d 2 e s t g) (fun k => ?_) (hj 2 (by omega))
      rw [impl_PeerSends.j0, if_pos rfl]
    · rw [if_neg h1]
      simp only [h1, decide_false]
      refine Ev.step (f := fun k => impl_PeerSends.j1 k d (wireM e s t g) e s t g) (fun k => ?_) ?_
      · rw [impl_PeerSends.j0, if_neg (by simp)]
      · refine Ev.step (fun k => by rw [impl_PeerSends.j1, if_pos h]) ?_
        refine ev_bind (concat_bytes_ev s d hs hd) ?_
        rw [result_wire e (s ++ d) t g (by simp; omega) hg]
        exact Ev.now _
  · refine Ev.step (f := fun k => impl_PeerSends.j1 k d (wireM e s t g) e s t g) (fun k => ?_) (hj _ h)
    rw [impl_PeerSends.j0, if_neg (by simp)]

theorem epoch_draw (l : List Int) (hb : isBytes l) (p e : Int) (s : List Int) (t : Int) (g : List Int) (p0 : 0 ≤ p) (p1 : p ≤ 10000000) : ∃ ep, spec_l11Epoch.f l p e s t g = some (ep, p + 1) := by
  obtain ⟨i, hi, hp⟩ := pick_some l hb p p0 p1 [e, wrap64 (e + 1), e, wrap64 (e - 1), 1001] (by simp)
  exact ⟨([e, wrap64 (e + 1), e, wrap64 (e - 1), 1001] : List Int)[i], by unfold spec_l11Epoch.f; rw [hp]; rfl⟩
theorem drawJ (l : List Int) (hb : isBytes l) (p e : Int) (s : List Int) (t : Int) (g : List Int) (p0 : 0 ≤ p) (p1 : p ≤ 10000000) (pl : Int) (xs : List Int) (hx : xs.length ≤ 8) (hg : g.length ≤ 2001) (b : Bool) (h : b = true → 0 ≤ pl ∧ pl ≤ (g.length : Int)) :
    ∃ ep d, Ev (fun k => spec_DrawDeliverOut.j0 k (g.length : Int) pl xs b l p e s t g) (e, s, t, g, ep, pl, d) ∧ d.length ≤ 20 := by
  obtain ⟨ep, he⟩ := epoch_draw l hb p e s t g p0 p1
  by_cases hbt : b = true
  · obtain ⟨h0, h1⟩ := h hbt
    have hw : wrap64 (pl + 5) = pl + 5 := w64 (by omega) (by omega)
    obtain ⟨m, hm, m0, m1, m2⟩ : ∃ m, spec_l1Min.f (g.length : Int) (wrap64 (pl + 5)) = some m ∧ pl ≤ m ∧ m ≤ (g.length : Int) ∧ m ≤ pl + 5 := by
      unfold spec_l1Min.f
      rw [hw]
      by_cases z : (g.length : Int) < pl + 5
      · exact ⟨_, by rw [if_pos z], by omega, by omega, by omega⟩
      · exact ⟨_, by rw [if_neg z], by omega, by omega, by omega⟩
    have hl : ((g.take m.toNat).drop pl.toNat).length ≤ 5 := by simp only [List.length_drop, List.length_take]; omega
    refine ⟨ep, ([] ++ (g.take m.toNat).drop pl.toNat) ++ xs, Ev.step (f := fun _ => some (e, s, t, g, ep, pl, ([] ++ (g.take m.toNat).drop pl.toNat) ++ xs)) (fun k => ?_) (Ev.now _), by simp only [List.length_append, List.length_nil]; omega⟩
    rw [spec_DrawDeliverOut.j0, if_pos hbt, hm]
    simp only [Option.bind_some]
    rw [if_pos h0, if_pos m0, if_pos m1, if_pos (by simp only [List.length_nil]; omega), if_pos (by simp only [List.length_nil, List.length_append]; omega), he]
    rfl
  · refine ⟨ep, xs, Ev.step (f := fun _ => some (e, s, t, g, ep, pl, xs)) (fun k => ?_) (Ev.now _), by omega⟩
    rw [spec_DrawDeliverOut.j0, if_neg hbt, he]
    rfl
theorem deliver_draw (l : List Int) (hb : isBytes l) : ∃ e s t g ep pl d, Ev (fun k => spec_DrawDeliverOut.f k l) (e, s, t, g, ep, pl, d) ∧ s.length ≤ 40 ∧ g.length ≤ 2001 ∧ d.length ≤ 20 := by
  obtain ⟨e, s, t, g, p, hw, he, hs, hg, p0, p1⟩ := wire_draw l hb
  have w1 : wrap64 ((g.length : Int) + 1) = (g.length : Int) + 1 := w64 (by omega) (by omega)
  obtain ⟨v, hv, v0, v1⟩ := next_some l hb p ((g.length : Int) + 1) p0 (by omega) (by omega)
  obtain ⟨i, hi, hp⟩ := pick_some l hb (p + 1) (by omega) (by omega) [(g.length : Int), v, (g.length : Int), wrap64 ((g.length : Int) + 1), (-1)] (by simp)
  obtain ⟨m, hm, m0, m1⟩ := next_some l hb (p + 1 + 1) 9 (by omega) (by omega) (by omega)
  obtain ⟨m, rfl⟩ : ∃ i : Nat, m = i := ⟨m.toNat, by omega⟩
  obtain ⟨xs, hx, hxl⟩ := some_ev l hb m (p + 1 + 1 + 1) [] (by omega) (by omega) (by simp; omega)
  simp only [List.length_nil, Nat.zero_add] at hxl
  have hx' : Ev (fun k => spec_l1Some.f k l (p + 1 + 1 + 1) (m : Int)) (xs, p + 1 + 1 + 1 + 3 * (m : Int)) := hx
  obtain ⟨c, hc, _, _⟩ := next_some l hb (p + 1 + 1 + 1 + 3 * (m : Int)) 2 (by omega) (by omega) (by omega)
  have hch : spec_l1Chance.f l (p + 1 + 1 + 1 + 3 * (m : Int)) 2 = some ((c == 0), p + 1 + 1 + 1 + 3 * (m : Int) + 1) := by unfold spec_l1Chance.f; rw [hc]; rfl
  generalize hpl : ([(g.length : Int), v, (g.length : Int), wrap64 ((g.length : Int) + 1), (-1)] : List Int)[i] = pl at hp
  have key : ∀ r, Ev (fun k => ((spec_l1In.f pl 0 (g.length : Int)).bind fun t192 => (if t192 = true then ((spec_l1Chance.f l (p + 1 + 1 + 1 + 3 * (m : Int)) 2).bind fun bt193 => (spec_DrawDeliverOut.j0 k (g.length : Int) pl xs bt193.1 l bt193.2 e s t g)) else (spec_DrawDeliverOut.j0 k (g.length : Int) pl xs false l (p + 1 + 1 + 1 + 3 * (m : Int)) e s t g)))) r → Ev (fun k => spec_DrawDeliverOut.f k l) r := by
    intro r hr
    unfold spec_DrawDeliverOut.f spec_l1Source.f
    have hv' : spec_l1Next.f l p (wrap64 ((g.length : Int) + 1)) = some (v, p + 1) := by rw [w1]; exact hv
    exact ev_val rfl (ev_bind hw (ev_val hv' (ev_val hp (ev_val hm (ev_bind hx' hr)))))
  by_cases hin : 0 ≤ pl ∧ pl ≤ (g.length : Int)
  · obtain ⟨ep, d, hd, hl⟩ := drawJ l hb (p + 1 + 1 + 1 + 3 * (m : Int) + 1) e s t g (by omega) (by omega) pl xs (by omega) hg (c == 0) (fun _ => hin)
    refine ⟨e, s, t, g, ep, pl, d, key _ ?_, hs, hg, hl⟩
    rw [in_spec]
    exact ev_val rfl (ev_pos (by simp [hin]) (ev_val hch hd))
  · obtain ⟨ep, d, hd, hl⟩ := drawJ l hb (p + 1 + 1 + 1 + 3 * (m : Int)) e s t g (by omega) (by omega) pl xs (by omega) hg false (fun z => by cases z)
    refine ⟨e, s, t, g, ep, pl, d, key _ ?_, hs, hg, hl⟩
    rw [in_spec]
    exact ev_val rfl (ev_neg (by simp; omega) hd)
theorem placed (g d : List Int) (n b : Nat) (hb : b = min d.length (g.length - n)) (hn : n ≤ g.length) (h : d.take b = (g.take (n + b)).drop n) : ((g ++ d.drop b).take (n + d.length)).drop n = d := by
  by_cases z : n + d.length ≤ g.length
  · have e1 : b = d.length := by omega
    subst e1
    rw [List.take_append_of_le_length z, ← h, List.take_length]
  · have e1 : n + b = g.length := by omega
    rw [e1, List.take_length] at h
    rw [List.take_of_length_le (by simp only [List.length_append, List.length_drop]; omega), List.drop_append_of_le_length hn, ← h, List.take_append_drop]
set_option maxHeartbeats 1000000 in
theorem FnWires : ∀ (a0 : List Int), (a0.length ≤ 9223372036854775807 ∧ ∀ x ∈ a0, (Lit.int .u8 x).wf = true) → ∃ k, laws_FnWires.f k a0 = some true := by
  intro l ⟨_, hall⟩
  have hb : isBytes l := fun x hx => bounds_u8 (hall x hx)
  by_cases hbig : (l.length : Int) > 1048576
  · refine ⟨0, ?_⟩
    unfold laws_FnWires.f laws_lwBig.f
    simp only [Option.bind_some, hbig, decide_true]
    rfl
  · refine Ev.rounds ?_
    obtain ⟨e, s, t, g, ep, pl, d, hD, hs, hg, hd⟩ := deliver_draw l hb
    have hI := deliver_impl_ev e s t g ep pl d (by omega) (by omega) (by omega)
    unfold laws_FnWires.f laws_lwBig.f
    refine ev_val rfl (ev_neg (by simpa using hbig) (ev_bind hD (ev_bind hI ?_)))
    by_cases h0 : (deliverM e s t g ep pl d).1 = 0
    · refine ev_pos h0 ?_
      have hA : askedM e s t g ep = 0 := by
        by_cases z : askedM e s t g ep = 0
        · exact z
        · unfold deliverM at h0; rw [if_neg z] at h0; exact absurd h0 z
      have hP : 0 ≤ pl ∧ pl ≤ (g.length : Int) := by
        by_cases z : 0 ≤ pl ∧ pl ≤ (g.length : Int)
        · exact z
        · unfold deliverM at h0; rw [if_pos hA, if_neg z] at h0; exact absurd h0 (by decide)
      have hL : ¬ pl + (d.length : Int) > 2000 := by
        intro z
        unfold deliverM at h0; rw [if_pos hA, if_pos hP, if_pos z] at h0; exact absurd h0 (by decide)
      obtain ⟨n, rfl⟩ : ∃ n : Nat, pl = n := ⟨pl.toNat, by omega⟩
      obtain ⟨b, hbe⟩ : ∃ b, b = min d.length (g.length - n) := ⟨_, rfl⟩
      have hM : d.take b = (g.take (n + b)).drop n := by
        by_cases z : d.take b = (g.take (n + b)).drop n
        · exact z
        · unfold deliverM delM at h0; rw [if_pos hA, if_pos hP, if_neg hL, show ((n : Int)).toNat = n from rfl, ← hbe, if_neg z] at h0; exact absurd h0 (by decide)
      have hR : deliverM e s t g ep n d = (0, [], e, s, t, g ++ d.drop b) := by
        unfold deliverM delM; rw [if_pos hA, if_pos hP, if_neg hL, show ((n : Int)).toNat = n from rfl, ← hbe, if_pos hM]
      obtain ⟨hw, hep, hle⟩ := askedM_zero hA
      obtain ⟨he, hs2, hg2, ht⟩ := wireM_zero hw
      have hpl := placed g d n b hbe (by omega) hM
      obtain ⟨G, hG⟩ : ∃ G, G = g ++ d.drop b := ⟨_, rfl⟩
      have hGl : G.length = g.length + (d.length - b) := by rw [hG]; simp only [List.length_append, List.length_drop]
      have hGt : G.take g.length = g := by rw [hG]; exact List.take_left' rfl
      rw [← hG] at hpl hR
      have hw2 : wireM e s t G = 0 := by
        unfold wireM
        rw [if_pos he, if_neg (by omega), if_pos ht]
      have hA2 : askedM e s t G ep = 0 := by
        unfold askedM
        rw [if_pos hw2, if_pos hep, if_neg (by omega)]
      have hR2 : deliverM e s t G ep n d = (0, [], e, s, t, G) := by
        have eb : min d.length (G.length - n) = d.length := by omega
        unfold deliverM delM
        rw [if_pos hA2, if_pos (by omega), if_neg hL, show ((n : Int)).toNat = n from rfl, eb, hpl, if_pos (List.take_length), List.drop_length, List.append_nil]
      have hq2 : n + d.length ≤ G.length := by omega
      have hI2 := deliver_impl_ev e s t G ep n d (by omega) (by omega) (by omega)
      have hK := ack_impl_ev e s t g ep (s.length : Int) (by omega) (by omega)
      have hT := take_impl_ev e s t g ep 0 60 (by omega) (by omega)
      have hS := send_impl_ev e s t g [1] (by omega) (by omega) (by simp)
      unfold ackM at hK
      unfold takeInM at hT
      unfold sendM at hS
      rw [if_pos hA, if_pos (by omega)] at hK hT
      rw [if_pos hw, if_neg (by simp only [List.length_cons, List.length_nil]; omega)] at hS
      rw [hR2] at hI2
      rw [hR]
      have wn : wrap64 ((n : Int) + (d.length : Int)) = ((n + d.length : Nat) : Int) := by rw [w64 (by omega) (by omega)]; rfl
      have hWI : Ev (fun k => impl_WireFault.f k e s t G) (wireM e s t G) := Ev.congr (fun k => by rw [wireFault_same]) (wire_ev e s t G)
      refine ev_bind hWI (ev_pos hw2 (ev_neg (show ¬ (G.length : Int) < (g.length : Int) by omega) (ev_pos (show (0 : Int) ≤ (g.length : Int) by omega) (ev_pos (show (g.length : Int) ≤ (G.length : Int) by omega) (ev_pos ?_ (ev_pos (show (0 : Int) ≤ (n : Int) by omega) (ev_pos ?_ (ev_pos ?_ (ev_pos ?_ (ev_pos rfl (ev_pos rfl ?_)))))))))))
      · show (strOfNums (G.take ((g.length : Int)).toNat)).toList = (strOfNums g).toList
        rw [show ((g.length : Int)).toNat = g.length from rfl, hGt]
      · show (n : Int) ≤ wrap64 ((n : Int) + (d.length : Int))
        rw [wn]; exact Int.ofNat_le.mpr (Nat.le_add_right _ _)
      · show wrap64 ((n : Int) + (d.length : Int)) ≤ (G.length : Int)
        rw [wn]; exact Int.ofNat_le.mpr hq2
      · show (strOfNums ((G.take (wrap64 ((n : Int) + (d.length : Int))).toNat).drop ((n : Int)).toNat)).toList = (strOfNums d).toList
        rw [wn, show (((n + d.length : Nat) : Int)).toNat = n + d.length from rfl, show ((n : Int)).toNat = n from rfl, hpl]
      · refine ev_bind hI2 (ev_bind hK (ev_bind hT (ev_bind hS (ev_pos rfl (ev_pos rfl (ev_pos rfl (ev_pos ?_ (ev_pos rfl (ev_pos ?_ (ev_pos rfl (ev_eq (Ev.now _) ?_)))))))))))
        · show max t (s.length : Int) = (s.length : Int)
          omega
        · show ((((s.take (min (0 + 60) (s.length : Int)).toNat).drop (0 : Int).toNat).length : Nat) : Int) ≤ 60
          simp only [List.length_drop, List.length_take]; omega
        · show (((s ++ [1]).length : Int) == wrap64 ((s.length : Int) + 1)) = true
          rw [w64 (by omega) (by omega)]
          simp
    · have hS := deliver_spec_ev e s t g ep pl d (by omega) (by omega) (by omega)
      refine ev_neg h0 (ev_bind hS (ev_eq (Ev.now _) ?_))
      exact beq_self_eq_true _

end Go.Proofs.Ytgfoifkkffffgab.Pure
