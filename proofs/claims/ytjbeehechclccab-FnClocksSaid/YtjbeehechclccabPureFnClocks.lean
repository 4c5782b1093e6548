/- FnClocks: what the printed functions compute answers as the statement says: for every input the law is true. No condition beside the arguments being of their kinds. -/
import Derived.Test.YtjbeehechclccabPFnClocksx8
import Derived.OpenShut
namespace Go.Proofs.Ytjbeehechclccab.Pure
open Go.RowKit Go.Proofs.YtjbeehechclccabW.PrintWords Go.Proofs.YtjbeehechclccabW.PrintLast Go.Proofs.YtjbeehechclccabW.PrintMore Go.Proofs.Ytjbeehechclccab.PFnClocks
set_option linter.unusedVariables false
set_option linter.unusedSimpArgs false

/-! ### plain words -/
theorem w64 {x : Int} (h0 : -9223372036854775808 ≤ x) (h1 : x ≤ 9223372036854775807) : wrap64 x = x := by unfold wrap64; omega
theorem ev_some {α : Type} {g : Nat → Option α} {r : α} (h : ∀ k, g k = some r) : Ev g r := ⟨0, fun k _ => h k⟩
theorem ev_bind {α β : Type} {g : Nat → Option α} {f : Nat → α → Option β} {a : α} {r : β} (h : Ev g a) (k : Ev (fun n => f n a) r) : Ev (fun n => (g n).bind (f n)) r := Ev.bind h k
theorem ev_val {α β : Type} {o : Option α} {a : α} (h : o = some a) {f : Nat → α → Option β} {r : β} (k : Ev (fun n => f n a) r) : Ev (fun n => o.bind (f n)) r := by
  subst h
  exact k
theorem ev_pos {α : Type} {c : Prop} [Decidable c] {a b : Nat → Option α} {r : α} (hc : c) (h : Ev a r) : Ev (fun k => if c then a k else b k) r := Ev.congr (fun _ => if_pos hc) h
theorem ev_neg {α : Type} {c : Prop} [Decidable c] {a b : Nat → Option α} {r : α} (hc : ¬ c) (h : Ev b r) : Ev (fun k => if c then a k else b k) r := Ev.congr (fun _ => if_neg hc) h
theorem ev_ite {α : Type} {c : Prop} [Decidable c] {a b : Nat → Option α} {x y : α} (h1 : c → Ev a x) (h2 : ¬ c → Ev b y) : Ev (fun k => if c then a k else b k) (if c then x else y) := by
  by_cases h : c
  · rw [if_pos h]
    exact ev_pos h (h1 h)
  · rw [if_neg h]
    exact ev_neg h (h2 h)
theorem ev_eq {α : Type} {g : Nat → Option α} {r r' : α} (h : Ev g r) (e : r = r') : Ev g r' := e ▸ h
theorem ev_uniq {α : Type} {g : Nat → Option α} {r r' : α} (h : Ev g r) (h' : Ev g r') : r = r' := by
  obtain ⟨K, hK⟩ := h
  obtain ⟨K', hK'⟩ := h'
  have h1 := hK (max K K') (Nat.le_max_left _ _)
  have h2 := hK' (max K K') (Nat.le_max_right _ _)
  exact Option.some.inj (h1.symm.trans h2)
/-- So many rounds are enough. -/
theorem ev_from {α : Type} {g : Nat → Option α} {r : α} (n : Nat) (h : ∀ k, g (k + n) = some r) : Ev g r :=
  ⟨n, fun k hk => by have := h (k - n); rwa [Nat.sub_add_cancel hk] at this⟩
theorem rd_nat (xs : List Int) (i : Nat) : rd xs (i : Int) = xs.getD i 0 := by simp [rd]
theorem rd_lt {xs : List Int} {i : Nat} (h : i < xs.length) : rd xs (i : Int) = xs[i] := by
  rw [rd_nat, List.getD_eq_getElem?_getD, List.getElem?_eq_getElem h]; rfl
theorem set_take {xs out : List Int} {i : Nat} (hi : i < xs.length) (hl : out.length = xs.length) (ht : out.take i = xs.take i) : (out.set i xs[i]).take (i + 1) = xs.take (i + 1) := by
  rw [List.take_succ_eq_append_getElem (by simp; omega), List.take_succ_eq_append_getElem hi]
  rw [List.take_set_of_le (Nat.le_refl i), ht]
  simp
/-- A copy, number by number. -/
theorem copy_loop (l : Nat → List Int → List Int → Int → Option (List Int))
    (h : ∀ k xs out i, l (k + 1) xs out i = if i < (xs.length : Int) then (if 0 ≤ i then (if i < (out.length : Int) then l k xs (out.set (i : Int).toNat (rd xs i)) (wrap64 (i + 1)) else none) else none) else some out)
    (xs : List Int) (hx : xs.length ≤ 4611686018427387904) : ∀ (d i : Nat) (out : List Int), i + d = xs.length → out.length = xs.length → out.take i = xs.take i → Ev (fun k => l k xs out (i : Int)) xs
  | 0, i, out, hd, hl, ht => by
    refine Ev.step (f := fun _ => some xs) (fun k => ?_) (Ev.now _)
    rw [h, if_neg (by omega)]
    congr 1
    rw [List.take_of_length_le (by omega), List.take_of_length_le (by omega)] at ht
    exact ht
  | d + 1, i, out, hd, hl, ht => by
    have hi : i < xs.length := by omega
    refine Ev.step (f := fun k => l k xs (out.set i xs[i]) ((i + 1 : Nat) : Int)) (fun k => ?_) (copy_loop l h xs hx d (i + 1) _ (by omega) (by simpa using hl) (set_take hi hl ht))
    rw [h, if_pos (by omega), if_pos (by omega), if_pos (by omega), w64 (by omega) (by omega), rd_lt hi]
    simp
/-- Two equal lists, number by number. -/
theorem same_loop (l : Nat → List Int → List Int → Int → Option Bool)
    (h : ∀ k xs ys i, l (k + 1) xs ys i = if i < (xs.length : Int) then (if 0 ≤ i then (if i < (ys.length : Int) then (if rd xs i = rd ys i then l k xs ys (wrap64 (i + 1)) else some false) else none) else none) else some true)
    (xs : List Int) (hx : xs.length ≤ 4611686018427387904) : ∀ (d i : Nat), i + d = xs.length → Ev (fun k => l k xs xs (i : Int)) true
  | 0, i, hd => by
    refine Ev.step (f := fun _ => some true) (fun k => ?_) (Ev.now _)
    rw [h, if_neg (by omega)]
  | d + 1, i, hd => by
    refine Ev.step (f := fun k => l k xs xs ((i + 1 : Nat) : Int)) (fun k => ?_) (same_loop l h xs hx d (i + 1) (by omega))
    rw [h, if_pos (by omega), if_pos (by omega), if_pos (by omega), if_pos rfl, w64 (by omega) (by omega)]
    simp

def isBytes (l : List Int) : Prop := ∀ x ∈ l, 0 ≤ x ∧ x ≤ 255
theorem rd_byte {l : List Int} (h : isBytes l) (i : Int) : 0 ≤ rd l i ∧ rd l i ≤ 255 := by
  unfold rd
  rw [List.getD_eq_getElem?_getD]
  cases hq : l[i.toNat]? with
  | none => exact ⟨by simp, by simp⟩
  | some x => exact h x (List.mem_of_getElem? hq)
/-- A draw. -/
theorem next_some (l : List Int) (hb : isBytes l) (s a : Int) (h0 : 0 ≤ s) (h1 : s ≤ 10000000) (ha : 1 ≤ a) : ∃ v, spec_l1Next.f l s a = some (v, s + 1) ∧ 0 ≤ v ∧ v < a := by
  have e0 : wrap64 (s + 1) = s + 1 := w64 (by omega) (by omega)
  have e1 : wrap64 (s + 1 - 1) = s := by rw [w64 (by omega) (by omega)]; omega
  unfold spec_l1Next.f
  simp only [e0, e1]
  rw [if_neg (show ¬ a < 1 by omega)]
  by_cases hl : (l.length : Int) = 0
  · rw [if_pos hl, if_neg (show ¬ a = 0 by omega), w64 (x := s * 7) (by omega) (by omega)]
    exact ⟨_, rfl, Int.tmod_nonneg a (by omega), Int.tmod_lt_of_pos _ (by omega)⟩
  · have hlp : (0 : Int) < (l.length : Int) := by omega
    have i0 : 0 ≤ Int.tmod s (l.length : Int) := Int.tmod_nonneg _ h0
    have i1 : Int.tmod s (l.length : Int) < (l.length : Int) := Int.tmod_lt_of_pos _ hlp
    have j0 : 0 ≤ Int.tmod (s + 1) (l.length : Int) := Int.tmod_nonneg _ (by omega)
    have j1 : Int.tmod (s + 1) (l.length : Int) < (l.length : Int) := Int.tmod_lt_of_pos _ hlp
    have q0 : 0 ≤ Int.tdiv s (l.length : Int) := Int.tdiv_nonneg h0 (by omega)
    have q1 : Int.tdiv s (l.length : Int) ≤ s := by rw [Int.tdiv_eq_ediv_of_nonneg h0]; exact Int.ediv_le_self _ h0
    obtain ⟨r0, r1⟩ := rd_byte hb (Int.tmod s (l.length : Int))
    obtain ⟨t0, t1⟩ := rd_byte hb (Int.tmod (s + 1) (l.length : Int))
    rw [if_neg hl, if_pos i0, if_pos i1, if_pos j0, if_pos j1]
    generalize rd l (Int.tmod s (l.length : Int)) = r at *
    generalize rd l (Int.tmod (s + 1) (l.length : Int)) = t at *
    generalize Int.tdiv s (l.length : Int) = q at *
    have w1 : wrap64 r = r := w64 (by omega) (by omega)
    have w2 : wrap64 q = q := w64 (by omega) (by omega)
    have w3 : wrap64 (q * 37) = q * 37 := w64 (by omega) (by omega)
    have w4 : wrap64 (r + q * 37) = r + q * 37 := w64 (by omega) (by omega)
    have w5 : wrap64 ((r + q * 37) * 251) = (r + q * 37) * 251 := w64 (by omega) (by omega)
    have w6 : wrap64 t = t := w64 (by omega) (by omega)
    have w7 : wrap64 (t * 13) = t * 13 := w64 (by omega) (by omega)
    have w8 : wrap64 ((r + q * 37) * 251 + t * 13) = (r + q * 37) * 251 + t * 13 := w64 (by omega) (by omega)
    have w9 : wrap64 ((r + q * 37) * 251 + t * 13 + s) = (r + q * 37) * 251 + t * 13 + s := w64 (by omega) (by omega)
    simp only [w1, w2, w3, w4, w5, w6, w7, w8, w9]
    by_cases h200 : a > 200
    · rw [if_pos h200, if_neg (show ¬ a = 0 by omega)]
      exact ⟨_, rfl, Int.tmod_nonneg _ (by omega), Int.tmod_lt_of_pos _ (by omega)⟩
    · rw [if_neg h200, if_neg (show ¬ a = 0 by omega)]
      exact ⟨_, rfl, Int.tmod_nonneg _ (by omega), Int.tmod_lt_of_pos _ (by omega)⟩
theorem pick_some (l : List Int) (hb : isBytes l) (s : Int) (h0 : 0 ≤ s) (h1 : s ≤ 10000000) (c : List Int) (hc : 1 ≤ c.length) : ∃ i : Nat, ∃ hi : i < c.length, spec_l1Pick.f l s c = some (c[i], s + 1) := by
  obtain ⟨v, hv, v0, v1⟩ := next_some l hb s (c.length : Int) h0 h1 (by omega)
  obtain ⟨i, rfl⟩ : ∃ i : Nat, v = i := ⟨v.toNat, by omega⟩
  refine ⟨i, by omega, ?_⟩
  unfold spec_l1Pick.f
  rw [hv]
  simp only [Option.bind_some]
  rw [if_pos v0, if_pos v1, rd_lt (by omega)]

theorem spec_max (a b : Int) : spec_l1Max.f a b = some (max a b) := by
  unfold spec_l1Max.f
  split <;> congr 1 <;> omega
theorem mx_max (a b : Int) : mx a b = max a b := by unfold mx; split <;> omega

theorem pick_mem (l : List Int) (hb : isBytes l) (s : Int) (h0 : 0 ≤ s) (h1 : s ≤ 10000000) (c : List Int) (hc : 1 ≤ c.length) : ∃ v, spec_l1Pick.f l s c = some (v, s + 1) ∧ v ∈ c := by
  obtain ⟨i, hi, hp⟩ := pick_some l hb s h0 h1 c hc
  exact ⟨_, hp, List.getElem_mem hi⟩
theorem clock_draw (l : List Int) (hb : isBytes l) (s : Int) (h0 : 0 ≤ s) (h1 : s ≤ 1000) : ∃ r, spec_l13Clock.f l s = some r ∧ (0 ≤ r.2.2 ∧ r.2.2 ≤ 2000) ∧ (-1 ≤ r.1 ∧ r.1 ≤ 1000000001) ∧ ∀ x ∈ r.2.1, x ≤ 2000000000 := by
  obtain ⟨a, ha, a0, a1⟩ := next_some l hb s 60 h0 (by omega) (by omega)
  obtain ⟨b, hb', b0, b1⟩ := next_some l hb (s + 1) 9 (by omega) (by omega) (by omega)
  obtain ⟨n, hn, hnm⟩ := pick_mem l hb (s + 1 + 1) (by omega) (by omega) [a, b, 999999990] (by simp)
  have hn2 : 0 ≤ n ∧ n ≤ 999999990 := by simp at hnm; omega
  obtain ⟨d, hd, d0, d1⟩ := next_some l hb (s + 1 + 1 + 1) 5 (by omega) (by omega) (by omega)
  obtain ⟨f, hf, f0, f1⟩ := next_some l hb (s + 1 + 1 + 1 + 1) 5 (by omega) (by omega) (by omega)
  obtain ⟨c, hc, c0, c1⟩ := next_some l hb (s + 1 + 1 + 1 + 1 + 1) 12 (by omega) (by omega) (by omega)
  obtain ⟨p1, hp1, hp1m⟩ := pick_mem l hb (s + 1 + 1 + 1 + 1 + 1 + 1) (by omega) (by omega) [(-1), 1000000001] (by simp)
  obtain ⟨p2, hp2, hp2m⟩ := pick_mem l hb (s + 1 + 1 + 1 + 1 + 1 + 1) (by omega) (by omega) [3, (-3)] (by simp)
  have hp1b : -1 ≤ p1 ∧ p1 ≤ 1000000001 := by simp at hp1m; omega
  have hp2b : -3 ≤ p2 ∧ p2 ≤ 3 := by simp at hp2m; omega
  have m1 : wrap64 (wrap64 (n + d) - 2) = n + d - 2 := by rw [w64 (x := n + d) (by omega) (by omega), w64 (by omega) (by omega)]
  have m2 : wrap64 (wrap64 (n + f) - 2) = n + f - 2 := by rw [w64 (x := n + f) (by omega) (by omega), w64 (by omega) (by omega)]
  have m3 : wrap64 (n + p2) = n + p2 := w64 (by omega) (by omega)
  have hM1 : max 0 (n + d - 2) ≤ 2000000000 := by omega
  have hM2 : max 0 (n + f - 2) ≤ 2000000000 := by omega
  unfold spec_l13Clock.f
  rw [ha]
  simp only [Option.bind_some]
  rw [hb']
  simp only [Option.bind_some]
  rw [hn]
  simp only [Option.bind_some]
  rw [hd]
  simp only [Option.bind_some, m1, spec_max]
  rw [hf]
  simp only [Option.bind_some, m2, spec_max]
  rw [hc]
  simp only [Option.bind_some]
  generalize max 0 (n + d - 2) = M1 at *
  generalize max 0 (n + f - 2) = M2 at *
  by_cases k0 : c = 0
  · rw [if_pos k0, hp1]
    exact ⟨_, rfl, ⟨by show 0 ≤ s + 1 + 1 + 1 + 1 + 1 + 1 + 1; omega, by show s + 1 + 1 + 1 + 1 + 1 + 1 + 1 ≤ 2000; omega⟩, hp1b, by intro x hx; simp at hx; omega⟩
  · rw [if_neg k0]
    by_cases k1 : c = 1
    · rw [if_pos k1, if_pos (show (1 : Int) ≤ (([M1, M2] : List Int).length : Int) by simp)]
      exact ⟨_, rfl, ⟨by show 0 ≤ s + 1 + 1 + 1 + 1 + 1 + 1; omega, by show s + 1 + 1 + 1 + 1 + 1 + 1 ≤ 2000; omega⟩, ⟨by show -1 ≤ n; omega, by show n ≤ 1000000001; omega⟩, by intro x hx; simp at hx; omega⟩
    · rw [if_neg k1]
      by_cases k2 : c = 2
      · rw [if_pos k2, hp2]
        simp only [Option.bind_some]
        rw [if_pos (show (0 : Int) < (([M1, M2] : List Int).length : Int) by simp), m3]
        exact ⟨_, rfl, ⟨by show 0 ≤ s + 1 + 1 + 1 + 1 + 1 + 1 + 1; omega, by show s + 1 + 1 + 1 + 1 + 1 + 1 + 1 ≤ 2000; omega⟩, ⟨by show -1 ≤ n; omega, by show n ≤ 1000000001; omega⟩, by intro x hx; simp at hx; omega⟩
      · rw [if_neg k2]
        exact ⟨_, rfl, ⟨by show 0 ≤ s + 1 + 1 + 1 + 1 + 1 + 1; omega, by show s + 1 + 1 + 1 + 1 + 1 + 1 ≤ 2000; omega⟩, ⟨by show -1 ≤ n; omega, by show n ≤ 1000000001; omega⟩, by intro x hx; simp at hx; omega⟩
theorem tick_draw (l : List Int) (hb : isBytes l) : ∃ r, spec_DrawTickClock.f l = some r ∧ ∀ x ∈ r.2.1, x ≤ 2000000000 := by
  obtain ⟨⟨n, seen, p⟩, hr, ⟨p0, p1⟩, hn, hs⟩ := clock_draw l hb 0 (by omega) (by omega)
  simp only at p0 p1 hn hs
  obtain ⟨u, hu, u0, u1⟩ := next_some l hb p 5 p0 (by omega) (by omega)
  obtain ⟨v, hv, v0, v1⟩ := next_some l hb (p + 1) 5 (by omega) (by omega) (by omega)
  obtain ⟨c, hc, c0, c1⟩ := next_some l hb (p + 1 + 1) 12 (by omega) (by omega) (by omega)
  unfold spec_DrawTickClock.f spec_l1Source.f
  simp only [Option.bind_some]
  rw [hr]
  simp only [Option.bind_some]
  rw [hu]
  simp only [Option.bind_some]
  rw [hv]
  simp only [Option.bind_some]
  rw [hc]
  simp only [Option.bind_some]
  have three : ∀ q : Int, 0 ≤ q → q ≤ 5000 → ∀ off : List Int, ∃ r, ((spec_l1Next.f l q 9).bind fun bt196 => ((spec_l1Next.f l bt196.2 9).bind fun bt198 => ((spec_l1Pick.f l bt198.2 (([bt196.1, bt198.1, 1000, 1001, (-1)] : List Int))).bind fun bt203 => (some (n, seen, bt203.1, off) : Option (Int × List Int × Int × List Int))))) = some r ∧ ∀ x ∈ r.2.1, x ≤ 2000000000 := by
    intro q q0 q1 off
    obtain ⟨a, ha, a0, a1⟩ := next_some l hb q 9 q0 (by omega) (by omega)
    obtain ⟨b, hb', b0, b1⟩ := next_some l hb (q + 1) 9 (by omega) (by omega) (by omega)
    obtain ⟨z, hz, _⟩ := pick_mem l hb (q + 1 + 1) (by omega) (by omega) [a, b, 1000, 1001, (-1)] (by simp)
    rw [ha]
    simp only [Option.bind_some]
    rw [hb']
    simp only [Option.bind_some]
    rw [hz]
    exact ⟨_, rfl, hs⟩
  by_cases k0 : c = 0
  · rw [if_pos k0]
    obtain ⟨o, ho, _⟩ := pick_mem l hb (p + 1 + 1 + 1) (by omega) (by omega) [(-3), 3] (by simp)
    rw [ho]
    simp only [Option.bind_some]
    rw [if_pos (by simp)]
    exact three (p + 1 + 1 + 1 + 1) (by omega) (by omega) _
  · rw [if_neg k0]
    by_cases k1 : c = 1
    · rw [if_pos k1, if_pos (by simp)]
      exact three (p + 1 + 1 + 1) (by omega) (by omega) _
    · rw [if_neg k1]
      exact three (p + 1 + 1 + 1) (by omega) (by omega) _
theorem lease_draw (l : List Int) (hb : isBytes l) (s : Int) (h0 : 0 ≤ s) (h1 : s ≤ 1000) : ∃ r, spec_l13Lease.f l s = some r ∧ 0 ≤ r.2.2.2.2 ∧ r.2.2.2.2 ≤ 2000 := by
  obtain ⟨a, ha, a0, a1⟩ := next_some l hb s 2 h0 (by omega) (by omega)
  obtain ⟨b, hb', b0, b1⟩ := next_some l hb (s + 1) 5 (by omega) (by omega) (by omega)
  obtain ⟨d, hd, d0, d1⟩ := next_some l hb (s + 1 + 1) 40 (by omega) (by omega) (by omega)
  obtain ⟨f, hf, f0, f1⟩ := next_some l hb (s + 1 + 1 + 1) 9 (by omega) (by omega) (by omega)
  obtain ⟨c, hc, c0, c1⟩ := next_some l hb (s + 1 + 1 + 1 + 1) 14 (by omega) (by omega) (by omega)
  obtain ⟨p1, hp1, _⟩ := pick_mem l hb (s + 1 + 1 + 1 + 1 + 1) (by omega) (by omega) [(-1), 2] (by simp)
  obtain ⟨p2, hp2, _⟩ := pick_mem l hb (s + 1 + 1 + 1 + 1 + 1) (by omega) (by omega) [0, 1000, 1001] (by simp)
  obtain ⟨p3, hp3, _⟩ := pick_mem l hb (s + 1 + 1 + 1 + 1 + 1) (by omega) (by omega) [(-1), 1000000002, 1000000003] (by simp)
  unfold spec_l13Lease.f
  rw [ha]
  simp only [Option.bind_some]
  rw [hb']
  simp only [Option.bind_some]
  rw [hd]
  simp only [Option.bind_some]
  rw [hf]
  simp only [Option.bind_some, spec_max]
  rw [hc]
  simp only [Option.bind_some]
  by_cases k0 : c = 0
  · rw [if_pos k0, hp1]
    exact ⟨_, rfl, by show 0 ≤ s + 1 + 1 + 1 + 1 + 1 + 1; omega, by show s + 1 + 1 + 1 + 1 + 1 + 1 ≤ 2000; omega⟩
  · rw [if_neg k0]
    by_cases k1 : c = 1
    · rw [if_pos k1, hp2]
      exact ⟨_, rfl, by show 0 ≤ s + 1 + 1 + 1 + 1 + 1 + 1; omega, by show s + 1 + 1 + 1 + 1 + 1 + 1 ≤ 2000; omega⟩
    · rw [if_neg k1]
      by_cases k2 : c = 2
      · rw [if_pos k2, hp3]
        exact ⟨_, rfl, by show 0 ≤ s + 1 + 1 + 1 + 1 + 1 + 1; omega, by show s + 1 + 1 + 1 + 1 + 1 + 1 ≤ 2000; omega⟩
      · rw [if_neg k2]
        exact ⟨_, rfl, by show 0 ≤ s + 1 + 1 + 1 + 1 + 1; omega, by show s + 1 + 1 + 1 + 1 + 1 ≤ 2000; omega⟩
theorem grant_draw (l : List Int) (hb : isBytes l) : ∃ r, spec_DrawGrantLease.f l = some r := by
  obtain ⟨⟨h, e, a, d, p⟩, hr, p0, p1⟩ := lease_draw l hb 0 (by omega) (by omega)
  simp only at p0 p1
  obtain ⟨u, hu, _, _⟩ := next_some l hb p 9 p0 (by omega) (by omega)
  obtain ⟨v, hv, _, _⟩ := next_some l hb (p + 1) 9 (by omega) (by omega) (by omega)
  unfold spec_DrawGrantLease.f spec_l1Source.f
  simp only [Option.bind_some]
  rw [hr]
  simp only [Option.bind_some]
  rw [hu]
  simp only [Option.bind_some]
  rw [hv]
  exact ⟨_, rfl⟩

theorem in_spec (a b c : Int) : spec_l1In.f a b c = some (decide (b ≤ a ∧ a ≤ c)) := by
  unfold spec_l1In.f
  by_cases h : a ≥ b
  · rw [if_pos h]; congr 1; simp [h]
  · rw [if_neg h]; congr 1; simp; intro h'; omega
theorem in_impl : impl_in.f = spec_l1In.f := rfl

theorem leaseFault_same : impl_LeaseFault.f = spec_LeaseFault.f := by
  funext h e a d
  simp only [impl_LeaseFault.f, spec_LeaseFault.f, impl_isNode.f, impl_isEpoch.f, impl_isSeen.f, spec_l10Epoch.f, spec_l13Time.f, in_impl, in_spec, Option.bind_some]
/-- A lease is right. -/
def leaseOk (h e a d : Int) : Prop := (0 ≤ h ∧ h ≤ 1) ∧ (1 ≤ e ∧ e ≤ 1000) ∧ (0 ≤ a ∧ a ≤ 1000000002) ∧ (0 ≤ d ∧ d ≤ 1000000002)
instance (h e a d : Int) : Decidable (leaseOk h e a d) := by unfold leaseOk; exact inferInstance
theorem spec_lease (h e a d : Int) : spec_LeaseFault.f h e a d = some (if leaseOk h e a d then 0 else 3) := by
  unfold spec_LeaseFault.f spec_l10Epoch.f spec_l13Time.f
  simp only [in_spec, Option.bind_some, decide_eq_true_eq]
  by_cases h1 : 0 ≤ h ∧ h ≤ 1
  · by_cases h2 : 1 ≤ e ∧ e ≤ 1000
    · by_cases h3 : 0 ≤ a ∧ a ≤ 1000000002
      · by_cases h4 : 0 ≤ d ∧ d ≤ 1000000002
        · rw [if_pos h1, if_pos h2, if_pos h3, if_pos h4, if_pos (show leaseOk h e a d from ⟨h1, h2, h3, h4⟩)]
        · rw [if_pos h1, if_pos h2, if_pos h3, if_neg h4, if_neg (fun z : leaseOk h e a d => h4 z.2.2.2)]
      · rw [if_pos h1, if_pos h2, if_neg h3, if_neg (fun z : leaseOk h e a d => h3 z.2.2.1)]
    · rw [if_pos h1, if_neg h2, if_neg (fun z : leaseOk h e a d => h2 z.2.1)]
  · rw [if_neg h1, if_neg (fun z : leaseOk h e a d => h1 z.1)]

theorem grant_same : ∀ k, impl_GrantLease.f k = spec_GrantLease.f k := by
  intro k
  have hj : impl_GrantLease.j0 k = spec_GrantLease.j0 k := by cases k <;> rfl
  funext h e a d x y
  simp only [impl_GrantLease.f, spec_GrantLease.f, hj, leaseFault_same, impl_isSeen.f, spec_l13Time.f, in_impl, in_spec, Option.bind_some]
theorem grant_some (h e a d x y : Int) : ∃ r, Ev (fun k => spec_GrantLease.f k h e a d x y) r := by
  have hj : ∀ b : Bool, ∃ r, ∀ k, spec_GrantLease.j0 (k + 1) x y b h e a d = some r := by
    intro b
    simp only [spec_GrantLease.j0]
    split
    · exact ⟨_, fun _ => rfl⟩
    · split
      · exact ⟨_, fun _ => rfl⟩
      · split <;> exact ⟨_, fun _ => rfl⟩
  have key : ∃ r, ∀ k, spec_GrantLease.f (k + 1) h e a d x y = some r := by
    simp only [spec_GrantLease.f, spec_l13Time.f, spec_lease, in_spec, Option.bind_some]
    by_cases h1 : (if leaseOk h e a d then (0 : Int) else 3) = 0
    · obtain ⟨r1, e1⟩ := hj (!decide (0 ≤ y ∧ y ≤ 1000000002))
      obtain ⟨r2, e2⟩ := hj true
      by_cases h2 : decide (0 ≤ x ∧ x ≤ 1000000002) = true
      · exact ⟨r1, fun k => by rw [if_pos h1, if_pos h2]; exact e1 k⟩
      · exact ⟨r2, fun k => by rw [if_pos h1, if_neg h2]; exact e2 k⟩
    · exact ⟨_, fun k => by rw [if_neg h1]⟩
  obtain ⟨r, hr⟩ := key
  exact ⟨r, ev_from 1 hr⟩

def goodSeen (now p : Int) : Prop := 0 ≤ p ∧ -2 ≤ p - now ∧ p - now ≤ 2
instance (now p : Int) : Decidable (goodSeen now p) := by unfold goodSeen; exact inferInstance
/-- What is not right of a clock. -/
def clockM (now : Int) (l : List Int) : Int :=
  if 0 ≤ now ∧ now ≤ 1000000000 then (if l.length = 2 then (if goodSeen now (l.getD 0 0) ∧ goodSeen now (l.getD 1 0) then 0 else 3) else 1) else 3
theorem spec_clock_round (k : Nat) (now : Int) (l : List Int) (i : Nat) (hi : i < 2) (hl : l.length = 2) (h0 : 0 ≤ now) (h1 : now ≤ 1000000000) (hr : l.getD i 0 ≤ 9223372036854775807) :
    spec_ClockFault.l0 (k + 1) (i : Int) now l = if goodSeen now (l.getD i 0) then spec_ClockFault.l0 k ((i + 1 : Nat) : Int) now l else some 3 := by
  rw [spec_ClockFault.l0, if_pos (by omega), if_pos (by omega), if_pos (by omega), rd_nat]
  by_cases hn : l.getD i 0 < 0
  · rw [if_pos hn, if_neg (by unfold goodSeen; omega)]
  · rw [if_neg hn, in_spec, w64 (by omega) (by omega), w64 (by omega) (by omega)]
    simp only [Option.bind_some, decide_eq_true_eq]
    by_cases hg : goodSeen now (l.getD i 0)
    · rw [if_pos hg, if_pos (by unfold goodSeen at hg; omega)]; simp
    · rw [if_neg hg, if_neg (by unfold goodSeen at hg; omega)]
theorem impl_clock_round (k : Nat) (now : Int) (l : List Int) (i : Nat) (hi : i < 2) (hl : l.length = 2) (h0 : 0 ≤ now) (h1 : now ≤ 1000000000) :
    impl_ClockFault.l0 (k + 1) l (l.length : Int) (i : Int) now l = if goodSeen now (l.getD i 0) then impl_ClockFault.l0 k l (l.length : Int) ((i + 1 : Nat) : Int) now l else some 3 := by
  rw [impl_ClockFault.l0, if_pos (by omega), if_pos (by omega), if_pos (by omega), rd_nat, in_impl, in_spec, w64 (x := now - 2) (by omega) (by omega), w64 (x := now + 2) (by omega) (by omega), w64 (x := (i : Int) + 1) (by omega) (by omega)]
  simp only [Option.bind_some, decide_eq_true_eq]
  have hm : mx (now - 2) 0 = if now - 2 < 0 then 0 else now - 2 := rfl
  by_cases hg : goodSeen now (l.getD i 0)
  · rw [if_pos hg, if_pos (by unfold goodSeen at hg; rw [hm]; split <;> omega)]; simp
  · rw [if_neg hg, if_neg (by unfold goodSeen at hg; rw [hm]; split <;> omega)]
theorem spec_clock_ev (now : Int) (l : List Int) (hr : ∀ x ∈ l, x ≤ 9223372036854775807) : Ev (fun k => spec_ClockFault.f k now l) (clockM now l) := by
  refine ev_from 3 (fun k => ?_)
  unfold spec_ClockFault.f clockM
  rw [in_spec]
  simp only [Option.bind_some, decide_eq_true_eq]
  by_cases hn : 0 ≤ now ∧ now ≤ 1000000000
  · rw [if_pos hn, if_pos hn]
    by_cases hl : l.length = 2
    · rw [if_pos (by omega), if_pos hl]
      have g0 : l.getD 0 0 ≤ 9223372036854775807 := by
        rw [List.getD_eq_getElem?_getD, List.getElem?_eq_getElem (by omega)]; exact hr _ (List.getElem_mem _)
      have g1 : l.getD 1 0 ≤ 9223372036854775807 := by
        rw [List.getD_eq_getElem?_getD, List.getElem?_eq_getElem (by omega)]; exact hr _ (List.getElem_mem _)
      have e0 := spec_clock_round (k + 2) now l 0 (by omega) hl hn.1 hn.2 g0
      have e1 := spec_clock_round (k + 1) now l 1 (by omega) hl hn.1 hn.2 g1
      have e2 : spec_ClockFault.l0 (k + 1) ((1 + 1 : Nat) : Int) now l = some 0 := by rw [spec_ClockFault.l0, if_neg (by omega)]
      rw [show k + 3 = k + 2 + 1 from rfl, show (0 : Int) = ((0 : Nat) : Int) from rfl, e0]
      rw [show ((0 + 1 : Nat) : Int) = ((1 : Nat) : Int) from rfl, show k + 2 = k + 1 + 1 from rfl, e1, e2]
      by_cases h0 : goodSeen now (l.getD 0 0)
      · by_cases h1 : goodSeen now (l.getD 1 0)
        · rw [if_pos h0, if_pos h1, if_pos ⟨h0, h1⟩]
          all_goals rfl
        · rw [if_pos h0, if_neg h1, if_neg (fun z => h1 z.2)]
      · rw [if_neg h0, if_neg (fun z => h0 z.1)]
    · rw [if_neg (by omega), if_neg hl]
  · rw [if_neg hn, if_neg hn]
theorem impl_clock_ev (now : Int) (l : List Int) : Ev (fun k => impl_ClockFault.f k now l) (clockM now l) := by
  refine ev_from 3 (fun k => ?_)
  unfold impl_ClockFault.f clockM
  rw [in_impl, in_spec]
  simp only [Option.bind_some, decide_eq_true_eq]
  by_cases hn : 0 ≤ now ∧ now ≤ 1000000000
  · rw [if_pos hn, if_pos hn]
    by_cases hl : l.length = 2
    · rw [if_pos (by omega), if_pos hl]
      have e0 := impl_clock_round (k + 2) now l 0 (by omega) hl hn.1 hn.2
      have e1 := impl_clock_round (k + 1) now l 1 (by omega) hl hn.1 hn.2
      have e2 : impl_ClockFault.l0 (k + 1) l (l.length : Int) ((1 + 1 : Nat) : Int) now l = some 0 := by rw [impl_ClockFault.l0, if_neg (by omega)]
      rw [show k + 3 = k + 2 + 1 from rfl, show (0 : Int) = ((0 : Nat) : Int) from rfl, e0]
      rw [show ((0 + 1 : Nat) : Int) = ((1 : Nat) : Int) from rfl, show k + 2 = k + 1 + 1 from rfl, e1, e2]
      by_cases h0 : goodSeen now (l.getD 0 0)
      · by_cases h1 : goodSeen now (l.getD 1 0)
        · rw [if_pos h0, if_pos h1, if_pos ⟨h0, h1⟩]
          all_goals rfl
        · rw [if_pos h0, if_neg h1, if_neg (fun z => h1 z.2)]
      · rw [if_neg h0, if_neg (fun z => h0 z.1)]
    · rw [if_neg (by omega), if_neg hl]
  · rw [if_neg hn, if_neg hn]

def offOk (x : Int) : Prop := -2 ≤ x ∧ x ≤ 2
instance (x : Int) : Decidable (offOk x) := by unfold offOk; exact inferInstance
/-- What time going by does to a clock. -/
def tickM (now : Int) (seen : List Int) (by_ : Int) (off : List Int) : Int × Int × List Int :=
  if clockM now seen = 0 then
    (if 0 ≤ by_ ∧ by_ ≤ 1000 then
      (if now + by_ > 1000000000 then (3, 0, []) else
        (if off.length = 2 then
          (if offOk (off.getD 0 0) ∧ offOk (off.getD 1 0) then (0, now + by_, [max (seen.getD 0 0) (max 0 (now + by_ + off.getD 0 0)), max (seen.getD 1 0) (max 0 (now + by_ + off.getD 1 0))])
          else (3, 0, []))
        else (1, 0, [])))
    else (3, 0, []))
  else (clockM now seen, 0, [])
theorem clockM_zero {now : Int} {l : List Int} (h : clockM now l = 0) : (0 ≤ now ∧ now ≤ 1000000000) ∧ l.length = 2 ∧ goodSeen now (l.getD 0 0) ∧ goodSeen now (l.getD 1 0) := by
  unfold clockM at h
  split at h
  · split at h
    · split at h
      · exact ⟨by assumption, by assumption, by assumption⟩
      · omega
    · omega
  · omega
theorem tick_spec_round (k : Nat) (off : List Int) (i : Nat) (now : Int) (seen : List Int) (t : Int) (out : List Int) (hi : i < 2) (ho : off.length = 2) (hs : seen.length = 2) (ht : 0 ≤ t ∧ t ≤ 1000000000) (hl : out.length < 17592186044416) :
    spec_TickClock.l0 (k + 1) off (i : Int) now seen t out = if offOk (off.getD i 0) then spec_TickClock.l0 k off ((i + 1 : Nat) : Int) now seen t (out ++ [max (seen.getD i 0) (max 0 (t + off.getD i 0))]) else some (3, 0, []) := by
  rw [spec_TickClock.l0, if_pos (by omega), if_pos (by omega), if_pos (by omega), rd_nat, in_spec]
  simp only [Option.bind_some, decide_eq_true_eq]
  by_cases hg : offOk (off.getD i 0)
  · have hg' := hg
    unfold offOk at hg'
    rw [if_pos hg, if_pos hg', if_pos (by omega), spec_max, w64 (x := t + off.getD i 0) (by omega) (by omega)]
    simp only [Option.bind_some]
    rw [spec_max, rd_nat]
    simp only [Option.bind_some]
    rw [if_pos hl, w64 (by omega) (by omega)]
    simp
  · rw [if_neg hg, if_neg (show ¬ (-2 ≤ off.getD i 0 ∧ off.getD i 0 ≤ 2) from hg)]
theorem tick_impl_round (k : Nat) (off : List Int) (i : Nat) (now : Int) (seen : List Int) (t : Int) (out : List Int) (hi : i < 2) (ho : off.length = 2) (hs : seen.length = 2) (ht : 0 ≤ t ∧ t ≤ 1000000000) (hl : out.length < 17592186044416) :
    impl_TickClock.l0 (k + 1) off (off.length : Int) (i : Int) now seen t out = if offOk (off.getD i 0) then impl_TickClock.l0 k off (off.length : Int) ((i + 1 : Nat) : Int) now seen t (out ++ [max (seen.getD i 0) (max 0 (t + off.getD i 0))]) else some (3, 0, []) := by
  rw [impl_TickClock.l0, if_pos (by omega), if_pos (by omega), if_pos (by omega), rd_nat, in_impl, in_spec]
  simp only [Option.bind_some, decide_eq_true_eq]
  by_cases hg : offOk (off.getD i 0)
  · have hg' := hg
    unfold offOk at hg'
    rw [if_pos hg, if_pos hg', if_pos (by omega), w64 (x := t + off.getD i 0) (by omega) (by omega), rd_nat, mx_max, mx_max, if_pos hl, w64 (by omega) (by omega)]
    have e : max (max (seen.getD i 0) (t + off.getD i 0)) 0 = max (seen.getD i 0) (max 0 (t + off.getD i 0)) := by omega
    rw [e]
    simp
  · rw [if_neg hg, if_neg (show ¬ (-2 ≤ off.getD i 0 ∧ off.getD i 0 ≤ 2) from hg)]
theorem tick_spec_ev (now : Int) (seen : List Int) (by_ : Int) (off : List Int) (hr : ∀ x ∈ seen, x ≤ 9223372036854775807) : Ev (fun k => spec_TickClock.f k now seen by_ off) (tickM now seen by_ off) := by
  unfold spec_TickClock.f tickM
  refine ev_bind (spec_clock_ev now seen hr) ?_
  by_cases hc : clockM now seen = 0
  · obtain ⟨hn, hs, hg0, hg1⟩ := clockM_zero hc
    rw [if_pos hc]
    refine ev_pos hc ?_
    simp only [in_spec, Option.bind_some, decide_eq_true_eq]
    by_cases hb : 0 ≤ by_ ∧ by_ ≤ 1000
    · rw [if_pos hb]
      refine ev_pos hb ?_
      refine ev_from 4 (fun k => ?_)
      rw [w64 (by omega) (by omega), show k + 4 = k + 3 + 1 from rfl, spec_TickClock.j0]
      by_cases ht : now + by_ > 1000000000
      · rw [if_pos (by simpa using ht), if_pos ht]
      · rw [if_neg (by simpa using ht), if_neg ht]
        by_cases ho : off.length = 2
        · rw [if_pos (by omega), if_pos ho, w64 (by omega) (by omega)]
          have e0 := tick_spec_round (k + 2) off 0 now seen (now + by_) [] (by omega) ho hs (by omega) (by simp)
          rw [show (0 : Int) = ((0 : Nat) : Int) from rfl, show k + 3 = k + 2 + 1 from rfl, e0]
          by_cases h0 : offOk (off.getD 0 0)
          · rw [if_pos h0]
            have e1 := tick_spec_round (k + 1) off 1 now seen (now + by_) ([] ++ [max (seen.getD 0 0) (max 0 (now + by_ + off.getD 0 0))]) (by omega) ho hs (by omega) (by simp)
            rw [show ((0 + 1 : Nat) : Int) = ((1 : Nat) : Int) from rfl, show k + 2 = k + 1 + 1 from rfl, e1]
            by_cases h1 : offOk (off.getD 1 0)
            · rw [if_pos h1, if_pos ⟨h0, h1⟩, spec_TickClock.l0, if_neg (by omega)]
              simp
            · rw [if_neg h1, if_neg (fun z => h1 z.2)]; rfl
          · rw [if_neg h0, if_neg (fun z => h0 z.1)]; rfl
        · rw [if_neg (by omega), if_neg ho]
    · rw [if_neg hb]
      refine ev_neg hb (ev_from 1 (fun k => ?_))
      rw [spec_TickClock.j0, if_pos rfl]
  · rw [if_neg hc]
    exact ev_neg hc (Ev.now _)
theorem tick_impl_ev (now : Int) (seen : List Int) (by_ : Int) (off : List Int) : Ev (fun k => impl_TickClock.f k now seen by_ off) (tickM now seen by_ off) := by
  unfold impl_TickClock.f tickM
  refine ev_bind (impl_clock_ev now seen) ?_
  by_cases hc : clockM now seen = 0
  · obtain ⟨hn, hs, hg0, hg1⟩ := clockM_zero hc
    rw [if_pos hc]
    refine ev_pos hc ?_
    simp only [in_impl, in_spec, Option.bind_some, decide_eq_true_eq]
    by_cases hb : 0 ≤ by_ ∧ by_ ≤ 1000
    · rw [if_pos hb]
      refine ev_pos hb ?_
      refine ev_from 4 (fun k => ?_)
      rw [w64 (by omega) (by omega), show k + 4 = k + 3 + 1 from rfl, impl_TickClock.j0]
      by_cases ht : now + by_ > 1000000000
      · rw [if_pos (by simpa using ht), if_pos ht]
      · rw [if_neg (by simpa using ht), if_neg ht]
        by_cases ho : off.length = 2
        · rw [if_pos (by omega), if_pos ho, w64 (by omega) (by omega)]
          have e0 := tick_impl_round (k + 2) off 0 now seen (now + by_) [] (by omega) ho hs (by omega) (by simp)
          rw [show (0 : Int) = ((0 : Nat) : Int) from rfl, show k + 3 = k + 2 + 1 from rfl, e0]
          by_cases h0 : offOk (off.getD 0 0)
          · rw [if_pos h0]
            have e1 := tick_impl_round (k + 1) off 1 now seen (now + by_) ([] ++ [max (seen.getD 0 0) (max 0 (now + by_ + off.getD 0 0))]) (by omega) ho hs (by omega) (by simp)
            rw [show ((0 + 1 : Nat) : Int) = ((1 : Nat) : Int) from rfl, show k + 2 = k + 1 + 1 from rfl, e1]
            by_cases h1 : offOk (off.getD 1 0)
            · rw [if_pos h1, if_pos ⟨h0, h1⟩, impl_TickClock.l0, if_neg (by omega)]
              simp
            · rw [if_neg h1, if_neg (fun z => h1 z.2)]; rfl
          · rw [if_neg h0, if_neg (fun z => h0 z.1)]; rfl
        · rw [if_neg (by omega), if_neg ho]
    · rw [if_neg hb]
      refine ev_neg hb (ev_from 1 (fun k => ?_))
      rw [impl_TickClock.j0, if_pos rfl]
  · rw [if_neg hc]
    exact ev_neg hc (Ev.now _)

def grantM (h e a d x y : Int) : Int × Int × Int × Int × Int :=
  if leaseOk h e a d then (if 0 ≤ x ∧ x ≤ 1000000002 then (if 0 ≤ y ∧ y ≤ 1000000002 then (if x < a then (9, 0, 0, 0, 0) else (if y < d then (9, 0, 0, 0, 0) else (0, h, e, x, y))) else (3, 0, 0, 0, 0)) else (3, 0, 0, 0, 0)) else (3, 0, 0, 0, 0)
theorem grant_ev (h e a d x y : Int) : Ev (fun k => spec_GrantLease.f k h e a d x y) (grantM h e a d x y) := by
  refine ev_from 1 (fun k => ?_)
  unfold spec_GrantLease.f grantM spec_l13Time.f
  simp only [spec_lease, in_spec, Option.bind_some, decide_eq_true_eq]
  by_cases h1 : leaseOk h e a d
  · rw [if_pos h1, if_pos h1, if_pos rfl]
    by_cases h2 : 0 ≤ x ∧ x ≤ 1000000002
    · rw [if_pos h2, if_pos h2, spec_GrantLease.j0]
      by_cases h3 : 0 ≤ y ∧ y ≤ 1000000002
      · rw [if_pos h3, if_neg (by simp [h3])]
        repeat' split
        all_goals rfl
      · rw [if_neg h3, if_pos (by simp; omega)]
    · rw [if_neg h2, if_neg h2, spec_GrantLease.j0, if_pos rfl]
  · rw [if_neg h1, if_neg h1, if_neg (by omega)]
theorem grantM_zero {h e a d x y : Int} (hz : (grantM h e a d x y).1 = 0) : grantM h e a d x y = (0, h, e, x, y) ∧ leaseOk h e x y ∧ a ≤ x := by
  unfold grantM at hz ⊢
  by_cases h1 : leaseOk h e a d
  · rw [if_pos h1] at hz ⊢
    by_cases h2 : 0 ≤ x ∧ x ≤ 1000000002
    · rw [if_pos h2] at hz ⊢
      by_cases h3 : 0 ≤ y ∧ y ≤ 1000000002
      · rw [if_pos h3] at hz ⊢
        by_cases h4 : x < a
        · rw [if_pos h4] at hz; simp at hz
        · rw [if_neg h4] at hz ⊢
          by_cases h5 : y < d
          · rw [if_pos h5] at hz; simp at hz
          · rw [if_neg h5]
            obtain ⟨q1, q2, _, _⟩ := h1
            exact ⟨rfl, ⟨q1, q2, h2, h3⟩, by omega⟩
      · rw [if_neg h3] at hz; simp at hz
    · rw [if_neg h2] at hz; simp at hz
  · rw [if_neg h1] at hz; simp at hz
theorem tickM_zero {now : Int} {seen : List Int} {by_ : Int} {off : List Int} (hz : (tickM now seen by_ off).1 = 0) :
    ∃ T a b, tickM now seen by_ off = (0, T, [a, b]) ∧ T = now + by_ ∧ (0 ≤ T ∧ T ≤ 1000000000) ∧ (0 ≤ now ∧ now ≤ 1000000000) ∧ (0 ≤ by_ ∧ by_ ≤ 1000) ∧ seen.length = 2 ∧ seen.getD 0 0 ≤ a ∧ seen.getD 1 0 ≤ b ∧ goodSeen T a ∧ goodSeen T b := by
  unfold tickM at hz ⊢
  by_cases h1 : clockM now seen = 0
  · rw [if_pos h1] at hz ⊢
    obtain ⟨hn, hl, g0, g1⟩ := clockM_zero h1
    by_cases h2 : 0 ≤ by_ ∧ by_ ≤ 1000
    · rw [if_pos h2] at hz ⊢
      by_cases h3 : now + by_ > 1000000000
      · rw [if_pos h3] at hz; simp at hz
      · rw [if_neg h3] at hz ⊢
        by_cases h4 : off.length = 2
        · rw [if_pos h4] at hz ⊢
          by_cases h5 : offOk (off.getD 0 0) ∧ offOk (off.getD 1 0)
          · rw [if_pos h5]
            obtain ⟨o0, o1⟩ := h5
            unfold offOk at o0 o1
            unfold goodSeen at g0 g1
            exact ⟨now + by_, _, _, rfl, rfl, by omega, hn, h2, hl, by omega, by omega, by unfold goodSeen; omega, by unfold goodSeen; omega⟩
          · rw [if_neg h5] at hz; simp at hz
        · rw [if_neg h4] at hz; simp at hz
    · rw [if_neg h2] at hz; simp at hz
  · rw [if_neg h1] at hz; exact absurd hz h1
theorem clocks_round (l : List Int) (by_ now : Int) (seen : List Int) (c T : Int) (a b : Int) (i : Nat) (hi : i < 2) (hs : seen.length = 2) (hle : seen.getD i 0 ≤ ([a, b] : List Int).getD i 0) (hT : 0 ≤ T ∧ T ≤ 1000000000) (hg : goodSeen T (([a, b] : List Int).getD i 0)) {r : Bool}
    (h : Ev (fun k => laws_FnClocks.l0 k l by_ ((i + 1 : Nat) : Int) now seen c T [a, b]) r) : Ev (fun k => laws_FnClocks.l0 k l by_ (i : Int) now seen c T [a, b]) r := by
  refine Ev.step (fun k => ?_) h
  unfold goodSeen at hg
  rw [laws_FnClocks.l0, if_pos (by omega), if_pos (by simp), if_pos (by omega), if_pos (by simp; omega), if_pos (by omega), rd_nat, rd_nat]
  generalize ([a, b] : List Int).getD i 0 = z at *
  generalize seen.getD i 0 = y at *
  rw [if_neg (by omega), w64 (x := z - T) (by omega) (by omega), w64 (x := T - z) (by omega) (by omega), if_neg (by omega), if_neg (by omega), w64 (by omega) (by omega)]
  rfl
theorem FnClocks : ∀ (a0 : List Int), (a0.length ≤ 9223372036854775807 ∧ ∀ x ∈ a0, (Lit.int .u8 x).wf = true) → ∃ k, laws_FnClocks.f k a0 = some true := by
  intro l ⟨_, hall⟩
  have hb : isBytes l := fun x hx => bounds_u8 (hall x hx)
  by_cases hbig : (l.length : Int) > 1048576
  · refine ⟨0, ?_⟩
    unfold laws_FnClocks.f laws_lwBig.f
    simp only [Option.bind_some, hbig, decide_true]
    rfl
  · refine Ev.rounds ?_
    obtain ⟨⟨now, seen, by_, off⟩, hD, hs⟩ := tick_draw l hb
    simp only at hs
    obtain ⟨⟨h, e, a, d, x, y⟩, hG⟩ := grant_draw l hb
    unfold laws_FnClocks.f laws_lwBig.f
    refine ev_val rfl (ev_neg (by simpa using hbig) (ev_val hD (ev_bind (tick_impl_ev now seen by_ off) ?_)))
    by_cases hz : (tickM now seen by_ off).1 = 0
    · refine ev_pos hz ?_
      obtain ⟨T, p, q, ht, hT, hTb, hn, hby, hl, h0, h1, g0, g1⟩ := tickM_zero hz
      rw [ht]
      refine clocks_round l by_ now seen 0 T p q 0 (by omega) hl h0 hTb g0 (clocks_round l by_ now seen 0 T p q 1 (by omega) hl h1 hTb g1 ?_)
      refine Ev.step (fun k => by rw [laws_FnClocks.l0, if_neg (by omega)]) ?_
      refine ev_val hG ?_
      simp only [grant_same]
      refine ev_bind (grant_ev h e a d x y) ?_
      by_cases hg : (grantM h e a d x y).1 = 0
      · obtain ⟨hgm, hok, hax⟩ := grantM_zero hg
        refine ev_pos hg ?_
        have hc : clockM T [p, q] = 0 := by
          unfold clockM
          rw [if_pos hTb, if_pos (show ([p, q] : List Int).length = 2 from rfl), if_pos (show goodSeen T (([p, q] : List Int).getD 0 0) ∧ goodSeen T (([p, q] : List Int).getD 1 0) from ⟨g0, g1⟩)]
        refine ev_bind (impl_clock_ev T [p, q]) (ev_pos hc (ev_pos (by rw [w64 (by omega) (by omega)]; exact hT) ?_))
        rw [hgm, leaseFault_same]
        have hL : spec_LeaseFault.f h e x y = some 0 := by rw [spec_lease, if_pos hok]
        exact ev_val hL (ev_pos rfl (ev_pos hax (ev_eq (Ev.now _) (by simp))))
      · refine ev_neg hg (ev_bind (grant_ev h e a d x y) (ev_eq (Ev.now _) (by simp)))
    · refine ev_neg hz (ev_bind (tick_spec_ev now seen by_ off (fun z hz' => by have := hs z hz'; omega)) (ev_eq (Ev.now _) (by simp)))

end Go.Proofs.Ytjbeehechclccab.Pure
