-- Laid by a turned copy of the printer (wip/tools/patch_print.py)
import Derived.Test.YtgfoifkkffffgacPFnExactPackMessagex0
import Derived.Test.YtgfoifkkffffgacPFnExactPackMessagex1
namespace Go.Proofs.Ytgfoifkkffffgac.PFnExactPackMessage
open Go.RowKit Go.Proofs.YtgfoifkkffffgacW.PrintWords Go.Proofs.YtgfoifkkffffgacW.PrintLast Go.Proofs.YtgfoifkkffffgacW.PrintMore
attribute [local go_sem] max2_int min2_int max_two min_two max_three min_three max_four min_four   -- for this text's walks alone
set_option linter.unusedVariables false
set_option linter.unusedSimpArgs false

/-! ### spec_AttrsFault: function 79 -/
mutual
def spec_AttrsFault.j0 : Nat → Bool → Int → List Int → Int → Int → Int → Option (Int)
 | 0, _, _, _, _, _, _ => none
 | k + 1, x25, x119000, x119001, x119002, x119003, x119004 => if x25 = true then (some 3) else (if (x119001.length : Int) > 6 then (some 2) else (spec_AttrsFault.l0 k 0 x119000 x119001 x119002 x119003 x119004))
def spec_AttrsFault.l0 : Nat → Int → Int → List Int → Int → Int → Int → Option (Int)
 | 0, _, _, _, _, _, _ => none
 | k + 1, x3, x119000, x119001, x119002, x119003, x119004 => if x3 < (x119001.length : Int) then (if 0 ≤ x3 then ((spec_l1In.f (rd x119001 x3) 1 65535).bind fun t124 => (if t124 = true then (spec_AttrsFault.l0 k (wrap64 (x3 + 1)) x119000 x119001 x119002 x119003 x119004) else (some 3))) else (none)) else (some 0)
end
def spec_AttrsFault.f (k : Nat) (a0_0 : Int) (l0_1 : List Int) (a0_2 : Int) (a0_3 : Int) (a0_4 : Int) : Option (Int) := (spec_l1In.f a0_0 0 2).bind fun t119 => (if t119 = true then ((spec_l3Word.f a0_2).bind fun t120 => (if t120 = true then ((spec_l3Word.f a0_3).bind fun t121 => (if t121 = true then ((spec_l3Word.f a0_4).bind fun t122 => (spec_AttrsFault.j0 k (!t122) a0_0 l0_1 a0_2 a0_3 a0_4)) else (spec_AttrsFault.j0 k true a0_0 l0_1 a0_2 a0_3 a0_4))) else (spec_AttrsFault.j0 k true a0_0 l0_1 a0_2 a0_3 a0_4))) else (spec_AttrsFault.j0 k true a0_0 l0_1 a0_2 a0_3 a0_4))
theorem spec_AttrsFault.mono_l : ∀ k, (∀ y0 y1 y2 y3 y4 y5, LeO (spec_AttrsFault.j0 k y0 y1 y2 y3 y4 y5) (spec_AttrsFault.j0 (k + 1) y0 y1 y2 y3 y4 y5)) ∧ (∀ y0 y1 y2 y3 y4 y5, LeO (spec_AttrsFault.l0 k y0 y1 y2 y3 y4 y5) (spec_AttrsFault.l0 (k + 1) y0 y1 y2 y3 y4 y5))
 | 0 => ⟨fun _ _ _ _ _ _ r h => by simp [spec_AttrsFault.j0] at h, fun _ _ _ _ _ _ r h => by simp [spec_AttrsFault.l0] at h⟩
 | k + 1 => by
  obtain ⟨ih0, ih1⟩ := spec_AttrsFault.mono_l k
  refine ⟨?_, ?_⟩
  ·
   intro y0 y1 y2 y3 y4 y5
   unfold spec_AttrsFault.j0
   repeat' first
   | (with_reducible exact ih0 _ _ _ _ _ _)
   | (with_reducible exact ih1 _ _ _ _ _ _)
   | (with_reducible exact LeO.refl _)
   | (with_reducible exact LeO.none _)
   | (with_reducible refine LeO.ite ?_ ?_)
   | (with_reducible refine LeO.bind ?_ (fun _ => ?_))
   | exact ih0 _ _ _ _ _ _
   | exact ih1 _ _ _ _ _ _
   | exact LeO.none _
   | refine LeO.ite ?_ ?_
   | refine LeO.bind ?_ (fun _ => ?_)
  ·
   intro y0 y1 y2 y3 y4 y5
   unfold spec_AttrsFault.l0
   repeat' first
   | (with_reducible exact ih0 _ _ _ _ _ _)
   | (with_reducible exact ih1 _ _ _ _ _ _)
   | (with_reducible exact LeO.refl _)
   | (with_reducible exact LeO.none _)
   | (with_reducible refine LeO.ite ?_ ?_)
   | (with_reducible refine LeO.bind ?_ (fun _ => ?_))
   | exact ih0 _ _ _ _ _ _
   | exact ih1 _ _ _ _ _ _
   | exact LeO.none _
   | refine LeO.ite ?_ ?_
   | refine LeO.bind ?_ (fun _ => ?_)
theorem spec_AttrsFault.mono : ∀ a0 a1 a2 a3 a4 k, LeO (spec_AttrsFault.f k a0 a1 a2 a3 a4) (spec_AttrsFault.f (k + 1) a0 a1 a2 a3 a4) := by
 intro a0 a1 a2 a3 a4 k
 obtain ⟨ih0, ih1⟩ := spec_AttrsFault.mono_l k
 unfold spec_AttrsFault.f
 repeat' first
   | (with_reducible exact ih0 _ _ _ _ _ _)
   | (with_reducible exact ih1 _ _ _ _ _ _)
   | (with_reducible exact LeO.refl _)
   | (with_reducible exact LeO.none _)
   | (with_reducible refine LeO.ite ?_ ?_)
   | (with_reducible refine LeO.bind ?_ (fun _ => ?_))
   | exact ih0 _ _ _ _ _ _
   | exact ih1 _ _ _ _ _ _
   | exact LeO.none _
   | refine LeO.ite ?_ ?_
   | refine LeO.bind ?_ (fun _ => ?_)
set_option maxHeartbeats 8000000 in
set_option maxRecDepth 100000 in
theorem spec_AttrsFault.calls (k : Nat) (a0_0 : Int) (A0_1 : Option Addr) (c0_1 : Nat) (l0_1 : List Int) (a0_2 : Int) (a0_3 : Int) (a0_4 : Int) (r : Int) (w : World) (hr0_1 : Kd.C (Kd.int .i64) w A0_1 l0_1.length l0_1) (hc0_1 : l0_1.length ≤ c0_1) (h : spec_AttrsFault.f k a0_0 l0_1 a0_2 a0_3 a0_4 = some r) :
  Calls Try.prog 79 #[.agg #[.int .i64 a0_0, .slice A0_1 l0_1.length c0_1, .int .i64 a0_2, .int .i64 a0_3, .int .i64 a0_4]] w fun e w' => e = .returned (.int .i64 r) ∧ Below w.heap.size w w' := by
 have hu36 := Try.underlying36
 have HR0_1 := Aside0.mk hr0_1
 have HC0_1 := Aside0.mk hc0_1
 clear hr0_1 hc0_1
 have HB := Aside0.mk (Below.refl w.heap.size w)
 have H : ((spec_l1In.f a0_0 0 2).bind fun t119 => (if t119 = true then ((spec_l3Word.f a0_2).bind fun t120 => (if t120 = true then ((spec_l3Word.f a0_3).bind fun t121 => (if t121 = true then ((spec_l3Word.f a0_4).bind fun t122 => (spec_AttrsFault.j0 k (!t122) a0_0 l0_1 a0_2 a0_3 a0_4)) else (spec_AttrsFault.j0 k true a0_0 l0_1 a0_2 a0_3 a0_4))) else (spec_AttrsFault.j0 k true a0_0 l0_1 a0_2 a0_3 a0_4))) else (spec_AttrsFault.j0 k true a0_0 l0_1 a0_2 a0_3 a0_4))) = some r := h
 clear h
 have HC2 := Aside0.mk H
 clear H
 go_enter Try.func79, Try.ntmps79
 go_upto_region 1 with (first | ((with_reducible refine gate_dst (N := 1) rfl ?_); refine boxE #[.int .i64 a0_0, .slice A0_1 l0_1.length c0_1, .int .i64 a0_2, .int .i64 a0_3, .int .i64 a0_4] 36 (N := 1) rfl rfl ?_; intro gb118 hg w3 hbox hb; have BK118 := Aside0.mk hbox; have GW118 := gZ HB hg; have GE118 := gZ HB hg; replace HB := bS HB hb; clear hb hbox hg))
 (try simp only [Act.put, List.setIfInBounds_toArray, List.set_cons_zero, List.set_cons_succ])
 go_cut [25] (fun v25 wc => ∃ (kq : Nat) (x25_1 : Bool), v25 = .bool x25_1 ∧ Aside0 (spec_AttrsFault.j0 kq x25_1 a0_0 l0_1 a0_2 a0_3 a0_4 = some r) ∧ Aside0 (kq ≤ k) ∧ Aside0 (wc.heap[gb118]? = some (.cells #[.int .i64 a0_0, (.slice A0_1 l0_1.length c0_1), .int .i64 a0_2, .int .i64 a0_3, .int .i64 a0_4] 36 (0, 0))) ∧ Aside0 (Below w.heap.size w wc))
 case first =>
  have H := HC2.out
  clear HC2
  replace H := Option.bind_eq_some_iff.mp H
  obtain ⟨t119, A40, H⟩ := H
  replace H : (if t119 = true then ((spec_l3Word.f a0_2).bind fun t120 => (if t120 = true then ((spec_l3Word.f a0_3).bind fun t121 => (if t121 = true then ((spec_l3Word.f a0_4).bind fun t122 => (spec_AttrsFault.j0 k (!t122) a0_0 l0_1 a0_2 a0_3 a0_4)) else (spec_AttrsFault.j0 k true a0_0 l0_1 a0_2 a0_3 a0_4))) else (spec_AttrsFault.j0 k true a0_0 l0_1 a0_2 a0_3 a0_4))) else (spec_AttrsFault.j0 k true a0_0 l0_1 a0_2 a0_3 a0_4)) = some r := H
  have A4 := Aside0.mk A40
  clear A40
  have H' := Aside0.mk H
  clear H
  have hz5 := cl5 BK118
  repeat (first | ((with_reducible refine gate_callee (f := 103) rfl ?_); refine goA (some 6) rfl rfl Try.func103 rfl #[.int .i64 a0_0, .int .i64 0, .int .i64 2] rfl ?_; (with_reducible refine (spec_l1In.calls a0_0 0 2 t119 _ A4.out).mono ?_); rintro e w' ⟨rfl, ⟨nd, rfl⟩⟩; refine ⟨_, rfl, ?_⟩) | go_values | go_skip | ((with_reducible refine gateG ?gw ?_); (case gw => rfl)) | refine wpList_skip (by rfl) ?_ | refine wp_cond_true rfl ?_ | refine wp_cond_false rfl ?_ | (with_reducible refine iteTr (by first | assumption | omega) ?_) | (with_reducible refine iteFl (by first | assumption | omega) ?_) | ((fail_if_success (with_reducible refine condP ?_)); (fail_if_success (with_reducible refine iteP ?_)); (fail_if_success (with_reducible refine grdP ?_)); go_step) | go_upon | (simp only [Int.not_lt, Int.not_le] at *; go_simp))
  have H := H'.out
  clear H'
  by_cases c6 : t119 = true
  ·
   subst c6
   have H1 : ((spec_l3Word.f a0_2).bind fun t120 => (if t120 = true then ((spec_l3Word.f a0_3).bind fun t121 => (if t121 = true then ((spec_l3Word.f a0_4).bind fun t122 => (spec_AttrsFault.j0 k (!t122) a0_0 l0_1 a0_2 a0_3 a0_4)) else (spec_AttrsFault.j0 k true a0_0 l0_1 a0_2 a0_3 a0_4))) else (spec_AttrsFault.j0 k true a0_0 l0_1 a0_2 a0_3 a0_4))) = some r := by rw [if_pos rfl] at H; first | done | exact H
   clear H
   have H := H1
   clear H1
   replace H := Option.bind_eq_some_iff.mp H
   obtain ⟨t120, A70, H⟩ := H
   replace H : (if t120 = true then ((spec_l3Word.f a0_3).bind fun t121 => (if t121 = true then ((spec_l3Word.f a0_4).bind fun t122 => (spec_AttrsFault.j0 k (!t122) a0_0 l0_1 a0_2 a0_3 a0_4)) else (spec_AttrsFault.j0 k true a0_0 l0_1 a0_2 a0_3 a0_4))) else (spec_AttrsFault.j0 k true a0_0 l0_1 a0_2 a0_3 a0_4)) = some r := H
   have A7 := Aside0.mk A70
   clear A70
   have H' := Aside0.mk H
   clear H
   have hz8 := cl5 BK118
   repeat (first | (go_at_call 138; (with_reducible refine (spec_l3Word.calls a0_2 t120 _ A7.out).mono ?_); rintro e w' ⟨rfl, ⟨nd, rfl⟩⟩) | go_values | go_skip | ((with_reducible refine gateG ?gw ?_); (case gw => rfl)) | refine wpList_skip (by rfl) ?_ | refine wp_cond_true rfl ?_ | refine wp_cond_false rfl ?_ | (with_reducible refine iteTr (by first | assumption | omega) ?_) | (with_reducible refine iteFl (by first | assumption | omega) ?_) | ((fail_if_success (with_reducible refine condP ?_)); (fail_if_success (with_reducible refine iteP ?_)); (fail_if_success (with_reducible refine grdP ?_)); go_step) | go_upon | (simp only [Int.not_lt, Int.not_le] at *; go_simp))
   have H := H'.out
   clear H'
   by_cases c9 : t120 = true
   ·
    subst c9
    have H1 : ((spec_l3Word.f a0_3).bind fun t121 => (if t121 = true then ((spec_l3Word.f a0_4).bind fun t122 => (spec_AttrsFault.j0 k (!t122) a0_0 l0_1 a0_2 a0_3 a0_4)) else (spec_AttrsFault.j0 k true a0_0 l0_1 a0_2 a0_3 a0_4))) = some r := by rw [if_pos rfl] at H; first | done | exact H
    clear H
    have H := H1
    clear H1
    replace H := Option.bind_eq_some_iff.mp H
    obtain ⟨t121, A100, H⟩ := H
    replace H : (if t121 = true then ((spec_l3Word.f a0_4).bind fun t122 => (spec_AttrsFault.j0 k (!t122) a0_0 l0_1 a0_2 a0_3 a0_4)) else (spec_AttrsFault.j0 k true a0_0 l0_1 a0_2 a0_3 a0_4)) = some r := H
    have A10 := Aside0.mk A100
    clear A100
    have H' := Aside0.mk H
    clear H
    have hz11 := cl5 BK118
    repeat (first | (go_at_call 138; (with_reducible refine (spec_l3Word.calls a0_3 t121 _ A10.out).mono ?_); rintro e w' ⟨rfl, ⟨nd, rfl⟩⟩) | go_values | go_skip | ((with_reducible refine gateG ?gw ?_); (case gw => rfl)) | refine wpList_skip (by rfl) ?_ | refine wp_cond_true rfl ?_ | refine wp_cond_false rfl ?_ | (with_reducible refine iteTr (by first | assumption | omega) ?_) | (with_reducible refine iteFl (by first | assumption | omega) ?_) | ((fail_if_success (with_reducible refine condP ?_)); (fail_if_success (with_reducible refine iteP ?_)); (fail_if_success (with_reducible refine grdP ?_)); go_step) | go_upon | (simp only [Int.not_lt, Int.not_le] at *; go_simp))
    have H := H'.out
    clear H'
    by_cases c12 : t121 = true
    ·
     subst c12
     have H1 : ((spec_l3Word.f a0_4).bind fun t122 => (spec_AttrsFault.j0 k (!t122) a0_0 l0_1 a0_2 a0_3 a0_4)) = some r := by rw [if_pos rfl] at H; first | done | exact H
     clear H
     have H := H1
     clear H1
     replace H := Option.bind_eq_some_iff.mp H
     obtain ⟨t122, A130, H⟩ := H
     replace H : (spec_AttrsFault.j0 k (!t122) a0_0 l0_1 a0_2 a0_3 a0_4) = some r := H
     have A13 := Aside0.mk A130
     clear A130
     have H' := Aside0.mk H
     clear H
     have hz14 := cl5 BK118
     go_wp2_with (first | (go_at_call 138; (with_reducible refine (spec_l3Word.calls a0_4 t122 _ A13.out).mono ?_); rintro e w' ⟨rfl, ⟨nd, rfl⟩⟩))
     go_meet
     case rel => exact ⟨_, (!t122), (by first | rfl | (simp; done) | (simp [*]; done)), H', ⟨by first | omega | exact Nat.le_refl _⟩, ⟨by (with_reducible repeat (first | refine blk_drewN ?_ _ | refine blk_drew ?_ | refine blk_alloc ?_ _)); exact BK118.out⟩, ⟨bel HB⟩⟩
    ·
     replace c12 := Bool.eq_false_iff.mpr c12
     subst c12
     have H1 : (spec_AttrsFault.j0 k true a0_0 l0_1 a0_2 a0_3 a0_4) = some r := by rw [if_neg (show ¬ (false = true) by decide)] at H; first | done | exact H
     clear H
     have H := H1
     clear H1
     have H' := Aside0.mk H
     clear H
     go_wp2
     go_meet
     case rel => exact ⟨_, (true), (by first | rfl | (simp; done) | (simp [*]; done)), H', ⟨by first | omega | exact Nat.le_refl _⟩, ⟨by (with_reducible repeat (first | refine blk_drewN ?_ _ | refine blk_drew ?_ | refine blk_alloc ?_ _)); exact BK118.out⟩, ⟨bel HB⟩⟩
   ·
    replace c9 := Bool.eq_false_iff.mpr c9
    subst c9
    have H1 : (spec_AttrsFault.j0 k true a0_0 l0_1 a0_2 a0_3 a0_4) = some r := by rw [if_neg (show ¬ (false = true) by decide)] at H; first | done | exact H
    clear H
    have H := H1
    clear H1
    have H' := Aside0.mk H
    clear H
    go_wp2
    go_meet
    case rel => exact ⟨_, (true), (by first | rfl | (simp; done) | (simp [*]; done)), H', ⟨by first | omega | exact Nat.le_refl _⟩, ⟨by (with_reducible repeat (first | refine blk_drewN ?_ _ | refine blk_drew ?_ | refine blk_alloc ?_ _)); exact BK118.out⟩, ⟨bel HB⟩⟩
  ·
   replace c6 := Bool.eq_false_iff.mpr c6
   subst c6
   have H1 : (spec_AttrsFault.j0 k true a0_0 l0_1 a0_2 a0_3 a0_4) = some r := by rw [if_neg (show ¬ (false = true) by decide)] at H; first | done | exact H
   clear H
   have H := H1
   clear H1
   have H' := Aside0.mk H
   clear H
   go_wp2
   go_meet
   case rel => exact ⟨_, (true), (by first | rfl | (simp; done) | (simp [*]; done)), H', ⟨by first | omega | exact Nat.le_refl _⟩, ⟨by (with_reducible repeat (first | refine blk_drewN ?_ _ | refine blk_drew ?_ | refine blk_alloc ?_ _)); exact BK118.out⟩, ⟨bel HB⟩⟩
 case rest =>
  clear HC2
  try clear c1
  try clear p2
  try clear c6
  try clear c7
  try clear c9
  try clear c10
  try clear c12
  try clear hz11
  try clear hz14
  try clear hz5
  try clear hz8
  obtain ⟨kq, x25_1, rfl, HA, HJ1, BK118, HB⟩ := hcut
  cases kq with
  | zero => exact absurd HA.out (by simp [spec_AttrsFault.j0])
  | succ kj1 =>
   have H := HA.out
   clear HA
   simp only [spec_AttrsFault.j0] at H
   by_cases c15 : x25_1 = true
   ·
    subst c15
    have H1 : (some 3) = some r := by rw [if_pos rfl] at H; first | done | exact H
    clear H
    have H := H1
    clear H1
    obtain rfl := Option.some.inj H
    go_wp2
    go_ret
    exact ⟨by first | rfl | (simp [errW_none, errW_some] <;> rfl) | (simp [*, errW_none, errW_some] <;> rfl), bel HB⟩
   ·
    replace c15 := Bool.eq_false_iff.mpr c15
    subst c15
    have H1 : (if (l0_1.length : Int) > 6 then (some 2) else (spec_AttrsFault.l0 kj1 0 a0_0 l0_1 a0_2 a0_3 a0_4)) = some r := by rw [if_neg (show ¬ (false = true) by decide)] at H; first | done | exact H
    clear H
    have H := H1
    clear H1
    by_cases c16 : (l0_1.length : Int) > 6
    ·
     rw [if_pos c16] at H
     have c16b0 : decide (6 < (l0_1.length : Int)) = true := decide_eq_true c16
     have c16b1 : decide (6 < l0_1.length) = true := decide_eq_true (by omega)
     have c16e := eq_true c16
     clear c16
     obtain rfl := Option.some.inj H
     have hz17 := cl5 BK118
     go_wp2
     go_ret
     exact ⟨by first | rfl | (simp [errW_none, errW_some] <;> rfl) | (simp [*, errW_none, errW_some] <;> rfl), bel HB⟩
    ·
     rw [if_neg c16] at H
     have c16b0 : decide (6 < (l0_1.length : Int)) = false := decide_eq_false c16
     have c16b1 : decide (6 < l0_1.length) = false := decide_eq_false (by omega)
     have c16e := eq_false c16
     clear c16
     have H' := Aside0.mk H
     clear H
     have hz18 := cl5 BK118
     go_wp2
     go_loopg [3] kj1 (fun kq v3 w' => ∃ (x3_2 : Int), v3 = .int .i64 x3_2 ∧ Aside0 (spec_AttrsFault.l0 kq x3_2 a0_0 l0_1 a0_2 a0_3 a0_4 = some r) ∧ Aside0 (kq ≤ kj1) ∧ Aside0 (w'.heap[gb118]? = some (.cells #[.int .i64 a0_0, (.slice A0_1 l0_1.length c0_1), .int .i64 a0_2, .int .i64 a0_3, .int .i64 a0_4] 36 (0, 0))) ∧ Aside0 (Below w.heap.size w w'))
     case atStart => exact ⟨(0), (by first | rfl | (simp; done) | (simp [*]; done)), H', ⟨Nat.le_refl _⟩, ⟨by (with_reducible repeat (first | refine blk_drewN ?_ _ | refine blk_drew ?_ | refine blk_alloc ?_ _)); exact BK118.out⟩, ⟨bel HB⟩⟩
     case round =>
      clear H'
      try clear c1
      try clear p2
      try clear c6
      try clear c7
      try clear c9
      try clear c10
      try clear c12
      try clear c15
      try clear c16e
      try clear c16
      try clear c16b0
      try clear c16b1
      try clear hz11
      try clear hz14
      try clear hz17
      try clear hz18
      try clear hz5
      try clear hz8
      try clear p2
      obtain ⟨x3_2, rfl, HA, HK2, BK118, HB⟩ := hrel
      cases gk with
      | zero => exact absurd HA.out (by simp [spec_AttrsFault.l0])
      | succ k2 =>
       have H := HA.out
       clear HA
       simp only [spec_AttrsFault.l0] at H
       by_cases c19 : x3_2 < (l0_1.length : Int)
       ·
        rw [if_pos c19] at H
        have c19b0 : decide (x3_2 < (l0_1.length : Int)) = true := decide_eq_true c19
        have c19e := eq_true c19
        clear c19
        by_cases c20 : 0 ≤ x3_2
        ·
         rw [if_pos c20] at H
         have c20b0 : decide (0 ≤ x3_2) = true := decide_eq_true c20
         have c20e := eq_true c20
         clear c20
         replace H := Option.bind_eq_some_iff.mp H
         obtain ⟨t124, A210, H⟩ := H
         replace H : (if t124 = true then (spec_AttrsFault.l0 k2 (wrap64 (x3_2 + 1)) a0_0 l0_1 a0_2 a0_3 a0_4) else (some 3)) = some r := H
         have A21 := Aside0.mk A210
         clear A210
         have H' := Aside0.mk H
         clear H
         have hz22 := cl5 BK118
         have p123 : 0 ≤ (x3_2 : Int) := of_decide_eq_true (by first | (with_reducible assumption) | assumption)
         have q123 : x3_2 < (l0_1.length : Int) := of_decide_eq_true (by first | (with_reducible assumption) | assumption)
         obtain ⟨ad123, e123, hx123_0⟩ := Kd.at_int HR0_1.out x3_2 p123 q123
         cases e123
         replace hx123_0 := (HB.out.cell (World.block_lt_of_cell? w _ hx123_0)).trans hx123_0
         replace p123 := eq_true p123
         replace q123 := eq_true q123
         repeat (first | ((with_reducible refine gate_callee (f := 103) rfl ?_); refine goA (some 42) rfl rfl Try.func103 rfl #[.int .i64 (rd l0_1 x3_2), .int .i64 1, .int .i64 65535] rfl ?_; (with_reducible refine (spec_l1In.calls (rd l0_1 x3_2) 1 65535 t124 _ A21.out).mono ?_); rintro e w' ⟨rfl, ⟨nd, rfl⟩⟩; refine ⟨_, rfl, ?_⟩) | go_values | go_skip | ((with_reducible refine gateG ?gw ?_); (case gw => rfl)) | refine wpList_skip (by rfl) ?_ | refine wp_cond_true rfl ?_ | refine wp_cond_false rfl ?_ | (with_reducible refine iteTr (by first | assumption | omega) ?_) | (with_reducible refine iteFl (by first | assumption | omega) ?_) | ((fail_if_success (with_reducible refine condP ?_)); (fail_if_success (with_reducible refine iteP ?_)); (fail_if_success (with_reducible refine grdP ?_)); go_step) | go_upon | (simp only [Int.not_lt, Int.not_le] at *; go_simp))
         have H := H'.out
         clear H'
         by_cases c23 : t124 = true
         ·
          subst c23
          have H1 : (spec_AttrsFault.l0 k2 (wrap64 (x3_2 + 1)) a0_0 l0_1 a0_2 a0_3 a0_4) = some r := by rw [if_pos rfl] at H; first | done | exact H
          clear H
          have H := H1
          clear H1
          have H' := Aside0.mk H
          clear H
          go_wp2
          go_roundg k2
          case measure => have := HJ1.out; have := HK2.out; omega
          case rel => exact ⟨(wrap64 (x3_2 + 1)), (by first | rfl | (simp; done) | (simp [*]; done)), H', ⟨by have := HJ1.out; have := HK2.out; omega⟩, ⟨by (with_reducible repeat (first | refine blk_drewN ?_ _ | refine blk_drew ?_ | refine blk_alloc ?_ _)); exact BK118.out⟩, ⟨bel HB⟩⟩
         ·
          replace c23 := Bool.eq_false_iff.mpr c23
          subst c23
          have H1 : (some 3) = some r := by rw [if_neg (show ¬ (false = true) by decide)] at H; first | done | exact H
          clear H
          have H := H1
          clear H1
          obtain rfl := Option.some.inj H
          go_wp2
          go_ret
          exact ⟨by first | rfl | (simp [errW_none, errW_some] <;> rfl) | (simp [*, errW_none, errW_some] <;> rfl), bel HB⟩
        ·
         rw [if_neg c20] at H
         exact absurd H (by simp)
       ·
        rw [if_neg c19] at H
        have c19b0 : decide (x3_2 < (l0_1.length : Int)) = false := decide_eq_false c19
        have c19e := eq_false c19
        clear c19
        obtain rfl := Option.some.inj H
        have hz24 := cl5 BK118
        go_wp2
        go_ret
        exact ⟨by first | rfl | (simp [errW_none, errW_some] <;> rfl) | (simp [*, errW_none, errW_some] <;> rfl), bel HB⟩

end Go.Proofs.Ytgfoifkkffffgac.PFnExactPackMessage
