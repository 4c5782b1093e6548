-- Laid by a turned copy of the printer (wip/tools/patch_print.py)
import Derived.Test.YtgfoifkkffffgabPFnWiresx0
import Derived.Test.YtgfoifkkffffgabPFnWiresx1
namespace Go.Proofs.Ytgfoifkkffffgab.PFnWires
open Go.RowKit Go.Proofs.YtgfoifkkffffgabW.PrintWords Go.Proofs.YtgfoifkkffffgabW.PrintLast Go.Proofs.YtgfoifkkffffgabW.PrintMore
attribute [local go_sem] max2_int min2_int max_two min_two max_three min_three max_four min_four   -- for this text's walks alone
set_option linter.unusedVariables false
set_option linter.unusedSimpArgs false

/-! ### spec_WireFault: function 123 -/
def spec_WireFault.j0 : Nat → Bool → Int → List Int → Int → List Int → Option (Int)
 | 0, _, _, _, _, _ => none
 | k + 1, x16, x294000, x294001, x294002, x294003 => if x16 = true then (some 2) else ((spec_l1In.f x294002 0 (x294001.length : Int)).bind fun t295 => (if t295 = true then (some 0) else (some 3)))
def spec_WireFault.f (k : Nat) (a0_0 : Int) (l0_1 : List Int) (a0_2 : Int) (l0_3 : List Int) : Option (Int) := (spec_l1In.f a0_0 0 1000).bind fun t294 => (if t294 = true then (if (l0_1.length : Int) > 2000 then (spec_WireFault.j0 k true a0_0 l0_1 a0_2 l0_3) else (spec_WireFault.j0 k (decide ((l0_3.length : Int) > 2000)) a0_0 l0_1 a0_2 l0_3)) else (some 3))
theorem spec_WireFault.mono_l : ∀ k, (∀ y0 y1 y2 y3 y4, LeO (spec_WireFault.j0 k y0 y1 y2 y3 y4) (spec_WireFault.j0 (k + 1) y0 y1 y2 y3 y4))
 | 0 => fun _ _ _ _ _ r h => by simp [spec_WireFault.j0] at h
 | k + 1 => by
  have ih0 := spec_WireFault.mono_l k
  ·
   intro y0 y1 y2 y3 y4
   unfold spec_WireFault.j0
   repeat' first
   | (with_reducible exact ih0 _ _ _ _ _)
   | (with_reducible exact LeO.refl _)
   | (with_reducible exact LeO.none _)
   | (with_reducible refine LeO.ite ?_ ?_)
   | (with_reducible refine LeO.bind ?_ (fun _ => ?_))
   | exact ih0 _ _ _ _ _
   | exact LeO.none _
   | refine LeO.ite ?_ ?_
   | refine LeO.bind ?_ (fun _ => ?_)
theorem spec_WireFault.mono : ∀ a0 a1 a2 a3 k, LeO (spec_WireFault.f k a0 a1 a2 a3) (spec_WireFault.f (k + 1) a0 a1 a2 a3) := by
 intro a0 a1 a2 a3 k
 have ih0 := spec_WireFault.mono_l k
 unfold spec_WireFault.f
 repeat' first
   | (with_reducible exact ih0 _ _ _ _ _)
   | (with_reducible exact LeO.refl _)
   | (with_reducible exact LeO.none _)
   | (with_reducible refine LeO.ite ?_ ?_)
   | (with_reducible refine LeO.bind ?_ (fun _ => ?_))
   | exact ih0 _ _ _ _ _
   | exact LeO.none _
   | refine LeO.ite ?_ ?_
   | refine LeO.bind ?_ (fun _ => ?_)
set_option maxHeartbeats 8000000 in
set_option maxRecDepth 100000 in
theorem spec_WireFault.calls (k : Nat) (a0_0 : Int) (A0_1 : Option Addr) (c0_1 : Nat) (l0_1 : List Int) (a0_2 : Int) (A0_3 : Option Addr) (c0_3 : Nat) (l0_3 : List Int) (r : Int) (w : World) (hr0_1 : Kd.C (Kd.int .u8) w A0_1 l0_1.length l0_1) (hc0_1 : l0_1.length ≤ c0_1) (hr0_3 : Kd.C (Kd.int .u8) w A0_3 l0_3.length l0_3) (hc0_3 : l0_3.length ≤ c0_3) (h : spec_WireFault.f k a0_0 l0_1 a0_2 l0_3 = some r) :
  Calls Try.prog 123 #[.agg #[.int .i64 a0_0, .slice A0_1 l0_1.length c0_1, .int .i64 a0_2, .slice A0_3 l0_3.length c0_3]] w fun e w' => e = .returned (.int .i64 r) ∧ Below w.heap.size w w' := by
 have hu59 := Try.underlying59
 have HR0_1 := Aside0.mk hr0_1
 have HC0_1 := Aside0.mk hc0_1
 clear hr0_1 hc0_1
 have HR0_3 := Aside0.mk hr0_3
 have HC0_3 := Aside0.mk hc0_3
 clear hr0_3 hc0_3
 have HB := Aside0.mk (Below.refl w.heap.size w)
 have H : ((spec_l1In.f a0_0 0 1000).bind fun t294 => (if t294 = true then (if (l0_1.length : Int) > 2000 then (spec_WireFault.j0 k true a0_0 l0_1 a0_2 l0_3) else (spec_WireFault.j0 k (decide ((l0_3.length : Int) > 2000)) a0_0 l0_1 a0_2 l0_3)) else (some 3))) = some r := h
 clear h
 replace H := Option.bind_eq_some_iff.mp H
 obtain ⟨t294, A20, H⟩ := H
 replace H : (if t294 = true then (if (l0_1.length : Int) > 2000 then (spec_WireFault.j0 k true a0_0 l0_1 a0_2 l0_3) else (spec_WireFault.j0 k (decide ((l0_3.length : Int) > 2000)) a0_0 l0_1 a0_2 l0_3)) else (some 3)) = some r := H
 have A2 := Aside0.mk A20
 clear A20
 by_cases c3 : t294 = true
 ·
  subst c3
  have H1 : (if (l0_1.length : Int) > 2000 then (spec_WireFault.j0 k true a0_0 l0_1 a0_2 l0_3) else (spec_WireFault.j0 k (decide ((l0_3.length : Int) > 2000)) a0_0 l0_1 a0_2 l0_3)) = some r := by rw [if_pos rfl] at H; first | done | exact H
  clear H
  have H := H1
  clear H1
  have HC4 := Aside0.mk H
  clear H
  go_enter Try.func123, Try.ntmps123
  go_upto_region 3 with (first | ((with_reducible refine gate_dst (N := 1) rfl ?_); (try (refine gate_guard (by rfl) ?_; dsimp only)); refine boxE #[.int .i64 a0_0, .slice A0_1 l0_1.length c0_1, .int .i64 a0_2, .slice A0_3 l0_3.length c0_3] 59 (N := 1) rfl rfl ?_; intro gb293 hg w5 hbox hb; have BK293 := Aside0.mk hbox; have GW293 := gZ HB hg; have GE293 := gZ HB hg; replace HB := bS HB hb; clear hb hbox hg; have hz6 := cl4 BK293) | ((with_reducible refine gate_callee (f := 88) rfl ?_); refine goA (some 5) rfl rfl Try.func88 rfl #[.int .i64 a0_0, .int .i64 0, .int .i64 1000] rfl ?_; (with_reducible refine (spec_l1In.calls a0_0 0 1000 true _ A2.out).mono ?_); rintro e w' ⟨rfl, ⟨nd, rfl⟩⟩; refine ⟨_, rfl, ?_⟩))
  (try simp only [Act.put, List.setIfInBounds_toArray, List.set_cons_zero, List.set_cons_succ])
  go_cut [16] (fun v16 wc => ∃ (kq : Nat) (x16_3 : Bool), v16 = .bool x16_3 ∧ Aside0 (spec_WireFault.j0 kq x16_3 a0_0 l0_1 a0_2 l0_3 = some r) ∧ Aside0 (kq ≤ k) ∧ Aside0 (wc.heap[gb293]? = some (.cells #[.int .i64 a0_0, (.slice A0_1 l0_1.length c0_1), .int .i64 a0_2, (.slice A0_3 l0_3.length c0_3)] 59 (0, 0))) ∧ Aside0 (Below w.heap.size w wc))
  case first =>
   have H := HC4.out
   clear HC4
   by_cases c7 : (l0_1.length : Int) > 2000
   ·
    rw [if_pos c7] at H
    have c7b0 : decide (2000 < (l0_1.length : Int)) = true := decide_eq_true c7
    have c7b1 : decide (2000 < l0_1.length) = true := decide_eq_true (by omega)
    clear c7
    (first | rw [c7b0] | (simp only [i64_w, i32_w]; rw [c7b0]) | skip)
    have H' := Aside0.mk H
    clear H
    have hz8 := cl4 BK293
    go_wp2
    first | go_meet | (refine Met.intro ?_; go_step; (repeat apply Exists.intro); refine ⟨?rel, ?eqq⟩; (case eqq => (try simp only [c7b0]); (try simp only [c7b1]); rfl))
    case rel => exact ⟨_, (true), (by first | rfl | (simp; done) | (simp [*]; done)), H', ⟨by first | omega | exact Nat.le_refl _⟩, ⟨by (with_reducible repeat (first | refine blk_drewN ?_ _ | refine blk_drew ?_ | refine blk_alloc ?_ _)); exact BK293.out⟩, ⟨bel HB⟩⟩
   ·
    rw [if_neg c7] at H
    have c7b0 : decide (2000 < (l0_1.length : Int)) = false := decide_eq_false c7
    have c7b1 : decide (2000 < l0_1.length) = false := decide_eq_false (by omega)
    clear c7
    (first | rw [c7b0] | (simp only [i64_w, i32_w]; rw [c7b0]) | skip)
    have H' := Aside0.mk H
    clear H
    have hz9 := cl4 BK293
    go_wp2
    first | go_meet | (refine Met.intro ?_; go_step; (repeat apply Exists.intro); refine ⟨?rel, ?eqq⟩; (case eqq => (try simp only [c7b0]); (try simp only [c7b1]); rfl))
    case rel => exact ⟨_, (decide ((l0_3.length : Int) > 2000)), (by first | rfl | (simp; done) | (simp [*]; done)), H', ⟨by first | omega | exact Nat.le_refl _⟩, ⟨by (with_reducible repeat (first | refine blk_drewN ?_ _ | refine blk_drew ?_ | refine blk_alloc ?_ _)); exact BK293.out⟩, ⟨bel HB⟩⟩
  case rest =>
   clear HC4
   try clear c1
   try clear p2
   try clear c3
   try clear c7
   try clear c7b0
   try clear c7b1
   try clear c8
   try clear hz6
   try clear hz8
   try clear hz9
   obtain ⟨kq, x16_3, rfl, HA, HJ3, BK293, HB⟩ := hcut
   cases kq with
   | zero => exact absurd HA.out (by simp [spec_WireFault.j0])
   | succ kj3 =>
    have H := HA.out
    clear HA
    simp only [spec_WireFault.j0] at H
    by_cases c10 : x16_3 = true
    ·
     subst c10
     have H1 : (some 2) = some r := by rw [if_pos rfl] at H; first | done | exact H
     clear H
     have H := H1
     clear H1
     obtain rfl := Option.some.inj H
     go_wp2
     go_ret
     exact ⟨by first | rfl | (simp [errW_none, errW_some] <;> rfl) | (simp [*, errW_none, errW_some] <;> rfl), bel HB⟩
    ·
     replace c10 := Bool.eq_false_iff.mpr c10
     subst c10
     have H1 : ((spec_l1In.f a0_2 0 (l0_1.length : Int)).bind fun t295 => (if t295 = true then (some 0) else (some 3))) = some r := by rw [if_neg (show ¬ (false = true) by decide)] at H; first | done | exact H
     clear H
     have H := H1
     clear H1
     replace H := Option.bind_eq_some_iff.mp H
     obtain ⟨t295, A110, H⟩ := H
     replace H : (if t295 = true then (some 0) else (some 3)) = some r := H
     have A11 := Aside0.mk A110
     clear A110
     by_cases c12 : t295 = true
     ·
      subst c12
      have H1 : (some 0) = some r := by rw [if_pos rfl] at H; first | done | exact H
      clear H
      have H := H1
      clear H1
      obtain rfl := Option.some.inj H
      have hz13 := cl4 BK293
      go_wp2_with (first | ((with_reducible refine gate_callee (f := 88) rfl ?_); refine goA (some 22) rfl rfl Try.func88 rfl #[.int .i64 a0_2, .int .i64 0, .int .i64 (l0_1.length : Int)] rfl ?_; (with_reducible refine (spec_l1In.calls a0_2 0 (l0_1.length : Int) true _ A11.out).mono ?_); rintro e w' ⟨rfl, ⟨nd, rfl⟩⟩; refine ⟨_, rfl, ?_⟩))
      go_ret
      exact ⟨by first | rfl | (simp [errW_none, errW_some] <;> rfl) | (simp [*, errW_none, errW_some] <;> rfl), bel HB⟩
     ·
      replace c12 := Bool.eq_false_iff.mpr c12
      subst c12
      have H1 : (some 3) = some r := by rw [if_neg (show ¬ (false = true) by decide)] at H; first | done | exact H
      clear H
      have H := H1
      clear H1
      obtain rfl := Option.some.inj H
      have hz14 := cl4 BK293
      go_wp2_with (first | ((with_reducible refine gate_callee (f := 88) rfl ?_); refine goA (some 22) rfl rfl Try.func88 rfl #[.int .i64 a0_2, .int .i64 0, .int .i64 (l0_1.length : Int)] rfl ?_; (with_reducible refine (spec_l1In.calls a0_2 0 (l0_1.length : Int) false _ A11.out).mono ?_); rintro e w' ⟨rfl, ⟨nd, rfl⟩⟩; refine ⟨_, rfl, ?_⟩))
      go_ret
      exact ⟨by first | rfl | (simp [errW_none, errW_some] <;> rfl) | (simp [*, errW_none, errW_some] <;> rfl), bel HB⟩
 ·
  replace c3 := Bool.eq_false_iff.mpr c3
  subst c3
  have H1 : (some 3) = some r := by rw [if_neg (show ¬ (false = true) by decide)] at H; first | done | exact H
  clear H
  have H := H1
  clear H1
  obtain rfl := Option.some.inj H
  go_enter Try.func123, Try.ntmps123
  go_wp2_with (first | ((with_reducible refine gate_dst (N := 1) rfl ?_); (try (refine gate_guard (by rfl) ?_; dsimp only)); refine boxE #[.int .i64 a0_0, .slice A0_1 l0_1.length c0_1, .int .i64 a0_2, .slice A0_3 l0_3.length c0_3] 59 (N := 1) rfl rfl ?_; intro gb293 hg w15 hbox hb; have BK293 := Aside0.mk hbox; have GW293 := gZ HB hg; have GE293 := gZ HB hg; replace HB := bS HB hb; clear hb hbox hg; have hz16 := cl4 BK293) | ((with_reducible refine gate_callee (f := 88) rfl ?_); refine goA (some 5) rfl rfl Try.func88 rfl #[.int .i64 a0_0, .int .i64 0, .int .i64 1000] rfl ?_; (with_reducible refine (spec_l1In.calls a0_0 0 1000 false _ A2.out).mono ?_); rintro e w' ⟨rfl, ⟨nd, rfl⟩⟩; refine ⟨_, rfl, ?_⟩))
  go_ret
  exact ⟨by first | rfl | (simp [errW_none, errW_some] <;> rfl) | (simp [*, errW_none, errW_some] <;> rfl), bel HB⟩

/-! ### spec_l10Epoch: function 124 -/
def spec_l10Epoch.f (a0 : Int) : Option (Bool) := (spec_l1In.f a0 1 1000).bind fun t296 => (some t296)
set_option maxHeartbeats 8000000 in
set_option maxRecDepth 100000 in
theorem spec_l10Epoch.calls (a0 : Int) (r : Bool) (w : World) (h : spec_l10Epoch.f a0 = some r) :
  Calls Try.prog 124 #[.int .i64 a0] w fun e w' => e = .returned (.bool r) ∧ Drawn0 w w' := by
 have H : ((spec_l1In.f a0 1 1000).bind fun t296 => (some t296)) = some r := h
 clear h
 replace H := Option.bind_eq_some_iff.mp H
 obtain ⟨t296, A20, H⟩ := H
 replace H : (some t296) = some r := H
 have A2 := Aside0.mk A20
 clear A20
 obtain rfl := Option.some.inj H
 go_enter Try.func124, Try.ntmps124
 go_wp2_with (first | ((with_reducible refine gate_callee (f := 88) rfl ?_); refine goA (some 4) rfl rfl Try.func88 rfl #[.int .i64 a0, .int .i64 1, .int .i64 1000] rfl ?_; (with_reducible refine (spec_l1In.calls a0 1 1000 t296 _ A2.out).mono ?_); rintro e w' ⟨rfl, ⟨nd, rfl⟩⟩; refine ⟨_, rfl, ?_⟩))
 go_ret
 exact ⟨by first | rfl | (simp; done) | (simp [*]; done), drw⟩

/-! ### spec_l11Asked: function 101 -/
def spec_l11Asked.f (k : Nat) (a0_0 : Int) (l0_1 : List Int) (a0_2 : Int) (l0_3 : List Int) (a1 : Int) : Option (Int) := (spec_WireFault.f k a0_0 l0_1 a0_2 l0_3).bind fun t298 => (if t298 = 0 then ((spec_l10Epoch.f a1).bind fun t299 => (if t299 = true then (if a1 < a0_0 then (some 9) else (some 0)) else (some 3))) else (some t298))
theorem spec_l11Asked.mono : ∀ a0 a1 a2 a3 a4 k, LeO (spec_l11Asked.f k a0 a1 a2 a3 a4) (spec_l11Asked.f (k + 1) a0 a1 a2 a3 a4) := by
 intro a0 a1 a2 a3 a4 k
 unfold spec_l11Asked.f
 repeat' first
   | (with_reducible exact spec_WireFault.mono _ _ _ _ _)
   | (with_reducible exact LeO.refl _)
   | (with_reducible exact LeO.none _)
   | (with_reducible refine LeO.ite ?_ ?_)
   | (with_reducible refine LeO.bind ?_ (fun _ => ?_))
   | exact spec_WireFault.mono _ _ _ _ _
   | exact LeO.none _
   | refine LeO.ite ?_ ?_
   | refine LeO.bind ?_ (fun _ => ?_)
set_option maxHeartbeats 8000000 in
set_option maxRecDepth 100000 in
theorem spec_l11Asked.calls (k : Nat) (a0_0 : Int) (A0_1 : Option Addr) (c0_1 : Nat) (l0_1 : List Int) (a0_2 : Int) (A0_3 : Option Addr) (c0_3 : Nat) (l0_3 : List Int) (a1 : Int) (r : Int) (w : World) (hr0_1 : Kd.C (Kd.int .u8) w A0_1 l0_1.length l0_1) (hc0_1 : l0_1.length ≤ c0_1) (hr0_3 : Kd.C (Kd.int .u8) w A0_3 l0_3.length l0_3) (hc0_3 : l0_3.length ≤ c0_3) (h : spec_l11Asked.f k a0_0 l0_1 a0_2 l0_3 a1 = some r) :
  Calls Try.prog 101 #[.agg #[.int .i64 a0_0, .slice A0_1 l0_1.length c0_1, .int .i64 a0_2, .slice A0_3 l0_3.length c0_3], .int .i64 a1] w fun e w' => e = .returned (.int .i64 r) ∧ Below w.heap.size w w' := by
 have hu59 := Try.underlying59
 have HR0_1 := Aside0.mk hr0_1
 have HC0_1 := Aside0.mk hc0_1
 clear hr0_1 hc0_1
 have HR0_3 := Aside0.mk hr0_3
 have HC0_3 := Aside0.mk hc0_3
 clear hr0_3 hc0_3
 have HB := Aside0.mk (Below.refl w.heap.size w)
 have H : ((spec_WireFault.f k a0_0 l0_1 a0_2 l0_3).bind fun t298 => (if t298 = 0 then ((spec_l10Epoch.f a1).bind fun t299 => (if t299 = true then (if a1 < a0_0 then (some 9) else (some 0)) else (some 3))) else (some t298))) = some r := h
 clear h
 replace H := Option.bind_eq_some_iff.mp H
 obtain ⟨t298, A30, H⟩ := H
 replace H : (if t298 = 0 then ((spec_l10Epoch.f a1).bind fun t299 => (if t299 = true then (if a1 < a0_0 then (some 9) else (some 0)) else (some 3))) else (some t298)) = some r := H
 have A3 := Aside0.mk A30
 clear A30
 by_cases c4 : t298 = 0
 ·
  rw [if_pos c4] at H
  have c4b0 : (t298 == 0) = true := beq_iff_eq.mpr c4
  have c4b1 : (t298 != 0) = false := bne_eq_false_iff_eq.mpr c4
  clear c4
  replace H := Option.bind_eq_some_iff.mp H
  obtain ⟨t299, A50, H⟩ := H
  replace H : (if t299 = true then (if a1 < a0_0 then (some 9) else (some 0)) else (some 3)) = some r := H
  have A5 := Aside0.mk A50
  clear A50
  by_cases c6 : t299 = true
  ·
   subst c6
   have H1 : (if a1 < a0_0 then (some 9) else (some 0)) = some r := by rw [if_pos rfl] at H; first | done | exact H
   clear H
   have H := H1
   clear H1
   by_cases c7 : a1 < a0_0
   ·
    rw [if_pos c7] at H
    have c7b0 : decide (a1 < a0_0) = true := decide_eq_true c7
    clear c7
    obtain rfl := Option.some.inj H
    go_enter Try.func101, Try.ntmps101
    go_wp2_with (first | ((with_reducible refine gate_dst (N := 2) rfl ?_); refine boxE #[.int .i64 a0_0, .slice A0_1 l0_1.length c0_1, .int .i64 a0_2, .slice A0_3 l0_3.length c0_3] 59 (N := 2) rfl rfl ?_; intro gb297 hg w8 hbox hb; have BK297 := Aside0.mk hbox; have GW297 := gZ HB hg; have GE297 := gZ HB hg; replace HB := bS HB hb; clear hb hbox hg; have hz9 := cl4 BK297) | ((with_reducible refine gate_callee (f := 123) rfl ?_); refine goA (some 7) rfl rfl Try.func123 rfl #[.agg #[.int .i64 a0_0, .slice A0_1 l0_1.length c0_1, .int .i64 a0_2, .slice A0_3 l0_3.length c0_3]] rfl ?_; (with_reducible refine (spec_WireFault.calls k a0_0 _ _ l0_1 a0_2 _ _ l0_3 t298 _ ?side1 ?side2 ?side3 ?side4 A3.out).mono ?_); (case side1 => exact mC HR0_1 HB); (case side2 => exact HC0_1.out); (case side3 => exact mC HR0_3 HB); (case side4 => exact HC0_3.out); rintro e w10 ⟨rfl, hb⟩; refine ⟨_, rfl, ?_⟩; replace BK297 := bK BK297 hb; replace HB := bS HB hb; (try clear hb); (try clear hb2); (try clear hk); (try clear hi)) | ((with_reducible refine gate_callee (f := 124) rfl ?_); refine goA (some 12) rfl rfl Try.func124 rfl #[.int .i64 a1] rfl ?_; (with_reducible refine (spec_l10Epoch.calls a1 true _ A5.out).mono ?_); rintro e w' ⟨rfl, ⟨nd, rfl⟩⟩; refine ⟨_, rfl, ?_⟩; have hz11 := cl4 BK297))
    go_ret
    exact ⟨by first | rfl | (simp [errW_none, errW_some] <;> rfl) | (simp [*, errW_none, errW_some] <;> rfl), bel HB⟩
   ·
    rw [if_neg c7] at H
    have c7b0 : decide (a1 < a0_0) = false := decide_eq_false c7
    clear c7
    obtain rfl := Option.some.inj H
    go_enter Try.func101, Try.ntmps101
    go_wp2_with (first | ((with_reducible refine gate_dst (N := 2) rfl ?_); refine boxE #[.int .i64 a0_0, .slice A0_1 l0_1.length c0_1, .int .i64 a0_2, .slice A0_3 l0_3.length c0_3] 59 (N := 2) rfl rfl ?_; intro gb297 hg w12 hbox hb; have BK297 := Aside0.mk hbox; have GW297 := gZ HB hg; have GE297 := gZ HB hg; replace HB := bS HB hb; clear hb hbox hg; have hz13 := cl4 BK297) | ((with_reducible refine gate_callee (f := 123) rfl ?_); refine goA (some 7) rfl rfl Try.func123 rfl #[.agg #[.int .i64 a0_0, .slice A0_1 l0_1.length c0_1, .int .i64 a0_2, .slice A0_3 l0_3.length c0_3]] rfl ?_; (with_reducible refine (spec_WireFault.calls k a0_0 _ _ l0_1 a0_2 _ _ l0_3 t298 _ ?side1 ?side2 ?side3 ?side4 A3.out).mono ?_); (case side1 => exact mC HR0_1 HB); (case side2 => exact HC0_1.out); (case side3 => exact mC HR0_3 HB); (case side4 => exact HC0_3.out); rintro e w14 ⟨rfl, hb⟩; refine ⟨_, rfl, ?_⟩; replace BK297 := bK BK297 hb; replace HB := bS HB hb; (try clear hb); (try clear hb2); (try clear hk); (try clear hi)) | ((with_reducible refine gate_callee (f := 124) rfl ?_); refine goA (some 12) rfl rfl Try.func124 rfl #[.int .i64 a1] rfl ?_; (with_reducible refine (spec_l10Epoch.calls a1 true _ A5.out).mono ?_); rintro e w' ⟨rfl, ⟨nd, rfl⟩⟩; refine ⟨_, rfl, ?_⟩; have hz15 := cl4 BK297))
    go_ret
    exact ⟨by first | rfl | (simp [errW_none, errW_some] <;> rfl) | (simp [*, errW_none, errW_some] <;> rfl), bel HB⟩
  ·
   replace c6 := Bool.eq_false_iff.mpr c6
   subst c6
   have H1 : (some 3) = some r := by rw [if_neg (show ¬ (false = true) by decide)] at H; first | done | exact H
   clear H
   have H := H1
   clear H1
   obtain rfl := Option.some.inj H
   go_enter Try.func101, Try.ntmps101
   go_wp2_with (first | ((with_reducible refine gate_dst (N := 2) rfl ?_); refine boxE #[.int .i64 a0_0, .slice A0_1 l0_1.length c0_1, .int .i64 a0_2, .slice A0_3 l0_3.length c0_3] 59 (N := 2) rfl rfl ?_; intro gb297 hg w16 hbox hb; have BK297 := Aside0.mk hbox; have GW297 := gZ HB hg; have GE297 := gZ HB hg; replace HB := bS HB hb; clear hb hbox hg; have hz17 := cl4 BK297) | ((with_reducible refine gate_callee (f := 123) rfl ?_); refine goA (some 7) rfl rfl Try.func123 rfl #[.agg #[.int .i64 a0_0, .slice A0_1 l0_1.length c0_1, .int .i64 a0_2, .slice A0_3 l0_3.length c0_3]] rfl ?_; (with_reducible refine (spec_WireFault.calls k a0_0 _ _ l0_1 a0_2 _ _ l0_3 t298 _ ?side1 ?side2 ?side3 ?side4 A3.out).mono ?_); (case side1 => exact mC HR0_1 HB); (case side2 => exact HC0_1.out); (case side3 => exact mC HR0_3 HB); (case side4 => exact HC0_3.out); rintro e w18 ⟨rfl, hb⟩; refine ⟨_, rfl, ?_⟩; replace BK297 := bK BK297 hb; replace HB := bS HB hb; (try clear hb); (try clear hb2); (try clear hk); (try clear hi)) | ((with_reducible refine gate_callee (f := 124) rfl ?_); refine goA (some 12) rfl rfl Try.func124 rfl #[.int .i64 a1] rfl ?_; (with_reducible refine (spec_l10Epoch.calls a1 false _ A5.out).mono ?_); rintro e w' ⟨rfl, ⟨nd, rfl⟩⟩; refine ⟨_, rfl, ?_⟩))
   go_ret
   exact ⟨by first | rfl | (simp [errW_none, errW_some] <;> rfl) | (simp [*, errW_none, errW_some] <;> rfl), bel HB⟩
 ·
  rw [if_neg c4] at H
  have c4b0 : (t298 == 0) = false := beq_eq_false_iff_ne.mpr c4
  have c4b1 : (t298 != 0) = true := bne_iff_ne.mpr c4
  obtain rfl := Option.some.inj H
  go_enter Try.func101, Try.ntmps101
  go_wp2_with (first | ((with_reducible refine gate_dst (N := 2) rfl ?_); refine boxE #[.int .i64 a0_0, .slice A0_1 l0_1.length c0_1, .int .i64 a0_2, .slice A0_3 l0_3.length c0_3] 59 (N := 2) rfl rfl ?_; intro gb297 hg w19 hbox hb; have BK297 := Aside0.mk hbox; have GW297 := gZ HB hg; have GE297 := gZ HB hg; replace HB := bS HB hb; clear hb hbox hg; have hz20 := cl4 BK297) | ((with_reducible refine gate_callee (f := 123) rfl ?_); refine goA (some 7) rfl rfl Try.func123 rfl #[.agg #[.int .i64 a0_0, .slice A0_1 l0_1.length c0_1, .int .i64 a0_2, .slice A0_3 l0_3.length c0_3]] rfl ?_; (with_reducible refine (spec_WireFault.calls k a0_0 _ _ l0_1 a0_2 _ _ l0_3 t298 _ ?side1 ?side2 ?side3 ?side4 A3.out).mono ?_); (case side1 => exact mC HR0_1 HB); (case side2 => exact HC0_1.out); (case side3 => exact mC HR0_3 HB); (case side4 => exact HC0_3.out); rintro e w21 ⟨rfl, hb⟩; refine ⟨_, rfl, ?_⟩; replace BK297 := bK BK297 hb; replace HB := bS HB hb; (try clear hb); (try clear hb2); (try clear hk); (try clear hi)))
  go_ret
  exact ⟨by first | rfl | (simp [errW_none, errW_some] <;> rfl) | (simp [*, errW_none, errW_some] <;> rfl), bel HB⟩

/-! ### spec_l11Bad: function 102 -/
def spec_l11Bad.f (a0 : Int) : Option (Int × List Int × Int × List Int × Int × List Int) := some (a0, ([] : List Int), 0, ([] : List Int), 0, ([] : List Int))
set_option maxHeartbeats 8000000 in
set_option maxRecDepth 100000 in
theorem spec_l11Bad.calls (a0 : Int) (r1 : Int) (r2 : List Int) (r3 : Int) (r4 : List Int) (r5 : Int) (r6 : List Int) (w : World) (h : spec_l11Bad.f a0 = some (r1, r2, r3, r4, r5, r6)) :
  Calls Try.prog 102 #[.int .i64 a0] w fun e w' => ∃ v1_ v3_ v5_ : Value, e = .returned (.agg #[.int .i64 r1, v1_, .int .i64 r3, v3_, .int .i64 r5, v5_]) ∧ Kd.R (Kd.int .u8) 5 w' w.heap.size (fun k_ => some k_ ≠ (v3_ : Value).ownBlock ∧ some k_ ≠ (v5_ : Value).ownBlock) v1_ r2 ∧ Kd.R (Kd.int .u8) 5 w' w.heap.size (fun k_ => some k_ ≠ (v1_ : Value).ownBlock ∧ some k_ ≠ (v5_ : Value).ownBlock) v3_ r4 ∧ Kd.R (Kd.int .u8) 5 w' w.heap.size (fun k_ => some k_ ≠ (v1_ : Value).ownBlock ∧ some k_ ≠ (v3_ : Value).ownBlock) v5_ r6 ∧ Below w.heap.size w w' := by
 have hu63 := Try.underlying63
 have hu59 := Try.underlying59
 have HB := Aside0.mk (Below.refl w.heap.size w)
 have H : (some (a0, ([] : List Int), 0, ([] : List Int), 0, ([] : List Int))) = some (r1, r2, r3, r4, r5, r6) := h
 clear h
 simp only [Option.some.injEq, Prod.mk.injEq] at H
 obtain ⟨rfl, rfl, rfl, rfl, rfl, rfl⟩ := H
 go_enter Try.func102, Try.ntmps102
 go_wp2_with (first | ((with_reducible refine gate_dst (N := 2) rfl ?_); refine boxE #[.int .i64 0, .slice none 0 0, .int .i64 0, .slice none 0 0, .int .i64 0, .slice none 0 0] 63 (N := 2) rfl rfl ?_; intro gb300 hg w2 hbox hb; have BK300 := Aside0.mk hbox; have GW300 := gZ HB hg; have GE300 := gZ HB hg; replace HB := bS HB hb; clear hb hbox hg; have hz3 := cl6 BK300))
 refine bodyPost_ret (results_cell_row rfl _ _ gb300 63 #[.int .i64 a0, .slice none 0 0, .int .i64 0, .slice none 0 0, .int .i64 0, .slice none 0 0] (0, 0) _ rfl (mP BK300) Try.underlying63 rfl (by kernel_rfl)) rfl ?_
 exact ⟨_, _, _, by first | rfl | (simp [errW_none, errW_some] <;> rfl) | (simp [*, errW_none, errW_some] <;> rfl), by first | exact Kd.R_nil _ _ _ _ _ | exact Kd.N_nil _ _ _ _ _ | exact Kd.V_nil _ _ _ _ _ | exact Kd.Q_nil _ _ _ _ _ | exact Kd.S_nil _ _ _ _ _, by first | exact Kd.R_nil _ _ _ _ _ | exact Kd.N_nil _ _ _ _ _ | exact Kd.V_nil _ _ _ _ _ | exact Kd.Q_nil _ _ _ _ _ | exact Kd.S_nil _ _ _ _ _, by first | exact Kd.R_nil _ _ _ _ _ | exact Kd.N_nil _ _ _ _ _ | exact Kd.V_nil _ _ _ _ _ | exact Kd.Q_nil _ _ _ _ _ | exact Kd.S_nil _ _ _ _ _, bel HB⟩

/-! ### spec_l11Copy: function 103 -/
def spec_l11Copy.f (a0_0 : Int) (l0_1 : List Int) (a0_2 : Int) (l0_3 : List Int) : Option (Int × List Int × Int × List Int) := (some (([] : List Int) : List Int)).bind fun y303 => (if y303.length + l0_1.length < 140737488355328 then ((some (([] : List Int) : List Int)).bind fun y309 => (if y309.length + l0_3.length < 140737488355328 then (some (a0_0, (y303 ++ l0_1), a0_2, (y309 ++ l0_3))) else (none))) else (none))
set_option maxHeartbeats 8000000 in
set_option maxRecDepth 100000 in
theorem spec_l11Copy.calls (a0_0 : Int) (A0_1 : Option Addr) (c0_1 : Nat) (l0_1 : List Int) (a0_2 : Int) (A0_3 : Option Addr) (c0_3 : Nat) (l0_3 : List Int) (r1 : Int) (r2 : List Int) (r3 : Int) (r4 : List Int) (w : World) (hr0_1 : Kd.C (Kd.int .u8) w A0_1 l0_1.length l0_1) (hc0_1 : l0_1.length ≤ c0_1) (hr0_3 : Kd.C (Kd.int .u8) w A0_3 l0_3.length l0_3) (hc0_3 : l0_3.length ≤ c0_3) (h : spec_l11Copy.f a0_0 l0_1 a0_2 l0_3 = some (r1, r2, r3, r4)) :
  Calls Try.prog 103 #[.agg #[.int .i64 a0_0, .slice A0_1 l0_1.length c0_1, .int .i64 a0_2, .slice A0_3 l0_3.length c0_3]] w fun e w' => ∃ v1_ v3_ : Value, e = .returned (.agg #[.int .i64 r1, v1_, .int .i64 r3, v3_]) ∧ Kd.R (Kd.int .u8) 5 w' w.heap.size (fun k_ => some k_ ≠ (v3_ : Value).ownBlock) v1_ r2 ∧ Kd.R (Kd.int .u8) 5 w' w.heap.size (fun k_ => some k_ ≠ (v1_ : Value).ownBlock) v3_ r4 ∧ Below w.heap.size w w' := by
 have hu59 := Try.underlying59
 have HR0_1 := Aside0.mk hr0_1
 have HC0_1 := Aside0.mk hc0_1
 clear hr0_1 hc0_1
 have HR0_3 := Aside0.mk hr0_3
 have HC0_3 := Aside0.mk hc0_3
 clear hr0_3 hc0_3
 have HB := Aside0.mk (Below.refl w.heap.size w)
 have H : ((some (([] : List Int) : List Int)).bind fun y303 => (if y303.length + l0_1.length < 140737488355328 then ((some (([] : List Int) : List Int)).bind fun y309 => (if y309.length + l0_3.length < 140737488355328 then (some (a0_0, (y303 ++ l0_1), a0_2, (y309 ++ l0_3))) else (none))) else (none))) = some (r1, r2, r3, r4) := h
 clear h
 obtain ⟨y303, hy303⟩ : ∃ y_ : List Int, y_ = (([] : List Int)) := ⟨_, rfl⟩
 replace H : (if y303.length + l0_1.length < 140737488355328 then ((some (([] : List Int) : List Int)).bind fun y309 => (if y309.length + l0_3.length < 140737488355328 then (some (a0_0, (y303 ++ l0_1), a0_2, (y309 ++ l0_3))) else (none))) else (none)) = some (r1, r2, r3, r4) := by first | (rw [hy303]; with_reducible exact H) | (have H2_ := (Option.bind_some _ _).symm.trans H; rw [hy303]; with_reducible exact H2_) | (have H2_ := (Option.bind_some _ _).symm.trans H; with_reducible exact H2_) | with_reducible exact H | (rw [hy303]; exact H) | exact H
 have Ny303 := Aside0.mk hy303
 clear hy303
 by_cases c2 : y303.length + l0_1.length < 140737488355328
 ·
  rw [if_pos c2] at H
  have LMc2 := Aside0.mk c2
  clear c2
  obtain ⟨y306, hy306⟩ : ∃ y_ : List Int, y_ = (y303 ++ l0_1) := ⟨_, rfl⟩
  replace H : ((some (([] : List Int) : List Int)).bind fun y309 => (if y309.length + l0_3.length < 140737488355328 then (some (a0_0, y306, a0_2, (y309 ++ l0_3))) else (none))) = some (r1, r2, r3, r4) := by first | (rw [hy306]; with_reducible exact H) | (have H2_ := (Option.bind_some _ _).symm.trans H; rw [hy306]; with_reducible exact H2_) | (have H2_ := (Option.bind_some _ _).symm.trans H; with_reducible exact H2_) | with_reducible exact H | (rw [hy306]; exact H) | exact H
  have Ny306 := Aside0.mk hy306
  clear hy306
  obtain ⟨y309, hy309⟩ : ∃ y_ : List Int, y_ = (([] : List Int)) := ⟨_, rfl⟩
  replace H : (if y309.length + l0_3.length < 140737488355328 then (some (a0_0, y306, a0_2, (y309 ++ l0_3))) else (none)) = some (r1, r2, r3, r4) := by first | (rw [hy309]; with_reducible exact H) | (have H2_ := (Option.bind_some _ _).symm.trans H; rw [hy309]; with_reducible exact H2_) | (have H2_ := (Option.bind_some _ _).symm.trans H; with_reducible exact H2_) | with_reducible exact H | (rw [hy309]; exact H) | exact H
  have Ny309 := Aside0.mk hy309
  clear hy309
  by_cases c3 : y309.length + l0_3.length < 140737488355328
  ·
   rw [if_pos c3] at H
   have LMc3 := Aside0.mk c3
   clear c3
   obtain ⟨y312, hy312⟩ : ∃ y_ : List Int, y_ = (y309 ++ l0_3) := ⟨_, rfl⟩
   replace H : (some (a0_0, y306, a0_2, y312)) = some (r1, r2, r3, r4) := by first | (rw [hy312]; with_reducible exact H) | (have H2_ := (Option.bind_some _ _).symm.trans H; rw [hy312]; with_reducible exact H2_) | (have H2_ := (Option.bind_some _ _).symm.trans H; with_reducible exact H2_) | with_reducible exact H | (rw [hy312]; exact H) | exact H
   have Ny312 := Aside0.mk hy312
   clear hy312
   simp only [Option.some.injEq, Prod.mk.injEq] at H
   obtain ⟨rfl, rfl, rfl, rfl⟩ := H
   go_enter Try.func103, Try.ntmps103
   go_wp2_with (first | ((with_reducible refine gate_dst (N := 1) rfl ?_); refine boxE #[.int .i64 a0_0, .slice A0_1 l0_1.length c0_1, .int .i64 a0_2, .slice A0_3 l0_3.length c0_3] 59 (N := 1) rfl rfl ?_; intro gb301 hg w4 hbox hb; have BK301 := Aside0.mk hbox; have GW301 := gZ HB hg; have GE301 := gZ HB hg; replace HB := bS HB hb; clear hb hbox hg) | ((with_reducible refine gate_dst (N := 2) rfl ?_); refine boxE #[.int .i64 0, .slice none 0 0, .int .i64 0, .slice none 0 0] 59 (N := 2) rfl rfl ?_; intro gb302 hg w5 hbox hb; have BK302 := Aside0.mk hbox; have GW302 := gZ HB hg; have GE302 := gZ HB hg; replace HB := bS HB hb; have NB301_302 := nL BK301 hg; have NB302_301 := nG BK301 hg; replace BK301 := bK BK301 hb; clear hb hbox hg) | ((with_reducible refine gate_dst (N := 3) rfl ?_); refine Kd.R_lit (Kd.int .u8) _ 5 ?hg (N := 3) ?hd (xs := ([] : List Int)) (inner := []) (ok := fun _ => True) (okp := fun _ => True) ?hr ?hp (fun _ hk => hk) trivial (Below.refl _ _) (Nat.le_refl _) (by simp) ?_; (case hd => rfl); (case hg => rfl); (case hr => first | (go_simp; done) | (go_simp; rfl)); (case hp => exact (Reps.none _ _)); intro v304 w6 ho7 hb hg_ hnew_; clear hg_ hnew_; (first | rw [← Ny303.out] at ho7 | (simp only [Int.reduceToNat] at ho7; rw [← Ny303.out] at ho7)); have HO305 := Aside0.mk (Kd.R_lower ho7 (below_size (bel HB))); replace BK301 := bK BK301 hb; replace BK302 := bK BK302 hb; replace HB := bS HB hb; clear hb ho7; have hnb8 := NB301_302.out; have hnc8 := NB302_301.out; have hz9 := cl4 BK301) | ((with_reducible refine gate_builtin (b := .append) (xs := #[.tmp 3, .tmp 5]) rfl ?_); at_builtin; refine Kd.R_append_rows (Kd.int .u8) (w0 := w) w.heap.size rfl (.tmp 3) (.tmp 5) 25 5 (.int .u8 0) 1 rfl Try.underlying25 info5 rfl (by decide) (by omega) v304 y303 l0_1 _ _ _ (fun _ => True) (fun _ => False) rfl rfl ?aO ?aR (fun _ _ h => h) (fun _ h => h.elim) ?aF ?aB ?aS ?aL ?_; (case aR => repeat (first | exact (Kd.C_below HR0_1.out HB.out) | (with_reducible refine Kd.C_alloc ?_ _) | (with_reducible refine Kd.C_drewN ?_ _) | (with_reducible refine Kd.C_drew ?_))); (case aB => exact (bel HB)); (case aF => exact (fun _ _ => trivial)); (case aO => exact (mR HO305)); (case aS => exact (below_size (bel HB))); (case aL => have := LMc2.out; omega); intro v307 w10 ho hb hg hat; rw [← Ny306.out] at ho; replace BK301 := Aside0.mk (blk_grown (g := gb301) (o := .cells #[.int .i64 a0_0, .slice A0_1 l0_1.length c0_1, .int .i64 a0_2, .slice A0_3 l0_3.length c0_3] 59 (0, 0)) (mB BK301) hg (Kd.R_ne HO305.out BK301.out (by decide))); replace BK302 := Aside0.mk (blk_grown (g := gb302) (o := .cells #[.int .i64 0, .slice none 0 0, .int .i64 0, .slice none 0 0] 59 (0, 0)) (mB BK302) hg (Kd.R_ne HO305.out BK302.out (by decide))); replace HB := Aside0.mk hb; have HO308 := Aside0.mk ho; clear HO305; clear ho hb hg hat; obtain ⟨Ao11, co11, eo11⟩ := Kd.R_slice HO308.out; subst eo11; have hz12 := cl4 BK301) | ((with_reducible refine gate_dst (N := 8) rfl ?_); refine Kd.R_lit (Kd.int .u8) _ 5 ?hg (N := 8) ?hd (xs := ([] : List Int)) (inner := []) (ok := fun _ => True) (okp := fun _ => True) ?hr ?hp (fun _ hk => hk) trivial (Below.refl _ _) (Nat.le_refl _) (by simp) ?_; (case hd => rfl); (case hg => rfl); (case hr => first | (go_simp; done) | (go_simp; rfl)); (case hp => exact (Reps.none _ _)); intro v310 w13 ho14 hb hg_ hnew_; clear hg_ hnew_; (first | rw [← Ny309.out] at ho14 | (simp only [Int.reduceToNat] at ho14; rw [← Ny309.out] at ho14)); have HO311 := Aside0.mk (Kd.R_lower (Kd.R_new' ho14 (Kd.R_lt (by (with_reducible repeat (first | apply Kd.R_alloc | apply Kd.R_drewN | apply Kd.R_drew)); exact (Kd.R_mono (RF (Kd.R_types HO308.out BK301.out (by decide))) (fun _ h_ => h_.1))))) (below_size (bel HB))); replace HO308 := Aside0.mk (Kd.R_elder' (by (with_reducible repeat (first | apply Kd.R_alloc | apply Kd.R_drewN | apply Kd.R_drew)); exact (Kd.R_mono (RF (Kd.R_types HO308.out BK301.out (by decide))) (fun _ h_ => h_.1))) (Kd.R_base ho14) hb); replace BK301 := Aside0.mk (blk_below (g := gb301) (o := .cells #[.int .i64 a0_0, .slice Ao11 y306.length co11, .int .i64 a0_2, .slice A0_3 l0_3.length c0_3] 59 (0, 0)) (mP BK301) hb); replace BK302 := Aside0.mk (blk_below (g := gb302) (o := .cells #[.int .i64 0, .slice none 0 0, .int .i64 0, .slice none 0 0] 59 (0, 0)) (mP BK302) hb); replace HB := bS HB hb; clear hb ho14; have hz15 := cl4 BK301) | ((with_reducible refine gate_builtin (b := .append) (xs := #[.tmp 8, .tmp 10]) rfl ?_); at_builtin; refine Kd.R_append_rows (Kd.int .u8) (w0 := w) w.heap.size rfl (.tmp 8) (.tmp 10) 25 5 (.int .u8 0) 1 rfl Try.underlying25 info5 rfl (by decide) (by omega) v310 y309 l0_3 _ _ _ (fun k_ => some k_ ≠ (.slice Ao11 y306.length co11 : Value).ownBlock) (fun _ => False) rfl rfl ?aO ?aR (fun _ _ h => h) (fun _ h => h.elim) ?aF ?aB ?aS ?aL ?_; (case aR => repeat (first | exact (Kd.C_below HR0_3.out HB.out) | (with_reducible refine Kd.C_alloc ?_ _) | (with_reducible refine Kd.C_drewN ?_ _) | (with_reducible refine Kd.C_drew ?_))); (case aB => exact (bel HB)); (case aF => exact (fun k_ hk => Kd.fresh' (Kd.R_lt (mR HO308)) k_ hk)); (case aO => exact (by (with_reducible repeat (first | apply Kd.R_alloc | apply Kd.R_drewN | apply Kd.R_drew)); exact Kd.R_mono HO311.out (fun _ hk => hk.2))); (case aS => exact (below_size (bel HB))); (case aL => have := LMc3.out; omega); intro v313 w16 ho hb hg hat; rw [← Ny312.out] at ho; replace BK301 := Aside0.mk (blk_grown (g := gb301) (o := .cells #[.int .i64 a0_0, .slice Ao11 y306.length co11, .int .i64 a0_2, .slice A0_3 l0_3.length c0_3] 59 (0, 0)) (mB BK301) hg (Kd.R_ne HO311.out BK301.out (by decide))); replace BK302 := Aside0.mk (blk_grown (g := gb302) (o := .cells #[.int .i64 0, .slice none 0 0, .int .i64 0, .slice none 0 0] 59 (0, 0)) (mB BK302) hg (Kd.R_ne HO311.out BK302.out (by decide))); replace HO308 := Aside0.mk (Kd.R_after (ok := (fun _ => True)) (mR HO308) hg hat); replace HB := Aside0.mk hb; have HO314 := Aside0.mk ho; clear HO311; clear ho hb hg hat; obtain ⟨Ao17, co17, eo17⟩ := Kd.R_slice HO314.out; subst eo17; have hz18 := cl4 BK301; have hz19 := cl4 BK302))
   refine bodyPost_ret (results_cell_row rfl _ _ gb302 59 #[.int .i64 a0_0, .slice Ao11 y306.length co11, .int .i64 a0_2, .slice Ao17 y312.length co17] (0, 0) _ rfl (mP BK302) Try.underlying59 rfl (by kernel_rfl)) rfl ?_
   exact ⟨_, _, by first | rfl | (simp [errW_none, errW_some] <;> rfl) | (simp [*, errW_none, errW_some] <;> rfl), by (with_reducible repeat (first | apply Kd.R_alloc | apply Kd.R_drewN | apply Kd.R_drew)); exact Kd.R_mono (RF (RF (RF (RF (Kd.R_far (p := ⟨gb301, 3, none⟩) (Kd.R_types (Kd.R_types HO308.out BK301.out (by decide)) BK302.out (by decide)) (fun _ hk => hk.1.2) (.slice Ao17 y312.length co17)))))) (fun _ hk => hk.1.1.2), by (with_reducible repeat (first | apply Kd.R_alloc | apply Kd.R_drewN | apply Kd.R_drew)); exact Kd.R_mono (RF (RF (RF (RF (Kd.R_far (p := ⟨gb301, 3, none⟩) (Kd.R_types (Kd.R_types HO314.out BK301.out (by decide)) BK302.out (by decide)) (fun _ hk => hk.1.2) (.slice Ao17 y312.length co17)))))) (fun _ hk => hk.1.1), bel HB⟩
  ·
   rw [if_neg c3] at H
   exact absurd H (by simp)
 ·
  rw [if_neg c2] at H
  exact absurd H (by simp)

end Go.Proofs.Ytgfoifkkffffgab.PFnWires
