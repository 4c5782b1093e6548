-- Laid by a turned copy of the printer (wip/tools/patch_print.py)
import Derived.Test.YtgfoifkkffffgaaPFnExactMailFaultx0
import Derived.Test.YtgfoifkkffffgaaPFnExactMailFaultx6
namespace Go.Proofs.Ytgfoifkkffffgaa.PFnExactMailFault
open Go.RowKit Go.Proofs.YtgfoifkkffffgaaW.PrintWords Go.Proofs.YtgfoifkkffffgaaW.PrintLast Go.Proofs.YtgfoifkkffffgaaW.PrintMore
attribute [local go_sem] max2_int min2_int max_two min_two max_three min_three max_four min_four   -- for this text's walks alone
set_option linter.unusedVariables false
set_option linter.unusedSimpArgs false

/-! ### impl_isNode: function 34 -/
def impl_isNode.f (a0 : Int) : Option (Bool) := (impl_in.f a0 0 1).bind fun t230 => (some t230)
set_option maxHeartbeats 8000000 in
set_option maxRecDepth 100000 in
theorem impl_isNode.calls (a0 : Int) (r : Bool) (w : World) (h : impl_isNode.f a0 = some r) :
  Calls Try.prog 34 #[.int .i64 a0] w fun e w' => e = .returned (.bool r) ∧ Drawn0 w w' := by
 have H : ((impl_in.f a0 0 1).bind fun t230 => (some t230)) = some r := h
 clear h
 replace H := Option.bind_eq_some_iff.mp H
 obtain ⟨t230, A20, H⟩ := H
 replace H : (some t230) = some r := H
 have A2 := Aside0.mk A20
 clear A20
 obtain rfl := Option.some.inj H
 go_enter Try.func34, Try.ntmps34
 go_wp2_with (first | ((with_reducible refine gate_callee (f := 35) rfl ?_); refine goA (some 4) rfl rfl Try.func35 rfl #[.int .i64 a0, .int .i64 0, .int .i64 1] rfl ?_; (with_reducible refine (impl_in.calls a0 0 1 t230 _ A2.out).mono ?_); rintro e w' ⟨rfl, ⟨nd, rfl⟩⟩; refine ⟨_, rfl, ?_⟩))
 go_ret
 exact ⟨by first | rfl | (simp; done) | (simp [*]; done), drw⟩

/-! ### impl_isEpoch: function 48 -/
def impl_isEpoch.f (a0 : Int) : Option (Bool) := (impl_in.f a0 1 1000).bind fun t231 => (some t231)
set_option maxHeartbeats 8000000 in
set_option maxRecDepth 100000 in
theorem impl_isEpoch.calls (a0 : Int) (r : Bool) (w : World) (h : impl_isEpoch.f a0 = some r) :
  Calls Try.prog 48 #[.int .i64 a0] w fun e w' => e = .returned (.bool r) ∧ Drawn0 w w' := by
 have H : ((impl_in.f a0 1 1000).bind fun t231 => (some t231)) = some r := h
 clear h
 replace H := Option.bind_eq_some_iff.mp H
 obtain ⟨t231, A20, H⟩ := H
 replace H : (some t231) = some r := H
 have A2 := Aside0.mk A20
 clear A20
 obtain rfl := Option.some.inj H
 go_enter Try.func48, Try.ntmps48
 go_wp2_with (first | ((with_reducible refine gate_callee (f := 35) rfl ?_); refine goA (some 4) rfl rfl Try.func35 rfl #[.int .i64 a0, .int .i64 1, .int .i64 1000] rfl ?_; (with_reducible refine (impl_in.calls a0 1 1000 t231 _ A2.out).mono ?_); rintro e w' ⟨rfl, ⟨nd, rfl⟩⟩; refine ⟨_, rfl, ?_⟩))
 go_ret
 exact ⟨by first | rfl | (simp; done) | (simp [*]; done), drw⟩

/-! ### impl_isPeer: function 71 -/
def impl_isPeer.f (a0 : Int) : Option (Bool) := (impl_in.f a0 0 2).bind fun t232 => (some t232)
set_option maxHeartbeats 8000000 in
set_option maxRecDepth 100000 in
theorem impl_isPeer.calls (a0 : Int) (r : Bool) (w : World) (h : impl_isPeer.f a0 = some r) :
  Calls Try.prog 71 #[.int .i64 a0] w fun e w' => e = .returned (.bool r) ∧ Drawn0 w w' := by
 have H : ((impl_in.f a0 0 2).bind fun t232 => (some t232)) = some r := h
 clear h
 replace H := Option.bind_eq_some_iff.mp H
 obtain ⟨t232, A20, H⟩ := H
 replace H : (some t232) = some r := H
 have A2 := Aside0.mk A20
 clear A20
 obtain rfl := Option.some.inj H
 go_enter Try.func71, Try.ntmps71
 go_wp2_with (first | ((with_reducible refine gate_callee (f := 35) rfl ?_); refine goA (some 4) rfl rfl Try.func35 rfl #[.int .i64 a0, .int .i64 0, .int .i64 2] rfl ?_; (with_reducible refine (impl_in.calls a0 0 2 t232 _ A2.out).mono ?_); rintro e w' ⟨rfl, ⟨nd, rfl⟩⟩; refine ⟨_, rfl, ?_⟩))
 go_ret
 exact ⟨by first | rfl | (simp; done) | (simp [*]; done), drw⟩

/-! ### impl_EventFault: function 58 -/
def impl_EventFault.j0 : Nat → Bool → Int → Int → List Int → Option (Int)
 | 0, _, _, _, _ => none
 | k + 1, x8, x234000, x234001, x234002 => if x8 = true then (some 3) else (if ((x234000 == 2) != (decide ((x234002.length : Int) > 0))) = true then (some 1) else (if (x234002.length : Int) > 60 then (some 2) else (some 0)))
def impl_EventFault.f (k : Nat) (a0_0 : Int) (a0_1 : Int) (l0_2 : List Int) : Option (Int) := (impl_in.f a0_0 1 4).bind fun t234 => (if t234 = true then ((impl_isPeer.f a0_1).bind fun t235 => (if t235 = true then (if a0_0 = 3 then (impl_EventFault.j0 k (a0_1 != 0) a0_0 a0_1 l0_2) else (impl_EventFault.j0 k false a0_0 a0_1 l0_2)) else (impl_EventFault.j0 k true a0_0 a0_1 l0_2))) else (some 1))
theorem impl_EventFault.mono_l : ∀ k, (∀ y0 y1 y2 y3, LeO (impl_EventFault.j0 k y0 y1 y2 y3) (impl_EventFault.j0 (k + 1) y0 y1 y2 y3))
 | 0 => fun _ _ _ _ r h => by simp [impl_EventFault.j0] at h
 | k + 1 => by
  have ih0 := impl_EventFault.mono_l k
  ·
   intro y0 y1 y2 y3
   unfold impl_EventFault.j0
   repeat' first
   | (with_reducible exact ih0 _ _ _ _)
   | (with_reducible exact LeO.refl _)
   | (with_reducible exact LeO.none _)
   | (with_reducible refine LeO.ite ?_ ?_)
   | (with_reducible refine LeO.bind ?_ (fun _ => ?_))
   | exact ih0 _ _ _ _
   | exact LeO.none _
   | refine LeO.ite ?_ ?_
   | refine LeO.bind ?_ (fun _ => ?_)
theorem impl_EventFault.mono : ∀ a0 a1 a2 k, LeO (impl_EventFault.f k a0 a1 a2) (impl_EventFault.f (k + 1) a0 a1 a2) := by
 intro a0 a1 a2 k
 have ih0 := impl_EventFault.mono_l k
 unfold impl_EventFault.f
 repeat' first
   | (with_reducible exact ih0 _ _ _ _)
   | (with_reducible exact LeO.refl _)
   | (with_reducible exact LeO.none _)
   | (with_reducible refine LeO.ite ?_ ?_)
   | (with_reducible refine LeO.bind ?_ (fun _ => ?_))
   | exact ih0 _ _ _ _
   | exact LeO.none _
   | refine LeO.ite ?_ ?_
   | refine LeO.bind ?_ (fun _ => ?_)
set_option maxHeartbeats 8000000 in
set_option maxRecDepth 100000 in
theorem impl_EventFault.calls (k : Nat) (a0_0 : Int) (a0_1 : Int) (A0_2 : Option Addr) (c0_2 : Nat) (l0_2 : List Int) (r : Int) (w : World) (hr0_2 : Kd.C (Kd.int .u8) w A0_2 l0_2.length l0_2) (hc0_2 : l0_2.length ≤ c0_2) (h : impl_EventFault.f k a0_0 a0_1 l0_2 = some r) :
  Calls Try.prog 58 #[.agg #[.int .i64 a0_0, .int .i64 a0_1, .slice A0_2 l0_2.length c0_2]] w fun e w' => e = .returned (.int .i64 r) ∧ Below w.heap.size w w' := by
 have hu49 := Try.underlying49
 have HR0_2 := Aside0.mk hr0_2
 have HC0_2 := Aside0.mk hc0_2
 clear hr0_2 hc0_2
 have HB := Aside0.mk (Below.refl w.heap.size w)
 have H : ((impl_in.f a0_0 1 4).bind fun t234 => (if t234 = true then ((impl_isPeer.f a0_1).bind fun t235 => (if t235 = true then (if a0_0 = 3 then (impl_EventFault.j0 k (a0_1 != 0) a0_0 a0_1 l0_2) else (impl_EventFault.j0 k false a0_0 a0_1 l0_2)) else (impl_EventFault.j0 k true a0_0 a0_1 l0_2))) else (some 1))) = some r := h
 clear h
 replace H := Option.bind_eq_some_iff.mp H
 obtain ⟨t234, A20, H⟩ := H
 replace H : (if t234 = true then ((impl_isPeer.f a0_1).bind fun t235 => (if t235 = true then (if a0_0 = 3 then (impl_EventFault.j0 k (a0_1 != 0) a0_0 a0_1 l0_2) else (impl_EventFault.j0 k false a0_0 a0_1 l0_2)) else (impl_EventFault.j0 k true a0_0 a0_1 l0_2))) else (some 1)) = some r := H
 have A2 := Aside0.mk A20
 clear A20
 by_cases c3 : t234 = true
 ·
  subst c3
  have H1 : ((impl_isPeer.f a0_1).bind fun t235 => (if t235 = true then (if a0_0 = 3 then (impl_EventFault.j0 k (a0_1 != 0) a0_0 a0_1 l0_2) else (impl_EventFault.j0 k false a0_0 a0_1 l0_2)) else (impl_EventFault.j0 k true a0_0 a0_1 l0_2))) = some r := by rw [if_pos rfl] at H; first | done | exact H
  clear H
  have H := H1
  clear H1
  have HC4 := Aside0.mk H
  clear H
  go_enter Try.func58, Try.ntmps58
  go_upto_region 3 with (first | ((with_reducible refine gate_dst (N := 1) rfl ?_); refine boxE #[.int .i64 a0_0, .int .i64 a0_1, .slice A0_2 l0_2.length c0_2] 49 (N := 1) rfl rfl ?_; intro gb233 hg w5 hbox hb; have BK233 := Aside0.mk hbox; have GW233 := gZ HB hg; have GE233 := gZ HB hg; replace HB := bS HB hb; clear hb hbox hg; have hz6 := cl3 BK233) | ((with_reducible refine gate_callee (f := 35) rfl ?_); refine goA (some 6) rfl rfl Try.func35 rfl #[.int .i64 a0_0, .int .i64 1, .int .i64 4] rfl ?_; (with_reducible refine (impl_in.calls a0_0 1 4 true _ A2.out).mono ?_); rintro e w' ⟨rfl, ⟨nd, rfl⟩⟩; refine ⟨_, rfl, ?_⟩))
  (try simp only [Act.put, List.setIfInBounds_toArray, List.set_cons_zero, List.set_cons_succ])
  go_cut [8] (fun v8 wc => ∃ (kq : Nat) (x8_3 : Bool), v8 = .bool x8_3 ∧ Aside0 (impl_EventFault.j0 kq x8_3 a0_0 a0_1 l0_2 = some r) ∧ Aside0 (kq ≤ k) ∧ Aside0 (wc.heap[gb233]? = some (.cells #[.int .i64 a0_0, .int .i64 a0_1, (.slice A0_2 l0_2.length c0_2)] 49 (0, 0))) ∧ Aside0 (Below w.heap.size w wc))
  case first =>
   have H := HC4.out
   clear HC4
   replace H := Option.bind_eq_some_iff.mp H
   obtain ⟨t235, A70, H⟩ := H
   replace H : (if t235 = true then (if a0_0 = 3 then (impl_EventFault.j0 k (a0_1 != 0) a0_0 a0_1 l0_2) else (impl_EventFault.j0 k false a0_0 a0_1 l0_2)) else (impl_EventFault.j0 k true a0_0 a0_1 l0_2)) = some r := H
   have A7 := Aside0.mk A70
   clear A70
   by_cases c8 : t235 = true
   ·
    subst c8
    have H1 : (if a0_0 = 3 then (impl_EventFault.j0 k (a0_1 != 0) a0_0 a0_1 l0_2) else (impl_EventFault.j0 k false a0_0 a0_1 l0_2)) = some r := by rw [if_pos rfl] at H; first | done | exact H
    clear H
    have H := H1
    clear H1
    by_cases c9 : a0_0 = 3
    ·
     rw [if_pos c9] at H
     have c9b0 : (a0_0 == 3) = true := beq_iff_eq.mpr c9
     have c9b1 : (a0_0 != 3) = false := bne_eq_false_iff_eq.mpr c9
     clear c9
     (first | rw [c9b0] | (simp only [i64_w, i32_w]; rw [c9b0]) | skip)
     have H' := Aside0.mk H
     clear H
     have hz10 := cl3 BK233
     go_wp2_with (first | ((with_reducible refine gate_callee (f := 71) rfl ?_); refine goA (some 11) rfl rfl Try.func71 rfl #[.int .i64 a0_1] rfl ?_; (with_reducible refine (impl_isPeer.calls a0_1 true _ A7.out).mono ?_); rintro e w' ⟨rfl, ⟨nd, rfl⟩⟩; refine ⟨_, rfl, ?_⟩))
     first | go_meet | (refine Met.intro ?_; go_step; (repeat apply Exists.intro); refine ⟨?rel, ?eqq⟩; (case eqq => (try simp only [c9b0]); rfl))
     case rel => exact ⟨_, ((a0_1 != 0)), (by first | rfl | (simp; done) | (simp [*]; done)), H', ⟨by first | omega | exact Nat.le_refl _⟩, ⟨by (with_reducible repeat (first | refine blk_drewN ?_ _ | refine blk_drew ?_ | refine blk_alloc ?_ _)); exact BK233.out⟩, ⟨bel HB⟩⟩
    ·
     rw [if_neg c9] at H
     have c9b0 : (a0_0 == 3) = false := beq_eq_false_iff_ne.mpr c9
     have c9b1 : (a0_0 != 3) = true := bne_iff_ne.mpr c9
     (first | rw [c9b0] | (simp only [i64_w, i32_w]; rw [c9b0]) | skip)
     have H' := Aside0.mk H
     clear H
     have hz11 := cl3 BK233
     go_wp2_with (first | ((with_reducible refine gate_callee (f := 71) rfl ?_); refine goA (some 11) rfl rfl Try.func71 rfl #[.int .i64 a0_1] rfl ?_; (with_reducible refine (impl_isPeer.calls a0_1 true _ A7.out).mono ?_); rintro e w' ⟨rfl, ⟨nd, rfl⟩⟩; refine ⟨_, rfl, ?_⟩))
     first | go_meet | (refine Met.intro ?_; go_step; (repeat apply Exists.intro); refine ⟨?rel, ?eqq⟩; (case eqq => (try simp only [c9b0]); rfl))
     case rel => exact ⟨_, (false), (by first | rfl | (simp; done) | (simp [*]; done)), H', ⟨by first | omega | exact Nat.le_refl _⟩, ⟨by (with_reducible repeat (first | refine blk_drewN ?_ _ | refine blk_drew ?_ | refine blk_alloc ?_ _)); exact BK233.out⟩, ⟨bel HB⟩⟩
   ·
    replace c8 := Bool.eq_false_iff.mpr c8
    subst c8
    have H1 : (impl_EventFault.j0 k true a0_0 a0_1 l0_2) = some r := by rw [if_neg (show ¬ (false = true) by decide)] at H; first | done | exact H
    clear H
    have H := H1
    clear H1
    have H' := Aside0.mk H
    clear H
    have hz12 := cl3 BK233
    go_wp2_with (first | ((with_reducible refine gate_callee (f := 71) rfl ?_); refine goA (some 11) rfl rfl Try.func71 rfl #[.int .i64 a0_1] rfl ?_; (with_reducible refine (impl_isPeer.calls a0_1 false _ A7.out).mono ?_); rintro e w' ⟨rfl, ⟨nd, rfl⟩⟩; refine ⟨_, rfl, ?_⟩))
    go_meet
    case rel => exact ⟨_, (true), (by first | rfl | (simp; done) | (simp [*]; done)), H', ⟨by first | omega | exact Nat.le_refl _⟩, ⟨by (with_reducible repeat (first | refine blk_drewN ?_ _ | refine blk_drew ?_ | refine blk_alloc ?_ _)); exact BK233.out⟩, ⟨bel HB⟩⟩
  case rest =>
   clear HC4
   try clear p2
   try clear c3
   try clear c5
   try clear c7
   try clear c8
   try clear c9
   try clear c9b0
   try clear c9b1
   try clear hz10
   try clear hz11
   try clear hz12
   try clear hz6
   obtain ⟨kq, x8_3, rfl, HA, HJ3, BK233, HB⟩ := hcut
   cases kq with
   | zero => exact absurd HA.out (by simp [impl_EventFault.j0])
   | succ kj3 =>
    have H := HA.out
    clear HA
    simp only [impl_EventFault.j0] at H
    by_cases c13 : x8_3 = true
    ·
     subst c13
     have H1 : (some 3) = some r := by rw [if_pos rfl] at H; first | done | exact H
     clear H
     have H := H1
     clear H1
     obtain rfl := Option.some.inj H
     go_wp2
     go_ret
     exact ⟨by first | rfl | (simp [errW_none, errW_some] <;> rfl) | (simp [*, errW_none, errW_some] <;> rfl), bel HB⟩
    ·
     replace c13 := Bool.eq_false_iff.mpr c13
     subst c13
     have H1 : (if ((a0_0 == 2) != (decide ((l0_2.length : Int) > 0))) = true then (some 1) else (if (l0_2.length : Int) > 60 then (some 2) else (some 0))) = some r := by rw [if_neg (show ¬ (false = true) by decide)] at H; first | done | exact H
     clear H
     have H := H1
     clear H1
     by_cases c14 : ((a0_0 == 2) != (decide ((l0_2.length : Int) > 0))) = true
     ·
      rw [if_pos c14] at H
      have c14b0 : ((a0_0 == 2) != (decide ((l0_2.length : Int) > 0))) = true := c14
      (try (have c14b1 : (!((a0_0 == 2) == (decide (0 < l0_2.length)))) = true := by simpa using c14))
      (try (have c14b2 : ((a0_0 == 2) == (decide (0 < l0_2.length))) = false := by simpa using c14))
      (try (have c14b3 : decide ((a0_0 == 2) = (decide ((l0_2.length : Int) > 0))) = false := by simpa using c14))
      (try (have c14b4 : ((a0_0 == 2) == (decide ((l0_2.length : Int) > 0))) = false := by simpa using c14))
      (try (have c14b5 : ¬ ((a0_0 == 2) = (decide ((l0_2.length : Int) > 0))) := by simpa using c14))
      clear c14
      obtain rfl := Option.some.inj H
      have hz15 := cl3 BK233
      go_wp2
      go_ret
      exact ⟨by first | rfl | (simp [errW_none, errW_some] <;> rfl) | (simp [*, errW_none, errW_some] <;> rfl), bel HB⟩
     ·
      rw [if_neg c14] at H
      have c14b0 : ((a0_0 == 2) != (decide ((l0_2.length : Int) > 0))) = false := by simpa using c14
      (try (have c14b1 : (!((a0_0 == 2) == (decide (0 < l0_2.length)))) = false := by simpa using c14))
      (try (have c14b2 : ((a0_0 == 2) == (decide (0 < l0_2.length))) = true := by simpa using c14))
      (try (have c14b3 : decide ((a0_0 == 2) = (decide ((l0_2.length : Int) > 0))) = true := by simpa using c14))
      (try (have c14b4 : ((a0_0 == 2) == (decide ((l0_2.length : Int) > 0))) = true := by simpa using c14))
      clear c14
      by_cases c16 : (l0_2.length : Int) > 60
      ·
       rw [if_pos c16] at H
       have c16b0 : decide (60 < (l0_2.length : Int)) = true := decide_eq_true c16
       have c16b1 : decide (60 < l0_2.length) = true := decide_eq_true (by omega)
       clear c16
       obtain rfl := Option.some.inj H
       have hz17 := cl3 BK233
       go_wp2
       go_ret
       exact ⟨by first | rfl | (simp [errW_none, errW_some] <;> rfl) | (simp [*, errW_none, errW_some] <;> rfl), bel HB⟩
      ·
       rw [if_neg c16] at H
       have c16b0 : decide (60 < (l0_2.length : Int)) = false := decide_eq_false c16
       have c16b1 : decide (60 < l0_2.length) = false := decide_eq_false (by omega)
       clear c16
       obtain rfl := Option.some.inj H
       have hz18 := cl3 BK233
       go_wp2
       go_ret
       exact ⟨by first | rfl | (simp [errW_none, errW_some] <;> rfl) | (simp [*, errW_none, errW_some] <;> rfl), bel HB⟩
 ·
  replace c3 := Bool.eq_false_iff.mpr c3
  subst c3
  have H1 : (some 1) = some r := by rw [if_neg (show ¬ (false = true) by decide)] at H; first | done | exact H
  clear H
  have H := H1
  clear H1
  obtain rfl := Option.some.inj H
  go_enter Try.func58, Try.ntmps58
  go_wp2_with (first | ((with_reducible refine gate_dst (N := 1) rfl ?_); refine boxE #[.int .i64 a0_0, .int .i64 a0_1, .slice A0_2 l0_2.length c0_2] 49 (N := 1) rfl rfl ?_; intro gb233 hg w19 hbox hb; have BK233 := Aside0.mk hbox; have GW233 := gZ HB hg; have GE233 := gZ HB hg; replace HB := bS HB hb; clear hb hbox hg; have hz20 := cl3 BK233) | ((with_reducible refine gate_callee (f := 35) rfl ?_); refine goA (some 6) rfl rfl Try.func35 rfl #[.int .i64 a0_0, .int .i64 1, .int .i64 4] rfl ?_; (with_reducible refine (impl_in.calls a0_0 1 4 false _ A2.out).mono ?_); rintro e w' ⟨rfl, ⟨nd, rfl⟩⟩; refine ⟨_, rfl, ?_⟩))
  go_ret
  exact ⟨by first | rfl | (simp [errW_none, errW_some] <;> rfl) | (simp [*, errW_none, errW_some] <;> rfl), bel HB⟩

/-! ### impl_EntryFault: function 36 -/
def impl_EntryFault.f (k : Nat) (a0_0 : Int) (a0_1 : Int) (a0_2 : Int) (l0_3 : List Int) : Option (Int) := (impl_isEpoch.f a0_0).bind fun t237 => (if t237 = true then ((impl_EventFault.f k a0_1 a0_2 l0_3).bind fun t238 => (some t238)) else (some 3))
theorem impl_EntryFault.mono : ∀ a0 a1 a2 a3 k, LeO (impl_EntryFault.f k a0 a1 a2 a3) (impl_EntryFault.f (k + 1) a0 a1 a2 a3) := by
 intro a0 a1 a2 a3 k
 unfold impl_EntryFault.f
 repeat' first
   | (with_reducible exact impl_EventFault.mono _ _ _ _)
   | (with_reducible exact LeO.refl _)
   | (with_reducible exact LeO.none _)
   | (with_reducible refine LeO.ite ?_ ?_)
   | (with_reducible refine LeO.bind ?_ (fun _ => ?_))
   | exact impl_EventFault.mono _ _ _ _
   | exact LeO.none _
   | refine LeO.ite ?_ ?_
   | refine LeO.bind ?_ (fun _ => ?_)
set_option maxHeartbeats 8000000 in
set_option maxRecDepth 100000 in
theorem impl_EntryFault.calls (k : Nat) (a0_0 : Int) (a0_1 : Int) (a0_2 : Int) (A0_3 : Option Addr) (c0_3 : Nat) (l0_3 : List Int) (r : Int) (w : World) (hr0_3 : Kd.C (Kd.int .u8) w A0_3 l0_3.length l0_3) (hc0_3 : l0_3.length ≤ c0_3) (h : impl_EntryFault.f k a0_0 a0_1 a0_2 l0_3 = some r) :
  Calls Try.prog 36 #[.agg #[.int .i64 a0_0, .int .i64 a0_1, .int .i64 a0_2, .slice A0_3 l0_3.length c0_3]] w fun e w' => e = .returned (.int .i64 r) ∧ Below w.heap.size w w' := by
 have hu51 := Try.underlying51
 have hu49 := Try.underlying49
 have HR0_3 := Aside0.mk hr0_3
 have HC0_3 := Aside0.mk hc0_3
 clear hr0_3 hc0_3
 have HB := Aside0.mk (Below.refl w.heap.size w)
 have H : ((impl_isEpoch.f a0_0).bind fun t237 => (if t237 = true then ((impl_EventFault.f k a0_1 a0_2 l0_3).bind fun t238 => (some t238)) else (some 3))) = some r := h
 clear h
 replace H := Option.bind_eq_some_iff.mp H
 obtain ⟨t237, A20, H⟩ := H
 replace H : (if t237 = true then ((impl_EventFault.f k a0_1 a0_2 l0_3).bind fun t238 => (some t238)) else (some 3)) = some r := H
 have A2 := Aside0.mk A20
 clear A20
 by_cases c3 : t237 = true
 ·
  subst c3
  have H1 : ((impl_EventFault.f k a0_1 a0_2 l0_3).bind fun t238 => (some t238)) = some r := by rw [if_pos rfl] at H; first | done | exact H
  clear H
  have H := H1
  clear H1
  replace H := Option.bind_eq_some_iff.mp H
  obtain ⟨t238, A40, H⟩ := H
  replace H : (some t238) = some r := H
  have A4 := Aside0.mk A40
  clear A40
  obtain rfl := Option.some.inj H
  go_enter Try.func36, Try.ntmps36
  go_wp2_with (first | ((with_reducible refine gate_dst (N := 1) rfl ?_); refine boxE #[.int .i64 a0_0, .int .i64 a0_1, .int .i64 a0_2, .slice A0_3 l0_3.length c0_3] 51 (N := 1) rfl rfl ?_; intro gb236 hg w5 hbox hb; have BK236 := Aside0.mk hbox; have GW236 := gZ HB hg; have GE236 := gZ HB hg; replace HB := bS HB hb; clear hb hbox hg; have hz6 := cl4 BK236) | ((with_reducible refine gate_callee (f := 48) rfl ?_); refine goA (some 5) rfl rfl Try.func48 rfl #[.int .i64 a0_0] rfl ?_; (with_reducible refine (impl_isEpoch.calls a0_0 true _ A2.out).mono ?_); rintro e w' ⟨rfl, ⟨nd, rfl⟩⟩; refine ⟨_, rfl, ?_⟩) | ((with_reducible refine gate_callee (f := 58) rfl ?_); refine goA (some 9) rfl rfl Try.func58 rfl #[.agg #[.int .i64 a0_1, .int .i64 a0_2, .slice A0_3 l0_3.length c0_3]] rfl ?_; (with_reducible refine (impl_EventFault.calls k a0_1 a0_2 _ _ l0_3 t238 _ ?side1 ?side2 A4.out).mono ?_); (case side1 => repeat (first | exact (Kd.C_below HR0_3.out (bel HB)) | (with_reducible refine Kd.C_alloc ?_ _) | (with_reducible refine Kd.C_drewN ?_ _) | (with_reducible refine Kd.C_drew ?_))); (case side2 => exact HC0_3.out); rintro e w7 ⟨rfl, hb⟩; refine ⟨_, rfl, ?_⟩; replace BK236 := bK BK236 hb; replace HB := bS HB hb; (try clear hb); (try clear hb2); (try clear hk); (try clear hi)))
  go_ret
  exact ⟨by first | rfl | (simp [errW_none, errW_some] <;> rfl) | (simp [*, errW_none, errW_some] <;> rfl), bel HB⟩
 ·
  replace c3 := Bool.eq_false_iff.mpr c3
  subst c3
  have H1 : (some 3) = some r := by rw [if_neg (show ¬ (false = true) by decide)] at H; first | done | exact H
  clear H
  have H := H1
  clear H1
  obtain rfl := Option.some.inj H
  go_enter Try.func36, Try.ntmps36
  go_wp2_with (first | ((with_reducible refine gate_dst (N := 1) rfl ?_); refine boxE #[.int .i64 a0_0, .int .i64 a0_1, .int .i64 a0_2, .slice A0_3 l0_3.length c0_3] 51 (N := 1) rfl rfl ?_; intro gb236 hg w8 hbox hb; have BK236 := Aside0.mk hbox; have GW236 := gZ HB hg; have GE236 := gZ HB hg; replace HB := bS HB hb; clear hb hbox hg; have hz9 := cl4 BK236) | ((with_reducible refine gate_callee (f := 48) rfl ?_); refine goA (some 5) rfl rfl Try.func48 rfl #[.int .i64 a0_0] rfl ?_; (with_reducible refine (impl_isEpoch.calls a0_0 false _ A2.out).mono ?_); rintro e w' ⟨rfl, ⟨nd, rfl⟩⟩; refine ⟨_, rfl, ?_⟩))
  go_ret
  exact ⟨by first | rfl | (simp [errW_none, errW_some] <;> rfl) | (simp [*, errW_none, errW_some] <;> rfl), bel HB⟩

/-! ### impl_Entry: function 37 -/
def impl_Entry.f (l0 : List (S51)) : Option (Int) := some (l0.length : Int)
set_option maxHeartbeats 8000000 in
set_option maxRecDepth 100000 in
theorem impl_Entry.calls (A0 : Option Addr) (c0 : Nat) (l0 : List (S51)) (r : Int) (w : World) (hr0 : Kd.C k51 w A0 l0.length l0) (hc0 : l0.length ≤ c0) (h : impl_Entry.f l0 = some r) :
  Calls Try.prog 37 #[.slice A0 l0.length c0] w fun e w' => e = .returned (.int .i64 r) ∧ Drawn0 w w' := by
 have HR0 := Aside0.mk hr0
 have HC0 := Aside0.mk hc0
 clear hr0 hc0
 have H : (some (l0.length : Int)) = some r := h
 clear h
 obtain rfl := Option.some.inj H
 go_enter Try.func37, Try.ntmps37
 go_wp2
 go_ret
 exact ⟨by first | rfl | (simp; done) | (simp [*]; done), drw⟩

end Go.Proofs.Ytgfoifkkffffgaa.PFnExactMailFault
