-- Laid by a turned copy of the printer (wip/tools/patch_print.py)
import Derived.Test.YtgfoifkkffffgaaPFnExactMailFaultx0
namespace Go.Proofs.Ytgfoifkkffffgaa.PFnExactMailFault
open Go.RowKit Go.Proofs.YtgfoifkkffffgaaW.PrintWords Go.Proofs.YtgfoifkkffffgaaW.PrintLast Go.Proofs.YtgfoifkkffffgaaW.PrintMore
attribute [local go_sem] max2_int min2_int max_two min_two max_three min_three max_four min_four   -- for this text's walks alone
set_option linter.unusedVariables false
set_option linter.unusedSimpArgs false

/-! ### spec_l12Zero: function 73 -/
def spec_l12Zero.f (a0_0 : Int) (a0_1 : Int) (a0_2 : Int) (l0_3 : List Int) : Option (Bool) := if a0_0 = 0 then (if a0_1 = 0 then (if a0_2 = 0 then (some ((l0_3.length : Int) == 0)) else (some false)) else (some false)) else (some false)
set_option maxHeartbeats 8000000 in
set_option maxRecDepth 100000 in
theorem spec_l12Zero.calls (a0_0 : Int) (a0_1 : Int) (a0_2 : Int) (A0_3 : Option Addr) (c0_3 : Nat) (l0_3 : List Int) (r : Bool) (w : World) (hr0_3 : Kd.C (Kd.int .u8) w A0_3 l0_3.length l0_3) (hc0_3 : l0_3.length ≤ c0_3) (h : spec_l12Zero.f a0_0 a0_1 a0_2 l0_3 = some r) :
  Calls Try.prog 73 #[.agg #[.int .i64 a0_0, .int .i64 a0_1, .int .i64 a0_2, .slice A0_3 l0_3.length c0_3]] w fun e w' => e = .returned (.bool r) ∧ Below w.heap.size w w' := by
 have hu51 := Try.underlying51
 have HR0_3 := Aside0.mk hr0_3
 have HC0_3 := Aside0.mk hc0_3
 clear hr0_3 hc0_3
 have HB := Aside0.mk (Below.refl w.heap.size w)
 have H : (if a0_0 = 0 then (if a0_1 = 0 then (if a0_2 = 0 then (some ((l0_3.length : Int) == 0)) else (some false)) else (some false)) else (some false)) = some r := h
 clear h
 by_cases c2 : a0_0 = 0
 ·
  rw [if_pos c2] at H
  have c2b0 : (a0_0 == 0) = true := beq_iff_eq.mpr c2
  have c2b1 : (a0_0 != 0) = false := bne_eq_false_iff_eq.mpr c2
  clear c2
  by_cases c3 : a0_1 = 0
  ·
   rw [if_pos c3] at H
   have c3b0 : (a0_1 == 0) = true := beq_iff_eq.mpr c3
   have c3b1 : (a0_1 != 0) = false := bne_eq_false_iff_eq.mpr c3
   clear c3
   by_cases c4 : a0_2 = 0
   ·
    rw [if_pos c4] at H
    have c4b0 : (a0_2 == 0) = true := beq_iff_eq.mpr c4
    have c4b1 : (a0_2 != 0) = false := bne_eq_false_iff_eq.mpr c4
    clear c4
    obtain rfl := Option.some.inj H
    go_enter Try.func73, Try.ntmps73
    go_wp2_with (first | ((with_reducible refine gate_dst (N := 1) rfl ?_); (try (refine gate_guard (by rfl) ?_; dsimp only)); refine boxE #[.int .i64 a0_0, .int .i64 a0_1, .int .i64 a0_2, .slice A0_3 l0_3.length c0_3] 51 (N := 1) rfl rfl ?_; intro gb190 hg w5 hbox hb; have BK190 := Aside0.mk hbox; have GW190 := gZ HB hg; have GE190 := gZ HB hg; replace HB := bS HB hb; clear hb hbox hg; have hz6 := cl4 BK190))
    go_ret
    exact ⟨by first | rfl | (simp [errW_none, errW_some] <;> rfl) | (simp [*, errW_none, errW_some] <;> rfl), bel HB⟩
   ·
    rw [if_neg c4] at H
    have c4b0 : (a0_2 == 0) = false := beq_eq_false_iff_ne.mpr c4
    have c4b1 : (a0_2 != 0) = true := bne_iff_ne.mpr c4
    obtain rfl := Option.some.inj H
    go_enter Try.func73, Try.ntmps73
    go_wp2_with (first | ((with_reducible refine gate_dst (N := 1) rfl ?_); (try (refine gate_guard (by rfl) ?_; dsimp only)); refine boxE #[.int .i64 a0_0, .int .i64 a0_1, .int .i64 a0_2, .slice A0_3 l0_3.length c0_3] 51 (N := 1) rfl rfl ?_; intro gb190 hg w7 hbox hb; have BK190 := Aside0.mk hbox; have GW190 := gZ HB hg; have GE190 := gZ HB hg; replace HB := bS HB hb; clear hb hbox hg; have hz8 := cl4 BK190))
    go_ret
    exact ⟨by first | rfl | (simp [errW_none, errW_some] <;> rfl) | (simp [*, errW_none, errW_some] <;> rfl), bel HB⟩
  ·
   rw [if_neg c3] at H
   have c3b0 : (a0_1 == 0) = false := beq_eq_false_iff_ne.mpr c3
   have c3b1 : (a0_1 != 0) = true := bne_iff_ne.mpr c3
   obtain rfl := Option.some.inj H
   go_enter Try.func73, Try.ntmps73
   go_wp2_with (first | ((with_reducible refine gate_dst (N := 1) rfl ?_); (try (refine gate_guard (by rfl) ?_; dsimp only)); refine boxE #[.int .i64 a0_0, .int .i64 a0_1, .int .i64 a0_2, .slice A0_3 l0_3.length c0_3] 51 (N := 1) rfl rfl ?_; intro gb190 hg w9 hbox hb; have BK190 := Aside0.mk hbox; have GW190 := gZ HB hg; have GE190 := gZ HB hg; replace HB := bS HB hb; clear hb hbox hg; have hz10 := cl4 BK190))
   go_ret
   exact ⟨by first | rfl | (simp [errW_none, errW_some] <;> rfl) | (simp [*, errW_none, errW_some] <;> rfl), bel HB⟩
 ·
  rw [if_neg c2] at H
  have c2b0 : (a0_0 == 0) = false := beq_eq_false_iff_ne.mpr c2
  have c2b1 : (a0_0 != 0) = true := bne_iff_ne.mpr c2
  obtain rfl := Option.some.inj H
  go_enter Try.func73, Try.ntmps73
  go_wp2_with (first | ((with_reducible refine gate_dst (N := 1) rfl ?_); (try (refine gate_guard (by rfl) ?_; dsimp only)); refine boxE #[.int .i64 a0_0, .int .i64 a0_1, .int .i64 a0_2, .slice A0_3 l0_3.length c0_3] 51 (N := 1) rfl rfl ?_; intro gb190 hg w11 hbox hb; have BK190 := Aside0.mk hbox; have GW190 := gZ HB hg; have GE190 := gZ HB hg; replace HB := bS HB hb; clear hb hbox hg; have hz12 := cl4 BK190))
  go_ret
  exact ⟨by first | rfl | (simp [errW_none, errW_some] <;> rfl) | (simp [*, errW_none, errW_some] <;> rfl), bel HB⟩

/-! ### spec_l12Form: function 64 -/
def spec_l12Form.f (a0_0 : Int) (a0_1 : Int) (a0_2 : Int) (a0_3 : Int) (a0_4 : Int) (a0_5 : Bool) (a0_6 : Int) (a0_7 : Int) (a0_8 : Int) (l0_9 : List Int) : Option (Bool) := if a0_0 = 2 then (if a0_5 = true then (some false) else (if a0_4 = 0 then ((spec_l12Zero.f a0_6 a0_7 a0_8 l0_9).bind fun t192 => (some t192)) else (some false))) else (if ((a0_3 == 0) == (a0_4 == 0)) = true then (if a0_5 = true then (some (decide (a0_4 ≤ a0_2))) else ((spec_l12Zero.f a0_6 a0_7 a0_8 l0_9).bind fun t193 => (if t193 = true then (some (decide (a0_4 ≤ a0_2))) else (some false)))) else (some false))
set_option maxHeartbeats 8000000 in
set_option maxRecDepth 100000 in
theorem spec_l12Form.calls (a0_0 : Int) (a0_1 : Int) (a0_2 : Int) (a0_3 : Int) (a0_4 : Int) (a0_5 : Bool) (a0_6 : Int) (a0_7 : Int) (a0_8 : Int) (A0_9 : Option Addr) (c0_9 : Nat) (l0_9 : List Int) (r : Bool) (w : World) (hr0_9 : Kd.C (Kd.int .u8) w A0_9 l0_9.length l0_9) (hc0_9 : l0_9.length ≤ c0_9) (h : spec_l12Form.f a0_0 a0_1 a0_2 a0_3 a0_4 a0_5 a0_6 a0_7 a0_8 l0_9 = some r) :
  Calls Try.prog 64 #[.agg #[.int .i64 a0_0, .int .i64 a0_1, .int .i64 a0_2, .int .i64 a0_3, .int .i64 a0_4, .bool a0_5, .int .i64 a0_6, .int .i64 a0_7, .int .i64 a0_8, .slice A0_9 l0_9.length c0_9]] w fun e w' => e = .returned (.bool r) ∧ Below w.heap.size w w' := by
 have hu53 := Try.underlying53
 have hu51 := Try.underlying51
 have hu49 := Try.underlying49
 have HR0_9 := Aside0.mk hr0_9
 have HC0_9 := Aside0.mk hc0_9
 clear hr0_9 hc0_9
 have HB := Aside0.mk (Below.refl w.heap.size w)
 have H : (if a0_0 = 2 then (if a0_5 = true then (some false) else (if a0_4 = 0 then ((spec_l12Zero.f a0_6 a0_7 a0_8 l0_9).bind fun t192 => (some t192)) else (some false))) else (if ((a0_3 == 0) == (a0_4 == 0)) = true then (if a0_5 = true then (some (decide (a0_4 ≤ a0_2))) else ((spec_l12Zero.f a0_6 a0_7 a0_8 l0_9).bind fun t193 => (if t193 = true then (some (decide (a0_4 ≤ a0_2))) else (some false)))) else (some false))) = some r := h
 clear h
 by_cases c2 : a0_0 = 2
 ·
  rw [if_pos c2] at H
  have c2b0 : (a0_0 == 2) = true := beq_iff_eq.mpr c2
  have c2b1 : (a0_0 != 2) = false := bne_eq_false_iff_eq.mpr c2
  clear c2
  by_cases c3 : a0_5 = true
  ·
   subst c3
   have H1 : (some false) = some r := by rw [if_pos rfl] at H; first | done | exact H
   clear H
   have H := H1
   clear H1
   obtain rfl := Option.some.inj H
   go_enter Try.func64, Try.ntmps64
   go_wp2_with (first | ((with_reducible refine gate_dst (N := 1) rfl ?_); refine boxE #[.int .i64 a0_0, .int .i64 a0_1, .int .i64 a0_2, .int .i64 a0_3, .int .i64 a0_4, .bool true, .int .i64 a0_6, .int .i64 a0_7, .int .i64 a0_8, .slice A0_9 l0_9.length c0_9] 53 (N := 1) rfl rfl ?_; intro gb191 hg w4 hbox hb; have BK191 := Aside0.mk hbox; have GW191 := gZ HB hg; have GE191 := gZ HB hg; replace HB := bS HB hb; clear hb hbox hg; have hz5 := cl10 BK191))
   go_ret
   exact ⟨by first | rfl | (simp [errW_none, errW_some] <;> rfl) | (simp [*, errW_none, errW_some] <;> rfl), bel HB⟩
  ·
   replace c3 := Bool.eq_false_iff.mpr c3
   subst c3
   have H1 : (if a0_4 = 0 then ((spec_l12Zero.f a0_6 a0_7 a0_8 l0_9).bind fun t192 => (some t192)) else (some false)) = some r := by rw [if_neg (show ¬ (false = true) by decide)] at H; first | done | exact H
   clear H
   have H := H1
   clear H1
   by_cases c6 : a0_4 = 0
   ·
    rw [if_pos c6] at H
    have c6b0 : (a0_4 == 0) = true := beq_iff_eq.mpr c6
    have c6b1 : (a0_4 != 0) = false := bne_eq_false_iff_eq.mpr c6
    clear c6
    replace H := Option.bind_eq_some_iff.mp H
    obtain ⟨t192, A70, H⟩ := H
    replace H : (some t192) = some r := H
    have A7 := Aside0.mk A70
    clear A70
    obtain rfl := Option.some.inj H
    go_enter Try.func64, Try.ntmps64
    go_wp2_with (first | ((with_reducible refine gate_dst (N := 1) rfl ?_); refine boxE #[.int .i64 a0_0, .int .i64 a0_1, .int .i64 a0_2, .int .i64 a0_3, .int .i64 a0_4, .bool false, .int .i64 a0_6, .int .i64 a0_7, .int .i64 a0_8, .slice A0_9 l0_9.length c0_9] 53 (N := 1) rfl rfl ?_; intro gb191 hg w8 hbox hb; have BK191 := Aside0.mk hbox; have GW191 := gZ HB hg; have GE191 := gZ HB hg; replace HB := bS HB hb; clear hb hbox hg; have hz9 := cl10 BK191) | (go_at_call 73; (with_reducible refine (spec_l12Zero.calls a0_6 a0_7 a0_8 _ _ l0_9 t192 _ ?side1 ?side2 A7.out).mono ?_); (case side1 => exact mC HR0_9 HB); (case side2 => exact HC0_9.out); rintro e w10 ⟨rfl, hb⟩; replace BK191 := bK BK191 hb; replace HB := bS HB hb; (try clear hb); (try clear hb2); (try clear hk); (try clear hi)))
    go_ret
    exact ⟨by first | rfl | (simp [errW_none, errW_some] <;> rfl) | (simp [*, errW_none, errW_some] <;> rfl), bel HB⟩
   ·
    rw [if_neg c6] at H
    have c6b0 : (a0_4 == 0) = false := beq_eq_false_iff_ne.mpr c6
    have c6b1 : (a0_4 != 0) = true := bne_iff_ne.mpr c6
    obtain rfl := Option.some.inj H
    go_enter Try.func64, Try.ntmps64
    go_wp2_with (first | ((with_reducible refine gate_dst (N := 1) rfl ?_); refine boxE #[.int .i64 a0_0, .int .i64 a0_1, .int .i64 a0_2, .int .i64 a0_3, .int .i64 a0_4, .bool false, .int .i64 a0_6, .int .i64 a0_7, .int .i64 a0_8, .slice A0_9 l0_9.length c0_9] 53 (N := 1) rfl rfl ?_; intro gb191 hg w11 hbox hb; have BK191 := Aside0.mk hbox; have GW191 := gZ HB hg; have GE191 := gZ HB hg; replace HB := bS HB hb; clear hb hbox hg; have hz12 := cl10 BK191))
    go_ret
    exact ⟨by first | rfl | (simp [errW_none, errW_some] <;> rfl) | (simp [*, errW_none, errW_some] <;> rfl), bel HB⟩
 ·
  rw [if_neg c2] at H
  have c2b0 : (a0_0 == 2) = false := beq_eq_false_iff_ne.mpr c2
  have c2b1 : (a0_0 != 2) = true := bne_iff_ne.mpr c2
  by_cases c13 : ((a0_3 == 0) == (a0_4 == 0)) = true
  ·
   rw [if_pos c13] at H
   have c13b0 : ((a0_3 == 0) == (a0_4 == 0)) = true := c13
   (try (have c13b1 : decide ((a0_3 == 0) = (a0_4 == 0)) = true := by simpa using c13))
   (try (have c13b2 : ((a0_3 == 0) == (a0_4 == 0)) = true := by simpa using c13))
   clear c13
   by_cases c14 : a0_5 = true
   ·
    subst c14
    have H1 : (some (decide (a0_4 ≤ a0_2))) = some r := by rw [if_pos rfl] at H; first | done | exact H
    clear H
    have H := H1
    clear H1
    obtain rfl := Option.some.inj H
    go_enter Try.func64, Try.ntmps64
    go_wp2_with (first | ((with_reducible refine gate_dst (N := 1) rfl ?_); refine boxE #[.int .i64 a0_0, .int .i64 a0_1, .int .i64 a0_2, .int .i64 a0_3, .int .i64 a0_4, .bool true, .int .i64 a0_6, .int .i64 a0_7, .int .i64 a0_8, .slice A0_9 l0_9.length c0_9] 53 (N := 1) rfl rfl ?_; intro gb191 hg w15 hbox hb; have BK191 := Aside0.mk hbox; have GW191 := gZ HB hg; have GE191 := gZ HB hg; replace HB := bS HB hb; clear hb hbox hg; have hz16 := cl10 BK191))
    go_ret
    exact ⟨by first | rfl | (simp [errW_none, errW_some] <;> rfl) | (simp [*, errW_none, errW_some] <;> rfl), bel HB⟩
   ·
    replace c14 := Bool.eq_false_iff.mpr c14
    subst c14
    have H1 : ((spec_l12Zero.f a0_6 a0_7 a0_8 l0_9).bind fun t193 => (if t193 = true then (some (decide (a0_4 ≤ a0_2))) else (some false))) = some r := by rw [if_neg (show ¬ (false = true) by decide)] at H; first | done | exact H
    clear H
    have H := H1
    clear H1
    replace H := Option.bind_eq_some_iff.mp H
    obtain ⟨t193, A170, H⟩ := H
    replace H : (if t193 = true then (some (decide (a0_4 ≤ a0_2))) else (some false)) = some r := H
    have A17 := Aside0.mk A170
    clear A170
    by_cases c18 : t193 = true
    ·
     subst c18
     have H1 : (some (decide (a0_4 ≤ a0_2))) = some r := by rw [if_pos rfl] at H; first | done | exact H
     clear H
     have H := H1
     clear H1
     obtain rfl := Option.some.inj H
     go_enter Try.func64, Try.ntmps64
     go_wp2_with (first | ((with_reducible refine gate_dst (N := 1) rfl ?_); refine boxE #[.int .i64 a0_0, .int .i64 a0_1, .int .i64 a0_2, .int .i64 a0_3, .int .i64 a0_4, .bool false, .int .i64 a0_6, .int .i64 a0_7, .int .i64 a0_8, .slice A0_9 l0_9.length c0_9] 53 (N := 1) rfl rfl ?_; intro gb191 hg w19 hbox hb; have BK191 := Aside0.mk hbox; have GW191 := gZ HB hg; have GE191 := gZ HB hg; replace HB := bS HB hb; clear hb hbox hg; have hz20 := cl10 BK191) | (go_at_call 73; (with_reducible refine (spec_l12Zero.calls a0_6 a0_7 a0_8 _ _ l0_9 true _ ?side1 ?side2 A17.out).mono ?_); (case side1 => exact mC HR0_9 HB); (case side2 => exact HC0_9.out); rintro e w21 ⟨rfl, hb⟩; replace BK191 := bK BK191 hb; replace HB := bS HB hb; (try clear hb); (try clear hb2); (try clear hk); (try clear hi); have hz22 := cl10 BK191))
     go_ret
     exact ⟨by first | rfl | (simp [errW_none, errW_some] <;> rfl) | (simp [*, errW_none, errW_some] <;> rfl), bel HB⟩
    ·
     replace c18 := Bool.eq_false_iff.mpr c18
     subst c18
     have H1 : (some false) = some r := by rw [if_neg (show ¬ (false = true) by decide)] at H; first | done | exact H
     clear H
     have H := H1
     clear H1
     obtain rfl := Option.some.inj H
     go_enter Try.func64, Try.ntmps64
     go_wp2_with (first | ((with_reducible refine gate_dst (N := 1) rfl ?_); refine boxE #[.int .i64 a0_0, .int .i64 a0_1, .int .i64 a0_2, .int .i64 a0_3, .int .i64 a0_4, .bool false, .int .i64 a0_6, .int .i64 a0_7, .int .i64 a0_8, .slice A0_9 l0_9.length c0_9] 53 (N := 1) rfl rfl ?_; intro gb191 hg w23 hbox hb; have BK191 := Aside0.mk hbox; have GW191 := gZ HB hg; have GE191 := gZ HB hg; replace HB := bS HB hb; clear hb hbox hg; have hz24 := cl10 BK191) | (go_at_call 73; (with_reducible refine (spec_l12Zero.calls a0_6 a0_7 a0_8 _ _ l0_9 false _ ?side1 ?side2 A17.out).mono ?_); (case side1 => exact mC HR0_9 HB); (case side2 => exact HC0_9.out); rintro e w25 ⟨rfl, hb⟩; replace BK191 := bK BK191 hb; replace HB := bS HB hb; (try clear hb); (try clear hb2); (try clear hk); (try clear hi)))
     go_ret
     exact ⟨by first | rfl | (simp [errW_none, errW_some] <;> rfl) | (simp [*, errW_none, errW_some] <;> rfl), bel HB⟩
  ·
   rw [if_neg c13] at H
   have c13b0 : ((a0_3 == 0) == (a0_4 == 0)) = false := by simpa using c13
   (try (have c13b1 : decide ((a0_3 == 0) = (a0_4 == 0)) = false := by simpa using c13))
   (try (have c13b2 : ((a0_3 == 0) == (a0_4 == 0)) = false := by simpa using c13))
   (try (have c13b3 : ¬ ((a0_3 == 0) = (a0_4 == 0)) := by simpa using c13))
   clear c13
   obtain rfl := Option.some.inj H
   go_enter Try.func64, Try.ntmps64
   go_wp2_with (first | ((with_reducible refine gate_dst (N := 1) rfl ?_); refine boxE #[.int .i64 a0_0, .int .i64 a0_1, .int .i64 a0_2, .int .i64 a0_3, .int .i64 a0_4, .bool a0_5, .int .i64 a0_6, .int .i64 a0_7, .int .i64 a0_8, .slice A0_9 l0_9.length c0_9] 53 (N := 1) rfl rfl ?_; intro gb191 hg w26 hbox hb; have BK191 := Aside0.mk hbox; have GW191 := gZ HB hg; have GE191 := gZ HB hg; replace HB := bS HB hb; clear hb hbox hg; have hz27 := cl10 BK191))
   go_ret
   exact ⟨by first | rfl | (simp [errW_none, errW_some] <;> rfl) | (simp [*, errW_none, errW_some] <;> rfl), bel HB⟩

end Go.Proofs.Ytgfoifkkffffgaa.PFnExactMailFault
