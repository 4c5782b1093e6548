-- Laid by a turned copy of the printer (wip/tools/patch_print.py)
import Derived.Test.YtgfoifkkffffgaaPFnExactMailFaultx0
import Derived.Test.YtgfoifkkffffgaaPFnExactMailFaultx1
import Derived.Test.YtgfoifkkffffgaaPFnExactMailFaultx2
import Derived.Test.YtgfoifkkffffgaaPFnExactMailFaultx6
import Derived.Test.YtgfoifkkffffgaaPFnExactMailFaultx10
namespace Go.Proofs.Ytgfoifkkffffgaa.PFnExactMailFault
open Go.RowKit Go.Proofs.YtgfoifkkffffgaaW.PrintWords Go.Proofs.YtgfoifkkffffgaaW.PrintLast Go.Proofs.YtgfoifkkffffgaaW.PrintMore
attribute [local go_sem] max2_int min2_int max_two min_two max_three min_three max_four min_four   -- for this text's walks alone
set_option linter.unusedVariables false
set_option linter.unusedSimpArgs false

/-! ### laws_eqMail: function 23 -/
def laws_eqMail.f (k : Nat) (a0_0 : Int) (a0_1 : Int) (a0_2 : Int) (a0_3 : Int) (a0_4 : Int) (a0_5 : Bool) (a0_6 : Int) (a0_7 : Int) (a0_8 : Int) (l0_9 : List Int) (a1_0 : Int) (a1_1 : Int) (a1_2 : Int) (a1_3 : Int) (a1_4 : Int) (a1_5 : Bool) (a1_6 : Int) (a1_7 : Int) (a1_8 : Int) (l1_9 : List Int) : Option (Bool) := if a0_0 = a1_0 then (if a0_1 = a1_1 then (if a0_2 = a1_2 then (if a0_3 = a1_3 then (if a0_4 = a1_4 then (if (a0_5 != a1_5) = true then (some false) else ((laws_eqEntry.f k a0_6 a0_7 a0_8 l0_9 a1_6 a1_7 a1_8 l1_9).bind fun t263 => (if t263 = true then (some true) else (some false)))) else (some false)) else (some false)) else (some false)) else (some false)) else (some false)
theorem laws_eqMail.mono : ∀ a0 a1 a2 a3 a4 a5 a6 a7 a8 a9 a10 a11 a12 a13 a14 a15 a16 a17 a18 a19 k, LeO (laws_eqMail.f k a0 a1 a2 a3 a4 a5 a6 a7 a8 a9 a10 a11 a12 a13 a14 a15 a16 a17 a18 a19) (laws_eqMail.f (k + 1) a0 a1 a2 a3 a4 a5 a6 a7 a8 a9 a10 a11 a12 a13 a14 a15 a16 a17 a18 a19) := by
 intro a0 a1 a2 a3 a4 a5 a6 a7 a8 a9 a10 a11 a12 a13 a14 a15 a16 a17 a18 a19 k
 unfold laws_eqMail.f
 repeat' first
   | (with_reducible exact laws_eqEntry.mono _ _ _ _ _ _ _ _ _)
   | (with_reducible exact LeO.refl _)
   | (with_reducible exact LeO.none _)
   | (with_reducible refine LeO.ite ?_ ?_)
   | (with_reducible refine LeO.bind ?_ (fun _ => ?_))
   | exact laws_eqEntry.mono _ _ _ _ _ _ _ _ _
   | exact LeO.none _
   | refine LeO.ite ?_ ?_
   | refine LeO.bind ?_ (fun _ => ?_)
set_option maxHeartbeats 8000000 in
set_option maxRecDepth 100000 in
theorem laws_eqMail.calls (k : Nat) (a0_0 : Int) (a0_1 : Int) (a0_2 : Int) (a0_3 : Int) (a0_4 : Int) (a0_5 : Bool) (a0_6 : Int) (a0_7 : Int) (a0_8 : Int) (A0_9 : Option Addr) (c0_9 : Nat) (l0_9 : List Int) (a1_0 : Int) (a1_1 : Int) (a1_2 : Int) (a1_3 : Int) (a1_4 : Int) (a1_5 : Bool) (a1_6 : Int) (a1_7 : Int) (a1_8 : Int) (A1_9 : Option Addr) (c1_9 : Nat) (l1_9 : List Int) (r : Bool) (w : World) (hr0_9 : Kd.C (Kd.int .u8) w A0_9 l0_9.length l0_9) (hc0_9 : l0_9.length ≤ c0_9) (hr1_9 : Kd.C (Kd.int .u8) w A1_9 l1_9.length l1_9) (hc1_9 : l1_9.length ≤ c1_9) (h : laws_eqMail.f k a0_0 a0_1 a0_2 a0_3 a0_4 a0_5 a0_6 a0_7 a0_8 l0_9 a1_0 a1_1 a1_2 a1_3 a1_4 a1_5 a1_6 a1_7 a1_8 l1_9 = some r) :
  Calls Try.prog 23 #[.agg #[.int .i64 a0_0, .int .i64 a0_1, .int .i64 a0_2, .int .i64 a0_3, .int .i64 a0_4, .bool a0_5, .int .i64 a0_6, .int .i64 a0_7, .int .i64 a0_8, .slice A0_9 l0_9.length c0_9], .agg #[.int .i64 a1_0, .int .i64 a1_1, .int .i64 a1_2, .int .i64 a1_3, .int .i64 a1_4, .bool a1_5, .int .i64 a1_6, .int .i64 a1_7, .int .i64 a1_8, .slice A1_9 l1_9.length c1_9]] w fun e w' => e = .returned (.bool r) ∧ Below w.heap.size w w' := by
 have hu53 := Try.underlying53
 have hu51 := Try.underlying51
 have hu49 := Try.underlying49
 have HR0_9 := Aside0.mk hr0_9
 have HC0_9 := Aside0.mk hc0_9
 clear hr0_9 hc0_9
 have HR1_9 := Aside0.mk hr1_9
 have HC1_9 := Aside0.mk hc1_9
 clear hr1_9 hc1_9
 have HB := Aside0.mk (Below.refl w.heap.size w)
 have H : (if a0_0 = a1_0 then (if a0_1 = a1_1 then (if a0_2 = a1_2 then (if a0_3 = a1_3 then (if a0_4 = a1_4 then (if (a0_5 != a1_5) = true then (some false) else ((laws_eqEntry.f k a0_6 a0_7 a0_8 l0_9 a1_6 a1_7 a1_8 l1_9).bind fun t263 => (if t263 = true then (some true) else (some false)))) else (some false)) else (some false)) else (some false)) else (some false)) else (some false)) = some r := h
 clear h
 by_cases c3 : a0_0 = a1_0
 ·
  rw [if_pos c3] at H
  have c3b0 : (a0_0 == a1_0) = true := beq_iff_eq.mpr c3
  have c3b1 : (a0_0 != a1_0) = false := bne_eq_false_iff_eq.mpr c3
  clear c3
  by_cases c4 : a0_1 = a1_1
  ·
   rw [if_pos c4] at H
   have c4b0 : (a0_1 == a1_1) = true := beq_iff_eq.mpr c4
   have c4b1 : (a0_1 != a1_1) = false := bne_eq_false_iff_eq.mpr c4
   clear c4
   by_cases c5 : a0_2 = a1_2
   ·
    rw [if_pos c5] at H
    have c5b0 : (a0_2 == a1_2) = true := beq_iff_eq.mpr c5
    have c5b1 : (a0_2 != a1_2) = false := bne_eq_false_iff_eq.mpr c5
    clear c5
    by_cases c6 : a0_3 = a1_3
    ·
     rw [if_pos c6] at H
     have c6b0 : (a0_3 == a1_3) = true := beq_iff_eq.mpr c6
     have c6b1 : (a0_3 != a1_3) = false := bne_eq_false_iff_eq.mpr c6
     clear c6
     by_cases c7 : a0_4 = a1_4
     ·
      rw [if_pos c7] at H
      have c7b0 : (a0_4 == a1_4) = true := beq_iff_eq.mpr c7
      have c7b1 : (a0_4 != a1_4) = false := bne_eq_false_iff_eq.mpr c7
      clear c7
      by_cases c8 : (a0_5 != a1_5) = true
      ·
       rw [if_pos c8] at H
       have c8b0 : (a0_5 != a1_5) = true := c8
       (try (have c8b1 : decide (a0_5 = a1_5) = false := by simpa using c8))
       (try (have c8b2 : (a0_5 == a1_5) = false := by simpa using c8))
       (try (have c8b3 : ¬ (a0_5 = a1_5) := by simpa using c8))
       clear c8
       obtain rfl := Option.some.inj H
       go_enter Try.func23, Try.ntmps23
       go_wp2_with (first | ((with_reducible refine gate_dst (N := 2) rfl ?_); refine boxE #[.int .i64 a0_0, .int .i64 a0_1, .int .i64 a0_2, .int .i64 a0_3, .int .i64 a0_4, .bool a0_5, .int .i64 a0_6, .int .i64 a0_7, .int .i64 a0_8, .slice A0_9 l0_9.length c0_9] 53 (N := 2) rfl rfl ?_; intro gb261 hg w9 hbox hb; have BK261 := Aside0.mk hbox; have GW261 := gZ HB hg; have GE261 := gZ HB hg; replace HB := bS HB hb; clear hb hbox hg) | ((with_reducible refine gate_dst (N := 3) rfl ?_); refine boxE #[.int .i64 a1_0, .int .i64 a1_1, .int .i64 a1_2, .int .i64 a1_3, .int .i64 a1_4, .bool a1_5, .int .i64 a1_6, .int .i64 a1_7, .int .i64 a1_8, .slice A1_9 l1_9.length c1_9] 53 (N := 3) rfl rfl ?_; intro gb262 hg w10 hbox hb; have BK262 := Aside0.mk hbox; have GW262 := gZ HB hg; have GE262 := gZ HB hg; replace HB := bS HB hb; have NB261_262 := nL BK261 hg; have NB262_261 := nG BK261 hg; replace BK261 := bK BK261 hb; clear hb hbox hg; have hnb11 := NB261_262.out; have hnc11 := NB262_261.out; have hz12 := cl10 BK261; have hz13 := cl10 BK262))
       go_ret
       exact ⟨by first | rfl | (simp [errW_none, errW_some] <;> rfl) | (simp [*, errW_none, errW_some] <;> rfl), bel HB⟩
      ·
       rw [if_neg c8] at H
       have c8b0 : (a0_5 != a1_5) = false := by simpa using c8
       (try (have c8b1 : decide (a0_5 = a1_5) = true := by simpa using c8))
       (try (have c8b2 : (a0_5 == a1_5) = true := by simpa using c8))
       clear c8
       replace H := Option.bind_eq_some_iff.mp H
       obtain ⟨t263, A140, H⟩ := H
       replace H : (if t263 = true then (some true) else (some false)) = some r := H
       have A14 := Aside0.mk A140
       clear A140
       by_cases c15 : t263 = true
       ·
        subst c15
        have H1 : (some true) = some r := by rw [if_pos rfl] at H; first | done | exact H
        clear H
        have H := H1
        clear H1
        obtain rfl := Option.some.inj H
        go_enter Try.func23, Try.ntmps23
        go_wp2_with (first | ((with_reducible refine gate_dst (N := 2) rfl ?_); refine boxE #[.int .i64 a0_0, .int .i64 a0_1, .int .i64 a0_2, .int .i64 a0_3, .int .i64 a0_4, .bool a0_5, .int .i64 a0_6, .int .i64 a0_7, .int .i64 a0_8, .slice A0_9 l0_9.length c0_9] 53 (N := 2) rfl rfl ?_; intro gb261 hg w16 hbox hb; have BK261 := Aside0.mk hbox; have GW261 := gZ HB hg; have GE261 := gZ HB hg; replace HB := bS HB hb; clear hb hbox hg) | ((with_reducible refine gate_dst (N := 3) rfl ?_); refine boxE #[.int .i64 a1_0, .int .i64 a1_1, .int .i64 a1_2, .int .i64 a1_3, .int .i64 a1_4, .bool a1_5, .int .i64 a1_6, .int .i64 a1_7, .int .i64 a1_8, .slice A1_9 l1_9.length c1_9] 53 (N := 3) rfl rfl ?_; intro gb262 hg w17 hbox hb; have BK262 := Aside0.mk hbox; have GW262 := gZ HB hg; have GE262 := gZ HB hg; replace HB := bS HB hb; have NB261_262 := nL BK261 hg; have NB262_261 := nG BK261 hg; replace BK261 := bK BK261 hb; clear hb hbox hg; have hnb18 := NB261_262.out; have hnc18 := NB262_261.out; have hz19 := cl10 BK261; have hz20 := cl10 BK262) | ((with_reducible refine gate_callee (f := 50) rfl ?_); refine goA (some 39) rfl rfl Try.func50 rfl #[.agg #[.int .i64 a0_6, .int .i64 a0_7, .int .i64 a0_8, .slice A0_9 l0_9.length c0_9], .agg #[.int .i64 a1_6, .int .i64 a1_7, .int .i64 a1_8, .slice A1_9 l1_9.length c1_9]] rfl ?_; (with_reducible refine (laws_eqEntry.calls k a0_6 a0_7 a0_8 _ _ l0_9 a1_6 a1_7 a1_8 _ _ l1_9 true _ ?side1 ?side2 ?side3 ?side4 A14.out).mono ?_); (case side1 => exact mC HR0_9 HB); (case side2 => exact HC0_9.out); (case side3 => exact mC HR1_9 HB); (case side4 => exact HC1_9.out); rintro e w21 ⟨rfl, hb⟩; refine ⟨_, rfl, ?_⟩; replace BK261 := bK BK261 hb; replace BK262 := bK BK262 hb; replace HB := bS HB hb; (try clear hb); (try clear hb2); (try clear hk); (try clear hi)))
        go_ret
        exact ⟨by first | rfl | (simp [errW_none, errW_some] <;> rfl) | (simp [*, errW_none, errW_some] <;> rfl), bel HB⟩
       ·
        replace c15 := Bool.eq_false_iff.mpr c15
        subst c15
        have H1 : (some false) = some r := by rw [if_neg (show ¬ (false = true) by decide)] at H; first | done | exact H
        clear H
        have H := H1
        clear H1
        obtain rfl := Option.some.inj H
        go_enter Try.func23, Try.ntmps23
        go_wp2_with (first | ((with_reducible refine gate_dst (N := 2) rfl ?_); refine boxE #[.int .i64 a0_0, .int .i64 a0_1, .int .i64 a0_2, .int .i64 a0_3, .int .i64 a0_4, .bool a0_5, .int .i64 a0_6, .int .i64 a0_7, .int .i64 a0_8, .slice A0_9 l0_9.length c0_9] 53 (N := 2) rfl rfl ?_; intro gb261 hg w22 hbox hb; have BK261 := Aside0.mk hbox; have GW261 := gZ HB hg; have GE261 := gZ HB hg; replace HB := bS HB hb; clear hb hbox hg) | ((with_reducible refine gate_dst (N := 3) rfl ?_); refine boxE #[.int .i64 a1_0, .int .i64 a1_1, .int .i64 a1_2, .int .i64 a1_3, .int .i64 a1_4, .bool a1_5, .int .i64 a1_6, .int .i64 a1_7, .int .i64 a1_8, .slice A1_9 l1_9.length c1_9] 53 (N := 3) rfl rfl ?_; intro gb262 hg w23 hbox hb; have BK262 := Aside0.mk hbox; have GW262 := gZ HB hg; have GE262 := gZ HB hg; replace HB := bS HB hb; have NB261_262 := nL BK261 hg; have NB262_261 := nG BK261 hg; replace BK261 := bK BK261 hb; clear hb hbox hg; have hnb24 := NB261_262.out; have hnc24 := NB262_261.out; have hz25 := cl10 BK261; have hz26 := cl10 BK262) | ((with_reducible refine gate_callee (f := 50) rfl ?_); refine goA (some 39) rfl rfl Try.func50 rfl #[.agg #[.int .i64 a0_6, .int .i64 a0_7, .int .i64 a0_8, .slice A0_9 l0_9.length c0_9], .agg #[.int .i64 a1_6, .int .i64 a1_7, .int .i64 a1_8, .slice A1_9 l1_9.length c1_9]] rfl ?_; (with_reducible refine (laws_eqEntry.calls k a0_6 a0_7 a0_8 _ _ l0_9 a1_6 a1_7 a1_8 _ _ l1_9 false _ ?side1 ?side2 ?side3 ?side4 A14.out).mono ?_); (case side1 => exact mC HR0_9 HB); (case side2 => exact HC0_9.out); (case side3 => exact mC HR1_9 HB); (case side4 => exact HC1_9.out); rintro e w27 ⟨rfl, hb⟩; refine ⟨_, rfl, ?_⟩; replace BK261 := bK BK261 hb; replace BK262 := bK BK262 hb; replace HB := bS HB hb; (try clear hb); (try clear hb2); (try clear hk); (try clear hi)))
        go_ret
        exact ⟨by first | rfl | (simp [errW_none, errW_some] <;> rfl) | (simp [*, errW_none, errW_some] <;> rfl), bel HB⟩
     ·
      rw [if_neg c7] at H
      have c7b0 : (a0_4 == a1_4) = false := beq_eq_false_iff_ne.mpr c7
      have c7b1 : (a0_4 != a1_4) = true := bne_iff_ne.mpr c7
      obtain rfl := Option.some.inj H
      go_enter Try.func23, Try.ntmps23
      go_wp2_with (first | ((with_reducible refine gate_dst (N := 2) rfl ?_); refine boxE #[.int .i64 a0_0, .int .i64 a0_1, .int .i64 a0_2, .int .i64 a0_3, .int .i64 a0_4, .bool a0_5, .int .i64 a0_6, .int .i64 a0_7, .int .i64 a0_8, .slice A0_9 l0_9.length c0_9] 53 (N := 2) rfl rfl ?_; intro gb261 hg w28 hbox hb; have BK261 := Aside0.mk hbox; have GW261 := gZ HB hg; have GE261 := gZ HB hg; replace HB := bS HB hb; clear hb hbox hg) | ((with_reducible refine gate_dst (N := 3) rfl ?_); refine boxE #[.int .i64 a1_0, .int .i64 a1_1, .int .i64 a1_2, .int .i64 a1_3, .int .i64 a1_4, .bool a1_5, .int .i64 a1_6, .int .i64 a1_7, .int .i64 a1_8, .slice A1_9 l1_9.length c1_9] 53 (N := 3) rfl rfl ?_; intro gb262 hg w29 hbox hb; have BK262 := Aside0.mk hbox; have GW262 := gZ HB hg; have GE262 := gZ HB hg; replace HB := bS HB hb; have NB261_262 := nL BK261 hg; have NB262_261 := nG BK261 hg; replace BK261 := bK BK261 hb; clear hb hbox hg; have hnb30 := NB261_262.out; have hnc30 := NB262_261.out; have hz31 := cl10 BK261; have hz32 := cl10 BK262))
      go_ret
      exact ⟨by first | rfl | (simp [errW_none, errW_some] <;> rfl) | (simp [*, errW_none, errW_some] <;> rfl), bel HB⟩
    ·
     rw [if_neg c6] at H
     have c6b0 : (a0_3 == a1_3) = false := beq_eq_false_iff_ne.mpr c6
     have c6b1 : (a0_3 != a1_3) = true := bne_iff_ne.mpr c6
     obtain rfl := Option.some.inj H
     go_enter Try.func23, Try.ntmps23
     go_wp2_with (first | ((with_reducible refine gate_dst (N := 2) rfl ?_); refine boxE #[.int .i64 a0_0, .int .i64 a0_1, .int .i64 a0_2, .int .i64 a0_3, .int .i64 a0_4, .bool a0_5, .int .i64 a0_6, .int .i64 a0_7, .int .i64 a0_8, .slice A0_9 l0_9.length c0_9] 53 (N := 2) rfl rfl ?_; intro gb261 hg w33 hbox hb; have BK261 := Aside0.mk hbox; have GW261 := gZ HB hg; have GE261 := gZ HB hg; replace HB := bS HB hb; clear hb hbox hg) | ((with_reducible refine gate_dst (N := 3) rfl ?_); refine boxE #[.int .i64 a1_0, .int .i64 a1_1, .int .i64 a1_2, .int .i64 a1_3, .int .i64 a1_4, .bool a1_5, .int .i64 a1_6, .int .i64 a1_7, .int .i64 a1_8, .slice A1_9 l1_9.length c1_9] 53 (N := 3) rfl rfl ?_; intro gb262 hg w34 hbox hb; have BK262 := Aside0.mk hbox; have GW262 := gZ HB hg; have GE262 := gZ HB hg; replace HB := bS HB hb; have NB261_262 := nL BK261 hg; have NB262_261 := nG BK261 hg; replace BK261 := bK BK261 hb; clear hb hbox hg; have hnb35 := NB261_262.out; have hnc35 := NB262_261.out; have hz36 := cl10 BK261; have hz37 := cl10 BK262))
     go_ret
     exact ⟨by first | rfl | (simp [errW_none, errW_some] <;> rfl) | (simp [*, errW_none, errW_some] <;> rfl), bel HB⟩
   ·
    rw [if_neg c5] at H
    have c5b0 : (a0_2 == a1_2) = false := beq_eq_false_iff_ne.mpr c5
    have c5b1 : (a0_2 != a1_2) = true := bne_iff_ne.mpr c5
    obtain rfl := Option.some.inj H
    go_enter Try.func23, Try.ntmps23
    go_wp2_with (first | ((with_reducible refine gate_dst (N := 2) rfl ?_); refine boxE #[.int .i64 a0_0, .int .i64 a0_1, .int .i64 a0_2, .int .i64 a0_3, .int .i64 a0_4, .bool a0_5, .int .i64 a0_6, .int .i64 a0_7, .int .i64 a0_8, .slice A0_9 l0_9.length c0_9] 53 (N := 2) rfl rfl ?_; intro gb261 hg w38 hbox hb; have BK261 := Aside0.mk hbox; have GW261 := gZ HB hg; have GE261 := gZ HB hg; replace HB := bS HB hb; clear hb hbox hg) | ((with_reducible refine gate_dst (N := 3) rfl ?_); refine boxE #[.int .i64 a1_0, .int .i64 a1_1, .int .i64 a1_2, .int .i64 a1_3, .int .i64 a1_4, .bool a1_5, .int .i64 a1_6, .int .i64 a1_7, .int .i64 a1_8, .slice A1_9 l1_9.length c1_9] 53 (N := 3) rfl rfl ?_; intro gb262 hg w39 hbox hb; have BK262 := Aside0.mk hbox; have GW262 := gZ HB hg; have GE262 := gZ HB hg; replace HB := bS HB hb; have NB261_262 := nL BK261 hg; have NB262_261 := nG BK261 hg; replace BK261 := bK BK261 hb; clear hb hbox hg; have hnb40 := NB261_262.out; have hnc40 := NB262_261.out; have hz41 := cl10 BK261; have hz42 := cl10 BK262))
    go_ret
    exact ⟨by first | rfl | (simp [errW_none, errW_some] <;> rfl) | (simp [*, errW_none, errW_some] <;> rfl), bel HB⟩
  ·
   rw [if_neg c4] at H
   have c4b0 : (a0_1 == a1_1) = false := beq_eq_false_iff_ne.mpr c4
   have c4b1 : (a0_1 != a1_1) = true := bne_iff_ne.mpr c4
   obtain rfl := Option.some.inj H
   go_enter Try.func23, Try.ntmps23
   go_wp2_with (first | ((with_reducible refine gate_dst (N := 2) rfl ?_); refine boxE #[.int .i64 a0_0, .int .i64 a0_1, .int .i64 a0_2, .int .i64 a0_3, .int .i64 a0_4, .bool a0_5, .int .i64 a0_6, .int .i64 a0_7, .int .i64 a0_8, .slice A0_9 l0_9.length c0_9] 53 (N := 2) rfl rfl ?_; intro gb261 hg w43 hbox hb; have BK261 := Aside0.mk hbox; have GW261 := gZ HB hg; have GE261 := gZ HB hg; replace HB := bS HB hb; clear hb hbox hg) | ((with_reducible refine gate_dst (N := 3) rfl ?_); refine boxE #[.int .i64 a1_0, .int .i64 a1_1, .int .i64 a1_2, .int .i64 a1_3, .int .i64 a1_4, .bool a1_5, .int .i64 a1_6, .int .i64 a1_7, .int .i64 a1_8, .slice A1_9 l1_9.length c1_9] 53 (N := 3) rfl rfl ?_; intro gb262 hg w44 hbox hb; have BK262 := Aside0.mk hbox; have GW262 := gZ HB hg; have GE262 := gZ HB hg; replace HB := bS HB hb; have NB261_262 := nL BK261 hg; have NB262_261 := nG BK261 hg; replace BK261 := bK BK261 hb; clear hb hbox hg; have hnb45 := NB261_262.out; have hnc45 := NB262_261.out; have hz46 := cl10 BK261; have hz47 := cl10 BK262))
   go_ret
   exact ⟨by first | rfl | (simp [errW_none, errW_some] <;> rfl) | (simp [*, errW_none, errW_some] <;> rfl), bel HB⟩
 ·
  rw [if_neg c3] at H
  have c3b0 : (a0_0 == a1_0) = false := beq_eq_false_iff_ne.mpr c3
  have c3b1 : (a0_0 != a1_0) = true := bne_iff_ne.mpr c3
  obtain rfl := Option.some.inj H
  go_enter Try.func23, Try.ntmps23
  go_wp2_with (first | ((with_reducible refine gate_dst (N := 2) rfl ?_); refine boxE #[.int .i64 a0_0, .int .i64 a0_1, .int .i64 a0_2, .int .i64 a0_3, .int .i64 a0_4, .bool a0_5, .int .i64 a0_6, .int .i64 a0_7, .int .i64 a0_8, .slice A0_9 l0_9.length c0_9] 53 (N := 2) rfl rfl ?_; intro gb261 hg w48 hbox hb; have BK261 := Aside0.mk hbox; have GW261 := gZ HB hg; have GE261 := gZ HB hg; replace HB := bS HB hb; clear hb hbox hg) | ((with_reducible refine gate_dst (N := 3) rfl ?_); refine boxE #[.int .i64 a1_0, .int .i64 a1_1, .int .i64 a1_2, .int .i64 a1_3, .int .i64 a1_4, .bool a1_5, .int .i64 a1_6, .int .i64 a1_7, .int .i64 a1_8, .slice A1_9 l1_9.length c1_9] 53 (N := 3) rfl rfl ?_; intro gb262 hg w49 hbox hb; have BK262 := Aside0.mk hbox; have GW262 := gZ HB hg; have GE262 := gZ HB hg; replace HB := bS HB hb; have NB261_262 := nL BK261 hg; have NB262_261 := nG BK261 hg; replace BK261 := bK BK261 hb; clear hb hbox hg; have hnb50 := NB261_262.out; have hnc50 := NB262_261.out; have hz51 := cl10 BK261; have hz52 := cl10 BK262))
  go_ret
  exact ⟨by first | rfl | (simp [errW_none, errW_some] <;> rfl) | (simp [*, errW_none, errW_some] <;> rfl), bel HB⟩

/-! ### laws_FnExactMailFault: function 5 -/
def laws_FnExactMailFault.f (k : Nat) (a0_0 : Int) (a0_1 : Bool) (a0_2 : Int) (a0_3 : Int) (l0_4 : List (S44)) (a0_5 : Int) (a0_6 : Int) (a0_7 : Int) (a0_8 : Int) (a1_0 : Int) (a1_1 : Int) (a1_2 : Int) (a1_3 : Int) (a1_4 : Int) (a1_5 : Bool) (a1_6 : Int) (a1_7 : Int) (a1_8 : Int) (l1_9 : List Int) : Option (Bool) := (laws_szNode.f k a0_0 a0_1 a0_2 a0_3 l0_4 a0_5 a0_6 a0_7 a0_8 1048576).bind fun t266 => (if t266 < 0 then (some true) else ((laws_szMail.f a1_0 a1_1 a1_2 a1_3 a1_4 a1_5 a1_6 a1_7 a1_8 l1_9 t266).bind fun t267 => (if t267 < 0 then (some true) else ((laws_toNode.f k a0_0 a0_1 a0_2 a0_3 l0_4 a0_5 a0_6 a0_7 a0_8).bind fun bt268 => ((laws_toMail.f k a1_0 a1_1 a1_2 a1_3 a1_4 a1_5 a1_6 a1_7 a1_8 l1_9).bind fun bt279 => ((spec_MailFault.f k bt268.1 bt268.2.1 bt268.2.2.1 bt268.2.2.2.1 bt268.2.2.2.2.1 bt268.2.2.2.2.2.1 bt268.2.2.2.2.2.2.1 bt268.2.2.2.2.2.2.2.1 bt268.2.2.2.2.2.2.2.2 bt279.1 bt279.2.1 bt279.2.2.1 bt279.2.2.2.1 bt279.2.2.2.2.1 bt279.2.2.2.2.2.1 bt279.2.2.2.2.2.2.1 bt279.2.2.2.2.2.2.2.1 bt279.2.2.2.2.2.2.2.2.1 bt279.2.2.2.2.2.2.2.2.2).bind fun t291 => ((laws_toNode.f k a0_0 a0_1 a0_2 a0_3 l0_4 a0_5 a0_6 a0_7 a0_8).bind fun bt292 => ((laws_toMail.f k a1_0 a1_1 a1_2 a1_3 a1_4 a1_5 a1_6 a1_7 a1_8 l1_9).bind fun bt304 => ((impl_MailFault.f k bt292.1 bt292.2.1 bt292.2.2.1 bt292.2.2.2.1 bt292.2.2.2.2.1 bt292.2.2.2.2.2.1 bt292.2.2.2.2.2.2.1 bt292.2.2.2.2.2.2.2.1 bt292.2.2.2.2.2.2.2.2 bt304.1 bt304.2.1 bt304.2.2.1 bt304.2.2.2.1 bt304.2.2.2.2.1 bt304.2.2.2.2.2.1 bt304.2.2.2.2.2.2.1 bt304.2.2.2.2.2.2.2.1 bt304.2.2.2.2.2.2.2.2.1 bt304.2.2.2.2.2.2.2.2.2).bind fun t317 => (if t317 = t291 then ((laws_toNode.f k a0_0 a0_1 a0_2 a0_3 l0_4 a0_5 a0_6 a0_7 a0_8).bind fun bt318 => ((laws_eqNode.f k bt292.1 bt292.2.1 bt292.2.2.1 bt292.2.2.2.1 bt292.2.2.2.2.1 bt292.2.2.2.2.2.1 bt292.2.2.2.2.2.2.1 bt292.2.2.2.2.2.2.2.1 bt292.2.2.2.2.2.2.2.2 bt318.1 bt318.2.1 bt318.2.2.1 bt318.2.2.2.1 bt318.2.2.2.2.1 bt318.2.2.2.2.2.1 bt318.2.2.2.2.2.2.1 bt318.2.2.2.2.2.2.2.1 bt318.2.2.2.2.2.2.2.2).bind fun t329 => (if t329 = true then ((laws_toMail.f k a1_0 a1_1 a1_2 a1_3 a1_4 a1_5 a1_6 a1_7 a1_8 l1_9).bind fun bt330 => ((laws_eqMail.f k bt304.1 bt304.2.1 bt304.2.2.1 bt304.2.2.2.1 bt304.2.2.2.2.1 bt304.2.2.2.2.2.1 bt304.2.2.2.2.2.2.1 bt304.2.2.2.2.2.2.2.1 bt304.2.2.2.2.2.2.2.2.1 bt304.2.2.2.2.2.2.2.2.2 bt330.1 bt330.2.1 bt330.2.2.1 bt330.2.2.2.1 bt330.2.2.2.2.1 bt330.2.2.2.2.2.1 bt330.2.2.2.2.2.2.1 bt330.2.2.2.2.2.2.2.1 bt330.2.2.2.2.2.2.2.2.1 bt330.2.2.2.2.2.2.2.2.2).bind fun t342 => (if t342 = true then (some true) else (some false)))) else (some false)))) else (some false)))))))))))
theorem laws_FnExactMailFault.mono : ∀ a0 a1 a2 a3 a4 a5 a6 a7 a8 a9 a10 a11 a12 a13 a14 a15 a16 a17 a18 k, LeO (laws_FnExactMailFault.f k a0 a1 a2 a3 a4 a5 a6 a7 a8 a9 a10 a11 a12 a13 a14 a15 a16 a17 a18) (laws_FnExactMailFault.f (k + 1) a0 a1 a2 a3 a4 a5 a6 a7 a8 a9 a10 a11 a12 a13 a14 a15 a16 a17 a18) := by
 intro a0 a1 a2 a3 a4 a5 a6 a7 a8 a9 a10 a11 a12 a13 a14 a15 a16 a17 a18 k
 unfold laws_FnExactMailFault.f
 repeat' first
   | (with_reducible exact impl_MailFault.mono _ _ _ _ _ _ _ _ _ _ _ _ _ _ _ _ _ _ _ _)
   | (with_reducible exact laws_eqMail.mono _ _ _ _ _ _ _ _ _ _ _ _ _ _ _ _ _ _ _ _ _)
   | (with_reducible exact laws_eqNode.mono _ _ _ _ _ _ _ _ _ _ _ _ _ _ _ _ _ _ _)
   | (with_reducible exact laws_szNode.mono _ _ _ _ _ _ _ _ _ _ _)
   | (with_reducible exact laws_toMail.mono _ _ _ _ _ _ _ _ _ _ _)
   | (with_reducible exact laws_toNode.mono _ _ _ _ _ _ _ _ _ _)
   | (with_reducible exact spec_MailFault.mono _ _ _ _ _ _ _ _ _ _ _ _ _ _ _ _ _ _ _ _)
   | (with_reducible exact LeO.refl _)
   | (with_reducible exact LeO.none _)
   | (with_reducible refine LeO.ite ?_ ?_)
   | (with_reducible refine LeO.bind ?_ (fun _ => ?_))
   | exact impl_MailFault.mono _ _ _ _ _ _ _ _ _ _ _ _ _ _ _ _ _ _ _ _
   | exact laws_eqMail.mono _ _ _ _ _ _ _ _ _ _ _ _ _ _ _ _ _ _ _ _ _
   | exact laws_eqNode.mono _ _ _ _ _ _ _ _ _ _ _ _ _ _ _ _ _ _ _
   | exact laws_szNode.mono _ _ _ _ _ _ _ _ _ _ _
   | exact laws_toMail.mono _ _ _ _ _ _ _ _ _ _ _
   | exact laws_toNode.mono _ _ _ _ _ _ _ _ _ _
   | exact spec_MailFault.mono _ _ _ _ _ _ _ _ _ _ _ _ _ _ _ _ _ _ _ _
   | exact LeO.none _
   | refine LeO.ite ?_ ?_
   | refine LeO.bind ?_ (fun _ => ?_)
set_option maxHeartbeats 8000000 in
set_option maxRecDepth 100000 in
theorem laws_FnExactMailFault.calls (k : Nat) (a0_0 : Int) (a0_1 : Bool) (a0_2 : Int) (a0_3 : Int) (A0_4 : Option Addr) (c0_4 : Nat) (l0_4 : List (S44)) (a0_5 : Int) (a0_6 : Int) (a0_7 : Int) (a0_8 : Int) (a1_0 : Int) (a1_1 : Int) (a1_2 : Int) (a1_3 : Int) (a1_4 : Int) (a1_5 : Bool) (a1_6 : Int) (a1_7 : Int) (a1_8 : Int) (A1_9 : Option Addr) (c1_9 : Nat) (l1_9 : List Int) (w : World) (hr0_4 : Kd.C k44 w A0_4 l0_4.length l0_4) (hc0_4 : l0_4.length ≤ c0_4) (hr1_9 : Kd.C (Kd.int .u8) w A1_9 l1_9.length l1_9) (hc1_9 : l1_9.length ≤ c1_9) (h : laws_FnExactMailFault.f k a0_0 a0_1 a0_2 a0_3 l0_4 a0_5 a0_6 a0_7 a0_8 a1_0 a1_1 a1_2 a1_3 a1_4 a1_5 a1_6 a1_7 a1_8 l1_9 = some true) :
  Calls Try.prog 5 #[.agg #[.int .i64 a0_0, .bool a0_1, .int .i64 a0_2, .int .i64 a0_3, .slice A0_4 l0_4.length c0_4, .int .i64 a0_5, .int .i64 a0_6, .int .i64 a0_7, .int .i64 a0_8], .agg #[.int .i64 a1_0, .int .i64 a1_1, .int .i64 a1_2, .int .i64 a1_3, .int .i64 a1_4, .bool a1_5, .int .i64 a1_6, .int .i64 a1_7, .int .i64 a1_8, .slice A1_9 l1_9.length c1_9]] w fun e w' => e = .returned (.bool true) ∧ Below w.heap.size w w' := by
 have hu24 := Try.underlying24
 have hu46 := Try.underlying46
 have hu29 := Try.underlying29
 have hu53 := Try.underlying53
 have hu44 := Try.underlying44
 have hu42 := Try.underlying42
 have hu51 := Try.underlying51
 have hu49 := Try.underlying49
 have HR0_4 := Aside0.mk hr0_4
 have HC0_4 := Aside0.mk hc0_4
 clear hr0_4 hc0_4
 have HR1_9 := Aside0.mk hr1_9
 have HC1_9 := Aside0.mk hc1_9
 clear hr1_9 hc1_9
 have HB := Aside0.mk (Below.refl w.heap.size w)
 have H : ((laws_szNode.f k a0_0 a0_1 a0_2 a0_3 l0_4 a0_5 a0_6 a0_7 a0_8 1048576).bind fun t266 => (if t266 < 0 then (some true) else ((laws_szMail.f a1_0 a1_1 a1_2 a1_3 a1_4 a1_5 a1_6 a1_7 a1_8 l1_9 t266).bind fun t267 => (if t267 < 0 then (some true) else ((laws_toNode.f k a0_0 a0_1 a0_2 a0_3 l0_4 a0_5 a0_6 a0_7 a0_8).bind fun bt268 => ((laws_toMail.f k a1_0 a1_1 a1_2 a1_3 a1_4 a1_5 a1_6 a1_7 a1_8 l1_9).bind fun bt279 => ((spec_MailFault.f k bt268.1 bt268.2.1 bt268.2.2.1 bt268.2.2.2.1 bt268.2.2.2.2.1 bt268.2.2.2.2.2.1 bt268.2.2.2.2.2.2.1 bt268.2.2.2.2.2.2.2.1 bt268.2.2.2.2.2.2.2.2 bt279.1 bt279.2.1 bt279.2.2.1 bt279.2.2.2.1 bt279.2.2.2.2.1 bt279.2.2.2.2.2.1 bt279.2.2.2.2.2.2.1 bt279.2.2.2.2.2.2.2.1 bt279.2.2.2.2.2.2.2.2.1 bt279.2.2.2.2.2.2.2.2.2).bind fun t291 => ((laws_toNode.f k a0_0 a0_1 a0_2 a0_3 l0_4 a0_5 a0_6 a0_7 a0_8).bind fun bt292 => ((laws_toMail.f k a1_0 a1_1 a1_2 a1_3 a1_4 a1_5 a1_6 a1_7 a1_8 l1_9).bind fun bt304 => ((impl_MailFault.f k bt292.1 bt292.2.1 bt292.2.2.1 bt292.2.2.2.1 bt292.2.2.2.2.1 bt292.2.2.2.2.2.1 bt292.2.2.2.2.2.2.1 bt292.2.2.2.2.2.2.2.1 bt292.2.2.2.2.2.2.2.2 bt304.1 bt304.2.1 bt304.2.2.1 bt304.2.2.2.1 bt304.2.2.2.2.1 bt304.2.2.2.2.2.1 bt304.2.2.2.2.2.2.1 bt304.2.2.2.2.2.2.2.1 bt304.2.2.2.2.2.2.2.2.1 bt304.2.2.2.2.2.2.2.2.2).bind fun t317 => (if t317 = t291 then ((laws_toNode.f k a0_0 a0_1 a0_2 a0_3 l0_4 a0_5 a0_6 a0_7 a0_8).bind fun bt318 => ((laws_eqNode.f k bt292.1 bt292.2.1 bt292.2.2.1 bt292.2.2.2.1 bt292.2.2.2.2.1 bt292.2.2.2.2.2.1 bt292.2.2.2.2.2.2.1 bt292.2.2.2.2.2.2.2.1 bt292.2.2.2.2.2.2.2.2 bt318.1 bt318.2.1 bt318.2.2.1 bt318.2.2.2.1 bt318.2.2.2.2.1 bt318.2.2.2.2.2.1 bt318.2.2.2.2.2.2.1 bt318.2.2.2.2.2.2.2.1 bt318.2.2.2.2.2.2.2.2).bind fun t329 => (if t329 = true then ((laws_toMail.f k a1_0 a1_1 a1_2 a1_3 a1_4 a1_5 a1_6 a1_7 a1_8 l1_9).bind fun bt330 => ((laws_eqMail.f k bt304.1 bt304.2.1 bt304.2.2.1 bt304.2.2.2.1 bt304.2.2.2.2.1 bt304.2.2.2.2.2.1 bt304.2.2.2.2.2.2.1 bt304.2.2.2.2.2.2.2.1 bt304.2.2.2.2.2.2.2.2.1 bt304.2.2.2.2.2.2.2.2.2 bt330.1 bt330.2.1 bt330.2.2.1 bt330.2.2.2.1 bt330.2.2.2.2.1 bt330.2.2.2.2.2.1 bt330.2.2.2.2.2.2.1 bt330.2.2.2.2.2.2.2.1 bt330.2.2.2.2.2.2.2.2.1 bt330.2.2.2.2.2.2.2.2.2).bind fun t342 => (if t342 = true then (some true) else (some false)))) else (some false)))) else (some false)))))))))))) = some true := h
 clear h
 replace H := Option.bind_eq_some_iff.mp H
 obtain ⟨t266, A30, H⟩ := H
 replace H : (if t266 < 0 then (some true) else ((laws_szMail.f a1_0 a1_1 a1_2 a1_3 a1_4 a1_5 a1_6 a1_7 a1_8 l1_9 t266).bind fun t267 => (if t267 < 0 then (some true) else ((laws_toNode.f k a0_0 a0_1 a0_2 a0_3 l0_4 a0_5 a0_6 a0_7 a0_8).bind fun bt268 => ((laws_toMail.f k a1_0 a1_1 a1_2 a1_3 a1_4 a1_5 a1_6 a1_7 a1_8 l1_9).bind fun bt279 => ((spec_MailFault.f k bt268.1 bt268.2.1 bt268.2.2.1 bt268.2.2.2.1 bt268.2.2.2.2.1 bt268.2.2.2.2.2.1 bt268.2.2.2.2.2.2.1 bt268.2.2.2.2.2.2.2.1 bt268.2.2.2.2.2.2.2.2 bt279.1 bt279.2.1 bt279.2.2.1 bt279.2.2.2.1 bt279.2.2.2.2.1 bt279.2.2.2.2.2.1 bt279.2.2.2.2.2.2.1 bt279.2.2.2.2.2.2.2.1 bt279.2.2.2.2.2.2.2.2.1 bt279.2.2.2.2.2.2.2.2.2).bind fun t291 => ((laws_toNode.f k a0_0 a0_1 a0_2 a0_3 l0_4 a0_5 a0_6 a0_7 a0_8).bind fun bt292 => ((laws_toMail.f k a1_0 a1_1 a1_2 a1_3 a1_4 a1_5 a1_6 a1_7 a1_8 l1_9).bind fun bt304 => ((impl_MailFault.f k bt292.1 bt292.2.1 bt292.2.2.1 bt292.2.2.2.1 bt292.2.2.2.2.1 bt292.2.2.2.2.2.1 bt292.2.2.2.2.2.2.1 bt292.2.2.2.2.2.2.2.1 bt292.2.2.2.2.2.2.2.2 bt304.1 bt304.2.1 bt304.2.2.1 bt304.2.2.2.1 bt304.2.2.2.2.1 bt304.2.2.2.2.2.1 bt304.2.2.2.2.2.2.1 bt304.2.2.2.2.2.2.2.1 bt304.2.2.2.2.2.2.2.2.1 bt304.2.2.2.2.2.2.2.2.2).bind fun t317 => (if t317 = t291 then ((laws_toNode.f k a0_0 a0_1 a0_2 a0_3 l0_4 a0_5 a0_6 a0_7 a0_8).bind fun bt318 => ((laws_eqNode.f k bt292.1 bt292.2.1 bt292.2.2.1 bt292.2.2.2.1 bt292.2.2.2.2.1 bt292.2.2.2.2.2.1 bt292.2.2.2.2.2.2.1 bt292.2.2.2.2.2.2.2.1 bt292.2.2.2.2.2.2.2.2 bt318.1 bt318.2.1 bt318.2.2.1 bt318.2.2.2.1 bt318.2.2.2.2.1 bt318.2.2.2.2.2.1 bt318.2.2.2.2.2.2.1 bt318.2.2.2.2.2.2.2.1 bt318.2.2.2.2.2.2.2.2).bind fun t329 => (if t329 = true then ((laws_toMail.f k a1_0 a1_1 a1_2 a1_3 a1_4 a1_5 a1_6 a1_7 a1_8 l1_9).bind fun bt330 => ((laws_eqMail.f k bt304.1 bt304.2.1 bt304.2.2.1 bt304.2.2.2.1 bt304.2.2.2.2.1 bt304.2.2.2.2.2.1 bt304.2.2.2.2.2.2.1 bt304.2.2.2.2.2.2.2.1 bt304.2.2.2.2.2.2.2.2.1 bt304.2.2.2.2.2.2.2.2.2 bt330.1 bt330.2.1 bt330.2.2.1 bt330.2.2.2.1 bt330.2.2.2.2.1 bt330.2.2.2.2.2.1 bt330.2.2.2.2.2.2.1 bt330.2.2.2.2.2.2.2.1 bt330.2.2.2.2.2.2.2.2.1 bt330.2.2.2.2.2.2.2.2.2).bind fun t342 => (if t342 = true then (some true) else (some false)))) else (some false)))) else (some false))))))))))) = some true := H
 have A3 := Aside0.mk A30
 clear A30
 by_cases c4 : t266 < 0
 ·
  rw [if_pos c4] at H
  have c4b0 : decide (t266 < 0) = true := decide_eq_true c4
  clear c4
  have HT_ := Option.some.inj H
  clear H
  go_enter Try.func5, Try.ntmps5
  go_wp2_with (first | ((with_reducible refine gate_dst (N := 2) rfl ?_); refine boxE #[.int .i64 a0_0, .bool a0_1, .int .i64 a0_2, .int .i64 a0_3, .slice A0_4 l0_4.length c0_4, .int .i64 a0_5, .int .i64 a0_6, .int .i64 a0_7, .int .i64 a0_8] 24 (N := 2) rfl rfl ?_; intro gb264 hg w5 hbox hb; have BK264 := Aside0.mk hbox; have GW264 := gZ HB hg; have GE264 := gZ HB hg; replace HB := bS HB hb; clear hb hbox hg) | ((with_reducible refine gate_dst (N := 3) rfl ?_); refine boxE #[.int .i64 a1_0, .int .i64 a1_1, .int .i64 a1_2, .int .i64 a1_3, .int .i64 a1_4, .bool a1_5, .int .i64 a1_6, .int .i64 a1_7, .int .i64 a1_8, .slice A1_9 l1_9.length c1_9] 46 (N := 3) rfl rfl ?_; intro gb265 hg w6 hbox hb; have BK265 := Aside0.mk hbox; have GW265 := gZ HB hg; have GE265 := gZ HB hg; replace HB := bS HB hb; have NB264_265 := nL BK264 hg; have NB265_264 := nG BK264 hg; replace BK264 := bK BK264 hb; clear hb hbox hg; have hnb7 := NB264_265.out; have hnc7 := NB265_264.out; have hz8 := cl9 BK264) | ((with_reducible refine gate_callee (f := 9) rfl ?_); refine goA (some 12) rfl rfl Try.func9 rfl #[.agg #[.int .i64 a0_0, .bool a0_1, .int .i64 a0_2, .int .i64 a0_3, .slice A0_4 l0_4.length c0_4, .int .i64 a0_5, .int .i64 a0_6, .int .i64 a0_7, .int .i64 a0_8], .int .i64 1048576] rfl ?_; (with_reducible refine (laws_szNode.calls k a0_0 a0_1 a0_2 a0_3 _ _ l0_4 a0_5 a0_6 a0_7 a0_8 1048576 t266 _ ?side1 ?side2 A3.out).mono ?_); (case side1 => exact mC HR0_4 HB); (case side2 => exact HC0_4.out); rintro e w9 ⟨rfl, hb⟩; refine ⟨_, rfl, ?_⟩; replace BK264 := bK BK264 hb; replace BK265 := bK BK265 hb; replace HB := bS HB hb; (try clear hb); (try clear hb2); (try clear hk); (try clear hi)))
  go_ret
  exact ⟨by first | rfl | (simp [errW_none, errW_some] <;> rfl) | (simp [*, errW_none, errW_some] <;> rfl), bel HB⟩
 ·
  rw [if_neg c4] at H
  have c4b0 : decide (t266 < 0) = false := decide_eq_false c4
  clear c4
  replace H := Option.bind_eq_some_iff.mp H
  obtain ⟨t267, A100, H⟩ := H
  replace H : (if t267 < 0 then (some true) else ((laws_toNode.f k a0_0 a0_1 a0_2 a0_3 l0_4 a0_5 a0_6 a0_7 a0_8).bind fun bt268 => ((laws_toMail.f k a1_0 a1_1 a1_2 a1_3 a1_4 a1_5 a1_6 a1_7 a1_8 l1_9).bind fun bt279 => ((spec_MailFault.f k bt268.1 bt268.2.1 bt268.2.2.1 bt268.2.2.2.1 bt268.2.2.2.2.1 bt268.2.2.2.2.2.1 bt268.2.2.2.2.2.2.1 bt268.2.2.2.2.2.2.2.1 bt268.2.2.2.2.2.2.2.2 bt279.1 bt279.2.1 bt279.2.2.1 bt279.2.2.2.1 bt279.2.2.2.2.1 bt279.2.2.2.2.2.1 bt279.2.2.2.2.2.2.1 bt279.2.2.2.2.2.2.2.1 bt279.2.2.2.2.2.2.2.2.1 bt279.2.2.2.2.2.2.2.2.2).bind fun t291 => ((laws_toNode.f k a0_0 a0_1 a0_2 a0_3 l0_4 a0_5 a0_6 a0_7 a0_8).bind fun bt292 => ((laws_toMail.f k a1_0 a1_1 a1_2 a1_3 a1_4 a1_5 a1_6 a1_7 a1_8 l1_9).bind fun bt304 => ((impl_MailFault.f k bt292.1 bt292.2.1 bt292.2.2.1 bt292.2.2.2.1 bt292.2.2.2.2.1 bt292.2.2.2.2.2.1 bt292.2.2.2.2.2.2.1 bt292.2.2.2.2.2.2.2.1 bt292.2.2.2.2.2.2.2.2 bt304.1 bt304.2.1 bt304.2.2.1 bt304.2.2.2.1 bt304.2.2.2.2.1 bt304.2.2.2.2.2.1 bt304.2.2.2.2.2.2.1 bt304.2.2.2.2.2.2.2.1 bt304.2.2.2.2.2.2.2.2.1 bt304.2.2.2.2.2.2.2.2.2).bind fun t317 => (if t317 = t291 then ((laws_toNode.f k a0_0 a0_1 a0_2 a0_3 l0_4 a0_5 a0_6 a0_7 a0_8).bind fun bt318 => ((laws_eqNode.f k bt292.1 bt292.2.1 bt292.2.2.1 bt292.2.2.2.1 bt292.2.2.2.2.1 bt292.2.2.2.2.2.1 bt292.2.2.2.2.2.2.1 bt292.2.2.2.2.2.2.2.1 bt292.2.2.2.2.2.2.2.2 bt318.1 bt318.2.1 bt318.2.2.1 bt318.2.2.2.1 bt318.2.2.2.2.1 bt318.2.2.2.2.2.1 bt318.2.2.2.2.2.2.1 bt318.2.2.2.2.2.2.2.1 bt318.2.2.2.2.2.2.2.2).bind fun t329 => (if t329 = true then ((laws_toMail.f k a1_0 a1_1 a1_2 a1_3 a1_4 a1_5 a1_6 a1_7 a1_8 l1_9).bind fun bt330 => ((laws_eqMail.f k bt304.1 bt304.2.1 bt304.2.2.1 bt304.2.2.2.1 bt304.2.2.2.2.1 bt304.2.2.2.2.2.1 bt304.2.2.2.2.2.2.1 bt304.2.2.2.2.2.2.2.1 bt304.2.2.2.2.2.2.2.2.1 bt304.2.2.2.2.2.2.2.2.2 bt330.1 bt330.2.1 bt330.2.2.1 bt330.2.2.2.1 bt330.2.2.2.2.1 bt330.2.2.2.2.2.1 bt330.2.2.2.2.2.2.1 bt330.2.2.2.2.2.2.2.1 bt330.2.2.2.2.2.2.2.2.1 bt330.2.2.2.2.2.2.2.2.2).bind fun t342 => (if t342 = true then (some true) else (some false)))) else (some false)))) else (some false))))))))) = some true := H
  have A10 := Aside0.mk A100
  clear A100
  by_cases c11 : t267 < 0
  ·
   rw [if_pos c11] at H
   have c11b0 : decide (t267 < 0) = true := decide_eq_true c11
   clear c11
   have HT_ := Option.some.inj H
   clear H
   go_enter Try.func5, Try.ntmps5
   go_wp2_with (first | ((with_reducible refine gate_dst (N := 2) rfl ?_); refine boxE #[.int .i64 a0_0, .bool a0_1, .int .i64 a0_2, .int .i64 a0_3, .slice A0_4 l0_4.length c0_4, .int .i64 a0_5, .int .i64 a0_6, .int .i64 a0_7, .int .i64 a0_8] 24 (N := 2) rfl rfl ?_; intro gb264 hg w12 hbox hb; have BK264 := Aside0.mk hbox; have GW264 := gZ HB hg; have GE264 := gZ HB hg; replace HB := bS HB hb; clear hb hbox hg) | ((with_reducible refine gate_dst (N := 3) rfl ?_); refine boxE #[.int .i64 a1_0, .int .i64 a1_1, .int .i64 a1_2, .int .i64 a1_3, .int .i64 a1_4, .bool a1_5, .int .i64 a1_6, .int .i64 a1_7, .int .i64 a1_8, .slice A1_9 l1_9.length c1_9] 46 (N := 3) rfl rfl ?_; intro gb265 hg w13 hbox hb; have BK265 := Aside0.mk hbox; have GW265 := gZ HB hg; have GE265 := gZ HB hg; replace HB := bS HB hb; have NB264_265 := nL BK264 hg; have NB265_264 := nG BK264 hg; replace BK264 := bK BK264 hb; clear hb hbox hg; have hnb14 := NB264_265.out; have hnc14 := NB265_264.out; have hz15 := cl9 BK264) | ((with_reducible refine gate_callee (f := 9) rfl ?_); refine goA (some 12) rfl rfl Try.func9 rfl #[.agg #[.int .i64 a0_0, .bool a0_1, .int .i64 a0_2, .int .i64 a0_3, .slice A0_4 l0_4.length c0_4, .int .i64 a0_5, .int .i64 a0_6, .int .i64 a0_7, .int .i64 a0_8], .int .i64 1048576] rfl ?_; (with_reducible refine (laws_szNode.calls k a0_0 a0_1 a0_2 a0_3 _ _ l0_4 a0_5 a0_6 a0_7 a0_8 1048576 t266 _ ?side1 ?side2 A3.out).mono ?_); (case side1 => exact mC HR0_4 HB); (case side2 => exact HC0_4.out); rintro e w16 ⟨rfl, hb⟩; refine ⟨_, rfl, ?_⟩; replace BK264 := bK BK264 hb; replace BK265 := bK BK265 hb; replace HB := bS HB hb; (try clear hb); (try clear hb2); (try clear hk); (try clear hi); have hz17 := cl10 BK265) | ((with_reducible refine gate_callee (f := 19) rfl ?_); refine goA (some 17) rfl rfl Try.func19 rfl #[.agg #[.int .i64 a1_0, .int .i64 a1_1, .int .i64 a1_2, .int .i64 a1_3, .int .i64 a1_4, .bool a1_5, .int .i64 a1_6, .int .i64 a1_7, .int .i64 a1_8, .slice A1_9 l1_9.length c1_9], .int .i64 t266] rfl ?_; (with_reducible refine (laws_szMail.calls a1_0 a1_1 a1_2 a1_3 a1_4 a1_5 a1_6 a1_7 a1_8 _ _ l1_9 t266 t267 _ ?side1 ?side2 A10.out).mono ?_); (case side1 => exact mC HR1_9 HB); (case side2 => exact HC1_9.out); rintro e w18 ⟨rfl, hb⟩; refine ⟨_, rfl, ?_⟩; replace BK264 := bK BK264 hb; replace BK265 := bK BK265 hb; replace HB := bS HB hb; (try clear hb); (try clear hb2); (try clear hk); (try clear hi)))
   go_ret
   exact ⟨by first | rfl | (simp [errW_none, errW_some] <;> rfl) | (simp [*, errW_none, errW_some] <;> rfl), bel HB⟩
  ·
   rw [if_neg c11] at H
   have c11b0 : decide (t267 < 0) = false := decide_eq_false c11
   clear c11
   replace H := Option.bind_eq_some_iff.mp H
   obtain ⟨⟨t268, t269, t270, t271, t272, t275, t276, t277, t278⟩, A190, H⟩ := H
   replace H : ((laws_toMail.f k a1_0 a1_1 a1_2 a1_3 a1_4 a1_5 a1_6 a1_7 a1_8 l1_9).bind fun bt279 => ((spec_MailFault.f k t268 t269 t270 t271 t272 t275 t276 t277 t278 bt279.1 bt279.2.1 bt279.2.2.1 bt279.2.2.2.1 bt279.2.2.2.2.1 bt279.2.2.2.2.2.1 bt279.2.2.2.2.2.2.1 bt279.2.2.2.2.2.2.2.1 bt279.2.2.2.2.2.2.2.2.1 bt279.2.2.2.2.2.2.2.2.2).bind fun t291 => ((laws_toNode.f k a0_0 a0_1 a0_2 a0_3 l0_4 a0_5 a0_6 a0_7 a0_8).bind fun bt292 => ((laws_toMail.f k a1_0 a1_1 a1_2 a1_3 a1_4 a1_5 a1_6 a1_7 a1_8 l1_9).bind fun bt304 => ((impl_MailFault.f k bt292.1 bt292.2.1 bt292.2.2.1 bt292.2.2.2.1 bt292.2.2.2.2.1 bt292.2.2.2.2.2.1 bt292.2.2.2.2.2.2.1 bt292.2.2.2.2.2.2.2.1 bt292.2.2.2.2.2.2.2.2 bt304.1 bt304.2.1 bt304.2.2.1 bt304.2.2.2.1 bt304.2.2.2.2.1 bt304.2.2.2.2.2.1 bt304.2.2.2.2.2.2.1 bt304.2.2.2.2.2.2.2.1 bt304.2.2.2.2.2.2.2.2.1 bt304.2.2.2.2.2.2.2.2.2).bind fun t317 => (if t317 = t291 then ((laws_toNode.f k a0_0 a0_1 a0_2 a0_3 l0_4 a0_5 a0_6 a0_7 a0_8).bind fun bt318 => ((laws_eqNode.f k bt292.1 bt292.2.1 bt292.2.2.1 bt292.2.2.2.1 bt292.2.2.2.2.1 bt292.2.2.2.2.2.1 bt292.2.2.2.2.2.2.1 bt292.2.2.2.2.2.2.2.1 bt292.2.2.2.2.2.2.2.2 bt318.1 bt318.2.1 bt318.2.2.1 bt318.2.2.2.1 bt318.2.2.2.2.1 bt318.2.2.2.2.2.1 bt318.2.2.2.2.2.2.1 bt318.2.2.2.2.2.2.2.1 bt318.2.2.2.2.2.2.2.2).bind fun t329 => (if t329 = true then ((laws_toMail.f k a1_0 a1_1 a1_2 a1_3 a1_4 a1_5 a1_6 a1_7 a1_8 l1_9).bind fun bt330 => ((laws_eqMail.f k bt304.1 bt304.2.1 bt304.2.2.1 bt304.2.2.2.1 bt304.2.2.2.2.1 bt304.2.2.2.2.2.1 bt304.2.2.2.2.2.2.1 bt304.2.2.2.2.2.2.2.1 bt304.2.2.2.2.2.2.2.2.1 bt304.2.2.2.2.2.2.2.2.2 bt330.1 bt330.2.1 bt330.2.2.1 bt330.2.2.2.1 bt330.2.2.2.2.1 bt330.2.2.2.2.2.1 bt330.2.2.2.2.2.2.1 bt330.2.2.2.2.2.2.2.1 bt330.2.2.2.2.2.2.2.2.1 bt330.2.2.2.2.2.2.2.2.2).bind fun t342 => (if t342 = true then (some true) else (some false)))) else (some false)))) else (some false))))))) = some true := H
   have A19 := Aside0.mk A190
   clear A190
   replace H := Option.bind_eq_some_iff.mp H
   obtain ⟨⟨t279, t280, t281, t282, t283, t284, t285, t286, t287, t288⟩, A200, H⟩ := H
   replace H : ((spec_MailFault.f k t268 t269 t270 t271 t272 t275 t276 t277 t278 t279 t280 t281 t282 t283 t284 t285 t286 t287 t288).bind fun t291 => ((laws_toNode.f k a0_0 a0_1 a0_2 a0_3 l0_4 a0_5 a0_6 a0_7 a0_8).bind fun bt292 => ((laws_toMail.f k a1_0 a1_1 a1_2 a1_3 a1_4 a1_5 a1_6 a1_7 a1_8 l1_9).bind fun bt304 => ((impl_MailFault.f k bt292.1 bt292.2.1 bt292.2.2.1 bt292.2.2.2.1 bt292.2.2.2.2.1 bt292.2.2.2.2.2.1 bt292.2.2.2.2.2.2.1 bt292.2.2.2.2.2.2.2.1 bt292.2.2.2.2.2.2.2.2 bt304.1 bt304.2.1 bt304.2.2.1 bt304.2.2.2.1 bt304.2.2.2.2.1 bt304.2.2.2.2.2.1 bt304.2.2.2.2.2.2.1 bt304.2.2.2.2.2.2.2.1 bt304.2.2.2.2.2.2.2.2.1 bt304.2.2.2.2.2.2.2.2.2).bind fun t317 => (if t317 = t291 then ((laws_toNode.f k a0_0 a0_1 a0_2 a0_3 l0_4 a0_5 a0_6 a0_7 a0_8).bind fun bt318 => ((laws_eqNode.f k bt292.1 bt292.2.1 bt292.2.2.1 bt292.2.2.2.1 bt292.2.2.2.2.1 bt292.2.2.2.2.2.1 bt292.2.2.2.2.2.2.1 bt292.2.2.2.2.2.2.2.1 bt292.2.2.2.2.2.2.2.2 bt318.1 bt318.2.1 bt318.2.2.1 bt318.2.2.2.1 bt318.2.2.2.2.1 bt318.2.2.2.2.2.1 bt318.2.2.2.2.2.2.1 bt318.2.2.2.2.2.2.2.1 bt318.2.2.2.2.2.2.2.2).bind fun t329 => (if t329 = true then ((laws_toMail.f k a1_0 a1_1 a1_2 a1_3 a1_4 a1_5 a1_6 a1_7 a1_8 l1_9).bind fun bt330 => ((laws_eqMail.f k bt304.1 bt304.2.1 bt304.2.2.1 bt304.2.2.2.1 bt304.2.2.2.2.1 bt304.2.2.2.2.2.1 bt304.2.2.2.2.2.2.1 bt304.2.2.2.2.2.2.2.1 bt304.2.2.2.2.2.2.2.2.1 bt304.2.2.2.2.2.2.2.2.2 bt330.1 bt330.2.1 bt330.2.2.1 bt330.2.2.2.1 bt330.2.2.2.2.1 bt330.2.2.2.2.2.1 bt330.2.2.2.2.2.2.1 bt330.2.2.2.2.2.2.2.1 bt330.2.2.2.2.2.2.2.2.1 bt330.2.2.2.2.2.2.2.2.2).bind fun t342 => (if t342 = true then (some true) else (some false)))) else (some false)))) else (some false)))))) = some true := H
   have A20 := Aside0.mk A200
   clear A200
   replace H := Option.bind_eq_some_iff.mp H
   obtain ⟨t291, A210, H⟩ := H
   replace H : ((laws_toNode.f k a0_0 a0_1 a0_2 a0_3 l0_4 a0_5 a0_6 a0_7 a0_8).bind fun bt292 => ((laws_toMail.f k a1_0 a1_1 a1_2 a1_3 a1_4 a1_5 a1_6 a1_7 a1_8 l1_9).bind fun bt304 => ((impl_MailFault.f k bt292.1 bt292.2.1 bt292.2.2.1 bt292.2.2.2.1 bt292.2.2.2.2.1 bt292.2.2.2.2.2.1 bt292.2.2.2.2.2.2.1 bt292.2.2.2.2.2.2.2.1 bt292.2.2.2.2.2.2.2.2 bt304.1 bt304.2.1 bt304.2.2.1 bt304.2.2.2.1 bt304.2.2.2.2.1 bt304.2.2.2.2.2.1 bt304.2.2.2.2.2.2.1 bt304.2.2.2.2.2.2.2.1 bt304.2.2.2.2.2.2.2.2.1 bt304.2.2.2.2.2.2.2.2.2).bind fun t317 => (if t317 = t291 then ((laws_toNode.f k a0_0 a0_1 a0_2 a0_3 l0_4 a0_5 a0_6 a0_7 a0_8).bind fun bt318 => ((laws_eqNode.f k bt292.1 bt292.2.1 bt292.2.2.1 bt292.2.2.2.1 bt292.2.2.2.2.1 bt292.2.2.2.2.2.1 bt292.2.2.2.2.2.2.1 bt292.2.2.2.2.2.2.2.1 bt292.2.2.2.2.2.2.2.2 bt318.1 bt318.2.1 bt318.2.2.1 bt318.2.2.2.1 bt318.2.2.2.2.1 bt318.2.2.2.2.2.1 bt318.2.2.2.2.2.2.1 bt318.2.2.2.2.2.2.2.1 bt318.2.2.2.2.2.2.2.2).bind fun t329 => (if t329 = true then ((laws_toMail.f k a1_0 a1_1 a1_2 a1_3 a1_4 a1_5 a1_6 a1_7 a1_8 l1_9).bind fun bt330 => ((laws_eqMail.f k bt304.1 bt304.2.1 bt304.2.2.1 bt304.2.2.2.1 bt304.2.2.2.2.1 bt304.2.2.2.2.2.1 bt304.2.2.2.2.2.2.1 bt304.2.2.2.2.2.2.2.1 bt304.2.2.2.2.2.2.2.2.1 bt304.2.2.2.2.2.2.2.2.2 bt330.1 bt330.2.1 bt330.2.2.1 bt330.2.2.2.1 bt330.2.2.2.2.1 bt330.2.2.2.2.2.1 bt330.2.2.2.2.2.2.1 bt330.2.2.2.2.2.2.2.1 bt330.2.2.2.2.2.2.2.2.1 bt330.2.2.2.2.2.2.2.2.2).bind fun t342 => (if t342 = true then (some true) else (some false)))) else (some false)))) else (some false))))) = some true := H
   have A21 := Aside0.mk A210
   clear A210
   replace H := Option.bind_eq_some_iff.mp H
   obtain ⟨⟨t292, t293, t294, t295, t296, t299, t300, t301, t302⟩, A220, H⟩ := H
   replace H : ((laws_toMail.f k a1_0 a1_1 a1_2 a1_3 a1_4 a1_5 a1_6 a1_7 a1_8 l1_9).bind fun bt304 => ((impl_MailFault.f k t292 t293 t294 t295 t296 t299 t300 t301 t302 bt304.1 bt304.2.1 bt304.2.2.1 bt304.2.2.2.1 bt304.2.2.2.2.1 bt304.2.2.2.2.2.1 bt304.2.2.2.2.2.2.1 bt304.2.2.2.2.2.2.2.1 bt304.2.2.2.2.2.2.2.2.1 bt304.2.2.2.2.2.2.2.2.2).bind fun t317 => (if t317 = t291 then ((laws_toNode.f k a0_0 a0_1 a0_2 a0_3 l0_4 a0_5 a0_6 a0_7 a0_8).bind fun bt318 => ((laws_eqNode.f k t292 t293 t294 t295 t296 t299 t300 t301 t302 bt318.1 bt318.2.1 bt318.2.2.1 bt318.2.2.2.1 bt318.2.2.2.2.1 bt318.2.2.2.2.2.1 bt318.2.2.2.2.2.2.1 bt318.2.2.2.2.2.2.2.1 bt318.2.2.2.2.2.2.2.2).bind fun t329 => (if t329 = true then ((laws_toMail.f k a1_0 a1_1 a1_2 a1_3 a1_4 a1_5 a1_6 a1_7 a1_8 l1_9).bind fun bt330 => ((laws_eqMail.f k bt304.1 bt304.2.1 bt304.2.2.1 bt304.2.2.2.1 bt304.2.2.2.2.1 bt304.2.2.2.2.2.1 bt304.2.2.2.2.2.2.1 bt304.2.2.2.2.2.2.2.1 bt304.2.2.2.2.2.2.2.2.1 bt304.2.2.2.2.2.2.2.2.2 bt330.1 bt330.2.1 bt330.2.2.1 bt330.2.2.2.1 bt330.2.2.2.2.1 bt330.2.2.2.2.2.1 bt330.2.2.2.2.2.2.1 bt330.2.2.2.2.2.2.2.1 bt330.2.2.2.2.2.2.2.2.1 bt330.2.2.2.2.2.2.2.2.2).bind fun t342 => (if t342 = true then (some true) else (some false)))) else (some false)))) else (some false)))) = some true := H
   have A22 := Aside0.mk A220
   clear A220
   replace H := Option.bind_eq_some_iff.mp H
   obtain ⟨⟨t304, t305, t306, t307, t308, t309, t310, t311, t312, t313⟩, A230, H⟩ := H
   replace H : ((impl_MailFault.f k t292 t293 t294 t295 t296 t299 t300 t301 t302 t304 t305 t306 t307 t308 t309 t310 t311 t312 t313).bind fun t317 => (if t317 = t291 then ((laws_toNode.f k a0_0 a0_1 a0_2 a0_3 l0_4 a0_5 a0_6 a0_7 a0_8).bind fun bt318 => ((laws_eqNode.f k t292 t293 t294 t295 t296 t299 t300 t301 t302 bt318.1 bt318.2.1 bt318.2.2.1 bt318.2.2.2.1 bt318.2.2.2.2.1 bt318.2.2.2.2.2.1 bt318.2.2.2.2.2.2.1 bt318.2.2.2.2.2.2.2.1 bt318.2.2.2.2.2.2.2.2).bind fun t329 => (if t329 = true then ((laws_toMail.f k a1_0 a1_1 a1_2 a1_3 a1_4 a1_5 a1_6 a1_7 a1_8 l1_9).bind fun bt330 => ((laws_eqMail.f k t304 t305 t306 t307 t308 t309 t310 t311 t312 t313 bt330.1 bt330.2.1 bt330.2.2.1 bt330.2.2.2.1 bt330.2.2.2.2.1 bt330.2.2.2.2.2.1 bt330.2.2.2.2.2.2.1 bt330.2.2.2.2.2.2.2.1 bt330.2.2.2.2.2.2.2.2.1 bt330.2.2.2.2.2.2.2.2.2).bind fun t342 => (if t342 = true then (some true) else (some false)))) else (some false)))) else (some false))) = some true := H
   have A23 := Aside0.mk A230
   clear A230
   replace H := Option.bind_eq_some_iff.mp H
   obtain ⟨t317, A240, H⟩ := H
   replace H : (if t317 = t291 then ((laws_toNode.f k a0_0 a0_1 a0_2 a0_3 l0_4 a0_5 a0_6 a0_7 a0_8).bind fun bt318 => ((laws_eqNode.f k t292 t293 t294 t295 t296 t299 t300 t301 t302 bt318.1 bt318.2.1 bt318.2.2.1 bt318.2.2.2.1 bt318.2.2.2.2.1 bt318.2.2.2.2.2.1 bt318.2.2.2.2.2.2.1 bt318.2.2.2.2.2.2.2.1 bt318.2.2.2.2.2.2.2.2).bind fun t329 => (if t329 = true then ((laws_toMail.f k a1_0 a1_1 a1_2 a1_3 a1_4 a1_5 a1_6 a1_7 a1_8 l1_9).bind fun bt330 => ((laws_eqMail.f k t304 t305 t306 t307 t308 t309 t310 t311 t312 t313 bt330.1 bt330.2.1 bt330.2.2.1 bt330.2.2.2.1 bt330.2.2.2.2.1 bt330.2.2.2.2.2.1 bt330.2.2.2.2.2.2.1 bt330.2.2.2.2.2.2.2.1 bt330.2.2.2.2.2.2.2.2.1 bt330.2.2.2.2.2.2.2.2.2).bind fun t342 => (if t342 = true then (some true) else (some false)))) else (some false)))) else (some false)) = some true := H
   have A24 := Aside0.mk A240
   clear A240
   by_cases c25 : t317 = t291
   ·
    rw [if_pos c25] at H
    have c25b0 : (t317 == t291) = true := beq_iff_eq.mpr c25
    have c25b1 : (t317 != t291) = false := bne_eq_false_iff_eq.mpr c25
    clear c25
    replace H := Option.bind_eq_some_iff.mp H
    obtain ⟨⟨t318, t319, t320, t321, t322, t325, t326, t327, t328⟩, A260, H⟩ := H
    replace H : ((laws_eqNode.f k t292 t293 t294 t295 t296 t299 t300 t301 t302 t318 t319 t320 t321 t322 t325 t326 t327 t328).bind fun t329 => (if t329 = true then ((laws_toMail.f k a1_0 a1_1 a1_2 a1_3 a1_4 a1_5 a1_6 a1_7 a1_8 l1_9).bind fun bt330 => ((laws_eqMail.f k t304 t305 t306 t307 t308 t309 t310 t311 t312 t313 bt330.1 bt330.2.1 bt330.2.2.1 bt330.2.2.2.1 bt330.2.2.2.2.1 bt330.2.2.2.2.2.1 bt330.2.2.2.2.2.2.1 bt330.2.2.2.2.2.2.2.1 bt330.2.2.2.2.2.2.2.2.1 bt330.2.2.2.2.2.2.2.2.2).bind fun t342 => (if t342 = true then (some true) else (some false)))) else (some false))) = some true := H
    have A26 := Aside0.mk A260
    clear A260
    replace H := Option.bind_eq_some_iff.mp H
    obtain ⟨t329, A270, H⟩ := H
    replace H : (if t329 = true then ((laws_toMail.f k a1_0 a1_1 a1_2 a1_3 a1_4 a1_5 a1_6 a1_7 a1_8 l1_9).bind fun bt330 => ((laws_eqMail.f k t304 t305 t306 t307 t308 t309 t310 t311 t312 t313 bt330.1 bt330.2.1 bt330.2.2.1 bt330.2.2.2.1 bt330.2.2.2.2.1 bt330.2.2.2.2.2.1 bt330.2.2.2.2.2.2.1 bt330.2.2.2.2.2.2.2.1 bt330.2.2.2.2.2.2.2.2.1 bt330.2.2.2.2.2.2.2.2.2).bind fun t342 => (if t342 = true then (some true) else (some false)))) else (some false)) = some true := H
    have A27 := Aside0.mk A270
    clear A270
    by_cases c28 : t329 = true
    ·
     subst c28
     have H1 : ((laws_toMail.f k a1_0 a1_1 a1_2 a1_3 a1_4 a1_5 a1_6 a1_7 a1_8 l1_9).bind fun bt330 => ((laws_eqMail.f k t304 t305 t306 t307 t308 t309 t310 t311 t312 t313 bt330.1 bt330.2.1 bt330.2.2.1 bt330.2.2.2.1 bt330.2.2.2.2.1 bt330.2.2.2.2.2.1 bt330.2.2.2.2.2.2.1 bt330.2.2.2.2.2.2.2.1 bt330.2.2.2.2.2.2.2.2.1 bt330.2.2.2.2.2.2.2.2.2).bind fun t342 => (if t342 = true then (some true) else (some false)))) = some true := by rw [if_pos rfl] at H; first | done | exact H
     clear H
     have H := H1
     clear H1
     replace H := Option.bind_eq_some_iff.mp H
     obtain ⟨⟨t330, t331, t332, t333, t334, t335, t336, t337, t338, t339⟩, A290, H⟩ := H
     replace H : ((laws_eqMail.f k t304 t305 t306 t307 t308 t309 t310 t311 t312 t313 t330 t331 t332 t333 t334 t335 t336 t337 t338 t339).bind fun t342 => (if t342 = true then (some true) else (some false))) = some true := H
     have A29 := Aside0.mk A290
     clear A290
     replace H := Option.bind_eq_some_iff.mp H
     obtain ⟨t342, A300, H⟩ := H
     replace H : (if t342 = true then (some true) else (some false)) = some true := H
     have A30 := Aside0.mk A300
     clear A300
     by_cases c31 : t342 = true
     ·
      subst c31
      have H1 : (some true) = some true := by rw [if_pos rfl] at H; first | done | exact H
      clear H
      have H := H1
      clear H1
      have HT_ := Option.some.inj H
      clear H
      go_enter Try.func5, Try.ntmps5
      try go_wp2_with (first | ((with_reducible refine gate_dst (N := 2) rfl ?_); refine boxE #[.int .i64 a0_0, .bool a0_1, .int .i64 a0_2, .int .i64 a0_3, .slice A0_4 l0_4.length c0_4, .int .i64 a0_5, .int .i64 a0_6, .int .i64 a0_7, .int .i64 a0_8] 24 (N := 2) rfl rfl ?_; intro gb264 hg w32 hbox hb; have BK264 := Aside0.mk hbox; have GW264 := gZ HB hg; have GE264 := gZ HB hg; replace HB := bS HB hb; clear hb hbox hg) | ((with_reducible refine gate_dst (N := 3) rfl ?_); refine boxE #[.int .i64 a1_0, .int .i64 a1_1, .int .i64 a1_2, .int .i64 a1_3, .int .i64 a1_4, .bool a1_5, .int .i64 a1_6, .int .i64 a1_7, .int .i64 a1_8, .slice A1_9 l1_9.length c1_9] 46 (N := 3) rfl rfl ?_; intro gb265 hg w33 hbox hb; have BK265 := Aside0.mk hbox; have GW265 := gZ HB hg; have GE265 := gZ HB hg; replace HB := bS HB hb; have NB264_265 := nL BK264 hg; have NB265_264 := nG BK264 hg; replace BK264 := bK BK264 hb; clear hb hbox hg; have hnb34 := NB264_265.out; have hnc34 := NB265_264.out; have hz35 := cl9 BK264) | ((with_reducible refine gate_callee (f := 9) rfl ?_); refine goA (some 12) rfl rfl Try.func9 rfl #[.agg #[.int .i64 a0_0, .bool a0_1, .int .i64 a0_2, .int .i64 a0_3, .slice A0_4 l0_4.length c0_4, .int .i64 a0_5, .int .i64 a0_6, .int .i64 a0_7, .int .i64 a0_8], .int .i64 1048576] rfl ?_; (with_reducible refine (laws_szNode.calls k a0_0 a0_1 a0_2 a0_3 _ _ l0_4 a0_5 a0_6 a0_7 a0_8 1048576 t266 _ ?side1 ?side2 A3.out).mono ?_); (case side1 => exact mC HR0_4 HB); (case side2 => exact HC0_4.out); rintro e w36 ⟨rfl, hb⟩; refine ⟨_, rfl, ?_⟩; replace BK264 := bK BK264 hb; replace BK265 := bK BK265 hb; replace HB := bS HB hb; (try clear hb); (try clear hb2); (try clear hk); (try clear hi); have hz37 := cl10 BK265) | ((with_reducible refine gate_callee (f := 19) rfl ?_); refine goA (some 17) rfl rfl Try.func19 rfl #[.agg #[.int .i64 a1_0, .int .i64 a1_1, .int .i64 a1_2, .int .i64 a1_3, .int .i64 a1_4, .bool a1_5, .int .i64 a1_6, .int .i64 a1_7, .int .i64 a1_8, .slice A1_9 l1_9.length c1_9], .int .i64 t266] rfl ?_; (with_reducible refine (laws_szMail.calls a1_0 a1_1 a1_2 a1_3 a1_4 a1_5 a1_6 a1_7 a1_8 _ _ l1_9 t266 t267 _ ?side1 ?side2 A10.out).mono ?_); (case side1 => exact mC HR1_9 HB); (case side2 => exact HC1_9.out); rintro e w38 ⟨rfl, hb⟩; refine ⟨_, rfl, ?_⟩; replace BK264 := bK BK264 hb; replace BK265 := bK BK265 hb; replace HB := bS HB hb; (try clear hb); (try clear hb2); (try clear hk); (try clear hi)))
      have n0_ := Aside0.mk (blk_drew BK264.out)
      have n1_ := Aside0.mk (blk_drew BK265.out)
      have n2_ := Aside0.mk (below_drew1 HB.out)
      clear BK264
      clear BK265
      clear HB
      have BK264 := n0_
      have BK265 := n1_
      have HB := n2_
      clear n0_ n1_ n2_
      refine start_ (n := 6) (S := fun w' => w'.cell? ⟨gb264, 0, none⟩ = some (.int .i64 a0_0) ∧ w'.cell? ⟨gb264, 1, none⟩ = some (.bool a0_1) ∧ w'.cell? ⟨gb264, 2, none⟩ = some (.int .i64 a0_2) ∧ w'.cell? ⟨gb264, 3, none⟩ = some (.int .i64 a0_3) ∧ w'.cell? ⟨gb264, 4, none⟩ = some (.slice A0_4 l0_4.length c0_4) ∧ w'.cell? ⟨gb264, 5, none⟩ = some (.int .i64 a0_5) ∧ w'.cell? ⟨gb264, 6, none⟩ = some (.int .i64 a0_6) ∧ w'.cell? ⟨gb264, 7, none⟩ = some (.int .i64 a0_7) ∧ w'.cell? ⟨gb264, 8, none⟩ = some (.int .i64 a0_8) ∧ w'.cell? ⟨gb265, 0, none⟩ = some (.int .i64 a1_0) ∧ w'.cell? ⟨gb265, 1, none⟩ = some (.int .i64 a1_1) ∧ w'.cell? ⟨gb265, 2, none⟩ = some (.int .i64 a1_2) ∧ w'.cell? ⟨gb265, 3, none⟩ = some (.int .i64 a1_3) ∧ w'.cell? ⟨gb265, 4, none⟩ = some (.int .i64 a1_4) ∧ w'.cell? ⟨gb265, 5, none⟩ = some (.bool a1_5) ∧ w'.cell? ⟨gb265, 6, none⟩ = some (.int .i64 a1_6) ∧ w'.cell? ⟨gb265, 7, none⟩ = some (.int .i64 a1_7) ∧ w'.cell? ⟨gb265, 8, none⟩ = some (.int .i64 a1_8) ∧ w'.cell? ⟨gb265, 9, none⟩ = some (.slice A1_9 l1_9.length c1_9)) (ds := []) #[false, false, false, false, false, false] (by kernel_rfl) rfl rfl ⟨(blk_cell BK264.out 0).trans rfl, (blk_cell BK264.out 1).trans rfl, (blk_cell BK264.out 2).trans rfl, (blk_cell BK264.out 3).trans rfl, (blk_cell BK264.out 4).trans rfl, (blk_cell BK264.out 5).trans rfl, (blk_cell BK264.out 6).trans rfl, (blk_cell BK264.out 7).trans rfl, (blk_cell BK264.out 8).trans rfl, (blk_cell BK265.out 0).trans rfl, (blk_cell BK265.out 1).trans rfl, (blk_cell BK265.out 2).trans rfl, (blk_cell BK265.out 3).trans rfl, (blk_cell BK265.out 4).trans rfl, (blk_cell BK265.out 5).trans rfl, (blk_cell BK265.out 6).trans rfl, (blk_cell BK265.out 7).trans rfl, (blk_cell BK265.out 8).trans rfl, (blk_cell BK265.out 9).trans rfl⟩ (fun hHeld => ?_)
      generalize w38.drew = w39 at BK264 BK265 HB hHeld ⊢
      refine take_ (i := 0) (N := some 20) (v := ?_) (a' := ?_) #[true, false, false, false, false, false] rfl rfl (by kernel_rfl) (fun _ _ _ h => h) (Or.inl ⟨by rfl, ?_⟩) hHeld ?_ ?_
      rotate_left
      ·
       rintro w' ⟨s0, s1, s2, s3, s4, s5, s6, s7, s8, s9, s10, s11, s12, s13, s14, s15, s16, s17, s18⟩
       go_simp
       with_reducible rfl
      rotate_left
      ·
       simp only [Act.put, List.setIfInBounds_toArray, List.set_cons_zero, List.set_cons_succ, i64_w, i32_w]
       rfl
      refine take_ (i := 2) (N := some 22) (v := ?_) (a' := ?_) #[true, false, true, false, false, false] rfl rfl (by kernel_rfl) (fun _ _ _ h => h) (Or.inl ⟨by rfl, ?_⟩) hHeld ?_ ?_
      rotate_left
      ·
       rintro w' ⟨s0, s1, s2, s3, s4, s5, s6, s7, s8, s9, s10, s11, s12, s13, s14, s15, s16, s17, s18⟩
       go_simp
       with_reducible rfl
      rotate_left
      ·
       simp only [Act.put, List.setIfInBounds_toArray, List.set_cons_zero, List.set_cons_succ, i64_w, i32_w]
       rfl
      refine one_ (i := 1) (N := some 21) #[true, true, true, false, false, false] rfl rfl (by kernel_rfl) (by decide) (fun K hK => ?_)
      refine goes_ Try.func11 (by kernel_rfl) rfl #[.agg #[.int .i64 a0_0, .bool a0_1, .int .i64 a0_2, .int .i64 a0_3, .slice A0_4 l0_4.length c0_4, .int .i64 a0_5, .int .i64 a0_6, .int .i64 a0_7, .int .i64 a0_8]] (by rfl) rfl rfl (by (try simp only [List.map_toArray, List.map_cons, List.map_nil]); first | done | rfl | (simp only [List.length_drop, List.length_take]; rfl)) ?_
      with_reducible refine (laws_toNode.calls k a0_0 a0_1 a0_2 a0_3 _ _ l0_4 a0_5 a0_6 a0_7 a0_8 t268 t269 t270 t271 t272 t275 t276 t277 t278 _ ?side1 ?side2 A19.out).mono ?_
      (case side1 => exact mC HR0_4 HB)
      (case side2 => exact HC0_4.out)
      rintro e w40 ⟨v273, rfl, ho0, hb⟩
      refine ⟨_, rfl, ?_⟩
      have n0_ := Aside0.mk (Kd.S_lower ho0 (below_size (bel HB)))
      have n1_ := bK BK264 hb
      have n2_ := bK BK265 hb
      have n3_ := bS HB hb
      clear BK264
      clear BK265
      clear HB
      have HO274 := n0_
      have BK264 := n1_
      have BK265 := n2_
      have HB := n3_
      clear n0_ n1_ n2_ n3_
      (try clear hb)
      (try clear hb2)
      (try clear hk)
      (try clear hi)
      (try clear ho0)
      refine hK.out _ _ ⟨(blk_cell BK264.out 0).trans rfl, (blk_cell BK264.out 1).trans rfl, (blk_cell BK264.out 2).trans rfl, (blk_cell BK264.out 3).trans rfl, (blk_cell BK264.out 4).trans rfl, (blk_cell BK264.out 5).trans rfl, (blk_cell BK264.out 6).trans rfl, (blk_cell BK264.out 7).trans rfl, (blk_cell BK264.out 8).trans rfl, (blk_cell BK265.out 0).trans rfl, (blk_cell BK265.out 1).trans rfl, (blk_cell BK265.out 2).trans rfl, (blk_cell BK265.out 3).trans rfl, (blk_cell BK265.out 4).trans rfl, (blk_cell BK265.out 5).trans rfl, (blk_cell BK265.out 6).trans rfl, (blk_cell BK265.out 7).trans rfl, (blk_cell BK265.out 8).trans rfl, (blk_cell BK265.out 9).trans rfl⟩ (fun hHeld => ?_)
      clear hK K
      refine norm_ (a' := ?_) ?_ ?_
      rotate_left
      ·
       show Act.put _ (some 21) _ = _
       simp only [Act.put, List.setIfInBounds_toArray, List.set_cons_zero, List.set_cons_succ, i64_w, i32_w]
       rfl
      refine one_ (i := 3) (N := some 23) #[true, true, true, true, false, false] rfl rfl (by kernel_rfl) (by decide) (fun K hK => ?_)
      refine goes_ Try.func21 (by kernel_rfl) rfl #[.agg #[.int .i64 a1_0, .int .i64 a1_1, .int .i64 a1_2, .int .i64 a1_3, .int .i64 a1_4, .bool a1_5, .int .i64 a1_6, .int .i64 a1_7, .int .i64 a1_8, .slice A1_9 l1_9.length c1_9]] (by rfl) rfl rfl (by (try simp only [List.map_toArray, List.map_cons, List.map_nil]); first | done | rfl | (simp only [List.length_drop, List.length_take]; rfl)) ?_
      with_reducible refine (laws_toMail.calls k a1_0 a1_1 a1_2 a1_3 a1_4 a1_5 a1_6 a1_7 a1_8 _ _ l1_9 t279 t280 t281 t282 t283 t284 t285 t286 t287 t288 _ ?side1 ?side2 A20.out).mono ?_
      (case side1 => exact mC HR1_9 HB)
      (case side2 => exact HC1_9.out)
      rintro e w41 ⟨v289, rfl, ho0, hb⟩
      refine ⟨_, rfl, ?_⟩
      have n0_ := Aside0.mk (Kd.S_elder' (mS HO274) (Kd.R_base ho0) hb)
      have n1_ := Aside0.mk (Kd.R_lower ho0 (below_size (bel HB)))
      have n2_ := bK BK264 hb
      have n3_ := bK BK265 hb
      have n4_ := bS HB hb
      clear HO274
      clear BK264
      clear BK265
      clear HB
      have HO274 := n0_
      have HO290 := n1_
      have BK264 := n2_
      have BK265 := n3_
      have HB := n4_
      clear n0_ n1_ n2_ n3_ n4_
      (try clear hb)
      (try clear hb2)
      (try clear hk)
      (try clear hi)
      (try clear ho0)
      obtain ⟨Ao42, co42, eo42⟩ := Kd.S_slice HO274.out
      (first | subst eo42 | (injection eo42 with f1_ f2_ f3_; have f4_ := f1_.symm; have f5_ := f3_.symm; clear f1_ f2_ f3_; subst f4_; subst f5_))
      obtain ⟨Ao43, co43, eo43⟩ := Kd.R_slice HO290.out
      (first | subst eo43 | (injection eo43 with f1_ f2_ f3_; have f4_ := f1_.symm; have f5_ := f3_.symm; clear f1_ f2_ f3_; subst f4_; subst f5_))
      refine hK.out _ _ ⟨(blk_cell BK264.out 0).trans rfl, (blk_cell BK264.out 1).trans rfl, (blk_cell BK264.out 2).trans rfl, (blk_cell BK264.out 3).trans rfl, (blk_cell BK264.out 4).trans rfl, (blk_cell BK264.out 5).trans rfl, (blk_cell BK264.out 6).trans rfl, (blk_cell BK264.out 7).trans rfl, (blk_cell BK264.out 8).trans rfl, (blk_cell BK265.out 0).trans rfl, (blk_cell BK265.out 1).trans rfl, (blk_cell BK265.out 2).trans rfl, (blk_cell BK265.out 3).trans rfl, (blk_cell BK265.out 4).trans rfl, (blk_cell BK265.out 5).trans rfl, (blk_cell BK265.out 6).trans rfl, (blk_cell BK265.out 7).trans rfl, (blk_cell BK265.out 8).trans rfl, (blk_cell BK265.out 9).trans rfl⟩ (fun hHeld => ?_)
      clear hK K
      refine norm_ (a' := ?_) ?_ ?_
      rotate_left
      ·
       show Act.put _ (some 23) _ = _
       simp only [Act.put, List.setIfInBounds_toArray, List.set_cons_zero, List.set_cons_succ, i64_w, i32_w]
       rfl
      refine one_ (i := 4) (N := some 24) #[true, true, true, true, true, false] rfl rfl (by kernel_rfl) (by decide) (fun K hK => ?_)
      refine goes_ Try.func20 (by kernel_rfl) rfl #[.agg #[.int .i64 t268, .bool t269, .int .i64 t270, .int .i64 t271, .slice Ao42 t272.length co42, .int .i64 t275, .int .i64 t276, .int .i64 t277, .int .i64 t278], .agg #[.int .i64 t279, .int .i64 t280, .int .i64 t281, .int .i64 t282, .int .i64 t283, .bool t284, .int .i64 t285, .int .i64 t286, .int .i64 t287, .slice Ao43 t288.length co43]] (by rfl) rfl rfl (by (try simp only [List.map_toArray, List.map_cons, List.map_nil]); first | done | rfl | (simp only [List.length_drop, List.length_take]; rfl)) ?_
      with_reducible refine (spec_MailFault.calls k t268 t269 t270 t271 _ _ t272 t275 t276 t277 t278 t279 t280 t281 t282 t283 t284 t285 t286 t287 _ _ t288 t291 _ ?side1 ?side2 ?side3 ?side4 A21.out).mono ?_
      (case side1 => repeat (first | exact (Kd.S_reads' HO274.out).2.2 | (with_reducible refine Kd.C_alloc ?_ _) | (with_reducible refine Kd.C_drewN ?_ _) | (with_reducible refine Kd.C_drew ?_)))
      (case side2 => exact (Kd.S_reads' HO274.out).2.1)
      (case side3 => repeat (first | exact (Kd.R_reads' HO290.out).2.2 | (with_reducible refine Kd.C_alloc ?_ _) | (with_reducible refine Kd.C_drewN ?_ _) | (with_reducible refine Kd.C_drew ?_)))
      (case side4 => exact (Kd.R_reads' HO290.out).2.1)
      rintro e w44 ⟨rfl, hb⟩
      refine ⟨_, rfl, ?_⟩
      have n0_ := Aside0.mk (Kd.S_below (mS HO274) hb)
      have n1_ := Aside0.mk (Kd.R_below (mR HO290) hb)
      have n2_ := bK BK264 hb
      have n3_ := bK BK265 hb
      have n4_ := bS HB hb
      clear HO274
      clear HO290
      clear BK264
      clear BK265
      clear HB
      have HO274 := n0_
      have HO290 := n1_
      have BK264 := n2_
      have BK265 := n3_
      have HB := n4_
      clear n0_ n1_ n2_ n3_ n4_
      (try clear hb)
      (try clear hb2)
      (try clear hk)
      (try clear hi)
      refine hK.out _ _ ⟨(blk_cell BK264.out 0).trans rfl, (blk_cell BK264.out 1).trans rfl, (blk_cell BK264.out 2).trans rfl, (blk_cell BK264.out 3).trans rfl, (blk_cell BK264.out 4).trans rfl, (blk_cell BK264.out 5).trans rfl, (blk_cell BK264.out 6).trans rfl, (blk_cell BK264.out 7).trans rfl, (blk_cell BK264.out 8).trans rfl, (blk_cell BK265.out 0).trans rfl, (blk_cell BK265.out 1).trans rfl, (blk_cell BK265.out 2).trans rfl, (blk_cell BK265.out 3).trans rfl, (blk_cell BK265.out 4).trans rfl, (blk_cell BK265.out 5).trans rfl, (blk_cell BK265.out 6).trans rfl, (blk_cell BK265.out 7).trans rfl, (blk_cell BK265.out 8).trans rfl, (blk_cell BK265.out 9).trans rfl⟩ (fun hHeld => ?_)
      clear hK K
      refine norm_ (a' := ?_) ?_ ?_
      rotate_left
      ·
       show Act.put _ (some 24) _ = _
       simp only [Act.put, List.setIfInBounds_toArray, List.set_cons_zero, List.set_cons_succ, i64_w, i32_w]
       rfl
      refine pure_ (i := 5) (N := some 6) (v := ?_) (a' := ?_) #[true, true, true, true, true, true] rfl rfl (by kernel_rfl) (fun _ _ _ h => h) (Or.inl ⟨by rfl, ?_⟩) ?_ ?_
      rotate_left
      ·
       intro w'
       go_simp
       with_reducible rfl
      rotate_left
      ·
       simp only [Act.put, List.setIfInBounds_toArray, List.set_cons_zero, List.set_cons_succ, i64_w, i32_w]
       rfl
      refine done_ (by kernel_rfl) ?_
      have hz45 := cl9 BK264
      try go_wp2_with (first | ((with_reducible refine gate_callee (f := 11) rfl ?_); refine goA (some 26) rfl rfl Try.func11 rfl #[.agg #[.int .i64 a0_0, .bool a0_1, .int .i64 a0_2, .int .i64 a0_3, .slice A0_4 l0_4.length c0_4, .int .i64 a0_5, .int .i64 a0_6, .int .i64 a0_7, .int .i64 a0_8]] rfl ?_; (with_reducible refine (laws_toNode.calls k a0_0 a0_1 a0_2 a0_3 _ _ l0_4 a0_5 a0_6 a0_7 a0_8 t292 t293 t294 t295 t296 t299 t300 t301 t302 _ ?side1 ?side2 A22.out).mono ?_); (case side1 => exact mC HR0_4 HB); (case side2 => exact HC0_4.out); rintro e w46 ⟨v297, rfl, ho0, hb⟩; refine ⟨_, rfl, ?_⟩; have HO298 := Aside0.mk (Kd.S_lower (Kd.S_new' (Kd.S_new' ho0 (Kd.S_lt (mS HO274))) (Kd.R_lt (mR HO290))) (below_size (bel HB))); replace HO274 := Aside0.mk (Kd.S_elder' (mS HO274) (Kd.S_base ho0) hb); replace HO290 := Aside0.mk (Kd.R_below (mR HO290) hb); replace BK264 := bK BK264 hb; replace BK265 := bK BK265 hb; replace HB := bS HB hb; (try clear hb); (try clear hb2); (try clear hk); (try clear hi); (try clear ho0)) | ((with_reducible refine gate_dst (N := 7) rfl ?_); refine boxE #[.int .i64 0, .bool false, .int .i64 0, .int .i64 0, .slice none 0 0, .int .i64 0, .int .i64 0, .int .i64 0, .int .i64 0] 29 (N := 7) rfl rfl ?_; intro gb303 hg w47 hbox hb; replace HO274 := Aside0.mk (Kd.S_below (mS HO274) hb); replace HO290 := Aside0.mk (Kd.R_below (mR HO290) hb); replace HO298 := Aside0.mk (Kd.S_below (mS HO298) hb); have BK303 := Aside0.mk hbox; have GW303 := gZ HB hg; have GE303 := gZ HB hg; replace HB := bS HB hb; have NB264_303 := nL BK264 hg; have NB303_264 := nG BK264 hg; replace BK264 := bK BK264 hb; have NB265_303 := nL BK265 hg; have NB303_265 := nG BK265 hg; replace BK265 := bK BK265 hb; clear hb hbox hg; have hnb48 := NB303_264.out; have hnc48 := NB264_303.out; have hnb49 := NB303_265.out; have hnc49 := NB265_303.out; have hz50 := cl9 BK303; obtain ⟨Ao51, co51, eo51⟩ := Kd.S_slice HO298.out; subst eo51; have hz52 := cl10 BK265) | ((with_reducible refine gate_callee (f := 21) rfl ?_); refine goA (some 28) rfl rfl Try.func21 rfl #[.agg #[.int .i64 a1_0, .int .i64 a1_1, .int .i64 a1_2, .int .i64 a1_3, .int .i64 a1_4, .bool a1_5, .int .i64 a1_6, .int .i64 a1_7, .int .i64 a1_8, .slice A1_9 l1_9.length c1_9]] rfl ?_; (with_reducible refine (laws_toMail.calls k a1_0 a1_1 a1_2 a1_3 a1_4 a1_5 a1_6 a1_7 a1_8 _ _ l1_9 t304 t305 t306 t307 t308 t309 t310 t311 t312 t313 _ ?side1 ?side2 A23.out).mono ?_); (case side1 => exact Kd.C_below HR1_9.out (bel HB)); (case side2 => exact HC1_9.out); rintro e w53 ⟨v314, rfl, ho0, hb⟩; refine ⟨_, rfl, ?_⟩; replace HO274 := Aside0.mk (Kd.S_elder' (by (with_reducible repeat (first | apply Kd.S_alloc | apply Kd.S_drewN | apply Kd.S_drew)); exact (Kd.S_mono (Kd.S_far (p := ⟨gb303, 8, none⟩) (Kd.S_far (p := ⟨gb303, 7, none⟩) (Kd.S_far (p := ⟨gb303, 6, none⟩) (Kd.S_far (p := ⟨gb303, 5, none⟩) (Kd.S_far (p := ⟨gb303, 4, none⟩) (Kd.S_far (p := ⟨gb303, 3, none⟩) (Kd.S_far (p := ⟨gb303, 2, none⟩) (Kd.S_far (p := ⟨gb303, 1, none⟩) (Kd.S_far (p := ⟨gb303, 0, none⟩) (Kd.S_types HO274.out BK303.out (by decide)) (fun _ hk => hk.2) (.int .i64 t292)) (fun _ hk => hk.2) (.bool t293)) (fun _ hk => hk.2) (.int .i64 t294)) (fun _ hk => hk.2) (.int .i64 t295)) (fun _ hk => hk.2) (.slice Ao51 t296.length co51)) (fun _ hk => hk.2) (.int .i64 t299)) (fun _ hk => hk.2) (.int .i64 t300)) (fun _ hk => hk.2) (.int .i64 t301)) (fun _ hk => hk.2) (.int .i64 t302)) (fun _ h_ => h_.1))) (Kd.R_base ho0) hb); replace HO298 := Aside0.mk (Kd.S_elder' (by (with_reducible repeat (first | apply Kd.S_alloc | apply Kd.S_drewN | apply Kd.S_drew)); exact (Kd.S_mono (Kd.S_far (p := ⟨gb303, 8, none⟩) (Kd.S_far (p := ⟨gb303, 7, none⟩) (Kd.S_far (p := ⟨gb303, 6, none⟩) (Kd.S_far (p := ⟨gb303, 5, none⟩) (Kd.S_far (p := ⟨gb303, 4, none⟩) (Kd.S_far (p := ⟨gb303, 3, none⟩) (Kd.S_far (p := ⟨gb303, 2, none⟩) (Kd.S_far (p := ⟨gb303, 1, none⟩) (Kd.S_far (p := ⟨gb303, 0, none⟩) (Kd.S_types HO298.out BK303.out (by decide)) (fun _ hk => hk.2) (.int .i64 t292)) (fun _ hk => hk.2) (.bool t293)) (fun _ hk => hk.2) (.int .i64 t294)) (fun _ hk => hk.2) (.int .i64 t295)) (fun _ hk => hk.2) (.slice Ao51 t296.length co51)) (fun _ hk => hk.2) (.int .i64 t299)) (fun _ hk => hk.2) (.int .i64 t300)) (fun _ hk => hk.2) (.int .i64 t301)) (fun _ hk => hk.2) (.int .i64 t302)) (fun _ h_ => h_.1))) (Kd.R_base ho0) hb); have HO315 := Aside0.mk (Kd.R_lower (Kd.R_new' ho0 (Kd.R_lt (by (with_reducible repeat (first | apply Kd.R_alloc | apply Kd.R_drewN | apply Kd.R_drew)); exact (Kd.R_mono (RF (RF (RF (RF (RF (RF (RF (RF (RF (Kd.R_types HO290.out BK303.out (by decide))))))))))) (fun _ h_ => h_.1))))) (below_size (bel HB))); replace HO290 := Aside0.mk (Kd.R_elder' (by (with_reducible repeat (first | apply Kd.R_alloc | apply Kd.R_drewN | apply Kd.R_drew)); exact (Kd.R_mono (RF (RF (RF (RF (RF (RF (RF (RF (RF (Kd.R_types HO290.out BK303.out (by decide))))))))))) (fun _ h_ => h_.1))) (Kd.R_base ho0) hb); replace BK264 := Aside0.mk (blk_below (g := gb264) (o := .cells #[.int .i64 a0_0, .bool a0_1, .int .i64 a0_2, .int .i64 a0_3, .slice A0_4 l0_4.length c0_4, .int .i64 a0_5, .int .i64 a0_6, .int .i64 a0_7, .int .i64 a0_8] 24 (0, 0)) (mP BK264) hb); replace BK265 := Aside0.mk (blk_below (g := gb265) (o := .cells #[.int .i64 a1_0, .int .i64 a1_1, .int .i64 a1_2, .int .i64 a1_3, .int .i64 a1_4, .bool a1_5, .int .i64 a1_6, .int .i64 a1_7, .int .i64 a1_8, .slice A1_9 l1_9.length c1_9] 46 (0, 0)) (mP BK265) hb); replace BK303 := Aside0.mk (blk_below (g := gb303) (o := .cells #[.int .i64 t292, .bool t293, .int .i64 t294, .int .i64 t295, .slice Ao51 t296.length co51, .int .i64 t299, .int .i64 t300, .int .i64 t301, .int .i64 t302] 29 (0, 0)) (mP BK303) hb); replace HB := bS HB hb; (try clear hb); (try clear hb2); (try clear hk); (try clear hi); (try clear ho0)) | ((with_reducible refine gate_dst (N := 8) rfl ?_); refine boxE #[.int .i64 0, .int .i64 0, .int .i64 0, .int .i64 0, .int .i64 0, .bool false, .int .i64 0, .int .i64 0, .int .i64 0, .slice none 0 0] 53 (N := 8) rfl rfl ?_; intro gb316 hg w54 hbox hb; replace HO274 := Aside0.mk (Kd.S_below (mS HO274) hb); replace HO290 := Aside0.mk (Kd.R_below (mR HO290) hb); replace HO298 := Aside0.mk (Kd.S_below (mS HO298) hb); replace HO315 := Aside0.mk (Kd.R_below (mR HO315) hb); have BK316 := Aside0.mk hbox; have GW316 := gZ HB hg; have GE316 := gZ HB hg; replace HB := bS HB hb; have NB264_316 := nL BK264 hg; have NB316_264 := nG BK264 hg; replace BK264 := bK BK264 hb; have NB265_316 := nL BK265 hg; have NB316_265 := nG BK265 hg; replace BK265 := bK BK265 hb; have NB303_316 := nL BK303 hg; have NB316_303 := nG BK303 hg; replace BK303 := bK BK303 hb; clear hb hbox hg; have hnb55 := NB316_264.out; have hnc55 := NB264_316.out; have hnb56 := NB316_265.out; have hnc56 := NB265_316.out; have hnb57 := NB316_303.out; have hnc57 := NB303_316.out; have hz58 := cl10 BK316; obtain ⟨Ao59, co59, eo59⟩ := Kd.R_slice HO315.out; subst eo59; have hz60 := cl9 BK303) | ((with_reducible refine gate_callee (f := 22) rfl ?_); refine goA (some 31) rfl rfl Try.func22 rfl #[.agg #[.int .i64 t292, .bool t293, .int .i64 t294, .int .i64 t295, .slice Ao51 t296.length co51, .int .i64 t299, .int .i64 t300, .int .i64 t301, .int .i64 t302], .agg #[.int .i64 t304, .int .i64 t305, .int .i64 t306, .int .i64 t307, .int .i64 t308, .bool t309, .int .i64 t310, .int .i64 t311, .int .i64 t312, .slice Ao59 t313.length co59]] rfl ?_; (with_reducible refine (impl_MailFault.calls k t292 t293 t294 t295 _ _ t296 t299 t300 t301 t302 t304 t305 t306 t307 t308 t309 t310 t311 t312 _ _ t313 t317 _ ?side1 ?side2 ?side3 ?side4 A24.out).mono ?_); (case side1 => refine (Kd.S_reads' (e := 51) (base := w.heap.size) (ok := fun k_ => (((True ∧ some k_ ≠ (.slice Ao42 t272.length co42 : Value).ownBlock) ∧ some k_ ≠ (.slice Ao43 t288.length co43 : Value).ownBlock) ∧ some k_ ≠ (.slice Ao59 t313.length co59 : Value).ownBlock)) (n := t296.length) (c := co51) ?_).2.2; exact (by (with_reducible repeat (first | apply Kd.S_alloc | apply Kd.S_drewN | apply Kd.S_drew)); exact (Kd.S_mono (Kd.S_far (p := ⟨gb316, 9, none⟩) (Kd.S_far (p := ⟨gb316, 8, none⟩) (Kd.S_far (p := ⟨gb316, 7, none⟩) (Kd.S_far (p := ⟨gb316, 6, none⟩) (Kd.S_far (p := ⟨gb316, 5, none⟩) (Kd.S_far (p := ⟨gb316, 4, none⟩) (Kd.S_far (p := ⟨gb316, 3, none⟩) (Kd.S_far (p := ⟨gb316, 2, none⟩) (Kd.S_far (p := ⟨gb316, 1, none⟩) (Kd.S_far (p := ⟨gb316, 0, none⟩) (Kd.S_types HO298.out BK316.out (by decide)) (fun _ hk => hk.2) (.int .i64 t304)) (fun _ hk => hk.2) (.int .i64 t305)) (fun _ hk => hk.2) (.int .i64 t306)) (fun _ hk => hk.2) (.int .i64 t307)) (fun _ hk => hk.2) (.int .i64 t308)) (fun _ hk => hk.2) (.bool t309)) (fun _ hk => hk.2) (.int .i64 t310)) (fun _ hk => hk.2) (.int .i64 t311)) (fun _ hk => hk.2) (.int .i64 t312)) (fun _ hk => hk.2) (.slice Ao59 t313.length co59)) (fun _ h_ => h_.1)))); (case side2 => exact (Kd.S_reads' HO298.out).2.1); (case side3 => refine (Kd.R_reads' (e := 5) (base := w.heap.size) (ok := fun k_ => (True ∧ some k_ ≠ (.slice Ao43 t288.length co43 : Value).ownBlock)) (n := t313.length) (c := co59) ?_).2.2; exact (by (with_reducible repeat (first | apply Kd.R_alloc | apply Kd.R_drewN | apply Kd.R_drew)); exact (Kd.R_mono (RF (RF (RF (RF (RF (RF (RF (RF (RF (RF (Kd.R_types HO315.out BK316.out (by decide)))))))))))) (fun _ h_ => h_.1)))); (case side4 => exact (Kd.R_reads' HO315.out).2.1); rintro e w61 ⟨rfl, hb⟩; refine ⟨_, rfl, ?_⟩; replace HO274 := Aside0.mk (Kd.S_below (by (with_reducible repeat (first | apply Kd.S_alloc | apply Kd.S_drewN | apply Kd.S_drew)); exact (Kd.S_mono (Kd.S_far (p := ⟨gb316, 9, none⟩) (Kd.S_far (p := ⟨gb316, 8, none⟩) (Kd.S_far (p := ⟨gb316, 7, none⟩) (Kd.S_far (p := ⟨gb316, 6, none⟩) (Kd.S_far (p := ⟨gb316, 5, none⟩) (Kd.S_far (p := ⟨gb316, 4, none⟩) (Kd.S_far (p := ⟨gb316, 3, none⟩) (Kd.S_far (p := ⟨gb316, 2, none⟩) (Kd.S_far (p := ⟨gb316, 1, none⟩) (Kd.S_far (p := ⟨gb316, 0, none⟩) (Kd.S_types HO274.out BK316.out (by decide)) (fun _ hk => hk.2) (.int .i64 t304)) (fun _ hk => hk.2) (.int .i64 t305)) (fun _ hk => hk.2) (.int .i64 t306)) (fun _ hk => hk.2) (.int .i64 t307)) (fun _ hk => hk.2) (.int .i64 t308)) (fun _ hk => hk.2) (.bool t309)) (fun _ hk => hk.2) (.int .i64 t310)) (fun _ hk => hk.2) (.int .i64 t311)) (fun _ hk => hk.2) (.int .i64 t312)) (fun _ hk => hk.2) (.slice Ao59 t313.length co59)) (fun _ h_ => h_.1))) hb); replace HO290 := Aside0.mk (Kd.R_below (by (with_reducible repeat (first | apply Kd.R_alloc | apply Kd.R_drewN | apply Kd.R_drew)); exact (Kd.R_mono (RF (RF (RF (RF (RF (RF (RF (RF (RF (RF (Kd.R_types HO290.out BK316.out (by decide)))))))))))) (fun _ h_ => h_.1))) hb); replace HO298 := Aside0.mk (Kd.S_below (by (with_reducible repeat (first | apply Kd.S_alloc | apply Kd.S_drewN | apply Kd.S_drew)); exact (Kd.S_mono (Kd.S_far (p := ⟨gb316, 9, none⟩) (Kd.S_far (p := ⟨gb316, 8, none⟩) (Kd.S_far (p := ⟨gb316, 7, none⟩) (Kd.S_far (p := ⟨gb316, 6, none⟩) (Kd.S_far (p := ⟨gb316, 5, none⟩) (Kd.S_far (p := ⟨gb316, 4, none⟩) (Kd.S_far (p := ⟨gb316, 3, none⟩) (Kd.S_far (p := ⟨gb316, 2, none⟩) (Kd.S_far (p := ⟨gb316, 1, none⟩) (Kd.S_far (p := ⟨gb316, 0, none⟩) (Kd.S_types HO298.out BK316.out (by decide)) (fun _ hk => hk.2) (.int .i64 t304)) (fun _ hk => hk.2) (.int .i64 t305)) (fun _ hk => hk.2) (.int .i64 t306)) (fun _ hk => hk.2) (.int .i64 t307)) (fun _ hk => hk.2) (.int .i64 t308)) (fun _ hk => hk.2) (.bool t309)) (fun _ hk => hk.2) (.int .i64 t310)) (fun _ hk => hk.2) (.int .i64 t311)) (fun _ hk => hk.2) (.int .i64 t312)) (fun _ hk => hk.2) (.slice Ao59 t313.length co59)) (fun _ h_ => h_.1))) hb); replace HO315 := Aside0.mk (Kd.R_below (by (with_reducible repeat (first | apply Kd.R_alloc | apply Kd.R_drewN | apply Kd.R_drew)); exact (Kd.R_mono (RF (RF (RF (RF (RF (RF (RF (RF (RF (RF (Kd.R_types HO315.out BK316.out (by decide)))))))))))) (fun _ h_ => h_.1))) hb); replace BK264 := Aside0.mk (blk_below (g := gb264) (o := .cells #[.int .i64 a0_0, .bool a0_1, .int .i64 a0_2, .int .i64 a0_3, .slice A0_4 l0_4.length c0_4, .int .i64 a0_5, .int .i64 a0_6, .int .i64 a0_7, .int .i64 a0_8] 24 (0, 0)) (mP BK264) hb); replace BK265 := Aside0.mk (blk_below (g := gb265) (o := .cells #[.int .i64 a1_0, .int .i64 a1_1, .int .i64 a1_2, .int .i64 a1_3, .int .i64 a1_4, .bool a1_5, .int .i64 a1_6, .int .i64 a1_7, .int .i64 a1_8, .slice A1_9 l1_9.length c1_9] 46 (0, 0)) (mP BK265) hb); replace BK303 := Aside0.mk (blk_below (g := gb303) (o := .cells #[.int .i64 t292, .bool t293, .int .i64 t294, .int .i64 t295, .slice Ao51 t296.length co51, .int .i64 t299, .int .i64 t300, .int .i64 t301, .int .i64 t302] 29 (0, 0)) (mP BK303) hb); replace BK316 := Aside0.mk (blk_below (g := gb316) (o := .cells #[.int .i64 t304, .int .i64 t305, .int .i64 t306, .int .i64 t307, .int .i64 t308, .bool t309, .int .i64 t310, .int .i64 t311, .int .i64 t312, .slice Ao59 t313.length co59] 53 (0, 0)) (mP BK316) hb); replace HB := bS HB hb; (try clear hb); (try clear hb2); (try clear hk); (try clear hi)))
      have n0_ := Aside0.mk (Kd.S_drew HO274.out)
      have n1_ := Aside0.mk (Kd.R_drew HO290.out)
      have n2_ := Aside0.mk (Kd.S_drew HO298.out)
      have n3_ := Aside0.mk (Kd.R_drew HO315.out)
      have n4_ := Aside0.mk (blk_drew BK264.out)
      have n5_ := Aside0.mk (blk_drew BK265.out)
      have n6_ := Aside0.mk (blk_drew BK303.out)
      have n7_ := Aside0.mk (blk_drew BK316.out)
      have n8_ := Aside0.mk (below_drew1 HB.out)
      clear HO274
      clear HO290
      clear HO298
      clear HO315
      clear BK264
      clear BK265
      clear BK303
      clear BK316
      clear HB
      have HO274 := n0_
      have HO290 := n1_
      have HO298 := n2_
      have HO315 := n3_
      have BK264 := n4_
      have BK265 := n5_
      have BK303 := n6_
      have BK316 := n7_
      have HB := n8_
      clear n0_ n1_ n2_ n3_ n4_ n5_ n6_ n7_ n8_
      refine start_ (n := 5) (S := fun w' => w'.cell? ⟨gb303, 0, none⟩ = some (.int .i64 t292) ∧ w'.cell? ⟨gb303, 1, none⟩ = some (.bool t293) ∧ w'.cell? ⟨gb303, 2, none⟩ = some (.int .i64 t294) ∧ w'.cell? ⟨gb303, 3, none⟩ = some (.int .i64 t295) ∧ w'.cell? ⟨gb303, 4, none⟩ = some (.slice Ao51 t296.length co51) ∧ w'.cell? ⟨gb303, 5, none⟩ = some (.int .i64 t299) ∧ w'.cell? ⟨gb303, 6, none⟩ = some (.int .i64 t300) ∧ w'.cell? ⟨gb303, 7, none⟩ = some (.int .i64 t301) ∧ w'.cell? ⟨gb303, 8, none⟩ = some (.int .i64 t302) ∧ w'.cell? ⟨gb264, 0, none⟩ = some (.int .i64 a0_0) ∧ w'.cell? ⟨gb264, 1, none⟩ = some (.bool a0_1) ∧ w'.cell? ⟨gb264, 2, none⟩ = some (.int .i64 a0_2) ∧ w'.cell? ⟨gb264, 3, none⟩ = some (.int .i64 a0_3) ∧ w'.cell? ⟨gb264, 4, none⟩ = some (.slice A0_4 l0_4.length c0_4) ∧ w'.cell? ⟨gb264, 5, none⟩ = some (.int .i64 a0_5) ∧ w'.cell? ⟨gb264, 6, none⟩ = some (.int .i64 a0_6) ∧ w'.cell? ⟨gb264, 7, none⟩ = some (.int .i64 a0_7) ∧ w'.cell? ⟨gb264, 8, none⟩ = some (.int .i64 a0_8)) (ds := []) #[false, false, false, false, false] (by kernel_rfl) rfl rfl ⟨(blk_cell BK303.out 0).trans rfl, (blk_cell BK303.out 1).trans rfl, (blk_cell BK303.out 2).trans rfl, (blk_cell BK303.out 3).trans rfl, (blk_cell BK303.out 4).trans rfl, (blk_cell BK303.out 5).trans rfl, (blk_cell BK303.out 6).trans rfl, (blk_cell BK303.out 7).trans rfl, (blk_cell BK303.out 8).trans rfl, (blk_cell BK264.out 0).trans rfl, (blk_cell BK264.out 1).trans rfl, (blk_cell BK264.out 2).trans rfl, (blk_cell BK264.out 3).trans rfl, (blk_cell BK264.out 4).trans rfl, (blk_cell BK264.out 5).trans rfl, (blk_cell BK264.out 6).trans rfl, (blk_cell BK264.out 7).trans rfl, (blk_cell BK264.out 8).trans rfl⟩ (fun hHeld => ?_)
      generalize w61.drew = w62 at HO274 HO290 HO298 HO315 BK264 BK265 BK303 BK316 HB hHeld ⊢
      refine take_ (i := 0) (N := some 35) (v := ?_) (a' := ?_) #[true, false, false, false, false] rfl rfl (by kernel_rfl) (fun _ _ _ h => h) (Or.inl ⟨by rfl, ?_⟩) hHeld ?_ ?_
      rotate_left
      ·
       rintro w' ⟨s0, s1, s2, s3, s4, s5, s6, s7, s8, s9, s10, s11, s12, s13, s14, s15, s16, s17⟩
       go_simp
       with_reducible rfl
      rotate_left
      ·
       simp only [Act.put, List.setIfInBounds_toArray, List.set_cons_zero, List.set_cons_succ, i64_w, i32_w]
       rfl
      refine take_ (i := 1) (N := some 36) (v := ?_) (a' := ?_) #[true, true, false, false, false] rfl rfl (by kernel_rfl) (fun _ _ _ h => h) (Or.inl ⟨by rfl, ?_⟩) hHeld ?_ ?_
      rotate_left
      ·
       rintro w' ⟨s0, s1, s2, s3, s4, s5, s6, s7, s8, s9, s10, s11, s12, s13, s14, s15, s16, s17⟩
       go_simp
       with_reducible rfl
      rotate_left
      ·
       simp only [Act.put, List.setIfInBounds_toArray, List.set_cons_zero, List.set_cons_succ, i64_w, i32_w]
       rfl
      refine one_ (i := 2) (N := some 37) #[true, true, true, false, false] rfl rfl (by kernel_rfl) (by decide) (fun K hK => ?_)
      refine goes_ Try.func11 (by kernel_rfl) rfl #[.agg #[.int .i64 a0_0, .bool a0_1, .int .i64 a0_2, .int .i64 a0_3, .slice A0_4 l0_4.length c0_4, .int .i64 a0_5, .int .i64 a0_6, .int .i64 a0_7, .int .i64 a0_8]] (by rfl) rfl rfl (by (try simp only [List.map_toArray, List.map_cons, List.map_nil]); first | done | rfl | (simp only [List.length_drop, List.length_take]; rfl)) ?_
      with_reducible refine (laws_toNode.calls k a0_0 a0_1 a0_2 a0_3 _ _ l0_4 a0_5 a0_6 a0_7 a0_8 t318 t319 t320 t321 t322 t325 t326 t327 t328 _ ?side1 ?side2 A26.out).mono ?_
      (case side1 => exact mC HR0_4 HB)
      (case side2 => exact HC0_4.out)
      rintro e w63 ⟨v323, rfl, ho0, hb⟩
      refine ⟨_, rfl, ?_⟩
      have n0_ := Aside0.mk (Kd.S_elder' (mS HO274) (Kd.S_base ho0) hb)
      have n1_ := Aside0.mk (Kd.R_below (mR HO290) hb)
      have n2_ := Aside0.mk (Kd.S_elder' (mS HO298) (Kd.S_base ho0) hb)
      have n3_ := Aside0.mk (Kd.R_below (mR HO315) hb)
      have n4_ := Aside0.mk (Kd.S_lower (Kd.S_new' (Kd.S_new' (Kd.S_new' (Kd.S_new' ho0 (Kd.S_lt (mS HO274))) (Kd.R_lt (mR HO290))) (Kd.S_lt (mS HO298))) (Kd.R_lt (mR HO315))) (below_size (bel HB)))
      have n5_ := bK BK264 hb
      have n6_ := bK BK265 hb
      have n7_ := bK BK303 hb
      have n8_ := bK BK316 hb
      have n9_ := bS HB hb
      clear HO274
      clear HO290
      clear HO298
      clear HO315
      clear BK264
      clear BK265
      clear BK303
      clear BK316
      clear HB
      have HO274 := n0_
      have HO290 := n1_
      have HO298 := n2_
      have HO315 := n3_
      have HO324 := n4_
      have BK264 := n5_
      have BK265 := n6_
      have BK303 := n7_
      have BK316 := n8_
      have HB := n9_
      clear n0_ n1_ n2_ n3_ n4_ n5_ n6_ n7_ n8_ n9_
      (try clear hb)
      (try clear hb2)
      (try clear hk)
      (try clear hi)
      (try clear ho0)
      obtain ⟨Ao64, co64, eo64⟩ := Kd.S_slice HO324.out
      (first | subst eo64 | (injection eo64 with f1_ f2_ f3_; have f4_ := f1_.symm; have f5_ := f3_.symm; clear f1_ f2_ f3_; subst f4_; subst f5_))
      refine hK.out _ _ ⟨(blk_cell BK303.out 0).trans rfl, (blk_cell BK303.out 1).trans rfl, (blk_cell BK303.out 2).trans rfl, (blk_cell BK303.out 3).trans rfl, (blk_cell BK303.out 4).trans rfl, (blk_cell BK303.out 5).trans rfl, (blk_cell BK303.out 6).trans rfl, (blk_cell BK303.out 7).trans rfl, (blk_cell BK303.out 8).trans rfl, (blk_cell BK264.out 0).trans rfl, (blk_cell BK264.out 1).trans rfl, (blk_cell BK264.out 2).trans rfl, (blk_cell BK264.out 3).trans rfl, (blk_cell BK264.out 4).trans rfl, (blk_cell BK264.out 5).trans rfl, (blk_cell BK264.out 6).trans rfl, (blk_cell BK264.out 7).trans rfl, (blk_cell BK264.out 8).trans rfl⟩ (fun hHeld => ?_)
      clear hK K
      refine norm_ (a' := ?_) ?_ ?_
      rotate_left
      ·
       show Act.put _ (some 37) _ = _
       simp only [Act.put, List.setIfInBounds_toArray, List.set_cons_zero, List.set_cons_succ, i64_w, i32_w]
       rfl
      refine one_ (i := 3) (N := some 38) #[true, true, true, true, false] rfl rfl (by kernel_rfl) (by decide) (fun K hK => ?_)
      refine goes_ Try.func13 (by kernel_rfl) rfl #[.agg #[.int .i64 t292, .bool t293, .int .i64 t294, .int .i64 t295, .slice Ao51 t296.length co51, .int .i64 t299, .int .i64 t300, .int .i64 t301, .int .i64 t302], .agg #[.int .i64 t318, .bool t319, .int .i64 t320, .int .i64 t321, .slice Ao64 t322.length co64, .int .i64 t325, .int .i64 t326, .int .i64 t327, .int .i64 t328]] (by rfl) rfl rfl (by (try simp only [List.map_toArray, List.map_cons, List.map_nil]); first | done | rfl | (simp only [List.length_drop, List.length_take]; rfl)) ?_
      with_reducible refine (laws_eqNode.calls k t292 t293 t294 t295 _ _ t296 t299 t300 t301 t302 t318 t319 t320 t321 _ _ t322 t325 t326 t327 t328 true _ ?side1 ?side2 ?side3 ?side4 A27.out).mono ?_
      (case side1 => repeat (first | exact (Kd.S_reads' HO298.out).2.2 | (with_reducible refine Kd.C_alloc ?_ _) | (with_reducible refine Kd.C_drewN ?_ _) | (with_reducible refine Kd.C_drew ?_)))
      (case side2 => exact (Kd.S_reads' HO298.out).2.1)
      (case side3 => repeat (first | exact (Kd.S_reads' HO324.out).2.2 | (with_reducible refine Kd.C_alloc ?_ _) | (with_reducible refine Kd.C_drewN ?_ _) | (with_reducible refine Kd.C_drew ?_)))
      (case side4 => exact (Kd.S_reads' HO324.out).2.1)
      rintro e w65 ⟨rfl, hb⟩
      refine ⟨_, rfl, ?_⟩
      have n0_ := Aside0.mk (Kd.S_below (mS HO274) hb)
      have n1_ := Aside0.mk (Kd.R_below (mR HO290) hb)
      have n2_ := Aside0.mk (Kd.S_below (mS HO298) hb)
      have n3_ := Aside0.mk (Kd.R_below (mR HO315) hb)
      have n4_ := Aside0.mk (Kd.S_below (mS HO324) hb)
      have n5_ := bK BK264 hb
      have n6_ := bK BK265 hb
      have n7_ := bK BK303 hb
      have n8_ := bK BK316 hb
      have n9_ := bS HB hb
      clear HO274
      clear HO290
      clear HO298
      clear HO315
      clear HO324
      clear BK264
      clear BK265
      clear BK303
      clear BK316
      clear HB
      have HO274 := n0_
      have HO290 := n1_
      have HO298 := n2_
      have HO315 := n3_
      have HO324 := n4_
      have BK264 := n5_
      have BK265 := n6_
      have BK303 := n7_
      have BK316 := n8_
      have HB := n9_
      clear n0_ n1_ n2_ n3_ n4_ n5_ n6_ n7_ n8_ n9_
      (try clear hb)
      (try clear hb2)
      (try clear hk)
      (try clear hi)
      refine hK.out _ _ ⟨(blk_cell BK303.out 0).trans rfl, (blk_cell BK303.out 1).trans rfl, (blk_cell BK303.out 2).trans rfl, (blk_cell BK303.out 3).trans rfl, (blk_cell BK303.out 4).trans rfl, (blk_cell BK303.out 5).trans rfl, (blk_cell BK303.out 6).trans rfl, (blk_cell BK303.out 7).trans rfl, (blk_cell BK303.out 8).trans rfl, (blk_cell BK264.out 0).trans rfl, (blk_cell BK264.out 1).trans rfl, (blk_cell BK264.out 2).trans rfl, (blk_cell BK264.out 3).trans rfl, (blk_cell BK264.out 4).trans rfl, (blk_cell BK264.out 5).trans rfl, (blk_cell BK264.out 6).trans rfl, (blk_cell BK264.out 7).trans rfl, (blk_cell BK264.out 8).trans rfl⟩ (fun hHeld => ?_)
      clear hK K
      refine norm_ (a' := ?_) ?_ ?_
      rotate_left
      ·
       show Act.put _ (some 38) _ = _
       simp only [Act.put, List.setIfInBounds_toArray, List.set_cons_zero, List.set_cons_succ, i64_w, i32_w]
       rfl
      refine pure_ (i := 4) (N := some 39) (v := ?_) (a' := ?_) #[true, true, true, true, true] rfl rfl (by kernel_rfl) (fun _ _ _ h => h) (Or.inl ⟨by rfl, ?_⟩) ?_ ?_
      rotate_left
      ·
       intro w'
       go_simp
       with_reducible rfl
      rotate_left
      ·
       simp only [Act.put, List.setIfInBounds_toArray, List.set_cons_zero, List.set_cons_succ, i64_w, i32_w]
       rfl
      refine done_ (by kernel_rfl) ?_
      try go_wp2
      have n0_ := Aside0.mk (Kd.S_drew HO274.out)
      have n1_ := Aside0.mk (Kd.R_drew HO290.out)
      have n2_ := Aside0.mk (Kd.S_drew HO298.out)
      have n3_ := Aside0.mk (Kd.R_drew HO315.out)
      have n4_ := Aside0.mk (Kd.S_drew HO324.out)
      have n5_ := Aside0.mk (blk_drew BK264.out)
      have n6_ := Aside0.mk (blk_drew BK265.out)
      have n7_ := Aside0.mk (blk_drew BK303.out)
      have n8_ := Aside0.mk (blk_drew BK316.out)
      have n9_ := Aside0.mk (below_drew1 HB.out)
      clear HO274
      clear HO290
      clear HO298
      clear HO315
      clear HO324
      clear BK264
      clear BK265
      clear BK303
      clear BK316
      clear HB
      have HO274 := n0_
      have HO290 := n1_
      have HO298 := n2_
      have HO315 := n3_
      have HO324 := n4_
      have BK264 := n5_
      have BK265 := n6_
      have BK303 := n7_
      have BK316 := n8_
      have HB := n9_
      clear n0_ n1_ n2_ n3_ n4_ n5_ n6_ n7_ n8_ n9_
      refine start_ (n := 5) (S := fun w' => w'.cell? ⟨gb316, 0, none⟩ = some (.int .i64 t304) ∧ w'.cell? ⟨gb316, 1, none⟩ = some (.int .i64 t305) ∧ w'.cell? ⟨gb316, 2, none⟩ = some (.int .i64 t306) ∧ w'.cell? ⟨gb316, 3, none⟩ = some (.int .i64 t307) ∧ w'.cell? ⟨gb316, 4, none⟩ = some (.int .i64 t308) ∧ w'.cell? ⟨gb316, 5, none⟩ = some (.bool t309) ∧ w'.cell? ⟨gb316, 6, none⟩ = some (.int .i64 t310) ∧ w'.cell? ⟨gb316, 7, none⟩ = some (.int .i64 t311) ∧ w'.cell? ⟨gb316, 8, none⟩ = some (.int .i64 t312) ∧ w'.cell? ⟨gb316, 9, none⟩ = some (.slice Ao59 t313.length co59) ∧ w'.cell? ⟨gb265, 0, none⟩ = some (.int .i64 a1_0) ∧ w'.cell? ⟨gb265, 1, none⟩ = some (.int .i64 a1_1) ∧ w'.cell? ⟨gb265, 2, none⟩ = some (.int .i64 a1_2) ∧ w'.cell? ⟨gb265, 3, none⟩ = some (.int .i64 a1_3) ∧ w'.cell? ⟨gb265, 4, none⟩ = some (.int .i64 a1_4) ∧ w'.cell? ⟨gb265, 5, none⟩ = some (.bool a1_5) ∧ w'.cell? ⟨gb265, 6, none⟩ = some (.int .i64 a1_6) ∧ w'.cell? ⟨gb265, 7, none⟩ = some (.int .i64 a1_7) ∧ w'.cell? ⟨gb265, 8, none⟩ = some (.int .i64 a1_8) ∧ w'.cell? ⟨gb265, 9, none⟩ = some (.slice A1_9 l1_9.length c1_9)) (ds := []) #[false, false, false, false, false] (by kernel_rfl) rfl rfl ⟨(blk_cell BK316.out 0).trans rfl, (blk_cell BK316.out 1).trans rfl, (blk_cell BK316.out 2).trans rfl, (blk_cell BK316.out 3).trans rfl, (blk_cell BK316.out 4).trans rfl, (blk_cell BK316.out 5).trans rfl, (blk_cell BK316.out 6).trans rfl, (blk_cell BK316.out 7).trans rfl, (blk_cell BK316.out 8).trans rfl, (blk_cell BK316.out 9).trans rfl, (blk_cell BK265.out 0).trans rfl, (blk_cell BK265.out 1).trans rfl, (blk_cell BK265.out 2).trans rfl, (blk_cell BK265.out 3).trans rfl, (blk_cell BK265.out 4).trans rfl, (blk_cell BK265.out 5).trans rfl, (blk_cell BK265.out 6).trans rfl, (blk_cell BK265.out 7).trans rfl, (blk_cell BK265.out 8).trans rfl, (blk_cell BK265.out 9).trans rfl⟩ (fun hHeld => ?_)
      generalize w65.drew = w66 at HO274 HO290 HO298 HO315 HO324 BK264 BK265 BK303 BK316 HB hHeld ⊢
      refine take_ (i := 0) (N := some 40) (v := ?_) (a' := ?_) #[true, false, false, false, false] rfl rfl (by kernel_rfl) (fun _ _ _ h => h) (Or.inl ⟨by rfl, ?_⟩) hHeld ?_ ?_
      rotate_left
      ·
       rintro w' ⟨s0, s1, s2, s3, s4, s5, s6, s7, s8, s9, s10, s11, s12, s13, s14, s15, s16, s17, s18, s19⟩
       go_simp
       with_reducible rfl
      rotate_left
      ·
       simp only [Act.put, List.setIfInBounds_toArray, List.set_cons_zero, List.set_cons_succ, i64_w, i32_w]
       rfl
      refine take_ (i := 1) (N := some 41) (v := ?_) (a' := ?_) #[true, true, false, false, false] rfl rfl (by kernel_rfl) (fun _ _ _ h => h) (Or.inl ⟨by rfl, ?_⟩) hHeld ?_ ?_
      rotate_left
      ·
       rintro w' ⟨s0, s1, s2, s3, s4, s5, s6, s7, s8, s9, s10, s11, s12, s13, s14, s15, s16, s17, s18, s19⟩
       go_simp
       with_reducible rfl
      rotate_left
      ·
       simp only [Act.put, List.setIfInBounds_toArray, List.set_cons_zero, List.set_cons_succ, i64_w, i32_w]
       rfl
      refine one_ (i := 2) (N := some 42) #[true, true, true, false, false] rfl rfl (by kernel_rfl) (by decide) (fun K hK => ?_)
      refine goes_ Try.func21 (by kernel_rfl) rfl #[.agg #[.int .i64 a1_0, .int .i64 a1_1, .int .i64 a1_2, .int .i64 a1_3, .int .i64 a1_4, .bool a1_5, .int .i64 a1_6, .int .i64 a1_7, .int .i64 a1_8, .slice A1_9 l1_9.length c1_9]] (by rfl) rfl rfl (by (try simp only [List.map_toArray, List.map_cons, List.map_nil]); first | done | rfl | (simp only [List.length_drop, List.length_take]; rfl)) ?_
      with_reducible refine (laws_toMail.calls k a1_0 a1_1 a1_2 a1_3 a1_4 a1_5 a1_6 a1_7 a1_8 _ _ l1_9 t330 t331 t332 t333 t334 t335 t336 t337 t338 t339 _ ?side1 ?side2 A29.out).mono ?_
      (case side1 => exact mC HR1_9 HB)
      (case side2 => exact HC1_9.out)
      rintro e w67 ⟨v340, rfl, ho0, hb⟩
      refine ⟨_, rfl, ?_⟩
      have n0_ := Aside0.mk (Kd.S_elder' (mS HO274) (Kd.R_base ho0) hb)
      have n1_ := Aside0.mk (Kd.R_elder' (mR HO290) (Kd.R_base ho0) hb)
      have n2_ := Aside0.mk (Kd.S_elder' (mS HO298) (Kd.R_base ho0) hb)
      have n3_ := Aside0.mk (Kd.R_elder' (mR HO315) (Kd.R_base ho0) hb)
      have n4_ := Aside0.mk (Kd.S_elder' (mS HO324) (Kd.R_base ho0) hb)
      have n5_ := Aside0.mk (Kd.R_lower (Kd.R_new' (Kd.R_new' ho0 (Kd.R_lt (mR HO290))) (Kd.R_lt (mR HO315))) (below_size (bel HB)))
      have n6_ := bK BK264 hb
      have n7_ := bK BK265 hb
      have n8_ := bK BK303 hb
      have n9_ := bK BK316 hb
      have n10_ := bS HB hb
      clear HO274
      clear HO290
      clear HO298
      clear HO315
      clear HO324
      clear BK264
      clear BK265
      clear BK303
      clear BK316
      clear HB
      have HO274 := n0_
      have HO290 := n1_
      have HO298 := n2_
      have HO315 := n3_
      have HO324 := n4_
      have HO341 := n5_
      have BK264 := n6_
      have BK265 := n7_
      have BK303 := n8_
      have BK316 := n9_
      have HB := n10_
      clear n0_ n1_ n2_ n3_ n4_ n5_ n6_ n7_ n8_ n9_ n10_
      (try clear hb)
      (try clear hb2)
      (try clear hk)
      (try clear hi)
      (try clear ho0)
      obtain ⟨Ao68, co68, eo68⟩ := Kd.R_slice HO341.out
      (first | subst eo68 | (injection eo68 with f1_ f2_ f3_; have f4_ := f1_.symm; have f5_ := f3_.symm; clear f1_ f2_ f3_; subst f4_; subst f5_))
      refine hK.out _ _ ⟨(blk_cell BK316.out 0).trans rfl, (blk_cell BK316.out 1).trans rfl, (blk_cell BK316.out 2).trans rfl, (blk_cell BK316.out 3).trans rfl, (blk_cell BK316.out 4).trans rfl, (blk_cell BK316.out 5).trans rfl, (blk_cell BK316.out 6).trans rfl, (blk_cell BK316.out 7).trans rfl, (blk_cell BK316.out 8).trans rfl, (blk_cell BK316.out 9).trans rfl, (blk_cell BK265.out 0).trans rfl, (blk_cell BK265.out 1).trans rfl, (blk_cell BK265.out 2).trans rfl, (blk_cell BK265.out 3).trans rfl, (blk_cell BK265.out 4).trans rfl, (blk_cell BK265.out 5).trans rfl, (blk_cell BK265.out 6).trans rfl, (blk_cell BK265.out 7).trans rfl, (blk_cell BK265.out 8).trans rfl, (blk_cell BK265.out 9).trans rfl⟩ (fun hHeld => ?_)
      clear hK K
      refine norm_ (a' := ?_) ?_ ?_
      rotate_left
      ·
       show Act.put _ (some 42) _ = _
       simp only [Act.put, List.setIfInBounds_toArray, List.set_cons_zero, List.set_cons_succ, i64_w, i32_w]
       rfl
      refine one_ (i := 3) (N := some 43) #[true, true, true, true, false] rfl rfl (by kernel_rfl) (by decide) (fun K hK => ?_)
      refine goes_ Try.func23 (by kernel_rfl) rfl #[.agg #[.int .i64 t304, .int .i64 t305, .int .i64 t306, .int .i64 t307, .int .i64 t308, .bool t309, .int .i64 t310, .int .i64 t311, .int .i64 t312, .slice Ao59 t313.length co59], .agg #[.int .i64 t330, .int .i64 t331, .int .i64 t332, .int .i64 t333, .int .i64 t334, .bool t335, .int .i64 t336, .int .i64 t337, .int .i64 t338, .slice Ao68 t339.length co68]] (by rfl) rfl rfl (by (try simp only [List.map_toArray, List.map_cons, List.map_nil]); first | done | rfl | (simp only [List.length_drop, List.length_take]; rfl)) ?_
      with_reducible refine (laws_eqMail.calls k t304 t305 t306 t307 t308 t309 t310 t311 t312 _ _ t313 t330 t331 t332 t333 t334 t335 t336 t337 t338 _ _ t339 true _ ?side1 ?side2 ?side3 ?side4 A30.out).mono ?_
      (case side1 => repeat (first | exact (Kd.R_reads' HO315.out).2.2 | (with_reducible refine Kd.C_alloc ?_ _) | (with_reducible refine Kd.C_drewN ?_ _) | (with_reducible refine Kd.C_drew ?_)))
      (case side2 => exact (Kd.R_reads' HO315.out).2.1)
      (case side3 => repeat (first | exact (Kd.R_reads' HO341.out).2.2 | (with_reducible refine Kd.C_alloc ?_ _) | (with_reducible refine Kd.C_drewN ?_ _) | (with_reducible refine Kd.C_drew ?_)))
      (case side4 => exact (Kd.R_reads' HO341.out).2.1)
      rintro e w69 ⟨rfl, hb⟩
      refine ⟨_, rfl, ?_⟩
      have n0_ := Aside0.mk (Kd.S_below (mS HO274) hb)
      have n1_ := Aside0.mk (Kd.R_below (mR HO290) hb)
      have n2_ := Aside0.mk (Kd.S_below (mS HO298) hb)
      have n3_ := Aside0.mk (Kd.R_below (mR HO315) hb)
      have n4_ := Aside0.mk (Kd.S_below (mS HO324) hb)
      have n5_ := Aside0.mk (Kd.R_below (mR HO341) hb)
      have n6_ := bK BK264 hb
      have n7_ := bK BK265 hb
      have n8_ := bK BK303 hb
      have n9_ := bK BK316 hb
      have n10_ := bS HB hb
      clear HO274
      clear HO290
      clear HO298
      clear HO315
      clear HO324
      clear HO341
      clear BK264
      clear BK265
      clear BK303
      clear BK316
      clear HB
      have HO274 := n0_
      have HO290 := n1_
      have HO298 := n2_
      have HO315 := n3_
      have HO324 := n4_
      have HO341 := n5_
      have BK264 := n6_
      have BK265 := n7_
      have BK303 := n8_
      have BK316 := n9_
      have HB := n10_
      clear n0_ n1_ n2_ n3_ n4_ n5_ n6_ n7_ n8_ n9_ n10_
      (try clear hb)
      (try clear hb2)
      (try clear hk)
      (try clear hi)
      refine hK.out _ _ ⟨(blk_cell BK316.out 0).trans rfl, (blk_cell BK316.out 1).trans rfl, (blk_cell BK316.out 2).trans rfl, (blk_cell BK316.out 3).trans rfl, (blk_cell BK316.out 4).trans rfl, (blk_cell BK316.out 5).trans rfl, (blk_cell BK316.out 6).trans rfl, (blk_cell BK316.out 7).trans rfl, (blk_cell BK316.out 8).trans rfl, (blk_cell BK316.out 9).trans rfl, (blk_cell BK265.out 0).trans rfl, (blk_cell BK265.out 1).trans rfl, (blk_cell BK265.out 2).trans rfl, (blk_cell BK265.out 3).trans rfl, (blk_cell BK265.out 4).trans rfl, (blk_cell BK265.out 5).trans rfl, (blk_cell BK265.out 6).trans rfl, (blk_cell BK265.out 7).trans rfl, (blk_cell BK265.out 8).trans rfl, (blk_cell BK265.out 9).trans rfl⟩ (fun hHeld => ?_)
      clear hK K
      refine norm_ (a' := ?_) ?_ ?_
      rotate_left
      ·
       show Act.put _ (some 43) _ = _
       simp only [Act.put, List.setIfInBounds_toArray, List.set_cons_zero, List.set_cons_succ, i64_w, i32_w]
       rfl
      refine pure_ (i := 4) (N := some 44) (v := ?_) (a' := ?_) #[true, true, true, true, true] rfl rfl (by kernel_rfl) (fun _ _ _ h => h) (Or.inl ⟨by rfl, ?_⟩) ?_ ?_
      rotate_left
      ·
       intro w'
       go_simp
       with_reducible rfl
      rotate_left
      ·
       simp only [Act.put, List.setIfInBounds_toArray, List.set_cons_zero, List.set_cons_succ, i64_w, i32_w]
       rfl
      refine done_ (by kernel_rfl) ?_
      try go_wp2
      go_ret
      exact ⟨by first | rfl | (simp [errW_none, errW_some] <;> rfl) | (simp [*, errW_none, errW_some] <;> rfl), bel HB⟩
     ·
      replace c31 := Bool.eq_false_iff.mpr c31
      subst c31
      have H1 : (some false) = some true := by rw [if_neg (show ¬ (false = true) by decide)] at H; first | done | exact H
      clear H
      have H := H1
      clear H1
      exact absurd H (by simp)
    ·
     replace c28 := Bool.eq_false_iff.mpr c28
     subst c28
     have H1 : (some false) = some true := by rw [if_neg (show ¬ (false = true) by decide)] at H; first | done | exact H
     clear H
     have H := H1
     clear H1
     exact absurd H (by simp)
   ·
    rw [if_neg c25] at H
    have c25b0 : (t317 == t291) = false := beq_eq_false_iff_ne.mpr c25
    have c25b1 : (t317 != t291) = true := bne_iff_ne.mpr c25
    exact absurd H (by simp)

end Go.Proofs.Ytgfoifkkffffgaa.PFnExactMailFault
