-- Laid by a turned copy of the printer (wip/tools/patch_print.py)
import Derived.Test.YtgfoifkkffffgabPFnExactAddEventx0
import Derived.Test.YtgfoifkkffffgabPFnExactAddEventx9
namespace Go.Proofs.Ytgfoifkkffffgab.PFnExactAddEvent
open Go.RowKit Go.Proofs.YtgfoifkkffffgabW.PrintWords Go.Proofs.YtgfoifkkffffgabW.PrintLast Go.Proofs.YtgfoifkkffffgabW.PrintMore
attribute [local go_sem] max2_int min2_int max_two min_two max_three min_three max_four min_four   -- for this text's walks alone
set_option linter.unusedVariables false
set_option linter.unusedSimpArgs false

/-! ### laws_eqMail: function 114 -/
def laws_eqMail.f (k : Nat) (a0_0 : Int) (a0_1 : Int) (a0_2 : Int) (a0_3 : Int) (a0_4 : Int) (a0_5 : Bool) (a0_6 : Int) (a0_7 : Int) (a0_8 : Int) (l0_9 : List Int) (a1_0 : Int) (a1_1 : Int) (a1_2 : Int) (a1_3 : Int) (a1_4 : Int) (a1_5 : Bool) (a1_6 : Int) (a1_7 : Int) (a1_8 : Int) (l1_9 : List Int) : Option (Bool) := if a0_0 = a1_0 then (if a0_1 = a1_1 then (if a0_2 = a1_2 then (if a0_3 = a1_3 then (if a0_4 = a1_4 then (if (a0_5 != a1_5) = true then (some false) else ((laws_eqEntry.f k a0_6 a0_7 a0_8 l0_9 a1_6 a1_7 a1_8 l1_9).bind fun t377 => (if t377 = true then (some true) else (some false)))) else (some false)) else (some false)) else (some false)) else (some false)) else (some false)
theorem laws_eqMail.mono : ∀ a0 a1 a2 a3 a4 a5 a6 a7 a8 a9 a10 a11 a12 a13 a14 a15 a16 a17 a18 a19 k, LeO (laws_eqMail.f k a0 a1 a2 a3 a4 a5 a6 a7 a8 a9 a10 a11 a12 a13 a14 a15 a16 a17 a18 a19) (laws_eqMail.f (k + 1) a0 a1 a2 a3 a4 a5 a6 a7 a8 a9 a10 a11 a12 a13 a14 a15 a16 a17 a18 a19) := by
 intro a0 a1 a2 a3 a4 a5 a6 a7 a8 a9 a10 a11 a12 a13 a14 a15 a16 a17 a18 a19 k
 unfold laws_eqMail.f
 repeat' first
   | (with_reducible exact laws_eqEntry.mono _ _ _ _ _ _ _ _ _)
   | (with_reducible exact LeO.refl _)
   | (with_reducible exact LeO.none _)
   | (with_reducible refine LeO.ite ?_ ?_)
   | (with_reducible refine LeO.bind ?_ (fun _ => ?_))
   | exact laws_eqEntry.mono _ _ _ _ _ _ _ _ _
   | exact LeO.none _
   | refine LeO.ite ?_ ?_
   | refine LeO.bind ?_ (fun _ => ?_)
set_option maxHeartbeats 8000000 in
set_option maxRecDepth 100000 in
theorem laws_eqMail.calls (k : Nat) (a0_0 : Int) (a0_1 : Int) (a0_2 : Int) (a0_3 : Int) (a0_4 : Int) (a0_5 : Bool) (a0_6 : Int) (a0_7 : Int) (a0_8 : Int) (A0_9 : Option Addr) (c0_9 : Nat) (l0_9 : List Int) (a1_0 : Int) (a1_1 : Int) (a1_2 : Int) (a1_3 : Int) (a1_4 : Int) (a1_5 : Bool) (a1_6 : Int) (a1_7 : Int) (a1_8 : Int) (A1_9 : Option Addr) (c1_9 : Nat) (l1_9 : List Int) (r : Bool) (w : World) (hr0_9 : Kd.C (Kd.int .u8) w A0_9 l0_9.length l0_9) (hc0_9 : l0_9.length ≤ c0_9) (hr1_9 : Kd.C (Kd.int .u8) w A1_9 l1_9.length l1_9) (hc1_9 : l1_9.length ≤ c1_9) (h : laws_eqMail.f k a0_0 a0_1 a0_2 a0_3 a0_4 a0_5 a0_6 a0_7 a0_8 l0_9 a1_0 a1_1 a1_2 a1_3 a1_4 a1_5 a1_6 a1_7 a1_8 l1_9 = some r) :
  Calls Try.prog 114 #[.agg #[.int .i64 a0_0, .int .i64 a0_1, .int .i64 a0_2, .int .i64 a0_3, .int .i64 a0_4, .bool a0_5, .int .i64 a0_6, .int .i64 a0_7, .int .i64 a0_8, .slice A0_9 l0_9.length c0_9], .agg #[.int .i64 a1_0, .int .i64 a1_1, .int .i64 a1_2, .int .i64 a1_3, .int .i64 a1_4, .bool a1_5, .int .i64 a1_6, .int .i64 a1_7, .int .i64 a1_8, .slice A1_9 l1_9.length c1_9]] w fun e w' => e = .returned (.bool r) ∧ Below w.heap.size w w' := by
 have hu57 := Try.underlying57
 have hu55 := Try.underlying55
 have hu38 := Try.underlying38
 have HR0_9 := Aside0.mk hr0_9
 have HC0_9 := Aside0.mk hc0_9
 clear hr0_9 hc0_9
 have HR1_9 := Aside0.mk hr1_9
 have HC1_9 := Aside0.mk hc1_9
 clear hr1_9 hc1_9
 have HB := am (Below.refl w.heap.size w)
 have H : (if a0_0 = a1_0 then (if a0_1 = a1_1 then (if a0_2 = a1_2 then (if a0_3 = a1_3 then (if a0_4 = a1_4 then (if (a0_5 != a1_5) = true then (some false) else ((laws_eqEntry.f k a0_6 a0_7 a0_8 l0_9 a1_6 a1_7 a1_8 l1_9).bind fun t377 => (if t377 = true then (some true) else (some false)))) else (some false)) else (some false)) else (some false)) else (some false)) else (some false)) = some r := h
 clear h
 by_cases c3 : a0_0 = a1_0
 ·
  rw [if_pos c3] at H
  have c3b0 : (a0_0 == a1_0) = true := beq_iff_eq.mpr c3
  have c3b1 : (a0_0 != a1_0) = false := bne_eq_false_iff_eq.mpr c3
  clear c3
  by_cases c4 : a0_1 = a1_1
  ·
   rw [if_pos c4] at H
   have c4b0 : (a0_1 == a1_1) = true := beq_iff_eq.mpr c4
   have c4b1 : (a0_1 != a1_1) = false := bne_eq_false_iff_eq.mpr c4
   clear c4
   by_cases c5 : a0_2 = a1_2
   ·
    rw [if_pos c5] at H
    have c5b0 : (a0_2 == a1_2) = true := beq_iff_eq.mpr c5
    have c5b1 : (a0_2 != a1_2) = false := bne_eq_false_iff_eq.mpr c5
    clear c5
    by_cases c6 : a0_3 = a1_3
    ·
     rw [if_pos c6] at H
     have c6b0 : (a0_3 == a1_3) = true := beq_iff_eq.mpr c6
     have c6b1 : (a0_3 != a1_3) = false := bne_eq_false_iff_eq.mpr c6
     clear c6
     by_cases c7 : a0_4 = a1_4
     ·
      rw [if_pos c7] at H
      have c7b0 : (a0_4 == a1_4) = true := beq_iff_eq.mpr c7
      have c7b1 : (a0_4 != a1_4) = false := bne_eq_false_iff_eq.mpr c7
      clear c7
      by_cases c8 : (a0_5 != a1_5) = true
      ·
       rw [if_pos c8] at H
       have c8b0 : (a0_5 != a1_5) = true := c8
       (try (have c8b1 : decide (a0_5 = a1_5) = false := by simpa using c8))
       (try (have c8b2 : (a0_5 == a1_5) = false := by simpa using c8))
       (try (have c8b3 : ¬ (a0_5 = a1_5) := by simpa using c8))
       clear c8
       obtain rfl := Option.some.inj H
       go_enter Try.func114, Try.ntmps114
       go_wp2_with (first | ((with_reducible refine gate_dst (N := 2) rfl ?_); refine boxE #[.int .i64 a0_0, .int .i64 a0_1, .int .i64 a0_2, .int .i64 a0_3, .int .i64 a0_4, .bool a0_5, .int .i64 a0_6, .int .i64 a0_7, .int .i64 a0_8, .slice A0_9 l0_9.length c0_9] 57 (N := 2) rfl rfl ?_; intro gb375 hg w9 hbox hb; have BK375 := Aside0.mk hbox; have GW375 := gZ HB hg; have GE375 := gZ HB hg; replace HB := bS HB hb; clear hb hbox hg) | ((with_reducible refine gate_dst (N := 3) rfl ?_); refine boxE #[.int .i64 a1_0, .int .i64 a1_1, .int .i64 a1_2, .int .i64 a1_3, .int .i64 a1_4, .bool a1_5, .int .i64 a1_6, .int .i64 a1_7, .int .i64 a1_8, .slice A1_9 l1_9.length c1_9] 57 (N := 3) rfl rfl ?_; intro gb376 hg w10 hbox hb; have BK376 := Aside0.mk hbox; have GW376 := gZ HB hg; have GE376 := gZ HB hg; replace HB := bS HB hb; have NB375_376 := nL BK375 hg; have NB376_375 := nG BK375 hg; replace BK375 := bK BK375 hb; clear hb hbox hg; have hnb11 := NB375_376.out; have hnc11 := NB376_375.out; have hz12 := cl10 BK375; have hz13 := cl10 BK376))
       go_ret
       exact ⟨by first | rfl | (simp [errW_none, errW_some] <;> rfl) | (simp [*, errW_none, errW_some] <;> rfl), bel HB⟩
      rw [if_neg c8] at H
      have c8b0 : (a0_5 != a1_5) = false := by simpa using c8
      (try (have c8b1 : decide (a0_5 = a1_5) = true := by simpa using c8))
      (try (have c8b2 : (a0_5 == a1_5) = true := by simpa using c8))
      clear c8
      replace H := Option.bind_eq_some_iff.mp H
      obtain ⟨t377, A140, H⟩ := H
      replace H : (if t377 = true then (some true) else (some false)) = some r := H
      have A14 := Aside0.mk A140
      clear A140
      by_cases c15 : t377 = true
      ·
       subst c15
       have H1 : (some true) = some r := by rw [if_pos rfl] at H; first | done | exact H
       clear H
       have H := H1
       clear H1
       obtain rfl := Option.some.inj H
       go_enter Try.func114, Try.ntmps114
       go_wp2_with (first | ((with_reducible refine gate_dst (N := 2) rfl ?_); refine boxE #[.int .i64 a0_0, .int .i64 a0_1, .int .i64 a0_2, .int .i64 a0_3, .int .i64 a0_4, .bool a0_5, .int .i64 a0_6, .int .i64 a0_7, .int .i64 a0_8, .slice A0_9 l0_9.length c0_9] 57 (N := 2) rfl rfl ?_; intro gb375 hg w16 hbox hb; have BK375 := Aside0.mk hbox; have GW375 := gZ HB hg; have GE375 := gZ HB hg; replace HB := bS HB hb; clear hb hbox hg) | ((with_reducible refine gate_dst (N := 3) rfl ?_); refine boxE #[.int .i64 a1_0, .int .i64 a1_1, .int .i64 a1_2, .int .i64 a1_3, .int .i64 a1_4, .bool a1_5, .int .i64 a1_6, .int .i64 a1_7, .int .i64 a1_8, .slice A1_9 l1_9.length c1_9] 57 (N := 3) rfl rfl ?_; intro gb376 hg w17 hbox hb; have BK376 := Aside0.mk hbox; have GW376 := gZ HB hg; have GE376 := gZ HB hg; replace HB := bS HB hb; have NB375_376 := nL BK375 hg; have NB376_375 := nG BK375 hg; replace BK375 := bK BK375 hb; clear hb hbox hg; have hnb18 := NB375_376.out; have hnc18 := NB376_375.out; have hz19 := cl10 BK375; have hz20 := cl10 BK376) | ((with_reducible refine gate_callee (f := 115) rfl ?_); refine goA (some 39) rfl rfl Try.func115 rfl #[.agg #[.int .i64 a0_6, .int .i64 a0_7, .int .i64 a0_8, .slice A0_9 l0_9.length c0_9], .agg #[.int .i64 a1_6, .int .i64 a1_7, .int .i64 a1_8, .slice A1_9 l1_9.length c1_9]] rfl ?_; (with_reducible refine (laws_eqEntry.calls k a0_6 a0_7 a0_8 _ _ l0_9 a1_6 a1_7 a1_8 _ _ l1_9 true _ ?side1 ?side2 ?side3 ?side4 A14.out).mono ?_); (case side1 => exact mC HR0_9 HB); (case side2 => exact HC0_9.out); (case side3 => exact mC HR1_9 HB); (case side4 => exact HC1_9.out); rintro e w21 ⟨rfl, hb⟩; refine ⟨_, rfl, ?_⟩; replace BK375 := bK BK375 hb; replace BK376 := bK BK376 hb; replace HB := bS HB hb; (try clear hb); (try clear hb2); (try clear hk); (try clear hi)))
       go_ret
       exact ⟨by first | rfl | (simp [errW_none, errW_some] <;> rfl) | (simp [*, errW_none, errW_some] <;> rfl), bel HB⟩
      replace c15 := Bool.eq_false_iff.mpr c15
      subst c15
      have H1 : (some false) = some r := by rw [if_neg (show ¬ (false = true) by decide)] at H; first | done | exact H
      clear H
      have H := H1
      clear H1
      obtain rfl := Option.some.inj H
      go_enter Try.func114, Try.ntmps114
      go_wp2_with (first | ((with_reducible refine gate_dst (N := 2) rfl ?_); refine boxE #[.int .i64 a0_0, .int .i64 a0_1, .int .i64 a0_2, .int .i64 a0_3, .int .i64 a0_4, .bool a0_5, .int .i64 a0_6, .int .i64 a0_7, .int .i64 a0_8, .slice A0_9 l0_9.length c0_9] 57 (N := 2) rfl rfl ?_; intro gb375 hg w22 hbox hb; have BK375 := Aside0.mk hbox; have GW375 := gZ HB hg; have GE375 := gZ HB hg; replace HB := bS HB hb; clear hb hbox hg) | ((with_reducible refine gate_dst (N := 3) rfl ?_); refine boxE #[.int .i64 a1_0, .int .i64 a1_1, .int .i64 a1_2, .int .i64 a1_3, .int .i64 a1_4, .bool a1_5, .int .i64 a1_6, .int .i64 a1_7, .int .i64 a1_8, .slice A1_9 l1_9.length c1_9] 57 (N := 3) rfl rfl ?_; intro gb376 hg w23 hbox hb; have BK376 := Aside0.mk hbox; have GW376 := gZ HB hg; have GE376 := gZ HB hg; replace HB := bS HB hb; have NB375_376 := nL BK375 hg; have NB376_375 := nG BK375 hg; replace BK375 := bK BK375 hb; clear hb hbox hg; have hnb24 := NB375_376.out; have hnc24 := NB376_375.out; have hz25 := cl10 BK375; have hz26 := cl10 BK376) | ((with_reducible refine gate_callee (f := 115) rfl ?_); refine goA (some 39) rfl rfl Try.func115 rfl #[.agg #[.int .i64 a0_6, .int .i64 a0_7, .int .i64 a0_8, .slice A0_9 l0_9.length c0_9], .agg #[.int .i64 a1_6, .int .i64 a1_7, .int .i64 a1_8, .slice A1_9 l1_9.length c1_9]] rfl ?_; (with_reducible refine (laws_eqEntry.calls k a0_6 a0_7 a0_8 _ _ l0_9 a1_6 a1_7 a1_8 _ _ l1_9 false _ ?side1 ?side2 ?side3 ?side4 A14.out).mono ?_); (case side1 => exact mC HR0_9 HB); (case side2 => exact HC0_9.out); (case side3 => exact mC HR1_9 HB); (case side4 => exact HC1_9.out); rintro e w27 ⟨rfl, hb⟩; refine ⟨_, rfl, ?_⟩; replace BK375 := bK BK375 hb; replace BK376 := bK BK376 hb; replace HB := bS HB hb; (try clear hb); (try clear hb2); (try clear hk); (try clear hi)))
      go_ret
      exact ⟨by first | rfl | (simp [errW_none, errW_some] <;> rfl) | (simp [*, errW_none, errW_some] <;> rfl), bel HB⟩
     rw [if_neg c7] at H
     have c7b0 : (a0_4 == a1_4) = false := beq_eq_false_iff_ne.mpr c7
     have c7b1 : (a0_4 != a1_4) = true := bne_iff_ne.mpr c7
     obtain rfl := Option.some.inj H
     go_enter Try.func114, Try.ntmps114
     go_wp2_with (first | ((with_reducible refine gate_dst (N := 2) rfl ?_); refine boxE #[.int .i64 a0_0, .int .i64 a0_1, .int .i64 a0_2, .int .i64 a0_3, .int .i64 a0_4, .bool a0_5, .int .i64 a0_6, .int .i64 a0_7, .int .i64 a0_8, .slice A0_9 l0_9.length c0_9] 57 (N := 2) rfl rfl ?_; intro gb375 hg w28 hbox hb; have BK375 := Aside0.mk hbox; have GW375 := gZ HB hg; have GE375 := gZ HB hg; replace HB := bS HB hb; clear hb hbox hg) | ((with_reducible refine gate_dst (N := 3) rfl ?_); refine boxE #[.int .i64 a1_0, .int .i64 a1_1, .int .i64 a1_2, .int .i64 a1_3, .int .i64 a1_4, .bool a1_5, .int .i64 a1_6, .int .i64 a1_7, .int .i64 a1_8, .slice A1_9 l1_9.length c1_9] 57 (N := 3) rfl rfl ?_; intro gb376 hg w29 hbox hb; have BK376 := Aside0.mk hbox; have GW376 := gZ HB hg; have GE376 := gZ HB hg; replace HB := bS HB hb; have NB375_376 := nL BK375 hg; have NB376_375 := nG BK375 hg; replace BK375 := bK BK375 hb; clear hb hbox hg; have hnb30 := NB375_376.out; have hnc30 := NB376_375.out; have hz31 := cl10 BK375; have hz32 := cl10 BK376))
     go_ret
     exact ⟨by first | rfl | (simp [errW_none, errW_some] <;> rfl) | (simp [*, errW_none, errW_some] <;> rfl), bel HB⟩
    rw [if_neg c6] at H
    have c6b0 : (a0_3 == a1_3) = false := beq_eq_false_iff_ne.mpr c6
    have c6b1 : (a0_3 != a1_3) = true := bne_iff_ne.mpr c6
    obtain rfl := Option.some.inj H
    go_enter Try.func114, Try.ntmps114
    go_wp2_with (first | ((with_reducible refine gate_dst (N := 2) rfl ?_); refine boxE #[.int .i64 a0_0, .int .i64 a0_1, .int .i64 a0_2, .int .i64 a0_3, .int .i64 a0_4, .bool a0_5, .int .i64 a0_6, .int .i64 a0_7, .int .i64 a0_8, .slice A0_9 l0_9.length c0_9] 57 (N := 2) rfl rfl ?_; intro gb375 hg w33 hbox hb; have BK375 := Aside0.mk hbox; have GW375 := gZ HB hg; have GE375 := gZ HB hg; replace HB := bS HB hb; clear hb hbox hg) | ((with_reducible refine gate_dst (N := 3) rfl ?_); refine boxE #[.int .i64 a1_0, .int .i64 a1_1, .int .i64 a1_2, .int .i64 a1_3, .int .i64 a1_4, .bool a1_5, .int .i64 a1_6, .int .i64 a1_7, .int .i64 a1_8, .slice A1_9 l1_9.length c1_9] 57 (N := 3) rfl rfl ?_; intro gb376 hg w34 hbox hb; have BK376 := Aside0.mk hbox; have GW376 := gZ HB hg; have GE376 := gZ HB hg; replace HB := bS HB hb; have NB375_376 := nL BK375 hg; have NB376_375 := nG BK375 hg; replace BK375 := bK BK375 hb; clear hb hbox hg; have hnb35 := NB375_376.out; have hnc35 := NB376_375.out; have hz36 := cl10 BK375; have hz37 := cl10 BK376))
    go_ret
    exact ⟨by first | rfl | (simp [errW_none, errW_some] <;> rfl) | (simp [*, errW_none, errW_some] <;> rfl), bel HB⟩
   rw [if_neg c5] at H
   have c5b0 : (a0_2 == a1_2) = false := beq_eq_false_iff_ne.mpr c5
   have c5b1 : (a0_2 != a1_2) = true := bne_iff_ne.mpr c5
   obtain rfl := Option.some.inj H
   go_enter Try.func114, Try.ntmps114
   go_wp2_with (first | ((with_reducible refine gate_dst (N := 2) rfl ?_); refine boxE #[.int .i64 a0_0, .int .i64 a0_1, .int .i64 a0_2, .int .i64 a0_3, .int .i64 a0_4, .bool a0_5, .int .i64 a0_6, .int .i64 a0_7, .int .i64 a0_8, .slice A0_9 l0_9.length c0_9] 57 (N := 2) rfl rfl ?_; intro gb375 hg w38 hbox hb; have BK375 := Aside0.mk hbox; have GW375 := gZ HB hg; have GE375 := gZ HB hg; replace HB := bS HB hb; clear hb hbox hg) | ((with_reducible refine gate_dst (N := 3) rfl ?_); refine boxE #[.int .i64 a1_0, .int .i64 a1_1, .int .i64 a1_2, .int .i64 a1_3, .int .i64 a1_4, .bool a1_5, .int .i64 a1_6, .int .i64 a1_7, .int .i64 a1_8, .slice A1_9 l1_9.length c1_9] 57 (N := 3) rfl rfl ?_; intro gb376 hg w39 hbox hb; have BK376 := Aside0.mk hbox; have GW376 := gZ HB hg; have GE376 := gZ HB hg; replace HB := bS HB hb; have NB375_376 := nL BK375 hg; have NB376_375 := nG BK375 hg; replace BK375 := bK BK375 hb; clear hb hbox hg; have hnb40 := NB375_376.out; have hnc40 := NB376_375.out; have hz41 := cl10 BK375; have hz42 := cl10 BK376))
   go_ret
   exact ⟨by first | rfl | (simp [errW_none, errW_some] <;> rfl) | (simp [*, errW_none, errW_some] <;> rfl), bel HB⟩
  rw [if_neg c4] at H
  have c4b0 : (a0_1 == a1_1) = false := beq_eq_false_iff_ne.mpr c4
  have c4b1 : (a0_1 != a1_1) = true := bne_iff_ne.mpr c4
  obtain rfl := Option.some.inj H
  go_enter Try.func114, Try.ntmps114
  go_wp2_with (first | ((with_reducible refine gate_dst (N := 2) rfl ?_); refine boxE #[.int .i64 a0_0, .int .i64 a0_1, .int .i64 a0_2, .int .i64 a0_3, .int .i64 a0_4, .bool a0_5, .int .i64 a0_6, .int .i64 a0_7, .int .i64 a0_8, .slice A0_9 l0_9.length c0_9] 57 (N := 2) rfl rfl ?_; intro gb375 hg w43 hbox hb; have BK375 := Aside0.mk hbox; have GW375 := gZ HB hg; have GE375 := gZ HB hg; replace HB := bS HB hb; clear hb hbox hg) | ((with_reducible refine gate_dst (N := 3) rfl ?_); refine boxE #[.int .i64 a1_0, .int .i64 a1_1, .int .i64 a1_2, .int .i64 a1_3, .int .i64 a1_4, .bool a1_5, .int .i64 a1_6, .int .i64 a1_7, .int .i64 a1_8, .slice A1_9 l1_9.length c1_9] 57 (N := 3) rfl rfl ?_; intro gb376 hg w44 hbox hb; have BK376 := Aside0.mk hbox; have GW376 := gZ HB hg; have GE376 := gZ HB hg; replace HB := bS HB hb; have NB375_376 := nL BK375 hg; have NB376_375 := nG BK375 hg; replace BK375 := bK BK375 hb; clear hb hbox hg; have hnb45 := NB375_376.out; have hnc45 := NB376_375.out; have hz46 := cl10 BK375; have hz47 := cl10 BK376))
  go_ret
  exact ⟨by first | rfl | (simp [errW_none, errW_some] <;> rfl) | (simp [*, errW_none, errW_some] <;> rfl), bel HB⟩
 rw [if_neg c3] at H
 have c3b0 : (a0_0 == a1_0) = false := beq_eq_false_iff_ne.mpr c3
 have c3b1 : (a0_0 != a1_0) = true := bne_iff_ne.mpr c3
 obtain rfl := Option.some.inj H
 go_enter Try.func114, Try.ntmps114
 go_wp2_with (first | ((with_reducible refine gate_dst (N := 2) rfl ?_); refine boxE #[.int .i64 a0_0, .int .i64 a0_1, .int .i64 a0_2, .int .i64 a0_3, .int .i64 a0_4, .bool a0_5, .int .i64 a0_6, .int .i64 a0_7, .int .i64 a0_8, .slice A0_9 l0_9.length c0_9] 57 (N := 2) rfl rfl ?_; intro gb375 hg w48 hbox hb; have BK375 := Aside0.mk hbox; have GW375 := gZ HB hg; have GE375 := gZ HB hg; replace HB := bS HB hb; clear hb hbox hg) | ((with_reducible refine gate_dst (N := 3) rfl ?_); refine boxE #[.int .i64 a1_0, .int .i64 a1_1, .int .i64 a1_2, .int .i64 a1_3, .int .i64 a1_4, .bool a1_5, .int .i64 a1_6, .int .i64 a1_7, .int .i64 a1_8, .slice A1_9 l1_9.length c1_9] 57 (N := 3) rfl rfl ?_; intro gb376 hg w49 hbox hb; have BK376 := Aside0.mk hbox; have GW376 := gZ HB hg; have GE376 := gZ HB hg; replace HB := bS HB hb; have NB375_376 := nL BK375 hg; have NB376_375 := nG BK375 hg; replace BK375 := bK BK375 hb; clear hb hbox hg; have hnb50 := NB375_376.out; have hnc50 := NB376_375.out; have hz51 := cl10 BK375; have hz52 := cl10 BK376))
 go_ret
 exact ⟨by first | rfl | (simp [errW_none, errW_some] <;> rfl) | (simp [*, errW_none, errW_some] <;> rfl), bel HB⟩

/-! ### laws_eqMailS: function 64 -/
def laws_eqMailS.l0 : Nat → List (S57) → List (S57) → Int → Option (Bool)
 | 0, _, _, _ => none
 | k + 1, x0, x1, x5 => if x5 < (x0.length : Int) then (if 0 ≤ x5 then (if x5 < (x1.length : Int) then ((laws_eqMail.f k ((rd_T57 x0 x5).f0) ((rd_T57 x0 x5).f1) ((rd_T57 x0 x5).f2) ((rd_T57 x0 x5).f3) ((rd_T57 x0 x5).f4) ((rd_T57 x0 x5).f5) ((rd_T57 x0 x5).f6.f0) ((rd_T57 x0 x5).f6.f1.f0) ((rd_T57 x0 x5).f6.f1.f1) ((rd_T57 x0 x5).f6.f1.f2) ((rd_T57 x1 x5).f0) ((rd_T57 x1 x5).f1) ((rd_T57 x1 x5).f2) ((rd_T57 x1 x5).f3) ((rd_T57 x1 x5).f4) ((rd_T57 x1 x5).f5) ((rd_T57 x1 x5).f6.f0) ((rd_T57 x1 x5).f6.f1.f0) ((rd_T57 x1 x5).f6.f1.f1) ((rd_T57 x1 x5).f6.f1.f2)).bind fun t380 => (if t380 = true then (laws_eqMailS.l0 k x0 x1 (wrap64 (x5 + 1))) else (some false))) else (none)) else (none)) else (some true)
def laws_eqMailS.f (k : Nat) (l0 : List (S57)) (l1 : List (S57)) : Option (Bool) := if (l0.length : Int) = (l1.length : Int) then (laws_eqMailS.l0 k l0 l1 0) else (some false)
theorem laws_eqMailS.mono_l : ∀ k, (∀ y0 y1 y2, LeO (laws_eqMailS.l0 k y0 y1 y2) (laws_eqMailS.l0 (k + 1) y0 y1 y2))
 | 0 => fun _ _ _ r h => by simp [laws_eqMailS.l0] at h
 | k + 1 => by
  have ih0 := laws_eqMailS.mono_l k
  intro y0 y1 y2
  unfold laws_eqMailS.l0
  repeat' first
  | (with_reducible exact ih0 _ _ _)
  | (with_reducible exact laws_eqMail.mono _ _ _ _ _ _ _ _ _ _ _ _ _ _ _ _ _ _ _ _ _)
  | (with_reducible exact LeO.refl _)
  | (with_reducible exact LeO.none _)
  | (with_reducible refine LeO.ite ?_ ?_)
  | (with_reducible refine LeO.bind ?_ (fun _ => ?_))
  | exact ih0 _ _ _
  | exact laws_eqMail.mono _ _ _ _ _ _ _ _ _ _ _ _ _ _ _ _ _ _ _ _ _
  | exact LeO.none _
  | refine LeO.ite ?_ ?_
  | refine LeO.bind ?_ (fun _ => ?_)
theorem laws_eqMailS.mono : ∀ a0 a1 k, LeO (laws_eqMailS.f k a0 a1) (laws_eqMailS.f (k + 1) a0 a1) := by
 intro a0 a1 k
 have ih0 := laws_eqMailS.mono_l k
 unfold laws_eqMailS.f
 repeat' first
   | (with_reducible exact ih0 _ _ _)
   | (with_reducible exact laws_eqMail.mono _ _ _ _ _ _ _ _ _ _ _ _ _ _ _ _ _ _ _ _ _)
   | (with_reducible exact LeO.refl _)
   | (with_reducible exact LeO.none _)
   | (with_reducible refine LeO.ite ?_ ?_)
   | (with_reducible refine LeO.bind ?_ (fun _ => ?_))
   | exact ih0 _ _ _
   | exact laws_eqMail.mono _ _ _ _ _ _ _ _ _ _ _ _ _ _ _ _ _ _ _ _ _
   | exact LeO.none _
   | refine LeO.ite ?_ ?_
   | refine LeO.bind ?_ (fun _ => ?_)
def laws_eqMailS.T6 : Bool × List (List Nat × List Nat) := (true, [([], []), ([], []), ([0, 1], [0, 1]), ([2], [2]), ([], []), ([], []), ([4, 5], [4, 5]), ([6], [6]), ([3, 7], [3, 7]), ([8], [8])])
def laws_eqMailS.B6 : List Nat := [0, 0, 3, 7, 0, 0, 48, 112, 255, 511]
theorem laws_eqMailS.tab6 : rtab .any (opsOf Try.f64 6) = laws_eqMailS.T6 := by kernel_rfl
theorem laws_eqMailS.bits6 : waitsOk laws_eqMailS.T6.2 laws_eqMailS.B6 = true := by kernel_rfl
set_option maxHeartbeats 8000000 in
set_option maxRecDepth 100000 in
theorem laws_eqMailS.calls (k : Nat) (A0 : Option Addr) (c0 : Nat) (l0 : List (S57)) (A1 : Option Addr) (c1 : Nat) (l1 : List (S57)) (r : Bool) (w : World) (hr0 : Kd.C k57 w A0 l0.length l0) (hc0 : l0.length ≤ c0) (hr1 : Kd.C k57 w A1 l1.length l1) (hc1 : l1.length ≤ c1) (h : laws_eqMailS.f k l0 l1 = some r) :
  Calls Try.prog 64 #[.slice A0 l0.length c0, .slice A1 l1.length c1] w fun e w' => e = .returned (.bool r) ∧ Below w.heap.size w w' := by
 have hu57 := Try.underlying57
 have hu55 := Try.underlying55
 have hu38 := Try.underlying38
 have HR0 := Aside0.mk hr0
 have HC0 := Aside0.mk hc0
 clear hr0 hc0
 have HR1 := Aside0.mk hr1
 have HC1 := Aside0.mk hc1
 clear hr1 hc1
 have HB := am (Below.refl w.heap.size w)
 have H : (if (l0.length : Int) = (l1.length : Int) then (laws_eqMailS.l0 k l0 l1 0) else (some false)) = some r := h
 clear h
 by_cases c3 : (l0.length : Int) = (l1.length : Int)
 ·
  rw [if_pos c3] at H
  have c3b0 : ((l0.length : Int) == (l1.length : Int)) = true := beq_iff_eq.mpr c3
  have c3b1 : ((l0.length : Int) != (l1.length : Int)) = false := bne_eq_false_iff_eq.mpr c3
  have c3b2 : (l0.length == l1.length) = true := by first | simpa using c3 | (simp at c3 ⊢; omega)
  clear c3
  have H' := Aside0.mk H
  clear H
  go_enter Try.func64, Try.ntmps64
  go_wp2
  go_loopg [5] k (fun kq v5 w' => ∃ (x5_1 : Int), v5 = .int .i64 x5_1 ∧ Aside0 (laws_eqMailS.l0 kq l0 l1 x5_1 = some r) ∧ Aside0 (kq ≤ k) ∧ Aside0 (Below w.heap.size w w'))
  case atStart => exact ⟨(0), (by first | rfl | (simp; done) | (simp [*]; done)), H', ⟨Nat.le_refl _⟩, ⟨bel HB⟩⟩
  case round =>
   clear H'
   try clear c1
   try clear p2
   try clear c3
   try clear c3b0
   try clear c3b1
   try clear c3b2
   obtain ⟨x5_1, rfl, HA, HK1, HB⟩ := hrel
   cases gk with
   | zero => exact absurd HA.out (by simp [laws_eqMailS.l0])
   | succ k1 =>
    have H := HA.out
    clear HA
    simp only [laws_eqMailS.l0] at H
    by_cases c4 : x5_1 < (l0.length : Int)
    ·
     rw [if_pos c4] at H
     have c4b0 : decide (x5_1 < (l0.length : Int)) = true := decide_eq_true c4
     clear c4
     by_cases c5 : 0 ≤ x5_1
     ·
      rw [if_pos c5] at H
      have c5b0 : decide (0 ≤ x5_1) = true := decide_eq_true c5
      clear c5
      by_cases c6 : x5_1 < (l1.length : Int)
      ·
       rw [if_pos c6] at H
       have c6b0 : decide (x5_1 < (l1.length : Int)) = true := decide_eq_true c6
       clear c6
       replace H := Option.bind_eq_some_iff.mp H
       obtain ⟨t380, A70, H⟩ := H
       replace H : (if t380 = true then (laws_eqMailS.l0 k1 l0 l1 (wrap64 (x5_1 + 1))) else (some false)) = some r := H
       have A7 := Aside0.mk A70
       clear A70
       by_cases c8 : t380 = true
       ·
        subst c8
        have H1 : (laws_eqMailS.l0 k1 l0 l1 (wrap64 (x5_1 + 1))) = some r := by rw [if_pos rfl] at H; first | done | exact H
        clear H
        have H := H1
        clear H1
        have H' := Aside0.mk H
        clear H
        try go_wp2
        replace HB := am (below_drew1 HB.out)
        have p378 : 0 ≤ (x5_1 : Int) := of_decide_eq_true (by first | (with_reducible assumption) | assumption)
        have q378 : x5_1 < (l0.length : Int) := of_decide_eq_true (by first | (with_reducible assumption) | assumption)
        obtain ⟨ad378, A378_9, c378_9, e378, hx378_0, hx378_1, hx378_2, hx378_3, hx378_4, hx378_5, hx378_6, hx378_7, hx378_8, hx378_9, hl378_9, hi378_9⟩ := at_T57 HR0.out x5_1 p378 q378
        have hw378_9 := hx378_9
        have hw378_8 := hx378_8
        have hw378_7 := hx378_7
        have hw378_6 := hx378_6
        have hw378_5 := hx378_5
        have hw378_4 := hx378_4
        have hw378_3 := hx378_3
        have hw378_2 := hx378_2
        have hw378_1 := hx378_1
        have hw378_0 := hx378_0
        cases e378
        replace hx378_0 := (HB.out.cell (World.block_lt_of_cell? w _ hx378_0)).trans hx378_0
        replace hx378_1 := (HB.out.cell (World.block_lt_of_cell? w _ hx378_1)).trans hx378_1
        replace hx378_2 := (HB.out.cell (World.block_lt_of_cell? w _ hx378_2)).trans hx378_2
        replace hx378_3 := (HB.out.cell (World.block_lt_of_cell? w _ hx378_3)).trans hx378_3
        replace hx378_4 := (HB.out.cell (World.block_lt_of_cell? w _ hx378_4)).trans hx378_4
        replace hx378_5 := (HB.out.cell (World.block_lt_of_cell? w _ hx378_5)).trans hx378_5
        replace hx378_6 := (HB.out.cell (World.block_lt_of_cell? w _ hx378_6)).trans hx378_6
        replace hx378_7 := (HB.out.cell (World.block_lt_of_cell? w _ hx378_7)).trans hx378_7
        replace hx378_8 := (HB.out.cell (World.block_lt_of_cell? w _ hx378_8)).trans hx378_8
        replace hx378_9 := (HB.out.cell (World.block_lt_of_cell? w _ hx378_9)).trans hx378_9
        have HR378_9 := Aside0.mk hi378_9
        have HC378_9 := Aside0.mk hl378_9
        clear hi378_9 hl378_9
        replace p378 := eq_true p378
        replace q378 := eq_true q378
        have p379 : 0 ≤ (x5_1 : Int) := of_decide_eq_true (by first | (with_reducible assumption) | assumption)
        have q379 : x5_1 < (l1.length : Int) := of_decide_eq_true (by first | (with_reducible assumption) | assumption)
        obtain ⟨ad379, A379_9, c379_9, e379, hx379_0, hx379_1, hx379_2, hx379_3, hx379_4, hx379_5, hx379_6, hx379_7, hx379_8, hx379_9, hl379_9, hi379_9⟩ := at_T57 HR1.out x5_1 p379 q379
        have hw379_9 := hx379_9
        have hw379_8 := hx379_8
        have hw379_7 := hx379_7
        have hw379_6 := hx379_6
        have hw379_5 := hx379_5
        have hw379_4 := hx379_4
        have hw379_3 := hx379_3
        have hw379_2 := hx379_2
        have hw379_1 := hx379_1
        have hw379_0 := hx379_0
        cases e379
        replace hx379_0 := (HB.out.cell (World.block_lt_of_cell? w _ hx379_0)).trans hx379_0
        replace hx379_1 := (HB.out.cell (World.block_lt_of_cell? w _ hx379_1)).trans hx379_1
        replace hx379_2 := (HB.out.cell (World.block_lt_of_cell? w _ hx379_2)).trans hx379_2
        replace hx379_3 := (HB.out.cell (World.block_lt_of_cell? w _ hx379_3)).trans hx379_3
        replace hx379_4 := (HB.out.cell (World.block_lt_of_cell? w _ hx379_4)).trans hx379_4
        replace hx379_5 := (HB.out.cell (World.block_lt_of_cell? w _ hx379_5)).trans hx379_5
        replace hx379_6 := (HB.out.cell (World.block_lt_of_cell? w _ hx379_6)).trans hx379_6
        replace hx379_7 := (HB.out.cell (World.block_lt_of_cell? w _ hx379_7)).trans hx379_7
        replace hx379_8 := (HB.out.cell (World.block_lt_of_cell? w _ hx379_8)).trans hx379_8
        replace hx379_9 := (HB.out.cell (World.block_lt_of_cell? w _ hx379_9)).trans hx379_9
        have HR379_9 := Aside0.mk hi379_9
        have HC379_9 := Aside0.mk hl379_9
        clear hi379_9 hl379_9
        replace p379 := eq_true p379
        replace q379 := eq_true q379
        refine start_ (n := 10) (S := fun w' => w'.cell? (ad378.add ((x5_1).toNat * 10)) = some (.int .i64 ((rd_T57 l0 x5_1).f0)) ∧ w'.cell? ⟨(ad378.add ((x5_1).toNat * 10)).block, (ad378.add ((x5_1).toNat * 10)).off + 1, none⟩ = some (.int .i64 ((rd_T57 l0 x5_1).f1)) ∧ w'.cell? ⟨(ad378.add ((x5_1).toNat * 10)).block, (ad378.add ((x5_1).toNat * 10)).off + 2, none⟩ = some (.int .i64 ((rd_T57 l0 x5_1).f2)) ∧ w'.cell? ⟨(ad378.add ((x5_1).toNat * 10)).block, (ad378.add ((x5_1).toNat * 10)).off + 3, none⟩ = some (.int .i64 ((rd_T57 l0 x5_1).f3)) ∧ w'.cell? ⟨(ad378.add ((x5_1).toNat * 10)).block, (ad378.add ((x5_1).toNat * 10)).off + 4, none⟩ = some (.int .i64 ((rd_T57 l0 x5_1).f4)) ∧ w'.cell? ⟨(ad378.add ((x5_1).toNat * 10)).block, (ad378.add ((x5_1).toNat * 10)).off + 5, none⟩ = some (.bool ((rd_T57 l0 x5_1).f5)) ∧ w'.cell? ⟨(ad378.add ((x5_1).toNat * 10)).block, (ad378.add ((x5_1).toNat * 10)).off + 6, none⟩ = some (.int .i64 ((rd_T57 l0 x5_1).f6.f0)) ∧ w'.cell? ⟨(ad378.add ((x5_1).toNat * 10)).block, (ad378.add ((x5_1).toNat * 10)).off + 7, none⟩ = some (.int .i64 ((rd_T57 l0 x5_1).f6.f1.f0)) ∧ w'.cell? ⟨(ad378.add ((x5_1).toNat * 10)).block, (ad378.add ((x5_1).toNat * 10)).off + 8, none⟩ = some (.int .i64 ((rd_T57 l0 x5_1).f6.f1.f1)) ∧ w'.cell? ⟨(ad378.add ((x5_1).toNat * 10)).block, (ad378.add ((x5_1).toNat * 10)).off + 9, none⟩ = some (.slice A378_9 ((rd_T57 l0 x5_1).f6.f1.f2).length c378_9) ∧ w'.cell? (ad379.add ((x5_1).toNat * 10)) = some (.int .i64 ((rd_T57 l1 x5_1).f0)) ∧ w'.cell? ⟨(ad379.add ((x5_1).toNat * 10)).block, (ad379.add ((x5_1).toNat * 10)).off + 1, none⟩ = some (.int .i64 ((rd_T57 l1 x5_1).f1)) ∧ w'.cell? ⟨(ad379.add ((x5_1).toNat * 10)).block, (ad379.add ((x5_1).toNat * 10)).off + 2, none⟩ = some (.int .i64 ((rd_T57 l1 x5_1).f2)) ∧ w'.cell? ⟨(ad379.add ((x5_1).toNat * 10)).block, (ad379.add ((x5_1).toNat * 10)).off + 3, none⟩ = some (.int .i64 ((rd_T57 l1 x5_1).f3)) ∧ w'.cell? ⟨(ad379.add ((x5_1).toNat * 10)).block, (ad379.add ((x5_1).toNat * 10)).off + 4, none⟩ = some (.int .i64 ((rd_T57 l1 x5_1).f4)) ∧ w'.cell? ⟨(ad379.add ((x5_1).toNat * 10)).block, (ad379.add ((x5_1).toNat * 10)).off + 5, none⟩ = some (.bool ((rd_T57 l1 x5_1).f5)) ∧ w'.cell? ⟨(ad379.add ((x5_1).toNat * 10)).block, (ad379.add ((x5_1).toNat * 10)).off + 6, none⟩ = some (.int .i64 ((rd_T57 l1 x5_1).f6.f0)) ∧ w'.cell? ⟨(ad379.add ((x5_1).toNat * 10)).block, (ad379.add ((x5_1).toNat * 10)).off + 7, none⟩ = some (.int .i64 ((rd_T57 l1 x5_1).f6.f1.f0)) ∧ w'.cell? ⟨(ad379.add ((x5_1).toNat * 10)).block, (ad379.add ((x5_1).toNat * 10)).off + 8, none⟩ = some (.int .i64 ((rd_T57 l1 x5_1).f6.f1.f1)) ∧ w'.cell? ⟨(ad379.add ((x5_1).toNat * 10)).block, (ad379.add ((x5_1).toNat * 10)).off + 9, none⟩ = some (.slice A379_9 ((rd_T57 l1 x5_1).f6.f1.f2).length c379_9)) (ds := []) #[false, false, false, false, false, false, false, false, false, false] (by kernel_rfl) rfl rfl ⟨((HB.out.cell (World.block_lt_of_cell? w _ hw378_0)).trans hw378_0), ((HB.out.cell (World.block_lt_of_cell? w _ hw378_1)).trans hw378_1), ((HB.out.cell (World.block_lt_of_cell? w _ hw378_2)).trans hw378_2), ((HB.out.cell (World.block_lt_of_cell? w _ hw378_3)).trans hw378_3), ((HB.out.cell (World.block_lt_of_cell? w _ hw378_4)).trans hw378_4), ((HB.out.cell (World.block_lt_of_cell? w _ hw378_5)).trans hw378_5), ((HB.out.cell (World.block_lt_of_cell? w _ hw378_6)).trans hw378_6), ((HB.out.cell (World.block_lt_of_cell? w _ hw378_7)).trans hw378_7), ((HB.out.cell (World.block_lt_of_cell? w _ hw378_8)).trans hw378_8), ((HB.out.cell (World.block_lt_of_cell? w _ hw378_9)).trans hw378_9), ((HB.out.cell (World.block_lt_of_cell? w _ hw379_0)).trans hw379_0), ((HB.out.cell (World.block_lt_of_cell? w _ hw379_1)).trans hw379_1), ((HB.out.cell (World.block_lt_of_cell? w _ hw379_2)).trans hw379_2), ((HB.out.cell (World.block_lt_of_cell? w _ hw379_3)).trans hw379_3), ((HB.out.cell (World.block_lt_of_cell? w _ hw379_4)).trans hw379_4), ((HB.out.cell (World.block_lt_of_cell? w _ hw379_5)).trans hw379_5), ((HB.out.cell (World.block_lt_of_cell? w _ hw379_6)).trans hw379_6), ((HB.out.cell (World.block_lt_of_cell? w _ hw379_7)).trans hw379_7), ((HB.out.cell (World.block_lt_of_cell? w _ hw379_8)).trans hw379_8), ((HB.out.cell (World.block_lt_of_cell? w _ hw379_9)).trans hw379_9)⟩ (fun hHeld => ?_); refine with_tabW laws_eqMailS.tab6 laws_eqMailS.bits6 (fun HT_ HW_ => ?_)
        generalize wr.drew = w9 at HB HR378_9 HR379_9 hx378_0 hx378_1 hx378_2 hx378_3 hx378_4 hx378_5 hx378_6 hx378_7 hx378_8 hx378_9 hx379_0 hx379_1 hx379_2 hx379_3 hx379_4 hx379_5 hx379_6 hx379_7 hx379_8 hx379_9 hHeld ⊢
        refine pA 0 17 [1, 9] ?_
        refine pA 1 18 [2, 8] ?_
        refine pA 2 19 [3, 7] ?_
        refine pA 4 21 [3, 1, 1, 5] ?_
        refine pA 5 22 [3, 1, 2, 4] ?_
        refine pA 6 23 [3, 1, 3, 3] ?_
        refine tA 3 20 [7, 3] (hv := by rintro w' ⟨s0, s1, s2, s3, s4, s5, s6, s7, s8, s9, s10, s11, s12, s13, s14, s15, s16, s17, s18, s19⟩; go_simp; with_reducible rfl) (h := ?_)
        refine tA 7 24 [8, 2] (hv := by rintro w' ⟨s0, s1, s2, s3, s4, s5, s6, s7, s8, s9, s10, s11, s12, s13, s14, s15, s16, s17, s18, s19⟩; go_simp; with_reducible rfl) (h := ?_)
        refine one_ (i := 8) (N := some 25) #[true, true, true, true, true, true, true, true, true, false] rfl rfl (one_of HT_.out (by kernel_rfl)) (by decide) (fun K hK => ?_)
        refine goes_ Try.func114 (by kernel_rfl) rfl #[.agg #[.int .i64 ((rd_T57 l0 x5_1).f0), .int .i64 ((rd_T57 l0 x5_1).f1), .int .i64 ((rd_T57 l0 x5_1).f2), .int .i64 ((rd_T57 l0 x5_1).f3), .int .i64 ((rd_T57 l0 x5_1).f4), .bool ((rd_T57 l0 x5_1).f5), .int .i64 ((rd_T57 l0 x5_1).f6.f0), .int .i64 ((rd_T57 l0 x5_1).f6.f1.f0), .int .i64 ((rd_T57 l0 x5_1).f6.f1.f1), .slice A378_9 ((rd_T57 l0 x5_1).f6.f1.f2).length c378_9], .agg #[.int .i64 ((rd_T57 l1 x5_1).f0), .int .i64 ((rd_T57 l1 x5_1).f1), .int .i64 ((rd_T57 l1 x5_1).f2), .int .i64 ((rd_T57 l1 x5_1).f3), .int .i64 ((rd_T57 l1 x5_1).f4), .bool ((rd_T57 l1 x5_1).f5), .int .i64 ((rd_T57 l1 x5_1).f6.f0), .int .i64 ((rd_T57 l1 x5_1).f6.f1.f0), .int .i64 ((rd_T57 l1 x5_1).f6.f1.f1), .slice A379_9 ((rd_T57 l1 x5_1).f6.f1.f2).length c379_9]] (by rfl) rfl rfl (by (try simp only [List.map_toArray, List.map_cons, List.map_nil]); first | done | rfl | (simp only [List.length_drop, List.length_take]; rfl)) ?_
        with_reducible refine (laws_eqMail.calls k1 ((rd_T57 l0 x5_1).f0) ((rd_T57 l0 x5_1).f1) ((rd_T57 l0 x5_1).f2) ((rd_T57 l0 x5_1).f3) ((rd_T57 l0 x5_1).f4) ((rd_T57 l0 x5_1).f5) ((rd_T57 l0 x5_1).f6.f0) ((rd_T57 l0 x5_1).f6.f1.f0) ((rd_T57 l0 x5_1).f6.f1.f1) _ _ ((rd_T57 l0 x5_1).f6.f1.f2) ((rd_T57 l1 x5_1).f0) ((rd_T57 l1 x5_1).f1) ((rd_T57 l1 x5_1).f2) ((rd_T57 l1 x5_1).f3) ((rd_T57 l1 x5_1).f4) ((rd_T57 l1 x5_1).f5) ((rd_T57 l1 x5_1).f6.f0) ((rd_T57 l1 x5_1).f6.f1.f0) ((rd_T57 l1 x5_1).f6.f1.f1) _ _ ((rd_T57 l1 x5_1).f6.f1.f2) true _ ?side1 ?side2 ?side3 ?side4 A7.out).mono ?_
        (case side1 => exact mC HR378_9 HB)
        (case side2 => exact HC378_9.out)
        (case side3 => exact mC HR379_9 HB)
        (case side4 => exact HC379_9.out)
        rintro e w10 ⟨rfl, hb⟩
        refine ⟨_, rfl, ?_⟩
        replace HB := bS HB hb
        (try clear hb)
        (try clear hb2)
        (try clear hk)
        (try clear hi)
        refine hK.out _ _ ⟨((HB.out.cell (World.block_lt_of_cell? w _ hw378_0)).trans hw378_0), ((HB.out.cell (World.block_lt_of_cell? w _ hw378_1)).trans hw378_1), ((HB.out.cell (World.block_lt_of_cell? w _ hw378_2)).trans hw378_2), ((HB.out.cell (World.block_lt_of_cell? w _ hw378_3)).trans hw378_3), ((HB.out.cell (World.block_lt_of_cell? w _ hw378_4)).trans hw378_4), ((HB.out.cell (World.block_lt_of_cell? w _ hw378_5)).trans hw378_5), ((HB.out.cell (World.block_lt_of_cell? w _ hw378_6)).trans hw378_6), ((HB.out.cell (World.block_lt_of_cell? w _ hw378_7)).trans hw378_7), ((HB.out.cell (World.block_lt_of_cell? w _ hw378_8)).trans hw378_8), ((HB.out.cell (World.block_lt_of_cell? w _ hw378_9)).trans hw378_9), ((HB.out.cell (World.block_lt_of_cell? w _ hw379_0)).trans hw379_0), ((HB.out.cell (World.block_lt_of_cell? w _ hw379_1)).trans hw379_1), ((HB.out.cell (World.block_lt_of_cell? w _ hw379_2)).trans hw379_2), ((HB.out.cell (World.block_lt_of_cell? w _ hw379_3)).trans hw379_3), ((HB.out.cell (World.block_lt_of_cell? w _ hw379_4)).trans hw379_4), ((HB.out.cell (World.block_lt_of_cell? w _ hw379_5)).trans hw379_5), ((HB.out.cell (World.block_lt_of_cell? w _ hw379_6)).trans hw379_6), ((HB.out.cell (World.block_lt_of_cell? w _ hw379_7)).trans hw379_7), ((HB.out.cell (World.block_lt_of_cell? w _ hw379_8)).trans hw379_8), ((HB.out.cell (World.block_lt_of_cell? w _ hw379_9)).trans hw379_9)⟩ (fun hHeld => ?_)
        clear hK K
        refine norm_ (a' := ?_) ?_ ?_
        rotate_left
        ·
         show Act.put _ (some 25) _ = _
         simp only [Act.put, List.setIfInBounds_toArray, List.set_cons_zero, List.set_cons_succ, i64_w, i32_w]
         rfl
        refine pA 9 26 [10] ?_
        refine done_ (done_of HT_.out (by kernel_rfl)) ?_
        try go_wp2
        go_roundg k1
        case measure => have := HK1.out; omega
        case rel => exact ⟨(wrap64 (x5_1 + 1)), (by first | rfl | (simp; done) | (simp [*]; done)), H', ⟨by have := HK1.out; omega⟩, ⟨bel HB⟩⟩
       replace c8 := Bool.eq_false_iff.mpr c8
       subst c8
       have H1 : (some false) = some r := by rw [if_neg (show ¬ (false = true) by decide)] at H; first | done | exact H
       clear H
       have H := H1
       clear H1
       obtain rfl := Option.some.inj H
       try go_wp2
       replace HB := am (below_drew1 HB.out)
       have p378 : 0 ≤ (x5_1 : Int) := of_decide_eq_true (by first | (with_reducible assumption) | assumption)
       have q378 : x5_1 < (l0.length : Int) := of_decide_eq_true (by first | (with_reducible assumption) | assumption)
       obtain ⟨ad378, A378_9, c378_9, e378, hx378_0, hx378_1, hx378_2, hx378_3, hx378_4, hx378_5, hx378_6, hx378_7, hx378_8, hx378_9, hl378_9, hi378_9⟩ := at_T57 HR0.out x5_1 p378 q378
       have hw378_9 := hx378_9
       have hw378_8 := hx378_8
       have hw378_7 := hx378_7
       have hw378_6 := hx378_6
       have hw378_5 := hx378_5
       have hw378_4 := hx378_4
       have hw378_3 := hx378_3
       have hw378_2 := hx378_2
       have hw378_1 := hx378_1
       have hw378_0 := hx378_0
       cases e378
       replace hx378_0 := (HB.out.cell (World.block_lt_of_cell? w _ hx378_0)).trans hx378_0
       replace hx378_1 := (HB.out.cell (World.block_lt_of_cell? w _ hx378_1)).trans hx378_1
       replace hx378_2 := (HB.out.cell (World.block_lt_of_cell? w _ hx378_2)).trans hx378_2
       replace hx378_3 := (HB.out.cell (World.block_lt_of_cell? w _ hx378_3)).trans hx378_3
       replace hx378_4 := (HB.out.cell (World.block_lt_of_cell? w _ hx378_4)).trans hx378_4
       replace hx378_5 := (HB.out.cell (World.block_lt_of_cell? w _ hx378_5)).trans hx378_5
       replace hx378_6 := (HB.out.cell (World.block_lt_of_cell? w _ hx378_6)).trans hx378_6
       replace hx378_7 := (HB.out.cell (World.block_lt_of_cell? w _ hx378_7)).trans hx378_7
       replace hx378_8 := (HB.out.cell (World.block_lt_of_cell? w _ hx378_8)).trans hx378_8
       replace hx378_9 := (HB.out.cell (World.block_lt_of_cell? w _ hx378_9)).trans hx378_9
       have HR378_9 := Aside0.mk hi378_9
       have HC378_9 := Aside0.mk hl378_9
       clear hi378_9 hl378_9
       replace p378 := eq_true p378
       replace q378 := eq_true q378
       have p379 : 0 ≤ (x5_1 : Int) := of_decide_eq_true (by first | (with_reducible assumption) | assumption)
       have q379 : x5_1 < (l1.length : Int) := of_decide_eq_true (by first | (with_reducible assumption) | assumption)
       obtain ⟨ad379, A379_9, c379_9, e379, hx379_0, hx379_1, hx379_2, hx379_3, hx379_4, hx379_5, hx379_6, hx379_7, hx379_8, hx379_9, hl379_9, hi379_9⟩ := at_T57 HR1.out x5_1 p379 q379
       have hw379_9 := hx379_9
       have hw379_8 := hx379_8
       have hw379_7 := hx379_7
       have hw379_6 := hx379_6
       have hw379_5 := hx379_5
       have hw379_4 := hx379_4
       have hw379_3 := hx379_3
       have hw379_2 := hx379_2
       have hw379_1 := hx379_1
       have hw379_0 := hx379_0
       cases e379
       replace hx379_0 := (HB.out.cell (World.block_lt_of_cell? w _ hx379_0)).trans hx379_0
       replace hx379_1 := (HB.out.cell (World.block_lt_of_cell? w _ hx379_1)).trans hx379_1
       replace hx379_2 := (HB.out.cell (World.block_lt_of_cell? w _ hx379_2)).trans hx379_2
       replace hx379_3 := (HB.out.cell (World.block_lt_of_cell? w _ hx379_3)).trans hx379_3
       replace hx379_4 := (HB.out.cell (World.block_lt_of_cell? w _ hx379_4)).trans hx379_4
       replace hx379_5 := (HB.out.cell (World.block_lt_of_cell? w _ hx379_5)).trans hx379_5
       replace hx379_6 := (HB.out.cell (World.block_lt_of_cell? w _ hx379_6)).trans hx379_6
       replace hx379_7 := (HB.out.cell (World.block_lt_of_cell? w _ hx379_7)).trans hx379_7
       replace hx379_8 := (HB.out.cell (World.block_lt_of_cell? w _ hx379_8)).trans hx379_8
       replace hx379_9 := (HB.out.cell (World.block_lt_of_cell? w _ hx379_9)).trans hx379_9
       have HR379_9 := Aside0.mk hi379_9
       have HC379_9 := Aside0.mk hl379_9
       clear hi379_9 hl379_9
       replace p379 := eq_true p379
       replace q379 := eq_true q379
       refine start_ (n := 10) (S := fun w' => w'.cell? (ad378.add ((x5_1).toNat * 10)) = some (.int .i64 ((rd_T57 l0 x5_1).f0)) ∧ w'.cell? ⟨(ad378.add ((x5_1).toNat * 10)).block, (ad378.add ((x5_1).toNat * 10)).off + 1, none⟩ = some (.int .i64 ((rd_T57 l0 x5_1).f1)) ∧ w'.cell? ⟨(ad378.add ((x5_1).toNat * 10)).block, (ad378.add ((x5_1).toNat * 10)).off + 2, none⟩ = some (.int .i64 ((rd_T57 l0 x5_1).f2)) ∧ w'.cell? ⟨(ad378.add ((x5_1).toNat * 10)).block, (ad378.add ((x5_1).toNat * 10)).off + 3, none⟩ = some (.int .i64 ((rd_T57 l0 x5_1).f3)) ∧ w'.cell? ⟨(ad378.add ((x5_1).toNat * 10)).block, (ad378.add ((x5_1).toNat * 10)).off + 4, none⟩ = some (.int .i64 ((rd_T57 l0 x5_1).f4)) ∧ w'.cell? ⟨(ad378.add ((x5_1).toNat * 10)).block, (ad378.add ((x5_1).toNat * 10)).off + 5, none⟩ = some (.bool ((rd_T57 l0 x5_1).f5)) ∧ w'.cell? ⟨(ad378.add ((x5_1).toNat * 10)).block, (ad378.add ((x5_1).toNat * 10)).off + 6, none⟩ = some (.int .i64 ((rd_T57 l0 x5_1).f6.f0)) ∧ w'.cell? ⟨(ad378.add ((x5_1).toNat * 10)).block, (ad378.add ((x5_1).toNat * 10)).off + 7, none⟩ = some (.int .i64 ((rd_T57 l0 x5_1).f6.f1.f0)) ∧ w'.cell? ⟨(ad378.add ((x5_1).toNat * 10)).block, (ad378.add ((x5_1).toNat * 10)).off + 8, none⟩ = some (.int .i64 ((rd_T57 l0 x5_1).f6.f1.f1)) ∧ w'.cell? ⟨(ad378.add ((x5_1).toNat * 10)).block, (ad378.add ((x5_1).toNat * 10)).off + 9, none⟩ = some (.slice A378_9 ((rd_T57 l0 x5_1).f6.f1.f2).length c378_9) ∧ w'.cell? (ad379.add ((x5_1).toNat * 10)) = some (.int .i64 ((rd_T57 l1 x5_1).f0)) ∧ w'.cell? ⟨(ad379.add ((x5_1).toNat * 10)).block, (ad379.add ((x5_1).toNat * 10)).off + 1, none⟩ = some (.int .i64 ((rd_T57 l1 x5_1).f1)) ∧ w'.cell? ⟨(ad379.add ((x5_1).toNat * 10)).block, (ad379.add ((x5_1).toNat * 10)).off + 2, none⟩ = some (.int .i64 ((rd_T57 l1 x5_1).f2)) ∧ w'.cell? ⟨(ad379.add ((x5_1).toNat * 10)).block, (ad379.add ((x5_1).toNat * 10)).off + 3, none⟩ = some (.int .i64 ((rd_T57 l1 x5_1).f3)) ∧ w'.cell? ⟨(ad379.add ((x5_1).toNat * 10)).block, (ad379.add ((x5_1).toNat * 10)).off + 4, none⟩ = some (.int .i64 ((rd_T57 l1 x5_1).f4)) ∧ w'.cell? ⟨(ad379.add ((x5_1).toNat * 10)).block, (ad379.add ((x5_1).toNat * 10)).off + 5, none⟩ = some (.bool ((rd_T57 l1 x5_1).f5)) ∧ w'.cell? ⟨(ad379.add ((x5_1).toNat * 10)).block, (ad379.add ((x5_1).toNat * 10)).off + 6, none⟩ = some (.int .i64 ((rd_T57 l1 x5_1).f6.f0)) ∧ w'.cell? ⟨(ad379.add ((x5_1).toNat * 10)).block, (ad379.add ((x5_1).toNat * 10)).off + 7, none⟩ = some (.int .i64 ((rd_T57 l1 x5_1).f6.f1.f0)) ∧ w'.cell? ⟨(ad379.add ((x5_1).toNat * 10)).block, (ad379.add ((x5_1).toNat * 10)).off + 8, none⟩ = some (.int .i64 ((rd_T57 l1 x5_1).f6.f1.f1)) ∧ w'.cell? ⟨(ad379.add ((x5_1).toNat * 10)).block, (ad379.add ((x5_1).toNat * 10)).off + 9, none⟩ = some (.slice A379_9 ((rd_T57 l1 x5_1).f6.f1.f2).length c379_9)) (ds := []) #[false, false, false, false, false, false, false, false, false, false] (by kernel_rfl) rfl rfl ⟨((HB.out.cell (World.block_lt_of_cell? w _ hw378_0)).trans hw378_0), ((HB.out.cell (World.block_lt_of_cell? w _ hw378_1)).trans hw378_1), ((HB.out.cell (World.block_lt_of_cell? w _ hw378_2)).trans hw378_2), ((HB.out.cell (World.block_lt_of_cell? w _ hw378_3)).trans hw378_3), ((HB.out.cell (World.block_lt_of_cell? w _ hw378_4)).trans hw378_4), ((HB.out.cell (World.block_lt_of_cell? w _ hw378_5)).trans hw378_5), ((HB.out.cell (World.block_lt_of_cell? w _ hw378_6)).trans hw378_6), ((HB.out.cell (World.block_lt_of_cell? w _ hw378_7)).trans hw378_7), ((HB.out.cell (World.block_lt_of_cell? w _ hw378_8)).trans hw378_8), ((HB.out.cell (World.block_lt_of_cell? w _ hw378_9)).trans hw378_9), ((HB.out.cell (World.block_lt_of_cell? w _ hw379_0)).trans hw379_0), ((HB.out.cell (World.block_lt_of_cell? w _ hw379_1)).trans hw379_1), ((HB.out.cell (World.block_lt_of_cell? w _ hw379_2)).trans hw379_2), ((HB.out.cell (World.block_lt_of_cell? w _ hw379_3)).trans hw379_3), ((HB.out.cell (World.block_lt_of_cell? w _ hw379_4)).trans hw379_4), ((HB.out.cell (World.block_lt_of_cell? w _ hw379_5)).trans hw379_5), ((HB.out.cell (World.block_lt_of_cell? w _ hw379_6)).trans hw379_6), ((HB.out.cell (World.block_lt_of_cell? w _ hw379_7)).trans hw379_7), ((HB.out.cell (World.block_lt_of_cell? w _ hw379_8)).trans hw379_8), ((HB.out.cell (World.block_lt_of_cell? w _ hw379_9)).trans hw379_9)⟩ (fun hHeld => ?_); refine with_tabW laws_eqMailS.tab6 laws_eqMailS.bits6 (fun HT_ HW_ => ?_)
       generalize wr.drew = w11 at HB HR378_9 HR379_9 hx378_0 hx378_1 hx378_2 hx378_3 hx378_4 hx378_5 hx378_6 hx378_7 hx378_8 hx378_9 hx379_0 hx379_1 hx379_2 hx379_3 hx379_4 hx379_5 hx379_6 hx379_7 hx379_8 hx379_9 hHeld ⊢
       refine pA 0 17 [1, 9] ?_
       refine pA 1 18 [2, 8] ?_
       refine pA 2 19 [3, 7] ?_
       refine pA 4 21 [3, 1, 1, 5] ?_
       refine pA 5 22 [3, 1, 2, 4] ?_
       refine pA 6 23 [3, 1, 3, 3] ?_
       refine tA 3 20 [7, 3] (hv := by rintro w' ⟨s0, s1, s2, s3, s4, s5, s6, s7, s8, s9, s10, s11, s12, s13, s14, s15, s16, s17, s18, s19⟩; go_simp; with_reducible rfl) (h := ?_)
       refine tA 7 24 [8, 2] (hv := by rintro w' ⟨s0, s1, s2, s3, s4, s5, s6, s7, s8, s9, s10, s11, s12, s13, s14, s15, s16, s17, s18, s19⟩; go_simp; with_reducible rfl) (h := ?_)
       refine one_ (i := 8) (N := some 25) #[true, true, true, true, true, true, true, true, true, false] rfl rfl (one_of HT_.out (by kernel_rfl)) (by decide) (fun K hK => ?_)
       refine goes_ Try.func114 (by kernel_rfl) rfl #[.agg #[.int .i64 ((rd_T57 l0 x5_1).f0), .int .i64 ((rd_T57 l0 x5_1).f1), .int .i64 ((rd_T57 l0 x5_1).f2), .int .i64 ((rd_T57 l0 x5_1).f3), .int .i64 ((rd_T57 l0 x5_1).f4), .bool ((rd_T57 l0 x5_1).f5), .int .i64 ((rd_T57 l0 x5_1).f6.f0), .int .i64 ((rd_T57 l0 x5_1).f6.f1.f0), .int .i64 ((rd_T57 l0 x5_1).f6.f1.f1), .slice A378_9 ((rd_T57 l0 x5_1).f6.f1.f2).length c378_9], .agg #[.int .i64 ((rd_T57 l1 x5_1).f0), .int .i64 ((rd_T57 l1 x5_1).f1), .int .i64 ((rd_T57 l1 x5_1).f2), .int .i64 ((rd_T57 l1 x5_1).f3), .int .i64 ((rd_T57 l1 x5_1).f4), .bool ((rd_T57 l1 x5_1).f5), .int .i64 ((rd_T57 l1 x5_1).f6.f0), .int .i64 ((rd_T57 l1 x5_1).f6.f1.f0), .int .i64 ((rd_T57 l1 x5_1).f6.f1.f1), .slice A379_9 ((rd_T57 l1 x5_1).f6.f1.f2).length c379_9]] (by rfl) rfl rfl (by (try simp only [List.map_toArray, List.map_cons, List.map_nil]); first | done | rfl | (simp only [List.length_drop, List.length_take]; rfl)) ?_
       with_reducible refine (laws_eqMail.calls k1 ((rd_T57 l0 x5_1).f0) ((rd_T57 l0 x5_1).f1) ((rd_T57 l0 x5_1).f2) ((rd_T57 l0 x5_1).f3) ((rd_T57 l0 x5_1).f4) ((rd_T57 l0 x5_1).f5) ((rd_T57 l0 x5_1).f6.f0) ((rd_T57 l0 x5_1).f6.f1.f0) ((rd_T57 l0 x5_1).f6.f1.f1) _ _ ((rd_T57 l0 x5_1).f6.f1.f2) ((rd_T57 l1 x5_1).f0) ((rd_T57 l1 x5_1).f1) ((rd_T57 l1 x5_1).f2) ((rd_T57 l1 x5_1).f3) ((rd_T57 l1 x5_1).f4) ((rd_T57 l1 x5_1).f5) ((rd_T57 l1 x5_1).f6.f0) ((rd_T57 l1 x5_1).f6.f1.f0) ((rd_T57 l1 x5_1).f6.f1.f1) _ _ ((rd_T57 l1 x5_1).f6.f1.f2) false _ ?side1 ?side2 ?side3 ?side4 A7.out).mono ?_
       (case side1 => exact mC HR378_9 HB)
       (case side2 => exact HC378_9.out)
       (case side3 => exact mC HR379_9 HB)
       (case side4 => exact HC379_9.out)
       rintro e w12 ⟨rfl, hb⟩
       refine ⟨_, rfl, ?_⟩
       replace HB := bS HB hb
       (try clear hb)
       (try clear hb2)
       (try clear hk)
       (try clear hi)
       refine hK.out _ _ ⟨((HB.out.cell (World.block_lt_of_cell? w _ hw378_0)).trans hw378_0), ((HB.out.cell (World.block_lt_of_cell? w _ hw378_1)).trans hw378_1), ((HB.out.cell (World.block_lt_of_cell? w _ hw378_2)).trans hw378_2), ((HB.out.cell (World.block_lt_of_cell? w _ hw378_3)).trans hw378_3), ((HB.out.cell (World.block_lt_of_cell? w _ hw378_4)).trans hw378_4), ((HB.out.cell (World.block_lt_of_cell? w _ hw378_5)).trans hw378_5), ((HB.out.cell (World.block_lt_of_cell? w _ hw378_6)).trans hw378_6), ((HB.out.cell (World.block_lt_of_cell? w _ hw378_7)).trans hw378_7), ((HB.out.cell (World.block_lt_of_cell? w _ hw378_8)).trans hw378_8), ((HB.out.cell (World.block_lt_of_cell? w _ hw378_9)).trans hw378_9), ((HB.out.cell (World.block_lt_of_cell? w _ hw379_0)).trans hw379_0), ((HB.out.cell (World.block_lt_of_cell? w _ hw379_1)).trans hw379_1), ((HB.out.cell (World.block_lt_of_cell? w _ hw379_2)).trans hw379_2), ((HB.out.cell (World.block_lt_of_cell? w _ hw379_3)).trans hw379_3), ((HB.out.cell (World.block_lt_of_cell? w _ hw379_4)).trans hw379_4), ((HB.out.cell (World.block_lt_of_cell? w _ hw379_5)).trans hw379_5), ((HB.out.cell (World.block_lt_of_cell? w _ hw379_6)).trans hw379_6), ((HB.out.cell (World.block_lt_of_cell? w _ hw379_7)).trans hw379_7), ((HB.out.cell (World.block_lt_of_cell? w _ hw379_8)).trans hw379_8), ((HB.out.cell (World.block_lt_of_cell? w _ hw379_9)).trans hw379_9)⟩ (fun hHeld => ?_)
       clear hK K
       refine norm_ (a' := ?_) ?_ ?_
       rotate_left
       ·
        show Act.put _ (some 25) _ = _
        simp only [Act.put, List.setIfInBounds_toArray, List.set_cons_zero, List.set_cons_succ, i64_w, i32_w]
        rfl
       refine pA 9 26 [10] ?_
       refine done_ (done_of HT_.out (by kernel_rfl)) ?_
       try go_wp2
       go_ret
       exact ⟨by first | rfl | (simp [errW_none, errW_some] <;> rfl) | (simp [*, errW_none, errW_some] <;> rfl), bel HB⟩
      rw [if_neg c6] at H
      exact absurd H (by simp)
     rw [if_neg c5] at H
     exact absurd H (by simp)
    rw [if_neg c4] at H
    have c4b0 : decide (x5_1 < (l0.length : Int)) = false := decide_eq_false c4
    clear c4
    obtain rfl := Option.some.inj H
    go_wp2
    go_ret
    exact ⟨by first | rfl | (simp [errW_none, errW_some] <;> rfl) | (simp [*, errW_none, errW_some] <;> rfl), bel HB⟩
 rw [if_neg c3] at H
 have c3b0 : ((l0.length : Int) == (l1.length : Int)) = false := beq_eq_false_iff_ne.mpr c3
 have c3b1 : ((l0.length : Int) != (l1.length : Int)) = true := bne_iff_ne.mpr c3
 have c3b2 : (l0.length == l1.length) = false := by first | simpa using c3 | (simp at c3 ⊢; omega)
 obtain rfl := Option.some.inj H
 go_enter Try.func64, Try.ntmps64
 go_wp2
 go_ret
 exact ⟨by first | rfl | (simp [errW_none, errW_some] <;> rfl) | (simp [*, errW_none, errW_some] <;> rfl), bel HB⟩

/-! ### laws_eqNodeResult: function 15 -/
def laws_eqNodeResult.f (k : Nat) (a0_0 : Int) (a0_1 : Int) (a0_2 : Bool) (a0_3 : Int) (a0_4 : Int) (l0_5 : List (S55)) (a0_6 : Int) (a0_7 : Int) (a0_8 : Int) (a0_9 : Int) (l0_10 : List (S57)) (a1_0 : Int) (a1_1 : Int) (a1_2 : Bool) (a1_3 : Int) (a1_4 : Int) (l1_5 : List (S55)) (a1_6 : Int) (a1_7 : Int) (a1_8 : Int) (a1_9 : Int) (l1_10 : List (S57)) : Option (Bool) := if a0_0 = a1_0 then ((laws_eqNode.f k a0_1 a0_2 a0_3 a0_4 l0_5 a0_6 a0_7 a0_8 a0_9 a1_1 a1_2 a1_3 a1_4 l1_5 a1_6 a1_7 a1_8 a1_9).bind fun t383 => (if t383 = true then ((laws_eqMailS.f k l0_10 l1_10).bind fun t384 => (if t384 = true then (some true) else (some false))) else (some false))) else (some false)
theorem laws_eqNodeResult.mono : ∀ a0 a1 a2 a3 a4 a5 a6 a7 a8 a9 a10 a11 a12 a13 a14 a15 a16 a17 a18 a19 a20 a21 k, LeO (laws_eqNodeResult.f k a0 a1 a2 a3 a4 a5 a6 a7 a8 a9 a10 a11 a12 a13 a14 a15 a16 a17 a18 a19 a20 a21) (laws_eqNodeResult.f (k + 1) a0 a1 a2 a3 a4 a5 a6 a7 a8 a9 a10 a11 a12 a13 a14 a15 a16 a17 a18 a19 a20 a21) := by
 intro a0 a1 a2 a3 a4 a5 a6 a7 a8 a9 a10 a11 a12 a13 a14 a15 a16 a17 a18 a19 a20 a21 k
 unfold laws_eqNodeResult.f
 repeat' first
   | (with_reducible exact laws_eqMailS.mono _ _ _)
   | (with_reducible exact laws_eqNode.mono _ _ _ _ _ _ _ _ _ _ _ _ _ _ _ _ _ _ _)
   | (with_reducible exact LeO.refl _)
   | (with_reducible exact LeO.none _)
   | (with_reducible refine LeO.ite ?_ ?_)
   | (with_reducible refine LeO.bind ?_ (fun _ => ?_))
   | exact laws_eqMailS.mono _ _ _
   | exact laws_eqNode.mono _ _ _ _ _ _ _ _ _ _ _ _ _ _ _ _ _ _ _
   | exact LeO.none _
   | refine LeO.ite ?_ ?_
   | refine LeO.bind ?_ (fun _ => ?_)
set_option maxHeartbeats 8000000 in
set_option maxRecDepth 100000 in
theorem laws_eqNodeResult.calls (k : Nat) (a0_0 : Int) (a0_1 : Int) (a0_2 : Bool) (a0_3 : Int) (a0_4 : Int) (A0_5 : Option Addr) (c0_5 : Nat) (l0_5 : List (S55)) (a0_6 : Int) (a0_7 : Int) (a0_8 : Int) (a0_9 : Int) (A0_10 : Option Addr) (c0_10 : Nat) (l0_10 : List (S57)) (a1_0 : Int) (a1_1 : Int) (a1_2 : Bool) (a1_3 : Int) (a1_4 : Int) (A1_5 : Option Addr) (c1_5 : Nat) (l1_5 : List (S55)) (a1_6 : Int) (a1_7 : Int) (a1_8 : Int) (a1_9 : Int) (A1_10 : Option Addr) (c1_10 : Nat) (l1_10 : List (S57)) (r : Bool) (w : World) (hr0_5 : Kd.C k55 w A0_5 l0_5.length l0_5) (hc0_5 : l0_5.length ≤ c0_5) (hr0_10 : Kd.C k57 w A0_10 l0_10.length l0_10) (hc0_10 : l0_10.length ≤ c0_10) (hr1_5 : Kd.C k55 w A1_5 l1_5.length l1_5) (hc1_5 : l1_5.length ≤ c1_5) (hr1_10 : Kd.C k57 w A1_10 l1_10.length l1_10) (hc1_10 : l1_10.length ≤ c1_10) (h : laws_eqNodeResult.f k a0_0 a0_1 a0_2 a0_3 a0_4 l0_5 a0_6 a0_7 a0_8 a0_9 l0_10 a1_0 a1_1 a1_2 a1_3 a1_4 l1_5 a1_6 a1_7 a1_8 a1_9 l1_10 = some r) :
  Calls Try.prog 15 #[.agg #[.int .i64 a0_0, .int .i64 a0_1, .bool a0_2, .int .i64 a0_3, .int .i64 a0_4, .slice A0_5 l0_5.length c0_5, .int .i64 a0_6, .int .i64 a0_7, .int .i64 a0_8, .int .i64 a0_9, .slice A0_10 l0_10.length c0_10], .agg #[.int .i64 a1_0, .int .i64 a1_1, .bool a1_2, .int .i64 a1_3, .int .i64 a1_4, .slice A1_5 l1_5.length c1_5, .int .i64 a1_6, .int .i64 a1_7, .int .i64 a1_8, .int .i64 a1_9, .slice A1_10 l1_10.length c1_10]] w fun e w' => e = .returned (.bool r) ∧ Below w.heap.size w w' := by
 have hu35 := Try.underlying35
 have hu32 := Try.underlying32
 have HR0_5 := Aside0.mk hr0_5
 have HC0_5 := Aside0.mk hc0_5
 clear hr0_5 hc0_5
 have HR0_10 := Aside0.mk hr0_10
 have HC0_10 := Aside0.mk hc0_10
 clear hr0_10 hc0_10
 have HR1_5 := Aside0.mk hr1_5
 have HC1_5 := Aside0.mk hc1_5
 clear hr1_5 hc1_5
 have HR1_10 := Aside0.mk hr1_10
 have HC1_10 := Aside0.mk hc1_10
 clear hr1_10 hc1_10
 have HB := am (Below.refl w.heap.size w)
 have H : (if a0_0 = a1_0 then ((laws_eqNode.f k a0_1 a0_2 a0_3 a0_4 l0_5 a0_6 a0_7 a0_8 a0_9 a1_1 a1_2 a1_3 a1_4 l1_5 a1_6 a1_7 a1_8 a1_9).bind fun t383 => (if t383 = true then ((laws_eqMailS.f k l0_10 l1_10).bind fun t384 => (if t384 = true then (some true) else (some false))) else (some false))) else (some false)) = some r := h
 clear h
 by_cases c3 : a0_0 = a1_0
 ·
  rw [if_pos c3] at H
  have c3b0 : (a0_0 == a1_0) = true := beq_iff_eq.mpr c3
  have c3b1 : (a0_0 != a1_0) = false := bne_eq_false_iff_eq.mpr c3
  clear c3
  replace H := Option.bind_eq_some_iff.mp H
  obtain ⟨t383, A40, H⟩ := H
  replace H : (if t383 = true then ((laws_eqMailS.f k l0_10 l1_10).bind fun t384 => (if t384 = true then (some true) else (some false))) else (some false)) = some r := H
  have A4 := Aside0.mk A40
  clear A40
  by_cases c5 : t383 = true
  ·
   subst c5
   have H1 : ((laws_eqMailS.f k l0_10 l1_10).bind fun t384 => (if t384 = true then (some true) else (some false))) = some r := by rw [if_pos rfl] at H; first | done | exact H
   clear H
   have H := H1
   clear H1
   replace H := Option.bind_eq_some_iff.mp H
   obtain ⟨t384, A60, H⟩ := H
   replace H : (if t384 = true then (some true) else (some false)) = some r := H
   have A6 := Aside0.mk A60
   clear A60
   by_cases c7 : t384 = true
   ·
    subst c7
    have H1 : (some true) = some r := by rw [if_pos rfl] at H; first | done | exact H
    clear H
    have H := H1
    clear H1
    obtain rfl := Option.some.inj H
    go_enter Try.func15, Try.ntmps15
    go_wp2_with (first | ((with_reducible refine gate_dst (N := 2) rfl ?_); refine boxE #[.int .i64 a0_0, .int .i64 a0_1, .bool a0_2, .int .i64 a0_3, .int .i64 a0_4, .slice A0_5 l0_5.length c0_5, .int .i64 a0_6, .int .i64 a0_7, .int .i64 a0_8, .int .i64 a0_9, .slice A0_10 l0_10.length c0_10] 35 (N := 2) rfl rfl ?_; intro gb381 hg w8 hbox hb; have BK381 := Aside0.mk hbox; have GW381 := gZ HB hg; have GE381 := gZ HB hg; replace HB := bS HB hb; clear hb hbox hg) | ((with_reducible refine gate_dst (N := 3) rfl ?_); refine boxE #[.int .i64 a1_0, .int .i64 a1_1, .bool a1_2, .int .i64 a1_3, .int .i64 a1_4, .slice A1_5 l1_5.length c1_5, .int .i64 a1_6, .int .i64 a1_7, .int .i64 a1_8, .int .i64 a1_9, .slice A1_10 l1_10.length c1_10] 35 (N := 3) rfl rfl ?_; intro gb382 hg w9 hbox hb; have BK382 := Aside0.mk hbox; have GW382 := gZ HB hg; have GE382 := gZ HB hg; replace HB := bS HB hb; have NB381_382 := nL BK381 hg; have NB382_381 := nG BK381 hg; replace BK381 := bK BK381 hb; clear hb hbox hg; have hnb10 := NB381_382.out; have hnc10 := NB382_381.out; have hz11 := cl11 BK381; have hz12 := cl11 BK382) | ((with_reducible refine gate_callee (f := 16) rfl ?_); refine goA (some 14) rfl rfl Try.func16 rfl #[.agg #[.int .i64 a0_1, .bool a0_2, .int .i64 a0_3, .int .i64 a0_4, .slice A0_5 l0_5.length c0_5, .int .i64 a0_6, .int .i64 a0_7, .int .i64 a0_8, .int .i64 a0_9], .agg #[.int .i64 a1_1, .bool a1_2, .int .i64 a1_3, .int .i64 a1_4, .slice A1_5 l1_5.length c1_5, .int .i64 a1_6, .int .i64 a1_7, .int .i64 a1_8, .int .i64 a1_9]] rfl ?_; (with_reducible refine (laws_eqNode.calls k a0_1 a0_2 a0_3 a0_4 _ _ l0_5 a0_6 a0_7 a0_8 a0_9 a1_1 a1_2 a1_3 a1_4 _ _ l1_5 a1_6 a1_7 a1_8 a1_9 true _ ?side1 ?side2 ?side3 ?side4 A4.out).mono ?_); (case side1 => exact mC HR0_5 HB); (case side2 => exact HC0_5.out); (case side3 => exact mC HR1_5 HB); (case side4 => exact HC1_5.out); rintro e w13 ⟨rfl, hb⟩; refine ⟨_, rfl, ?_⟩; replace BK381 := bK BK381 hb; replace BK382 := bK BK382 hb; replace HB := bS HB hb; (try clear hb); (try clear hb2); (try clear hk); (try clear hi); have hz14 := cl11 BK381; have hz15 := cl11 BK382) | ((with_reducible refine gate_callee (f := 64) rfl ?_); refine goA (some 20) rfl rfl Try.func64 rfl #[.slice A0_10 l0_10.length c0_10, .slice A1_10 l1_10.length c1_10] rfl ?_; (with_reducible refine (laws_eqMailS.calls k _ _ l0_10 _ _ l1_10 true _ ?side1 ?side2 ?side3 ?side4 A6.out).mono ?_); (case side1 => exact mC HR0_10 HB); (case side2 => exact HC0_10.out); (case side3 => exact mC HR1_10 HB); (case side4 => exact HC1_10.out); rintro e w16 ⟨rfl, hb⟩; refine ⟨_, rfl, ?_⟩; replace BK381 := bK BK381 hb; replace BK382 := bK BK382 hb; replace HB := bS HB hb; (try clear hb); (try clear hb2); (try clear hk); (try clear hi)))
    go_ret
    exact ⟨by first | rfl | (simp [errW_none, errW_some] <;> rfl) | (simp [*, errW_none, errW_some] <;> rfl), bel HB⟩
   replace c7 := Bool.eq_false_iff.mpr c7
   subst c7
   have H1 : (some false) = some r := by rw [if_neg (show ¬ (false = true) by decide)] at H; first | done | exact H
   clear H
   have H := H1
   clear H1
   obtain rfl := Option.some.inj H
   go_enter Try.func15, Try.ntmps15
   go_wp2_with (first | ((with_reducible refine gate_dst (N := 2) rfl ?_); refine boxE #[.int .i64 a0_0, .int .i64 a0_1, .bool a0_2, .int .i64 a0_3, .int .i64 a0_4, .slice A0_5 l0_5.length c0_5, .int .i64 a0_6, .int .i64 a0_7, .int .i64 a0_8, .int .i64 a0_9, .slice A0_10 l0_10.length c0_10] 35 (N := 2) rfl rfl ?_; intro gb381 hg w17 hbox hb; have BK381 := Aside0.mk hbox; have GW381 := gZ HB hg; have GE381 := gZ HB hg; replace HB := bS HB hb; clear hb hbox hg) | ((with_reducible refine gate_dst (N := 3) rfl ?_); refine boxE #[.int .i64 a1_0, .int .i64 a1_1, .bool a1_2, .int .i64 a1_3, .int .i64 a1_4, .slice A1_5 l1_5.length c1_5, .int .i64 a1_6, .int .i64 a1_7, .int .i64 a1_8, .int .i64 a1_9, .slice A1_10 l1_10.length c1_10] 35 (N := 3) rfl rfl ?_; intro gb382 hg w18 hbox hb; have BK382 := Aside0.mk hbox; have GW382 := gZ HB hg; have GE382 := gZ HB hg; replace HB := bS HB hb; have NB381_382 := nL BK381 hg; have NB382_381 := nG BK381 hg; replace BK381 := bK BK381 hb; clear hb hbox hg; have hnb19 := NB381_382.out; have hnc19 := NB382_381.out; have hz20 := cl11 BK381; have hz21 := cl11 BK382) | ((with_reducible refine gate_callee (f := 16) rfl ?_); refine goA (some 14) rfl rfl Try.func16 rfl #[.agg #[.int .i64 a0_1, .bool a0_2, .int .i64 a0_3, .int .i64 a0_4, .slice A0_5 l0_5.length c0_5, .int .i64 a0_6, .int .i64 a0_7, .int .i64 a0_8, .int .i64 a0_9], .agg #[.int .i64 a1_1, .bool a1_2, .int .i64 a1_3, .int .i64 a1_4, .slice A1_5 l1_5.length c1_5, .int .i64 a1_6, .int .i64 a1_7, .int .i64 a1_8, .int .i64 a1_9]] rfl ?_; (with_reducible refine (laws_eqNode.calls k a0_1 a0_2 a0_3 a0_4 _ _ l0_5 a0_6 a0_7 a0_8 a0_9 a1_1 a1_2 a1_3 a1_4 _ _ l1_5 a1_6 a1_7 a1_8 a1_9 true _ ?side1 ?side2 ?side3 ?side4 A4.out).mono ?_); (case side1 => exact mC HR0_5 HB); (case side2 => exact HC0_5.out); (case side3 => exact mC HR1_5 HB); (case side4 => exact HC1_5.out); rintro e w22 ⟨rfl, hb⟩; refine ⟨_, rfl, ?_⟩; replace BK381 := bK BK381 hb; replace BK382 := bK BK382 hb; replace HB := bS HB hb; (try clear hb); (try clear hb2); (try clear hk); (try clear hi); have hz23 := cl11 BK381; have hz24 := cl11 BK382) | ((with_reducible refine gate_callee (f := 64) rfl ?_); refine goA (some 20) rfl rfl Try.func64 rfl #[.slice A0_10 l0_10.length c0_10, .slice A1_10 l1_10.length c1_10] rfl ?_; (with_reducible refine (laws_eqMailS.calls k _ _ l0_10 _ _ l1_10 false _ ?side1 ?side2 ?side3 ?side4 A6.out).mono ?_); (case side1 => exact mC HR0_10 HB); (case side2 => exact HC0_10.out); (case side3 => exact mC HR1_10 HB); (case side4 => exact HC1_10.out); rintro e w25 ⟨rfl, hb⟩; refine ⟨_, rfl, ?_⟩; replace BK381 := bK BK381 hb; replace BK382 := bK BK382 hb; replace HB := bS HB hb; (try clear hb); (try clear hb2); (try clear hk); (try clear hi)))
   go_ret
   exact ⟨by first | rfl | (simp [errW_none, errW_some] <;> rfl) | (simp [*, errW_none, errW_some] <;> rfl), bel HB⟩
  replace c5 := Bool.eq_false_iff.mpr c5
  subst c5
  have H1 : (some false) = some r := by rw [if_neg (show ¬ (false = true) by decide)] at H; first | done | exact H
  clear H
  have H := H1
  clear H1
  obtain rfl := Option.some.inj H
  go_enter Try.func15, Try.ntmps15
  go_wp2_with (first | ((with_reducible refine gate_dst (N := 2) rfl ?_); refine boxE #[.int .i64 a0_0, .int .i64 a0_1, .bool a0_2, .int .i64 a0_3, .int .i64 a0_4, .slice A0_5 l0_5.length c0_5, .int .i64 a0_6, .int .i64 a0_7, .int .i64 a0_8, .int .i64 a0_9, .slice A0_10 l0_10.length c0_10] 35 (N := 2) rfl rfl ?_; intro gb381 hg w26 hbox hb; have BK381 := Aside0.mk hbox; have GW381 := gZ HB hg; have GE381 := gZ HB hg; replace HB := bS HB hb; clear hb hbox hg) | ((with_reducible refine gate_dst (N := 3) rfl ?_); refine boxE #[.int .i64 a1_0, .int .i64 a1_1, .bool a1_2, .int .i64 a1_3, .int .i64 a1_4, .slice A1_5 l1_5.length c1_5, .int .i64 a1_6, .int .i64 a1_7, .int .i64 a1_8, .int .i64 a1_9, .slice A1_10 l1_10.length c1_10] 35 (N := 3) rfl rfl ?_; intro gb382 hg w27 hbox hb; have BK382 := Aside0.mk hbox; have GW382 := gZ HB hg; have GE382 := gZ HB hg; replace HB := bS HB hb; have NB381_382 := nL BK381 hg; have NB382_381 := nG BK381 hg; replace BK381 := bK BK381 hb; clear hb hbox hg; have hnb28 := NB381_382.out; have hnc28 := NB382_381.out; have hz29 := cl11 BK381; have hz30 := cl11 BK382) | ((with_reducible refine gate_callee (f := 16) rfl ?_); refine goA (some 14) rfl rfl Try.func16 rfl #[.agg #[.int .i64 a0_1, .bool a0_2, .int .i64 a0_3, .int .i64 a0_4, .slice A0_5 l0_5.length c0_5, .int .i64 a0_6, .int .i64 a0_7, .int .i64 a0_8, .int .i64 a0_9], .agg #[.int .i64 a1_1, .bool a1_2, .int .i64 a1_3, .int .i64 a1_4, .slice A1_5 l1_5.length c1_5, .int .i64 a1_6, .int .i64 a1_7, .int .i64 a1_8, .int .i64 a1_9]] rfl ?_; (with_reducible refine (laws_eqNode.calls k a0_1 a0_2 a0_3 a0_4 _ _ l0_5 a0_6 a0_7 a0_8 a0_9 a1_1 a1_2 a1_3 a1_4 _ _ l1_5 a1_6 a1_7 a1_8 a1_9 false _ ?side1 ?side2 ?side3 ?side4 A4.out).mono ?_); (case side1 => exact mC HR0_5 HB); (case side2 => exact HC0_5.out); (case side3 => exact mC HR1_5 HB); (case side4 => exact HC1_5.out); rintro e w31 ⟨rfl, hb⟩; refine ⟨_, rfl, ?_⟩; replace BK381 := bK BK381 hb; replace BK382 := bK BK382 hb; replace HB := bS HB hb; (try clear hb); (try clear hb2); (try clear hk); (try clear hi)))
  go_ret
  exact ⟨by first | rfl | (simp [errW_none, errW_some] <;> rfl) | (simp [*, errW_none, errW_some] <;> rfl), bel HB⟩
 rw [if_neg c3] at H
 have c3b0 : (a0_0 == a1_0) = false := beq_eq_false_iff_ne.mpr c3
 have c3b1 : (a0_0 != a1_0) = true := bne_iff_ne.mpr c3
 obtain rfl := Option.some.inj H
 go_enter Try.func15, Try.ntmps15
 go_wp2_with (first | ((with_reducible refine gate_dst (N := 2) rfl ?_); refine boxE #[.int .i64 a0_0, .int .i64 a0_1, .bool a0_2, .int .i64 a0_3, .int .i64 a0_4, .slice A0_5 l0_5.length c0_5, .int .i64 a0_6, .int .i64 a0_7, .int .i64 a0_8, .int .i64 a0_9, .slice A0_10 l0_10.length c0_10] 35 (N := 2) rfl rfl ?_; intro gb381 hg w32 hbox hb; have BK381 := Aside0.mk hbox; have GW381 := gZ HB hg; have GE381 := gZ HB hg; replace HB := bS HB hb; clear hb hbox hg) | ((with_reducible refine gate_dst (N := 3) rfl ?_); refine boxE #[.int .i64 a1_0, .int .i64 a1_1, .bool a1_2, .int .i64 a1_3, .int .i64 a1_4, .slice A1_5 l1_5.length c1_5, .int .i64 a1_6, .int .i64 a1_7, .int .i64 a1_8, .int .i64 a1_9, .slice A1_10 l1_10.length c1_10] 35 (N := 3) rfl rfl ?_; intro gb382 hg w33 hbox hb; have BK382 := Aside0.mk hbox; have GW382 := gZ HB hg; have GE382 := gZ HB hg; replace HB := bS HB hb; have NB381_382 := nL BK381 hg; have NB382_381 := nG BK381 hg; replace BK381 := bK BK381 hb; clear hb hbox hg; have hnb34 := NB381_382.out; have hnc34 := NB382_381.out; have hz35 := cl11 BK381; have hz36 := cl11 BK382))
 go_ret
 exact ⟨by first | rfl | (simp [errW_none, errW_some] <;> rfl) | (simp [*, errW_none, errW_some] <;> rfl), bel HB⟩

/-! ### laws_markByteS: function 68 -/
def laws_markByteS.l0 : Nat → List Int → Int → Int → Option (Int × List Int)
 | 0, _, _, _ => none
 | k + 1, x0, x1, x5 => if x5 < (x0.length : Int) then (if 0 ≤ x5 then (laws_markByteS.l0 k (x0.set (x5 : Int).toNat ((x1) % 256)) (wrap64 (x1 + 1)) (wrap64 (x5 + 1))) else (none)) else (some (x1, x0))
def laws_markByteS.f (k : Nat) (l0 : List Int) (a1 : Int) : Option (Int × List Int) := laws_markByteS.l0 k l0 a1 0
theorem laws_markByteS.mono_l : ∀ k, (∀ y0 y1 y2, LeO (laws_markByteS.l0 k y0 y1 y2) (laws_markByteS.l0 (k + 1) y0 y1 y2))
 | 0 => fun _ _ _ r h => by simp [laws_markByteS.l0] at h
 | k + 1 => by
  have ih0 := laws_markByteS.mono_l k
  intro y0 y1 y2
  unfold laws_markByteS.l0
  repeat' first
  | (with_reducible exact ih0 _ _ _)
  | (with_reducible exact LeO.refl _)
  | (with_reducible exact LeO.none _)
  | (with_reducible refine LeO.ite ?_ ?_)
  | (with_reducible refine LeO.bind ?_ (fun _ => ?_))
  | exact ih0 _ _ _
  | exact LeO.none _
  | refine LeO.ite ?_ ?_
  | refine LeO.bind ?_ (fun _ => ?_)
theorem laws_markByteS.mono : ∀ a0 a1 k, LeO (laws_markByteS.f k a0 a1) (laws_markByteS.f (k + 1) a0 a1) := by
 intro a0 a1 k
 have ih0 := laws_markByteS.mono_l k
 unfold laws_markByteS.f
 repeat' first
   | (with_reducible exact ih0 _ _ _)
   | (with_reducible exact LeO.refl _)
   | (with_reducible exact LeO.none _)
   | (with_reducible refine LeO.ite ?_ ?_)
   | (with_reducible refine LeO.bind ?_ (fun _ => ?_))
   | exact ih0 _ _ _
   | exact LeO.none _
   | refine LeO.ite ?_ ?_
   | refine LeO.bind ?_ (fun _ => ?_)
set_option maxHeartbeats 8000000 in
set_option maxRecDepth 100000 in
theorem laws_markByteS.calls (k : Nat) (P0_ : Nat → Prop) (u9000_ : Value) (l0 : List Int) (a1 : Int) (r1 : Int) (r2 : List Int) (w0 w : World) (hB : Below w0.heap.size w0 w) (ho0 : Kd.R (Kd.int .u8) 5 w w0.heap.size P0_ u9000_ l0) (h : laws_markByteS.f k l0 a1 = some (r1, r2)) :
  Calls Try.prog 68 #[u9000_, .int .i64 a1] w fun e w' => e = .returned (.int .i64 r1) ∧ Kd.R (Kd.int .u8) 5 w' w0.heap.size (fun k_ => (P0_ k_ ∨ w.heap.size ≤ k_)) u9000_ r2 ∧ Below w0.heap.size w0 w' ∧ Kept w w' (fun k_ => P0_ k_) := by
 have HO0 := am (show Kd.R (Kd.int .u8) 5 w w0.heap.size (fun k_ => (P0_ k_ ∨ w.heap.size ≤ k_)) u9000_ l0 from Kd.R_mono ho0 (fun k_ hk => (.inl hk)))
 have HK := am (Kept.refl w (fun k_ => P0_ k_))
 have HW0 := Aside0.mk hB.size
 have HB := Aside0.mk hB
 clear hB
 have H : (laws_markByteS.l0 k l0 a1 0) = some (r1, r2) := h
 clear h
 have H' := Aside0.mk H
 clear H
 go_enter Try.func68, Try.ntmps68
 go_wp2
 go_loopg [1, 5] k (fun kq v1 v5 w' => ∃ (x0_1 : List Int) (x1_1 : Int) (x5_1 : Int), v1 = .int .i64 x1_1 ∧ v5 = .int .i64 x5_1 ∧ Aside0 (laws_markByteS.l0 kq x0_1 x1_1 x5_1 = some (r1, r2)) ∧ Aside0 (kq ≤ k) ∧ Aside0 (Kd.R (Kd.int .u8) 5 w' w0.heap.size (fun k_ => (P0_ k_ ∨ w.heap.size ≤ k_)) u9000_ x0_1) ∧ Aside0 (Kept w w' (fun k_ => P0_ k_)) ∧ Aside0 (Below w0.heap.size w0 w'))
 case atStart => exact ⟨(l0), (a1), (0), (by first | rfl | (simp; done) | (simp [*]; done)), (by first | rfl | (simp; done) | (simp [*]; done)), H', ⟨Nat.le_refl _⟩, ⟨by (with_reducible repeat (first | apply Kd.R_alloc | apply Kd.R_drewN | apply Kd.R_drew)); exact HO0.out⟩, ⟨by repeat (first | (with_reducible first | exact HK.out | apply Kept.alloc | apply Kept.drewN | apply Kept.drew) | exact HK.out)⟩, ⟨bel HB⟩⟩
 case round =>
  clear H'
  try clear p2
  obtain ⟨x0_1, x1_1, x5_1, rfl, rfl, HA, HK1, HO_0, HK, HB⟩ := hrel
  cases gk with
  | zero => exact absurd HA.out (by simp [laws_markByteS.l0])
  | succ k1 =>
   have H := HA.out
   clear HA
   simp only [laws_markByteS.l0] at H
   by_cases c3 : x5_1 < (x0_1.length : Int)
   ·
    rw [if_pos c3] at H
    have c3b0 : decide (x5_1 < (x0_1.length : Int)) = true := decide_eq_true c3
    clear c3
    by_cases c4 : 0 ≤ x5_1
    ·
     rw [if_pos c4] at H
     have c4b0 : decide (0 ≤ x5_1) = true := decide_eq_true c4
     clear c4
     obtain ⟨y385, hy385⟩ : ∃ y_ : List Int, y_ = (x0_1.set (x5_1 : Int).toNat ((x1_1) % 256)) := ⟨_, rfl⟩
     replace H : (laws_markByteS.l0 k1 y385 (wrap64 (x1_1 + 1)) (wrap64 (x5_1 + 1))) = some (r1, r2) := by first | (rw [hy385]; with_reducible exact H) | (have H2_ := (Option.bind_some _ _).symm.trans H; rw [hy385]; with_reducible exact H2_) | (have H2_ := (Option.bind_some _ _).symm.trans H; with_reducible exact H2_) | with_reducible exact H | (rw [hy385]; exact H) | exact H
     have Ny385 := Aside0.mk hy385
     clear hy385
     have H' := Aside0.mk H
     clear H
     obtain ⟨Ao6, co6, eo6⟩ := Kd.R_slice HO_0.out
     subst eo6
     have p5 : 0 ≤ (x5_1 : Int) := of_decide_eq_true (by first | (with_reducible assumption) | assumption)
     have q5 : (x5_1 : Int) < ((x0_1.length : Int) : Int) := of_decide_eq_true (by first | (with_reducible assumption) | assumption)
     obtain ⟨go5, co5, eo5, gb5, gl5, cl5, HG5⟩ := Kd.R_form HO_0.out (by omega)
     (first | cases eo5 | (injection eo5 with ea_ en_ ec_; (first | subst ea_ | (injection ea_ with ea_; subst ea_)); subst ec_; clear en_))
     have GB5 := Aside0.mk gb5
     have GG5 := Aside0.mk HG5
     clear gb5 gl5 HG5
     have HMgo5 := am (show (P0_ go5 ∨ w.heap.size ≤ go5) from (HO_0.out.1 _ rfl))
     obtain ⟨hx5_0, hf5_0⟩ := Kd.R_celln 0 HO_0.out (x5_1 : Int) p5 q5
     replace p5 := eq_true p5
     replace q5 := eq_true q5
     have HP7 := Kd.R_putg HO_0.out (x5_1 : Int) ((x1_1) % 256)
     go_wp2_with (first | ((with_reducible refine gate_store (t := 5) (p := 16) rfl ?_); refine store_event (t := 5) (p := 16) (v := ?vo_w8) (w1 := (wr.setCell ⟨go5, (x5_1 : Int).toNat, none⟩ (.int .u8 ((x1_1) % 256)))) ?hg ?ho ?hn ?hr ?_; (case ho => rfl); (case hg => rfl); (case hn => rfl); (case hr => first | (go_simp; done) | (go_simp; rfl)); intro w8 hw; have hg : wr.grownBy w8 (some go5) := (by rw [hw]; exact HP7.2); have hp_ : Kd.R (Kd.int .u8) 5 w8 w0.heap.size (fun k_ => (P0_ k_ ∨ w.heap.size ≤ k_)) (.slice (some ⟨go5, 0, none⟩) x0_1.length co6) y385 := (by rw [hw, Ny385.out]; exact HP7.1); clear HP7; replace HB := am ((by rw [hw]; exact below_set (HB.out) GB5.out : Below w0.heap.size w0 w8)); replace HK := am (Kept.of_grown (S := (fun k_ => P0_ k_)) hg (by repeat (first | (with_reducible first | exact HK.out | apply Kept.alloc | apply Kept.drewN | apply Kept.drew) | exact HK.out)) (fun k_ e_ => (HO_0.out.1 k_ e_))); replace HO_0 := Aside0.mk hp_; clear hg hw hp_))
     go_roundg k1
     case measure => have := HK1.out; omega
     case rel => exact ⟨(y385), (wrap64 (x1_1 + 1)), (wrap64 (x5_1 + 1)), (by first | rfl | (simp; done) | (simp [*]; done)), (by first | rfl | (simp; done) | (simp [*]; done)), H', ⟨by have := HK1.out; omega⟩, ⟨by (with_reducible repeat (first | apply Kd.R_alloc | apply Kd.R_drewN | apply Kd.R_drew)); exact HO_0.out⟩, ⟨by repeat (first | (with_reducible first | exact HK.out | apply Kept.alloc | apply Kept.drewN | apply Kept.drew) | exact HK.out)⟩, ⟨bel HB⟩⟩
    rw [if_neg c4] at H
    exact absurd H (by simp)
   rw [if_neg c3] at H
   have c3b0 : decide (x5_1 < (x0_1.length : Int)) = false := decide_eq_false c3
   clear c3
   simp only [Option.some.injEq, Prod.mk.injEq] at H
   obtain ⟨rfl, rfl⟩ := H
   obtain ⟨Ao9, co9, eo9⟩ := Kd.R_slice HO_0.out
   subst eo9
   go_wp2
   go_ret
   exact ⟨by first | rfl | (simp [errW_none, errW_some] <;> rfl) | (simp [*, errW_none, errW_some] <;> rfl), by (with_reducible repeat (first | apply Kd.R_alloc | apply Kd.R_drewN | apply Kd.R_drew)); exact HO_0.out, bel HB, by repeat (first | (with_reducible first | exact HK.out | apply Kept.alloc | apply Kept.drewN | apply Kept.drew) | exact HK.out)⟩

end Go.Proofs.Ytgfoifkkffffgab.PFnExactAddEvent
