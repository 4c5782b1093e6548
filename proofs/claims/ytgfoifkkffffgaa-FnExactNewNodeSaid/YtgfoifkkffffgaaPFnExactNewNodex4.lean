-- Laid by a turned copy of the printer (wip/tools/patch_print.py)
import Derived.Test.YtgfoifkkffffgaaPFnExactNewNodex0
import Derived.Test.YtgfoifkkffffgaaPFnExactNewNodex3
namespace Go.Proofs.Ytgfoifkkffffgaa.PFnExactNewNode
open Go.RowKit Go.Proofs.YtgfoifkkffffgaaW.PrintWords Go.Proofs.YtgfoifkkffffgaaW.PrintLast Go.Proofs.YtgfoifkkffffgaaW.PrintMore
attribute [local go_sem] max2_int min2_int max_two min_two max_three min_three max_four min_four   -- for this text's walks alone
set_option linter.unusedVariables false
set_option linter.unusedSimpArgs false

/-! ### laws_heldMailS: function 44 -/
def laws_heldMailS.l0 : Nat → List (S53) → Int → Int → Option (Int)
 | 0, _, _, _ => none
 | k + 1, x0, x1, x5 => if x5 < (x0.length : Int) then (if 0 ≤ x5 then (if ((rd_T53 x0 x5).f0) = x1 then (if ((rd_T53 x0 x5).f1) = (wrap64 (x1 + 1)) then (if ((rd_T53 x0 x5).f2) = (wrap64 ((wrap64 (x1 + 1)) + 1)) then (if ((rd_T53 x0 x5).f3) = (wrap64 ((wrap64 ((wrap64 (x1 + 1)) + 1)) + 1)) then (if ((rd_T53 x0 x5).f4) = (wrap64 ((wrap64 ((wrap64 ((wrap64 (x1 + 1)) + 1)) + 1)) + 1)) then (if (((rd_T53 x0 x5).f5) != ((Int.tmod (wrap64 ((wrap64 ((wrap64 ((wrap64 ((wrap64 (x1 + 1)) + 1)) + 1)) + 1)) + 1)) 3) == 0)) = true then (some (-1)) else (if ((rd_T53 x0 x5).f6.f0) = (wrap64 ((wrap64 ((wrap64 ((wrap64 ((wrap64 ((wrap64 (x1 + 1)) + 1)) + 1)) + 1)) + 1)) + 1)) then (if ((rd_T53 x0 x5).f6.f1.f0) = (wrap64 ((wrap64 ((wrap64 ((wrap64 ((wrap64 ((wrap64 ((wrap64 (x1 + 1)) + 1)) + 1)) + 1)) + 1)) + 1)) + 1)) then (if ((rd_T53 x0 x5).f6.f1.f1) = (wrap64 ((wrap64 ((wrap64 ((wrap64 ((wrap64 ((wrap64 ((wrap64 ((wrap64 (x1 + 1)) + 1)) + 1)) + 1)) + 1)) + 1)) + 1)) + 1)) then ((laws_heldByteS.f k ((rd_T53 x0 x5).f6.f1.f2) (wrap64 ((wrap64 ((wrap64 ((wrap64 ((wrap64 ((wrap64 ((wrap64 ((wrap64 ((wrap64 (x1 + 1)) + 1)) + 1)) + 1)) + 1)) + 1)) + 1)) + 1)) + 1))).bind fun t169 => (if t169 < 0 then (some (-1)) else (laws_heldMailS.l0 k x0 t169 (wrap64 (x5 + 1))))) else (some (-1))) else (some (-1))) else (some (-1)))) else (some (-1))) else (some (-1))) else (some (-1))) else (some (-1))) else (some (-1))) else (none)) else (some x1)
def laws_heldMailS.f (k : Nat) (l0 : List (S53)) (a1 : Int) : Option (Int) := laws_heldMailS.l0 k l0 a1 0
theorem laws_heldMailS.mono_l : ∀ k, (∀ y0 y1 y2, LeO (laws_heldMailS.l0 k y0 y1 y2) (laws_heldMailS.l0 (k + 1) y0 y1 y2))
 | 0 => fun _ _ _ r h => by simp [laws_heldMailS.l0] at h
 | k + 1 => by
  have ih0 := laws_heldMailS.mono_l k
  ·
   intro y0 y1 y2
   unfold laws_heldMailS.l0
   repeat' first
   | (with_reducible exact ih0 _ _ _)
   | (with_reducible exact laws_heldByteS.mono _ _ _)
   | (with_reducible exact LeO.refl _)
   | (with_reducible exact LeO.none _)
   | (with_reducible refine LeO.ite ?_ ?_)
   | (with_reducible refine LeO.bind ?_ (fun _ => ?_))
   | exact ih0 _ _ _
   | exact laws_heldByteS.mono _ _ _
   | exact LeO.none _
   | refine LeO.ite ?_ ?_
   | refine LeO.bind ?_ (fun _ => ?_)
theorem laws_heldMailS.mono : ∀ a0 a1 k, LeO (laws_heldMailS.f k a0 a1) (laws_heldMailS.f (k + 1) a0 a1) := by
 intro a0 a1 k
 have ih0 := laws_heldMailS.mono_l k
 unfold laws_heldMailS.f
 repeat' first
   | (with_reducible exact ih0 _ _ _)
   | (with_reducible exact laws_heldByteS.mono _ _ _)
   | (with_reducible exact LeO.refl _)
   | (with_reducible exact LeO.none _)
   | (with_reducible refine LeO.ite ?_ ?_)
   | (with_reducible refine LeO.bind ?_ (fun _ => ?_))
   | exact ih0 _ _ _
   | exact laws_heldByteS.mono _ _ _
   | exact LeO.none _
   | refine LeO.ite ?_ ?_
   | refine LeO.bind ?_ (fun _ => ?_)
set_option maxHeartbeats 8000000 in
set_option maxRecDepth 100000 in
theorem laws_heldMailS.calls (k : Nat) (A0 : Option Addr) (c0 : Nat) (l0 : List (S53)) (a1 : Int) (r : Int) (w : World) (hr0 : Kd.C k53 w A0 l0.length l0) (hc0 : l0.length ≤ c0) (h : laws_heldMailS.f k l0 a1 = some r) :
  Calls Try.prog 44 #[.slice A0 l0.length c0, .int .i64 a1] w fun e w' => e = .returned (.int .i64 r) ∧ Drawn0 w w' := by
 have HR0 := Aside0.mk hr0
 have HC0 := Aside0.mk hc0
 clear hr0 hc0
 have H : (laws_heldMailS.l0 k l0 a1 0) = some r := h
 clear h
 have H' := Aside0.mk H
 clear H
 go_enter Try.func44, Try.ntmps44
 go_wp2
 go_loopg [1, 5] k (fun kq v1 v5 w' => ∃ (x1_1 : Int) (x5_1 : Int), v1 = .int .i64 x1_1 ∧ v5 = .int .i64 x5_1 ∧ Aside0 (laws_heldMailS.l0 kq l0 x1_1 x5_1 = some r) ∧ Aside0 (kq ≤ k) ∧ Drawn0 w w')
 case atStart => exact ⟨(a1), (0), (by first | rfl | (simp; done) | (simp [*]; done)), (by first | rfl | (simp; done) | (simp [*]; done)), H', ⟨Nat.le_refl _⟩, drw⟩
 case round =>
  clear H'
  try clear p2
  obtain ⟨x1_1, x5_1, rfl, rfl, HA, HK1, ⟨m1, rfl⟩⟩ := hrel
  cases gk with
  | zero => exact absurd HA.out (by simp [laws_heldMailS.l0])
  | succ k1 =>
   have H := HA.out
   clear HA
   simp only [laws_heldMailS.l0] at H
   by_cases c3 : x5_1 < (l0.length : Int)
   ·
    rw [if_pos c3] at H
    have c3b0 : decide (x5_1 < (l0.length : Int)) = true := decide_eq_true c3
    clear c3
    by_cases c4 : 0 ≤ x5_1
    ·
     rw [if_pos c4] at H
     have c4b0 : decide (0 ≤ x5_1) = true := decide_eq_true c4
     clear c4
     by_cases c5 : ((rd_T53 l0 x5_1).f0) = x1_1
     ·
      rw [if_pos c5] at H
      have c5b0 : (((rd_T53 l0 x5_1).f0) == x1_1) = true := beq_iff_eq.mpr c5
      have c5b1 : (((rd_T53 l0 x5_1).f0) != x1_1) = false := bne_eq_false_iff_eq.mpr c5
      clear c5
      by_cases c6 : ((rd_T53 l0 x5_1).f1) = (wrap64 (x1_1 + 1))
      ·
       rw [if_pos c6] at H
       have c6b0 : (((rd_T53 l0 x5_1).f1) == (wrap64 (x1_1 + 1))) = true := beq_iff_eq.mpr c6
       have c6b1 : (((rd_T53 l0 x5_1).f1) != (wrap64 (x1_1 + 1))) = false := bne_eq_false_iff_eq.mpr c6
       clear c6
       by_cases c7 : ((rd_T53 l0 x5_1).f2) = (wrap64 ((wrap64 (x1_1 + 1)) + 1))
       ·
        rw [if_pos c7] at H
        have c7b0 : (((rd_T53 l0 x5_1).f2) == (wrap64 ((wrap64 (x1_1 + 1)) + 1))) = true := beq_iff_eq.mpr c7
        have c7b1 : (((rd_T53 l0 x5_1).f2) != (wrap64 ((wrap64 (x1_1 + 1)) + 1))) = false := bne_eq_false_iff_eq.mpr c7
        clear c7
        by_cases c8 : ((rd_T53 l0 x5_1).f3) = (wrap64 ((wrap64 ((wrap64 (x1_1 + 1)) + 1)) + 1))
        ·
         rw [if_pos c8] at H
         have c8b0 : (((rd_T53 l0 x5_1).f3) == (wrap64 ((wrap64 ((wrap64 (x1_1 + 1)) + 1)) + 1))) = true := beq_iff_eq.mpr c8
         have c8b1 : (((rd_T53 l0 x5_1).f3) != (wrap64 ((wrap64 ((wrap64 (x1_1 + 1)) + 1)) + 1))) = false := bne_eq_false_iff_eq.mpr c8
         clear c8
         by_cases c9 : ((rd_T53 l0 x5_1).f4) = (wrap64 ((wrap64 ((wrap64 ((wrap64 (x1_1 + 1)) + 1)) + 1)) + 1))
         ·
          rw [if_pos c9] at H
          have c9b0 : (((rd_T53 l0 x5_1).f4) == (wrap64 ((wrap64 ((wrap64 ((wrap64 (x1_1 + 1)) + 1)) + 1)) + 1))) = true := beq_iff_eq.mpr c9
          have c9b1 : (((rd_T53 l0 x5_1).f4) != (wrap64 ((wrap64 ((wrap64 ((wrap64 (x1_1 + 1)) + 1)) + 1)) + 1))) = false := bne_eq_false_iff_eq.mpr c9
          clear c9
          by_cases c10 : (((rd_T53 l0 x5_1).f5) != ((Int.tmod (wrap64 ((wrap64 ((wrap64 ((wrap64 ((wrap64 (x1_1 + 1)) + 1)) + 1)) + 1)) + 1)) 3) == 0)) = true
          ·
           rw [if_pos c10] at H
           have c10b0 : (((rd_T53 l0 x5_1).f5) != ((Int.tmod (wrap64 ((wrap64 ((wrap64 ((wrap64 ((wrap64 (x1_1 + 1)) + 1)) + 1)) + 1)) + 1)) 3) == 0)) = true := c10
           (try (have c10b1 : decide (((rd_T53 l0 x5_1).f5) = ((Int.tmod (wrap64 ((wrap64 ((wrap64 ((wrap64 ((wrap64 (x1_1 + 1)) + 1)) + 1)) + 1)) + 1)) 3) == 0)) = false := by simpa using c10))
           (try (have c10b2 : (((rd_T53 l0 x5_1).f5) == ((Int.tmod (wrap64 ((wrap64 ((wrap64 ((wrap64 ((wrap64 (x1_1 + 1)) + 1)) + 1)) + 1)) + 1)) 3) == 0)) = false := by simpa using c10))
           (try (have c10b3 : ¬ (((rd_T53 l0 x5_1).f5) = ((Int.tmod (wrap64 ((wrap64 ((wrap64 ((wrap64 ((wrap64 (x1_1 + 1)) + 1)) + 1)) + 1)) + 1)) 3) == 0)) := by simpa using c10))
           clear c10
           obtain rfl := Option.some.inj H
           have p159 : 0 ≤ (x5_1 : Int) := of_decide_eq_true (by first | (with_reducible assumption) | assumption)
           have q159 : x5_1 < (l0.length : Int) := of_decide_eq_true (by first | (with_reducible assumption) | assumption)
           obtain ⟨ad159, A159_9, c159_9, e159, hx159_0, hx159_1, hx159_2, hx159_3, hx159_4, hx159_5, hx159_6, hx159_7, hx159_8, hx159_9, hl159_9, hi159_9⟩ := at_T53 HR0.out x5_1 p159 q159
           cases e159
           have HR159_9 := Aside0.mk hi159_9
           have HC159_9 := Aside0.mk hl159_9
           clear hi159_9 hl159_9
           replace p159 := eq_true p159
           replace q159 := eq_true q159
           have p160 : 0 ≤ (x5_1 : Int) := of_decide_eq_true (by first | (with_reducible assumption) | assumption)
           have q160 : x5_1 < (l0.length : Int) := of_decide_eq_true (by first | (with_reducible assumption) | assumption)
           obtain ⟨ad160, A160_9, c160_9, e160, hx160_0, hx160_1, hx160_2, hx160_3, hx160_4, hx160_5, hx160_6, hx160_7, hx160_8, hx160_9, hl160_9, hi160_9⟩ := at_T53 HR0.out x5_1 p160 q160
           obtain rfl : ad159 = ad160 := (by injection e160)
           have HR160_9 := Aside0.mk hi160_9
           have HC160_9 := Aside0.mk hl160_9
           clear hi160_9 hl160_9
           replace p160 := eq_true p160
           replace q160 := eq_true q160
           have ea_ := Option.some.inj (hx159_9.symm.trans hx160_9)
           injection ea_ with ea_ en_ ec_
           subst ea_
           subst ec_
           clear en_
           have p161 : 0 ≤ (x5_1 : Int) := of_decide_eq_true (by first | (with_reducible assumption) | assumption)
           have q161 : x5_1 < (l0.length : Int) := of_decide_eq_true (by first | (with_reducible assumption) | assumption)
           obtain ⟨ad161, A161_9, c161_9, e161, hx161_0, hx161_1, hx161_2, hx161_3, hx161_4, hx161_5, hx161_6, hx161_7, hx161_8, hx161_9, hl161_9, hi161_9⟩ := at_T53 HR0.out x5_1 p161 q161
           obtain rfl : ad159 = ad161 := (by injection e161)
           have HR161_9 := Aside0.mk hi161_9
           have HC161_9 := Aside0.mk hl161_9
           clear hi161_9 hl161_9
           replace p161 := eq_true p161
           replace q161 := eq_true q161
           have ea_ := Option.some.inj (hx159_9.symm.trans hx161_9)
           injection ea_ with ea_ en_ ec_
           subst ea_
           subst ec_
           clear en_
           have p162 : 0 ≤ (x5_1 : Int) := of_decide_eq_true (by first | (with_reducible assumption) | assumption)
           have q162 : x5_1 < (l0.length : Int) := of_decide_eq_true (by first | (with_reducible assumption) | assumption)
           obtain ⟨ad162, A162_9, c162_9, e162, hx162_0, hx162_1, hx162_2, hx162_3, hx162_4, hx162_5, hx162_6, hx162_7, hx162_8, hx162_9, hl162_9, hi162_9⟩ := at_T53 HR0.out x5_1 p162 q162
           obtain rfl : ad159 = ad162 := (by injection e162)
           have HR162_9 := Aside0.mk hi162_9
           have HC162_9 := Aside0.mk hl162_9
           clear hi162_9 hl162_9
           replace p162 := eq_true p162
           replace q162 := eq_true q162
           have ea_ := Option.some.inj (hx159_9.symm.trans hx162_9)
           injection ea_ with ea_ en_ ec_
           subst ea_
           subst ec_
           clear en_
           have p163 : 0 ≤ (x5_1 : Int) := of_decide_eq_true (by first | (with_reducible assumption) | assumption)
           have q163 : x5_1 < (l0.length : Int) := of_decide_eq_true (by first | (with_reducible assumption) | assumption)
           obtain ⟨ad163, A163_9, c163_9, e163, hx163_0, hx163_1, hx163_2, hx163_3, hx163_4, hx163_5, hx163_6, hx163_7, hx163_8, hx163_9, hl163_9, hi163_9⟩ := at_T53 HR0.out x5_1 p163 q163
           obtain rfl : ad159 = ad163 := (by injection e163)
           have HR163_9 := Aside0.mk hi163_9
           have HC163_9 := Aside0.mk hl163_9
           clear hi163_9 hl163_9
           replace p163 := eq_true p163
           replace q163 := eq_true q163
           have ea_ := Option.some.inj (hx159_9.symm.trans hx163_9)
           injection ea_ with ea_ en_ ec_
           subst ea_
           subst ec_
           clear en_
           have p164 : 0 ≤ (x5_1 : Int) := of_decide_eq_true (by first | (with_reducible assumption) | assumption)
           have q164 : x5_1 < (l0.length : Int) := of_decide_eq_true (by first | (with_reducible assumption) | assumption)
           obtain ⟨ad164, A164_9, c164_9, e164, hx164_0, hx164_1, hx164_2, hx164_3, hx164_4, hx164_5, hx164_6, hx164_7, hx164_8, hx164_9, hl164_9, hi164_9⟩ := at_T53 HR0.out x5_1 p164 q164
           obtain rfl : ad159 = ad164 := (by injection e164)
           have HR164_9 := Aside0.mk hi164_9
           have HC164_9 := Aside0.mk hl164_9
           clear hi164_9 hl164_9
           replace p164 := eq_true p164
           replace q164 := eq_true q164
           have ea_ := Option.some.inj (hx159_9.symm.trans hx164_9)
           injection ea_ with ea_ en_ ec_
           subst ea_
           subst ec_
           clear en_
           go_wp2
           go_ret
           exact ⟨by first | rfl | (simp; done) | (simp [*]; done), drw⟩
          ·
           rw [if_neg c10] at H
           have c10b0 : (((rd_T53 l0 x5_1).f5) != ((Int.tmod (wrap64 ((wrap64 ((wrap64 ((wrap64 ((wrap64 (x1_1 + 1)) + 1)) + 1)) + 1)) + 1)) 3) == 0)) = false := by simpa using c10
           (try (have c10b1 : decide (((rd_T53 l0 x5_1).f5) = ((Int.tmod (wrap64 ((wrap64 ((wrap64 ((wrap64 ((wrap64 (x1_1 + 1)) + 1)) + 1)) + 1)) + 1)) 3) == 0)) = true := by simpa using c10))
           (try (have c10b2 : (((rd_T53 l0 x5_1).f5) == ((Int.tmod (wrap64 ((wrap64 ((wrap64 ((wrap64 ((wrap64 (x1_1 + 1)) + 1)) + 1)) + 1)) + 1)) 3) == 0)) = true := by simpa using c10))
           clear c10
           by_cases c11 : ((rd_T53 l0 x5_1).f6.f0) = (wrap64 ((wrap64 ((wrap64 ((wrap64 ((wrap64 ((wrap64 (x1_1 + 1)) + 1)) + 1)) + 1)) + 1)) + 1))
           ·
            rw [if_pos c11] at H
            have c11b0 : (((rd_T53 l0 x5_1).f6.f0) == (wrap64 ((wrap64 ((wrap64 ((wrap64 ((wrap64 ((wrap64 (x1_1 + 1)) + 1)) + 1)) + 1)) + 1)) + 1))) = true := beq_iff_eq.mpr c11
            have c11b1 : (((rd_T53 l0 x5_1).f6.f0) != (wrap64 ((wrap64 ((wrap64 ((wrap64 ((wrap64 ((wrap64 (x1_1 + 1)) + 1)) + 1)) + 1)) + 1)) + 1))) = false := bne_eq_false_iff_eq.mpr c11
            clear c11
            by_cases c12 : ((rd_T53 l0 x5_1).f6.f1.f0) = (wrap64 ((wrap64 ((wrap64 ((wrap64 ((wrap64 ((wrap64 ((wrap64 (x1_1 + 1)) + 1)) + 1)) + 1)) + 1)) + 1)) + 1))
            ·
             rw [if_pos c12] at H
             have c12b0 : (((rd_T53 l0 x5_1).f6.f1.f0) == (wrap64 ((wrap64 ((wrap64 ((wrap64 ((wrap64 ((wrap64 ((wrap64 (x1_1 + 1)) + 1)) + 1)) + 1)) + 1)) + 1)) + 1))) = true := beq_iff_eq.mpr c12
             have c12b1 : (((rd_T53 l0 x5_1).f6.f1.f0) != (wrap64 ((wrap64 ((wrap64 ((wrap64 ((wrap64 ((wrap64 ((wrap64 (x1_1 + 1)) + 1)) + 1)) + 1)) + 1)) + 1)) + 1))) = false := bne_eq_false_iff_eq.mpr c12
             clear c12
             by_cases c13 : ((rd_T53 l0 x5_1).f6.f1.f1) = (wrap64 ((wrap64 ((wrap64 ((wrap64 ((wrap64 ((wrap64 ((wrap64 ((wrap64 (x1_1 + 1)) + 1)) + 1)) + 1)) + 1)) + 1)) + 1)) + 1))
             ·
              rw [if_pos c13] at H
              have c13b0 : (((rd_T53 l0 x5_1).f6.f1.f1) == (wrap64 ((wrap64 ((wrap64 ((wrap64 ((wrap64 ((wrap64 ((wrap64 ((wrap64 (x1_1 + 1)) + 1)) + 1)) + 1)) + 1)) + 1)) + 1)) + 1))) = true := beq_iff_eq.mpr c13
              have c13b1 : (((rd_T53 l0 x5_1).f6.f1.f1) != (wrap64 ((wrap64 ((wrap64 ((wrap64 ((wrap64 ((wrap64 ((wrap64 ((wrap64 (x1_1 + 1)) + 1)) + 1)) + 1)) + 1)) + 1)) + 1)) + 1))) = false := bne_eq_false_iff_eq.mpr c13
              clear c13
              replace H := Option.bind_eq_some_iff.mp H
              obtain ⟨t169, A140, H⟩ := H
              replace H : (if t169 < 0 then (some (-1)) else (laws_heldMailS.l0 k1 l0 t169 (wrap64 (x5_1 + 1)))) = some r := H
              have A14 := Aside0.mk A140
              clear A140
              by_cases c15 : t169 < 0
              ·
               rw [if_pos c15] at H
               have c15b0 : decide (t169 < 0) = true := decide_eq_true c15
               clear c15
               obtain rfl := Option.some.inj H
               have p159 : 0 ≤ (x5_1 : Int) := of_decide_eq_true (by first | (with_reducible assumption) | assumption)
               have q159 : x5_1 < (l0.length : Int) := of_decide_eq_true (by first | (with_reducible assumption) | assumption)
               obtain ⟨ad159, A159_9, c159_9, e159, hx159_0, hx159_1, hx159_2, hx159_3, hx159_4, hx159_5, hx159_6, hx159_7, hx159_8, hx159_9, hl159_9, hi159_9⟩ := at_T53 HR0.out x5_1 p159 q159
               cases e159
               have HR159_9 := Aside0.mk hi159_9
               have HC159_9 := Aside0.mk hl159_9
               clear hi159_9 hl159_9
               replace p159 := eq_true p159
               replace q159 := eq_true q159
               have p160 : 0 ≤ (x5_1 : Int) := of_decide_eq_true (by first | (with_reducible assumption) | assumption)
               have q160 : x5_1 < (l0.length : Int) := of_decide_eq_true (by first | (with_reducible assumption) | assumption)
               obtain ⟨ad160, A160_9, c160_9, e160, hx160_0, hx160_1, hx160_2, hx160_3, hx160_4, hx160_5, hx160_6, hx160_7, hx160_8, hx160_9, hl160_9, hi160_9⟩ := at_T53 HR0.out x5_1 p160 q160
               obtain rfl : ad159 = ad160 := (by injection e160)
               have HR160_9 := Aside0.mk hi160_9
               have HC160_9 := Aside0.mk hl160_9
               clear hi160_9 hl160_9
               replace p160 := eq_true p160
               replace q160 := eq_true q160
               have ea_ := Option.some.inj (hx159_9.symm.trans hx160_9)
               injection ea_ with ea_ en_ ec_
               subst ea_
               subst ec_
               clear en_
               have p161 : 0 ≤ (x5_1 : Int) := of_decide_eq_true (by first | (with_reducible assumption) | assumption)
               have q161 : x5_1 < (l0.length : Int) := of_decide_eq_true (by first | (with_reducible assumption) | assumption)
               obtain ⟨ad161, A161_9, c161_9, e161, hx161_0, hx161_1, hx161_2, hx161_3, hx161_4, hx161_5, hx161_6, hx161_7, hx161_8, hx161_9, hl161_9, hi161_9⟩ := at_T53 HR0.out x5_1 p161 q161
               obtain rfl : ad159 = ad161 := (by injection e161)
               have HR161_9 := Aside0.mk hi161_9
               have HC161_9 := Aside0.mk hl161_9
               clear hi161_9 hl161_9
               replace p161 := eq_true p161
               replace q161 := eq_true q161
               have ea_ := Option.some.inj (hx159_9.symm.trans hx161_9)
               injection ea_ with ea_ en_ ec_
               subst ea_
               subst ec_
               clear en_
               have p162 : 0 ≤ (x5_1 : Int) := of_decide_eq_true (by first | (with_reducible assumption) | assumption)
               have q162 : x5_1 < (l0.length : Int) := of_decide_eq_true (by first | (with_reducible assumption) | assumption)
               obtain ⟨ad162, A162_9, c162_9, e162, hx162_0, hx162_1, hx162_2, hx162_3, hx162_4, hx162_5, hx162_6, hx162_7, hx162_8, hx162_9, hl162_9, hi162_9⟩ := at_T53 HR0.out x5_1 p162 q162
               obtain rfl : ad159 = ad162 := (by injection e162)
               have HR162_9 := Aside0.mk hi162_9
               have HC162_9 := Aside0.mk hl162_9
               clear hi162_9 hl162_9
               replace p162 := eq_true p162
               replace q162 := eq_true q162
               have ea_ := Option.some.inj (hx159_9.symm.trans hx162_9)
               injection ea_ with ea_ en_ ec_
               subst ea_
               subst ec_
               clear en_
               have p163 : 0 ≤ (x5_1 : Int) := of_decide_eq_true (by first | (with_reducible assumption) | assumption)
               have q163 : x5_1 < (l0.length : Int) := of_decide_eq_true (by first | (with_reducible assumption) | assumption)
               obtain ⟨ad163, A163_9, c163_9, e163, hx163_0, hx163_1, hx163_2, hx163_3, hx163_4, hx163_5, hx163_6, hx163_7, hx163_8, hx163_9, hl163_9, hi163_9⟩ := at_T53 HR0.out x5_1 p163 q163
               obtain rfl : ad159 = ad163 := (by injection e163)
               have HR163_9 := Aside0.mk hi163_9
               have HC163_9 := Aside0.mk hl163_9
               clear hi163_9 hl163_9
               replace p163 := eq_true p163
               replace q163 := eq_true q163
               have ea_ := Option.some.inj (hx159_9.symm.trans hx163_9)
               injection ea_ with ea_ en_ ec_
               subst ea_
               subst ec_
               clear en_
               have p164 : 0 ≤ (x5_1 : Int) := of_decide_eq_true (by first | (with_reducible assumption) | assumption)
               have q164 : x5_1 < (l0.length : Int) := of_decide_eq_true (by first | (with_reducible assumption) | assumption)
               obtain ⟨ad164, A164_9, c164_9, e164, hx164_0, hx164_1, hx164_2, hx164_3, hx164_4, hx164_5, hx164_6, hx164_7, hx164_8, hx164_9, hl164_9, hi164_9⟩ := at_T53 HR0.out x5_1 p164 q164
               obtain rfl : ad159 = ad164 := (by injection e164)
               have HR164_9 := Aside0.mk hi164_9
               have HC164_9 := Aside0.mk hl164_9
               clear hi164_9 hl164_9
               replace p164 := eq_true p164
               replace q164 := eq_true q164
               have ea_ := Option.some.inj (hx159_9.symm.trans hx164_9)
               injection ea_ with ea_ en_ ec_
               subst ea_
               subst ec_
               clear en_
               have p165 : 0 ≤ (x5_1 : Int) := of_decide_eq_true (by first | (with_reducible assumption) | assumption)
               have q165 : x5_1 < (l0.length : Int) := of_decide_eq_true (by first | (with_reducible assumption) | assumption)
               obtain ⟨ad165, A165_9, c165_9, e165, hx165_0, hx165_1, hx165_2, hx165_3, hx165_4, hx165_5, hx165_6, hx165_7, hx165_8, hx165_9, hl165_9, hi165_9⟩ := at_T53 HR0.out x5_1 p165 q165
               obtain rfl : ad159 = ad165 := (by injection e165)
               have HR165_9 := Aside0.mk hi165_9
               have HC165_9 := Aside0.mk hl165_9
               clear hi165_9 hl165_9
               replace p165 := eq_true p165
               replace q165 := eq_true q165
               have ea_ := Option.some.inj (hx159_9.symm.trans hx165_9)
               injection ea_ with ea_ en_ ec_
               subst ea_
               subst ec_
               clear en_
               have p166 : 0 ≤ (x5_1 : Int) := of_decide_eq_true (by first | (with_reducible assumption) | assumption)
               have q166 : x5_1 < (l0.length : Int) := of_decide_eq_true (by first | (with_reducible assumption) | assumption)
               obtain ⟨ad166, A166_9, c166_9, e166, hx166_0, hx166_1, hx166_2, hx166_3, hx166_4, hx166_5, hx166_6, hx166_7, hx166_8, hx166_9, hl166_9, hi166_9⟩ := at_T53 HR0.out x5_1 p166 q166
               obtain rfl : ad159 = ad166 := (by injection e166)
               have HR166_9 := Aside0.mk hi166_9
               have HC166_9 := Aside0.mk hl166_9
               clear hi166_9 hl166_9
               replace p166 := eq_true p166
               replace q166 := eq_true q166
               have ea_ := Option.some.inj (hx159_9.symm.trans hx166_9)
               injection ea_ with ea_ en_ ec_
               subst ea_
               subst ec_
               clear en_
               have p167 : 0 ≤ (x5_1 : Int) := of_decide_eq_true (by first | (with_reducible assumption) | assumption)
               have q167 : x5_1 < (l0.length : Int) := of_decide_eq_true (by first | (with_reducible assumption) | assumption)
               obtain ⟨ad167, A167_9, c167_9, e167, hx167_0, hx167_1, hx167_2, hx167_3, hx167_4, hx167_5, hx167_6, hx167_7, hx167_8, hx167_9, hl167_9, hi167_9⟩ := at_T53 HR0.out x5_1 p167 q167
               obtain rfl : ad159 = ad167 := (by injection e167)
               have HR167_9 := Aside0.mk hi167_9
               have HC167_9 := Aside0.mk hl167_9
               clear hi167_9 hl167_9
               replace p167 := eq_true p167
               replace q167 := eq_true q167
               have ea_ := Option.some.inj (hx159_9.symm.trans hx167_9)
               injection ea_ with ea_ en_ ec_
               subst ea_
               subst ec_
               clear en_
               have p168 : 0 ≤ (x5_1 : Int) := of_decide_eq_true (by first | (with_reducible assumption) | assumption)
               have q168 : x5_1 < (l0.length : Int) := of_decide_eq_true (by first | (with_reducible assumption) | assumption)
               obtain ⟨ad168, A168_9, c168_9, e168, hx168_0, hx168_1, hx168_2, hx168_3, hx168_4, hx168_5, hx168_6, hx168_7, hx168_8, hx168_9, hl168_9, hi168_9⟩ := at_T53 HR0.out x5_1 p168 q168
               obtain rfl : ad159 = ad168 := (by injection e168)
               have HR168_9 := Aside0.mk hi168_9
               have HC168_9 := Aside0.mk hl168_9
               clear hi168_9 hl168_9
               replace p168 := eq_true p168
               replace q168 := eq_true q168
               have ea_ := Option.some.inj (hx159_9.symm.trans hx168_9)
               injection ea_ with ea_ en_ ec_
               subst ea_
               subst ec_
               clear en_
               go_wp2_with (first | ((with_reducible refine gate_callee (f := 61) rfl ?_); refine goA (some 108) rfl rfl Try.func61 rfl #[.slice A159_9 ((rd_T53 l0 x5_1).f6.f1.f2).length c159_9, .int .i64 (wrap64 ((wrap64 ((wrap64 ((wrap64 ((wrap64 ((wrap64 ((wrap64 ((wrap64 ((wrap64 (x1_1 + 1)) + 1)) + 1)) + 1)) + 1)) + 1)) + 1)) + 1)) + 1))] rfl ?_; (with_reducible refine (laws_heldByteS.calls k1 _ _ ((rd_T53 l0 x5_1).f6.f1.f2) (wrap64 ((wrap64 ((wrap64 ((wrap64 ((wrap64 ((wrap64 ((wrap64 ((wrap64 ((wrap64 (x1_1 + 1)) + 1)) + 1)) + 1)) + 1)) + 1)) + 1)) + 1)) + 1)) t169 _ ?side1 ?side2 A14.out).mono ?_); (case side1 => repeat (first | exact HR168_9.out | (with_reducible refine Kd.C_alloc ?_ _) | (with_reducible refine Kd.C_drewN ?_ _) | (with_reducible refine Kd.C_drew ?_))); (case side2 => exact HC168_9.out); rintro e w' ⟨rfl, ⟨nd, rfl⟩⟩; refine ⟨_, rfl, ?_⟩))
               go_ret
               exact ⟨by first | rfl | (simp; done) | (simp [*]; done), drw⟩
              ·
               rw [if_neg c15] at H
               have c15b0 : decide (t169 < 0) = false := decide_eq_false c15
               clear c15
               have H' := Aside0.mk H
               clear H
               have p159 : 0 ≤ (x5_1 : Int) := of_decide_eq_true (by first | (with_reducible assumption) | assumption)
               have q159 : x5_1 < (l0.length : Int) := of_decide_eq_true (by first | (with_reducible assumption) | assumption)
               obtain ⟨ad159, A159_9, c159_9, e159, hx159_0, hx159_1, hx159_2, hx159_3, hx159_4, hx159_5, hx159_6, hx159_7, hx159_8, hx159_9, hl159_9, hi159_9⟩ := at_T53 HR0.out x5_1 p159 q159
               cases e159
               have HR159_9 := Aside0.mk hi159_9
               have HC159_9 := Aside0.mk hl159_9
               clear hi159_9 hl159_9
               replace p159 := eq_true p159
               replace q159 := eq_true q159
               have p160 : 0 ≤ (x5_1 : Int) := of_decide_eq_true (by first | (with_reducible assumption) | assumption)
               have q160 : x5_1 < (l0.length : Int) := of_decide_eq_true (by first | (with_reducible assumption) | assumption)
               obtain ⟨ad160, A160_9, c160_9, e160, hx160_0, hx160_1, hx160_2, hx160_3, hx160_4, hx160_5, hx160_6, hx160_7, hx160_8, hx160_9, hl160_9, hi160_9⟩ := at_T53 HR0.out x5_1 p160 q160
               obtain rfl : ad159 = ad160 := (by injection e160)
               have HR160_9 := Aside0.mk hi160_9
               have HC160_9 := Aside0.mk hl160_9
               clear hi160_9 hl160_9
               replace p160 := eq_true p160
               replace q160 := eq_true q160
               have ea_ := Option.some.inj (hx159_9.symm.trans hx160_9)
               injection ea_ with ea_ en_ ec_
               subst ea_
               subst ec_
               clear en_
               have p161 : 0 ≤ (x5_1 : Int) := of_decide_eq_true (by first | (with_reducible assumption) | assumption)
               have q161 : x5_1 < (l0.length : Int) := of_decide_eq_true (by first | (with_reducible assumption) | assumption)
               obtain ⟨ad161, A161_9, c161_9, e161, hx161_0, hx161_1, hx161_2, hx161_3, hx161_4, hx161_5, hx161_6, hx161_7, hx161_8, hx161_9, hl161_9, hi161_9⟩ := at_T53 HR0.out x5_1 p161 q161
               obtain rfl : ad159 = ad161 := (by injection e161)
               have HR161_9 := Aside0.mk hi161_9
               have HC161_9 := Aside0.mk hl161_9
               clear hi161_9 hl161_9
               replace p161 := eq_true p161
               replace q161 := eq_true q161
               have ea_ := Option.some.inj (hx159_9.symm.trans hx161_9)
               injection ea_ with ea_ en_ ec_
               subst ea_
               subst ec_
               clear en_
               have p162 : 0 ≤ (x5_1 : Int) := of_decide_eq_true (by first | (with_reducible assumption) | assumption)
               have q162 : x5_1 < (l0.length : Int) := of_decide_eq_true (by first | (with_reducible assumption) | assumption)
               obtain ⟨ad162, A162_9, c162_9, e162, hx162_0, hx162_1, hx162_2, hx162_3, hx162_4, hx162_5, hx162_6, hx162_7, hx162_8, hx162_9, hl162_9, hi162_9⟩ := at_T53 HR0.out x5_1 p162 q162
               obtain rfl : ad159 = ad162 := (by injection e162)
               have HR162_9 := Aside0.mk hi162_9
               have HC162_9 := Aside0.mk hl162_9
               clear hi162_9 hl162_9
               replace p162 := eq_true p162
               replace q162 := eq_true q162
               have ea_ := Option.some.inj (hx159_9.symm.trans hx162_9)
               injection ea_ with ea_ en_ ec_
               subst ea_
               subst ec_
               clear en_
               have p163 : 0 ≤ (x5_1 : Int) := of_decide_eq_true (by first | (with_reducible assumption) | assumption)
               have q163 : x5_1 < (l0.length : Int) := of_decide_eq_true (by first | (with_reducible assumption) | assumption)
               obtain ⟨ad163, A163_9, c163_9, e163, hx163_0, hx163_1, hx163_2, hx163_3, hx163_4, hx163_5, hx163_6, hx163_7, hx163_8, hx163_9, hl163_9, hi163_9⟩ := at_T53 HR0.out x5_1 p163 q163
               obtain rfl : ad159 = ad163 := (by injection e163)
               have HR163_9 := Aside0.mk hi163_9
               have HC163_9 := Aside0.mk hl163_9
               clear hi163_9 hl163_9
               replace p163 := eq_true p163
               replace q163 := eq_true q163
               have ea_ := Option.some.inj (hx159_9.symm.trans hx163_9)
               injection ea_ with ea_ en_ ec_
               subst ea_
               subst ec_
               clear en_
               have p164 : 0 ≤ (x5_1 : Int) := of_decide_eq_true (by first | (with_reducible assumption) | assumption)
               have q164 : x5_1 < (l0.length : Int) := of_decide_eq_true (by first | (with_reducible assumption) | assumption)
               obtain ⟨ad164, A164_9, c164_9, e164, hx164_0, hx164_1, hx164_2, hx164_3, hx164_4, hx164_5, hx164_6, hx164_7, hx164_8, hx164_9, hl164_9, hi164_9⟩ := at_T53 HR0.out x5_1 p164 q164
               obtain rfl : ad159 = ad164 := (by injection e164)
               have HR164_9 := Aside0.mk hi164_9
               have HC164_9 := Aside0.mk hl164_9
               clear hi164_9 hl164_9
               replace p164 := eq_true p164
               replace q164 := eq_true q164
               have ea_ := Option.some.inj (hx159_9.symm.trans hx164_9)
               injection ea_ with ea_ en_ ec_
               subst ea_
               subst ec_
               clear en_
               have p165 : 0 ≤ (x5_1 : Int) := of_decide_eq_true (by first | (with_reducible assumption) | assumption)
               have q165 : x5_1 < (l0.length : Int) := of_decide_eq_true (by first | (with_reducible assumption) | assumption)
               obtain ⟨ad165, A165_9, c165_9, e165, hx165_0, hx165_1, hx165_2, hx165_3, hx165_4, hx165_5, hx165_6, hx165_7, hx165_8, hx165_9, hl165_9, hi165_9⟩ := at_T53 HR0.out x5_1 p165 q165
               obtain rfl : ad159 = ad165 := (by injection e165)
               have HR165_9 := Aside0.mk hi165_9
               have HC165_9 := Aside0.mk hl165_9
               clear hi165_9 hl165_9
               replace p165 := eq_true p165
               replace q165 := eq_true q165
               have ea_ := Option.some.inj (hx159_9.symm.trans hx165_9)
               injection ea_ with ea_ en_ ec_
               subst ea_
               subst ec_
               clear en_
               have p166 : 0 ≤ (x5_1 : Int) := of_decide_eq_true (by first | (with_reducible assumption) | assumption)
               have q166 : x5_1 < (l0.length : Int) := of_decide_eq_true (by first | (with_reducible assumption) | assumption)
               obtain ⟨ad166, A166_9, c166_9, e166, hx166_0, hx166_1, hx166_2, hx166_3, hx166_4, hx166_5, hx166_6, hx166_7, hx166_8, hx166_9, hl166_9, hi166_9⟩ := at_T53 HR0.out x5_1 p166 q166
               obtain rfl : ad159 = ad166 := (by injection e166)
               have HR166_9 := Aside0.mk hi166_9
               have HC166_9 := Aside0.mk hl166_9
               clear hi166_9 hl166_9
               replace p166 := eq_true p166
               replace q166 := eq_true q166
               have ea_ := Option.some.inj (hx159_9.symm.trans hx166_9)
               injection ea_ with ea_ en_ ec_
               subst ea_
               subst ec_
               clear en_
               have p167 : 0 ≤ (x5_1 : Int) := of_decide_eq_true (by first | (with_reducible assumption) | assumption)
               have q167 : x5_1 < (l0.length : Int) := of_decide_eq_true (by first | (with_reducible assumption) | assumption)
               obtain ⟨ad167, A167_9, c167_9, e167, hx167_0, hx167_1, hx167_2, hx167_3, hx167_4, hx167_5, hx167_6, hx167_7, hx167_8, hx167_9, hl167_9, hi167_9⟩ := at_T53 HR0.out x5_1 p167 q167
               obtain rfl : ad159 = ad167 := (by injection e167)
               have HR167_9 := Aside0.mk hi167_9
               have HC167_9 := Aside0.mk hl167_9
               clear hi167_9 hl167_9
               replace p167 := eq_true p167
               replace q167 := eq_true q167
               have ea_ := Option.some.inj (hx159_9.symm.trans hx167_9)
               injection ea_ with ea_ en_ ec_
               subst ea_
               subst ec_
               clear en_
               have p168 : 0 ≤ (x5_1 : Int) := of_decide_eq_true (by first | (with_reducible assumption) | assumption)
               have q168 : x5_1 < (l0.length : Int) := of_decide_eq_true (by first | (with_reducible assumption) | assumption)
               obtain ⟨ad168, A168_9, c168_9, e168, hx168_0, hx168_1, hx168_2, hx168_3, hx168_4, hx168_5, hx168_6, hx168_7, hx168_8, hx168_9, hl168_9, hi168_9⟩ := at_T53 HR0.out x5_1 p168 q168
               obtain rfl : ad159 = ad168 := (by injection e168)
               have HR168_9 := Aside0.mk hi168_9
               have HC168_9 := Aside0.mk hl168_9
               clear hi168_9 hl168_9
               replace p168 := eq_true p168
               replace q168 := eq_true q168
               have ea_ := Option.some.inj (hx159_9.symm.trans hx168_9)
               injection ea_ with ea_ en_ ec_
               subst ea_
               subst ec_
               clear en_
               go_wp2_with (first | ((with_reducible refine gate_callee (f := 61) rfl ?_); refine goA (some 108) rfl rfl Try.func61 rfl #[.slice A159_9 ((rd_T53 l0 x5_1).f6.f1.f2).length c159_9, .int .i64 (wrap64 ((wrap64 ((wrap64 ((wrap64 ((wrap64 ((wrap64 ((wrap64 ((wrap64 ((wrap64 (x1_1 + 1)) + 1)) + 1)) + 1)) + 1)) + 1)) + 1)) + 1)) + 1))] rfl ?_; (with_reducible refine (laws_heldByteS.calls k1 _ _ ((rd_T53 l0 x5_1).f6.f1.f2) (wrap64 ((wrap64 ((wrap64 ((wrap64 ((wrap64 ((wrap64 ((wrap64 ((wrap64 ((wrap64 (x1_1 + 1)) + 1)) + 1)) + 1)) + 1)) + 1)) + 1)) + 1)) + 1)) t169 _ ?side1 ?side2 A14.out).mono ?_); (case side1 => repeat (first | exact HR168_9.out | (with_reducible refine Kd.C_alloc ?_ _) | (with_reducible refine Kd.C_drewN ?_ _) | (with_reducible refine Kd.C_drew ?_))); (case side2 => exact HC168_9.out); rintro e w' ⟨rfl, ⟨nd, rfl⟩⟩; refine ⟨_, rfl, ?_⟩))
               go_roundg k1
               case measure => have := HK1.out; omega
               case rel => exact ⟨(t169), (wrap64 (x5_1 + 1)), (by first | rfl | (simp; done) | (simp [*]; done)), (by first | rfl | (simp; done) | (simp [*]; done)), H', ⟨by have := HK1.out; omega⟩, drw⟩
             ·
              rw [if_neg c13] at H
              have c13b0 : (((rd_T53 l0 x5_1).f6.f1.f1) == (wrap64 ((wrap64 ((wrap64 ((wrap64 ((wrap64 ((wrap64 ((wrap64 ((wrap64 (x1_1 + 1)) + 1)) + 1)) + 1)) + 1)) + 1)) + 1)) + 1))) = false := beq_eq_false_iff_ne.mpr c13
              have c13b1 : (((rd_T53 l0 x5_1).f6.f1.f1) != (wrap64 ((wrap64 ((wrap64 ((wrap64 ((wrap64 ((wrap64 ((wrap64 ((wrap64 (x1_1 + 1)) + 1)) + 1)) + 1)) + 1)) + 1)) + 1)) + 1))) = true := bne_iff_ne.mpr c13
              obtain rfl := Option.some.inj H
              have p159 : 0 ≤ (x5_1 : Int) := of_decide_eq_true (by first | (with_reducible assumption) | assumption)
              have q159 : x5_1 < (l0.length : Int) := of_decide_eq_true (by first | (with_reducible assumption) | assumption)
              obtain ⟨ad159, A159_9, c159_9, e159, hx159_0, hx159_1, hx159_2, hx159_3, hx159_4, hx159_5, hx159_6, hx159_7, hx159_8, hx159_9, hl159_9, hi159_9⟩ := at_T53 HR0.out x5_1 p159 q159
              cases e159
              have HR159_9 := Aside0.mk hi159_9
              have HC159_9 := Aside0.mk hl159_9
              clear hi159_9 hl159_9
              replace p159 := eq_true p159
              replace q159 := eq_true q159
              have p160 : 0 ≤ (x5_1 : Int) := of_decide_eq_true (by first | (with_reducible assumption) | assumption)
              have q160 : x5_1 < (l0.length : Int) := of_decide_eq_true (by first | (with_reducible assumption) | assumption)
              obtain ⟨ad160, A160_9, c160_9, e160, hx160_0, hx160_1, hx160_2, hx160_3, hx160_4, hx160_5, hx160_6, hx160_7, hx160_8, hx160_9, hl160_9, hi160_9⟩ := at_T53 HR0.out x5_1 p160 q160
              obtain rfl : ad159 = ad160 := (by injection e160)
              have HR160_9 := Aside0.mk hi160_9
              have HC160_9 := Aside0.mk hl160_9
              clear hi160_9 hl160_9
              replace p160 := eq_true p160
              replace q160 := eq_true q160
              have ea_ := Option.some.inj (hx159_9.symm.trans hx160_9)
              injection ea_ with ea_ en_ ec_
              subst ea_
              subst ec_
              clear en_
              have p161 : 0 ≤ (x5_1 : Int) := of_decide_eq_true (by first | (with_reducible assumption) | assumption)
              have q161 : x5_1 < (l0.length : Int) := of_decide_eq_true (by first | (with_reducible assumption) | assumption)
              obtain ⟨ad161, A161_9, c161_9, e161, hx161_0, hx161_1, hx161_2, hx161_3, hx161_4, hx161_5, hx161_6, hx161_7, hx161_8, hx161_9, hl161_9, hi161_9⟩ := at_T53 HR0.out x5_1 p161 q161
              obtain rfl : ad159 = ad161 := (by injection e161)
              have HR161_9 := Aside0.mk hi161_9
              have HC161_9 := Aside0.mk hl161_9
              clear hi161_9 hl161_9
              replace p161 := eq_true p161
              replace q161 := eq_true q161
              have ea_ := Option.some.inj (hx159_9.symm.trans hx161_9)
              injection ea_ with ea_ en_ ec_
              subst ea_
              subst ec_
              clear en_
              have p162 : 0 ≤ (x5_1 : Int) := of_decide_eq_true (by first | (with_reducible assumption) | assumption)
              have q162 : x5_1 < (l0.length : Int) := of_decide_eq_true (by first | (with_reducible assumption) | assumption)
              obtain ⟨ad162, A162_9, c162_9, e162, hx162_0, hx162_1, hx162_2, hx162_3, hx162_4, hx162_5, hx162_6, hx162_7, hx162_8, hx162_9, hl162_9, hi162_9⟩ := at_T53 HR0.out x5_1 p162 q162
              obtain rfl : ad159 = ad162 := (by injection e162)
              have HR162_9 := Aside0.mk hi162_9
              have HC162_9 := Aside0.mk hl162_9
              clear hi162_9 hl162_9
              replace p162 := eq_true p162
              replace q162 := eq_true q162
              have ea_ := Option.some.inj (hx159_9.symm.trans hx162_9)
              injection ea_ with ea_ en_ ec_
              subst ea_
              subst ec_
              clear en_
              have p163 : 0 ≤ (x5_1 : Int) := of_decide_eq_true (by first | (with_reducible assumption) | assumption)
              have q163 : x5_1 < (l0.length : Int) := of_decide_eq_true (by first | (with_reducible assumption) | assumption)
              obtain ⟨ad163, A163_9, c163_9, e163, hx163_0, hx163_1, hx163_2, hx163_3, hx163_4, hx163_5, hx163_6, hx163_7, hx163_8, hx163_9, hl163_9, hi163_9⟩ := at_T53 HR0.out x5_1 p163 q163
              obtain rfl : ad159 = ad163 := (by injection e163)
              have HR163_9 := Aside0.mk hi163_9
              have HC163_9 := Aside0.mk hl163_9
              clear hi163_9 hl163_9
              replace p163 := eq_true p163
              replace q163 := eq_true q163
              have ea_ := Option.some.inj (hx159_9.symm.trans hx163_9)
              injection ea_ with ea_ en_ ec_
              subst ea_
              subst ec_
              clear en_
              have p164 : 0 ≤ (x5_1 : Int) := of_decide_eq_true (by first | (with_reducible assumption) | assumption)
              have q164 : x5_1 < (l0.length : Int) := of_decide_eq_true (by first | (with_reducible assumption) | assumption)
              obtain ⟨ad164, A164_9, c164_9, e164, hx164_0, hx164_1, hx164_2, hx164_3, hx164_4, hx164_5, hx164_6, hx164_7, hx164_8, hx164_9, hl164_9, hi164_9⟩ := at_T53 HR0.out x5_1 p164 q164
              obtain rfl : ad159 = ad164 := (by injection e164)
              have HR164_9 := Aside0.mk hi164_9
              have HC164_9 := Aside0.mk hl164_9
              clear hi164_9 hl164_9
              replace p164 := eq_true p164
              replace q164 := eq_true q164
              have ea_ := Option.some.inj (hx159_9.symm.trans hx164_9)
              injection ea_ with ea_ en_ ec_
              subst ea_
              subst ec_
              clear en_
              have p165 : 0 ≤ (x5_1 : Int) := of_decide_eq_true (by first | (with_reducible assumption) | assumption)
              have q165 : x5_1 < (l0.length : Int) := of_decide_eq_true (by first | (with_reducible assumption) | assumption)
              obtain ⟨ad165, A165_9, c165_9, e165, hx165_0, hx165_1, hx165_2, hx165_3, hx165_4, hx165_5, hx165_6, hx165_7, hx165_8, hx165_9, hl165_9, hi165_9⟩ := at_T53 HR0.out x5_1 p165 q165
              obtain rfl : ad159 = ad165 := (by injection e165)
              have HR165_9 := Aside0.mk hi165_9
              have HC165_9 := Aside0.mk hl165_9
              clear hi165_9 hl165_9
              replace p165 := eq_true p165
              replace q165 := eq_true q165
              have ea_ := Option.some.inj (hx159_9.symm.trans hx165_9)
              injection ea_ with ea_ en_ ec_
              subst ea_
              subst ec_
              clear en_
              have p166 : 0 ≤ (x5_1 : Int) := of_decide_eq_true (by first | (with_reducible assumption) | assumption)
              have q166 : x5_1 < (l0.length : Int) := of_decide_eq_true (by first | (with_reducible assumption) | assumption)
              obtain ⟨ad166, A166_9, c166_9, e166, hx166_0, hx166_1, hx166_2, hx166_3, hx166_4, hx166_5, hx166_6, hx166_7, hx166_8, hx166_9, hl166_9, hi166_9⟩ := at_T53 HR0.out x5_1 p166 q166
              obtain rfl : ad159 = ad166 := (by injection e166)
              have HR166_9 := Aside0.mk hi166_9
              have HC166_9 := Aside0.mk hl166_9
              clear hi166_9 hl166_9
              replace p166 := eq_true p166
              replace q166 := eq_true q166
              have ea_ := Option.some.inj (hx159_9.symm.trans hx166_9)
              injection ea_ with ea_ en_ ec_
              subst ea_
              subst ec_
              clear en_
              have p167 : 0 ≤ (x5_1 : Int) := of_decide_eq_true (by first | (with_reducible assumption) | assumption)
              have q167 : x5_1 < (l0.length : Int) := of_decide_eq_true (by first | (with_reducible assumption) | assumption)
              obtain ⟨ad167, A167_9, c167_9, e167, hx167_0, hx167_1, hx167_2, hx167_3, hx167_4, hx167_5, hx167_6, hx167_7, hx167_8, hx167_9, hl167_9, hi167_9⟩ := at_T53 HR0.out x5_1 p167 q167
              obtain rfl : ad159 = ad167 := (by injection e167)
              have HR167_9 := Aside0.mk hi167_9
              have HC167_9 := Aside0.mk hl167_9
              clear hi167_9 hl167_9
              replace p167 := eq_true p167
              replace q167 := eq_true q167
              have ea_ := Option.some.inj (hx159_9.symm.trans hx167_9)
              injection ea_ with ea_ en_ ec_
              subst ea_
              subst ec_
              clear en_
              go_wp2
              go_ret
              exact ⟨by first | rfl | (simp; done) | (simp [*]; done), drw⟩
            ·
             rw [if_neg c12] at H
             have c12b0 : (((rd_T53 l0 x5_1).f6.f1.f0) == (wrap64 ((wrap64 ((wrap64 ((wrap64 ((wrap64 ((wrap64 ((wrap64 (x1_1 + 1)) + 1)) + 1)) + 1)) + 1)) + 1)) + 1))) = false := beq_eq_false_iff_ne.mpr c12
             have c12b1 : (((rd_T53 l0 x5_1).f6.f1.f0) != (wrap64 ((wrap64 ((wrap64 ((wrap64 ((wrap64 ((wrap64 ((wrap64 (x1_1 + 1)) + 1)) + 1)) + 1)) + 1)) + 1)) + 1))) = true := bne_iff_ne.mpr c12
             obtain rfl := Option.some.inj H
             have p159 : 0 ≤ (x5_1 : Int) := of_decide_eq_true (by first | (with_reducible assumption) | assumption)
             have q159 : x5_1 < (l0.length : Int) := of_decide_eq_true (by first | (with_reducible assumption) | assumption)
             obtain ⟨ad159, A159_9, c159_9, e159, hx159_0, hx159_1, hx159_2, hx159_3, hx159_4, hx159_5, hx159_6, hx159_7, hx159_8, hx159_9, hl159_9, hi159_9⟩ := at_T53 HR0.out x5_1 p159 q159
             cases e159
             have HR159_9 := Aside0.mk hi159_9
             have HC159_9 := Aside0.mk hl159_9
             clear hi159_9 hl159_9
             replace p159 := eq_true p159
             replace q159 := eq_true q159
             have p160 : 0 ≤ (x5_1 : Int) := of_decide_eq_true (by first | (with_reducible assumption) | assumption)
             have q160 : x5_1 < (l0.length : Int) := of_decide_eq_true (by first | (with_reducible assumption) | assumption)
             obtain ⟨ad160, A160_9, c160_9, e160, hx160_0, hx160_1, hx160_2, hx160_3, hx160_4, hx160_5, hx160_6, hx160_7, hx160_8, hx160_9, hl160_9, hi160_9⟩ := at_T53 HR0.out x5_1 p160 q160
             obtain rfl : ad159 = ad160 := (by injection e160)
             have HR160_9 := Aside0.mk hi160_9
             have HC160_9 := Aside0.mk hl160_9
             clear hi160_9 hl160_9
             replace p160 := eq_true p160
             replace q160 := eq_true q160
             have ea_ := Option.some.inj (hx159_9.symm.trans hx160_9)
             injection ea_ with ea_ en_ ec_
             subst ea_
             subst ec_
             clear en_
             have p161 : 0 ≤ (x5_1 : Int) := of_decide_eq_true (by first | (with_reducible assumption) | assumption)
             have q161 : x5_1 < (l0.length : Int) := of_decide_eq_true (by first | (with_reducible assumption) | assumption)
             obtain ⟨ad161, A161_9, c161_9, e161, hx161_0, hx161_1, hx161_2, hx161_3, hx161_4, hx161_5, hx161_6, hx161_7, hx161_8, hx161_9, hl161_9, hi161_9⟩ := at_T53 HR0.out x5_1 p161 q161
             obtain rfl : ad159 = ad161 := (by injection e161)
             have HR161_9 := Aside0.mk hi161_9
             have HC161_9 := Aside0.mk hl161_9
             clear hi161_9 hl161_9
             replace p161 := eq_true p161
             replace q161 := eq_true q161
             have ea_ := Option.some.inj (hx159_9.symm.trans hx161_9)
             injection ea_ with ea_ en_ ec_
             subst ea_
             subst ec_
             clear en_
             have p162 : 0 ≤ (x5_1 : Int) := of_decide_eq_true (by first | (with_reducible assumption) | assumption)
             have q162 : x5_1 < (l0.length : Int) := of_decide_eq_true (by first | (with_reducible assumption) | assumption)
             obtain ⟨ad162, A162_9, c162_9, e162, hx162_0, hx162_1, hx162_2, hx162_3, hx162_4, hx162_5, hx162_6, hx162_7, hx162_8, hx162_9, hl162_9, hi162_9⟩ := at_T53 HR0.out x5_1 p162 q162
             obtain rfl : ad159 = ad162 := (by injection e162)
             have HR162_9 := Aside0.mk hi162_9
             have HC162_9 := Aside0.mk hl162_9
             clear hi162_9 hl162_9
             replace p162 := eq_true p162
             replace q162 := eq_true q162
             have ea_ := Option.some.inj (hx159_9.symm.trans hx162_9)
             injection ea_ with ea_ en_ ec_
             subst ea_
             subst ec_
             clear en_
             have p163 : 0 ≤ (x5_1 : Int) := of_decide_eq_true (by first | (with_reducible assumption) | assumption)
             have q163 : x5_1 < (l0.length : Int) := of_decide_eq_true (by first | (with_reducible assumption) | assumption)
             obtain ⟨ad163, A163_9, c163_9, e163, hx163_0, hx163_1, hx163_2, hx163_3, hx163_4, hx163_5, hx163_6, hx163_7, hx163_8, hx163_9, hl163_9, hi163_9⟩ := at_T53 HR0.out x5_1 p163 q163
             obtain rfl : ad159 = ad163 := (by injection e163)
             have HR163_9 := Aside0.mk hi163_9
             have HC163_9 := Aside0.mk hl163_9
             clear hi163_9 hl163_9
             replace p163 := eq_true p163
             replace q163 := eq_true q163
             have ea_ := Option.some.inj (hx159_9.symm.trans hx163_9)
             injection ea_ with ea_ en_ ec_
             subst ea_
             subst ec_
             clear en_
             have p164 : 0 ≤ (x5_1 : Int) := of_decide_eq_true (by first | (with_reducible assumption) | assumption)
             have q164 : x5_1 < (l0.length : Int) := of_decide_eq_true (by first | (with_reducible assumption) | assumption)
             obtain ⟨ad164, A164_9, c164_9, e164, hx164_0, hx164_1, hx164_2, hx164_3, hx164_4, hx164_5, hx164_6, hx164_7, hx164_8, hx164_9, hl164_9, hi164_9⟩ := at_T53 HR0.out x5_1 p164 q164
             obtain rfl : ad159 = ad164 := (by injection e164)
             have HR164_9 := Aside0.mk hi164_9
             have HC164_9 := Aside0.mk hl164_9
             clear hi164_9 hl164_9
             replace p164 := eq_true p164
             replace q164 := eq_true q164
             have ea_ := Option.some.inj (hx159_9.symm.trans hx164_9)
             injection ea_ with ea_ en_ ec_
             subst ea_
             subst ec_
             clear en_
             have p165 : 0 ≤ (x5_1 : Int) := of_decide_eq_true (by first | (with_reducible assumption) | assumption)
             have q165 : x5_1 < (l0.length : Int) := of_decide_eq_true (by first | (with_reducible assumption) | assumption)
             obtain ⟨ad165, A165_9, c165_9, e165, hx165_0, hx165_1, hx165_2, hx165_3, hx165_4, hx165_5, hx165_6, hx165_7, hx165_8, hx165_9, hl165_9, hi165_9⟩ := at_T53 HR0.out x5_1 p165 q165
             obtain rfl : ad159 = ad165 := (by injection e165)
             have HR165_9 := Aside0.mk hi165_9
             have HC165_9 := Aside0.mk hl165_9
             clear hi165_9 hl165_9
             replace p165 := eq_true p165
             replace q165 := eq_true q165
             have ea_ := Option.some.inj (hx159_9.symm.trans hx165_9)
             injection ea_ with ea_ en_ ec_
             subst ea_
             subst ec_
             clear en_
             have p166 : 0 ≤ (x5_1 : Int) := of_decide_eq_true (by first | (with_reducible assumption) | assumption)
             have q166 : x5_1 < (l0.length : Int) := of_decide_eq_true (by first | (with_reducible assumption) | assumption)
             obtain ⟨ad166, A166_9, c166_9, e166, hx166_0, hx166_1, hx166_2, hx166_3, hx166_4, hx166_5, hx166_6, hx166_7, hx166_8, hx166_9, hl166_9, hi166_9⟩ := at_T53 HR0.out x5_1 p166 q166
             obtain rfl : ad159 = ad166 := (by injection e166)
             have HR166_9 := Aside0.mk hi166_9
             have HC166_9 := Aside0.mk hl166_9
             clear hi166_9 hl166_9
             replace p166 := eq_true p166
             replace q166 := eq_true q166
             have ea_ := Option.some.inj (hx159_9.symm.trans hx166_9)
             injection ea_ with ea_ en_ ec_
             subst ea_
             subst ec_
             clear en_
             go_wp2
             go_ret
             exact ⟨by first | rfl | (simp; done) | (simp [*]; done), drw⟩
           ·
            rw [if_neg c11] at H
            have c11b0 : (((rd_T53 l0 x5_1).f6.f0) == (wrap64 ((wrap64 ((wrap64 ((wrap64 ((wrap64 ((wrap64 (x1_1 + 1)) + 1)) + 1)) + 1)) + 1)) + 1))) = false := beq_eq_false_iff_ne.mpr c11
            have c11b1 : (((rd_T53 l0 x5_1).f6.f0) != (wrap64 ((wrap64 ((wrap64 ((wrap64 ((wrap64 ((wrap64 (x1_1 + 1)) + 1)) + 1)) + 1)) + 1)) + 1))) = true := bne_iff_ne.mpr c11
            obtain rfl := Option.some.inj H
            have p159 : 0 ≤ (x5_1 : Int) := of_decide_eq_true (by first | (with_reducible assumption) | assumption)
            have q159 : x5_1 < (l0.length : Int) := of_decide_eq_true (by first | (with_reducible assumption) | assumption)
            obtain ⟨ad159, A159_9, c159_9, e159, hx159_0, hx159_1, hx159_2, hx159_3, hx159_4, hx159_5, hx159_6, hx159_7, hx159_8, hx159_9, hl159_9, hi159_9⟩ := at_T53 HR0.out x5_1 p159 q159
            cases e159
            have HR159_9 := Aside0.mk hi159_9
            have HC159_9 := Aside0.mk hl159_9
            clear hi159_9 hl159_9
            replace p159 := eq_true p159
            replace q159 := eq_true q159
            have p160 : 0 ≤ (x5_1 : Int) := of_decide_eq_true (by first | (with_reducible assumption) | assumption)
            have q160 : x5_1 < (l0.length : Int) := of_decide_eq_true (by first | (with_reducible assumption) | assumption)
            obtain ⟨ad160, A160_9, c160_9, e160, hx160_0, hx160_1, hx160_2, hx160_3, hx160_4, hx160_5, hx160_6, hx160_7, hx160_8, hx160_9, hl160_9, hi160_9⟩ := at_T53 HR0.out x5_1 p160 q160
            obtain rfl : ad159 = ad160 := (by injection e160)
            have HR160_9 := Aside0.mk hi160_9
            have HC160_9 := Aside0.mk hl160_9
            clear hi160_9 hl160_9
            replace p160 := eq_true p160
            replace q160 := eq_true q160
            have ea_ := Option.some.inj (hx159_9.symm.trans hx160_9)
            injection ea_ with ea_ en_ ec_
            subst ea_
            subst ec_
            clear en_
            have p161 : 0 ≤ (x5_1 : Int) := of_decide_eq_true (by first | (with_reducible assumption) | assumption)
            have q161 : x5_1 < (l0.length : Int) := of_decide_eq_true (by first | (with_reducible assumption) | assumption)
            obtain ⟨ad161, A161_9, c161_9, e161, hx161_0, hx161_1, hx161_2, hx161_3, hx161_4, hx161_5, hx161_6, hx161_7, hx161_8, hx161_9, hl161_9, hi161_9⟩ := at_T53 HR0.out x5_1 p161 q161
            obtain rfl : ad159 = ad161 := (by injection e161)
            have HR161_9 := Aside0.mk hi161_9
            have HC161_9 := Aside0.mk hl161_9
            clear hi161_9 hl161_9
            replace p161 := eq_true p161
            replace q161 := eq_true q161
            have ea_ := Option.some.inj (hx159_9.symm.trans hx161_9)
            injection ea_ with ea_ en_ ec_
            subst ea_
            subst ec_
            clear en_
            have p162 : 0 ≤ (x5_1 : Int) := of_decide_eq_true (by first | (with_reducible assumption) | assumption)
            have q162 : x5_1 < (l0.length : Int) := of_decide_eq_true (by first | (with_reducible assumption) | assumption)
            obtain ⟨ad162, A162_9, c162_9, e162, hx162_0, hx162_1, hx162_2, hx162_3, hx162_4, hx162_5, hx162_6, hx162_7, hx162_8, hx162_9, hl162_9, hi162_9⟩ := at_T53 HR0.out x5_1 p162 q162
            obtain rfl : ad159 = ad162 := (by injection e162)
            have HR162_9 := Aside0.mk hi162_9
            have HC162_9 := Aside0.mk hl162_9
            clear hi162_9 hl162_9
            replace p162 := eq_true p162
            replace q162 := eq_true q162
            have ea_ := Option.some.inj (hx159_9.symm.trans hx162_9)
            injection ea_ with ea_ en_ ec_
            subst ea_
            subst ec_
            clear en_
            have p163 : 0 ≤ (x5_1 : Int) := of_decide_eq_true (by first | (with_reducible assumption) | assumption)
            have q163 : x5_1 < (l0.length : Int) := of_decide_eq_true (by first | (with_reducible assumption) | assumption)
            obtain ⟨ad163, A163_9, c163_9, e163, hx163_0, hx163_1, hx163_2, hx163_3, hx163_4, hx163_5, hx163_6, hx163_7, hx163_8, hx163_9, hl163_9, hi163_9⟩ := at_T53 HR0.out x5_1 p163 q163
            obtain rfl : ad159 = ad163 := (by injection e163)
            have HR163_9 := Aside0.mk hi163_9
            have HC163_9 := Aside0.mk hl163_9
            clear hi163_9 hl163_9
            replace p163 := eq_true p163
            replace q163 := eq_true q163
            have ea_ := Option.some.inj (hx159_9.symm.trans hx163_9)
            injection ea_ with ea_ en_ ec_
            subst ea_
            subst ec_
            clear en_
            have p164 : 0 ≤ (x5_1 : Int) := of_decide_eq_true (by first | (with_reducible assumption) | assumption)
            have q164 : x5_1 < (l0.length : Int) := of_decide_eq_true (by first | (with_reducible assumption) | assumption)
            obtain ⟨ad164, A164_9, c164_9, e164, hx164_0, hx164_1, hx164_2, hx164_3, hx164_4, hx164_5, hx164_6, hx164_7, hx164_8, hx164_9, hl164_9, hi164_9⟩ := at_T53 HR0.out x5_1 p164 q164
            obtain rfl : ad159 = ad164 := (by injection e164)
            have HR164_9 := Aside0.mk hi164_9
            have HC164_9 := Aside0.mk hl164_9
            clear hi164_9 hl164_9
            replace p164 := eq_true p164
            replace q164 := eq_true q164
            have ea_ := Option.some.inj (hx159_9.symm.trans hx164_9)
            injection ea_ with ea_ en_ ec_
            subst ea_
            subst ec_
            clear en_
            have p165 : 0 ≤ (x5_1 : Int) := of_decide_eq_true (by first | (with_reducible assumption) | assumption)
            have q165 : x5_1 < (l0.length : Int) := of_decide_eq_true (by first | (with_reducible assumption) | assumption)
            obtain ⟨ad165, A165_9, c165_9, e165, hx165_0, hx165_1, hx165_2, hx165_3, hx165_4, hx165_5, hx165_6, hx165_7, hx165_8, hx165_9, hl165_9, hi165_9⟩ := at_T53 HR0.out x5_1 p165 q165
            obtain rfl : ad159 = ad165 := (by injection e165)
            have HR165_9 := Aside0.mk hi165_9
            have HC165_9 := Aside0.mk hl165_9
            clear hi165_9 hl165_9
            replace p165 := eq_true p165
            replace q165 := eq_true q165
            have ea_ := Option.some.inj (hx159_9.symm.trans hx165_9)
            injection ea_ with ea_ en_ ec_
            subst ea_
            subst ec_
            clear en_
            go_wp2
            go_ret
            exact ⟨by first | rfl | (simp; done) | (simp [*]; done), drw⟩
         ·
          rw [if_neg c9] at H
          have c9b0 : (((rd_T53 l0 x5_1).f4) == (wrap64 ((wrap64 ((wrap64 ((wrap64 (x1_1 + 1)) + 1)) + 1)) + 1))) = false := beq_eq_false_iff_ne.mpr c9
          have c9b1 : (((rd_T53 l0 x5_1).f4) != (wrap64 ((wrap64 ((wrap64 ((wrap64 (x1_1 + 1)) + 1)) + 1)) + 1))) = true := bne_iff_ne.mpr c9
          obtain rfl := Option.some.inj H
          have p159 : 0 ≤ (x5_1 : Int) := of_decide_eq_true (by first | (with_reducible assumption) | assumption)
          have q159 : x5_1 < (l0.length : Int) := of_decide_eq_true (by first | (with_reducible assumption) | assumption)
          obtain ⟨ad159, A159_9, c159_9, e159, hx159_0, hx159_1, hx159_2, hx159_3, hx159_4, hx159_5, hx159_6, hx159_7, hx159_8, hx159_9, hl159_9, hi159_9⟩ := at_T53 HR0.out x5_1 p159 q159
          cases e159
          have HR159_9 := Aside0.mk hi159_9
          have HC159_9 := Aside0.mk hl159_9
          clear hi159_9 hl159_9
          replace p159 := eq_true p159
          replace q159 := eq_true q159
          have p160 : 0 ≤ (x5_1 : Int) := of_decide_eq_true (by first | (with_reducible assumption) | assumption)
          have q160 : x5_1 < (l0.length : Int) := of_decide_eq_true (by first | (with_reducible assumption) | assumption)
          obtain ⟨ad160, A160_9, c160_9, e160, hx160_0, hx160_1, hx160_2, hx160_3, hx160_4, hx160_5, hx160_6, hx160_7, hx160_8, hx160_9, hl160_9, hi160_9⟩ := at_T53 HR0.out x5_1 p160 q160
          obtain rfl : ad159 = ad160 := (by injection e160)
          have HR160_9 := Aside0.mk hi160_9
          have HC160_9 := Aside0.mk hl160_9
          clear hi160_9 hl160_9
          replace p160 := eq_true p160
          replace q160 := eq_true q160
          have ea_ := Option.some.inj (hx159_9.symm.trans hx160_9)
          injection ea_ with ea_ en_ ec_
          subst ea_
          subst ec_
          clear en_
          have p161 : 0 ≤ (x5_1 : Int) := of_decide_eq_true (by first | (with_reducible assumption) | assumption)
          have q161 : x5_1 < (l0.length : Int) := of_decide_eq_true (by first | (with_reducible assumption) | assumption)
          obtain ⟨ad161, A161_9, c161_9, e161, hx161_0, hx161_1, hx161_2, hx161_3, hx161_4, hx161_5, hx161_6, hx161_7, hx161_8, hx161_9, hl161_9, hi161_9⟩ := at_T53 HR0.out x5_1 p161 q161
          obtain rfl : ad159 = ad161 := (by injection e161)
          have HR161_9 := Aside0.mk hi161_9
          have HC161_9 := Aside0.mk hl161_9
          clear hi161_9 hl161_9
          replace p161 := eq_true p161
          replace q161 := eq_true q161
          have ea_ := Option.some.inj (hx159_9.symm.trans hx161_9)
          injection ea_ with ea_ en_ ec_
          subst ea_
          subst ec_
          clear en_
          have p162 : 0 ≤ (x5_1 : Int) := of_decide_eq_true (by first | (with_reducible assumption) | assumption)
          have q162 : x5_1 < (l0.length : Int) := of_decide_eq_true (by first | (with_reducible assumption) | assumption)
          obtain ⟨ad162, A162_9, c162_9, e162, hx162_0, hx162_1, hx162_2, hx162_3, hx162_4, hx162_5, hx162_6, hx162_7, hx162_8, hx162_9, hl162_9, hi162_9⟩ := at_T53 HR0.out x5_1 p162 q162
          obtain rfl : ad159 = ad162 := (by injection e162)
          have HR162_9 := Aside0.mk hi162_9
          have HC162_9 := Aside0.mk hl162_9
          clear hi162_9 hl162_9
          replace p162 := eq_true p162
          replace q162 := eq_true q162
          have ea_ := Option.some.inj (hx159_9.symm.trans hx162_9)
          injection ea_ with ea_ en_ ec_
          subst ea_
          subst ec_
          clear en_
          have p163 : 0 ≤ (x5_1 : Int) := of_decide_eq_true (by first | (with_reducible assumption) | assumption)
          have q163 : x5_1 < (l0.length : Int) := of_decide_eq_true (by first | (with_reducible assumption) | assumption)
          obtain ⟨ad163, A163_9, c163_9, e163, hx163_0, hx163_1, hx163_2, hx163_3, hx163_4, hx163_5, hx163_6, hx163_7, hx163_8, hx163_9, hl163_9, hi163_9⟩ := at_T53 HR0.out x5_1 p163 q163
          obtain rfl : ad159 = ad163 := (by injection e163)
          have HR163_9 := Aside0.mk hi163_9
          have HC163_9 := Aside0.mk hl163_9
          clear hi163_9 hl163_9
          replace p163 := eq_true p163
          replace q163 := eq_true q163
          have ea_ := Option.some.inj (hx159_9.symm.trans hx163_9)
          injection ea_ with ea_ en_ ec_
          subst ea_
          subst ec_
          clear en_
          go_wp2
          go_ret
          exact ⟨by first | rfl | (simp; done) | (simp [*]; done), drw⟩
        ·
         rw [if_neg c8] at H
         have c8b0 : (((rd_T53 l0 x5_1).f3) == (wrap64 ((wrap64 ((wrap64 (x1_1 + 1)) + 1)) + 1))) = false := beq_eq_false_iff_ne.mpr c8
         have c8b1 : (((rd_T53 l0 x5_1).f3) != (wrap64 ((wrap64 ((wrap64 (x1_1 + 1)) + 1)) + 1))) = true := bne_iff_ne.mpr c8
         obtain rfl := Option.some.inj H
         have p159 : 0 ≤ (x5_1 : Int) := of_decide_eq_true (by first | (with_reducible assumption) | assumption)
         have q159 : x5_1 < (l0.length : Int) := of_decide_eq_true (by first | (with_reducible assumption) | assumption)
         obtain ⟨ad159, A159_9, c159_9, e159, hx159_0, hx159_1, hx159_2, hx159_3, hx159_4, hx159_5, hx159_6, hx159_7, hx159_8, hx159_9, hl159_9, hi159_9⟩ := at_T53 HR0.out x5_1 p159 q159
         cases e159
         have HR159_9 := Aside0.mk hi159_9
         have HC159_9 := Aside0.mk hl159_9
         clear hi159_9 hl159_9
         replace p159 := eq_true p159
         replace q159 := eq_true q159
         have p160 : 0 ≤ (x5_1 : Int) := of_decide_eq_true (by first | (with_reducible assumption) | assumption)
         have q160 : x5_1 < (l0.length : Int) := of_decide_eq_true (by first | (with_reducible assumption) | assumption)
         obtain ⟨ad160, A160_9, c160_9, e160, hx160_0, hx160_1, hx160_2, hx160_3, hx160_4, hx160_5, hx160_6, hx160_7, hx160_8, hx160_9, hl160_9, hi160_9⟩ := at_T53 HR0.out x5_1 p160 q160
         obtain rfl : ad159 = ad160 := (by injection e160)
         have HR160_9 := Aside0.mk hi160_9
         have HC160_9 := Aside0.mk hl160_9
         clear hi160_9 hl160_9
         replace p160 := eq_true p160
         replace q160 := eq_true q160
         have ea_ := Option.some.inj (hx159_9.symm.trans hx160_9)
         injection ea_ with ea_ en_ ec_
         subst ea_
         subst ec_
         clear en_
         have p161 : 0 ≤ (x5_1 : Int) := of_decide_eq_true (by first | (with_reducible assumption) | assumption)
         have q161 : x5_1 < (l0.length : Int) := of_decide_eq_true (by first | (with_reducible assumption) | assumption)
         obtain ⟨ad161, A161_9, c161_9, e161, hx161_0, hx161_1, hx161_2, hx161_3, hx161_4, hx161_5, hx161_6, hx161_7, hx161_8, hx161_9, hl161_9, hi161_9⟩ := at_T53 HR0.out x5_1 p161 q161
         obtain rfl : ad159 = ad161 := (by injection e161)
         have HR161_9 := Aside0.mk hi161_9
         have HC161_9 := Aside0.mk hl161_9
         clear hi161_9 hl161_9
         replace p161 := eq_true p161
         replace q161 := eq_true q161
         have ea_ := Option.some.inj (hx159_9.symm.trans hx161_9)
         injection ea_ with ea_ en_ ec_
         subst ea_
         subst ec_
         clear en_
         have p162 : 0 ≤ (x5_1 : Int) := of_decide_eq_true (by first | (with_reducible assumption) | assumption)
         have q162 : x5_1 < (l0.length : Int) := of_decide_eq_true (by first | (with_reducible assumption) | assumption)
         obtain ⟨ad162, A162_9, c162_9, e162, hx162_0, hx162_1, hx162_2, hx162_3, hx162_4, hx162_5, hx162_6, hx162_7, hx162_8, hx162_9, hl162_9, hi162_9⟩ := at_T53 HR0.out x5_1 p162 q162
         obtain rfl : ad159 = ad162 := (by injection e162)
         have HR162_9 := Aside0.mk hi162_9
         have HC162_9 := Aside0.mk hl162_9
         clear hi162_9 hl162_9
         replace p162 := eq_true p162
         replace q162 := eq_true q162
         have ea_ := Option.some.inj (hx159_9.symm.trans hx162_9)
         injection ea_ with ea_ en_ ec_
         subst ea_
         subst ec_
         clear en_
         go_wp2
         go_ret
         exact ⟨by first | rfl | (simp; done) | (simp [*]; done), drw⟩
       ·
        rw [if_neg c7] at H
        have c7b0 : (((rd_T53 l0 x5_1).f2) == (wrap64 ((wrap64 (x1_1 + 1)) + 1))) = false := beq_eq_false_iff_ne.mpr c7
        have c7b1 : (((rd_T53 l0 x5_1).f2) != (wrap64 ((wrap64 (x1_1 + 1)) + 1))) = true := bne_iff_ne.mpr c7
        obtain rfl := Option.some.inj H
        have p159 : 0 ≤ (x5_1 : Int) := of_decide_eq_true (by first | (with_reducible assumption) | assumption)
        have q159 : x5_1 < (l0.length : Int) := of_decide_eq_true (by first | (with_reducible assumption) | assumption)
        obtain ⟨ad159, A159_9, c159_9, e159, hx159_0, hx159_1, hx159_2, hx159_3, hx159_4, hx159_5, hx159_6, hx159_7, hx159_8, hx159_9, hl159_9, hi159_9⟩ := at_T53 HR0.out x5_1 p159 q159
        cases e159
        have HR159_9 := Aside0.mk hi159_9
        have HC159_9 := Aside0.mk hl159_9
        clear hi159_9 hl159_9
        replace p159 := eq_true p159
        replace q159 := eq_true q159
        have p160 : 0 ≤ (x5_1 : Int) := of_decide_eq_true (by first | (with_reducible assumption) | assumption)
        have q160 : x5_1 < (l0.length : Int) := of_decide_eq_true (by first | (with_reducible assumption) | assumption)
        obtain ⟨ad160, A160_9, c160_9, e160, hx160_0, hx160_1, hx160_2, hx160_3, hx160_4, hx160_5, hx160_6, hx160_7, hx160_8, hx160_9, hl160_9, hi160_9⟩ := at_T53 HR0.out x5_1 p160 q160
        obtain rfl : ad159 = ad160 := (by injection e160)
        have HR160_9 := Aside0.mk hi160_9
        have HC160_9 := Aside0.mk hl160_9
        clear hi160_9 hl160_9
        replace p160 := eq_true p160
        replace q160 := eq_true q160
        have ea_ := Option.some.inj (hx159_9.symm.trans hx160_9)
        injection ea_ with ea_ en_ ec_
        subst ea_
        subst ec_
        clear en_
        have p161 : 0 ≤ (x5_1 : Int) := of_decide_eq_true (by first | (with_reducible assumption) | assumption)
        have q161 : x5_1 < (l0.length : Int) := of_decide_eq_true (by first | (with_reducible assumption) | assumption)
        obtain ⟨ad161, A161_9, c161_9, e161, hx161_0, hx161_1, hx161_2, hx161_3, hx161_4, hx161_5, hx161_6, hx161_7, hx161_8, hx161_9, hl161_9, hi161_9⟩ := at_T53 HR0.out x5_1 p161 q161
        obtain rfl : ad159 = ad161 := (by injection e161)
        have HR161_9 := Aside0.mk hi161_9
        have HC161_9 := Aside0.mk hl161_9
        clear hi161_9 hl161_9
        replace p161 := eq_true p161
        replace q161 := eq_true q161
        have ea_ := Option.some.inj (hx159_9.symm.trans hx161_9)
        injection ea_ with ea_ en_ ec_
        subst ea_
        subst ec_
        clear en_
        go_wp2
        go_ret
        exact ⟨by first | rfl | (simp; done) | (simp [*]; done), drw⟩
      ·
       rw [if_neg c6] at H
       have c6b0 : (((rd_T53 l0 x5_1).f1) == (wrap64 (x1_1 + 1))) = false := beq_eq_false_iff_ne.mpr c6
       have c6b1 : (((rd_T53 l0 x5_1).f1) != (wrap64 (x1_1 + 1))) = true := bne_iff_ne.mpr c6
       obtain rfl := Option.some.inj H
       have p159 : 0 ≤ (x5_1 : Int) := of_decide_eq_true (by first | (with_reducible assumption) | assumption)
       have q159 : x5_1 < (l0.length : Int) := of_decide_eq_true (by first | (with_reducible assumption) | assumption)
       obtain ⟨ad159, A159_9, c159_9, e159, hx159_0, hx159_1, hx159_2, hx159_3, hx159_4, hx159_5, hx159_6, hx159_7, hx159_8, hx159_9, hl159_9, hi159_9⟩ := at_T53 HR0.out x5_1 p159 q159
       cases e159
       have HR159_9 := Aside0.mk hi159_9
       have HC159_9 := Aside0.mk hl159_9
       clear hi159_9 hl159_9
       replace p159 := eq_true p159
       replace q159 := eq_true q159
       have p160 : 0 ≤ (x5_1 : Int) := of_decide_eq_true (by first | (with_reducible assumption) | assumption)
       have q160 : x5_1 < (l0.length : Int) := of_decide_eq_true (by first | (with_reducible assumption) | assumption)
       obtain ⟨ad160, A160_9, c160_9, e160, hx160_0, hx160_1, hx160_2, hx160_3, hx160_4, hx160_5, hx160_6, hx160_7, hx160_8, hx160_9, hl160_9, hi160_9⟩ := at_T53 HR0.out x5_1 p160 q160
       obtain rfl : ad159 = ad160 := (by injection e160)
       have HR160_9 := Aside0.mk hi160_9
       have HC160_9 := Aside0.mk hl160_9
       clear hi160_9 hl160_9
       replace p160 := eq_true p160
       replace q160 := eq_true q160
       have ea_ := Option.some.inj (hx159_9.symm.trans hx160_9)
       injection ea_ with ea_ en_ ec_
       subst ea_
       subst ec_
       clear en_
       go_wp2
       go_ret
       exact ⟨by first | rfl | (simp; done) | (simp [*]; done), drw⟩
     ·
      rw [if_neg c5] at H
      have c5b0 : (((rd_T53 l0 x5_1).f0) == x1_1) = false := beq_eq_false_iff_ne.mpr c5
      have c5b1 : (((rd_T53 l0 x5_1).f0) != x1_1) = true := bne_iff_ne.mpr c5
      obtain rfl := Option.some.inj H
      have p159 : 0 ≤ (x5_1 : Int) := of_decide_eq_true (by first | (with_reducible assumption) | assumption)
      have q159 : x5_1 < (l0.length : Int) := of_decide_eq_true (by first | (with_reducible assumption) | assumption)
      obtain ⟨ad159, A159_9, c159_9, e159, hx159_0, hx159_1, hx159_2, hx159_3, hx159_4, hx159_5, hx159_6, hx159_7, hx159_8, hx159_9, hl159_9, hi159_9⟩ := at_T53 HR0.out x5_1 p159 q159
      cases e159
      have HR159_9 := Aside0.mk hi159_9
      have HC159_9 := Aside0.mk hl159_9
      clear hi159_9 hl159_9
      replace p159 := eq_true p159
      replace q159 := eq_true q159
      go_wp2
      go_ret
      exact ⟨by first | rfl | (simp; done) | (simp [*]; done), drw⟩
    ·
     rw [if_neg c4] at H
     exact absurd H (by simp)
   ·
    rw [if_neg c3] at H
    have c3b0 : decide (x5_1 < (l0.length : Int)) = false := decide_eq_false c3
    clear c3
    obtain rfl := Option.some.inj H
    go_wp2
    go_ret
    exact ⟨by first | rfl | (simp; done) | (simp [*]; done), drw⟩

end Go.Proofs.Ytgfoifkkffffgaa.PFnExactNewNode
