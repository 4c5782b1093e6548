-- Laid by a turned copy of the printer (wip/tools/patch_print.py)
import Derived.Test.YtgfoifkkffffgabPFnExactAddEventx0
import Derived.Test.YtgfoifkkffffgabPFnExactAddEventx11
namespace Go.Proofs.Ytgfoifkkffffgab.PFnExactAddEvent
open Go.RowKit Go.Proofs.YtgfoifkkffffgabW.PrintWords Go.Proofs.YtgfoifkkffffgabW.PrintLast Go.Proofs.YtgfoifkkffffgabW.PrintMore
attribute [local go_sem] max2_int min2_int max_two min_two max_three min_three max_four min_four   -- for this text's walks alone
set_option linter.unusedVariables false
set_option linter.unusedSimpArgs false

/-! ### laws_heldMailS: function 71 -/
def laws_heldMailS.l0 : Nat → List (S57) → Int → Int → Option (Int)
 | 0, _, _, _ => none
 | k + 1, x0, x1, x5 => if x5 < (x0.length : Int) then (if 0 ≤ x5 then (if ((rd_T57 x0 x5).f0) = x1 then (if ((rd_T57 x0 x5).f1) = (wrap64 (x1 + 1)) then (if ((rd_T57 x0 x5).f2) = (wrap64 ((wrap64 (x1 + 1)) + 1)) then (if ((rd_T57 x0 x5).f3) = (wrap64 ((wrap64 ((wrap64 (x1 + 1)) + 1)) + 1)) then (if ((rd_T57 x0 x5).f4) = (wrap64 ((wrap64 ((wrap64 ((wrap64 (x1 + 1)) + 1)) + 1)) + 1)) then (if (((rd_T57 x0 x5).f5) != ((Int.tmod (wrap64 ((wrap64 ((wrap64 ((wrap64 ((wrap64 (x1 + 1)) + 1)) + 1)) + 1)) + 1)) 3) == 0)) = true then (some (-1)) else (if ((rd_T57 x0 x5).f6.f0) = (wrap64 ((wrap64 ((wrap64 ((wrap64 ((wrap64 ((wrap64 (x1 + 1)) + 1)) + 1)) + 1)) + 1)) + 1)) then (if ((rd_T57 x0 x5).f6.f1.f0) = (wrap64 ((wrap64 ((wrap64 ((wrap64 ((wrap64 ((wrap64 ((wrap64 (x1 + 1)) + 1)) + 1)) + 1)) + 1)) + 1)) + 1)) then (if ((rd_T57 x0 x5).f6.f1.f1) = (wrap64 ((wrap64 ((wrap64 ((wrap64 ((wrap64 ((wrap64 ((wrap64 ((wrap64 (x1 + 1)) + 1)) + 1)) + 1)) + 1)) + 1)) + 1)) + 1)) then ((laws_heldByteS.f k ((rd_T57 x0 x5).f6.f1.f2) (wrap64 ((wrap64 ((wrap64 ((wrap64 ((wrap64 ((wrap64 ((wrap64 ((wrap64 ((wrap64 (x1 + 1)) + 1)) + 1)) + 1)) + 1)) + 1)) + 1)) + 1)) + 1))).bind fun t411 => (if t411 < 0 then (some (-1)) else (laws_heldMailS.l0 k x0 t411 (wrap64 (x5 + 1))))) else (some (-1))) else (some (-1))) else (some (-1)))) else (some (-1))) else (some (-1))) else (some (-1))) else (some (-1))) else (some (-1))) else (none)) else (some x1)
def laws_heldMailS.f (k : Nat) (l0 : List (S57)) (a1 : Int) : Option (Int) := laws_heldMailS.l0 k l0 a1 0
theorem laws_heldMailS.mono_l : ∀ k, (∀ y0 y1 y2, LeO (laws_heldMailS.l0 k y0 y1 y2) (laws_heldMailS.l0 (k + 1) y0 y1 y2))
 | 0 => fun _ _ _ r h => by simp [laws_heldMailS.l0] at h
 | k + 1 => by
  have ih0 := laws_heldMailS.mono_l k
  intro y0 y1 y2
  unfold laws_heldMailS.l0
  repeat' first
  | (with_reducible exact ih0 _ _ _)
  | (with_reducible exact laws_heldByteS.mono _ _ _)
  | (with_reducible exact LeO.refl _)
  | (with_reducible exact LeO.none _)
  | (with_reducible refine LeO.ite ?_ ?_)
  | (with_reducible refine LeO.bind ?_ (fun _ => ?_))
  | exact ih0 _ _ _
  | exact laws_heldByteS.mono _ _ _
  | exact LeO.none _
  | refine LeO.ite ?_ ?_
  | refine LeO.bind ?_ (fun _ => ?_)
theorem laws_heldMailS.mono : ∀ a0 a1 k, LeO (laws_heldMailS.f k a0 a1) (laws_heldMailS.f (k + 1) a0 a1) := by
 intro a0 a1 k
 have ih0 := laws_heldMailS.mono_l k
 unfold laws_heldMailS.f
 repeat' first
   | (with_reducible exact ih0 _ _ _)
   | (with_reducible exact laws_heldByteS.mono _ _ _)
   | (with_reducible exact LeO.refl _)
   | (with_reducible exact LeO.none _)
   | (with_reducible refine LeO.ite ?_ ?_)
   | (with_reducible refine LeO.bind ?_ (fun _ => ?_))
   | exact ih0 _ _ _
   | exact laws_heldByteS.mono _ _ _
   | exact LeO.none _
   | refine LeO.ite ?_ ?_
   | refine LeO.bind ?_ (fun _ => ?_)
set_option maxHeartbeats 8000000 in
set_option maxRecDepth 100000 in
theorem laws_heldMailS.calls (k : Nat) (A0 : Option Addr) (c0 : Nat) (l0 : List (S57)) (a1 : Int) (r : Int) (w : World) (hr0 : Kd.C k57 w A0 l0.length l0) (hc0 : l0.length ≤ c0) (h : laws_heldMailS.f k l0 a1 = some r) :
  Calls Try.prog 71 #[.slice A0 l0.length c0, .int .i64 a1] w fun e w' => e = .returned (.int .i64 r) ∧ Drawn0 w w' := by
 have HR0 := Aside0.mk hr0
 have HC0 := Aside0.mk hc0
 clear hr0 hc0
 have H : (laws_heldMailS.l0 k l0 a1 0) = some r := h
 clear h
 have H' := Aside0.mk H
 clear H
 go_enter Try.func71, Try.ntmps71
 go_wp2
 go_loopg [1, 5] k (fun kq v1 v5 w' => ∃ (x1_1 : Int) (x5_1 : Int), v1 = .int .i64 x1_1 ∧ v5 = .int .i64 x5_1 ∧ Aside0 (laws_heldMailS.l0 kq l0 x1_1 x5_1 = some r) ∧ Aside0 (kq ≤ k) ∧ Drawn0 w w')
 case atStart => exact ⟨(a1), (0), (by first | rfl | (simp; done) | (simp [*]; done)), (by first | rfl | (simp; done) | (simp [*]; done)), H', ⟨Nat.le_refl _⟩, drw⟩
 case round =>
  clear H'
  try clear p2
  obtain ⟨x1_1, x5_1, rfl, rfl, HA, HK1, ⟨m1, rfl⟩⟩ := hrel
  cases gk with
  | zero => exact absurd HA.out (by simp [laws_heldMailS.l0])
  | succ k1 =>
   have H := HA.out
   clear HA
   simp only [laws_heldMailS.l0] at H
   by_cases c3 : x5_1 < (l0.length : Int)
   ·
    rw [if_pos c3] at H
    have c3b0 : decide (x5_1 < (l0.length : Int)) = true := decide_eq_true c3
    clear c3
    by_cases c4 : 0 ≤ x5_1
    ·
     rw [if_pos c4] at H
     have c4b0 : decide (0 ≤ x5_1) = true := decide_eq_true c4
     clear c4
     by_cases c5 : ((rd_T57 l0 x5_1).f0) = x1_1
     ·
      rw [if_pos c5] at H
      have c5b0 : (((rd_T57 l0 x5_1).f0) == x1_1) = true := beq_iff_eq.mpr c5
      have c5b1 : (((rd_T57 l0 x5_1).f0) != x1_1) = false := bne_eq_false_iff_eq.mpr c5
      clear c5
      by_cases c6 : ((rd_T57 l0 x5_1).f1) = (wrap64 (x1_1 + 1))
      ·
       rw [if_pos c6] at H
       have c6b0 : (((rd_T57 l0 x5_1).f1) == (wrap64 (x1_1 + 1))) = true := beq_iff_eq.mpr c6
       have c6b1 : (((rd_T57 l0 x5_1).f1) != (wrap64 (x1_1 + 1))) = false := bne_eq_false_iff_eq.mpr c6
       clear c6
       by_cases c7 : ((rd_T57 l0 x5_1).f2) = (wrap64 ((wrap64 (x1_1 + 1)) + 1))
       ·
        rw [if_pos c7] at H
        have c7b0 : (((rd_T57 l0 x5_1).f2) == (wrap64 ((wrap64 (x1_1 + 1)) + 1))) = true := beq_iff_eq.mpr c7
        have c7b1 : (((rd_T57 l0 x5_1).f2) != (wrap64 ((wrap64 (x1_1 + 1)) + 1))) = false := bne_eq_false_iff_eq.mpr c7
        clear c7
        by_cases c8 : ((rd_T57 l0 x5_1).f3) = (wrap64 ((wrap64 ((wrap64 (x1_1 + 1)) + 1)) + 1))
        ·
         rw [if_pos c8] at H
         have c8b0 : (((rd_T57 l0 x5_1).f3) == (wrap64 ((wrap64 ((wrap64 (x1_1 + 1)) + 1)) + 1))) = true := beq_iff_eq.mpr c8
         have c8b1 : (((rd_T57 l0 x5_1).f3) != (wrap64 ((wrap64 ((wrap64 (x1_1 + 1)) + 1)) + 1))) = false := bne_eq_false_iff_eq.mpr c8
         clear c8
         by_cases c9 : ((rd_T57 l0 x5_1).f4) = (wrap64 ((wrap64 ((wrap64 ((wrap64 (x1_1 + 1)) + 1)) + 1)) + 1))
         ·
          rw [if_pos c9] at H
          have c9b0 : (((rd_T57 l0 x5_1).f4) == (wrap64 ((wrap64 ((wrap64 ((wrap64 (x1_1 + 1)) + 1)) + 1)) + 1))) = true := beq_iff_eq.mpr c9
          have c9b1 : (((rd_T57 l0 x5_1).f4) != (wrap64 ((wrap64 ((wrap64 ((wrap64 (x1_1 + 1)) + 1)) + 1)) + 1))) = false := bne_eq_false_iff_eq.mpr c9
          clear c9
          by_cases c10 : (((rd_T57 l0 x5_1).f5) != ((Int.tmod (wrap64 ((wrap64 ((wrap64 ((wrap64 ((wrap64 (x1_1 + 1)) + 1)) + 1)) + 1)) + 1)) 3) == 0)) = true
          ·
           rw [if_pos c10] at H
           have c10b0 : (((rd_T57 l0 x5_1).f5) != ((Int.tmod (wrap64 ((wrap64 ((wrap64 ((wrap64 ((wrap64 (x1_1 + 1)) + 1)) + 1)) + 1)) + 1)) 3) == 0)) = true := c10
           (try (have c10b1 : decide (((rd_T57 l0 x5_1).f5) = ((Int.tmod (wrap64 ((wrap64 ((wrap64 ((wrap64 ((wrap64 (x1_1 + 1)) + 1)) + 1)) + 1)) + 1)) 3) == 0)) = false := by simpa using c10))
           (try (have c10b2 : (((rd_T57 l0 x5_1).f5) == ((Int.tmod (wrap64 ((wrap64 ((wrap64 ((wrap64 ((wrap64 (x1_1 + 1)) + 1)) + 1)) + 1)) + 1)) 3) == 0)) = false := by simpa using c10))
           (try (have c10b3 : ¬ (((rd_T57 l0 x5_1).f5) = ((Int.tmod (wrap64 ((wrap64 ((wrap64 ((wrap64 ((wrap64 (x1_1 + 1)) + 1)) + 1)) + 1)) + 1)) 3) == 0)) := by simpa using c10))
           clear c10
           obtain rfl := Option.some.inj H
           have p401 : 0 ≤ (x5_1 : Int) := of_decide_eq_true (by first | (with_reducible assumption) | assumption)
           have q401 : x5_1 < (l0.length : Int) := of_decide_eq_true (by first | (with_reducible assumption) | assumption)
           obtain ⟨ad401, A401_9, c401_9, e401, hx401_0, hx401_1, hx401_2, hx401_3, hx401_4, hx401_5, hx401_6, hx401_7, hx401_8, hx401_9, hl401_9, hi401_9⟩ := at_T57 HR0.out x5_1 p401 q401
           cases e401
           have HR401_9 := Aside0.mk hi401_9
           have HC401_9 := Aside0.mk hl401_9
           clear hi401_9 hl401_9
           replace p401 := eq_true p401
           replace q401 := eq_true q401
           have p402 : 0 ≤ (x5_1 : Int) := of_decide_eq_true (by first | (with_reducible assumption) | assumption)
           have q402 : x5_1 < (l0.length : Int) := of_decide_eq_true (by first | (with_reducible assumption) | assumption)
           obtain ⟨ad402, A402_9, c402_9, e402, hx402_0, hx402_1, hx402_2, hx402_3, hx402_4, hx402_5, hx402_6, hx402_7, hx402_8, hx402_9, hl402_9, hi402_9⟩ := at_T57 HR0.out x5_1 p402 q402
           obtain rfl : ad401 = ad402 := (by injection e402)
           have HR402_9 := Aside0.mk hi402_9
           have HC402_9 := Aside0.mk hl402_9
           clear hi402_9 hl402_9
           replace p402 := eq_true p402
           replace q402 := eq_true q402
           have ea_ := Option.some.inj (hx401_9.symm.trans hx402_9)
           injection ea_ with ea_ en_ ec_
           subst ea_
           subst ec_
           clear en_
           have p403 : 0 ≤ (x5_1 : Int) := of_decide_eq_true (by first | (with_reducible assumption) | assumption)
           have q403 : x5_1 < (l0.length : Int) := of_decide_eq_true (by first | (with_reducible assumption) | assumption)
           obtain ⟨ad403, A403_9, c403_9, e403, hx403_0, hx403_1, hx403_2, hx403_3, hx403_4, hx403_5, hx403_6, hx403_7, hx403_8, hx403_9, hl403_9, hi403_9⟩ := at_T57 HR0.out x5_1 p403 q403
           obtain rfl : ad401 = ad403 := (by injection e403)
           have HR403_9 := Aside0.mk hi403_9
           have HC403_9 := Aside0.mk hl403_9
           clear hi403_9 hl403_9
           replace p403 := eq_true p403
           replace q403 := eq_true q403
           have ea_ := Option.some.inj (hx401_9.symm.trans hx403_9)
           injection ea_ with ea_ en_ ec_
           subst ea_
           subst ec_
           clear en_
           have p404 : 0 ≤ (x5_1 : Int) := of_decide_eq_true (by first | (with_reducible assumption) | assumption)
           have q404 : x5_1 < (l0.length : Int) := of_decide_eq_true (by first | (with_reducible assumption) | assumption)
           obtain ⟨ad404, A404_9, c404_9, e404, hx404_0, hx404_1, hx404_2, hx404_3, hx404_4, hx404_5, hx404_6, hx404_7, hx404_8, hx404_9, hl404_9, hi404_9⟩ := at_T57 HR0.out x5_1 p404 q404
           obtain rfl : ad401 = ad404 := (by injection e404)
           have HR404_9 := Aside0.mk hi404_9
           have HC404_9 := Aside0.mk hl404_9
           clear hi404_9 hl404_9
           replace p404 := eq_true p404
           replace q404 := eq_true q404
           have ea_ := Option.some.inj (hx401_9.symm.trans hx404_9)
           injection ea_ with ea_ en_ ec_
           subst ea_
           subst ec_
           clear en_
           have p405 : 0 ≤ (x5_1 : Int) := of_decide_eq_true (by first | (with_reducible assumption) | assumption)
           have q405 : x5_1 < (l0.length : Int) := of_decide_eq_true (by first | (with_reducible assumption) | assumption)
           obtain ⟨ad405, A405_9, c405_9, e405, hx405_0, hx405_1, hx405_2, hx405_3, hx405_4, hx405_5, hx405_6, hx405_7, hx405_8, hx405_9, hl405_9, hi405_9⟩ := at_T57 HR0.out x5_1 p405 q405
           obtain rfl : ad401 = ad405 := (by injection e405)
           have HR405_9 := Aside0.mk hi405_9
           have HC405_9 := Aside0.mk hl405_9
           clear hi405_9 hl405_9
           replace p405 := eq_true p405
           replace q405 := eq_true q405
           have ea_ := Option.some.inj (hx401_9.symm.trans hx405_9)
           injection ea_ with ea_ en_ ec_
           subst ea_
           subst ec_
           clear en_
           have p406 : 0 ≤ (x5_1 : Int) := of_decide_eq_true (by first | (with_reducible assumption) | assumption)
           have q406 : x5_1 < (l0.length : Int) := of_decide_eq_true (by first | (with_reducible assumption) | assumption)
           obtain ⟨ad406, A406_9, c406_9, e406, hx406_0, hx406_1, hx406_2, hx406_3, hx406_4, hx406_5, hx406_6, hx406_7, hx406_8, hx406_9, hl406_9, hi406_9⟩ := at_T57 HR0.out x5_1 p406 q406
           obtain rfl : ad401 = ad406 := (by injection e406)
           have HR406_9 := Aside0.mk hi406_9
           have HC406_9 := Aside0.mk hl406_9
           clear hi406_9 hl406_9
           replace p406 := eq_true p406
           replace q406 := eq_true q406
           have ea_ := Option.some.inj (hx401_9.symm.trans hx406_9)
           injection ea_ with ea_ en_ ec_
           subst ea_
           subst ec_
           clear en_
           go_wp2
           go_ret
           exact ⟨by first | rfl | (simp; done) | (simp [*]; done), drw⟩
          rw [if_neg c10] at H
          have c10b0 : (((rd_T57 l0 x5_1).f5) != ((Int.tmod (wrap64 ((wrap64 ((wrap64 ((wrap64 ((wrap64 (x1_1 + 1)) + 1)) + 1)) + 1)) + 1)) 3) == 0)) = false := by simpa using c10
          (try (have c10b1 : decide (((rd_T57 l0 x5_1).f5) = ((Int.tmod (wrap64 ((wrap64 ((wrap64 ((wrap64 ((wrap64 (x1_1 + 1)) + 1)) + 1)) + 1)) + 1)) 3) == 0)) = true := by simpa using c10))
          (try (have c10b2 : (((rd_T57 l0 x5_1).f5) == ((Int.tmod (wrap64 ((wrap64 ((wrap64 ((wrap64 ((wrap64 (x1_1 + 1)) + 1)) + 1)) + 1)) + 1)) 3) == 0)) = true := by simpa using c10))
          clear c10
          by_cases c11 : ((rd_T57 l0 x5_1).f6.f0) = (wrap64 ((wrap64 ((wrap64 ((wrap64 ((wrap64 ((wrap64 (x1_1 + 1)) + 1)) + 1)) + 1)) + 1)) + 1))
          ·
           rw [if_pos c11] at H
           have c11b0 : (((rd_T57 l0 x5_1).f6.f0) == (wrap64 ((wrap64 ((wrap64 ((wrap64 ((wrap64 ((wrap64 (x1_1 + 1)) + 1)) + 1)) + 1)) + 1)) + 1))) = true := beq_iff_eq.mpr c11
           have c11b1 : (((rd_T57 l0 x5_1).f6.f0) != (wrap64 ((wrap64 ((wrap64 ((wrap64 ((wrap64 ((wrap64 (x1_1 + 1)) + 1)) + 1)) + 1)) + 1)) + 1))) = false := bne_eq_false_iff_eq.mpr c11
           clear c11
           by_cases c12 : ((rd_T57 l0 x5_1).f6.f1.f0) = (wrap64 ((wrap64 ((wrap64 ((wrap64 ((wrap64 ((wrap64 ((wrap64 (x1_1 + 1)) + 1)) + 1)) + 1)) + 1)) + 1)) + 1))
           ·
            rw [if_pos c12] at H
            have c12b0 : (((rd_T57 l0 x5_1).f6.f1.f0) == (wrap64 ((wrap64 ((wrap64 ((wrap64 ((wrap64 ((wrap64 ((wrap64 (x1_1 + 1)) + 1)) + 1)) + 1)) + 1)) + 1)) + 1))) = true := beq_iff_eq.mpr c12
            have c12b1 : (((rd_T57 l0 x5_1).f6.f1.f0) != (wrap64 ((wrap64 ((wrap64 ((wrap64 ((wrap64 ((wrap64 ((wrap64 (x1_1 + 1)) + 1)) + 1)) + 1)) + 1)) + 1)) + 1))) = false := bne_eq_false_iff_eq.mpr c12
            clear c12
            by_cases c13 : ((rd_T57 l0 x5_1).f6.f1.f1) = (wrap64 ((wrap64 ((wrap64 ((wrap64 ((wrap64 ((wrap64 ((wrap64 ((wrap64 (x1_1 + 1)) + 1)) + 1)) + 1)) + 1)) + 1)) + 1)) + 1))
            ·
             rw [if_pos c13] at H
             have c13b0 : (((rd_T57 l0 x5_1).f6.f1.f1) == (wrap64 ((wrap64 ((wrap64 ((wrap64 ((wrap64 ((wrap64 ((wrap64 ((wrap64 (x1_1 + 1)) + 1)) + 1)) + 1)) + 1)) + 1)) + 1)) + 1))) = true := beq_iff_eq.mpr c13
             have c13b1 : (((rd_T57 l0 x5_1).f6.f1.f1) != (wrap64 ((wrap64 ((wrap64 ((wrap64 ((wrap64 ((wrap64 ((wrap64 ((wrap64 (x1_1 + 1)) + 1)) + 1)) + 1)) + 1)) + 1)) + 1)) + 1))) = false := bne_eq_false_iff_eq.mpr c13
             clear c13
             replace H := Option.bind_eq_some_iff.mp H
             obtain ⟨t411, A140, H⟩ := H
             replace H : (if t411 < 0 then (some (-1)) else (laws_heldMailS.l0 k1 l0 t411 (wrap64 (x5_1 + 1)))) = some r := H
             have A14 := Aside0.mk A140
             clear A140
             by_cases c15 : t411 < 0
             ·
              rw [if_pos c15] at H
              have c15b0 : decide (t411 < 0) = true := decide_eq_true c15
              clear c15
              obtain rfl := Option.some.inj H
              have p401 : 0 ≤ (x5_1 : Int) := of_decide_eq_true (by first | (with_reducible assumption) | assumption)
              have q401 : x5_1 < (l0.length : Int) := of_decide_eq_true (by first | (with_reducible assumption) | assumption)
              obtain ⟨ad401, A401_9, c401_9, e401, hx401_0, hx401_1, hx401_2, hx401_3, hx401_4, hx401_5, hx401_6, hx401_7, hx401_8, hx401_9, hl401_9, hi401_9⟩ := at_T57 HR0.out x5_1 p401 q401
              cases e401
              have HR401_9 := Aside0.mk hi401_9
              have HC401_9 := Aside0.mk hl401_9
              clear hi401_9 hl401_9
              replace p401 := eq_true p401
              replace q401 := eq_true q401
              have p402 : 0 ≤ (x5_1 : Int) := of_decide_eq_true (by first | (with_reducible assumption) | assumption)
              have q402 : x5_1 < (l0.length : Int) := of_decide_eq_true (by first | (with_reducible assumption) | assumption)
              obtain ⟨ad402, A402_9, c402_9, e402, hx402_0, hx402_1, hx402_2, hx402_3, hx402_4, hx402_5, hx402_6, hx402_7, hx402_8, hx402_9, hl402_9, hi402_9⟩ := at_T57 HR0.out x5_1 p402 q402
              obtain rfl : ad401 = ad402 := (by injection e402)
              have HR402_9 := Aside0.mk hi402_9
              have HC402_9 := Aside0.mk hl402_9
              clear hi402_9 hl402_9
              replace p402 := eq_true p402
              replace q402 := eq_true q402
              have ea_ := Option.some.inj (hx401_9.symm.trans hx402_9)
              injection ea_ with ea_ en_ ec_
              subst ea_
              subst ec_
              clear en_
              have p403 : 0 ≤ (x5_1 : Int) := of_decide_eq_true (by first | (with_reducible assumption) | assumption)
              have q403 : x5_1 < (l0.length : Int) := of_decide_eq_true (by first | (with_reducible assumption) | assumption)
              obtain ⟨ad403, A403_9, c403_9, e403, hx403_0, hx403_1, hx403_2, hx403_3, hx403_4, hx403_5, hx403_6, hx403_7, hx403_8, hx403_9, hl403_9, hi403_9⟩ := at_T57 HR0.out x5_1 p403 q403
              obtain rfl : ad401 = ad403 := (by injection e403)
              have HR403_9 := Aside0.mk hi403_9
              have HC403_9 := Aside0.mk hl403_9
              clear hi403_9 hl403_9
              replace p403 := eq_true p403
              replace q403 := eq_true q403
              have ea_ := Option.some.inj (hx401_9.symm.trans hx403_9)
              injection ea_ with ea_ en_ ec_
              subst ea_
              subst ec_
              clear en_
              have p404 : 0 ≤ (x5_1 : Int) := of_decide_eq_true (by first | (with_reducible assumption) | assumption)
              have q404 : x5_1 < (l0.length : Int) := of_decide_eq_true (by first | (with_reducible assumption) | assumption)
              obtain ⟨ad404, A404_9, c404_9, e404, hx404_0, hx404_1, hx404_2, hx404_3, hx404_4, hx404_5, hx404_6, hx404_7, hx404_8, hx404_9, hl404_9, hi404_9⟩ := at_T57 HR0.out x5_1 p404 q404
              obtain rfl : ad401 = ad404 := (by injection e404)
              have HR404_9 := Aside0.mk hi404_9
              have HC404_9 := Aside0.mk hl404_9
              clear hi404_9 hl404_9
              replace p404 := eq_true p404
              replace q404 := eq_true q404
              have ea_ := Option.some.inj (hx401_9.symm.trans hx404_9)
              injection ea_ with ea_ en_ ec_
              subst ea_
              subst ec_
              clear en_
              have p405 : 0 ≤ (x5_1 : Int) := of_decide_eq_true (by first | (with_reducible assumption) | assumption)
              have q405 : x5_1 < (l0.length : Int) := of_decide_eq_true (by first | (with_reducible assumption) | assumption)
              obtain ⟨ad405, A405_9, c405_9, e405, hx405_0, hx405_1, hx405_2, hx405_3, hx405_4, hx405_5, hx405_6, hx405_7, hx405_8, hx405_9, hl405_9, hi405_9⟩ := at_T57 HR0.out x5_1 p405 q405
              obtain rfl : ad401 = ad405 := (by injection e405)
              have HR405_9 := Aside0.mk hi405_9
              have HC405_9 := Aside0.mk hl405_9
              clear hi405_9 hl405_9
              replace p405 := eq_true p405
              replace q405 := eq_true q405
              have ea_ := Option.some.inj (hx401_9.symm.trans hx405_9)
              injection ea_ with ea_ en_ ec_
              subst ea_
              subst ec_
              clear en_
              have p406 : 0 ≤ (x5_1 : Int) := of_decide_eq_true (by first | (with_reducible assumption) | assumption)
              have q406 : x5_1 < (l0.length : Int) := of_decide_eq_true (by first | (with_reducible assumption) | assumption)
              obtain ⟨ad406, A406_9, c406_9, e406, hx406_0, hx406_1, hx406_2, hx406_3, hx406_4, hx406_5, hx406_6, hx406_7, hx406_8, hx406_9, hl406_9, hi406_9⟩ := at_T57 HR0.out x5_1 p406 q406
              obtain rfl : ad401 = ad406 := (by injection e406)
              have HR406_9 := Aside0.mk hi406_9
              have HC406_9 := Aside0.mk hl406_9
              clear hi406_9 hl406_9
              replace p406 := eq_true p406
              replace q406 := eq_true q406
              have ea_ := Option.some.inj (hx401_9.symm.trans hx406_9)
              injection ea_ with ea_ en_ ec_
              subst ea_
              subst ec_
              clear en_
              have p407 : 0 ≤ (x5_1 : Int) := of_decide_eq_true (by first | (with_reducible assumption) | assumption)
              have q407 : x5_1 < (l0.length : Int) := of_decide_eq_true (by first | (with_reducible assumption) | assumption)
              obtain ⟨ad407, A407_9, c407_9, e407, hx407_0, hx407_1, hx407_2, hx407_3, hx407_4, hx407_5, hx407_6, hx407_7, hx407_8, hx407_9, hl407_9, hi407_9⟩ := at_T57 HR0.out x5_1 p407 q407
              obtain rfl : ad401 = ad407 := (by injection e407)
              have HR407_9 := Aside0.mk hi407_9
              have HC407_9 := Aside0.mk hl407_9
              clear hi407_9 hl407_9
              replace p407 := eq_true p407
              replace q407 := eq_true q407
              have ea_ := Option.some.inj (hx401_9.symm.trans hx407_9)
              injection ea_ with ea_ en_ ec_
              subst ea_
              subst ec_
              clear en_
              have p408 : 0 ≤ (x5_1 : Int) := of_decide_eq_true (by first | (with_reducible assumption) | assumption)
              have q408 : x5_1 < (l0.length : Int) := of_decide_eq_true (by first | (with_reducible assumption) | assumption)
              obtain ⟨ad408, A408_9, c408_9, e408, hx408_0, hx408_1, hx408_2, hx408_3, hx408_4, hx408_5, hx408_6, hx408_7, hx408_8, hx408_9, hl408_9, hi408_9⟩ := at_T57 HR0.out x5_1 p408 q408
              obtain rfl : ad401 = ad408 := (by injection e408)
              have HR408_9 := Aside0.mk hi408_9
              have HC408_9 := Aside0.mk hl408_9
              clear hi408_9 hl408_9
              replace p408 := eq_true p408
              replace q408 := eq_true q408
              have ea_ := Option.some.inj (hx401_9.symm.trans hx408_9)
              injection ea_ with ea_ en_ ec_
              subst ea_
              subst ec_
              clear en_
              have p409 : 0 ≤ (x5_1 : Int) := of_decide_eq_true (by first | (with_reducible assumption) | assumption)
              have q409 : x5_1 < (l0.length : Int) := of_decide_eq_true (by first | (with_reducible assumption) | assumption)
              obtain ⟨ad409, A409_9, c409_9, e409, hx409_0, hx409_1, hx409_2, hx409_3, hx409_4, hx409_5, hx409_6, hx409_7, hx409_8, hx409_9, hl409_9, hi409_9⟩ := at_T57 HR0.out x5_1 p409 q409
              obtain rfl : ad401 = ad409 := (by injection e409)
              have HR409_9 := Aside0.mk hi409_9
              have HC409_9 := Aside0.mk hl409_9
              clear hi409_9 hl409_9
              replace p409 := eq_true p409
              replace q409 := eq_true q409
              have ea_ := Option.some.inj (hx401_9.symm.trans hx409_9)
              injection ea_ with ea_ en_ ec_
              subst ea_
              subst ec_
              clear en_
              have p410 : 0 ≤ (x5_1 : Int) := of_decide_eq_true (by first | (with_reducible assumption) | assumption)
              have q410 : x5_1 < (l0.length : Int) := of_decide_eq_true (by first | (with_reducible assumption) | assumption)
              obtain ⟨ad410, A410_9, c410_9, e410, hx410_0, hx410_1, hx410_2, hx410_3, hx410_4, hx410_5, hx410_6, hx410_7, hx410_8, hx410_9, hl410_9, hi410_9⟩ := at_T57 HR0.out x5_1 p410 q410
              obtain rfl : ad401 = ad410 := (by injection e410)
              have HR410_9 := Aside0.mk hi410_9
              have HC410_9 := Aside0.mk hl410_9
              clear hi410_9 hl410_9
              replace p410 := eq_true p410
              replace q410 := eq_true q410
              have ea_ := Option.some.inj (hx401_9.symm.trans hx410_9)
              injection ea_ with ea_ en_ ec_
              subst ea_
              subst ec_
              clear en_
              go_wp2_with (first | ((with_reducible refine gate_callee (f := 117) rfl ?_); refine goA (some 108) rfl rfl Try.func117 rfl #[.slice A401_9 ((rd_T57 l0 x5_1).f6.f1.f2).length c401_9, .int .i64 (wrap64 ((wrap64 ((wrap64 ((wrap64 ((wrap64 ((wrap64 ((wrap64 ((wrap64 ((wrap64 (x1_1 + 1)) + 1)) + 1)) + 1)) + 1)) + 1)) + 1)) + 1)) + 1))] rfl ?_; (with_reducible refine (laws_heldByteS.calls k1 _ _ ((rd_T57 l0 x5_1).f6.f1.f2) (wrap64 ((wrap64 ((wrap64 ((wrap64 ((wrap64 ((wrap64 ((wrap64 ((wrap64 ((wrap64 (x1_1 + 1)) + 1)) + 1)) + 1)) + 1)) + 1)) + 1)) + 1)) + 1)) t411 _ ?side1 ?side2 A14.out).mono ?_); (case side1 => repeat (first | exact HR410_9.out | (with_reducible refine Kd.C_alloc ?_ _) | (with_reducible refine Kd.C_drewN ?_ _) | (with_reducible refine Kd.C_drew ?_))); (case side2 => exact HC410_9.out); rintro e w' ⟨rfl, ⟨nd, rfl⟩⟩; refine ⟨_, rfl, ?_⟩))
              go_ret
              exact ⟨by first | rfl | (simp; done) | (simp [*]; done), drw⟩
             rw [if_neg c15] at H
             have c15b0 : decide (t411 < 0) = false := decide_eq_false c15
             clear c15
             have H' := Aside0.mk H
             clear H
             have p401 : 0 ≤ (x5_1 : Int) := of_decide_eq_true (by first | (with_reducible assumption) | assumption)
             have q401 : x5_1 < (l0.length : Int) := of_decide_eq_true (by first | (with_reducible assumption) | assumption)
             obtain ⟨ad401, A401_9, c401_9, e401, hx401_0, hx401_1, hx401_2, hx401_3, hx401_4, hx401_5, hx401_6, hx401_7, hx401_8, hx401_9, hl401_9, hi401_9⟩ := at_T57 HR0.out x5_1 p401 q401
             cases e401
             have HR401_9 := Aside0.mk hi401_9
             have HC401_9 := Aside0.mk hl401_9
             clear hi401_9 hl401_9
             replace p401 := eq_true p401
             replace q401 := eq_true q401
             have p402 : 0 ≤ (x5_1 : Int) := of_decide_eq_true (by first | (with_reducible assumption) | assumption)
             have q402 : x5_1 < (l0.length : Int) := of_decide_eq_true (by first | (with_reducible assumption) | assumption)
             obtain ⟨ad402, A402_9, c402_9, e402, hx402_0, hx402_1, hx402_2, hx402_3, hx402_4, hx402_5, hx402_6, hx402_7, hx402_8, hx402_9, hl402_9, hi402_9⟩ := at_T57 HR0.out x5_1 p402 q402
             obtain rfl : ad401 = ad402 := (by injection e402)
             have HR402_9 := Aside0.mk hi402_9
             have HC402_9 := Aside0.mk hl402_9
             clear hi402_9 hl402_9
             replace p402 := eq_true p402
             replace q402 := eq_true q402
             have ea_ := Option.some.inj (hx401_9.symm.trans hx402_9)
             injection ea_ with ea_ en_ ec_
             subst ea_
             subst ec_
             clear en_
             have p403 : 0 ≤ (x5_1 : Int) := of_decide_eq_true (by first | (with_reducible assumption) | assumption)
             have q403 : x5_1 < (l0.length : Int) := of_decide_eq_true (by first | (with_reducible assumption) | assumption)
             obtain ⟨ad403, A403_9, c403_9, e403, hx403_0, hx403_1, hx403_2, hx403_3, hx403_4, hx403_5, hx403_6, hx403_7, hx403_8, hx403_9, hl403_9, hi403_9⟩ := at_T57 HR0.out x5_1 p403 q403
             obtain rfl : ad401 = ad403 := (by injection e403)
             have HR403_9 := Aside0.mk hi403_9
             have HC403_9 := Aside0.mk hl403_9
             clear hi403_9 hl403_9
             replace p403 := eq_true p403
             replace q403 := eq_true q403
             have ea_ := Option.some.inj (hx401_9.symm.trans hx403_9)
             injection ea_ with ea_ en_ ec_
             subst ea_
             subst ec_
             clear en_
             have p404 : 0 ≤ (x5_1 : Int) := of_decide_eq_true (by first | (with_reducible assumption) | assumption)
             have q404 : x5_1 < (l0.length : Int) := of_decide_eq_true (by first | (with_reducible assumption) | assumption)
             obtain ⟨ad404, A404_9, c404_9, e404, hx404_0, hx404_1, hx404_2, hx404_3, hx404_4, hx404_5, hx404_6, hx404_7, hx404_8, hx404_9, hl404_9, hi404_9⟩ := at_T57 HR0.out x5_1 p404 q404
             obtain rfl : ad401 = ad404 := (by injection e404)
             have HR404_9 := Aside0.mk hi404_9
             have HC404_9 := Aside0.mk hl404_9
             clear hi404_9 hl404_9
             replace p404 := eq_true p404
             replace q404 := eq_true q404
             have ea_ := Option.some.inj (hx401_9.symm.trans hx404_9)
             injection ea_ with ea_ en_ ec_
             subst ea_
             subst ec_
             clear en_
             have p405 : 0 ≤ (x5_1 : Int) := of_decide_eq_true (by first | (with_reducible assumption) | assumption)
             have q405 : x5_1 < (l0.length : Int) := of_decide_eq_true (by first | (with_reducible assumption) | assumption)
             obtain ⟨ad405, A405_9, c405_9, e405, hx405_0, hx405_1, hx405_2, hx405_3, hx405_4, hx405_5, hx405_6, hx405_7, hx405_8, hx405_9, hl405_9, hi405_9⟩ := at_T57 HR0.out x5_1 p405 q405
             obtain rfl : ad401 = ad405 := (by injection e405)
             have HR405_9 := Aside0.mk hi405_9
             have HC405_9 := Aside0.mk hl405_9
             clear hi405_9 hl405_9
             replace p405 := eq_true p405
             replace q405 := eq_true q405
             have ea_ := Option.some.inj (hx401_9.symm.trans hx405_9)
             injection ea_ with ea_ en_ ec_
             subst ea_
             subst ec_
             clear en_
             have p406 : 0 ≤ (x5_1 : Int) := of_decide_eq_true (by first | (with_reducible assumption) | assumption)
             have q406 : x5_1 < (l0.length : Int) := of_decide_eq_true (by first | (with_reducible assumption) | assumption)
             obtain ⟨ad406, A406_9, c406_9, e406, hx406_0, hx406_1, hx406_2, hx406_3, hx406_4, hx406_5, hx406_6, hx406_7, hx406_8, hx406_9, hl406_9, hi406_9⟩ := at_T57 HR0.out x5_1 p406 q406
             obtain rfl : ad401 = ad406 := (by injection e406)
             have HR406_9 := Aside0.mk hi406_9
             have HC406_9 := Aside0.mk hl406_9
             clear hi406_9 hl406_9
             replace p406 := eq_true p406
             replace q406 := eq_true q406
             have ea_ := Option.some.inj (hx401_9.symm.trans hx406_9)
             injection ea_ with ea_ en_ ec_
             subst ea_
             subst ec_
             clear en_
             have p407 : 0 ≤ (x5_1 : Int) := of_decide_eq_true (by first | (with_reducible assumption) | assumption)
             have q407 : x5_1 < (l0.length : Int) := of_decide_eq_true (by first | (with_reducible assumption) | assumption)
             obtain ⟨ad407, A407_9, c407_9, e407, hx407_0, hx407_1, hx407_2, hx407_3, hx407_4, hx407_5, hx407_6, hx407_7, hx407_8, hx407_9, hl407_9, hi407_9⟩ := at_T57 HR0.out x5_1 p407 q407
             obtain rfl : ad401 = ad407 := (by injection e407)
             have HR407_9 := Aside0.mk hi407_9
             have HC407_9 := Aside0.mk hl407_9
             clear hi407_9 hl407_9
             replace p407 := eq_true p407
             replace q407 := eq_true q407
             have ea_ := Option.some.inj (hx401_9.symm.trans hx407_9)
             injection ea_ with ea_ en_ ec_
             subst ea_
             subst ec_
             clear en_
             have p408 : 0 ≤ (x5_1 : Int) := of_decide_eq_true (by first | (with_reducible assumption) | assumption)
             have q408 : x5_1 < (l0.length : Int) := of_decide_eq_true (by first | (with_reducible assumption) | assumption)
             obtain ⟨ad408, A408_9, c408_9, e408, hx408_0, hx408_1, hx408_2, hx408_3, hx408_4, hx408_5, hx408_6, hx408_7, hx408_8, hx408_9, hl408_9, hi408_9⟩ := at_T57 HR0.out x5_1 p408 q408
             obtain rfl : ad401 = ad408 := (by injection e408)
             have HR408_9 := Aside0.mk hi408_9
             have HC408_9 := Aside0.mk hl408_9
             clear hi408_9 hl408_9
             replace p408 := eq_true p408
             replace q408 := eq_true q408
             have ea_ := Option.some.inj (hx401_9.symm.trans hx408_9)
             injection ea_ with ea_ en_ ec_
             subst ea_
             subst ec_
             clear en_
             have p409 : 0 ≤ (x5_1 : Int) := of_decide_eq_true (by first | (with_reducible assumption) | assumption)
             have q409 : x5_1 < (l0.length : Int) := of_decide_eq_true (by first | (with_reducible assumption) | assumption)
             obtain ⟨ad409, A409_9, c409_9, e409, hx409_0, hx409_1, hx409_2, hx409_3, hx409_4, hx409_5, hx409_6, hx409_7, hx409_8, hx409_9, hl409_9, hi409_9⟩ := at_T57 HR0.out x5_1 p409 q409
             obtain rfl : ad401 = ad409 := (by injection e409)
             have HR409_9 := Aside0.mk hi409_9
             have HC409_9 := Aside0.mk hl409_9
             clear hi409_9 hl409_9
             replace p409 := eq_true p409
             replace q409 := eq_true q409
             have ea_ := Option.some.inj (hx401_9.symm.trans hx409_9)
             injection ea_ with ea_ en_ ec_
             subst ea_
             subst ec_
             clear en_
             have p410 : 0 ≤ (x5_1 : Int) := of_decide_eq_true (by first | (with_reducible assumption) | assumption)
             have q410 : x5_1 < (l0.length : Int) := of_decide_eq_true (by first | (with_reducible assumption) | assumption)
             obtain ⟨ad410, A410_9, c410_9, e410, hx410_0, hx410_1, hx410_2, hx410_3, hx410_4, hx410_5, hx410_6, hx410_7, hx410_8, hx410_9, hl410_9, hi410_9⟩ := at_T57 HR0.out x5_1 p410 q410
             obtain rfl : ad401 = ad410 := (by injection e410)
             have HR410_9 := Aside0.mk hi410_9
             have HC410_9 := Aside0.mk hl410_9
             clear hi410_9 hl410_9
             replace p410 := eq_true p410
             replace q410 := eq_true q410
             have ea_ := Option.some.inj (hx401_9.symm.trans hx410_9)
             injection ea_ with ea_ en_ ec_
             subst ea_
             subst ec_
             clear en_
             go_wp2_with (first | ((with_reducible refine gate_callee (f := 117) rfl ?_); refine goA (some 108) rfl rfl Try.func117 rfl #[.slice A401_9 ((rd_T57 l0 x5_1).f6.f1.f2).length c401_9, .int .i64 (wrap64 ((wrap64 ((wrap64 ((wrap64 ((wrap64 ((wrap64 ((wrap64 ((wrap64 ((wrap64 (x1_1 + 1)) + 1)) + 1)) + 1)) + 1)) + 1)) + 1)) + 1)) + 1))] rfl ?_; (with_reducible refine (laws_heldByteS.calls k1 _ _ ((rd_T57 l0 x5_1).f6.f1.f2) (wrap64 ((wrap64 ((wrap64 ((wrap64 ((wrap64 ((wrap64 ((wrap64 ((wrap64 ((wrap64 (x1_1 + 1)) + 1)) + 1)) + 1)) + 1)) + 1)) + 1)) + 1)) + 1)) t411 _ ?side1 ?side2 A14.out).mono ?_); (case side1 => repeat (first | exact HR410_9.out | (with_reducible refine Kd.C_alloc ?_ _) | (with_reducible refine Kd.C_drewN ?_ _) | (with_reducible refine Kd.C_drew ?_))); (case side2 => exact HC410_9.out); rintro e w' ⟨rfl, ⟨nd, rfl⟩⟩; refine ⟨_, rfl, ?_⟩))
             go_roundg k1
             case measure => have := HK1.out; omega
             case rel => exact ⟨(t411), (wrap64 (x5_1 + 1)), (by first | rfl | (simp; done) | (simp [*]; done)), (by first | rfl | (simp; done) | (simp [*]; done)), H', ⟨by have := HK1.out; omega⟩, drw⟩
            rw [if_neg c13] at H
            have c13b0 : (((rd_T57 l0 x5_1).f6.f1.f1) == (wrap64 ((wrap64 ((wrap64 ((wrap64 ((wrap64 ((wrap64 ((wrap64 ((wrap64 (x1_1 + 1)) + 1)) + 1)) + 1)) + 1)) + 1)) + 1)) + 1))) = false := beq_eq_false_iff_ne.mpr c13
            have c13b1 : (((rd_T57 l0 x5_1).f6.f1.f1) != (wrap64 ((wrap64 ((wrap64 ((wrap64 ((wrap64 ((wrap64 ((wrap64 ((wrap64 (x1_1 + 1)) + 1)) + 1)) + 1)) + 1)) + 1)) + 1)) + 1))) = true := bne_iff_ne.mpr c13
            obtain rfl := Option.some.inj H
            have p401 : 0 ≤ (x5_1 : Int) := of_decide_eq_true (by first | (with_reducible assumption) | assumption)
            have q401 : x5_1 < (l0.length : Int) := of_decide_eq_true (by first | (with_reducible assumption) | assumption)
            obtain ⟨ad401, A401_9, c401_9, e401, hx401_0, hx401_1, hx401_2, hx401_3, hx401_4, hx401_5, hx401_6, hx401_7, hx401_8, hx401_9, hl401_9, hi401_9⟩ := at_T57 HR0.out x5_1 p401 q401
            cases e401
            have HR401_9 := Aside0.mk hi401_9
            have HC401_9 := Aside0.mk hl401_9
            clear hi401_9 hl401_9
            replace p401 := eq_true p401
            replace q401 := eq_true q401
            have p402 : 0 ≤ (x5_1 : Int) := of_decide_eq_true (by first | (with_reducible assumption) | assumption)
            have q402 : x5_1 < (l0.length : Int) := of_decide_eq_true (by first | (with_reducible assumption) | assumption)
            obtain ⟨ad402, A402_9, c402_9, e402, hx402_0, hx402_1, hx402_2, hx402_3, hx402_4, hx402_5, hx402_6, hx402_7, hx402_8, hx402_9, hl402_9, hi402_9⟩ := at_T57 HR0.out x5_1 p402 q402
            obtain rfl : ad401 = ad402 := (by injection e402)
            have HR402_9 := Aside0.mk hi402_9
            have HC402_9 := Aside0.mk hl402_9
            clear hi402_9 hl402_9
            replace p402 := eq_true p402
            replace q402 := eq_true q402
            have ea_ := Option.some.inj (hx401_9.symm.trans hx402_9)
            injection ea_ with ea_ en_ ec_
            subst ea_
            subst ec_
            clear en_
            have p403 : 0 ≤ (x5_1 : Int) := of_decide_eq_true (by first | (with_reducible assumption) | assumption)
            have q403 : x5_1 < (l0.length : Int) := of_decide_eq_true (by first | (with_reducible assumption) | assumption)
            obtain ⟨ad403, A403_9, c403_9, e403, hx403_0, hx403_1, hx403_2, hx403_3, hx403_4, hx403_5, hx403_6, hx403_7, hx403_8, hx403_9, hl403_9, hi403_9⟩ := at_T57 HR0.out x5_1 p403 q403
            obtain rfl : ad401 = ad403 := (by injection e403)
            have HR403_9 := Aside0.mk hi403_9
            have HC403_9 := Aside0.mk hl403_9
            clear hi403_9 hl403_9
            replace p403 := eq_true p403
            replace q403 := eq_true q403
            have ea_ := Option.some.inj (hx401_9.symm.trans hx403_9)
            injection ea_ with ea_ en_ ec_
            subst ea_
            subst ec_
            clear en_
            have p404 : 0 ≤ (x5_1 : Int) := of_decide_eq_true (by first | (with_reducible assumption) | assumption)
            have q404 : x5_1 < (l0.length : Int) := of_decide_eq_true (by first | (with_reducible assumption) | assumption)
            obtain ⟨ad404, A404_9, c404_9, e404, hx404_0, hx404_1, hx404_2, hx404_3, hx404_4, hx404_5, hx404_6, hx404_7, hx404_8, hx404_9, hl404_9, hi404_9⟩ := at_T57 HR0.out x5_1 p404 q404
            obtain rfl : ad401 = ad404 := (by injection e404)
            have HR404_9 := Aside0.mk hi404_9
            have HC404_9 := Aside0.mk hl404_9
            clear hi404_9 hl404_9
            replace p404 := eq_true p404
            replace q404 := eq_true q404
            have ea_ := Option.some.inj (hx401_9.symm.trans hx404_9)
            injection ea_ with ea_ en_ ec_
            subst ea_
            subst ec_
            clear en_
            have p405 : 0 ≤ (x5_1 : Int) := of_decide_eq_true (by first | (with_reducible assumption) | assumption)
            have q405 : x5_1 < (l0.length : Int) := of_decide_eq_true (by first | (with_reducible assumption) | assumption)
            obtain ⟨ad405, A405_9, c405_9, e405, hx405_0, hx405_1, hx405_2, hx405_3, hx405_4, hx405_5, hx405_6, hx405_7, hx405_8, hx405_9, hl405_9, hi405_9⟩ := at_T57 HR0.out x5_1 p405 q405
            obtain rfl : ad401 = ad405 := (by injection e405)
            have HR405_9 := Aside0.mk hi405_9
            have HC405_9 := Aside0.mk hl405_9
            clear hi405_9 hl405_9
            replace p405 := eq_true p405
            replace q405 := eq_true q405
            have ea_ := Option.some.inj (hx401_9.symm.trans hx405_9)
            injection ea_ with ea_ en_ ec_
            subst ea_
            subst ec_
            clear en_
            have p406 : 0 ≤ (x5_1 : Int) := of_decide_eq_true (by first | (with_reducible assumption) | assumption)
            have q406 : x5_1 < (l0.length : Int) := of_decide_eq_true (by first | (with_reducible assumption) | assumption)
            obtain ⟨ad406, A406_9, c406_9, e406, hx406_0, hx406_1, hx406_2, hx406_3, hx406_4, hx406_5, hx406_6, hx406_7, hx406_8, hx406_9, hl406_9, hi406_9⟩ := at_T57 HR0.out x5_1 p406 q406
            obtain rfl : ad401 = ad406 := (by injection e406)
            have HR406_9 := Aside0.mk hi406_9
            have HC406_9 := Aside0.mk hl406_9
            clear hi406_9 hl406_9
            replace p406 := eq_true p406
            replace q406 := eq_true q406
            have ea_ := Option.some.inj (hx401_9.symm.trans hx406_9)
            injection ea_ with ea_ en_ ec_
            subst ea_
            subst ec_
            clear en_
            have p407 : 0 ≤ (x5_1 : Int) := of_decide_eq_true (by first | (with_reducible assumption) | assumption)
            have q407 : x5_1 < (l0.length : Int) := of_decide_eq_true (by first | (with_reducible assumption) | assumption)
            obtain ⟨ad407, A407_9, c407_9, e407, hx407_0, hx407_1, hx407_2, hx407_3, hx407_4, hx407_5, hx407_6, hx407_7, hx407_8, hx407_9, hl407_9, hi407_9⟩ := at_T57 HR0.out x5_1 p407 q407
            obtain rfl : ad401 = ad407 := (by injection e407)
            have HR407_9 := Aside0.mk hi407_9
            have HC407_9 := Aside0.mk hl407_9
            clear hi407_9 hl407_9
            replace p407 := eq_true p407
            replace q407 := eq_true q407
            have ea_ := Option.some.inj (hx401_9.symm.trans hx407_9)
            injection ea_ with ea_ en_ ec_
            subst ea_
            subst ec_
            clear en_
            have p408 : 0 ≤ (x5_1 : Int) := of_decide_eq_true (by first | (with_reducible assumption) | assumption)
            have q408 : x5_1 < (l0.length : Int) := of_decide_eq_true (by first | (with_reducible assumption) | assumption)
            obtain ⟨ad408, A408_9, c408_9, e408, hx408_0, hx408_1, hx408_2, hx408_3, hx408_4, hx408_5, hx408_6, hx408_7, hx408_8, hx408_9, hl408_9, hi408_9⟩ := at_T57 HR0.out x5_1 p408 q408
            obtain rfl : ad401 = ad408 := (by injection e408)
            have HR408_9 := Aside0.mk hi408_9
            have HC408_9 := Aside0.mk hl408_9
            clear hi408_9 hl408_9
            replace p408 := eq_true p408
            replace q408 := eq_true q408
            have ea_ := Option.some.inj (hx401_9.symm.trans hx408_9)
            injection ea_ with ea_ en_ ec_
            subst ea_
            subst ec_
            clear en_
            have p409 : 0 ≤ (x5_1 : Int) := of_decide_eq_true (by first | (with_reducible assumption) | assumption)
            have q409 : x5_1 < (l0.length : Int) := of_decide_eq_true (by first | (with_reducible assumption) | assumption)
            obtain ⟨ad409, A409_9, c409_9, e409, hx409_0, hx409_1, hx409_2, hx409_3, hx409_4, hx409_5, hx409_6, hx409_7, hx409_8, hx409_9, hl409_9, hi409_9⟩ := at_T57 HR0.out x5_1 p409 q409
            obtain rfl : ad401 = ad409 := (by injection e409)
            have HR409_9 := Aside0.mk hi409_9
            have HC409_9 := Aside0.mk hl409_9
            clear hi409_9 hl409_9
            replace p409 := eq_true p409
            replace q409 := eq_true q409
            have ea_ := Option.some.inj (hx401_9.symm.trans hx409_9)
            injection ea_ with ea_ en_ ec_
            subst ea_
            subst ec_
            clear en_
            go_wp2
            go_ret
            exact ⟨by first | rfl | (simp; done) | (simp [*]; done), drw⟩
           rw [if_neg c12] at H
           have c12b0 : (((rd_T57 l0 x5_1).f6.f1.f0) == (wrap64 ((wrap64 ((wrap64 ((wrap64 ((wrap64 ((wrap64 ((wrap64 (x1_1 + 1)) + 1)) + 1)) + 1)) + 1)) + 1)) + 1))) = false := beq_eq_false_iff_ne.mpr c12
           have c12b1 : (((rd_T57 l0 x5_1).f6.f1.f0) != (wrap64 ((wrap64 ((wrap64 ((wrap64 ((wrap64 ((wrap64 ((wrap64 (x1_1 + 1)) + 1)) + 1)) + 1)) + 1)) + 1)) + 1))) = true := bne_iff_ne.mpr c12
           obtain rfl := Option.some.inj H
           have p401 : 0 ≤ (x5_1 : Int) := of_decide_eq_true (by first | (with_reducible assumption) | assumption)
           have q401 : x5_1 < (l0.length : Int) := of_decide_eq_true (by first | (with_reducible assumption) | assumption)
           obtain ⟨ad401, A401_9, c401_9, e401, hx401_0, hx401_1, hx401_2, hx401_3, hx401_4, hx401_5, hx401_6, hx401_7, hx401_8, hx401_9, hl401_9, hi401_9⟩ := at_T57 HR0.out x5_1 p401 q401
           cases e401
           have HR401_9 := Aside0.mk hi401_9
           have HC401_9 := Aside0.mk hl401_9
           clear hi401_9 hl401_9
           replace p401 := eq_true p401
           replace q401 := eq_true q401
           have p402 : 0 ≤ (x5_1 : Int) := of_decide_eq_true (by first | (with_reducible assumption) | assumption)
           have q402 : x5_1 < (l0.length : Int) := of_decide_eq_true (by first | (with_reducible assumption) | assumption)
           obtain ⟨ad402, A402_9, c402_9, e402, hx402_0, hx402_1, hx402_2, hx402_3, hx402_4, hx402_5, hx402_6, hx402_7, hx402_8, hx402_9, hl402_9, hi402_9⟩ := at_T57 HR0.out x5_1 p402 q402
           obtain rfl : ad401 = ad402 := (by injection e402)
           have HR402_9 := Aside0.mk hi402_9
           have HC402_9 := Aside0.mk hl402_9
           clear hi402_9 hl402_9
           replace p402 := eq_true p402
           replace q402 := eq_true q402
           have ea_ := Option.some.inj (hx401_9.symm.trans hx402_9)
           injection ea_ with ea_ en_ ec_
           subst ea_
           subst ec_
           clear en_
           have p403 : 0 ≤ (x5_1 : Int) := of_decide_eq_true (by first | (with_reducible assumption) | assumption)
           have q403 : x5_1 < (l0.length : Int) := of_decide_eq_true (by first | (with_reducible assumption) | assumption)
           obtain ⟨ad403, A403_9, c403_9, e403, hx403_0, hx403_1, hx403_2, hx403_3, hx403_4, hx403_5, hx403_6, hx403_7, hx403_8, hx403_9, hl403_9, hi403_9⟩ := at_T57 HR0.out x5_1 p403 q403
           obtain rfl : ad401 = ad403 := (by injection e403)
           have HR403_9 := Aside0.mk hi403_9
           have HC403_9 := Aside0.mk hl403_9
           clear hi403_9 hl403_9
           replace p403 := eq_true p403
           replace q403 := eq_true q403
           have ea_ := Option.some.inj (hx401_9.symm.trans hx403_9)
           injection ea_ with ea_ en_ ec_
           subst ea_
           subst ec_
           clear en_
           have p404 : 0 ≤ (x5_1 : Int) := of_decide_eq_true (by first | (with_reducible assumption) | assumption)
           have q404 : x5_1 < (l0.length : Int) := of_decide_eq_true (by first | (with_reducible assumption) | assumption)
           obtain ⟨ad404, A404_9, c404_9, e404, hx404_0, hx404_1, hx404_2, hx404_3, hx404_4, hx404_5, hx404_6, hx404_7, hx404_8, hx404_9, hl404_9, hi404_9⟩ := at_T57 HR0.out x5_1 p404 q404
           obtain rfl : ad401 = ad404 := (by injection e404)
           have HR404_9 := Aside0.mk hi404_9
           have HC404_9 := Aside0.mk hl404_9
           clear hi404_9 hl404_9
           replace p404 := eq_true p404
           replace q404 := eq_true q404
           have ea_ := Option.some.inj (hx401_9.symm.trans hx404_9)
           injection ea_ with ea_ en_ ec_
           subst ea_
           subst ec_
           clear en_
           have p405 : 0 ≤ (x5_1 : Int) := of_decide_eq_true (by first | (with_reducible assumption) | assumption)
           have q405 : x5_1 < (l0.length : Int) := of_decide_eq_true (by first | (with_reducible assumption) | assumption)
           obtain ⟨ad405, A405_9, c405_9, e405, hx405_0, hx405_1, hx405_2, hx405_3, hx405_4, hx405_5, hx405_6, hx405_7, hx405_8, hx405_9, hl405_9, hi405_9⟩ := at_T57 HR0.out x5_1 p405 q405
           obtain rfl : ad401 = ad405 := (by injection e405)
           have HR405_9 := Aside0.mk hi405_9
           have HC405_9 := Aside0.mk hl405_9
           clear hi405_9 hl405_9
           replace p405 := eq_true p405
           replace q405 := eq_true q405
           have ea_ := Option.some.inj (hx401_9.symm.trans hx405_9)
           injection ea_ with ea_ en_ ec_
           subst ea_
           subst ec_
           clear en_
           have p406 : 0 ≤ (x5_1 : Int) := of_decide_eq_true (by first | (with_reducible assumption) | assumption)
           have q406 : x5_1 < (l0.length : Int) := of_decide_eq_true (by first | (with_reducible assumption) | assumption)
           obtain ⟨ad406, A406_9, c406_9, e406, hx406_0, hx406_1, hx406_2, hx406_3, hx406_4, hx406_5, hx406_6, hx406_7, hx406_8, hx406_9, hl406_9, hi406_9⟩ := at_T57 HR0.out x5_1 p406 q406
           obtain rfl : ad401 = ad406 := (by injection e406)
           have HR406_9 := Aside0.mk hi406_9
           have HC406_9 := Aside0.mk hl406_9
           clear hi406_9 hl406_9
           replace p406 := eq_true p406
           replace q406 := eq_true q406
           have ea_ := Option.some.inj (hx401_9.symm.trans hx406_9)
           injection ea_ with ea_ en_ ec_
           subst ea_
           subst ec_
           clear en_
           have p407 : 0 ≤ (x5_1 : Int) := of_decide_eq_true (by first | (with_reducible assumption) | assumption)
           have q407 : x5_1 < (l0.length : Int) := of_decide_eq_true (by first | (with_reducible assumption) | assumption)
           obtain ⟨ad407, A407_9, c407_9, e407, hx407_0, hx407_1, hx407_2, hx407_3, hx407_4, hx407_5, hx407_6, hx407_7, hx407_8, hx407_9, hl407_9, hi407_9⟩ := at_T57 HR0.out x5_1 p407 q407
           obtain rfl : ad401 = ad407 := (by injection e407)
           have HR407_9 := Aside0.mk hi407_9
           have HC407_9 := Aside0.mk hl407_9
           clear hi407_9 hl407_9
           replace p407 := eq_true p407
           replace q407 := eq_true q407
           have ea_ := Option.some.inj (hx401_9.symm.trans hx407_9)
           injection ea_ with ea_ en_ ec_
           subst ea_
           subst ec_
           clear en_
           have p408 : 0 ≤ (x5_1 : Int) := of_decide_eq_true (by first | (with_reducible assumption) | assumption)
           have q408 : x5_1 < (l0.length : Int) := of_decide_eq_true (by first | (with_reducible assumption) | assumption)
           obtain ⟨ad408, A408_9, c408_9, e408, hx408_0, hx408_1, hx408_2, hx408_3, hx408_4, hx408_5, hx408_6, hx408_7, hx408_8, hx408_9, hl408_9, hi408_9⟩ := at_T57 HR0.out x5_1 p408 q408
           obtain rfl : ad401 = ad408 := (by injection e408)
           have HR408_9 := Aside0.mk hi408_9
           have HC408_9 := Aside0.mk hl408_9
           clear hi408_9 hl408_9
           replace p408 := eq_true p408
           replace q408 := eq_true q408
           have ea_ := Option.some.inj (hx401_9.symm.trans hx408_9)
           injection ea_ with ea_ en_ ec_
           subst ea_
           subst ec_
           clear en_
           go_wp2
           go_ret
           exact ⟨by first | rfl | (simp; done) | (simp [*]; done), drw⟩
          rw [if_neg c11] at H
          have c11b0 : (((rd_T57 l0 x5_1).f6.f0) == (wrap64 ((wrap64 ((wrap64 ((wrap64 ((wrap64 ((wrap64 (x1_1 + 1)) + 1)) + 1)) + 1)) + 1)) + 1))) = false := beq_eq_false_iff_ne.mpr c11
          have c11b1 : (((rd_T57 l0 x5_1).f6.f0) != (wrap64 ((wrap64 ((wrap64 ((wrap64 ((wrap64 ((wrap64 (x1_1 + 1)) + 1)) + 1)) + 1)) + 1)) + 1))) = true := bne_iff_ne.mpr c11
          obtain rfl := Option.some.inj H
          have p401 : 0 ≤ (x5_1 : Int) := of_decide_eq_true (by first | (with_reducible assumption) | assumption)
          have q401 : x5_1 < (l0.length : Int) := of_decide_eq_true (by first | (with_reducible assumption) | assumption)
          obtain ⟨ad401, A401_9, c401_9, e401, hx401_0, hx401_1, hx401_2, hx401_3, hx401_4, hx401_5, hx401_6, hx401_7, hx401_8, hx401_9, hl401_9, hi401_9⟩ := at_T57 HR0.out x5_1 p401 q401
          cases e401
          have HR401_9 := Aside0.mk hi401_9
          have HC401_9 := Aside0.mk hl401_9
          clear hi401_9 hl401_9
          replace p401 := eq_true p401
          replace q401 := eq_true q401
          have p402 : 0 ≤ (x5_1 : Int) := of_decide_eq_true (by first | (with_reducible assumption) | assumption)
          have q402 : x5_1 < (l0.length : Int) := of_decide_eq_true (by first | (with_reducible assumption) | assumption)
          obtain ⟨ad402, A402_9, c402_9, e402, hx402_0, hx402_1, hx402_2, hx402_3, hx402_4, hx402_5, hx402_6, hx402_7, hx402_8, hx402_9, hl402_9, hi402_9⟩ := at_T57 HR0.out x5_1 p402 q402
          obtain rfl : ad401 = ad402 := (by injection e402)
          have HR402_9 := Aside0.mk hi402_9
          have HC402_9 := Aside0.mk hl402_9
          clear hi402_9 hl402_9
          replace p402 := eq_true p402
          replace q402 := eq_true q402
          have ea_ := Option.some.inj (hx401_9.symm.trans hx402_9)
          injection ea_ with ea_ en_ ec_
          subst ea_
          subst ec_
          clear en_
          have p403 : 0 ≤ (x5_1 : Int) := of_decide_eq_true (by first | (with_reducible assumption) | assumption)
          have q403 : x5_1 < (l0.length : Int) := of_decide_eq_true (by first | (with_reducible assumption) | assumption)
          obtain ⟨ad403, A403_9, c403_9, e403, hx403_0, hx403_1, hx403_2, hx403_3, hx403_4, hx403_5, hx403_6, hx403_7, hx403_8, hx403_9, hl403_9, hi403_9⟩ := at_T57 HR0.out x5_1 p403 q403
          obtain rfl : ad401 = ad403 := (by injection e403)
          have HR403_9 := Aside0.mk hi403_9
          have HC403_9 := Aside0.mk hl403_9
          clear hi403_9 hl403_9
          replace p403 := eq_true p403
          replace q403 := eq_true q403
          have ea_ := Option.some.inj (hx401_9.symm.trans hx403_9)
          injection ea_ with ea_ en_ ec_
          subst ea_
          subst ec_
          clear en_
          have p404 : 0 ≤ (x5_1 : Int) := of_decide_eq_true (by first | (with_reducible assumption) | assumption)
          have q404 : x5_1 < (l0.length : Int) := of_decide_eq_true (by first | (with_reducible assumption) | assumption)
          obtain ⟨ad404, A404_9, c404_9, e404, hx404_0, hx404_1, hx404_2, hx404_3, hx404_4, hx404_5, hx404_6, hx404_7, hx404_8, hx404_9, hl404_9, hi404_9⟩ := at_T57 HR0.out x5_1 p404 q404
          obtain rfl : ad401 = ad404 := (by injection e404)
          have HR404_9 := Aside0.mk hi404_9
          have HC404_9 := Aside0.mk hl404_9
          clear hi404_9 hl404_9
          replace p404 := eq_true p404
          replace q404 := eq_true q404
          have ea_ := Option.some.inj (hx401_9.symm.trans hx404_9)
          injection ea_ with ea_ en_ ec_
          subst ea_
          subst ec_
          clear en_
          have p405 : 0 ≤ (x5_1 : Int) := of_decide_eq_true (by first | (with_reducible assumption) | assumption)
          have q405 : x5_1 < (l0.length : Int) := of_decide_eq_true (by first | (with_reducible assumption) | assumption)
          obtain ⟨ad405, A405_9, c405_9, e405, hx405_0, hx405_1, hx405_2, hx405_3, hx405_4, hx405_5, hx405_6, hx405_7, hx405_8, hx405_9, hl405_9, hi405_9⟩ := at_T57 HR0.out x5_1 p405 q405
          obtain rfl : ad401 = ad405 := (by injection e405)
          have HR405_9 := Aside0.mk hi405_9
          have HC405_9 := Aside0.mk hl405_9
          clear hi405_9 hl405_9
          replace p405 := eq_true p405
          replace q405 := eq_true q405
          have ea_ := Option.some.inj (hx401_9.symm.trans hx405_9)
          injection ea_ with ea_ en_ ec_
          subst ea_
          subst ec_
          clear en_
          have p406 : 0 ≤ (x5_1 : Int) := of_decide_eq_true (by first | (with_reducible assumption) | assumption)
          have q406 : x5_1 < (l0.length : Int) := of_decide_eq_true (by first | (with_reducible assumption) | assumption)
          obtain ⟨ad406, A406_9, c406_9, e406, hx406_0, hx406_1, hx406_2, hx406_3, hx406_4, hx406_5, hx406_6, hx406_7, hx406_8, hx406_9, hl406_9, hi406_9⟩ := at_T57 HR0.out x5_1 p406 q406
          obtain rfl : ad401 = ad406 := (by injection e406)
          have HR406_9 := Aside0.mk hi406_9
          have HC406_9 := Aside0.mk hl406_9
          clear hi406_9 hl406_9
          replace p406 := eq_true p406
          replace q406 := eq_true q406
          have ea_ := Option.some.inj (hx401_9.symm.trans hx406_9)
          injection ea_ with ea_ en_ ec_
          subst ea_
          subst ec_
          clear en_
          have p407 : 0 ≤ (x5_1 : Int) := of_decide_eq_true (by first | (with_reducible assumption) | assumption)
          have q407 : x5_1 < (l0.length : Int) := of_decide_eq_true (by first | (with_reducible assumption) | assumption)
          obtain ⟨ad407, A407_9, c407_9, e407, hx407_0, hx407_1, hx407_2, hx407_3, hx407_4, hx407_5, hx407_6, hx407_7, hx407_8, hx407_9, hl407_9, hi407_9⟩ := at_T57 HR0.out x5_1 p407 q407
          obtain rfl : ad401 = ad407 := (by injection e407)
          have HR407_9 := Aside0.mk hi407_9
          have HC407_9 := Aside0.mk hl407_9
          clear hi407_9 hl407_9
          replace p407 := eq_true p407
          replace q407 := eq_true q407
          have ea_ := Option.some.inj (hx401_9.symm.trans hx407_9)
          injection ea_ with ea_ en_ ec_
          subst ea_
          subst ec_
          clear en_
          go_wp2
          go_ret
          exact ⟨by first | rfl | (simp; done) | (simp [*]; done), drw⟩
         rw [if_neg c9] at H
         have c9b0 : (((rd_T57 l0 x5_1).f4) == (wrap64 ((wrap64 ((wrap64 ((wrap64 (x1_1 + 1)) + 1)) + 1)) + 1))) = false := beq_eq_false_iff_ne.mpr c9
         have c9b1 : (((rd_T57 l0 x5_1).f4) != (wrap64 ((wrap64 ((wrap64 ((wrap64 (x1_1 + 1)) + 1)) + 1)) + 1))) = true := bne_iff_ne.mpr c9
         obtain rfl := Option.some.inj H
         have p401 : 0 ≤ (x5_1 : Int) := of_decide_eq_true (by first | (with_reducible assumption) | assumption)
         have q401 : x5_1 < (l0.length : Int) := of_decide_eq_true (by first | (with_reducible assumption) | assumption)
         obtain ⟨ad401, A401_9, c401_9, e401, hx401_0, hx401_1, hx401_2, hx401_3, hx401_4, hx401_5, hx401_6, hx401_7, hx401_8, hx401_9, hl401_9, hi401_9⟩ := at_T57 HR0.out x5_1 p401 q401
         cases e401
         have HR401_9 := Aside0.mk hi401_9
         have HC401_9 := Aside0.mk hl401_9
         clear hi401_9 hl401_9
         replace p401 := eq_true p401
         replace q401 := eq_true q401
         have p402 : 0 ≤ (x5_1 : Int) := of_decide_eq_true (by first | (with_reducible assumption) | assumption)
         have q402 : x5_1 < (l0.length : Int) := of_decide_eq_true (by first | (with_reducible assumption) | assumption)
         obtain ⟨ad402, A402_9, c402_9, e402, hx402_0, hx402_1, hx402_2, hx402_3, hx402_4, hx402_5, hx402_6, hx402_7, hx402_8, hx402_9, hl402_9, hi402_9⟩ := at_T57 HR0.out x5_1 p402 q402
         obtain rfl : ad401 = ad402 := (by injection e402)
         have HR402_9 := Aside0.mk hi402_9
         have HC402_9 := Aside0.mk hl402_9
         clear hi402_9 hl402_9
         replace p402 := eq_true p402
         replace q402 := eq_true q402
         have ea_ := Option.some.inj (hx401_9.symm.trans hx402_9)
         injection ea_ with ea_ en_ ec_
         subst ea_
         subst ec_
         clear en_
         have p403 : 0 ≤ (x5_1 : Int) := of_decide_eq_true (by first | (with_reducible assumption) | assumption)
         have q403 : x5_1 < (l0.length : Int) := of_decide_eq_true (by first | (with_reducible assumption) | assumption)
         obtain ⟨ad403, A403_9, c403_9, e403, hx403_0, hx403_1, hx403_2, hx403_3, hx403_4, hx403_5, hx403_6, hx403_7, hx403_8, hx403_9, hl403_9, hi403_9⟩ := at_T57 HR0.out x5_1 p403 q403
         obtain rfl : ad401 = ad403 := (by injection e403)
         have HR403_9 := Aside0.mk hi403_9
         have HC403_9 := Aside0.mk hl403_9
         clear hi403_9 hl403_9
         replace p403 := eq_true p403
         replace q403 := eq_true q403
         have ea_ := Option.some.inj (hx401_9.symm.trans hx403_9)
         injection ea_ with ea_ en_ ec_
         subst ea_
         subst ec_
         clear en_
         have p404 : 0 ≤ (x5_1 : Int) := of_decide_eq_true (by first | (with_reducible assumption) | assumption)
         have q404 : x5_1 < (l0.length : Int) := of_decide_eq_true (by first | (with_reducible assumption) | assumption)
         obtain ⟨ad404, A404_9, c404_9, e404, hx404_0, hx404_1, hx404_2, hx404_3, hx404_4, hx404_5, hx404_6, hx404_7, hx404_8, hx404_9, hl404_9, hi404_9⟩ := at_T57 HR0.out x5_1 p404 q404
         obtain rfl : ad401 = ad404 := (by injection e404)
         have HR404_9 := Aside0.mk hi404_9
         have HC404_9 := Aside0.mk hl404_9
         clear hi404_9 hl404_9
         replace p404 := eq_true p404
         replace q404 := eq_true q404
         have ea_ := Option.some.inj (hx401_9.symm.trans hx404_9)
         injection ea_ with ea_ en_ ec_
         subst ea_
         subst ec_
         clear en_
         have p405 : 0 ≤ (x5_1 : Int) := of_decide_eq_true (by first | (with_reducible assumption) | assumption)
         have q405 : x5_1 < (l0.length : Int) := of_decide_eq_true (by first | (with_reducible assumption) | assumption)
         obtain ⟨ad405, A405_9, c405_9, e405, hx405_0, hx405_1, hx405_2, hx405_3, hx405_4, hx405_5, hx405_6, hx405_7, hx405_8, hx405_9, hl405_9, hi405_9⟩ := at_T57 HR0.out x5_1 p405 q405
         obtain rfl : ad401 = ad405 := (by injection e405)
         have HR405_9 := Aside0.mk hi405_9
         have HC405_9 := Aside0.mk hl405_9
         clear hi405_9 hl405_9
         replace p405 := eq_true p405
         replace q405 := eq_true q405
         have ea_ := Option.some.inj (hx401_9.symm.trans hx405_9)
         injection ea_ with ea_ en_ ec_
         subst ea_
         subst ec_
         clear en_
         go_wp2
         go_ret
         exact ⟨by first | rfl | (simp; done) | (simp [*]; done), drw⟩
        rw [if_neg c8] at H
        have c8b0 : (((rd_T57 l0 x5_1).f3) == (wrap64 ((wrap64 ((wrap64 (x1_1 + 1)) + 1)) + 1))) = false := beq_eq_false_iff_ne.mpr c8
        have c8b1 : (((rd_T57 l0 x5_1).f3) != (wrap64 ((wrap64 ((wrap64 (x1_1 + 1)) + 1)) + 1))) = true := bne_iff_ne.mpr c8
        obtain rfl := Option.some.inj H
        have p401 : 0 ≤ (x5_1 : Int) := of_decide_eq_true (by first | (with_reducible assumption) | assumption)
        have q401 : x5_1 < (l0.length : Int) := of_decide_eq_true (by first | (with_reducible assumption) | assumption)
        obtain ⟨ad401, A401_9, c401_9, e401, hx401_0, hx401_1, hx401_2, hx401_3, hx401_4, hx401_5, hx401_6, hx401_7, hx401_8, hx401_9, hl401_9, hi401_9⟩ := at_T57 HR0.out x5_1 p401 q401
        cases e401
        have HR401_9 := Aside0.mk hi401_9
        have HC401_9 := Aside0.mk hl401_9
        clear hi401_9 hl401_9
        replace p401 := eq_true p401
        replace q401 := eq_true q401
        have p402 : 0 ≤ (x5_1 : Int) := of_decide_eq_true (by first | (with_reducible assumption) | assumption)
        have q402 : x5_1 < (l0.length : Int) := of_decide_eq_true (by first | (with_reducible assumption) | assumption)
        obtain ⟨ad402, A402_9, c402_9, e402, hx402_0, hx402_1, hx402_2, hx402_3, hx402_4, hx402_5, hx402_6, hx402_7, hx402_8, hx402_9, hl402_9, hi402_9⟩ := at_T57 HR0.out x5_1 p402 q402
        obtain rfl : ad401 = ad402 := (by injection e402)
        have HR402_9 := Aside0.mk hi402_9
        have HC402_9 := Aside0.mk hl402_9
        clear hi402_9 hl402_9
        replace p402 := eq_true p402
        replace q402 := eq_true q402
        have ea_ := Option.some.inj (hx401_9.symm.trans hx402_9)
        injection ea_ with ea_ en_ ec_
        subst ea_
        subst ec_
        clear en_
        have p403 : 0 ≤ (x5_1 : Int) := of_decide_eq_true (by first | (with_reducible assumption) | assumption)
        have q403 : x5_1 < (l0.length : Int) := of_decide_eq_true (by first | (with_reducible assumption) | assumption)
        obtain ⟨ad403, A403_9, c403_9, e403, hx403_0, hx403_1, hx403_2, hx403_3, hx403_4, hx403_5, hx403_6, hx403_7, hx403_8, hx403_9, hl403_9, hi403_9⟩ := at_T57 HR0.out x5_1 p403 q403
        obtain rfl : ad401 = ad403 := (by injection e403)
        have HR403_9 := Aside0.mk hi403_9
        have HC403_9 := Aside0.mk hl403_9
        clear hi403_9 hl403_9
        replace p403 := eq_true p403
        replace q403 := eq_true q403
        have ea_ := Option.some.inj (hx401_9.symm.trans hx403_9)
        injection ea_ with ea_ en_ ec_
        subst ea_
        subst ec_
        clear en_
        have p404 : 0 ≤ (x5_1 : Int) := of_decide_eq_true (by first | (with_reducible assumption) | assumption)
        have q404 : x5_1 < (l0.length : Int) := of_decide_eq_true (by first | (with_reducible assumption) | assumption)
        obtain ⟨ad404, A404_9, c404_9, e404, hx404_0, hx404_1, hx404_2, hx404_3, hx404_4, hx404_5, hx404_6, hx404_7, hx404_8, hx404_9, hl404_9, hi404_9⟩ := at_T57 HR0.out x5_1 p404 q404
        obtain rfl : ad401 = ad404 := (by injection e404)
        have HR404_9 := Aside0.mk hi404_9
        have HC404_9 := Aside0.mk hl404_9
        clear hi404_9 hl404_9
        replace p404 := eq_true p404
        replace q404 := eq_true q404
        have ea_ := Option.some.inj (hx401_9.symm.trans hx404_9)
        injection ea_ with ea_ en_ ec_
        subst ea_
        subst ec_
        clear en_
        go_wp2
        go_ret
        exact ⟨by first | rfl | (simp; done) | (simp [*]; done), drw⟩
       rw [if_neg c7] at H
       have c7b0 : (((rd_T57 l0 x5_1).f2) == (wrap64 ((wrap64 (x1_1 + 1)) + 1))) = false := beq_eq_false_iff_ne.mpr c7
       have c7b1 : (((rd_T57 l0 x5_1).f2) != (wrap64 ((wrap64 (x1_1 + 1)) + 1))) = true := bne_iff_ne.mpr c7
       obtain rfl := Option.some.inj H
       have p401 : 0 ≤ (x5_1 : Int) := of_decide_eq_true (by first | (with_reducible assumption) | assumption)
       have q401 : x5_1 < (l0.length : Int) := of_decide_eq_true (by first | (with_reducible assumption) | assumption)
       obtain ⟨ad401, A401_9, c401_9, e401, hx401_0, hx401_1, hx401_2, hx401_3, hx401_4, hx401_5, hx401_6, hx401_7, hx401_8, hx401_9, hl401_9, hi401_9⟩ := at_T57 HR0.out x5_1 p401 q401
       cases e401
       have HR401_9 := Aside0.mk hi401_9
       have HC401_9 := Aside0.mk hl401_9
       clear hi401_9 hl401_9
       replace p401 := eq_true p401
       replace q401 := eq_true q401
       have p402 : 0 ≤ (x5_1 : Int) := of_decide_eq_true (by first | (with_reducible assumption) | assumption)
       have q402 : x5_1 < (l0.length : Int) := of_decide_eq_true (by first | (with_reducible assumption) | assumption)
       obtain ⟨ad402, A402_9, c402_9, e402, hx402_0, hx402_1, hx402_2, hx402_3, hx402_4, hx402_5, hx402_6, hx402_7, hx402_8, hx402_9, hl402_9, hi402_9⟩ := at_T57 HR0.out x5_1 p402 q402
       obtain rfl : ad401 = ad402 := (by injection e402)
       have HR402_9 := Aside0.mk hi402_9
       have HC402_9 := Aside0.mk hl402_9
       clear hi402_9 hl402_9
       replace p402 := eq_true p402
       replace q402 := eq_true q402
       have ea_ := Option.some.inj (hx401_9.symm.trans hx402_9)
       injection ea_ with ea_ en_ ec_
       subst ea_
       subst ec_
       clear en_
       have p403 : 0 ≤ (x5_1 : Int) := of_decide_eq_true (by first | (with_reducible assumption) | assumption)
       have q403 : x5_1 < (l0.length : Int) := of_decide_eq_true (by first | (with_reducible assumption) | assumption)
       obtain ⟨ad403, A403_9, c403_9, e403, hx403_0, hx403_1, hx403_2, hx403_3, hx403_4, hx403_5, hx403_6, hx403_7, hx403_8, hx403_9, hl403_9, hi403_9⟩ := at_T57 HR0.out x5_1 p403 q403
       obtain rfl : ad401 = ad403 := (by injection e403)
       have HR403_9 := Aside0.mk hi403_9
       have HC403_9 := Aside0.mk hl403_9
       clear hi403_9 hl403_9
       replace p403 := eq_true p403
       replace q403 := eq_true q403
       have ea_ := Option.some.inj (hx401_9.symm.trans hx403_9)
       injection ea_ with ea_ en_ ec_
       subst ea_
       subst ec_
       clear en_
       go_wp2
       go_ret
       exact ⟨by first | rfl | (simp; done) | (simp [*]; done), drw⟩
      rw [if_neg c6] at H
      have c6b0 : (((rd_T57 l0 x5_1).f1) == (wrap64 (x1_1 + 1))) = false := beq_eq_false_iff_ne.mpr c6
      have c6b1 : (((rd_T57 l0 x5_1).f1) != (wrap64 (x1_1 + 1))) = true := bne_iff_ne.mpr c6
      obtain rfl := Option.some.inj H
      have p401 : 0 ≤ (x5_1 : Int) := of_decide_eq_true (by first | (with_reducible assumption) | assumption)
      have q401 : x5_1 < (l0.length : Int) := of_decide_eq_true (by first | (with_reducible assumption) | assumption)
      obtain ⟨ad401, A401_9, c401_9, e401, hx401_0, hx401_1, hx401_2, hx401_3, hx401_4, hx401_5, hx401_6, hx401_7, hx401_8, hx401_9, hl401_9, hi401_9⟩ := at_T57 HR0.out x5_1 p401 q401
      cases e401
      have HR401_9 := Aside0.mk hi401_9
      have HC401_9 := Aside0.mk hl401_9
      clear hi401_9 hl401_9
      replace p401 := eq_true p401
      replace q401 := eq_true q401
      have p402 : 0 ≤ (x5_1 : Int) := of_decide_eq_true (by first | (with_reducible assumption) | assumption)
      have q402 : x5_1 < (l0.length : Int) := of_decide_eq_true (by first | (with_reducible assumption) | assumption)
      obtain ⟨ad402, A402_9, c402_9, e402, hx402_0, hx402_1, hx402_2, hx402_3, hx402_4, hx402_5, hx402_6, hx402_7, hx402_8, hx402_9, hl402_9, hi402_9⟩ := at_T57 HR0.out x5_1 p402 q402
      obtain rfl : ad401 = ad402 := (by injection e402)
      have HR402_9 := Aside0.mk hi402_9
      have HC402_9 := Aside0.mk hl402_9
      clear hi402_9 hl402_9
      replace p402 := eq_true p402
      replace q402 := eq_true q402
      have ea_ := Option.some.inj (hx401_9.symm.trans hx402_9)
      injection ea_ with ea_ en_ ec_
      subst ea_
      subst ec_
      clear en_
      go_wp2
      go_ret
      exact ⟨by first | rfl | (simp; done) | (simp [*]; done), drw⟩
     rw [if_neg c5] at H
     have c5b0 : (((rd_T57 l0 x5_1).f0) == x1_1) = false := beq_eq_false_iff_ne.mpr c5
     have c5b1 : (((rd_T57 l0 x5_1).f0) != x1_1) = true := bne_iff_ne.mpr c5
     obtain rfl := Option.some.inj H
     have p401 : 0 ≤ (x5_1 : Int) := of_decide_eq_true (by first | (with_reducible assumption) | assumption)
     have q401 : x5_1 < (l0.length : Int) := of_decide_eq_true (by first | (with_reducible assumption) | assumption)
     obtain ⟨ad401, A401_9, c401_9, e401, hx401_0, hx401_1, hx401_2, hx401_3, hx401_4, hx401_5, hx401_6, hx401_7, hx401_8, hx401_9, hl401_9, hi401_9⟩ := at_T57 HR0.out x5_1 p401 q401
     cases e401
     have HR401_9 := Aside0.mk hi401_9
     have HC401_9 := Aside0.mk hl401_9
     clear hi401_9 hl401_9
     replace p401 := eq_true p401
     replace q401 := eq_true q401
     go_wp2
     go_ret
     exact ⟨by first | rfl | (simp; done) | (simp [*]; done), drw⟩
    rw [if_neg c4] at H
    exact absurd H (by simp)
   rw [if_neg c3] at H
   have c3b0 : decide (x5_1 < (l0.length : Int)) = false := decide_eq_false c3
   clear c3
   obtain rfl := Option.some.inj H
   go_wp2
   go_ret
   exact ⟨by first | rfl | (simp; done) | (simp [*]; done), drw⟩

end Go.Proofs.Ytgfoifkkffffgab.PFnExactAddEvent
