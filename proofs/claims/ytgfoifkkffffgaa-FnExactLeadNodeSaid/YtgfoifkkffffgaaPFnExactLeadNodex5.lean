-- Laid by a turned copy of the printer (wip/tools/patch_print.py)
import Derived.Test.YtgfoifkkffffgaaPFnExactLeadNodex0
import Derived.Test.YtgfoifkkffffgaaPFnExactLeadNodex4
namespace Go.Proofs.Ytgfoifkkffffgaa.PFnExactLeadNode
open Go.RowKit Go.Proofs.YtgfoifkkffffgaaW.PrintWords Go.Proofs.YtgfoifkkffffgaaW.PrintLast Go.Proofs.YtgfoifkkffffgaaW.PrintMore
attribute [local go_sem] max2_int min2_int max_two min_two max_three min_three max_four min_four   -- for this text's walks alone
set_option linter.unusedVariables false
set_option linter.unusedSimpArgs false

/-! ### laws_heldMailS: function 44 -/
def laws_heldMailS.l0 : Nat → List (S53) → Int → Int → Option (Int)
 | 0, _, _, _ => none
 | k + 1, x0, x1, x5 => if x5 < (x0.length : Int) then (if 0 ≤ x5 then (if ((rd_T53 x0 x5).f0) = x1 then (if ((rd_T53 x0 x5).f1) = (wrap64 (x1 + 1)) then (if ((rd_T53 x0 x5).f2) = (wrap64 ((wrap64 (x1 + 1)) + 1)) then (if ((rd_T53 x0 x5).f3) = (wrap64 ((wrap64 ((wrap64 (x1 + 1)) + 1)) + 1)) then (if ((rd_T53 x0 x5).f4) = (wrap64 ((wrap64 ((wrap64 ((wrap64 (x1 + 1)) + 1)) + 1)) + 1)) then (if (((rd_T53 x0 x5).f5) != ((Int.tmod (wrap64 ((wrap64 ((wrap64 ((wrap64 ((wrap64 (x1 + 1)) + 1)) + 1)) + 1)) + 1)) 3) == 0)) = true then (some (-1)) else (if ((rd_T53 x0 x5).f6.f0) = (wrap64 ((wrap64 ((wrap64 ((wrap64 ((wrap64 ((wrap64 (x1 + 1)) + 1)) + 1)) + 1)) + 1)) + 1)) then (if ((rd_T53 x0 x5).f6.f1.f0) = (wrap64 ((wrap64 ((wrap64 ((wrap64 ((wrap64 ((wrap64 ((wrap64 (x1 + 1)) + 1)) + 1)) + 1)) + 1)) + 1)) + 1)) then (if ((rd_T53 x0 x5).f6.f1.f1) = (wrap64 ((wrap64 ((wrap64 ((wrap64 ((wrap64 ((wrap64 ((wrap64 ((wrap64 (x1 + 1)) + 1)) + 1)) + 1)) + 1)) + 1)) + 1)) + 1)) then ((laws_heldByteS.f k ((rd_T53 x0 x5).f6.f1.f2) (wrap64 ((wrap64 ((wrap64 ((wrap64 ((wrap64 ((wrap64 ((wrap64 ((wrap64 ((wrap64 (x1 + 1)) + 1)) + 1)) + 1)) + 1)) + 1)) + 1)) + 1)) + 1))).bind fun t192 => (if t192 < 0 then (some (-1)) else (laws_heldMailS.l0 k x0 t192 (wrap64 (x5 + 1))))) else (some (-1))) else (some (-1))) else (some (-1)))) else (some (-1))) else (some (-1))) else (some (-1))) else (some (-1))) else (some (-1))) else (none)) else (some x1)
def laws_heldMailS.f (k : Nat) (l0 : List (S53)) (a1 : Int) : Option (Int) := laws_heldMailS.l0 k l0 a1 0
theorem laws_heldMailS.mono_l : ∀ k, (∀ y0 y1 y2, LeO (laws_heldMailS.l0 k y0 y1 y2) (laws_heldMailS.l0 (k + 1) y0 y1 y2))
 | 0 => fun _ _ _ r h => by simp [laws_heldMailS.l0] at h
 | k + 1 => by
  have ih0 := laws_heldMailS.mono_l k
  ·
   intro y0 y1 y2
   unfold laws_heldMailS.l0
   repeat' first
   | (with_reducible exact ih0 _ _ _)
   | (with_reducible exact laws_heldByteS.mono _ _ _)
   | (with_reducible exact LeO.refl _)
   | (with_reducible exact LeO.none _)
   | (with_reducible refine LeO.ite ?_ ?_)
   | (with_reducible refine LeO.bind ?_ (fun _ => ?_))
   | exact ih0 _ _ _
   | exact laws_heldByteS.mono _ _ _
   | exact LeO.none _
   | refine LeO.ite ?_ ?_
   | refine LeO.bind ?_ (fun _ => ?_)
theorem laws_heldMailS.mono : ∀ a0 a1 k, LeO (laws_heldMailS.f k a0 a1) (laws_heldMailS.f (k + 1) a0 a1) := by
 intro a0 a1 k
 have ih0 := laws_heldMailS.mono_l k
 unfold laws_heldMailS.f
 repeat' first
   | (with_reducible exact ih0 _ _ _)
   | (with_reducible exact laws_heldByteS.mono _ _ _)
   | (with_reducible exact LeO.refl _)
   | (with_reducible exact LeO.none _)
   | (with_reducible refine LeO.ite ?_ ?_)
   | (with_reducible refine LeO.bind ?_ (fun _ => ?_))
   | exact ih0 _ _ _
   | exact laws_heldByteS.mono _ _ _
   | exact LeO.none _
   | refine LeO.ite ?_ ?_
   | refine LeO.bind ?_ (fun _ => ?_)
set_option maxHeartbeats 8000000 in
set_option maxRecDepth 100000 in
theorem laws_heldMailS.calls (k : Nat) (A0 : Option Addr) (c0 : Nat) (l0 : List (S53)) (a1 : Int) (r : Int) (w : World) (hr0 : Kd.C k53 w A0 l0.length l0) (hc0 : l0.length ≤ c0) (h : laws_heldMailS.f k l0 a1 = some r) :
  Calls Try.prog 44 #[.slice A0 l0.length c0, .int .i64 a1] w fun e w' => e = .returned (.int .i64 r) ∧ Drawn0 w w' := by
 have HR0 := Aside0.mk hr0
 have HC0 := Aside0.mk hc0
 clear hr0 hc0
 have H : (laws_heldMailS.l0 k l0 a1 0) = some r := h
 clear h
 have H' := Aside0.mk H
 clear H
 go_enter Try.func44, Try.ntmps44
 go_wp2
 go_loopg [1, 5] k (fun kq v1 v5 w' => ∃ (x1_1 : Int) (x5_1 : Int), v1 = .int .i64 x1_1 ∧ v5 = .int .i64 x5_1 ∧ Aside0 (laws_heldMailS.l0 kq l0 x1_1 x5_1 = some r) ∧ Aside0 (kq ≤ k) ∧ Drawn0 w w')
 case atStart => exact ⟨(a1), (0), (by first | rfl | (simp; done) | (simp [*]; done)), (by first | rfl | (simp; done) | (simp [*]; done)), H', ⟨Nat.le_refl _⟩, drw⟩
 case round =>
  clear H'
  try clear p2
  obtain ⟨x1_1, x5_1, rfl, rfl, HA, HK1, ⟨m1, rfl⟩⟩ := hrel
  cases gk with
  | zero => exact absurd HA.out (by simp [laws_heldMailS.l0])
  | succ k1 =>
   have H := HA.out
   clear HA
   simp only [laws_heldMailS.l0] at H
   by_cases c3 : x5_1 < (l0.length : Int)
   ·
    rw [if_pos c3] at H
    have c3b0 : decide (x5_1 < (l0.length : Int)) = true := decide_eq_true c3
    clear c3
    by_cases c4 : 0 ≤ x5_1
    ·
     rw [if_pos c4] at H
     have c4b0 : decide (0 ≤ x5_1) = true := decide_eq_true c4
     clear c4
     by_cases c5 : ((rd_T53 l0 x5_1).f0) = x1_1
     ·
      rw [if_pos c5] at H
      have c5b0 : (((rd_T53 l0 x5_1).f0) == x1_1) = true := beq_iff_eq.mpr c5
      have c5b1 : (((rd_T53 l0 x5_1).f0) != x1_1) = false := bne_eq_false_iff_eq.mpr c5
      clear c5
      by_cases c6 : ((rd_T53 l0 x5_1).f1) = (wrap64 (x1_1 + 1))
      ·
       rw [if_pos c6] at H
       have c6b0 : (((rd_T53 l0 x5_1).f1) == (wrap64 (x1_1 + 1))) = true := beq_iff_eq.mpr c6
       have c6b1 : (((rd_T53 l0 x5_1).f1) != (wrap64 (x1_1 + 1))) = false := bne_eq_false_iff_eq.mpr c6
       clear c6
       by_cases c7 : ((rd_T53 l0 x5_1).f2) = (wrap64 ((wrap64 (x1_1 + 1)) + 1))
       ·
        rw [if_pos c7] at H
        have c7b0 : (((rd_T53 l0 x5_1).f2) == (wrap64 ((wrap64 (x1_1 + 1)) + 1))) = true := beq_iff_eq.mpr c7
        have c7b1 : (((rd_T53 l0 x5_1).f2) != (wrap64 ((wrap64 (x1_1 + 1)) + 1))) = false := bne_eq_false_iff_eq.mpr c7
        clear c7
        by_cases c8 : ((rd_T53 l0 x5_1).f3) = (wrap64 ((wrap64 ((wrap64 (x1_1 + 1)) + 1)) + 1))
        ·
         rw [if_pos c8] at H
         have c8b0 : (((rd_T53 l0 x5_1).f3) == (wrap64 ((wrap64 ((wrap64 (x1_1 + 1)) + 1)) + 1))) = true := beq_iff_eq.mpr c8
         have c8b1 : (((rd_T53 l0 x5_1).f3) != (wrap64 ((wrap64 ((wrap64 (x1_1 + 1)) + 1)) + 1))) = false := bne_eq_false_iff_eq.mpr c8
         clear c8
         by_cases c9 : ((rd_T53 l0 x5_1).f4) = (wrap64 ((wrap64 ((wrap64 ((wrap64 (x1_1 + 1)) + 1)) + 1)) + 1))
         ·
          rw [if_pos c9] at H
          have c9b0 : (((rd_T53 l0 x5_1).f4) == (wrap64 ((wrap64 ((wrap64 ((wrap64 (x1_1 + 1)) + 1)) + 1)) + 1))) = true := beq_iff_eq.mpr c9
          have c9b1 : (((rd_T53 l0 x5_1).f4) != (wrap64 ((wrap64 ((wrap64 ((wrap64 (x1_1 + 1)) + 1)) + 1)) + 1))) = false := bne_eq_false_iff_eq.mpr c9
          clear c9
          by_cases c10 : (((rd_T53 l0 x5_1).f5) != ((Int.tmod (wrap64 ((wrap64 ((wrap64 ((wrap64 ((wrap64 (x1_1 + 1)) + 1)) + 1)) + 1)) + 1)) 3) == 0)) = true
          ·
           rw [if_pos c10] at H
           have c10b0 : (((rd_T53 l0 x5_1).f5) != ((Int.tmod (wrap64 ((wrap64 ((wrap64 ((wrap64 ((wrap64 (x1_1 + 1)) + 1)) + 1)) + 1)) + 1)) 3) == 0)) = true := c10
           (try (have c10b1 : decide (((rd_T53 l0 x5_1).f5) = ((Int.tmod (wrap64 ((wrap64 ((wrap64 ((wrap64 ((wrap64 (x1_1 + 1)) + 1)) + 1)) + 1)) + 1)) 3) == 0)) = false := by simpa using c10))
           (try (have c10b2 : (((rd_T53 l0 x5_1).f5) == ((Int.tmod (wrap64 ((wrap64 ((wrap64 ((wrap64 ((wrap64 (x1_1 + 1)) + 1)) + 1)) + 1)) + 1)) 3) == 0)) = false := by simpa using c10))
           (try (have c10b3 : ¬ (((rd_T53 l0 x5_1).f5) = ((Int.tmod (wrap64 ((wrap64 ((wrap64 ((wrap64 ((wrap64 (x1_1 + 1)) + 1)) + 1)) + 1)) + 1)) 3) == 0)) := by simpa using c10))
           clear c10
           obtain rfl := Option.some.inj H
           have p182 : 0 ≤ (x5_1 : Int) := of_decide_eq_true (by first | (with_reducible assumption) | assumption)
           have q182 : x5_1 < (l0.length : Int) := of_decide_eq_true (by first | (with_reducible assumption) | assumption)
           obtain ⟨ad182, A182_9, c182_9, e182, hx182_0, hx182_1, hx182_2, hx182_3, hx182_4, hx182_5, hx182_6, hx182_7, hx182_8, hx182_9, hl182_9, hi182_9⟩ := at_T53 HR0.out x5_1 p182 q182
           cases e182
           have HR182_9 := Aside0.mk hi182_9
           have HC182_9 := Aside0.mk hl182_9
           clear hi182_9 hl182_9
           replace p182 := eq_true p182
           replace q182 := eq_true q182
           have p183 : 0 ≤ (x5_1 : Int) := of_decide_eq_true (by first | (with_reducible assumption) | assumption)
           have q183 : x5_1 < (l0.length : Int) := of_decide_eq_true (by first | (with_reducible assumption) | assumption)
           obtain ⟨ad183, A183_9, c183_9, e183, hx183_0, hx183_1, hx183_2, hx183_3, hx183_4, hx183_5, hx183_6, hx183_7, hx183_8, hx183_9, hl183_9, hi183_9⟩ := at_T53 HR0.out x5_1 p183 q183
           obtain rfl : ad182 = ad183 := (by injection e183)
           have HR183_9 := Aside0.mk hi183_9
           have HC183_9 := Aside0.mk hl183_9
           clear hi183_9 hl183_9
           replace p183 := eq_true p183
           replace q183 := eq_true q183
           have ea_ := Option.some.inj (hx182_9.symm.trans hx183_9)
           injection ea_ with ea_ en_ ec_
           subst ea_
           subst ec_
           clear en_
           have p184 : 0 ≤ (x5_1 : Int) := of_decide_eq_true (by first | (with_reducible assumption) | assumption)
           have q184 : x5_1 < (l0.length : Int) := of_decide_eq_true (by first | (with_reducible assumption) | assumption)
           obtain ⟨ad184, A184_9, c184_9, e184, hx184_0, hx184_1, hx184_2, hx184_3, hx184_4, hx184_5, hx184_6, hx184_7, hx184_8, hx184_9, hl184_9, hi184_9⟩ := at_T53 HR0.out x5_1 p184 q184
           obtain rfl : ad182 = ad184 := (by injection e184)
           have HR184_9 := Aside0.mk hi184_9
           have HC184_9 := Aside0.mk hl184_9
           clear hi184_9 hl184_9
           replace p184 := eq_true p184
           replace q184 := eq_true q184
           have ea_ := Option.some.inj (hx182_9.symm.trans hx184_9)
           injection ea_ with ea_ en_ ec_
           subst ea_
           subst ec_
           clear en_
           have p185 : 0 ≤ (x5_1 : Int) := of_decide_eq_true (by first | (with_reducible assumption) | assumption)
           have q185 : x5_1 < (l0.length : Int) := of_decide_eq_true (by first | (with_reducible assumption) | assumption)
           obtain ⟨ad185, A185_9, c185_9, e185, hx185_0, hx185_1, hx185_2, hx185_3, hx185_4, hx185_5, hx185_6, hx185_7, hx185_8, hx185_9, hl185_9, hi185_9⟩ := at_T53 HR0.out x5_1 p185 q185
           obtain rfl : ad182 = ad185 := (by injection e185)
           have HR185_9 := Aside0.mk hi185_9
           have HC185_9 := Aside0.mk hl185_9
           clear hi185_9 hl185_9
           replace p185 := eq_true p185
           replace q185 := eq_true q185
           have ea_ := Option.some.inj (hx182_9.symm.trans hx185_9)
           injection ea_ with ea_ en_ ec_
           subst ea_
           subst ec_
           clear en_
           have p186 : 0 ≤ (x5_1 : Int) := of_decide_eq_true (by first | (with_reducible assumption) | assumption)
           have q186 : x5_1 < (l0.length : Int) := of_decide_eq_true (by first | (with_reducible assumption) | assumption)
           obtain ⟨ad186, A186_9, c186_9, e186, hx186_0, hx186_1, hx186_2, hx186_3, hx186_4, hx186_5, hx186_6, hx186_7, hx186_8, hx186_9, hl186_9, hi186_9⟩ := at_T53 HR0.out x5_1 p186 q186
           obtain rfl : ad182 = ad186 := (by injection e186)
           have HR186_9 := Aside0.mk hi186_9
           have HC186_9 := Aside0.mk hl186_9
           clear hi186_9 hl186_9
           replace p186 := eq_true p186
           replace q186 := eq_true q186
           have ea_ := Option.some.inj (hx182_9.symm.trans hx186_9)
           injection ea_ with ea_ en_ ec_
           subst ea_
           subst ec_
           clear en_
           have p187 : 0 ≤ (x5_1 : Int) := of_decide_eq_true (by first | (with_reducible assumption) | assumption)
           have q187 : x5_1 < (l0.length : Int) := of_decide_eq_true (by first | (with_reducible assumption) | assumption)
           obtain ⟨ad187, A187_9, c187_9, e187, hx187_0, hx187_1, hx187_2, hx187_3, hx187_4, hx187_5, hx187_6, hx187_7, hx187_8, hx187_9, hl187_9, hi187_9⟩ := at_T53 HR0.out x5_1 p187 q187
           obtain rfl : ad182 = ad187 := (by injection e187)
           have HR187_9 := Aside0.mk hi187_9
           have HC187_9 := Aside0.mk hl187_9
           clear hi187_9 hl187_9
           replace p187 := eq_true p187
           replace q187 := eq_true q187
           have ea_ := Option.some.inj (hx182_9.symm.trans hx187_9)
           injection ea_ with ea_ en_ ec_
           subst ea_
           subst ec_
           clear en_
           go_wp2
           go_ret
           exact ⟨by first | rfl | (simp; done) | (simp [*]; done), drw⟩
          ·
           rw [if_neg c10] at H
           have c10b0 : (((rd_T53 l0 x5_1).f5) != ((Int.tmod (wrap64 ((wrap64 ((wrap64 ((wrap64 ((wrap64 (x1_1 + 1)) + 1)) + 1)) + 1)) + 1)) 3) == 0)) = false := by simpa using c10
           (try (have c10b1 : decide (((rd_T53 l0 x5_1).f5) = ((Int.tmod (wrap64 ((wrap64 ((wrap64 ((wrap64 ((wrap64 (x1_1 + 1)) + 1)) + 1)) + 1)) + 1)) 3) == 0)) = true := by simpa using c10))
           (try (have c10b2 : (((rd_T53 l0 x5_1).f5) == ((Int.tmod (wrap64 ((wrap64 ((wrap64 ((wrap64 ((wrap64 (x1_1 + 1)) + 1)) + 1)) + 1)) + 1)) 3) == 0)) = true := by simpa using c10))
           clear c10
           by_cases c11 : ((rd_T53 l0 x5_1).f6.f0) = (wrap64 ((wrap64 ((wrap64 ((wrap64 ((wrap64 ((wrap64 (x1_1 + 1)) + 1)) + 1)) + 1)) + 1)) + 1))
           ·
            rw [if_pos c11] at H
            have c11b0 : (((rd_T53 l0 x5_1).f6.f0) == (wrap64 ((wrap64 ((wrap64 ((wrap64 ((wrap64 ((wrap64 (x1_1 + 1)) + 1)) + 1)) + 1)) + 1)) + 1))) = true := beq_iff_eq.mpr c11
            have c11b1 : (((rd_T53 l0 x5_1).f6.f0) != (wrap64 ((wrap64 ((wrap64 ((wrap64 ((wrap64 ((wrap64 (x1_1 + 1)) + 1)) + 1)) + 1)) + 1)) + 1))) = false := bne_eq_false_iff_eq.mpr c11
            clear c11
            by_cases c12 : ((rd_T53 l0 x5_1).f6.f1.f0) = (wrap64 ((wrap64 ((wrap64 ((wrap64 ((wrap64 ((wrap64 ((wrap64 (x1_1 + 1)) + 1)) + 1)) + 1)) + 1)) + 1)) + 1))
            ·
             rw [if_pos c12] at H
             have c12b0 : (((rd_T53 l0 x5_1).f6.f1.f0) == (wrap64 ((wrap64 ((wrap64 ((wrap64 ((wrap64 ((wrap64 ((wrap64 (x1_1 + 1)) + 1)) + 1)) + 1)) + 1)) + 1)) + 1))) = true := beq_iff_eq.mpr c12
             have c12b1 : (((rd_T53 l0 x5_1).f6.f1.f0) != (wrap64 ((wrap64 ((wrap64 ((wrap64 ((wrap64 ((wrap64 ((wrap64 (x1_1 + 1)) + 1)) + 1)) + 1)) + 1)) + 1)) + 1))) = false := bne_eq_false_iff_eq.mpr c12
             clear c12
             by_cases c13 : ((rd_T53 l0 x5_1).f6.f1.f1) = (wrap64 ((wrap64 ((wrap64 ((wrap64 ((wrap64 ((wrap64 ((wrap64 ((wrap64 (x1_1 + 1)) + 1)) + 1)) + 1)) + 1)) + 1)) + 1)) + 1))
             ·
              rw [if_pos c13] at H
              have c13b0 : (((rd_T53 l0 x5_1).f6.f1.f1) == (wrap64 ((wrap64 ((wrap64 ((wrap64 ((wrap64 ((wrap64 ((wrap64 ((wrap64 (x1_1 + 1)) + 1)) + 1)) + 1)) + 1)) + 1)) + 1)) + 1))) = true := beq_iff_eq.mpr c13
              have c13b1 : (((rd_T53 l0 x5_1).f6.f1.f1) != (wrap64 ((wrap64 ((wrap64 ((wrap64 ((wrap64 ((wrap64 ((wrap64 ((wrap64 (x1_1 + 1)) + 1)) + 1)) + 1)) + 1)) + 1)) + 1)) + 1))) = false := bne_eq_false_iff_eq.mpr c13
              clear c13
              replace H := Option.bind_eq_some_iff.mp H
              obtain ⟨t192, A140, H⟩ := H
              replace H : (if t192 < 0 then (some (-1)) else (laws_heldMailS.l0 k1 l0 t192 (wrap64 (x5_1 + 1)))) = some r := H
              have A14 := Aside0.mk A140
              clear A140
              by_cases c15 : t192 < 0
              ·
               rw [if_pos c15] at H
               have c15b0 : decide (t192 < 0) = true := decide_eq_true c15
               clear c15
               obtain rfl := Option.some.inj H
               have p182 : 0 ≤ (x5_1 : Int) := of_decide_eq_true (by first | (with_reducible assumption) | assumption)
               have q182 : x5_1 < (l0.length : Int) := of_decide_eq_true (by first | (with_reducible assumption) | assumption)
               obtain ⟨ad182, A182_9, c182_9, e182, hx182_0, hx182_1, hx182_2, hx182_3, hx182_4, hx182_5, hx182_6, hx182_7, hx182_8, hx182_9, hl182_9, hi182_9⟩ := at_T53 HR0.out x5_1 p182 q182
               cases e182
               have HR182_9 := Aside0.mk hi182_9
               have HC182_9 := Aside0.mk hl182_9
               clear hi182_9 hl182_9
               replace p182 := eq_true p182
               replace q182 := eq_true q182
               have p183 : 0 ≤ (x5_1 : Int) := of_decide_eq_true (by first | (with_reducible assumption) | assumption)
               have q183 : x5_1 < (l0.length : Int) := of_decide_eq_true (by first | (with_reducible assumption) | assumption)
               obtain ⟨ad183, A183_9, c183_9, e183, hx183_0, hx183_1, hx183_2, hx183_3, hx183_4, hx183_5, hx183_6, hx183_7, hx183_8, hx183_9, hl183_9, hi183_9⟩ := at_T53 HR0.out x5_1 p183 q183
               obtain rfl : ad182 = ad183 := (by injection e183)
               have HR183_9 := Aside0.mk hi183_9
               have HC183_9 := Aside0.mk hl183_9
               clear hi183_9 hl183_9
               replace p183 := eq_true p183
               replace q183 := eq_true q183
               have ea_ := Option.some.inj (hx182_9.symm.trans hx183_9)
               injection ea_ with ea_ en_ ec_
               subst ea_
               subst ec_
               clear en_
               have p184 : 0 ≤ (x5_1 : Int) := of_decide_eq_true (by first | (with_reducible assumption) | assumption)
               have q184 : x5_1 < (l0.length : Int) := of_decide_eq_true (by first | (with_reducible assumption) | assumption)
               obtain ⟨ad184, A184_9, c184_9, e184, hx184_0, hx184_1, hx184_2, hx184_3, hx184_4, hx184_5, hx184_6, hx184_7, hx184_8, hx184_9, hl184_9, hi184_9⟩ := at_T53 HR0.out x5_1 p184 q184
               obtain rfl : ad182 = ad184 := (by injection e184)
               have HR184_9 := Aside0.mk hi184_9
               have HC184_9 := Aside0.mk hl184_9
               clear hi184_9 hl184_9
               replace p184 := eq_true p184
               replace q184 := eq_true q184
               have ea_ := Option.some.inj (hx182_9.symm.trans hx184_9)
               injection ea_ with ea_ en_ ec_
               subst ea_
               subst ec_
               clear en_
               have p185 : 0 ≤ (x5_1 : Int) := of_decide_eq_true (by first | (with_reducible assumption) | assumption)
               have q185 : x5_1 < (l0.length : Int) := of_decide_eq_true (by first | (with_reducible assumption) | assumption)
               obtain ⟨ad185, A185_9, c185_9, e185, hx185_0, hx185_1, hx185_2, hx185_3, hx185_4, hx185_5, hx185_6, hx185_7, hx185_8, hx185_9, hl185_9, hi185_9⟩ := at_T53 HR0.out x5_1 p185 q185
               obtain rfl : ad182 = ad185 := (by injection e185)
               have HR185_9 := Aside0.mk hi185_9
               have HC185_9 := Aside0.mk hl185_9
               clear hi185_9 hl185_9
               replace p185 := eq_true p185
               replace q185 := eq_true q185
               have ea_ := Option.some.inj (hx182_9.symm.trans hx185_9)
               injection ea_ with ea_ en_ ec_
               subst ea_
               subst ec_
               clear en_
               have p186 : 0 ≤ (x5_1 : Int) := of_decide_eq_true (by first | (with_reducible assumption) | assumption)
               have q186 : x5_1 < (l0.length : Int) := of_decide_eq_true (by first | (with_reducible assumption) | assumption)
               obtain ⟨ad186, A186_9, c186_9, e186, hx186_0, hx186_1, hx186_2, hx186_3, hx186_4, hx186_5, hx186_6, hx186_7, hx186_8, hx186_9, hl186_9, hi186_9⟩ := at_T53 HR0.out x5_1 p186 q186
               obtain rfl : ad182 = ad186 := (by injection e186)
               have HR186_9 := Aside0.mk hi186_9
               have HC186_9 := Aside0.mk hl186_9
               clear hi186_9 hl186_9
               replace p186 := eq_true p186
               replace q186 := eq_true q186
               have ea_ := Option.some.inj (hx182_9.symm.trans hx186_9)
               injection ea_ with ea_ en_ ec_
               subst ea_
               subst ec_
               clear en_
               have p187 : 0 ≤ (x5_1 : Int) := of_decide_eq_true (by first | (with_reducible assumption) | assumption)
               have q187 : x5_1 < (l0.length : Int) := of_decide_eq_true (by first | (with_reducible assumption) | assumption)
               obtain ⟨ad187, A187_9, c187_9, e187, hx187_0, hx187_1, hx187_2, hx187_3, hx187_4, hx187_5, hx187_6, hx187_7, hx187_8, hx187_9, hl187_9, hi187_9⟩ := at_T53 HR0.out x5_1 p187 q187
               obtain rfl : ad182 = ad187 := (by injection e187)
               have HR187_9 := Aside0.mk hi187_9
               have HC187_9 := Aside0.mk hl187_9
               clear hi187_9 hl187_9
               replace p187 := eq_true p187
               replace q187 := eq_true q187
               have ea_ := Option.some.inj (hx182_9.symm.trans hx187_9)
               injection ea_ with ea_ en_ ec_
               subst ea_
               subst ec_
               clear en_
               have p188 : 0 ≤ (x5_1 : Int) := of_decide_eq_true (by first | (with_reducible assumption) | assumption)
               have q188 : x5_1 < (l0.length : Int) := of_decide_eq_true (by first | (with_reducible assumption) | assumption)
               obtain ⟨ad188, A188_9, c188_9, e188, hx188_0, hx188_1, hx188_2, hx188_3, hx188_4, hx188_5, hx188_6, hx188_7, hx188_8, hx188_9, hl188_9, hi188_9⟩ := at_T53 HR0.out x5_1 p188 q188
               obtain rfl : ad182 = ad188 := (by injection e188)
               have HR188_9 := Aside0.mk hi188_9
               have HC188_9 := Aside0.mk hl188_9
               clear hi188_9 hl188_9
               replace p188 := eq_true p188
               replace q188 := eq_true q188
               have ea_ := Option.some.inj (hx182_9.symm.trans hx188_9)
               injection ea_ with ea_ en_ ec_
               subst ea_
               subst ec_
               clear en_
               have p189 : 0 ≤ (x5_1 : Int) := of_decide_eq_true (by first | (with_reducible assumption) | assumption)
               have q189 : x5_1 < (l0.length : Int) := of_decide_eq_true (by first | (with_reducible assumption) | assumption)
               obtain ⟨ad189, A189_9, c189_9, e189, hx189_0, hx189_1, hx189_2, hx189_3, hx189_4, hx189_5, hx189_6, hx189_7, hx189_8, hx189_9, hl189_9, hi189_9⟩ := at_T53 HR0.out x5_1 p189 q189
               obtain rfl : ad182 = ad189 := (by injection e189)
               have HR189_9 := Aside0.mk hi189_9
               have HC189_9 := Aside0.mk hl189_9
               clear hi189_9 hl189_9
               replace p189 := eq_true p189
               replace q189 := eq_true q189
               have ea_ := Option.some.inj (hx182_9.symm.trans hx189_9)
               injection ea_ with ea_ en_ ec_
               subst ea_
               subst ec_
               clear en_
               have p190 : 0 ≤ (x5_1 : Int) := of_decide_eq_true (by first | (with_reducible assumption) | assumption)
               have q190 : x5_1 < (l0.length : Int) := of_decide_eq_true (by first | (with_reducible assumption) | assumption)
               obtain ⟨ad190, A190_9, c190_9, e190, hx190_0, hx190_1, hx190_2, hx190_3, hx190_4, hx190_5, hx190_6, hx190_7, hx190_8, hx190_9, hl190_9, hi190_9⟩ := at_T53 HR0.out x5_1 p190 q190
               obtain rfl : ad182 = ad190 := (by injection e190)
               have HR190_9 := Aside0.mk hi190_9
               have HC190_9 := Aside0.mk hl190_9
               clear hi190_9 hl190_9
               replace p190 := eq_true p190
               replace q190 := eq_true q190
               have ea_ := Option.some.inj (hx182_9.symm.trans hx190_9)
               injection ea_ with ea_ en_ ec_
               subst ea_
               subst ec_
               clear en_
               have p191 : 0 ≤ (x5_1 : Int) := of_decide_eq_true (by first | (with_reducible assumption) | assumption)
               have q191 : x5_1 < (l0.length : Int) := of_decide_eq_true (by first | (with_reducible assumption) | assumption)
               obtain ⟨ad191, A191_9, c191_9, e191, hx191_0, hx191_1, hx191_2, hx191_3, hx191_4, hx191_5, hx191_6, hx191_7, hx191_8, hx191_9, hl191_9, hi191_9⟩ := at_T53 HR0.out x5_1 p191 q191
               obtain rfl : ad182 = ad191 := (by injection e191)
               have HR191_9 := Aside0.mk hi191_9
               have HC191_9 := Aside0.mk hl191_9
               clear hi191_9 hl191_9
               replace p191 := eq_true p191
               replace q191 := eq_true q191
               have ea_ := Option.some.inj (hx182_9.symm.trans hx191_9)
               injection ea_ with ea_ en_ ec_
               subst ea_
               subst ec_
               clear en_
               go_wp2_with (first | ((with_reducible refine gate_callee (f := 61) rfl ?_); refine goA (some 108) rfl rfl Try.func61 rfl #[.slice A182_9 ((rd_T53 l0 x5_1).f6.f1.f2).length c182_9, .int .i64 (wrap64 ((wrap64 ((wrap64 ((wrap64 ((wrap64 ((wrap64 ((wrap64 ((wrap64 ((wrap64 (x1_1 + 1)) + 1)) + 1)) + 1)) + 1)) + 1)) + 1)) + 1)) + 1))] rfl ?_; (with_reducible refine (laws_heldByteS.calls k1 _ _ ((rd_T53 l0 x5_1).f6.f1.f2) (wrap64 ((wrap64 ((wrap64 ((wrap64 ((wrap64 ((wrap64 ((wrap64 ((wrap64 ((wrap64 (x1_1 + 1)) + 1)) + 1)) + 1)) + 1)) + 1)) + 1)) + 1)) + 1)) t192 _ ?side1 ?side2 A14.out).mono ?_); (case side1 => repeat (first | exact HR191_9.out | (with_reducible refine Kd.C_alloc ?_ _) | (with_reducible refine Kd.C_drewN ?_ _) | (with_reducible refine Kd.C_drew ?_))); (case side2 => exact HC191_9.out); rintro e w' ⟨rfl, ⟨nd, rfl⟩⟩; refine ⟨_, rfl, ?_⟩))
               go_ret
               exact ⟨by first | rfl | (simp; done) | (simp [*]; done), drw⟩
              ·
               rw [if_neg c15] at H
               have c15b0 : decide (t192 < 0) = false := decide_eq_false c15
               clear c15
               have H' := Aside0.mk H
               clear H
               have p182 : 0 ≤ (x5_1 : Int) := of_decide_eq_true (by first | (with_reducible assumption) | assumption)
               have q182 : x5_1 < (l0.length : Int) := of_decide_eq_true (by first | (with_reducible assumption) | assumption)
               obtain ⟨ad182, A182_9, c182_9, e182, hx182_0, hx182_1, hx182_2, hx182_3, hx182_4, hx182_5, hx182_6, hx182_7, hx182_8, hx182_9, hl182_9, hi182_9⟩ := at_T53 HR0.out x5_1 p182 q182
               cases e182
               have HR182_9 := Aside0.mk hi182_9
               have HC182_9 := Aside0.mk hl182_9
               clear hi182_9 hl182_9
               replace p182 := eq_true p182
               replace q182 := eq_true q182
               have p183 : 0 ≤ (x5_1 : Int) := of_decide_eq_true (by first | (with_reducible assumption) | assumption)
               have q183 : x5_1 < (l0.length : Int) := of_decide_eq_true (by first | (with_reducible assumption) | assumption)
               obtain ⟨ad183, A183_9, c183_9, e183, hx183_0, hx183_1, hx183_2, hx183_3, hx183_4, hx183_5, hx183_6, hx183_7, hx183_8, hx183_9, hl183_9, hi183_9⟩ := at_T53 HR0.out x5_1 p183 q183
               obtain rfl : ad182 = ad183 := (by injection e183)
               have HR183_9 := Aside0.mk hi183_9
               have HC183_9 := Aside0.mk hl183_9
               clear hi183_9 hl183_9
               replace p183 := eq_true p183
               replace q183 := eq_true q183
               have ea_ := Option.some.inj (hx182_9.symm.trans hx183_9)
               injection ea_ with ea_ en_ ec_
               subst ea_
               subst ec_
               clear en_
               have p184 : 0 ≤ (x5_1 : Int) := of_decide_eq_true (by first | (with_reducible assumption) | assumption)
               have q184 : x5_1 < (l0.length : Int) := of_decide_eq_true (by first | (with_reducible assumption) | assumption)
               obtain ⟨ad184, A184_9, c184_9, e184, hx184_0, hx184_1, hx184_2, hx184_3, hx184_4, hx184_5, hx184_6, hx184_7, hx184_8, hx184_9, hl184_9, hi184_9⟩ := at_T53 HR0.out x5_1 p184 q184
               obtain rfl : ad182 = ad184 := (by injection e184)
               have HR184_9 := Aside0.mk hi184_9
               have HC184_9 := Aside0.mk hl184_9
               clear hi184_9 hl184_9
               replace p184 := eq_true p184
               replace q184 := eq_true q184
               have ea_ := Option.some.inj (hx182_9.symm.trans hx184_9)
               injection ea_ with ea_ en_ ec_
               subst ea_
               subst ec_
               clear en_
               have p185 : 0 ≤ (x5_1 : Int) := of_decide_eq_true (by first | (with_reducible assumption) | assumption)
               have q185 : x5_1 < (l0.length : Int) := of_decide_eq_true (by first | (with_reducible assumption) | assumption)
               obtain ⟨ad185, A185_9, c185_9, e185, hx185_0, hx185_1, hx185_2, hx185_3, hx185_4, hx185_5, hx185_6, hx185_7, hx185_8, hx185_9, hl185_9, hi185_9⟩ := at_T53 HR0.out x5_1 p185 q185
               obtain rfl : ad182 = ad185 := (by injection e185)
               have HR185_9 := Aside0.mk hi185_9
               have HC185_9 := Aside0.mk hl185_9
               clear hi185_9 hl185_9
               replace p185 := eq_true p185
               replace q185 := eq_true q185
               have ea_ := Option.some.inj (hx182_9.symm.trans hx185_9)
               injection ea_ with ea_ en_ ec_
               subst ea_
               subst ec_
               clear en_
               have p186 : 0 ≤ (x5_1 : Int) := of_decide_eq_true (by first | (with_reducible assumption) | assumption)
               have q186 : x5_1 < (l0.length : Int) := of_decide_eq_true (by first | (with_reducible assumption) | assumption)
               obtain ⟨ad186, A186_9, c186_9, e186, hx186_0, hx186_1, hx186_2, hx186_3, hx186_4, hx186_5, hx186_6, hx186_7, hx186_8, hx186_9, hl186_9, hi186_9⟩ := at_T53 HR0.out x5_1 p186 q186
               obtain rfl : ad182 = ad186 := (by injection e186)
               have HR186_9 := Aside0.mk hi186_9
               have HC186_9 := Aside0.mk hl186_9
               clear hi186_9 hl186_9
               replace p186 := eq_true p186
               replace q186 := eq_true q186
               have ea_ := Option.some.inj (hx182_9.symm.trans hx186_9)
               injection ea_ with ea_ en_ ec_
               subst ea_
               subst ec_
               clear en_
               have p187 : 0 ≤ (x5_1 : Int) := of_decide_eq_true (by first | (with_reducible assumption) | assumption)
               have q187 : x5_1 < (l0.length : Int) := of_decide_eq_true (by first | (with_reducible assumption) | assumption)
               obtain ⟨ad187, A187_9, c187_9, e187, hx187_0, hx187_1, hx187_2, hx187_3, hx187_4, hx187_5, hx187_6, hx187_7, hx187_8, hx187_9, hl187_9, hi187_9⟩ := at_T53 HR0.out x5_1 p187 q187
               obtain rfl : ad182 = ad187 := (by injection e187)
               have HR187_9 := Aside0.mk hi187_9
               have HC187_9 := Aside0.mk hl187_9
               clear hi187_9 hl187_9
               replace p187 := eq_true p187
               replace q187 := eq_true q187
               have ea_ := Option.some.inj (hx182_9.symm.trans hx187_9)
               injection ea_ with ea_ en_ ec_
               subst ea_
               subst ec_
               clear en_
               have p188 : 0 ≤ (x5_1 : Int) := of_decide_eq_true (by first | (with_reducible assumption) | assumption)
               have q188 : x5_1 < (l0.length : Int) := of_decide_eq_true (by first | (with_reducible assumption) | assumption)
               obtain ⟨ad188, A188_9, c188_9, e188, hx188_0, hx188_1, hx188_2, hx188_3, hx188_4, hx188_5, hx188_6, hx188_7, hx188_8, hx188_9, hl188_9, hi188_9⟩ := at_T53 HR0.out x5_1 p188 q188
               obtain rfl : ad182 = ad188 := (by injection e188)
               have HR188_9 := Aside0.mk hi188_9
               have HC188_9 := Aside0.mk hl188_9
               clear hi188_9 hl188_9
               replace p188 := eq_true p188
               replace q188 := eq_true q188
               have ea_ := Option.some.inj (hx182_9.symm.trans hx188_9)
               injection ea_ with ea_ en_ ec_
               subst ea_
               subst ec_
               clear en_
               have p189 : 0 ≤ (x5_1 : Int) := of_decide_eq_true (by first | (with_reducible assumption) | assumption)
               have q189 : x5_1 < (l0.length : Int) := of_decide_eq_true (by first | (with_reducible assumption) | assumption)
               obtain ⟨ad189, A189_9, c189_9, e189, hx189_0, hx189_1, hx189_2, hx189_3, hx189_4, hx189_5, hx189_6, hx189_7, hx189_8, hx189_9, hl189_9, hi189_9⟩ := at_T53 HR0.out x5_1 p189 q189
               obtain rfl : ad182 = ad189 := (by injection e189)
               have HR189_9 := Aside0.mk hi189_9
               have HC189_9 := Aside0.mk hl189_9
               clear hi189_9 hl189_9
               replace p189 := eq_true p189
               replace q189 := eq_true q189
               have ea_ := Option.some.inj (hx182_9.symm.trans hx189_9)
               injection ea_ with ea_ en_ ec_
               subst ea_
               subst ec_
               clear en_
               have p190 : 0 ≤ (x5_1 : Int) := of_decide_eq_true (by first | (with_reducible assumption) | assumption)
               have q190 : x5_1 < (l0.length : Int) := of_decide_eq_true (by first | (with_reducible assumption) | assumption)
               obtain ⟨ad190, A190_9, c190_9, e190, hx190_0, hx190_1, hx190_2, hx190_3, hx190_4, hx190_5, hx190_6, hx190_7, hx190_8, hx190_9, hl190_9, hi190_9⟩ := at_T53 HR0.out x5_1 p190 q190
               obtain rfl : ad182 = ad190 := (by injection e190)
               have HR190_9 := Aside0.mk hi190_9
               have HC190_9 := Aside0.mk hl190_9
               clear hi190_9 hl190_9
               replace p190 := eq_true p190
               replace q190 := eq_true q190
               have ea_ := Option.some.inj (hx182_9.symm.trans hx190_9)
               injection ea_ with ea_ en_ ec_
               subst ea_
               subst ec_
               clear en_
               have p191 : 0 ≤ (x5_1 : Int) := of_decide_eq_true (by first | (with_reducible assumption) | assumption)
               have q191 : x5_1 < (l0.length : Int) := of_decide_eq_true (by first | (with_reducible assumption) | assumption)
               obtain ⟨ad191, A191_9, c191_9, e191, hx191_0, hx191_1, hx191_2, hx191_3, hx191_4, hx191_5, hx191_6, hx191_7, hx191_8, hx191_9, hl191_9, hi191_9⟩ := at_T53 HR0.out x5_1 p191 q191
               obtain rfl : ad182 = ad191 := (by injection e191)
               have HR191_9 := Aside0.mk hi191_9
               have HC191_9 := Aside0.mk hl191_9
               clear hi191_9 hl191_9
               replace p191 := eq_true p191
               replace q191 := eq_true q191
               have ea_ := Option.some.inj (hx182_9.symm.trans hx191_9)
               injection ea_ with ea_ en_ ec_
               subst ea_
               subst ec_
               clear en_
               go_wp2_with (first | ((with_reducible refine gate_callee (f := 61) rfl ?_); refine goA (some 108) rfl rfl Try.func61 rfl #[.slice A182_9 ((rd_T53 l0 x5_1).f6.f1.f2).length c182_9, .int .i64 (wrap64 ((wrap64 ((wrap64 ((wrap64 ((wrap64 ((wrap64 ((wrap64 ((wrap64 ((wrap64 (x1_1 + 1)) + 1)) + 1)) + 1)) + 1)) + 1)) + 1)) + 1)) + 1))] rfl ?_; (with_reducible refine (laws_heldByteS.calls k1 _ _ ((rd_T53 l0 x5_1).f6.f1.f2) (wrap64 ((wrap64 ((wrap64 ((wrap64 ((wrap64 ((wrap64 ((wrap64 ((wrap64 ((wrap64 (x1_1 + 1)) + 1)) + 1)) + 1)) + 1)) + 1)) + 1)) + 1)) + 1)) t192 _ ?side1 ?side2 A14.out).mono ?_); (case side1 => repeat (first | exact HR191_9.out | (with_reducible refine Kd.C_alloc ?_ _) | (with_reducible refine Kd.C_drewN ?_ _) | (with_reducible refine Kd.C_drew ?_))); (case side2 => exact HC191_9.out); rintro e w' ⟨rfl, ⟨nd, rfl⟩⟩; refine ⟨_, rfl, ?_⟩))
               go_roundg k1
               case measure => have := HK1.out; omega
               case rel => exact ⟨(t192), (wrap64 (x5_1 + 1)), (by first | rfl | (simp; done) | (simp [*]; done)), (by first | rfl | (simp; done) | (simp [*]; done)), H', ⟨by have := HK1.out; omega⟩, drw⟩
             ·
              rw [if_neg c13] at H
              have c13b0 : (((rd_T53 l0 x5_1).f6.f1.f1) == (wrap64 ((wrap64 ((wrap64 ((wrap64 ((wrap64 ((wrap64 ((wrap64 ((wrap64 (x1_1 + 1)) + 1)) + 1)) + 1)) + 1)) + 1)) + 1)) + 1))) = false := beq_eq_false_iff_ne.mpr c13
              have c13b1 : (((rd_T53 l0 x5_1).f6.f1.f1) != (wrap64 ((wrap64 ((wrap64 ((wrap64 ((wrap64 ((wrap64 ((wrap64 ((wrap64 (x1_1 + 1)) + 1)) + 1)) + 1)) + 1)) + 1)) + 1)) + 1))) = true := bne_iff_ne.mpr c13
              obtain rfl := Option.some.inj H
              have p182 : 0 ≤ (x5_1 : Int) := of_decide_eq_true (by first | (with_reducible assumption) | assumption)
              have q182 : x5_1 < (l0.length : Int) := of_decide_eq_true (by first | (with_reducible assumption) | assumption)
              obtain ⟨ad182, A182_9, c182_9, e182, hx182_0, hx182_1, hx182_2, hx182_3, hx182_4, hx182_5, hx182_6, hx182_7, hx182_8, hx182_9, hl182_9, hi182_9⟩ := at_T53 HR0.out x5_1 p182 q182
              cases e182
              have HR182_9 := Aside0.mk hi182_9
              have HC182_9 := Aside0.mk hl182_9
              clear hi182_9 hl182_9
              replace p182 := eq_true p182
              replace q182 := eq_true q182
              have p183 : 0 ≤ (x5_1 : Int) := of_decide_eq_true (by first | (with_reducible assumption) | assumption)
              have q183 : x5_1 < (l0.length : Int) := of_decide_eq_true (by first | (with_reducible assumption) | assumption)
              obtain ⟨ad183, A183_9, c183_9, e183, hx183_0, hx183_1, hx183_2, hx183_3, hx183_4, hx183_5, hx183_6, hx183_7, hx183_8, hx183_9, hl183_9, hi183_9⟩ := at_T53 HR0.out x5_1 p183 q183
              obtain rfl : ad182 = ad183 := (by injection e183)
              have HR183_9 := Aside0.mk hi183_9
              have HC183_9 := Aside0.mk hl183_9
              clear hi183_9 hl183_9
              replace p183 := eq_true p183
              replace q183 := eq_true q183
              have ea_ := Option.some.inj (hx182_9.symm.trans hx183_9)
              injection ea_ with ea_ en_ ec_
              subst ea_
              subst ec_
              clear en_
              have p184 : 0 ≤ (x5_1 : Int) := of_decide_eq_true (by first | (with_reducible assumption) | assumption)
              have q184 : x5_1 < (l0.length : Int) := of_decide_eq_true (by first | (with_reducible assumption) | assumption)
              obtain ⟨ad184, A184_9, c184_9, e184, hx184_0, hx184_1, hx184_2, hx184_3, hx184_4, hx184_5, hx184_6, hx184_7, hx184_8, hx184_9, hl184_9, hi184_9⟩ := at_T53 HR0.out x5_1 p184 q184
              obtain rfl : ad182 = ad184 := (by injection e184)
              have HR184_9 := Aside0.mk hi184_9
              have HC184_9 := Aside0.mk hl184_9
              clear hi184_9 hl184_9
              replace p184 := eq_true p184
              replace q184 := eq_true q184
              have ea_ := Option.some.inj (hx182_9.symm.trans hx184_9)
              injection ea_ with ea_ en_ ec_
              subst ea_
              subst ec_
              clear en_
              have p185 : 0 ≤ (x5_1 : Int) := of_decide_eq_true (by first | (with_reducible assumption) | assumption)
              have q185 : x5_1 < (l0.length : Int) := of_decide_eq_true (by first | (with_reducible assumption) | assumption)
              obtain ⟨ad185, A185_9, c185_9, e185, hx185_0, hx185_1, hx185_2, hx185_3, hx185_4, hx185_5, hx185_6, hx185_7, hx185_8, hx185_9, hl185_9, hi185_9⟩ := at_T53 HR0.out x5_1 p185 q185
              obtain rfl : ad182 = ad185 := (by injection e185)
              have HR185_9 := Aside0.mk hi185_9
              have HC185_9 := Aside0.mk hl185_9
              clear hi185_9 hl185_9
              replace p185 := eq_true p185
              replace q185 := eq_true q185
              have ea_ := Option.some.inj (hx182_9.symm.trans hx185_9)
              injection ea_ with ea_ en_ ec_
              subst ea_
              subst ec_
              clear en_
              have p186 : 0 ≤ (x5_1 : Int) := of_decide_eq_true (by first | (with_reducible assumption) | assumption)
              have q186 : x5_1 < (l0.length : Int) := of_decide_eq_true (by first | (with_reducible assumption) | assumption)
              obtain ⟨ad186, A186_9, c186_9, e186, hx186_0, hx186_1, hx186_2, hx186_3, hx186_4, hx186_5, hx186_6, hx186_7, hx186_8, hx186_9, hl186_9, hi186_9⟩ := at_T53 HR0.out x5_1 p186 q186
              obtain rfl : ad182 = ad186 := (by injection e186)
              have HR186_9 := Aside0.mk hi186_9
              have HC186_9 := Aside0.mk hl186_9
              clear hi186_9 hl186_9
              replace p186 := eq_true p186
              replace q186 := eq_true q186
              have ea_ := Option.some.inj (hx182_9.symm.trans hx186_9)
              injection ea_ with ea_ en_ ec_
              subst ea_
              subst ec_
              clear en_
              have p187 : 0 ≤ (x5_1 : Int) := of_decide_eq_true (by first | (with_reducible assumption) | assumption)
              have q187 : x5_1 < (l0.length : Int) := of_decide_eq_true (by first | (with_reducible assumption) | assumption)
              obtain ⟨ad187, A187_9, c187_9, e187, hx187_0, hx187_1, hx187_2, hx187_3, hx187_4, hx187_5, hx187_6, hx187_7, hx187_8, hx187_9, hl187_9, hi187_9⟩ := at_T53 HR0.out x5_1 p187 q187
              obtain rfl : ad182 = ad187 := (by injection e187)
              have HR187_9 := Aside0.mk hi187_9
              have HC187_9 := Aside0.mk hl187_9
              clear hi187_9 hl187_9
              replace p187 := eq_true p187
              replace q187 := eq_true q187
              have ea_ := Option.some.inj (hx182_9.symm.trans hx187_9)
              injection ea_ with ea_ en_ ec_
              subst ea_
              subst ec_
              clear en_
              have p188 : 0 ≤ (x5_1 : Int) := of_decide_eq_true (by first | (with_reducible assumption) | assumption)
              have q188 : x5_1 < (l0.length : Int) := of_decide_eq_true (by first | (with_reducible assumption) | assumption)
              obtain ⟨ad188, A188_9, c188_9, e188, hx188_0, hx188_1, hx188_2, hx188_3, hx188_4, hx188_5, hx188_6, hx188_7, hx188_8, hx188_9, hl188_9, hi188_9⟩ := at_T53 HR0.out x5_1 p188 q188
              obtain rfl : ad182 = ad188 := (by injection e188)
              have HR188_9 := Aside0.mk hi188_9
              have HC188_9 := Aside0.mk hl188_9
              clear hi188_9 hl188_9
              replace p188 := eq_true p188
              replace q188 := eq_true q188
              have ea_ := Option.some.inj (hx182_9.symm.trans hx188_9)
              injection ea_ with ea_ en_ ec_
              subst ea_
              subst ec_
              clear en_
              have p189 : 0 ≤ (x5_1 : Int) := of_decide_eq_true (by first | (with_reducible assumption) | assumption)
              have q189 : x5_1 < (l0.length : Int) := of_decide_eq_true (by first | (with_reducible assumption) | assumption)
              obtain ⟨ad189, A189_9, c189_9, e189, hx189_0, hx189_1, hx189_2, hx189_3, hx189_4, hx189_5, hx189_6, hx189_7, hx189_8, hx189_9, hl189_9, hi189_9⟩ := at_T53 HR0.out x5_1 p189 q189
              obtain rfl : ad182 = ad189 := (by injection e189)
              have HR189_9 := Aside0.mk hi189_9
              have HC189_9 := Aside0.mk hl189_9
              clear hi189_9 hl189_9
              replace p189 := eq_true p189
              replace q189 := eq_true q189
              have ea_ := Option.some.inj (hx182_9.symm.trans hx189_9)
              injection ea_ with ea_ en_ ec_
              subst ea_
              subst ec_
              clear en_
              have p190 : 0 ≤ (x5_1 : Int) := of_decide_eq_true (by first | (with_reducible assumption) | assumption)
              have q190 : x5_1 < (l0.length : Int) := of_decide_eq_true (by first | (with_reducible assumption) | assumption)
              obtain ⟨ad190, A190_9, c190_9, e190, hx190_0, hx190_1, hx190_2, hx190_3, hx190_4, hx190_5, hx190_6, hx190_7, hx190_8, hx190_9, hl190_9, hi190_9⟩ := at_T53 HR0.out x5_1 p190 q190
              obtain rfl : ad182 = ad190 := (by injection e190)
              have HR190_9 := Aside0.mk hi190_9
              have HC190_9 := Aside0.mk hl190_9
              clear hi190_9 hl190_9
              replace p190 := eq_true p190
              replace q190 := eq_true q190
              have ea_ := Option.some.inj (hx182_9.symm.trans hx190_9)
              injection ea_ with ea_ en_ ec_
              subst ea_
              subst ec_
              clear en_
              go_wp2
              go_ret
              exact ⟨by first | rfl | (simp; done) | (simp [*]; done), drw⟩
            ·
             rw [if_neg c12] at H
             have c12b0 : (((rd_T53 l0 x5_1).f6.f1.f0) == (wrap64 ((wrap64 ((wrap64 ((wrap64 ((wrap64 ((wrap64 ((wrap64 (x1_1 + 1)) + 1)) + 1)) + 1)) + 1)) + 1)) + 1))) = false := beq_eq_false_iff_ne.mpr c12
             have c12b1 : (((rd_T53 l0 x5_1).f6.f1.f0) != (wrap64 ((wrap64 ((wrap64 ((wrap64 ((wrap64 ((wrap64 ((wrap64 (x1_1 + 1)) + 1)) + 1)) + 1)) + 1)) + 1)) + 1))) = true := bne_iff_ne.mpr c12
             obtain rfl := Option.some.inj H
             have p182 : 0 ≤ (x5_1 : Int) := of_decide_eq_true (by first | (with_reducible assumption) | assumption)
             have q182 : x5_1 < (l0.length : Int) := of_decide_eq_true (by first | (with_reducible assumption) | assumption)
             obtain ⟨ad182, A182_9, c182_9, e182, hx182_0, hx182_1, hx182_2, hx182_3, hx182_4, hx182_5, hx182_6, hx182_7, hx182_8, hx182_9, hl182_9, hi182_9⟩ := at_T53 HR0.out x5_1 p182 q182
             cases e182
             have HR182_9 := Aside0.mk hi182_9
             have HC182_9 := Aside0.mk hl182_9
             clear hi182_9 hl182_9
             replace p182 := eq_true p182
             replace q182 := eq_true q182
             have p183 : 0 ≤ (x5_1 : Int) := of_decide_eq_true (by first | (with_reducible assumption) | assumption)
             have q183 : x5_1 < (l0.length : Int) := of_decide_eq_true (by first | (with_reducible assumption) | assumption)
             obtain ⟨ad183, A183_9, c183_9, e183, hx183_0, hx183_1, hx183_2, hx183_3, hx183_4, hx183_5, hx183_6, hx183_7, hx183_8, hx183_9, hl183_9, hi183_9⟩ := at_T53 HR0.out x5_1 p183 q183
             obtain rfl : ad182 = ad183 := (by injection e183)
             have HR183_9 := Aside0.mk hi183_9
             have HC183_9 := Aside0.mk hl183_9
             clear hi183_9 hl183_9
             replace p183 := eq_true p183
             replace q183 := eq_true q183
             have ea_ := Option.some.inj (hx182_9.symm.trans hx183_9)
             injection ea_ with ea_ en_ ec_
             subst ea_
             subst ec_
             clear en_
             have p184 : 0 ≤ (x5_1 : Int) := of_decide_eq_true (by first | (with_reducible assumption) | assumption)
             have q184 : x5_1 < (l0.length : Int) := of_decide_eq_true (by first | (with_reducible assumption) | assumption)
             obtain ⟨ad184, A184_9, c184_9, e184, hx184_0, hx184_1, hx184_2, hx184_3, hx184_4, hx184_5, hx184_6, hx184_7, hx184_8, hx184_9, hl184_9, hi184_9⟩ := at_T53 HR0.out x5_1 p184 q184
             obtain rfl : ad182 = ad184 := (by injection e184)
             have HR184_9 := Aside0.mk hi184_9
             have HC184_9 := Aside0.mk hl184_9
             clear hi184_9 hl184_9
             replace p184 := eq_true p184
             replace q184 := eq_true q184
             have ea_ := Option.some.inj (hx182_9.symm.trans hx184_9)
             injection ea_ with ea_ en_ ec_
             subst ea_
             subst ec_
             clear en_
             have p185 : 0 ≤ (x5_1 : Int) := of_decide_eq_true (by first | (with_reducible assumption) | assumption)
             have q185 : x5_1 < (l0.length : Int) := of_decide_eq_true (by first | (with_reducible assumption) | assumption)
             obtain ⟨ad185, A185_9, c185_9, e185, hx185_0, hx185_1, hx185_2, hx185_3, hx185_4, hx185_5, hx185_6, hx185_7, hx185_8, hx185_9, hl185_9, hi185_9⟩ := at_T53 HR0.out x5_1 p185 q185
             obtain rfl : ad182 = ad185 := (by injection e185)
             have HR185_9 := Aside0.mk hi185_9
             have HC185_9 := Aside0.mk hl185_9
             clear hi185_9 hl185_9
             replace p185 := eq_true p185
             replace q185 := eq_true q185
             have ea_ := Option.some.inj (hx182_9.symm.trans hx185_9)
             injection ea_ with ea_ en_ ec_
             subst ea_
             subst ec_
             clear en_
             have p186 : 0 ≤ (x5_1 : Int) := of_decide_eq_true (by first | (with_reducible assumption) | assumption)
             have q186 : x5_1 < (l0.length : Int) := of_decide_eq_true (by first | (with_reducible assumption) | assumption)
             obtain ⟨ad186, A186_9, c186_9, e186, hx186_0, hx186_1, hx186_2, hx186_3, hx186_4, hx186_5, hx186_6, hx186_7, hx186_8, hx186_9, hl186_9, hi186_9⟩ := at_T53 HR0.out x5_1 p186 q186
             obtain rfl : ad182 = ad186 := (by injection e186)
             have HR186_9 := Aside0.mk hi186_9
             have HC186_9 := Aside0.mk hl186_9
             clear hi186_9 hl186_9
             replace p186 := eq_true p186
             replace q186 := eq_true q186
             have ea_ := Option.some.inj (hx182_9.symm.trans hx186_9)
             injection ea_ with ea_ en_ ec_
             subst ea_
             subst ec_
             clear en_
             have p187 : 0 ≤ (x5_1 : Int) := of_decide_eq_true (by first | (with_reducible assumption) | assumption)
             have q187 : x5_1 < (l0.length : Int) := of_decide_eq_true (by first | (with_reducible assumption) | assumption)
             obtain ⟨ad187, A187_9, c187_9, e187, hx187_0, hx187_1, hx187_2, hx187_3, hx187_4, hx187_5, hx187_6, hx187_7, hx187_8, hx187_9, hl187_9, hi187_9⟩ := at_T53 HR0.out x5_1 p187 q187
             obtain rfl : ad182 = ad187 := (by injection e187)
             have HR187_9 := Aside0.mk hi187_9
             have HC187_9 := Aside0.mk hl187_9
             clear hi187_9 hl187_9
             replace p187 := eq_true p187
             replace q187 := eq_true q187
             have ea_ := Option.some.inj (hx182_9.symm.trans hx187_9)
             injection ea_ with ea_ en_ ec_
             subst ea_
             subst ec_
             clear en_
             have p188 : 0 ≤ (x5_1 : Int) := of_decide_eq_true (by first | (with_reducible assumption) | assumption)
             have q188 : x5_1 < (l0.length : Int) := of_decide_eq_true (by first | (with_reducible assumption) | assumption)
             obtain ⟨ad188, A188_9, c188_9, e188, hx188_0, hx188_1, hx188_2, hx188_3, hx188_4, hx188_5, hx188_6, hx188_7, hx188_8, hx188_9, hl188_9, hi188_9⟩ := at_T53 HR0.out x5_1 p188 q188
             obtain rfl : ad182 = ad188 := (by injection e188)
             have HR188_9 := Aside0.mk hi188_9
             have HC188_9 := Aside0.mk hl188_9
             clear hi188_9 hl188_9
             replace p188 := eq_true p188
             replace q188 := eq_true q188
             have ea_ := Option.some.inj (hx182_9.symm.trans hx188_9)
             injection ea_ with ea_ en_ ec_
             subst ea_
             subst ec_
             clear en_
             have p189 : 0 ≤ (x5_1 : Int) := of_decide_eq_true (by first | (with_reducible assumption) | assumption)
             have q189 : x5_1 < (l0.length : Int) := of_decide_eq_true (by first | (with_reducible assumption) | assumption)
             obtain ⟨ad189, A189_9, c189_9, e189, hx189_0, hx189_1, hx189_2, hx189_3, hx189_4, hx189_5, hx189_6, hx189_7, hx189_8, hx189_9, hl189_9, hi189_9⟩ := at_T53 HR0.out x5_1 p189 q189
             obtain rfl : ad182 = ad189 := (by injection e189)
             have HR189_9 := Aside0.mk hi189_9
             have HC189_9 := Aside0.mk hl189_9
             clear hi189_9 hl189_9
             replace p189 := eq_true p189
             replace q189 := eq_true q189
             have ea_ := Option.some.inj (hx182_9.symm.trans hx189_9)
             injection ea_ with ea_ en_ ec_
             subst ea_
             subst ec_
             clear en_
             go_wp2
             go_ret
             exact ⟨by first | rfl | (simp; done) | (simp [*]; done), drw⟩
           ·
            rw [if_neg c11] at H
            have c11b0 : (((rd_T53 l0 x5_1).f6.f0) == (wrap64 ((wrap64 ((wrap64 ((wrap64 ((wrap64 ((wrap64 (x1_1 + 1)) + 1)) + 1)) + 1)) + 1)) + 1))) = false := beq_eq_false_iff_ne.mpr c11
            have c11b1 : (((rd_T53 l0 x5_1).f6.f0) != (wrap64 ((wrap64 ((wrap64 ((wrap64 ((wrap64 ((wrap64 (x1_1 + 1)) + 1)) + 1)) + 1)) + 1)) + 1))) = true := bne_iff_ne.mpr c11
            obtain rfl := Option.some.inj H
            have p182 : 0 ≤ (x5_1 : Int) := of_decide_eq_true (by first | (with_reducible assumption) | assumption)
            have q182 : x5_1 < (l0.length : Int) := of_decide_eq_true (by first | (with_reducible assumption) | assumption)
            obtain ⟨ad182, A182_9, c182_9, e182, hx182_0, hx182_1, hx182_2, hx182_3, hx182_4, hx182_5, hx182_6, hx182_7, hx182_8, hx182_9, hl182_9, hi182_9⟩ := at_T53 HR0.out x5_1 p182 q182
            cases e182
            have HR182_9 := Aside0.mk hi182_9
            have HC182_9 := Aside0.mk hl182_9
            clear hi182_9 hl182_9
            replace p182 := eq_true p182
            replace q182 := eq_true q182
            have p183 : 0 ≤ (x5_1 : Int) := of_decide_eq_true (by first | (with_reducible assumption) | assumption)
            have q183 : x5_1 < (l0.length : Int) := of_decide_eq_true (by first | (with_reducible assumption) | assumption)
            obtain ⟨ad183, A183_9, c183_9, e183, hx183_0, hx183_1, hx183_2, hx183_3, hx183_4, hx183_5, hx183_6, hx183_7, hx183_8, hx183_9, hl183_9, hi183_9⟩ := at_T53 HR0.out x5_1 p183 q183
            obtain rfl : ad182 = ad183 := (by injection e183)
            have HR183_9 := Aside0.mk hi183_9
            have HC183_9 := Aside0.mk hl183_9
            clear hi183_9 hl183_9
            replace p183 := eq_true p183
            replace q183 := eq_true q183
            have ea_ := Option.some.inj (hx182_9.symm.trans hx183_9)
            injection ea_ with ea_ en_ ec_
            subst ea_
            subst ec_
            clear en_
            have p184 : 0 ≤ (x5_1 : Int) := of_decide_eq_true (by first | (with_reducible assumption) | assumption)
            have q184 : x5_1 < (l0.length : Int) := of_decide_eq_true (by first | (with_reducible assumption) | assumption)
            obtain ⟨ad184, A184_9, c184_9, e184, hx184_0, hx184_1, hx184_2, hx184_3, hx184_4, hx184_5, hx184_6, hx184_7, hx184_8, hx184_9, hl184_9, hi184_9⟩ := at_T53 HR0.out x5_1 p184 q184
            obtain rfl : ad182 = ad184 := (by injection e184)
            have HR184_9 := Aside0.mk hi184_9
            have HC184_9 := Aside0.mk hl184_9
            clear hi184_9 hl184_9
            replace p184 := eq_true p184
            replace q184 := eq_true q184
            have ea_ := Option.some.inj (hx182_9.symm.trans hx184_9)
            injection ea_ with ea_ en_ ec_
            subst ea_
            subst ec_
            clear en_
            have p185 : 0 ≤ (x5_1 : Int) := of_decide_eq_true (by first | (with_reducible assumption) | assumption)
            have q185 : x5_1 < (l0.length : Int) := of_decide_eq_true (by first | (with_reducible assumption) | assumption)
            obtain ⟨ad185, A185_9, c185_9, e185, hx185_0, hx185_1, hx185_2, hx185_3, hx185_4, hx185_5, hx185_6, hx185_7, hx185_8, hx185_9, hl185_9, hi185_9⟩ := at_T53 HR0.out x5_1 p185 q185
            obtain rfl : ad182 = ad185 := (by injection e185)
            have HR185_9 := Aside0.mk hi185_9
            have HC185_9 := Aside0.mk hl185_9
            clear hi185_9 hl185_9
            replace p185 := eq_true p185
            replace q185 := eq_true q185
            have ea_ := Option.some.inj (hx182_9.symm.trans hx185_9)
            injection ea_ with ea_ en_ ec_
            subst ea_
            subst ec_
            clear en_
            have p186 : 0 ≤ (x5_1 : Int) := of_decide_eq_true (by first | (with_reducible assumption) | assumption)
            have q186 : x5_1 < (l0.length : Int) := of_decide_eq_true (by first | (with_reducible assumption) | assumption)
            obtain ⟨ad186, A186_9, c186_9, e186, hx186_0, hx186_1, hx186_2, hx186_3, hx186_4, hx186_5, hx186_6, hx186_7, hx186_8, hx186_9, hl186_9, hi186_9⟩ := at_T53 HR0.out x5_1 p186 q186
            obtain rfl : ad182 = ad186 := (by injection e186)
            have HR186_9 := Aside0.mk hi186_9
            have HC186_9 := Aside0.mk hl186_9
            clear hi186_9 hl186_9
            replace p186 := eq_true p186
            replace q186 := eq_true q186
            have ea_ := Option.some.inj (hx182_9.symm.trans hx186_9)
            injection ea_ with ea_ en_ ec_
            subst ea_
            subst ec_
            clear en_
            have p187 : 0 ≤ (x5_1 : Int) := of_decide_eq_true (by first | (with_reducible assumption) | assumption)
            have q187 : x5_1 < (l0.length : Int) := of_decide_eq_true (by first | (with_reducible assumption) | assumption)
            obtain ⟨ad187, A187_9, c187_9, e187, hx187_0, hx187_1, hx187_2, hx187_3, hx187_4, hx187_5, hx187_6, hx187_7, hx187_8, hx187_9, hl187_9, hi187_9⟩ := at_T53 HR0.out x5_1 p187 q187
            obtain rfl : ad182 = ad187 := (by injection e187)
            have HR187_9 := Aside0.mk hi187_9
            have HC187_9 := Aside0.mk hl187_9
            clear hi187_9 hl187_9
            replace p187 := eq_true p187
            replace q187 := eq_true q187
            have ea_ := Option.some.inj (hx182_9.symm.trans hx187_9)
            injection ea_ with ea_ en_ ec_
            subst ea_
            subst ec_
            clear en_
            have p188 : 0 ≤ (x5_1 : Int) := of_decide_eq_true (by first | (with_reducible assumption) | assumption)
            have q188 : x5_1 < (l0.length : Int) := of_decide_eq_true (by first | (with_reducible assumption) | assumption)
            obtain ⟨ad188, A188_9, c188_9, e188, hx188_0, hx188_1, hx188_2, hx188_3, hx188_4, hx188_5, hx188_6, hx188_7, hx188_8, hx188_9, hl188_9, hi188_9⟩ := at_T53 HR0.out x5_1 p188 q188
            obtain rfl : ad182 = ad188 := (by injection e188)
            have HR188_9 := Aside0.mk hi188_9
            have HC188_9 := Aside0.mk hl188_9
            clear hi188_9 hl188_9
            replace p188 := eq_true p188
            replace q188 := eq_true q188
            have ea_ := Option.some.inj (hx182_9.symm.trans hx188_9)
            injection ea_ with ea_ en_ ec_
            subst ea_
            subst ec_
            clear en_
            go_wp2
            go_ret
            exact ⟨by first | rfl | (simp; done) | (simp [*]; done), drw⟩
         ·
          rw [if_neg c9] at H
          have c9b0 : (((rd_T53 l0 x5_1).f4) == (wrap64 ((wrap64 ((wrap64 ((wrap64 (x1_1 + 1)) + 1)) + 1)) + 1))) = false := beq_eq_false_iff_ne.mpr c9
          have c9b1 : (((rd_T53 l0 x5_1).f4) != (wrap64 ((wrap64 ((wrap64 ((wrap64 (x1_1 + 1)) + 1)) + 1)) + 1))) = true := bne_iff_ne.mpr c9
          obtain rfl := Option.some.inj H
          have p182 : 0 ≤ (x5_1 : Int) := of_decide_eq_true (by first | (with_reducible assumption) | assumption)
          have q182 : x5_1 < (l0.length : Int) := of_decide_eq_true (by first | (with_reducible assumption) | assumption)
          obtain ⟨ad182, A182_9, c182_9, e182, hx182_0, hx182_1, hx182_2, hx182_3, hx182_4, hx182_5, hx182_6, hx182_7, hx182_8, hx182_9, hl182_9, hi182_9⟩ := at_T53 HR0.out x5_1 p182 q182
          cases e182
          have HR182_9 := Aside0.mk hi182_9
          have HC182_9 := Aside0.mk hl182_9
          clear hi182_9 hl182_9
          replace p182 := eq_true p182
          replace q182 := eq_true q182
          have p183 : 0 ≤ (x5_1 : Int) := of_decide_eq_true (by first | (with_reducible assumption) | assumption)
          have q183 : x5_1 < (l0.length : Int) := of_decide_eq_true (by first | (with_reducible assumption) | assumption)
          obtain ⟨ad183, A183_9, c183_9, e183, hx183_0, hx183_1, hx183_2, hx183_3, hx183_4, hx183_5, hx183_6, hx183_7, hx183_8, hx183_9, hl183_9, hi183_9⟩ := at_T53 HR0.out x5_1 p183 q183
          obtain rfl : ad182 = ad183 := (by injection e183)
          have HR183_9 := Aside0.mk hi183_9
          have HC183_9 := Aside0.mk hl183_9
          clear hi183_9 hl183_9
          replace p183 := eq_true p183
          replace q183 := eq_true q183
          have ea_ := Option.some.inj (hx182_9.symm.trans hx183_9)
          injection ea_ with ea_ en_ ec_
          subst ea_
          subst ec_
          clear en_
          have p184 : 0 ≤ (x5_1 : Int) := of_decide_eq_true (by first | (with_reducible assumption) | assumption)
          have q184 : x5_1 < (l0.length : Int) := of_decide_eq_true (by first | (with_reducible assumption) | assumption)
          obtain ⟨ad184, A184_9, c184_9, e184, hx184_0, hx184_1, hx184_2, hx184_3, hx184_4, hx184_5, hx184_6, hx184_7, hx184_8, hx184_9, hl184_9, hi184_9⟩ := at_T53 HR0.out x5_1 p184 q184
          obtain rfl : ad182 = ad184 := (by injection e184)
          have HR184_9 := Aside0.mk hi184_9
          have HC184_9 := Aside0.mk hl184_9
          clear hi184_9 hl184_9
          replace p184 := eq_true p184
          replace q184 := eq_true q184
          have ea_ := Option.some.inj (hx182_9.symm.trans hx184_9)
          injection ea_ with ea_ en_ ec_
          subst ea_
          subst ec_
          clear en_
          have p185 : 0 ≤ (x5_1 : Int) := of_decide_eq_true (by first | (with_reducible assumption) | assumption)
          have q185 : x5_1 < (l0.length : Int) := of_decide_eq_true (by first | (with_reducible assumption) | assumption)
          obtain ⟨ad185, A185_9, c185_9, e185, hx185_0, hx185_1, hx185_2, hx185_3, hx185_4, hx185_5, hx185_6, hx185_7, hx185_8, hx185_9, hl185_9, hi185_9⟩ := at_T53 HR0.out x5_1 p185 q185
          obtain rfl : ad182 = ad185 := (by injection e185)
          have HR185_9 := Aside0.mk hi185_9
          have HC185_9 := Aside0.mk hl185_9
          clear hi185_9 hl185_9
          replace p185 := eq_true p185
          replace q185 := eq_true q185
          have ea_ := Option.some.inj (hx182_9.symm.trans hx185_9)
          injection ea_ with ea_ en_ ec_
          subst ea_
          subst ec_
          clear en_
          have p186 : 0 ≤ (x5_1 : Int) := of_decide_eq_true (by first | (with_reducible assumption) | assumption)
          have q186 : x5_1 < (l0.length : Int) := of_decide_eq_true (by first | (with_reducible assumption) | assumption)
          obtain ⟨ad186, A186_9, c186_9, e186, hx186_0, hx186_1, hx186_2, hx186_3, hx186_4, hx186_5, hx186_6, hx186_7, hx186_8, hx186_9, hl186_9, hi186_9⟩ := at_T53 HR0.out x5_1 p186 q186
          obtain rfl : ad182 = ad186 := (by injection e186)
          have HR186_9 := Aside0.mk hi186_9
          have HC186_9 := Aside0.mk hl186_9
          clear hi186_9 hl186_9
          replace p186 := eq_true p186
          replace q186 := eq_true q186
          have ea_ := Option.some.inj (hx182_9.symm.trans hx186_9)
          injection ea_ with ea_ en_ ec_
          subst ea_
          subst ec_
          clear en_
          go_wp2
          go_ret
          exact ⟨by first | rfl | (simp; done) | (simp [*]; done), drw⟩
        ·
         rw [if_neg c8] at H
         have c8b0 : (((rd_T53 l0 x5_1).f3) == (wrap64 ((wrap64 ((wrap64 (x1_1 + 1)) + 1)) + 1))) = false := beq_eq_false_iff_ne.mpr c8
         have c8b1 : (((rd_T53 l0 x5_1).f3) != (wrap64 ((wrap64 ((wrap64 (x1_1 + 1)) + 1)) + 1))) = true := bne_iff_ne.mpr c8
         obtain rfl := Option.some.inj H
         have p182 : 0 ≤ (x5_1 : Int) := of_decide_eq_true (by first | (with_reducible assumption) | assumption)
         have q182 : x5_1 < (l0.length : Int) := of_decide_eq_true (by first | (with_reducible assumption) | assumption)
         obtain ⟨ad182, A182_9, c182_9, e182, hx182_0, hx182_1, hx182_2, hx182_3, hx182_4, hx182_5, hx182_6, hx182_7, hx182_8, hx182_9, hl182_9, hi182_9⟩ := at_T53 HR0.out x5_1 p182 q182
         cases e182
         have HR182_9 := Aside0.mk hi182_9
         have HC182_9 := Aside0.mk hl182_9
         clear hi182_9 hl182_9
         replace p182 := eq_true p182
         replace q182 := eq_true q182
         have p183 : 0 ≤ (x5_1 : Int) := of_decide_eq_true (by first | (with_reducible assumption) | assumption)
         have q183 : x5_1 < (l0.length : Int) := of_decide_eq_true (by first | (with_reducible assumption) | assumption)
         obtain ⟨ad183, A183_9, c183_9, e183, hx183_0, hx183_1, hx183_2, hx183_3, hx183_4, hx183_5, hx183_6, hx183_7, hx183_8, hx183_9, hl183_9, hi183_9⟩ := at_T53 HR0.out x5_1 p183 q183
         obtain rfl : ad182 = ad183 := (by injection e183)
         have HR183_9 := Aside0.mk hi183_9
         have HC183_9 := Aside0.mk hl183_9
         clear hi183_9 hl183_9
         replace p183 := eq_true p183
         replace q183 := eq_true q183
         have ea_ := Option.some.inj (hx182_9.symm.trans hx183_9)
         injection ea_ with ea_ en_ ec_
         subst ea_
         subst ec_
         clear en_
         have p184 : 0 ≤ (x5_1 : Int) := of_decide_eq_true (by first | (with_reducible assumption) | assumption)
         have q184 : x5_1 < (l0.length : Int) := of_decide_eq_true (by first | (with_reducible assumption) | assumption)
         obtain ⟨ad184, A184_9, c184_9, e184, hx184_0, hx184_1, hx184_2, hx184_3, hx184_4, hx184_5, hx184_6, hx184_7, hx184_8, hx184_9, hl184_9, hi184_9⟩ := at_T53 HR0.out x5_1 p184 q184
         obtain rfl : ad182 = ad184 := (by injection e184)
         have HR184_9 := Aside0.mk hi184_9
         have HC184_9 := Aside0.mk hl184_9
         clear hi184_9 hl184_9
         replace p184 := eq_true p184
         replace q184 := eq_true q184
         have ea_ := Option.some.inj (hx182_9.symm.trans hx184_9)
         injection ea_ with ea_ en_ ec_
         subst ea_
         subst ec_
         clear en_
         have p185 : 0 ≤ (x5_1 : Int) := of_decide_eq_true (by first | (with_reducible assumption) | assumption)
         have q185 : x5_1 < (l0.length : Int) := of_decide_eq_true (by first | (with_reducible assumption) | assumption)
         obtain ⟨ad185, A185_9, c185_9, e185, hx185_0, hx185_1, hx185_2, hx185_3, hx185_4, hx185_5, hx185_6, hx185_7, hx185_8, hx185_9, hl185_9, hi185_9⟩ := at_T53 HR0.out x5_1 p185 q185
         obtain rfl : ad182 = ad185 := (by injection e185)
         have HR185_9 := Aside0.mk hi185_9
         have HC185_9 := Aside0.mk hl185_9
         clear hi185_9 hl185_9
         replace p185 := eq_true p185
         replace q185 := eq_true q185
         have ea_ := Option.some.inj (hx182_9.symm.trans hx185_9)
         injection ea_ with ea_ en_ ec_
         subst ea_
         subst ec_
         clear en_
         go_wp2
         go_ret
         exact ⟨by first | rfl | (simp; done) | (simp [*]; done), drw⟩
       ·
        rw [if_neg c7] at H
        have c7b0 : (((rd_T53 l0 x5_1).f2) == (wrap64 ((wrap64 (x1_1 + 1)) + 1))) = false := beq_eq_false_iff_ne.mpr c7
        have c7b1 : (((rd_T53 l0 x5_1).f2) != (wrap64 ((wrap64 (x1_1 + 1)) + 1))) = true := bne_iff_ne.mpr c7
        obtain rfl := Option.some.inj H
        have p182 : 0 ≤ (x5_1 : Int) := of_decide_eq_true (by first | (with_reducible assumption) | assumption)
        have q182 : x5_1 < (l0.length : Int) := of_decide_eq_true (by first | (with_reducible assumption) | assumption)
        obtain ⟨ad182, A182_9, c182_9, e182, hx182_0, hx182_1, hx182_2, hx182_3, hx182_4, hx182_5, hx182_6, hx182_7, hx182_8, hx182_9, hl182_9, hi182_9⟩ := at_T53 HR0.out x5_1 p182 q182
        cases e182
        have HR182_9 := Aside0.mk hi182_9
        have HC182_9 := Aside0.mk hl182_9
        clear hi182_9 hl182_9
        replace p182 := eq_true p182
        replace q182 := eq_true q182
        have p183 : 0 ≤ (x5_1 : Int) := of_decide_eq_true (by first | (with_reducible assumption) | assumption)
        have q183 : x5_1 < (l0.length : Int) := of_decide_eq_true (by first | (with_reducible assumption) | assumption)
        obtain ⟨ad183, A183_9, c183_9, e183, hx183_0, hx183_1, hx183_2, hx183_3, hx183_4, hx183_5, hx183_6, hx183_7, hx183_8, hx183_9, hl183_9, hi183_9⟩ := at_T53 HR0.out x5_1 p183 q183
        obtain rfl : ad182 = ad183 := (by injection e183)
        have HR183_9 := Aside0.mk hi183_9
        have HC183_9 := Aside0.mk hl183_9
        clear hi183_9 hl183_9
        replace p183 := eq_true p183
        replace q183 := eq_true q183
        have ea_ := Option.some.inj (hx182_9.symm.trans hx183_9)
        injection ea_ with ea_ en_ ec_
        subst ea_
        subst ec_
        clear en_
        have p184 : 0 ≤ (x5_1 : Int) := of_decide_eq_true (by first | (with_reducible assumption) | assumption)
        have q184 : x5_1 < (l0.length : Int) := of_decide_eq_true (by first | (with_reducible assumption) | assumption)
        obtain ⟨ad184, A184_9, c184_9, e184, hx184_0, hx184_1, hx184_2, hx184_3, hx184_4, hx184_5, hx184_6, hx184_7, hx184_8, hx184_9, hl184_9, hi184_9⟩ := at_T53 HR0.out x5_1 p184 q184
        obtain rfl : ad182 = ad184 := (by injection e184)
        have HR184_9 := Aside0.mk hi184_9
        have HC184_9 := Aside0.mk hl184_9
        clear hi184_9 hl184_9
        replace p184 := eq_true p184
        replace q184 := eq_true q184
        have ea_ := Option.some.inj (hx182_9.symm.trans hx184_9)
        injection ea_ with ea_ en_ ec_
        subst ea_
        subst ec_
        clear en_
        go_wp2
        go_ret
        exact ⟨by first | rfl | (simp; done) | (simp [*]; done), drw⟩
      ·
       rw [if_neg c6] at H
       have c6b0 : (((rd_T53 l0 x5_1).f1) == (wrap64 (x1_1 + 1))) = false := beq_eq_false_iff_ne.mpr c6
       have c6b1 : (((rd_T53 l0 x5_1).f1) != (wrap64 (x1_1 + 1))) = true := bne_iff_ne.mpr c6
       obtain rfl := Option.some.inj H
       have p182 : 0 ≤ (x5_1 : Int) := of_decide_eq_true (by first | (with_reducible assumption) | assumption)
       have q182 : x5_1 < (l0.length : Int) := of_decide_eq_true (by first | (with_reducible assumption) | assumption)
       obtain ⟨ad182, A182_9, c182_9, e182, hx182_0, hx182_1, hx182_2, hx182_3, hx182_4, hx182_5, hx182_6, hx182_7, hx182_8, hx182_9, hl182_9, hi182_9⟩ := at_T53 HR0.out x5_1 p182 q182
       cases e182
       have HR182_9 := Aside0.mk hi182_9
       have HC182_9 := Aside0.mk hl182_9
       clear hi182_9 hl182_9
       replace p182 := eq_true p182
       replace q182 := eq_true q182
       have p183 : 0 ≤ (x5_1 : Int) := of_decide_eq_true (by first | (with_reducible assumption) | assumption)
       have q183 : x5_1 < (l0.length : Int) := of_decide_eq_true (by first | (with_reducible assumption) | assumption)
       obtain ⟨ad183, A183_9, c183_9, e183, hx183_0, hx183_1, hx183_2, hx183_3, hx183_4, hx183_5, hx183_6, hx183_7, hx183_8, hx183_9, hl183_9, hi183_9⟩ := at_T53 HR0.out x5_1 p183 q183
       obtain rfl : ad182 = ad183 := (by injection e183)
       have HR183_9 := Aside0.mk hi183_9
       have HC183_9 := Aside0.mk hl183_9
       clear hi183_9 hl183_9
       replace p183 := eq_true p183
       replace q183 := eq_true q183
       have ea_ := Option.some.inj (hx182_9.symm.trans hx183_9)
       injection ea_ with ea_ en_ ec_
       subst ea_
       subst ec_
       clear en_
       go_wp2
       go_ret
       exact ⟨by first | rfl | (simp; done) | (simp [*]; done), drw⟩
     ·
      rw [if_neg c5] at H
      have c5b0 : (((rd_T53 l0 x5_1).f0) == x1_1) = false := beq_eq_false_iff_ne.mpr c5
      have c5b1 : (((rd_T53 l0 x5_1).f0) != x1_1) = true := bne_iff_ne.mpr c5
      obtain rfl := Option.some.inj H
      have p182 : 0 ≤ (x5_1 : Int) := of_decide_eq_true (by first | (with_reducible assumption) | assumption)
      have q182 : x5_1 < (l0.length : Int) := of_decide_eq_true (by first | (with_reducible assumption) | assumption)
      obtain ⟨ad182, A182_9, c182_9, e182, hx182_0, hx182_1, hx182_2, hx182_3, hx182_4, hx182_5, hx182_6, hx182_7, hx182_8, hx182_9, hl182_9, hi182_9⟩ := at_T53 HR0.out x5_1 p182 q182
      cases e182
      have HR182_9 := Aside0.mk hi182_9
      have HC182_9 := Aside0.mk hl182_9
      clear hi182_9 hl182_9
      replace p182 := eq_true p182
      replace q182 := eq_true q182
      go_wp2
      go_ret
      exact ⟨by first | rfl | (simp; done) | (simp [*]; done), drw⟩
    ·
     rw [if_neg c4] at H
     exact absurd H (by simp)
   ·
    rw [if_neg c3] at H
    have c3b0 : decide (x5_1 < (l0.length : Int)) = false := decide_eq_false c3
    clear c3
    obtain rfl := Option.some.inj H
    go_wp2
    go_ret
    exact ⟨by first | rfl | (simp; done) | (simp [*]; done), drw⟩

end Go.Proofs.Ytgfoifkkffffgaa.PFnExactLeadNode
