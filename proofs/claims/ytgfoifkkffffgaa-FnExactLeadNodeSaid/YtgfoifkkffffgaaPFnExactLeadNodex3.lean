-- Laid by a turned copy of the printer (wip/tools/patch_print.py)
import Derived.Test.YtgfoifkkffffgaaPFnExactLeadNodex0
import Derived.Test.YtgfoifkkffffgaaPFnExactLeadNodex2
namespace Go.Proofs.Ytgfoifkkffffgaa.PFnExactLeadNode
open Go.RowKit Go.Proofs.YtgfoifkkffffgaaW.PrintWords Go.Proofs.YtgfoifkkffffgaaW.PrintLast Go.Proofs.YtgfoifkkffffgaaW.PrintMore
attribute [local go_sem] max2_int min2_int max_two min_two max_three min_three max_four min_four   -- for this text's walks alone
set_option linter.unusedVariables false
set_option linter.unusedSimpArgs false

/-! ### laws_eqMailS: function 41 -/
def laws_eqMailS.l0 : Nat → List (S53) → List (S53) → Int → Option (Bool)
 | 0, _, _, _ => none
 | k + 1, x0, x1, x5 => if x5 < (x0.length : Int) then (if 0 ≤ x5 then (if x5 < (x1.length : Int) then ((laws_eqMail.f k ((rd_T53 x0 x5).f0) ((rd_T53 x0 x5).f1) ((rd_T53 x0 x5).f2) ((rd_T53 x0 x5).f3) ((rd_T53 x0 x5).f4) ((rd_T53 x0 x5).f5) ((rd_T53 x0 x5).f6.f0) ((rd_T53 x0 x5).f6.f1.f0) ((rd_T53 x0 x5).f6.f1.f1) ((rd_T53 x0 x5).f6.f1.f2) ((rd_T53 x1 x5).f0) ((rd_T53 x1 x5).f1) ((rd_T53 x1 x5).f2) ((rd_T53 x1 x5).f3) ((rd_T53 x1 x5).f4) ((rd_T53 x1 x5).f5) ((rd_T53 x1 x5).f6.f0) ((rd_T53 x1 x5).f6.f1.f0) ((rd_T53 x1 x5).f6.f1.f1) ((rd_T53 x1 x5).f6.f1.f2)).bind fun t164 => (if t164 = true then (laws_eqMailS.l0 k x0 x1 (wrap64 (x5 + 1))) else (some false))) else (none)) else (none)) else (some true)
def laws_eqMailS.f (k : Nat) (l0 : List (S53)) (l1 : List (S53)) : Option (Bool) := if (l0.length : Int) = (l1.length : Int) then (laws_eqMailS.l0 k l0 l1 0) else (some false)
theorem laws_eqMailS.mono_l : ∀ k, (∀ y0 y1 y2, LeO (laws_eqMailS.l0 k y0 y1 y2) (laws_eqMailS.l0 (k + 1) y0 y1 y2))
 | 0 => fun _ _ _ r h => by simp [laws_eqMailS.l0] at h
 | k + 1 => by
  have ih0 := laws_eqMailS.mono_l k
  ·
   intro y0 y1 y2
   unfold laws_eqMailS.l0
   repeat' first
   | (with_reducible exact ih0 _ _ _)
   | (with_reducible exact laws_eqMail.mono _ _ _ _ _ _ _ _ _ _ _ _ _ _ _ _ _ _ _ _ _)
   | (with_reducible exact LeO.refl _)
   | (with_reducible exact LeO.none _)
   | (with_reducible refine LeO.ite ?_ ?_)
   | (with_reducible refine LeO.bind ?_ (fun _ => ?_))
   | exact ih0 _ _ _
   | exact laws_eqMail.mono _ _ _ _ _ _ _ _ _ _ _ _ _ _ _ _ _ _ _ _ _
   | exact LeO.none _
   | refine LeO.ite ?_ ?_
   | refine LeO.bind ?_ (fun _ => ?_)
theorem laws_eqMailS.mono : ∀ a0 a1 k, LeO (laws_eqMailS.f k a0 a1) (laws_eqMailS.f (k + 1) a0 a1) := by
 intro a0 a1 k
 have ih0 := laws_eqMailS.mono_l k
 unfold laws_eqMailS.f
 repeat' first
   | (with_reducible exact ih0 _ _ _)
   | (with_reducible exact laws_eqMail.mono _ _ _ _ _ _ _ _ _ _ _ _ _ _ _ _ _ _ _ _ _)
   | (with_reducible exact LeO.refl _)
   | (with_reducible exact LeO.none _)
   | (with_reducible refine LeO.ite ?_ ?_)
   | (with_reducible refine LeO.bind ?_ (fun _ => ?_))
   | exact ih0 _ _ _
   | exact laws_eqMail.mono _ _ _ _ _ _ _ _ _ _ _ _ _ _ _ _ _ _ _ _ _
   | exact LeO.none _
   | refine LeO.ite ?_ ?_
   | refine LeO.bind ?_ (fun _ => ?_)
def laws_eqMailS.T6 : Bool × List (List Nat × List Nat) := (true, [([], []), ([], []), ([0, 1], [0, 1]), ([2], [2]), ([], []), ([], []), ([4, 5], [4, 5]), ([6], [6]), ([3, 7], [3, 7]), ([8], [8])])
def laws_eqMailS.B6 : List Nat := [0, 0, 3, 7, 0, 0, 48, 112, 255, 511]
theorem laws_eqMailS.tab6 : rtab .any (opsOf Try.f41 6) = laws_eqMailS.T6 := by kernel_rfl
theorem laws_eqMailS.bits6 : waitsOk laws_eqMailS.T6.2 laws_eqMailS.B6 = true := by kernel_rfl
set_option maxHeartbeats 8000000 in
set_option maxRecDepth 100000 in
theorem laws_eqMailS.calls (k : Nat) (A0 : Option Addr) (c0 : Nat) (l0 : List (S53)) (A1 : Option Addr) (c1 : Nat) (l1 : List (S53)) (r : Bool) (w : World) (hr0 : Kd.C k53 w A0 l0.length l0) (hc0 : l0.length ≤ c0) (hr1 : Kd.C k53 w A1 l1.length l1) (hc1 : l1.length ≤ c1) (h : laws_eqMailS.f k l0 l1 = some r) :
  Calls Try.prog 41 #[.slice A0 l0.length c0, .slice A1 l1.length c1] w fun e w' => e = .returned (.bool r) ∧ Below w.heap.size w w' := by
 have hu53 := Try.underlying53
 have hu51 := Try.underlying51
 have hu49 := Try.underlying49
 have HR0 := Aside0.mk hr0
 have HC0 := Aside0.mk hc0
 clear hr0 hc0
 have HR1 := Aside0.mk hr1
 have HC1 := Aside0.mk hc1
 clear hr1 hc1
 have HB := Aside0.mk (Below.refl w.heap.size w)
 have H : (if (l0.length : Int) = (l1.length : Int) then (laws_eqMailS.l0 k l0 l1 0) else (some false)) = some r := h
 clear h
 by_cases c3 : (l0.length : Int) = (l1.length : Int)
 ·
  rw [if_pos c3] at H
  have c3b0 : ((l0.length : Int) == (l1.length : Int)) = true := beq_iff_eq.mpr c3
  have c3b1 : ((l0.length : Int) != (l1.length : Int)) = false := bne_eq_false_iff_eq.mpr c3
  have c3b2 : (l0.length == l1.length) = true := by first | simpa using c3 | (simp at c3 ⊢; omega)
  clear c3
  have H' := Aside0.mk H
  clear H
  go_enter Try.func41, Try.ntmps41
  go_wp2
  go_loopg [5] k (fun kq v5 w' => ∃ (x5_1 : Int), v5 = .int .i64 x5_1 ∧ Aside0 (laws_eqMailS.l0 kq l0 l1 x5_1 = some r) ∧ Aside0 (kq ≤ k) ∧ Aside0 (Below w.heap.size w w'))
  case atStart => exact ⟨(0), (by first | rfl | (simp; done) | (simp [*]; done)), H', ⟨Nat.le_refl _⟩, ⟨bel HB⟩⟩
  case round =>
   clear H'
   try clear c1
   try clear p2
   try clear c3
   try clear c3b0
   try clear c3b1
   try clear c3b2
   obtain ⟨x5_1, rfl, HA, HK1, HB⟩ := hrel
   cases gk with
   | zero => exact absurd HA.out (by simp [laws_eqMailS.l0])
   | succ k1 =>
    have H := HA.out
    clear HA
    simp only [laws_eqMailS.l0] at H
    by_cases c4 : x5_1 < (l0.length : Int)
    ·
     rw [if_pos c4] at H
     have c4b0 : decide (x5_1 < (l0.length : Int)) = true := decide_eq_true c4
     clear c4
     by_cases c5 : 0 ≤ x5_1
     ·
      rw [if_pos c5] at H
      have c5b0 : decide (0 ≤ x5_1) = true := decide_eq_true c5
      clear c5
      by_cases c6 : x5_1 < (l1.length : Int)
      ·
       rw [if_pos c6] at H
       have c6b0 : decide (x5_1 < (l1.length : Int)) = true := decide_eq_true c6
       clear c6
       replace H := Option.bind_eq_some_iff.mp H
       obtain ⟨t164, A70, H⟩ := H
       replace H : (if t164 = true then (laws_eqMailS.l0 k1 l0 l1 (wrap64 (x5_1 + 1))) else (some false)) = some r := H
       have A7 := Aside0.mk A70
       clear A70
       by_cases c8 : t164 = true
       ·
        subst c8
        have H1 : (laws_eqMailS.l0 k1 l0 l1 (wrap64 (x5_1 + 1))) = some r := by rw [if_pos rfl] at H; first | done | exact H
        clear H
        have H := H1
        clear H1
        have H' := Aside0.mk H
        clear H
        try go_wp2
        have n0_ := Aside0.mk (below_drew1 HB.out)
        clear HB
        have HB := n0_
        clear n0_
        have p162 : 0 ≤ (x5_1 : Int) := of_decide_eq_true (by first | (with_reducible assumption) | assumption)
        have q162 : x5_1 < (l0.length : Int) := of_decide_eq_true (by first | (with_reducible assumption) | assumption)
        obtain ⟨ad162, A162_9, c162_9, e162, hx162_0, hx162_1, hx162_2, hx162_3, hx162_4, hx162_5, hx162_6, hx162_7, hx162_8, hx162_9, hl162_9, hi162_9⟩ := at_T53 HR0.out x5_1 p162 q162
        have hw162_9 := hx162_9
        have hw162_8 := hx162_8
        have hw162_7 := hx162_7
        have hw162_6 := hx162_6
        have hw162_5 := hx162_5
        have hw162_4 := hx162_4
        have hw162_3 := hx162_3
        have hw162_2 := hx162_2
        have hw162_1 := hx162_1
        have hw162_0 := hx162_0
        cases e162
        replace hx162_0 := (HB.out.cell (World.block_lt_of_cell? w _ hx162_0)).trans hx162_0
        replace hx162_1 := (HB.out.cell (World.block_lt_of_cell? w _ hx162_1)).trans hx162_1
        replace hx162_2 := (HB.out.cell (World.block_lt_of_cell? w _ hx162_2)).trans hx162_2
        replace hx162_3 := (HB.out.cell (World.block_lt_of_cell? w _ hx162_3)).trans hx162_3
        replace hx162_4 := (HB.out.cell (World.block_lt_of_cell? w _ hx162_4)).trans hx162_4
        replace hx162_5 := (HB.out.cell (World.block_lt_of_cell? w _ hx162_5)).trans hx162_5
        replace hx162_6 := (HB.out.cell (World.block_lt_of_cell? w _ hx162_6)).trans hx162_6
        replace hx162_7 := (HB.out.cell (World.block_lt_of_cell? w _ hx162_7)).trans hx162_7
        replace hx162_8 := (HB.out.cell (World.block_lt_of_cell? w _ hx162_8)).trans hx162_8
        replace hx162_9 := (HB.out.cell (World.block_lt_of_cell? w _ hx162_9)).trans hx162_9
        have HR162_9 := Aside0.mk hi162_9
        have HC162_9 := Aside0.mk hl162_9
        clear hi162_9 hl162_9
        replace p162 := eq_true p162
        replace q162 := eq_true q162
        have p163 : 0 ≤ (x5_1 : Int) := of_decide_eq_true (by first | (with_reducible assumption) | assumption)
        have q163 : x5_1 < (l1.length : Int) := of_decide_eq_true (by first | (with_reducible assumption) | assumption)
        obtain ⟨ad163, A163_9, c163_9, e163, hx163_0, hx163_1, hx163_2, hx163_3, hx163_4, hx163_5, hx163_6, hx163_7, hx163_8, hx163_9, hl163_9, hi163_9⟩ := at_T53 HR1.out x5_1 p163 q163
        have hw163_9 := hx163_9
        have hw163_8 := hx163_8
        have hw163_7 := hx163_7
        have hw163_6 := hx163_6
        have hw163_5 := hx163_5
        have hw163_4 := hx163_4
        have hw163_3 := hx163_3
        have hw163_2 := hx163_2
        have hw163_1 := hx163_1
        have hw163_0 := hx163_0
        cases e163
        replace hx163_0 := (HB.out.cell (World.block_lt_of_cell? w _ hx163_0)).trans hx163_0
        replace hx163_1 := (HB.out.cell (World.block_lt_of_cell? w _ hx163_1)).trans hx163_1
        replace hx163_2 := (HB.out.cell (World.block_lt_of_cell? w _ hx163_2)).trans hx163_2
        replace hx163_3 := (HB.out.cell (World.block_lt_of_cell? w _ hx163_3)).trans hx163_3
        replace hx163_4 := (HB.out.cell (World.block_lt_of_cell? w _ hx163_4)).trans hx163_4
        replace hx163_5 := (HB.out.cell (World.block_lt_of_cell? w _ hx163_5)).trans hx163_5
        replace hx163_6 := (HB.out.cell (World.block_lt_of_cell? w _ hx163_6)).trans hx163_6
        replace hx163_7 := (HB.out.cell (World.block_lt_of_cell? w _ hx163_7)).trans hx163_7
        replace hx163_8 := (HB.out.cell (World.block_lt_of_cell? w _ hx163_8)).trans hx163_8
        replace hx163_9 := (HB.out.cell (World.block_lt_of_cell? w _ hx163_9)).trans hx163_9
        have HR163_9 := Aside0.mk hi163_9
        have HC163_9 := Aside0.mk hl163_9
        clear hi163_9 hl163_9
        replace p163 := eq_true p163
        replace q163 := eq_true q163
        refine start_ (n := 10) (S := fun w' => w'.cell? (ad162.add ((x5_1).toNat * 10)) = some (.int .i64 ((rd_T53 l0 x5_1).f0)) ∧ w'.cell? ⟨(ad162.add ((x5_1).toNat * 10)).block, (ad162.add ((x5_1).toNat * 10)).off + 1, none⟩ = some (.int .i64 ((rd_T53 l0 x5_1).f1)) ∧ w'.cell? ⟨(ad162.add ((x5_1).toNat * 10)).block, (ad162.add ((x5_1).toNat * 10)).off + 2, none⟩ = some (.int .i64 ((rd_T53 l0 x5_1).f2)) ∧ w'.cell? ⟨(ad162.add ((x5_1).toNat * 10)).block, (ad162.add ((x5_1).toNat * 10)).off + 3, none⟩ = some (.int .i64 ((rd_T53 l0 x5_1).f3)) ∧ w'.cell? ⟨(ad162.add ((x5_1).toNat * 10)).block, (ad162.add ((x5_1).toNat * 10)).off + 4, none⟩ = some (.int .i64 ((rd_T53 l0 x5_1).f4)) ∧ w'.cell? ⟨(ad162.add ((x5_1).toNat * 10)).block, (ad162.add ((x5_1).toNat * 10)).off + 5, none⟩ = some (.bool ((rd_T53 l0 x5_1).f5)) ∧ w'.cell? ⟨(ad162.add ((x5_1).toNat * 10)).block, (ad162.add ((x5_1).toNat * 10)).off + 6, none⟩ = some (.int .i64 ((rd_T53 l0 x5_1).f6.f0)) ∧ w'.cell? ⟨(ad162.add ((x5_1).toNat * 10)).block, (ad162.add ((x5_1).toNat * 10)).off + 7, none⟩ = some (.int .i64 ((rd_T53 l0 x5_1).f6.f1.f0)) ∧ w'.cell? ⟨(ad162.add ((x5_1).toNat * 10)).block, (ad162.add ((x5_1).toNat * 10)).off + 8, none⟩ = some (.int .i64 ((rd_T53 l0 x5_1).f6.f1.f1)) ∧ w'.cell? ⟨(ad162.add ((x5_1).toNat * 10)).block, (ad162.add ((x5_1).toNat * 10)).off + 9, none⟩ = some (.slice A162_9 ((rd_T53 l0 x5_1).f6.f1.f2).length c162_9) ∧ w'.cell? (ad163.add ((x5_1).toNat * 10)) = some (.int .i64 ((rd_T53 l1 x5_1).f0)) ∧ w'.cell? ⟨(ad163.add ((x5_1).toNat * 10)).block, (ad163.add ((x5_1).toNat * 10)).off + 1, none⟩ = some (.int .i64 ((rd_T53 l1 x5_1).f1)) ∧ w'.cell? ⟨(ad163.add ((x5_1).toNat * 10)).block, (ad163.add ((x5_1).toNat * 10)).off + 2, none⟩ = some (.int .i64 ((rd_T53 l1 x5_1).f2)) ∧ w'.cell? ⟨(ad163.add ((x5_1).toNat * 10)).block, (ad163.add ((x5_1).toNat * 10)).off + 3, none⟩ = some (.int .i64 ((rd_T53 l1 x5_1).f3)) ∧ w'.cell? ⟨(ad163.add ((x5_1).toNat * 10)).block, (ad163.add ((x5_1).toNat * 10)).off + 4, none⟩ = some (.int .i64 ((rd_T53 l1 x5_1).f4)) ∧ w'.cell? ⟨(ad163.add ((x5_1).toNat * 10)).block, (ad163.add ((x5_1).toNat * 10)).off + 5, none⟩ = some (.bool ((rd_T53 l1 x5_1).f5)) ∧ w'.cell? ⟨(ad163.add ((x5_1).toNat * 10)).block, (ad163.add ((x5_1).toNat * 10)).off + 6, none⟩ = some (.int .i64 ((rd_T53 l1 x5_1).f6.f0)) ∧ w'.cell? ⟨(ad163.add ((x5_1).toNat * 10)).block, (ad163.add ((x5_1).toNat * 10)).off + 7, none⟩ = some (.int .i64 ((rd_T53 l1 x5_1).f6.f1.f0)) ∧ w'.cell? ⟨(ad163.add ((x5_1).toNat * 10)).block, (ad163.add ((x5_1).toNat * 10)).off + 8, none⟩ = some (.int .i64 ((rd_T53 l1 x5_1).f6.f1.f1)) ∧ w'.cell? ⟨(ad163.add ((x5_1).toNat * 10)).block, (ad163.add ((x5_1).toNat * 10)).off + 9, none⟩ = some (.slice A163_9 ((rd_T53 l1 x5_1).f6.f1.f2).length c163_9)) (ds := []) #[false, false, false, false, false, false, false, false, false, false] (by kernel_rfl) rfl rfl ⟨((HB.out.cell (World.block_lt_of_cell? w _ hw162_0)).trans hw162_0), ((HB.out.cell (World.block_lt_of_cell? w _ hw162_1)).trans hw162_1), ((HB.out.cell (World.block_lt_of_cell? w _ hw162_2)).trans hw162_2), ((HB.out.cell (World.block_lt_of_cell? w _ hw162_3)).trans hw162_3), ((HB.out.cell (World.block_lt_of_cell? w _ hw162_4)).trans hw162_4), ((HB.out.cell (World.block_lt_of_cell? w _ hw162_5)).trans hw162_5), ((HB.out.cell (World.block_lt_of_cell? w _ hw162_6)).trans hw162_6), ((HB.out.cell (World.block_lt_of_cell? w _ hw162_7)).trans hw162_7), ((HB.out.cell (World.block_lt_of_cell? w _ hw162_8)).trans hw162_8), ((HB.out.cell (World.block_lt_of_cell? w _ hw162_9)).trans hw162_9), ((HB.out.cell (World.block_lt_of_cell? w _ hw163_0)).trans hw163_0), ((HB.out.cell (World.block_lt_of_cell? w _ hw163_1)).trans hw163_1), ((HB.out.cell (World.block_lt_of_cell? w _ hw163_2)).trans hw163_2), ((HB.out.cell (World.block_lt_of_cell? w _ hw163_3)).trans hw163_3), ((HB.out.cell (World.block_lt_of_cell? w _ hw163_4)).trans hw163_4), ((HB.out.cell (World.block_lt_of_cell? w _ hw163_5)).trans hw163_5), ((HB.out.cell (World.block_lt_of_cell? w _ hw163_6)).trans hw163_6), ((HB.out.cell (World.block_lt_of_cell? w _ hw163_7)).trans hw163_7), ((HB.out.cell (World.block_lt_of_cell? w _ hw163_8)).trans hw163_8), ((HB.out.cell (World.block_lt_of_cell? w _ hw163_9)).trans hw163_9)⟩ (fun hHeld => ?_); refine with_tabW laws_eqMailS.tab6 laws_eqMailS.bits6 (fun HT_ HW_ => ?_)
        generalize wr.drew = w9 at HB HR162_9 HR163_9 hx162_0 hx162_1 hx162_2 hx162_3 hx162_4 hx162_5 hx162_6 hx162_7 hx162_8 hx162_9 hx163_0 hx163_1 hx163_2 hx163_3 hx163_4 hx163_5 hx163_6 hx163_7 hx163_8 hx163_9 hHeld ⊢
        refine pure_ (i := 0) (N := some 17) (v := ?_) (a' := ?_) #[true, false, false, false, false, false, false, false, false, false] rfl rfl (any_of HT_.out (by kernel_rfl)) (fun _ _ _ h => h) (Or.inl ⟨by rfl, ?_⟩) ?_ ?_
        rotate_left
        ·
         intro w'
         go_simp
         with_reducible rfl
        rotate_left
        ·
         simp only [Act.put, List.setIfInBounds_toArray, List.set_cons_zero, List.set_cons_succ, i64_w, i32_w]
         rfl
        refine pure_ (i := 1) (N := some 18) (v := ?_) (a' := ?_) #[true, true, false, false, false, false, false, false, false, false] rfl rfl (any_of HT_.out (by kernel_rfl)) (fun _ _ _ h => h) (Or.inl ⟨by rfl, ?_⟩) ?_ ?_
        rotate_left
        ·
         intro w'
         go_simp
         with_reducible rfl
        rotate_left
        ·
         simp only [Act.put, List.setIfInBounds_toArray, List.set_cons_zero, List.set_cons_succ, i64_w, i32_w]
         rfl
        refine pure_ (i := 2) (N := some 19) (v := ?_) (a' := ?_) #[true, true, true, false, false, false, false, false, false, false] rfl rfl (any_of HT_.out (by kernel_rfl)) (fun _ _ _ h => h) (Or.inl ⟨by rfl, ?_⟩) ?_ ?_
        rotate_left
        ·
         intro w'
         go_simp
         with_reducible rfl
        rotate_left
        ·
         simp only [Act.put, List.setIfInBounds_toArray, List.set_cons_zero, List.set_cons_succ, i64_w, i32_w]
         rfl
        refine pure_ (i := 4) (N := some 21) (v := ?_) (a' := ?_) #[true, true, true, false, true, false, false, false, false, false] rfl rfl (any_of HT_.out (by kernel_rfl)) (fun _ _ _ h => h) (Or.inl ⟨by rfl, ?_⟩) ?_ ?_
        rotate_left
        ·
         intro w'
         go_simp
         with_reducible rfl
        rotate_left
        ·
         simp only [Act.put, List.setIfInBounds_toArray, List.set_cons_zero, List.set_cons_succ, i64_w, i32_w]
         rfl
        refine pure_ (i := 5) (N := some 22) (v := ?_) (a' := ?_) #[true, true, true, false, true, true, false, false, false, false] rfl rfl (any_of HT_.out (by kernel_rfl)) (fun _ _ _ h => h) (Or.inl ⟨by rfl, ?_⟩) ?_ ?_
        rotate_left
        ·
         intro w'
         go_simp
         with_reducible rfl
        rotate_left
        ·
         simp only [Act.put, List.setIfInBounds_toArray, List.set_cons_zero, List.set_cons_succ, i64_w, i32_w]
         rfl
        refine pure_ (i := 6) (N := some 23) (v := ?_) (a' := ?_) #[true, true, true, false, true, true, true, false, false, false] rfl rfl (any_of HT_.out (by kernel_rfl)) (fun _ _ _ h => h) (Or.inl ⟨by rfl, ?_⟩) ?_ ?_
        rotate_left
        ·
         intro w'
         go_simp
         with_reducible rfl
        rotate_left
        ·
         simp only [Act.put, List.setIfInBounds_toArray, List.set_cons_zero, List.set_cons_succ, i64_w, i32_w]
         rfl
        refine take_ (i := 3) (N := some 20) (v := ?_) (a' := ?_) #[true, true, true, true, true, true, true, false, false, false] rfl rfl (take_ofW HT_.out HW_.out (by kernel_rfl)) (fun _ _ _ h => h) (Or.inl ⟨by rfl, ?_⟩) hHeld ?_ ?_
        rotate_left
        ·
         rintro w' ⟨s0, s1, s2, s3, s4, s5, s6, s7, s8, s9, s10, s11, s12, s13, s14, s15, s16, s17, s18, s19⟩
         go_simp
         with_reducible rfl
        rotate_left
        ·
         simp only [Act.put, List.setIfInBounds_toArray, List.set_cons_zero, List.set_cons_succ, i64_w, i32_w]
         rfl
        refine take_ (i := 7) (N := some 24) (v := ?_) (a' := ?_) #[true, true, true, true, true, true, true, true, false, false] rfl rfl (take_ofW HT_.out HW_.out (by kernel_rfl)) (fun _ _ _ h => h) (Or.inl ⟨by rfl, ?_⟩) hHeld ?_ ?_
        rotate_left
        ·
         rintro w' ⟨s0, s1, s2, s3, s4, s5, s6, s7, s8, s9, s10, s11, s12, s13, s14, s15, s16, s17, s18, s19⟩
         go_simp
         with_reducible rfl
        rotate_left
        ·
         simp only [Act.put, List.setIfInBounds_toArray, List.set_cons_zero, List.set_cons_succ, i64_w, i32_w]
         rfl
        refine one_ (i := 8) (N := some 25) #[true, true, true, true, true, true, true, true, true, false] rfl rfl (one_of HT_.out (by kernel_rfl)) (by decide) (fun K hK => ?_)
        refine goes_ Try.func23 (by kernel_rfl) rfl #[.agg #[.int .i64 ((rd_T53 l0 x5_1).f0), .int .i64 ((rd_T53 l0 x5_1).f1), .int .i64 ((rd_T53 l0 x5_1).f2), .int .i64 ((rd_T53 l0 x5_1).f3), .int .i64 ((rd_T53 l0 x5_1).f4), .bool ((rd_T53 l0 x5_1).f5), .int .i64 ((rd_T53 l0 x5_1).f6.f0), .int .i64 ((rd_T53 l0 x5_1).f6.f1.f0), .int .i64 ((rd_T53 l0 x5_1).f6.f1.f1), .slice A162_9 ((rd_T53 l0 x5_1).f6.f1.f2).length c162_9], .agg #[.int .i64 ((rd_T53 l1 x5_1).f0), .int .i64 ((rd_T53 l1 x5_1).f1), .int .i64 ((rd_T53 l1 x5_1).f2), .int .i64 ((rd_T53 l1 x5_1).f3), .int .i64 ((rd_T53 l1 x5_1).f4), .bool ((rd_T53 l1 x5_1).f5), .int .i64 ((rd_T53 l1 x5_1).f6.f0), .int .i64 ((rd_T53 l1 x5_1).f6.f1.f0), .int .i64 ((rd_T53 l1 x5_1).f6.f1.f1), .slice A163_9 ((rd_T53 l1 x5_1).f6.f1.f2).length c163_9]] (by rfl) rfl rfl (by (try simp only [List.map_toArray, List.map_cons, List.map_nil]); first | done | rfl | (simp only [List.length_drop, List.length_take]; rfl)) ?_
        with_reducible refine (laws_eqMail.calls k1 ((rd_T53 l0 x5_1).f0) ((rd_T53 l0 x5_1).f1) ((rd_T53 l0 x5_1).f2) ((rd_T53 l0 x5_1).f3) ((rd_T53 l0 x5_1).f4) ((rd_T53 l0 x5_1).f5) ((rd_T53 l0 x5_1).f6.f0) ((rd_T53 l0 x5_1).f6.f1.f0) ((rd_T53 l0 x5_1).f6.f1.f1) _ _ ((rd_T53 l0 x5_1).f6.f1.f2) ((rd_T53 l1 x5_1).f0) ((rd_T53 l1 x5_1).f1) ((rd_T53 l1 x5_1).f2) ((rd_T53 l1 x5_1).f3) ((rd_T53 l1 x5_1).f4) ((rd_T53 l1 x5_1).f5) ((rd_T53 l1 x5_1).f6.f0) ((rd_T53 l1 x5_1).f6.f1.f0) ((rd_T53 l1 x5_1).f6.f1.f1) _ _ ((rd_T53 l1 x5_1).f6.f1.f2) true _ ?side1 ?side2 ?side3 ?side4 A7.out).mono ?_
        (case side1 => exact mC HR162_9 HB)
        (case side2 => exact HC162_9.out)
        (case side3 => exact mC HR163_9 HB)
        (case side4 => exact HC163_9.out)
        rintro e w10 ⟨rfl, hb⟩
        refine ⟨_, rfl, ?_⟩
        have n0_ := bS HB hb
        clear HB
        have HB := n0_
        clear n0_
        (try clear hb)
        (try clear hb2)
        (try clear hk)
        (try clear hi)
        refine hK.out _ _ ⟨((HB.out.cell (World.block_lt_of_cell? w _ hw162_0)).trans hw162_0), ((HB.out.cell (World.block_lt_of_cell? w _ hw162_1)).trans hw162_1), ((HB.out.cell (World.block_lt_of_cell? w _ hw162_2)).trans hw162_2), ((HB.out.cell (World.block_lt_of_cell? w _ hw162_3)).trans hw162_3), ((HB.out.cell (World.block_lt_of_cell? w _ hw162_4)).trans hw162_4), ((HB.out.cell (World.block_lt_of_cell? w _ hw162_5)).trans hw162_5), ((HB.out.cell (World.block_lt_of_cell? w _ hw162_6)).trans hw162_6), ((HB.out.cell (World.block_lt_of_cell? w _ hw162_7)).trans hw162_7), ((HB.out.cell (World.block_lt_of_cell? w _ hw162_8)).trans hw162_8), ((HB.out.cell (World.block_lt_of_cell? w _ hw162_9)).trans hw162_9), ((HB.out.cell (World.block_lt_of_cell? w _ hw163_0)).trans hw163_0), ((HB.out.cell (World.block_lt_of_cell? w _ hw163_1)).trans hw163_1), ((HB.out.cell (World.block_lt_of_cell? w _ hw163_2)).trans hw163_2), ((HB.out.cell (World.block_lt_of_cell? w _ hw163_3)).trans hw163_3), ((HB.out.cell (World.block_lt_of_cell? w _ hw163_4)).trans hw163_4), ((HB.out.cell (World.block_lt_of_cell? w _ hw163_5)).trans hw163_5), ((HB.out.cell (World.block_lt_of_cell? w _ hw163_6)).trans hw163_6), ((HB.out.cell (World.block_lt_of_cell? w _ hw163_7)).trans hw163_7), ((HB.out.cell (World.block_lt_of_cell? w _ hw163_8)).trans hw163_8), ((HB.out.cell (World.block_lt_of_cell? w _ hw163_9)).trans hw163_9)⟩ (fun hHeld => ?_)
        clear hK K
        refine norm_ (a' := ?_) ?_ ?_
        rotate_left
        ·
         show Act.put _ (some 25) _ = _
         simp only [Act.put, List.setIfInBounds_toArray, List.set_cons_zero, List.set_cons_succ, i64_w, i32_w]
         rfl
        refine pure_ (i := 9) (N := some 26) (v := ?_) (a' := ?_) #[true, true, true, true, true, true, true, true, true, true] rfl rfl (any_of HT_.out (by kernel_rfl)) (fun _ _ _ h => h) (Or.inl ⟨by rfl, ?_⟩) ?_ ?_
        rotate_left
        ·
         intro w'
         go_simp
         with_reducible rfl
        rotate_left
        ·
         simp only [Act.put, List.setIfInBounds_toArray, List.set_cons_zero, List.set_cons_succ, i64_w, i32_w]
         rfl
        refine done_ (done_of HT_.out (by kernel_rfl)) ?_
        try go_wp2
        go_roundg k1
        case measure => have := HK1.out; omega
        case rel => exact ⟨(wrap64 (x5_1 + 1)), (by first | rfl | (simp; done) | (simp [*]; done)), H', ⟨by have := HK1.out; omega⟩, ⟨bel HB⟩⟩
       ·
        replace c8 := Bool.eq_false_iff.mpr c8
        subst c8
        have H1 : (some false) = some r := by rw [if_neg (show ¬ (false = true) by decide)] at H; first | done | exact H
        clear H
        have H := H1
        clear H1
        obtain rfl := Option.some.inj H
        try go_wp2
        have n0_ := Aside0.mk (below_drew1 HB.out)
        clear HB
        have HB := n0_
        clear n0_
        have p162 : 0 ≤ (x5_1 : Int) := of_decide_eq_true (by first | (with_reducible assumption) | assumption)
        have q162 : x5_1 < (l0.length : Int) := of_decide_eq_true (by first | (with_reducible assumption) | assumption)
        obtain ⟨ad162, A162_9, c162_9, e162, hx162_0, hx162_1, hx162_2, hx162_3, hx162_4, hx162_5, hx162_6, hx162_7, hx162_8, hx162_9, hl162_9, hi162_9⟩ := at_T53 HR0.out x5_1 p162 q162
        have hw162_9 := hx162_9
        have hw162_8 := hx162_8
        have hw162_7 := hx162_7
        have hw162_6 := hx162_6
        have hw162_5 := hx162_5
        have hw162_4 := hx162_4
        have hw162_3 := hx162_3
        have hw162_2 := hx162_2
        have hw162_1 := hx162_1
        have hw162_0 := hx162_0
        cases e162
        replace hx162_0 := (HB.out.cell (World.block_lt_of_cell? w _ hx162_0)).trans hx162_0
        replace hx162_1 := (HB.out.cell (World.block_lt_of_cell? w _ hx162_1)).trans hx162_1
        replace hx162_2 := (HB.out.cell (World.block_lt_of_cell? w _ hx162_2)).trans hx162_2
        replace hx162_3 := (HB.out.cell (World.block_lt_of_cell? w _ hx162_3)).trans hx162_3
        replace hx162_4 := (HB.out.cell (World.block_lt_of_cell? w _ hx162_4)).trans hx162_4
        replace hx162_5 := (HB.out.cell (World.block_lt_of_cell? w _ hx162_5)).trans hx162_5
        replace hx162_6 := (HB.out.cell (World.block_lt_of_cell? w _ hx162_6)).trans hx162_6
        replace hx162_7 := (HB.out.cell (World.block_lt_of_cell? w _ hx162_7)).trans hx162_7
        replace hx162_8 := (HB.out.cell (World.block_lt_of_cell? w _ hx162_8)).trans hx162_8
        replace hx162_9 := (HB.out.cell (World.block_lt_of_cell? w _ hx162_9)).trans hx162_9
        have HR162_9 := Aside0.mk hi162_9
        have HC162_9 := Aside0.mk hl162_9
        clear hi162_9 hl162_9
        replace p162 := eq_true p162
        replace q162 := eq_true q162
        have p163 : 0 ≤ (x5_1 : Int) := of_decide_eq_true (by first | (with_reducible assumption) | assumption)
        have q163 : x5_1 < (l1.length : Int) := of_decide_eq_true (by first | (with_reducible assumption) | assumption)
        obtain ⟨ad163, A163_9, c163_9, e163, hx163_0, hx163_1, hx163_2, hx163_3, hx163_4, hx163_5, hx163_6, hx163_7, hx163_8, hx163_9, hl163_9, hi163_9⟩ := at_T53 HR1.out x5_1 p163 q163
        have hw163_9 := hx163_9
        have hw163_8 := hx163_8
        have hw163_7 := hx163_7
        have hw163_6 := hx163_6
        have hw163_5 := hx163_5
        have hw163_4 := hx163_4
        have hw163_3 := hx163_3
        have hw163_2 := hx163_2
        have hw163_1 := hx163_1
        have hw163_0 := hx163_0
        cases e163
        replace hx163_0 := (HB.out.cell (World.block_lt_of_cell? w _ hx163_0)).trans hx163_0
        replace hx163_1 := (HB.out.cell (World.block_lt_of_cell? w _ hx163_1)).trans hx163_1
        replace hx163_2 := (HB.out.cell (World.block_lt_of_cell? w _ hx163_2)).trans hx163_2
        replace hx163_3 := (HB.out.cell (World.block_lt_of_cell? w _ hx163_3)).trans hx163_3
        replace hx163_4 := (HB.out.cell (World.block_lt_of_cell? w _ hx163_4)).trans hx163_4
        replace hx163_5 := (HB.out.cell (World.block_lt_of_cell? w _ hx163_5)).trans hx163_5
        replace hx163_6 := (HB.out.cell (World.block_lt_of_cell? w _ hx163_6)).trans hx163_6
        replace hx163_7 := (HB.out.cell (World.block_lt_of_cell? w _ hx163_7)).trans hx163_7
        replace hx163_8 := (HB.out.cell (World.block_lt_of_cell? w _ hx163_8)).trans hx163_8
        replace hx163_9 := (HB.out.cell (World.block_lt_of_cell? w _ hx163_9)).trans hx163_9
        have HR163_9 := Aside0.mk hi163_9
        have HC163_9 := Aside0.mk hl163_9
        clear hi163_9 hl163_9
        replace p163 := eq_true p163
        replace q163 := eq_true q163
        refine start_ (n := 10) (S := fun w' => w'.cell? (ad162.add ((x5_1).toNat * 10)) = some (.int .i64 ((rd_T53 l0 x5_1).f0)) ∧ w'.cell? ⟨(ad162.add ((x5_1).toNat * 10)).block, (ad162.add ((x5_1).toNat * 10)).off + 1, none⟩ = some (.int .i64 ((rd_T53 l0 x5_1).f1)) ∧ w'.cell? ⟨(ad162.add ((x5_1).toNat * 10)).block, (ad162.add ((x5_1).toNat * 10)).off + 2, none⟩ = some (.int .i64 ((rd_T53 l0 x5_1).f2)) ∧ w'.cell? ⟨(ad162.add ((x5_1).toNat * 10)).block, (ad162.add ((x5_1).toNat * 10)).off + 3, none⟩ = some (.int .i64 ((rd_T53 l0 x5_1).f3)) ∧ w'.cell? ⟨(ad162.add ((x5_1).toNat * 10)).block, (ad162.add ((x5_1).toNat * 10)).off + 4, none⟩ = some (.int .i64 ((rd_T53 l0 x5_1).f4)) ∧ w'.cell? ⟨(ad162.add ((x5_1).toNat * 10)).block, (ad162.add ((x5_1).toNat * 10)).off + 5, none⟩ = some (.bool ((rd_T53 l0 x5_1).f5)) ∧ w'.cell? ⟨(ad162.add ((x5_1).toNat * 10)).block, (ad162.add ((x5_1).toNat * 10)).off + 6, none⟩ = some (.int .i64 ((rd_T53 l0 x5_1).f6.f0)) ∧ w'.cell? ⟨(ad162.add ((x5_1).toNat * 10)).block, (ad162.add ((x5_1).toNat * 10)).off + 7, none⟩ = some (.int .i64 ((rd_T53 l0 x5_1).f6.f1.f0)) ∧ w'.cell? ⟨(ad162.add ((x5_1).toNat * 10)).block, (ad162.add ((x5_1).toNat * 10)).off + 8, none⟩ = some (.int .i64 ((rd_T53 l0 x5_1).f6.f1.f1)) ∧ w'.cell? ⟨(ad162.add ((x5_1).toNat * 10)).block, (ad162.add ((x5_1).toNat * 10)).off + 9, none⟩ = some (.slice A162_9 ((rd_T53 l0 x5_1).f6.f1.f2).length c162_9) ∧ w'.cell? (ad163.add ((x5_1).toNat * 10)) = some (.int .i64 ((rd_T53 l1 x5_1).f0)) ∧ w'.cell? ⟨(ad163.add ((x5_1).toNat * 10)).block, (ad163.add ((x5_1).toNat * 10)).off + 1, none⟩ = some (.int .i64 ((rd_T53 l1 x5_1).f1)) ∧ w'.cell? ⟨(ad163.add ((x5_1).toNat * 10)).block, (ad163.add ((x5_1).toNat * 10)).off + 2, none⟩ = some (.int .i64 ((rd_T53 l1 x5_1).f2)) ∧ w'.cell? ⟨(ad163.add ((x5_1).toNat * 10)).block, (ad163.add ((x5_1).toNat * 10)).off + 3, none⟩ = some (.int .i64 ((rd_T53 l1 x5_1).f3)) ∧ w'.cell? ⟨(ad163.add ((x5_1).toNat * 10)).block, (ad163.add ((x5_1).toNat * 10)).off + 4, none⟩ = some (.int .i64 ((rd_T53 l1 x5_1).f4)) ∧ w'.cell? ⟨(ad163.add ((x5_1).toNat * 10)).block, (ad163.add ((x5_1).toNat * 10)).off + 5, none⟩ = some (.bool ((rd_T53 l1 x5_1).f5)) ∧ w'.cell? ⟨(ad163.add ((x5_1).toNat * 10)).block, (ad163.add ((x5_1).toNat * 10)).off + 6, none⟩ = some (.int .i64 ((rd_T53 l1 x5_1).f6.f0)) ∧ w'.cell? ⟨(ad163.add ((x5_1).toNat * 10)).block, (ad163.add ((x5_1).toNat * 10)).off + 7, none⟩ = some (.int .i64 ((rd_T53 l1 x5_1).f6.f1.f0)) ∧ w'.cell? ⟨(ad163.add ((x5_1).toNat * 10)).block, (ad163.add ((x5_1).toNat * 10)).off + 8, none⟩ = some (.int .i64 ((rd_T53 l1 x5_1).f6.f1.f1)) ∧ w'.cell? ⟨(ad163.add ((x5_1).toNat * 10)).block, (ad163.add ((x5_1).toNat * 10)).off + 9, none⟩ = some (.slice A163_9 ((rd_T53 l1 x5_1).f6.f1.f2).length c163_9)) (ds := []) #[false, false, false, false, false, false, false, false, false, false] (by kernel_rfl) rfl rfl ⟨((HB.out.cell (World.block_lt_of_cell? w _ hw162_0)).trans hw162_0), ((HB.out.cell (World.block_lt_of_cell? w _ hw162_1)).trans hw162_1), ((HB.out.cell (World.block_lt_of_cell? w _ hw162_2)).trans hw162_2), ((HB.out.cell (World.block_lt_of_cell? w _ hw162_3)).trans hw162_3), ((HB.out.cell (World.block_lt_of_cell? w _ hw162_4)).trans hw162_4), ((HB.out.cell (World.block_lt_of_cell? w _ hw162_5)).trans hw162_5), ((HB.out.cell (World.block_lt_of_cell? w _ hw162_6)).trans hw162_6), ((HB.out.cell (World.block_lt_of_cell? w _ hw162_7)).trans hw162_7), ((HB.out.cell (World.block_lt_of_cell? w _ hw162_8)).trans hw162_8), ((HB.out.cell (World.block_lt_of_cell? w _ hw162_9)).trans hw162_9), ((HB.out.cell (World.block_lt_of_cell? w _ hw163_0)).trans hw163_0), ((HB.out.cell (World.block_lt_of_cell? w _ hw163_1)).trans hw163_1), ((HB.out.cell (World.block_lt_of_cell? w _ hw163_2)).trans hw163_2), ((HB.out.cell (World.block_lt_of_cell? w _ hw163_3)).trans hw163_3), ((HB.out.cell (World.block_lt_of_cell? w _ hw163_4)).trans hw163_4), ((HB.out.cell (World.block_lt_of_cell? w _ hw163_5)).trans hw163_5), ((HB.out.cell (World.block_lt_of_cell? w _ hw163_6)).trans hw163_6), ((HB.out.cell (World.block_lt_of_cell? w _ hw163_7)).trans hw163_7), ((HB.out.cell (World.block_lt_of_cell? w _ hw163_8)).trans hw163_8), ((HB.out.cell (World.block_lt_of_cell? w _ hw163_9)).trans hw163_9)⟩ (fun hHeld => ?_); refine with_tabW laws_eqMailS.tab6 laws_eqMailS.bits6 (fun HT_ HW_ => ?_)
        generalize wr.drew = w11 at HB HR162_9 HR163_9 hx162_0 hx162_1 hx162_2 hx162_3 hx162_4 hx162_5 hx162_6 hx162_7 hx162_8 hx162_9 hx163_0 hx163_1 hx163_2 hx163_3 hx163_4 hx163_5 hx163_6 hx163_7 hx163_8 hx163_9 hHeld ⊢
        refine pure_ (i := 0) (N := some 17) (v := ?_) (a' := ?_) #[true, false, false, false, false, false, false, false, false, false] rfl rfl (any_of HT_.out (by kernel_rfl)) (fun _ _ _ h => h) (Or.inl ⟨by rfl, ?_⟩) ?_ ?_
        rotate_left
        ·
         intro w'
         go_simp
         with_reducible rfl
        rotate_left
        ·
         simp only [Act.put, List.setIfInBounds_toArray, List.set_cons_zero, List.set_cons_succ, i64_w, i32_w]
         rfl
        refine pure_ (i := 1) (N := some 18) (v := ?_) (a' := ?_) #[true, true, false, false, false, false, false, false, false, false] rfl rfl (any_of HT_.out (by kernel_rfl)) (fun _ _ _ h => h) (Or.inl ⟨by rfl, ?_⟩) ?_ ?_
        rotate_left
        ·
         intro w'
         go_simp
         with_reducible rfl
        rotate_left
        ·
         simp only [Act.put, List.setIfInBounds_toArray, List.set_cons_zero, List.set_cons_succ, i64_w, i32_w]
         rfl
        refine pure_ (i := 2) (N := some 19) (v := ?_) (a' := ?_) #[true, true, true, false, false, false, false, false, false, false] rfl rfl (any_of HT_.out (by kernel_rfl)) (fun _ _ _ h => h) (Or.inl ⟨by rfl, ?_⟩) ?_ ?_
        rotate_left
        ·
         intro w'
         go_simp
         with_reducible rfl
        rotate_left
        ·
         simp only [Act.put, List.setIfInBounds_toArray, List.set_cons_zero, List.set_cons_succ, i64_w, i32_w]
         rfl
        refine pure_ (i := 4) (N := some 21) (v := ?_) (a' := ?_) #[true, true, true, false, true, false, false, false, false, false] rfl rfl (any_of HT_.out (by kernel_rfl)) (fun _ _ _ h => h) (Or.inl ⟨by rfl, ?_⟩) ?_ ?_
        rotate_left
        ·
         intro w'
         go_simp
         with_reducible rfl
        rotate_left
        ·
         simp only [Act.put, List.setIfInBounds_toArray, List.set_cons_zero, List.set_cons_succ, i64_w, i32_w]
         rfl
        refine pure_ (i := 5) (N := some 22) (v := ?_) (a' := ?_) #[true, true, true, false, true, true, false, false, false, false] rfl rfl (any_of HT_.out (by kernel_rfl)) (fun _ _ _ h => h) (Or.inl ⟨by rfl, ?_⟩) ?_ ?_
        rotate_left
        ·
         intro w'
         go_simp
         with_reducible rfl
        rotate_left
        ·
         simp only [Act.put, List.setIfInBounds_toArray, List.set_cons_zero, List.set_cons_succ, i64_w, i32_w]
         rfl
        refine pure_ (i := 6) (N := some 23) (v := ?_) (a' := ?_) #[true, true, true, false, true, true, true, false, false, false] rfl rfl (any_of HT_.out (by kernel_rfl)) (fun _ _ _ h => h) (Or.inl ⟨by rfl, ?_⟩) ?_ ?_
        rotate_left
        ·
         intro w'
         go_simp
         with_reducible rfl
        rotate_left
        ·
         simp only [Act.put, List.setIfInBounds_toArray, List.set_cons_zero, List.set_cons_succ, i64_w, i32_w]
         rfl
        refine take_ (i := 3) (N := some 20) (v := ?_) (a' := ?_) #[true, true, true, true, true, true, true, false, false, false] rfl rfl (take_ofW HT_.out HW_.out (by kernel_rfl)) (fun _ _ _ h => h) (Or.inl ⟨by rfl, ?_⟩) hHeld ?_ ?_
        rotate_left
        ·
         rintro w' ⟨s0, s1, s2, s3, s4, s5, s6, s7, s8, s9, s10, s11, s12, s13, s14, s15, s16, s17, s18, s19⟩
         go_simp
         with_reducible rfl
        rotate_left
        ·
         simp only [Act.put, List.setIfInBounds_toArray, List.set_cons_zero, List.set_cons_succ, i64_w, i32_w]
         rfl
        refine take_ (i := 7) (N := some 24) (v := ?_) (a' := ?_) #[true, true, true, true, true, true, true, true, false, false] rfl rfl (take_ofW HT_.out HW_.out (by kernel_rfl)) (fun _ _ _ h => h) (Or.inl ⟨by rfl, ?_⟩) hHeld ?_ ?_
        rotate_left
        ·
         rintro w' ⟨s0, s1, s2, s3, s4, s5, s6, s7, s8, s9, s10, s11, s12, s13, s14, s15, s16, s17, s18, s19⟩
         go_simp
         with_reducible rfl
        rotate_left
        ·
         simp only [Act.put, List.setIfInBounds_toArray, List.set_cons_zero, List.set_cons_succ, i64_w, i32_w]
         rfl
        refine one_ (i := 8) (N := some 25) #[true, true, true, true, true, true, true, true, true, false] rfl rfl (one_of HT_.out (by kernel_rfl)) (by decide) (fun K hK => ?_)
        refine goes_ Try.func23 (by kernel_rfl) rfl #[.agg #[.int .i64 ((rd_T53 l0 x5_1).f0), .int .i64 ((rd_T53 l0 x5_1).f1), .int .i64 ((rd_T53 l0 x5_1).f2), .int .i64 ((rd_T53 l0 x5_1).f3), .int .i64 ((rd_T53 l0 x5_1).f4), .bool ((rd_T53 l0 x5_1).f5), .int .i64 ((rd_T53 l0 x5_1).f6.f0), .int .i64 ((rd_T53 l0 x5_1).f6.f1.f0), .int .i64 ((rd_T53 l0 x5_1).f6.f1.f1), .slice A162_9 ((rd_T53 l0 x5_1).f6.f1.f2).length c162_9], .agg #[.int .i64 ((rd_T53 l1 x5_1).f0), .int .i64 ((rd_T53 l1 x5_1).f1), .int .i64 ((rd_T53 l1 x5_1).f2), .int .i64 ((rd_T53 l1 x5_1).f3), .int .i64 ((rd_T53 l1 x5_1).f4), .bool ((rd_T53 l1 x5_1).f5), .int .i64 ((rd_T53 l1 x5_1).f6.f0), .int .i64 ((rd_T53 l1 x5_1).f6.f1.f0), .int .i64 ((rd_T53 l1 x5_1).f6.f1.f1), .slice A163_9 ((rd_T53 l1 x5_1).f6.f1.f2).length c163_9]] (by rfl) rfl rfl (by (try simp only [List.map_toArray, List.map_cons, List.map_nil]); first | done | rfl | (simp only [List.length_drop, List.length_take]; rfl)) ?_
        with_reducible refine (laws_eqMail.calls k1 ((rd_T53 l0 x5_1).f0) ((rd_T53 l0 x5_1).f1) ((rd_T53 l0 x5_1).f2) ((rd_T53 l0 x5_1).f3) ((rd_T53 l0 x5_1).f4) ((rd_T53 l0 x5_1).f5) ((rd_T53 l0 x5_1).f6.f0) ((rd_T53 l0 x5_1).f6.f1.f0) ((rd_T53 l0 x5_1).f6.f1.f1) _ _ ((rd_T53 l0 x5_1).f6.f1.f2) ((rd_T53 l1 x5_1).f0) ((rd_T53 l1 x5_1).f1) ((rd_T53 l1 x5_1).f2) ((rd_T53 l1 x5_1).f3) ((rd_T53 l1 x5_1).f4) ((rd_T53 l1 x5_1).f5) ((rd_T53 l1 x5_1).f6.f0) ((rd_T53 l1 x5_1).f6.f1.f0) ((rd_T53 l1 x5_1).f6.f1.f1) _ _ ((rd_T53 l1 x5_1).f6.f1.f2) false _ ?side1 ?side2 ?side3 ?side4 A7.out).mono ?_
        (case side1 => exact mC HR162_9 HB)
        (case side2 => exact HC162_9.out)
        (case side3 => exact mC HR163_9 HB)
        (case side4 => exact HC163_9.out)
        rintro e w12 ⟨rfl, hb⟩
        refine ⟨_, rfl, ?_⟩
        have n0_ := bS HB hb
        clear HB
        have HB := n0_
        clear n0_
        (try clear hb)
        (try clear hb2)
        (try clear hk)
        (try clear hi)
        refine hK.out _ _ ⟨((HB.out.cell (World.block_lt_of_cell? w _ hw162_0)).trans hw162_0), ((HB.out.cell (World.block_lt_of_cell? w _ hw162_1)).trans hw162_1), ((HB.out.cell (World.block_lt_of_cell? w _ hw162_2)).trans hw162_2), ((HB.out.cell (World.block_lt_of_cell? w _ hw162_3)).trans hw162_3), ((HB.out.cell (World.block_lt_of_cell? w _ hw162_4)).trans hw162_4), ((HB.out.cell (World.block_lt_of_cell? w _ hw162_5)).trans hw162_5), ((HB.out.cell (World.block_lt_of_cell? w _ hw162_6)).trans hw162_6), ((HB.out.cell (World.block_lt_of_cell? w _ hw162_7)).trans hw162_7), ((HB.out.cell (World.block_lt_of_cell? w _ hw162_8)).trans hw162_8), ((HB.out.cell (World.block_lt_of_cell? w _ hw162_9)).trans hw162_9), ((HB.out.cell (World.block_lt_of_cell? w _ hw163_0)).trans hw163_0), ((HB.out.cell (World.block_lt_of_cell? w _ hw163_1)).trans hw163_1), ((HB.out.cell (World.block_lt_of_cell? w _ hw163_2)).trans hw163_2), ((HB.out.cell (World.block_lt_of_cell? w _ hw163_3)).trans hw163_3), ((HB.out.cell (World.block_lt_of_cell? w _ hw163_4)).trans hw163_4), ((HB.out.cell (World.block_lt_of_cell? w _ hw163_5)).trans hw163_5), ((HB.out.cell (World.block_lt_of_cell? w _ hw163_6)).trans hw163_6), ((HB.out.cell (World.block_lt_of_cell? w _ hw163_7)).trans hw163_7), ((HB.out.cell (World.block_lt_of_cell? w _ hw163_8)).trans hw163_8), ((HB.out.cell (World.block_lt_of_cell? w _ hw163_9)).trans hw163_9)⟩ (fun hHeld => ?_)
        clear hK K
        refine norm_ (a' := ?_) ?_ ?_
        rotate_left
        ·
         show Act.put _ (some 25) _ = _
         simp only [Act.put, List.setIfInBounds_toArray, List.set_cons_zero, List.set_cons_succ, i64_w, i32_w]
         rfl
        refine pure_ (i := 9) (N := some 26) (v := ?_) (a' := ?_) #[true, true, true, true, true, true, true, true, true, true] rfl rfl (any_of HT_.out (by kernel_rfl)) (fun _ _ _ h => h) (Or.inl ⟨by rfl, ?_⟩) ?_ ?_
        rotate_left
        ·
         intro w'
         go_simp
         with_reducible rfl
        rotate_left
        ·
         simp only [Act.put, List.setIfInBounds_toArray, List.set_cons_zero, List.set_cons_succ, i64_w, i32_w]
         rfl
        refine done_ (done_of HT_.out (by kernel_rfl)) ?_
        try go_wp2
        go_ret
        exact ⟨by first | rfl | (simp [errW_none, errW_some] <;> rfl) | (simp [*, errW_none, errW_some] <;> rfl), bel HB⟩
      ·
       rw [if_neg c6] at H
       exact absurd H (by simp)
     ·
      rw [if_neg c5] at H
      exact absurd H (by simp)
    ·
     rw [if_neg c4] at H
     have c4b0 : decide (x5_1 < (l0.length : Int)) = false := decide_eq_false c4
     clear c4
     obtain rfl := Option.some.inj H
     go_wp2
     go_ret
     exact ⟨by first | rfl | (simp [errW_none, errW_some] <;> rfl) | (simp [*, errW_none, errW_some] <;> rfl), bel HB⟩
 ·
  rw [if_neg c3] at H
  have c3b0 : ((l0.length : Int) == (l1.length : Int)) = false := beq_eq_false_iff_ne.mpr c3
  have c3b1 : ((l0.length : Int) != (l1.length : Int)) = true := bne_iff_ne.mpr c3
  have c3b2 : (l0.length == l1.length) = false := by first | simpa using c3 | (simp at c3 ⊢; omega)
  obtain rfl := Option.some.inj H
  go_enter Try.func41, Try.ntmps41
  go_wp2
  go_ret
  exact ⟨by first | rfl | (simp [errW_none, errW_some] <;> rfl) | (simp [*, errW_none, errW_some] <;> rfl), bel HB⟩

/-! ### laws_eqNodeResult: function 16 -/
def laws_eqNodeResult.f (k : Nat) (a0_0 : Int) (a0_1 : Int) (a0_2 : Bool) (a0_3 : Int) (a0_4 : Int) (l0_5 : List (S51)) (a0_6 : Int) (a0_7 : Int) (a0_8 : Int) (a0_9 : Int) (l0_10 : List (S53)) (a1_0 : Int) (a1_1 : Int) (a1_2 : Bool) (a1_3 : Int) (a1_4 : Int) (l1_5 : List (S51)) (a1_6 : Int) (a1_7 : Int) (a1_8 : Int) (a1_9 : Int) (l1_10 : List (S53)) : Option (Bool) := if a0_0 = a1_0 then ((laws_eqNode.f k a0_1 a0_2 a0_3 a0_4 l0_5 a0_6 a0_7 a0_8 a0_9 a1_1 a1_2 a1_3 a1_4 l1_5 a1_6 a1_7 a1_8 a1_9).bind fun t167 => (if t167 = true then ((laws_eqMailS.f k l0_10 l1_10).bind fun t168 => (if t168 = true then (some true) else (some false))) else (some false))) else (some false)
theorem laws_eqNodeResult.mono : ∀ a0 a1 a2 a3 a4 a5 a6 a7 a8 a9 a10 a11 a12 a13 a14 a15 a16 a17 a18 a19 a20 a21 k, LeO (laws_eqNodeResult.f k a0 a1 a2 a3 a4 a5 a6 a7 a8 a9 a10 a11 a12 a13 a14 a15 a16 a17 a18 a19 a20 a21) (laws_eqNodeResult.f (k + 1) a0 a1 a2 a3 a4 a5 a6 a7 a8 a9 a10 a11 a12 a13 a14 a15 a16 a17 a18 a19 a20 a21) := by
 intro a0 a1 a2 a3 a4 a5 a6 a7 a8 a9 a10 a11 a12 a13 a14 a15 a16 a17 a18 a19 a20 a21 k
 unfold laws_eqNodeResult.f
 repeat' first
   | (with_reducible exact laws_eqMailS.mono _ _ _)
   | (with_reducible exact laws_eqNode.mono _ _ _ _ _ _ _ _ _ _ _ _ _ _ _ _ _ _ _)
   | (with_reducible exact LeO.refl _)
   | (with_reducible exact LeO.none _)
   | (with_reducible refine LeO.ite ?_ ?_)
   | (with_reducible refine LeO.bind ?_ (fun _ => ?_))
   | exact laws_eqMailS.mono _ _ _
   | exact laws_eqNode.mono _ _ _ _ _ _ _ _ _ _ _ _ _ _ _ _ _ _ _
   | exact LeO.none _
   | refine LeO.ite ?_ ?_
   | refine LeO.bind ?_ (fun _ => ?_)
set_option maxHeartbeats 8000000 in
set_option maxRecDepth 100000 in
theorem laws_eqNodeResult.calls (k : Nat) (a0_0 : Int) (a0_1 : Int) (a0_2 : Bool) (a0_3 : Int) (a0_4 : Int) (A0_5 : Option Addr) (c0_5 : Nat) (l0_5 : List (S51)) (a0_6 : Int) (a0_7 : Int) (a0_8 : Int) (a0_9 : Int) (A0_10 : Option Addr) (c0_10 : Nat) (l0_10 : List (S53)) (a1_0 : Int) (a1_1 : Int) (a1_2 : Bool) (a1_3 : Int) (a1_4 : Int) (A1_5 : Option Addr) (c1_5 : Nat) (l1_5 : List (S51)) (a1_6 : Int) (a1_7 : Int) (a1_8 : Int) (a1_9 : Int) (A1_10 : Option Addr) (c1_10 : Nat) (l1_10 : List (S53)) (r : Bool) (w : World) (hr0_5 : Kd.C k51 w A0_5 l0_5.length l0_5) (hc0_5 : l0_5.length ≤ c0_5) (hr0_10 : Kd.C k53 w A0_10 l0_10.length l0_10) (hc0_10 : l0_10.length ≤ c0_10) (hr1_5 : Kd.C k51 w A1_5 l1_5.length l1_5) (hc1_5 : l1_5.length ≤ c1_5) (hr1_10 : Kd.C k53 w A1_10 l1_10.length l1_10) (hc1_10 : l1_10.length ≤ c1_10) (h : laws_eqNodeResult.f k a0_0 a0_1 a0_2 a0_3 a0_4 l0_5 a0_6 a0_7 a0_8 a0_9 l0_10 a1_0 a1_1 a1_2 a1_3 a1_4 l1_5 a1_6 a1_7 a1_8 a1_9 l1_10 = some r) :
  Calls Try.prog 16 #[.agg #[.int .i64 a0_0, .int .i64 a0_1, .bool a0_2, .int .i64 a0_3, .int .i64 a0_4, .slice A0_5 l0_5.length c0_5, .int .i64 a0_6, .int .i64 a0_7, .int .i64 a0_8, .int .i64 a0_9, .slice A0_10 l0_10.length c0_10], .agg #[.int .i64 a1_0, .int .i64 a1_1, .bool a1_2, .int .i64 a1_3, .int .i64 a1_4, .slice A1_5 l1_5.length c1_5, .int .i64 a1_6, .int .i64 a1_7, .int .i64 a1_8, .int .i64 a1_9, .slice A1_10 l1_10.length c1_10]] w fun e w' => e = .returned (.bool r) ∧ Below w.heap.size w w' := by
 have hu35 := Try.underlying35
 have hu29 := Try.underlying29
 have HR0_5 := Aside0.mk hr0_5
 have HC0_5 := Aside0.mk hc0_5
 clear hr0_5 hc0_5
 have HR0_10 := Aside0.mk hr0_10
 have HC0_10 := Aside0.mk hc0_10
 clear hr0_10 hc0_10
 have HR1_5 := Aside0.mk hr1_5
 have HC1_5 := Aside0.mk hc1_5
 clear hr1_5 hc1_5
 have HR1_10 := Aside0.mk hr1_10
 have HC1_10 := Aside0.mk hc1_10
 clear hr1_10 hc1_10
 have HB := Aside0.mk (Below.refl w.heap.size w)
 have H : (if a0_0 = a1_0 then ((laws_eqNode.f k a0_1 a0_2 a0_3 a0_4 l0_5 a0_6 a0_7 a0_8 a0_9 a1_1 a1_2 a1_3 a1_4 l1_5 a1_6 a1_7 a1_8 a1_9).bind fun t167 => (if t167 = true then ((laws_eqMailS.f k l0_10 l1_10).bind fun t168 => (if t168 = true then (some true) else (some false))) else (some false))) else (some false)) = some r := h
 clear h
 by_cases c3 : a0_0 = a1_0
 ·
  rw [if_pos c3] at H
  have c3b0 : (a0_0 == a1_0) = true := beq_iff_eq.mpr c3
  have c3b1 : (a0_0 != a1_0) = false := bne_eq_false_iff_eq.mpr c3
  clear c3
  replace H := Option.bind_eq_some_iff.mp H
  obtain ⟨t167, A40, H⟩ := H
  replace H : (if t167 = true then ((laws_eqMailS.f k l0_10 l1_10).bind fun t168 => (if t168 = true then (some true) else (some false))) else (some false)) = some r := H
  have A4 := Aside0.mk A40
  clear A40
  by_cases c5 : t167 = true
  ·
   subst c5
   have H1 : ((laws_eqMailS.f k l0_10 l1_10).bind fun t168 => (if t168 = true then (some true) else (some false))) = some r := by rw [if_pos rfl] at H; first | done | exact H
   clear H
   have H := H1
   clear H1
   replace H := Option.bind_eq_some_iff.mp H
   obtain ⟨t168, A60, H⟩ := H
   replace H : (if t168 = true then (some true) else (some false)) = some r := H
   have A6 := Aside0.mk A60
   clear A60
   by_cases c7 : t168 = true
   ·
    subst c7
    have H1 : (some true) = some r := by rw [if_pos rfl] at H; first | done | exact H
    clear H
    have H := H1
    clear H1
    obtain rfl := Option.some.inj H
    go_enter Try.func16, Try.ntmps16
    go_wp2_with (first | ((with_reducible refine gate_dst (N := 2) rfl ?_); refine boxE #[.int .i64 a0_0, .int .i64 a0_1, .bool a0_2, .int .i64 a0_3, .int .i64 a0_4, .slice A0_5 l0_5.length c0_5, .int .i64 a0_6, .int .i64 a0_7, .int .i64 a0_8, .int .i64 a0_9, .slice A0_10 l0_10.length c0_10] 35 (N := 2) rfl rfl ?_; intro gb165 hg w8 hbox hb; have BK165 := Aside0.mk hbox; have GW165 := gZ HB hg; have GE165 := gZ HB hg; replace HB := bS HB hb; clear hb hbox hg) | ((with_reducible refine gate_dst (N := 3) rfl ?_); refine boxE #[.int .i64 a1_0, .int .i64 a1_1, .bool a1_2, .int .i64 a1_3, .int .i64 a1_4, .slice A1_5 l1_5.length c1_5, .int .i64 a1_6, .int .i64 a1_7, .int .i64 a1_8, .int .i64 a1_9, .slice A1_10 l1_10.length c1_10] 35 (N := 3) rfl rfl ?_; intro gb166 hg w9 hbox hb; have BK166 := Aside0.mk hbox; have GW166 := gZ HB hg; have GE166 := gZ HB hg; replace HB := bS HB hb; have NB165_166 := nL BK165 hg; have NB166_165 := nG BK165 hg; replace BK165 := bK BK165 hb; clear hb hbox hg; have hnb10 := NB165_166.out; have hnc10 := NB166_165.out; have hz11 := cl11 BK165; have hz12 := cl11 BK166) | ((with_reducible refine gate_callee (f := 13) rfl ?_); refine goA (some 14) rfl rfl Try.func13 rfl #[.agg #[.int .i64 a0_1, .bool a0_2, .int .i64 a0_3, .int .i64 a0_4, .slice A0_5 l0_5.length c0_5, .int .i64 a0_6, .int .i64 a0_7, .int .i64 a0_8, .int .i64 a0_9], .agg #[.int .i64 a1_1, .bool a1_2, .int .i64 a1_3, .int .i64 a1_4, .slice A1_5 l1_5.length c1_5, .int .i64 a1_6, .int .i64 a1_7, .int .i64 a1_8, .int .i64 a1_9]] rfl ?_; (with_reducible refine (laws_eqNode.calls k a0_1 a0_2 a0_3 a0_4 _ _ l0_5 a0_6 a0_7 a0_8 a0_9 a1_1 a1_2 a1_3 a1_4 _ _ l1_5 a1_6 a1_7 a1_8 a1_9 true _ ?side1 ?side2 ?side3 ?side4 A4.out).mono ?_); (case side1 => exact mC HR0_5 HB); (case side2 => exact HC0_5.out); (case side3 => exact mC HR1_5 HB); (case side4 => exact HC1_5.out); rintro e w13 ⟨rfl, hb⟩; refine ⟨_, rfl, ?_⟩; replace BK165 := bK BK165 hb; replace BK166 := bK BK166 hb; replace HB := bS HB hb; (try clear hb); (try clear hb2); (try clear hk); (try clear hi); have hz14 := cl11 BK165; have hz15 := cl11 BK166) | ((with_reducible refine gate_callee (f := 41) rfl ?_); refine goA (some 20) rfl rfl Try.func41 rfl #[.slice A0_10 l0_10.length c0_10, .slice A1_10 l1_10.length c1_10] rfl ?_; (with_reducible refine (laws_eqMailS.calls k _ _ l0_10 _ _ l1_10 true _ ?side1 ?side2 ?side3 ?side4 A6.out).mono ?_); (case side1 => exact mC HR0_10 HB); (case side2 => exact HC0_10.out); (case side3 => exact mC HR1_10 HB); (case side4 => exact HC1_10.out); rintro e w16 ⟨rfl, hb⟩; refine ⟨_, rfl, ?_⟩; replace BK165 := bK BK165 hb; replace BK166 := bK BK166 hb; replace HB := bS HB hb; (try clear hb); (try clear hb2); (try clear hk); (try clear hi)))
    go_ret
    exact ⟨by first | rfl | (simp [errW_none, errW_some] <;> rfl) | (simp [*, errW_none, errW_some] <;> rfl), bel HB⟩
   ·
    replace c7 := Bool.eq_false_iff.mpr c7
    subst c7
    have H1 : (some false) = some r := by rw [if_neg (show ¬ (false = true) by decide)] at H; first | done | exact H
    clear H
    have H := H1
    clear H1
    obtain rfl := Option.some.inj H
    go_enter Try.func16, Try.ntmps16
    go_wp2_with (first | ((with_reducible refine gate_dst (N := 2) rfl ?_); refine boxE #[.int .i64 a0_0, .int .i64 a0_1, .bool a0_2, .int .i64 a0_3, .int .i64 a0_4, .slice A0_5 l0_5.length c0_5, .int .i64 a0_6, .int .i64 a0_7, .int .i64 a0_8, .int .i64 a0_9, .slice A0_10 l0_10.length c0_10] 35 (N := 2) rfl rfl ?_; intro gb165 hg w17 hbox hb; have BK165 := Aside0.mk hbox; have GW165 := gZ HB hg; have GE165 := gZ HB hg; replace HB := bS HB hb; clear hb hbox hg) | ((with_reducible refine gate_dst (N := 3) rfl ?_); refine boxE #[.int .i64 a1_0, .int .i64 a1_1, .bool a1_2, .int .i64 a1_3, .int .i64 a1_4, .slice A1_5 l1_5.length c1_5, .int .i64 a1_6, .int .i64 a1_7, .int .i64 a1_8, .int .i64 a1_9, .slice A1_10 l1_10.length c1_10] 35 (N := 3) rfl rfl ?_; intro gb166 hg w18 hbox hb; have BK166 := Aside0.mk hbox; have GW166 := gZ HB hg; have GE166 := gZ HB hg; replace HB := bS HB hb; have NB165_166 := nL BK165 hg; have NB166_165 := nG BK165 hg; replace BK165 := bK BK165 hb; clear hb hbox hg; have hnb19 := NB165_166.out; have hnc19 := NB166_165.out; have hz20 := cl11 BK165; have hz21 := cl11 BK166) | ((with_reducible refine gate_callee (f := 13) rfl ?_); refine goA (some 14) rfl rfl Try.func13 rfl #[.agg #[.int .i64 a0_1, .bool a0_2, .int .i64 a0_3, .int .i64 a0_4, .slice A0_5 l0_5.length c0_5, .int .i64 a0_6, .int .i64 a0_7, .int .i64 a0_8, .int .i64 a0_9], .agg #[.int .i64 a1_1, .bool a1_2, .int .i64 a1_3, .int .i64 a1_4, .slice A1_5 l1_5.length c1_5, .int .i64 a1_6, .int .i64 a1_7, .int .i64 a1_8, .int .i64 a1_9]] rfl ?_; (with_reducible refine (laws_eqNode.calls k a0_1 a0_2 a0_3 a0_4 _ _ l0_5 a0_6 a0_7 a0_8 a0_9 a1_1 a1_2 a1_3 a1_4 _ _ l1_5 a1_6 a1_7 a1_8 a1_9 true _ ?side1 ?side2 ?side3 ?side4 A4.out).mono ?_); (case side1 => exact mC HR0_5 HB); (case side2 => exact HC0_5.out); (case side3 => exact mC HR1_5 HB); (case side4 => exact HC1_5.out); rintro e w22 ⟨rfl, hb⟩; refine ⟨_, rfl, ?_⟩; replace BK165 := bK BK165 hb; replace BK166 := bK BK166 hb; replace HB := bS HB hb; (try clear hb); (try clear hb2); (try clear hk); (try clear hi); have hz23 := cl11 BK165; have hz24 := cl11 BK166) | ((with_reducible refine gate_callee (f := 41) rfl ?_); refine goA (some 20) rfl rfl Try.func41 rfl #[.slice A0_10 l0_10.length c0_10, .slice A1_10 l1_10.length c1_10] rfl ?_; (with_reducible refine (laws_eqMailS.calls k _ _ l0_10 _ _ l1_10 false _ ?side1 ?side2 ?side3 ?side4 A6.out).mono ?_); (case side1 => exact mC HR0_10 HB); (case side2 => exact HC0_10.out); (case side3 => exact mC HR1_10 HB); (case side4 => exact HC1_10.out); rintro e w25 ⟨rfl, hb⟩; refine ⟨_, rfl, ?_⟩; replace BK165 := bK BK165 hb; replace BK166 := bK BK166 hb; replace HB := bS HB hb; (try clear hb); (try clear hb2); (try clear hk); (try clear hi)))
    go_ret
    exact ⟨by first | rfl | (simp [errW_none, errW_some] <;> rfl) | (simp [*, errW_none, errW_some] <;> rfl), bel HB⟩
  ·
   replace c5 := Bool.eq_false_iff.mpr c5
   subst c5
   have H1 : (some false) = some r := by rw [if_neg (show ¬ (false = true) by decide)] at H; first | done | exact H
   clear H
   have H := H1
   clear H1
   obtain rfl := Option.some.inj H
   go_enter Try.func16, Try.ntmps16
   go_wp2_with (first | ((with_reducible refine gate_dst (N := 2) rfl ?_); refine boxE #[.int .i64 a0_0, .int .i64 a0_1, .bool a0_2, .int .i64 a0_3, .int .i64 a0_4, .slice A0_5 l0_5.length c0_5, .int .i64 a0_6, .int .i64 a0_7, .int .i64 a0_8, .int .i64 a0_9, .slice A0_10 l0_10.length c0_10] 35 (N := 2) rfl rfl ?_; intro gb165 hg w26 hbox hb; have BK165 := Aside0.mk hbox; have GW165 := gZ HB hg; have GE165 := gZ HB hg; replace HB := bS HB hb; clear hb hbox hg) | ((with_reducible refine gate_dst (N := 3) rfl ?_); refine boxE #[.int .i64 a1_0, .int .i64 a1_1, .bool a1_2, .int .i64 a1_3, .int .i64 a1_4, .slice A1_5 l1_5.length c1_5, .int .i64 a1_6, .int .i64 a1_7, .int .i64 a1_8, .int .i64 a1_9, .slice A1_10 l1_10.length c1_10] 35 (N := 3) rfl rfl ?_; intro gb166 hg w27 hbox hb; have BK166 := Aside0.mk hbox; have GW166 := gZ HB hg; have GE166 := gZ HB hg; replace HB := bS HB hb; have NB165_166 := nL BK165 hg; have NB166_165 := nG BK165 hg; replace BK165 := bK BK165 hb; clear hb hbox hg; have hnb28 := NB165_166.out; have hnc28 := NB166_165.out; have hz29 := cl11 BK165; have hz30 := cl11 BK166) | ((with_reducible refine gate_callee (f := 13) rfl ?_); refine goA (some 14) rfl rfl Try.func13 rfl #[.agg #[.int .i64 a0_1, .bool a0_2, .int .i64 a0_3, .int .i64 a0_4, .slice A0_5 l0_5.length c0_5, .int .i64 a0_6, .int .i64 a0_7, .int .i64 a0_8, .int .i64 a0_9], .agg #[.int .i64 a1_1, .bool a1_2, .int .i64 a1_3, .int .i64 a1_4, .slice A1_5 l1_5.length c1_5, .int .i64 a1_6, .int .i64 a1_7, .int .i64 a1_8, .int .i64 a1_9]] rfl ?_; (with_reducible refine (laws_eqNode.calls k a0_1 a0_2 a0_3 a0_4 _ _ l0_5 a0_6 a0_7 a0_8 a0_9 a1_1 a1_2 a1_3 a1_4 _ _ l1_5 a1_6 a1_7 a1_8 a1_9 false _ ?side1 ?side2 ?side3 ?side4 A4.out).mono ?_); (case side1 => exact mC HR0_5 HB); (case side2 => exact HC0_5.out); (case side3 => exact mC HR1_5 HB); (case side4 => exact HC1_5.out); rintro e w31 ⟨rfl, hb⟩; refine ⟨_, rfl, ?_⟩; replace BK165 := bK BK165 hb; replace BK166 := bK BK166 hb; replace HB := bS HB hb; (try clear hb); (try clear hb2); (try clear hk); (try clear hi)))
   go_ret
   exact ⟨by first | rfl | (simp [errW_none, errW_some] <;> rfl) | (simp [*, errW_none, errW_some] <;> rfl), bel HB⟩
 ·
  rw [if_neg c3] at H
  have c3b0 : (a0_0 == a1_0) = false := beq_eq_false_iff_ne.mpr c3
  have c3b1 : (a0_0 != a1_0) = true := bne_iff_ne.mpr c3
  obtain rfl := Option.some.inj H
  go_enter Try.func16, Try.ntmps16
  go_wp2_with (first | ((with_reducible refine gate_dst (N := 2) rfl ?_); refine boxE #[.int .i64 a0_0, .int .i64 a0_1, .bool a0_2, .int .i64 a0_3, .int .i64 a0_4, .slice A0_5 l0_5.length c0_5, .int .i64 a0_6, .int .i64 a0_7, .int .i64 a0_8, .int .i64 a0_9, .slice A0_10 l0_10.length c0_10] 35 (N := 2) rfl rfl ?_; intro gb165 hg w32 hbox hb; have BK165 := Aside0.mk hbox; have GW165 := gZ HB hg; have GE165 := gZ HB hg; replace HB := bS HB hb; clear hb hbox hg) | ((with_reducible refine gate_dst (N := 3) rfl ?_); refine boxE #[.int .i64 a1_0, .int .i64 a1_1, .bool a1_2, .int .i64 a1_3, .int .i64 a1_4, .slice A1_5 l1_5.length c1_5, .int .i64 a1_6, .int .i64 a1_7, .int .i64 a1_8, .int .i64 a1_9, .slice A1_10 l1_10.length c1_10] 35 (N := 3) rfl rfl ?_; intro gb166 hg w33 hbox hb; have BK166 := Aside0.mk hbox; have GW166 := gZ HB hg; have GE166 := gZ HB hg; replace HB := bS HB hb; have NB165_166 := nL BK165 hg; have NB166_165 := nG BK165 hg; replace BK165 := bK BK165 hb; clear hb hbox hg; have hnb34 := NB165_166.out; have hnc34 := NB166_165.out; have hz35 := cl11 BK165; have hz36 := cl11 BK166))
  go_ret
  exact ⟨by first | rfl | (simp [errW_none, errW_some] <;> rfl) | (simp [*, errW_none, errW_some] <;> rfl), bel HB⟩

/-! ### laws_markByteS: function 59 -/
def laws_markByteS.l0 : Nat → List Int → Int → Int → Option (Int × List Int)
 | 0, _, _, _ => none
 | k + 1, x0, x1, x5 => if x5 < (x0.length : Int) then (if 0 ≤ x5 then (laws_markByteS.l0 k (x0.set (x5 : Int).toNat ((x1) % 256)) (wrap64 (x1 + 1)) (wrap64 (x5 + 1))) else (none)) else (some (x1, x0))
def laws_markByteS.f (k : Nat) (l0 : List Int) (a1 : Int) : Option (Int × List Int) := laws_markByteS.l0 k l0 a1 0
theorem laws_markByteS.mono_l : ∀ k, (∀ y0 y1 y2, LeO (laws_markByteS.l0 k y0 y1 y2) (laws_markByteS.l0 (k + 1) y0 y1 y2))
 | 0 => fun _ _ _ r h => by simp [laws_markByteS.l0] at h
 | k + 1 => by
  have ih0 := laws_markByteS.mono_l k
  ·
   intro y0 y1 y2
   unfold laws_markByteS.l0
   repeat' first
   | (with_reducible exact ih0 _ _ _)
   | (with_reducible exact LeO.refl _)
   | (with_reducible exact LeO.none _)
   | (with_reducible refine LeO.ite ?_ ?_)
   | (with_reducible refine LeO.bind ?_ (fun _ => ?_))
   | exact ih0 _ _ _
   | exact LeO.none _
   | refine LeO.ite ?_ ?_
   | refine LeO.bind ?_ (fun _ => ?_)
theorem laws_markByteS.mono : ∀ a0 a1 k, LeO (laws_markByteS.f k a0 a1) (laws_markByteS.f (k + 1) a0 a1) := by
 intro a0 a1 k
 have ih0 := laws_markByteS.mono_l k
 unfold laws_markByteS.f
 repeat' first
   | (with_reducible exact ih0 _ _ _)
   | (with_reducible exact LeO.refl _)
   | (with_reducible exact LeO.none _)
   | (with_reducible refine LeO.ite ?_ ?_)
   | (with_reducible refine LeO.bind ?_ (fun _ => ?_))
   | exact ih0 _ _ _
   | exact LeO.none _
   | refine LeO.ite ?_ ?_
   | refine LeO.bind ?_ (fun _ => ?_)
set_option maxHeartbeats 8000000 in
set_option maxRecDepth 100000 in
theorem laws_markByteS.calls (k : Nat) (P0_ : Nat → Prop) (u9000_ : Value) (l0 : List Int) (a1 : Int) (r1 : Int) (r2 : List Int) (w0 w : World) (hB : Below w0.heap.size w0 w) (ho0 : Kd.R (Kd.int .u8) 5 w w0.heap.size P0_ u9000_ l0) (h : laws_markByteS.f k l0 a1 = some (r1, r2)) :
  Calls Try.prog 59 #[u9000_, .int .i64 a1] w fun e w' => e = .returned (.int .i64 r1) ∧ Kd.R (Kd.int .u8) 5 w' w0.heap.size (fun k_ => (P0_ k_ ∨ w.heap.size ≤ k_)) u9000_ r2 ∧ Below w0.heap.size w0 w' ∧ Kept w w' (fun k_ => P0_ k_) := by
 have HO0 := Aside0.mk (show Kd.R (Kd.int .u8) 5 w w0.heap.size (fun k_ => (P0_ k_ ∨ w.heap.size ≤ k_)) u9000_ l0 from Kd.R_mono ho0 (fun k_ hk => (.inl hk)))
 have HK := Aside0.mk (Kept.refl w (fun k_ => P0_ k_))
 have HW0 := Aside0.mk hB.size
 have HB := Aside0.mk hB
 clear hB
 have H : (laws_markByteS.l0 k l0 a1 0) = some (r1, r2) := h
 clear h
 have H' := Aside0.mk H
 clear H
 go_enter Try.func59, Try.ntmps59
 go_wp2
 go_loopg [1, 5] k (fun kq v1 v5 w' => ∃ (x0_1 : List Int) (x1_1 : Int) (x5_1 : Int), v1 = .int .i64 x1_1 ∧ v5 = .int .i64 x5_1 ∧ Aside0 (laws_markByteS.l0 kq x0_1 x1_1 x5_1 = some (r1, r2)) ∧ Aside0 (kq ≤ k) ∧ Aside0 (Kd.R (Kd.int .u8) 5 w' w0.heap.size (fun k_ => (P0_ k_ ∨ w.heap.size ≤ k_)) u9000_ x0_1) ∧ Aside0 (Kept w w' (fun k_ => P0_ k_)) ∧ Aside0 (Below w0.heap.size w0 w'))
 case atStart => exact ⟨(l0), (a1), (0), (by first | rfl | (simp; done) | (simp [*]; done)), (by first | rfl | (simp; done) | (simp [*]; done)), H', ⟨Nat.le_refl _⟩, ⟨by (with_reducible repeat (first | apply Kd.R_alloc | apply Kd.R_drewN | apply Kd.R_drew)); exact HO0.out⟩, ⟨by repeat (first | (with_reducible first | exact HK.out | apply Kept.alloc | apply Kept.drewN | apply Kept.drew) | exact HK.out)⟩, ⟨bel HB⟩⟩
 case round =>
  clear H'
  try clear p2
  obtain ⟨x0_1, x1_1, x5_1, rfl, rfl, HA, HK1, HO_0, HK, HB⟩ := hrel
  cases gk with
  | zero => exact absurd HA.out (by simp [laws_markByteS.l0])
  | succ k1 =>
   have H := HA.out
   clear HA
   simp only [laws_markByteS.l0] at H
   by_cases c3 : x5_1 < (x0_1.length : Int)
   ·
    rw [if_pos c3] at H
    have c3b0 : decide (x5_1 < (x0_1.length : Int)) = true := decide_eq_true c3
    clear c3
    by_cases c4 : 0 ≤ x5_1
    ·
     rw [if_pos c4] at H
     have c4b0 : decide (0 ≤ x5_1) = true := decide_eq_true c4
     clear c4
     obtain ⟨y169, hy169⟩ : ∃ y_ : List Int, y_ = (x0_1.set (x5_1 : Int).toNat ((x1_1) % 256)) := ⟨_, rfl⟩
     replace H : (laws_markByteS.l0 k1 y169 (wrap64 (x1_1 + 1)) (wrap64 (x5_1 + 1))) = some (r1, r2) := by first | (rw [hy169]; with_reducible exact H) | (have H2_ := (Option.bind_some _ _).symm.trans H; rw [hy169]; with_reducible exact H2_) | (have H2_ := (Option.bind_some _ _).symm.trans H; with_reducible exact H2_) | with_reducible exact H | (rw [hy169]; exact H) | exact H
     have Ny169 := Aside0.mk hy169
     clear hy169
     have H' := Aside0.mk H
     clear H
     obtain ⟨Ao6, co6, eo6⟩ := Kd.R_slice HO_0.out
     subst eo6
     have p5 : 0 ≤ (x5_1 : Int) := of_decide_eq_true (by first | (with_reducible assumption) | assumption)
     have q5 : (x5_1 : Int) < ((x0_1.length : Int) : Int) := of_decide_eq_true (by first | (with_reducible assumption) | assumption)
     obtain ⟨go5, co5, eo5, gb5, gl5, cl5, HG5⟩ := Kd.R_form HO_0.out (by omega)
     (first | cases eo5 | (injection eo5 with ea_ en_ ec_; (first | subst ea_ | (injection ea_ with ea_; subst ea_)); subst ec_; clear en_))
     have GB5 := Aside0.mk gb5
     have GG5 := Aside0.mk HG5
     clear gb5 gl5 HG5
     have HMgo5 := Aside0.mk (show (P0_ go5 ∨ w.heap.size ≤ go5) from (HO_0.out.1 _ rfl))
     obtain ⟨hx5_0, hf5_0⟩ := Kd.R_celln 0 HO_0.out (x5_1 : Int) p5 q5
     replace p5 := eq_true p5
     replace q5 := eq_true q5
     have HP7 := Kd.R_putg HO_0.out (x5_1 : Int) ((x1_1) % 256)
     go_wp2_with (first | ((with_reducible refine gate_store (t := 5) (p := 16) rfl ?_); refine store_event (t := 5) (p := 16) (v := ?vo_w8) (w1 := (wr.setCell ⟨go5, (x5_1 : Int).toNat, none⟩ (.int .u8 ((x1_1) % 256)))) ?hg ?ho ?hn ?hr ?_; (case ho => rfl); (case hg => rfl); (case hn => rfl); (case hr => first | (go_simp; done) | (go_simp; rfl)); intro w8 hw; have hg : wr.grownBy w8 (some go5) := (by rw [hw]; exact HP7.2); have hp_ : Kd.R (Kd.int .u8) 5 w8 w0.heap.size (fun k_ => (P0_ k_ ∨ w.heap.size ≤ k_)) (.slice (some ⟨go5, 0, none⟩) x0_1.length co6) y169 := (by rw [hw, Ny169.out]; exact HP7.1); clear HP7; replace HB := Aside0.mk ((by rw [hw]; exact below_set (HB.out) GB5.out : Below w0.heap.size w0 w8)); replace HK := Aside0.mk (Kept.of_grown (S := (fun k_ => P0_ k_)) hg (by repeat (first | (with_reducible first | exact HK.out | apply Kept.alloc | apply Kept.drewN | apply Kept.drew) | exact HK.out)) (fun k_ e_ => (HO_0.out.1 k_ e_))); replace HO_0 := Aside0.mk hp_; clear hg hw hp_))
     go_roundg k1
     case measure => have := HK1.out; omega
     case rel => exact ⟨(y169), (wrap64 (x1_1 + 1)), (wrap64 (x5_1 + 1)), (by first | rfl | (simp; done) | (simp [*]; done)), (by first | rfl | (simp; done) | (simp [*]; done)), H', ⟨by have := HK1.out; omega⟩, ⟨by (with_reducible repeat (first | apply Kd.R_alloc | apply Kd.R_drewN | apply Kd.R_drew)); exact HO_0.out⟩, ⟨by repeat (first | (with_reducible first | exact HK.out | apply Kept.alloc | apply Kept.drewN | apply Kept.drew) | exact HK.out)⟩, ⟨bel HB⟩⟩
    ·
     rw [if_neg c4] at H
     exact absurd H (by simp)
   ·
    rw [if_neg c3] at H
    have c3b0 : decide (x5_1 < (x0_1.length : Int)) = false := decide_eq_false c3
    clear c3
    simp only [Option.some.injEq, Prod.mk.injEq] at H
    obtain ⟨rfl, rfl⟩ := H
    obtain ⟨Ao9, co9, eo9⟩ := Kd.R_slice HO_0.out
    subst eo9
    go_wp2
    go_ret
    exact ⟨by first | rfl | (simp [errW_none, errW_some] <;> rfl) | (simp [*, errW_none, errW_some] <;> rfl), by (with_reducible repeat (first | apply Kd.R_alloc | apply Kd.R_drewN | apply Kd.R_drew)); exact HO_0.out, bel HB, by repeat (first | (with_reducible first | exact HK.out | apply Kept.alloc | apply Kept.drewN | apply Kept.drew) | exact HK.out)⟩

/-! ### laws_markEntryS: function 53 -/
def laws_markEntryS.f (k : Nat) : List S51 → Int → Option (Int × List S51)
 | [], m => some (m, [])
 | x :: t, m => (laws_markByteS.f k x.f1.f2 (wrap64 (wrap64 (wrap64 (m + 1) + 1) + 1))).bind fun b => (laws_markEntryS.f k t b.1).bind fun q => some (q.1, (⟨m, (⟨wrap64 (m + 1), wrap64 (wrap64 (m + 1) + 1), b.2⟩ : S49)⟩ : S51) :: q.2)
theorem laws_markEntryS.mono : ∀ l m k, LeO (laws_markEntryS.f k l m) (laws_markEntryS.f (k + 1) l m)
 | [], m, k => LeO.refl _
 | x :: t, m, k => by
  unfold laws_markEntryS.f
  exact LeO.bind (laws_markByteS.mono _ _ _) (fun b => LeO.bind (laws_markEntryS.mono t b.1 k) (fun q => LeO.refl _))
theorem laws_markEntryS.room {w : World} {base e size n : Nat} {v : Value} {xs : List Value} (h : w.ownsRow base e size v n xs) : n ≤ 9223372036854775807 := by
 rcases h.2 with ⟨_, h0⟩ | ⟨_, cap, _, _, _, _, h1, h2, _⟩
 ·
  omega
 ·
  simp only [maxLen] at h2; omega
theorem laws_markEntryS.at_mid {α : Type} (d : List α) (x z : α) (t : List α) : (d ++ x :: t).getD d.length z = x := by simp
theorem laws_markEntryS.set_mid {α : Type} (d : List α) (x y : α) (t : List α) : (d ++ x :: t).set d.length y = (d ++ [y]) ++ t := by simp
set_option maxHeartbeats 8000000 in
set_option maxRecDepth 100000 in
theorem laws_markEntryS.calls0 (k : Nat) (P : Nat → Prop) (v : Value) (l0 : List S51) (a1 r1 : Int) (r2 : List S51) (w0 w : World) (hB : Below w0.heap.size w0 w) (ho : Kd.S k51 51 w w0.heap.size P v l0) (h : laws_markEntryS.f k l0 a1 = some (r1, r2)) :
  Calls Try.prog 53 #[v, .int .i64 a1] w fun e w' => e = .returned (.int .i64 r1) ∧ Kd.S k51 51 w' w0.heap.size P v r2 ∧ Below w0.heap.size w0 w' ∧ Kept w w' P := by
 have hu51 := Try.underlying51
 have hu49 := Try.underlying49
 obtain ⟨A0, c0, rfl⟩ := Kd.S_slice ho
 have hc0 : l0.length ≤ c0 := (Kd.S_reads' ho).2.1
 have hlen : l0.length ≤ 9223372036854775807 := by
  obtain ⟨inner, hown⟩ := Kd.S_own ho
  exact laws_markEntryS.room hown
 have HLB := Aside0.mk hlen
 have HO := Aside0.mk ho
 have HB := Aside0.mk hB
 have HH := Aside0.mk h
 clear ho hB h hc0 hlen
 go_enter Try.func53, Try.ntmps53
 go_wp2
 go_loopg [1, 5] l0.length (fun kq v1 v5 w' => ∃ (m : Int) (d t t' : List S51), v1 = .int .i64 m ∧ v5 = .int .i64 (d.length : Int) ∧ Aside0 (t.length = kq) ∧ Aside0 (d.length + t.length = l0.length) ∧ Aside0 (laws_markEntryS.f k t m = some (r1, t')) ∧ Aside0 (r2 = d ++ t') ∧ Aside0 (Kd.S k51 51 w' w0.heap.size P (.slice A0 l0.length c0) (d ++ t)) ∧ Aside0 (Below w0.heap.size w0 w') ∧ Aside0 (Kept w w' P))
 case atStart => exact ⟨a1, [], l0, r2, rfl, rfl, ⟨rfl⟩, ⟨by simp⟩, HH, ⟨rfl⟩, HO, HB, ⟨Kept.refl _ _⟩⟩
 case round =>
  obtain ⟨m, d, t, t', rfl, rfl, HT, HDT, HF, HR2, HS, HB2, HK⟩ := hrel
  clear HO HB HH
  cases t with
  | nil =>
   have c4b0 : (d.length < l0.length) = False := eq_false (by have := HDT.out; simp at this; omega)
   have HF2 : Aside0 (m = r1 ∧ [] = t') := ⟨by have := HF.out; unfold laws_markEntryS.f at this; simpa using this⟩
   obtain ⟨rfl, rfl⟩ := HF2.out
   clear HF HF2
   go_wp2
   go_ret
   exact ⟨rfl, by rw [HR2.out]; exact HS.out, HB2.out, HK.out⟩
  | cons x t2 =>
   have HF1 := HF.out
   unfold laws_markEntryS.f at HF1
   obtain ⟨b, hb1, HF1⟩ := Option.bind_eq_some_iff.mp HF1
   obtain ⟨q, hq1, HF1⟩ := Option.bind_eq_some_iff.mp HF1
   obtain ⟨e1, e2⟩ := Prod.mk.inj (Option.some.inj HF1)
   obtain ⟨b1, b2⟩ := b
   obtain ⟨q1, q2⟩ := q
   simp only at e1 e2 hb1 hq1
   subst e1
   have A1 := Aside0.mk hb1
   have A2 := Aside0.mk hq1
   have A3 := Aside0.mk e2
   clear hb1 hq1 e2 HF1 HF
   have hlt : (d.length : Int) < (l0.length : Int) := by have := HDT.out; simp at this; omega
   have c4b0 : (d.length < l0.length) = True := eq_true (by omega)
   have hform : ∃ g, A0 = some ⟨g, 0, none⟩ ∧ w0.heap.size ≤ g := by
    obtain ⟨g, cap, he, hg, _⟩ := Kd.S_form HS.out (by simp; omega)
    injection he with e1 _ _
    exact ⟨g, e1, hg⟩
   obtain ⟨g, rfl, hg⟩ := hform
   have GEg := Aside0.mk hg
   have HLT := Aside0.mk hlt
   clear hg hlt
   have p4 : (0 ≤ (d.length : Int)) = True := eq_true (by omega)
   have q4 : ((d.length : Int) < (l0.length : Int)) = True := eq_true HLT.out
   obtain ⟨oki, c, hcl, hM, hcc, hfr, hoki, hH⟩ := Kd.S_elem HS.out z51 (d.length : Int) (by omega) HLT.out
   simp only [Int.toNat_natCast] at hM hcc hfr hH
   rw [laws_markEntryS.at_mid] at hM
   obtain ⟨v3, rfl, g3⟩ := k51_openM hM
   obtain ⟨A3_, c3_, rfl⟩ := Kd.R_slice g3
   have hx0 : wr.cell? ⟨g, d.length * 4, none⟩ = some (.int .i64 x.f0) := hcc 0 _ rfl
   have hx1 : wr.cell? ⟨g, d.length * 4 + 1, none⟩ = some (.int .i64 x.f1.f0) := hcc 1 _ rfl
   have hx2 : wr.cell? ⟨g, d.length * 4 + 2, none⟩ = some (.int .i64 x.f1.f1) := hcc 2 _ rfl
   have hx3 : wr.cell? ⟨g, d.length * 4 + 3, none⟩ = some (.slice A3_ x.f1.f2.length c3_) := hcc 3 _ rfl
   have hf0 : wr.frozen? ⟨g, d.length * 4, none⟩ = false := hfr 0
   have hf1 : wr.frozen? ⟨g, d.length * 4 + 1, none⟩ = false := hfr 1
   have hf2 : wr.frozen? ⟨g, d.length * 4 + 2, none⟩ = false := hfr 2
   have HG3 := Aside0.mk g3
   have HHH := Aside0.mk hH
   have HOK := Aside0.mk hoki
   clear g3 hH hoki hM hcc hfr hcl
   have hPg : P g := (Kd.S_R HS.out).1 g rfl
   have HPG := Aside0.mk hPg
   clear hPg
   have hw : wrap64 ((d.length : Int) + 1) = (d.length : Int) + 1 := by have := HLB.out; have := HLT.out; unfold wrap64; omega
   have HW := Aside0.mk hw
   clear hw
   go_wp2_with (first | ((with_reducible refine gate_callee (f := 59) rfl ?_); refine goA (some 42) rfl rfl Try.func59 rfl #[.slice A3_ x.f1.f2.length c3_, .int .i64 (wrap64 (wrap64 (wrap64 (m + 1) + 1) + 1))] rfl ?_; (refine (laws_markByteS.calls k oki _ x.f1.f2 _ b1 b2 w0 _ ?side1 ?side2 A1.out).mono ?_); (case side1 => exact (by repeat (first | exact HB2.out | refine below_set ?_ GEg.out))); (case side2 => exact Kd.R_far (Kd.R_far (Kd.R_far HG3.out (fun k hk => (HOK.out k hk).2) _) (fun k hk => (HOK.out k hk).2) _) (fun k hk => (HOK.out k hk).2) _); rintro e w5 ⟨rfl, ho5, hb5, hk5⟩; refine ⟨_, rfl, ?_⟩; have HO5 := Aside0.mk ho5; have HB5 := Aside0.mk hb5; have HK5 := Aside0.mk hk5; clear ho5 hb5 hk5))
   have hS5 : Kd.S k51 51 w5 w0.heap.size P (.slice (some ⟨g, 0, none⟩) l0.length c0) ((d ++ [(⟨m, ⟨wrap64 (m + 1), wrap64 (wrap64 (m + 1) + 1), b2⟩⟩ : S51)]) ++ t2) := by
    have h3 := (Kd.H_seg HHH.out (by omega) HLT.out (seg := [.int .i64 m, .int .i64 (wrap64 (m + 1)), .int .i64 (wrap64 (wrap64 (m + 1) + 1))]) (j := 0) (show 0 + 3 ≤ 4 by decide) (fun q hq => by simp only [List.mem_cons, List.not_mem_nil, or_false] at hq; rcases hq with rfl | rfl | rfl <;> rfl)).1
    have h5 := Kd.H_kept h3 HK5.out (fun _ _ h _ => h (by assumption))
    have hR : Kd.R (Kd.int .u8) 5 w5 w0.heap.size oki (.slice A3_ x.f1.f2.length c3_) b2 := Kd.R_mono (Kd.R_tight rfl HO5.out) (fun k hk => HG3.out.1 k hk.symm)
    have h6 := Kd.H_back h5 (x' := (⟨m, ⟨wrap64 (m + 1), wrap64 (wrap64 (m + 1) + 1), b2⟩⟩ : S51)) (k51_mkM _ _ _ _ hR) (fun _ h => h)
    rw [← laws_markEntryS.set_mid d x]
    exact h6
   have HS5 := Aside0.mk hS5
   have HKP := Aside0.mk (Kept.then_ (Kept.setCell (Kept.setCell (Kept.setCell HK.out (p := ⟨g, d.length * 4, none⟩) (.inl HPG.out) (.int .i64 m)) (p := ⟨g, d.length * 4 + 1, none⟩) (.inl HPG.out) (.int .i64 (wrap64 (m + 1)))) (p := ⟨g, d.length * 4 + 1 + 1, none⟩) (.inl HPG.out) (.int .i64 (wrap64 (wrap64 (m + 1) + 1)))) HK5.out (fun k hk => .inl (HOK.out k hk).1))
   clear hS5
   go_roundg (gk - 1)
   case measure => have := HT.out; simp at this; omega
   case rel => exact ⟨b1, d ++ [(⟨m, ⟨wrap64 (m + 1), wrap64 (wrap64 (m + 1) + 1), b2⟩⟩ : S51)], t2, q2, rfl, by rw [HW.out]; simp, ⟨by have := HT.out; simp at this; omega⟩, ⟨by have := HDT.out; simp at this ⊢; omega⟩, A2, ⟨by rw [HR2.out, ← A3.out]; simp⟩, HS5, HB5, HKP⟩
theorem laws_markEntryS.calls (k : Nat) (P0_ : Nat → Prop) (u9000_ : Value) (l0 : List (S51)) (a1 : Int) (r1 : Int) (r2 : List (S51)) (w0 w : World) (hB : Below w0.heap.size w0 w) (ho0 : Kd.S k51 51 w w0.heap.size P0_ u9000_ l0) (h : laws_markEntryS.f k l0 a1 = some (r1, r2)) :
 Calls Try.prog 53 #[u9000_, .int .i64 a1] w fun e w' => e = .returned (.int .i64 r1) ∧ Kd.S k51 51 w' w0.heap.size (fun k_ => (P0_ k_ ∨ w.heap.size ≤ k_)) u9000_ r2 ∧ Below w0.heap.size w0 w' ∧ Kept w w' (fun k_ => P0_ k_) := by
 refine (laws_markEntryS.calls0 k P0_ u9000_ l0 a1 r1 r2 w0 w hB ho0 h).mono ?_
 rintro e w' ⟨h1, h2, h3, h4⟩
 exact ⟨h1, Kd.S_mono h2 (fun _ hk => .inl hk), h3, h4⟩

-- NOT PRINTED: function 26 (laws_markNode)

/-! ### laws_markMailS: function 42 -/
def laws_markMailS.f (k : Nat) : List S53 → Int → Option (Int × List S53)
 | [], m => some (m, [])
 | _ :: _, _ => none
theorem laws_markMailS.mono : ∀ l m k, LeO (laws_markMailS.f k l m) (laws_markMailS.f (k + 1) l m)
 | [], m, k => LeO.refl _
 | x :: t, m, k => LeO.refl _
set_option maxHeartbeats 8000000 in
set_option maxRecDepth 100000 in
theorem laws_markMailS.calls (k : Nat) (P0_ : Nat → Prop) (u9000_ : Value) (l0 : List (S53)) (a1 : Int) (r1 : Int) (r2 : List (S53)) (w0 w : World) (hB : Below w0.heap.size w0 w) (ho0 : Kd.S k53 53 w w0.heap.size P0_ u9000_ l0) (h : laws_markMailS.f k l0 a1 = some (r1, r2)) :
 Calls Try.prog 42 #[u9000_, .int .i64 a1] w fun e w' => e = .returned (.int .i64 r1) ∧ Kd.S k53 53 w' w0.heap.size (fun k_ => (P0_ k_ ∨ w.heap.size ≤ k_)) u9000_ r2 ∧ Below w0.heap.size w0 w' ∧ Kept w w' (fun k_ => P0_ k_) := by
 have hl : l0 = [] ∧ a1 = r1 ∧ [] = r2 := by
  cases l0 with
  | nil => unfold laws_markMailS.f at h; injection h with h; injection h with h1 h2; exact ⟨rfl, h1, h2⟩
  | cons x t => cases h
 obtain ⟨rfl, rfl, rfl⟩ := hl
 obtain ⟨A0, c0, rfl⟩ := Kd.S_slice ho0
 have HO := Aside0.mk ho0
 have HB := Aside0.mk hB
 clear ho0 hB h
 go_enter Try.func42, Try.ntmps42
 go_wp2
 go_loopg [1, 5] 0 (fun kq v1 v5 w' => v1 = .int .i64 a1 ∧ v5 = .int .i64 0 ∧ w' = w)
 case atStart => exact ⟨rfl, rfl, rfl⟩
 case round =>
  obtain ⟨rfl, rfl, rfl⟩ := hrel
  go_wp2
  go_ret
  exact ⟨rfl, Kd.S_mono HO.out (fun _ hk => .inl hk), HB.out, Kept.refl _ _⟩

-- NOT PRINTED: function 17 (laws_markNodeResult)

end Go.Proofs.Ytgfoifkkffffgaa.PFnExactLeadNode
