-- Laid by a turned copy of the printer (wip/tools/patch_print.py)
import Derived.Test.YtgfoifkkffffgaaPFnExactCrashNodex0
import Derived.Test.YtgfoifkkffffgaaPFnExactCrashNodex9
import Derived.Test.YtgfoifkkffffgaaPFnExactCrashNodex11
namespace Go.Proofs.Ytgfoifkkffffgaa.PFnExactCrashNode
open Go.RowKit Go.Proofs.YtgfoifkkffffgaaW.PrintWords Go.Proofs.YtgfoifkkffffgaaW.PrintLast Go.Proofs.YtgfoifkkffffgaaW.PrintMore
attribute [local go_sem] max2_int min2_int max_two min_two max_three min_three max_four min_four   -- for this text's walks alone
set_option linter.unusedVariables false
set_option linter.unusedSimpArgs false

/-! ### impl_CrashNode: function 28 -/
def impl_CrashNode.j0 : Nat → Int → Int → Bool → Int → Bool → Int → Int → List (S51) → Int → Int → Int → Int → Option (Int × Int × Bool × Int × Int × (List (S51)) × Int × Int × Int × Int × (List (S53)))
 | 0, _, _, _, _, _, _, _, _, _, _, _, _ => none
 | k + 1, x1, x5, x21, x352000, x352001, x352002, x352003, x352004, x352005, x352006, x352007, x352008 => if x21 = true then (some (3, 0, false, 0, 0, ([] : List (S51)), 0, 0, 0, 0, ([] : List (S53)))) else (if x5 = 0 then (if 0 ≤ (wrap64 (x352005 + x1)) then (if (wrap64 (x352005 + x1)) ≤ (x352004.length : Int) then ((impl_copiedEntries.f (x352004.take ((wrap64 (x352005 + x1)) : Int).toNat)).bind fun t360 => (some (0, x352000, false, 0, x352003, t360, wrap64 (x352005 + x1), 0, 0, 0, ([] : List (S53))))) else (none)) else (none)) else (some (x5, 0, false, 0, 0, ([] : List (S51)), 0, 0, 0, 0, ([] : List (S53)))))
def impl_CrashNode.f (k : Nat) (a0_0 : Int) (a0_1 : Bool) (a0_2 : Int) (a0_3 : Int) (l0_4 : List (S51)) (a0_5 : Int) (a0_6 : Int) (a0_7 : Int) (a0_8 : Int) (a1 : Int) : Option (Int × Int × Bool × Int × Int × (List (S51)) × Int × Int × Int × Int × (List (S53))) := (impl_upFault.f k a0_0 a0_1 a0_2 a0_3 l0_4 a0_5 a0_6 a0_7 a0_8).bind fun t353 => (if t353 = 0 then ((impl_Entry_37.f l0_4).bind fun t354 => ((impl_in.f a1 0 (wrap64 (t354 - a0_5))).bind fun t355 => (impl_CrashNode.j0 k a1 t353 (!t355) a0_0 a0_1 a0_2 a0_3 l0_4 a0_5 a0_6 a0_7 a0_8))) else (impl_CrashNode.j0 k a1 t353 false a0_0 a0_1 a0_2 a0_3 l0_4 a0_5 a0_6 a0_7 a0_8))
theorem impl_CrashNode.mono_l : ∀ k, (∀ y0 y1 y2 y3 y4 y5 y6 y7 y8 y9 y10 y11, LeO (impl_CrashNode.j0 k y0 y1 y2 y3 y4 y5 y6 y7 y8 y9 y10 y11) (impl_CrashNode.j0 (k + 1) y0 y1 y2 y3 y4 y5 y6 y7 y8 y9 y10 y11))
 | 0 => fun _ _ _ _ _ _ _ _ _ _ _ _ r h => by simp [impl_CrashNode.j0] at h
 | k + 1 => by
  have ih0 := impl_CrashNode.mono_l k
  ·
   intro y0 y1 y2 y3 y4 y5 y6 y7 y8 y9 y10 y11
   unfold impl_CrashNode.j0
   repeat' first
   | (with_reducible exact ih0 _ _ _ _ _ _ _ _ _ _ _ _)
   | (with_reducible exact impl_upFault.mono _ _ _ _ _ _ _ _ _ _)
   | (with_reducible exact LeO.refl _)
   | (with_reducible exact LeO.none _)
   | (with_reducible refine LeO.ite ?_ ?_)
   | (with_reducible refine LeO.bind ?_ (fun _ => ?_))
   | exact ih0 _ _ _ _ _ _ _ _ _ _ _ _
   | exact impl_upFault.mono _ _ _ _ _ _ _ _ _ _
   | exact LeO.none _
   | refine LeO.ite ?_ ?_
   | refine LeO.bind ?_ (fun _ => ?_)
theorem impl_CrashNode.mono : ∀ a0 a1 a2 a3 a4 a5 a6 a7 a8 a9 k, LeO (impl_CrashNode.f k a0 a1 a2 a3 a4 a5 a6 a7 a8 a9) (impl_CrashNode.f (k + 1) a0 a1 a2 a3 a4 a5 a6 a7 a8 a9) := by
 intro a0 a1 a2 a3 a4 a5 a6 a7 a8 a9 k
 have ih0 := impl_CrashNode.mono_l k
 unfold impl_CrashNode.f
 repeat' first
   | (with_reducible exact ih0 _ _ _ _ _ _ _ _ _ _ _ _)
   | (with_reducible exact impl_upFault.mono _ _ _ _ _ _ _ _ _ _)
   | (with_reducible exact LeO.refl _)
   | (with_reducible exact LeO.none _)
   | (with_reducible refine LeO.ite ?_ ?_)
   | (with_reducible refine LeO.bind ?_ (fun _ => ?_))
   | exact ih0 _ _ _ _ _ _ _ _ _ _ _ _
   | exact impl_upFault.mono _ _ _ _ _ _ _ _ _ _
   | exact LeO.none _
   | refine LeO.ite ?_ ?_
   | refine LeO.bind ?_ (fun _ => ?_)
def impl_CrashNode.T2 : Bool × List (List Nat × List Nat) := (true, [([], []), ([0], [0]), ([1], [1]), ([2], [2]), ([2], [2]), ([4, 2], [2, 4]), ([5, 2, 2], [2, 5]), ([2], [2]), ([7, 2], [2, 7]), ([6, 8, 2], [2, 6, 8]), ([3, 9, 6, 2], [2, 3, 9]), ([10, 2], [2, 10]), ([2, 11], [2, 11])])
def impl_CrashNode.B2 : List Nat := [0, 1, 3, 7, 7, 23, 55, 7, 135, 503, 1023, 2047, 4095]
theorem impl_CrashNode.tab2 : rtab .any (opsOf Try.f28 2) = impl_CrashNode.T2 := by kernel_rfl
theorem impl_CrashNode.bits2 : waitsOk impl_CrashNode.T2.2 impl_CrashNode.B2 = true := by kernel_rfl
def impl_CrashNode.T7 : Bool × List (List Nat × List Nat) := (true, [([], []), ([0], [0]), ([], []), ([2], [2]), ([], []), ([4], [4]), ([], []), ([5, 6], [5, 6]), ([7], [7]), ([], []), ([1, 3, 8, 9], [1, 3, 8, 9]), ([10], [10]), ([11, 8, 0, 1, 2, 3, 4, 5, 6, 7, 8, 9, 10, 11], [11])])
def impl_CrashNode.B7 : List Nat := [0, 1, 0, 4, 0, 16, 0, 112, 240, 0, 1023, 2047, 4095]
theorem impl_CrashNode.tab7 : rtab .any (opsOf Try.f28 7) = impl_CrashNode.T7 := by kernel_rfl
theorem impl_CrashNode.bits7 : waitsOk impl_CrashNode.T7.2 impl_CrashNode.B7 = true := by kernel_rfl
set_option maxHeartbeats 8000000 in
set_option maxRecDepth 100000 in
theorem impl_CrashNode.calls (k : Nat) (a0_0 : Int) (a0_1 : Bool) (a0_2 : Int) (a0_3 : Int) (A0_4 : Option Addr) (c0_4 : Nat) (l0_4 : List (S51)) (a0_5 : Int) (a0_6 : Int) (a0_7 : Int) (a0_8 : Int) (a1 : Int) (r1 : Int) (r2 : Int) (r3 : Bool) (r4 : Int) (r5 : Int) (r6 : List (S51)) (r7 : Int) (r8 : Int) (r9 : Int) (r10 : Int) (r11 : List (S53)) (w : World) (hr0_4 : Kd.C k51 w A0_4 l0_4.length l0_4) (hc0_4 : l0_4.length ≤ c0_4) (h : impl_CrashNode.f k a0_0 a0_1 a0_2 a0_3 l0_4 a0_5 a0_6 a0_7 a0_8 a1 = some (r1, r2, r3, r4, r5, r6, r7, r8, r9, r10, r11)) :
  Calls Try.prog 28 #[.agg #[.int .i64 a0_0, .bool a0_1, .int .i64 a0_2, .int .i64 a0_3, .slice A0_4 l0_4.length c0_4, .int .i64 a0_5, .int .i64 a0_6, .int .i64 a0_7, .int .i64 a0_8], .int .i64 a1] w fun e w' => ∃ v5_ v10_ : Value, e = .returned (.agg #[.int .i64 r1, .int .i64 r2, .bool r3, .int .i64 r4, .int .i64 r5, v5_, .int .i64 r7, .int .i64 r8, .int .i64 r9, .int .i64 r10, v10_]) ∧ Kd.S k51 51 w' w.heap.size (fun _ => True) v5_ r6 ∧ Kd.S k53 53 w' w.heap.size (fun _ => True) v10_ r11 ∧ Below w.heap.size w w' := by
 have hu29 := Try.underlying29
 have hu35 := Try.underlying35
 have HR0_4 := Aside0.mk hr0_4
 have HC0_4 := Aside0.mk hc0_4
 clear hr0_4 hc0_4
 have HB := Aside0.mk (Below.refl w.heap.size w)
 have H : ((impl_upFault.f k a0_0 a0_1 a0_2 a0_3 l0_4 a0_5 a0_6 a0_7 a0_8).bind fun t353 => (if t353 = 0 then ((impl_Entry_37.f l0_4).bind fun t354 => ((impl_in.f a1 0 (wrap64 (t354 - a0_5))).bind fun t355 => (impl_CrashNode.j0 k a1 t353 (!t355) a0_0 a0_1 a0_2 a0_3 l0_4 a0_5 a0_6 a0_7 a0_8))) else (impl_CrashNode.j0 k a1 t353 false a0_0 a0_1 a0_2 a0_3 l0_4 a0_5 a0_6 a0_7 a0_8))) = some (r1, r2, r3, r4, r5, r6, r7, r8, r9, r10, r11) := h
 clear h
 replace H := Option.bind_eq_some_iff.mp H
 obtain ⟨t353, A30, H⟩ := H
 replace H : (if t353 = 0 then ((impl_Entry_37.f l0_4).bind fun t354 => ((impl_in.f a1 0 (wrap64 (t354 - a0_5))).bind fun t355 => (impl_CrashNode.j0 k a1 t353 (!t355) a0_0 a0_1 a0_2 a0_3 l0_4 a0_5 a0_6 a0_7 a0_8))) else (impl_CrashNode.j0 k a1 t353 false a0_0 a0_1 a0_2 a0_3 l0_4 a0_5 a0_6 a0_7 a0_8)) = some (r1, r2, r3, r4, r5, r6, r7, r8, r9, r10, r11) := H
 have A3 := Aside0.mk A30
 clear A30
 have HC4 := Aside0.mk H
 clear H
 go_enter Try.func28, Try.ntmps28
 go_upto_region 2 with (first | ((with_reducible refine gate_dst (N := 2) rfl ?_); refine boxE #[.int .i64 a0_0, .bool a0_1, .int .i64 a0_2, .int .i64 a0_3, .slice A0_4 l0_4.length c0_4, .int .i64 a0_5, .int .i64 a0_6, .int .i64 a0_7, .int .i64 a0_8] 29 (N := 2) rfl rfl ?_; intro gb351 hg w5 hbox hb; have BK351 := Aside0.mk hbox; have GW351 := gZ HB hg; have GE351 := gZ HB hg; replace HB := bS HB hb; clear hb hbox hg) | ((with_reducible refine gate_dst (N := 4) rfl ?_); refine boxE #[.int .i64 0, .int .i64 0, .bool false, .int .i64 0, .int .i64 0, .slice none 0 0, .int .i64 0, .int .i64 0, .int .i64 0, .int .i64 0, .slice none 0 0] 35 (N := 4) rfl rfl ?_; intro gb352 hg w6 hbox hb; have BK352 := Aside0.mk hbox; have GW352 := gZ HB hg; have GE352 := gZ HB hg; replace HB := bS HB hb; have NB351_352 := nL BK351 hg; have NB352_351 := nG BK351 hg; replace BK351 := bK BK351 hb; clear hb hbox hg; have hnb7 := NB351_352.out; have hnc7 := NB352_351.out; have hz8 := cl9 BK351) | ((with_reducible refine gate_callee (f := 55) rfl ?_); refine goA (some 8) rfl rfl Try.func55 rfl #[.agg #[.int .i64 a0_0, .bool a0_1, .int .i64 a0_2, .int .i64 a0_3, .slice A0_4 l0_4.length c0_4, .int .i64 a0_5, .int .i64 a0_6, .int .i64 a0_7, .int .i64 a0_8]] rfl ?_; (with_reducible refine (impl_upFault.calls k a0_0 a0_1 a0_2 a0_3 _ _ l0_4 a0_5 a0_6 a0_7 a0_8 t353 _ ?side1 ?side2 A3.out).mono ?_); (case side1 => exact mC HR0_4 HB); (case side2 => exact HC0_4.out); rintro e w9 ⟨rfl, hb⟩; refine ⟨_, rfl, ?_⟩; replace BK351 := bK BK351 hb; replace BK352 := bK BK352 hb; replace HB := bS HB hb; (try clear hb); (try clear hb2); (try clear hk); (try clear hi)))
 (try simp only [Act.put, List.setIfInBounds_toArray, List.set_cons_zero, List.set_cons_succ])
 go_cut [21] (fun v21 wc => ∃ (kq : Nat) (x21_3 : Bool), v21 = .bool x21_3 ∧ Aside0 (impl_CrashNode.j0 kq a1 t353 x21_3 a0_0 a0_1 a0_2 a0_3 l0_4 a0_5 a0_6 a0_7 a0_8 = some (r1, r2, r3, r4, r5, r6, r7, r8, r9, r10, r11)) ∧ Aside0 (kq ≤ k) ∧ Aside0 (wc.heap[gb351]? = some (.cells #[.int .i64 a0_0, .bool a0_1, .int .i64 a0_2, .int .i64 a0_3, (.slice A0_4 l0_4.length c0_4), .int .i64 a0_5, .int .i64 a0_6, .int .i64 a0_7, .int .i64 a0_8] 29 (0, 0))) ∧ Aside0 (wc.heap[gb352]? = some (.cells #[.int .i64 0, .int .i64 0, .bool false, .int .i64 0, .int .i64 0, (.slice none 0 0), .int .i64 0, .int .i64 0, .int .i64 0, .int .i64 0, (.slice none 0 0)] 35 (0, 0))) ∧ Aside0 (Below w.heap.size w wc))
 case first =>
  have H := HC4.out
  clear HC4
  by_cases c10 : t353 = 0
  ·
   rw [if_pos c10] at H
   have c10b0 : (t353 == 0) = true := beq_iff_eq.mpr c10
   have c10b1 : (t353 != 0) = false := bne_eq_false_iff_eq.mpr c10
   clear c10
   (first | rw [c10b0] | (simp only [i64_w, i32_w]; rw [c10b0]) | skip)
   replace H := Option.bind_eq_some_iff.mp H
   obtain ⟨t354, A110, H⟩ := H
   replace H : ((impl_in.f a1 0 (wrap64 (t354 - a0_5))).bind fun t355 => (impl_CrashNode.j0 k a1 t353 (!t355) a0_0 a0_1 a0_2 a0_3 l0_4 a0_5 a0_6 a0_7 a0_8)) = some (r1, r2, r3, r4, r5, r6, r7, r8, r9, r10, r11) := H
   have A11 := Aside0.mk A110
   clear A110
   replace H := Option.bind_eq_some_iff.mp H
   obtain ⟨t355, A120, H⟩ := H
   replace H : (impl_CrashNode.j0 k a1 t353 (!t355) a0_0 a0_1 a0_2 a0_3 l0_4 a0_5 a0_6 a0_7 a0_8) = some (r1, r2, r3, r4, r5, r6, r7, r8, r9, r10, r11) := H
   have A12 := Aside0.mk A120
   clear A120
   have H' := Aside0.mk H
   clear H
   try go_wp2
   have n0_ := Aside0.mk (blk_drew BK351.out)
   have n1_ := Aside0.mk (blk_drew BK352.out)
   have n2_ := Aside0.mk (below_drew1 HB.out)
   clear BK351
   clear BK352
   clear HB
   have BK351 := n0_
   have BK352 := n1_
   have HB := n2_
   clear n0_ n1_ n2_
   refine start_ (n := 13) (S := fun w' => w'.cell? ⟨gb351, 0, none⟩ = some (.int .i64 a0_0) ∧ w'.cell? ⟨gb351, 1, none⟩ = some (.bool a0_1) ∧ w'.cell? ⟨gb351, 2, none⟩ = some (.int .i64 a0_2) ∧ w'.cell? ⟨gb351, 3, none⟩ = some (.int .i64 a0_3) ∧ w'.cell? ⟨gb351, 4, none⟩ = some (.slice A0_4 l0_4.length c0_4) ∧ w'.cell? ⟨gb351, 5, none⟩ = some (.int .i64 a0_5) ∧ w'.cell? ⟨gb351, 6, none⟩ = some (.int .i64 a0_6) ∧ w'.cell? ⟨gb351, 7, none⟩ = some (.int .i64 a0_7) ∧ w'.cell? ⟨gb351, 8, none⟩ = some (.int .i64 a0_8)) (ds := []) #[false, false, false, false, false, false, false, false, false, false, false, false, false] (by kernel_rfl) rfl rfl ⟨(blk_cell BK351.out 0).trans rfl, (blk_cell BK351.out 1).trans rfl, (blk_cell BK351.out 2).trans rfl, (blk_cell BK351.out 3).trans rfl, (blk_cell BK351.out 4).trans rfl, (blk_cell BK351.out 5).trans rfl, (blk_cell BK351.out 6).trans rfl, (blk_cell BK351.out 7).trans rfl, (blk_cell BK351.out 8).trans rfl⟩ (fun hHeld => ?_); refine with_tabW impl_CrashNode.tab2 impl_CrashNode.bits2 (fun HT_ HW_ => ?_)
   generalize w9.drew = w13 at BK351 BK352 HB hHeld ⊢
   refine pure_ (i := 0) (N := some 9) (v := ?_) (a' := ?_) #[true, false, false, false, false, false, false, false, false, false, false, false, false] rfl rfl (any_of HT_.out (by kernel_rfl)) (fun _ _ _ h => h) (Or.inl ⟨by rfl, ?_⟩) ?_ ?_
   rotate_left
   ·
    intro w'
    go_simp
    with_reducible rfl
   rotate_left
   ·
    simp only [Act.put, List.setIfInBounds_toArray, List.set_cons_zero, List.set_cons_succ, i64_w, i32_w]
    rfl
   refine pure_ (i := 1) (N := some 10) (v := ?_) (a' := ?_) #[true, true, false, false, false, false, false, false, false, false, false, false, false] rfl rfl (any_of HT_.out (by kernel_rfl)) (fun _ _ _ h => h) (Or.inl ⟨by rfl, ?_⟩) ?_ ?_
   rotate_left
   ·
    intro w'
    go_simp
    with_reducible rfl
   rotate_left
   ·
    simp only [Act.put, List.setIfInBounds_toArray, List.set_cons_zero, List.set_cons_succ, i64_w, i32_w]
    rfl
   refine pure_ (i := 2) (N := some 11) (v := ?_) (a' := ?_) #[true, true, true, false, false, false, false, false, false, false, false, false, false] rfl rfl (any_of HT_.out (by kernel_rfl)) (fun _ _ _ h => h) (Or.inl ⟨by rfl, ?_⟩) ?_ ?_
   rotate_left
   ·
    intro w'
    go_simp
    with_reducible rfl
   rotate_left
   ·
    simp only [Act.put, List.setIfInBounds_toArray, List.set_cons_zero, List.set_cons_succ, i64_w, i32_w]
    rfl
   refine pure_ (i := 3) (N := some 12) (v := ?_) (a' := ?_) #[true, true, true, true, false, false, false, false, false, false, false, false, false] rfl rfl (any_of HT_.out (by kernel_rfl)) (fun _ _ _ h => h) (Or.inl ⟨by rfl, ?_⟩) ?_ ?_
   rotate_left
   ·
    intro w'
    go_simp
    with_reducible rfl
   rotate_left
   ·
    simp only [Act.put, List.setIfInBounds_toArray, List.set_cons_zero, List.set_cons_succ, i64_w, i32_w]
    rfl
   refine pure_ (i := 4) (N := some 13) (v := ?_) (a' := ?_) #[true, true, true, true, true, false, false, false, false, false, false, false, false] rfl rfl (any_of HT_.out (by kernel_rfl)) (fun _ _ _ h => h) (Or.inl ⟨by rfl, ?_⟩) ?_ ?_
   rotate_left
   ·
    intro w'
    go_simp
    with_reducible rfl
   rotate_left
   ·
    simp only [Act.put, List.setIfInBounds_toArray, List.set_cons_zero, List.set_cons_succ, i64_w, i32_w]
    rfl
   refine pure_ (i := 7) (N := some 16) (v := ?_) (a' := ?_) #[true, true, true, true, true, false, false, true, false, false, false, false, false] rfl rfl (any_of HT_.out (by kernel_rfl)) (fun _ _ _ h => h) (Or.inl ⟨by rfl, ?_⟩) ?_ ?_
   rotate_left
   ·
    intro w'
    go_simp
    with_reducible rfl
   rotate_left
   ·
    simp only [Act.put, List.setIfInBounds_toArray, List.set_cons_zero, List.set_cons_succ, i64_w, i32_w]
    rfl
   refine take_ (i := 5) (N := some 14) (v := ?_) (a' := ?_) #[true, true, true, true, true, true, false, true, false, false, false, false, false] rfl rfl (take_ofW HT_.out HW_.out (by kernel_rfl)) (fun _ _ _ h => h) (Or.inl ⟨by rfl, ?_⟩) hHeld ?_ ?_
   rotate_left
   ·
    rintro w' ⟨s0, s1, s2, s3, s4, s5, s6, s7, s8⟩
    go_simp
    with_reducible rfl
   rotate_left
   ·
    simp only [Act.put, List.setIfInBounds_toArray, List.set_cons_zero, List.set_cons_succ, i64_w, i32_w]
    rfl
   refine take_ (i := 8) (N := some 17) (v := ?_) (a' := ?_) #[true, true, true, true, true, true, false, true, true, false, false, false, false] rfl rfl (take_ofW HT_.out HW_.out (by kernel_rfl)) (fun _ _ _ h => h) (Or.inl ⟨by rfl, ?_⟩) hHeld ?_ ?_
   rotate_left
   ·
    rintro w' ⟨s0, s1, s2, s3, s4, s5, s6, s7, s8⟩
    go_simp
    with_reducible rfl
   rotate_left
   ·
    simp only [Act.put, List.setIfInBounds_toArray, List.set_cons_zero, List.set_cons_succ, i64_w, i32_w]
    rfl
   refine one_ (i := 6) (N := some 15) #[true, true, true, true, true, true, true, true, true, false, false, false, false] rfl rfl (one_of HT_.out (by kernel_rfl)) (by decide) (fun K hK => ?_)
   refine goes_ Try.func37 (by kernel_rfl) rfl #[.slice A0_4 l0_4.length c0_4] (by rfl) rfl rfl (by (try simp only [List.map_toArray, List.map_cons, List.map_nil]); first | done | rfl | (simp only [List.length_drop, List.length_take]; rfl)) ?_
   with_reducible refine (impl_Entry_37.calls _ _ l0_4 t354 _ ?side1 ?side2 A11.out).mono ?_
   (case side1 => exact mC HR0_4 HB)
   (case side2 => exact HC0_4.out)
   rintro e w' ⟨rfl, ⟨nd, rfl⟩⟩
   refine ⟨_, rfl, ?_⟩
   refine hK.out _ _ (ce9 BK351) (fun hHeld => ?_)
   clear hK K
   refine norm_ (a' := ?_) ?_ ?_
   rotate_left
   ·
    show Act.put _ (some 15) _ = _
    simp only [Act.put, List.setIfInBounds_toArray, List.set_cons_zero, List.set_cons_succ, i64_w, i32_w]
    rfl
   refine pure_ (i := 9) (N := some 18) (v := ?_) (a' := ?_) #[true, true, true, true, true, true, true, true, true, true, false, false, false] rfl rfl (any_of HT_.out (by kernel_rfl)) (fun _ _ _ h => h) (Or.inl ⟨by rfl, ?_⟩) ?_ ?_
   rotate_left
   ·
    intro w'
    go_simp
    with_reducible rfl
   rotate_left
   ·
    simp only [Act.put, List.setIfInBounds_toArray, List.set_cons_zero, List.set_cons_succ, i64_w, i32_w]
    rfl
   refine one_ (i := 10) (N := some 19) #[true, true, true, true, true, true, true, true, true, true, true, false, false] rfl rfl (one_of HT_.out (by kernel_rfl)) (by decide) (fun K hK => ?_)
   refine goes_ Try.func35 (by kernel_rfl) rfl #[.int .i64 a1, .int .i64 0, .int .i64 (wrap64 (t354 - a0_5))] (by rfl) rfl rfl (by (try simp only [List.map_toArray, List.map_cons, List.map_nil]); first | done | rfl | (simp only [List.length_drop, List.length_take]; rfl)) ?_
   with_reducible refine (impl_in.calls a1 0 (wrap64 (t354 - a0_5)) t355 _ A12.out).mono ?_
   rintro e w' ⟨rfl, ⟨nd, rfl⟩⟩
   refine ⟨_, rfl, ?_⟩
   refine hK.out _ _ (ce9 BK351) (fun hHeld => ?_)
   clear hK K
   refine norm_ (a' := ?_) ?_ ?_
   rotate_left
   ·
    show Act.put _ (some 19) _ = _
    simp only [Act.put, List.setIfInBounds_toArray, List.set_cons_zero, List.set_cons_succ, i64_w, i32_w]
    rfl
   refine pure_ (i := 11) (N := some 20) (v := ?_) (a' := ?_) #[true, true, true, true, true, true, true, true, true, true, true, true, false] rfl rfl (any_of HT_.out (by kernel_rfl)) (fun _ _ _ h => h) (Or.inl ⟨by rfl, ?_⟩) ?_ ?_
   rotate_left
   ·
    intro w'
    go_simp
    with_reducible rfl
   rotate_left
   ·
    simp only [Act.put, List.setIfInBounds_toArray, List.set_cons_zero, List.set_cons_succ, i64_w, i32_w]
    rfl
   refine pure_ (i := 12) (N := some 21) (v := ?_) (a' := ?_) #[true, true, true, true, true, true, true, true, true, true, true, true, true] rfl rfl (any_of HT_.out (by kernel_rfl)) (fun _ _ _ h => h) (Or.inl ⟨by rfl, ?_⟩) ?_ ?_
   rotate_left
   ·
    intro w'
    go_simp
    with_reducible rfl
   rotate_left
   ·
    simp only [Act.put, List.setIfInBounds_toArray, List.set_cons_zero, List.set_cons_succ, i64_w, i32_w]
    rfl
   refine done_ (done_of HT_.out (by kernel_rfl)) ?_
   try go_wp2
   first | go_meet | (refine Met.intro ?_; go_step; (repeat apply Exists.intro); refine ⟨?rel, ?eqq⟩; (case eqq => (try simp only [c10b0]); rfl))
   case rel => exact ⟨_, (!t355), (by first | rfl | (simp; done) | (simp [*]; done)), H', ⟨by first | omega | exact Nat.le_refl _⟩, ⟨by (with_reducible repeat (first | refine blk_drewN ?_ _ | refine blk_drew ?_ | refine blk_alloc ?_ _)); exact BK351.out⟩, ⟨by (with_reducible repeat (first | refine blk_drewN ?_ _ | refine blk_drew ?_ | refine blk_alloc ?_ _)); exact BK352.out⟩, ⟨bel HB⟩⟩
  ·
   rw [if_neg c10] at H
   have c10b0 : (t353 == 0) = false := beq_eq_false_iff_ne.mpr c10
   have c10b1 : (t353 != 0) = true := bne_iff_ne.mpr c10
   (first | rw [c10b0] | (simp only [i64_w, i32_w]; rw [c10b0]) | skip)
   have H' := Aside0.mk H
   clear H
   try go_wp2
   have n0_ := Aside0.mk (blk_drew BK351.out)
   have n1_ := Aside0.mk (blk_drew BK352.out)
   have n2_ := Aside0.mk (below_drew1 HB.out)
   clear BK351
   clear BK352
   clear HB
   have BK351 := n0_
   have BK352 := n1_
   have HB := n2_
   clear n0_ n1_ n2_
   refine start_ (n := 13) (S := fun w' => True) (ds := []) #[false, false, false, false, false, false, false, false, false, false, false, false, false] (by kernel_rfl) rfl rfl trivial (fun hHeld => ?_); refine with_tabW impl_CrashNode.tab2 impl_CrashNode.bits2 (fun HT_ HW_ => ?_)
   generalize w9.drew = w14 at BK351 BK352 HB hHeld ⊢
   refine pure_ (i := 0) (N := some 9) (v := ?_) (a' := ?_) #[true, false, false, false, false, false, false, false, false, false, false, false, false] rfl rfl (any_of HT_.out (by kernel_rfl)) (fun _ _ _ h => h) (Or.inl ⟨by rfl, ?_⟩) ?_ ?_
   rotate_left
   ·
    intro w'
    go_simp
    with_reducible rfl
   rotate_left
   ·
    simp only [Act.put, List.setIfInBounds_toArray, List.set_cons_zero, List.set_cons_succ, i64_w, i32_w]
    rfl
   refine pure_ (i := 1) (N := some 10) (v := ?_) (a' := ?_) #[true, true, false, false, false, false, false, false, false, false, false, false, false] rfl rfl (any_of HT_.out (by kernel_rfl)) (fun _ _ _ h => h) (Or.inl ⟨by rfl, ?_⟩) ?_ ?_
   rotate_left
   ·
    intro w'
    go_simp
    with_reducible rfl
   rotate_left
   ·
    simp only [Act.put, List.setIfInBounds_toArray, List.set_cons_zero, List.set_cons_succ, i64_w, i32_w]
    rfl
   refine pure_ (i := 2) (N := some 11) (v := ?_) (a' := ?_) #[true, true, true, false, false, false, false, false, false, false, false, false, false] rfl rfl (any_of HT_.out (by kernel_rfl)) (fun _ _ _ h => h) (Or.inl ⟨by rfl, ?_⟩) ?_ ?_
   rotate_left
   ·
    intro w'
    go_simp
    with_reducible rfl
   rotate_left
   ·
    simp only [Act.put, List.setIfInBounds_toArray, List.set_cons_zero, List.set_cons_succ, i64_w, i32_w]
    rfl
   refine pure_ (i := 3) (N := some 12) (v := undef) (a' := ?_) #[true, true, true, true, false, false, false, false, false, false, false, false, false] rfl rfl (any_of HT_.out (by kernel_rfl)) (fun _ _ _ h => h) (Or.inr ⟨by rfl, rfl⟩) ?_ ?_
   rotate_left
   ·
    simp only [Act.put, List.setIfInBounds_toArray, List.set_cons_zero, List.set_cons_succ, i64_w, i32_w]
    rfl
   refine pure_ (i := 4) (N := some 13) (v := undef) (a' := ?_) #[true, true, true, true, true, false, false, false, false, false, false, false, false] rfl rfl (any_of HT_.out (by kernel_rfl)) (fun _ _ _ h => h) (Or.inr ⟨by rfl, rfl⟩) ?_ ?_
   rotate_left
   ·
    simp only [Act.put, List.setIfInBounds_toArray, List.set_cons_zero, List.set_cons_succ, i64_w, i32_w]
    rfl
   refine pure_ (i := 5) (N := some 14) (v := undef) (a' := ?_) #[true, true, true, true, true, true, false, false, false, false, false, false, false] rfl rfl (any_of HT_.out (by kernel_rfl)) (fun _ _ _ h => h) (Or.inr ⟨by rfl, rfl⟩) ?_ ?_
   rotate_left
   ·
    simp only [Act.put, List.setIfInBounds_toArray, List.set_cons_zero, List.set_cons_succ, i64_w, i32_w]
    rfl
   refine pure_ (i := 6) (N := some 15) (v := undef) (a' := ?_) #[true, true, true, true, true, true, true, false, false, false, false, false, false] rfl rfl (any_of HT_.out (by kernel_rfl)) (fun _ _ _ h => h) (Or.inr ⟨by rfl, rfl⟩) ?_ ?_
   rotate_left
   ·
    simp only [Act.put, List.setIfInBounds_toArray, List.set_cons_zero, List.set_cons_succ, i64_w, i32_w]
    rfl
   refine pure_ (i := 7) (N := some 16) (v := undef) (a' := ?_) #[true, true, true, true, true, true, true, true, false, false, false, false, false] rfl rfl (any_of HT_.out (by kernel_rfl)) (fun _ _ _ h => h) (Or.inr ⟨by rfl, rfl⟩) ?_ ?_
   rotate_left
   ·
    simp only [Act.put, List.setIfInBounds_toArray, List.set_cons_zero, List.set_cons_succ, i64_w, i32_w]
    rfl
   refine pure_ (i := 8) (N := some 17) (v := undef) (a' := ?_) #[true, true, true, true, true, true, true, true, true, false, false, false, false] rfl rfl (any_of HT_.out (by kernel_rfl)) (fun _ _ _ h => h) (Or.inr ⟨by rfl, rfl⟩) ?_ ?_
   rotate_left
   ·
    simp only [Act.put, List.setIfInBounds_toArray, List.set_cons_zero, List.set_cons_succ, i64_w, i32_w]
    rfl
   refine pure_ (i := 9) (N := some 18) (v := undef) (a' := ?_) #[true, true, true, true, true, true, true, true, true, true, false, false, false] rfl rfl (any_of HT_.out (by kernel_rfl)) (fun _ _ _ h => h) (Or.inr ⟨by rfl, rfl⟩) ?_ ?_
   rotate_left
   ·
    simp only [Act.put, List.setIfInBounds_toArray, List.set_cons_zero, List.set_cons_succ, i64_w, i32_w]
    rfl
   refine pure_ (i := 10) (N := some 19) (v := undef) (a' := ?_) #[true, true, true, true, true, true, true, true, true, true, true, false, false] rfl rfl (any_of HT_.out (by kernel_rfl)) (fun _ _ _ h => h) (Or.inr ⟨by rfl, rfl⟩) ?_ ?_
   rotate_left
   ·
    simp only [Act.put, List.setIfInBounds_toArray, List.set_cons_zero, List.set_cons_succ, i64_w, i32_w]
    rfl
   refine pure_ (i := 11) (N := some 20) (v := undef) (a' := ?_) #[true, true, true, true, true, true, true, true, true, true, true, true, false] rfl rfl (any_of HT_.out (by kernel_rfl)) (fun _ _ _ h => h) (Or.inr ⟨by rfl, rfl⟩) ?_ ?_
   rotate_left
   ·
    simp only [Act.put, List.setIfInBounds_toArray, List.set_cons_zero, List.set_cons_succ, i64_w, i32_w]
    rfl
   refine pure_ (i := 12) (N := some 21) (v := ?_) (a' := ?_) #[true, true, true, true, true, true, true, true, true, true, true, true, true] rfl rfl (any_of HT_.out (by kernel_rfl)) (fun _ _ _ h => h) (Or.inl ⟨by rfl, ?_⟩) ?_ ?_
   rotate_left
   ·
    intro w'
    go_simp
    with_reducible rfl
   rotate_left
   ·
    simp only [Act.put, List.setIfInBounds_toArray, List.set_cons_zero, List.set_cons_succ, i64_w, i32_w]
    rfl
   refine done_ (done_of HT_.out (by kernel_rfl)) ?_
   try go_wp2
   first | go_meet | (refine Met.intro ?_; go_step; (repeat apply Exists.intro); refine ⟨?rel, ?eqq⟩; (case eqq => (try simp only [c10b0]); rfl))
   case rel => exact ⟨_, (false), (by first | rfl | (simp; done) | (simp [*]; done)), H', ⟨by first | omega | exact Nat.le_refl _⟩, ⟨by (with_reducible repeat (first | refine blk_drewN ?_ _ | refine blk_drew ?_ | refine blk_alloc ?_ _)); exact BK351.out⟩, ⟨by (with_reducible repeat (first | refine blk_drewN ?_ _ | refine blk_drew ?_ | refine blk_alloc ?_ _)); exact BK352.out⟩, ⟨bel HB⟩⟩
 case rest =>
  clear HC4
  try clear c1
  try clear c2
  try clear p2
  try clear c3
  try clear c5
  try clear p6
  try clear c7
  try clear c10
  try clear c10b0
  try clear c10b1
  try clear hz8
  obtain ⟨kq, x21_3, rfl, HA, HJ3, BK351, BK352, HB⟩ := hcut
  cases kq with
  | zero => exact absurd HA.out (by simp [impl_CrashNode.j0])
  | succ kj3 =>
   have H := HA.out
   clear HA
   simp only [impl_CrashNode.j0] at H
   by_cases c15 : x21_3 = true
   ·
    subst c15
    have H1 : (some (3, 0, false, 0, 0, ([] : List (S51)), 0, 0, 0, 0, ([] : List (S53)))) = some (r1, r2, r3, r4, r5, r6, r7, r8, r9, r10, r11) := by rw [if_pos rfl] at H; first | done | exact H
    clear H
    have H := H1
    clear H1
    simp only [Option.some.injEq, Prod.mk.injEq] at H
    obtain ⟨rfl, rfl, rfl, rfl, rfl, rfl, rfl, rfl, rfl, rfl, rfl⟩ := H
    have hnb16 := NB352_351.out
    have hnc16 := NB351_352.out
    have hz17 := cl11 BK352
    go_wp2
    refine bodyPost_ret (results_cell_row rfl _ _ gb352 35 #[.int .i64 3, .int .i64 0, .bool false, .int .i64 0, .int .i64 0, .slice none 0 0, .int .i64 0, .int .i64 0, .int .i64 0, .int .i64 0, .slice none 0 0] (0, 0) _ rfl (mP BK352) Try.underlying35 rfl (by kernel_rfl)) rfl ?_
    exact ⟨_, _, by first | rfl | (simp [errW_none, errW_some] <;> rfl) | (simp [*, errW_none, errW_some] <;> rfl), by first | exact Kd.S_nil _ _ _ _ _ | exact Kd.N_nil _ _ _ _ _ | exact Kd.V_nil _ _ _ _ _ | exact Kd.Q_nil _ _ _ _ _ | exact Kd.R_nil _ _ _ _ _, by first | exact Kd.S_nil _ _ _ _ _ | exact Kd.N_nil _ _ _ _ _ | exact Kd.V_nil _ _ _ _ _ | exact Kd.Q_nil _ _ _ _ _ | exact Kd.R_nil _ _ _ _ _, bel HB⟩
   ·
    replace c15 := Bool.eq_false_iff.mpr c15
    subst c15
    have H1 : (if t353 = 0 then (if 0 ≤ (wrap64 (a0_5 + a1)) then (if (wrap64 (a0_5 + a1)) ≤ (l0_4.length : Int) then ((impl_copiedEntries.f (l0_4.take ((wrap64 (a0_5 + a1)) : Int).toNat)).bind fun t360 => (some (0, a0_0, false, 0, a0_3, t360, wrap64 (a0_5 + a1), 0, 0, 0, ([] : List (S53))))) else (none)) else (none)) else (some (t353, 0, false, 0, 0, ([] : List (S51)), 0, 0, 0, 0, ([] : List (S53))))) = some (r1, r2, r3, r4, r5, r6, r7, r8, r9, r10, r11) := by rw [if_neg (show ¬ (false = true) by decide)] at H; first | done | exact H
    clear H
    have H := H1
    clear H1
    by_cases c18 : t353 = 0
    ·
     rw [if_pos c18] at H
     have c18b0 : (t353 == 0) = true := beq_iff_eq.mpr c18
     have c18b1 : (t353 != 0) = false := bne_eq_false_iff_eq.mpr c18
     clear c18
     obtain ⟨ji19, hji19⟩ : ∃ j_ : Int, (wrap64 (a0_5 + a1)) = j_ := ⟨_, rfl⟩
     replace H : (if 0 ≤ (ji19) then (if (ji19) ≤ (l0_4.length : Int) then ((impl_copiedEntries.f (l0_4.take ((ji19) : Int).toNat)).bind fun t360 => (some (0, a0_0, false, 0, a0_3, t360, ji19, 0, 0, 0, ([] : List (S53))))) else (none)) else (none)) = some (r1, r2, r3, r4, r5, r6, r7, r8, r9, r10, r11) := by first | (rw [hji19] at H; exact H) | (simp only [hji19] at H ⊢; exact H)
     have hji19w : (IntKind.i64.wrap (a0_5 + a1)) = ji19 := (i64_w _).trans hji19
     by_cases c20 : 0 ≤ (ji19)
     ·
      rw [if_pos c20] at H
      have c20b0 := eq_true c20
      have c20b1 : decide (0 ≤ (ji19)) = true := decide_eq_true c20
      clear c20
      by_cases c21 : (ji19) ≤ (l0_4.length : Int)
      ·
       rw [if_pos c21] at H
       have c21b0 := eq_true c21
       have c21b1 : decide ((ji19) ≤ (l0_4.length : Int)) = true := decide_eq_true c21
       clear c21
       obtain ⟨y356, hy356⟩ : ∃ y_ : List (S51), y_ = (l0_4.take ((ji19) : Int).toNat) := ⟨_, rfl⟩
       replace H : ((impl_copiedEntries.f y356).bind fun t360 => (some (0, a0_0, false, 0, a0_3, t360, ji19, 0, 0, 0, ([] : List (S53))))) = some (r1, r2, r3, r4, r5, r6, r7, r8, r9, r10, r11) := by first | (rw [hy356]; with_reducible exact H) | (have H2_ := (Option.bind_some _ _).symm.trans H; rw [hy356]; with_reducible exact H2_) | (have H2_ := (Option.bind_some _ _).symm.trans H; with_reducible exact H2_) | with_reducible exact H | (rw [hy356]; exact H) | exact H
       have Ny356 := Aside0.mk hy356
       clear hy356
       replace H := Option.bind_eq_some_iff.mp H
       obtain ⟨t360, A220, H⟩ := H
       replace H : (some (0, a0_0, false, 0, a0_3, t360, ji19, 0, 0, 0, ([] : List (S53)))) = some (r1, r2, r3, r4, r5, r6, r7, r8, r9, r10, r11) := H
       have A22 := Aside0.mk A220
       clear A220
       simp only [Option.some.injEq, Prod.mk.injEq] at H
       obtain ⟨rfl, rfl, rfl, rfl, rfl, rfl, rfl, rfl, rfl, rfl, rfl⟩ := H
       have hnb23 := NB351_352.out
       have hnc23 := NB352_351.out
       have hz24 := cl9 BK351
       try go_wp2
       have n0_ := Aside0.mk (blk_drew BK351.out)
       have n1_ := Aside0.mk (blk_drew BK352.out)
       have n2_ := Aside0.mk (below_drew1 HB.out)
       clear BK351
       clear BK352
       clear HB
       have BK351 := n0_
       have BK352 := n1_
       have HB := n2_
       clear n0_ n1_ n2_
       have q26 : ((ji19) : Int) ≤ ((l0_4.length : Int) : Int) := of_decide_eq_true (by first | (with_reducible assumption) | assumption)
       obtain ⟨i026, hi026, _, hsz26, _⟩ := info_parts info51
       have hroom26 : l0_4.length ≤ c0_4 := HC0_4.out
       have hC26 : Kd.C k51 _ A0_4 l0_4.length l0_4 := HR0_4.out
       have hcut26 := cut_to (P := Try.prog) 27 51 .i64 Try.underlying27 hi026 A0_4 l0_4.length c0_4 (ji19) (of_decide_eq_true (by first | (with_reducible assumption) | assumption)) q26 hroom26
       have hr26 := Kd.C_take (m := ((ji19) : Int).toNat) hC26 (by omega)
       have hy26 : y356.length = ((ji19) : Int).toNat := (by rw [Ny356.out, List.length_take]; omega)
       rw [← Ny356.out] at hr26
       rw [← hy26] at hcut26
       have HR359 := Aside0.mk hr26
       have HC359 := Aside0.mk (show y356.length ≤ c0_4 from by omega)
       clear hr26 hC26 hroom26 hi026 hsz26
       have KY26 := Aside0.mk hy26
       clear hy26
       replace q26 := eq_true q26
       refine start_ (n := 13) (S := fun w' => w'.cell? ⟨gb351, 0, none⟩ = some (.int .i64 a0_0) ∧ w'.cell? ⟨gb351, 1, none⟩ = some (.bool a0_1) ∧ w'.cell? ⟨gb351, 2, none⟩ = some (.int .i64 a0_2) ∧ w'.cell? ⟨gb351, 3, none⟩ = some (.int .i64 a0_3) ∧ w'.cell? ⟨gb351, 4, none⟩ = some (.slice A0_4 l0_4.length c0_4) ∧ w'.cell? ⟨gb351, 5, none⟩ = some (.int .i64 a0_5) ∧ w'.cell? ⟨gb351, 6, none⟩ = some (.int .i64 a0_6) ∧ w'.cell? ⟨gb351, 7, none⟩ = some (.int .i64 a0_7) ∧ w'.cell? ⟨gb351, 8, none⟩ = some (.int .i64 a0_8)) (ds := []) #[false, false, false, false, false, false, false, false, false, false, false, false, false] (by kernel_rfl) rfl rfl ⟨(blk_cell BK351.out 0).trans rfl, (blk_cell BK351.out 1).trans rfl, (blk_cell BK351.out 2).trans rfl, (blk_cell BK351.out 3).trans rfl, (blk_cell BK351.out 4).trans rfl, (blk_cell BK351.out 5).trans rfl, (blk_cell BK351.out 6).trans rfl, (blk_cell BK351.out 7).trans rfl, (blk_cell BK351.out 8).trans rfl⟩ (fun hHeld => ?_); refine with_tabW impl_CrashNode.tab7 impl_CrashNode.bits7 (fun HT_ HW_ => ?_)
       generalize wc.drew = w25 at BK351 BK352 HB HR359 hHeld ⊢
       refine pure_ (i := 0) (N := some 30) (v := ?_) (a' := ?_) #[true, false, false, false, false, false, false, false, false, false, false, false, false] rfl rfl (any_of HT_.out (by kernel_rfl)) (fun _ _ _ h => h) (Or.inl ⟨by rfl, ?_⟩) ?_ ?_
       rotate_left
       ·
        intro w'
        go_simp
        with_reducible rfl
       rotate_left
       ·
        simp only [Act.put, List.setIfInBounds_toArray, List.set_cons_zero, List.set_cons_succ, i64_w, i32_w]
        rfl
       refine pure_ (i := 2) (N := some 32) (v := ?_) (a' := ?_) #[true, false, true, false, false, false, false, false, false, false, false, false, false] rfl rfl (any_of HT_.out (by kernel_rfl)) (fun _ _ _ h => h) (Or.inl ⟨by rfl, ?_⟩) ?_ ?_
       rotate_left
       ·
        intro w'
        go_simp
        with_reducible rfl
       rotate_left
       ·
        simp only [Act.put, List.setIfInBounds_toArray, List.set_cons_zero, List.set_cons_succ, i64_w, i32_w]
        rfl
       refine pure_ (i := 4) (N := some 34) (v := ?_) (a' := ?_) #[true, false, true, false, true, false, false, false, false, false, false, false, false] rfl rfl (any_of HT_.out (by kernel_rfl)) (fun _ _ _ h => h) (Or.inl ⟨by rfl, ?_⟩) ?_ ?_
       rotate_left
       ·
        intro w'
        go_simp
        with_reducible rfl
       rotate_left
       ·
        simp only [Act.put, List.setIfInBounds_toArray, List.set_cons_zero, List.set_cons_succ, i64_w, i32_w]
        rfl
       refine pure_ (i := 6) (N := some 36) (v := ?_) (a' := ?_) #[true, false, true, false, true, false, true, false, false, false, false, false, false] rfl rfl (any_of HT_.out (by kernel_rfl)) (fun _ _ _ h => h) (Or.inl ⟨by rfl, ?_⟩) ?_ ?_
       rotate_left
       ·
        intro w'
        go_simp
        with_reducible rfl
       rotate_left
       ·
        simp only [Act.put, List.setIfInBounds_toArray, List.set_cons_zero, List.set_cons_succ, i64_w, i32_w]
        rfl
       refine pure_ (i := 9) (N := some 39) (v := ?_) (a' := ?_) #[true, false, true, false, true, false, true, false, false, true, false, false, false] rfl rfl (any_of HT_.out (by kernel_rfl)) (fun _ _ _ h => h) (Or.inl ⟨by rfl, ?_⟩) ?_ ?_
       rotate_left
       ·
        intro w'
        go_simp
        with_reducible rfl
       rotate_left
       ·
        simp only [Act.put, List.setIfInBounds_toArray, List.set_cons_zero, List.set_cons_succ, i64_w, i32_w]
        rfl
       refine take_ (i := 1) (N := some 31) (v := ?_) (a' := ?_) #[true, true, true, false, true, false, true, false, false, true, false, false, false] rfl rfl (take_ofW HT_.out HW_.out (by kernel_rfl)) (fun _ _ _ h => h) (Or.inl ⟨by rfl, ?_⟩) hHeld ?_ ?_
       rotate_left
       ·
        rintro w' ⟨s0, s1, s2, s3, s4, s5, s6, s7, s8⟩
        go_simp
        with_reducible rfl
       rotate_left
       ·
        simp only [Act.put, List.setIfInBounds_toArray, List.set_cons_zero, List.set_cons_succ, i64_w, i32_w]
        rfl
       refine take_ (i := 3) (N := some 33) (v := ?_) (a' := ?_) #[true, true, true, true, true, false, true, false, false, true, false, false, false] rfl rfl (take_ofW HT_.out HW_.out (by kernel_rfl)) (fun _ _ _ h => h) (Or.inl ⟨by rfl, ?_⟩) hHeld ?_ ?_
       rotate_left
       ·
        rintro w' ⟨s0, s1, s2, s3, s4, s5, s6, s7, s8⟩
        go_simp
        with_reducible rfl
       rotate_left
       ·
        simp only [Act.put, List.setIfInBounds_toArray, List.set_cons_zero, List.set_cons_succ, i64_w, i32_w]
        rfl
       refine take_ (i := 5) (N := some 35) (v := ?_) (a' := ?_) #[true, true, true, true, true, true, true, false, false, true, false, false, false] rfl rfl (take_ofW HT_.out HW_.out (by kernel_rfl)) (fun _ _ _ h => h) (Or.inl ⟨by rfl, ?_⟩) hHeld ?_ ?_
       rotate_left
       ·
        rintro w' ⟨s0, s1, s2, s3, s4, s5, s6, s7, s8⟩
        go_simp
        with_reducible rfl
       rotate_left
       ·
        simp only [Act.put, List.setIfInBounds_toArray, List.set_cons_zero, List.set_cons_succ, i64_w, i32_w]
        rfl
       refine pure_ (i := 7) (N := some 37) (v := ?_) (a' := ?_) #[true, true, true, true, true, true, true, true, false, true, false, false, false] rfl rfl (any_of HT_.out (by kernel_rfl)) (fun _ _ _ h => h) (Or.inl ⟨by rfl, ?_⟩) ?_ ?_
       rotate_left
       ·
        intro w'
        go_simp
        with_reducible rfl
       rotate_left
       ·
        simp only [Act.put, List.setIfInBounds_toArray, List.set_cons_zero, List.set_cons_succ, i64_w, i32_w]
        rfl
       refine one_ (i := 8) (N := some 38) #[true, true, true, true, true, true, true, true, true, true, false, false, false] rfl rfl (one_of HT_.out (by kernel_rfl)) (by decide) (fun K hK => ?_)
       refine goes_ Try.func56 (by kernel_rfl) rfl #[.slice A0_4 y356.length c0_4] (by rfl) rfl rfl (by (try simp only [List.map_toArray, List.map_cons, List.map_nil]); first | done | rfl | (simp only [List.length_drop, List.length_take]; rfl)) ?_
       with_reducible refine (impl_copiedEntries.calls _ _ y356 t360 _ ?side1 ?side2 A22.out).mono ?_
       (case side1 => exact mC HR359 HB)
       (case side2 => exact HC359.out)
       rintro e w27 ⟨v361, rfl, ho0, hb⟩
       refine ⟨_, rfl, ?_⟩
       have n0_ := Aside0.mk (Kd.S_lower ho0 (below_size (bel HB)))
       have n1_ := bK BK351 hb
       have n2_ := bK BK352 hb
       have n3_ := bS HB hb
       clear BK351
       clear BK352
       clear HB
       have HO362 := n0_
       have BK351 := n1_
       have BK352 := n2_
       have HB := n3_
       clear n0_ n1_ n2_ n3_
       (try clear hb)
       (try clear hb2)
       (try clear hk)
       (try clear hi)
       (try clear ho0)
       obtain ⟨Ao28, co28, eo28⟩ := Kd.S_slice HO362.out
       (first | subst eo28 | (injection eo28 with f1_ f2_ f3_; have f4_ := f1_.symm; have f5_ := f3_.symm; clear f1_ f2_ f3_; subst f4_; subst f5_))
       refine hK.out _ _ (ce9 BK351) (fun hHeld => ?_)
       clear hK K
       refine norm_ (a' := ?_) ?_ ?_
       rotate_left
       ·
        show Act.put _ (some 38) _ = _
        simp only [Act.put, List.setIfInBounds_toArray, List.set_cons_zero, List.set_cons_succ, i64_w, i32_w]
        rfl
       refine pure_ (i := 10) (N := some 40) (v := ?_) (a' := ?_) #[true, true, true, true, true, true, true, true, true, true, true, false, false] rfl rfl (any_of HT_.out (by kernel_rfl)) (fun _ _ _ h => h) (Or.inl ⟨by rfl, ?_⟩) ?_ ?_
       rotate_left
       ·
        intro w'
        go_simp
        with_reducible rfl
       rotate_left
       ·
        simp only [Act.put, List.setIfInBounds_toArray, List.set_cons_zero, List.set_cons_succ, i64_w, i32_w]
        rfl
       refine pure_ (i := 11) (N := some 41) (v := ?_) (a' := ?_) #[true, true, true, true, true, true, true, true, true, true, true, true, false] rfl rfl (any_of HT_.out (by kernel_rfl)) (fun _ _ _ h => h) (Or.inl ⟨by rfl, ?_⟩) ?_ ?_
       rotate_left
       ·
        intro w'
        go_simp
        with_reducible rfl
       rotate_left
       ·
        simp only [Act.put, List.setIfInBounds_toArray, List.set_cons_zero, List.set_cons_succ, i64_w, i32_w]
        rfl
       refine one_ (i := 12) (N := none) #[true, true, true, true, true, true, true, true, true, true, true, true, true] rfl rfl (one_of HT_.out (by kernel_rfl)) (by decide) (fun K hK => ?_)
       have hs29 : w27.cell? ⟨gb352, 0, none⟩ = some (.int .i64 0) := (blk_cell BK352.out 0).trans rfl
       have hfs29 := blk_frozen BK352.out 0
       have hns29_0 := NB351_352.out
       have hms29_0 := NB352_351.out
       have hs30 : w27.cell? ⟨gb352, 1, none⟩ = some (.int .i64 0) := (blk_cell BK352.out 1).trans rfl
       have hfs30 := blk_frozen BK352.out 1
       have hns30_0 := NB351_352.out
       have hms30_0 := NB352_351.out
       have hs31 : w27.cell? ⟨gb352, 2, none⟩ = some (.bool false) := (blk_cell BK352.out 2).trans rfl
       have hfs31 := blk_frozen BK352.out 2
       have hns31_0 := NB351_352.out
       have hms31_0 := NB352_351.out
       have hs32 : w27.cell? ⟨gb352, 3, none⟩ = some (.int .i64 0) := (blk_cell BK352.out 3).trans rfl
       have hfs32 := blk_frozen BK352.out 3
       have hns32_0 := NB351_352.out
       have hms32_0 := NB352_351.out
       have hs33 : w27.cell? ⟨gb352, 4, none⟩ = some (.int .i64 0) := (blk_cell BK352.out 4).trans rfl
       have hfs33 := blk_frozen BK352.out 4
       have hns33_0 := NB351_352.out
       have hms33_0 := NB352_351.out
       have hs34 : w27.cell? ⟨gb352, 5, none⟩ = some (.slice none 0 0) := (blk_cell BK352.out 5).trans rfl
       have hfs34 := blk_frozen BK352.out 5
       have hns34_0 := NB351_352.out
       have hms34_0 := NB352_351.out
       have hs35 : w27.cell? ⟨gb352, 6, none⟩ = some (.int .i64 0) := (blk_cell BK352.out 6).trans rfl
       have hfs35 := blk_frozen BK352.out 6
       have hns35_0 := NB351_352.out
       have hms35_0 := NB352_351.out
       have hs36 : w27.cell? ⟨gb352, 7, none⟩ = some (.int .i64 0) := (blk_cell BK352.out 7).trans rfl
       have hfs36 := blk_frozen BK352.out 7
       have hns36_0 := NB351_352.out
       have hms36_0 := NB352_351.out
       have hs37 : w27.cell? ⟨gb352, 8, none⟩ = some (.int .i64 0) := (blk_cell BK352.out 8).trans rfl
       have hfs37 := blk_frozen BK352.out 8
       have hns37_0 := NB351_352.out
       have hms37_0 := NB352_351.out
       have hs38 : w27.cell? ⟨gb352, 9, none⟩ = some (.int .i64 0) := (blk_cell BK352.out 9).trans rfl
       have hfs38 := blk_frozen BK352.out 9
       have hns38_0 := NB351_352.out
       have hms38_0 := NB352_351.out
       have hs39 : w27.cell? ⟨gb352, 10, none⟩ = some (.slice none 0 0) := (blk_cell BK352.out 10).trans rfl
       have hfs39 := blk_frozen BK352.out 10
       have hns39_0 := NB351_352.out
       have hms39_0 := NB352_351.out
       refine skip_ (w1 := ?_) (by rfl) rfl ?_ ?_
       rotate_left
       ·
        go_simp
        rfl
       refine hK.out _ _ ⟨((cell_far (p := ⟨gb352, _, none⟩) NB351_352.out _).trans (((cell_far (p := ⟨gb352, _, none⟩) NB351_352.out _).trans (((cell_far (p := ⟨gb352, _, none⟩) NB351_352.out _).trans (((cell_far (p := ⟨gb352, _, none⟩) NB351_352.out _).trans (((cell_far (p := ⟨gb352, _, none⟩) NB351_352.out _).trans (((cell_far (p := ⟨gb352, _, none⟩) NB351_352.out _).trans (((cell_far (p := ⟨gb352, _, none⟩) NB351_352.out _).trans (((cell_far (p := ⟨gb352, _, none⟩) NB351_352.out _).trans (((cell_far (p := ⟨gb352, _, none⟩) NB351_352.out _).trans (((cell_far (p := ⟨gb352, _, none⟩) NB351_352.out _).trans (((cell_far (p := ⟨gb352, _, none⟩) NB351_352.out _).trans (hHeld.1)))))))))))))))))))))), ((cell_far (p := ⟨gb352, _, none⟩) NB351_352.out _).trans (((cell_far (p := ⟨gb352, _, none⟩) NB351_352.out _).trans (((cell_far (p := ⟨gb352, _, none⟩) NB351_352.out _).trans (((cell_far (p := ⟨gb352, _, none⟩) NB351_352.out _).trans (((cell_far (p := ⟨gb352, _, none⟩) NB351_352.out _).trans (((cell_far (p := ⟨gb352, _, none⟩) NB351_352.out _).trans (((cell_far (p := ⟨gb352, _, none⟩) NB351_352.out _).trans (((cell_far (p := ⟨gb352, _, none⟩) NB351_352.out _).trans (((cell_far (p := ⟨gb352, _, none⟩) NB351_352.out _).trans (((cell_far (p := ⟨gb352, _, none⟩) NB351_352.out _).trans (((cell_far (p := ⟨gb352, _, none⟩) NB351_352.out _).trans (hHeld.2.1)))))))))))))))))))))), ((cell_far (p := ⟨gb352, _, none⟩) NB351_352.out _).trans (((cell_far (p := ⟨gb352, _, none⟩) NB351_352.out _).trans (((cell_far (p := ⟨gb352, _, none⟩) NB351_352.out _).trans (((cell_far (p := ⟨gb352, _, none⟩) NB351_352.out _).trans (((cell_far (p := ⟨gb352, _, none⟩) NB351_352.out _).trans (((cell_far (p := ⟨gb352, _, none⟩) NB351_352.out _).trans (((cell_far (p := ⟨gb352, _, none⟩) NB351_352.out _).trans (((cell_far (p := ⟨gb352, _, none⟩) NB351_352.out _).trans (((cell_far (p := ⟨gb352, _, none⟩) NB351_352.out _).trans (((cell_far (p := ⟨gb352, _, none⟩) NB351_352.out _).trans (((cell_far (p := ⟨gb352, _, none⟩) NB351_352.out _).trans (hHeld.2.2.1)))))))))))))))))))))), ((cell_far (p := ⟨gb352, _, none⟩) NB351_352.out _).trans (((cell_far (p := ⟨gb352, _, none⟩) NB351_352.out _).trans (((cell_far (p := ⟨gb352, _, none⟩) NB351_352.out _).trans (((cell_far (p := ⟨gb352, _, none⟩) NB351_352.out _).trans (((cell_far (p := ⟨gb352, _, none⟩) NB351_352.out _).trans (((cell_far (p := ⟨gb352, _, none⟩) NB351_352.out _).trans (((cell_far (p := ⟨gb352, _, none⟩) NB351_352.out _).trans (((cell_far (p := ⟨gb352, _, none⟩) NB351_352.out _).trans (((cell_far (p := ⟨gb352, _, none⟩) NB351_352.out _).trans (((cell_far (p := ⟨gb352, _, none⟩) NB351_352.out _).trans (((cell_far (p := ⟨gb352, _, none⟩) NB351_352.out _).trans (hHeld.2.2.2.1)))))))))))))))))))))), ((cell_far (p := ⟨gb352, _, none⟩) NB351_352.out _).trans (((cell_far (p := ⟨gb352, _, none⟩) NB351_352.out _).trans (((cell_far (p := ⟨gb352, _, none⟩) NB351_352.out _).trans (((cell_far (p := ⟨gb352, _, none⟩) NB351_352.out _).trans (((cell_far (p := ⟨gb352, _, none⟩) NB351_352.out _).trans (((cell_far (p := ⟨gb352, _, none⟩) NB351_352.out _).trans (((cell_far (p := ⟨gb352, _, none⟩) NB351_352.out _).trans (((cell_far (p := ⟨gb352, _, none⟩) NB351_352.out _).trans (((cell_far (p := ⟨gb352, _, none⟩) NB351_352.out _).trans (((cell_far (p := ⟨gb352, _, none⟩) NB351_352.out _).trans (((cell_far (p := ⟨gb352, _, none⟩) NB351_352.out _).trans (hHeld.2.2.2.2.1)))))))))))))))))))))), ((cell_far (p := ⟨gb352, _, none⟩) NB351_352.out _).trans (((cell_far (p := ⟨gb352, _, none⟩) NB351_352.out _).trans (((cell_far (p := ⟨gb352, _, none⟩) NB351_352.out _).trans (((cell_far (p := ⟨gb352, _, none⟩) NB351_352.out _).trans (((cell_far (p := ⟨gb352, _, none⟩) NB351_352.out _).trans (((cell_far (p := ⟨gb352, _, none⟩) NB351_352.out _).trans (((cell_far (p := ⟨gb352, _, none⟩) NB351_352.out _).trans (((cell_far (p := ⟨gb352, _, none⟩) NB351_352.out _).trans (((cell_far (p := ⟨gb352, _, none⟩) NB351_352.out _).trans (((cell_far (p := ⟨gb352, _, none⟩) NB351_352.out _).trans (((cell_far (p := ⟨gb352, _, none⟩) NB351_352.out _).trans (hHeld.2.2.2.2.2.1)))))))))))))))))))))), ((cell_far (p := ⟨gb352, _, none⟩) NB351_352.out _).trans (((cell_far (p := ⟨gb352, _, none⟩) NB351_352.out _).trans (((cell_far (p := ⟨gb352, _, none⟩) NB351_352.out _).trans (((cell_far (p := ⟨gb352, _, none⟩) NB351_352.out _).trans (((cell_far (p := ⟨gb352, _, none⟩) NB351_352.out _).trans (((cell_far (p := ⟨gb352, _, none⟩) NB351_352.out _).trans (((cell_far (p := ⟨gb352, _, none⟩) NB351_352.out _).trans (((cell_far (p := ⟨gb352, _, none⟩) NB351_352.out _).trans (((cell_far (p := ⟨gb352, _, none⟩) NB351_352.out _).trans (((cell_far (p := ⟨gb352, _, none⟩) NB351_352.out _).trans (((cell_far (p := ⟨gb352, _, none⟩) NB351_352.out _).trans (hHeld.2.2.2.2.2.2.1)))))))))))))))))))))), ((cell_far (p := ⟨gb352, _, none⟩) NB351_352.out _).trans (((cell_far (p := ⟨gb352, _, none⟩) NB351_352.out _).trans (((cell_far (p := ⟨gb352, _, none⟩) NB351_352.out _).trans (((cell_far (p := ⟨gb352, _, none⟩) NB351_352.out _).trans (((cell_far (p := ⟨gb352, _, none⟩) NB351_352.out _).trans (((cell_far (p := ⟨gb352, _, none⟩) NB351_352.out _).trans (((cell_far (p := ⟨gb352, _, none⟩) NB351_352.out _).trans (((cell_far (p := ⟨gb352, _, none⟩) NB351_352.out _).trans (((cell_far (p := ⟨gb352, _, none⟩) NB351_352.out _).trans (((cell_far (p := ⟨gb352, _, none⟩) NB351_352.out _).trans (((cell_far (p := ⟨gb352, _, none⟩) NB351_352.out _).trans (hHeld.2.2.2.2.2.2.2.1)))))))))))))))))))))), ((cell_far (p := ⟨gb352, _, none⟩) NB351_352.out _).trans (((cell_far (p := ⟨gb352, _, none⟩) NB351_352.out _).trans (((cell_far (p := ⟨gb352, _, none⟩) NB351_352.out _).trans (((cell_far (p := ⟨gb352, _, none⟩) NB351_352.out _).trans (((cell_far (p := ⟨gb352, _, none⟩) NB351_352.out _).trans (((cell_far (p := ⟨gb352, _, none⟩) NB351_352.out _).trans (((cell_far (p := ⟨gb352, _, none⟩) NB351_352.out _).trans (((cell_far (p := ⟨gb352, _, none⟩) NB351_352.out _).trans (((cell_far (p := ⟨gb352, _, none⟩) NB351_352.out _).trans (((cell_far (p := ⟨gb352, _, none⟩) NB351_352.out _).trans (((cell_far (p := ⟨gb352, _, none⟩) NB351_352.out _).trans (hHeld.2.2.2.2.2.2.2.2))))))))))))))))))))))⟩ (fun hHeld => ?_)
       clear hK K
       refine done_ (done_of HT_.out (by kernel_rfl)) ?_
       try go_wp2
       refine bodyPost_ret (results_cell_row rfl _ _ gb352 35 #[.int .i64 0, .int .i64 a0_0, .bool false, .int .i64 0, .int .i64 a0_3, .slice Ao28 t360.length co28, .int .i64 ji19, .int .i64 0, .int .i64 0, .int .i64 0, .slice none 0 0] (0, 0) _ rfl (mP BK352) Try.underlying35 rfl (by kernel_rfl)) rfl ?_
       exact ⟨_, _, by first | rfl | (simp [errW_none, errW_some] <;> rfl) | (simp only [← hji19]; first | rfl | (simp [errW_none, errW_some] <;> rfl)) | (simp [*, errW_none, errW_some] <;> rfl), by (with_reducible repeat (first | apply Kd.S_alloc | apply Kd.S_drewN | apply Kd.S_drew)); exact Kd.S_mono (Kd.S_far (p := ⟨gb352, 10, none⟩) (Kd.S_far (p := ⟨gb352, 9, none⟩) (Kd.S_far (p := ⟨gb352, 8, none⟩) (Kd.S_far (p := ⟨gb352, 7, none⟩) (Kd.S_far (p := ⟨gb352, 6, none⟩) (Kd.S_far (p := ⟨gb352, 5, none⟩) (Kd.S_far (p := ⟨gb352, 4, none⟩) (Kd.S_far (p := ⟨gb352, 3, none⟩) (Kd.S_far (p := ⟨gb352, 2, none⟩) (Kd.S_far (p := ⟨gb352, 1, none⟩) (Kd.S_far (p := ⟨gb352, 0, none⟩) (Kd.S_types HO362.out BK352.out (by decide)) (fun _ hk => hk.2) (.int .i64 0)) (fun _ hk => hk.2) (.int .i64 a0_0)) (fun _ hk => hk.2) (.bool false)) (fun _ hk => hk.2) (.int .i64 0)) (fun _ hk => hk.2) (.int .i64 a0_3)) (fun _ hk => hk.2) (.slice Ao28 t360.length co28)) (fun _ hk => hk.2) (.int .i64 ji19)) (fun _ hk => hk.2) (.int .i64 0)) (fun _ hk => hk.2) (.int .i64 0)) (fun _ hk => hk.2) (.int .i64 0)) (fun _ hk => hk.2) (.slice none 0 0)) (fun _ hk => trivial), by first | exact Kd.S_nil _ _ _ _ _ | exact Kd.N_nil _ _ _ _ _ | exact Kd.V_nil _ _ _ _ _ | exact Kd.Q_nil _ _ _ _ _ | exact Kd.R_nil _ _ _ _ _, bel HB⟩
      ·
       rw [if_neg c21] at H
       exact absurd H (by simp)
     ·
      rw [if_neg c20] at H
      exact absurd H (by simp)
    ·
     rw [if_neg c18] at H
     have c18b0 : (t353 == 0) = false := beq_eq_false_iff_ne.mpr c18
     have c18b1 : (t353 != 0) = true := bne_iff_ne.mpr c18
     simp only [Option.some.injEq, Prod.mk.injEq] at H
     obtain ⟨rfl, rfl, rfl, rfl, rfl, rfl, rfl, rfl, rfl, rfl, rfl⟩ := H
     have hnb40 := NB352_351.out
     have hnc40 := NB351_352.out
     have hz41 := cl11 BK352
     go_wp2
     refine bodyPost_ret (results_cell_row rfl _ _ gb352 35 #[.int .i64 t353, .int .i64 0, .bool false, .int .i64 0, .int .i64 0, .slice none 0 0, .int .i64 0, .int .i64 0, .int .i64 0, .int .i64 0, .slice none 0 0] (0, 0) _ rfl (mP BK352) Try.underlying35 rfl (by kernel_rfl)) rfl ?_
     exact ⟨_, _, by first | rfl | (simp [errW_none, errW_some] <;> rfl) | (simp [*, errW_none, errW_some] <;> rfl), by first | exact Kd.S_nil _ _ _ _ _ | exact Kd.N_nil _ _ _ _ _ | exact Kd.V_nil _ _ _ _ _ | exact Kd.Q_nil _ _ _ _ _ | exact Kd.R_nil _ _ _ _ _, by first | exact Kd.S_nil _ _ _ _ _ | exact Kd.N_nil _ _ _ _ _ | exact Kd.V_nil _ _ _ _ _ | exact Kd.Q_nil _ _ _ _ _ | exact Kd.R_nil _ _ _ _ _, bel HB⟩

-- NOT PRINTED: function 7 (laws_FnExactCrashNode)

end Go.Proofs.Ytgfoifkkffffgaa.PFnExactCrashNode
