-- Laid by a turned copy of the printer (wip/tools/patch_print.py)
import Derived.Test.YtgfoifkkffffgacPFnExactPackMessagex0
import Derived.Test.YtgfoifkkffffgacPFnExactPackMessagex5
import Derived.Test.YtgfoifkkffffgacPFnExactPackMessagex6
import Derived.Test.YtgfoifkkffffgacPFnExactPackMessagex7
import Derived.Test.YtgfoifkkffffgacPFnExactPackMessagex8
namespace Go.Proofs.Ytgfoifkkffffgac.PFnExactPackMessage
open Go.RowKit Go.Proofs.YtgfoifkkffffgacW.PrintWords Go.Proofs.YtgfoifkkffffgacW.PrintLast Go.Proofs.YtgfoifkkffffgacW.PrintMore
attribute [local go_sem] max2_int min2_int max_two min_two max_three min_three max_four min_four   -- for this text's walks alone
set_option linter.unusedVariables false
set_option linter.unusedSimpArgs false

/-! ### spec_l4Pack: function 51 -/
def spec_l4Pack.f (k : Nat) (a0_0 : Int) (a0_1 : Int) (a0_2 : Int) (a0_3 : Int) (a0_4 : Int) (a0_5 : Int) (l0_6 : List (S91)) (a0_7 : Bool) (a0_8 : Int) (l0_9 : List Int) (a0_10 : Int) (a0_11 : Int) (a0_12 : Int) (l0_13 : List (S91)) : Option (List Int) := (some (([] : List Int) : List Int)).bind fun y233 => (if a0_0 = 1 then ((spec_l1Bytes.f k a0_1 2).bind fun t236 => (if y233.length + t236.length < 140737488355328 then ((some (y233 ++ t236 : List Int)).bind fun y239 => ((some (([(a0_2) % 256] : List Int) : List Int)).bind fun y242 => (if y239.length + y242.length < 140737488355328 then ((some (y239 ++ y242 : List Int)).bind fun y245 => ((spec_l1Bytes.f k a0_3 2).bind fun t248 => (if y245.length + t248.length < 140737488355328 then ((spec_l1Pack.f k a0_0 (y245 ++ t248)).bind fun t254 => (some t254)) else (none)))) else (none)))) else (none))) else (if a0_0 = 3 then ((some (([(a0_4) % 256, (a0_5) % 256] : List Int) : List Int)).bind fun y257 => (if y233.length + y257.length < 140737488355328 then ((spec_l1Pack.f k a0_0 (y233 ++ y257)).bind fun t263 => (some t263)) else (none))) else (if a0_0 = 2 then ((spec_l3Pack.f k l0_6 a0_7 a0_8 l0_9 a0_10 a0_11 a0_12 l0_13).bind fun t266 => ((spec_l1Pack.f k a0_0 t266).bind fun t269 => (some t269))) else ((spec_l1Pack.f k a0_0 y233).bind fun t272 => (some t272)))))
theorem spec_l4Pack.mono : ∀ a0 a1 a2 a3 a4 a5 a6 a7 a8 a9 a10 a11 a12 a13 k, LeO (spec_l4Pack.f k a0 a1 a2 a3 a4 a5 a6 a7 a8 a9 a10 a11 a12 a13) (spec_l4Pack.f (k + 1) a0 a1 a2 a3 a4 a5 a6 a7 a8 a9 a10 a11 a12 a13) := by
 intro a0 a1 a2 a3 a4 a5 a6 a7 a8 a9 a10 a11 a12 a13 k
 unfold spec_l4Pack.f
 repeat' first
   | (with_reducible exact spec_l1Bytes.mono _ _ _)
   | (with_reducible exact spec_l1Pack.mono _ _ _)
   | (with_reducible exact spec_l3Pack.mono _ _ _ _ _ _ _ _ _)
   | (with_reducible exact LeO.refl _)
   | (with_reducible exact LeO.none _)
   | (with_reducible refine LeO.ite ?_ ?_)
   | (with_reducible refine LeO.bind ?_ (fun _ => ?_))
   | exact spec_l1Bytes.mono _ _ _
   | exact spec_l1Pack.mono _ _ _
   | exact spec_l3Pack.mono _ _ _ _ _ _ _ _ _
   | exact LeO.none _
   | refine LeO.ite ?_ ?_
   | refine LeO.bind ?_ (fun _ => ?_)
def spec_l4Pack.T4 : Bool × List (List Nat × List Nat) := (true, [([], []), ([], []), ([1], [1]), ([2], [2]), ([0, 3, 3], [0, 3]), ([], []), ([5], [5]), ([6], [6]), ([7], [7]), ([4, 8, 4], [4, 8]), ([], []), ([10], [10]), ([11, 9], [11]), ([9, 12, 12], [9, 12]), ([13, 13, 0, 1, 2, 3, 4, 5, 6, 7, 8, 9, 10, 11, 12, 13], [0, 13])])
def spec_l4Pack.B4 : List Nat := [0, 0, 2, 6, 15, 0, 32, 96, 224, 511, 0, 1024, 4095, 8191, 16383]
theorem spec_l4Pack.tab4 : rtab .any (opsOf Try.f51 4) = spec_l4Pack.T4 := by kernel_rfl
theorem spec_l4Pack.bits4 : waitsOk spec_l4Pack.T4.2 spec_l4Pack.B4 = true := by kernel_rfl
set_option maxHeartbeats 8000000 in
set_option maxRecDepth 100000 in
theorem spec_l4Pack.calls (k : Nat) (a0_0 : Int) (a0_1 : Int) (a0_2 : Int) (a0_3 : Int) (a0_4 : Int) (a0_5 : Int) (A0_6 : Option Addr) (c0_6 : Nat) (l0_6 : List (S91)) (a0_7 : Bool) (a0_8 : Int) (A0_9 : Option Addr) (c0_9 : Nat) (l0_9 : List Int) (a0_10 : Int) (a0_11 : Int) (a0_12 : Int) (A0_13 : Option Addr) (c0_13 : Nat) (l0_13 : List (S91)) (r : List Int) (w : World) (hr0_6 : Kd.C k91 w A0_6 l0_6.length l0_6) (hc0_6 : l0_6.length ≤ c0_6) (hr0_9 : Kd.C (Kd.int .i64) w A0_9 l0_9.length l0_9) (hc0_9 : l0_9.length ≤ c0_9) (hr0_13 : Kd.C k91 w A0_13 l0_13.length l0_13) (hc0_13 : l0_13.length ≤ c0_13) (h : spec_l4Pack.f k a0_0 a0_1 a0_2 a0_3 a0_4 a0_5 l0_6 a0_7 a0_8 l0_9 a0_10 a0_11 a0_12 l0_13 = some r) :
  Calls Try.prog 51 #[.agg #[.int .i64 a0_0, .int .i64 a0_1, .int .i64 a0_2, .int .i64 a0_3, .int .i64 a0_4, .int .i64 a0_5, .slice A0_6 l0_6.length c0_6, .bool a0_7, .int .i64 a0_8, .slice A0_9 l0_9.length c0_9, .int .i64 a0_10, .int .i64 a0_11, .int .i64 a0_12, .slice A0_13 l0_13.length c0_13]] w fun e w' => ∃ v0_ : Value, e = .returned (v0_) ∧ Kd.R (Kd.int .u8) 5 w' w.heap.size (fun _ => True) v0_ r ∧ Below w.heap.size w w' := by
 have hu40 := Try.underlying40
 have hu38 := Try.underlying38
 have hu66 := Try.underlying66
 have hu36 := Try.underlying36
 have HR0_6 := Aside0.mk hr0_6
 have HC0_6 := Aside0.mk hc0_6
 clear hr0_6 hc0_6
 have HR0_9 := Aside0.mk hr0_9
 have HC0_9 := Aside0.mk hc0_9
 clear hr0_9 hc0_9
 have HR0_13 := Aside0.mk hr0_13
 have HC0_13 := Aside0.mk hc0_13
 clear hr0_13 hc0_13
 have HB := Aside0.mk (Below.refl w.heap.size w)
 have H : ((some (([] : List Int) : List Int)).bind fun y233 => (if a0_0 = 1 then ((spec_l1Bytes.f k a0_1 2).bind fun t236 => (if y233.length + t236.length < 140737488355328 then ((some (y233 ++ t236 : List Int)).bind fun y239 => ((some (([(a0_2) % 256] : List Int) : List Int)).bind fun y242 => (if y239.length + y242.length < 140737488355328 then ((some (y239 ++ y242 : List Int)).bind fun y245 => ((spec_l1Bytes.f k a0_3 2).bind fun t248 => (if y245.length + t248.length < 140737488355328 then ((spec_l1Pack.f k a0_0 (y245 ++ t248)).bind fun t254 => (some t254)) else (none)))) else (none)))) else (none))) else (if a0_0 = 3 then ((some (([(a0_4) % 256, (a0_5) % 256] : List Int) : List Int)).bind fun y257 => (if y233.length + y257.length < 140737488355328 then ((spec_l1Pack.f k a0_0 (y233 ++ y257)).bind fun t263 => (some t263)) else (none))) else (if a0_0 = 2 then ((spec_l3Pack.f k l0_6 a0_7 a0_8 l0_9 a0_10 a0_11 a0_12 l0_13).bind fun t266 => ((spec_l1Pack.f k a0_0 t266).bind fun t269 => (some t269))) else ((spec_l1Pack.f k a0_0 y233).bind fun t272 => (some t272)))))) = some r := h
 clear h
 obtain ⟨y233, hy233⟩ : ∃ y_ : List Int, y_ = (([] : List Int)) := ⟨_, rfl⟩
 replace H : (if a0_0 = 1 then ((spec_l1Bytes.f k a0_1 2).bind fun t236 => (if y233.length + t236.length < 140737488355328 then ((some (y233 ++ t236 : List Int)).bind fun y239 => ((some (([(a0_2) % 256] : List Int) : List Int)).bind fun y242 => (if y239.length + y242.length < 140737488355328 then ((some (y239 ++ y242 : List Int)).bind fun y245 => ((spec_l1Bytes.f k a0_3 2).bind fun t248 => (if y245.length + t248.length < 140737488355328 then ((spec_l1Pack.f k a0_0 (y245 ++ t248)).bind fun t254 => (some t254)) else (none)))) else (none)))) else (none))) else (if a0_0 = 3 then ((some (([(a0_4) % 256, (a0_5) % 256] : List Int) : List Int)).bind fun y257 => (if y233.length + y257.length < 140737488355328 then ((spec_l1Pack.f k a0_0 (y233 ++ y257)).bind fun t263 => (some t263)) else (none))) else (if a0_0 = 2 then ((spec_l3Pack.f k l0_6 a0_7 a0_8 l0_9 a0_10 a0_11 a0_12 l0_13).bind fun t266 => ((spec_l1Pack.f k a0_0 t266).bind fun t269 => (some t269))) else ((spec_l1Pack.f k a0_0 y233).bind fun t272 => (some t272))))) = some r := by first | (rw [hy233]; with_reducible exact H) | (have H2_ := (Option.bind_some _ _).symm.trans H; rw [hy233]; with_reducible exact H2_) | (have H2_ := (Option.bind_some _ _).symm.trans H; with_reducible exact H2_) | with_reducible exact H | (rw [hy233]; exact H) | exact H
 have Ny233 := Aside0.mk hy233
 clear hy233
 have H' := Aside0.mk H
 clear H
 go_enter Try.func51, Try.ntmps51
 repeat (first | ((with_reducible refine gate_dst (N := 1) rfl ?_); refine boxE #[.int .i64 a0_0, .int .i64 a0_1, .int .i64 a0_2, .int .i64 a0_3, .int .i64 a0_4, .int .i64 a0_5, .slice A0_6 l0_6.length c0_6, .bool a0_7, .int .i64 a0_8, .slice A0_9 l0_9.length c0_9, .int .i64 a0_10, .int .i64 a0_11, .int .i64 a0_12, .slice A0_13 l0_13.length c0_13] 40 (N := 1) rfl rfl ?_; intro gb232 hg w2 hbox hb; have BK232 := Aside0.mk hbox; have GW232 := gZ HB hg; have GE232 := gZ HB hg; replace HB := bS HB hb; clear hb hbox hg) | ((with_reducible refine gate_dst (N := 4) rfl ?_); refine Kd.R_lit (Kd.int .u8) _ 5 ?hg (N := 4) ?hd (xs := ([] : List Int)) (inner := []) (ok := fun _ => True) (okp := fun _ => True) ?hr ?hp (fun _ hk => hk) trivial (Below.refl _ _) (Nat.le_refl _) (by simp) ?_; (case hd => rfl); (case hg => rfl); (case hr => first | (go_simp; done) | (go_simp; rfl)); (case hp => exact (Reps.none _ _)); intro v234 w3 ho4 hb hg_ hnew_; clear hg_ hnew_; (first | rw [← Ny233.out] at ho4 | (simp only [Int.reduceToNat] at ho4; rw [← Ny233.out] at ho4)); have HO235 := Aside0.mk (Kd.R_lower ho4 (below_size (bel HB))); replace BK232 := bK BK232 hb; replace HB := bS HB hb; clear hb ho4; have hz5 := cl14 BK232) | go_values | go_skip | ((with_reducible refine gateG ?gw ?_); (case gw => rfl)) | refine wpList_skip (by rfl) ?_ | refine wp_cond_true rfl ?_ | refine wp_cond_false rfl ?_ | (with_reducible refine iteTr (by first | assumption | omega) ?_) | (with_reducible refine iteFl (by first | assumption | omega) ?_) | ((fail_if_success (with_reducible refine condP ?_)); (fail_if_success (with_reducible refine iteP ?_)); (fail_if_success (with_reducible refine grdP ?_)); go_step) | go_upon | (simp only [Int.not_lt, Int.not_le] at *; go_simp))
 have H := H'.out
 clear H'
 by_cases c6 : a0_0 = 1
 ·
  rw [if_pos c6] at H
  have c6b0 : (a0_0 == 1) = true := beq_iff_eq.mpr c6
  have c6b1 : (a0_0 != 1) = false := bne_eq_false_iff_eq.mpr c6
  have c6e := eq_true c6
  clear c6
  (first | rw [c6b0] | (simp only [i64_w, i32_w]; rw [c6b0]) | skip)
  (try simp only [c6b0, c6b1]); (try (with_reducible refine iteP ?_; simp only [c6e, ↓reduceIte]))
  replace H := Option.bind_eq_some_iff.mp H
  obtain ⟨t236, A70, H⟩ := H
  replace H : (if y233.length + t236.length < 140737488355328 then ((some (y233 ++ t236 : List Int)).bind fun y239 => ((some (([(a0_2) % 256] : List Int) : List Int)).bind fun y242 => (if y239.length + y242.length < 140737488355328 then ((some (y239 ++ y242 : List Int)).bind fun y245 => ((spec_l1Bytes.f k a0_3 2).bind fun t248 => (if y245.length + t248.length < 140737488355328 then ((spec_l1Pack.f k a0_0 (y245 ++ t248)).bind fun t254 => (some t254)) else (none)))) else (none)))) else (none)) = some r := H
  have A7 := Aside0.mk A70
  clear A70
  by_cases c8 : y233.length + t236.length < 140737488355328
  ·
   rw [if_pos c8] at H
   have LMc8 := Aside0.mk c8
   clear c8
   obtain ⟨y239, hy239⟩ : ∃ y_ : List Int, y_ = (y233 ++ t236) := ⟨_, rfl⟩
   replace H : ((some (([(a0_2) % 256] : List Int) : List Int)).bind fun y242 => (if y239.length + y242.length < 140737488355328 then ((some (y239 ++ y242 : List Int)).bind fun y245 => ((spec_l1Bytes.f k a0_3 2).bind fun t248 => (if y245.length + t248.length < 140737488355328 then ((spec_l1Pack.f k a0_0 (y245 ++ t248)).bind fun t254 => (some t254)) else (none)))) else (none))) = some r := by first | (rw [hy239]; with_reducible exact H) | (have H2_ := (Option.bind_some _ _).symm.trans H; rw [hy239]; with_reducible exact H2_) | (have H2_ := (Option.bind_some _ _).symm.trans H; with_reducible exact H2_) | with_reducible exact H | (rw [hy239]; exact H) | exact H
   have Ny239 := Aside0.mk hy239
   clear hy239
   obtain ⟨y242, hy242⟩ : ∃ y_ : List Int, y_ = (([(a0_2) % 256] : List Int)) := ⟨_, rfl⟩
   replace H : (if y239.length + y242.length < 140737488355328 then ((some (y239 ++ y242 : List Int)).bind fun y245 => ((spec_l1Bytes.f k a0_3 2).bind fun t248 => (if y245.length + t248.length < 140737488355328 then ((spec_l1Pack.f k a0_0 (y245 ++ t248)).bind fun t254 => (some t254)) else (none)))) else (none)) = some r := by first | (rw [hy242]; with_reducible exact H) | (have H2_ := (Option.bind_some _ _).symm.trans H; rw [hy242]; with_reducible exact H2_) | (have H2_ := (Option.bind_some _ _).symm.trans H; with_reducible exact H2_) | with_reducible exact H | (rw [hy242]; exact H) | exact H
   have Ny242 := Aside0.mk hy242
   clear hy242
   by_cases c9 : y239.length + y242.length < 140737488355328
   ·
    rw [if_pos c9] at H
    have LMc9 := Aside0.mk c9
    clear c9
    obtain ⟨y245, hy245⟩ : ∃ y_ : List Int, y_ = (y239 ++ y242) := ⟨_, rfl⟩
    replace H : ((spec_l1Bytes.f k a0_3 2).bind fun t248 => (if y245.length + t248.length < 140737488355328 then ((spec_l1Pack.f k a0_0 (y245 ++ t248)).bind fun t254 => (some t254)) else (none))) = some r := by first | (rw [hy245]; with_reducible exact H) | (have H2_ := (Option.bind_some _ _).symm.trans H; rw [hy245]; with_reducible exact H2_) | (have H2_ := (Option.bind_some _ _).symm.trans H; with_reducible exact H2_) | with_reducible exact H | (rw [hy245]; exact H) | exact H
    have Ny245 := Aside0.mk hy245
    clear hy245
    replace H := Option.bind_eq_some_iff.mp H
    obtain ⟨t248, A100, H⟩ := H
    replace H : (if y245.length + t248.length < 140737488355328 then ((spec_l1Pack.f k a0_0 (y245 ++ t248)).bind fun t254 => (some t254)) else (none)) = some r := H
    have A10 := Aside0.mk A100
    clear A100
    by_cases c11 : y245.length + t248.length < 140737488355328
    ·
     rw [if_pos c11] at H
     have LMc11 := Aside0.mk c11
     clear c11
     obtain ⟨y251, hy251⟩ : ∃ y_ : List Int, y_ = (y245 ++ t248) := ⟨_, rfl⟩
     replace H : ((spec_l1Pack.f k a0_0 y251).bind fun t254 => (some t254)) = some r := by first | (rw [hy251]; with_reducible exact H) | (have H2_ := (Option.bind_some _ _).symm.trans H; rw [hy251]; with_reducible exact H2_) | (have H2_ := (Option.bind_some _ _).symm.trans H; with_reducible exact H2_) | with_reducible exact H | (rw [hy251]; exact H) | exact H
     have Ny251 := Aside0.mk hy251
     clear hy251
     replace H := Option.bind_eq_some_iff.mp H
     obtain ⟨t254, A120, H⟩ := H
     replace H : (some t254) = some r := H
     have A12 := Aside0.mk A120
     clear A120
     obtain rfl := Option.some.inj H
     obtain ⟨Ao13, co13, eo13⟩ := Kd.R_slice HO235.out
     subst eo13
     try go_wp2
     have n0_ := Aside0.mk (Kd.R_drew HO235.out)
     have n1_ := Aside0.mk (blk_drew BK232.out)
     have n2_ := Aside0.mk (below_drew1 HB.out)
     clear HO235
     clear BK232
     clear HB
     have HO235 := n0_
     have BK232 := n1_
     have HB := n2_
     clear n0_ n1_ n2_
     refine start_ (n := 15) (S := fun w' => w'.cell? ⟨gb232, 0, none⟩ = some (.int .i64 a0_0) ∧ w'.cell? ⟨gb232, 1, none⟩ = some (.int .i64 a0_1) ∧ w'.cell? ⟨gb232, 2, none⟩ = some (.int .i64 a0_2) ∧ w'.cell? ⟨gb232, 3, none⟩ = some (.int .i64 a0_3) ∧ w'.cell? ⟨gb232, 4, none⟩ = some (.int .i64 a0_4) ∧ w'.cell? ⟨gb232, 5, none⟩ = some (.int .i64 a0_5) ∧ w'.cell? ⟨gb232, 6, none⟩ = some (.slice A0_6 l0_6.length c0_6) ∧ w'.cell? ⟨gb232, 7, none⟩ = some (.bool a0_7) ∧ w'.cell? ⟨gb232, 8, none⟩ = some (.int .i64 a0_8) ∧ w'.cell? ⟨gb232, 9, none⟩ = some (.slice A0_9 l0_9.length c0_9) ∧ w'.cell? ⟨gb232, 10, none⟩ = some (.int .i64 a0_10) ∧ w'.cell? ⟨gb232, 11, none⟩ = some (.int .i64 a0_11) ∧ w'.cell? ⟨gb232, 12, none⟩ = some (.int .i64 a0_12) ∧ w'.cell? ⟨gb232, 13, none⟩ = some (.slice A0_13 l0_13.length c0_13)) (ds := []) #[false, false, false, false, false, false, false, false, false, false, false, false, false, false, false] (by kernel_rfl) rfl rfl ⟨(blk_cell BK232.out 0).trans rfl, (blk_cell BK232.out 1).trans rfl, (blk_cell BK232.out 2).trans rfl, (blk_cell BK232.out 3).trans rfl, (blk_cell BK232.out 4).trans rfl, (blk_cell BK232.out 5).trans rfl, (blk_cell BK232.out 6).trans rfl, (blk_cell BK232.out 7).trans rfl, (blk_cell BK232.out 8).trans rfl, (blk_cell BK232.out 9).trans rfl, (blk_cell BK232.out 10).trans rfl, (blk_cell BK232.out 11).trans rfl, (blk_cell BK232.out 12).trans rfl, (blk_cell BK232.out 13).trans rfl⟩ (fun hHeld => ?_); refine with_tabW spec_l4Pack.tab4 spec_l4Pack.bits4 (fun HT_ HW_ => ?_)
     generalize w3.drew = w14 at HO235 BK232 HB hHeld ⊢
     refine pure_ (i := 0) (N := some 9) (v := ?_) (a' := ?_) #[true, false, false, false, false, false, false, false, false, false, false, false, false, false, false] rfl rfl (any_of HT_.out (by kernel_rfl)) (fun _ _ _ h => h) (Or.inl ⟨by rfl, ?_⟩) ?_ ?_
     rotate_left
     ·
      intro w'
      go_simp
      with_reducible rfl
     rotate_left
     ·
      simp only [Act.put, List.setIfInBounds_toArray, List.set_cons_zero, List.set_cons_succ, i64_w, i32_w]
      rfl
     refine pure_ (i := 1) (N := some 10) (v := ?_) (a' := ?_) #[true, true, false, false, false, false, false, false, false, false, false, false, false, false, false] rfl rfl (any_of HT_.out (by kernel_rfl)) (fun _ _ _ h => h) (Or.inl ⟨by rfl, ?_⟩) ?_ ?_
     rotate_left
     ·
      intro w'
      go_simp
      with_reducible rfl
     rotate_left
     ·
      simp only [Act.put, List.setIfInBounds_toArray, List.set_cons_zero, List.set_cons_succ, i64_w, i32_w]
      rfl
     refine pure_ (i := 5) (N := some 14) (v := ?_) (a' := ?_) #[true, true, false, false, false, true, false, false, false, false, false, false, false, false, false] rfl rfl (any_of HT_.out (by kernel_rfl)) (fun _ _ _ h => h) (Or.inl ⟨by rfl, ?_⟩) ?_ ?_
     rotate_left
     ·
      intro w'
      go_simp
      with_reducible rfl
     rotate_left
     ·
      simp only [Act.put, List.setIfInBounds_toArray, List.set_cons_zero, List.set_cons_succ, i64_w, i32_w]
      rfl
     refine pure_ (i := 10) (N := some 19) (v := ?_) (a' := ?_) #[true, true, false, false, false, true, false, false, false, false, true, false, false, false, false] rfl rfl (any_of HT_.out (by kernel_rfl)) (fun _ _ _ h => h) (Or.inl ⟨by rfl, ?_⟩) ?_ ?_
     rotate_left
     ·
      intro w'
      go_simp
      with_reducible rfl
     rotate_left
     ·
      simp only [Act.put, List.setIfInBounds_toArray, List.set_cons_zero, List.set_cons_succ, i64_w, i32_w]
      rfl
     refine take_ (i := 2) (N := some 11) (v := ?_) (a' := ?_) #[true, true, true, false, false, true, false, false, false, false, true, false, false, false, false] rfl rfl (take_ofW HT_.out HW_.out (by kernel_rfl)) (fun _ _ _ h => h) (Or.inl ⟨by rfl, ?_⟩) hHeld ?_ ?_
     rotate_left
     ·
      rintro w' ⟨s0, s1, s2, s3, s4, s5, s6, s7, s8, s9, s10, s11, s12, s13⟩
      go_simp
      with_reducible rfl
     rotate_left
     ·
      simp only [Act.put, List.setIfInBounds_toArray, List.set_cons_zero, List.set_cons_succ, i64_w, i32_w]
      rfl
     refine take_ (i := 6) (N := some 15) (v := ?_) (a' := ?_) #[true, true, true, false, false, true, true, false, false, false, true, false, false, false, false] rfl rfl (take_ofW HT_.out HW_.out (by kernel_rfl)) (fun _ _ _ h => h) (Or.inl ⟨by rfl, ?_⟩) hHeld ?_ ?_
     rotate_left
     ·
      rintro w' ⟨s0, s1, s2, s3, s4, s5, s6, s7, s8, s9, s10, s11, s12, s13⟩
      go_simp
      with_reducible rfl
     rotate_left
     ·
      simp only [Act.put, List.setIfInBounds_toArray, List.set_cons_zero, List.set_cons_succ, i64_w, i32_w]
      rfl
     refine pure_ (i := 7) (N := some 16) (v := ?_) (a' := ?_) #[true, true, true, false, false, true, true, true, false, false, true, false, false, false, false] rfl rfl (any_of HT_.out (by kernel_rfl)) (fun _ _ _ h => h) (Or.inl ⟨by rfl, ?_⟩) ?_ ?_
     rotate_left
     ·
      intro w'
      go_simp
      with_reducible rfl
     rotate_left
     ·
      simp only [Act.put, List.setIfInBounds_toArray, List.set_cons_zero, List.set_cons_succ, i64_w, i32_w]
      rfl
     refine take_ (i := 11) (N := some 20) (v := ?_) (a' := ?_) #[true, true, true, false, false, true, true, true, false, false, true, true, false, false, false] rfl rfl (take_ofW HT_.out HW_.out (by kernel_rfl)) (fun _ _ _ h => h) (Or.inl ⟨by rfl, ?_⟩) hHeld ?_ ?_
     rotate_left
     ·
      rintro w' ⟨s0, s1, s2, s3, s4, s5, s6, s7, s8, s9, s10, s11, s12, s13⟩
      go_simp
      with_reducible rfl
     rotate_left
     ·
      simp only [Act.put, List.setIfInBounds_toArray, List.set_cons_zero, List.set_cons_succ, i64_w, i32_w]
      rfl
     refine join_ (σ := Value × Value × Value) 4 #[true, true, true, true, true, true, true, true, true, false, true, true, false, false, false] (fun s_ => [(12, s_.1), (13, s_.2.1), (17, s_.2.2)]) (fun s_ w' => (w'.cell? ⟨gb232, 0, none⟩ = some (.int .i64 a0_0) ∧ w'.cell? ⟨gb232, 1, none⟩ = some (.int .i64 a0_1) ∧ w'.cell? ⟨gb232, 2, none⟩ = some (.int .i64 a0_2) ∧ w'.cell? ⟨gb232, 3, none⟩ = some (.int .i64 a0_3) ∧ w'.cell? ⟨gb232, 4, none⟩ = some (.int .i64 a0_4) ∧ w'.cell? ⟨gb232, 5, none⟩ = some (.int .i64 a0_5) ∧ w'.cell? ⟨gb232, 6, none⟩ = some (.slice A0_6 l0_6.length c0_6) ∧ w'.cell? ⟨gb232, 7, none⟩ = some (.bool a0_7) ∧ w'.cell? ⟨gb232, 8, none⟩ = some (.int .i64 a0_8) ∧ w'.cell? ⟨gb232, 9, none⟩ = some (.slice A0_9 l0_9.length c0_9) ∧ w'.cell? ⟨gb232, 10, none⟩ = some (.int .i64 a0_10) ∧ w'.cell? ⟨gb232, 11, none⟩ = some (.int .i64 a0_11) ∧ w'.cell? ⟨gb232, 12, none⟩ = some (.int .i64 a0_12) ∧ w'.cell? ⟨gb232, 13, none⟩ = some (.slice A0_13 l0_13.length c0_13)) ∧ (Kd.R (Kd.int .u8) 5 w' w.heap.size (fun k_ => some k_ ≠ (s_.2.1 : Value).ownBlock ∧ some k_ ≠ (s_.2.2 : Value).ownBlock) s_.1 t236) ∧ (Kd.R (Kd.int .u8) 5 w' w.heap.size (fun k_ => some k_ ≠ (s_.1 : Value).ownBlock ∧ some k_ ≠ (s_.2.2 : Value).ownBlock) s_.2.1 y239) ∧ (Kd.R (Kd.int .u8) 5 w' w.heap.size (fun k_ => some k_ ≠ (s_.1 : Value).ownBlock ∧ some k_ ≠ (s_.2.1 : Value).ownBlock) s_.2.2 y242) ∧ (w'.heap[gb232]? = some (.cells #[.int .i64 a0_0, .int .i64 a0_1, .int .i64 a0_2, .int .i64 a0_3, .int .i64 a0_4, .int .i64 a0_5, .slice A0_6 l0_6.length c0_6, .bool a0_7, .int .i64 a0_8, .slice A0_9 l0_9.length c0_9, .int .i64 a0_10, .int .i64 a0_11, .int .i64 a0_12, .slice A0_13 l0_13.length c0_13] 40 (0, 0))) ∧ (Below w.heap.size w w')) ?_ ?_
     rotate_left
     ·
      intro hCont
      refine two_ (i := 3) (j := 8) (Ni := some 12) (Nj := some 17) #[true, true, true, true, false, true, true, true, false, false, true, true, false, false, false] #[true, true, true, false, false, true, true, true, true, false, true, true, false, false, false] rfl rfl rfl rfl (two_of HT_.out (by kernel_rfl)) (by decide) (by decide) (fun K hK => ?_) (fun K hK => ?_)
      ·
       skip
       refine goes_ Try.func106 (by kernel_rfl) rfl #[.int .i64 a0_1, .int .i64 2] (by rfl) rfl rfl (by (try simp only [List.map_toArray, List.map_cons, List.map_nil]); first | done | rfl | (simp only [List.length_drop, List.length_take]; rfl)) ?_
       with_reducible refine (spec_l1Bytes.calls k a0_1 2 t236 _ A7.out).mono ?_
       rintro e w15 ⟨v237, rfl, ho0, hb⟩
       refine ⟨_, rfl, ?_⟩
       have n0_ := Aside0.mk (Kd.R_elder' (mR HO235) (Kd.R_base ho0) hb)
       have n1_ := Aside0.mk (Kd.R_lower (Kd.R_new' ho0 (Kd.R_lt (mR HO235))) (below_size (bel HB)))
       have n2_ := bK BK232 hb
       have n3_ := bS HB hb
       clear HO235
       clear BK232
       clear HB
       have HO235 := n0_
       have HO238 := n1_
       have BK232 := n2_
       have HB := n3_
       clear n0_ n1_ n2_ n3_
       (try clear hb)
       (try clear hb2)
       (try clear hk)
       (try clear hi)
       (try clear ho0)
       obtain ⟨Ao17, co17, eo17⟩ := Kd.R_slice HO238.out
       (first | subst eo17 | (injection eo17 with f1_ f2_ f3_; have f4_ := f1_.symm; have f5_ := f3_.symm; clear f1_ f2_ f3_; subst f4_; subst f5_))
       refine hK.out _ _ (ce14 BK232) (fun hHeld => ?_)
       clear hK K
       refine norm_ (a' := ?_) ?_ ?_
       rotate_left
       ·
        show Act.put _ (some 12) _ = _
        simp only [Act.put, List.setIfInBounds_toArray, List.set_cons_zero, List.set_cons_succ, i64_w, i32_w]
        rfl
       refine two_ (i := 4) (j := 8) (Ni := some 13) (Nj := some 17) #[true, true, true, true, true, true, true, true, false, false, true, true, false, false, false] #[true, true, true, true, false, true, true, true, true, false, true, true, false, false, false] rfl rfl rfl rfl (two_of HT_.out (by kernel_rfl)) (by decide) (by decide) (fun K hK => ?_) (fun K hK => ?_)
       ·
        skip
        refine Kd.R_append_rows_step (Kd.int .u8) (w0 := w) w.heap.size (by rfl) (.tmp 9) (.tmp 12) 31 5 (.int .u8 0) 1 rfl Try.underlying31 info5 rfl (by decide) (by omega) (.slice Ao13 y233.length co13) y233 t236 _ _ _ (fun k_ => some k_ ≠ (.slice Ao17 t236.length co17 : Value).ownBlock) (fun _ => False) rfl rfl ?aO ?aR (fun _ _ h => h) (fun _ h => h.elim) ?aF ?aB ?aS ?aL ?_
        (case aR => repeat (first | exact (Kd.R_reads' HO238.out).2.2 | (with_reducible refine Kd.C_alloc ?_ _) | (with_reducible refine Kd.C_drewN ?_ _) | (with_reducible refine Kd.C_drew ?_)))
        (case aB => exact (bel HB))
        (case aF => exact (fun k_ hk => Kd.fresh' (Kd.R_lt (mR HO238)) k_ hk))
        (case aO => exact (by (with_reducible repeat (first | apply Kd.R_alloc | apply Kd.R_drewN | apply Kd.R_drew)); exact Kd.R_mono HO235.out (fun _ hk => hk.2)))
        (case aS => exact (below_size (bel HB)))
        (case aL => have := LMc8.out; omega)
        intro v240 w16 ho hb hg hat
        rw [← Ny239.out] at ho
        have n0_ := Aside0.mk (blk_grown (g := gb232) (o := .cells #[.int .i64 a0_0, .int .i64 a0_1, .int .i64 a0_2, .int .i64 a0_3, .int .i64 a0_4, .int .i64 a0_5, .slice A0_6 l0_6.length c0_6, .bool a0_7, .int .i64 a0_8, .slice A0_9 l0_9.length c0_9, .int .i64 a0_10, .int .i64 a0_11, .int .i64 a0_12, .slice A0_13 l0_13.length c0_13] 40 (0, 0)) (mB BK232) hg (Kd.R_ne HO235.out BK232.out (by decide)))
        have n1_ := Aside0.mk (Kd.R_after (ok := (fun _ => True)) (mR HO238) hg hat)
        have n2_ := Aside0.mk (hb)
        have n3_ := Aside0.mk (ho)
        clear BK232
        clear HO238
        clear HB
        clear HO235
        have BK232 := n0_
        have HO238 := n1_
        have HB := n2_
        have HO241 := n3_
        clear n0_ n1_ n2_ n3_
        clear ho hb hg hat
        refine hK.out _ _ (ce14 BK232) (fun hHeld => ?_)
        clear hK K
        refine norm_ (a' := ?_) ?_ ?_
        rotate_left
        ·
         show Act.put _ (some 13) _ = _
         simp only [Act.put, List.setIfInBounds_toArray, List.set_cons_zero, List.set_cons_succ, i64_w, i32_w]
         rfl
        refine one_ (i := 8) (N := some 17) #[true, true, true, true, true, true, true, true, true, false, true, true, false, false, false] rfl rfl (one_of HT_.out (by kernel_rfl)) (by decide) (fun K hK => ?_)
        refine Kd.R_lit_step (Kd.int .u8) _ 5 ?hg (N := 17) ?hd (xs := ([(a0_2) % 256] : List Int)) (inner := [.int .u8 ((a0_2) % 256)]) (ok := fun _ => True) (okp := fun _ => True) ?hr ?hp (fun _ hk => hk) trivial (Below.refl _ _) (Nat.le_refl _) (by simp) ?_; (case hd => rfl); (case hg => rfl); (case hr => first | (go_simp; done) | (go_simp; rfl)); (case hp => exact (Reps.one (show Kd.M (Kd.int .u8) _ _ _ ((a0_2) % 256) [.int .u8 ((a0_2) % 256)] from rfl) (Reps.none _ _)))
        intro v243 w18 ho19 hb hg_ hnew_
        clear hg_ hnew_
        (first | rw [← Ny242.out] at ho19 | (simp only [Int.reduceToNat] at ho19; rw [← Ny242.out] at ho19))
        have n0_ := Aside0.mk (Kd.R_elder' (mR HO238) (Kd.R_base ho19) hb)
        have n1_ := Aside0.mk (Kd.R_elder' (mR HO241) (Kd.R_base ho19) hb)
        have n2_ := Aside0.mk (Kd.R_lower (Kd.R_new' (Kd.R_new' ho19 (Kd.R_lt (mR HO238))) (Kd.R_lt (mR HO241))) (below_size (bel HB)))
        have n3_ := bK BK232 hb
        have n4_ := bS HB hb
        clear HO238
        clear HO241
        clear BK232
        clear HB
        have HO238 := n0_
        have HO241 := n1_
        have HO244 := n2_
        have BK232 := n3_
        have HB := n4_
        clear n0_ n1_ n2_ n3_ n4_
        clear hb ho19
        refine hK.out _ _ (ce14 BK232) (fun hHeld => ?_)
        clear hK K
        refine norm_ (a' := ?_) ?_ ?_
        rotate_left
        ·
         show Act.put _ (some 17) _ = _
         simp only [Act.put, List.setIfInBounds_toArray, List.set_cons_zero, List.set_cons_succ, i64_w, i32_w]
         rfl
        exact norm_ (by simp only [putAll, Act.put, List.setIfInBounds_toArray, List.set_cons_zero, List.set_cons_succ]) (hCont (.slice Ao17 t236.length co17, v240, v243) _ ⟨hHeld, (by (with_reducible repeat (first | apply Kd.R_alloc | apply Kd.R_drewN | apply Kd.R_drew)); exact Kd.R_mono HO238.out (fun _ hk => ⟨hk.1.2, hk.2⟩)), (mR HO241), (by (with_reducible repeat (first | apply Kd.R_alloc | apply Kd.R_drewN | apply Kd.R_drew)); exact Kd.R_mono HO244.out (fun _ hk => ⟨hk.1.2, hk.2⟩)), (mB BK232), (bel HB)⟩)
       ·
        skip
        refine Kd.R_lit_step (Kd.int .u8) _ 5 ?hg (N := 17) ?hd (xs := ([(a0_2) % 256] : List Int)) (inner := [.int .u8 ((a0_2) % 256)]) (ok := fun _ => True) (okp := fun _ => True) ?hr ?hp (fun _ hk => hk) trivial (Below.refl _ _) (Nat.le_refl _) (by simp) ?_; (case hd => rfl); (case hg => rfl); (case hr => first | (go_simp; done) | (go_simp; rfl)); (case hp => exact (Reps.one (show Kd.M (Kd.int .u8) _ _ _ ((a0_2) % 256) [.int .u8 ((a0_2) % 256)] from rfl) (Reps.none _ _)))
        intro v243 w16 ho17 hb hg_ hnew_
        clear hg_ hnew_
        (first | rw [← Ny242.out] at ho17 | (simp only [Int.reduceToNat] at ho17; rw [← Ny242.out] at ho17))
        have n0_ := Aside0.mk (Kd.R_elder' (mR HO235) (Kd.R_base ho17) hb)
        have n1_ := Aside0.mk (Kd.R_elder' (mR HO238) (Kd.R_base ho17) hb)
        have n2_ := Aside0.mk (Kd.R_lower (Kd.R_new' (Kd.R_new' ho17 (Kd.R_lt (mR HO235))) (Kd.R_lt (mR HO238))) (below_size (bel HB)))
        have n3_ := bK BK232 hb
        have n4_ := bS HB hb
        clear HO235
        clear HO238
        clear BK232
        clear HB
        have HO235 := n0_
        have HO238 := n1_
        have HO244 := n2_
        have BK232 := n3_
        have HB := n4_
        clear n0_ n1_ n2_ n3_ n4_
        clear hb ho17
        obtain ⟨Ao19, co19, eo19⟩ := Kd.R_slice HO238.out
        (first | subst eo19 | (injection eo19 with f1_ f2_ f3_; have f4_ := f1_.symm; have f5_ := f3_.symm; clear f1_ f2_ f3_; subst f4_; subst f5_))
        refine hK.out _ _ (ce14 BK232) (fun hHeld => ?_)
        clear hK K
        refine norm_ (a' := ?_) ?_ ?_
        rotate_left
        ·
         show Act.put _ (some 17) _ = _
         simp only [Act.put, List.setIfInBounds_toArray, List.set_cons_zero, List.set_cons_succ, i64_w, i32_w]
         rfl
        refine one_ (i := 4) (N := some 13) #[true, true, true, true, true, true, true, true, true, false, true, true, false, false, false] rfl rfl (one_of HT_.out (by kernel_rfl)) (by decide) (fun K hK => ?_)
        refine Kd.R_append_rows_step (Kd.int .u8) (w0 := w) w.heap.size (by rfl) (.tmp 9) (.tmp 12) 31 5 (.int .u8 0) 1 rfl Try.underlying31 info5 rfl (by decide) (by omega) (.slice Ao13 y233.length co13) y233 t236 _ _ _ (fun k_ => some k_ ≠ (.slice Ao19 t236.length co19 : Value).ownBlock ∧ some k_ ≠ (v243 : Value).ownBlock) (fun _ => False) rfl rfl ?aO ?aR (fun _ _ h => h) (fun _ h => h.elim) ?aF ?aB ?aS ?aL ?_
        (case aR => repeat (first | exact (Kd.R_reads' HO238.out).2.2 | (with_reducible refine Kd.C_alloc ?_ _) | (with_reducible refine Kd.C_drewN ?_ _) | (with_reducible refine Kd.C_drew ?_)))
        (case aB => exact (bel HB))
        (case aF => exact (fun k_ hk => ⟨Kd.fresh' (Kd.R_lt (mR HO238)) k_ hk, Kd.fresh' (Kd.R_lt (mR HO244)) k_ hk⟩))
        (case aO => exact (by (with_reducible repeat (first | apply Kd.R_alloc | apply Kd.R_drewN | apply Kd.R_drew)); exact Kd.R_mono HO235.out (fun _ hk => ⟨hk.1.2, hk.2⟩)))
        (case aS => exact (below_size (bel HB)))
        (case aL => have := LMc8.out; omega)
        intro v240 w18 ho hb hg hat
        rw [← Ny239.out] at ho
        have n0_ := Aside0.mk (blk_grown (g := gb232) (o := .cells #[.int .i64 a0_0, .int .i64 a0_1, .int .i64 a0_2, .int .i64 a0_3, .int .i64 a0_4, .int .i64 a0_5, .slice A0_6 l0_6.length c0_6, .bool a0_7, .int .i64 a0_8, .slice A0_9 l0_9.length c0_9, .int .i64 a0_10, .int .i64 a0_11, .int .i64 a0_12, .slice A0_13 l0_13.length c0_13] 40 (0, 0)) (mB BK232) hg (Kd.R_ne HO235.out BK232.out (by decide)))
        have n1_ := Aside0.mk (Kd.R_after (ok := (fun k_ => some k_ ≠ (v243 : Value).ownBlock)) (by (with_reducible repeat (first | apply Kd.R_alloc | apply Kd.R_drewN | apply Kd.R_drew)); exact Kd.R_mono HO238.out (fun _ hk => ⟨hk.2, hk.1.2⟩)) hg hat)
        have n2_ := Aside0.mk (Kd.R_after (ok := (fun k_ => some k_ ≠ (.slice Ao19 t236.length co19 : Value).ownBlock)) (by (with_reducible repeat (first | apply Kd.R_alloc | apply Kd.R_drewN | apply Kd.R_drew)); exact Kd.R_mono HO244.out (fun _ hk => ⟨hk.2, hk.1.2⟩)) hg hat)
        have n3_ := Aside0.mk (hb)
        have n4_ := Aside0.mk (ho)
        clear BK232
        clear HO238
        clear HO244
        clear HB
        clear HO235
        have BK232 := n0_
        have HO238 := n1_
        have HO244 := n2_
        have HB := n3_
        have HO241 := n4_
        clear n0_ n1_ n2_ n3_ n4_
        clear ho hb hg hat
        refine hK.out _ _ (ce14 BK232) (fun hHeld => ?_)
        clear hK K
        refine norm_ (a' := ?_) ?_ ?_
        rotate_left
        ·
         show Act.put _ (some 13) _ = _
         simp only [Act.put, List.setIfInBounds_toArray, List.set_cons_zero, List.set_cons_succ, i64_w, i32_w]
         rfl
        exact norm_ (by simp only [putAll, Act.put, List.setIfInBounds_toArray, List.set_cons_zero, List.set_cons_succ]) (hCont (.slice Ao19 t236.length co19, v240, v243) _ ⟨hHeld, (by (with_reducible repeat (first | apply Kd.R_alloc | apply Kd.R_drewN | apply Kd.R_drew)); exact Kd.R_mono HO238.out (fun _ hk => ⟨hk.2, hk.1⟩)), (mR HO241), (mR HO244), (mB BK232), (bel HB)⟩)
      ·
       skip
       refine Kd.R_lit_step (Kd.int .u8) _ 5 ?hg (N := 17) ?hd (xs := ([(a0_2) % 256] : List Int)) (inner := [.int .u8 ((a0_2) % 256)]) (ok := fun _ => True) (okp := fun _ => True) ?hr ?hp (fun _ hk => hk) trivial (Below.refl _ _) (Nat.le_refl _) (by simp) ?_; (case hd => rfl); (case hg => rfl); (case hr => first | (go_simp; done) | (go_simp; rfl)); (case hp => exact (Reps.one (show Kd.M (Kd.int .u8) _ _ _ ((a0_2) % 256) [.int .u8 ((a0_2) % 256)] from rfl) (Reps.none _ _)))
       intro v243 w15 ho16 hb hg_ hnew_
       clear hg_ hnew_
       (first | rw [← Ny242.out] at ho16 | (simp only [Int.reduceToNat] at ho16; rw [← Ny242.out] at ho16))
       have n0_ := Aside0.mk (Kd.R_elder' (mR HO235) (Kd.R_base ho16) hb)
       have n1_ := Aside0.mk (Kd.R_lower (Kd.R_new' ho16 (Kd.R_lt (mR HO235))) (below_size (bel HB)))
       have n2_ := bK BK232 hb
       have n3_ := bS HB hb
       clear HO235
       clear BK232
       clear HB
       have HO235 := n0_
       have HO244 := n1_
       have BK232 := n2_
       have HB := n3_
       clear n0_ n1_ n2_ n3_
       clear hb ho16
       refine hK.out _ _ (ce14 BK232) (fun hHeld => ?_)
       clear hK K
       refine norm_ (a' := ?_) ?_ ?_
       rotate_left
       ·
        show Act.put _ (some 17) _ = _
        simp only [Act.put, List.setIfInBounds_toArray, List.set_cons_zero, List.set_cons_succ, i64_w, i32_w]
        rfl
       refine one_ (i := 3) (N := some 12) #[true, true, true, true, false, true, true, true, true, false, true, true, false, false, false] rfl rfl (one_of HT_.out (by kernel_rfl)) (by decide) (fun K hK => ?_)
       refine goes_ Try.func106 (by kernel_rfl) rfl #[.int .i64 a0_1, .int .i64 2] (by rfl) rfl rfl (by (try simp only [List.map_toArray, List.map_cons, List.map_nil]); first | done | rfl | (simp only [List.length_drop, List.length_take]; rfl)) ?_
       with_reducible refine (spec_l1Bytes.calls k a0_1 2 t236 _ A7.out).mono ?_
       rintro e w17 ⟨v237, rfl, ho0, hb⟩
       refine ⟨_, rfl, ?_⟩
       have n0_ := Aside0.mk (Kd.R_elder' (mR HO235) (Kd.R_base ho0) hb)
       have n1_ := Aside0.mk (Kd.R_elder' (mR HO244) (Kd.R_base ho0) hb)
       have n2_ := Aside0.mk (Kd.R_lower (Kd.R_new' (Kd.R_new' ho0 (Kd.R_lt (mR HO235))) (Kd.R_lt (mR HO244))) (below_size (bel HB)))
       have n3_ := bK BK232 hb
       have n4_ := bS HB hb
       clear HO235
       clear HO244
       clear BK232
       clear HB
       have HO235 := n0_
       have HO244 := n1_
       have HO238 := n2_
       have BK232 := n3_
       have HB := n4_
       clear n0_ n1_ n2_ n3_ n4_
       (try clear hb)
       (try clear hb2)
       (try clear hk)
       (try clear hi)
       (try clear ho0)
       obtain ⟨Ao19, co19, eo19⟩ := Kd.R_slice HO238.out
       (first | subst eo19 | (injection eo19 with f1_ f2_ f3_; have f4_ := f1_.symm; have f5_ := f3_.symm; clear f1_ f2_ f3_; subst f4_; subst f5_))
       refine hK.out _ _ (ce14 BK232) (fun hHeld => ?_)
       clear hK K
       refine norm_ (a' := ?_) ?_ ?_
       rotate_left
       ·
        show Act.put _ (some 12) _ = _
        simp only [Act.put, List.setIfInBounds_toArray, List.set_cons_zero, List.set_cons_succ, i64_w, i32_w]
        rfl
       refine one_ (i := 4) (N := some 13) #[true, true, true, true, true, true, true, true, true, false, true, true, false, false, false] rfl rfl (one_of HT_.out (by kernel_rfl)) (by decide) (fun K hK => ?_)
       refine Kd.R_append_rows_step (Kd.int .u8) (w0 := w) w.heap.size (by rfl) (.tmp 9) (.tmp 12) 31 5 (.int .u8 0) 1 rfl Try.underlying31 info5 rfl (by decide) (by omega) (.slice Ao13 y233.length co13) y233 t236 _ _ _ (fun k_ => some k_ ≠ (v243 : Value).ownBlock ∧ some k_ ≠ (.slice Ao19 t236.length co19 : Value).ownBlock) (fun _ => False) rfl rfl ?aO ?aR (fun _ _ h => h) (fun _ h => h.elim) ?aF ?aB ?aS ?aL ?_
       (case aR => repeat (first | exact (Kd.R_reads' HO238.out).2.2 | (with_reducible refine Kd.C_alloc ?_ _) | (with_reducible refine Kd.C_drewN ?_ _) | (with_reducible refine Kd.C_drew ?_)))
       (case aB => exact (bel HB))
       (case aF => exact (fun k_ hk => ⟨Kd.fresh' (Kd.R_lt (mR HO244)) k_ hk, Kd.fresh' (Kd.R_lt (mR HO238)) k_ hk⟩))
       (case aO => exact (by (with_reducible repeat (first | apply Kd.R_alloc | apply Kd.R_drewN | apply Kd.R_drew)); exact Kd.R_mono HO235.out (fun _ hk => ⟨hk.1.2, hk.2⟩)))
       (case aS => exact (below_size (bel HB)))
       (case aL => have := LMc8.out; omega)
       intro v240 w18 ho hb hg hat
       rw [← Ny239.out] at ho
       have n0_ := Aside0.mk (blk_grown (g := gb232) (o := .cells #[.int .i64 a0_0, .int .i64 a0_1, .int .i64 a0_2, .int .i64 a0_3, .int .i64 a0_4, .int .i64 a0_5, .slice A0_6 l0_6.length c0_6, .bool a0_7, .int .i64 a0_8, .slice A0_9 l0_9.length c0_9, .int .i64 a0_10, .int .i64 a0_11, .int .i64 a0_12, .slice A0_13 l0_13.length c0_13] 40 (0, 0)) (mB BK232) hg (Kd.R_ne HO235.out BK232.out (by decide)))
       have n1_ := Aside0.mk (Kd.R_after (ok := (fun k_ => some k_ ≠ (.slice Ao19 t236.length co19 : Value).ownBlock)) (by (with_reducible repeat (first | apply Kd.R_alloc | apply Kd.R_drewN | apply Kd.R_drew)); exact Kd.R_mono HO244.out (fun _ hk => ⟨hk.2, hk.1.2⟩)) hg hat)
       have n2_ := Aside0.mk (Kd.R_after (ok := (fun k_ => some k_ ≠ (v243 : Value).ownBlock)) (by (with_reducible repeat (first | apply Kd.R_alloc | apply Kd.R_drewN | apply Kd.R_drew)); exact Kd.R_mono HO238.out (fun _ hk => ⟨hk.2, hk.1.2⟩)) hg hat)
       have n3_ := Aside0.mk (hb)
       have n4_ := Aside0.mk (ho)
       clear BK232
       clear HO244
       clear HO238
       clear HB
       clear HO235
       have BK232 := n0_
       have HO244 := n1_
       have HO238 := n2_
       have HB := n3_
       have HO241 := n4_
       clear n0_ n1_ n2_ n3_ n4_
       clear ho hb hg hat
       refine hK.out _ _ (ce14 BK232) (fun hHeld => ?_)
       clear hK K
       refine norm_ (a' := ?_) ?_ ?_
       rotate_left
       ·
        show Act.put _ (some 13) _ = _
        simp only [Act.put, List.setIfInBounds_toArray, List.set_cons_zero, List.set_cons_succ, i64_w, i32_w]
        rfl
       exact norm_ (by simp only [putAll, Act.put, List.setIfInBounds_toArray, List.set_cons_zero, List.set_cons_succ]) (hCont (.slice Ao19 t236.length co19, v240, v243) _ ⟨hHeld, (by (with_reducible repeat (first | apply Kd.R_alloc | apply Kd.R_drewN | apply Kd.R_drew)); exact Kd.R_mono HO238.out (fun _ hk => ⟨hk.2, hk.1⟩)), (by (with_reducible repeat (first | apply Kd.R_alloc | apply Kd.R_drewN | apply Kd.R_drew)); exact Kd.R_mono HO241.out (fun _ hk => ⟨hk.2, hk.1⟩)), (mR HO244), (mB BK232), (bel HB)⟩)
     rintro ⟨v237, v240, v243⟩ w20 ⟨hS_, h0_, h1_, h2_, h3_, h4_⟩
     have n0_ : Aside0 (Kd.R (Kd.int .u8) 5 w20 w.heap.size (fun k_ => some k_ ≠ (v240 : Value).ownBlock ∧ some k_ ≠ (v243 : Value).ownBlock) v237 t236) := ⟨h0_⟩
     have n1_ : Aside0 (Kd.R (Kd.int .u8) 5 w20 w.heap.size (fun k_ => some k_ ≠ (v237 : Value).ownBlock ∧ some k_ ≠ (v243 : Value).ownBlock) v240 y239) := ⟨h1_⟩
     have n2_ : Aside0 (Kd.R (Kd.int .u8) 5 w20 w.heap.size (fun k_ => some k_ ≠ (v237 : Value).ownBlock ∧ some k_ ≠ (v240 : Value).ownBlock) v243 y242) := ⟨h2_⟩
     have n3_ : Aside0 (w20.heap[gb232]? = some (.cells #[.int .i64 a0_0, .int .i64 a0_1, .int .i64 a0_2, .int .i64 a0_3, .int .i64 a0_4, .int .i64 a0_5, .slice A0_6 l0_6.length c0_6, .bool a0_7, .int .i64 a0_8, .slice A0_9 l0_9.length c0_9, .int .i64 a0_10, .int .i64 a0_11, .int .i64 a0_12, .slice A0_13 l0_13.length c0_13] 40 (0, 0))) := ⟨h3_⟩
     have n4_ : Aside0 (Below w.heap.size w w20) := ⟨h4_⟩
     clear HO235
     clear BK232
     clear HB
     clear h0_ h1_ h2_ h3_ h4_
     have HO238 := n0_
     have HO241 := n1_
     have HO244 := n2_
     have BK232 := n3_
     have HB := n4_
     clear n0_ n1_ n2_ n3_ n4_
     have hHeld : w20.cell? ⟨gb232, 0, none⟩ = some (.int .i64 a0_0) ∧ w20.cell? ⟨gb232, 1, none⟩ = some (.int .i64 a0_1) ∧ w20.cell? ⟨gb232, 2, none⟩ = some (.int .i64 a0_2) ∧ w20.cell? ⟨gb232, 3, none⟩ = some (.int .i64 a0_3) ∧ w20.cell? ⟨gb232, 4, none⟩ = some (.int .i64 a0_4) ∧ w20.cell? ⟨gb232, 5, none⟩ = some (.int .i64 a0_5) ∧ w20.cell? ⟨gb232, 6, none⟩ = some (.slice A0_6 l0_6.length c0_6) ∧ w20.cell? ⟨gb232, 7, none⟩ = some (.bool a0_7) ∧ w20.cell? ⟨gb232, 8, none⟩ = some (.int .i64 a0_8) ∧ w20.cell? ⟨gb232, 9, none⟩ = some (.slice A0_9 l0_9.length c0_9) ∧ w20.cell? ⟨gb232, 10, none⟩ = some (.int .i64 a0_10) ∧ w20.cell? ⟨gb232, 11, none⟩ = some (.int .i64 a0_11) ∧ w20.cell? ⟨gb232, 12, none⟩ = some (.int .i64 a0_12) ∧ w20.cell? ⟨gb232, 13, none⟩ = some (.slice A0_13 l0_13.length c0_13) := hS_
     obtain ⟨Ao22, co22, eo22⟩ := Kd.R_slice HO244.out
     (first | subst eo22 | (injection eo22 with f1_ f2_ f3_; have f4_ := f1_.symm; have f5_ := f3_.symm; clear f1_ f2_ f3_; subst f4_; subst f5_))
     refine norm_ (a' := ?_) ?_ ?_
     rotate_left
     ·
      simp only [putAll, Act.put, List.setIfInBounds_toArray, List.set_cons_zero, List.set_cons_succ]
      rfl
     refine one_ (i := 9) (N := some 18) #[true, true, true, true, true, true, true, true, true, true, true, true, false, false, false] rfl rfl (one_of HT_.out (by kernel_rfl)) (by decide) (fun K hK => ?_)
     refine Kd.R_append_rows_step (Kd.int .u8) (w0 := w) w.heap.size (by rfl) (.tmp 13) (.tmp 17) 31 5 (.int .u8 0) 1 rfl Try.underlying31 info5 rfl (by decide) (by omega) v240 y239 y242 _ _ _ (fun k_ => some k_ ≠ (v237 : Value).ownBlock ∧ some k_ ≠ (.slice Ao22 y242.length co22 : Value).ownBlock) (fun _ => False) rfl rfl ?aO ?aR (fun _ _ h => h) (fun _ h => h.elim) ?aF ?aB ?aS ?aL ?_
     (case aR => repeat (first | exact (Kd.R_reads' HO244.out).2.2 | (with_reducible refine Kd.C_alloc ?_ _) | (with_reducible refine Kd.C_drewN ?_ _) | (with_reducible refine Kd.C_drew ?_)))
     (case aB => exact (bel HB))
     (case aF => exact (fun k_ hk => ⟨Kd.fresh' (Kd.R_lt (mR HO238)) k_ hk, Kd.fresh' (Kd.R_lt (mR HO244)) k_ hk⟩))
     (case aO => exact (mR HO241))
     (case aS => exact (below_size (bel HB)))
     (case aL => have := LMc9.out; omega)
     intro v246 w21 ho hb hg hat
     rw [← Ny245.out] at ho
     have n0_ := Aside0.mk (blk_grown (g := gb232) (o := .cells #[.int .i64 a0_0, .int .i64 a0_1, .int .i64 a0_2, .int .i64 a0_3, .int .i64 a0_4, .int .i64 a0_5, .slice A0_6 l0_6.length c0_6, .bool a0_7, .int .i64 a0_8, .slice A0_9 l0_9.length c0_9, .int .i64 a0_10, .int .i64 a0_11, .int .i64 a0_12, .slice A0_13 l0_13.length c0_13] 40 (0, 0)) (mB BK232) hg (Kd.R_ne HO241.out BK232.out (by decide)))
     have n1_ := Aside0.mk (Kd.R_after (ok := (fun k_ => some k_ ≠ (.slice Ao22 y242.length co22 : Value).ownBlock)) (by (with_reducible repeat (first | apply Kd.R_alloc | apply Kd.R_drewN | apply Kd.R_drew)); exact Kd.R_mono HO238.out (fun _ hk => ⟨hk.2, hk.1⟩)) hg hat)
     have n2_ := Aside0.mk (Kd.R_after (ok := (fun k_ => some k_ ≠ (v237 : Value).ownBlock)) (mR HO244) hg hat)
     have n3_ := Aside0.mk (hb)
     have n4_ := Aside0.mk (ho)
     clear BK232
     clear HO238
     clear HO244
     clear HB
     clear HO241
     have BK232 := n0_
     have HO238 := n1_
     have HO244 := n2_
     have HB := n3_
     have HO247 := n4_
     clear n0_ n1_ n2_ n3_ n4_
     clear ho hb hg hat
     refine hK.out _ _ (ce14 BK232) (fun hHeld => ?_)
     clear hK K
     refine norm_ (a' := ?_) ?_ ?_
     rotate_left
     ·
      show Act.put _ (some 18) _ = _
      simp only [Act.put, List.setIfInBounds_toArray, List.set_cons_zero, List.set_cons_succ, i64_w, i32_w]
      rfl
     refine one_ (i := 12) (N := some 21) #[true, true, true, true, true, true, true, true, true, true, true, true, true, false, false] rfl rfl (one_of HT_.out (by kernel_rfl)) (by decide) (fun K hK => ?_)
     refine goes_ Try.func106 (by kernel_rfl) rfl #[.int .i64 a0_3, .int .i64 2] (by rfl) rfl rfl (by (try simp only [List.map_toArray, List.map_cons, List.map_nil]); first | done | rfl | (simp only [List.length_drop, List.length_take]; rfl)) ?_
     with_reducible refine (spec_l1Bytes.calls k a0_3 2 t248 _ A10.out).mono ?_
     rintro e w23 ⟨v249, rfl, ho0, hb⟩
     refine ⟨_, rfl, ?_⟩
     have n0_ := Aside0.mk (Kd.R_elder' (mR HO238) (Kd.R_base ho0) hb)
     have n1_ := Aside0.mk (Kd.R_elder' (mR HO244) (Kd.R_base ho0) hb)
     have n2_ := Aside0.mk (Kd.R_elder' (mR HO247) (Kd.R_base ho0) hb)
     have n3_ := Aside0.mk (Kd.R_lower (Kd.R_new' (Kd.R_new' (Kd.R_new' ho0 (Kd.R_lt (mR HO238))) (Kd.R_lt (mR HO244))) (Kd.R_lt (mR HO247))) (below_size (bel HB)))
     have n4_ := bK BK232 hb
     have n5_ := bS HB hb
     clear HO238
     clear HO244
     clear HO247
     clear BK232
     clear HB
     have HO238 := n0_
     have HO244 := n1_
     have HO247 := n2_
     have HO250 := n3_
     have BK232 := n4_
     have HB := n5_
     clear n0_ n1_ n2_ n3_ n4_ n5_
     (try clear hb)
     (try clear hb2)
     (try clear hk)
     (try clear hi)
     (try clear ho0)
     obtain ⟨Ao25, co25, eo25⟩ := Kd.R_slice HO250.out
     (first | subst eo25 | (injection eo25 with f1_ f2_ f3_; have f4_ := f1_.symm; have f5_ := f3_.symm; clear f1_ f2_ f3_; subst f4_; subst f5_))
     refine hK.out _ _ (ce14 BK232) (fun hHeld => ?_)
     clear hK K
     refine norm_ (a' := ?_) ?_ ?_
     rotate_left
     ·
      show Act.put _ (some 21) _ = _
      simp only [Act.put, List.setIfInBounds_toArray, List.set_cons_zero, List.set_cons_succ, i64_w, i32_w]
      rfl
     refine one_ (i := 13) (N := some 22) #[true, true, true, true, true, true, true, true, true, true, true, true, true, true, false] rfl rfl (one_of HT_.out (by kernel_rfl)) (by decide) (fun K hK => ?_)
     refine Kd.R_append_rows_step (Kd.int .u8) (w0 := w) w.heap.size (by rfl) (.tmp 18) (.tmp 21) 31 5 (.int .u8 0) 1 rfl Try.underlying31 info5 rfl (by decide) (by omega) v246 y245 t248 _ _ _ (fun k_ => some k_ ≠ (v237 : Value).ownBlock ∧ some k_ ≠ (.slice Ao22 y242.length co22 : Value).ownBlock ∧ some k_ ≠ (.slice Ao25 t248.length co25 : Value).ownBlock) (fun _ => False) rfl rfl ?aO ?aR (fun _ _ h => h) (fun _ h => h.elim) ?aF ?aB ?aS ?aL ?_
     (case aR => repeat (first | exact (Kd.R_reads' HO250.out).2.2 | (with_reducible refine Kd.C_alloc ?_ _) | (with_reducible refine Kd.C_drewN ?_ _) | (with_reducible refine Kd.C_drew ?_)))
     (case aB => exact (bel HB))
     (case aF => exact (fun k_ hk => ⟨Kd.fresh' (Kd.R_lt (mR HO238)) k_ hk, Kd.fresh' (Kd.R_lt (mR HO244)) k_ hk, Kd.fresh' (Kd.R_lt (mR HO250)) k_ hk⟩))
     (case aO => exact (by (with_reducible repeat (first | apply Kd.R_alloc | apply Kd.R_drewN | apply Kd.R_drew)); exact Kd.R_mono HO247.out (fun _ hk => ⟨hk.1.1, ⟨hk.1.2, hk.2⟩⟩)))
     (case aS => exact (below_size (bel HB)))
     (case aL => have := LMc11.out; omega)
     intro v252 w24 ho hb hg hat
     rw [← Ny251.out] at ho
     have n0_ := Aside0.mk (blk_grown (g := gb232) (o := .cells #[.int .i64 a0_0, .int .i64 a0_1, .int .i64 a0_2, .int .i64 a0_3, .int .i64 a0_4, .int .i64 a0_5, .slice A0_6 l0_6.length c0_6, .bool a0_7, .int .i64 a0_8, .slice A0_9 l0_9.length c0_9, .int .i64 a0_10, .int .i64 a0_11, .int .i64 a0_12, .slice A0_13 l0_13.length c0_13] 40 (0, 0)) (mB BK232) hg (Kd.R_ne HO247.out BK232.out (by decide)))
     have n1_ := Aside0.mk (Kd.R_after (ok := (fun k_ => some k_ ≠ (.slice Ao22 y242.length co22 : Value).ownBlock ∧ some k_ ≠ (.slice Ao25 t248.length co25 : Value).ownBlock)) (by (with_reducible repeat (first | apply Kd.R_alloc | apply Kd.R_drewN | apply Kd.R_drew)); exact Kd.R_mono HO238.out (fun _ hk => ⟨⟨hk.1.1, hk.2⟩, hk.1.2⟩)) hg hat)
     have n2_ := Aside0.mk (Kd.R_after (ok := (fun k_ => some k_ ≠ (v237 : Value).ownBlock ∧ some k_ ≠ (.slice Ao25 t248.length co25 : Value).ownBlock)) (by (with_reducible repeat (first | apply Kd.R_alloc | apply Kd.R_drewN | apply Kd.R_drew)); exact Kd.R_mono HO244.out (fun _ hk => ⟨⟨hk.1.1, hk.2⟩, hk.1.2⟩)) hg hat)
     have n3_ := Aside0.mk (Kd.R_after (ok := (fun k_ => some k_ ≠ (v237 : Value).ownBlock ∧ some k_ ≠ (.slice Ao22 y242.length co22 : Value).ownBlock)) (by (with_reducible repeat (first | apply Kd.R_alloc | apply Kd.R_drewN | apply Kd.R_drew)); exact Kd.R_mono HO250.out (fun _ hk => ⟨⟨hk.1.1.2, hk.1.2⟩, hk.2⟩)) hg hat)
     have n4_ := Aside0.mk (hb)
     have n5_ := Aside0.mk (ho)
     clear BK232
     clear HO238
     clear HO244
     clear HO250
     clear HB
     clear HO247
     have BK232 := n0_
     have HO238 := n1_
     have HO244 := n2_
     have HO250 := n3_
     have HB := n4_
     have HO253 := n5_
     clear n0_ n1_ n2_ n3_ n4_ n5_
     clear ho hb hg hat
     refine hK.out _ _ (ce14 BK232) (fun hHeld => ?_)
     clear hK K
     refine norm_ (a' := ?_) ?_ ?_
     rotate_left
     ·
      show Act.put _ (some 22) _ = _
      simp only [Act.put, List.setIfInBounds_toArray, List.set_cons_zero, List.set_cons_succ, i64_w, i32_w]
      rfl
     refine pure_ (i := 14) (N := some 3) (v := ?_) (a' := ?_) #[true, true, true, true, true, true, true, true, true, true, true, true, true, true, true] rfl rfl (any_of HT_.out (by kernel_rfl)) (fun _ _ _ h => h) (Or.inl ⟨by rfl, ?_⟩) ?_ ?_
     rotate_left
     ·
      intro w'
      go_simp
      with_reducible rfl
     rotate_left
     ·
      simp only [Act.put, List.setIfInBounds_toArray, List.set_cons_zero, List.set_cons_succ, i64_w, i32_w]
      rfl
     refine done_ (done_of HT_.out (by kernel_rfl)) ?_
     have hz26 := cl14 BK232
     obtain ⟨Ao27, co27, eo27⟩ := Kd.R_slice HO253.out
     subst eo27
     try go_wp2_with (first | ((with_reducible refine gate_callee (f := 107) rfl ?_); refine goA (some 43) rfl rfl Try.func107 rfl #[.agg #[.int .i64 a0_0, .slice Ao27 y251.length co27]] rfl ?_; (with_reducible refine (spec_l1Pack.calls k a0_0 _ _ y251 t254 _ ?side1 ?side2 A12.out).mono ?_); (case side1 => repeat (first | exact (Kd.R_reads' HO253.out).2.2 | (with_reducible refine Kd.C_alloc ?_ _) | (with_reducible refine Kd.C_drewN ?_ _) | (with_reducible refine Kd.C_drew ?_))); (case side2 => exact (Kd.R_reads' HO253.out).2.1); rintro e w28 ⟨v255, rfl, ho0, hb⟩; refine ⟨_, rfl, ?_⟩; have HO256 := Aside0.mk (Kd.R_lower (Kd.R_new' (Kd.R_new' (Kd.R_new' (Kd.R_new' ho0 (Kd.R_lt (mR HO238))) (Kd.R_lt (mR HO244))) (Kd.R_lt (mR HO250))) (Kd.R_lt (mR HO253))) (below_size (bel HB))); replace HO238 := Aside0.mk (Kd.R_elder' (mR HO238) (Kd.R_base ho0) hb); replace HO244 := Aside0.mk (Kd.R_elder' (mR HO244) (Kd.R_base ho0) hb); replace HO250 := Aside0.mk (Kd.R_elder' (mR HO250) (Kd.R_base ho0) hb); replace HO253 := Aside0.mk (Kd.R_elder' (mR HO253) (Kd.R_base ho0) hb); replace BK232 := bK BK232 hb; replace HB := bS HB hb; (try clear hb); (try clear hb2); (try clear hk); (try clear hi); (try clear ho0)))
     go_ret
     exact ⟨_, by first | rfl | (simp [errW_none, errW_some] <;> rfl) | (simp [*, errW_none, errW_some] <;> rfl), by (with_reducible repeat (first | apply Kd.R_alloc | apply Kd.R_drewN | apply Kd.R_drew)); exact Kd.R_mono HO256.out (fun _ hk => trivial), bel HB⟩
    ·
     rw [if_neg c11] at H
     exact absurd H (by simp)
   ·
    rw [if_neg c9] at H
    exact absurd H (by simp)
  ·
   rw [if_neg c8] at H
   exact absurd H (by simp)
 ·
  rw [if_neg c6] at H
  have c6b0 : (a0_0 == 1) = false := beq_eq_false_iff_ne.mpr c6
  have c6b1 : (a0_0 != 1) = true := bne_iff_ne.mpr c6
  have c6e := eq_false c6
  (first | rw [c6b0] | (simp only [i64_w, i32_w]; rw [c6b0]) | skip)
  (try simp only [c6b0, c6b1]); (try (with_reducible refine iteP ?_; simp only [c6e, ↓reduceIte]))
  by_cases c29 : a0_0 = 3
  ·
   rw [if_pos c29] at H
   have c29b0 : (a0_0 == 3) = true := beq_iff_eq.mpr c29
   have c29b1 : (a0_0 != 3) = false := bne_eq_false_iff_eq.mpr c29
   have c29e := eq_true c29
   clear c29
   obtain ⟨y257, hy257⟩ : ∃ y_ : List Int, y_ = (([(a0_4) % 256, (a0_5) % 256] : List Int)) := ⟨_, rfl⟩
   replace H : (if y233.length + y257.length < 140737488355328 then ((spec_l1Pack.f k a0_0 (y233 ++ y257)).bind fun t263 => (some t263)) else (none)) = some r := by first | (rw [hy257]; with_reducible exact H) | (have H2_ := (Option.bind_some _ _).symm.trans H; rw [hy257]; with_reducible exact H2_) | (have H2_ := (Option.bind_some _ _).symm.trans H; with_reducible exact H2_) | with_reducible exact H | (rw [hy257]; exact H) | exact H
   have Ny257 := Aside0.mk hy257
   clear hy257
   by_cases c30 : y233.length + y257.length < 140737488355328
   ·
    rw [if_pos c30] at H
    have LMc30 := Aside0.mk c30
    clear c30
    obtain ⟨y260, hy260⟩ : ∃ y_ : List Int, y_ = (y233 ++ y257) := ⟨_, rfl⟩
    replace H : ((spec_l1Pack.f k a0_0 y260).bind fun t263 => (some t263)) = some r := by first | (rw [hy260]; with_reducible exact H) | (have H2_ := (Option.bind_some _ _).symm.trans H; rw [hy260]; with_reducible exact H2_) | (have H2_ := (Option.bind_some _ _).symm.trans H; with_reducible exact H2_) | with_reducible exact H | (rw [hy260]; exact H) | exact H
    have Ny260 := Aside0.mk hy260
    clear hy260
    replace H := Option.bind_eq_some_iff.mp H
    obtain ⟨t263, A310, H⟩ := H
    replace H : (some t263) = some r := H
    have A31 := Aside0.mk A310
    clear A310
    obtain rfl := Option.some.inj H
    have hz32 := cl14 BK232
    go_wp2_with (first | ((with_reducible refine gate_dst (N := 32) rfl ?_); refine Kd.R_lit (Kd.int .u8) _ 5 ?hg (N := 32) ?hd (xs := ([(a0_4) % 256, (a0_5) % 256] : List Int)) (inner := [.int .u8 ((a0_4) % 256), .int .u8 ((a0_5) % 256)]) (ok := fun _ => True) (okp := fun _ => True) ?hr ?hp (fun _ hk => hk) trivial (Below.refl _ _) (Nat.le_refl _) (by simp) ?_; (case hd => rfl); (case hg => rfl); (case hr => first | (go_simp; done) | (go_simp; rfl)); (case hp => exact (Reps.one (show Kd.M (Kd.int .u8) _ _ _ ((a0_4) % 256) [.int .u8 ((a0_4) % 256)] from rfl) (Reps.one (show Kd.M (Kd.int .u8) _ _ _ ((a0_5) % 256) [.int .u8 ((a0_5) % 256)] from rfl) (Reps.none _ _)))); intro v258 w33 ho34 hb hg_ hnew_; clear hg_ hnew_; (first | rw [← Ny257.out] at ho34 | (simp only [Int.reduceToNat] at ho34; rw [← Ny257.out] at ho34)); have HO259 := Aside0.mk (Kd.R_lower (Kd.R_new' ho34 (Kd.R_lt (mR HO235))) (below_size (bel HB))); replace HO235 := Aside0.mk (Kd.R_elder' (mR HO235) (Kd.R_base ho34) hb); replace BK232 := bK BK232 hb; replace HB := bS HB hb; clear hb ho34; obtain ⟨Ao36, co36, eo36⟩ := Kd.R_slice HO259.out; subst eo36) | ((with_reducible refine gate_builtin (b := .append) (xs := #[.tmp 25, .tmp 32]) rfl ?_); at_builtin; refine Kd.R_append_rows (Kd.int .u8) (w0 := w) w.heap.size rfl (.tmp 25) (.tmp 32) 31 5 (.int .u8 0) 1 rfl Try.underlying31 info5 rfl (by decide) (by omega) v234 y233 y257 _ _ _ (fun k_ => some k_ ≠ (.slice Ao36 y257.length co36 : Value).ownBlock) (fun _ => False) rfl rfl ?aO ?aR (fun _ _ h => h) (fun _ h => h.elim) ?aF ?aB ?aS ?aL ?_; (case aR => repeat (first | exact (Kd.R_reads' HO259.out).2.2 | (with_reducible refine Kd.C_alloc ?_ _) | (with_reducible refine Kd.C_drewN ?_ _) | (with_reducible refine Kd.C_drew ?_))); (case aB => exact (bel HB)); (case aF => exact (fun k_ hk => Kd.fresh' (Kd.R_lt (mR HO259)) k_ hk)); (case aO => exact (by (with_reducible repeat (first | apply Kd.R_alloc | apply Kd.R_drewN | apply Kd.R_drew)); exact Kd.R_mono HO235.out (fun _ hk => hk.2))); (case aS => exact (below_size (bel HB))); (case aL => have := LMc30.out; omega); intro v261 w35 ho hb hg hat; rw [← Ny260.out] at ho; replace BK232 := Aside0.mk (blk_grown (g := gb232) (o := .cells #[.int .i64 a0_0, .int .i64 a0_1, .int .i64 a0_2, .int .i64 a0_3, .int .i64 a0_4, .int .i64 a0_5, .slice A0_6 l0_6.length c0_6, .bool a0_7, .int .i64 a0_8, .slice A0_9 l0_9.length c0_9, .int .i64 a0_10, .int .i64 a0_11, .int .i64 a0_12, .slice A0_13 l0_13.length c0_13] 40 (0, 0)) (mB BK232) hg (Kd.R_ne HO235.out BK232.out (by decide))); replace HO259 := Aside0.mk (Kd.R_after (ok := (fun _ => True)) (mR HO259) hg hat); replace HB := Aside0.mk hb; have HO262 := Aside0.mk ho; clear HO235; clear ho hb hg hat; have hz37 := cl14 BK232; obtain ⟨Ao38, co38, eo38⟩ := Kd.R_slice HO262.out; subst eo38) | ((with_reducible refine gate_callee (f := 107) rfl ?_); refine goA (some 43) rfl rfl Try.func107 rfl #[.agg #[.int .i64 a0_0, .slice Ao38 y260.length co38]] rfl ?_; (with_reducible refine (spec_l1Pack.calls k a0_0 _ _ y260 t263 _ ?side1 ?side2 A31.out).mono ?_); (case side1 => repeat (first | exact (Kd.R_reads' HO262.out).2.2 | (with_reducible refine Kd.C_alloc ?_ _) | (with_reducible refine Kd.C_drewN ?_ _) | (with_reducible refine Kd.C_drew ?_))); (case side2 => exact (Kd.R_reads' HO262.out).2.1); rintro e w39 ⟨v264, rfl, ho0, hb⟩; refine ⟨_, rfl, ?_⟩; have HO265 := Aside0.mk (Kd.R_lower (Kd.R_new' (Kd.R_new' ho0 (Kd.R_lt (mR HO259))) (Kd.R_lt (mR HO262))) (below_size (bel HB))); replace HO259 := Aside0.mk (Kd.R_elder' (mR HO259) (Kd.R_base ho0) hb); replace HO262 := Aside0.mk (Kd.R_elder' (mR HO262) (Kd.R_base ho0) hb); replace BK232 := bK BK232 hb; replace HB := bS HB hb; (try clear hb); (try clear hb2); (try clear hk); (try clear hi); (try clear ho0)))
    go_ret
    exact ⟨_, by first | rfl | (simp [errW_none, errW_some] <;> rfl) | (simp [*, errW_none, errW_some] <;> rfl), by (with_reducible repeat (first | apply Kd.R_alloc | apply Kd.R_drewN | apply Kd.R_drew)); exact Kd.R_mono HO265.out (fun _ hk => trivial), bel HB⟩
   ·
    rw [if_neg c30] at H
    exact absurd H (by simp)
  ·
   rw [if_neg c29] at H
   have c29b0 : (a0_0 == 3) = false := beq_eq_false_iff_ne.mpr c29
   have c29b1 : (a0_0 != 3) = true := bne_iff_ne.mpr c29
   have c29e := eq_false c29
   by_cases c40 : a0_0 = 2
   ·
    rw [if_pos c40] at H
    have c40b0 : (a0_0 == 2) = true := beq_iff_eq.mpr c40
    have c40b1 : (a0_0 != 2) = false := bne_eq_false_iff_eq.mpr c40
    have c40e := eq_true c40
    clear c40
    replace H := Option.bind_eq_some_iff.mp H
    obtain ⟨t266, A410, H⟩ := H
    replace H : ((spec_l1Pack.f k a0_0 t266).bind fun t269 => (some t269)) = some r := H
    have A41 := Aside0.mk A410
    clear A410
    replace H := Option.bind_eq_some_iff.mp H
    obtain ⟨t269, A420, H⟩ := H
    replace H : (some t269) = some r := H
    have A42 := Aside0.mk A420
    clear A420
    obtain rfl := Option.some.inj H
    have hz43 := cl14 BK232
    go_wp2_with (first | ((with_reducible refine gate_callee (f := 69) rfl ?_); refine goA (some 38) rfl rfl Try.func69 rfl #[.agg #[.slice A0_6 l0_6.length c0_6, .bool a0_7, .int .i64 a0_8, .slice A0_9 l0_9.length c0_9, .int .i64 a0_10, .int .i64 a0_11, .int .i64 a0_12, .slice A0_13 l0_13.length c0_13]] rfl ?_; (with_reducible refine (spec_l3Pack.calls k _ _ l0_6 a0_7 a0_8 _ _ l0_9 a0_10 a0_11 a0_12 _ _ l0_13 t266 _ ?side1 ?side2 ?side3 ?side4 ?side5 ?side6 A41.out).mono ?_); (case side1 => exact mC HR0_6 HB); (case side2 => exact HC0_6.out); (case side3 => exact mC HR0_9 HB); (case side4 => exact HC0_9.out); (case side5 => exact mC HR0_13 HB); (case side6 => exact HC0_13.out); rintro e w44 ⟨v267, rfl, ho0, hb⟩; refine ⟨_, rfl, ?_⟩; have HO268 := Aside0.mk (Kd.R_lower (Kd.R_new' ho0 (Kd.R_lt (mR HO235))) (below_size (bel HB))); replace HO235 := Aside0.mk (Kd.R_elder' (mR HO235) (Kd.R_base ho0) hb); replace BK232 := bK BK232 hb; replace HB := bS HB hb; (try clear hb); (try clear hb2); (try clear hk); (try clear hi); (try clear ho0); have hz45 := cl14 BK232; obtain ⟨Ao46, co46, eo46⟩ := Kd.R_slice HO268.out; subst eo46) | ((with_reducible refine gate_callee (f := 107) rfl ?_); refine goA (some 43) rfl rfl Try.func107 rfl #[.agg #[.int .i64 a0_0, .slice Ao46 t266.length co46]] rfl ?_; (with_reducible refine (spec_l1Pack.calls k a0_0 _ _ t266 t269 _ ?side1 ?side2 A42.out).mono ?_); (case side1 => repeat (first | exact (Kd.R_reads' HO268.out).2.2 | (with_reducible refine Kd.C_alloc ?_ _) | (with_reducible refine Kd.C_drewN ?_ _) | (with_reducible refine Kd.C_drew ?_))); (case side2 => exact (Kd.R_reads' HO268.out).2.1); rintro e w47 ⟨v270, rfl, ho0, hb⟩; refine ⟨_, rfl, ?_⟩; have HO271 := Aside0.mk (Kd.R_lower (Kd.R_new' (Kd.R_new' ho0 (Kd.R_lt (mR HO235))) (Kd.R_lt (mR HO268))) (below_size (bel HB))); replace HO235 := Aside0.mk (Kd.R_elder' (mR HO235) (Kd.R_base ho0) hb); replace HO268 := Aside0.mk (Kd.R_elder' (mR HO268) (Kd.R_base ho0) hb); replace BK232 := bK BK232 hb; replace HB := bS HB hb; (try clear hb); (try clear hb2); (try clear hk); (try clear hi); (try clear ho0)))
    go_ret
    exact ⟨_, by first | rfl | (simp [errW_none, errW_some] <;> rfl) | (simp [*, errW_none, errW_some] <;> rfl), by (with_reducible repeat (first | apply Kd.R_alloc | apply Kd.R_drewN | apply Kd.R_drew)); exact Kd.R_mono HO271.out (fun _ hk => trivial), bel HB⟩
   ·
    rw [if_neg c40] at H
    have c40b0 : (a0_0 == 2) = false := beq_eq_false_iff_ne.mpr c40
    have c40b1 : (a0_0 != 2) = true := bne_iff_ne.mpr c40
    have c40e := eq_false c40
    replace H := Option.bind_eq_some_iff.mp H
    obtain ⟨t272, A480, H⟩ := H
    replace H : (some t272) = some r := H
    have A48 := Aside0.mk A480
    clear A480
    obtain rfl := Option.some.inj H
    have hz49 := cl14 BK232
    obtain ⟨Ao50, co50, eo50⟩ := Kd.R_slice HO235.out
    subst eo50
    go_wp2_with (first | ((with_reducible refine gate_callee (f := 107) rfl ?_); refine goA (some 43) rfl rfl Try.func107 rfl #[.agg #[.int .i64 a0_0, .slice Ao50 y233.length co50]] rfl ?_; (with_reducible refine (spec_l1Pack.calls k a0_0 _ _ y233 t272 _ ?side1 ?side2 A48.out).mono ?_); (case side1 => repeat (first | exact (Kd.R_reads' HO235.out).2.2 | (with_reducible refine Kd.C_alloc ?_ _) | (with_reducible refine Kd.C_drewN ?_ _) | (with_reducible refine Kd.C_drew ?_))); (case side2 => exact (Kd.R_reads' HO235.out).2.1); rintro e w51 ⟨v273, rfl, ho0, hb⟩; refine ⟨_, rfl, ?_⟩; have HO274 := Aside0.mk (Kd.R_lower (Kd.R_new' ho0 (Kd.R_lt (mR HO235))) (below_size (bel HB))); replace HO235 := Aside0.mk (Kd.R_elder' (mR HO235) (Kd.R_base ho0) hb); replace BK232 := bK BK232 hb; replace HB := bS HB hb; (try clear hb); (try clear hb2); (try clear hk); (try clear hi); (try clear ho0)))
    go_ret
    exact ⟨_, by first | rfl | (simp [errW_none, errW_some] <;> rfl) | (simp [*, errW_none, errW_some] <;> rfl), by (with_reducible repeat (first | apply Kd.R_alloc | apply Kd.R_drewN | apply Kd.R_drew)); exact Kd.R_mono HO274.out (fun _ hk => trivial), bel HB⟩

/-! ### spec_PackMessage: function 10 -/
def spec_PackMessage.f (k : Nat) (a0_0 : Int) (a0_1 : Int) (a0_2 : Int) (a0_3 : Int) (a0_4 : Int) (a0_5 : Int) (l0_6 : List (S91)) (a0_7 : Bool) (a0_8 : Int) (l0_9 : List Int) (a0_10 : Int) (a0_11 : Int) (a0_12 : Int) (l0_13 : List (S91)) : Option (Int × List Int) := (spec_MessageFault.f k a0_0 a0_1 a0_2 a0_3 a0_4 a0_5 l0_6 a0_7 a0_8 l0_9 a0_10 a0_11 a0_12 l0_13).bind fun t277 => (if t277 = 0 then ((spec_l4Pack.f k a0_0 a0_1 a0_2 a0_3 a0_4 a0_5 l0_6 a0_7 a0_8 l0_9 a0_10 a0_11 a0_12 l0_13).bind fun t278 => (some (0, t278))) else (some (t277, ([] : List Int))))
theorem spec_PackMessage.mono : ∀ a0 a1 a2 a3 a4 a5 a6 a7 a8 a9 a10 a11 a12 a13 k, LeO (spec_PackMessage.f k a0 a1 a2 a3 a4 a5 a6 a7 a8 a9 a10 a11 a12 a13) (spec_PackMessage.f (k + 1) a0 a1 a2 a3 a4 a5 a6 a7 a8 a9 a10 a11 a12 a13) := by
 intro a0 a1 a2 a3 a4 a5 a6 a7 a8 a9 a10 a11 a12 a13 k
 unfold spec_PackMessage.f
 repeat' first
   | (with_reducible exact spec_MessageFault.mono _ _ _ _ _ _ _ _ _ _ _ _ _ _ _)
   | (with_reducible exact spec_l4Pack.mono _ _ _ _ _ _ _ _ _ _ _ _ _ _ _)
   | (with_reducible exact LeO.refl _)
   | (with_reducible exact LeO.none _)
   | (with_reducible refine LeO.ite ?_ ?_)
   | (with_reducible refine LeO.bind ?_ (fun _ => ?_))
   | exact spec_MessageFault.mono _ _ _ _ _ _ _ _ _ _ _ _ _ _ _
   | exact spec_l4Pack.mono _ _ _ _ _ _ _ _ _ _ _ _ _ _ _
   | exact LeO.none _
   | refine LeO.ite ?_ ?_
   | refine LeO.bind ?_ (fun _ => ?_)
set_option maxHeartbeats 8000000 in
set_option maxRecDepth 100000 in
theorem spec_PackMessage.calls (k : Nat) (a0_0 : Int) (a0_1 : Int) (a0_2 : Int) (a0_3 : Int) (a0_4 : Int) (a0_5 : Int) (A0_6 : Option Addr) (c0_6 : Nat) (l0_6 : List (S91)) (a0_7 : Bool) (a0_8 : Int) (A0_9 : Option Addr) (c0_9 : Nat) (l0_9 : List Int) (a0_10 : Int) (a0_11 : Int) (a0_12 : Int) (A0_13 : Option Addr) (c0_13 : Nat) (l0_13 : List (S91)) (r1 : Int) (r2 : List Int) (w : World) (hr0_6 : Kd.C k91 w A0_6 l0_6.length l0_6) (hc0_6 : l0_6.length ≤ c0_6) (hr0_9 : Kd.C (Kd.int .i64) w A0_9 l0_9.length l0_9) (hc0_9 : l0_9.length ≤ c0_9) (hr0_13 : Kd.C k91 w A0_13 l0_13.length l0_13) (hc0_13 : l0_13.length ≤ c0_13) (h : spec_PackMessage.f k a0_0 a0_1 a0_2 a0_3 a0_4 a0_5 l0_6 a0_7 a0_8 l0_9 a0_10 a0_11 a0_12 l0_13 = some (r1, r2)) :
  Calls Try.prog 10 #[.agg #[.int .i64 a0_0, .int .i64 a0_1, .int .i64 a0_2, .int .i64 a0_3, .int .i64 a0_4, .int .i64 a0_5, .slice A0_6 l0_6.length c0_6, .bool a0_7, .int .i64 a0_8, .slice A0_9 l0_9.length c0_9, .int .i64 a0_10, .int .i64 a0_11, .int .i64 a0_12, .slice A0_13 l0_13.length c0_13]] w fun e w' => ∃ v1_ : Value, e = .returned (.agg #[.int .i64 r1, v1_]) ∧ Kd.R (Kd.int .u8) 5 w' w.heap.size (fun _ => True) v1_ r2 ∧ Below w.heap.size w w' := by
 have hu40 := Try.underlying40
 have hu33 := Try.underlying33
 have hu38 := Try.underlying38
 have hu36 := Try.underlying36
 have HR0_6 := Aside0.mk hr0_6
 have HC0_6 := Aside0.mk hc0_6
 clear hr0_6 hc0_6
 have HR0_9 := Aside0.mk hr0_9
 have HC0_9 := Aside0.mk hc0_9
 clear hr0_9 hc0_9
 have HR0_13 := Aside0.mk hr0_13
 have HC0_13 := Aside0.mk hc0_13
 clear hr0_13 hc0_13
 have HB := Aside0.mk (Below.refl w.heap.size w)
 have H : ((spec_MessageFault.f k a0_0 a0_1 a0_2 a0_3 a0_4 a0_5 l0_6 a0_7 a0_8 l0_9 a0_10 a0_11 a0_12 l0_13).bind fun t277 => (if t277 = 0 then ((spec_l4Pack.f k a0_0 a0_1 a0_2 a0_3 a0_4 a0_5 l0_6 a0_7 a0_8 l0_9 a0_10 a0_11 a0_12 l0_13).bind fun t278 => (some (0, t278))) else (some (t277, ([] : List Int))))) = some (r1, r2) := h
 clear h
 replace H := Option.bind_eq_some_iff.mp H
 obtain ⟨t277, A20, H⟩ := H
 replace H : (if t277 = 0 then ((spec_l4Pack.f k a0_0 a0_1 a0_2 a0_3 a0_4 a0_5 l0_6 a0_7 a0_8 l0_9 a0_10 a0_11 a0_12 l0_13).bind fun t278 => (some (0, t278))) else (some (t277, ([] : List Int)))) = some (r1, r2) := H
 have A2 := Aside0.mk A20
 clear A20
 have H' := Aside0.mk H
 clear H
 go_enter Try.func10, Try.ntmps10
 repeat (first | ((with_reducible refine gate_dst (N := 1) rfl ?_); refine boxE #[.int .i64 a0_0, .int .i64 a0_1, .int .i64 a0_2, .int .i64 a0_3, .int .i64 a0_4, .int .i64 a0_5, .slice A0_6 l0_6.length c0_6, .bool a0_7, .int .i64 a0_8, .slice A0_9 l0_9.length c0_9, .int .i64 a0_10, .int .i64 a0_11, .int .i64 a0_12, .slice A0_13 l0_13.length c0_13] 40 (N := 1) rfl rfl ?_; intro gb275 hg w3 hbox hb; have BK275 := Aside0.mk hbox; have GW275 := gZ HB hg; have GE275 := gZ HB hg; replace HB := bS HB hb; clear hb hbox hg) | ((with_reducible refine gate_dst (N := 2) rfl ?_); refine boxE #[.int .i64 0, .slice none 0 0] 33 (N := 2) rfl rfl ?_; intro gb276 hg w4 hbox hb; have BK276 := Aside0.mk hbox; have GW276 := gZ HB hg; have GE276 := gZ HB hg; replace HB := bS HB hb; have NB275_276 := nL BK275 hg; have NB276_275 := nG BK275 hg; replace BK275 := bK BK275 hb; clear hb hbox hg; have hnb5 := NB275_276.out; have hnc5 := NB276_275.out; have hz6 := cl14 BK275) | ((with_reducible refine gate_callee (f := 50) rfl ?_); refine goA (some 5) rfl rfl Try.func50 rfl #[.agg #[.int .i64 a0_0, .int .i64 a0_1, .int .i64 a0_2, .int .i64 a0_3, .int .i64 a0_4, .int .i64 a0_5, .slice A0_6 l0_6.length c0_6, .bool a0_7, .int .i64 a0_8, .slice A0_9 l0_9.length c0_9, .int .i64 a0_10, .int .i64 a0_11, .int .i64 a0_12, .slice A0_13 l0_13.length c0_13]] rfl ?_; (with_reducible refine (spec_MessageFault.calls k a0_0 a0_1 a0_2 a0_3 a0_4 a0_5 _ _ l0_6 a0_7 a0_8 _ _ l0_9 a0_10 a0_11 a0_12 _ _ l0_13 t277 _ ?side1 ?side2 ?side3 ?side4 ?side5 ?side6 A2.out).mono ?_); (case side1 => exact mC HR0_6 HB); (case side2 => exact HC0_6.out); (case side3 => exact mC HR0_9 HB); (case side4 => exact HC0_9.out); (case side5 => exact mC HR0_13 HB); (case side6 => exact HC0_13.out); rintro e w7 ⟨rfl, hb⟩; refine ⟨_, rfl, ?_⟩; replace BK275 := bK BK275 hb; replace BK276 := bK BK276 hb; replace HB := bS HB hb; (try clear hb); (try clear hb2); (try clear hk); (try clear hi)) | go_values | go_skip | ((with_reducible refine gateG ?gw ?_); (case gw => rfl)) | refine wpList_skip (by rfl) ?_ | refine wp_cond_true rfl ?_ | refine wp_cond_false rfl ?_ | (with_reducible refine iteTr (by first | assumption | omega) ?_) | (with_reducible refine iteFl (by first | assumption | omega) ?_) | ((fail_if_success (with_reducible refine condP ?_)); (fail_if_success (with_reducible refine iteP ?_)); (fail_if_success (with_reducible refine grdP ?_)); go_step) | go_upon | (simp only [Int.not_lt, Int.not_le] at *; go_simp))
 have H := H'.out
 clear H'
 by_cases c8 : t277 = 0
 ·
  rw [if_pos c8] at H
  have c8b0 : (t277 == 0) = true := beq_iff_eq.mpr c8
  have c8b1 : (t277 != 0) = false := bne_eq_false_iff_eq.mpr c8
  have c8e := eq_true c8
  clear c8
  (first | rw [c8b0] | (simp only [i64_w, i32_w]; rw [c8b0]) | skip)
  (try simp only [c8b0, c8b1]); (try (with_reducible refine iteP ?_; simp only [c8e, ↓reduceIte]))
  replace H := Option.bind_eq_some_iff.mp H
  obtain ⟨t278, A90, H⟩ := H
  replace H : (some (0, t278)) = some (r1, r2) := H
  have A9 := Aside0.mk A90
  clear A90
  simp only [Option.some.injEq, Prod.mk.injEq] at H
  obtain ⟨rfl, rfl⟩ := H
  have hnb10 := NB275_276.out
  have hnc10 := NB276_275.out
  have hz11 := cl14 BK275
  go_wp2_with (first | ((with_reducible refine gate_callee (f := 51) rfl ?_); refine goA (some 11) rfl rfl Try.func51 rfl #[.agg #[.int .i64 a0_0, .int .i64 a0_1, .int .i64 a0_2, .int .i64 a0_3, .int .i64 a0_4, .int .i64 a0_5, .slice A0_6 l0_6.length c0_6, .bool a0_7, .int .i64 a0_8, .slice A0_9 l0_9.length c0_9, .int .i64 a0_10, .int .i64 a0_11, .int .i64 a0_12, .slice A0_13 l0_13.length c0_13]] rfl ?_; (with_reducible refine (spec_l4Pack.calls k a0_0 a0_1 a0_2 a0_3 a0_4 a0_5 _ _ l0_6 a0_7 a0_8 _ _ l0_9 a0_10 a0_11 a0_12 _ _ l0_13 t278 _ ?side1 ?side2 ?side3 ?side4 ?side5 ?side6 A9.out).mono ?_); (case side1 => exact mC HR0_6 HB); (case side2 => exact HC0_6.out); (case side3 => exact mC HR0_9 HB); (case side4 => exact HC0_9.out); (case side5 => exact mC HR0_13 HB); (case side6 => exact HC0_13.out); rintro e w12 ⟨v279, rfl, ho0, hb⟩; refine ⟨_, rfl, ?_⟩; have HO280 := Aside0.mk (Kd.R_lower ho0 (below_size (bel HB))); replace BK275 := bK BK275 hb; replace BK276 := bK BK276 hb; replace HB := bS HB hb; (try clear hb); (try clear hb2); (try clear hk); (try clear hi); (try clear ho0); obtain ⟨Ao13, co13, eo13⟩ := Kd.R_slice HO280.out; subst eo13; have hz14 := cl2 BK276))
  refine bodyPost_ret (results_cell_row rfl _ _ gb276 33 #[.int .i64 0, .slice Ao13 t278.length co13] (0, 0) _ rfl (mP BK276) Try.underlying33 rfl (by kernel_rfl)) rfl ?_
  exact ⟨_, by first | rfl | (simp [errW_none, errW_some] <;> rfl) | (simp [*, errW_none, errW_some] <;> rfl), by (with_reducible repeat (first | apply Kd.R_alloc | apply Kd.R_drewN | apply Kd.R_drew)); exact Kd.R_mono (RF (RF (Kd.R_types HO280.out BK276.out (by decide)))) (fun _ hk => trivial), bel HB⟩
 ·
  rw [if_neg c8] at H
  have c8b0 : (t277 == 0) = false := beq_eq_false_iff_ne.mpr c8
  have c8b1 : (t277 != 0) = true := bne_iff_ne.mpr c8
  have c8e := eq_false c8
  (first | rw [c8b0] | (simp only [i64_w, i32_w]; rw [c8b0]) | skip)
  (try simp only [c8b0, c8b1]); (try (with_reducible refine iteP ?_; simp only [c8e, ↓reduceIte]))
  simp only [Option.some.injEq, Prod.mk.injEq] at H
  obtain ⟨rfl, rfl⟩ := H
  have hnb15 := NB276_275.out
  have hnc15 := NB275_276.out
  have hz16 := cl2 BK276
  go_wp2
  refine bodyPost_ret (results_cell_row rfl _ _ gb276 33 #[.int .i64 t277, .slice none 0 0] (0, 0) _ rfl (mP BK276) Try.underlying33 rfl (by kernel_rfl)) rfl ?_
  exact ⟨_, by first | rfl | (simp [errW_none, errW_some] <;> rfl) | (simp [*, errW_none, errW_some] <;> rfl), by first | exact Kd.R_nil _ _ _ _ _ | exact Kd.N_nil _ _ _ _ _ | exact Kd.V_nil _ _ _ _ _ | exact Kd.Q_nil _ _ _ _ _ | exact Kd.S_nil _ _ _ _ _, bel HB⟩

end Go.Proofs.Ytgfoifkkffffgac.PFnExactPackMessage
