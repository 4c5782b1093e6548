-- Laid by a turned copy of the printer (wip/tools/patch_print.py)
import Derived.Test.YtgfoifkkffffgacPFnExactPackMessagex0
import Derived.Test.YtgfoifkkffffgacPFnExactPackMessagex13
import Derived.Test.YtgfoifkkffffgacPFnExactPackMessagex14
import Derived.Test.YtgfoifkkffffgacPFnExactPackMessagex15
import Derived.Test.YtgfoifkkffffgacPFnExactPackMessagex16
namespace Go.Proofs.Ytgfoifkkffffgac.PFnExactPackMessage
open Go.RowKit Go.Proofs.YtgfoifkkffffgacW.PrintWords Go.Proofs.YtgfoifkkffffgacW.PrintLast Go.Proofs.YtgfoifkkffffgacW.PrintMore
attribute [local go_sem] max2_int min2_int max_two min_two max_three min_three max_four min_four   -- for this text's walks alone
set_option linter.unusedVariables false
set_option linter.unusedSimpArgs false

/-! ### impl_Message_frame: function 55 -/
def impl_Message_frame.f (k : Nat) (a0_0 : Int) (a0_1 : Int) (a0_2 : Int) (a0_3 : Int) (a0_4 : Int) (a0_5 : Int) (l0_6 : List (S91)) (a0_7 : Bool) (a0_8 : Int) (l0_9 : List Int) (a0_10 : Int) (a0_11 : Int) (a0_12 : Int) (l0_13 : List (S91)) : Option (Int × List Int) := if a0_0 = 1 then ((impl_putTwo.f ([] : List Int) a0_1).bind fun t467 => ((some (([(a0_2) % 256] : List Int) : List Int)).bind fun y470 => (if t467.length + y470.length < 140737488355328 then ((impl_putTwo.f (t467 ++ y470) a0_3).bind fun t476 => (some (a0_0, t476))) else (none)))) else (if a0_0 = 3 then (some (a0_0, (([(a0_4) % 256, (a0_5) % 256] : List Int)))) else (if a0_0 = 2 then ((impl_packUpdate.f k l0_6 a0_7 a0_8 l0_9 a0_10 a0_11 a0_12 l0_13).bind fun t482 => (some (a0_0, t482))) else (some (a0_0, ([] : List Int)))))
theorem impl_Message_frame.mono : ∀ a0 a1 a2 a3 a4 a5 a6 a7 a8 a9 a10 a11 a12 a13 k, LeO (impl_Message_frame.f k a0 a1 a2 a3 a4 a5 a6 a7 a8 a9 a10 a11 a12 a13) (impl_Message_frame.f (k + 1) a0 a1 a2 a3 a4 a5 a6 a7 a8 a9 a10 a11 a12 a13) := by
 intro a0 a1 a2 a3 a4 a5 a6 a7 a8 a9 a10 a11 a12 a13 k
 unfold impl_Message_frame.f
 repeat' first
   | (with_reducible exact impl_packUpdate.mono _ _ _ _ _ _ _ _ _)
   | (with_reducible exact LeO.refl _)
   | (with_reducible exact LeO.none _)
   | (with_reducible refine LeO.ite ?_ ?_)
   | (with_reducible refine LeO.bind ?_ (fun _ => ?_))
   | exact impl_packUpdate.mono _ _ _ _ _ _ _ _ _
   | exact LeO.none _
   | refine LeO.ite ?_ ?_
   | refine LeO.bind ?_ (fun _ => ?_)
def impl_Message_frame.T4 : Bool × List (List Nat × List Nat) := (true, [([], []), ([0], [0]), ([1], [1]), ([], []), ([3], [3]), ([4], [4]), ([5], [5]), ([2, 6, 2], [2, 6]), ([], []), ([8], [8]), ([7, 9, 7], [7, 9]), ([0, 1, 2, 3, 4, 5, 6, 7, 8, 9, 10], []), ([11, 10, 10, 0, 1, 2, 3, 4, 5, 6, 7, 8, 9, 10], [10, 11])])
def impl_Message_frame.B4 : List Nat := [0, 1, 3, 0, 8, 24, 56, 127, 0, 256, 1023, 2047, 4095]
theorem impl_Message_frame.tab4 : rtab .any (opsOf Try.f55 4) = impl_Message_frame.T4 := by kernel_rfl
theorem impl_Message_frame.bits4 : waitsOk impl_Message_frame.T4.2 impl_Message_frame.B4 = true := by kernel_rfl
set_option maxHeartbeats 8000000 in
set_option maxRecDepth 100000 in
theorem impl_Message_frame.calls (k : Nat) (a0_0 : Int) (a0_1 : Int) (a0_2 : Int) (a0_3 : Int) (a0_4 : Int) (a0_5 : Int) (A0_6 : Option Addr) (c0_6 : Nat) (l0_6 : List (S91)) (a0_7 : Bool) (a0_8 : Int) (A0_9 : Option Addr) (c0_9 : Nat) (l0_9 : List Int) (a0_10 : Int) (a0_11 : Int) (a0_12 : Int) (A0_13 : Option Addr) (c0_13 : Nat) (l0_13 : List (S91)) (r1 : Int) (r2 : List Int) (w : World) (hr0_6 : Kd.C k91 w A0_6 l0_6.length l0_6) (hc0_6 : l0_6.length ≤ c0_6) (hr0_9 : Kd.C (Kd.int .i64) w A0_9 l0_9.length l0_9) (hc0_9 : l0_9.length ≤ c0_9) (hr0_13 : Kd.C k91 w A0_13 l0_13.length l0_13) (hc0_13 : l0_13.length ≤ c0_13) (h : impl_Message_frame.f k a0_0 a0_1 a0_2 a0_3 a0_4 a0_5 l0_6 a0_7 a0_8 l0_9 a0_10 a0_11 a0_12 l0_13 = some (r1, r2)) :
  Calls Try.prog 55 #[.agg #[.int .i64 a0_0, .int .i64 a0_1, .int .i64 a0_2, .int .i64 a0_3, .int .i64 a0_4, .int .i64 a0_5, .slice A0_6 l0_6.length c0_6, .bool a0_7, .int .i64 a0_8, .slice A0_9 l0_9.length c0_9, .int .i64 a0_10, .int .i64 a0_11, .int .i64 a0_12, .slice A0_13 l0_13.length c0_13]] w fun e w' => ∃ v1_ : Value, e = .returned (.agg #[.int .i64 r1, v1_]) ∧ Kd.R (Kd.int .u8) 5 w' w.heap.size (fun _ => True) v1_ r2 ∧ Below w.heap.size w w' := by
 have hu40 := Try.underlying40
 have hu66 := Try.underlying66
 have hu38 := Try.underlying38
 have hu36 := Try.underlying36
 have HR0_6 := Aside0.mk hr0_6
 have HC0_6 := Aside0.mk hc0_6
 clear hr0_6 hc0_6
 have HR0_9 := Aside0.mk hr0_9
 have HC0_9 := Aside0.mk hc0_9
 clear hr0_9 hc0_9
 have HR0_13 := Aside0.mk hr0_13
 have HC0_13 := Aside0.mk hc0_13
 clear hr0_13 hc0_13
 have HB := Aside0.mk (Below.refl w.heap.size w)
 have H : (if a0_0 = 1 then ((impl_putTwo.f ([] : List Int) a0_1).bind fun t467 => ((some (([(a0_2) % 256] : List Int) : List Int)).bind fun y470 => (if t467.length + y470.length < 140737488355328 then ((impl_putTwo.f (t467 ++ y470) a0_3).bind fun t476 => (some (a0_0, t476))) else (none)))) else (if a0_0 = 3 then (some (a0_0, (([(a0_4) % 256, (a0_5) % 256] : List Int)))) else (if a0_0 = 2 then ((impl_packUpdate.f k l0_6 a0_7 a0_8 l0_9 a0_10 a0_11 a0_12 l0_13).bind fun t482 => (some (a0_0, t482))) else (some (a0_0, ([] : List Int)))))) = some (r1, r2) := h
 clear h
 have H' := Aside0.mk H
 clear H
 go_enter Try.func55, Try.ntmps55
 repeat (first | ((with_reducible refine gate_dst (N := 1) rfl ?_); refine boxE #[.int .i64 a0_0, .int .i64 a0_1, .int .i64 a0_2, .int .i64 a0_3, .int .i64 a0_4, .int .i64 a0_5, .slice A0_6 l0_6.length c0_6, .bool a0_7, .int .i64 a0_8, .slice A0_9 l0_9.length c0_9, .int .i64 a0_10, .int .i64 a0_11, .int .i64 a0_12, .slice A0_13 l0_13.length c0_13] 40 (N := 1) rfl rfl ?_; intro gb464 hg w2 hbox hb; have BK464 := Aside0.mk hbox; have GW464 := gZ HB hg; have GE464 := gZ HB hg; replace HB := bS HB hb; clear hb hbox hg) | ((with_reducible refine gate_dst (N := 2) rfl ?_); refine boxE #[.int .i64 0, .slice none 0 0] 66 (N := 2) rfl rfl ?_; intro gb465 hg w3 hbox hb; have BK465 := Aside0.mk hbox; have GW465 := gZ HB hg; have GE465 := gZ HB hg; replace HB := bS HB hb; have NB464_465 := nL BK464 hg; have NB465_464 := nG BK464 hg; replace BK464 := bK BK464 hb; clear hb hbox hg; have hnb4 := NB464_465.out; have hnc4 := NB465_464.out; have hz5 := cl14 BK464) | ((with_reducible refine gate_dst (N := 3) rfl ?_); refine boxE #[.int .i64 0, .slice none 0 0] 66 (N := 3) rfl rfl ?_; intro gb466 hg w6 hbox hb; have BK466 := Aside0.mk hbox; have GW466 := gZ HB hg; have GE466 := gZ HB hg; replace HB := bS HB hb; have NB464_466 := nL BK464 hg; have NB466_464 := nG BK464 hg; replace BK464 := bK BK464 hb; have NB465_466 := nL BK465 hg; have NB466_465 := nG BK465 hg; replace BK465 := bK BK465 hb; clear hb hbox hg; have hnb7 := NB466_464.out; have hnc7 := NB464_466.out; have hnb8 := NB466_465.out; have hnc8 := NB465_466.out; have hz9 := cl2 BK466; have hz10 := cl14 BK464) | go_values | go_skip | ((with_reducible refine gateG ?gw ?_); (case gw => rfl)) | refine wpList_skip (by rfl) ?_ | refine wp_cond_true rfl ?_ | refine wp_cond_false rfl ?_ | (with_reducible refine iteTr (by first | assumption | omega) ?_) | (with_reducible refine iteFl (by first | assumption | omega) ?_) | ((fail_if_success (with_reducible refine condP ?_)); (fail_if_success (with_reducible refine iteP ?_)); (fail_if_success (with_reducible refine grdP ?_)); go_step) | go_upon | (simp only [Int.not_lt, Int.not_le] at *; go_simp))
 have H := H'.out
 clear H'
 by_cases c11 : a0_0 = 1
 ·
  rw [if_pos c11] at H
  have c11b0 : (a0_0 == 1) = true := beq_iff_eq.mpr c11
  have c11b1 : (a0_0 != 1) = false := bne_eq_false_iff_eq.mpr c11
  have c11e := eq_true c11
  clear c11
  (first | rw [c11b0] | (simp only [i64_w, i32_w]; rw [c11b0]) | skip)
  (try simp only [c11b0, c11b1]); (try (with_reducible refine iteP ?_; simp only [c11e, ↓reduceIte]))
  replace H := Option.bind_eq_some_iff.mp H
  obtain ⟨t467, A120, H⟩ := H
  replace H : ((some (([(a0_2) % 256] : List Int) : List Int)).bind fun y470 => (if t467.length + y470.length < 140737488355328 then ((impl_putTwo.f (t467 ++ y470) a0_3).bind fun t476 => (some (a0_0, t476))) else (none))) = some (r1, r2) := H
  have A12 := Aside0.mk A120
  clear A120
  obtain ⟨y470, hy470⟩ : ∃ y_ : List Int, y_ = (([(a0_2) % 256] : List Int)) := ⟨_, rfl⟩
  replace H : (if t467.length + y470.length < 140737488355328 then ((impl_putTwo.f (t467 ++ y470) a0_3).bind fun t476 => (some (a0_0, t476))) else (none)) = some (r1, r2) := by first | (rw [hy470]; with_reducible exact H) | (have H2_ := (Option.bind_some _ _).symm.trans H; rw [hy470]; with_reducible exact H2_) | (have H2_ := (Option.bind_some _ _).symm.trans H; with_reducible exact H2_) | with_reducible exact H | (rw [hy470]; exact H) | exact H
  have Ny470 := Aside0.mk hy470
  clear hy470
  by_cases c13 : t467.length + y470.length < 140737488355328
  ·
   rw [if_pos c13] at H
   have LMc13 := Aside0.mk c13
   clear c13
   obtain ⟨y473, hy473⟩ : ∃ y_ : List Int, y_ = (t467 ++ y470) := ⟨_, rfl⟩
   replace H : ((impl_putTwo.f y473 a0_3).bind fun t476 => (some (a0_0, t476))) = some (r1, r2) := by first | (rw [hy473]; with_reducible exact H) | (have H2_ := (Option.bind_some _ _).symm.trans H; rw [hy473]; with_reducible exact H2_) | (have H2_ := (Option.bind_some _ _).symm.trans H; with_reducible exact H2_) | with_reducible exact H | (rw [hy473]; exact H) | exact H
   have Ny473 := Aside0.mk hy473
   clear hy473
   replace H := Option.bind_eq_some_iff.mp H
   obtain ⟨t476, A140, H⟩ := H
   replace H : (some (a0_0, t476)) = some (r1, r2) := H
   have A14 := Aside0.mk A140
   clear A140
   simp only [Option.some.injEq, Prod.mk.injEq] at H
   obtain ⟨rfl, rfl⟩ := H
   try go_wp2
   have n0_ : Aside0 (((w6.setCell ⟨gb466, 0, none⟩ (.int .i64 a0_0)).setCell ⟨gb466, 1, none⟩ (.slice none 0 0)).heap[gb464]? = some (.cells #[.int .i64 a0_0, .int .i64 a0_1, .int .i64 a0_2, .int .i64 a0_3, .int .i64 a0_4, .int .i64 a0_5, .slice A0_6 l0_6.length c0_6, .bool a0_7, .int .i64 a0_8, .slice A0_9 l0_9.length c0_9, .int .i64 a0_10, .int .i64 a0_11, .int .i64 a0_12, .slice A0_13 l0_13.length c0_13] 40 (0, 0))) := ⟨by (with_reducible repeat (first | refine blk_drewN ?_ _ | refine blk_drew ?_ | refine blk_alloc ?_ _)); refine blk_far ?_ NB464_466.out _; (with_reducible repeat (first | refine blk_drewN ?_ _ | refine blk_drew ?_ | refine blk_alloc ?_ _)); refine blk_far ?_ NB464_466.out _; (with_reducible repeat (first | refine blk_drewN ?_ _ | refine blk_drew ?_ | refine blk_alloc ?_ _)); exact BK464.out⟩
   have n1_ : Aside0 (((w6.setCell ⟨gb466, 0, none⟩ (.int .i64 a0_0)).setCell ⟨gb466, 1, none⟩ (.slice none 0 0)).heap[gb465]? = some (.cells #[.int .i64 0, .slice none 0 0] 66 (0, 0))) := ⟨by (with_reducible repeat (first | refine blk_drewN ?_ _ | refine blk_drew ?_ | refine blk_alloc ?_ _)); refine blk_far ?_ NB465_466.out _; (with_reducible repeat (first | refine blk_drewN ?_ _ | refine blk_drew ?_ | refine blk_alloc ?_ _)); refine blk_far ?_ NB465_466.out _; (with_reducible repeat (first | refine blk_drewN ?_ _ | refine blk_drew ?_ | refine blk_alloc ?_ _)); exact BK465.out⟩
   have n2_ : Aside0 (((w6.setCell ⟨gb466, 0, none⟩ (.int .i64 a0_0)).setCell ⟨gb466, 1, none⟩ (.slice none 0 0)).heap[gb466]? = some (.cells #[.int .i64 a0_0, .slice none 0 0] 66 (0, 0))) := ⟨by (with_reducible repeat (first | refine blk_drewN ?_ _ | refine blk_drew ?_ | refine blk_alloc ?_ _)); refine blk_put (cs := #[.int .i64 a0_0, .slice none 0 0]) ?_ 1 _ rfl; (with_reducible repeat (first | refine blk_drewN ?_ _ | refine blk_drew ?_ | refine blk_alloc ?_ _)); refine blk_put (cs := #[.int .i64 0, .slice none 0 0]) ?_ 0 _ rfl; (with_reducible repeat (first | refine blk_drewN ?_ _ | refine blk_drew ?_ | refine blk_alloc ?_ _)); exact BK466.out⟩
   have n3_ : Aside0 (Below w.heap.size w ((w6.setCell ⟨gb466, 0, none⟩ (.int .i64 a0_0)).setCell ⟨gb466, 1, none⟩ (.slice none 0 0))) := ⟨bel HB⟩
   (try clear BK464)
   (try clear BK465)
   (try clear BK466)
   (try clear HB)
   generalize ((w6.setCell ⟨gb466, 0, none⟩ (.int .i64 a0_0)).setCell ⟨gb466, 1, none⟩ (.slice none 0 0)) = w15 at n0_ n1_ n2_ n3_ ⊢
   have BK464 := n0_
   have BK465 := n1_
   have BK466 := n2_
   have HB := n3_
   clear n0_ n1_ n2_ n3_
   have n0_ := Aside0.mk (blk_drew BK464.out)
   have n1_ := Aside0.mk (blk_drew BK465.out)
   have n2_ := Aside0.mk (blk_drew BK466.out)
   have n3_ := Aside0.mk (below_drew1 HB.out)
   clear BK464
   clear BK465
   clear BK466
   clear HB
   have BK464 := n0_
   have BK465 := n1_
   have BK466 := n2_
   have HB := n3_
   clear n0_ n1_ n2_ n3_
   refine start_ (n := 13) (S := fun w' => w'.cell? ⟨gb464, 0, none⟩ = some (.int .i64 a0_0) ∧ w'.cell? ⟨gb464, 1, none⟩ = some (.int .i64 a0_1) ∧ w'.cell? ⟨gb464, 2, none⟩ = some (.int .i64 a0_2) ∧ w'.cell? ⟨gb464, 3, none⟩ = some (.int .i64 a0_3) ∧ w'.cell? ⟨gb464, 4, none⟩ = some (.int .i64 a0_4) ∧ w'.cell? ⟨gb464, 5, none⟩ = some (.int .i64 a0_5) ∧ w'.cell? ⟨gb464, 6, none⟩ = some (.slice A0_6 l0_6.length c0_6) ∧ w'.cell? ⟨gb464, 7, none⟩ = some (.bool a0_7) ∧ w'.cell? ⟨gb464, 8, none⟩ = some (.int .i64 a0_8) ∧ w'.cell? ⟨gb464, 9, none⟩ = some (.slice A0_9 l0_9.length c0_9) ∧ w'.cell? ⟨gb464, 10, none⟩ = some (.int .i64 a0_10) ∧ w'.cell? ⟨gb464, 11, none⟩ = some (.int .i64 a0_11) ∧ w'.cell? ⟨gb464, 12, none⟩ = some (.int .i64 a0_12) ∧ w'.cell? ⟨gb464, 13, none⟩ = some (.slice A0_13 l0_13.length c0_13)) (ds := []) #[false, false, false, false, false, false, false, false, false, false, false, false, false] (by kernel_rfl) rfl rfl ⟨(blk_cell BK464.out 0).trans rfl, (blk_cell BK464.out 1).trans rfl, (blk_cell BK464.out 2).trans rfl, (blk_cell BK464.out 3).trans rfl, (blk_cell BK464.out 4).trans rfl, (blk_cell BK464.out 5).trans rfl, (blk_cell BK464.out 6).trans rfl, (blk_cell BK464.out 7).trans rfl, (blk_cell BK464.out 8).trans rfl, (blk_cell BK464.out 9).trans rfl, (blk_cell BK464.out 10).trans rfl, (blk_cell BK464.out 11).trans rfl, (blk_cell BK464.out 12).trans rfl, (blk_cell BK464.out 13).trans rfl⟩ (fun hHeld => ?_); refine with_tabW impl_Message_frame.tab4 impl_Message_frame.bits4 (fun HT_ HW_ => ?_)
   generalize w15.drew = w16 at BK464 BK465 BK466 HB hHeld ⊢
   refine pure_ (i := 0) (N := some 11) (v := ?_) (a' := ?_) #[true, false, false, false, false, false, false, false, false, false, false, false, false] rfl rfl (any_of HT_.out (by kernel_rfl)) (fun _ _ _ h => h) (Or.inl ⟨by rfl, ?_⟩) ?_ ?_
   rotate_left
   ·
    intro w'
    go_simp
    with_reducible rfl
   rotate_left
   ·
    simp only [Act.put, List.setIfInBounds_toArray, List.set_cons_zero, List.set_cons_succ, i64_w, i32_w]
    rfl
   refine pure_ (i := 3) (N := some 14) (v := ?_) (a' := ?_) #[true, false, false, true, false, false, false, false, false, false, false, false, false] rfl rfl (any_of HT_.out (by kernel_rfl)) (fun _ _ _ h => h) (Or.inl ⟨by rfl, ?_⟩) ?_ ?_
   rotate_left
   ·
    intro w'
    go_simp
    with_reducible rfl
   rotate_left
   ·
    simp only [Act.put, List.setIfInBounds_toArray, List.set_cons_zero, List.set_cons_succ, i64_w, i32_w]
    rfl
   refine pure_ (i := 8) (N := some 19) (v := ?_) (a' := ?_) #[true, false, false, true, false, false, false, false, true, false, false, false, false] rfl rfl (any_of HT_.out (by kernel_rfl)) (fun _ _ _ h => h) (Or.inl ⟨by rfl, ?_⟩) ?_ ?_
   rotate_left
   ·
    intro w'
    go_simp
    with_reducible rfl
   rotate_left
   ·
    simp only [Act.put, List.setIfInBounds_toArray, List.set_cons_zero, List.set_cons_succ, i64_w, i32_w]
    rfl
   refine take_ (i := 1) (N := some 12) (v := ?_) (a' := ?_) #[true, true, false, true, false, false, false, false, true, false, false, false, false] rfl rfl (take_ofW HT_.out HW_.out (by kernel_rfl)) (fun _ _ _ h => h) (Or.inl ⟨by rfl, ?_⟩) hHeld ?_ ?_
   rotate_left
   ·
    rintro w' ⟨s0, s1, s2, s3, s4, s5, s6, s7, s8, s9, s10, s11, s12, s13⟩
    go_simp
    with_reducible rfl
   rotate_left
   ·
    simp only [Act.put, List.setIfInBounds_toArray, List.set_cons_zero, List.set_cons_succ, i64_w, i32_w]
    rfl
   refine take_ (i := 4) (N := some 15) (v := ?_) (a' := ?_) #[true, true, false, true, true, false, false, false, true, false, false, false, false] rfl rfl (take_ofW HT_.out HW_.out (by kernel_rfl)) (fun _ _ _ h => h) (Or.inl ⟨by rfl, ?_⟩) hHeld ?_ ?_
   rotate_left
   ·
    rintro w' ⟨s0, s1, s2, s3, s4, s5, s6, s7, s8, s9, s10, s11, s12, s13⟩
    go_simp
    with_reducible rfl
   rotate_left
   ·
    simp only [Act.put, List.setIfInBounds_toArray, List.set_cons_zero, List.set_cons_succ, i64_w, i32_w]
    rfl
   refine pure_ (i := 5) (N := some 16) (v := ?_) (a' := ?_) #[true, true, false, true, true, true, false, false, true, false, false, false, false] rfl rfl (any_of HT_.out (by kernel_rfl)) (fun _ _ _ h => h) (Or.inl ⟨by rfl, ?_⟩) ?_ ?_
   rotate_left
   ·
    intro w'
    go_simp
    with_reducible rfl
   rotate_left
   ·
    simp only [Act.put, List.setIfInBounds_toArray, List.set_cons_zero, List.set_cons_succ, i64_w, i32_w]
    rfl
   refine take_ (i := 9) (N := some 20) (v := ?_) (a' := ?_) #[true, true, false, true, true, true, false, false, true, true, false, false, false] rfl rfl (take_ofW HT_.out HW_.out (by kernel_rfl)) (fun _ _ _ h => h) (Or.inl ⟨by rfl, ?_⟩) hHeld ?_ ?_
   rotate_left
   ·
    rintro w' ⟨s0, s1, s2, s3, s4, s5, s6, s7, s8, s9, s10, s11, s12, s13⟩
    go_simp
    with_reducible rfl
   rotate_left
   ·
    simp only [Act.put, List.setIfInBounds_toArray, List.set_cons_zero, List.set_cons_succ, i64_w, i32_w]
    rfl
   refine join_ (σ := Value × Value) 4 #[true, true, true, true, true, true, true, false, true, true, false, false, false] (fun s_ => [(13, s_.1), (17, s_.2)]) (fun s_ w' => (w'.cell? ⟨gb464, 0, none⟩ = some (.int .i64 a0_0) ∧ w'.cell? ⟨gb464, 1, none⟩ = some (.int .i64 a0_1) ∧ w'.cell? ⟨gb464, 2, none⟩ = some (.int .i64 a0_2) ∧ w'.cell? ⟨gb464, 3, none⟩ = some (.int .i64 a0_3) ∧ w'.cell? ⟨gb464, 4, none⟩ = some (.int .i64 a0_4) ∧ w'.cell? ⟨gb464, 5, none⟩ = some (.int .i64 a0_5) ∧ w'.cell? ⟨gb464, 6, none⟩ = some (.slice A0_6 l0_6.length c0_6) ∧ w'.cell? ⟨gb464, 7, none⟩ = some (.bool a0_7) ∧ w'.cell? ⟨gb464, 8, none⟩ = some (.int .i64 a0_8) ∧ w'.cell? ⟨gb464, 9, none⟩ = some (.slice A0_9 l0_9.length c0_9) ∧ w'.cell? ⟨gb464, 10, none⟩ = some (.int .i64 a0_10) ∧ w'.cell? ⟨gb464, 11, none⟩ = some (.int .i64 a0_11) ∧ w'.cell? ⟨gb464, 12, none⟩ = some (.int .i64 a0_12) ∧ w'.cell? ⟨gb464, 13, none⟩ = some (.slice A0_13 l0_13.length c0_13)) ∧ (Kd.R (Kd.int .u8) 5 w' w.heap.size (fun k_ => some k_ ≠ (s_.2 : Value).ownBlock) s_.1 t467) ∧ (Kd.R (Kd.int .u8) 5 w' w.heap.size (fun k_ => some k_ ≠ (s_.1 : Value).ownBlock) s_.2 y470) ∧ (w'.heap[gb464]? = some (.cells #[.int .i64 a0_0, .int .i64 a0_1, .int .i64 a0_2, .int .i64 a0_3, .int .i64 a0_4, .int .i64 a0_5, .slice A0_6 l0_6.length c0_6, .bool a0_7, .int .i64 a0_8, .slice A0_9 l0_9.length c0_9, .int .i64 a0_10, .int .i64 a0_11, .int .i64 a0_12, .slice A0_13 l0_13.length c0_13] 40 (0, 0))) ∧ (w'.heap[gb465]? = some (.cells #[.int .i64 0, .slice none 0 0] 66 (0, 0))) ∧ (w'.heap[gb466]? = some (.cells #[.int .i64 a0_0, .slice none 0 0] 66 (0, 0))) ∧ (Below w.heap.size w w')) ?_ ?_
   rotate_left
   ·
    intro hCont
    refine two_ (i := 2) (j := 6) (Ni := some 13) (Nj := some 17) #[true, true, true, true, true, true, false, false, true, true, false, false, false] #[true, true, false, true, true, true, true, false, true, true, false, false, false] rfl rfl rfl rfl (two_of HT_.out (by kernel_rfl)) (by decide) (by decide) (fun K hK => ?_) (fun K hK => ?_)
    ·
     skip
     refine goes_ Try.func114 (by kernel_rfl) rfl #[.slice none 0 0, .int .i64 a0_1] (by rfl) rfl rfl (by (try simp only [List.map_toArray, List.map_cons, List.map_nil]); first | done | rfl | (simp only [List.length_drop, List.length_take]; rfl)) ?_
     refine (impl_putTwo.calls (fun k_ => some k_ = (.slice none 0 0 : Value).ownBlock) (.slice none 0 0) ([] : List Int) a0_1 t467 w _ ?side1 ?side2 A12.out).mono ?_
     (case side1 => exact bel HB)
     (case side2 => exact Kd.R_nil _ _ _ _ _)
     rintro e w17 ⟨v468, rfl, ho0, hb, hkp⟩
     refine ⟨_, rfl, ?_⟩
     have n0_ := Aside0.mk (blk_kept (mB BK464) hkp (fun hs_ => (fun e_ => by simp [Value.ownBlock] at e_) hs_))
     have n1_ := Aside0.mk (blk_kept (mB BK465) hkp (fun hs_ => (fun e_ => by simp [Value.ownBlock] at e_) hs_))
     have n2_ := Aside0.mk (blk_kept (mB BK466) hkp (fun hs_ => (fun e_ => by simp [Value.ownBlock] at e_) hs_))
     have n3_ := Aside0.mk (Kd.R_mono (ok' := fun k_ => True) ho0 (fun k_ hk_ => trivial))
     have n4_ := Aside0.mk (hb)
     clear BK464
     clear BK465
     clear BK466
     clear HB
     have BK464 := n0_
     have BK465 := n1_
     have BK466 := n2_
     have HO469 := n3_
     have HB := n4_
     clear n0_ n1_ n2_ n3_ n4_
     (try clear hb)
     (try clear hkp)
     (try clear ho0)
     refine hK.out _ _ (ce14 BK464) (fun hHeld => ?_)
     clear hK K
     refine norm_ (a' := ?_) ?_ ?_
     rotate_left
     ·
      show Act.put _ (some 13) _ = _
      simp only [Act.put, List.setIfInBounds_toArray, List.set_cons_zero, List.set_cons_succ, i64_w, i32_w]
      rfl
     refine one_ (i := 6) (N := some 17) #[true, true, true, true, true, true, true, false, true, true, false, false, false] rfl rfl (one_of HT_.out (by kernel_rfl)) (by decide) (fun K hK => ?_)
     refine Kd.R_lit_step (Kd.int .u8) _ 5 ?hg (N := 17) ?hd (xs := ([(a0_2) % 256] : List Int)) (inner := [.int .u8 ((a0_2) % 256)]) (ok := fun _ => True) (okp := fun _ => True) ?hr ?hp (fun _ hk => hk) trivial (Below.refl _ _) (Nat.le_refl _) (by simp) ?_; (case hd => rfl); (case hg => rfl); (case hr => first | (go_simp; done) | (go_simp; rfl)); (case hp => exact (Reps.one (show Kd.M (Kd.int .u8) _ _ _ ((a0_2) % 256) [.int .u8 ((a0_2) % 256)] from rfl) (Reps.none _ _)))
     intro v471 w18 ho19 hb hg_ hnew_
     clear hg_ hnew_
     (first | rw [← Ny470.out] at ho19 | (simp only [Int.reduceToNat] at ho19; rw [← Ny470.out] at ho19))
     have n0_ := Aside0.mk (Kd.R_elder' (mR HO469) (Kd.R_base ho19) hb)
     have n1_ := Aside0.mk (Kd.R_lower (Kd.R_new' ho19 (Kd.R_lt (mR HO469))) (below_size (bel HB)))
     have n2_ := bK BK464 hb
     have n3_ := bK BK465 hb
     have n4_ := bK BK466 hb
     have n5_ := bS HB hb
     clear HO469
     clear BK464
     clear BK465
     clear BK466
     clear HB
     have HO469 := n0_
     have HO472 := n1_
     have BK464 := n2_
     have BK465 := n3_
     have BK466 := n4_
     have HB := n5_
     clear n0_ n1_ n2_ n3_ n4_ n5_
     clear hb ho19
     refine hK.out _ _ (ce14 BK464) (fun hHeld => ?_)
     clear hK K
     refine norm_ (a' := ?_) ?_ ?_
     rotate_left
     ·
      show Act.put _ (some 17) _ = _
      simp only [Act.put, List.setIfInBounds_toArray, List.set_cons_zero, List.set_cons_succ, i64_w, i32_w]
      rfl
     exact norm_ (by simp only [putAll, Act.put, List.setIfInBounds_toArray, List.set_cons_zero, List.set_cons_succ]) (hCont (v468, v471) _ ⟨hHeld, (by (with_reducible repeat (first | apply Kd.R_alloc | apply Kd.R_drewN | apply Kd.R_drew)); exact Kd.R_mono HO469.out (fun _ hk => hk.2)), (by (with_reducible repeat (first | apply Kd.R_alloc | apply Kd.R_drewN | apply Kd.R_drew)); exact Kd.R_mono HO472.out (fun _ hk => hk.2)), (mB BK464), (mB BK465), (mB BK466), (bel HB)⟩)
    ·
     skip
     refine Kd.R_lit_step (Kd.int .u8) _ 5 ?hg (N := 17) ?hd (xs := ([(a0_2) % 256] : List Int)) (inner := [.int .u8 ((a0_2) % 256)]) (ok := fun _ => True) (okp := fun _ => True) ?hr ?hp (fun _ hk => hk) trivial (Below.refl _ _) (Nat.le_refl _) (by simp) ?_; (case hd => rfl); (case hg => rfl); (case hr => first | (go_simp; done) | (go_simp; rfl)); (case hp => exact (Reps.one (show Kd.M (Kd.int .u8) _ _ _ ((a0_2) % 256) [.int .u8 ((a0_2) % 256)] from rfl) (Reps.none _ _)))
     intro v471 w17 ho18 hb hg_ hnew_
     clear hg_ hnew_
     (first | rw [← Ny470.out] at ho18 | (simp only [Int.reduceToNat] at ho18; rw [← Ny470.out] at ho18))
     have n0_ := Aside0.mk (Kd.R_lower ho18 (below_size (bel HB)))
     have n1_ := bK BK464 hb
     have n2_ := bK BK465 hb
     have n3_ := bK BK466 hb
     have n4_ := bS HB hb
     clear BK464
     clear BK465
     clear BK466
     clear HB
     have HO472 := n0_
     have BK464 := n1_
     have BK465 := n2_
     have BK466 := n3_
     have HB := n4_
     clear n0_ n1_ n2_ n3_ n4_
     clear hb ho18
     refine hK.out _ _ (ce14 BK464) (fun hHeld => ?_)
     clear hK K
     refine norm_ (a' := ?_) ?_ ?_
     rotate_left
     ·
      show Act.put _ (some 17) _ = _
      simp only [Act.put, List.setIfInBounds_toArray, List.set_cons_zero, List.set_cons_succ, i64_w, i32_w]
      rfl
     refine one_ (i := 2) (N := some 13) #[true, true, true, true, true, true, true, false, true, true, false, false, false] rfl rfl (one_of HT_.out (by kernel_rfl)) (by decide) (fun K hK => ?_)
     refine goes_ Try.func114 (by kernel_rfl) rfl #[.slice none 0 0, .int .i64 a0_1] (by rfl) rfl rfl (by (try simp only [List.map_toArray, List.map_cons, List.map_nil]); first | done | rfl | (simp only [List.length_drop, List.length_take]; rfl)) ?_
     refine (impl_putTwo.calls (fun k_ => some k_ = (.slice none 0 0 : Value).ownBlock) (.slice none 0 0) ([] : List Int) a0_1 t467 w _ ?side1 ?side2 A12.out).mono ?_
     (case side1 => exact bel HB)
     (case side2 => exact Kd.R_nil _ _ _ _ _)
     rintro e w19 ⟨v468, rfl, ho0, hb, hkp⟩
     refine ⟨_, rfl, ?_⟩
     have n0_ := Aside0.mk (blk_kept (mB BK464) hkp (fun hs_ => (fun e_ => by simp [Value.ownBlock] at e_) hs_))
     have n1_ := Aside0.mk (blk_kept (mB BK465) hkp (fun hs_ => (fun e_ => by simp [Value.ownBlock] at e_) hs_))
     have n2_ := Aside0.mk (blk_kept (mB BK466) hkp (fun hs_ => (fun e_ => by simp [Value.ownBlock] at e_) hs_))
     have n3_ := Aside0.mk (Kd.R_mono (ok' := fun k_ => some k_ ≠ (v468 : Value).ownBlock) (Kd.R_keptB (HO472.out) hkp (fun k_ hk_ hs_ => (fun e_ => by simp [Value.ownBlock] at e_) hs_)) (fun k_ hk_ => fun e_ => Or.elim (ho0.1 k_ e_.symm) (fun hs_ => hk_.2.1 hs_) (fun hn_ => Nat.not_le.2 hk_.2.2 hn_)))
     have n4_ := Aside0.mk (Kd.R_mono (ok' := fun k_ => some k_ ≠ (v471 : Value).ownBlock) ho0 (fun k_ hk_ => Or.elim hk_ (fun hs_ => absurd hs_ (by simp [Value.ownBlock])) (fun hn_ => (Kd.fresh' (Kd.R_lt (mR HO472)) k_ hn_))))
     have n5_ := Aside0.mk (hb)
     clear BK464
     clear BK465
     clear BK466
     clear HO472
     clear HB
     have BK464 := n0_
     have BK465 := n1_
     have BK466 := n2_
     have HO472 := n3_
     have HO469 := n4_
     have HB := n5_
     clear n0_ n1_ n2_ n3_ n4_ n5_
     (try clear hb)
     (try clear hkp)
     (try clear ho0)
     refine hK.out _ _ (ce14 BK464) (fun hHeld => ?_)
     clear hK K
     refine norm_ (a' := ?_) ?_ ?_
     rotate_left
     ·
      show Act.put _ (some 13) _ = _
      simp only [Act.put, List.setIfInBounds_toArray, List.set_cons_zero, List.set_cons_succ, i64_w, i32_w]
      rfl
     exact norm_ (by simp only [putAll, Act.put, List.setIfInBounds_toArray, List.set_cons_zero, List.set_cons_succ]) (hCont (v468, v471) _ ⟨hHeld, (mR HO469), (mR HO472), (mB BK464), (mB BK465), (mB BK466), (bel HB)⟩)
   rintro ⟨v468, v471⟩ w20 ⟨hS_, h0_, h1_, h2_, h3_, h4_, h5_⟩
   have n0_ : Aside0 (Kd.R (Kd.int .u8) 5 w20 w.heap.size (fun k_ => some k_ ≠ (v471 : Value).ownBlock) v468 t467) := ⟨h0_⟩
   have n1_ : Aside0 (Kd.R (Kd.int .u8) 5 w20 w.heap.size (fun k_ => some k_ ≠ (v468 : Value).ownBlock) v471 y470) := ⟨h1_⟩
   have n2_ : Aside0 (w20.heap[gb464]? = some (.cells #[.int .i64 a0_0, .int .i64 a0_1, .int .i64 a0_2, .int .i64 a0_3, .int .i64 a0_4, .int .i64 a0_5, .slice A0_6 l0_6.length c0_6, .bool a0_7, .int .i64 a0_8, .slice A0_9 l0_9.length c0_9, .int .i64 a0_10, .int .i64 a0_11, .int .i64 a0_12, .slice A0_13 l0_13.length c0_13] 40 (0, 0))) := ⟨h2_⟩
   have n3_ : Aside0 (w20.heap[gb465]? = some (.cells #[.int .i64 0, .slice none 0 0] 66 (0, 0))) := ⟨h3_⟩
   have n4_ : Aside0 (w20.heap[gb466]? = some (.cells #[.int .i64 a0_0, .slice none 0 0] 66 (0, 0))) := ⟨h4_⟩
   have n5_ : Aside0 (Below w.heap.size w w20) := ⟨h5_⟩
   clear BK464
   clear BK465
   clear BK466
   clear HB
   clear h0_ h1_ h2_ h3_ h4_ h5_
   have HO469 := n0_
   have HO472 := n1_
   have BK464 := n2_
   have BK465 := n3_
   have BK466 := n4_
   have HB := n5_
   clear n0_ n1_ n2_ n3_ n4_ n5_
   have hHeld : w20.cell? ⟨gb464, 0, none⟩ = some (.int .i64 a0_0) ∧ w20.cell? ⟨gb464, 1, none⟩ = some (.int .i64 a0_1) ∧ w20.cell? ⟨gb464, 2, none⟩ = some (.int .i64 a0_2) ∧ w20.cell? ⟨gb464, 3, none⟩ = some (.int .i64 a0_3) ∧ w20.cell? ⟨gb464, 4, none⟩ = some (.int .i64 a0_4) ∧ w20.cell? ⟨gb464, 5, none⟩ = some (.int .i64 a0_5) ∧ w20.cell? ⟨gb464, 6, none⟩ = some (.slice A0_6 l0_6.length c0_6) ∧ w20.cell? ⟨gb464, 7, none⟩ = some (.bool a0_7) ∧ w20.cell? ⟨gb464, 8, none⟩ = some (.int .i64 a0_8) ∧ w20.cell? ⟨gb464, 9, none⟩ = some (.slice A0_9 l0_9.length c0_9) ∧ w20.cell? ⟨gb464, 10, none⟩ = some (.int .i64 a0_10) ∧ w20.cell? ⟨gb464, 11, none⟩ = some (.int .i64 a0_11) ∧ w20.cell? ⟨gb464, 12, none⟩ = some (.int .i64 a0_12) ∧ w20.cell? ⟨gb464, 13, none⟩ = some (.slice A0_13 l0_13.length c0_13) := hS_
   obtain ⟨Ao22, co22, eo22⟩ := Kd.R_slice HO472.out
   (first | subst eo22 | (injection eo22 with f1_ f2_ f3_; have f4_ := f1_.symm; have f5_ := f3_.symm; clear f1_ f2_ f3_; subst f4_; subst f5_))
   refine norm_ (a' := ?_) ?_ ?_
   rotate_left
   ·
    simp only [putAll, Act.put, List.setIfInBounds_toArray, List.set_cons_zero, List.set_cons_succ]
    rfl
   refine one_ (i := 7) (N := some 18) #[true, true, true, true, true, true, true, true, true, true, false, false, false] rfl rfl (one_of HT_.out (by kernel_rfl)) (by decide) (fun K hK => ?_)
   refine Kd.R_append_rows_step (Kd.int .u8) (w0 := w) w.heap.size (by rfl) (.tmp 13) (.tmp 17) 31 5 (.int .u8 0) 1 rfl Try.underlying31 info5 rfl (by decide) (by omega) v468 t467 y470 _ _ _ (fun k_ => some k_ ≠ (.slice Ao22 y470.length co22 : Value).ownBlock) (fun _ => False) rfl rfl ?aO ?aR (fun _ _ h => h) (fun _ h => h.elim) ?aF ?aB ?aS ?aL ?_
   (case aR => repeat (first | exact (Kd.R_reads' HO472.out).2.2 | (with_reducible refine Kd.C_alloc ?_ _) | (with_reducible refine Kd.C_drewN ?_ _) | (with_reducible refine Kd.C_drew ?_)))
   (case aB => exact (bel HB))
   (case aF => exact (fun k_ hk => Kd.fresh' (Kd.R_lt (mR HO472)) k_ hk))
   (case aO => exact (mR HO469))
   (case aS => exact (below_size (bel HB)))
   (case aL => have := LMc13.out; omega)
   intro v474 w21 ho hb hg hat
   rw [← Ny473.out] at ho
   have n0_ := Aside0.mk (blk_grown (g := gb464) (o := .cells #[.int .i64 a0_0, .int .i64 a0_1, .int .i64 a0_2, .int .i64 a0_3, .int .i64 a0_4, .int .i64 a0_5, .slice A0_6 l0_6.length c0_6, .bool a0_7, .int .i64 a0_8, .slice A0_9 l0_9.length c0_9, .int .i64 a0_10, .int .i64 a0_11, .int .i64 a0_12, .slice A0_13 l0_13.length c0_13] 40 (0, 0)) (mB BK464) hg (Kd.R_ne HO469.out BK464.out (by decide)))
   have n1_ := Aside0.mk (blk_grown (g := gb465) (o := .cells #[.int .i64 0, .slice none 0 0] 66 (0, 0)) (mB BK465) hg (Kd.R_ne HO469.out BK465.out (by decide)))
   have n2_ := Aside0.mk (blk_grown (g := gb466) (o := .cells #[.int .i64 a0_0, .slice none 0 0] 66 (0, 0)) (mB BK466) hg (Kd.R_ne HO469.out BK466.out (by decide)))
   have n3_ := Aside0.mk (Kd.R_after (ok := (fun _ => True)) (by (with_reducible repeat (first | apply Kd.R_alloc | apply Kd.R_drewN | apply Kd.R_drew)); exact Kd.R_mono HO472.out (fun _ hk => ⟨trivial, hk⟩)) hg hat)
   have n4_ := Aside0.mk (hb)
   have n5_ := Aside0.mk (ho)
   clear BK464
   clear BK465
   clear BK466
   clear HO472
   clear HB
   clear HO469
   have BK464 := n0_
   have BK465 := n1_
   have BK466 := n2_
   have HO472 := n3_
   have HB := n4_
   have HO475 := n5_
   clear n0_ n1_ n2_ n3_ n4_ n5_
   clear ho hb hg hat
   obtain ⟨Ao23, co23, eo23⟩ := Kd.R_slice HO475.out
   (first | subst eo23 | (injection eo23 with f1_ f2_ f3_; have f4_ := f1_.symm; have f5_ := f3_.symm; clear f1_ f2_ f3_; subst f4_; subst f5_))
   refine hK.out _ _ (ce14 BK464) (fun hHeld => ?_)
   clear hK K
   refine norm_ (a' := ?_) ?_ ?_
   rotate_left
   ·
    show Act.put _ (some 18) _ = _
    simp only [Act.put, List.setIfInBounds_toArray, List.set_cons_zero, List.set_cons_succ, i64_w, i32_w]
    rfl
   refine one_ (i := 10) (N := some 21) #[true, true, true, true, true, true, true, true, true, true, true, false, false] rfl rfl (one_of HT_.out (by kernel_rfl)) (by decide) (fun K hK => ?_)
   refine goes_ Try.func114 (by kernel_rfl) rfl #[.slice Ao23 y473.length co23, .int .i64 a0_3] (by rfl) rfl rfl (by (try simp only [List.map_toArray, List.map_cons, List.map_nil]); first | done | rfl | (simp only [List.length_drop, List.length_take]; rfl)) ?_
   with_reducible refine (impl_putTwo.calls (fun k_ => some k_ = (.slice Ao23 y473.length co23 : Value).ownBlock) (.slice Ao23 y473.length co23) y473 a0_3 t476 w _ ?side1 ?side2 A14.out).mono ?_
   (case side1 => exact bel HB)
   (case side2 => exact Kd.R_tight rfl HO475.out)
   rintro e w24 ⟨v477, rfl, ho0, hb, hkp⟩
   refine ⟨_, rfl, ?_⟩
   have n0_ := Aside0.mk (blk_kept (mB BK464) hkp (fun hs_ => (fun e_ => (Kd.R_ne HO475.out BK464.out (by decide)) e_) hs_))
   have n1_ := Aside0.mk (blk_kept (mB BK465) hkp (fun hs_ => (fun e_ => (Kd.R_ne HO475.out BK465.out (by decide)) e_) hs_))
   have n2_ := Aside0.mk (blk_kept (mB BK466) hkp (fun hs_ => (fun e_ => (Kd.R_ne HO475.out BK466.out (by decide)) e_) hs_))
   have n3_ := Aside0.mk (Kd.R_mono (ok' := fun k_ => some k_ ≠ (v477 : Value).ownBlock) (Kd.R_keptB (HO472.out) hkp (fun k_ hk_ hs_ => (hk_.2) hs_)) (fun k_ hk_ => fun e_ => Or.elim (ho0.1 k_ e_.symm) (fun hs_ => hk_.2.1 hs_) (fun hn_ => Nat.not_le.2 hk_.2.2 hn_)))
   have n4_ := Aside0.mk (Kd.R_mono (ok' := fun k_ => some k_ ≠ (.slice Ao22 y470.length co22 : Value).ownBlock) ho0 (fun k_ hk_ => Or.elim hk_ (fun hs_ => fun e_ => (((HO472.out).1 k_ e_.symm).2) hs_) (fun hn_ => (Kd.fresh' (Kd.R_lt (mR HO472)) k_ hn_))))
   have n5_ := Aside0.mk (hb)
   clear BK464
   clear BK465
   clear BK466
   clear HO472
   clear HB
   clear HO475
   have BK464 := n0_
   have BK465 := n1_
   have BK466 := n2_
   have HO472 := n3_
   have HO478 := n4_
   have HB := n5_
   clear n0_ n1_ n2_ n3_ n4_ n5_
   (try clear hb)
   (try clear hkp)
   (try clear ho0)
   obtain ⟨Ao25, co25, eo25⟩ := Kd.R_slice HO478.out
   (first | subst eo25 | (injection eo25 with f1_ f2_ f3_; have f4_ := f1_.symm; have f5_ := f3_.symm; clear f1_ f2_ f3_; subst f4_; subst f5_))
   refine hK.out _ _ (ce14 BK464) (fun hHeld => ?_)
   clear hK K
   refine norm_ (a' := ?_) ?_ ?_
   rotate_left
   ·
    show Act.put _ (some 21) _ = _
    simp only [Act.put, List.setIfInBounds_toArray, List.set_cons_zero, List.set_cons_succ, i64_w, i32_w]
    rfl
   refine pure_ (i := 11) (N := some 22) (v := ?_) (a' := ?_) #[true, true, true, true, true, true, true, true, true, true, true, true, false] rfl rfl (any_of HT_.out (by kernel_rfl)) (fun _ _ _ h => h) (Or.inl ⟨by rfl, ?_⟩) ?_ ?_
   rotate_left
   ·
    intro w'
    go_simp
    with_reducible rfl
   rotate_left
   ·
    simp only [Act.put, List.setIfInBounds_toArray, List.set_cons_zero, List.set_cons_succ, i64_w, i32_w]
    rfl
   refine one_ (i := 12) (N := none) #[true, true, true, true, true, true, true, true, true, true, true, true, true] rfl rfl (one_of HT_.out (by kernel_rfl)) (by decide) (fun K hK => ?_)
   have hs26 : w24.cell? ⟨gb466, 1, none⟩ = some (.slice none 0 0) := (blk_cell BK466.out 1).trans rfl
   have hfs26 := blk_frozen BK466.out 1
   have hns26_0 := NB464_466.out
   have hns26_1 := NB465_466.out
   have hms26_0 := NB466_464.out
   have hms26_1 := NB466_465.out
   refine skip_ (w1 := ?_) (by rfl) rfl ?_ ?_
   rotate_left
   ·
    go_simp
    rfl
   refine hK.out _ _ ⟨((cell_far (p := ⟨gb466, _, none⟩) NB464_466.out _).trans (hHeld.1)), ((cell_far (p := ⟨gb466, _, none⟩) NB464_466.out _).trans (hHeld.2.1)), ((cell_far (p := ⟨gb466, _, none⟩) NB464_466.out _).trans (hHeld.2.2.1)), ((cell_far (p := ⟨gb466, _, none⟩) NB464_466.out _).trans (hHeld.2.2.2.1)), ((cell_far (p := ⟨gb466, _, none⟩) NB464_466.out _).trans (hHeld.2.2.2.2.1)), ((cell_far (p := ⟨gb466, _, none⟩) NB464_466.out _).trans (hHeld.2.2.2.2.2.1)), ((cell_far (p := ⟨gb466, _, none⟩) NB464_466.out _).trans (hHeld.2.2.2.2.2.2.1)), ((cell_far (p := ⟨gb466, _, none⟩) NB464_466.out _).trans (hHeld.2.2.2.2.2.2.2.1)), ((cell_far (p := ⟨gb466, _, none⟩) NB464_466.out _).trans (hHeld.2.2.2.2.2.2.2.2.1)), ((cell_far (p := ⟨gb466, _, none⟩) NB464_466.out _).trans (hHeld.2.2.2.2.2.2.2.2.2.1)), ((cell_far (p := ⟨gb466, _, none⟩) NB464_466.out _).trans (hHeld.2.2.2.2.2.2.2.2.2.2.1)), ((cell_far (p := ⟨gb466, _, none⟩) NB464_466.out _).trans (hHeld.2.2.2.2.2.2.2.2.2.2.2.1)), ((cell_far (p := ⟨gb466, _, none⟩) NB464_466.out _).trans (hHeld.2.2.2.2.2.2.2.2.2.2.2.2.1)), ((cell_far (p := ⟨gb466, _, none⟩) NB464_466.out _).trans (hHeld.2.2.2.2.2.2.2.2.2.2.2.2.2))⟩ (fun hHeld => ?_)
   clear hK K
   refine done_ (done_of HT_.out (by kernel_rfl)) ?_
   have hnb27 := NB466_464.out
   have hnc27 := NB464_466.out
   have hnb28 := NB466_465.out
   have hnc28 := NB465_466.out
   have hz29 := cl2 BK466
   have hnb30 := NB465_464.out
   have hnc30 := NB464_465.out
   have hz31 := cl2 BK465
   try go_wp2
   refine bodyPost_ret (results_cell_row rfl _ _ gb465 66 #[.int .i64 a0_0, .slice Ao25 t476.length co25] (0, 0) _ rfl (mP BK465) Try.underlying66 rfl (by kernel_rfl)) rfl ?_
   exact ⟨_, by first | rfl | (simp [errW_none, errW_some] <;> rfl) | (simp [*, errW_none, errW_some] <;> rfl), by (with_reducible repeat (first | apply Kd.R_alloc | apply Kd.R_drewN | apply Kd.R_drew)); exact Kd.R_mono (RF (RF (Kd.R_far (p := ⟨gb466, 1, none⟩) (Kd.R_types (Kd.R_types HO478.out BK466.out (by decide)) BK465.out (by decide)) (fun _ hk => hk.1.2) (.slice Ao25 t476.length co25)))) (fun _ hk => trivial), bel HB⟩
  ·
   rw [if_neg c13] at H
   exact absurd H (by simp)
 ·
  rw [if_neg c11] at H
  have c11b0 : (a0_0 == 1) = false := beq_eq_false_iff_ne.mpr c11
  have c11b1 : (a0_0 != 1) = true := bne_iff_ne.mpr c11
  have c11e := eq_false c11
  (first | rw [c11b0] | (simp only [i64_w, i32_w]; rw [c11b0]) | skip)
  (try simp only [c11b0, c11b1]); (try (with_reducible refine iteP ?_; simp only [c11e, ↓reduceIte]))
  by_cases c32 : a0_0 = 3
  ·
   rw [if_pos c32] at H
   have c32b0 : (a0_0 == 3) = true := beq_iff_eq.mpr c32
   have c32b1 : (a0_0 != 3) = false := bne_eq_false_iff_eq.mpr c32
   have c32e := eq_true c32
   clear c32
   obtain ⟨y479, hy479⟩ : ∃ y_ : List Int, y_ = (([(a0_4) % 256, (a0_5) % 256] : List Int)) := ⟨_, rfl⟩
   replace H : (some (a0_0, y479)) = some (r1, r2) := by first | (rw [hy479]; with_reducible exact H) | (have H2_ := (Option.bind_some _ _).symm.trans H; rw [hy479]; with_reducible exact H2_) | (have H2_ := (Option.bind_some _ _).symm.trans H; with_reducible exact H2_) | with_reducible exact H | (rw [hy479]; exact H) | exact H
   have Ny479 := Aside0.mk hy479
   clear hy479
   simp only [Option.some.injEq, Prod.mk.injEq] at H
   obtain ⟨rfl, rfl⟩ := H
   have hnb33 := NB464_465.out
   have hnc33 := NB465_464.out
   have hnb34 := NB464_466.out
   have hnc34 := NB466_464.out
   have hz35 := cl14 BK464
   go_wp2_with (first | ((with_reducible refine gate_dst (N := 31) rfl ?_); refine Kd.R_lit (Kd.int .u8) _ 5 ?hg (N := 31) ?hd (xs := ([(a0_4) % 256, (a0_5) % 256] : List Int)) (inner := [.int .u8 ((a0_4) % 256), .int .u8 ((a0_5) % 256)]) (ok := fun _ => True) (okp := fun _ => True) ?hr ?hp (fun _ hk => hk) trivial (Below.refl _ _) (Nat.le_refl _) (by simp) ?_; (case hd => rfl); (case hg => rfl); (case hr => first | (go_simp; done) | (go_simp; rfl)); (case hp => exact (Reps.one (show Kd.M (Kd.int .u8) _ _ _ ((a0_4) % 256) [.int .u8 ((a0_4) % 256)] from rfl) (Reps.one (show Kd.M (Kd.int .u8) _ _ _ ((a0_5) % 256) [.int .u8 ((a0_5) % 256)] from rfl) (Reps.none _ _)))); intro v480 w36 ho37 hb hg_ hnew_; clear hg_ hnew_; (first | rw [← Ny479.out] at ho37 | (simp only [Int.reduceToNat] at ho37; rw [← Ny479.out] at ho37)); have HO481 := Aside0.mk (Kd.R_lower ho37 (below_size (bel HB))); replace BK464 := Aside0.mk (blk_below (g := gb464) (o := .cells #[.int .i64 a0_0, .int .i64 a0_1, .int .i64 a0_2, .int .i64 a0_3, .int .i64 a0_4, .int .i64 a0_5, .slice A0_6 l0_6.length c0_6, .bool a0_7, .int .i64 a0_8, .slice A0_9 l0_9.length c0_9, .int .i64 a0_10, .int .i64 a0_11, .int .i64 a0_12, .slice A0_13 l0_13.length c0_13] 40 (0, 0)) (mP BK464) hb); replace BK465 := Aside0.mk (blk_below (g := gb465) (o := .cells #[.int .i64 0, .slice none 0 0] 66 (0, 0)) (mP BK465) hb); replace BK466 := Aside0.mk (blk_below (g := gb466) (o := .cells #[.int .i64 a0_0, .slice none 0 0] 66 (0, 0)) (mP BK466) hb); replace HB := bS HB hb; clear hb ho37; obtain ⟨Ao38, co38, eo38⟩ := Kd.R_slice HO481.out; subst eo38; have hnb39 := NB466_465.out; have hnc39 := NB465_466.out; have hz40 := cl2 BK466; have hz41 := cl2 BK465))
   refine bodyPost_ret (results_cell_row rfl _ _ gb465 66 #[.int .i64 a0_0, .slice Ao38 y479.length co38] (0, 0) _ rfl (mP BK465) Try.underlying66 rfl (by kernel_rfl)) rfl ?_
   exact ⟨_, by first | rfl | (simp [errW_none, errW_some] <;> rfl) | (simp [*, errW_none, errW_some] <;> rfl), by (with_reducible repeat (first | apply Kd.R_alloc | apply Kd.R_drewN | apply Kd.R_drew)); exact Kd.R_mono (RF (RF (Kd.R_far (p := ⟨gb466, 1, none⟩) (Kd.R_types (Kd.R_types HO481.out BK466.out (by decide)) BK465.out (by decide)) (fun _ hk => hk.1.2) (.slice Ao38 y479.length co38)))) (fun _ hk => trivial), bel HB⟩
  ·
   rw [if_neg c32] at H
   have c32b0 : (a0_0 == 3) = false := beq_eq_false_iff_ne.mpr c32
   have c32b1 : (a0_0 != 3) = true := bne_iff_ne.mpr c32
   have c32e := eq_false c32
   by_cases c42 : a0_0 = 2
   ·
    rw [if_pos c42] at H
    have c42b0 : (a0_0 == 2) = true := beq_iff_eq.mpr c42
    have c42b1 : (a0_0 != 2) = false := bne_eq_false_iff_eq.mpr c42
    have c42e := eq_true c42
    clear c42
    replace H := Option.bind_eq_some_iff.mp H
    obtain ⟨t482, A430, H⟩ := H
    replace H : (some (a0_0, t482)) = some (r1, r2) := H
    have A43 := Aside0.mk A430
    clear A430
    simp only [Option.some.injEq, Prod.mk.injEq] at H
    obtain ⟨rfl, rfl⟩ := H
    have hnb44 := NB464_465.out
    have hnc44 := NB465_464.out
    have hnb45 := NB464_466.out
    have hnc45 := NB466_464.out
    have hz46 := cl14 BK464
    go_wp2_with (first | ((with_reducible refine gate_callee (f := 72) rfl ?_); refine goA (some 37) rfl rfl Try.func72 rfl #[.agg #[.slice A0_6 l0_6.length c0_6, .bool a0_7, .int .i64 a0_8, .slice A0_9 l0_9.length c0_9, .int .i64 a0_10, .int .i64 a0_11, .int .i64 a0_12, .slice A0_13 l0_13.length c0_13]] rfl ?_; (with_reducible refine (impl_packUpdate.calls k _ _ l0_6 a0_7 a0_8 _ _ l0_9 a0_10 a0_11 a0_12 _ _ l0_13 t482 _ ?side1 ?side2 ?side3 ?side4 ?side5 ?side6 A43.out).mono ?_); (case side1 => exact Kd.C_below HR0_6.out (bel HB)); (case side2 => exact HC0_6.out); (case side3 => exact Kd.C_below HR0_9.out (bel HB)); (case side4 => exact HC0_9.out); (case side5 => exact Kd.C_below HR0_13.out (bel HB)); (case side6 => exact HC0_13.out); rintro e w47 ⟨v483, rfl, ho0, hb⟩; refine ⟨_, rfl, ?_⟩; have HO484 := Aside0.mk (Kd.R_lower ho0 (below_size (bel HB))); replace BK464 := Aside0.mk (blk_below (g := gb464) (o := .cells #[.int .i64 a0_0, .int .i64 a0_1, .int .i64 a0_2, .int .i64 a0_3, .int .i64 a0_4, .int .i64 a0_5, .slice A0_6 l0_6.length c0_6, .bool a0_7, .int .i64 a0_8, .slice A0_9 l0_9.length c0_9, .int .i64 a0_10, .int .i64 a0_11, .int .i64 a0_12, .slice A0_13 l0_13.length c0_13] 40 (0, 0)) (mP BK464) hb); replace BK465 := Aside0.mk (blk_below (g := gb465) (o := .cells #[.int .i64 0, .slice none 0 0] 66 (0, 0)) (mP BK465) hb); replace BK466 := Aside0.mk (blk_below (g := gb466) (o := .cells #[.int .i64 a0_0, .slice none 0 0] 66 (0, 0)) (mP BK466) hb); replace HB := bS HB hb; (try clear hb); (try clear hb2); (try clear hk); (try clear hi); (try clear ho0); obtain ⟨Ao48, co48, eo48⟩ := Kd.R_slice HO484.out; subst eo48; have hnb49 := NB466_465.out; have hnc49 := NB465_466.out; have hz50 := cl2 BK466; have hz51 := cl2 BK465))
    refine bodyPost_ret (results_cell_row rfl _ _ gb465 66 #[.int .i64 a0_0, .slice Ao48 t482.length co48] (0, 0) _ rfl (mP BK465) Try.underlying66 rfl (by kernel_rfl)) rfl ?_
    exact ⟨_, by first | rfl | (simp [errW_none, errW_some] <;> rfl) | (simp [*, errW_none, errW_some] <;> rfl), by (with_reducible repeat (first | apply Kd.R_alloc | apply Kd.R_drewN | apply Kd.R_drew)); exact Kd.R_mono (RF (RF (Kd.R_far (p := ⟨gb466, 1, none⟩) (Kd.R_types (Kd.R_types HO484.out BK466.out (by decide)) BK465.out (by decide)) (fun _ hk => hk.1.2) (.slice Ao48 t482.length co48)))) (fun _ hk => trivial), bel HB⟩
   ·
    rw [if_neg c42] at H
    have c42b0 : (a0_0 == 2) = false := beq_eq_false_iff_ne.mpr c42
    have c42b1 : (a0_0 != 2) = true := bne_iff_ne.mpr c42
    have c42e := eq_false c42
    simp only [Option.some.injEq, Prod.mk.injEq] at H
    obtain ⟨rfl, rfl⟩ := H
    have hnb52 := NB466_464.out
    have hnc52 := NB464_466.out
    have hnb53 := NB466_465.out
    have hnc53 := NB465_466.out
    have hz54 := cl2 BK466
    have hnb55 := NB465_464.out
    have hnc55 := NB464_465.out
    have hz56 := cl2 BK465
    go_wp2
    refine bodyPost_ret (results_cell_row rfl _ _ gb465 66 #[.int .i64 a0_0, .slice none 0 0] (0, 0) _ rfl (mP BK465) Try.underlying66 rfl (by kernel_rfl)) rfl ?_
    exact ⟨_, by first | rfl | (simp [errW_none, errW_some] <;> rfl) | (simp [*, errW_none, errW_some] <;> rfl), by first | exact Kd.R_nil _ _ _ _ _ | exact Kd.N_nil _ _ _ _ _ | exact Kd.V_nil _ _ _ _ _ | exact Kd.Q_nil _ _ _ _ _ | exact Kd.S_nil _ _ _ _ _, bel HB⟩

/-! ### impl_PackMessage: function 12 -/
def impl_PackMessage.f (k : Nat) (a0_0 : Int) (a0_1 : Int) (a0_2 : Int) (a0_3 : Int) (a0_4 : Int) (a0_5 : Int) (l0_6 : List (S91)) (a0_7 : Bool) (a0_8 : Int) (l0_9 : List Int) (a0_10 : Int) (a0_11 : Int) (a0_12 : Int) (l0_13 : List (S91)) : Option (Int × List Int) := (impl_MessageFault.f k a0_0 a0_1 a0_2 a0_3 a0_4 a0_5 l0_6 a0_7 a0_8 l0_9 a0_10 a0_11 a0_12 l0_13).bind fun t487 => (if t487 = 0 then ((impl_Message_frame.f k a0_0 a0_1 a0_2 a0_3 a0_4 a0_5 l0_6 a0_7 a0_8 l0_9 a0_10 a0_11 a0_12 l0_13).bind fun bt488 => ((impl_PackFrame.f bt488.1 bt488.2).bind fun bt492 => (some (bt492.1, bt492.2)))) else (some (t487, ([] : List Int))))
theorem impl_PackMessage.mono : ∀ a0 a1 a2 a3 a4 a5 a6 a7 a8 a9 a10 a11 a12 a13 k, LeO (impl_PackMessage.f k a0 a1 a2 a3 a4 a5 a6 a7 a8 a9 a10 a11 a12 a13) (impl_PackMessage.f (k + 1) a0 a1 a2 a3 a4 a5 a6 a7 a8 a9 a10 a11 a12 a13) := by
 intro a0 a1 a2 a3 a4 a5 a6 a7 a8 a9 a10 a11 a12 a13 k
 unfold impl_PackMessage.f
 repeat' first
   | (with_reducible exact impl_MessageFault.mono _ _ _ _ _ _ _ _ _ _ _ _ _ _ _)
   | (with_reducible exact impl_Message_frame.mono _ _ _ _ _ _ _ _ _ _ _ _ _ _ _)
   | (with_reducible exact LeO.refl _)
   | (with_reducible exact LeO.none _)
   | (with_reducible refine LeO.ite ?_ ?_)
   | (with_reducible refine LeO.bind ?_ (fun _ => ?_))
   | exact impl_MessageFault.mono _ _ _ _ _ _ _ _ _ _ _ _ _ _ _
   | exact impl_Message_frame.mono _ _ _ _ _ _ _ _ _ _ _ _ _ _ _
   | exact LeO.none _
   | refine LeO.ite ?_ ?_
   | refine LeO.bind ?_ (fun _ => ?_)
set_option maxHeartbeats 8000000 in
set_option maxRecDepth 100000 in
theorem impl_PackMessage.calls (k : Nat) (a0_0 : Int) (a0_1 : Int) (a0_2 : Int) (a0_3 : Int) (a0_4 : Int) (a0_5 : Int) (A0_6 : Option Addr) (c0_6 : Nat) (l0_6 : List (S91)) (a0_7 : Bool) (a0_8 : Int) (A0_9 : Option Addr) (c0_9 : Nat) (l0_9 : List Int) (a0_10 : Int) (a0_11 : Int) (a0_12 : Int) (A0_13 : Option Addr) (c0_13 : Nat) (l0_13 : List (S91)) (r1 : Int) (r2 : List Int) (w : World) (hr0_6 : Kd.C k91 w A0_6 l0_6.length l0_6) (hc0_6 : l0_6.length ≤ c0_6) (hr0_9 : Kd.C (Kd.int .i64) w A0_9 l0_9.length l0_9) (hc0_9 : l0_9.length ≤ c0_9) (hr0_13 : Kd.C k91 w A0_13 l0_13.length l0_13) (hc0_13 : l0_13.length ≤ c0_13) (h : impl_PackMessage.f k a0_0 a0_1 a0_2 a0_3 a0_4 a0_5 l0_6 a0_7 a0_8 l0_9 a0_10 a0_11 a0_12 l0_13 = some (r1, r2)) :
  Calls Try.prog 12 #[.agg #[.int .i64 a0_0, .int .i64 a0_1, .int .i64 a0_2, .int .i64 a0_3, .int .i64 a0_4, .int .i64 a0_5, .slice A0_6 l0_6.length c0_6, .bool a0_7, .int .i64 a0_8, .slice A0_9 l0_9.length c0_9, .int .i64 a0_10, .int .i64 a0_11, .int .i64 a0_12, .slice A0_13 l0_13.length c0_13]] w fun e w' => ∃ v1_ : Value, e = .returned (.agg #[.int .i64 r1, v1_]) ∧ Kd.R (Kd.int .u8) 5 w' w.heap.size (fun _ => True) v1_ r2 ∧ Below w.heap.size w w' := by
 have hu40 := Try.underlying40
 have hu33 := Try.underlying33
 have hu38 := Try.underlying38
 have hu36 := Try.underlying36
 have HR0_6 := Aside0.mk hr0_6
 have HC0_6 := Aside0.mk hc0_6
 clear hr0_6 hc0_6
 have HR0_9 := Aside0.mk hr0_9
 have HC0_9 := Aside0.mk hc0_9
 clear hr0_9 hc0_9
 have HR0_13 := Aside0.mk hr0_13
 have HC0_13 := Aside0.mk hc0_13
 clear hr0_13 hc0_13
 have HB := Aside0.mk (Below.refl w.heap.size w)
 have H : ((impl_MessageFault.f k a0_0 a0_1 a0_2 a0_3 a0_4 a0_5 l0_6 a0_7 a0_8 l0_9 a0_10 a0_11 a0_12 l0_13).bind fun t487 => (if t487 = 0 then ((impl_Message_frame.f k a0_0 a0_1 a0_2 a0_3 a0_4 a0_5 l0_6 a0_7 a0_8 l0_9 a0_10 a0_11 a0_12 l0_13).bind fun bt488 => ((impl_PackFrame.f bt488.1 bt488.2).bind fun bt492 => (some (bt492.1, bt492.2)))) else (some (t487, ([] : List Int))))) = some (r1, r2) := h
 clear h
 replace H := Option.bind_eq_some_iff.mp H
 obtain ⟨t487, A20, H⟩ := H
 replace H : (if t487 = 0 then ((impl_Message_frame.f k a0_0 a0_1 a0_2 a0_3 a0_4 a0_5 l0_6 a0_7 a0_8 l0_9 a0_10 a0_11 a0_12 l0_13).bind fun bt488 => ((impl_PackFrame.f bt488.1 bt488.2).bind fun bt492 => (some (bt492.1, bt492.2)))) else (some (t487, ([] : List Int)))) = some (r1, r2) := H
 have A2 := Aside0.mk A20
 clear A20
 have H' := Aside0.mk H
 clear H
 go_enter Try.func12, Try.ntmps12
 repeat (first | ((with_reducible refine gate_dst (N := 1) rfl ?_); refine boxE #[.int .i64 a0_0, .int .i64 a0_1, .int .i64 a0_2, .int .i64 a0_3, .int .i64 a0_4, .int .i64 a0_5, .slice A0_6 l0_6.length c0_6, .bool a0_7, .int .i64 a0_8, .slice A0_9 l0_9.length c0_9, .int .i64 a0_10, .int .i64 a0_11, .int .i64 a0_12, .slice A0_13 l0_13.length c0_13] 40 (N := 1) rfl rfl ?_; intro gb485 hg w3 hbox hb; have BK485 := Aside0.mk hbox; have GW485 := gZ HB hg; have GE485 := gZ HB hg; replace HB := bS HB hb; clear hb hbox hg) | ((with_reducible refine gate_dst (N := 2) rfl ?_); refine boxE #[.int .i64 0, .slice none 0 0] 33 (N := 2) rfl rfl ?_; intro gb486 hg w4 hbox hb; have BK486 := Aside0.mk hbox; have GW486 := gZ HB hg; have GE486 := gZ HB hg; replace HB := bS HB hb; have NB485_486 := nL BK485 hg; have NB486_485 := nG BK485 hg; replace BK485 := bK BK485 hb; clear hb hbox hg; have hnb5 := NB485_486.out; have hnc5 := NB486_485.out; have hz6 := cl14 BK485) | ((with_reducible refine gate_callee (f := 53) rfl ?_); refine goA (some 5) rfl rfl Try.func53 rfl #[.agg #[.int .i64 a0_0, .int .i64 a0_1, .int .i64 a0_2, .int .i64 a0_3, .int .i64 a0_4, .int .i64 a0_5, .slice A0_6 l0_6.length c0_6, .bool a0_7, .int .i64 a0_8, .slice A0_9 l0_9.length c0_9, .int .i64 a0_10, .int .i64 a0_11, .int .i64 a0_12, .slice A0_13 l0_13.length c0_13]] rfl ?_; (with_reducible refine (impl_MessageFault.calls k a0_0 a0_1 a0_2 a0_3 a0_4 a0_5 _ _ l0_6 a0_7 a0_8 _ _ l0_9 a0_10 a0_11 a0_12 _ _ l0_13 t487 _ ?side1 ?side2 ?side3 ?side4 ?side5 ?side6 A2.out).mono ?_); (case side1 => exact mC HR0_6 HB); (case side2 => exact HC0_6.out); (case side3 => exact mC HR0_9 HB); (case side4 => exact HC0_9.out); (case side5 => exact mC HR0_13 HB); (case side6 => exact HC0_13.out); rintro e w7 ⟨rfl, hb⟩; refine ⟨_, rfl, ?_⟩; replace BK485 := bK BK485 hb; replace BK486 := bK BK486 hb; replace HB := bS HB hb; (try clear hb); (try clear hb2); (try clear hk); (try clear hi)) | go_values | go_skip | ((with_reducible refine gateG ?gw ?_); (case gw => rfl)) | refine wpList_skip (by rfl) ?_ | refine wp_cond_true rfl ?_ | refine wp_cond_false rfl ?_ | (with_reducible refine iteTr (by first | assumption | omega) ?_) | (with_reducible refine iteFl (by first | assumption | omega) ?_) | ((fail_if_success (with_reducible refine condP ?_)); (fail_if_success (with_reducible refine iteP ?_)); (fail_if_success (with_reducible refine grdP ?_)); go_step) | go_upon | (simp only [Int.not_lt, Int.not_le] at *; go_simp))
 have H := H'.out
 clear H'
 by_cases c8 : t487 = 0
 ·
  rw [if_pos c8] at H
  have c8b0 : (t487 == 0) = true := beq_iff_eq.mpr c8
  have c8b1 : (t487 != 0) = false := bne_eq_false_iff_eq.mpr c8
  have c8e := eq_true c8
  clear c8
  (first | rw [c8b0] | (simp only [i64_w, i32_w]; rw [c8b0]) | skip)
  (try simp only [c8b0, c8b1]); (try (with_reducible refine iteP ?_; simp only [c8e, ↓reduceIte]))
  replace H := Option.bind_eq_some_iff.mp H
  obtain ⟨⟨t488, t489⟩, A90, H⟩ := H
  replace H : ((impl_PackFrame.f t488 t489).bind fun bt492 => (some (bt492.1, bt492.2))) = some (r1, r2) := H
  have A9 := Aside0.mk A90
  clear A90
  replace H := Option.bind_eq_some_iff.mp H
  obtain ⟨⟨t492, t493⟩, A100, H⟩ := H
  replace H : (some (t492, t493)) = some (r1, r2) := H
  have A10 := Aside0.mk A100
  clear A100
  simp only [Option.some.injEq, Prod.mk.injEq] at H
  obtain ⟨rfl, rfl⟩ := H
  have hnb11 := NB485_486.out
  have hnc11 := NB486_485.out
  have hz12 := cl14 BK485
  go_wp2_with (first | ((with_reducible refine gate_callee (f := 55) rfl ?_); refine goA (some 11) rfl rfl Try.func55 rfl #[.agg #[.int .i64 a0_0, .int .i64 a0_1, .int .i64 a0_2, .int .i64 a0_3, .int .i64 a0_4, .int .i64 a0_5, .slice A0_6 l0_6.length c0_6, .bool a0_7, .int .i64 a0_8, .slice A0_9 l0_9.length c0_9, .int .i64 a0_10, .int .i64 a0_11, .int .i64 a0_12, .slice A0_13 l0_13.length c0_13]] rfl ?_; (with_reducible refine (impl_Message_frame.calls k a0_0 a0_1 a0_2 a0_3 a0_4 a0_5 _ _ l0_6 a0_7 a0_8 _ _ l0_9 a0_10 a0_11 a0_12 _ _ l0_13 t488 t489 _ ?side1 ?side2 ?side3 ?side4 ?side5 ?side6 A9.out).mono ?_); (case side1 => exact mC HR0_6 HB); (case side2 => exact HC0_6.out); (case side3 => exact mC HR0_9 HB); (case side4 => exact HC0_9.out); (case side5 => exact mC HR0_13 HB); (case side6 => exact HC0_13.out); rintro e w13 ⟨v490, rfl, ho0, hb⟩; refine ⟨_, rfl, ?_⟩; have HO491 := Aside0.mk (Kd.R_lower ho0 (below_size (bel HB))); replace BK485 := bK BK485 hb; replace BK486 := bK BK486 hb; replace HB := bS HB hb; (try clear hb); (try clear hb2); (try clear hk); (try clear hi); (try clear ho0); obtain ⟨Ao14, co14, eo14⟩ := Kd.R_slice HO491.out; subst eo14) | ((with_reducible refine gate_callee (f := 54) rfl ?_); refine goA (some 12) rfl rfl Try.func54 rfl #[.agg #[.int .i64 t488, .slice Ao14 t489.length co14]] rfl ?_; (with_reducible refine (impl_PackFrame.calls t488 _ _ t489 t492 t493 _ ?side1 ?side2 A10.out).mono ?_); (case side1 => repeat (first | exact (Kd.R_reads' HO491.out).2.2 | (with_reducible refine Kd.C_alloc ?_ _) | (with_reducible refine Kd.C_drewN ?_ _) | (with_reducible refine Kd.C_drew ?_))); (case side2 => exact (Kd.R_reads' HO491.out).2.1); rintro e w15 ⟨v494, rfl, ho0, hb⟩; refine ⟨_, rfl, ?_⟩; have HO495 := Aside0.mk (Kd.R_lower (Kd.R_new' ho0 (Kd.R_lt (mR HO491))) (below_size (bel HB))); replace HO491 := Aside0.mk (Kd.R_elder' (mR HO491) (Kd.R_base ho0) hb); replace BK485 := bK BK485 hb; replace BK486 := bK BK486 hb; replace HB := bS HB hb; (try clear hb); (try clear hb2); (try clear hk); (try clear hi); (try clear ho0); have hz16 := cl2 BK486; obtain ⟨Ao17, co17, eo17⟩ := Kd.R_slice HO495.out; subst eo17))
  refine bodyPost_ret (results_cell_row rfl _ _ gb486 33 #[.int .i64 t492, .slice Ao17 t493.length co17] (0, 0) _ rfl (mP BK486) Try.underlying33 rfl (by kernel_rfl)) rfl ?_
  exact ⟨_, by first | rfl | (simp [errW_none, errW_some] <;> rfl) | (simp [*, errW_none, errW_some] <;> rfl), by (with_reducible repeat (first | apply Kd.R_alloc | apply Kd.R_drewN | apply Kd.R_drew)); exact Kd.R_mono (RF (RF (Kd.R_types HO495.out BK486.out (by decide)))) (fun _ hk => trivial), bel HB⟩
 ·
  rw [if_neg c8] at H
  have c8b0 : (t487 == 0) = false := beq_eq_false_iff_ne.mpr c8
  have c8b1 : (t487 != 0) = true := bne_iff_ne.mpr c8
  have c8e := eq_false c8
  (first | rw [c8b0] | (simp only [i64_w, i32_w]; rw [c8b0]) | skip)
  (try simp only [c8b0, c8b1]); (try (with_reducible refine iteP ?_; simp only [c8e, ↓reduceIte]))
  simp only [Option.some.injEq, Prod.mk.injEq] at H
  obtain ⟨rfl, rfl⟩ := H
  have hnb18 := NB486_485.out
  have hnc18 := NB485_486.out
  have hz19 := cl2 BK486
  go_wp2
  refine bodyPost_ret (results_cell_row rfl _ _ gb486 33 #[.int .i64 t487, .slice none 0 0] (0, 0) _ rfl (mP BK486) Try.underlying33 rfl (by kernel_rfl)) rfl ?_
  exact ⟨_, by first | rfl | (simp [errW_none, errW_some] <;> rfl) | (simp [*, errW_none, errW_some] <;> rfl), by first | exact Kd.R_nil _ _ _ _ _ | exact Kd.N_nil _ _ _ _ _ | exact Kd.V_nil _ _ _ _ _ | exact Kd.Q_nil _ _ _ _ _ | exact Kd.S_nil _ _ _ _ _, bel HB⟩

/-! ### laws_eqByteS: function 22 -/
def laws_eqByteS.l0 : Nat → List Int → List Int → Int → Option (Bool)
 | 0, _, _, _ => none
 | k + 1, x0, x1, x5 => if x5 < (x0.length : Int) then (if 0 ≤ x5 then (if x5 < (x1.length : Int) then (if (rd x0 x5) = (rd x1 x5) then (laws_eqByteS.l0 k x0 x1 (wrap64 (x5 + 1))) else (some false)) else (none)) else (none)) else (some true)
def laws_eqByteS.f (k : Nat) (l0 : List Int) (l1 : List Int) : Option (Bool) := if (l0.length : Int) = (l1.length : Int) then (laws_eqByteS.l0 k l0 l1 0) else (some false)
theorem laws_eqByteS.mono_l : ∀ k, (∀ y0 y1 y2, LeO (laws_eqByteS.l0 k y0 y1 y2) (laws_eqByteS.l0 (k + 1) y0 y1 y2))
 | 0 => fun _ _ _ r h => by simp [laws_eqByteS.l0] at h
 | k + 1 => by
  have ih0 := laws_eqByteS.mono_l k
  ·
   intro y0 y1 y2
   unfold laws_eqByteS.l0
   repeat' first
   | (with_reducible exact ih0 _ _ _)
   | (with_reducible exact LeO.refl _)
   | (with_reducible exact LeO.none _)
   | (with_reducible refine LeO.ite ?_ ?_)
   | (with_reducible refine LeO.bind ?_ (fun _ => ?_))
   | exact ih0 _ _ _
   | exact LeO.none _
   | refine LeO.ite ?_ ?_
   | refine LeO.bind ?_ (fun _ => ?_)
theorem laws_eqByteS.mono : ∀ a0 a1 k, LeO (laws_eqByteS.f k a0 a1) (laws_eqByteS.f (k + 1) a0 a1) := by
 intro a0 a1 k
 have ih0 := laws_eqByteS.mono_l k
 unfold laws_eqByteS.f
 repeat' first
   | (with_reducible exact ih0 _ _ _)
   | (with_reducible exact LeO.refl _)
   | (with_reducible exact LeO.none _)
   | (with_reducible refine LeO.ite ?_ ?_)
   | (with_reducible refine LeO.bind ?_ (fun _ => ?_))
   | exact ih0 _ _ _
   | exact LeO.none _
   | refine LeO.ite ?_ ?_
   | refine LeO.bind ?_ (fun _ => ?_)
set_option maxHeartbeats 8000000 in
set_option maxRecDepth 100000 in
theorem laws_eqByteS.calls (k : Nat) (A0 : Option Addr) (c0 : Nat) (l0 : List Int) (A1 : Option Addr) (c1 : Nat) (l1 : List Int) (r : Bool) (w : World) (hr0 : Kd.C (Kd.int .u8) w A0 l0.length l0) (hc0 : l0.length ≤ c0) (hr1 : Kd.C (Kd.int .u8) w A1 l1.length l1) (hc1 : l1.length ≤ c1) (h : laws_eqByteS.f k l0 l1 = some r) :
  Calls Try.prog 22 #[.slice A0 l0.length c0, .slice A1 l1.length c1] w fun e w' => e = .returned (.bool r) ∧ Drawn0 w w' := by
 have HR0 := Aside0.mk hr0
 have HC0 := Aside0.mk hc0
 clear hr0 hc0
 have HR1 := Aside0.mk hr1
 have HC1 := Aside0.mk hc1
 clear hr1 hc1
 have H : (if (l0.length : Int) = (l1.length : Int) then (laws_eqByteS.l0 k l0 l1 0) else (some false)) = some r := h
 clear h
 by_cases c3 : (l0.length : Int) = (l1.length : Int)
 ·
  rw [if_pos c3] at H
  have c3b0 : ((l0.length : Int) == (l1.length : Int)) = true := beq_iff_eq.mpr c3
  have c3b1 : ((l0.length : Int) != (l1.length : Int)) = false := bne_eq_false_iff_eq.mpr c3
  have c3b2 : (l0.length == l1.length) = true := by first | simpa using c3 | (simp at c3 ⊢; omega)
  have c3e := eq_true c3
  clear c3
  have H' := Aside0.mk H
  clear H
  go_enter Try.func22, Try.ntmps22
  go_wp2
  repeat (go_quiet (fail); try go_wp2)
  go_loopg [5] k (fun kq v5 w' => ∃ (x5_1 : Int), v5 = .int .i64 x5_1 ∧ Aside0 (laws_eqByteS.l0 kq l0 l1 x5_1 = some r) ∧ Aside0 (kq ≤ k) ∧ Drawn0 w w')
  case atStart => exact ⟨(0), (by first | rfl | (simp; done) | (simp [*]; done)), H', ⟨Nat.le_refl _⟩, drw⟩
  case round =>
   clear H'
   try clear c1
   try clear c2
   try clear p2
   try clear c3e
   try clear c3
   try clear c3b0
   try clear c3b1
   try clear c3b2
   obtain ⟨x5_1, rfl, HA, HK1, ⟨m1, rfl⟩⟩ := hrel
   cases gk with
   | zero => exact absurd HA.out (by simp [laws_eqByteS.l0])
   | succ k1 =>
    have H := HA.out
    clear HA
    simp only [laws_eqByteS.l0] at H
    by_cases c4 : x5_1 < (l0.length : Int)
    ·
     rw [if_pos c4] at H
     have c4b0 : decide (x5_1 < (l0.length : Int)) = true := decide_eq_true c4
     have c4e := eq_true c4
     clear c4
     by_cases c5 : 0 ≤ x5_1
     ·
      rw [if_pos c5] at H
      have c5b0 : decide (0 ≤ x5_1) = true := decide_eq_true c5
      have c5e := eq_true c5
      clear c5
      by_cases c6 : x5_1 < (l1.length : Int)
      ·
       rw [if_pos c6] at H
       have c6b0 : decide (x5_1 < (l1.length : Int)) = true := decide_eq_true c6
       have c6e := eq_true c6
       clear c6
       by_cases c7 : (rd l0 x5_1) = (rd l1 x5_1)
       ·
        rw [if_pos c7] at H
        have c7b0 : ((rd l0 x5_1) == (rd l1 x5_1)) = true := beq_iff_eq.mpr c7
        have c7b1 : ((rd l0 x5_1) != (rd l1 x5_1)) = false := bne_eq_false_iff_eq.mpr c7
        have c7e := eq_true c7
        clear c7
        have H' := Aside0.mk H
        clear H
        have p496 : 0 ≤ (x5_1 : Int) := of_decide_eq_true (by first | (with_reducible assumption) | assumption)
        have q496 : x5_1 < (l0.length : Int) := of_decide_eq_true (by first | (with_reducible assumption) | assumption)
        obtain ⟨ad496, e496, hx496_0⟩ := Kd.at_int HR0.out x5_1 p496 q496
        cases e496
        replace p496 := eq_true p496
        replace q496 := eq_true q496
        have p497 : 0 ≤ (x5_1 : Int) := of_decide_eq_true (by first | (with_reducible assumption) | assumption)
        have q497 : x5_1 < (l1.length : Int) := of_decide_eq_true (by first | (with_reducible assumption) | assumption)
        obtain ⟨ad497, e497, hx497_0⟩ := Kd.at_int HR1.out x5_1 p497 q497
        cases e497
        replace p497 := eq_true p497
        replace q497 := eq_true q497
        go_wp2
        repeat (go_quiet (fail); try go_wp2)
        go_roundg k1
        case measure => have := HK1.out; omega
        case rel => exact ⟨(wrap64 (x5_1 + 1)), (by first | rfl | (simp; done) | (simp [*]; done)), H', ⟨by have := HK1.out; omega⟩, drw⟩
       ·
        rw [if_neg c7] at H
        have c7b0 : ((rd l0 x5_1) == (rd l1 x5_1)) = false := beq_eq_false_iff_ne.mpr c7
        have c7b1 : ((rd l0 x5_1) != (rd l1 x5_1)) = true := bne_iff_ne.mpr c7
        have c7e := eq_false c7
        obtain rfl := Option.some.inj H
        have p496 : 0 ≤ (x5_1 : Int) := of_decide_eq_true (by first | (with_reducible assumption) | assumption)
        have q496 : x5_1 < (l0.length : Int) := of_decide_eq_true (by first | (with_reducible assumption) | assumption)
        obtain ⟨ad496, e496, hx496_0⟩ := Kd.at_int HR0.out x5_1 p496 q496
        cases e496
        replace p496 := eq_true p496
        replace q496 := eq_true q496
        have p497 : 0 ≤ (x5_1 : Int) := of_decide_eq_true (by first | (with_reducible assumption) | assumption)
        have q497 : x5_1 < (l1.length : Int) := of_decide_eq_true (by first | (with_reducible assumption) | assumption)
        obtain ⟨ad497, e497, hx497_0⟩ := Kd.at_int HR1.out x5_1 p497 q497
        cases e497
        replace p497 := eq_true p497
        replace q497 := eq_true q497
        go_wp2
        repeat (go_quiet (fail); try go_wp2)
        go_ret
        exact ⟨by first | rfl | (simp; done) | (simp [*]; done), drw⟩
      ·
       rw [if_neg c6] at H
       exact absurd H (by simp)
     ·
      rw [if_neg c5] at H
      exact absurd H (by simp)
    ·
     rw [if_neg c4] at H
     have c4b0 : decide (x5_1 < (l0.length : Int)) = false := decide_eq_false c4
     have c4e := eq_false c4
     clear c4
     obtain rfl := Option.some.inj H
     go_wp2
     repeat (go_quiet (fail); try go_wp2)
     go_ret
     exact ⟨by first | rfl | (simp; done) | (simp [*]; done), drw⟩
 ·
  rw [if_neg c3] at H
  have c3b0 : ((l0.length : Int) == (l1.length : Int)) = false := beq_eq_false_iff_ne.mpr c3
  have c3b1 : ((l0.length : Int) != (l1.length : Int)) = true := bne_iff_ne.mpr c3
  have c3b2 : (l0.length == l1.length) = false := by first | simpa using c3 | (simp at c3 ⊢; omega)
  have c3e := eq_false c3
  obtain rfl := Option.some.inj H
  go_enter Try.func22, Try.ntmps22
  go_wp2
  repeat (go_quiet (fail); try go_wp2)
  go_ret
  exact ⟨by first | rfl | (simp; done) | (simp [*]; done), drw⟩

end Go.Proofs.Ytgfoifkkffffgac.PFnExactPackMessage
