-- Laid by a turned copy of the printer (wip/tools/patch_print.py)
import Derived.Test.YtgfoifkkffffgabPFnWiresx0
import Derived.Test.YtgfoifkkffffgabPFnWiresx3
import Derived.Test.YtgfoifkkffffgabPFnWiresx4
namespace Go.Proofs.Ytgfoifkkffffgab.PFnWires
open Go.RowKit Go.Proofs.YtgfoifkkffffgabW.PrintWords Go.Proofs.YtgfoifkkffffgabW.PrintLast Go.Proofs.YtgfoifkkffffgabW.PrintMore
attribute [local go_sem] max2_int min2_int max_two min_two max_three min_three max_four min_four   -- for this text's walks alone
set_option linter.unusedVariables false
set_option linter.unusedSimpArgs false

/-! ### impl_AckInput: function 37 -/
def impl_AckInput.j0 : Nat → Int → Int → Bool → Int → List Int → Int → List Int → Option (Int × List Int × Int × List Int × Int × List Int)
 | 0, _, _, _, _, _, _, _ => none
 | k + 1, x2, x7, x20, x383000, x383001, x383002, x383003 => if x20 = true then (some (3, ([] : List Int), 0, ([] : List Int), 0, ([] : List Int))) else (if x7 = 0 then ((impl_Wire_result.f x383000 x383001 (mx x383002 x2) x383003).bind fun bt387 => (some (bt387.1, bt387.2.1, bt387.2.2.1, bt387.2.2.2.1, bt387.2.2.2.2.1, bt387.2.2.2.2.2))) else (some (x7, ([] : List Int), 0, ([] : List Int), 0, ([] : List Int))))
def impl_AckInput.f (k : Nat) (a0_0 : Int) (l0_1 : List Int) (a0_2 : Int) (l0_3 : List Int) (a1 : Int) (a2 : Int) : Option (Int × List Int × Int × List Int × Int × List Int) := (impl_epochFault.f k a0_0 l0_1 a0_2 l0_3 a1).bind fun t384 => (if t384 = 0 then ((impl_size_byte.f l0_1).bind fun t385 => ((impl_in.f a2 0 t385).bind fun t386 => (impl_AckInput.j0 k a2 t384 (!t386) a0_0 l0_1 a0_2 l0_3))) else (impl_AckInput.j0 k a2 t384 false a0_0 l0_1 a0_2 l0_3))
theorem impl_AckInput.mono_l : ∀ k, (∀ y0 y1 y2 y3 y4 y5 y6, LeO (impl_AckInput.j0 k y0 y1 y2 y3 y4 y5 y6) (impl_AckInput.j0 (k + 1) y0 y1 y2 y3 y4 y5 y6))
 | 0 => fun _ _ _ _ _ _ _ r h => by simp [impl_AckInput.j0] at h
 | k + 1 => by
  have ih0 := impl_AckInput.mono_l k
  ·
   intro y0 y1 y2 y3 y4 y5 y6
   unfold impl_AckInput.j0
   repeat' first
   | (with_reducible exact ih0 _ _ _ _ _ _ _)
   | (with_reducible exact impl_epochFault.mono _ _ _ _ _ _)
   | (with_reducible exact LeO.refl _)
   | (with_reducible exact LeO.none _)
   | (with_reducible refine LeO.ite ?_ ?_)
   | (with_reducible refine LeO.bind ?_ (fun _ => ?_))
   | exact ih0 _ _ _ _ _ _ _
   | exact impl_epochFault.mono _ _ _ _ _ _
   | exact LeO.none _
   | refine LeO.ite ?_ ?_
   | refine LeO.bind ?_ (fun _ => ?_)
theorem impl_AckInput.mono : ∀ a0 a1 a2 a3 a4 a5 k, LeO (impl_AckInput.f k a0 a1 a2 a3 a4 a5) (impl_AckInput.f (k + 1) a0 a1 a2 a3 a4 a5) := by
 intro a0 a1 a2 a3 a4 a5 k
 have ih0 := impl_AckInput.mono_l k
 unfold impl_AckInput.f
 repeat' first
   | (with_reducible exact ih0 _ _ _ _ _ _ _)
   | (with_reducible exact impl_epochFault.mono _ _ _ _ _ _)
   | (with_reducible exact LeO.refl _)
   | (with_reducible exact LeO.none _)
   | (with_reducible refine LeO.ite ?_ ?_)
   | (with_reducible refine LeO.bind ?_ (fun _ => ?_))
   | exact ih0 _ _ _ _ _ _ _
   | exact impl_epochFault.mono _ _ _ _ _ _
   | exact LeO.none _
   | refine LeO.ite ?_ ?_
   | refine LeO.bind ?_ (fun _ => ?_)
set_option maxHeartbeats 8000000 in
set_option maxRecDepth 100000 in
theorem impl_AckInput.calls (k : Nat) (a0_0 : Int) (A0_1 : Option Addr) (c0_1 : Nat) (l0_1 : List Int) (a0_2 : Int) (A0_3 : Option Addr) (c0_3 : Nat) (l0_3 : List Int) (a1 : Int) (a2 : Int) (r1 : Int) (r2 : List Int) (r3 : Int) (r4 : List Int) (r5 : Int) (r6 : List Int) (w : World) (hr0_1 : Kd.C (Kd.int .u8) w A0_1 l0_1.length l0_1) (hc0_1 : l0_1.length ≤ c0_1) (hr0_3 : Kd.C (Kd.int .u8) w A0_3 l0_3.length l0_3) (hc0_3 : l0_3.length ≤ c0_3) (h : impl_AckInput.f k a0_0 l0_1 a0_2 l0_3 a1 a2 = some (r1, r2, r3, r4, r5, r6)) :
  Calls Try.prog 37 #[.agg #[.int .i64 a0_0, .slice A0_1 l0_1.length c0_1, .int .i64 a0_2, .slice A0_3 l0_3.length c0_3], .int .i64 a1, .int .i64 a2] w fun e w' => ∃ v1_ v3_ v5_ : Value, e = .returned (.agg #[.int .i64 r1, v1_, .int .i64 r3, v3_, .int .i64 r5, v5_]) ∧ Kd.R (Kd.int .u8) 5 w' w.heap.size (fun k_ => some k_ ≠ (v3_ : Value).ownBlock ∧ some k_ ≠ (v5_ : Value).ownBlock) v1_ r2 ∧ Kd.R (Kd.int .u8) 5 w' w.heap.size (fun k_ => some k_ ≠ (v1_ : Value).ownBlock ∧ some k_ ≠ (v5_ : Value).ownBlock) v3_ r4 ∧ Kd.R (Kd.int .u8) 5 w' w.heap.size (fun k_ => some k_ ≠ (v1_ : Value).ownBlock ∧ some k_ ≠ (v3_ : Value).ownBlock) v5_ r6 ∧ Below w.heap.size w w' := by
 have hu59 := Try.underlying59
 have hu63 := Try.underlying63
 have HR0_1 := Aside0.mk hr0_1
 have HC0_1 := Aside0.mk hc0_1
 clear hr0_1 hc0_1
 have HR0_3 := Aside0.mk hr0_3
 have HC0_3 := Aside0.mk hc0_3
 clear hr0_3 hc0_3
 have HB := Aside0.mk (Below.refl w.heap.size w)
 have H : ((impl_epochFault.f k a0_0 l0_1 a0_2 l0_3 a1).bind fun t384 => (if t384 = 0 then ((impl_size_byte.f l0_1).bind fun t385 => ((impl_in.f a2 0 t385).bind fun t386 => (impl_AckInput.j0 k a2 t384 (!t386) a0_0 l0_1 a0_2 l0_3))) else (impl_AckInput.j0 k a2 t384 false a0_0 l0_1 a0_2 l0_3))) = some (r1, r2, r3, r4, r5, r6) := h
 clear h
 replace H := Option.bind_eq_some_iff.mp H
 obtain ⟨t384, A40, H⟩ := H
 replace H : (if t384 = 0 then ((impl_size_byte.f l0_1).bind fun t385 => ((impl_in.f a2 0 t385).bind fun t386 => (impl_AckInput.j0 k a2 t384 (!t386) a0_0 l0_1 a0_2 l0_3))) else (impl_AckInput.j0 k a2 t384 false a0_0 l0_1 a0_2 l0_3)) = some (r1, r2, r3, r4, r5, r6) := H
 have A4 := Aside0.mk A40
 clear A40
 have HC5 := Aside0.mk H
 clear H
 go_enter Try.func37, Try.ntmps37
 go_upto_region 2 with (first | ((with_reducible refine gate_dst (N := 3) rfl ?_); refine boxE #[.int .i64 a0_0, .slice A0_1 l0_1.length c0_1, .int .i64 a0_2, .slice A0_3 l0_3.length c0_3] 59 (N := 3) rfl rfl ?_; intro gb382 hg w6 hbox hb; have BK382 := Aside0.mk hbox; have GW382 := gZ HB hg; have GE382 := gZ HB hg; replace HB := bS HB hb; clear hb hbox hg) | ((with_reducible refine gate_dst (N := 6) rfl ?_); refine boxE #[.int .i64 0, .slice none 0 0, .int .i64 0, .slice none 0 0, .int .i64 0, .slice none 0 0] 63 (N := 6) rfl rfl ?_; intro gb383 hg w7 hbox hb; have BK383 := Aside0.mk hbox; have GW383 := gZ HB hg; have GE383 := gZ HB hg; replace HB := bS HB hb; have NB382_383 := nL BK382 hg; have NB383_382 := nG BK382 hg; replace BK382 := bK BK382 hb; clear hb hbox hg; have hnb8 := NB382_383.out; have hnc8 := NB383_382.out; have hz9 := cl4 BK382) | ((with_reducible refine gate_callee (f := 96) rfl ?_); refine goA (some 10) rfl rfl Try.func96 rfl #[.agg #[.int .i64 a0_0, .slice A0_1 l0_1.length c0_1, .int .i64 a0_2, .slice A0_3 l0_3.length c0_3], .int .i64 a1] rfl ?_; (with_reducible refine (impl_epochFault.calls k a0_0 _ _ l0_1 a0_2 _ _ l0_3 a1 t384 _ ?side1 ?side2 ?side3 ?side4 A4.out).mono ?_); (case side1 => exact mC HR0_1 HB); (case side2 => exact HC0_1.out); (case side3 => exact mC HR0_3 HB); (case side4 => exact HC0_3.out); rintro e w10 ⟨rfl, hb⟩; refine ⟨_, rfl, ?_⟩; replace BK382 := bK BK382 hb; replace BK383 := bK BK383 hb; replace HB := bS HB hb; (try clear hb); (try clear hb2); (try clear hk); (try clear hi)))
 (try simp only [Act.put, List.setIfInBounds_toArray, List.set_cons_zero, List.set_cons_succ])
 go_cut [20] (fun v20 wc => ∃ (kq : Nat) (x20_4 : Bool), v20 = .bool x20_4 ∧ Aside0 (impl_AckInput.j0 kq a2 t384 x20_4 a0_0 l0_1 a0_2 l0_3 = some (r1, r2, r3, r4, r5, r6)) ∧ Aside0 (kq ≤ k) ∧ Aside0 (wc.heap[gb382]? = some (.cells #[.int .i64 a0_0, (.slice A0_1 l0_1.length c0_1), .int .i64 a0_2, (.slice A0_3 l0_3.length c0_3)] 59 (0, 0))) ∧ Aside0 (wc.heap[gb383]? = some (.cells #[.int .i64 0, (.slice none 0 0), .int .i64 0, (.slice none 0 0), .int .i64 0, (.slice none 0 0)] 63 (0, 0))) ∧ Aside0 (Below w.heap.size w wc))
 case first =>
  have H := HC5.out
  clear HC5
  by_cases c11 : t384 = 0
  ·
   rw [if_pos c11] at H
   have c11b0 : (t384 == 0) = true := beq_iff_eq.mpr c11
   have c11b1 : (t384 != 0) = false := bne_eq_false_iff_eq.mpr c11
   clear c11
   (first | rw [c11b0] | (simp only [i64_w, i32_w]; rw [c11b0]) | skip)
   replace H := Option.bind_eq_some_iff.mp H
   obtain ⟨t385, A120, H⟩ := H
   replace H : ((impl_in.f a2 0 t385).bind fun t386 => (impl_AckInput.j0 k a2 t384 (!t386) a0_0 l0_1 a0_2 l0_3)) = some (r1, r2, r3, r4, r5, r6) := H
   have A12 := Aside0.mk A120
   clear A120
   replace H := Option.bind_eq_some_iff.mp H
   obtain ⟨t386, A130, H⟩ := H
   replace H : (impl_AckInput.j0 k a2 t384 (!t386) a0_0 l0_1 a0_2 l0_3) = some (r1, r2, r3, r4, r5, r6) := H
   have A13 := Aside0.mk A130
   clear A130
   have H' := Aside0.mk H
   clear H
   have hnb14 := NB382_383.out
   have hnc14 := NB383_382.out
   have hz15 := cl4 BK382
   go_wp2_with (first | (go_at_call 97; (with_reducible refine (impl_size_byte.calls _ _ l0_1 t385 _ ?side1 ?side2 A12.out).mono ?_); (case side1 => exact mC HR0_1 HB); (case side2 => exact HC0_1.out); rintro e w' ⟨rfl, ⟨nd, rfl⟩⟩) | (go_at_call 87; (with_reducible refine (impl_in.calls a2 0 t385 t386 _ A13.out).mono ?_); rintro e w' ⟨rfl, ⟨nd, rfl⟩⟩))
   first | go_meet | (refine Met.intro ?_; go_step; (repeat apply Exists.intro); refine ⟨?rel, ?eqq⟩; (case eqq => (try simp only [c11b0]); rfl))
   case rel => exact ⟨_, (!t386), (by first | rfl | (simp; done) | (simp [*]; done)), H', ⟨by first | omega | exact Nat.le_refl _⟩, ⟨by (with_reducible repeat (first | refine blk_drewN ?_ _ | refine blk_drew ?_ | refine blk_alloc ?_ _)); exact BK382.out⟩, ⟨by (with_reducible repeat (first | refine blk_drewN ?_ _ | refine blk_drew ?_ | refine blk_alloc ?_ _)); exact BK383.out⟩, ⟨bel HB⟩⟩
  ·
   rw [if_neg c11] at H
   have c11b0 : (t384 == 0) = false := beq_eq_false_iff_ne.mpr c11
   have c11b1 : (t384 != 0) = true := bne_iff_ne.mpr c11
   (first | rw [c11b0] | (simp only [i64_w, i32_w]; rw [c11b0]) | skip)
   have H' := Aside0.mk H
   clear H
   go_wp2
   first | go_meet | (refine Met.intro ?_; go_step; (repeat apply Exists.intro); refine ⟨?rel, ?eqq⟩; (case eqq => (try simp only [c11b0]); rfl))
   case rel => exact ⟨_, (false), (by first | rfl | (simp; done) | (simp [*]; done)), H', ⟨by first | omega | exact Nat.le_refl _⟩, ⟨by (with_reducible repeat (first | refine blk_drewN ?_ _ | refine blk_drew ?_ | refine blk_alloc ?_ _)); exact BK382.out⟩, ⟨by (with_reducible repeat (first | refine blk_drewN ?_ _ | refine blk_drew ?_ | refine blk_alloc ?_ _)); exact BK383.out⟩, ⟨bel HB⟩⟩
 case rest =>
  clear HC5
  try clear c1
  try clear p2
  try clear c3
  try clear c8
  try clear c9
  try clear c11
  try clear c11b0
  try clear c11b1
  try clear c14
  try clear hz15
  try clear hz9
  obtain ⟨kq, x20_4, rfl, HA, HJ4, BK382, BK383, HB⟩ := hcut
  cases kq with
  | zero => exact absurd HA.out (by simp [impl_AckInput.j0])
  | succ kj4 =>
   have H := HA.out
   clear HA
   simp only [impl_AckInput.j0] at H
   by_cases c16 : x20_4 = true
   ·
    subst c16
    have H1 : (some (3, ([] : List Int), 0, ([] : List Int), 0, ([] : List Int))) = some (r1, r2, r3, r4, r5, r6) := by rw [if_pos rfl] at H; first | done | exact H
    clear H
    have H := H1
    clear H1
    simp only [Option.some.injEq, Prod.mk.injEq] at H
    obtain ⟨rfl, rfl, rfl, rfl, rfl, rfl⟩ := H
    have hnb17 := NB383_382.out
    have hnc17 := NB382_383.out
    have hz18 := cl6 BK383
    go_wp2
    refine bodyPost_ret (results_cell_row rfl _ _ gb383 63 #[.int .i64 3, .slice none 0 0, .int .i64 0, .slice none 0 0, .int .i64 0, .slice none 0 0] (0, 0) _ rfl (mP BK383) Try.underlying63 rfl (by kernel_rfl)) rfl ?_
    exact ⟨_, _, _, by first | rfl | (simp [errW_none, errW_some] <;> rfl) | (simp [*, errW_none, errW_some] <;> rfl), by first | exact Kd.R_nil _ _ _ _ _ | exact Kd.N_nil _ _ _ _ _ | exact Kd.V_nil _ _ _ _ _ | exact Kd.Q_nil _ _ _ _ _ | exact Kd.S_nil _ _ _ _ _, by first | exact Kd.R_nil _ _ _ _ _ | exact Kd.N_nil _ _ _ _ _ | exact Kd.V_nil _ _ _ _ _ | exact Kd.Q_nil _ _ _ _ _ | exact Kd.S_nil _ _ _ _ _, by first | exact Kd.R_nil _ _ _ _ _ | exact Kd.N_nil _ _ _ _ _ | exact Kd.V_nil _ _ _ _ _ | exact Kd.Q_nil _ _ _ _ _ | exact Kd.S_nil _ _ _ _ _, bel HB⟩
   ·
    replace c16 := Bool.eq_false_iff.mpr c16
    subst c16
    have H1 : (if t384 = 0 then ((impl_Wire_result.f a0_0 l0_1 (mx a0_2 a2) l0_3).bind fun bt387 => (some (bt387.1, bt387.2.1, bt387.2.2.1, bt387.2.2.2.1, bt387.2.2.2.2.1, bt387.2.2.2.2.2))) else (some (t384, ([] : List Int), 0, ([] : List Int), 0, ([] : List Int)))) = some (r1, r2, r3, r4, r5, r6) := by rw [if_neg (show ¬ (false = true) by decide)] at H; first | done | exact H
    clear H
    have H := H1
    clear H1
    by_cases c19 : t384 = 0
    ·
     rw [if_pos c19] at H
     have c19b0 : (t384 == 0) = true := beq_iff_eq.mpr c19
     have c19b1 : (t384 != 0) = false := bne_eq_false_iff_eq.mpr c19
     clear c19
     obtain ⟨ji20, hji20⟩ : ∃ j_ : Int, (mx a0_2 a2) = j_ := ⟨_, rfl⟩
     replace H : ((impl_Wire_result.f a0_0 l0_1 (ji20) l0_3).bind fun bt387 => (some (bt387.1, bt387.2.1, bt387.2.2.1, bt387.2.2.2.1, bt387.2.2.2.2.1, bt387.2.2.2.2.2))) = some (r1, r2, r3, r4, r5, r6) := by first | (rw [hji20] at H; exact H) | (simp only [hji20] at H ⊢; exact H)
     have hji20_ : (if a0_2 < a2 then a2 else a0_2) = ji20 := hji20
     replace H := Option.bind_eq_some_iff.mp H
     obtain ⟨⟨t387, t388, t391, t392, t395, t396⟩, A210, H⟩ := H
     replace H : (some (t387, t388, t391, t392, t395, t396)) = some (r1, r2, r3, r4, r5, r6) := H
     have A21 := Aside0.mk A210
     clear A210
     simp only [Option.some.injEq, Prod.mk.injEq] at H
     obtain ⟨rfl, rfl, rfl, rfl, rfl, rfl⟩ := H
     have hnb22 := NB382_383.out
     have hnc22 := NB383_382.out
     have hz23 := cl4 BK382
     go_wp2_with (first | ((with_reducible refine gate_callee (f := 100) rfl ?_); refine goesL_ (some 31) rfl rfl Try.func100 (by kernel_rfl) rfl #[.agg #[.int .i64 a0_0, .slice A0_1 l0_1.length c0_1, .int .i64 ji20, .slice A0_3 l0_3.length c0_3]] rfl (by (try simp only [List.map_toArray, List.map_cons, List.map_nil]); first | done | (simp only [hji20]; rfl) | rfl | (simp only [List.length_drop, List.length_take]; rfl)) ?_; (with_reducible refine (impl_Wire_result.calls a0_0 _ _ l0_1 ji20 _ _ l0_3 t387 t388 t391 t392 t395 t396 _ ?side1 ?side2 ?side3 ?side4 A21.out).mono ?_); (case side1 => exact Kd.C_below HR0_1.out (bel HB)); (case side2 => exact HC0_1.out); (case side3 => exact Kd.C_below HR0_3.out (bel HB)); (case side4 => exact HC0_3.out); rintro e w24 ⟨v389, v393, v397, rfl, ho0, ho1, ho2, hb⟩; refine ⟨_, rfl, ?_⟩; have HO390 := Aside0.mk (Kd.R_lower ho0 (below_size (bel HB))); have HO394 := Aside0.mk (Kd.R_lower ho1 (below_size (bel HB))); have HO398 := Aside0.mk (Kd.R_lower ho2 (below_size (bel HB))); replace BK382 := Aside0.mk (blk_below (g := gb382) (o := .cells #[.int .i64 a0_0, .slice A0_1 l0_1.length c0_1, .int .i64 ji20, .slice A0_3 l0_3.length c0_3] 59 (0, 0)) (mP BK382) hb); replace BK383 := Aside0.mk (blk_below (g := gb383) (o := .cells #[.int .i64 0, .slice none 0 0, .int .i64 0, .slice none 0 0, .int .i64 0, .slice none 0 0] 63 (0, 0)) (mP BK383) hb); replace HB := bS HB hb; (try clear hb); (try clear hb2); (try clear hk); (try clear hi); (try clear ho0); (try clear ho1); (try clear ho2); have hz25 := cl6 BK383; obtain ⟨Ao26, co26, eo26⟩ := Kd.R_slice HO390.out; subst eo26; obtain ⟨Ao27, co27, eo27⟩ := Kd.R_slice HO394.out; subst eo27; obtain ⟨Ao28, co28, eo28⟩ := Kd.R_slice HO398.out; subst eo28))
     refine bodyPost_ret (results_cell_row rfl _ _ gb383 63 #[.int .i64 t387, .slice Ao26 t388.length co26, .int .i64 t391, .slice Ao27 t392.length co27, .int .i64 t395, .slice Ao28 t396.length co28] (0, 0) _ rfl (mP BK383) Try.underlying63 rfl (by kernel_rfl)) rfl ?_
     exact ⟨_, _, _, by first | rfl | (simp [errW_none, errW_some] <;> rfl) | (simp only [← hji20]; first | rfl | (simp [errW_none, errW_some] <;> rfl)) | (simp [*, errW_none, errW_some] <;> rfl), by (with_reducible repeat (first | apply Kd.R_alloc | apply Kd.R_drewN | apply Kd.R_drew)); exact Kd.R_mono (RF (RF (RF (RF (RF (RF (Kd.R_types HO390.out BK383.out (by decide)))))))) (fun _ hk => ⟨hk.1.1, hk.1.2⟩), by (with_reducible repeat (first | apply Kd.R_alloc | apply Kd.R_drewN | apply Kd.R_drew)); exact Kd.R_mono (RF (RF (RF (RF (RF (RF (Kd.R_types HO394.out BK383.out (by decide)))))))) (fun _ hk => ⟨hk.1.1, hk.1.2⟩), by (with_reducible repeat (first | apply Kd.R_alloc | apply Kd.R_drewN | apply Kd.R_drew)); exact Kd.R_mono (RF (RF (RF (RF (RF (RF (Kd.R_types HO398.out BK383.out (by decide)))))))) (fun _ hk => ⟨hk.1.1, hk.1.2⟩), bel HB⟩
    ·
     rw [if_neg c19] at H
     have c19b0 : (t384 == 0) = false := beq_eq_false_iff_ne.mpr c19
     have c19b1 : (t384 != 0) = true := bne_iff_ne.mpr c19
     simp only [Option.some.injEq, Prod.mk.injEq] at H
     obtain ⟨rfl, rfl, rfl, rfl, rfl, rfl⟩ := H
     have hnb29 := NB383_382.out
     have hnc29 := NB382_383.out
     have hz30 := cl6 BK383
     go_wp2
     refine bodyPost_ret (results_cell_row rfl _ _ gb383 63 #[.int .i64 t384, .slice none 0 0, .int .i64 0, .slice none 0 0, .int .i64 0, .slice none 0 0] (0, 0) _ rfl (mP BK383) Try.underlying63 rfl (by kernel_rfl)) rfl ?_
     exact ⟨_, _, _, by first | rfl | (simp [errW_none, errW_some] <;> rfl) | (simp [*, errW_none, errW_some] <;> rfl), by first | exact Kd.R_nil _ _ _ _ _ | exact Kd.N_nil _ _ _ _ _ | exact Kd.V_nil _ _ _ _ _ | exact Kd.Q_nil _ _ _ _ _ | exact Kd.S_nil _ _ _ _ _, by first | exact Kd.R_nil _ _ _ _ _ | exact Kd.N_nil _ _ _ _ _ | exact Kd.V_nil _ _ _ _ _ | exact Kd.Q_nil _ _ _ _ _ | exact Kd.S_nil _ _ _ _ _, by first | exact Kd.R_nil _ _ _ _ _ | exact Kd.N_nil _ _ _ _ _ | exact Kd.V_nil _ _ _ _ _ | exact Kd.Q_nil _ _ _ _ _ | exact Kd.S_nil _ _ _ _ _, bel HB⟩

/-! ### impl_TakeInput: function 38 -/
mutual
def impl_TakeInput.j0 : Nat → Int → Int → Int → Bool → Int → List Int → Int → List Int → Option (Int × List Int × Int × List Int × Int × List Int)
 | 0, _, _, _, _, _, _, _, _ => none
 | k + 1, x2, x3, x9, x28, x400000, x400001, x400002, x400003 => if x28 = true then (impl_TakeInput.j1 k x2 x3 3 x400000 x400001 x400002 x400003) else (impl_TakeInput.j1 k x2 x3 x9 x400000 x400001 x400002 x400003)
def impl_TakeInput.j1 : Nat → Int → Int → Int → Int → List Int → Int → List Int → Option (Int × List Int × Int × List Int × Int × List Int)
 | 0, _, _, _, _, _, _, _ => none
 | k + 1, x2, x3, x9, x400000, x400001, x400002, x400003 => if x9 = 0 then ((impl_Wire_result.f x400000 x400001 x400002 x400003).bind fun bt405 => ((impl_size_byte.f x400001).bind fun t418 => (if 0 ≤ x2 then (if x2 ≤ (mn (wrap64 (x2 + x3)) t418) then (if (mn (wrap64 (x2 + x3)) t418) ≤ (x400001.length : Int) then ((slices_Clone_byte_byte.f ((x400001.take ((mn (wrap64 (x2 + x3)) t418) : Int).toNat).drop (x2 : Int).toNat)).bind fun t420 => (some (bt405.1, t420, bt405.2.2.1, bt405.2.2.2.1, bt405.2.2.2.2.1, bt405.2.2.2.2.2))) else (none)) else (none)) else (none)))) else (some (x9, ([] : List Int), 0, ([] : List Int), 0, ([] : List Int)))
end
def impl_TakeInput.f (k : Nat) (a0_0 : Int) (l0_1 : List Int) (a0_2 : Int) (l0_3 : List Int) (a1 : Int) (a2 : Int) (a3 : Int) : Option (Int × List Int × Int × List Int × Int × List Int) := (impl_epochFault.f k a0_0 l0_1 a0_2 l0_3 a1).bind fun t401 => (if t401 = 0 then ((impl_size_byte.f l0_1).bind fun t402 => ((impl_in.f a2 0 t402).bind fun t403 => (if t403 = true then ((impl_in.f a3 0 60).bind fun t404 => (impl_TakeInput.j0 k a2 a3 t401 (!t404) a0_0 l0_1 a0_2 l0_3)) else (impl_TakeInput.j0 k a2 a3 t401 true a0_0 l0_1 a0_2 l0_3)))) else (impl_TakeInput.j0 k a2 a3 t401 false a0_0 l0_1 a0_2 l0_3))
theorem impl_TakeInput.mono_l : ∀ k, (∀ y0 y1 y2 y3 y4 y5 y6 y7, LeO (impl_TakeInput.j0 k y0 y1 y2 y3 y4 y5 y6 y7) (impl_TakeInput.j0 (k + 1) y0 y1 y2 y3 y4 y5 y6 y7)) ∧ (∀ y0 y1 y2 y3 y4 y5 y6, LeO (impl_TakeInput.j1 k y0 y1 y2 y3 y4 y5 y6) (impl_TakeInput.j1 (k + 1) y0 y1 y2 y3 y4 y5 y6))
 | 0 => ⟨fun _ _ _ _ _ _ _ _ r h => by simp [impl_TakeInput.j0] at h, fun _ _ _ _ _ _ _ r h => by simp [impl_TakeInput.j1] at h⟩
 | k + 1 => by
  obtain ⟨ih0, ih1⟩ := impl_TakeInput.mono_l k
  refine ⟨?_, ?_⟩
  ·
   intro y0 y1 y2 y3 y4 y5 y6 y7
   unfold impl_TakeInput.j0
   repeat' first
   | (with_reducible exact ih0 _ _ _ _ _ _ _ _)
   | (with_reducible exact ih1 _ _ _ _ _ _ _)
   | (with_reducible exact impl_epochFault.mono _ _ _ _ _ _)
   | (with_reducible exact LeO.refl _)
   | (with_reducible exact LeO.none _)
   | (with_reducible refine LeO.ite ?_ ?_)
   | (with_reducible refine LeO.bind ?_ (fun _ => ?_))
   | exact ih0 _ _ _ _ _ _ _ _
   | exact ih1 _ _ _ _ _ _ _
   | exact impl_epochFault.mono _ _ _ _ _ _
   | exact LeO.none _
   | refine LeO.ite ?_ ?_
   | refine LeO.bind ?_ (fun _ => ?_)
  ·
   intro y0 y1 y2 y3 y4 y5 y6
   unfold impl_TakeInput.j1
   repeat' first
   | (with_reducible exact ih0 _ _ _ _ _ _ _ _)
   | (with_reducible exact ih1 _ _ _ _ _ _ _)
   | (with_reducible exact impl_epochFault.mono _ _ _ _ _ _)
   | (with_reducible exact LeO.refl _)
   | (with_reducible exact LeO.none _)
   | (with_reducible refine LeO.ite ?_ ?_)
   | (with_reducible refine LeO.bind ?_ (fun _ => ?_))
   | exact ih0 _ _ _ _ _ _ _ _
   | exact ih1 _ _ _ _ _ _ _
   | exact impl_epochFault.mono _ _ _ _ _ _
   | exact LeO.none _
   | refine LeO.ite ?_ ?_
   | refine LeO.bind ?_ (fun _ => ?_)
theorem impl_TakeInput.mono : ∀ a0 a1 a2 a3 a4 a5 a6 k, LeO (impl_TakeInput.f k a0 a1 a2 a3 a4 a5 a6) (impl_TakeInput.f (k + 1) a0 a1 a2 a3 a4 a5 a6) := by
 intro a0 a1 a2 a3 a4 a5 a6 k
 obtain ⟨ih0, ih1⟩ := impl_TakeInput.mono_l k
 unfold impl_TakeInput.f
 repeat' first
   | (with_reducible exact ih0 _ _ _ _ _ _ _ _)
   | (with_reducible exact ih1 _ _ _ _ _ _ _)
   | (with_reducible exact impl_epochFault.mono _ _ _ _ _ _)
   | (with_reducible exact LeO.refl _)
   | (with_reducible exact LeO.none _)
   | (with_reducible refine LeO.ite ?_ ?_)
   | (with_reducible refine LeO.bind ?_ (fun _ => ?_))
   | exact ih0 _ _ _ _ _ _ _ _
   | exact ih1 _ _ _ _ _ _ _
   | exact impl_epochFault.mono _ _ _ _ _ _
   | exact LeO.none _
   | refine LeO.ite ?_ ?_
   | refine LeO.bind ?_ (fun _ => ?_)
def impl_TakeInput.T7 : Bool × List (List Nat × List Nat) := (true, [([], []), ([0], [0]), ([], []), ([], []), ([], []), ([3, 4], [3, 4]), ([], []), ([6], [6]), ([7], [7]), ([5, 8], [5, 8]), ([1, 2, 9], [1, 2, 9]), ([10, 8], [10]), ([0, 1, 2, 3, 4, 5, 6, 7, 8, 9, 10, 11], []), ([12, 11, 11, 0, 1, 2, 3, 4, 5, 6, 7, 8, 9, 10, 11], [11, 12])])
def impl_TakeInput.B7 : List Nat := [0, 1, 0, 0, 0, 24, 0, 64, 192, 504, 1023, 2047, 4095, 8191]
theorem impl_TakeInput.tab7 : rtab .any (opsOf Try.f38 7) = impl_TakeInput.T7 := by kernel_rfl
theorem impl_TakeInput.bits7 : waitsOk impl_TakeInput.T7.2 impl_TakeInput.B7 = true := by kernel_rfl
set_option maxHeartbeats 8000000 in
set_option maxRecDepth 100000 in
theorem impl_TakeInput.calls (k : Nat) (a0_0 : Int) (A0_1 : Option Addr) (c0_1 : Nat) (l0_1 : List Int) (a0_2 : Int) (A0_3 : Option Addr) (c0_3 : Nat) (l0_3 : List Int) (a1 : Int) (a2 : Int) (a3 : Int) (r1 : Int) (r2 : List Int) (r3 : Int) (r4 : List Int) (r5 : Int) (r6 : List Int) (w : World) (hr0_1 : Kd.C (Kd.int .u8) w A0_1 l0_1.length l0_1) (hc0_1 : l0_1.length ≤ c0_1) (hr0_3 : Kd.C (Kd.int .u8) w A0_3 l0_3.length l0_3) (hc0_3 : l0_3.length ≤ c0_3) (h : impl_TakeInput.f k a0_0 l0_1 a0_2 l0_3 a1 a2 a3 = some (r1, r2, r3, r4, r5, r6)) :
  Calls Try.prog 38 #[.agg #[.int .i64 a0_0, .slice A0_1 l0_1.length c0_1, .int .i64 a0_2, .slice A0_3 l0_3.length c0_3], .int .i64 a1, .int .i64 a2, .int .i64 a3] w fun e w' => ∃ v1_ v3_ v5_ : Value, e = .returned (.agg #[.int .i64 r1, v1_, .int .i64 r3, v3_, .int .i64 r5, v5_]) ∧ Kd.R (Kd.int .u8) 5 w' w.heap.size (fun k_ => some k_ ≠ (v3_ : Value).ownBlock ∧ some k_ ≠ (v5_ : Value).ownBlock) v1_ r2 ∧ Kd.R (Kd.int .u8) 5 w' w.heap.size (fun k_ => some k_ ≠ (v1_ : Value).ownBlock ∧ some k_ ≠ (v5_ : Value).ownBlock) v3_ r4 ∧ Kd.R (Kd.int .u8) 5 w' w.heap.size (fun k_ => some k_ ≠ (v1_ : Value).ownBlock ∧ some k_ ≠ (v3_ : Value).ownBlock) v5_ r6 ∧ Below w.heap.size w w' := by
 have hu59 := Try.underlying59
 have hu63 := Try.underlying63
 have HR0_1 := Aside0.mk hr0_1
 have HC0_1 := Aside0.mk hc0_1
 clear hr0_1 hc0_1
 have HR0_3 := Aside0.mk hr0_3
 have HC0_3 := Aside0.mk hc0_3
 clear hr0_3 hc0_3
 have HB := Aside0.mk (Below.refl w.heap.size w)
 have H : ((impl_epochFault.f k a0_0 l0_1 a0_2 l0_3 a1).bind fun t401 => (if t401 = 0 then ((impl_size_byte.f l0_1).bind fun t402 => ((impl_in.f a2 0 t402).bind fun t403 => (if t403 = true then ((impl_in.f a3 0 60).bind fun t404 => (impl_TakeInput.j0 k a2 a3 t401 (!t404) a0_0 l0_1 a0_2 l0_3)) else (impl_TakeInput.j0 k a2 a3 t401 true a0_0 l0_1 a0_2 l0_3)))) else (impl_TakeInput.j0 k a2 a3 t401 false a0_0 l0_1 a0_2 l0_3))) = some (r1, r2, r3, r4, r5, r6) := h
 clear h
 replace H := Option.bind_eq_some_iff.mp H
 obtain ⟨t401, A50, H⟩ := H
 replace H : (if t401 = 0 then ((impl_size_byte.f l0_1).bind fun t402 => ((impl_in.f a2 0 t402).bind fun t403 => (if t403 = true then ((impl_in.f a3 0 60).bind fun t404 => (impl_TakeInput.j0 k a2 a3 t401 (!t404) a0_0 l0_1 a0_2 l0_3)) else (impl_TakeInput.j0 k a2 a3 t401 true a0_0 l0_1 a0_2 l0_3)))) else (impl_TakeInput.j0 k a2 a3 t401 false a0_0 l0_1 a0_2 l0_3)) = some (r1, r2, r3, r4, r5, r6) := H
 have A5 := Aside0.mk A50
 clear A50
 have HC6 := Aside0.mk H
 clear H
 go_enter Try.func38, Try.ntmps38
 go_upto_region 2 with (first | ((with_reducible refine gate_dst (N := 4) rfl ?_); refine boxE #[.int .i64 a0_0, .slice A0_1 l0_1.length c0_1, .int .i64 a0_2, .slice A0_3 l0_3.length c0_3] 59 (N := 4) rfl rfl ?_; intro gb399 hg w7 hbox hb; have BK399 := Aside0.mk hbox; have GW399 := gZ HB hg; have GE399 := gZ HB hg; replace HB := bS HB hb; clear hb hbox hg) | ((with_reducible refine gate_dst (N := 8) rfl ?_); refine boxE #[.int .i64 0, .slice none 0 0, .int .i64 0, .slice none 0 0, .int .i64 0, .slice none 0 0] 63 (N := 8) rfl rfl ?_; intro gb400 hg w8 hbox hb; have BK400 := Aside0.mk hbox; have GW400 := gZ HB hg; have GE400 := gZ HB hg; replace HB := bS HB hb; have NB399_400 := nL BK399 hg; have NB400_399 := nG BK399 hg; replace BK399 := bK BK399 hb; clear hb hbox hg; have hnb9 := NB399_400.out; have hnc9 := NB400_399.out; have hz10 := cl4 BK399) | ((with_reducible refine gate_callee (f := 96) rfl ?_); refine goA (some 13) rfl rfl Try.func96 rfl #[.agg #[.int .i64 a0_0, .slice A0_1 l0_1.length c0_1, .int .i64 a0_2, .slice A0_3 l0_3.length c0_3], .int .i64 a1] rfl ?_; (with_reducible refine (impl_epochFault.calls k a0_0 _ _ l0_1 a0_2 _ _ l0_3 a1 t401 _ ?side1 ?side2 ?side3 ?side4 A5.out).mono ?_); (case side1 => exact mC HR0_1 HB); (case side2 => exact HC0_1.out); (case side3 => exact mC HR0_3 HB); (case side4 => exact HC0_3.out); rintro e w11 ⟨rfl, hb⟩; refine ⟨_, rfl, ?_⟩; replace BK399 := bK BK399 hb; replace BK400 := bK BK400 hb; replace HB := bS HB hb; (try clear hb); (try clear hb2); (try clear hk); (try clear hi)))
 (try simp only [Act.put, List.setIfInBounds_toArray, List.set_cons_zero, List.set_cons_succ])
 go_cut [28] (fun v28 wc => ∃ (kq : Nat) (x28_5 : Bool), v28 = .bool x28_5 ∧ Aside0 (impl_TakeInput.j0 kq a2 a3 t401 x28_5 a0_0 l0_1 a0_2 l0_3 = some (r1, r2, r3, r4, r5, r6)) ∧ Aside0 (kq ≤ k) ∧ Aside0 (wc.heap[gb399]? = some (.cells #[.int .i64 a0_0, (.slice A0_1 l0_1.length c0_1), .int .i64 a0_2, (.slice A0_3 l0_3.length c0_3)] 59 (0, 0))) ∧ Aside0 (wc.heap[gb400]? = some (.cells #[.int .i64 0, (.slice none 0 0), .int .i64 0, (.slice none 0 0), .int .i64 0, (.slice none 0 0)] 63 (0, 0))) ∧ Aside0 (Below w.heap.size w wc))
 case first =>
  have H := HC6.out
  clear HC6
  by_cases c12 : t401 = 0
  ·
   rw [if_pos c12] at H
   have c12b0 : (t401 == 0) = true := beq_iff_eq.mpr c12
   have c12b1 : (t401 != 0) = false := bne_eq_false_iff_eq.mpr c12
   clear c12
   (first | rw [c12b0] | (simp only [i64_w, i32_w]; rw [c12b0]) | skip)
   replace H := Option.bind_eq_some_iff.mp H
   obtain ⟨t402, A130, H⟩ := H
   replace H : ((impl_in.f a2 0 t402).bind fun t403 => (if t403 = true then ((impl_in.f a3 0 60).bind fun t404 => (impl_TakeInput.j0 k a2 a3 t401 (!t404) a0_0 l0_1 a0_2 l0_3)) else (impl_TakeInput.j0 k a2 a3 t401 true a0_0 l0_1 a0_2 l0_3))) = some (r1, r2, r3, r4, r5, r6) := H
   have A13 := Aside0.mk A130
   clear A130
   replace H := Option.bind_eq_some_iff.mp H
   obtain ⟨t403, A140, H⟩ := H
   replace H : (if t403 = true then ((impl_in.f a3 0 60).bind fun t404 => (impl_TakeInput.j0 k a2 a3 t401 (!t404) a0_0 l0_1 a0_2 l0_3)) else (impl_TakeInput.j0 k a2 a3 t401 true a0_0 l0_1 a0_2 l0_3)) = some (r1, r2, r3, r4, r5, r6) := H
   have A14 := Aside0.mk A140
   clear A140
   by_cases c15 : t403 = true
   ·
    subst c15
    have H1 : ((impl_in.f a3 0 60).bind fun t404 => (impl_TakeInput.j0 k a2 a3 t401 (!t404) a0_0 l0_1 a0_2 l0_3)) = some (r1, r2, r3, r4, r5, r6) := by rw [if_pos rfl] at H; first | done | exact H
    clear H
    have H := H1
    clear H1
    replace H := Option.bind_eq_some_iff.mp H
    obtain ⟨t404, A160, H⟩ := H
    replace H : (impl_TakeInput.j0 k a2 a3 t401 (!t404) a0_0 l0_1 a0_2 l0_3) = some (r1, r2, r3, r4, r5, r6) := H
    have A16 := Aside0.mk A160
    clear A160
    have H' := Aside0.mk H
    clear H
    have hnb17 := NB399_400.out
    have hnc17 := NB400_399.out
    have hz18 := cl4 BK399
    go_wp2_with (first | (go_at_call 97; (with_reducible refine (impl_size_byte.calls _ _ l0_1 t402 _ ?side1 ?side2 A13.out).mono ?_); (case side1 => exact mC HR0_1 HB); (case side2 => exact HC0_1.out); rintro e w' ⟨rfl, ⟨nd, rfl⟩⟩) | (go_at_call 87; (with_reducible refine (impl_in.calls a2 0 t402 true _ A14.out).mono ?_); rintro e w' ⟨rfl, ⟨nd, rfl⟩⟩) | (go_at_call 87; (with_reducible refine (impl_in.calls a3 0 60 t404 _ A16.out).mono ?_); rintro e w' ⟨rfl, ⟨nd, rfl⟩⟩))
    first | go_meet | (refine Met.intro ?_; go_step; (repeat apply Exists.intro); refine ⟨?rel, ?eqq⟩; (case eqq => (try simp only [c12b0]); rfl))
    case rel => exact ⟨_, (!t404), (by first | rfl | (simp; done) | (simp [*]; done)), H', ⟨by first | omega | exact Nat.le_refl _⟩, ⟨by (with_reducible repeat (first | refine blk_drewN ?_ _ | refine blk_drew ?_ | refine blk_alloc ?_ _)); exact BK399.out⟩, ⟨by (with_reducible repeat (first | refine blk_drewN ?_ _ | refine blk_drew ?_ | refine blk_alloc ?_ _)); exact BK400.out⟩, ⟨bel HB⟩⟩
   ·
    replace c15 := Bool.eq_false_iff.mpr c15
    subst c15
    have H1 : (impl_TakeInput.j0 k a2 a3 t401 true a0_0 l0_1 a0_2 l0_3) = some (r1, r2, r3, r4, r5, r6) := by rw [if_neg (show ¬ (false = true) by decide)] at H; first | done | exact H
    clear H
    have H := H1
    clear H1
    have H' := Aside0.mk H
    clear H
    have hnb19 := NB399_400.out
    have hnc19 := NB400_399.out
    have hz20 := cl4 BK399
    go_wp2_with (first | (go_at_call 97; (with_reducible refine (impl_size_byte.calls _ _ l0_1 t402 _ ?side1 ?side2 A13.out).mono ?_); (case side1 => exact mC HR0_1 HB); (case side2 => exact HC0_1.out); rintro e w' ⟨rfl, ⟨nd, rfl⟩⟩) | (go_at_call 87; (with_reducible refine (impl_in.calls a2 0 t402 false _ A14.out).mono ?_); rintro e w' ⟨rfl, ⟨nd, rfl⟩⟩))
    first | go_meet | (refine Met.intro ?_; go_step; (repeat apply Exists.intro); refine ⟨?rel, ?eqq⟩; (case eqq => (try simp only [c12b0]); rfl))
    case rel => exact ⟨_, (true), (by first | rfl | (simp; done) | (simp [*]; done)), H', ⟨by first | omega | exact Nat.le_refl _⟩, ⟨by (with_reducible repeat (first | refine blk_drewN ?_ _ | refine blk_drew ?_ | refine blk_alloc ?_ _)); exact BK399.out⟩, ⟨by (with_reducible repeat (first | refine blk_drewN ?_ _ | refine blk_drew ?_ | refine blk_alloc ?_ _)); exact BK400.out⟩, ⟨bel HB⟩⟩
  ·
   rw [if_neg c12] at H
   have c12b0 : (t401 == 0) = false := beq_eq_false_iff_ne.mpr c12
   have c12b1 : (t401 != 0) = true := bne_iff_ne.mpr c12
   (first | rw [c12b0] | (simp only [i64_w, i32_w]; rw [c12b0]) | skip)
   have H' := Aside0.mk H
   clear H
   go_wp2
   first | go_meet | (refine Met.intro ?_; go_step; (repeat apply Exists.intro); refine ⟨?rel, ?eqq⟩; (case eqq => (try simp only [c12b0]); rfl))
   case rel => exact ⟨_, (false), (by first | rfl | (simp; done) | (simp [*]; done)), H', ⟨by first | omega | exact Nat.le_refl _⟩, ⟨by (with_reducible repeat (first | refine blk_drewN ?_ _ | refine blk_drew ?_ | refine blk_alloc ?_ _)); exact BK399.out⟩, ⟨by (with_reducible repeat (first | refine blk_drewN ?_ _ | refine blk_drew ?_ | refine blk_alloc ?_ _)); exact BK400.out⟩, ⟨bel HB⟩⟩
 case rest =>
  clear HC6
  try clear c1
  try clear p2
  try clear c3
  try clear c9
  try clear c12
  try clear c12b0
  try clear c12b1
  try clear c15
  try clear c17
  try clear c19
  try clear hz10
  try clear hz18
  try clear hz20
  obtain ⟨kq, x28_5, rfl, HA, HJ5, BK399, BK400, HB⟩ := hcut
  cases kq with
  | zero => exact absurd HA.out (by simp [impl_TakeInput.j0])
  | succ kj5 =>
   have H := HA.out
   clear HA
   simp only [impl_TakeInput.j0] at H
   have HC21 := Aside0.mk H
   clear H
   go_upto_if 28 with (fail)
   go_cut [9] (fun v9 wc => ∃ (kq : Nat) (x9_20 : Int), v9 = .int .i64 x9_20 ∧ Aside0 (impl_TakeInput.j1 kq a2 a3 x9_20 a0_0 l0_1 a0_2 l0_3 = some (r1, r2, r3, r4, r5, r6)) ∧ Aside0 (kq ≤ kj5) ∧ Aside0 (wc.heap[gb399]? = some (.cells #[.int .i64 a0_0, (.slice A0_1 l0_1.length c0_1), .int .i64 a0_2, (.slice A0_3 l0_3.length c0_3)] 59 (0, 0))) ∧ Aside0 (wc.heap[gb400]? = some (.cells #[.int .i64 0, (.slice none 0 0), .int .i64 0, (.slice none 0 0), .int .i64 0, (.slice none 0 0)] 63 (0, 0))) ∧ Aside0 (Below w.heap.size w wc))
   case first =>
    have H := HC21.out
    clear HC21
    by_cases c22 : x28_5 = true
    ·
     subst c22
     have H1 : (impl_TakeInput.j1 kj5 a2 a3 3 a0_0 l0_1 a0_2 l0_3) = some (r1, r2, r3, r4, r5, r6) := by rw [if_pos rfl] at H; first | done | exact H
     clear H
     have H := H1
     clear H1
     have H' := Aside0.mk H
     clear H
     go_wp2
     go_meet
     case rel => exact ⟨_, (3), (by first | rfl | (simp; done) | (simp [*]; done)), H', ⟨by have := HJ5.out; first | omega | exact Nat.le_refl _⟩, ⟨by (with_reducible repeat (first | refine blk_drewN ?_ _ | refine blk_drew ?_ | refine blk_alloc ?_ _)); exact BK399.out⟩, ⟨by (with_reducible repeat (first | refine blk_drewN ?_ _ | refine blk_drew ?_ | refine blk_alloc ?_ _)); exact BK400.out⟩, ⟨bel HB⟩⟩
    ·
     replace c22 := Bool.eq_false_iff.mpr c22
     subst c22
     have H1 : (impl_TakeInput.j1 kj5 a2 a3 t401 a0_0 l0_1 a0_2 l0_3) = some (r1, r2, r3, r4, r5, r6) := by rw [if_neg (show ¬ (false = true) by decide)] at H; first | done | exact H
     clear H
     have H := H1
     clear H1
     have H' := Aside0.mk H
     clear H
     go_wp2
     go_meet
     case rel => exact ⟨_, (t401), (by first | rfl | (simp; done) | (simp [*]; done)), H', ⟨by have := HJ5.out; first | omega | exact Nat.le_refl _⟩, ⟨by (with_reducible repeat (first | refine blk_drewN ?_ _ | refine blk_drew ?_ | refine blk_alloc ?_ _)); exact BK399.out⟩, ⟨by (with_reducible repeat (first | refine blk_drewN ?_ _ | refine blk_drew ?_ | refine blk_alloc ?_ _)); exact BK400.out⟩, ⟨bel HB⟩⟩
   case rest =>
    clear HC21
    try clear c1
    try clear c2
    try clear p2
    try clear c3
    try clear c9
    try clear c12
    try clear c12b0
    try clear c12b1
    try clear c15
    try clear c17
    try clear c19
    try clear c22
    try clear hz10
    try clear hz18
    try clear hz20
    try clear p2
    obtain ⟨kq, x9_20, rfl, HA, HJ20, BK399, BK400, HB⟩ := hcut
    cases kq with
    | zero => exact absurd HA.out (by simp [impl_TakeInput.j1])
    | succ kj20 =>
     have H := HA.out
     clear HA
     simp only [impl_TakeInput.j1] at H
     by_cases c23 : x9_20 = 0
     ·
      rw [if_pos c23] at H
      have c23b0 : (x9_20 == 0) = true := beq_iff_eq.mpr c23
      have c23b1 : (x9_20 != 0) = false := bne_eq_false_iff_eq.mpr c23
      clear c23
      replace H := Option.bind_eq_some_iff.mp H
      obtain ⟨⟨t405, t406, t409, t410, t413, t414⟩, A240, H⟩ := H
      replace H : ((impl_size_byte.f l0_1).bind fun t418 => (if 0 ≤ a2 then (if a2 ≤ (mn (wrap64 (a2 + a3)) t418) then (if (mn (wrap64 (a2 + a3)) t418) ≤ (l0_1.length : Int) then ((slices_Clone_byte_byte.f ((l0_1.take ((mn (wrap64 (a2 + a3)) t418) : Int).toNat).drop (a2 : Int).toNat)).bind fun t420 => (some (t405, t420, t409, t410, t413, t414))) else (none)) else (none)) else (none))) = some (r1, r2, r3, r4, r5, r6) := H
      have A24 := Aside0.mk A240
      clear A240
      replace H := Option.bind_eq_some_iff.mp H
      obtain ⟨t418, A250, H⟩ := H
      replace H : (if 0 ≤ a2 then (if a2 ≤ (mn (wrap64 (a2 + a3)) t418) then (if (mn (wrap64 (a2 + a3)) t418) ≤ (l0_1.length : Int) then ((slices_Clone_byte_byte.f ((l0_1.take ((mn (wrap64 (a2 + a3)) t418) : Int).toNat).drop (a2 : Int).toNat)).bind fun t420 => (some (t405, t420, t409, t410, t413, t414))) else (none)) else (none)) else (none)) = some (r1, r2, r3, r4, r5, r6) := H
      have A25 := Aside0.mk A250
      clear A250
      obtain ⟨ji26, hji26⟩ : ∃ j_ : Int, (mn (wrap64 (a2 + a3)) t418) = j_ := ⟨_, rfl⟩
      replace H : (if 0 ≤ a2 then (if a2 ≤ (ji26) then (if (ji26) ≤ (l0_1.length : Int) then ((slices_Clone_byte_byte.f ((l0_1.take ((ji26) : Int).toNat).drop (a2 : Int).toNat)).bind fun t420 => (some (t405, t420, t409, t410, t413, t414))) else (none)) else (none)) else (none)) = some (r1, r2, r3, r4, r5, r6) := by first | (rw [hji26] at H; exact H) | (simp only [hji26] at H ⊢; exact H)
      (try rw [hji26] at A24)
      (try rw [hji26] at A25)
      have hji26_ : (if t418 < (wrap64 (a2 + a3)) then t418 else (wrap64 (a2 + a3))) = ji26 := hji26
      by_cases c27 : 0 ≤ a2
      ·
       rw [if_pos c27] at H
       have c27b0 := eq_true c27
       have c27b1 : decide (0 ≤ a2) = true := decide_eq_true c27
       clear c27
       by_cases c28 : a2 ≤ (ji26)
       ·
        rw [if_pos c28] at H
        have c28b0 := eq_true c28
        have c28b1 : decide (a2 ≤ (ji26)) = true := decide_eq_true c28
        clear c28
        by_cases c29 : (ji26) ≤ (l0_1.length : Int)
        ·
         rw [if_pos c29] at H
         have c29b0 := eq_true c29
         have c29b1 : decide ((ji26) ≤ (l0_1.length : Int)) = true := decide_eq_true c29
         clear c29
         replace H := Option.bind_eq_some_iff.mp H
         obtain ⟨t420, A300, H⟩ := H
         replace H : (some (t405, t420, t409, t410, t413, t414)) = some (r1, r2, r3, r4, r5, r6) := H
         have A30 := Aside0.mk A300
         clear A300
         simp only [Option.some.injEq, Prod.mk.injEq] at H
         obtain ⟨rfl, rfl, rfl, rfl, rfl, rfl⟩ := H
         have hnb31 := NB399_400.out
         have hnc31 := NB400_399.out
         have hz32 := cl4 BK399
         try go_wp2_with (first | ((with_reducible refine gate_callee (f := 100) rfl ?_); refine goA (some 34) rfl rfl Try.func100 rfl #[.agg #[.int .i64 a0_0, .slice A0_1 l0_1.length c0_1, .int .i64 a0_2, .slice A0_3 l0_3.length c0_3]] rfl ?_; (with_reducible refine (impl_Wire_result.calls a0_0 _ _ l0_1 a0_2 _ _ l0_3 t405 t406 t409 t410 t413 t414 _ ?side1 ?side2 ?side3 ?side4 A24.out).mono ?_); (case side1 => exact mC HR0_1 HB); (case side2 => exact HC0_1.out); (case side3 => exact mC HR0_3 HB); (case side4 => exact HC0_3.out); rintro e w33 ⟨v407, v411, v415, rfl, ho0, ho1, ho2, hb⟩; refine ⟨_, rfl, ?_⟩; have HO408 := Aside0.mk (Kd.R_lower ho0 (below_size (bel HB))); have HO412 := Aside0.mk (Kd.R_lower ho1 (below_size (bel HB))); have HO416 := Aside0.mk (Kd.R_lower ho2 (below_size (bel HB))); replace BK399 := bK BK399 hb; replace BK400 := bK BK400 hb; replace HB := bS HB hb; (try clear hb); (try clear hb2); (try clear hk); (try clear hi); (try clear ho0); (try clear ho1); (try clear ho2)) | ((with_reducible refine gate_dst (N := 10) rfl ?_); refine boxE #[.int .i64 0, .slice none 0 0, .int .i64 0, .slice none 0 0, .int .i64 0, .slice none 0 0] 63 (N := 10) rfl rfl ?_; intro gb417 hg w34 hbox hb; replace HO408 := Aside0.mk (Kd.R_below (mR HO408) hb); replace HO412 := Aside0.mk (Kd.R_below (mR HO412) hb); replace HO416 := Aside0.mk (Kd.R_below (mR HO416) hb); have BK417 := Aside0.mk hbox; have GW417 := gZ HB hg; have GE417 := gZ HB hg; replace HB := bS HB hb; have NB399_417 := nL BK399 hg; have NB417_399 := nG BK399 hg; replace BK399 := bK BK399 hb; have NB400_417 := nL BK400 hg; have NB417_400 := nG BK400 hg; replace BK400 := bK BK400 hb; clear hb hbox hg; have hnb35 := NB417_399.out; have hnc35 := NB399_417.out; have hnb36 := NB417_400.out; have hnc36 := NB400_417.out; have hz37 := cl6 BK417; obtain ⟨Ao38, co38, eo38⟩ := Kd.R_slice HO408.out; subst eo38; obtain ⟨Ao39, co39, eo39⟩ := Kd.R_slice HO412.out; subst eo39; obtain ⟨Ao40, co40, eo40⟩ := Kd.R_slice HO416.out; subst eo40))
         have n0_ : Aside0 (Kd.R (Kd.int .u8) 5 ((((((w34.setCell ⟨gb417, 0, none⟩ (.int .i64 t405)).setCell ⟨gb417, 1, none⟩ (.slice Ao38 t406.length co38)).setCell ⟨gb417, 2, none⟩ (.int .i64 t409)).setCell ⟨gb417, 3, none⟩ (.slice Ao39 t410.length co39)).setCell ⟨gb417, 4, none⟩ (.int .i64 t413)).setCell ⟨gb417, 5, none⟩ (.slice Ao40 t414.length co40)) w.heap.size (fun k_ => some k_ ≠ (.slice Ao39 t410.length co39 : Value).ownBlock ∧ some k_ ≠ (.slice Ao40 t414.length co40 : Value).ownBlock) (.slice Ao38 t406.length co38) t406) := ⟨by (with_reducible repeat (first | apply Kd.R_alloc | apply Kd.R_drewN | apply Kd.R_drew)); exact Kd.R_mono (RF (RF (RF (RF (RF (RF (Kd.R_types HO408.out BK417.out (by decide)))))))) (fun _ hk => ⟨hk.1.1, hk.1.2⟩)⟩
         have n1_ : Aside0 (Kd.R (Kd.int .u8) 5 ((((((w34.setCell ⟨gb417, 0, none⟩ (.int .i64 t405)).setCell ⟨gb417, 1, none⟩ (.slice Ao38 t406.length co38)).setCell ⟨gb417, 2, none⟩ (.int .i64 t409)).setCell ⟨gb417, 3, none⟩ (.slice Ao39 t410.length co39)).setCell ⟨gb417, 4, none⟩ (.int .i64 t413)).setCell ⟨gb417, 5, none⟩ (.slice Ao40 t414.length co40)) w.heap.size (fun k_ => some k_ ≠ (.slice Ao38 t406.length co38 : Value).ownBlock ∧ some k_ ≠ (.slice Ao40 t414.length co40 : Value).ownBlock) (.slice Ao39 t410.length co39) t410) := ⟨by (with_reducible repeat (first | apply Kd.R_alloc | apply Kd.R_drewN | apply Kd.R_drew)); exact Kd.R_mono (RF (RF (RF (RF (RF (RF (Kd.R_types HO412.out BK417.out (by decide)))))))) (fun _ hk => ⟨hk.1.1, hk.1.2⟩)⟩
         have n2_ : Aside0 (Kd.R (Kd.int .u8) 5 ((((((w34.setCell ⟨gb417, 0, none⟩ (.int .i64 t405)).setCell ⟨gb417, 1, none⟩ (.slice Ao38 t406.length co38)).setCell ⟨gb417, 2, none⟩ (.int .i64 t409)).setCell ⟨gb417, 3, none⟩ (.slice Ao39 t410.length co39)).setCell ⟨gb417, 4, none⟩ (.int .i64 t413)).setCell ⟨gb417, 5, none⟩ (.slice Ao40 t414.length co40)) w.heap.size (fun k_ => some k_ ≠ (.slice Ao38 t406.length co38 : Value).ownBlock ∧ some k_ ≠ (.slice Ao39 t410.length co39 : Value).ownBlock) (.slice Ao40 t414.length co40) t414) := ⟨by (with_reducible repeat (first | apply Kd.R_alloc | apply Kd.R_drewN | apply Kd.R_drew)); exact Kd.R_mono (RF (RF (RF (RF (RF (RF (Kd.R_types HO416.out BK417.out (by decide)))))))) (fun _ hk => ⟨hk.1.1, hk.1.2⟩)⟩
         have n3_ : Aside0 (((((((w34.setCell ⟨gb417, 0, none⟩ (.int .i64 t405)).setCell ⟨gb417, 1, none⟩ (.slice Ao38 t406.length co38)).setCell ⟨gb417, 2, none⟩ (.int .i64 t409)).setCell ⟨gb417, 3, none⟩ (.slice Ao39 t410.length co39)).setCell ⟨gb417, 4, none⟩ (.int .i64 t413)).setCell ⟨gb417, 5, none⟩ (.slice Ao40 t414.length co40)).heap[gb399]? = some (.cells #[.int .i64 a0_0, .slice A0_1 l0_1.length c0_1, .int .i64 a0_2, .slice A0_3 l0_3.length c0_3] 59 (0, 0))) := ⟨by (with_reducible repeat (first | refine blk_drewN ?_ _ | refine blk_drew ?_ | refine blk_alloc ?_ _)); refine blk_far ?_ NB399_417.out _; (with_reducible repeat (first | refine blk_drewN ?_ _ | refine blk_drew ?_ | refine blk_alloc ?_ _)); refine blk_far ?_ NB399_417.out _; (with_reducible repeat (first | refine blk_drewN ?_ _ | refine blk_drew ?_ | refine blk_alloc ?_ _)); refine blk_far ?_ NB399_417.out _; (with_reducible repeat (first | refine blk_drewN ?_ _ | refine blk_drew ?_ | refine blk_alloc ?_ _)); refine blk_far ?_ NB399_417.out _; (with_reducible repeat (first | refine blk_drewN ?_ _ | refine blk_drew ?_ | refine blk_alloc ?_ _)); refine blk_far ?_ NB399_417.out _; (with_reducible repeat (first | refine blk_drewN ?_ _ | refine blk_drew ?_ | refine blk_alloc ?_ _)); refine blk_far ?_ NB399_417.out _; (with_reducible repeat (first | refine blk_drewN ?_ _ | refine blk_drew ?_ | refine blk_alloc ?_ _)); exact BK399.out⟩
         have n4_ : Aside0 (((((((w34.setCell ⟨gb417, 0, none⟩ (.int .i64 t405)).setCell ⟨gb417, 1, none⟩ (.slice Ao38 t406.length co38)).setCell ⟨gb417, 2, none⟩ (.int .i64 t409)).setCell ⟨gb417, 3, none⟩ (.slice Ao39 t410.length co39)).setCell ⟨gb417, 4, none⟩ (.int .i64 t413)).setCell ⟨gb417, 5, none⟩ (.slice Ao40 t414.length co40)).heap[gb400]? = some (.cells #[.int .i64 0, .slice none 0 0, .int .i64 0, .slice none 0 0, .int .i64 0, .slice none 0 0] 63 (0, 0))) := ⟨by (with_reducible repeat (first | refine blk_drewN ?_ _ | refine blk_drew ?_ | refine blk_alloc ?_ _)); refine blk_far ?_ NB400_417.out _; (with_reducible repeat (first | refine blk_drewN ?_ _ | refine blk_drew ?_ | refine blk_alloc ?_ _)); refine blk_far ?_ NB400_417.out _; (with_reducible repeat (first | refine blk_drewN ?_ _ | refine blk_drew ?_ | refine blk_alloc ?_ _)); refine blk_far ?_ NB400_417.out _; (with_reducible repeat (first | refine blk_drewN ?_ _ | refine blk_drew ?_ | refine blk_alloc ?_ _)); refine blk_far ?_ NB400_417.out _; (with_reducible repeat (first | refine blk_drewN ?_ _ | refine blk_drew ?_ | refine blk_alloc ?_ _)); refine blk_far ?_ NB400_417.out _; (with_reducible repeat (first | refine blk_drewN ?_ _ | refine blk_drew ?_ | refine blk_alloc ?_ _)); refine blk_far ?_ NB400_417.out _; (with_reducible repeat (first | refine blk_drewN ?_ _ | refine blk_drew ?_ | refine blk_alloc ?_ _)); exact BK400.out⟩
         have n5_ : Aside0 (((((((w34.setCell ⟨gb417, 0, none⟩ (.int .i64 t405)).setCell ⟨gb417, 1, none⟩ (.slice Ao38 t406.length co38)).setCell ⟨gb417, 2, none⟩ (.int .i64 t409)).setCell ⟨gb417, 3, none⟩ (.slice Ao39 t410.length co39)).setCell ⟨gb417, 4, none⟩ (.int .i64 t413)).setCell ⟨gb417, 5, none⟩ (.slice Ao40 t414.length co40)).heap[gb417]? = some (.cells #[.int .i64 t405, .slice Ao38 t406.length co38, .int .i64 t409, .slice Ao39 t410.length co39, .int .i64 t413, .slice Ao40 t414.length co40] 63 (0, 0))) := ⟨by (with_reducible repeat (first | refine blk_drewN ?_ _ | refine blk_drew ?_ | refine blk_alloc ?_ _)); refine blk_put (cs := #[.int .i64 t405, .slice Ao38 t406.length co38, .int .i64 t409, .slice Ao39 t410.length co39, .int .i64 t413, .slice none 0 0]) ?_ 5 _ rfl; (with_reducible repeat (first | refine blk_drewN ?_ _ | refine blk_drew ?_ | refine blk_alloc ?_ _)); refine blk_put (cs := #[.int .i64 t405, .slice Ao38 t406.length co38, .int .i64 t409, .slice Ao39 t410.length co39, .int .i64 0, .slice none 0 0]) ?_ 4 _ rfl; (with_reducible repeat (first | refine blk_drewN ?_ _ | refine blk_drew ?_ | refine blk_alloc ?_ _)); refine blk_put (cs := #[.int .i64 t405, .slice Ao38 t406.length co38, .int .i64 t409, .slice none 0 0, .int .i64 0, .slice none 0 0]) ?_ 3 _ rfl; (with_reducible repeat (first | refine blk_drewN ?_ _ | refine blk_drew ?_ | refine blk_alloc ?_ _)); refine blk_put (cs := #[.int .i64 t405, .slice Ao38 t406.length co38, .int .i64 0, .slice none 0 0, .int .i64 0, .slice none 0 0]) ?_ 2 _ rfl; (with_reducible repeat (first | refine blk_drewN ?_ _ | refine blk_drew ?_ | refine blk_alloc ?_ _)); refine blk_put (cs := #[.int .i64 t405, .slice none 0 0, .int .i64 0, .slice none 0 0, .int .i64 0, .slice none 0 0]) ?_ 1 _ rfl; (with_reducible repeat (first | refine blk_drewN ?_ _ | refine blk_drew ?_ | refine blk_alloc ?_ _)); refine blk_put (cs := #[.int .i64 0, .slice none 0 0, .int .i64 0, .slice none 0 0, .int .i64 0, .slice none 0 0]) ?_ 0 _ rfl; (with_reducible repeat (first | refine blk_drewN ?_ _ | refine blk_drew ?_ | refine blk_alloc ?_ _)); exact BK417.out⟩
         have n6_ : Aside0 (Below w.heap.size w ((((((w34.setCell ⟨gb417, 0, none⟩ (.int .i64 t405)).setCell ⟨gb417, 1, none⟩ (.slice Ao38 t406.length co38)).setCell ⟨gb417, 2, none⟩ (.int .i64 t409)).setCell ⟨gb417, 3, none⟩ (.slice Ao39 t410.length co39)).setCell ⟨gb417, 4, none⟩ (.int .i64 t413)).setCell ⟨gb417, 5, none⟩ (.slice Ao40 t414.length co40))) := ⟨bel HB⟩
         (try clear HO408)
         (try clear HO412)
         (try clear HO416)
         (try clear BK399)
         (try clear BK400)
         (try clear BK417)
         (try clear HB)
         generalize ((((((w34.setCell ⟨gb417, 0, none⟩ (.int .i64 t405)).setCell ⟨gb417, 1, none⟩ (.slice Ao38 t406.length co38)).setCell ⟨gb417, 2, none⟩ (.int .i64 t409)).setCell ⟨gb417, 3, none⟩ (.slice Ao39 t410.length co39)).setCell ⟨gb417, 4, none⟩ (.int .i64 t413)).setCell ⟨gb417, 5, none⟩ (.slice Ao40 t414.length co40)) = w41 at n0_ n1_ n2_ n3_ n4_ n5_ n6_ ⊢
         have HO408 := n0_
         have HO412 := n1_
         have HO416 := n2_
         have BK399 := n3_
         have BK400 := n4_
         have BK417 := n5_
         have HB := n6_
         clear n0_ n1_ n2_ n3_ n4_ n5_ n6_
         have n0_ := Aside0.mk (Kd.R_drew HO408.out)
         have n1_ := Aside0.mk (Kd.R_drew HO412.out)
         have n2_ := Aside0.mk (Kd.R_drew HO416.out)
         have n3_ := Aside0.mk (blk_drew BK399.out)
         have n4_ := Aside0.mk (blk_drew BK400.out)
         have n5_ := Aside0.mk (blk_drew BK417.out)
         have n6_ := Aside0.mk (below_drew1 HB.out)
         clear HO408
         clear HO412
         clear HO416
         clear BK399
         clear BK400
         clear BK417
         clear HB
         have HO408 := n0_
         have HO412 := n1_
         have HO416 := n2_
         have BK399 := n3_
         have BK400 := n4_
         have BK417 := n5_
         have HB := n6_
         clear n0_ n1_ n2_ n3_ n4_ n5_ n6_
         refine start_ (n := 14) (S := fun w' => w'.cell? ⟨gb399, 0, none⟩ = some (.int .i64 a0_0) ∧ w'.cell? ⟨gb399, 1, none⟩ = some (.slice A0_1 l0_1.length c0_1) ∧ w'.cell? ⟨gb399, 2, none⟩ = some (.int .i64 a0_2) ∧ w'.cell? ⟨gb399, 3, none⟩ = some (.slice A0_3 l0_3.length c0_3)) (ds := []) #[false, false, false, false, false, false, false, false, false, false, false, false, false, false] (by kernel_rfl) rfl rfl ⟨(blk_cell BK399.out 0).trans rfl, (blk_cell BK399.out 1).trans rfl, (blk_cell BK399.out 2).trans rfl, (blk_cell BK399.out 3).trans rfl⟩ (fun hHeld => ?_); refine with_tabW impl_TakeInput.tab7 impl_TakeInput.bits7 (fun HT_ HW_ => ?_)
         generalize w41.drew = w42 at HO408 HO412 HO416 BK399 BK400 BK417 HB hHeld ⊢
         refine pA 0 35 [1, 13] ?_
         refine pA 2 37 [1, 1, 1, 11] ?_
         refine pA 3 38 [1, 1, 2, 10] ?_
         refine pA 4 39 [1, 1, 3, 9] ?_
         refine pA 5 40 [1, 1, 4, 8] ?_
         refine pA 6 41 [1, 1, 5, 7] ?_
         refine take_ (i := 1) (N := some 36) (v := ?_) (a' := ?_) #[true, true, true, true, true, true, true, false, false, false, false, false, false, false] rfl rfl (take_ofW HT_.out HW_.out (by kernel_rfl)) (fun _ _ _ h => h) (Or.inl ⟨by rfl, ?_⟩) hHeld ?_ ?_
         rotate_left
         ·
          rintro w' ⟨s0, s1, s2, s3⟩
          go_simp
          with_reducible rfl
         rotate_left
         ·
          simp only [Act.put, List.setIfInBounds_toArray, List.set_cons_zero, List.set_cons_succ, i64_w, i32_w]
          rfl
         refine take_ (i := 7) (N := some 42) (v := ?_) (a' := ?_) #[true, true, true, true, true, true, true, true, false, false, false, false, false, false] rfl rfl (take_ofW HT_.out HW_.out (by kernel_rfl)) (fun _ _ _ h => h) (Or.inl ⟨by rfl, ?_⟩) hHeld ?_ ?_
         rotate_left
         ·
          rintro w' ⟨s0, s1, s2, s3⟩
          go_simp
          with_reducible rfl
         rotate_left
         ·
          simp only [Act.put, List.setIfInBounds_toArray, List.set_cons_zero, List.set_cons_succ, i64_w, i32_w]
          rfl
         refine one_ (i := 8) (N := some 43) #[true, true, true, true, true, true, true, true, true, false, false, false, false, false] rfl rfl (one_of HT_.out (by kernel_rfl)) (by decide) (fun K hK => ?_)
         refine goes_ Try.func97 (by kernel_rfl) rfl #[.slice A0_1 l0_1.length c0_1] (by rfl) rfl rfl (by (try simp only [List.map_toArray, List.map_cons, List.map_nil]); first | done | rfl | (simp only [List.length_drop, List.length_take]; rfl)) ?_
         with_reducible refine (impl_size_byte.calls _ _ l0_1 t418 _ ?side1 ?side2 A25.out).mono ?_
         (case side1 => exact mC HR0_1 HB)
         (case side2 => exact HC0_1.out)
         rintro e w' ⟨rfl, ⟨nd, rfl⟩⟩
         refine ⟨_, rfl, ?_⟩
         obtain ⟨i043, hi043, _, hsz43, _⟩ := info_parts info5
         obtain ⟨A43, hcut43, hA43, hC43⟩ := print_mid_of (P := Try.prog) (Value.int .u8) 0 25 5 .i64 .i64 Try.underlying25 hi043 hsz43 A0_1 c0_1 l0_1 a2 (ji26) (of_decide_eq_true (by first | (with_reducible assumption) | assumption)) (by first | omega | exact of_decide_eq_true (by first | (with_reducible assumption) | assumption)) (of_decide_eq_true (by first | (with_reducible assumption) | assumption)) HC0_1.out
         have HR419 := Aside0.mk (Kd.C_of_reads (h1 := fun _ => rfl) (hA43 _ (Kd.reads_of_C HR0_1.out)))
         have HC419 := Aside0.mk hC43
         clear hA43 hC43 hi043 hsz43
         refine hK.out _ _ (ce4 BK399) (fun hHeld => ?_)
         clear hK K
         refine norm_ (a' := ?_) ?_ ?_
         rotate_left
         ·
          show Act.put _ (some 43) _ = _
          simp only [Act.put, List.setIfInBounds_toArray, List.set_cons_zero, List.set_cons_succ, i64_w, i32_w]
          rfl
         refine pA 9 44 [10, 4] ?_
         refine pA 10 45 [11, 3] ?_
         refine one_ (i := 11) (N := some 46) #[true, true, true, true, true, true, true, true, true, true, true, true, false, false] rfl rfl (one_of HT_.out (by kernel_rfl)) (by decide) (fun K hK => ?_)
         refine goes_ Try.func63 (by kernel_rfl) rfl #[.slice A43 ((l0_1.take ((ji26) : Int).toNat).drop (a2 : Int).toNat).length (c0_1 - a2.toNat)] (by rfl) rfl rfl (by (try simp only [List.map_toArray, List.map_cons, List.map_nil]); first | done | (rw [show ((l0_1.take ((ji26) : Int).toNat).drop (a2 : Int).toNat).length = ((ji26).toNat - a2.toNat) from (by rw [List.length_drop, List.length_take]; have h_ : ((ji26) : Int) ≤ (l0_1.length : Int) := of_decide_eq_true (by first | (with_reducible assumption) | assumption); omega)] <;> rfl) | (simp only [hji26]; rfl) | rfl | (simp only [List.length_drop, List.length_take]; rfl)) ?_
         with_reducible refine (slices_Clone_byte_byte.calls _ _ ((l0_1.take ((ji26) : Int).toNat).drop (a2 : Int).toNat) t420 _ ?side1 ?side2 A30.out).mono ?_
         (case side1 => repeat (first | exact (Kd.C_below HR419.out (bel HB)) | (with_reducible refine Kd.C_alloc ?_ _) | (with_reducible refine Kd.C_drewN ?_ _) | (with_reducible refine Kd.C_drew ?_)))
         (case side2 => exact HC419.out)
         rintro e w44 ⟨v421, rfl, ho0, hb⟩
         refine ⟨_, rfl, ?_⟩
         have n0_ := Aside0.mk (Kd.R_elder' (mR HO408) (Kd.R_base ho0) hb)
         have n1_ := Aside0.mk (Kd.R_elder' (mR HO412) (Kd.R_base ho0) hb)
         have n2_ := Aside0.mk (Kd.R_elder' (mR HO416) (Kd.R_base ho0) hb)
         have n3_ := Aside0.mk (Kd.R_lower (Kd.R_new' (Kd.R_new' (Kd.R_new' ho0 (Kd.R_lt (mR HO408))) (Kd.R_lt (mR HO412))) (Kd.R_lt (mR HO416))) (below_size (bel HB)))
         have n4_ := bK BK399 hb
         have n5_ := bK BK400 hb
         have n6_ := bK BK417 hb
         have n7_ := bS HB hb
         clear HO408
         clear HO412
         clear HO416
         clear BK399
         clear BK400
         clear BK417
         clear HB
         have HO408 := n0_
         have HO412 := n1_
         have HO416 := n2_
         have HO422 := n3_
         have BK399 := n4_
         have BK400 := n5_
         have BK417 := n6_
         have HB := n7_
         clear n0_ n1_ n2_ n3_ n4_ n5_ n6_ n7_
         (try clear hb)
         (try clear hb2)
         (try clear hk)
         (try clear hi)
         (try clear ho0)
         obtain ⟨Ao45, co45, eo45⟩ := Kd.R_slice HO422.out
         (first | subst eo45 | (injection eo45 with f1_ f2_ f3_; have f4_ := f1_.symm; have f5_ := f3_.symm; clear f1_ f2_ f3_; subst f4_; subst f5_))
         refine hK.out _ _ (ce4 BK399) (fun hHeld => ?_)
         clear hK K
         refine norm_ (a' := ?_) ?_ ?_
         rotate_left
         ·
          show Act.put _ (some 46) _ = _
          simp only [Act.put, List.setIfInBounds_toArray, List.set_cons_zero, List.set_cons_succ, i64_w, i32_w]
          rfl
         refine pA 12 47 [13, 1] ?_
         refine one_ (i := 13) (N := none) #[true, true, true, true, true, true, true, true, true, true, true, true, true, true] rfl rfl (one_of HT_.out (by kernel_rfl)) (by decide) (fun K hK => ?_)
         have hs46 : w44.cell? ⟨gb417, 1, none⟩ = some (.slice Ao38 t406.length co38) := (blk_cell BK417.out 1).trans rfl
         have hfs46 := blk_frozen BK417.out 1
         have hns46_0 := NB399_417.out
         have hns46_1 := NB400_417.out
         have hms46_0 := NB417_399.out
         have hms46_1 := NB417_400.out
         refine skip_ (w1 := ?_) (by rfl) rfl ?_ ?_
         rotate_left
         ·
          go_simp
          rfl
         refine hK.out _ _ ⟨((cell_far (p := ⟨gb417, _, none⟩) NB399_417.out _).trans (hHeld.1)), ((cell_far (p := ⟨gb417, _, none⟩) NB399_417.out _).trans (hHeld.2.1)), ((cell_far (p := ⟨gb417, _, none⟩) NB399_417.out _).trans (hHeld.2.2.1)), ((cell_far (p := ⟨gb417, _, none⟩) NB399_417.out _).trans (hHeld.2.2.2))⟩ (fun hHeld => ?_)
         clear hK K
         refine done_ (done_of HT_.out (by kernel_rfl)) ?_
         have hz47 := cl6 BK417
         have hz48 := cl6 BK400
         try go_wp2
         refine bodyPost_ret (results_cell_row rfl _ _ gb400 63 #[.int .i64 t405, .slice Ao45 t420.length co45, .int .i64 t409, .slice Ao39 t410.length co39, .int .i64 t413, .slice Ao40 t414.length co40] (0, 0) _ rfl (mP BK400) Try.underlying63 rfl (by kernel_rfl)) rfl ?_
         exact ⟨_, _, _, by first | rfl | (simp [errW_none, errW_some] <;> rfl) | (simp only [← hji26]; first | rfl | (simp [errW_none, errW_some] <;> rfl)) | (simp [*, errW_none, errW_some] <;> rfl), by (with_reducible repeat (first | apply Kd.R_alloc | apply Kd.R_drewN | apply Kd.R_drew)); exact Kd.R_mono (RF (RF (RF (RF (RF (RF (Kd.R_far (p := ⟨gb417, 1, none⟩) (Kd.R_types (Kd.R_types HO422.out BK417.out (by decide)) BK400.out (by decide)) (fun _ hk => hk.1.2) (.slice Ao45 t420.length co45)))))))) (fun _ hk => ⟨hk.1.1.1.2, hk.1.1.2⟩), by (with_reducible repeat (first | apply Kd.R_alloc | apply Kd.R_drewN | apply Kd.R_drew)); exact Kd.R_mono (RF (RF (RF (RF (RF (RF (Kd.R_far (p := ⟨gb417, 1, none⟩) (Kd.R_types (Kd.R_types HO412.out BK417.out (by decide)) BK400.out (by decide)) (fun _ hk => hk.1.2) (.slice Ao45 t420.length co45)))))))) (fun _ hk => ⟨hk.1.1.2, hk.1.1.1.2⟩), by (with_reducible repeat (first | apply Kd.R_alloc | apply Kd.R_drewN | apply Kd.R_drew)); exact Kd.R_mono (RF (RF (RF (RF (RF (RF (Kd.R_far (p := ⟨gb417, 1, none⟩) (Kd.R_types (Kd.R_types HO416.out BK417.out (by decide)) BK400.out (by decide)) (fun _ hk => hk.1.2) (.slice Ao45 t420.length co45)))))))) (fun _ hk => ⟨hk.1.1.2, hk.1.1.1.2⟩), bel HB⟩
        ·
         rw [if_neg c29] at H
         exact absurd H (by simp)
       ·
        rw [if_neg c28] at H
        exact absurd H (by simp)
      ·
       rw [if_neg c27] at H
       exact absurd H (by simp)
     ·
      rw [if_neg c23] at H
      have c23b0 : (x9_20 == 0) = false := beq_eq_false_iff_ne.mpr c23
      have c23b1 : (x9_20 != 0) = true := bne_iff_ne.mpr c23
      simp only [Option.some.injEq, Prod.mk.injEq] at H
      obtain ⟨rfl, rfl, rfl, rfl, rfl, rfl⟩ := H
      have hnb49 := NB400_399.out
      have hnc49 := NB399_400.out
      have hz50 := cl6 BK400
      go_wp2
      refine bodyPost_ret (results_cell_row rfl _ _ gb400 63 #[.int .i64 x9_20, .slice none 0 0, .int .i64 0, .slice none 0 0, .int .i64 0, .slice none 0 0] (0, 0) _ rfl (mP BK400) Try.underlying63 rfl (by kernel_rfl)) rfl ?_
      exact ⟨_, _, _, by first | rfl | (simp [errW_none, errW_some] <;> rfl) | (simp [*, errW_none, errW_some] <;> rfl), by first | exact Kd.R_nil _ _ _ _ _ | exact Kd.N_nil _ _ _ _ _ | exact Kd.V_nil _ _ _ _ _ | exact Kd.Q_nil _ _ _ _ _ | exact Kd.S_nil _ _ _ _ _, by first | exact Kd.R_nil _ _ _ _ _ | exact Kd.N_nil _ _ _ _ _ | exact Kd.V_nil _ _ _ _ _ | exact Kd.Q_nil _ _ _ _ _ | exact Kd.S_nil _ _ _ _ _, by first | exact Kd.R_nil _ _ _ _ _ | exact Kd.N_nil _ _ _ _ _ | exact Kd.V_nil _ _ _ _ _ | exact Kd.Q_nil _ _ _ _ _ | exact Kd.S_nil _ _ _ _ _, bel HB⟩

end Go.Proofs.Ytgfoifkkffffgab.PFnWires
