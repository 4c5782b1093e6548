-- Laid by a turned copy of the printer (wip/tools/patch_print.py)
import Derived.Test.YtgfoifkkffffgabPFnWiresx0
import Derived.Test.YtgfoifkkffffgabPFnWiresx3
import Derived.Test.YtgfoifkkffffgabPFnWiresx4
namespace Go.Proofs.Ytgfoifkkffffgab.PFnWires
open Go.RowKit Go.Proofs.YtgfoifkkffffgabW.PrintWords Go.Proofs.YtgfoifkkffffgabW.PrintLast Go.Proofs.YtgfoifkkffffgabW.PrintMore
attribute [local go_sem] max2_int min2_int max_two min_two max_three min_three max_four min_four   -- for this text's walks alone
set_option linter.unusedVariables false
set_option linter.unusedSimpArgs false

/-! ### impl_PeerSends: function 39 -/
mutual
def impl_PeerSends.j0 : Nat → List Int → Int → Bool → Int → List Int → Int → List Int → Option (Int × List Int × Int × List Int × Int × List Int)
 | 0, _, _, _, _, _, _, _ => none
 | k + 1, x1, x5, x18, x424000, x424001, x424002, x424003 => if x18 = true then (impl_PeerSends.j1 k x1 2 x424000 x424001 x424002 x424003) else (impl_PeerSends.j1 k x1 x5 x424000 x424001 x424002 x424003)
def impl_PeerSends.j1 : Nat → List Int → Int → Int → List Int → Int → List Int → Option (Int × List Int × Int × List Int × Int × List Int)
 | 0, _, _, _, _, _, _ => none
 | k + 1, x1, x5, x424000, x424001, x424002, x424003 => if x5 = 0 then ((slices_Concat_byte_byte.f k (([x424001, x1] : List (List Int)))).bind fun t429 => ((impl_Wire_result.f x424000 t429 x424002 x424003).bind fun bt432 => (some (bt432.1, bt432.2.1, bt432.2.2.1, bt432.2.2.2.1, bt432.2.2.2.2.1, bt432.2.2.2.2.2)))) else (some (x5, ([] : List Int), 0, ([] : List Int), 0, ([] : List Int)))
end
def impl_PeerSends.f (k : Nat) (a0_0 : Int) (l0_1 : List Int) (a0_2 : Int) (l0_3 : List Int) (l1 : List Int) : Option (Int × List Int × Int × List Int × Int × List Int) := (impl_WireFault.f k a0_0 l0_1 a0_2 l0_3).bind fun t425 => (if t425 = 0 then (impl_PeerSends.j0 k l1 t425 (decide ((wrap64 ((l0_1.length : Int) + (l1.length : Int))) > 2000)) a0_0 l0_1 a0_2 l0_3) else (impl_PeerSends.j0 k l1 t425 false a0_0 l0_1 a0_2 l0_3))
theorem impl_PeerSends.mono_l : ∀ k, (∀ y0 y1 y2 y3 y4 y5 y6, LeO (impl_PeerSends.j0 k y0 y1 y2 y3 y4 y5 y6) (impl_PeerSends.j0 (k + 1) y0 y1 y2 y3 y4 y5 y6)) ∧ (∀ y0 y1 y2 y3 y4 y5, LeO (impl_PeerSends.j1 k y0 y1 y2 y3 y4 y5) (impl_PeerSends.j1 (k + 1) y0 y1 y2 y3 y4 y5))
 | 0 => ⟨fun _ _ _ _ _ _ _ r h => by simp [impl_PeerSends.j0] at h, fun _ _ _ _ _ _ r h => by simp [impl_PeerSends.j1] at h⟩
 | k + 1 => by
  obtain ⟨ih0, ih1⟩ := impl_PeerSends.mono_l k
  refine ⟨?_, ?_⟩
  ·
   intro y0 y1 y2 y3 y4 y5 y6
   unfold impl_PeerSends.j0
   repeat' first
   | (with_reducible exact ih0 _ _ _ _ _ _ _)
   | (with_reducible exact ih1 _ _ _ _ _ _)
   | (with_reducible exact impl_WireFault.mono _ _ _ _ _)
   | (with_reducible exact slices_Concat_byte_byte.mono _ _)
   | (with_reducible exact LeO.refl _)
   | (with_reducible exact LeO.none _)
   | (with_reducible refine LeO.ite ?_ ?_)
   | (with_reducible refine LeO.bind ?_ (fun _ => ?_))
   | exact ih0 _ _ _ _ _ _ _
   | exact ih1 _ _ _ _ _ _
   | exact impl_WireFault.mono _ _ _ _ _
   | exact slices_Concat_byte_byte.mono _ _
   | exact LeO.none _
   | refine LeO.ite ?_ ?_
   | refine LeO.bind ?_ (fun _ => ?_)
  ·
   intro y0 y1 y2 y3 y4 y5
   unfold impl_PeerSends.j1
   repeat' first
   | (with_reducible exact ih0 _ _ _ _ _ _ _)
   | (with_reducible exact ih1 _ _ _ _ _ _)
   | (with_reducible exact impl_WireFault.mono _ _ _ _ _)
   | (with_reducible exact slices_Concat_byte_byte.mono _ _)
   | (with_reducible exact LeO.refl _)
   | (with_reducible exact LeO.none _)
   | (with_reducible refine LeO.ite ?_ ?_)
   | (with_reducible refine LeO.bind ?_ (fun _ => ?_))
   | exact ih0 _ _ _ _ _ _ _
   | exact ih1 _ _ _ _ _ _
   | exact impl_WireFault.mono _ _ _ _ _
   | exact slices_Concat_byte_byte.mono _ _
   | exact LeO.none _
   | refine LeO.ite ?_ ?_
   | refine LeO.bind ?_ (fun _ => ?_)
theorem impl_PeerSends.mono : ∀ a0 a1 a2 a3 a4 k, LeO (impl_PeerSends.f k a0 a1 a2 a3 a4) (impl_PeerSends.f (k + 1) a0 a1 a2 a3 a4) := by
 intro a0 a1 a2 a3 a4 k
 obtain ⟨ih0, ih1⟩ := impl_PeerSends.mono_l k
 unfold impl_PeerSends.f
 repeat' first
   | (with_reducible exact ih0 _ _ _ _ _ _ _)
   | (with_reducible exact ih1 _ _ _ _ _ _)
   | (with_reducible exact impl_WireFault.mono _ _ _ _ _)
   | (with_reducible exact slices_Concat_byte_byte.mono _ _)
   | (with_reducible exact LeO.refl _)
   | (with_reducible exact LeO.none _)
   | (with_reducible refine LeO.ite ?_ ?_)
   | (with_reducible refine LeO.bind ?_ (fun _ => ?_))
   | exact ih0 _ _ _ _ _ _ _
   | exact ih1 _ _ _ _ _ _
   | exact impl_WireFault.mono _ _ _ _ _
   | exact slices_Concat_byte_byte.mono _ _
   | exact LeO.none _
   | refine LeO.ite ?_ ?_
   | refine LeO.bind ?_ (fun _ => ?_)
set_option maxHeartbeats 8000000 in
set_option maxRecDepth 100000 in
theorem impl_PeerSends.calls (k : Nat) (a0_0 : Int) (P0_1_ : Nat → Prop) (A0_1 : Option Addr) (c0_1 : Nat) (l0_1 : List Int) (a0_2 : Int) (A0_3 : Option Addr) (c0_3 : Nat) (l0_3 : List Int) (P1_ : Nat → Prop) (A1 : Option Addr) (c1 : Nat) (l1 : List Int) (r1 : Int) (r2 : List Int) (r3 : Int) (r4 : List Int) (r5 : Int) (r6 : List Int) (w : World) (hs0_1 : Kd.V (Kd.int .u8) 5 w w.heap.size (fun k_ => P0_1_ k_) (.slice A0_1 l0_1.length c0_1) l0_1) (hr0_3 : Kd.C (Kd.int .u8) w A0_3 l0_3.length l0_3) (hc0_3 : l0_3.length ≤ c0_3) (hs1 : Kd.V (Kd.int .u8) 5 w w.heap.size (fun k_ => P1_ k_) (.slice A1 l1.length c1) l1) (h : impl_PeerSends.f k a0_0 l0_1 a0_2 l0_3 l1 = some (r1, r2, r3, r4, r5, r6)) :
  Calls Try.prog 39 #[.agg #[.int .i64 a0_0, .slice A0_1 l0_1.length c0_1, .int .i64 a0_2, .slice A0_3 l0_3.length c0_3], .slice A1 l1.length c1] w fun e w' => ∃ v1_ v3_ v5_ : Value, e = .returned (.agg #[.int .i64 r1, v1_, .int .i64 r3, v3_, .int .i64 r5, v5_]) ∧ Kd.R (Kd.int .u8) 5 w' w.heap.size (fun k_ => (w.heap.size ≤ k_) ∧ some k_ ≠ (v3_ : Value).ownBlock ∧ some k_ ≠ (v5_ : Value).ownBlock) v1_ r2 ∧ Kd.R (Kd.int .u8) 5 w' w.heap.size (fun k_ => (w.heap.size ≤ k_) ∧ some k_ ≠ (v1_ : Value).ownBlock ∧ some k_ ≠ (v5_ : Value).ownBlock) v3_ r4 ∧ Kd.R (Kd.int .u8) 5 w' w.heap.size (fun k_ => (w.heap.size ≤ k_) ∧ some k_ ≠ (v1_ : Value).ownBlock ∧ some k_ ≠ (v3_ : Value).ownBlock) v5_ r6 ∧ Below w.heap.size w w' := by
 have hu59 := Try.underlying59
 have hu63 := Try.underlying63
 have HO0_1 := Aside0.mk (show Kd.V (Kd.int .u8) 5 w w.heap.size (fun k_ => ((P0_1_ k_ ∨ P1_ k_) ∨ w.heap.size ≤ k_)) (.slice A0_1 l0_1.length c0_1) l0_1 from Kd.V_mono hs0_1 (fun k_ hk => .inl (.inl hk)))
 have HR0_3 := Aside0.mk hr0_3
 have HC0_3 := Aside0.mk hc0_3
 clear hr0_3 hc0_3
 have HO1 := Aside0.mk (show Kd.V (Kd.int .u8) 5 w w.heap.size (fun k_ => ((P0_1_ k_ ∨ P1_ k_) ∨ w.heap.size ≤ k_)) (.slice A1 l1.length c1) l1 from Kd.V_mono hs1 (fun k_ hk => .inl (.inr hk)))
 have HB := Aside0.mk (Below.refl w.heap.size w)
 have H : ((impl_WireFault.f k a0_0 l0_1 a0_2 l0_3).bind fun t425 => (if t425 = 0 then (impl_PeerSends.j0 k l1 t425 (decide ((wrap64 ((l0_1.length : Int) + (l1.length : Int))) > 2000)) a0_0 l0_1 a0_2 l0_3) else (impl_PeerSends.j0 k l1 t425 false a0_0 l0_1 a0_2 l0_3))) = some (r1, r2, r3, r4, r5, r6) := h
 clear h
 replace H := Option.bind_eq_some_iff.mp H
 obtain ⟨t425, A30, H⟩ := H
 replace H : (if t425 = 0 then (impl_PeerSends.j0 k l1 t425 (decide ((wrap64 ((l0_1.length : Int) + (l1.length : Int))) > 2000)) a0_0 l0_1 a0_2 l0_3) else (impl_PeerSends.j0 k l1 t425 false a0_0 l0_1 a0_2 l0_3)) = some (r1, r2, r3, r4, r5, r6) := H
 have A3 := Aside0.mk A30
 clear A30
 have HC4 := Aside0.mk H
 clear H
 go_enter Try.func39, Try.ntmps39
 go_upto_region 2 with (first | ((with_reducible refine gate_dst (N := 2) rfl ?_); (try (refine gate_guard (by rfl) ?_; dsimp only)); refine boxE #[.int .i64 a0_0, .slice A0_1 l0_1.length c0_1, .int .i64 a0_2, .slice A0_3 l0_3.length c0_3] 59 (N := 2) rfl rfl ?_; intro gb423 hg w5 hbox hb; replace HO0_1 := Aside0.mk (Kd.V_below (Kd.V_elderB (mV HO0_1) gb423 (Nat.le_of_eq hg.symm)) hb); replace HO1 := Aside0.mk (Kd.V_below (Kd.V_elderB (mV HO1) gb423 (Nat.le_of_eq hg.symm)) hb); have BK423 := Aside0.mk hbox; have GW423 := gZ HB hg; have GE423 := gZ HB hg; replace HB := bS HB hb; clear hb hbox hg) | ((with_reducible refine gate_dst (N := 4) rfl ?_); (try (refine gate_guard (by rfl) ?_; dsimp only)); refine boxE #[.int .i64 0, .slice none 0 0, .int .i64 0, .slice none 0 0, .int .i64 0, .slice none 0 0] 63 (N := 4) rfl rfl ?_; intro gb424 hg w6 hbox hb; replace HO0_1 := Aside0.mk (Kd.V_below (Kd.V_elderB (mV HO0_1) gb424 (Nat.le_of_eq hg.symm)) hb); replace HO1 := Aside0.mk (Kd.V_below (Kd.V_elderB (mV HO1) gb424 (Nat.le_of_eq hg.symm)) hb); have BK424 := Aside0.mk hbox; have GW424 := gZ HB hg; have GE424 := gZ HB hg; replace HB := bS HB hb; have NB423_424 := nL BK423 hg; have NB424_423 := nG BK423 hg; replace BK423 := bK BK423 hb; clear hb hbox hg; have hnb7 := NB423_424.out; have hnc7 := NB424_423.out; have hz8 := cl4 BK423) | ((with_reducible refine gate_callee (f := 36) rfl ?_); refine goA (some 7) rfl rfl Try.func36 rfl #[.agg #[.int .i64 a0_0, .slice A0_1 l0_1.length c0_1, .int .i64 a0_2, .slice A0_3 l0_3.length c0_3]] rfl ?_; (with_reducible refine (impl_WireFault.calls k a0_0 _ _ l0_1 a0_2 _ _ l0_3 t425 _ ?side1 ?side2 ?side3 ?side4 A3.out).mono ?_); (case side1 => repeat (first | exact (Kd.V_reads' HO0_1.out).2.2 | (with_reducible refine Kd.C_alloc ?_ _) | (with_reducible refine Kd.C_drewN ?_ _) | (with_reducible refine Kd.C_drew ?_))); (case side2 => exact (Kd.V_reads' HO0_1.out).2.1); (case side3 => exact mC HR0_3 HB); (case side4 => exact HC0_3.out); rintro e w9 ⟨rfl, hb⟩; refine ⟨_, rfl, ?_⟩; replace HO0_1 := Aside0.mk (Kd.V_below (mV HO0_1) hb); replace HO1 := Aside0.mk (Kd.V_below (mV HO1) hb); replace BK423 := bK BK423 hb; replace BK424 := bK BK424 hb; replace HB := bS HB hb; (try clear hb); (try clear hb2); (try clear hk); (try clear hi)))
 (try simp only [Act.put, List.setIfInBounds_toArray, List.set_cons_zero, List.set_cons_succ])
 go_cut [18] (fun v18 wc => ∃ (kq : Nat) (x18_3 : Bool), v18 = .bool x18_3 ∧ Aside0 (impl_PeerSends.j0 kq l1 t425 x18_3 a0_0 l0_1 a0_2 l0_3 = some (r1, r2, r3, r4, r5, r6)) ∧ Aside0 (kq ≤ k) ∧ Aside0 (Kd.V (Kd.int .u8) 5 wc w.heap.size (fun k_ => ((P0_1_ k_ ∨ P1_ k_) ∨ w.heap.size ≤ k_) ∧ k_ ≠ gb423 ∧ k_ ≠ gb424) (.slice A1 l1.length c1) l1) ∧ Aside0 (Kd.V (Kd.int .u8) 5 wc w.heap.size (fun k_ => ((P0_1_ k_ ∨ P1_ k_) ∨ w.heap.size ≤ k_) ∧ k_ ≠ gb423 ∧ k_ ≠ gb424) (.slice A0_1 l0_1.length c0_1) l0_1) ∧ Aside0 (wc.heap[gb423]? = some (.cells #[.int .i64 a0_0, (.slice A0_1 l0_1.length c0_1), .int .i64 a0_2, (.slice A0_3 l0_3.length c0_3)] 59 (0, 0))) ∧ Aside0 (wc.heap[gb424]? = some (.cells #[.int .i64 0, (.slice none 0 0), .int .i64 0, (.slice none 0 0), .int .i64 0, (.slice none 0 0)] 63 (0, 0))) ∧ Aside0 (Below w.heap.size w wc))
 case first =>
  have H := HC4.out
  clear HC4
  by_cases c10 : t425 = 0
  ·
   rw [if_pos c10] at H
   have c10b0 : (t425 == 0) = true := beq_iff_eq.mpr c10
   have c10b1 : (t425 != 0) = false := bne_eq_false_iff_eq.mpr c10
   clear c10
   (first | rw [c10b0] | (simp only [i64_w, i32_w]; rw [c10b0]) | skip)
   have H' := Aside0.mk H
   clear H
   have hnb11 := NB423_424.out
   have hnc11 := NB424_423.out
   have hz12 := cl4 BK423
   go_wp2
   first | go_meet | (refine Met.intro ?_; go_step; (repeat apply Exists.intro); refine ⟨?rel, ?eqq⟩; (case eqq => (try simp only [c10b0]); rfl))
   case rel => exact ⟨_, (decide ((wrap64 ((l0_1.length : Int) + (l1.length : Int))) > 2000)), (by first | rfl | (simp; done) | (simp [*]; done)), H', ⟨by first | omega | exact Nat.le_refl _⟩, ⟨by (with_reducible repeat (first | apply Kd.V_alloc | apply Kd.V_drewN | apply Kd.V_drew)); exact Kd.V_mono HO1.out (fun _ hk => ⟨hk.1.1, ⟨hk.1.2, hk.2⟩⟩)⟩, ⟨by (with_reducible repeat (first | apply Kd.V_alloc | apply Kd.V_drewN | apply Kd.V_drew)); exact Kd.V_mono HO0_1.out (fun _ hk => ⟨hk.1.1, ⟨hk.1.2, hk.2⟩⟩)⟩, ⟨by (with_reducible repeat (first | refine blk_drewN ?_ _ | refine blk_drew ?_ | refine blk_alloc ?_ _)); exact BK423.out⟩, ⟨by (with_reducible repeat (first | refine blk_drewN ?_ _ | refine blk_drew ?_ | refine blk_alloc ?_ _)); exact BK424.out⟩, ⟨bel HB⟩⟩
  ·
   rw [if_neg c10] at H
   have c10b0 : (t425 == 0) = false := beq_eq_false_iff_ne.mpr c10
   have c10b1 : (t425 != 0) = true := bne_iff_ne.mpr c10
   (first | rw [c10b0] | (simp only [i64_w, i32_w]; rw [c10b0]) | skip)
   have H' := Aside0.mk H
   clear H
   go_wp2
   first | go_meet | (refine Met.intro ?_; go_step; (repeat apply Exists.intro); refine ⟨?rel, ?eqq⟩; (case eqq => (try simp only [c10b0]); rfl))
   case rel => exact ⟨_, (false), (by first | rfl | (simp; done) | (simp [*]; done)), H', ⟨by first | omega | exact Nat.le_refl _⟩, ⟨by (with_reducible repeat (first | apply Kd.V_alloc | apply Kd.V_drewN | apply Kd.V_drew)); exact Kd.V_mono HO1.out (fun _ hk => ⟨hk.1.1, ⟨hk.1.2, hk.2⟩⟩)⟩, ⟨by (with_reducible repeat (first | apply Kd.V_alloc | apply Kd.V_drewN | apply Kd.V_drew)); exact Kd.V_mono HO0_1.out (fun _ hk => ⟨hk.1.1, ⟨hk.1.2, hk.2⟩⟩)⟩, ⟨by (with_reducible repeat (first | refine blk_drewN ?_ _ | refine blk_drew ?_ | refine blk_alloc ?_ _)); exact BK423.out⟩, ⟨by (with_reducible repeat (first | refine blk_drewN ?_ _ | refine blk_drew ?_ | refine blk_alloc ?_ _)); exact BK424.out⟩, ⟨bel HB⟩⟩
 case rest =>
  clear HC4
  try clear c1
  try clear p2
  try clear c3
  try clear p6
  try clear c7
  try clear c10
  try clear c10b0
  try clear c10b1
  try clear c11
  try clear hz12
  try clear hz8
  obtain ⟨kq, x18_3, rfl, HA, HJ3, HO_1, HO_424001, BK423, BK424, HB⟩ := hcut
  cases kq with
  | zero => exact absurd HA.out (by simp [impl_PeerSends.j0])
  | succ kj3 =>
   have H := HA.out
   clear HA
   simp only [impl_PeerSends.j0] at H
   have HC13 := Aside0.mk H
   clear H
   go_upto_if 18 with (fail)
   go_cut [5] (fun v5 wc => ∃ (kq : Nat) (x5_12 : Int), v5 = .int .i64 x5_12 ∧ Aside0 (impl_PeerSends.j1 kq l1 x5_12 a0_0 l0_1 a0_2 l0_3 = some (r1, r2, r3, r4, r5, r6)) ∧ Aside0 (kq ≤ kj3) ∧ Aside0 (Kd.V (Kd.int .u8) 5 wc w.heap.size (fun k_ => ((P0_1_ k_ ∨ P1_ k_) ∨ w.heap.size ≤ k_) ∧ k_ ≠ gb423 ∧ k_ ≠ gb424) (.slice A1 l1.length c1) l1) ∧ Aside0 (Kd.V (Kd.int .u8) 5 wc w.heap.size (fun k_ => ((P0_1_ k_ ∨ P1_ k_) ∨ w.heap.size ≤ k_) ∧ k_ ≠ gb423 ∧ k_ ≠ gb424) (.slice A0_1 l0_1.length c0_1) l0_1) ∧ Aside0 (wc.heap[gb423]? = some (.cells #[.int .i64 a0_0, (.slice A0_1 l0_1.length c0_1), .int .i64 a0_2, (.slice A0_3 l0_3.length c0_3)] 59 (0, 0))) ∧ Aside0 (wc.heap[gb424]? = some (.cells #[.int .i64 0, (.slice none 0 0), .int .i64 0, (.slice none 0 0), .int .i64 0, (.slice none 0 0)] 63 (0, 0))) ∧ Aside0 (Below w.heap.size w wc))
   case first =>
    have H := HC13.out
    clear HC13
    by_cases c14 : x18_3 = true
    ·
     subst c14
     have H1 : (impl_PeerSends.j1 kj3 l1 2 a0_0 l0_1 a0_2 l0_3) = some (r1, r2, r3, r4, r5, r6) := by rw [if_pos rfl] at H; first | done | exact H
     clear H
     have H := H1
     clear H1
     have H' := Aside0.mk H
     clear H
     go_wp2
     go_meet
     case rel => exact ⟨_, (2), (by first | rfl | (simp; done) | (simp [*]; done)), H', ⟨by have := HJ3.out; first | omega | exact Nat.le_refl _⟩, ⟨by (with_reducible repeat (first | apply Kd.V_alloc | apply Kd.V_drewN | apply Kd.V_drew)); exact HO_1.out⟩, ⟨by (with_reducible repeat (first | apply Kd.V_alloc | apply Kd.V_drewN | apply Kd.V_drew)); exact HO_424001.out⟩, ⟨by (with_reducible repeat (first | refine blk_drewN ?_ _ | refine blk_drew ?_ | refine blk_alloc ?_ _)); exact BK423.out⟩, ⟨by (with_reducible repeat (first | refine blk_drewN ?_ _ | refine blk_drew ?_ | refine blk_alloc ?_ _)); exact BK424.out⟩, ⟨bel HB⟩⟩
    ·
     replace c14 := Bool.eq_false_iff.mpr c14
     subst c14
     have H1 : (impl_PeerSends.j1 kj3 l1 t425 a0_0 l0_1 a0_2 l0_3) = some (r1, r2, r3, r4, r5, r6) := by rw [if_neg (show ¬ (false = true) by decide)] at H; first | done | exact H
     clear H
     have H := H1
     clear H1
     have H' := Aside0.mk H
     clear H
     go_wp2
     go_meet
     case rel => exact ⟨_, (t425), (by first | rfl | (simp; done) | (simp [*]; done)), H', ⟨by have := HJ3.out; first | omega | exact Nat.le_refl _⟩, ⟨by (with_reducible repeat (first | apply Kd.V_alloc | apply Kd.V_drewN | apply Kd.V_drew)); exact HO_1.out⟩, ⟨by (with_reducible repeat (first | apply Kd.V_alloc | apply Kd.V_drewN | apply Kd.V_drew)); exact HO_424001.out⟩, ⟨by (with_reducible repeat (first | refine blk_drewN ?_ _ | refine blk_drew ?_ | refine blk_alloc ?_ _)); exact BK423.out⟩, ⟨by (with_reducible repeat (first | refine blk_drewN ?_ _ | refine blk_drew ?_ | refine blk_alloc ?_ _)); exact BK424.out⟩, ⟨bel HB⟩⟩
   case rest =>
    clear HC13
    try clear c1
    try clear p2
    try clear c3
    try clear p6
    try clear c7
    try clear c10
    try clear c10b0
    try clear c10b1
    try clear c11
    try clear c14
    try clear hz12
    try clear hz8
    try clear p2
    try clear p6
    obtain ⟨kq, x5_12, rfl, HA, HJ12, HO_1, HO_424001, BK423, BK424, HB⟩ := hcut
    cases kq with
    | zero => exact absurd HA.out (by simp [impl_PeerSends.j1])
    | succ kj12 =>
     have H := HA.out
     clear HA
     simp only [impl_PeerSends.j1] at H
     by_cases c15 : x5_12 = 0
     ·
      rw [if_pos c15] at H
      have c15b0 : (x5_12 == 0) = true := beq_iff_eq.mpr c15
      have c15b1 : (x5_12 != 0) = false := bne_eq_false_iff_eq.mpr c15
      clear c15
      obtain ⟨y426, hy426⟩ : ∃ y_ : List (List Int), y_ = (([l0_1, l1] : List (List Int))) := ⟨_, rfl⟩
      replace H : ((slices_Concat_byte_byte.f kj12 y426).bind fun t429 => ((impl_Wire_result.f a0_0 t429 a0_2 l0_3).bind fun bt432 => (some (bt432.1, bt432.2.1, bt432.2.2.1, bt432.2.2.2.1, bt432.2.2.2.2.1, bt432.2.2.2.2.2)))) = some (r1, r2, r3, r4, r5, r6) := by first | (rw [hy426]; with_reducible exact H) | (have H2_ := (Option.bind_some _ _).symm.trans H; rw [hy426]; with_reducible exact H2_) | (have H2_ := (Option.bind_some _ _).symm.trans H; with_reducible exact H2_) | with_reducible exact H | (rw [hy426]; exact H) | exact H
      have Ny426 := Aside0.mk hy426
      clear hy426
      replace H := Option.bind_eq_some_iff.mp H
      obtain ⟨t429, A160, H⟩ := H
      replace H : ((impl_Wire_result.f a0_0 t429 a0_2 l0_3).bind fun bt432 => (some (bt432.1, bt432.2.1, bt432.2.2.1, bt432.2.2.2.1, bt432.2.2.2.2.1, bt432.2.2.2.2.2))) = some (r1, r2, r3, r4, r5, r6) := H
      have A16 := Aside0.mk A160
      clear A160
      replace H := Option.bind_eq_some_iff.mp H
      obtain ⟨⟨t432, t433, t436, t437, t440, t441⟩, A170, H⟩ := H
      replace H : (some (t432, t433, t436, t437, t440, t441)) = some (r1, r2, r3, r4, r5, r6) := H
      have A17 := Aside0.mk A170
      clear A170
      simp only [Option.some.injEq, Prod.mk.injEq] at H
      obtain ⟨rfl, rfl, rfl, rfl, rfl, rfl⟩ := H
      have hnb18 := NB423_424.out
      have hnc18 := NB424_423.out
      have hz19 := cl4 BK423
      go_wp2_with (first | ((with_reducible refine gate_dst (N := 26) rfl ?_); (try (refine gate_guard (by rfl) ?_; dsimp only)); refine Kd.N_lit (Kd.slice 5 (Kd.int .u8)) _ 25 ?hg (N' := 26) ?hd (xs := ([l0_1, l1] : List (List Int))) (inner := [.slice A0_1 l0_1.length c0_1, .slice A1 l1.length c1]) (ok := (fun k_ => ((P0_1_ k_ ∨ P1_ k_) ∨ w.heap.size ≤ k_) ∧ k_ ≠ gb423 ∧ k_ ≠ gb424)) (okp := (fun k_ => ((P0_1_ k_ ∨ P1_ k_) ∨ w.heap.size ≤ k_) ∧ k_ ≠ gb423 ∧ k_ ≠ gb424)) ?hr ?hp (fun _ hk => hk) ((show ∀ k_, wc.heap.size ≤ k_ → (fun k_ => ((P0_1_ k_ ∨ P1_ k_) ∨ w.heap.size ≤ k_) ∧ k_ ≠ gb423 ∧ k_ ≠ gb424) k_ from fun k_ hk => ⟨(.inr (Nat.le_trans (below_size (bel HB)) hk)), Kd.freshB (g := gb423) (o := .cells #[.int .i64 a0_0, .slice A0_1 l0_1.length c0_1, .int .i64 a0_2, .slice A0_3 l0_3.length c0_3] 59 (0, 0)) (mB BK423) k_ hk, Kd.freshB (g := gb424) (o := .cells #[.int .i64 0, .slice none 0 0, .int .i64 0, .slice none 0 0, .int .i64 0, .slice none 0 0] 63 (0, 0)) (mB BK424) k_ hk⟩) _ (Nat.le_refl _)) (Below.refl _ _) (Nat.le_refl _) (by simp) ?_; (case hd => rfl); (case hg => rfl); (case hr => first | (go_simp; done) | (go_simp; rfl)); (case hp => exact (Reps.one (show Kd.FK (Kd.slice 5 (Kd.int .u8)) _ _ l0_1 [.slice A0_1 l0_1.length c0_1] from (Kd.FK_slice_mk (Kd.V_reads' (Kd.V_mono (ok' := (fun k_ => ((P0_1_ k_ ∨ P1_ k_) ∨ w.heap.size ≤ k_) ∧ k_ ≠ gb423 ∧ k_ ≠ gb424)) (HO_424001.out) (fun k_ hk => ⟨hk.1, ⟨hk.2.1, hk.2.2⟩⟩))).2.1 (Kd.V_F (Kd.V_mono (ok' := (fun k_ => ((P0_1_ k_ ∨ P1_ k_) ∨ w.heap.size ≤ k_) ∧ k_ ≠ gb423 ∧ k_ ≠ gb424)) (HO_424001.out) (fun k_ hk => ⟨hk.1, ⟨hk.2.1, hk.2.2⟩⟩))))) (Reps.one (show Kd.FK (Kd.slice 5 (Kd.int .u8)) _ _ l1 [.slice A1 l1.length c1] from (Kd.FK_slice_mk (Kd.V_reads' (Kd.V_mono (ok' := (fun k_ => ((P0_1_ k_ ∨ P1_ k_) ∨ w.heap.size ≤ k_) ∧ k_ ≠ gb423 ∧ k_ ≠ gb424)) (HO_1.out) (fun k_ hk => ⟨hk.1, ⟨hk.2.1, hk.2.2⟩⟩))).2.1 (Kd.V_F (Kd.V_mono (ok' := (fun k_ => ((P0_1_ k_ ∨ P1_ k_) ∨ w.heap.size ≤ k_) ∧ k_ ≠ gb423 ∧ k_ ≠ gb424)) (HO_1.out) (fun k_ hk => ⟨hk.1, ⟨hk.2.1, hk.2.2⟩⟩))))) (Reps.none _ _)))); intro v427 w20 ho21 hb hg_ hnew_; clear hg_ hnew_; (first | rw [← Ny426.out] at ho21 | (simp only [Int.reduceToNat] at ho21; rw [← Ny426.out] at ho21)); replace HO_1 := Aside0.mk (Kd.V_elder' (mV HO_1) (Kd.N_base ho21) hb); replace HO_424001 := Aside0.mk (Kd.V_elder' (mV HO_424001) (Kd.N_base ho21) hb); have HO428 := Aside0.mk (Kd.N_lower ho21 (below_size (bel HB))); replace BK423 := bK BK423 hb; replace BK424 := bK BK424 hb; replace HB := bS HB hb; clear hb ho21; obtain ⟨Ao22, co22, eo22⟩ := Kd.N_slice HO428.out; subst eo22) | ((with_reducible refine gate_callee (f := 99) rfl ?_); refine goA (some 27) rfl rfl Try.func99 rfl #[.slice Ao22 y426.length co22] rfl ?_; (with_reducible refine (slices_Concat_byte_byte.calls kj12 _ _ y426 t429 _ ?side1 ?side2 A16.out).mono ?_); (case side1 => repeat (first | exact (Kd.N_reads' HO428.out).2.2 | (with_reducible refine Kd.C_alloc ?_ _) | (with_reducible refine Kd.C_drewN ?_ _) | (with_reducible refine Kd.C_drew ?_))); (case side2 => exact (Kd.N_reads' HO428.out).2.1); rintro e w23 ⟨v430, rfl, ho0, hb⟩; refine ⟨_, rfl, ?_⟩; replace HO_1 := Aside0.mk (Kd.V_elder' (mV HO_1) (Kd.R_base ho0) hb); replace HO_424001 := Aside0.mk (Kd.V_elder' (mV HO_424001) (Kd.R_base ho0) hb); replace HO428 := Aside0.mk (Kd.N_elder' (mN HO428) (Kd.R_base ho0) hb); have HO431 := Aside0.mk (Kd.R_lower (Kd.R_newM (M := fun k_ => (w.heap.size ≤ k_)) ho0 (below_size (bel HB)) (fun k_ h_ => h_)) (below_size (bel HB))); replace BK423 := bK BK423 hb; replace BK424 := bK BK424 hb; replace HB := bS HB hb; (try clear hb); (try clear hb2); (try clear hk); (try clear hi); (try clear ho0); obtain ⟨Ao24, co24, eo24⟩ := Kd.R_slice HO431.out; subst eo24; have hz25 := cl4 BK423) | ((with_reducible refine gate_callee (f := 100) rfl ?_); refine goA (some 30) rfl rfl Try.func100 rfl #[.agg #[.int .i64 a0_0, .slice Ao24 t429.length co24, .int .i64 a0_2, .slice A0_3 l0_3.length c0_3]] rfl ?_; (with_reducible refine (impl_Wire_result.calls a0_0 _ _ t429 a0_2 _ _ l0_3 t432 t433 t436 t437 t440 t441 _ ?side1 ?side2 ?side3 ?side4 A17.out).mono ?_); (case side1 => refine (Kd.R_reads' (e := 5) (base := w.heap.size) (ok := fun k_ => ((w.heap.size ≤ k_) ∧ True)) (n := t429.length) (c := co24) ?_).2.2; exact (by (with_reducible repeat (first | apply Kd.R_alloc | apply Kd.R_drewN | apply Kd.R_drew)); exact (Kd.R_mono (RF (Kd.R_types HO431.out BK423.out (by decide))) (fun _ h_ => h_.1)))); (case side2 => exact (Kd.R_reads' HO431.out).2.1); (case side3 => exact Kd.C_below HR0_3.out (bel HB)); (case side4 => exact HC0_3.out); rintro e w26 ⟨v434, v438, v442, rfl, ho0, ho1, ho2, hb⟩; refine ⟨_, rfl, ?_⟩; replace HO_1 := Aside0.mk (Kd.V_mono (Kd.V_told (Kd.V_told (Kd.V_told (Kd.V_old (by (with_reducible repeat (first | apply Kd.V_alloc | apply Kd.V_drewN | apply Kd.V_drew)); exact (Kd.V_mono (Kd.V_far (p := ⟨gb423, 1, none⟩) (Kd.V_mono HO_1.out (fun k_ hk => (⟨hk, hk.1.1.2.1⟩ : _ ∧ k_ ≠ gb423))) (fun _ hk => hk.2) (.slice Ao24 t429.length co24)) (fun _ h_ => h_.1))) hb) (Kd.R_base ho0)) (Kd.R_base ho1)) (Kd.R_base ho2)) (fun _ h_ => h_.1)); replace HO_424001 := Aside0.mk (Kd.V_mono (Kd.V_told (Kd.V_told (Kd.V_told (Kd.V_old (by (with_reducible repeat (first | apply Kd.V_alloc | apply Kd.V_drewN | apply Kd.V_drew)); exact (Kd.V_mono (Kd.V_far (p := ⟨gb423, 1, none⟩) (Kd.V_mono HO_424001.out (fun k_ hk => (⟨hk, hk.1.1.2.1⟩ : _ ∧ k_ ≠ gb423))) (fun _ hk => hk.2) (.slice Ao24 t429.length co24)) (fun _ h_ => h_.1))) hb) (Kd.R_base ho0)) (Kd.R_base ho1)) (Kd.R_base ho2)) (fun _ h_ => h_.1)); replace HO428 := Aside0.mk (Kd.N_mono (Kd.N_told (Kd.N_told (Kd.N_told (Kd.N_old (by (with_reducible repeat (first | apply Kd.N_alloc | apply Kd.N_drewN | apply Kd.N_drew)); exact (Kd.N_mono (Kd.N_far (p := ⟨gb423, 1, none⟩) (Kd.N_mono HO428.out (fun k_ hk => (⟨hk, hk.1.2.1⟩ : _ ∧ k_ ≠ gb423))) (fun _ hk => hk.2) (.slice Ao24 t429.length co24)) (fun _ h_ => h_.1))) hb) (Kd.R_base ho0)) (Kd.R_base ho1)) (Kd.R_base ho2)) (fun _ h_ => h_.1)); have HO435 := Aside0.mk (Kd.R_lower (Kd.R_new' (Kd.R_newM (M := fun k_ => (w.heap.size ≤ k_)) ho0 (below_size (bel HB)) (fun k_ h_ => h_)) (Kd.R_lt (by (with_reducible repeat (first | apply Kd.R_alloc | apply Kd.R_drewN | apply Kd.R_drew)); exact (Kd.R_mono (RF (Kd.R_types HO431.out BK423.out (by decide))) (fun _ h_ => h_.1))))) (below_size (bel HB))); have HO439 := Aside0.mk (Kd.R_lower (Kd.R_new' (Kd.R_newM (M := fun k_ => (w.heap.size ≤ k_)) ho1 (below_size (bel HB)) (fun k_ h_ => h_)) (Kd.R_lt (by (with_reducible repeat (first | apply Kd.R_alloc | apply Kd.R_drewN | apply Kd.R_drew)); exact (Kd.R_mono (RF (Kd.R_types HO431.out BK423.out (by decide))) (fun _ h_ => h_.1))))) (below_size (bel HB))); have HO443 := Aside0.mk (Kd.R_lower (Kd.R_new' (Kd.R_newM (M := fun k_ => (w.heap.size ≤ k_)) ho2 (below_size (bel HB)) (fun k_ h_ => h_)) (Kd.R_lt (by (with_reducible repeat (first | apply Kd.R_alloc | apply Kd.R_drewN | apply Kd.R_drew)); exact (Kd.R_mono (RF (Kd.R_types HO431.out BK423.out (by decide))) (fun _ h_ => h_.1))))) (below_size (bel HB))); replace HO431 := Aside0.mk (Kd.R_mono (Kd.R_told (Kd.R_told (Kd.R_told (Kd.R_old (by (with_reducible repeat (first | apply Kd.R_alloc | apply Kd.R_drewN | apply Kd.R_drew)); exact (Kd.R_mono (RF (Kd.R_types HO431.out BK423.out (by decide))) (fun _ h_ => h_.1))) hb) (Kd.R_base ho0)) (Kd.R_base ho1)) (Kd.R_base ho2)) (fun _ h_ => h_.1)); replace BK423 := Aside0.mk (blk_below (g := gb423) (o := .cells #[.int .i64 a0_0, .slice Ao24 t429.length co24, .int .i64 a0_2, .slice A0_3 l0_3.length c0_3] 59 (0, 0)) (mP BK423) hb); replace BK424 := Aside0.mk (blk_below (g := gb424) (o := .cells #[.int .i64 0, .slice none 0 0, .int .i64 0, .slice none 0 0, .int .i64 0, .slice none 0 0] 63 (0, 0)) (mP BK424) hb); replace HB := bS HB hb; (try clear hb); (try clear hb2); (try clear hk); (try clear hi); (try clear ho0); (try clear ho1); (try clear ho2); have hz27 := cl6 BK424; obtain ⟨Ao28, co28, eo28⟩ := Kd.R_slice HO435.out; subst eo28; obtain ⟨Ao29, co29, eo29⟩ := Kd.R_slice HO439.out; subst eo29; obtain ⟨Ao30, co30, eo30⟩ := Kd.R_slice HO443.out; subst eo30))
      refine bodyPost_ret (results_cell_row rfl _ _ gb424 63 #[.int .i64 t432, .slice Ao28 t433.length co28, .int .i64 t436, .slice Ao29 t437.length co29, .int .i64 t440, .slice Ao30 t441.length co30] (0, 0) _ rfl (mP BK424) Try.underlying63 rfl (by kernel_rfl)) rfl ?_
      exact ⟨_, _, _, by first | rfl | (simp [errW_none, errW_some] <;> rfl) | (simp [*, errW_none, errW_some] <;> rfl), by (with_reducible repeat (first | apply Kd.R_alloc | apply Kd.R_drewN | apply Kd.R_drew)); exact Kd.R_mono (RF (RF (RF (RF (RF (RF (Kd.R_types HO435.out BK424.out (by decide)))))))) (fun _ hk => ⟨hk.1.1.1, ⟨hk.1.1.2.1, hk.1.1.2.2⟩⟩), by (with_reducible repeat (first | apply Kd.R_alloc | apply Kd.R_drewN | apply Kd.R_drew)); exact Kd.R_mono (RF (RF (RF (RF (RF (RF (Kd.R_types HO439.out BK424.out (by decide)))))))) (fun _ hk => ⟨hk.1.1.1, ⟨hk.1.1.2.1, hk.1.1.2.2⟩⟩), by (with_reducible repeat (first | apply Kd.R_alloc | apply Kd.R_drewN | apply Kd.R_drew)); exact Kd.R_mono (RF (RF (RF (RF (RF (RF (Kd.R_types HO443.out BK424.out (by decide)))))))) (fun _ hk => ⟨hk.1.1.1, ⟨hk.1.1.2.1, hk.1.1.2.2⟩⟩), bel HB⟩
     ·
      rw [if_neg c15] at H
      have c15b0 : (x5_12 == 0) = false := beq_eq_false_iff_ne.mpr c15
      have c15b1 : (x5_12 != 0) = true := bne_iff_ne.mpr c15
      simp only [Option.some.injEq, Prod.mk.injEq] at H
      obtain ⟨rfl, rfl, rfl, rfl, rfl, rfl⟩ := H
      have hnb31 := NB424_423.out
      have hnc31 := NB423_424.out
      have hz32 := cl6 BK424
      go_wp2
      refine bodyPost_ret (results_cell_row rfl _ _ gb424 63 #[.int .i64 x5_12, .slice none 0 0, .int .i64 0, .slice none 0 0, .int .i64 0, .slice none 0 0] (0, 0) _ rfl (mP BK424) Try.underlying63 rfl (by kernel_rfl)) rfl ?_
      exact ⟨_, _, _, by first | rfl | (simp [errW_none, errW_some] <;> rfl) | (simp [*, errW_none, errW_some] <;> rfl), by first | exact Kd.R_nil _ _ _ _ _ | exact Kd.N_nil _ _ _ _ _ | exact Kd.V_nil _ _ _ _ _ | exact Kd.Q_nil _ _ _ _ _ | exact Kd.S_nil _ _ _ _ _, by first | exact Kd.R_nil _ _ _ _ _ | exact Kd.N_nil _ _ _ _ _ | exact Kd.V_nil _ _ _ _ _ | exact Kd.Q_nil _ _ _ _ _ | exact Kd.S_nil _ _ _ _ _, by first | exact Kd.R_nil _ _ _ _ _ | exact Kd.N_nil _ _ _ _ _ | exact Kd.V_nil _ _ _ _ _ | exact Kd.Q_nil _ _ _ _ _ | exact Kd.S_nil _ _ _ _ _, bel HB⟩

end Go.Proofs.Ytgfoifkkffffgab.PFnWires
