-- Laid by a turned copy of the printer (wip/tools/patch_print.py)
import Derived.Test.YtgfoifkkffffgabPFnWiresx0
import Derived.Test.YtgfoifkkffffgabPFnWiresx1
import Derived.Test.YtgfoifkkffffgabPFnWiresx6
namespace Go.Proofs.Ytgfoifkkffffgab.PFnWires
open Go.RowKit Go.Proofs.YtgfoifkkffffgabW.PrintWords Go.Proofs.YtgfoifkkffffgabW.PrintLast Go.Proofs.YtgfoifkkffffgabW.PrintMore
attribute [local go_sem] max2_int min2_int max_two min_two max_three min_three max_four min_four   -- for this text's walks alone
set_option linter.unusedVariables false
set_option linter.unusedSimpArgs false

/-! ### spec_DeliverOut: function 35 -/
def spec_DeliverOut.l0 : Nat → Int → List Int → Int → Int → List Int → Int → List Int → Int → List Int → Int → List Int → Option (Int × List Int × Int × List Int × Int × List Int)
 | 0, _, _, _, _, _, _, _, _, _, _, _ => none
 | k + 1, x2, x3, x11, x316000, x316001, x316002, x316003, x364000, x364001, x364002, x364003 => if x11 < (x3.length : Int) then (if (wrap64 (x2 + x11)) < (x316003.length : Int) then (if 0 ≤ (wrap64 (x2 + x11)) then (if 0 ≤ x11 then (if (rd x316003 (wrap64 (x2 + x11))) = (rd x3 x11) then (spec_DeliverOut.l0 k x2 x3 (wrap64 (x11 + 1)) x316000 x316001 x316002 x316003 x364000 x364001 x364002 x364003) else ((spec_l11Bad.f 7).bind fun bt366 => (some (bt366.1, bt366.2.1, bt366.2.2.1, bt366.2.2.2.1, bt366.2.2.2.2.1, bt366.2.2.2.2.2)))) else (none)) else (none)) else (if 0 ≤ x11 then (if x364003.length < 140737488355328 then (spec_DeliverOut.l0 k x2 x3 (wrap64 (x11 + 1)) x316000 x316001 x316002 x316003 x364000 x364001 x364002 (x364003 ++ [rd x3 x11])) else (none)) else (none))) else (some (0, ([] : List Int), x364000, x364001, x364002, x364003))
def spec_DeliverOut.f (k : Nat) (a0_0 : Int) (l0_1 : List Int) (a0_2 : Int) (l0_3 : List Int) (a1 : Int) (a2 : Int) (l3 : List Int) : Option (Int × List Int × Int × List Int × Int × List Int) := (spec_l11Asked.f k a0_0 l0_1 a0_2 l0_3 a1).bind fun t317 => (if t317 = 0 then ((spec_l1In.f a2 0 (l0_3.length : Int)).bind fun t330 => (if t330 = true then (if (wrap64 (a2 + (l3.length : Int))) > 2000 then ((spec_l11Bad.f 2).bind fun bt343 => (some (bt343.1, bt343.2.1, bt343.2.2.1, bt343.2.2.2.1, bt343.2.2.2.2.1, bt343.2.2.2.2.2))) else ((spec_l11Copy.f a0_0 l0_1 a0_2 l0_3).bind fun bt355 => (spec_DeliverOut.l0 k a2 l3 0 a0_0 l0_1 a0_2 l0_3 bt355.1 bt355.2.1 bt355.2.2.1 bt355.2.2.2))) else ((spec_l11Bad.f 3).bind fun bt331 => (some (bt331.1, bt331.2.1, bt331.2.2.1, bt331.2.2.2.1, bt331.2.2.2.2.1, bt331.2.2.2.2.2))))) else ((spec_l11Bad.f t317).bind fun bt318 => (some (bt318.1, bt318.2.1, bt318.2.2.1, bt318.2.2.2.1, bt318.2.2.2.2.1, bt318.2.2.2.2.2))))
theorem spec_DeliverOut.mono_l : ∀ k, (∀ y0 y1 y2 y3 y4 y5 y6 y7 y8 y9 y10, LeO (spec_DeliverOut.l0 k y0 y1 y2 y3 y4 y5 y6 y7 y8 y9 y10) (spec_DeliverOut.l0 (k + 1) y0 y1 y2 y3 y4 y5 y6 y7 y8 y9 y10))
 | 0 => fun _ _ _ _ _ _ _ _ _ _ _ r h => by simp [spec_DeliverOut.l0] at h
 | k + 1 => by
  have ih0 := spec_DeliverOut.mono_l k
  ·
   intro y0 y1 y2 y3 y4 y5 y6 y7 y8 y9 y10
   unfold spec_DeliverOut.l0
   repeat' first
   | (with_reducible exact ih0 _ _ _ _ _ _ _ _ _ _ _)
   | (with_reducible exact spec_l11Asked.mono _ _ _ _ _ _)
   | (with_reducible exact LeO.refl _)
   | (with_reducible exact LeO.none _)
   | (with_reducible refine LeO.ite ?_ ?_)
   | (with_reducible refine LeO.bind ?_ (fun _ => ?_))
   | exact ih0 _ _ _ _ _ _ _ _ _ _ _
   | exact spec_l11Asked.mono _ _ _ _ _ _
   | exact LeO.none _
   | refine LeO.ite ?_ ?_
   | refine LeO.bind ?_ (fun _ => ?_)
theorem spec_DeliverOut.mono : ∀ a0 a1 a2 a3 a4 a5 a6 k, LeO (spec_DeliverOut.f k a0 a1 a2 a3 a4 a5 a6) (spec_DeliverOut.f (k + 1) a0 a1 a2 a3 a4 a5 a6) := by
 intro a0 a1 a2 a3 a4 a5 a6 k
 have ih0 := spec_DeliverOut.mono_l k
 unfold spec_DeliverOut.f
 repeat' first
   | (with_reducible exact ih0 _ _ _ _ _ _ _ _ _ _ _)
   | (with_reducible exact spec_l11Asked.mono _ _ _ _ _ _)
   | (with_reducible exact LeO.refl _)
   | (with_reducible exact LeO.none _)
   | (with_reducible refine LeO.ite ?_ ?_)
   | (with_reducible refine LeO.bind ?_ (fun _ => ?_))
   | exact ih0 _ _ _ _ _ _ _ _ _ _ _
   | exact spec_l11Asked.mono _ _ _ _ _ _
   | exact LeO.none _
   | refine LeO.ite ?_ ?_
   | refine LeO.bind ?_ (fun _ => ?_)
def spec_DeliverOut.T13 : Bool × List (List Nat × List Nat) := (true, [([], []), ([0], [0]), ([], []), ([], []), ([2, 3], [2, 3]), ([1, 4], [1, 4]), ([5], [5]), ([], []), ([], []), ([7, 8], [7, 8]), ([9], [9]), ([6, 10], [6, 10])])
def spec_DeliverOut.B13 : List Nat := [0, 1, 0, 0, 12, 31, 63, 0, 0, 384, 896, 2047]
theorem spec_DeliverOut.tab13 : rtab .any (opsOf Try.f35 13) = spec_DeliverOut.T13 := by kernel_rfl
theorem spec_DeliverOut.bits13 : waitsOk spec_DeliverOut.T13.2 spec_DeliverOut.B13 = true := by kernel_rfl
def spec_DeliverOut.T15 : Bool × List (List Nat × List Nat) := (true, [([], []), ([0], [0]), ([], []), ([], []), ([2, 3], [2, 3]), ([4], [4]), ([5], [5]), ([1, 6], [1, 6]), ([0, 1, 2, 3, 4, 5, 6, 7], []), ([8, 7, 7, 0, 1, 2, 3, 4, 5, 6, 7], [7, 8])])
def spec_DeliverOut.B15 : List Nat := [0, 1, 0, 0, 12, 28, 60, 127, 255, 511]
theorem spec_DeliverOut.tab15 : rtab .any (opsOf Try.f35 15) = spec_DeliverOut.T15 := by kernel_rfl
theorem spec_DeliverOut.bits15 : waitsOk spec_DeliverOut.T15.2 spec_DeliverOut.B15 = true := by kernel_rfl
set_option maxHeartbeats 8000000 in
set_option maxRecDepth 100000 in
theorem spec_DeliverOut.calls (k : Nat) (a0_0 : Int) (A0_1 : Option Addr) (c0_1 : Nat) (l0_1 : List Int) (a0_2 : Int) (A0_3 : Option Addr) (c0_3 : Nat) (l0_3 : List Int) (a1 : Int) (a2 : Int) (A3 : Option Addr) (c3 : Nat) (l3 : List Int) (r1 : Int) (r2 : List Int) (r3 : Int) (r4 : List Int) (r5 : Int) (r6 : List Int) (w : World) (hr0_1 : Kd.C (Kd.int .u8) w A0_1 l0_1.length l0_1) (hc0_1 : l0_1.length ≤ c0_1) (hr0_3 : Kd.C (Kd.int .u8) w A0_3 l0_3.length l0_3) (hc0_3 : l0_3.length ≤ c0_3) (hr3 : Kd.C (Kd.int .u8) w A3 l3.length l3) (hc3 : l3.length ≤ c3) (h : spec_DeliverOut.f k a0_0 l0_1 a0_2 l0_3 a1 a2 l3 = some (r1, r2, r3, r4, r5, r6)) :
  Calls Try.prog 35 #[.agg #[.int .i64 a0_0, .slice A0_1 l0_1.length c0_1, .int .i64 a0_2, .slice A0_3 l0_3.length c0_3], .int .i64 a1, .int .i64 a2, .slice A3 l3.length c3] w fun e w' => ∃ v1_ v3_ v5_ : Value, e = .returned (.agg #[.int .i64 r1, v1_, .int .i64 r3, v3_, .int .i64 r5, v5_]) ∧ Kd.R (Kd.int .u8) 5 w' w.heap.size (fun k_ => some k_ ≠ (v3_ : Value).ownBlock ∧ some k_ ≠ (v5_ : Value).ownBlock) v1_ r2 ∧ Kd.R (Kd.int .u8) 5 w' w.heap.size (fun k_ => some k_ ≠ (v1_ : Value).ownBlock ∧ some k_ ≠ (v5_ : Value).ownBlock) v3_ r4 ∧ Kd.R (Kd.int .u8) 5 w' w.heap.size (fun k_ => some k_ ≠ (v1_ : Value).ownBlock ∧ some k_ ≠ (v3_ : Value).ownBlock) v5_ r6 ∧ Below w.heap.size w w' := by
 have hu59 := Try.underlying59
 have hu63 := Try.underlying63
 have HR0_1 := Aside0.mk hr0_1
 have HC0_1 := Aside0.mk hc0_1
 clear hr0_1 hc0_1
 have HR0_3 := Aside0.mk hr0_3
 have HC0_3 := Aside0.mk hc0_3
 clear hr0_3 hc0_3
 have HR3 := Aside0.mk hr3
 have HC3 := Aside0.mk hc3
 clear hr3 hc3
 have HB := Aside0.mk (Below.refl w.heap.size w)
 have H : ((spec_l11Asked.f k a0_0 l0_1 a0_2 l0_3 a1).bind fun t317 => (if t317 = 0 then ((spec_l1In.f a2 0 (l0_3.length : Int)).bind fun t330 => (if t330 = true then (if (wrap64 (a2 + (l3.length : Int))) > 2000 then ((spec_l11Bad.f 2).bind fun bt343 => (some (bt343.1, bt343.2.1, bt343.2.2.1, bt343.2.2.2.1, bt343.2.2.2.2.1, bt343.2.2.2.2.2))) else ((spec_l11Copy.f a0_0 l0_1 a0_2 l0_3).bind fun bt355 => (spec_DeliverOut.l0 k a2 l3 0 a0_0 l0_1 a0_2 l0_3 bt355.1 bt355.2.1 bt355.2.2.1 bt355.2.2.2))) else ((spec_l11Bad.f 3).bind fun bt331 => (some (bt331.1, bt331.2.1, bt331.2.2.1, bt331.2.2.2.1, bt331.2.2.2.2.1, bt331.2.2.2.2.2))))) else ((spec_l11Bad.f t317).bind fun bt318 => (some (bt318.1, bt318.2.1, bt318.2.2.1, bt318.2.2.2.1, bt318.2.2.2.2.1, bt318.2.2.2.2.2))))) = some (r1, r2, r3, r4, r5, r6) := h
 clear h
 replace H := Option.bind_eq_some_iff.mp H
 obtain ⟨t317, A50, H⟩ := H
 replace H : (if t317 = 0 then ((spec_l1In.f a2 0 (l0_3.length : Int)).bind fun t330 => (if t330 = true then (if (wrap64 (a2 + (l3.length : Int))) > 2000 then ((spec_l11Bad.f 2).bind fun bt343 => (some (bt343.1, bt343.2.1, bt343.2.2.1, bt343.2.2.2.1, bt343.2.2.2.2.1, bt343.2.2.2.2.2))) else ((spec_l11Copy.f a0_0 l0_1 a0_2 l0_3).bind fun bt355 => (spec_DeliverOut.l0 k a2 l3 0 a0_0 l0_1 a0_2 l0_3 bt355.1 bt355.2.1 bt355.2.2.1 bt355.2.2.2))) else ((spec_l11Bad.f 3).bind fun bt331 => (some (bt331.1, bt331.2.1, bt331.2.2.1, bt331.2.2.2.1, bt331.2.2.2.2.1, bt331.2.2.2.2.2))))) else ((spec_l11Bad.f t317).bind fun bt318 => (some (bt318.1, bt318.2.1, bt318.2.2.1, bt318.2.2.2.1, bt318.2.2.2.2.1, bt318.2.2.2.2.2)))) = some (r1, r2, r3, r4, r5, r6) := H
 have A5 := Aside0.mk A50
 clear A50
 by_cases c6 : t317 = 0
 ·
  rw [if_pos c6] at H
  have c6b0 : (t317 == 0) = true := beq_iff_eq.mpr c6
  have c6b1 : (t317 != 0) = false := bne_eq_false_iff_eq.mpr c6
  clear c6
  replace H := Option.bind_eq_some_iff.mp H
  obtain ⟨t330, A70, H⟩ := H
  replace H : (if t330 = true then (if (wrap64 (a2 + (l3.length : Int))) > 2000 then ((spec_l11Bad.f 2).bind fun bt343 => (some (bt343.1, bt343.2.1, bt343.2.2.1, bt343.2.2.2.1, bt343.2.2.2.2.1, bt343.2.2.2.2.2))) else ((spec_l11Copy.f a0_0 l0_1 a0_2 l0_3).bind fun bt355 => (spec_DeliverOut.l0 k a2 l3 0 a0_0 l0_1 a0_2 l0_3 bt355.1 bt355.2.1 bt355.2.2.1 bt355.2.2.2))) else ((spec_l11Bad.f 3).bind fun bt331 => (some (bt331.1, bt331.2.1, bt331.2.2.1, bt331.2.2.2.1, bt331.2.2.2.2.1, bt331.2.2.2.2.2)))) = some (r1, r2, r3, r4, r5, r6) := H
  have A7 := Aside0.mk A70
  clear A70
  by_cases c8 : t330 = true
  ·
   subst c8
   have H1 : (if (wrap64 (a2 + (l3.length : Int))) > 2000 then ((spec_l11Bad.f 2).bind fun bt343 => (some (bt343.1, bt343.2.1, bt343.2.2.1, bt343.2.2.2.1, bt343.2.2.2.2.1, bt343.2.2.2.2.2))) else ((spec_l11Copy.f a0_0 l0_1 a0_2 l0_3).bind fun bt355 => (spec_DeliverOut.l0 k a2 l3 0 a0_0 l0_1 a0_2 l0_3 bt355.1 bt355.2.1 bt355.2.2.1 bt355.2.2.2))) = some (r1, r2, r3, r4, r5, r6) := by rw [if_pos rfl] at H; first | done | exact H
   clear H
   have H := H1
   clear H1
   by_cases c9 : (wrap64 (a2 + (l3.length : Int))) > 2000
   ·
    rw [if_pos c9] at H
    have c9b0 : decide (2000 < (wrap64 (a2 + (l3.length : Int)))) = true := decide_eq_true c9
    clear c9
    replace H := Option.bind_eq_some_iff.mp H
    obtain ⟨⟨t343, t344, t347, t348, t351, t352⟩, A100, H⟩ := H
    replace H : (some (t343, t344, t347, t348, t351, t352)) = some (r1, r2, r3, r4, r5, r6) := H
    have A10 := Aside0.mk A100
    clear A100
    simp only [Option.some.injEq, Prod.mk.injEq] at H
    obtain ⟨rfl, rfl, rfl, rfl, rfl, rfl⟩ := H
    go_enter Try.func35, Try.ntmps35
    go_wp2_with (first | ((with_reducible refine gate_dst (N := 4) rfl ?_); refine boxE #[.int .i64 a0_0, .slice A0_1 l0_1.length c0_1, .int .i64 a0_2, .slice A0_3 l0_3.length c0_3] 59 (N := 4) rfl rfl ?_; intro gb315 hg w11 hbox hb; have BK315 := Aside0.mk hbox; have GW315 := gZ HB hg; have GE315 := gZ HB hg; replace HB := bS HB hb; clear hb hbox hg) | ((with_reducible refine gate_dst (N := 8) rfl ?_); refine boxE #[.int .i64 0, .slice none 0 0, .int .i64 0, .slice none 0 0, .int .i64 0, .slice none 0 0] 63 (N := 8) rfl rfl ?_; intro gb316 hg w12 hbox hb; have BK316 := Aside0.mk hbox; have GW316 := gZ HB hg; have GE316 := gZ HB hg; replace HB := bS HB hb; have NB315_316 := nL BK315 hg; have NB316_315 := nG BK315 hg; replace BK315 := bK BK315 hb; clear hb hbox hg; have hnb13 := NB315_316.out; have hnc13 := NB316_315.out; have hz14 := cl4 BK315) | ((with_reducible refine gate_callee (f := 101) rfl ?_); refine goA (some 14) rfl rfl Try.func101 rfl #[.agg #[.int .i64 a0_0, .slice A0_1 l0_1.length c0_1, .int .i64 a0_2, .slice A0_3 l0_3.length c0_3], .int .i64 a1] rfl ?_; (with_reducible refine (spec_l11Asked.calls k a0_0 _ _ l0_1 a0_2 _ _ l0_3 a1 t317 _ ?side1 ?side2 ?side3 ?side4 A5.out).mono ?_); (case side1 => exact mC HR0_1 HB); (case side2 => exact HC0_1.out); (case side3 => exact mC HR0_3 HB); (case side4 => exact HC0_3.out); rintro e w15 ⟨rfl, hb⟩; refine ⟨_, rfl, ?_⟩; replace BK315 := bK BK315 hb; replace BK316 := bK BK316 hb; replace HB := bS HB hb; (try clear hb); (try clear hb2); (try clear hk); (try clear hi); have hz16 := cl4 BK315) | ((with_reducible refine gate_callee (f := 88) rfl ?_); refine goA (some 23) rfl rfl Try.func88 rfl #[.int .i64 a2, .int .i64 0, .int .i64 (l0_3.length : Int)] rfl ?_; (with_reducible refine (spec_l1In.calls a2 0 (l0_3.length : Int) true _ A7.out).mono ?_); rintro e w' ⟨rfl, ⟨nd, rfl⟩⟩; refine ⟨_, rfl, ?_⟩; (try ((try simp only [World.drewN_drewN]); rw [drewN_self w15]; generalize hq_ : World.drewN w15 _ = w15; replace BK315 := Aside0.mk (blk_at hq_ BK315.out); replace BK316 := Aside0.mk (blk_at hq_ BK316.out); replace HB := Aside0.mk (below_at hq_ HB.out); clear hq_))) | ((with_reducible refine gate_callee (f := 102) rfl ?_); refine goA (some 31) rfl rfl Try.func102 rfl #[.int .i64 2] rfl ?_; (with_reducible refine (spec_l11Bad.calls 2 t343 t344 t347 t348 t351 t352 _ A10.out).mono ?_); rintro e w17 ⟨v345, v349, v353, rfl, ho0, ho1, ho2, hb⟩; refine ⟨_, rfl, ?_⟩; have HO346 := Aside0.mk (Kd.R_lower ho0 (below_size (bel HB))); have HO350 := Aside0.mk (Kd.R_lower ho1 (below_size (bel HB))); have HO354 := Aside0.mk (Kd.R_lower ho2 (below_size (bel HB))); replace BK315 := bK BK315 hb; replace BK316 := bK BK316 hb; replace HB := bS HB hb; (try clear hb); (try clear hb2); (try clear hk); (try clear hi); (try clear ho0); (try clear ho1); (try clear ho2); have hz18 := cl6 BK316; obtain ⟨Ao19, co19, eo19⟩ := Kd.R_slice HO346.out; subst eo19; obtain ⟨Ao20, co20, eo20⟩ := Kd.R_slice HO350.out; subst eo20; obtain ⟨Ao21, co21, eo21⟩ := Kd.R_slice HO354.out; subst eo21))
    refine bodyPost_ret (results_cell_row rfl _ _ gb316 63 #[.int .i64 t343, .slice Ao19 t344.length co19, .int .i64 t347, .slice Ao20 t348.length co20, .int .i64 t351, .slice Ao21 t352.length co21] (0, 0) _ rfl (mP BK316) Try.underlying63 rfl (by kernel_rfl)) rfl ?_
    exact ⟨_, _, _, by first | rfl | (simp [errW_none, errW_some] <;> rfl) | (simp [*, errW_none, errW_some] <;> rfl), by (with_reducible repeat (first | apply Kd.R_alloc | apply Kd.R_drewN | apply Kd.R_drew)); exact Kd.R_mono (RF (RF (RF (RF (RF (RF (Kd.R_types HO346.out BK316.out (by decide)))))))) (fun _ hk => ⟨hk.1.1, hk.1.2⟩), by (with_reducible repeat (first | apply Kd.R_alloc | apply Kd.R_drewN | apply Kd.R_drew)); exact Kd.R_mono (RF (RF (RF (RF (RF (RF (Kd.R_types HO350.out BK316.out (by decide)))))))) (fun _ hk => ⟨hk.1.1, hk.1.2⟩), by (with_reducible repeat (first | apply Kd.R_alloc | apply Kd.R_drewN | apply Kd.R_drew)); exact Kd.R_mono (RF (RF (RF (RF (RF (RF (Kd.R_types HO354.out BK316.out (by decide)))))))) (fun _ hk => ⟨hk.1.1, hk.1.2⟩), bel HB⟩
   ·
    rw [if_neg c9] at H
    have c9b0 : decide (2000 < (wrap64 (a2 + (l3.length : Int)))) = false := decide_eq_false c9
    clear c9
    replace H := Option.bind_eq_some_iff.mp H
    obtain ⟨⟨t355, t356, t359, t360⟩, A220, H⟩ := H
    replace H : (spec_DeliverOut.l0 k a2 l3 0 a0_0 l0_1 a0_2 l0_3 t355 t356 t359 t360) = some (r1, r2, r3, r4, r5, r6) := H
    have A22 := Aside0.mk A220
    clear A220
    have H' := Aside0.mk H
    clear H
    go_enter Try.func35, Try.ntmps35
    go_wp2_with (first | ((with_reducible refine gate_dst (N := 4) rfl ?_); refine boxE #[.int .i64 a0_0, .slice A0_1 l0_1.length c0_1, .int .i64 a0_2, .slice A0_3 l0_3.length c0_3] 59 (N := 4) rfl rfl ?_; intro gb315 hg w23 hbox hb; have BK315 := Aside0.mk hbox; have GW315 := gZ HB hg; have GE315 := gZ HB hg; replace HB := bS HB hb; clear hb hbox hg) | ((with_reducible refine gate_dst (N := 8) rfl ?_); refine boxE #[.int .i64 0, .slice none 0 0, .int .i64 0, .slice none 0 0, .int .i64 0, .slice none 0 0] 63 (N := 8) rfl rfl ?_; intro gb316 hg w24 hbox hb; have BK316 := Aside0.mk hbox; have GW316 := gZ HB hg; have GE316 := gZ HB hg; replace HB := bS HB hb; have NB315_316 := nL BK315 hg; have NB316_315 := nG BK315 hg; replace BK315 := bK BK315 hb; clear hb hbox hg; have hnb25 := NB315_316.out; have hnc25 := NB316_315.out; have hz26 := cl4 BK315) | ((with_reducible refine gate_callee (f := 101) rfl ?_); refine goA (some 14) rfl rfl Try.func101 rfl #[.agg #[.int .i64 a0_0, .slice A0_1 l0_1.length c0_1, .int .i64 a0_2, .slice A0_3 l0_3.length c0_3], .int .i64 a1] rfl ?_; (with_reducible refine (spec_l11Asked.calls k a0_0 _ _ l0_1 a0_2 _ _ l0_3 a1 t317 _ ?side1 ?side2 ?side3 ?side4 A5.out).mono ?_); (case side1 => exact mC HR0_1 HB); (case side2 => exact HC0_1.out); (case side3 => exact mC HR0_3 HB); (case side4 => exact HC0_3.out); rintro e w27 ⟨rfl, hb⟩; refine ⟨_, rfl, ?_⟩; replace BK315 := bK BK315 hb; replace BK316 := bK BK316 hb; replace HB := bS HB hb; (try clear hb); (try clear hb2); (try clear hk); (try clear hi); have hz28 := cl4 BK315) | ((with_reducible refine gate_callee (f := 88) rfl ?_); refine goA (some 23) rfl rfl Try.func88 rfl #[.int .i64 a2, .int .i64 0, .int .i64 (l0_3.length : Int)] rfl ?_; (with_reducible refine (spec_l1In.calls a2 0 (l0_3.length : Int) true _ A7.out).mono ?_); rintro e w' ⟨rfl, ⟨nd, rfl⟩⟩; refine ⟨_, rfl, ?_⟩; (try ((try simp only [World.drewN_drewN]); rw [drewN_self w27]; generalize hq_ : World.drewN w27 _ = w27; replace BK315 := Aside0.mk (blk_at hq_ BK315.out); replace BK316 := Aside0.mk (blk_at hq_ BK316.out); replace HB := Aside0.mk (below_at hq_ HB.out); clear hq_)); have hz29 := cl4 BK315) | ((with_reducible refine gate_callee (f := 103) rfl ?_); refine goA (some 33) rfl rfl Try.func103 rfl #[.agg #[.int .i64 a0_0, .slice A0_1 l0_1.length c0_1, .int .i64 a0_2, .slice A0_3 l0_3.length c0_3]] rfl ?_; (with_reducible refine (spec_l11Copy.calls a0_0 _ _ l0_1 a0_2 _ _ l0_3 t355 t356 t359 t360 _ ?side1 ?side2 ?side3 ?side4 A22.out).mono ?_); (case side1 => exact mC HR0_1 HB); (case side2 => exact HC0_1.out); (case side3 => exact mC HR0_3 HB); (case side4 => exact HC0_3.out); rintro e w30 ⟨v357, v361, rfl, ho0, ho1, hb⟩; refine ⟨_, rfl, ?_⟩; have HO358 := Aside0.mk (Kd.R_lower ho0 (below_size (bel HB))); have HO362 := Aside0.mk (Kd.R_lower ho1 (below_size (bel HB))); replace BK315 := bK BK315 hb; replace BK316 := bK BK316 hb; replace HB := bS HB hb; (try clear hb); (try clear hb2); (try clear hk); (try clear hi); (try clear ho0); (try clear ho1)) | ((with_reducible refine gate_dst (N := 10) rfl ?_); refine boxE #[.int .i64 0, .slice none 0 0, .int .i64 0, .slice none 0 0] 59 (N := 10) rfl rfl ?_; intro gb363 hg w31 hbox hb; replace HO358 := Aside0.mk (Kd.R_below (mR HO358) hb); replace HO362 := Aside0.mk (Kd.R_below (mR HO362) hb); have BK363 := Aside0.mk hbox; have GW363 := gZ HB hg; have GE363 := gZ HB hg; replace HB := bS HB hb; have NB315_363 := nL BK315 hg; have NB363_315 := nG BK315 hg; replace BK315 := bK BK315 hb; have NB316_363 := nL BK316 hg; have NB363_316 := nG BK316 hg; replace BK316 := bK BK316 hb; clear hb hbox hg; have hnb32 := NB363_315.out; have hnc32 := NB315_363.out; have hnb33 := NB363_316.out; have hnc33 := NB316_363.out; have hz34 := cl4 BK363; obtain ⟨Ao35, co35, eo35⟩ := Kd.R_slice HO358.out; subst eo35; obtain ⟨Ao36, co36, eo36⟩ := Kd.R_slice HO362.out; subst eo36))
    go_loopg [11] k (fun kq v11 w' => ∃ (x11_1 : Int) (x317000_1 : Int) (x317002_1 : Int) (x317004_1 : Int) (x364003_1 : List Int) (u364003 : Value), v11 = .int .i64 x11_1 ∧ Aside0 (spec_DeliverOut.l0 kq a2 l3 x11_1 a0_0 l0_1 a0_2 l0_3 t355 t356 t359 x364003_1 = some (r1, r2, r3, r4, r5, r6)) ∧ Aside0 (kq ≤ k) ∧ Aside0 (Kd.R (Kd.int .u8) 5 w' w.heap.size (fun k_ => some k_ ≠ (u364003 : Value).ownBlock) (.slice Ao35 t356.length co35) t356) ∧ Aside0 (Kd.R (Kd.int .u8) 5 w' w.heap.size (fun k_ => some k_ ≠ ((.slice Ao35 t356.length co35) : Value).ownBlock) u364003 x364003_1) ∧ Aside0 (w'.heap[gb315]? = some (.cells #[.int .i64 a0_0, (.slice A0_1 l0_1.length c0_1), .int .i64 a0_2, (.slice A0_3 l0_3.length c0_3)] 59 (0, 0))) ∧ Aside0 (w'.heap[gb316]? = some (.cells #[.int .i64 x317000_1, (.slice none 0 0), .int .i64 x317002_1, (.slice none 0 0), .int .i64 x317004_1, (.slice none 0 0)] 63 (0, 0))) ∧ Aside0 (w'.heap[gb363]? = some (.cells #[.int .i64 t355, (.slice Ao35 t356.length co35), .int .i64 t359, u364003] 59 (0, 0))) ∧ Aside0 (Below w.heap.size w w'))
    case atStart => exact ⟨(0), (0), (0), (0), (t360), (.slice Ao36 t360.length co36), (by first | rfl | (simp; done) | (simp [*]; done)), H', ⟨Nat.le_refl _⟩, ⟨by (with_reducible repeat (first | apply Kd.R_alloc | apply Kd.R_drewN | apply Kd.R_drew)); exact Kd.R_mono (RF (RF (RF (RF (Kd.R_types HO358.out BK363.out (by decide)))))) (fun _ hk => hk.1)⟩, ⟨by (with_reducible repeat (first | apply Kd.R_alloc | apply Kd.R_drewN | apply Kd.R_drew)); exact Kd.R_mono (RF (RF (RF (RF (Kd.R_types HO362.out BK363.out (by decide)))))) (fun _ hk => hk.1)⟩, ⟨by (with_reducible repeat (first | refine blk_drewN ?_ _ | refine blk_drew ?_ | refine blk_alloc ?_ _)); refine blk_far ?_ NB315_363.out _; (with_reducible repeat (first | refine blk_drewN ?_ _ | refine blk_drew ?_ | refine blk_alloc ?_ _)); refine blk_far ?_ NB315_363.out _; (with_reducible repeat (first | refine blk_drewN ?_ _ | refine blk_drew ?_ | refine blk_alloc ?_ _)); refine blk_far ?_ NB315_363.out _; (with_reducible repeat (first | refine blk_drewN ?_ _ | refine blk_drew ?_ | refine blk_alloc ?_ _)); refine blk_far ?_ NB315_363.out _; (with_reducible repeat (first | refine blk_drewN ?_ _ | refine blk_drew ?_ | refine blk_alloc ?_ _)); exact BK315.out⟩, ⟨by (with_reducible repeat (first | refine blk_drewN ?_ _ | refine blk_drew ?_ | refine blk_alloc ?_ _)); refine blk_far ?_ NB316_363.out _; (with_reducible repeat (first | refine blk_drewN ?_ _ | refine blk_drew ?_ | refine blk_alloc ?_ _)); refine blk_far ?_ NB316_363.out _; (with_reducible repeat (first | refine blk_drewN ?_ _ | refine blk_drew ?_ | refine blk_alloc ?_ _)); refine blk_far ?_ NB316_363.out _; (with_reducible repeat (first | refine blk_drewN ?_ _ | refine blk_drew ?_ | refine blk_alloc ?_ _)); refine blk_far ?_ NB316_363.out _; (with_reducible repeat (first | refine blk_drewN ?_ _ | refine blk_drew ?_ | refine blk_alloc ?_ _)); exact BK316.out⟩, ⟨by (with_reducible repeat (first | refine blk_drewN ?_ _ | refine blk_drew ?_ | refine blk_alloc ?_ _)); refine blk_put (cs := #[.int .i64 t355, .slice Ao35 t356.length co35, .int .i64 t359, .slice none 0 0]) ?_ 3 _ rfl; (with_reducible repeat (first | refine blk_drewN ?_ _ | refine blk_drew ?_ | refine blk_alloc ?_ _)); refine blk_put (cs := #[.int .i64 t355, .slice Ao35 t356.length co35, .int .i64 0, .slice none 0 0]) ?_ 2 _ rfl; (with_reducible repeat (first | refine blk_drewN ?_ _ | refine blk_drew ?_ | refine blk_alloc ?_ _)); refine blk_put (cs := #[.int .i64 t355, .slice none 0 0, .int .i64 0, .slice none 0 0]) ?_ 1 _ rfl; (with_reducible repeat (first | refine blk_drewN ?_ _ | refine blk_drew ?_ | refine blk_alloc ?_ _)); refine blk_put (cs := #[.int .i64 0, .slice none 0 0, .int .i64 0, .slice none 0 0]) ?_ 0 _ rfl; (with_reducible repeat (first | refine blk_drewN ?_ _ | refine blk_drew ?_ | refine blk_alloc ?_ _)); exact BK363.out⟩, ⟨bel HB⟩⟩
    case round =>
     clear H'
     try clear c1
     try clear c2
     try clear p2
     try clear c3
     try clear c6
     try clear c6b0
     try clear c6b1
     try clear p6
     try clear c8
     try clear c9
     try clear c9b0
     try clear c10
     try clear c13
     try clear c25
     try clear c32
     try clear c33
     try clear c35
     try clear hz14
     try clear hz16
     try clear hz18
     try clear hz26
     try clear hz28
     try clear hz29
     try clear hz34
     obtain ⟨x11_1, x317000_1, x317002_1, x317004_1, x364003_1, u364003, rfl, HA, HK1, HO_364001, HO_364003, BK315, BK316, BK363, HB⟩ := hrel
     cases gk with
     | zero => exact absurd HA.out (by simp [spec_DeliverOut.l0])
     | succ k1 =>
      have H := HA.out
      clear HA
      simp only [spec_DeliverOut.l0] at H
      by_cases c37 : x11_1 < (l3.length : Int)
      ·
       rw [if_pos c37] at H
       have c37b0 : decide (x11_1 < (l3.length : Int)) = true := decide_eq_true c37
       clear c37
       by_cases c38 : (wrap64 (a2 + x11_1)) < (l0_3.length : Int)
       ·
        rw [if_pos c38] at H
        have c38b0 : decide ((wrap64 (a2 + x11_1)) < (l0_3.length : Int)) = true := decide_eq_true c38
        clear c38
        obtain ⟨ji39, hji39⟩ : ∃ j_ : Int, (wrap64 (a2 + x11_1)) = j_ := ⟨_, rfl⟩
        replace H : (if 0 ≤ (ji39) then (if 0 ≤ x11_1 then (if (rd l0_3 (ji39)) = (rd l3 x11_1) then (spec_DeliverOut.l0 k1 a2 l3 (wrap64 (x11_1 + 1)) a0_0 l0_1 a0_2 l0_3 t355 t356 t359 x364003_1) else ((spec_l11Bad.f 7).bind fun bt366 => (some (bt366.1, bt366.2.1, bt366.2.2.1, bt366.2.2.2.1, bt366.2.2.2.2.1, bt366.2.2.2.2.2)))) else (none)) else (none)) = some (r1, r2, r3, r4, r5, r6) := by first | (rw [hji39] at H; exact H) | (simp only [hji39] at H ⊢; exact H)
        (try rw [hji39] at c38b0)
        have hji39w : (IntKind.i64.wrap (a2 + x11_1)) = ji39 := (i64_w _).trans hji39
        by_cases c40 : 0 ≤ (ji39)
        ·
         rw [if_pos c40] at H
         have c40b0 : decide (0 ≤ (ji39)) = true := decide_eq_true c40
         clear c40
         by_cases c41 : 0 ≤ x11_1
         ·
          rw [if_pos c41] at H
          have c41b0 : decide (0 ≤ x11_1) = true := decide_eq_true c41
          clear c41
          by_cases c42 : (rd l0_3 (ji39)) = (rd l3 x11_1)
          ·
           rw [if_pos c42] at H
           have c42b0 : ((rd l0_3 (ji39)) == (rd l3 x11_1)) = true := beq_iff_eq.mpr c42
           have c42b1 : ((rd l0_3 (ji39)) != (rd l3 x11_1)) = false := bne_eq_false_iff_eq.mpr c42
           clear c42
           have H' := Aside0.mk H
           clear H
           have hnb43 := NB315_316.out
           have hnc43 := NB316_315.out
           have hnb44 := NB315_363.out
           have hnc44 := NB363_315.out
           have hz45 := cl4 BK315
           try go_wp2
           have n0_ := Aside0.mk (Kd.R_drew HO_364001.out)
           have n1_ := Aside0.mk (Kd.R_drew HO_364003.out)
           have n2_ := Aside0.mk (blk_drew BK315.out)
           have n3_ := Aside0.mk (blk_drew BK316.out)
           have n4_ := Aside0.mk (blk_drew BK363.out)
           have n5_ := Aside0.mk (below_drew1 HB.out)
           clear HO_364001
           clear HO_364003
           clear BK315
           clear BK316
           clear BK363
           clear HB
           have HO_364001 := n0_
           have HO_364003 := n1_
           have BK315 := n2_
           have BK316 := n3_
           have BK363 := n4_
           have HB := n5_
           clear n0_ n1_ n2_ n3_ n4_ n5_
           have p364 : 0 ≤ ((ji39) : Int) := of_decide_eq_true (by first | (with_reducible assumption) | assumption)
           have q364 : (ji39) < (l0_3.length : Int) := of_decide_eq_true (by first | (with_reducible assumption) | assumption)
           obtain ⟨ad364, e364, hx364_0⟩ := Kd.at_int HR0_3.out (ji39) p364 q364
           have hw364_0 := hx364_0
           cases e364
           replace hx364_0 := (HB.out.cell (World.block_lt_of_cell? w _ hx364_0)).trans hx364_0
           replace p364 := eq_true p364
           replace q364 := eq_true q364
           have p365 : 0 ≤ (x11_1 : Int) := of_decide_eq_true (by first | (with_reducible assumption) | assumption)
           have q365 : x11_1 < (l3.length : Int) := of_decide_eq_true (by first | (with_reducible assumption) | assumption)
           obtain ⟨ad365, e365, hx365_0⟩ := Kd.at_int HR3.out x11_1 p365 q365
           have hw365_0 := hx365_0
           cases e365
           replace hx365_0 := (HB.out.cell (World.block_lt_of_cell? w _ hx365_0)).trans hx365_0
           replace p365 := eq_true p365
           replace q365 := eq_true q365
           refine start_ (n := 12) (S := fun w' => w'.cell? ⟨gb315, 0, none⟩ = some (.int .i64 a0_0) ∧ w'.cell? ⟨gb315, 1, none⟩ = some (.slice A0_1 l0_1.length c0_1) ∧ w'.cell? ⟨gb315, 2, none⟩ = some (.int .i64 a0_2) ∧ w'.cell? ⟨gb315, 3, none⟩ = some (.slice (some ad364) l0_3.length c0_3) ∧ w'.cell? (ad364.add ((ji39)).toNat) = some (.int .u8 (rd l0_3 (ji39))) ∧ w'.cell? (ad365.add (x11_1).toNat) = some (.int .u8 (rd l3 x11_1))) (ds := []) #[false, false, false, false, false, false, false, false, false, false, false, false] (by kernel_rfl) rfl rfl ⟨(blk_cell BK315.out 0).trans rfl, (blk_cell BK315.out 1).trans rfl, (blk_cell BK315.out 2).trans rfl, (blk_cell BK315.out 3).trans rfl, ((HB.out.cell (World.block_lt_of_cell? w _ hw364_0)).trans hw364_0), ((HB.out.cell (World.block_lt_of_cell? w _ hw365_0)).trans hw365_0)⟩ (fun hHeld => ?_); refine with_tabW spec_DeliverOut.tab13 spec_DeliverOut.bits13 (fun HT_ HW_ => ?_)
           generalize wr.drew = w46 at HO_364001 HO_364003 BK315 BK316 BK363 HB hx364_0 hx365_0 hHeld ⊢
           refine pA 0 47 [1, 11] ?_
           refine pA 2 49 [1, 1, 1, 9] ?_
           refine pA 3 50 [1, 1, 2, 8] ?_
           refine pA 4 51 [1, 1, 3, 7] ?_
           refine pA 7 54 [1, 1, 3, 2, 1, 4] ?_
           refine pA 8 55 [1, 1, 3, 2, 2, 3] ?_
           refine pA 9 56 [1, 1, 3, 2, 3, 2] ?_
           refine take_ (i := 1) (N := some 48) (v := ?_) (a' := ?_) #[true, true, true, true, true, false, false, true, true, true, false, false] rfl rfl (take_ofW HT_.out HW_.out (by kernel_rfl)) (fun _ _ _ h => h) (Or.inl ⟨by rfl, ?_⟩) hHeld ?_ ?_
           rotate_left
           ·
            rintro w' ⟨s0, s1, s2, s3, s4, s5⟩
            go_simp
            with_reducible rfl
           rotate_left
           ·
            simp only [Act.put, List.setIfInBounds_toArray, List.set_cons_zero, List.set_cons_succ, i64_w, i32_w]
            rfl
           refine pA 5 52 [6, 1, 3, 2] ?_
           refine take_ (i := 6) (N := some 53) (v := ?_) (a' := ?_) #[true, true, true, true, true, true, true, true, true, true, false, false] rfl rfl (take_ofW HT_.out HW_.out (by kernel_rfl)) (fun _ _ _ h => h) (Or.inl ⟨by rfl, ?_⟩) hHeld ?_ ?_
           rotate_left
           ·
            rintro w' ⟨s0, s1, s2, s3, s4, s5⟩
            go_simp
            with_reducible rfl
           rotate_left
           ·
            simp only [Act.put, List.setIfInBounds_toArray, List.set_cons_zero, List.set_cons_succ, i64_w, i32_w]
            rfl
           refine take_ (i := 10) (N := some 57) (v := ?_) (a' := ?_) #[true, true, true, true, true, true, true, true, true, true, true, false] rfl rfl (take_ofW HT_.out HW_.out (by kernel_rfl)) (fun _ _ _ h => h) (Or.inl ⟨by rfl, ?_⟩) hHeld ?_ ?_
           rotate_left
           ·
            rintro w' ⟨s0, s1, s2, s3, s4, s5⟩
            go_simp
            with_reducible rfl
           rotate_left
           ·
            simp only [Act.put, List.setIfInBounds_toArray, List.set_cons_zero, List.set_cons_succ, i64_w, i32_w]
            rfl
           refine pA 11 58 [12] ?_
           refine done_ (done_of HT_.out (by kernel_rfl)) ?_
           try go_wp2
           go_roundg k1
           case measure => have := HK1.out; omega
           case rel => exact ⟨(wrap64 (x11_1 + 1)), (x317000_1), (x317002_1), (x317004_1), (x364003_1), (u364003), (by first | rfl | (simp; done) | (simp [*]; done)), H', ⟨by have := HK1.out; omega⟩, ⟨by (with_reducible repeat (first | apply Kd.R_alloc | apply Kd.R_drewN | apply Kd.R_drew)); exact HO_364001.out⟩, ⟨by (with_reducible repeat (first | apply Kd.R_alloc | apply Kd.R_drewN | apply Kd.R_drew)); exact HO_364003.out⟩, ⟨by (with_reducible repeat (first | refine blk_drewN ?_ _ | refine blk_drew ?_ | refine blk_alloc ?_ _)); exact BK315.out⟩, ⟨by (with_reducible repeat (first | refine blk_drewN ?_ _ | refine blk_drew ?_ | refine blk_alloc ?_ _)); exact BK316.out⟩, ⟨by (with_reducible repeat (first | refine blk_drewN ?_ _ | refine blk_drew ?_ | refine blk_alloc ?_ _)); exact BK363.out⟩, ⟨bel HB⟩⟩
          ·
           rw [if_neg c42] at H
           have c42b0 : ((rd l0_3 (ji39)) == (rd l3 x11_1)) = false := beq_eq_false_iff_ne.mpr c42
           have c42b1 : ((rd l0_3 (ji39)) != (rd l3 x11_1)) = true := bne_iff_ne.mpr c42
           replace H := Option.bind_eq_some_iff.mp H
           obtain ⟨⟨t366, t367, t370, t371, t374, t375⟩, A470, H⟩ := H
           replace H : (some (t366, t367, t370, t371, t374, t375)) = some (r1, r2, r3, r4, r5, r6) := H
           have A47 := Aside0.mk A470
           clear A470
           simp only [Option.some.injEq, Prod.mk.injEq] at H
           obtain ⟨rfl, rfl, rfl, rfl, rfl, rfl⟩ := H
           have hnb48 := NB315_316.out
           have hnc48 := NB316_315.out
           have hnb49 := NB315_363.out
           have hnc49 := NB363_315.out
           have hz50 := cl4 BK315
           try go_wp2
           have n0_ := Aside0.mk (Kd.R_drew HO_364001.out)
           have n1_ := Aside0.mk (Kd.R_drew HO_364003.out)
           have n2_ := Aside0.mk (blk_drew BK315.out)
           have n3_ := Aside0.mk (blk_drew BK316.out)
           have n4_ := Aside0.mk (blk_drew BK363.out)
           have n5_ := Aside0.mk (below_drew1 HB.out)
           clear HO_364001
           clear HO_364003
           clear BK315
           clear BK316
           clear BK363
           clear HB
           have HO_364001 := n0_
           have HO_364003 := n1_
           have BK315 := n2_
           have BK316 := n3_
           have BK363 := n4_
           have HB := n5_
           clear n0_ n1_ n2_ n3_ n4_ n5_
           have p364 : 0 ≤ ((ji39) : Int) := of_decide_eq_true (by first | (with_reducible assumption) | assumption)
           have q364 : (ji39) < (l0_3.length : Int) := of_decide_eq_true (by first | (with_reducible assumption) | assumption)
           obtain ⟨ad364, e364, hx364_0⟩ := Kd.at_int HR0_3.out (ji39) p364 q364
           have hw364_0 := hx364_0
           cases e364
           replace hx364_0 := (HB.out.cell (World.block_lt_of_cell? w _ hx364_0)).trans hx364_0
           replace p364 := eq_true p364
           replace q364 := eq_true q364
           have p365 : 0 ≤ (x11_1 : Int) := of_decide_eq_true (by first | (with_reducible assumption) | assumption)
           have q365 : x11_1 < (l3.length : Int) := of_decide_eq_true (by first | (with_reducible assumption) | assumption)
           obtain ⟨ad365, e365, hx365_0⟩ := Kd.at_int HR3.out x11_1 p365 q365
           have hw365_0 := hx365_0
           cases e365
           replace hx365_0 := (HB.out.cell (World.block_lt_of_cell? w _ hx365_0)).trans hx365_0
           replace p365 := eq_true p365
           replace q365 := eq_true q365
           refine start_ (n := 12) (S := fun w' => w'.cell? ⟨gb315, 0, none⟩ = some (.int .i64 a0_0) ∧ w'.cell? ⟨gb315, 1, none⟩ = some (.slice A0_1 l0_1.length c0_1) ∧ w'.cell? ⟨gb315, 2, none⟩ = some (.int .i64 a0_2) ∧ w'.cell? ⟨gb315, 3, none⟩ = some (.slice (some ad364) l0_3.length c0_3) ∧ w'.cell? (ad364.add ((ji39)).toNat) = some (.int .u8 (rd l0_3 (ji39))) ∧ w'.cell? (ad365.add (x11_1).toNat) = some (.int .u8 (rd l3 x11_1))) (ds := []) #[false, false, false, false, false, false, false, false, false, false, false, false] (by kernel_rfl) rfl rfl ⟨(blk_cell BK315.out 0).trans rfl, (blk_cell BK315.out 1).trans rfl, (blk_cell BK315.out 2).trans rfl, (blk_cell BK315.out 3).trans rfl, ((HB.out.cell (World.block_lt_of_cell? w _ hw364_0)).trans hw364_0), ((HB.out.cell (World.block_lt_of_cell? w _ hw365_0)).trans hw365_0)⟩ (fun hHeld => ?_); refine with_tabW spec_DeliverOut.tab13 spec_DeliverOut.bits13 (fun HT_ HW_ => ?_)
           generalize wr.drew = w51 at HO_364001 HO_364003 BK315 BK316 BK363 HB hx364_0 hx365_0 hHeld ⊢
           refine pA 0 47 [1, 11] ?_
           refine pA 2 49 [1, 1, 1, 9] ?_
           refine pA 3 50 [1, 1, 2, 8] ?_
           refine pA 4 51 [1, 1, 3, 7] ?_
           refine pA 7 54 [1, 1, 3, 2, 1, 4] ?_
           refine pA 8 55 [1, 1, 3, 2, 2, 3] ?_
           refine pA 9 56 [1, 1, 3, 2, 3, 2] ?_
           refine take_ (i := 1) (N := some 48) (v := ?_) (a' := ?_) #[true, true, true, true, true, false, false, true, true, true, false, false] rfl rfl (take_ofW HT_.out HW_.out (by kernel_rfl)) (fun _ _ _ h => h) (Or.inl ⟨by rfl, ?_⟩) hHeld ?_ ?_
           rotate_left
           ·
            rintro w' ⟨s0, s1, s2, s3, s4, s5⟩
            go_simp
            with_reducible rfl
           rotate_left
           ·
            simp only [Act.put, List.setIfInBounds_toArray, List.set_cons_zero, List.set_cons_succ, i64_w, i32_w]
            rfl
           refine pA 5 52 [6, 1, 3, 2] ?_
           refine take_ (i := 6) (N := some 53) (v := ?_) (a' := ?_) #[true, true, true, true, true, true, true, true, true, true, false, false] rfl rfl (take_ofW HT_.out HW_.out (by kernel_rfl)) (fun _ _ _ h => h) (Or.inl ⟨by rfl, ?_⟩) hHeld ?_ ?_
           rotate_left
           ·
            rintro w' ⟨s0, s1, s2, s3, s4, s5⟩
            go_simp
            with_reducible rfl
           rotate_left
           ·
            simp only [Act.put, List.setIfInBounds_toArray, List.set_cons_zero, List.set_cons_succ, i64_w, i32_w]
            rfl
           refine take_ (i := 10) (N := some 57) (v := ?_) (a' := ?_) #[true, true, true, true, true, true, true, true, true, true, true, false] rfl rfl (take_ofW HT_.out HW_.out (by kernel_rfl)) (fun _ _ _ h => h) (Or.inl ⟨by rfl, ?_⟩) hHeld ?_ ?_
           rotate_left
           ·
            rintro w' ⟨s0, s1, s2, s3, s4, s5⟩
            go_simp
            with_reducible rfl
           rotate_left
           ·
            simp only [Act.put, List.setIfInBounds_toArray, List.set_cons_zero, List.set_cons_succ, i64_w, i32_w]
            rfl
           refine pA 11 58 [12] ?_
           refine done_ (done_of HT_.out (by kernel_rfl)) ?_
           try go_wp2_with (first | ((with_reducible refine gate_callee (f := 102) rfl ?_); refine goA (some 59) rfl rfl Try.func102 rfl #[.int .i64 7] rfl ?_; (with_reducible refine (spec_l11Bad.calls 7 t366 t367 t370 t371 t374 t375 _ A47.out).mono ?_); rintro e w52 ⟨v368, v372, v376, rfl, ho0, ho1, ho2, hb⟩; refine ⟨_, rfl, ?_⟩; have HO369 := Aside0.mk (Kd.R_lower (Kd.R_new' (Kd.R_new' ho0 (Kd.R_lt (mR HO_364001))) (Kd.R_lt (mR HO_364003))) (below_size (bel HB))); have HO373 := Aside0.mk (Kd.R_lower (Kd.R_new' (Kd.R_new' ho1 (Kd.R_lt (mR HO_364001))) (Kd.R_lt (mR HO_364003))) (below_size (bel HB))); have HO377 := Aside0.mk (Kd.R_lower (Kd.R_new' (Kd.R_new' ho2 (Kd.R_lt (mR HO_364001))) (Kd.R_lt (mR HO_364003))) (below_size (bel HB))); replace HO_364001 := Aside0.mk (Kd.R_mono (Kd.R_told (Kd.R_told (Kd.R_told (Kd.R_old (mR HO_364001) hb) (Kd.R_base ho0)) (Kd.R_base ho1)) (Kd.R_base ho2)) (fun _ h_ => h_.1)); replace HO_364003 := Aside0.mk (Kd.R_mono (Kd.R_told (Kd.R_told (Kd.R_told (Kd.R_old (mR HO_364003) hb) (Kd.R_base ho0)) (Kd.R_base ho1)) (Kd.R_base ho2)) (fun _ h_ => h_.1)); replace BK315 := bK BK315 hb; replace BK316 := bK BK316 hb; replace BK363 := bK BK363 hb; replace HB := bS HB hb; (try clear hb); (try clear hb2); (try clear hk); (try clear hi); (try clear ho0); (try clear ho1); (try clear ho2); have hnb53 := NB316_363.out; have hnc53 := NB363_316.out; have hz54 := cl6 BK316; obtain ⟨Ao55, co55, eo55⟩ := Kd.R_slice HO369.out; subst eo55; obtain ⟨Ao56, co56, eo56⟩ := Kd.R_slice HO373.out; subst eo56; obtain ⟨Ao57, co57, eo57⟩ := Kd.R_slice HO377.out; subst eo57))
           refine bodyPost_ret (results_cell_row rfl _ _ gb316 63 #[.int .i64 t366, .slice Ao55 t367.length co55, .int .i64 t370, .slice Ao56 t371.length co56, .int .i64 t374, .slice Ao57 t375.length co57] (0, 0) _ rfl (mP BK316) Try.underlying63 rfl (by kernel_rfl)) rfl ?_
           exact ⟨_, _, _, by first | rfl | (simp [errW_none, errW_some] <;> rfl) | (simp only [← hji39]; first | rfl | (simp [errW_none, errW_some] <;> rfl)) | (simp [*, errW_none, errW_some] <;> rfl), by (with_reducible repeat (first | apply Kd.R_alloc | apply Kd.R_drewN | apply Kd.R_drew)); exact Kd.R_mono (RF (RF (RF (RF (RF (RF (Kd.R_types HO369.out BK316.out (by decide)))))))) (fun _ hk => ⟨hk.1.1.1.1, hk.1.1.1.2⟩), by (with_reducible repeat (first | apply Kd.R_alloc | apply Kd.R_drewN | apply Kd.R_drew)); exact Kd.R_mono (RF (RF (RF (RF (RF (RF (Kd.R_types HO373.out BK316.out (by decide)))))))) (fun _ hk => ⟨hk.1.1.1.1, hk.1.1.1.2⟩), by (with_reducible repeat (first | apply Kd.R_alloc | apply Kd.R_drewN | apply Kd.R_drew)); exact Kd.R_mono (RF (RF (RF (RF (RF (RF (Kd.R_types HO377.out BK316.out (by decide)))))))) (fun _ hk => ⟨hk.1.1.1.1, hk.1.1.1.2⟩), bel HB⟩
         ·
          rw [if_neg c41] at H
          exact absurd H (by simp)
        ·
         rw [if_neg c40] at H
         exact absurd H (by simp)
       ·
        rw [if_neg c38] at H
        have c38b0 : decide ((wrap64 (a2 + x11_1)) < (l0_3.length : Int)) = false := decide_eq_false c38
        clear c38
        by_cases c58 : 0 ≤ x11_1
        ·
         rw [if_pos c58] at H
         have c58b0 : decide (0 ≤ x11_1) = true := decide_eq_true c58
         clear c58
         by_cases c59 : x364003_1.length < 140737488355328
         ·
          rw [if_pos c59] at H
          have LMc59 := Aside0.mk c59
          clear c59
          obtain ⟨y379, hy379⟩ : ∃ y_ : List Int, y_ = (x364003_1 ++ [rd l3 x11_1]) := ⟨_, rfl⟩
          replace H : (spec_DeliverOut.l0 k1 a2 l3 (wrap64 (x11_1 + 1)) a0_0 l0_1 a0_2 l0_3 t355 t356 t359 y379) = some (r1, r2, r3, r4, r5, r6) := by first | (rw [hy379]; with_reducible exact H) | (have H2_ := (Option.bind_some _ _).symm.trans H; rw [hy379]; with_reducible exact H2_) | (have H2_ := (Option.bind_some _ _).symm.trans H; with_reducible exact H2_) | with_reducible exact H | (rw [hy379]; exact H) | exact H
          have Ny379 := Aside0.mk hy379
          clear hy379
          have H' := Aside0.mk H
          clear H
          have hnb60 := NB315_316.out
          have hnc60 := NB316_315.out
          have hnb61 := NB315_363.out
          have hnc61 := NB363_315.out
          have hz62 := cl4 BK315
          try go_wp2
          have n0_ := Aside0.mk (Kd.R_drew HO_364001.out)
          have n1_ := Aside0.mk (Kd.R_drew HO_364003.out)
          have n2_ := Aside0.mk (blk_drew BK315.out)
          have n3_ := Aside0.mk (blk_drew BK316.out)
          have n4_ := Aside0.mk (blk_drew BK363.out)
          have n5_ := Aside0.mk (below_drew1 HB.out)
          clear HO_364001
          clear HO_364003
          clear BK315
          clear BK316
          clear BK363
          clear HB
          have HO_364001 := n0_
          have HO_364003 := n1_
          have BK315 := n2_
          have BK316 := n3_
          have BK363 := n4_
          have HB := n5_
          clear n0_ n1_ n2_ n3_ n4_ n5_
          have p378 : 0 ≤ (x11_1 : Int) := of_decide_eq_true (by first | (with_reducible assumption) | assumption)
          have q378 : x11_1 < (l3.length : Int) := of_decide_eq_true (by first | (with_reducible assumption) | assumption)
          obtain ⟨ad378, e378, hx378_0⟩ := Kd.at_int HR3.out x11_1 p378 q378
          have hw378_0 := hx378_0
          cases e378
          replace hx378_0 := (HB.out.cell (World.block_lt_of_cell? w _ hx378_0)).trans hx378_0
          replace p378 := eq_true p378
          replace q378 := eq_true q378
          refine start_ (n := 10) (S := fun w' => w'.cell? ⟨gb363, 0, none⟩ = some (.int .i64 t355) ∧ w'.cell? ⟨gb363, 1, none⟩ = some (.slice Ao35 t356.length co35) ∧ w'.cell? ⟨gb363, 2, none⟩ = some (.int .i64 t359) ∧ w'.cell? ⟨gb363, 3, none⟩ = some (u364003) ∧ w'.cell? (ad378.add (x11_1).toNat) = some (.int .u8 (rd l3 x11_1))) (ds := [9]) #[false, false, false, false, false, false, false, false, false, false] (by kernel_rfl) rfl rfl ⟨(blk_cell BK363.out 0).trans rfl, (blk_cell BK363.out 1).trans rfl, (blk_cell BK363.out 2).trans rfl, (blk_cell BK363.out 3).trans rfl, ((HB.out.cell (World.block_lt_of_cell? w _ hw378_0)).trans hw378_0)⟩ (fun hHeld => ?_); refine with_tabW spec_DeliverOut.tab15 spec_DeliverOut.bits15 (fun HT_ HW_ => ?_)
          generalize wr.drew = w63 at HO_364001 HO_364003 BK315 BK316 BK363 HB hx378_0 hHeld ⊢
          refine pA 0 60 [1, 9] ?_
          refine pA 2 62 [1, 1, 1, 7] ?_
          refine pA 3 63 [1, 1, 2, 6] ?_
          refine pA 4 64 [1, 1, 3, 5] ?_
          refine take_ (i := 1) (N := some 61) (v := ?_) (a' := ?_) #[true, true, true, true, true, false, false, false, false, false] rfl rfl (take_ofW HT_.out HW_.out (by kernel_rfl)) (fun _ _ _ h => h) (Or.inl ⟨by rfl, ?_⟩) hHeld ?_ ?_
          rotate_left
          ·
           rintro w' ⟨s0, s1, s2, s3, s4⟩
           go_simp
           with_reducible rfl
          rotate_left
          ·
           simp only [Act.put, List.setIfInBounds_toArray, List.set_cons_zero, List.set_cons_succ, i64_w, i32_w]
           rfl
          refine take_ (i := 5) (N := some 65) (v := ?_) (a' := ?_) #[true, true, true, true, true, true, false, false, false, false] rfl rfl (take_ofW HT_.out HW_.out (by kernel_rfl)) (fun _ _ _ h => h) (Or.inl ⟨by rfl, ?_⟩) hHeld ?_ ?_
          rotate_left
          ·
           rintro w' ⟨s0, s1, s2, s3, s4⟩
           go_simp
           with_reducible rfl
          rotate_left
          ·
           simp only [Act.put, List.setIfInBounds_toArray, List.set_cons_zero, List.set_cons_succ, i64_w, i32_w]
           rfl
          refine one_ (i := 6) (N := some 66) #[true, true, true, true, true, true, true, false, false, false] rfl rfl (one_of HT_.out (by kernel_rfl)) (by decide) (fun K hK => ?_)
          refine value_ (w1 := ?_) (v := ?_) (by rfl) rfl ?_ ?_
          rotate_left 2
          ·
           go_simp
           constructor
           ·
            rfl
           ·
            rfl
          refine hK.out _ _ ⟨(blk_cell (blk_alloc BK363.out _) 0).trans rfl, (blk_cell (blk_alloc BK363.out _) 1).trans rfl, (blk_cell (blk_alloc BK363.out _) 2).trans rfl, (blk_cell (blk_alloc BK363.out _) 3).trans rfl, (World.cell?_alloc_lt _ _ _ (World.block_lt_of_cell? _ _ (((HB.out.cell (World.block_lt_of_cell? w _ hw378_0)).trans hw378_0)))).trans (((HB.out.cell (World.block_lt_of_cell? w _ hw378_0)).trans hw378_0))⟩ (fun hHeld => ?_)
          clear hK K
          refine norm_ (a' := ?_) ?_ ?_
          rotate_left
          ·
           show Act.put _ (some 66) _ = _
           simp only [Act.put, List.setIfInBounds_toArray, List.set_cons_zero, List.set_cons_succ, i64_w, i32_w]
           rfl
          refine one_ (i := 7) (N := some 67) #[true, true, true, true, true, true, true, true, false, false] rfl rfl (one_of HT_.out (by kernel_rfl)) (by decide) (fun K hK => ?_)
          refine Kd.R_append_step (Kd.int .u8) (w0 := w) w.heap.size (by rfl) (.tmp 61) (.tmp 66) 25 5 (.int .u8 0) 1 rfl Try.underlying25 info5 rfl (by decide) (by omega) u364003 x364003_1 (rd l3 x11_1) [.int .u8 (rd l3 x11_1)] (fun k_ => some k_ ≠ (.slice Ao35 t356.length co35 : Value).ownBlock) (fun _ => False) rfl rfl ?aP (fun _ hk => hk.elim) ?aF ?aO ?aB ?aS ?aL ?_
          (case aP => exact rfl)
          (case aB => exact (bel HB))
          (case aF => exact (fun k_ hk => Kd.fresh' (Kd.R_lt (mR HO_364001)) k_ hk))
          (case aO => exact (mR HO_364003))
          (case aS => exact (below_size (bel HB)))
          (case aL => have := LMc59.out; omega)
          intro v380 w64 ho hb hg hat
          rw [← Ny379.out] at ho
          have n0_ := Aside0.mk (Kd.R_after (ok := (fun _ => True)) (by (with_reducible repeat (first | apply Kd.R_alloc | apply Kd.R_drewN | apply Kd.R_drew)); exact Kd.R_mono HO_364001.out (fun _ hk => ⟨trivial, hk⟩)) hg hat)
          have n1_ := Aside0.mk (blk_grown (g := gb315) (o := .cells #[.int .i64 a0_0, .slice A0_1 l0_1.length c0_1, .int .i64 a0_2, .slice A0_3 l0_3.length c0_3] 59 (0, 0)) (mB BK315) hg (Kd.R_ne HO_364003.out BK315.out (by decide)))
          have n2_ := Aside0.mk (blk_grown (g := gb316) (o := .cells #[.int .i64 x317000_1, .slice none 0 0, .int .i64 x317002_1, .slice none 0 0, .int .i64 x317004_1, .slice none 0 0] 63 (0, 0)) (mB BK316) hg (Kd.R_ne HO_364003.out BK316.out (by decide)))
          have n3_ := Aside0.mk (blk_grown (g := gb363) (o := .cells #[.int .i64 t355, .slice Ao35 t356.length co35, .int .i64 t359, u364003] 59 (0, 0)) (mB BK363) hg (Kd.R_ne HO_364003.out BK363.out (by decide)))
          have n4_ := Aside0.mk (hb)
          have n5_ := Aside0.mk (ho)
          clear HO_364001
          clear BK315
          clear BK316
          clear BK363
          clear HB
          clear HO_364003
          have HO_364001 := n0_
          have BK315 := n1_
          have BK316 := n2_
          have BK363 := n3_
          have HB := n4_
          have HO381 := n5_
          clear n0_ n1_ n2_ n3_ n4_ n5_
          clear ho hb hg hat
          obtain ⟨Ao65, co65, eo65⟩ := Kd.R_slice HO381.out
          (first | subst eo65 | (injection eo65 with f1_ f2_ f3_; have f4_ := f1_.symm; have f5_ := f3_.symm; clear f1_ f2_ f3_; subst f4_; subst f5_))
          refine hK.out _ _ ⟨(blk_cell BK363.out 0).trans rfl, (blk_cell BK363.out 1).trans rfl, (blk_cell BK363.out 2).trans rfl, (blk_cell BK363.out 3).trans rfl, ((HB.out.cell (World.block_lt_of_cell? w _ hw378_0)).trans hw378_0)⟩ (fun hHeld => ?_)
          clear hK K
          refine norm_ (a' := ?_) ?_ ?_
          rotate_left
          ·
           show Act.put _ (some 67) _ = _
           simp only [Act.put, List.setIfInBounds_toArray, List.set_cons_zero, List.set_cons_succ, i64_w, i32_w]
           rfl
          refine pA 8 68 [9, 1] ?_
          refine last_ (i := 9) (N := none) #[true, true, true, true, true, true, true, true, true, true] rfl rfl (one_of HT_.out (by kernel_rfl)) (by decide) (fun K hK => ?_)
          have hs66 : w64.cell? ⟨gb363, 3, none⟩ = some (u364003) := (blk_cell BK363.out 3).trans rfl
          have hfs66 := blk_frozen BK363.out 3
          have hns66_0 := NB315_363.out
          have hns66_1 := NB316_363.out
          have hms66_0 := NB363_315.out
          have hms66_1 := NB363_316.out
          refine skip_ (w1 := ?_) (by rfl) rfl ?_ ?_
          rotate_left
          ·
           go_simp
           rfl
          refine hK.out _ _ ?_
          clear hK K
          refine done_ (done_of HT_.out (by kernel_rfl)) ?_
          try go_wp2
          go_roundg k1
          case measure => have := HK1.out; omega
          case rel => exact ⟨(wrap64 (x11_1 + 1)), (x317000_1), (x317002_1), (x317004_1), (y379), (.slice Ao65 y379.length co65), (by first | rfl | (simp; done) | (simp [*]; done)), H', ⟨by have := HK1.out; omega⟩, ⟨by (with_reducible repeat (first | apply Kd.R_alloc | apply Kd.R_drewN | apply Kd.R_drew)); exact Kd.R_mono (RF (Kd.R_types HO_364001.out BK363.out (by decide))) (fun _ hk => hk.1.2)⟩, ⟨by (with_reducible repeat (first | apply Kd.R_alloc | apply Kd.R_drewN | apply Kd.R_drew)); exact Kd.R_mono (RF (Kd.R_types HO381.out BK363.out (by decide))) (fun _ hk => hk.1)⟩, ⟨by (with_reducible repeat (first | refine blk_drewN ?_ _ | refine blk_drew ?_ | refine blk_alloc ?_ _)); refine blk_far ?_ NB315_363.out _; (with_reducible repeat (first | refine blk_drewN ?_ _ | refine blk_drew ?_ | refine blk_alloc ?_ _)); exact BK315.out⟩, ⟨by (with_reducible repeat (first | refine blk_drewN ?_ _ | refine blk_drew ?_ | refine blk_alloc ?_ _)); refine blk_far ?_ NB316_363.out _; (with_reducible repeat (first | refine blk_drewN ?_ _ | refine blk_drew ?_ | refine blk_alloc ?_ _)); exact BK316.out⟩, ⟨by (with_reducible repeat (first | refine blk_drewN ?_ _ | refine blk_drew ?_ | refine blk_alloc ?_ _)); refine blk_put (cs := #[.int .i64 t355, .slice Ao35 t356.length co35, .int .i64 t359, u364003]) ?_ 3 _ rfl; (with_reducible repeat (first | refine blk_drewN ?_ _ | refine blk_drew ?_ | refine blk_alloc ?_ _)); exact BK363.out⟩, ⟨bel HB⟩⟩
         ·
          rw [if_neg c59] at H
          exact absurd H (by simp)
        ·
         rw [if_neg c58] at H
         exact absurd H (by simp)
      ·
       rw [if_neg c37] at H
       have c37b0 : decide (x11_1 < (l3.length : Int)) = false := decide_eq_false c37
       clear c37
       simp only [Option.some.injEq, Prod.mk.injEq] at H
       obtain ⟨rfl, rfl, rfl, rfl, rfl, rfl⟩ := H
       have hnb67 := NB363_315.out
       have hnc67 := NB315_363.out
       have hnb68 := NB363_316.out
       have hnc68 := NB316_363.out
       have hz69 := cl4 BK363
       obtain ⟨Ao70, co70, eo70⟩ := Kd.R_slice HO_364003.out
       subst eo70
       have hnb71 := NB316_315.out
       have hnc71 := NB315_316.out
       have hz72 := cl6 BK316
       go_wp2
       refine bodyPost_ret (results_cell_row rfl _ _ gb316 63 #[.int .i64 0, .slice none 0 0, .int .i64 t355, .slice Ao35 t356.length co35, .int .i64 t359, .slice Ao70 x364003_1.length co70] (0, 0) _ rfl (mP BK316) Try.underlying63 rfl (by kernel_rfl)) rfl ?_
       exact ⟨_, _, _, by first | rfl | (simp [errW_none, errW_some] <;> rfl) | (simp [*, errW_none, errW_some] <;> rfl), by first | exact Kd.R_nil _ _ _ _ _ | exact Kd.N_nil _ _ _ _ _ | exact Kd.V_nil _ _ _ _ _ | exact Kd.Q_nil _ _ _ _ _ | exact Kd.S_nil _ _ _ _ _, by (with_reducible repeat (first | apply Kd.R_alloc | apply Kd.R_drewN | apply Kd.R_drew)); exact Kd.R_mono (RF (RF (RF (RF (RF (RF (Kd.R_types HO_364001.out BK316.out (by decide)))))))) (fun _ hk => ⟨(by simp [Value.ownBlock]), hk.1⟩), by (with_reducible repeat (first | apply Kd.R_alloc | apply Kd.R_drewN | apply Kd.R_drew)); exact Kd.R_mono (RF (RF (RF (RF (RF (RF (Kd.R_types HO_364003.out BK316.out (by decide)))))))) (fun _ hk => ⟨(by simp [Value.ownBlock]), hk.1⟩), bel HB⟩
  ·
   replace c8 := Bool.eq_false_iff.mpr c8
   subst c8
   have H1 : ((spec_l11Bad.f 3).bind fun bt331 => (some (bt331.1, bt331.2.1, bt331.2.2.1, bt331.2.2.2.1, bt331.2.2.2.2.1, bt331.2.2.2.2.2))) = some (r1, r2, r3, r4, r5, r6) := by rw [if_neg (show ¬ (false = true) by decide)] at H; first | done | exact H
   clear H
   have H := H1
   clear H1
   replace H := Option.bind_eq_some_iff.mp H
   obtain ⟨⟨t331, t332, t335, t336, t339, t340⟩, A730, H⟩ := H
   replace H : (some (t331, t332, t335, t336, t339, t340)) = some (r1, r2, r3, r4, r5, r6) := H
   have A73 := Aside0.mk A730
   clear A730
   simp only [Option.some.injEq, Prod.mk.injEq] at H
   obtain ⟨rfl, rfl, rfl, rfl, rfl, rfl⟩ := H
   go_enter Try.func35, Try.ntmps35
   go_wp2_with (first | ((with_reducible refine gate_dst (N := 4) rfl ?_); refine boxE #[.int .i64 a0_0, .slice A0_1 l0_1.length c0_1, .int .i64 a0_2, .slice A0_3 l0_3.length c0_3] 59 (N := 4) rfl rfl ?_; intro gb315 hg w74 hbox hb; have BK315 := Aside0.mk hbox; have GW315 := gZ HB hg; have GE315 := gZ HB hg; replace HB := bS HB hb; clear hb hbox hg) | ((with_reducible refine gate_dst (N := 8) rfl ?_); refine boxE #[.int .i64 0, .slice none 0 0, .int .i64 0, .slice none 0 0, .int .i64 0, .slice none 0 0] 63 (N := 8) rfl rfl ?_; intro gb316 hg w75 hbox hb; have BK316 := Aside0.mk hbox; have GW316 := gZ HB hg; have GE316 := gZ HB hg; replace HB := bS HB hb; have NB315_316 := nL BK315 hg; have NB316_315 := nG BK315 hg; replace BK315 := bK BK315 hb; clear hb hbox hg; have hnb76 := NB315_316.out; have hnc76 := NB316_315.out; have hz77 := cl4 BK315) | ((with_reducible refine gate_callee (f := 101) rfl ?_); refine goA (some 14) rfl rfl Try.func101 rfl #[.agg #[.int .i64 a0_0, .slice A0_1 l0_1.length c0_1, .int .i64 a0_2, .slice A0_3 l0_3.length c0_3], .int .i64 a1] rfl ?_; (with_reducible refine (spec_l11Asked.calls k a0_0 _ _ l0_1 a0_2 _ _ l0_3 a1 t317 _ ?side1 ?side2 ?side3 ?side4 A5.out).mono ?_); (case side1 => exact mC HR0_1 HB); (case side2 => exact HC0_1.out); (case side3 => exact mC HR0_3 HB); (case side4 => exact HC0_3.out); rintro e w78 ⟨rfl, hb⟩; refine ⟨_, rfl, ?_⟩; replace BK315 := bK BK315 hb; replace BK316 := bK BK316 hb; replace HB := bS HB hb; (try clear hb); (try clear hb2); (try clear hk); (try clear hi); have hz79 := cl4 BK315) | ((with_reducible refine gate_callee (f := 88) rfl ?_); refine goA (some 23) rfl rfl Try.func88 rfl #[.int .i64 a2, .int .i64 0, .int .i64 (l0_3.length : Int)] rfl ?_; (with_reducible refine (spec_l1In.calls a2 0 (l0_3.length : Int) false _ A7.out).mono ?_); rintro e w' ⟨rfl, ⟨nd, rfl⟩⟩; refine ⟨_, rfl, ?_⟩; (try ((try simp only [World.drewN_drewN]); rw [drewN_self w78]; generalize hq_ : World.drewN w78 _ = w78; replace BK315 := Aside0.mk (blk_at hq_ BK315.out); replace BK316 := Aside0.mk (blk_at hq_ BK316.out); replace HB := Aside0.mk (below_at hq_ HB.out); clear hq_))) | ((with_reducible refine gate_callee (f := 102) rfl ?_); refine goA (some 25) rfl rfl Try.func102 rfl #[.int .i64 3] rfl ?_; (with_reducible refine (spec_l11Bad.calls 3 t331 t332 t335 t336 t339 t340 _ A73.out).mono ?_); rintro e w80 ⟨v333, v337, v341, rfl, ho0, ho1, ho2, hb⟩; refine ⟨_, rfl, ?_⟩; have HO334 := Aside0.mk (Kd.R_lower ho0 (below_size (bel HB))); have HO338 := Aside0.mk (Kd.R_lower ho1 (below_size (bel HB))); have HO342 := Aside0.mk (Kd.R_lower ho2 (below_size (bel HB))); replace BK315 := bK BK315 hb; replace BK316 := bK BK316 hb; replace HB := bS HB hb; (try clear hb); (try clear hb2); (try clear hk); (try clear hi); (try clear ho0); (try clear ho1); (try clear ho2); have hz81 := cl6 BK316; obtain ⟨Ao82, co82, eo82⟩ := Kd.R_slice HO334.out; subst eo82; obtain ⟨Ao83, co83, eo83⟩ := Kd.R_slice HO338.out; subst eo83; obtain ⟨Ao84, co84, eo84⟩ := Kd.R_slice HO342.out; subst eo84))
   refine bodyPost_ret (results_cell_row rfl _ _ gb316 63 #[.int .i64 t331, .slice Ao82 t332.length co82, .int .i64 t335, .slice Ao83 t336.length co83, .int .i64 t339, .slice Ao84 t340.length co84] (0, 0) _ rfl (mP BK316) Try.underlying63 rfl (by kernel_rfl)) rfl ?_
   exact ⟨_, _, _, by first | rfl | (simp [errW_none, errW_some] <;> rfl) | (simp [*, errW_none, errW_some] <;> rfl), by (with_reducible repeat (first | apply Kd.R_alloc | apply Kd.R_drewN | apply Kd.R_drew)); exact Kd.R_mono (RF (RF (RF (RF (RF (RF (Kd.R_types HO334.out BK316.out (by decide)))))))) (fun _ hk => ⟨hk.1.1, hk.1.2⟩), by (with_reducible repeat (first | apply Kd.R_alloc | apply Kd.R_drewN | apply Kd.R_drew)); exact Kd.R_mono (RF (RF (RF (RF (RF (RF (Kd.R_types HO338.out BK316.out (by decide)))))))) (fun _ hk => ⟨hk.1.1, hk.1.2⟩), by (with_reducible repeat (first | apply Kd.R_alloc | apply Kd.R_drewN | apply Kd.R_drew)); exact Kd.R_mono (RF (RF (RF (RF (RF (RF (Kd.R_types HO342.out BK316.out (by decide)))))))) (fun _ hk => ⟨hk.1.1, hk.1.2⟩), bel HB⟩
 ·
  rw [if_neg c6] at H
  have c6b0 : (t317 == 0) = false := beq_eq_false_iff_ne.mpr c6
  have c6b1 : (t317 != 0) = true := bne_iff_ne.mpr c6
  replace H := Option.bind_eq_some_iff.mp H
  obtain ⟨⟨t318, t319, t322, t323, t326, t327⟩, A850, H⟩ := H
  replace H : (some (t318, t319, t322, t323, t326, t327)) = some (r1, r2, r3, r4, r5, r6) := H
  have A85 := Aside0.mk A850
  clear A850
  simp only [Option.some.injEq, Prod.mk.injEq] at H
  obtain ⟨rfl, rfl, rfl, rfl, rfl, rfl⟩ := H
  go_enter Try.func35, Try.ntmps35
  go_wp2_with (first | ((with_reducible refine gate_dst (N := 4) rfl ?_); refine boxE #[.int .i64 a0_0, .slice A0_1 l0_1.length c0_1, .int .i64 a0_2, .slice A0_3 l0_3.length c0_3] 59 (N := 4) rfl rfl ?_; intro gb315 hg w86 hbox hb; have BK315 := Aside0.mk hbox; have GW315 := gZ HB hg; have GE315 := gZ HB hg; replace HB := bS HB hb; clear hb hbox hg) | ((with_reducible refine gate_dst (N := 8) rfl ?_); refine boxE #[.int .i64 0, .slice none 0 0, .int .i64 0, .slice none 0 0, .int .i64 0, .slice none 0 0] 63 (N := 8) rfl rfl ?_; intro gb316 hg w87 hbox hb; have BK316 := Aside0.mk hbox; have GW316 := gZ HB hg; have GE316 := gZ HB hg; replace HB := bS HB hb; have NB315_316 := nL BK315 hg; have NB316_315 := nG BK315 hg; replace BK315 := bK BK315 hb; clear hb hbox hg; have hnb88 := NB315_316.out; have hnc88 := NB316_315.out; have hz89 := cl4 BK315) | ((with_reducible refine gate_callee (f := 101) rfl ?_); refine goA (some 14) rfl rfl Try.func101 rfl #[.agg #[.int .i64 a0_0, .slice A0_1 l0_1.length c0_1, .int .i64 a0_2, .slice A0_3 l0_3.length c0_3], .int .i64 a1] rfl ?_; (with_reducible refine (spec_l11Asked.calls k a0_0 _ _ l0_1 a0_2 _ _ l0_3 a1 t317 _ ?side1 ?side2 ?side3 ?side4 A5.out).mono ?_); (case side1 => exact mC HR0_1 HB); (case side2 => exact HC0_1.out); (case side3 => exact mC HR0_3 HB); (case side4 => exact HC0_3.out); rintro e w90 ⟨rfl, hb⟩; refine ⟨_, rfl, ?_⟩; replace BK315 := bK BK315 hb; replace BK316 := bK BK316 hb; replace HB := bS HB hb; (try clear hb); (try clear hb2); (try clear hk); (try clear hi)) | ((with_reducible refine gate_callee (f := 102) rfl ?_); refine goA (some 18) rfl rfl Try.func102 rfl #[.int .i64 t317] rfl ?_; (with_reducible refine (spec_l11Bad.calls t317 t318 t319 t322 t323 t326 t327 _ A85.out).mono ?_); rintro e w91 ⟨v320, v324, v328, rfl, ho0, ho1, ho2, hb⟩; refine ⟨_, rfl, ?_⟩; have HO321 := Aside0.mk (Kd.R_lower ho0 (below_size (bel HB))); have HO325 := Aside0.mk (Kd.R_lower ho1 (below_size (bel HB))); have HO329 := Aside0.mk (Kd.R_lower ho2 (below_size (bel HB))); replace BK315 := bK BK315 hb; replace BK316 := bK BK316 hb; replace HB := bS HB hb; (try clear hb); (try clear hb2); (try clear hk); (try clear hi); (try clear ho0); (try clear ho1); (try clear ho2); have hz92 := cl6 BK316; obtain ⟨Ao93, co93, eo93⟩ := Kd.R_slice HO321.out; subst eo93; obtain ⟨Ao94, co94, eo94⟩ := Kd.R_slice HO325.out; subst eo94; obtain ⟨Ao95, co95, eo95⟩ := Kd.R_slice HO329.out; subst eo95))
  refine bodyPost_ret (results_cell_row rfl _ _ gb316 63 #[.int .i64 t318, .slice Ao93 t319.length co93, .int .i64 t322, .slice Ao94 t323.length co94, .int .i64 t326, .slice Ao95 t327.length co95] (0, 0) _ rfl (mP BK316) Try.underlying63 rfl (by kernel_rfl)) rfl ?_
  exact ⟨_, _, _, by first | rfl | (simp [errW_none, errW_some] <;> rfl) | (simp [*, errW_none, errW_some] <;> rfl), by (with_reducible repeat (first | apply Kd.R_alloc | apply Kd.R_drewN | apply Kd.R_drew)); exact Kd.R_mono (RF (RF (RF (RF (RF (RF (Kd.R_types HO321.out BK316.out (by decide)))))))) (fun _ hk => ⟨hk.1.1, hk.1.2⟩), by (with_reducible repeat (first | apply Kd.R_alloc | apply Kd.R_drewN | apply Kd.R_drew)); exact Kd.R_mono (RF (RF (RF (RF (RF (RF (Kd.R_types HO325.out BK316.out (by decide)))))))) (fun _ hk => ⟨hk.1.1, hk.1.2⟩), by (with_reducible repeat (first | apply Kd.R_alloc | apply Kd.R_drewN | apply Kd.R_drew)); exact Kd.R_mono (RF (RF (RF (RF (RF (RF (Kd.R_types HO329.out BK316.out (by decide)))))))) (fun _ hk => ⟨hk.1.1, hk.1.2⟩), bel HB⟩

end Go.Proofs.Ytgfoifkkffffgab.PFnWires
