-- Laid by a turned copy of the printer (wip/tools/patch_print.py)
import Derived.Test.YtgfoifkkffffgaaPFnExactLeadNodex0
import Derived.Test.YtgfoifkkffffgaaPFnExactLeadNodex4
import Derived.Test.YtgfoifkkffffgaaPFnExactLeadNodex5
namespace Go.Proofs.Ytgfoifkkffffgaa.PFnExactLeadNode
open Go.RowKit Go.Proofs.YtgfoifkkffffgaaW.PrintWords Go.Proofs.YtgfoifkkffffgaaW.PrintLast Go.Proofs.YtgfoifkkffffgaaW.PrintMore
attribute [local go_sem] max2_int min2_int max_two min_two max_three min_three max_four min_four   -- for this text's walks alone
set_option linter.unusedVariables false
set_option linter.unusedSimpArgs false

/-! ### laws_heldNodeResult: function 18 -/
def laws_heldNodeResult.f (k : Nat) (a0_0 : Int) (a0_1 : Int) (a0_2 : Bool) (a0_3 : Int) (a0_4 : Int) (l0_5 : List (S51)) (a0_6 : Int) (a0_7 : Int) (a0_8 : Int) (a0_9 : Int) (l0_10 : List (S53)) (a1 : Int) : Option (Int) := (laws_heldNode.f k a0_1 a0_2 a0_3 a0_4 l0_5 a0_6 a0_7 a0_8 a0_9 a1).bind fun t194 => (if t194 < 0 then (some (-1)) else ((laws_heldMailS.f k l0_10 t194).bind fun t195 => (if t195 < 0 then (some (-1)) else (some t195))))
theorem laws_heldNodeResult.mono : ∀ a0 a1 a2 a3 a4 a5 a6 a7 a8 a9 a10 a11 k, LeO (laws_heldNodeResult.f k a0 a1 a2 a3 a4 a5 a6 a7 a8 a9 a10 a11) (laws_heldNodeResult.f (k + 1) a0 a1 a2 a3 a4 a5 a6 a7 a8 a9 a10 a11) := by
 intro a0 a1 a2 a3 a4 a5 a6 a7 a8 a9 a10 a11 k
 unfold laws_heldNodeResult.f
 repeat' first
   | (with_reducible exact laws_heldMailS.mono _ _ _)
   | (with_reducible exact laws_heldNode.mono _ _ _ _ _ _ _ _ _ _ _)
   | (with_reducible exact LeO.refl _)
   | (with_reducible exact LeO.none _)
   | (with_reducible refine LeO.ite ?_ ?_)
   | (with_reducible refine LeO.bind ?_ (fun _ => ?_))
   | exact laws_heldMailS.mono _ _ _
   | exact laws_heldNode.mono _ _ _ _ _ _ _ _ _ _ _
   | exact LeO.none _
   | refine LeO.ite ?_ ?_
   | refine LeO.bind ?_ (fun _ => ?_)
set_option maxHeartbeats 8000000 in
set_option maxRecDepth 100000 in
theorem laws_heldNodeResult.calls (k : Nat) (a0_0 : Int) (a0_1 : Int) (a0_2 : Bool) (a0_3 : Int) (a0_4 : Int) (A0_5 : Option Addr) (c0_5 : Nat) (l0_5 : List (S51)) (a0_6 : Int) (a0_7 : Int) (a0_8 : Int) (a0_9 : Int) (A0_10 : Option Addr) (c0_10 : Nat) (l0_10 : List (S53)) (a1 : Int) (r : Int) (w : World) (hr0_5 : Kd.C k51 w A0_5 l0_5.length l0_5) (hc0_5 : l0_5.length ≤ c0_5) (hr0_10 : Kd.C k53 w A0_10 l0_10.length l0_10) (hc0_10 : l0_10.length ≤ c0_10) (h : laws_heldNodeResult.f k a0_0 a0_1 a0_2 a0_3 a0_4 l0_5 a0_6 a0_7 a0_8 a0_9 l0_10 a1 = some r) :
  Calls Try.prog 18 #[.agg #[.int .i64 a0_0, .int .i64 a0_1, .bool a0_2, .int .i64 a0_3, .int .i64 a0_4, .slice A0_5 l0_5.length c0_5, .int .i64 a0_6, .int .i64 a0_7, .int .i64 a0_8, .int .i64 a0_9, .slice A0_10 l0_10.length c0_10], .int .i64 a1] w fun e w' => e = .returned (.int .i64 r) ∧ Below w.heap.size w w' := by
 have hu35 := Try.underlying35
 have hu29 := Try.underlying29
 have HR0_5 := Aside0.mk hr0_5
 have HC0_5 := Aside0.mk hc0_5
 clear hr0_5 hc0_5
 have HR0_10 := Aside0.mk hr0_10
 have HC0_10 := Aside0.mk hc0_10
 clear hr0_10 hc0_10
 have HB := Aside0.mk (Below.refl w.heap.size w)
 have H : ((laws_heldNode.f k a0_1 a0_2 a0_3 a0_4 l0_5 a0_6 a0_7 a0_8 a0_9 a1).bind fun t194 => (if t194 < 0 then (some (-1)) else ((laws_heldMailS.f k l0_10 t194).bind fun t195 => (if t195 < 0 then (some (-1)) else (some t195))))) = some r := h
 clear h
 replace H := Option.bind_eq_some_iff.mp H
 obtain ⟨t194, A30, H⟩ := H
 replace H : (if t194 < 0 then (some (-1)) else ((laws_heldMailS.f k l0_10 t194).bind fun t195 => (if t195 < 0 then (some (-1)) else (some t195)))) = some r := H
 have A3 := Aside0.mk A30
 clear A30
 by_cases c4 : t194 < 0
 ·
  rw [if_pos c4] at H
  have c4b0 : decide (t194 < 0) = true := decide_eq_true c4
  clear c4
  obtain rfl := Option.some.inj H
  go_enter Try.func18, Try.ntmps18
  go_wp2_with (first | ((with_reducible refine gate_dst (N := 2) rfl ?_); refine boxE #[.int .i64 a0_0, .int .i64 a0_1, .bool a0_2, .int .i64 a0_3, .int .i64 a0_4, .slice A0_5 l0_5.length c0_5, .int .i64 a0_6, .int .i64 a0_7, .int .i64 a0_8, .int .i64 a0_9, .slice A0_10 l0_10.length c0_10] 35 (N := 2) rfl rfl ?_; intro gb193 hg w5 hbox hb; have BK193 := Aside0.mk hbox; have GW193 := gZ HB hg; have GE193 := gZ HB hg; replace HB := bS HB hb; clear hb hbox hg; have hz6 := cl11 BK193) | ((with_reducible refine gate_callee (f := 43) rfl ?_); refine goA (some 8) rfl rfl Try.func43 rfl #[.agg #[.int .i64 a0_1, .bool a0_2, .int .i64 a0_3, .int .i64 a0_4, .slice A0_5 l0_5.length c0_5, .int .i64 a0_6, .int .i64 a0_7, .int .i64 a0_8, .int .i64 a0_9], .int .i64 a1] rfl ?_; (with_reducible refine (laws_heldNode.calls k a0_1 a0_2 a0_3 a0_4 _ _ l0_5 a0_6 a0_7 a0_8 a0_9 a1 t194 _ ?side1 ?side2 A3.out).mono ?_); (case side1 => exact mC HR0_5 HB); (case side2 => exact HC0_5.out); rintro e w7 ⟨rfl, hb⟩; refine ⟨_, rfl, ?_⟩; replace BK193 := bK BK193 hb; replace HB := bS HB hb; (try clear hb); (try clear hb2); (try clear hk); (try clear hi)))
  go_ret
  exact ⟨by first | rfl | (simp [errW_none, errW_some] <;> rfl) | (simp [*, errW_none, errW_some] <;> rfl), bel HB⟩
 ·
  rw [if_neg c4] at H
  have c4b0 : decide (t194 < 0) = false := decide_eq_false c4
  clear c4
  replace H := Option.bind_eq_some_iff.mp H
  obtain ⟨t195, A80, H⟩ := H
  replace H : (if t195 < 0 then (some (-1)) else (some t195)) = some r := H
  have A8 := Aside0.mk A80
  clear A80
  by_cases c9 : t195 < 0
  ·
   rw [if_pos c9] at H
   have c9b0 : decide (t195 < 0) = true := decide_eq_true c9
   clear c9
   obtain rfl := Option.some.inj H
   go_enter Try.func18, Try.ntmps18
   go_wp2_with (first | ((with_reducible refine gate_dst (N := 2) rfl ?_); refine boxE #[.int .i64 a0_0, .int .i64 a0_1, .bool a0_2, .int .i64 a0_3, .int .i64 a0_4, .slice A0_5 l0_5.length c0_5, .int .i64 a0_6, .int .i64 a0_7, .int .i64 a0_8, .int .i64 a0_9, .slice A0_10 l0_10.length c0_10] 35 (N := 2) rfl rfl ?_; intro gb193 hg w10 hbox hb; have BK193 := Aside0.mk hbox; have GW193 := gZ HB hg; have GE193 := gZ HB hg; replace HB := bS HB hb; clear hb hbox hg; have hz11 := cl11 BK193) | ((with_reducible refine gate_callee (f := 43) rfl ?_); refine goA (some 8) rfl rfl Try.func43 rfl #[.agg #[.int .i64 a0_1, .bool a0_2, .int .i64 a0_3, .int .i64 a0_4, .slice A0_5 l0_5.length c0_5, .int .i64 a0_6, .int .i64 a0_7, .int .i64 a0_8, .int .i64 a0_9], .int .i64 a1] rfl ?_; (with_reducible refine (laws_heldNode.calls k a0_1 a0_2 a0_3 a0_4 _ _ l0_5 a0_6 a0_7 a0_8 a0_9 a1 t194 _ ?side1 ?side2 A3.out).mono ?_); (case side1 => exact mC HR0_5 HB); (case side2 => exact HC0_5.out); rintro e w12 ⟨rfl, hb⟩; refine ⟨_, rfl, ?_⟩; replace BK193 := bK BK193 hb; replace HB := bS HB hb; (try clear hb); (try clear hb2); (try clear hk); (try clear hi); have hz13 := cl11 BK193) | ((with_reducible refine gate_callee (f := 44) rfl ?_); refine goA (some 14) rfl rfl Try.func44 rfl #[.slice A0_10 l0_10.length c0_10, .int .i64 t194] rfl ?_; (with_reducible refine (laws_heldMailS.calls k _ _ l0_10 t194 t195 _ ?side1 ?side2 A8.out).mono ?_); (case side1 => exact mC HR0_10 HB); (case side2 => exact HC0_10.out); rintro e w' ⟨rfl, ⟨nd, rfl⟩⟩; refine ⟨_, rfl, ?_⟩))
   go_ret
   exact ⟨by first | rfl | (simp [errW_none, errW_some] <;> rfl) | (simp [*, errW_none, errW_some] <;> rfl), bel HB⟩
  ·
   rw [if_neg c9] at H
   have c9b0 : decide (t195 < 0) = false := decide_eq_false c9
   clear c9
   obtain rfl := Option.some.inj H
   go_enter Try.func18, Try.ntmps18
   go_wp2_with (first | ((with_reducible refine gate_dst (N := 2) rfl ?_); refine boxE #[.int .i64 a0_0, .int .i64 a0_1, .bool a0_2, .int .i64 a0_3, .int .i64 a0_4, .slice A0_5 l0_5.length c0_5, .int .i64 a0_6, .int .i64 a0_7, .int .i64 a0_8, .int .i64 a0_9, .slice A0_10 l0_10.length c0_10] 35 (N := 2) rfl rfl ?_; intro gb193 hg w14 hbox hb; have BK193 := Aside0.mk hbox; have GW193 := gZ HB hg; have GE193 := gZ HB hg; replace HB := bS HB hb; clear hb hbox hg; have hz15 := cl11 BK193) | ((with_reducible refine gate_callee (f := 43) rfl ?_); refine goA (some 8) rfl rfl Try.func43 rfl #[.agg #[.int .i64 a0_1, .bool a0_2, .int .i64 a0_3, .int .i64 a0_4, .slice A0_5 l0_5.length c0_5, .int .i64 a0_6, .int .i64 a0_7, .int .i64 a0_8, .int .i64 a0_9], .int .i64 a1] rfl ?_; (with_reducible refine (laws_heldNode.calls k a0_1 a0_2 a0_3 a0_4 _ _ l0_5 a0_6 a0_7 a0_8 a0_9 a1 t194 _ ?side1 ?side2 A3.out).mono ?_); (case side1 => exact mC HR0_5 HB); (case side2 => exact HC0_5.out); rintro e w16 ⟨rfl, hb⟩; refine ⟨_, rfl, ?_⟩; replace BK193 := bK BK193 hb; replace HB := bS HB hb; (try clear hb); (try clear hb2); (try clear hk); (try clear hi); have hz17 := cl11 BK193) | ((with_reducible refine gate_callee (f := 44) rfl ?_); refine goA (some 14) rfl rfl Try.func44 rfl #[.slice A0_10 l0_10.length c0_10, .int .i64 t194] rfl ?_; (with_reducible refine (laws_heldMailS.calls k _ _ l0_10 t194 t195 _ ?side1 ?side2 A8.out).mono ?_); (case side1 => exact mC HR0_10 HB); (case side2 => exact HC0_10.out); rintro e w' ⟨rfl, ⟨nd, rfl⟩⟩; refine ⟨_, rfl, ?_⟩))
   go_ret
   exact ⟨by first | rfl | (simp [errW_none, errW_some] <;> rfl) | (simp [*, errW_none, errW_some] <;> rfl), bel HB⟩

/-! ### spec_l1In: function 39 -/
def spec_l1In.f (a0 : Int) (a1 : Int) (a2 : Int) : Option (Bool) := if a0 ≥ a1 then (some (decide (a0 ≤ a2))) else (some false)
set_option maxHeartbeats 8000000 in
set_option maxRecDepth 100000 in
theorem spec_l1In.calls (a0 : Int) (a1 : Int) (a2 : Int) (r : Bool) (w : World) (h : spec_l1In.f a0 a1 a2 = some r) :
  Calls Try.prog 39 #[.int .i64 a0, .int .i64 a1, .int .i64 a2] w fun e w' => e = .returned (.bool r) ∧ Drawn0 w w' := by
 have H : (if a0 ≥ a1 then (some (decide (a0 ≤ a2))) else (some false)) = some r := h
 clear h
 by_cases c4 : a0 ≥ a1
 ·
  rw [if_pos c4] at H
  have c4b0 : decide (a1 ≤ a0) = true := decide_eq_true c4
  clear c4
  obtain rfl := Option.some.inj H
  go_enter Try.func39, Try.ntmps39
  go_wp2
  go_ret
  exact ⟨by first | rfl | (simp; done) | (simp [*]; done), drw⟩
 ·
  rw [if_neg c4] at H
  have c4b0 : decide (a1 ≤ a0) = false := decide_eq_false c4
  clear c4
  obtain rfl := Option.some.inj H
  go_enter Try.func39, Try.ntmps39
  go_wp2
  go_ret
  exact ⟨by first | rfl | (simp; done) | (simp [*]; done), drw⟩

/-! ### spec_l12Bad: function 40 -/
def spec_l12Bad.f (a0 : Int) : Option (Int × Int × Bool × Int × Int × (List (S51)) × Int × Int × Int × Int × (List (S53))) := some (a0, 0, false, 0, 0, ([] : List (S51)), 0, 0, 0, 0, ([] : List (S53)))
set_option maxHeartbeats 8000000 in
set_option maxRecDepth 100000 in
theorem spec_l12Bad.calls (a0 : Int) (r1 : Int) (r2 : Int) (r3 : Bool) (r4 : Int) (r5 : Int) (r6 : List (S51)) (r7 : Int) (r8 : Int) (r9 : Int) (r10 : Int) (r11 : List (S53)) (w : World) (h : spec_l12Bad.f a0 = some (r1, r2, r3, r4, r5, r6, r7, r8, r9, r10, r11)) :
  Calls Try.prog 40 #[.int .i64 a0] w fun e w' => ∃ v5_ v10_ : Value, e = .returned (.agg #[.int .i64 r1, .int .i64 r2, .bool r3, .int .i64 r4, .int .i64 r5, v5_, .int .i64 r7, .int .i64 r8, .int .i64 r9, .int .i64 r10, v10_]) ∧ Kd.S k51 51 w' w.heap.size (fun _ => True) v5_ r6 ∧ Kd.S k53 53 w' w.heap.size (fun _ => True) v10_ r11 ∧ Below w.heap.size w w' := by
 have hu35 := Try.underlying35
 have hu29 := Try.underlying29
 have HB := Aside0.mk (Below.refl w.heap.size w)
 have H : (some (a0, 0, false, 0, 0, ([] : List (S51)), 0, 0, 0, 0, ([] : List (S53)))) = some (r1, r2, r3, r4, r5, r6, r7, r8, r9, r10, r11) := h
 clear h
 simp only [Option.some.injEq, Prod.mk.injEq] at H
 obtain ⟨rfl, rfl, rfl, rfl, rfl, rfl, rfl, rfl, rfl, rfl, rfl⟩ := H
 go_enter Try.func40, Try.ntmps40
 go_wp2_with (first | ((with_reducible refine gate_dst (N := 2) rfl ?_); refine boxE #[.int .i64 0, .int .i64 0, .bool false, .int .i64 0, .int .i64 0, .slice none 0 0, .int .i64 0, .int .i64 0, .int .i64 0, .int .i64 0, .slice none 0 0] 35 (N := 2) rfl rfl ?_; intro gb196 hg w2 hbox hb; have BK196 := Aside0.mk hbox; have GW196 := gZ HB hg; have GE196 := gZ HB hg; replace HB := bS HB hb; clear hb hbox hg; have hz3 := cl11 BK196))
 refine bodyPost_ret (results_cell_row rfl _ _ gb196 35 #[.int .i64 a0, .int .i64 0, .bool false, .int .i64 0, .int .i64 0, .slice none 0 0, .int .i64 0, .int .i64 0, .int .i64 0, .int .i64 0, .slice none 0 0] (0, 0) _ rfl (mP BK196) Try.underlying35 rfl (by kernel_rfl)) rfl ?_
 exact ⟨_, _, by first | rfl | (simp [errW_none, errW_some] <;> rfl) | (simp [*, errW_none, errW_some] <;> rfl), by first | exact Kd.S_nil _ _ _ _ _ | exact Kd.N_nil _ _ _ _ _ | exact Kd.V_nil _ _ _ _ _ | exact Kd.Q_nil _ _ _ _ _ | exact Kd.R_nil _ _ _ _ _, by first | exact Kd.S_nil _ _ _ _ _ | exact Kd.N_nil _ _ _ _ _ | exact Kd.V_nil _ _ _ _ _ | exact Kd.Q_nil _ _ _ _ _ | exact Kd.R_nil _ _ _ _ _, bel HB⟩

/-! ### spec_l12CopyEntry: function 68 -/
def spec_l12CopyEntry.f (a0_0 : Int) (a0_1 : Int) (a0_2 : Int) (l0_3 : List Int) : Option (Int × Int × Int × List Int) := (some (([] : List Int) : List Int)).bind fun y199 => (if y199.length + l0_3.length < 140737488355328 then (some (a0_0, a0_1, a0_2, (y199 ++ l0_3))) else (none))
set_option maxHeartbeats 8000000 in
set_option maxRecDepth 100000 in
theorem spec_l12CopyEntry.calls (a0_0 : Int) (a0_1 : Int) (a0_2 : Int) (A0_3 : Option Addr) (c0_3 : Nat) (l0_3 : List Int) (r1 : Int) (r2 : Int) (r3 : Int) (r4 : List Int) (w : World) (hr0_3 : Kd.C (Kd.int .u8) w A0_3 l0_3.length l0_3) (hc0_3 : l0_3.length ≤ c0_3) (h : spec_l12CopyEntry.f a0_0 a0_1 a0_2 l0_3 = some (r1, r2, r3, r4)) :
  Calls Try.prog 68 #[.agg #[.int .i64 a0_0, .int .i64 a0_1, .int .i64 a0_2, .slice A0_3 l0_3.length c0_3]] w fun e w' => ∃ v3_ : Value, e = .returned (.agg #[.int .i64 r1, .int .i64 r2, .int .i64 r3, v3_]) ∧ Kd.R (Kd.int .u8) 5 w' w.heap.size (fun _ => True) v3_ r4 ∧ Below w.heap.size w w' := by
 have hu51 := Try.underlying51
 have hu49 := Try.underlying49
 have HR0_3 := Aside0.mk hr0_3
 have HC0_3 := Aside0.mk hc0_3
 clear hr0_3 hc0_3
 have HB := Aside0.mk (Below.refl w.heap.size w)
 have H : ((some (([] : List Int) : List Int)).bind fun y199 => (if y199.length + l0_3.length < 140737488355328 then (some (a0_0, a0_1, a0_2, (y199 ++ l0_3))) else (none))) = some (r1, r2, r3, r4) := h
 clear h
 obtain ⟨y199, hy199⟩ : ∃ y_ : List Int, y_ = (([] : List Int)) := ⟨_, rfl⟩
 replace H : (if y199.length + l0_3.length < 140737488355328 then (some (a0_0, a0_1, a0_2, (y199 ++ l0_3))) else (none)) = some (r1, r2, r3, r4) := by first | (rw [hy199]; with_reducible exact H) | (have H2_ := (Option.bind_some _ _).symm.trans H; rw [hy199]; with_reducible exact H2_) | (have H2_ := (Option.bind_some _ _).symm.trans H; with_reducible exact H2_) | with_reducible exact H | (rw [hy199]; exact H) | exact H
 have Ny199 := Aside0.mk hy199
 clear hy199
 by_cases c2 : y199.length + l0_3.length < 140737488355328
 ·
  rw [if_pos c2] at H
  have LMc2 := Aside0.mk c2
  clear c2
  obtain ⟨y202, hy202⟩ : ∃ y_ : List Int, y_ = (y199 ++ l0_3) := ⟨_, rfl⟩
  replace H : (some (a0_0, a0_1, a0_2, y202)) = some (r1, r2, r3, r4) := by first | (rw [hy202]; with_reducible exact H) | (have H2_ := (Option.bind_some _ _).symm.trans H; rw [hy202]; with_reducible exact H2_) | (have H2_ := (Option.bind_some _ _).symm.trans H; with_reducible exact H2_) | with_reducible exact H | (rw [hy202]; exact H) | exact H
  have Ny202 := Aside0.mk hy202
  clear hy202
  simp only [Option.some.injEq, Prod.mk.injEq] at H
  obtain ⟨rfl, rfl, rfl, rfl⟩ := H
  go_enter Try.func68, Try.ntmps68
  go_wp2_with (first | ((with_reducible refine gate_dst (N := 1) rfl ?_); refine boxE #[.int .i64 a0_0, .int .i64 a0_1, .int .i64 a0_2, .slice A0_3 l0_3.length c0_3] 51 (N := 1) rfl rfl ?_; intro gb197 hg w3 hbox hb; have BK197 := Aside0.mk hbox; have GW197 := gZ HB hg; have GE197 := gZ HB hg; replace HB := bS HB hb; clear hb hbox hg) | ((with_reducible refine gate_dst (N := 2) rfl ?_); refine boxE #[.int .i64 0, .int .i64 0, .int .i64 0, .slice none 0 0] 51 (N := 2) rfl rfl ?_; intro gb198 hg w4 hbox hb; have BK198 := Aside0.mk hbox; have GW198 := gZ HB hg; have GE198 := gZ HB hg; replace HB := bS HB hb; have NB197_198 := nL BK197 hg; have NB198_197 := nG BK197 hg; replace BK197 := bK BK197 hb; clear hb hbox hg) | ((with_reducible refine gate_dst (N := 3) rfl ?_); refine Kd.R_lit (Kd.int .u8) _ 5 ?hg (N := 3) ?hd (xs := ([] : List Int)) (inner := []) (ok := fun _ => True) (okp := fun _ => True) ?hr ?hp (fun _ hk => hk) trivial (Below.refl _ _) (Nat.le_refl _) (by simp) ?_; (case hd => rfl); (case hg => rfl); (case hr => first | (go_simp; done) | (go_simp; rfl)); (case hp => exact (Reps.none _ _)); intro v200 w5 ho6 hb hg_ hnew_; clear hg_ hnew_; (first | rw [← Ny199.out] at ho6 | (simp only [Int.reduceToNat] at ho6; rw [← Ny199.out] at ho6)); have HO201 := Aside0.mk (Kd.R_lower ho6 (below_size (bel HB))); replace BK197 := bK BK197 hb; replace BK198 := bK BK198 hb; replace HB := bS HB hb; clear hb ho6; have hnb7 := NB197_198.out; have hnc7 := NB198_197.out; have hz8 := cl4 BK197) | ((with_reducible refine gate_builtin (b := .append) (xs := #[.tmp 3, .tmp 6]) rfl ?_); at_builtin; refine Kd.R_append_rows (Kd.int .u8) (w0 := w) w.heap.size rfl (.tmp 3) (.tmp 6) 40 5 (.int .u8 0) 1 rfl Try.underlying40 info5 rfl (by decide) (by omega) v200 y199 l0_3 _ _ _ (fun _ => True) (fun _ => False) rfl rfl ?aO ?aR (fun _ _ h => h) (fun _ h => h.elim) ?aF ?aB ?aS ?aL ?_; (case aR => repeat (first | exact (Kd.C_below HR0_3.out HB.out) | (with_reducible refine Kd.C_alloc ?_ _) | (with_reducible refine Kd.C_drewN ?_ _) | (with_reducible refine Kd.C_drew ?_))); (case aB => exact (bel HB)); (case aF => exact (fun _ _ => trivial)); (case aO => exact (mR HO201)); (case aS => exact (below_size (bel HB))); (case aL => have := LMc2.out; omega); intro v203 w9 ho hb hg hat; rw [← Ny202.out] at ho; replace BK197 := Aside0.mk (blk_grown (g := gb197) (o := .cells #[.int .i64 a0_0, .int .i64 a0_1, .int .i64 a0_2, .slice A0_3 l0_3.length c0_3] 51 (0, 0)) (mB BK197) hg (Kd.R_ne HO201.out BK197.out (by decide))); replace BK198 := Aside0.mk (blk_grown (g := gb198) (o := .cells #[.int .i64 0, .int .i64 0, .int .i64 0, .slice none 0 0] 51 (0, 0)) (mB BK198) hg (Kd.R_ne HO201.out BK198.out (by decide))); replace HB := Aside0.mk hb; have HO204 := Aside0.mk ho; clear HO201; clear ho hb hg hat; obtain ⟨Ao10, co10, eo10⟩ := Kd.R_slice HO204.out; subst eo10; have hz11 := cl4 BK197; have hz12 := cl4 BK198))
  refine bodyPost_ret (results_cell_row rfl _ _ gb198 51 #[.int .i64 a0_0, .int .i64 a0_1, .int .i64 a0_2, .slice Ao10 y202.length co10] (0, 0) _ rfl (mP BK198) Try.underlying51 rfl (by kernel_rfl)) rfl ?_
  exact ⟨_, by first | rfl | (simp [errW_none, errW_some] <;> rfl) | (simp [*, errW_none, errW_some] <;> rfl), by (with_reducible repeat (first | apply Kd.R_alloc | apply Kd.R_drewN | apply Kd.R_drew)); exact Kd.R_mono (RF (RF (RF (RF (Kd.R_far (p := ⟨gb197, 3, none⟩) (Kd.R_types (Kd.R_types HO204.out BK197.out (by decide)) BK198.out (by decide)) (fun _ hk => hk.1.2) (.slice Ao10 y202.length co10)))))) (fun _ hk => trivial), bel HB⟩
 ·
  rw [if_neg c2] at H
  exact absurd H (by simp)

/-! ### spec_l12Copy: function 51 -/
def spec_l12Copy.l0 : Nat → List (S51) → Int → Int → Bool → Int → Int → List (S51) → Int → Int → Int → Int → Option (Int × Bool × Int × Int × (List (S51)) × Int × Int × Int × Int)
 | 0, _, _, _, _, _, _, _, _, _, _, _ => none
 | k + 1, x3, x4, x206000, x206001, x206002, x206003, x206004, x206005, x206006, x206007, x206008 => if x4 < (x206004.length : Int) then (if 0 ≤ x4 then ((spec_l12CopyEntry.f ((rd_T51 x206004 x4).f0) ((rd_T51 x206004 x4).f1.f0) ((rd_T51 x206004 x4).f1.f1) ((rd_T51 x206004 x4).f1.f2)).bind fun bt211 => (if x3.length < 2932031007402 then (spec_l12Copy.l0 k (x3 ++ [(⟨bt211.1, (⟨bt211.2.1, bt211.2.2.1, bt211.2.2.2⟩ : S49)⟩ : S51)]) (wrap64 (x4 + 1)) x206000 x206001 x206002 x206003 x206004 x206005 x206006 x206007 x206008) else (none))) else (none)) else (some (x206000, x206001, x206002, x206003, x3, x206005, x206006, x206007, x206008))
def spec_l12Copy.f (k : Nat) (a0_0 : Int) (a0_1 : Bool) (a0_2 : Int) (a0_3 : Int) (l0_4 : List (S51)) (a0_5 : Int) (a0_6 : Int) (a0_7 : Int) (a0_8 : Int) : Option (Int × Bool × Int × Int × (List (S51)) × Int × Int × Int × Int) := spec_l12Copy.l0 k (([] : List (S51))) 0 a0_0 a0_1 a0_2 a0_3 l0_4 a0_5 a0_6 a0_7 a0_8
theorem spec_l12Copy.mono_l : ∀ k, (∀ y0 y1 y2 y3 y4 y5 y6 y7 y8 y9 y10, LeO (spec_l12Copy.l0 k y0 y1 y2 y3 y4 y5 y6 y7 y8 y9 y10) (spec_l12Copy.l0 (k + 1) y0 y1 y2 y3 y4 y5 y6 y7 y8 y9 y10))
 | 0 => fun _ _ _ _ _ _ _ _ _ _ _ r h => by simp [spec_l12Copy.l0] at h
 | k + 1 => by
  have ih0 := spec_l12Copy.mono_l k
  ·
   intro y0 y1 y2 y3 y4 y5 y6 y7 y8 y9 y10
   unfold spec_l12Copy.l0
   repeat' first
   | (with_reducible exact ih0 _ _ _ _ _ _ _ _ _ _ _)
   | (with_reducible exact LeO.refl _)
   | (with_reducible exact LeO.none _)
   | (with_reducible refine LeO.ite ?_ ?_)
   | (with_reducible refine LeO.bind ?_ (fun _ => ?_))
   | exact ih0 _ _ _ _ _ _ _ _ _ _ _
   | exact LeO.none _
   | refine LeO.ite ?_ ?_
   | refine LeO.bind ?_ (fun _ => ?_)
theorem spec_l12Copy.mono : ∀ a0 a1 a2 a3 a4 a5 a6 a7 a8 k, LeO (spec_l12Copy.f k a0 a1 a2 a3 a4 a5 a6 a7 a8) (spec_l12Copy.f (k + 1) a0 a1 a2 a3 a4 a5 a6 a7 a8) := by
 intro a0 a1 a2 a3 a4 a5 a6 a7 a8 k
 have ih0 := spec_l12Copy.mono_l k
 unfold spec_l12Copy.f
 repeat' first
   | (with_reducible exact ih0 _ _ _ _ _ _ _ _ _ _ _)
   | (with_reducible exact LeO.refl _)
   | (with_reducible exact LeO.none _)
   | (with_reducible refine LeO.ite ?_ ?_)
   | (with_reducible refine LeO.bind ?_ (fun _ => ?_))
   | exact ih0 _ _ _ _ _ _ _ _ _ _ _
   | exact LeO.none _
   | refine LeO.ite ?_ ?_
   | refine LeO.bind ?_ (fun _ => ?_)
set_option maxHeartbeats 8000000 in
set_option maxRecDepth 100000 in
theorem spec_l12Copy.calls (k : Nat) (a0_0 : Int) (a0_1 : Bool) (a0_2 : Int) (a0_3 : Int) (A0_4 : Option Addr) (c0_4 : Nat) (l0_4 : List (S51)) (a0_5 : Int) (a0_6 : Int) (a0_7 : Int) (a0_8 : Int) (r1 : Int) (r2 : Bool) (r3 : Int) (r4 : Int) (r5 : List (S51)) (r6 : Int) (r7 : Int) (r8 : Int) (r9 : Int) (w : World) (hr0_4 : Kd.C k51 w A0_4 l0_4.length l0_4) (hc0_4 : l0_4.length ≤ c0_4) (h : spec_l12Copy.f k a0_0 a0_1 a0_2 a0_3 l0_4 a0_5 a0_6 a0_7 a0_8 = some (r1, r2, r3, r4, r5, r6, r7, r8, r9)) :
  Calls Try.prog 51 #[.agg #[.int .i64 a0_0, .bool a0_1, .int .i64 a0_2, .int .i64 a0_3, .slice A0_4 l0_4.length c0_4, .int .i64 a0_5, .int .i64 a0_6, .int .i64 a0_7, .int .i64 a0_8]] w fun e w' => ∃ v4_ : Value, e = .returned (.agg #[.int .i64 r1, .bool r2, .int .i64 r3, .int .i64 r4, v4_, .int .i64 r6, .int .i64 r7, .int .i64 r8, .int .i64 r9]) ∧ Kd.S k51 51 w' w.heap.size (fun _ => True) v4_ r5 ∧ Below w.heap.size w w' := by
 have hu29 := Try.underlying29
 have hu51 := Try.underlying51
 have hu49 := Try.underlying49
 have HR0_4 := Aside0.mk hr0_4
 have HC0_4 := Aside0.mk hc0_4
 clear hr0_4 hc0_4
 have HB := Aside0.mk (Below.refl w.heap.size w)
 have H : (spec_l12Copy.l0 k (([] : List (S51))) 0 a0_0 a0_1 a0_2 a0_3 l0_4 a0_5 a0_6 a0_7 a0_8) = some (r1, r2, r3, r4, r5, r6, r7, r8, r9) := h
 clear h
 obtain ⟨y207, hy207⟩ : ∃ y_ : List (S51), y_ = (([] : List (S51))) := ⟨_, rfl⟩
 replace H : (spec_l12Copy.l0 k y207 0 a0_0 a0_1 a0_2 a0_3 l0_4 a0_5 a0_6 a0_7 a0_8) = some (r1, r2, r3, r4, r5, r6, r7, r8, r9) := by first | (rw [hy207]; with_reducible exact H) | (have H2_ := (Option.bind_some _ _).symm.trans H; rw [hy207]; with_reducible exact H2_) | (have H2_ := (Option.bind_some _ _).symm.trans H; with_reducible exact H2_) | with_reducible exact H | (rw [hy207]; exact H) | exact H
 have Ny207 := Aside0.mk hy207
 clear hy207
 have H' := Aside0.mk H
 clear H
 go_enter Try.func51, Try.ntmps51
 go_wp2_with (first | ((with_reducible refine gate_dst (N := 1) rfl ?_); refine boxE #[.int .i64 a0_0, .bool a0_1, .int .i64 a0_2, .int .i64 a0_3, .slice A0_4 l0_4.length c0_4, .int .i64 a0_5, .int .i64 a0_6, .int .i64 a0_7, .int .i64 a0_8] 29 (N := 1) rfl rfl ?_; intro gb205 hg w2 hbox hb; have BK205 := Aside0.mk hbox; have GW205 := gZ HB hg; have GE205 := gZ HB hg; replace HB := bS HB hb; clear hb hbox hg) | ((with_reducible refine gate_dst (N := 2) rfl ?_); refine boxE #[.int .i64 0, .bool false, .int .i64 0, .int .i64 0, .slice none 0 0, .int .i64 0, .int .i64 0, .int .i64 0, .int .i64 0] 29 (N := 2) rfl rfl ?_; intro gb206 hg w3 hbox hb; have BK206 := Aside0.mk hbox; have GW206 := gZ HB hg; have GE206 := gZ HB hg; replace HB := bS HB hb; have NB205_206 := nL BK205 hg; have NB206_205 := nG BK205 hg; replace BK205 := bK BK205 hb; clear hb hbox hg) | ((with_reducible refine gate_dst (N := 5) rfl ?_); refine Kd.S_lit k51 _ 51 ?hg (N := 5) ?hd (xs := ([] : List (S51))) (inner := []) (ok := fun _ => True) (okp := fun _ => True) ?hr ?hp (fun _ hk => hk) trivial (Below.refl _ _) (Nat.le_refl _) (by simp) ?_; (case hd => rfl); (case hg => rfl); (case hr => first | (go_simp; done) | (go_simp; rfl)); (case hp => exact (Reps.none _ _)); intro v208 w4 ho5 hb hg_ hnew_; clear hg_ hnew_; (first | rw [← Ny207.out] at ho5 | (simp only [Int.reduceToNat] at ho5; rw [← Ny207.out] at ho5)); have HO209 := Aside0.mk (Kd.S_lower ho5 (below_size (bel HB))); replace BK205 := bK BK205 hb; replace BK206 := bK BK206 hb; replace HB := bS HB hb; clear hb ho5))
 go_loopg [3, 4] k (fun kq v3 v4 w' => ∃ (x3_1 : List (S51)) (x4_1 : Int), v4 = .int .i64 x4_1 ∧ Aside0 (spec_l12Copy.l0 kq x3_1 x4_1 a0_0 a0_1 a0_2 a0_3 l0_4 a0_5 a0_6 a0_7 a0_8 = some (r1, r2, r3, r4, r5, r6, r7, r8, r9)) ∧ Aside0 (kq ≤ k) ∧ Aside0 (Kd.S k51 51 w' w.heap.size (fun _ => True) v3 x3_1) ∧ Aside0 (w'.heap[gb205]? = some (.cells #[.int .i64 a0_0, .bool a0_1, .int .i64 a0_2, .int .i64 a0_3, (.slice A0_4 l0_4.length c0_4), .int .i64 a0_5, .int .i64 a0_6, .int .i64 a0_7, .int .i64 a0_8] 29 (0, 0))) ∧ Aside0 (w'.heap[gb206]? = some (.cells #[.int .i64 0, .bool false, .int .i64 0, .int .i64 0, (.slice none 0 0), .int .i64 0, .int .i64 0, .int .i64 0, .int .i64 0] 29 (0, 0))) ∧ Aside0 (Below w.heap.size w w'))
 case atStart => exact ⟨(y207), (0), (by first | rfl | (simp; done) | (simp [*]; done)), H', ⟨Nat.le_refl _⟩, ⟨by (with_reducible repeat (first | apply Kd.S_alloc | apply Kd.S_drewN | apply Kd.S_drew)); exact HO209.out⟩, ⟨by (with_reducible repeat (first | refine blk_drewN ?_ _ | refine blk_drew ?_ | refine blk_alloc ?_ _)); exact BK205.out⟩, ⟨by (with_reducible repeat (first | refine blk_drewN ?_ _ | refine blk_drew ?_ | refine blk_alloc ?_ _)); exact BK206.out⟩, ⟨bel HB⟩⟩
 case round =>
  clear H'
  try clear p2
  try clear c5
  obtain ⟨x3_1, x4_1, rfl, HA, HK1, HO_3, BK205, BK206, HB⟩ := hrel
  cases gk with
  | zero => exact absurd HA.out (by simp [spec_l12Copy.l0])
  | succ k1 =>
   have H := HA.out
   clear HA
   simp only [spec_l12Copy.l0] at H
   by_cases c6 : x4_1 < (l0_4.length : Int)
   ·
    rw [if_pos c6] at H
    have c6b0 : decide (x4_1 < (l0_4.length : Int)) = true := decide_eq_true c6
    clear c6
    by_cases c7 : 0 ≤ x4_1
    ·
     rw [if_pos c7] at H
     have c7b0 : decide (0 ≤ x4_1) = true := decide_eq_true c7
     clear c7
     replace H := Option.bind_eq_some_iff.mp H
     obtain ⟨⟨t211, t212, t213, t214⟩, A80, H⟩ := H
     replace H : (if x3_1.length < 2932031007402 then (spec_l12Copy.l0 k1 (x3_1 ++ [(⟨t211, (⟨t212, t213, t214⟩ : S49)⟩ : S51)]) (wrap64 (x4_1 + 1)) a0_0 a0_1 a0_2 a0_3 l0_4 a0_5 a0_6 a0_7 a0_8) else (none)) = some (r1, r2, r3, r4, r5, r6, r7, r8, r9) := H
     have A8 := Aside0.mk A80
     clear A80
     by_cases c9 : x3_1.length < 2932031007402
     ·
      rw [if_pos c9] at H
      have LMc9 := Aside0.mk c9
      clear c9
      obtain ⟨y217, hy217⟩ : ∃ y_ : List (S51), y_ = (x3_1 ++ [(⟨t211, (⟨t212, t213, t214⟩ : S49)⟩ : S51)]) := ⟨_, rfl⟩
      replace H : (spec_l12Copy.l0 k1 y217 (wrap64 (x4_1 + 1)) a0_0 a0_1 a0_2 a0_3 l0_4 a0_5 a0_6 a0_7 a0_8) = some (r1, r2, r3, r4, r5, r6, r7, r8, r9) := by first | (rw [hy217]; with_reducible exact H) | (have H2_ := (Option.bind_some _ _).symm.trans H; rw [hy217]; with_reducible exact H2_) | (have H2_ := (Option.bind_some _ _).symm.trans H; with_reducible exact H2_) | with_reducible exact H | (rw [hy217]; exact H) | exact H
      have Ny217 := Aside0.mk hy217
      clear hy217
      have H' := Aside0.mk H
      clear H
      have hnb10 := NB205_206.out
      have hnc10 := NB206_205.out
      have hz11 := cl9 BK205
      have p210 : 0 ≤ (x4_1 : Int) := of_decide_eq_true (by first | (with_reducible assumption) | assumption)
      have q210 : x4_1 < (l0_4.length : Int) := of_decide_eq_true (by first | (with_reducible assumption) | assumption)
      obtain ⟨ad210, A210_3, c210_3, e210, hx210_0, hx210_1, hx210_2, hx210_3, hl210_3, hi210_3⟩ := at_T51 HR0_4.out x4_1 p210 q210
      cases e210
      replace hx210_0 := (HB.out.cell (World.block_lt_of_cell? w _ hx210_0)).trans hx210_0
      replace hx210_1 := (HB.out.cell (World.block_lt_of_cell? w _ hx210_1)).trans hx210_1
      replace hx210_2 := (HB.out.cell (World.block_lt_of_cell? w _ hx210_2)).trans hx210_2
      replace hx210_3 := (HB.out.cell (World.block_lt_of_cell? w _ hx210_3)).trans hx210_3
      have HR210_3 := Aside0.mk hi210_3
      have HC210_3 := Aside0.mk hl210_3
      clear hi210_3 hl210_3
      replace p210 := eq_true p210
      replace q210 := eq_true q210
      go_wp2_with (first | ((with_reducible refine gate_callee (f := 68) rfl ?_); refine goA (some 19) rfl rfl Try.func68 rfl #[.agg #[.int .i64 ((rd_T51 l0_4 x4_1).f0), .int .i64 ((rd_T51 l0_4 x4_1).f1.f0), .int .i64 ((rd_T51 l0_4 x4_1).f1.f1), .slice A210_3 ((rd_T51 l0_4 x4_1).f1.f2).length c210_3]] rfl ?_; (with_reducible refine (spec_l12CopyEntry.calls ((rd_T51 l0_4 x4_1).f0) ((rd_T51 l0_4 x4_1).f1.f0) ((rd_T51 l0_4 x4_1).f1.f1) _ _ ((rd_T51 l0_4 x4_1).f1.f2) t211 t212 t213 t214 _ ?side1 ?side2 A8.out).mono ?_); (case side1 => exact mC HR210_3 HB); (case side2 => exact HC210_3.out); rintro e w12 ⟨v215, rfl, ho0, hb⟩; refine ⟨_, rfl, ?_⟩; replace HO_3 := Aside0.mk (Kd.S_elder' (mS HO_3) (Kd.R_base ho0) hb); have HO216 := Aside0.mk (Kd.R_lower ho0 (below_size (bel HB))); replace BK205 := bK BK205 hb; replace BK206 := bK BK206 hb; replace HB := bS HB hb; (try clear hb); (try clear hb2); (try clear hk); (try clear hi); (try clear ho0); obtain ⟨Ao14, co14, eo14⟩ := Kd.R_slice HO216.out; subst eo14) | ((with_reducible refine gate_builtin (b := .append) (xs := #[.tmp 13, .tmp 20]) rfl ?_); at_builtin; refine Kd.S_append k51 (w0 := w) w.heap.size rfl (.tmp 13) (.tmp 20) 27 51 (.agg #[(.int .i64 0), (.int .i64 0), (.int .i64 0), (.slice none 0 0)]) 48 rfl Try.underlying27 info51 rfl (by decide) (by omega) u3 x3_1 (⟨t211, (⟨t212, t213, t214⟩ : S49)⟩ : S51) [.int .i64 t211, .int .i64 t212, .int .i64 t213, .slice Ao14 t214.length co14] (fun _ => True) (fun k_ => some k_ = (.slice Ao14 t214.length co14 : Value).ownBlock) rfl rfl ?aP (fun k_ hk_ => ((Kd.R_mono (ok' := fun k_ => ((fun _ => True)) k_ ∧ some k_ ≠ (u3 : Value).ownBlock) (Kd.R_apart' (HO216.out) (Kd.S_typed HO_3.out) (by decide)) (fun k_ hk => ⟨trivial, hk.2⟩))).1 k_ hk_.symm) ?aF ?aO ?aB ?aS ?aL ?_; (case aP => exact k51_mkM _ _ _ (⟨t211, (⟨t212, t213, t214⟩ : S49)⟩ : S51) (Kd.R_mono (Kd.R_tight rfl (Kd.R_mono (ok' := fun k_ => ((fun _ => True)) k_ ∧ some k_ ≠ (u3 : Value).ownBlock) (Kd.R_apart' (HO216.out) (Kd.S_typed HO_3.out) (by decide)) (fun k_ hk => ⟨trivial, hk.2⟩))) (fun _ h_ => h_))); (case aB => exact (bel HB)); (case aF => exact (fun _ _ => trivial)); (case aO => exact (by (with_reducible repeat (first | apply Kd.S_alloc | apply Kd.S_drewN | apply Kd.S_drew)); exact Kd.S_mono HO_3.out (fun k_ hk => ⟨trivial, fun e_ => hk.2 e_⟩))); (case aS => exact (below_size (bel HB))); (case aL => have := LMc9.out; omega); intro v218 w13 ho hb hg hat; rw [← Ny217.out] at ho; replace BK205 := Aside0.mk (blk_grown (g := gb205) (o := .cells #[.int .i64 a0_0, .bool a0_1, .int .i64 a0_2, .int .i64 a0_3, .slice (some ad210) l0_4.length c0_4, .int .i64 a0_5, .int .i64 a0_6, .int .i64 a0_7, .int .i64 a0_8] 29 (0, 0)) (mB BK205) hg (Kd.S_ne HO_3.out BK205.out (by decide))); replace BK206 := Aside0.mk (blk_grown (g := gb206) (o := .cells #[.int .i64 0, .bool false, .int .i64 0, .int .i64 0, .slice none 0 0, .int .i64 0, .int .i64 0, .int .i64 0, .int .i64 0] 29 (0, 0)) (mB BK206) hg (Kd.S_ne HO_3.out BK206.out (by decide))); replace HB := Aside0.mk hb; have HO219 := Aside0.mk ho; clear HO_3 HO216; clear ho hb hg hat))
      go_roundg k1
      case measure => have := HK1.out; omega
      case rel => exact ⟨(y217), (wrap64 (x4_1 + 1)), (by first | rfl | (simp; done) | (simp [*]; done)), H', ⟨by have := HK1.out; omega⟩, ⟨by (with_reducible repeat (first | apply Kd.S_alloc | apply Kd.S_drewN | apply Kd.S_drew)); exact HO219.out⟩, ⟨by (with_reducible repeat (first | refine blk_drewN ?_ _ | refine blk_drew ?_ | refine blk_alloc ?_ _)); exact BK205.out⟩, ⟨by (with_reducible repeat (first | refine blk_drewN ?_ _ | refine blk_drew ?_ | refine blk_alloc ?_ _)); exact BK206.out⟩, ⟨bel HB⟩⟩
     ·
      rw [if_neg c9] at H
      exact absurd H (by simp)
    ·
     rw [if_neg c7] at H
     exact absurd H (by simp)
   ·
    rw [if_neg c6] at H
    have c6b0 : decide (x4_1 < (l0_4.length : Int)) = false := decide_eq_false c6
    clear c6
    simp only [Option.some.injEq, Prod.mk.injEq] at H
    obtain ⟨rfl, rfl, rfl, rfl, rfl, rfl, rfl, rfl, rfl⟩ := H
    have hnb15 := NB205_206.out
    have hnc15 := NB206_205.out
    have hz16 := cl9 BK205
    obtain ⟨Ao17, co17, eo17⟩ := Kd.S_slice HO_3.out
    subst eo17
    have hz18 := cl9 BK206
    go_wp2
    refine bodyPost_ret (results_cell_row rfl _ _ gb206 29 #[.int .i64 a0_0, .bool a0_1, .int .i64 a0_2, .int .i64 a0_3, .slice Ao17 x3_1.length co17, .int .i64 a0_5, .int .i64 a0_6, .int .i64 a0_7, .int .i64 a0_8] (0, 0) _ rfl (mP BK206) Try.underlying29 rfl (by kernel_rfl)) rfl ?_
    exact ⟨_, by first | rfl | (simp [errW_none, errW_some] <;> rfl) | (simp [*, errW_none, errW_some] <;> rfl), by (with_reducible repeat (first | apply Kd.S_alloc | apply Kd.S_drewN | apply Kd.S_drew)); exact Kd.S_mono (Kd.S_far (p := ⟨gb206, 8, none⟩) (Kd.S_far (p := ⟨gb206, 7, none⟩) (Kd.S_far (p := ⟨gb206, 6, none⟩) (Kd.S_far (p := ⟨gb206, 5, none⟩) (Kd.S_far (p := ⟨gb206, 4, none⟩) (Kd.S_far (p := ⟨gb206, 3, none⟩) (Kd.S_far (p := ⟨gb206, 2, none⟩) (Kd.S_far (p := ⟨gb206, 1, none⟩) (Kd.S_far (p := ⟨gb206, 0, none⟩) (Kd.S_far (p := ⟨gb205, 4, none⟩) (Kd.S_types (Kd.S_types HO_3.out BK205.out (by decide)) BK206.out (by decide)) (fun _ hk => hk.1.2) (.slice Ao17 x3_1.length co17)) (fun _ hk => hk.2) (.int .i64 a0_0)) (fun _ hk => hk.2) (.bool a0_1)) (fun _ hk => hk.2) (.int .i64 a0_2)) (fun _ hk => hk.2) (.int .i64 a0_3)) (fun _ hk => hk.2) (.slice Ao17 x3_1.length co17)) (fun _ hk => hk.2) (.int .i64 a0_5)) (fun _ hk => hk.2) (.int .i64 a0_6)) (fun _ hk => hk.2) (.int .i64 a0_7)) (fun _ hk => hk.2) (.int .i64 a0_8)) (fun _ hk => trivial), bel HB⟩

/-! ### spec_l10Epoch: function 63 -/
def spec_l10Epoch.f (a0 : Int) : Option (Bool) := (spec_l1In.f a0 1 1000).bind fun t220 => (some t220)
set_option maxHeartbeats 8000000 in
set_option maxRecDepth 100000 in
theorem spec_l10Epoch.calls (a0 : Int) (r : Bool) (w : World) (h : spec_l10Epoch.f a0 = some r) :
  Calls Try.prog 63 #[.int .i64 a0] w fun e w' => e = .returned (.bool r) ∧ Drawn0 w w' := by
 have H : ((spec_l1In.f a0 1 1000).bind fun t220 => (some t220)) = some r := h
 clear h
 replace H := Option.bind_eq_some_iff.mp H
 obtain ⟨t220, A20, H⟩ := H
 replace H : (some t220) = some r := H
 have A2 := Aside0.mk A20
 clear A20
 obtain rfl := Option.some.inj H
 go_enter Try.func63, Try.ntmps63
 go_wp2_with (first | ((with_reducible refine gate_callee (f := 39) rfl ?_); refine goA (some 4) rfl rfl Try.func39 rfl #[.int .i64 a0, .int .i64 1, .int .i64 1000] rfl ?_; (with_reducible refine (spec_l1In.calls a0 1 1000 t220 _ A2.out).mono ?_); rintro e w' ⟨rfl, ⟨nd, rfl⟩⟩; refine ⟨_, rfl, ?_⟩))
 go_ret
 exact ⟨by first | rfl | (simp; done) | (simp [*]; done), drw⟩

/-! ### spec_l7Peer: function 77 -/
def spec_l7Peer.f (a0 : Int) : Option (Bool) := (spec_l1In.f a0 0 2).bind fun t221 => (some t221)
set_option maxHeartbeats 8000000 in
set_option maxRecDepth 100000 in
theorem spec_l7Peer.calls (a0 : Int) (r : Bool) (w : World) (h : spec_l7Peer.f a0 = some r) :
  Calls Try.prog 77 #[.int .i64 a0] w fun e w' => e = .returned (.bool r) ∧ Drawn0 w w' := by
 have H : ((spec_l1In.f a0 0 2).bind fun t221 => (some t221)) = some r := h
 clear h
 replace H := Option.bind_eq_some_iff.mp H
 obtain ⟨t221, A20, H⟩ := H
 replace H : (some t221) = some r := H
 have A2 := Aside0.mk A20
 clear A20
 obtain rfl := Option.some.inj H
 go_enter Try.func77, Try.ntmps77
 go_wp2_with (first | ((with_reducible refine gate_callee (f := 39) rfl ?_); refine goA (some 4) rfl rfl Try.func39 rfl #[.int .i64 a0, .int .i64 0, .int .i64 2] rfl ?_; (with_reducible refine (spec_l1In.calls a0 0 2 t221 _ A2.out).mono ?_); rintro e w' ⟨rfl, ⟨nd, rfl⟩⟩; refine ⟨_, rfl, ?_⟩))
 go_ret
 exact ⟨by first | rfl | (simp; done) | (simp [*]; done), drw⟩

/-! ### spec_EventFault: function 74 -/
def spec_EventFault.j0 : Nat → Bool → Int → Int → List Int → Option (Int)
 | 0, _, _, _, _ => none
 | k + 1, x20, x223000, x223001, x223002 => if x20 = true then (some 3) else (if ((decide ((x223002.length : Int) > 0)) != (x223000 == 2)) = true then (some 1) else (if (x223002.length : Int) > 60 then (some 2) else (some 0)))
def spec_EventFault.f (k : Nat) (a0_0 : Int) (a0_1 : Int) (l0_2 : List Int) : Option (Int) := (spec_l1In.f a0_0 1 4).bind fun t223 => (if t223 = true then ((spec_l7Peer.f a0_1).bind fun t224 => (if t224 = true then (if a0_0 = 3 then (spec_EventFault.j0 k (a0_1 != 0) a0_0 a0_1 l0_2) else (spec_EventFault.j0 k false a0_0 a0_1 l0_2)) else (spec_EventFault.j0 k true a0_0 a0_1 l0_2))) else (some 1))
theorem spec_EventFault.mono_l : ∀ k, (∀ y0 y1 y2 y3, LeO (spec_EventFault.j0 k y0 y1 y2 y3) (spec_EventFault.j0 (k + 1) y0 y1 y2 y3))
 | 0 => fun _ _ _ _ r h => by simp [spec_EventFault.j0] at h
 | k + 1 => by
  have ih0 := spec_EventFault.mono_l k
  ·
   intro y0 y1 y2 y3
   unfold spec_EventFault.j0
   repeat' first
   | (with_reducible exact ih0 _ _ _ _)
   | (with_reducible exact LeO.refl _)
   | (with_reducible exact LeO.none _)
   | (with_reducible refine LeO.ite ?_ ?_)
   | (with_reducible refine LeO.bind ?_ (fun _ => ?_))
   | exact ih0 _ _ _ _
   | exact LeO.none _
   | refine LeO.ite ?_ ?_
   | refine LeO.bind ?_ (fun _ => ?_)
theorem spec_EventFault.mono : ∀ a0 a1 a2 k, LeO (spec_EventFault.f k a0 a1 a2) (spec_EventFault.f (k + 1) a0 a1 a2) := by
 intro a0 a1 a2 k
 have ih0 := spec_EventFault.mono_l k
 unfold spec_EventFault.f
 repeat' first
   | (with_reducible exact ih0 _ _ _ _)
   | (with_reducible exact LeO.refl _)
   | (with_reducible exact LeO.none _)
   | (with_reducible refine LeO.ite ?_ ?_)
   | (with_reducible refine LeO.bind ?_ (fun _ => ?_))
   | exact ih0 _ _ _ _
   | exact LeO.none _
   | refine LeO.ite ?_ ?_
   | refine LeO.bind ?_ (fun _ => ?_)
set_option maxHeartbeats 8000000 in
set_option maxRecDepth 100000 in
theorem spec_EventFault.calls (k : Nat) (a0_0 : Int) (a0_1 : Int) (A0_2 : Option Addr) (c0_2 : Nat) (l0_2 : List Int) (r : Int) (w : World) (hr0_2 : Kd.C (Kd.int .u8) w A0_2 l0_2.length l0_2) (hc0_2 : l0_2.length ≤ c0_2) (h : spec_EventFault.f k a0_0 a0_1 l0_2 = some r) :
  Calls Try.prog 74 #[.agg #[.int .i64 a0_0, .int .i64 a0_1, .slice A0_2 l0_2.length c0_2]] w fun e w' => e = .returned (.int .i64 r) ∧ Below w.heap.size w w' := by
 have hu49 := Try.underlying49
 have HR0_2 := Aside0.mk hr0_2
 have HC0_2 := Aside0.mk hc0_2
 clear hr0_2 hc0_2
 have HB := Aside0.mk (Below.refl w.heap.size w)
 have H : ((spec_l1In.f a0_0 1 4).bind fun t223 => (if t223 = true then ((spec_l7Peer.f a0_1).bind fun t224 => (if t224 = true then (if a0_0 = 3 then (spec_EventFault.j0 k (a0_1 != 0) a0_0 a0_1 l0_2) else (spec_EventFault.j0 k false a0_0 a0_1 l0_2)) else (spec_EventFault.j0 k true a0_0 a0_1 l0_2))) else (some 1))) = some r := h
 clear h
 replace H := Option.bind_eq_some_iff.mp H
 obtain ⟨t223, A20, H⟩ := H
 replace H : (if t223 = true then ((spec_l7Peer.f a0_1).bind fun t224 => (if t224 = true then (if a0_0 = 3 then (spec_EventFault.j0 k (a0_1 != 0) a0_0 a0_1 l0_2) else (spec_EventFault.j0 k false a0_0 a0_1 l0_2)) else (spec_EventFault.j0 k true a0_0 a0_1 l0_2))) else (some 1)) = some r := H
 have A2 := Aside0.mk A20
 clear A20
 by_cases c3 : t223 = true
 ·
  subst c3
  have H1 : ((spec_l7Peer.f a0_1).bind fun t224 => (if t224 = true then (if a0_0 = 3 then (spec_EventFault.j0 k (a0_1 != 0) a0_0 a0_1 l0_2) else (spec_EventFault.j0 k false a0_0 a0_1 l0_2)) else (spec_EventFault.j0 k true a0_0 a0_1 l0_2))) = some r := by rw [if_pos rfl] at H; first | done | exact H
  clear H
  have H := H1
  clear H1
  have HC4 := Aside0.mk H
  clear H
  go_enter Try.func74, Try.ntmps74
  go_upto_region 3 with (first | ((with_reducible refine gate_dst (N := 1) rfl ?_); refine boxE #[.int .i64 a0_0, .int .i64 a0_1, .slice A0_2 l0_2.length c0_2] 49 (N := 1) rfl rfl ?_; intro gb222 hg w5 hbox hb; have BK222 := Aside0.mk hbox; have GW222 := gZ HB hg; have GE222 := gZ HB hg; replace HB := bS HB hb; clear hb hbox hg; have hz6 := cl3 BK222) | ((with_reducible refine gate_callee (f := 39) rfl ?_); refine goA (some 5) rfl rfl Try.func39 rfl #[.int .i64 a0_0, .int .i64 1, .int .i64 4] rfl ?_; (with_reducible refine (spec_l1In.calls a0_0 1 4 true _ A2.out).mono ?_); rintro e w' ⟨rfl, ⟨nd, rfl⟩⟩; refine ⟨_, rfl, ?_⟩))
  (try simp only [Act.put, List.setIfInBounds_toArray, List.set_cons_zero, List.set_cons_succ])
  go_cut [20] (fun v20 wc => ∃ (kq : Nat) (x20_3 : Bool), v20 = .bool x20_3 ∧ Aside0 (spec_EventFault.j0 kq x20_3 a0_0 a0_1 l0_2 = some r) ∧ Aside0 (kq ≤ k) ∧ Aside0 (wc.heap[gb222]? = some (.cells #[.int .i64 a0_0, .int .i64 a0_1, (.slice A0_2 l0_2.length c0_2)] 49 (0, 0))) ∧ Aside0 (Below w.heap.size w wc))
  case first =>
   have H := HC4.out
   clear HC4
   replace H := Option.bind_eq_some_iff.mp H
   obtain ⟨t224, A70, H⟩ := H
   replace H : (if t224 = true then (if a0_0 = 3 then (spec_EventFault.j0 k (a0_1 != 0) a0_0 a0_1 l0_2) else (spec_EventFault.j0 k false a0_0 a0_1 l0_2)) else (spec_EventFault.j0 k true a0_0 a0_1 l0_2)) = some r := H
   have A7 := Aside0.mk A70
   clear A70
   by_cases c8 : t224 = true
   ·
    subst c8
    have H1 : (if a0_0 = 3 then (spec_EventFault.j0 k (a0_1 != 0) a0_0 a0_1 l0_2) else (spec_EventFault.j0 k false a0_0 a0_1 l0_2)) = some r := by rw [if_pos rfl] at H; first | done | exact H
    clear H
    have H := H1
    clear H1
    by_cases c9 : a0_0 = 3
    ·
     rw [if_pos c9] at H
     have c9b0 : (a0_0 == 3) = true := beq_iff_eq.mpr c9
     have c9b1 : (a0_0 != 3) = false := bne_eq_false_iff_eq.mpr c9
     clear c9
     (first | rw [c9b0] | (simp only [i64_w, i32_w]; rw [c9b0]) | skip)
     have H' := Aside0.mk H
     clear H
     have hz10 := cl3 BK222
     go_wp2_with (first | ((with_reducible refine gate_callee (f := 77) rfl ?_); refine goA (some 9) rfl rfl Try.func77 rfl #[.int .i64 a0_1] rfl ?_; (with_reducible refine (spec_l7Peer.calls a0_1 true _ A7.out).mono ?_); rintro e w' ⟨rfl, ⟨nd, rfl⟩⟩; refine ⟨_, rfl, ?_⟩))
     first | go_meet | (refine Met.intro ?_; go_step; (repeat apply Exists.intro); refine ⟨?rel, ?eqq⟩; (case eqq => (try simp only [c9b0]); rfl))
     case rel => exact ⟨_, ((a0_1 != 0)), (by first | rfl | (simp; done) | (simp [*]; done)), H', ⟨by first | omega | exact Nat.le_refl _⟩, ⟨by (with_reducible repeat (first | refine blk_drewN ?_ _ | refine blk_drew ?_ | refine blk_alloc ?_ _)); exact BK222.out⟩, ⟨bel HB⟩⟩
    ·
     rw [if_neg c9] at H
     have c9b0 : (a0_0 == 3) = false := beq_eq_false_iff_ne.mpr c9
     have c9b1 : (a0_0 != 3) = true := bne_iff_ne.mpr c9
     (first | rw [c9b0] | (simp only [i64_w, i32_w]; rw [c9b0]) | skip)
     have H' := Aside0.mk H
     clear H
     have hz11 := cl3 BK222
     go_wp2_with (first | ((with_reducible refine gate_callee (f := 77) rfl ?_); refine goA (some 9) rfl rfl Try.func77 rfl #[.int .i64 a0_1] rfl ?_; (with_reducible refine (spec_l7Peer.calls a0_1 true _ A7.out).mono ?_); rintro e w' ⟨rfl, ⟨nd, rfl⟩⟩; refine ⟨_, rfl, ?_⟩))
     first | go_meet | (refine Met.intro ?_; go_step; (repeat apply Exists.intro); refine ⟨?rel, ?eqq⟩; (case eqq => (try simp only [c9b0]); rfl))
     case rel => exact ⟨_, (false), (by first | rfl | (simp; done) | (simp [*]; done)), H', ⟨by first | omega | exact Nat.le_refl _⟩, ⟨by (with_reducible repeat (first | refine blk_drewN ?_ _ | refine blk_drew ?_ | refine blk_alloc ?_ _)); exact BK222.out⟩, ⟨bel HB⟩⟩
   ·
    replace c8 := Bool.eq_false_iff.mpr c8
    subst c8
    have H1 : (spec_EventFault.j0 k true a0_0 a0_1 l0_2) = some r := by rw [if_neg (show ¬ (false = true) by decide)] at H; first | done | exact H
    clear H
    have H := H1
    clear H1
    have H' := Aside0.mk H
    clear H
    have hz12 := cl3 BK222
    go_wp2_with (first | ((with_reducible refine gate_callee (f := 77) rfl ?_); refine goA (some 9) rfl rfl Try.func77 rfl #[.int .i64 a0_1] rfl ?_; (with_reducible refine (spec_l7Peer.calls a0_1 false _ A7.out).mono ?_); rintro e w' ⟨rfl, ⟨nd, rfl⟩⟩; refine ⟨_, rfl, ?_⟩))
    go_meet
    case rel => exact ⟨_, (true), (by first | rfl | (simp; done) | (simp [*]; done)), H', ⟨by first | omega | exact Nat.le_refl _⟩, ⟨by (with_reducible repeat (first | refine blk_drewN ?_ _ | refine blk_drew ?_ | refine blk_alloc ?_ _)); exact BK222.out⟩, ⟨bel HB⟩⟩
  case rest =>
   clear HC4
   try clear p2
   try clear c3
   try clear c7
   try clear c8
   try clear c9
   try clear c9b0
   try clear c9b1
   try clear hz10
   try clear hz11
   try clear hz12
   try clear hz6
   obtain ⟨kq, x20_3, rfl, HA, HJ3, BK222, HB⟩ := hcut
   cases kq with
   | zero => exact absurd HA.out (by simp [spec_EventFault.j0])
   | succ kj3 =>
    have H := HA.out
    clear HA
    simp only [spec_EventFault.j0] at H
    by_cases c13 : x20_3 = true
    ·
     subst c13
     have H1 : (some 3) = some r := by rw [if_pos rfl] at H; first | done | exact H
     clear H
     have H := H1
     clear H1
     obtain rfl := Option.some.inj H
     go_wp2
     go_ret
     exact ⟨by first | rfl | (simp [errW_none, errW_some] <;> rfl) | (simp [*, errW_none, errW_some] <;> rfl), bel HB⟩
    ·
     replace c13 := Bool.eq_false_iff.mpr c13
     subst c13
     have H1 : (if ((decide ((l0_2.length : Int) > 0)) != (a0_0 == 2)) = true then (some 1) else (if (l0_2.length : Int) > 60 then (some 2) else (some 0))) = some r := by rw [if_neg (show ¬ (false = true) by decide)] at H; first | done | exact H
     clear H
     have H := H1
     clear H1
     by_cases c14 : ((decide ((l0_2.length : Int) > 0)) != (a0_0 == 2)) = true
     ·
      rw [if_pos c14] at H
      have c14b0 : ((decide ((l0_2.length : Int) > 0)) != (a0_0 == 2)) = true := c14
      (try (have c14b1 : (!((decide (0 < l0_2.length)) == (a0_0 == 2))) = true := by simpa using c14))
      (try (have c14b2 : ((decide (0 < l0_2.length)) == (a0_0 == 2)) = false := by simpa using c14))
      (try (have c14b3 : decide ((decide ((l0_2.length : Int) > 0)) = (a0_0 == 2)) = false := by simpa using c14))
      (try (have c14b4 : ((decide ((l0_2.length : Int) > 0)) == (a0_0 == 2)) = false := by simpa using c14))
      (try (have c14b5 : ¬ ((decide ((l0_2.length : Int) > 0)) = (a0_0 == 2)) := by simpa using c14))
      clear c14
      obtain rfl := Option.some.inj H
      have hz15 := cl3 BK222
      go_wp2
      go_ret
      exact ⟨by first | rfl | (simp [errW_none, errW_some] <;> rfl) | (simp [*, errW_none, errW_some] <;> rfl), bel HB⟩
     ·
      rw [if_neg c14] at H
      have c14b0 : ((decide ((l0_2.length : Int) > 0)) != (a0_0 == 2)) = false := by simpa using c14
      (try (have c14b1 : (!((decide (0 < l0_2.length)) == (a0_0 == 2))) = false := by simpa using c14))
      (try (have c14b2 : ((decide (0 < l0_2.length)) == (a0_0 == 2)) = true := by simpa using c14))
      (try (have c14b3 : decide ((decide ((l0_2.length : Int) > 0)) = (a0_0 == 2)) = true := by simpa using c14))
      (try (have c14b4 : ((decide ((l0_2.length : Int) > 0)) == (a0_0 == 2)) = true := by simpa using c14))
      clear c14
      by_cases c16 : (l0_2.length : Int) > 60
      ·
       rw [if_pos c16] at H
       have c16b0 : decide (60 < (l0_2.length : Int)) = true := decide_eq_true c16
       have c16b1 : decide (60 < l0_2.length) = true := decide_eq_true (by omega)
       clear c16
       obtain rfl := Option.some.inj H
       have hz17 := cl3 BK222
       go_wp2
       go_ret
       exact ⟨by first | rfl | (simp [errW_none, errW_some] <;> rfl) | (simp [*, errW_none, errW_some] <;> rfl), bel HB⟩
      ·
       rw [if_neg c16] at H
       have c16b0 : decide (60 < (l0_2.length : Int)) = false := decide_eq_false c16
       have c16b1 : decide (60 < l0_2.length) = false := decide_eq_false (by omega)
       clear c16
       obtain rfl := Option.some.inj H
       have hz18 := cl3 BK222
       go_wp2
       go_ret
       exact ⟨by first | rfl | (simp [errW_none, errW_some] <;> rfl) | (simp [*, errW_none, errW_some] <;> rfl), bel HB⟩
 ·
  replace c3 := Bool.eq_false_iff.mpr c3
  subst c3
  have H1 : (some 1) = some r := by rw [if_neg (show ¬ (false = true) by decide)] at H; first | done | exact H
  clear H
  have H := H1
  clear H1
  obtain rfl := Option.some.inj H
  go_enter Try.func74, Try.ntmps74
  go_wp2_with (first | ((with_reducible refine gate_dst (N := 1) rfl ?_); refine boxE #[.int .i64 a0_0, .int .i64 a0_1, .slice A0_2 l0_2.length c0_2] 49 (N := 1) rfl rfl ?_; intro gb222 hg w19 hbox hb; have BK222 := Aside0.mk hbox; have GW222 := gZ HB hg; have GE222 := gZ HB hg; replace HB := bS HB hb; clear hb hbox hg; have hz20 := cl3 BK222) | ((with_reducible refine gate_callee (f := 39) rfl ?_); refine goA (some 5) rfl rfl Try.func39 rfl #[.int .i64 a0_0, .int .i64 1, .int .i64 4] rfl ?_; (with_reducible refine (spec_l1In.calls a0_0 1 4 false _ A2.out).mono ?_); rintro e w' ⟨rfl, ⟨nd, rfl⟩⟩; refine ⟨_, rfl, ?_⟩))
  go_ret
  exact ⟨by first | rfl | (simp [errW_none, errW_some] <;> rfl) | (simp [*, errW_none, errW_some] <;> rfl), bel HB⟩

/-! ### spec_EntryFault: function 65 -/
def spec_EntryFault.f (k : Nat) (a0_0 : Int) (a0_1 : Int) (a0_2 : Int) (l0_3 : List Int) : Option (Int) := (spec_l10Epoch.f a0_0).bind fun t226 => (if t226 = true then ((spec_EventFault.f k a0_1 a0_2 l0_3).bind fun t227 => (some t227)) else (some 3))
theorem spec_EntryFault.mono : ∀ a0 a1 a2 a3 k, LeO (spec_EntryFault.f k a0 a1 a2 a3) (spec_EntryFault.f (k + 1) a0 a1 a2 a3) := by
 intro a0 a1 a2 a3 k
 unfold spec_EntryFault.f
 repeat' first
   | (with_reducible exact spec_EventFault.mono _ _ _ _)
   | (with_reducible exact LeO.refl _)
   | (with_reducible exact LeO.none _)
   | (with_reducible refine LeO.ite ?_ ?_)
   | (with_reducible refine LeO.bind ?_ (fun _ => ?_))
   | exact spec_EventFault.mono _ _ _ _
   | exact LeO.none _
   | refine LeO.ite ?_ ?_
   | refine LeO.bind ?_ (fun _ => ?_)
set_option maxHeartbeats 8000000 in
set_option maxRecDepth 100000 in
theorem spec_EntryFault.calls (k : Nat) (a0_0 : Int) (a0_1 : Int) (a0_2 : Int) (A0_3 : Option Addr) (c0_3 : Nat) (l0_3 : List Int) (r : Int) (w : World) (hr0_3 : Kd.C (Kd.int .u8) w A0_3 l0_3.length l0_3) (hc0_3 : l0_3.length ≤ c0_3) (h : spec_EntryFault.f k a0_0 a0_1 a0_2 l0_3 = some r) :
  Calls Try.prog 65 #[.agg #[.int .i64 a0_0, .int .i64 a0_1, .int .i64 a0_2, .slice A0_3 l0_3.length c0_3]] w fun e w' => e = .returned (.int .i64 r) ∧ Below w.heap.size w w' := by
 have hu51 := Try.underlying51
 have hu49 := Try.underlying49
 have HR0_3 := Aside0.mk hr0_3
 have HC0_3 := Aside0.mk hc0_3
 clear hr0_3 hc0_3
 have HB := Aside0.mk (Below.refl w.heap.size w)
 have H : ((spec_l10Epoch.f a0_0).bind fun t226 => (if t226 = true then ((spec_EventFault.f k a0_1 a0_2 l0_3).bind fun t227 => (some t227)) else (some 3))) = some r := h
 clear h
 replace H := Option.bind_eq_some_iff.mp H
 obtain ⟨t226, A20, H⟩ := H
 replace H : (if t226 = true then ((spec_EventFault.f k a0_1 a0_2 l0_3).bind fun t227 => (some t227)) else (some 3)) = some r := H
 have A2 := Aside0.mk A20
 clear A20
 by_cases c3 : t226 = true
 ·
  subst c3
  have H1 : ((spec_EventFault.f k a0_1 a0_2 l0_3).bind fun t227 => (some t227)) = some r := by rw [if_pos rfl] at H; first | done | exact H
  clear H
  have H := H1
  clear H1
  replace H := Option.bind_eq_some_iff.mp H
  obtain ⟨t227, A40, H⟩ := H
  replace H : (some t227) = some r := H
  have A4 := Aside0.mk A40
  clear A40
  obtain rfl := Option.some.inj H
  go_enter Try.func65, Try.ntmps65
  go_wp2_with (first | ((with_reducible refine gate_dst (N := 1) rfl ?_); refine boxE #[.int .i64 a0_0, .int .i64 a0_1, .int .i64 a0_2, .slice A0_3 l0_3.length c0_3] 51 (N := 1) rfl rfl ?_; intro gb225 hg w5 hbox hb; have BK225 := Aside0.mk hbox; have GW225 := gZ HB hg; have GE225 := gZ HB hg; replace HB := bS HB hb; clear hb hbox hg; have hz6 := cl4 BK225) | ((with_reducible refine gate_callee (f := 63) rfl ?_); refine goA (some 5) rfl rfl Try.func63 rfl #[.int .i64 a0_0] rfl ?_; (with_reducible refine (spec_l10Epoch.calls a0_0 true _ A2.out).mono ?_); rintro e w' ⟨rfl, ⟨nd, rfl⟩⟩; refine ⟨_, rfl, ?_⟩) | ((with_reducible refine gate_callee (f := 74) rfl ?_); refine goA (some 9) rfl rfl Try.func74 rfl #[.agg #[.int .i64 a0_1, .int .i64 a0_2, .slice A0_3 l0_3.length c0_3]] rfl ?_; (with_reducible refine (spec_EventFault.calls k a0_1 a0_2 _ _ l0_3 t227 _ ?side1 ?side2 A4.out).mono ?_); (case side1 => repeat (first | exact (Kd.C_below HR0_3.out (bel HB)) | (with_reducible refine Kd.C_alloc ?_ _) | (with_reducible refine Kd.C_drewN ?_ _) | (with_reducible refine Kd.C_drew ?_))); (case side2 => exact HC0_3.out); rintro e w7 ⟨rfl, hb⟩; refine ⟨_, rfl, ?_⟩; replace BK225 := bK BK225 hb; replace HB := bS HB hb; (try clear hb); (try clear hb2); (try clear hk); (try clear hi)))
  go_ret
  exact ⟨by first | rfl | (simp [errW_none, errW_some] <;> rfl) | (simp [*, errW_none, errW_some] <;> rfl), bel HB⟩
 ·
  replace c3 := Bool.eq_false_iff.mpr c3
  subst c3
  have H1 : (some 3) = some r := by rw [if_neg (show ¬ (false = true) by decide)] at H; first | done | exact H
  clear H
  have H := H1
  clear H1
  obtain rfl := Option.some.inj H
  go_enter Try.func65, Try.ntmps65
  go_wp2_with (first | ((with_reducible refine gate_dst (N := 1) rfl ?_); refine boxE #[.int .i64 a0_0, .int .i64 a0_1, .int .i64 a0_2, .slice A0_3 l0_3.length c0_3] 51 (N := 1) rfl rfl ?_; intro gb225 hg w8 hbox hb; have BK225 := Aside0.mk hbox; have GW225 := gZ HB hg; have GE225 := gZ HB hg; replace HB := bS HB hb; clear hb hbox hg; have hz9 := cl4 BK225) | ((with_reducible refine gate_callee (f := 63) rfl ?_); refine goA (some 5) rfl rfl Try.func63 rfl #[.int .i64 a0_0] rfl ?_; (with_reducible refine (spec_l10Epoch.calls a0_0 false _ A2.out).mono ?_); rintro e w' ⟨rfl, ⟨nd, rfl⟩⟩; refine ⟨_, rfl, ?_⟩))
  go_ret
  exact ⟨by first | rfl | (simp [errW_none, errW_some] <;> rfl) | (simp [*, errW_none, errW_some] <;> rfl), bel HB⟩

end Go.Proofs.Ytgfoifkkffffgaa.PFnExactLeadNode
