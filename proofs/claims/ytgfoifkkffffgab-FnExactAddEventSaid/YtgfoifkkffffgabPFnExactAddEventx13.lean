-- Laid by a turned copy of the printer (wip/tools/patch_print.py)
import Derived.Test.YtgfoifkkffffgabPFnExactAddEventx0
import Derived.Test.YtgfoifkkffffgabPFnExactAddEventx11
import Derived.Test.YtgfoifkkffffgabPFnExactAddEventx12
namespace Go.Proofs.Ytgfoifkkffffgab.PFnExactAddEvent
open Go.RowKit Go.Proofs.YtgfoifkkffffgabW.PrintWords Go.Proofs.YtgfoifkkffffgabW.PrintLast Go.Proofs.YtgfoifkkffffgabW.PrintMore
attribute [local go_sem] max2_int min2_int max_two min_two max_three min_three max_four min_four   -- for this text's walks alone
set_option linter.unusedVariables false
set_option linter.unusedSimpArgs false

/-! ### laws_heldNodeResult: function 21 -/
def laws_heldNodeResult.f (k : Nat) (a0_0 : Int) (a0_1 : Int) (a0_2 : Bool) (a0_3 : Int) (a0_4 : Int) (l0_5 : List (S55)) (a0_6 : Int) (a0_7 : Int) (a0_8 : Int) (a0_9 : Int) (l0_10 : List (S57)) (a1 : Int) : Option (Int) := (laws_heldNode.f k a0_1 a0_2 a0_3 a0_4 l0_5 a0_6 a0_7 a0_8 a0_9 a1).bind fun t413 => (if t413 < 0 then (some (-1)) else ((laws_heldMailS.f k l0_10 t413).bind fun t414 => (if t414 < 0 then (some (-1)) else (some t414))))
theorem laws_heldNodeResult.mono : ∀ a0 a1 a2 a3 a4 a5 a6 a7 a8 a9 a10 a11 k, LeO (laws_heldNodeResult.f k a0 a1 a2 a3 a4 a5 a6 a7 a8 a9 a10 a11) (laws_heldNodeResult.f (k + 1) a0 a1 a2 a3 a4 a5 a6 a7 a8 a9 a10 a11) := by
 intro a0 a1 a2 a3 a4 a5 a6 a7 a8 a9 a10 a11 k
 unfold laws_heldNodeResult.f
 repeat' first
   | (with_reducible exact laws_heldMailS.mono _ _ _)
   | (with_reducible exact laws_heldNode.mono _ _ _ _ _ _ _ _ _ _ _)
   | (with_reducible exact LeO.refl _)
   | (with_reducible exact LeO.none _)
   | (with_reducible refine LeO.ite ?_ ?_)
   | (with_reducible refine LeO.bind ?_ (fun _ => ?_))
   | exact laws_heldMailS.mono _ _ _
   | exact laws_heldNode.mono _ _ _ _ _ _ _ _ _ _ _
   | exact LeO.none _
   | refine LeO.ite ?_ ?_
   | refine LeO.bind ?_ (fun _ => ?_)
set_option maxHeartbeats 8000000 in
set_option maxRecDepth 100000 in
theorem laws_heldNodeResult.calls (k : Nat) (a0_0 : Int) (a0_1 : Int) (a0_2 : Bool) (a0_3 : Int) (a0_4 : Int) (A0_5 : Option Addr) (c0_5 : Nat) (l0_5 : List (S55)) (a0_6 : Int) (a0_7 : Int) (a0_8 : Int) (a0_9 : Int) (A0_10 : Option Addr) (c0_10 : Nat) (l0_10 : List (S57)) (a1 : Int) (r : Int) (w : World) (hr0_5 : Kd.C k55 w A0_5 l0_5.length l0_5) (hc0_5 : l0_5.length ≤ c0_5) (hr0_10 : Kd.C k57 w A0_10 l0_10.length l0_10) (hc0_10 : l0_10.length ≤ c0_10) (h : laws_heldNodeResult.f k a0_0 a0_1 a0_2 a0_3 a0_4 l0_5 a0_6 a0_7 a0_8 a0_9 l0_10 a1 = some r) :
  Calls Try.prog 21 #[.agg #[.int .i64 a0_0, .int .i64 a0_1, .bool a0_2, .int .i64 a0_3, .int .i64 a0_4, .slice A0_5 l0_5.length c0_5, .int .i64 a0_6, .int .i64 a0_7, .int .i64 a0_8, .int .i64 a0_9, .slice A0_10 l0_10.length c0_10], .int .i64 a1] w fun e w' => e = .returned (.int .i64 r) ∧ Below w.heap.size w w' := by
 have hu35 := Try.underlying35
 have hu32 := Try.underlying32
 have HR0_5 := Aside0.mk hr0_5
 have HC0_5 := Aside0.mk hc0_5
 clear hr0_5 hc0_5
 have HR0_10 := Aside0.mk hr0_10
 have HC0_10 := Aside0.mk hc0_10
 clear hr0_10 hc0_10
 have HB := am (Below.refl w.heap.size w)
 have H : ((laws_heldNode.f k a0_1 a0_2 a0_3 a0_4 l0_5 a0_6 a0_7 a0_8 a0_9 a1).bind fun t413 => (if t413 < 0 then (some (-1)) else ((laws_heldMailS.f k l0_10 t413).bind fun t414 => (if t414 < 0 then (some (-1)) else (some t414))))) = some r := h
 clear h
 replace H := Option.bind_eq_some_iff.mp H
 obtain ⟨t413, A30, H⟩ := H
 replace H : (if t413 < 0 then (some (-1)) else ((laws_heldMailS.f k l0_10 t413).bind fun t414 => (if t414 < 0 then (some (-1)) else (some t414)))) = some r := H
 have A3 := Aside0.mk A30
 clear A30
 by_cases c4 : t413 < 0
 ·
  rw [if_pos c4] at H
  have c4b0 : decide (t413 < 0) = true := decide_eq_true c4
  clear c4
  obtain rfl := Option.some.inj H
  go_enter Try.func21, Try.ntmps21
  go_wp2_with (first | ((with_reducible refine gate_dst (N := 2) rfl ?_); refine boxE #[.int .i64 a0_0, .int .i64 a0_1, .bool a0_2, .int .i64 a0_3, .int .i64 a0_4, .slice A0_5 l0_5.length c0_5, .int .i64 a0_6, .int .i64 a0_7, .int .i64 a0_8, .int .i64 a0_9, .slice A0_10 l0_10.length c0_10] 35 (N := 2) rfl rfl ?_; intro gb412 hg w5 hbox hb; have BK412 := Aside0.mk hbox; have GW412 := gZ HB hg; have GE412 := gZ HB hg; replace HB := bS HB hb; clear hb hbox hg; have hz6 := cl11 BK412) | ((with_reducible refine gate_callee (f := 70) rfl ?_); refine goA (some 8) rfl rfl Try.func70 rfl #[.agg #[.int .i64 a0_1, .bool a0_2, .int .i64 a0_3, .int .i64 a0_4, .slice A0_5 l0_5.length c0_5, .int .i64 a0_6, .int .i64 a0_7, .int .i64 a0_8, .int .i64 a0_9], .int .i64 a1] rfl ?_; (with_reducible refine (laws_heldNode.calls k a0_1 a0_2 a0_3 a0_4 _ _ l0_5 a0_6 a0_7 a0_8 a0_9 a1 t413 _ ?side1 ?side2 A3.out).mono ?_); (case side1 => exact mC HR0_5 HB); (case side2 => exact HC0_5.out); rintro e w7 ⟨rfl, hb⟩; refine ⟨_, rfl, ?_⟩; replace BK412 := bK BK412 hb; replace HB := bS HB hb; (try clear hb); (try clear hb2); (try clear hk); (try clear hi)))
  go_ret
  exact ⟨by first | rfl | (simp [errW_none, errW_some] <;> rfl) | (simp [*, errW_none, errW_some] <;> rfl), bel HB⟩
 rw [if_neg c4] at H
 have c4b0 : decide (t413 < 0) = false := decide_eq_false c4
 clear c4
 replace H := Option.bind_eq_some_iff.mp H
 obtain ⟨t414, A80, H⟩ := H
 replace H : (if t414 < 0 then (some (-1)) else (some t414)) = some r := H
 have A8 := Aside0.mk A80
 clear A80
 by_cases c9 : t414 < 0
 ·
  rw [if_pos c9] at H
  have c9b0 : decide (t414 < 0) = true := decide_eq_true c9
  clear c9
  obtain rfl := Option.some.inj H
  go_enter Try.func21, Try.ntmps21
  go_wp2_with (first | ((with_reducible refine gate_dst (N := 2) rfl ?_); refine boxE #[.int .i64 a0_0, .int .i64 a0_1, .bool a0_2, .int .i64 a0_3, .int .i64 a0_4, .slice A0_5 l0_5.length c0_5, .int .i64 a0_6, .int .i64 a0_7, .int .i64 a0_8, .int .i64 a0_9, .slice A0_10 l0_10.length c0_10] 35 (N := 2) rfl rfl ?_; intro gb412 hg w10 hbox hb; have BK412 := Aside0.mk hbox; have GW412 := gZ HB hg; have GE412 := gZ HB hg; replace HB := bS HB hb; clear hb hbox hg; have hz11 := cl11 BK412) | ((with_reducible refine gate_callee (f := 70) rfl ?_); refine goA (some 8) rfl rfl Try.func70 rfl #[.agg #[.int .i64 a0_1, .bool a0_2, .int .i64 a0_3, .int .i64 a0_4, .slice A0_5 l0_5.length c0_5, .int .i64 a0_6, .int .i64 a0_7, .int .i64 a0_8, .int .i64 a0_9], .int .i64 a1] rfl ?_; (with_reducible refine (laws_heldNode.calls k a0_1 a0_2 a0_3 a0_4 _ _ l0_5 a0_6 a0_7 a0_8 a0_9 a1 t413 _ ?side1 ?side2 A3.out).mono ?_); (case side1 => exact mC HR0_5 HB); (case side2 => exact HC0_5.out); rintro e w12 ⟨rfl, hb⟩; refine ⟨_, rfl, ?_⟩; replace BK412 := bK BK412 hb; replace HB := bS HB hb; (try clear hb); (try clear hb2); (try clear hk); (try clear hi); have hz13 := cl11 BK412) | ((with_reducible refine gate_callee (f := 71) rfl ?_); refine goA (some 14) rfl rfl Try.func71 rfl #[.slice A0_10 l0_10.length c0_10, .int .i64 t413] rfl ?_; (with_reducible refine (laws_heldMailS.calls k _ _ l0_10 t413 t414 _ ?side1 ?side2 A8.out).mono ?_); (case side1 => exact mC HR0_10 HB); (case side2 => exact HC0_10.out); rintro e w' ⟨rfl, ⟨nd, rfl⟩⟩; refine ⟨_, rfl, ?_⟩))
  go_ret
  exact ⟨by first | rfl | (simp [errW_none, errW_some] <;> rfl) | (simp [*, errW_none, errW_some] <;> rfl), bel HB⟩
 rw [if_neg c9] at H
 have c9b0 : decide (t414 < 0) = false := decide_eq_false c9
 clear c9
 obtain rfl := Option.some.inj H
 go_enter Try.func21, Try.ntmps21
 go_wp2_with (first | ((with_reducible refine gate_dst (N := 2) rfl ?_); refine boxE #[.int .i64 a0_0, .int .i64 a0_1, .bool a0_2, .int .i64 a0_3, .int .i64 a0_4, .slice A0_5 l0_5.length c0_5, .int .i64 a0_6, .int .i64 a0_7, .int .i64 a0_8, .int .i64 a0_9, .slice A0_10 l0_10.length c0_10] 35 (N := 2) rfl rfl ?_; intro gb412 hg w14 hbox hb; have BK412 := Aside0.mk hbox; have GW412 := gZ HB hg; have GE412 := gZ HB hg; replace HB := bS HB hb; clear hb hbox hg; have hz15 := cl11 BK412) | ((with_reducible refine gate_callee (f := 70) rfl ?_); refine goA (some 8) rfl rfl Try.func70 rfl #[.agg #[.int .i64 a0_1, .bool a0_2, .int .i64 a0_3, .int .i64 a0_4, .slice A0_5 l0_5.length c0_5, .int .i64 a0_6, .int .i64 a0_7, .int .i64 a0_8, .int .i64 a0_9], .int .i64 a1] rfl ?_; (with_reducible refine (laws_heldNode.calls k a0_1 a0_2 a0_3 a0_4 _ _ l0_5 a0_6 a0_7 a0_8 a0_9 a1 t413 _ ?side1 ?side2 A3.out).mono ?_); (case side1 => exact mC HR0_5 HB); (case side2 => exact HC0_5.out); rintro e w16 ⟨rfl, hb⟩; refine ⟨_, rfl, ?_⟩; replace BK412 := bK BK412 hb; replace HB := bS HB hb; (try clear hb); (try clear hb2); (try clear hk); (try clear hi); have hz17 := cl11 BK412) | ((with_reducible refine gate_callee (f := 71) rfl ?_); refine goA (some 14) rfl rfl Try.func71 rfl #[.slice A0_10 l0_10.length c0_10, .int .i64 t413] rfl ?_; (with_reducible refine (laws_heldMailS.calls k _ _ l0_10 t413 t414 _ ?side1 ?side2 A8.out).mono ?_); (case side1 => exact mC HR0_10 HB); (case side2 => exact HC0_10.out); rintro e w' ⟨rfl, ⟨nd, rfl⟩⟩; refine ⟨_, rfl, ?_⟩))
 go_ret
 exact ⟨by first | rfl | (simp [errW_none, errW_some] <;> rfl) | (simp [*, errW_none, errW_some] <;> rfl), bel HB⟩

-- NOT PRINTED: function 3 (laws_FnExactAddEvent)

end Go.Proofs.Ytgfoifkkffffgab.PFnExactAddEvent
