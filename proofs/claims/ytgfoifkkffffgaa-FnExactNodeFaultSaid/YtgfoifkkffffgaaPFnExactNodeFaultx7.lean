-- Laid by a turned copy of the printer (wip/tools/patch_print.py)
import Derived.Test.YtgfoifkkffffgaaPFnExactNodeFaultx0
import Derived.Test.YtgfoifkkffffgaaPFnExactNodeFaultx1
import Derived.Test.YtgfoifkkffffgaaPFnExactNodeFaultx4
import Derived.Test.YtgfoifkkffffgaaPFnExactNodeFaultx5
import Derived.Test.YtgfoifkkffffgaaPFnExactNodeFaultx6
namespace Go.Proofs.Ytgfoifkkffffgaa.PFnExactNodeFault
open Go.RowKit Go.Proofs.YtgfoifkkffffgaaW.PrintWords Go.Proofs.YtgfoifkkffffgaaW.PrintLast Go.Proofs.YtgfoifkkffffgaaW.PrintMore
attribute [local go_sem] max2_int min2_int max_two min_two max_three min_three max_four min_four   -- for this text's walks alone
set_option linter.unusedVariables false
set_option linter.unusedSimpArgs false

/-! ### laws_FnExactNodeFault: function 3 -/
def laws_FnExactNodeFault.f (k : Nat) (a0_0 : Int) (a0_1 : Bool) (a0_2 : Int) (a0_3 : Int) (l0_4 : List (S44)) (a0_5 : Int) (a0_6 : Int) (a0_7 : Int) (a0_8 : Int) : Option (Bool) := (laws_szNode.f k a0_0 a0_1 a0_2 a0_3 l0_4 a0_5 a0_6 a0_7 a0_8 1048576).bind fun t221 => (if t221 < 0 then (some true) else ((laws_toNode.f k a0_0 a0_1 a0_2 a0_3 l0_4 a0_5 a0_6 a0_7 a0_8).bind fun bt222 => ((spec_NodeFault.f k bt222.1 bt222.2.1 bt222.2.2.1 bt222.2.2.2.1 bt222.2.2.2.2.1 bt222.2.2.2.2.2.1 bt222.2.2.2.2.2.2.1 bt222.2.2.2.2.2.2.2.1 bt222.2.2.2.2.2.2.2.2).bind fun t233 => ((laws_toNode.f k a0_0 a0_1 a0_2 a0_3 l0_4 a0_5 a0_6 a0_7 a0_8).bind fun bt234 => ((impl_NodeFault.f k bt234.1 bt234.2.1 bt234.2.2.1 bt234.2.2.2.1 bt234.2.2.2.2.1 bt234.2.2.2.2.2.1 bt234.2.2.2.2.2.2.1 bt234.2.2.2.2.2.2.2.1 bt234.2.2.2.2.2.2.2.2).bind fun t246 => (if t246 = t233 then ((laws_toNode.f k a0_0 a0_1 a0_2 a0_3 l0_4 a0_5 a0_6 a0_7 a0_8).bind fun bt247 => ((laws_eqNode.f k bt234.1 bt234.2.1 bt234.2.2.1 bt234.2.2.2.1 bt234.2.2.2.2.1 bt234.2.2.2.2.2.1 bt234.2.2.2.2.2.2.1 bt234.2.2.2.2.2.2.2.1 bt234.2.2.2.2.2.2.2.2 bt247.1 bt247.2.1 bt247.2.2.1 bt247.2.2.2.1 bt247.2.2.2.2.1 bt247.2.2.2.2.2.1 bt247.2.2.2.2.2.2.1 bt247.2.2.2.2.2.2.2.1 bt247.2.2.2.2.2.2.2.2).bind fun t258 => (if t258 = true then (some true) else (some false)))) else (some false)))))))
theorem laws_FnExactNodeFault.mono : ∀ a0 a1 a2 a3 a4 a5 a6 a7 a8 k, LeO (laws_FnExactNodeFault.f k a0 a1 a2 a3 a4 a5 a6 a7 a8) (laws_FnExactNodeFault.f (k + 1) a0 a1 a2 a3 a4 a5 a6 a7 a8) := by
 intro a0 a1 a2 a3 a4 a5 a6 a7 a8 k
 unfold laws_FnExactNodeFault.f
 repeat' first
   | (with_reducible exact impl_NodeFault.mono _ _ _ _ _ _ _ _ _ _)
   | (with_reducible exact laws_eqNode.mono _ _ _ _ _ _ _ _ _ _ _ _ _ _ _ _ _ _ _)
   | (with_reducible exact laws_szNode.mono _ _ _ _ _ _ _ _ _ _ _)
   | (with_reducible exact laws_toNode.mono _ _ _ _ _ _ _ _ _ _)
   | (with_reducible exact spec_NodeFault.mono _ _ _ _ _ _ _ _ _ _)
   | (with_reducible exact LeO.refl _)
   | (with_reducible exact LeO.none _)
   | (with_reducible refine LeO.ite ?_ ?_)
   | (with_reducible refine LeO.bind ?_ (fun _ => ?_))
   | exact impl_NodeFault.mono _ _ _ _ _ _ _ _ _ _
   | exact laws_eqNode.mono _ _ _ _ _ _ _ _ _ _ _ _ _ _ _ _ _ _ _
   | exact laws_szNode.mono _ _ _ _ _ _ _ _ _ _ _
   | exact laws_toNode.mono _ _ _ _ _ _ _ _ _ _
   | exact spec_NodeFault.mono _ _ _ _ _ _ _ _ _ _
   | exact LeO.none _
   | refine LeO.ite ?_ ?_
   | refine LeO.bind ?_ (fun _ => ?_)
set_option maxHeartbeats 8000000 in
set_option maxRecDepth 100000 in
theorem laws_FnExactNodeFault.calls (k : Nat) (a0_0 : Int) (a0_1 : Bool) (a0_2 : Int) (a0_3 : Int) (A0_4 : Option Addr) (c0_4 : Nat) (l0_4 : List (S44)) (a0_5 : Int) (a0_6 : Int) (a0_7 : Int) (a0_8 : Int) (w : World) (hr0_4 : Kd.C k44 w A0_4 l0_4.length l0_4) (hc0_4 : l0_4.length ≤ c0_4) (h : laws_FnExactNodeFault.f k a0_0 a0_1 a0_2 a0_3 l0_4 a0_5 a0_6 a0_7 a0_8 = some true) :
  Calls Try.prog 3 #[.agg #[.int .i64 a0_0, .bool a0_1, .int .i64 a0_2, .int .i64 a0_3, .slice A0_4 l0_4.length c0_4, .int .i64 a0_5, .int .i64 a0_6, .int .i64 a0_7, .int .i64 a0_8]] w fun e w' => e = .returned (.bool true) ∧ Below w.heap.size w w' := by
 have hu24 := Try.underlying24
 have hu29 := Try.underlying29
 have HR0_4 := Aside0.mk hr0_4
 have HC0_4 := Aside0.mk hc0_4
 clear hr0_4 hc0_4
 have HB := Aside0.mk (Below.refl w.heap.size w)
 have H : ((laws_szNode.f k a0_0 a0_1 a0_2 a0_3 l0_4 a0_5 a0_6 a0_7 a0_8 1048576).bind fun t221 => (if t221 < 0 then (some true) else ((laws_toNode.f k a0_0 a0_1 a0_2 a0_3 l0_4 a0_5 a0_6 a0_7 a0_8).bind fun bt222 => ((spec_NodeFault.f k bt222.1 bt222.2.1 bt222.2.2.1 bt222.2.2.2.1 bt222.2.2.2.2.1 bt222.2.2.2.2.2.1 bt222.2.2.2.2.2.2.1 bt222.2.2.2.2.2.2.2.1 bt222.2.2.2.2.2.2.2.2).bind fun t233 => ((laws_toNode.f k a0_0 a0_1 a0_2 a0_3 l0_4 a0_5 a0_6 a0_7 a0_8).bind fun bt234 => ((impl_NodeFault.f k bt234.1 bt234.2.1 bt234.2.2.1 bt234.2.2.2.1 bt234.2.2.2.2.1 bt234.2.2.2.2.2.1 bt234.2.2.2.2.2.2.1 bt234.2.2.2.2.2.2.2.1 bt234.2.2.2.2.2.2.2.2).bind fun t246 => (if t246 = t233 then ((laws_toNode.f k a0_0 a0_1 a0_2 a0_3 l0_4 a0_5 a0_6 a0_7 a0_8).bind fun bt247 => ((laws_eqNode.f k bt234.1 bt234.2.1 bt234.2.2.1 bt234.2.2.2.1 bt234.2.2.2.2.1 bt234.2.2.2.2.2.1 bt234.2.2.2.2.2.2.1 bt234.2.2.2.2.2.2.2.1 bt234.2.2.2.2.2.2.2.2 bt247.1 bt247.2.1 bt247.2.2.1 bt247.2.2.2.1 bt247.2.2.2.2.1 bt247.2.2.2.2.2.1 bt247.2.2.2.2.2.2.1 bt247.2.2.2.2.2.2.2.1 bt247.2.2.2.2.2.2.2.2).bind fun t258 => (if t258 = true then (some true) else (some false)))) else (some false)))))))) = some true := h
 clear h
 replace H := Option.bind_eq_some_iff.mp H
 obtain ⟨t221, A20, H⟩ := H
 replace H : (if t221 < 0 then (some true) else ((laws_toNode.f k a0_0 a0_1 a0_2 a0_3 l0_4 a0_5 a0_6 a0_7 a0_8).bind fun bt222 => ((spec_NodeFault.f k bt222.1 bt222.2.1 bt222.2.2.1 bt222.2.2.2.1 bt222.2.2.2.2.1 bt222.2.2.2.2.2.1 bt222.2.2.2.2.2.2.1 bt222.2.2.2.2.2.2.2.1 bt222.2.2.2.2.2.2.2.2).bind fun t233 => ((laws_toNode.f k a0_0 a0_1 a0_2 a0_3 l0_4 a0_5 a0_6 a0_7 a0_8).bind fun bt234 => ((impl_NodeFault.f k bt234.1 bt234.2.1 bt234.2.2.1 bt234.2.2.2.1 bt234.2.2.2.2.1 bt234.2.2.2.2.2.1 bt234.2.2.2.2.2.2.1 bt234.2.2.2.2.2.2.2.1 bt234.2.2.2.2.2.2.2.2).bind fun t246 => (if t246 = t233 then ((laws_toNode.f k a0_0 a0_1 a0_2 a0_3 l0_4 a0_5 a0_6 a0_7 a0_8).bind fun bt247 => ((laws_eqNode.f k bt234.1 bt234.2.1 bt234.2.2.1 bt234.2.2.2.1 bt234.2.2.2.2.1 bt234.2.2.2.2.2.1 bt234.2.2.2.2.2.2.1 bt234.2.2.2.2.2.2.2.1 bt234.2.2.2.2.2.2.2.2 bt247.1 bt247.2.1 bt247.2.2.1 bt247.2.2.2.1 bt247.2.2.2.2.1 bt247.2.2.2.2.2.1 bt247.2.2.2.2.2.2.1 bt247.2.2.2.2.2.2.2.1 bt247.2.2.2.2.2.2.2.2).bind fun t258 => (if t258 = true then (some true) else (some false)))) else (some false))))))) = some true := H
 have A2 := Aside0.mk A20
 clear A20
 by_cases c3 : t221 < 0
 ·
  rw [if_pos c3] at H
  have c3b0 : decide (t221 < 0) = true := decide_eq_true c3
  clear c3
  have HT_ := Option.some.inj H
  clear H
  go_enter Try.func3, Try.ntmps3
  go_wp2_with (first | ((with_reducible refine gate_dst (N := 1) rfl ?_); refine boxE #[.int .i64 a0_0, .bool a0_1, .int .i64 a0_2, .int .i64 a0_3, .slice A0_4 l0_4.length c0_4, .int .i64 a0_5, .int .i64 a0_6, .int .i64 a0_7, .int .i64 a0_8] 24 (N := 1) rfl rfl ?_; intro gb220 hg w4 hbox hb; have BK220 := Aside0.mk hbox; have GW220 := gZ HB hg; have GE220 := gZ HB hg; replace HB := bS HB hb; clear hb hbox hg; have hz5 := cl9 BK220) | ((with_reducible refine gate_callee (f := 9) rfl ?_); refine goA (some 9) rfl rfl Try.func9 rfl #[.agg #[.int .i64 a0_0, .bool a0_1, .int .i64 a0_2, .int .i64 a0_3, .slice A0_4 l0_4.length c0_4, .int .i64 a0_5, .int .i64 a0_6, .int .i64 a0_7, .int .i64 a0_8], .int .i64 1048576] rfl ?_; (with_reducible refine (laws_szNode.calls k a0_0 a0_1 a0_2 a0_3 _ _ l0_4 a0_5 a0_6 a0_7 a0_8 1048576 t221 _ ?side1 ?side2 A2.out).mono ?_); (case side1 => exact mC HR0_4 HB); (case side2 => exact HC0_4.out); rintro e w6 ⟨rfl, hb⟩; refine ⟨_, rfl, ?_⟩; replace BK220 := bK BK220 hb; replace HB := bS HB hb; (try clear hb); (try clear hb2); (try clear hk); (try clear hi)))
  go_ret
  exact ⟨by first | rfl | (simp [errW_none, errW_some] <;> rfl) | (simp [*, errW_none, errW_some] <;> rfl), bel HB⟩
 ·
  rw [if_neg c3] at H
  have c3b0 : decide (t221 < 0) = false := decide_eq_false c3
  clear c3
  replace H := Option.bind_eq_some_iff.mp H
  obtain ⟨⟨t222, t223, t224, t225, t226, t229, t230, t231, t232⟩, A70, H⟩ := H
  replace H : ((spec_NodeFault.f k t222 t223 t224 t225 t226 t229 t230 t231 t232).bind fun t233 => ((laws_toNode.f k a0_0 a0_1 a0_2 a0_3 l0_4 a0_5 a0_6 a0_7 a0_8).bind fun bt234 => ((impl_NodeFault.f k bt234.1 bt234.2.1 bt234.2.2.1 bt234.2.2.2.1 bt234.2.2.2.2.1 bt234.2.2.2.2.2.1 bt234.2.2.2.2.2.2.1 bt234.2.2.2.2.2.2.2.1 bt234.2.2.2.2.2.2.2.2).bind fun t246 => (if t246 = t233 then ((laws_toNode.f k a0_0 a0_1 a0_2 a0_3 l0_4 a0_5 a0_6 a0_7 a0_8).bind fun bt247 => ((laws_eqNode.f k bt234.1 bt234.2.1 bt234.2.2.1 bt234.2.2.2.1 bt234.2.2.2.2.1 bt234.2.2.2.2.2.1 bt234.2.2.2.2.2.2.1 bt234.2.2.2.2.2.2.2.1 bt234.2.2.2.2.2.2.2.2 bt247.1 bt247.2.1 bt247.2.2.1 bt247.2.2.2.1 bt247.2.2.2.2.1 bt247.2.2.2.2.2.1 bt247.2.2.2.2.2.2.1 bt247.2.2.2.2.2.2.2.1 bt247.2.2.2.2.2.2.2.2).bind fun t258 => (if t258 = true then (some true) else (some false)))) else (some false))))) = some true := H
  have A7 := Aside0.mk A70
  clear A70
  replace H := Option.bind_eq_some_iff.mp H
  obtain ⟨t233, A80, H⟩ := H
  replace H : ((laws_toNode.f k a0_0 a0_1 a0_2 a0_3 l0_4 a0_5 a0_6 a0_7 a0_8).bind fun bt234 => ((impl_NodeFault.f k bt234.1 bt234.2.1 bt234.2.2.1 bt234.2.2.2.1 bt234.2.2.2.2.1 bt234.2.2.2.2.2.1 bt234.2.2.2.2.2.2.1 bt234.2.2.2.2.2.2.2.1 bt234.2.2.2.2.2.2.2.2).bind fun t246 => (if t246 = t233 then ((laws_toNode.f k a0_0 a0_1 a0_2 a0_3 l0_4 a0_5 a0_6 a0_7 a0_8).bind fun bt247 => ((laws_eqNode.f k bt234.1 bt234.2.1 bt234.2.2.1 bt234.2.2.2.1 bt234.2.2.2.2.1 bt234.2.2.2.2.2.1 bt234.2.2.2.2.2.2.1 bt234.2.2.2.2.2.2.2.1 bt234.2.2.2.2.2.2.2.2 bt247.1 bt247.2.1 bt247.2.2.1 bt247.2.2.2.1 bt247.2.2.2.2.1 bt247.2.2.2.2.2.1 bt247.2.2.2.2.2.2.1 bt247.2.2.2.2.2.2.2.1 bt247.2.2.2.2.2.2.2.2).bind fun t258 => (if t258 = true then (some true) else (some false)))) else (some false)))) = some true := H
  have A8 := Aside0.mk A80
  clear A80
  replace H := Option.bind_eq_some_iff.mp H
  obtain ⟨⟨t234, t235, t236, t237, t238, t241, t242, t243, t244⟩, A90, H⟩ := H
  replace H : ((impl_NodeFault.f k t234 t235 t236 t237 t238 t241 t242 t243 t244).bind fun t246 => (if t246 = t233 then ((laws_toNode.f k a0_0 a0_1 a0_2 a0_3 l0_4 a0_5 a0_6 a0_7 a0_8).bind fun bt247 => ((laws_eqNode.f k t234 t235 t236 t237 t238 t241 t242 t243 t244 bt247.1 bt247.2.1 bt247.2.2.1 bt247.2.2.2.1 bt247.2.2.2.2.1 bt247.2.2.2.2.2.1 bt247.2.2.2.2.2.2.1 bt247.2.2.2.2.2.2.2.1 bt247.2.2.2.2.2.2.2.2).bind fun t258 => (if t258 = true then (some true) else (some false)))) else (some false))) = some true := H
  have A9 := Aside0.mk A90
  clear A90
  replace H := Option.bind_eq_some_iff.mp H
  obtain ⟨t246, A100, H⟩ := H
  replace H : (if t246 = t233 then ((laws_toNode.f k a0_0 a0_1 a0_2 a0_3 l0_4 a0_5 a0_6 a0_7 a0_8).bind fun bt247 => ((laws_eqNode.f k t234 t235 t236 t237 t238 t241 t242 t243 t244 bt247.1 bt247.2.1 bt247.2.2.1 bt247.2.2.2.1 bt247.2.2.2.2.1 bt247.2.2.2.2.2.1 bt247.2.2.2.2.2.2.1 bt247.2.2.2.2.2.2.2.1 bt247.2.2.2.2.2.2.2.2).bind fun t258 => (if t258 = true then (some true) else (some false)))) else (some false)) = some true := H
  have A10 := Aside0.mk A100
  clear A100
  by_cases c11 : t246 = t233
  ·
   rw [if_pos c11] at H
   have c11b0 : (t246 == t233) = true := beq_iff_eq.mpr c11
   have c11b1 : (t246 != t233) = false := bne_eq_false_iff_eq.mpr c11
   clear c11
   replace H := Option.bind_eq_some_iff.mp H
   obtain ⟨⟨t247, t248, t249, t250, t251, t254, t255, t256, t257⟩, A120, H⟩ := H
   replace H : ((laws_eqNode.f k t234 t235 t236 t237 t238 t241 t242 t243 t244 t247 t248 t249 t250 t251 t254 t255 t256 t257).bind fun t258 => (if t258 = true then (some true) else (some false))) = some true := H
   have A12 := Aside0.mk A120
   clear A120
   replace H := Option.bind_eq_some_iff.mp H
   obtain ⟨t258, A130, H⟩ := H
   replace H : (if t258 = true then (some true) else (some false)) = some true := H
   have A13 := Aside0.mk A130
   clear A130
   by_cases c14 : t258 = true
   ·
    subst c14
    have H1 : (some true) = some true := by rw [if_pos rfl] at H; first | done | exact H
    clear H
    have H := H1
    clear H1
    have HT_ := Option.some.inj H
    clear H
    go_enter Try.func3, Try.ntmps3
    try go_wp2_with (first | ((with_reducible refine gate_dst (N := 1) rfl ?_); refine boxE #[.int .i64 a0_0, .bool a0_1, .int .i64 a0_2, .int .i64 a0_3, .slice A0_4 l0_4.length c0_4, .int .i64 a0_5, .int .i64 a0_6, .int .i64 a0_7, .int .i64 a0_8] 24 (N := 1) rfl rfl ?_; intro gb220 hg w15 hbox hb; have BK220 := Aside0.mk hbox; have GW220 := gZ HB hg; have GE220 := gZ HB hg; replace HB := bS HB hb; clear hb hbox hg; have hz16 := cl9 BK220) | ((with_reducible refine gate_callee (f := 9) rfl ?_); refine goA (some 9) rfl rfl Try.func9 rfl #[.agg #[.int .i64 a0_0, .bool a0_1, .int .i64 a0_2, .int .i64 a0_3, .slice A0_4 l0_4.length c0_4, .int .i64 a0_5, .int .i64 a0_6, .int .i64 a0_7, .int .i64 a0_8], .int .i64 1048576] rfl ?_; (with_reducible refine (laws_szNode.calls k a0_0 a0_1 a0_2 a0_3 _ _ l0_4 a0_5 a0_6 a0_7 a0_8 1048576 t221 _ ?side1 ?side2 A2.out).mono ?_); (case side1 => exact mC HR0_4 HB); (case side2 => exact HC0_4.out); rintro e w17 ⟨rfl, hb⟩; refine ⟨_, rfl, ?_⟩; replace BK220 := bK BK220 hb; replace HB := bS HB hb; (try clear hb); (try clear hb2); (try clear hk); (try clear hi); have hz18 := cl9 BK220) | ((with_reducible refine gate_callee (f := 11) rfl ?_); refine goA (some 13) rfl rfl Try.func11 rfl #[.agg #[.int .i64 a0_0, .bool a0_1, .int .i64 a0_2, .int .i64 a0_3, .slice A0_4 l0_4.length c0_4, .int .i64 a0_5, .int .i64 a0_6, .int .i64 a0_7, .int .i64 a0_8]] rfl ?_; (with_reducible refine (laws_toNode.calls k a0_0 a0_1 a0_2 a0_3 _ _ l0_4 a0_5 a0_6 a0_7 a0_8 t222 t223 t224 t225 t226 t229 t230 t231 t232 _ ?side1 ?side2 A7.out).mono ?_); (case side1 => exact mC HR0_4 HB); (case side2 => exact HC0_4.out); rintro e w19 ⟨v227, rfl, ho0, hb⟩; refine ⟨_, rfl, ?_⟩; have HO228 := Aside0.mk (Kd.S_lower ho0 (below_size (bel HB))); replace BK220 := bK BK220 hb; replace HB := bS HB hb; (try clear hb); (try clear hb2); (try clear hk); (try clear hi); (try clear ho0); obtain ⟨Ao20, co20, eo20⟩ := Kd.S_slice HO228.out; subst eo20) | ((with_reducible refine gate_callee (f := 10) rfl ?_); refine goA (some 14) rfl rfl Try.func10 rfl #[.agg #[.int .i64 t222, .bool t223, .int .i64 t224, .int .i64 t225, .slice Ao20 t226.length co20, .int .i64 t229, .int .i64 t230, .int .i64 t231, .int .i64 t232]] rfl ?_; (with_reducible refine (spec_NodeFault.calls k t222 t223 t224 t225 _ _ t226 t229 t230 t231 t232 t233 _ ?side1 ?side2 A8.out).mono ?_); (case side1 => repeat (first | exact (Kd.S_reads' HO228.out).2.2 | (with_reducible refine Kd.C_alloc ?_ _) | (with_reducible refine Kd.C_drewN ?_ _) | (with_reducible refine Kd.C_drew ?_))); (case side2 => exact (Kd.S_reads' HO228.out).2.1); rintro e w21 ⟨rfl, hb⟩; refine ⟨_, rfl, ?_⟩; replace HO228 := Aside0.mk (Kd.S_below (mS HO228) hb); replace BK220 := bK BK220 hb; replace HB := bS HB hb; (try clear hb); (try clear hb2); (try clear hk); (try clear hi); have hz22 := cl9 BK220) | ((with_reducible refine gate_callee (f := 11) rfl ?_); refine goA (some 16) rfl rfl Try.func11 rfl #[.agg #[.int .i64 a0_0, .bool a0_1, .int .i64 a0_2, .int .i64 a0_3, .slice A0_4 l0_4.length c0_4, .int .i64 a0_5, .int .i64 a0_6, .int .i64 a0_7, .int .i64 a0_8]] rfl ?_; (with_reducible refine (laws_toNode.calls k a0_0 a0_1 a0_2 a0_3 _ _ l0_4 a0_5 a0_6 a0_7 a0_8 t234 t235 t236 t237 t238 t241 t242 t243 t244 _ ?side1 ?side2 A9.out).mono ?_); (case side1 => exact mC HR0_4 HB); (case side2 => exact HC0_4.out); rintro e w23 ⟨v239, rfl, ho0, hb⟩; refine ⟨_, rfl, ?_⟩; have HO240 := Aside0.mk (Kd.S_lower (Kd.S_new' ho0 (Kd.S_lt (mS HO228))) (below_size (bel HB))); replace HO228 := Aside0.mk (Kd.S_elder' (mS HO228) (Kd.S_base ho0) hb); replace BK220 := bK BK220 hb; replace HB := bS HB hb; (try clear hb); (try clear hb2); (try clear hk); (try clear hi); (try clear ho0)) | ((with_reducible refine gate_dst (N := 5) rfl ?_); refine boxE #[.int .i64 0, .bool false, .int .i64 0, .int .i64 0, .slice none 0 0, .int .i64 0, .int .i64 0, .int .i64 0, .int .i64 0] 29 (N := 5) rfl rfl ?_; intro gb245 hg w24 hbox hb; replace HO228 := Aside0.mk (Kd.S_below (mS HO228) hb); replace HO240 := Aside0.mk (Kd.S_below (mS HO240) hb); have BK245 := Aside0.mk hbox; have GW245 := gZ HB hg; have GE245 := gZ HB hg; replace HB := bS HB hb; have NB220_245 := nL BK220 hg; have NB245_220 := nG BK220 hg; replace BK220 := bK BK220 hb; clear hb hbox hg; have hnb25 := NB245_220.out; have hnc25 := NB220_245.out; have hz26 := cl9 BK245; obtain ⟨Ao27, co27, eo27⟩ := Kd.S_slice HO240.out; subst eo27) | ((with_reducible refine gate_callee (f := 12) rfl ?_); refine goA (some 18) rfl rfl Try.func12 rfl #[.agg #[.int .i64 t234, .bool t235, .int .i64 t236, .int .i64 t237, .slice Ao27 t238.length co27, .int .i64 t241, .int .i64 t242, .int .i64 t243, .int .i64 t244]] rfl ?_; (with_reducible refine (impl_NodeFault.calls k t234 t235 t236 t237 _ _ t238 t241 t242 t243 t244 t246 _ ?side1 ?side2 A10.out).mono ?_); (case side1 => refine (Kd.S_reads' (e := 51) (base := w.heap.size) (ok := fun k_ => (True ∧ some k_ ≠ (.slice Ao20 t226.length co20 : Value).ownBlock)) (n := t238.length) (c := co27) ?_).2.2; exact (by (with_reducible repeat (first | apply Kd.S_alloc | apply Kd.S_drewN | apply Kd.S_drew)); exact (Kd.S_mono (Kd.S_far (p := ⟨gb245, 8, none⟩) (Kd.S_far (p := ⟨gb245, 7, none⟩) (Kd.S_far (p := ⟨gb245, 6, none⟩) (Kd.S_far (p := ⟨gb245, 5, none⟩) (Kd.S_far (p := ⟨gb245, 4, none⟩) (Kd.S_far (p := ⟨gb245, 3, none⟩) (Kd.S_far (p := ⟨gb245, 2, none⟩) (Kd.S_far (p := ⟨gb245, 1, none⟩) (Kd.S_far (p := ⟨gb245, 0, none⟩) (Kd.S_types HO240.out BK245.out (by decide)) (fun _ hk => hk.2) (.int .i64 t234)) (fun _ hk => hk.2) (.bool t235)) (fun _ hk => hk.2) (.int .i64 t236)) (fun _ hk => hk.2) (.int .i64 t237)) (fun _ hk => hk.2) (.slice Ao27 t238.length co27)) (fun _ hk => hk.2) (.int .i64 t241)) (fun _ hk => hk.2) (.int .i64 t242)) (fun _ hk => hk.2) (.int .i64 t243)) (fun _ hk => hk.2) (.int .i64 t244)) (fun _ h_ => h_.1)))); (case side2 => exact (Kd.S_reads' HO240.out).2.1); rintro e w28 ⟨rfl, hb⟩; refine ⟨_, rfl, ?_⟩; replace HO228 := Aside0.mk (Kd.S_below (by (with_reducible repeat (first | apply Kd.S_alloc | apply Kd.S_drewN | apply Kd.S_drew)); exact (Kd.S_mono (Kd.S_far (p := ⟨gb245, 8, none⟩) (Kd.S_far (p := ⟨gb245, 7, none⟩) (Kd.S_far (p := ⟨gb245, 6, none⟩) (Kd.S_far (p := ⟨gb245, 5, none⟩) (Kd.S_far (p := ⟨gb245, 4, none⟩) (Kd.S_far (p := ⟨gb245, 3, none⟩) (Kd.S_far (p := ⟨gb245, 2, none⟩) (Kd.S_far (p := ⟨gb245, 1, none⟩) (Kd.S_far (p := ⟨gb245, 0, none⟩) (Kd.S_types HO228.out BK245.out (by decide)) (fun _ hk => hk.2) (.int .i64 t234)) (fun _ hk => hk.2) (.bool t235)) (fun _ hk => hk.2) (.int .i64 t236)) (fun _ hk => hk.2) (.int .i64 t237)) (fun _ hk => hk.2) (.slice Ao27 t238.length co27)) (fun _ hk => hk.2) (.int .i64 t241)) (fun _ hk => hk.2) (.int .i64 t242)) (fun _ hk => hk.2) (.int .i64 t243)) (fun _ hk => hk.2) (.int .i64 t244)) (fun _ h_ => h_.1))) hb); replace HO240 := Aside0.mk (Kd.S_below (by (with_reducible repeat (first | apply Kd.S_alloc | apply Kd.S_drewN | apply Kd.S_drew)); exact (Kd.S_mono (Kd.S_far (p := ⟨gb245, 8, none⟩) (Kd.S_far (p := ⟨gb245, 7, none⟩) (Kd.S_far (p := ⟨gb245, 6, none⟩) (Kd.S_far (p := ⟨gb245, 5, none⟩) (Kd.S_far (p := ⟨gb245, 4, none⟩) (Kd.S_far (p := ⟨gb245, 3, none⟩) (Kd.S_far (p := ⟨gb245, 2, none⟩) (Kd.S_far (p := ⟨gb245, 1, none⟩) (Kd.S_far (p := ⟨gb245, 0, none⟩) (Kd.S_types HO240.out BK245.out (by decide)) (fun _ hk => hk.2) (.int .i64 t234)) (fun _ hk => hk.2) (.bool t235)) (fun _ hk => hk.2) (.int .i64 t236)) (fun _ hk => hk.2) (.int .i64 t237)) (fun _ hk => hk.2) (.slice Ao27 t238.length co27)) (fun _ hk => hk.2) (.int .i64 t241)) (fun _ hk => hk.2) (.int .i64 t242)) (fun _ hk => hk.2) (.int .i64 t243)) (fun _ hk => hk.2) (.int .i64 t244)) (fun _ h_ => h_.1))) hb); replace BK220 := Aside0.mk (blk_below (g := gb220) (o := .cells #[.int .i64 a0_0, .bool a0_1, .int .i64 a0_2, .int .i64 a0_3, .slice A0_4 l0_4.length c0_4, .int .i64 a0_5, .int .i64 a0_6, .int .i64 a0_7, .int .i64 a0_8] 24 (0, 0)) (mP BK220) hb); replace BK245 := Aside0.mk (blk_below (g := gb245) (o := .cells #[.int .i64 t234, .bool t235, .int .i64 t236, .int .i64 t237, .slice Ao27 t238.length co27, .int .i64 t241, .int .i64 t242, .int .i64 t243, .int .i64 t244] 29 (0, 0)) (mP BK245) hb); replace HB := bS HB hb; (try clear hb); (try clear hb2); (try clear hk); (try clear hi)))
    have n0_ := Aside0.mk (Kd.S_drew HO228.out)
    have n1_ := Aside0.mk (Kd.S_drew HO240.out)
    have n2_ := Aside0.mk (blk_drew BK220.out)
    have n3_ := Aside0.mk (blk_drew BK245.out)
    have n4_ := Aside0.mk (below_drew1 HB.out)
    clear HO228
    clear HO240
    clear BK220
    clear BK245
    clear HB
    have HO228 := n0_
    have HO240 := n1_
    have BK220 := n2_
    have BK245 := n3_
    have HB := n4_
    clear n0_ n1_ n2_ n3_ n4_
    refine start_ (n := 5) (S := fun w' => w'.cell? ⟨gb245, 0, none⟩ = some (.int .i64 t234) ∧ w'.cell? ⟨gb245, 1, none⟩ = some (.bool t235) ∧ w'.cell? ⟨gb245, 2, none⟩ = some (.int .i64 t236) ∧ w'.cell? ⟨gb245, 3, none⟩ = some (.int .i64 t237) ∧ w'.cell? ⟨gb245, 4, none⟩ = some (.slice Ao27 t238.length co27) ∧ w'.cell? ⟨gb245, 5, none⟩ = some (.int .i64 t241) ∧ w'.cell? ⟨gb245, 6, none⟩ = some (.int .i64 t242) ∧ w'.cell? ⟨gb245, 7, none⟩ = some (.int .i64 t243) ∧ w'.cell? ⟨gb245, 8, none⟩ = some (.int .i64 t244) ∧ w'.cell? ⟨gb220, 0, none⟩ = some (.int .i64 a0_0) ∧ w'.cell? ⟨gb220, 1, none⟩ = some (.bool a0_1) ∧ w'.cell? ⟨gb220, 2, none⟩ = some (.int .i64 a0_2) ∧ w'.cell? ⟨gb220, 3, none⟩ = some (.int .i64 a0_3) ∧ w'.cell? ⟨gb220, 4, none⟩ = some (.slice A0_4 l0_4.length c0_4) ∧ w'.cell? ⟨gb220, 5, none⟩ = some (.int .i64 a0_5) ∧ w'.cell? ⟨gb220, 6, none⟩ = some (.int .i64 a0_6) ∧ w'.cell? ⟨gb220, 7, none⟩ = some (.int .i64 a0_7) ∧ w'.cell? ⟨gb220, 8, none⟩ = some (.int .i64 a0_8)) (ds := []) #[false, false, false, false, false] (by kernel_rfl) rfl rfl ⟨(blk_cell BK245.out 0).trans rfl, (blk_cell BK245.out 1).trans rfl, (blk_cell BK245.out 2).trans rfl, (blk_cell BK245.out 3).trans rfl, (blk_cell BK245.out 4).trans rfl, (blk_cell BK245.out 5).trans rfl, (blk_cell BK245.out 6).trans rfl, (blk_cell BK245.out 7).trans rfl, (blk_cell BK245.out 8).trans rfl, (blk_cell BK220.out 0).trans rfl, (blk_cell BK220.out 1).trans rfl, (blk_cell BK220.out 2).trans rfl, (blk_cell BK220.out 3).trans rfl, (blk_cell BK220.out 4).trans rfl, (blk_cell BK220.out 5).trans rfl, (blk_cell BK220.out 6).trans rfl, (blk_cell BK220.out 7).trans rfl, (blk_cell BK220.out 8).trans rfl⟩ (fun hHeld => ?_)
    generalize w28.drew = w29 at HO228 HO240 BK220 BK245 HB hHeld ⊢
    refine take_ (i := 0) (N := some 22) (v := ?_) (a' := ?_) #[true, false, false, false, false] rfl rfl (by kernel_rfl) (fun _ _ _ h => h) (Or.inl ⟨by rfl, ?_⟩) hHeld ?_ ?_
    rotate_left
    ·
     rintro w' ⟨s0, s1, s2, s3, s4, s5, s6, s7, s8, s9, s10, s11, s12, s13, s14, s15, s16, s17⟩
     go_simp
     with_reducible rfl
    rotate_left
    ·
     simp only [Act.put, List.setIfInBounds_toArray, List.set_cons_zero, List.set_cons_succ, i64_w, i32_w]
     rfl
    refine take_ (i := 1) (N := some 23) (v := ?_) (a' := ?_) #[true, true, false, false, false] rfl rfl (by kernel_rfl) (fun _ _ _ h => h) (Or.inl ⟨by rfl, ?_⟩) hHeld ?_ ?_
    rotate_left
    ·
     rintro w' ⟨s0, s1, s2, s3, s4, s5, s6, s7, s8, s9, s10, s11, s12, s13, s14, s15, s16, s17⟩
     go_simp
     with_reducible rfl
    rotate_left
    ·
     simp only [Act.put, List.setIfInBounds_toArray, List.set_cons_zero, List.set_cons_succ, i64_w, i32_w]
     rfl
    refine one_ (i := 2) (N := some 24) #[true, true, true, false, false] rfl rfl (by kernel_rfl) (by decide) (fun K hK => ?_)
    refine goes_ Try.func11 (by kernel_rfl) rfl #[.agg #[.int .i64 a0_0, .bool a0_1, .int .i64 a0_2, .int .i64 a0_3, .slice A0_4 l0_4.length c0_4, .int .i64 a0_5, .int .i64 a0_6, .int .i64 a0_7, .int .i64 a0_8]] (by rfl) rfl rfl (by (try simp only [List.map_toArray, List.map_cons, List.map_nil]); first | done | rfl | (simp only [List.length_drop, List.length_take]; rfl)) ?_
    with_reducible refine (laws_toNode.calls k a0_0 a0_1 a0_2 a0_3 _ _ l0_4 a0_5 a0_6 a0_7 a0_8 t247 t248 t249 t250 t251 t254 t255 t256 t257 _ ?side1 ?side2 A12.out).mono ?_
    (case side1 => exact mC HR0_4 HB)
    (case side2 => exact HC0_4.out)
    rintro e w30 ⟨v252, rfl, ho0, hb⟩
    refine ⟨_, rfl, ?_⟩
    have n0_ := Aside0.mk (Kd.S_elder' (mS HO228) (Kd.S_base ho0) hb)
    have n1_ := Aside0.mk (Kd.S_elder' (mS HO240) (Kd.S_base ho0) hb)
    have n2_ := Aside0.mk (Kd.S_lower (Kd.S_new' (Kd.S_new' ho0 (Kd.S_lt (mS HO228))) (Kd.S_lt (mS HO240))) (below_size (bel HB)))
    have n3_ := bK BK220 hb
    have n4_ := bK BK245 hb
    have n5_ := bS HB hb
    clear HO228
    clear HO240
    clear BK220
    clear BK245
    clear HB
    have HO228 := n0_
    have HO240 := n1_
    have HO253 := n2_
    have BK220 := n3_
    have BK245 := n4_
    have HB := n5_
    clear n0_ n1_ n2_ n3_ n4_ n5_
    (try clear hb)
    (try clear hb2)
    (try clear hk)
    (try clear hi)
    (try clear ho0)
    obtain ⟨Ao31, co31, eo31⟩ := Kd.S_slice HO253.out
    (first | subst eo31 | (injection eo31 with f1_ f2_ f3_; have f4_ := f1_.symm; have f5_ := f3_.symm; clear f1_ f2_ f3_; subst f4_; subst f5_))
    refine hK.out _ _ ⟨(blk_cell BK245.out 0).trans rfl, (blk_cell BK245.out 1).trans rfl, (blk_cell BK245.out 2).trans rfl, (blk_cell BK245.out 3).trans rfl, (blk_cell BK245.out 4).trans rfl, (blk_cell BK245.out 5).trans rfl, (blk_cell BK245.out 6).trans rfl, (blk_cell BK245.out 7).trans rfl, (blk_cell BK245.out 8).trans rfl, (blk_cell BK220.out 0).trans rfl, (blk_cell BK220.out 1).trans rfl, (blk_cell BK220.out 2).trans rfl, (blk_cell BK220.out 3).trans rfl, (blk_cell BK220.out 4).trans rfl, (blk_cell BK220.out 5).trans rfl, (blk_cell BK220.out 6).trans rfl, (blk_cell BK220.out 7).trans rfl, (blk_cell BK220.out 8).trans rfl⟩ (fun hHeld => ?_)
    clear hK K
    refine norm_ (a' := ?_) ?_ ?_
    rotate_left
    ·
     show Act.put _ (some 24) _ = _
     simp only [Act.put, List.setIfInBounds_toArray, List.set_cons_zero, List.set_cons_succ, i64_w, i32_w]
     rfl
    refine one_ (i := 3) (N := some 25) #[true, true, true, true, false] rfl rfl (by kernel_rfl) (by decide) (fun K hK => ?_)
    refine goes_ Try.func13 (by kernel_rfl) rfl #[.agg #[.int .i64 t234, .bool t235, .int .i64 t236, .int .i64 t237, .slice Ao27 t238.length co27, .int .i64 t241, .int .i64 t242, .int .i64 t243, .int .i64 t244], .agg #[.int .i64 t247, .bool t248, .int .i64 t249, .int .i64 t250, .slice Ao31 t251.length co31, .int .i64 t254, .int .i64 t255, .int .i64 t256, .int .i64 t257]] (by rfl) rfl rfl (by (try simp only [List.map_toArray, List.map_cons, List.map_nil]); first | done | rfl | (simp only [List.length_drop, List.length_take]; rfl)) ?_
    with_reducible refine (laws_eqNode.calls k t234 t235 t236 t237 _ _ t238 t241 t242 t243 t244 t247 t248 t249 t250 _ _ t251 t254 t255 t256 t257 true _ ?side1 ?side2 ?side3 ?side4 A13.out).mono ?_
    (case side1 => repeat (first | exact (Kd.S_reads' HO240.out).2.2 | (with_reducible refine Kd.C_alloc ?_ _) | (with_reducible refine Kd.C_drewN ?_ _) | (with_reducible refine Kd.C_drew ?_)))
    (case side2 => exact (Kd.S_reads' HO240.out).2.1)
    (case side3 => repeat (first | exact (Kd.S_reads' HO253.out).2.2 | (with_reducible refine Kd.C_alloc ?_ _) | (with_reducible refine Kd.C_drewN ?_ _) | (with_reducible refine Kd.C_drew ?_)))
    (case side4 => exact (Kd.S_reads' HO253.out).2.1)
    rintro e w32 ⟨rfl, hb⟩
    refine ⟨_, rfl, ?_⟩
    have n0_ := Aside0.mk (Kd.S_below (mS HO228) hb)
    have n1_ := Aside0.mk (Kd.S_below (mS HO240) hb)
    have n2_ := Aside0.mk (Kd.S_below (mS HO253) hb)
    have n3_ := bK BK220 hb
    have n4_ := bK BK245 hb
    have n5_ := bS HB hb
    clear HO228
    clear HO240
    clear HO253
    clear BK220
    clear BK245
    clear HB
    have HO228 := n0_
    have HO240 := n1_
    have HO253 := n2_
    have BK220 := n3_
    have BK245 := n4_
    have HB := n5_
    clear n0_ n1_ n2_ n3_ n4_ n5_
    (try clear hb)
    (try clear hb2)
    (try clear hk)
    (try clear hi)
    refine hK.out _ _ ⟨(blk_cell BK245.out 0).trans rfl, (blk_cell BK245.out 1).trans rfl, (blk_cell BK245.out 2).trans rfl, (blk_cell BK245.out 3).trans rfl, (blk_cell BK245.out 4).trans rfl, (blk_cell BK245.out 5).trans rfl, (blk_cell BK245.out 6).trans rfl, (blk_cell BK245.out 7).trans rfl, (blk_cell BK245.out 8).trans rfl, (blk_cell BK220.out 0).trans rfl, (blk_cell BK220.out 1).trans rfl, (blk_cell BK220.out 2).trans rfl, (blk_cell BK220.out 3).trans rfl, (blk_cell BK220.out 4).trans rfl, (blk_cell BK220.out 5).trans rfl, (blk_cell BK220.out 6).trans rfl, (blk_cell BK220.out 7).trans rfl, (blk_cell BK220.out 8).trans rfl⟩ (fun hHeld => ?_)
    clear hK K
    refine norm_ (a' := ?_) ?_ ?_
    rotate_left
    ·
     show Act.put _ (some 25) _ = _
     simp only [Act.put, List.setIfInBounds_toArray, List.set_cons_zero, List.set_cons_succ, i64_w, i32_w]
     rfl
    refine pure_ (i := 4) (N := some 26) (v := ?_) (a' := ?_) #[true, true, true, true, true] rfl rfl (by kernel_rfl) (fun _ _ _ h => h) (Or.inl ⟨by rfl, ?_⟩) ?_ ?_
    rotate_left
    ·
     intro w'
     go_simp
     with_reducible rfl
    rotate_left
    ·
     simp only [Act.put, List.setIfInBounds_toArray, List.set_cons_zero, List.set_cons_succ, i64_w, i32_w]
     rfl
    refine done_ (by kernel_rfl) ?_
    try go_wp2
    go_ret
    exact ⟨by first | rfl | (simp [errW_none, errW_some] <;> rfl) | (simp [*, errW_none, errW_some] <;> rfl), bel HB⟩
   ·
    replace c14 := Bool.eq_false_iff.mpr c14
    subst c14
    have H1 : (some false) = some true := by rw [if_neg (show ¬ (false = true) by decide)] at H; first | done | exact H
    clear H
    have H := H1
    clear H1
    exact absurd H (by simp)
  ·
   rw [if_neg c11] at H
   have c11b0 : (t246 == t233) = false := beq_eq_false_iff_ne.mpr c11
   have c11b1 : (t246 != t233) = true := bne_iff_ne.mpr c11
   exact absurd H (by simp)

end Go.Proofs.Ytgfoifkkffffgaa.PFnExactNodeFault
