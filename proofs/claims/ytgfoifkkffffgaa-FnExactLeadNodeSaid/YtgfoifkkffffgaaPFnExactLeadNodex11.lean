-- Laid by a turned copy of the printer (wip/tools/patch_print.py)
import Derived.Test.YtgfoifkkffffgaaPFnExactLeadNodex0
import Derived.Test.YtgfoifkkffffgaaPFnExactLeadNodex9
import Derived.Test.YtgfoifkkffffgaaPFnExactLeadNodex10
namespace Go.Proofs.Ytgfoifkkffffgaa.PFnExactLeadNode
open Go.RowKit Go.Proofs.YtgfoifkkffffgaaW.PrintWords Go.Proofs.YtgfoifkkffffgaaW.PrintLast Go.Proofs.YtgfoifkkffffgaaW.PrintMore
attribute [local go_sem] max2_int min2_int max_two min_two max_three min_three max_four min_four   -- for this text's walks alone
set_option linter.unusedVariables false
set_option linter.unusedSimpArgs false

/-! ### impl_upFault: function 55 -/
def impl_upFault.f (k : Nat) (a0_0 : Int) (a0_1 : Bool) (a0_2 : Int) (a0_3 : Int) (l0_4 : List (S51)) (a0_5 : Int) (a0_6 : Int) (a0_7 : Int) (a0_8 : Int) : Option (Int) := (impl_NodeFault.f k a0_0 a0_1 a0_2 a0_3 l0_4 a0_5 a0_6 a0_7 a0_8).bind fun t352 => (if t352 = 0 then (if a0_1 = true then (some t352) else (some 10)) else (some t352))
theorem impl_upFault.mono : ∀ a0 a1 a2 a3 a4 a5 a6 a7 a8 k, LeO (impl_upFault.f k a0 a1 a2 a3 a4 a5 a6 a7 a8) (impl_upFault.f (k + 1) a0 a1 a2 a3 a4 a5 a6 a7 a8) := by
 intro a0 a1 a2 a3 a4 a5 a6 a7 a8 k
 unfold impl_upFault.f
 repeat' first
   | (with_reducible exact impl_NodeFault.mono _ _ _ _ _ _ _ _ _ _)
   | (with_reducible exact LeO.refl _)
   | (with_reducible exact LeO.none _)
   | (with_reducible refine LeO.ite ?_ ?_)
   | (with_reducible refine LeO.bind ?_ (fun _ => ?_))
   | exact impl_NodeFault.mono _ _ _ _ _ _ _ _ _ _
   | exact LeO.none _
   | refine LeO.ite ?_ ?_
   | refine LeO.bind ?_ (fun _ => ?_)
set_option maxHeartbeats 8000000 in
set_option maxRecDepth 100000 in
theorem impl_upFault.calls (k : Nat) (a0_0 : Int) (a0_1 : Bool) (a0_2 : Int) (a0_3 : Int) (A0_4 : Option Addr) (c0_4 : Nat) (l0_4 : List (S51)) (a0_5 : Int) (a0_6 : Int) (a0_7 : Int) (a0_8 : Int) (r : Int) (w : World) (hr0_4 : Kd.C k51 w A0_4 l0_4.length l0_4) (hc0_4 : l0_4.length ≤ c0_4) (h : impl_upFault.f k a0_0 a0_1 a0_2 a0_3 l0_4 a0_5 a0_6 a0_7 a0_8 = some r) :
  Calls Try.prog 55 #[.agg #[.int .i64 a0_0, .bool a0_1, .int .i64 a0_2, .int .i64 a0_3, .slice A0_4 l0_4.length c0_4, .int .i64 a0_5, .int .i64 a0_6, .int .i64 a0_7, .int .i64 a0_8]] w fun e w' => e = .returned (.int .i64 r) ∧ Below w.heap.size w w' := by
 have hu29 := Try.underlying29
 have HR0_4 := Aside0.mk hr0_4
 have HC0_4 := Aside0.mk hc0_4
 clear hr0_4 hc0_4
 have HB := Aside0.mk (Below.refl w.heap.size w)
 have H : ((impl_NodeFault.f k a0_0 a0_1 a0_2 a0_3 l0_4 a0_5 a0_6 a0_7 a0_8).bind fun t352 => (if t352 = 0 then (if a0_1 = true then (some t352) else (some 10)) else (some t352))) = some r := h
 clear h
 replace H := Option.bind_eq_some_iff.mp H
 obtain ⟨t352, A20, H⟩ := H
 replace H : (if t352 = 0 then (if a0_1 = true then (some t352) else (some 10)) else (some t352)) = some r := H
 have A2 := Aside0.mk A20
 clear A20
 by_cases c3 : t352 = 0
 ·
  rw [if_pos c3] at H
  have c3b0 : (t352 == 0) = true := beq_iff_eq.mpr c3
  have c3b1 : (t352 != 0) = false := bne_eq_false_iff_eq.mpr c3
  clear c3
  by_cases c4 : a0_1 = true
  ·
   subst c4
   have H1 : (some t352) = some r := by rw [if_pos rfl] at H; first | done | exact H
   clear H
   have H := H1
   clear H1
   obtain rfl := Option.some.inj H
   go_enter Try.func55, Try.ntmps55
   go_wp2_with (first | ((with_reducible refine gate_dst (N := 1) rfl ?_); refine boxE #[.int .i64 a0_0, .bool true, .int .i64 a0_2, .int .i64 a0_3, .slice A0_4 l0_4.length c0_4, .int .i64 a0_5, .int .i64 a0_6, .int .i64 a0_7, .int .i64 a0_8] 29 (N := 1) rfl rfl ?_; intro gb351 hg w5 hbox hb; have BK351 := Aside0.mk hbox; have GW351 := gZ HB hg; have GE351 := gZ HB hg; replace HB := bS HB hb; clear hb hbox hg; have hz6 := cl9 BK351) | ((with_reducible refine gate_callee (f := 12) rfl ?_); refine goA (some 5) rfl rfl Try.func12 rfl #[.agg #[.int .i64 a0_0, .bool true, .int .i64 a0_2, .int .i64 a0_3, .slice A0_4 l0_4.length c0_4, .int .i64 a0_5, .int .i64 a0_6, .int .i64 a0_7, .int .i64 a0_8]] rfl ?_; (with_reducible refine (impl_NodeFault.calls k a0_0 true a0_2 a0_3 _ _ l0_4 a0_5 a0_6 a0_7 a0_8 t352 _ ?side1 ?side2 A2.out).mono ?_); (case side1 => exact mC HR0_4 HB); (case side2 => exact HC0_4.out); rintro e w7 ⟨rfl, hb⟩; refine ⟨_, rfl, ?_⟩; replace BK351 := bK BK351 hb; replace HB := bS HB hb; (try clear hb); (try clear hb2); (try clear hk); (try clear hi); have hz8 := cl9 BK351))
   go_ret
   exact ⟨by first | rfl | (simp [errW_none, errW_some] <;> rfl) | (simp [*, errW_none, errW_some] <;> rfl), bel HB⟩
  ·
   replace c4 := Bool.eq_false_iff.mpr c4
   subst c4
   have H1 : (some 10) = some r := by rw [if_neg (show ¬ (false = true) by decide)] at H; first | done | exact H
   clear H
   have H := H1
   clear H1
   obtain rfl := Option.some.inj H
   go_enter Try.func55, Try.ntmps55
   go_wp2_with (first | ((with_reducible refine gate_dst (N := 1) rfl ?_); refine boxE #[.int .i64 a0_0, .bool false, .int .i64 a0_2, .int .i64 a0_3, .slice A0_4 l0_4.length c0_4, .int .i64 a0_5, .int .i64 a0_6, .int .i64 a0_7, .int .i64 a0_8] 29 (N := 1) rfl rfl ?_; intro gb351 hg w9 hbox hb; have BK351 := Aside0.mk hbox; have GW351 := gZ HB hg; have GE351 := gZ HB hg; replace HB := bS HB hb; clear hb hbox hg; have hz10 := cl9 BK351) | ((with_reducible refine gate_callee (f := 12) rfl ?_); refine goA (some 5) rfl rfl Try.func12 rfl #[.agg #[.int .i64 a0_0, .bool false, .int .i64 a0_2, .int .i64 a0_3, .slice A0_4 l0_4.length c0_4, .int .i64 a0_5, .int .i64 a0_6, .int .i64 a0_7, .int .i64 a0_8]] rfl ?_; (with_reducible refine (impl_NodeFault.calls k a0_0 false a0_2 a0_3 _ _ l0_4 a0_5 a0_6 a0_7 a0_8 t352 _ ?side1 ?side2 A2.out).mono ?_); (case side1 => exact mC HR0_4 HB); (case side2 => exact HC0_4.out); rintro e w11 ⟨rfl, hb⟩; refine ⟨_, rfl, ?_⟩; replace BK351 := bK BK351 hb; replace HB := bS HB hb; (try clear hb); (try clear hb2); (try clear hk); (try clear hi); have hz12 := cl9 BK351))
   go_ret
   exact ⟨by first | rfl | (simp [errW_none, errW_some] <;> rfl) | (simp [*, errW_none, errW_some] <;> rfl), bel HB⟩
 ·
  rw [if_neg c3] at H
  have c3b0 : (t352 == 0) = false := beq_eq_false_iff_ne.mpr c3
  have c3b1 : (t352 != 0) = true := bne_iff_ne.mpr c3
  obtain rfl := Option.some.inj H
  go_enter Try.func55, Try.ntmps55
  go_wp2_with (first | ((with_reducible refine gate_dst (N := 1) rfl ?_); refine boxE #[.int .i64 a0_0, .bool a0_1, .int .i64 a0_2, .int .i64 a0_3, .slice A0_4 l0_4.length c0_4, .int .i64 a0_5, .int .i64 a0_6, .int .i64 a0_7, .int .i64 a0_8] 29 (N := 1) rfl rfl ?_; intro gb351 hg w13 hbox hb; have BK351 := Aside0.mk hbox; have GW351 := gZ HB hg; have GE351 := gZ HB hg; replace HB := bS HB hb; clear hb hbox hg; have hz14 := cl9 BK351) | ((with_reducible refine gate_callee (f := 12) rfl ?_); refine goA (some 5) rfl rfl Try.func12 rfl #[.agg #[.int .i64 a0_0, .bool a0_1, .int .i64 a0_2, .int .i64 a0_3, .slice A0_4 l0_4.length c0_4, .int .i64 a0_5, .int .i64 a0_6, .int .i64 a0_7, .int .i64 a0_8]] rfl ?_; (with_reducible refine (impl_NodeFault.calls k a0_0 a0_1 a0_2 a0_3 _ _ l0_4 a0_5 a0_6 a0_7 a0_8 t352 _ ?side1 ?side2 A2.out).mono ?_); (case side1 => exact mC HR0_4 HB); (case side2 => exact HC0_4.out); rintro e w15 ⟨rfl, hb⟩; refine ⟨_, rfl, ?_⟩; replace BK351 := bK BK351 hb; replace HB := bS HB hb; (try clear hb); (try clear hb2); (try clear hk); (try clear hi)))
  go_ret
  exact ⟨by first | rfl | (simp [errW_none, errW_some] <;> rfl) | (simp [*, errW_none, errW_some] <;> rfl), bel HB⟩

/-! ### impl_LeadNode: function 30 -/
def impl_LeadNode.j0 : Nat → Int → Int → Bool → Int → Bool → Int → Int → List (S51) → Int → Int → Int → Int → Option (Int × Int × Bool × Int × Int × (List (S51)) × Int × Int × Int × Int × (List (S53)))
 | 0, _, _, _, _, _, _, _, _, _, _, _, _ => none
 | k + 1, x1, x5, x18, x354000, x354001, x354002, x354003, x354004, x354005, x354006, x354007, x354008 => if x18 = true then (some (3, 0, false, 0, 0, ([] : List (S51)), 0, 0, 0, 0, ([] : List (S53)))) else (if x5 = 0 then ((impl_Node_copied.f x354000 x354001 x354002 x354003 x354004 x354005 x354006 x354007 x354008).bind fun bt357 => (some (0, bt357.1, bt357.2.1, 1, x1, bt357.2.2.2.2.1, bt357.2.2.2.2.2.1, 0, 0, bt357.2.2.2.2.2.2.2.2, ([] : List (S53))))) else (some (x5, 0, false, 0, 0, ([] : List (S51)), 0, 0, 0, 0, ([] : List (S53)))))
def impl_LeadNode.f (k : Nat) (a0_0 : Int) (a0_1 : Bool) (a0_2 : Int) (a0_3 : Int) (l0_4 : List (S51)) (a0_5 : Int) (a0_6 : Int) (a0_7 : Int) (a0_8 : Int) (a1 : Int) : Option (Int × Int × Bool × Int × Int × (List (S51)) × Int × Int × Int × Int × (List (S53))) := (impl_upFault.f k a0_0 a0_1 a0_2 a0_3 l0_4 a0_5 a0_6 a0_7 a0_8).bind fun t355 => (if t355 = 0 then ((impl_in.f a1 (wrap64 (a0_3 + 1)) 1000).bind fun t356 => (impl_LeadNode.j0 k a1 t355 (!t356) a0_0 a0_1 a0_2 a0_3 l0_4 a0_5 a0_6 a0_7 a0_8)) else (impl_LeadNode.j0 k a1 t355 false a0_0 a0_1 a0_2 a0_3 l0_4 a0_5 a0_6 a0_7 a0_8))
theorem impl_LeadNode.mono_l : ∀ k, (∀ y0 y1 y2 y3 y4 y5 y6 y7 y8 y9 y10 y11, LeO (impl_LeadNode.j0 k y0 y1 y2 y3 y4 y5 y6 y7 y8 y9 y10 y11) (impl_LeadNode.j0 (k + 1) y0 y1 y2 y3 y4 y5 y6 y7 y8 y9 y10 y11))
 | 0 => fun _ _ _ _ _ _ _ _ _ _ _ _ r h => by simp [impl_LeadNode.j0] at h
 | k + 1 => by
  have ih0 := impl_LeadNode.mono_l k
  ·
   intro y0 y1 y2 y3 y4 y5 y6 y7 y8 y9 y10 y11
   unfold impl_LeadNode.j0
   repeat' first
   | (with_reducible exact ih0 _ _ _ _ _ _ _ _ _ _ _ _)
   | (with_reducible exact impl_upFault.mono _ _ _ _ _ _ _ _ _ _)
   | (with_reducible exact LeO.refl _)
   | (with_reducible exact LeO.none _)
   | (with_reducible refine LeO.ite ?_ ?_)
   | (with_reducible refine LeO.bind ?_ (fun _ => ?_))
   | exact ih0 _ _ _ _ _ _ _ _ _ _ _ _
   | exact impl_upFault.mono _ _ _ _ _ _ _ _ _ _
   | exact LeO.none _
   | refine LeO.ite ?_ ?_
   | refine LeO.bind ?_ (fun _ => ?_)
theorem impl_LeadNode.mono : ∀ a0 a1 a2 a3 a4 a5 a6 a7 a8 a9 k, LeO (impl_LeadNode.f k a0 a1 a2 a3 a4 a5 a6 a7 a8 a9) (impl_LeadNode.f (k + 1) a0 a1 a2 a3 a4 a5 a6 a7 a8 a9) := by
 intro a0 a1 a2 a3 a4 a5 a6 a7 a8 a9 k
 have ih0 := impl_LeadNode.mono_l k
 unfold impl_LeadNode.f
 repeat' first
   | (with_reducible exact ih0 _ _ _ _ _ _ _ _ _ _ _ _)
   | (with_reducible exact impl_upFault.mono _ _ _ _ _ _ _ _ _ _)
   | (with_reducible exact LeO.refl _)
   | (with_reducible exact LeO.none _)
   | (with_reducible refine LeO.ite ?_ ?_)
   | (with_reducible refine LeO.bind ?_ (fun _ => ?_))
   | exact ih0 _ _ _ _ _ _ _ _ _ _ _ _
   | exact impl_upFault.mono _ _ _ _ _ _ _ _ _ _
   | exact LeO.none _
   | refine LeO.ite ?_ ?_
   | refine LeO.bind ?_ (fun _ => ?_)
set_option maxHeartbeats 8000000 in
set_option maxRecDepth 100000 in
theorem impl_LeadNode.calls (k : Nat) (a0_0 : Int) (a0_1 : Bool) (a0_2 : Int) (a0_3 : Int) (A0_4 : Option Addr) (c0_4 : Nat) (l0_4 : List (S51)) (a0_5 : Int) (a0_6 : Int) (a0_7 : Int) (a0_8 : Int) (a1 : Int) (r1 : Int) (r2 : Int) (r3 : Bool) (r4 : Int) (r5 : Int) (r6 : List (S51)) (r7 : Int) (r8 : Int) (r9 : Int) (r10 : Int) (r11 : List (S53)) (w : World) (hr0_4 : Kd.C k51 w A0_4 l0_4.length l0_4) (hc0_4 : l0_4.length ≤ c0_4) (h : impl_LeadNode.f k a0_0 a0_1 a0_2 a0_3 l0_4 a0_5 a0_6 a0_7 a0_8 a1 = some (r1, r2, r3, r4, r5, r6, r7, r8, r9, r10, r11)) :
  Calls Try.prog 30 #[.agg #[.int .i64 a0_0, .bool a0_1, .int .i64 a0_2, .int .i64 a0_3, .slice A0_4 l0_4.length c0_4, .int .i64 a0_5, .int .i64 a0_6, .int .i64 a0_7, .int .i64 a0_8], .int .i64 a1] w fun e w' => ∃ v5_ v10_ : Value, e = .returned (.agg #[.int .i64 r1, .int .i64 r2, .bool r3, .int .i64 r4, .int .i64 r5, v5_, .int .i64 r7, .int .i64 r8, .int .i64 r9, .int .i64 r10, v10_]) ∧ Kd.S k51 51 w' w.heap.size (fun _ => True) v5_ r6 ∧ Kd.S k53 53 w' w.heap.size (fun _ => True) v10_ r11 ∧ Below w.heap.size w w' := by
 have hu29 := Try.underlying29
 have hu35 := Try.underlying35
 have HR0_4 := Aside0.mk hr0_4
 have HC0_4 := Aside0.mk hc0_4
 clear hr0_4 hc0_4
 have HB := Aside0.mk (Below.refl w.heap.size w)
 have H : ((impl_upFault.f k a0_0 a0_1 a0_2 a0_3 l0_4 a0_5 a0_6 a0_7 a0_8).bind fun t355 => (if t355 = 0 then ((impl_in.f a1 (wrap64 (a0_3 + 1)) 1000).bind fun t356 => (impl_LeadNode.j0 k a1 t355 (!t356) a0_0 a0_1 a0_2 a0_3 l0_4 a0_5 a0_6 a0_7 a0_8)) else (impl_LeadNode.j0 k a1 t355 false a0_0 a0_1 a0_2 a0_3 l0_4 a0_5 a0_6 a0_7 a0_8))) = some (r1, r2, r3, r4, r5, r6, r7, r8, r9, r10, r11) := h
 clear h
 replace H := Option.bind_eq_some_iff.mp H
 obtain ⟨t355, A30, H⟩ := H
 replace H : (if t355 = 0 then ((impl_in.f a1 (wrap64 (a0_3 + 1)) 1000).bind fun t356 => (impl_LeadNode.j0 k a1 t355 (!t356) a0_0 a0_1 a0_2 a0_3 l0_4 a0_5 a0_6 a0_7 a0_8)) else (impl_LeadNode.j0 k a1 t355 false a0_0 a0_1 a0_2 a0_3 l0_4 a0_5 a0_6 a0_7 a0_8)) = some (r1, r2, r3, r4, r5, r6, r7, r8, r9, r10, r11) := H
 have A3 := Aside0.mk A30
 clear A30
 have HC4 := Aside0.mk H
 clear H
 go_enter Try.func30, Try.ntmps30
 go_upto_region 2 with (first | ((with_reducible refine gate_dst (N := 2) rfl ?_); refine boxE #[.int .i64 a0_0, .bool a0_1, .int .i64 a0_2, .int .i64 a0_3, .slice A0_4 l0_4.length c0_4, .int .i64 a0_5, .int .i64 a0_6, .int .i64 a0_7, .int .i64 a0_8] 29 (N := 2) rfl rfl ?_; intro gb353 hg w5 hbox hb; have BK353 := Aside0.mk hbox; have GW353 := gZ HB hg; have GE353 := gZ HB hg; replace HB := bS HB hb; clear hb hbox hg) | ((with_reducible refine gate_dst (N := 4) rfl ?_); refine boxE #[.int .i64 0, .int .i64 0, .bool false, .int .i64 0, .int .i64 0, .slice none 0 0, .int .i64 0, .int .i64 0, .int .i64 0, .int .i64 0, .slice none 0 0] 35 (N := 4) rfl rfl ?_; intro gb354 hg w6 hbox hb; have BK354 := Aside0.mk hbox; have GW354 := gZ HB hg; have GE354 := gZ HB hg; replace HB := bS HB hb; have NB353_354 := nL BK353 hg; have NB354_353 := nG BK353 hg; replace BK353 := bK BK353 hb; clear hb hbox hg; have hnb7 := NB353_354.out; have hnc7 := NB354_353.out; have hz8 := cl9 BK353) | ((with_reducible refine gate_callee (f := 55) rfl ?_); refine goA (some 8) rfl rfl Try.func55 rfl #[.agg #[.int .i64 a0_0, .bool a0_1, .int .i64 a0_2, .int .i64 a0_3, .slice A0_4 l0_4.length c0_4, .int .i64 a0_5, .int .i64 a0_6, .int .i64 a0_7, .int .i64 a0_8]] rfl ?_; (with_reducible refine (impl_upFault.calls k a0_0 a0_1 a0_2 a0_3 _ _ l0_4 a0_5 a0_6 a0_7 a0_8 t355 _ ?side1 ?side2 A3.out).mono ?_); (case side1 => exact mC HR0_4 HB); (case side2 => exact HC0_4.out); rintro e w9 ⟨rfl, hb⟩; refine ⟨_, rfl, ?_⟩; replace BK353 := bK BK353 hb; replace BK354 := bK BK354 hb; replace HB := bS HB hb; (try clear hb); (try clear hb2); (try clear hk); (try clear hi)))
 (try simp only [Act.put, List.setIfInBounds_toArray, List.set_cons_zero, List.set_cons_succ])
 go_cut [18] (fun v18 wc => ∃ (kq : Nat) (x18_3 : Bool), v18 = .bool x18_3 ∧ Aside0 (impl_LeadNode.j0 kq a1 t355 x18_3 a0_0 a0_1 a0_2 a0_3 l0_4 a0_5 a0_6 a0_7 a0_8 = some (r1, r2, r3, r4, r5, r6, r7, r8, r9, r10, r11)) ∧ Aside0 (kq ≤ k) ∧ Aside0 (wc.heap[gb353]? = some (.cells #[.int .i64 a0_0, .bool a0_1, .int .i64 a0_2, .int .i64 a0_3, (.slice A0_4 l0_4.length c0_4), .int .i64 a0_5, .int .i64 a0_6, .int .i64 a0_7, .int .i64 a0_8] 29 (0, 0))) ∧ Aside0 (wc.heap[gb354]? = some (.cells #[.int .i64 0, .int .i64 0, .bool false, .int .i64 0, .int .i64 0, (.slice none 0 0), .int .i64 0, .int .i64 0, .int .i64 0, .int .i64 0, (.slice none 0 0)] 35 (0, 0))) ∧ Aside0 (Below w.heap.size w wc))
 case first =>
  have H := HC4.out
  clear HC4
  by_cases c10 : t355 = 0
  ·
   rw [if_pos c10] at H
   have c10b0 : (t355 == 0) = true := beq_iff_eq.mpr c10
   have c10b1 : (t355 != 0) = false := bne_eq_false_iff_eq.mpr c10
   clear c10
   (first | rw [c10b0] | (simp only [i64_w, i32_w]; rw [c10b0]) | skip)
   replace H := Option.bind_eq_some_iff.mp H
   obtain ⟨t356, A110, H⟩ := H
   replace H : (impl_LeadNode.j0 k a1 t355 (!t356) a0_0 a0_1 a0_2 a0_3 l0_4 a0_5 a0_6 a0_7 a0_8) = some (r1, r2, r3, r4, r5, r6, r7, r8, r9, r10, r11) := H
   have A11 := Aside0.mk A110
   clear A110
   have H' := Aside0.mk H
   clear H
   have hnb12 := NB353_354.out
   have hnc12 := NB354_353.out
   have hz13 := cl9 BK353
   go_wp2_with (first | (go_at_call 35; (with_reducible refine (impl_in.calls a1 (wrap64 (a0_3 + 1)) 1000 t356 _ A11.out).mono ?_); rintro e w' ⟨rfl, ⟨nd, rfl⟩⟩))
   first | go_meet | (refine Met.intro ?_; go_step; (repeat apply Exists.intro); refine ⟨?rel, ?eqq⟩; (case eqq => (try simp only [c10b0]); rfl))
   case rel => exact ⟨_, (!t356), (by first | rfl | (simp; done) | (simp [*]; done)), H', ⟨by first | omega | exact Nat.le_refl _⟩, ⟨by (with_reducible repeat (first | refine blk_drewN ?_ _ | refine blk_drew ?_ | refine blk_alloc ?_ _)); exact BK353.out⟩, ⟨by (with_reducible repeat (first | refine blk_drewN ?_ _ | refine blk_drew ?_ | refine blk_alloc ?_ _)); exact BK354.out⟩, ⟨bel HB⟩⟩
  ·
   rw [if_neg c10] at H
   have c10b0 : (t355 == 0) = false := beq_eq_false_iff_ne.mpr c10
   have c10b1 : (t355 != 0) = true := bne_iff_ne.mpr c10
   (first | rw [c10b0] | (simp only [i64_w, i32_w]; rw [c10b0]) | skip)
   have H' := Aside0.mk H
   clear H
   go_wp2
   first | go_meet | (refine Met.intro ?_; go_step; (repeat apply Exists.intro); refine ⟨?rel, ?eqq⟩; (case eqq => (try simp only [c10b0]); rfl))
   case rel => exact ⟨_, (false), (by first | rfl | (simp; done) | (simp [*]; done)), H', ⟨by first | omega | exact Nat.le_refl _⟩, ⟨by (with_reducible repeat (first | refine blk_drewN ?_ _ | refine blk_drew ?_ | refine blk_alloc ?_ _)); exact BK353.out⟩, ⟨by (with_reducible repeat (first | refine blk_drewN ?_ _ | refine blk_drew ?_ | refine blk_alloc ?_ _)); exact BK354.out⟩, ⟨bel HB⟩⟩
 case rest =>
  clear HC4
  try clear c1
  try clear p2
  try clear c3
  try clear c5
  try clear p6
  try clear c7
  try clear c10
  try clear c10b0
  try clear c10b1
  try clear c12
  try clear hz13
  try clear hz8
  obtain ⟨kq, x18_3, rfl, HA, HJ3, BK353, BK354, HB⟩ := hcut
  cases kq with
  | zero => exact absurd HA.out (by simp [impl_LeadNode.j0])
  | succ kj3 =>
   have H := HA.out
   clear HA
   simp only [impl_LeadNode.j0] at H
   by_cases c14 : x18_3 = true
   ·
    subst c14
    have H1 : (some (3, 0, false, 0, 0, ([] : List (S51)), 0, 0, 0, 0, ([] : List (S53)))) = some (r1, r2, r3, r4, r5, r6, r7, r8, r9, r10, r11) := by rw [if_pos rfl] at H; first | done | exact H
    clear H
    have H := H1
    clear H1
    simp only [Option.some.injEq, Prod.mk.injEq] at H
    obtain ⟨rfl, rfl, rfl, rfl, rfl, rfl, rfl, rfl, rfl, rfl, rfl⟩ := H
    have hnb15 := NB354_353.out
    have hnc15 := NB353_354.out
    have hz16 := cl11 BK354
    go_wp2
    refine bodyPost_ret (results_cell_row rfl _ _ gb354 35 #[.int .i64 3, .int .i64 0, .bool false, .int .i64 0, .int .i64 0, .slice none 0 0, .int .i64 0, .int .i64 0, .int .i64 0, .int .i64 0, .slice none 0 0] (0, 0) _ rfl (mP BK354) Try.underlying35 rfl (by kernel_rfl)) rfl ?_
    exact ⟨_, _, by first | rfl | (simp [errW_none, errW_some] <;> rfl) | (simp [*, errW_none, errW_some] <;> rfl), by first | exact Kd.S_nil _ _ _ _ _ | exact Kd.N_nil _ _ _ _ _ | exact Kd.V_nil _ _ _ _ _ | exact Kd.Q_nil _ _ _ _ _ | exact Kd.R_nil _ _ _ _ _, by first | exact Kd.S_nil _ _ _ _ _ | exact Kd.N_nil _ _ _ _ _ | exact Kd.V_nil _ _ _ _ _ | exact Kd.Q_nil _ _ _ _ _ | exact Kd.R_nil _ _ _ _ _, bel HB⟩
   ·
    replace c14 := Bool.eq_false_iff.mpr c14
    subst c14
    have H1 : (if t355 = 0 then ((impl_Node_copied.f a0_0 a0_1 a0_2 a0_3 l0_4 a0_5 a0_6 a0_7 a0_8).bind fun bt357 => (some (0, bt357.1, bt357.2.1, 1, a1, bt357.2.2.2.2.1, bt357.2.2.2.2.2.1, 0, 0, bt357.2.2.2.2.2.2.2.2, ([] : List (S53))))) else (some (t355, 0, false, 0, 0, ([] : List (S51)), 0, 0, 0, 0, ([] : List (S53))))) = some (r1, r2, r3, r4, r5, r6, r7, r8, r9, r10, r11) := by rw [if_neg (show ¬ (false = true) by decide)] at H; first | done | exact H
    clear H
    have H := H1
    clear H1
    by_cases c17 : t355 = 0
    ·
     rw [if_pos c17] at H
     have c17b0 : (t355 == 0) = true := beq_iff_eq.mpr c17
     have c17b1 : (t355 != 0) = false := bne_eq_false_iff_eq.mpr c17
     clear c17
     replace H := Option.bind_eq_some_iff.mp H
     obtain ⟨⟨t357, t358, t359, t360, t361, t364, t365, t366, t367⟩, A180, H⟩ := H
     replace H : (some (0, t357, t358, 1, a1, t361, t364, 0, 0, t367, ([] : List (S53)))) = some (r1, r2, r3, r4, r5, r6, r7, r8, r9, r10, r11) := H
     have A18 := Aside0.mk A180
     clear A180
     simp only [Option.some.injEq, Prod.mk.injEq] at H
     obtain ⟨rfl, rfl, rfl, rfl, rfl, rfl, rfl, rfl, rfl, rfl, rfl⟩ := H
     have hnb19 := NB353_354.out
     have hnc19 := NB354_353.out
     have hz20 := cl9 BK353
     go_wp2_with (first | ((with_reducible refine gate_callee (f := 52) rfl ?_); refine goA (some 24) rfl rfl Try.func52 rfl #[.agg #[.int .i64 a0_0, .bool a0_1, .int .i64 a0_2, .int .i64 a0_3, .slice A0_4 l0_4.length c0_4, .int .i64 a0_5, .int .i64 a0_6, .int .i64 a0_7, .int .i64 a0_8]] rfl ?_; (with_reducible refine (impl_Node_copied.calls a0_0 a0_1 a0_2 a0_3 _ _ l0_4 a0_5 a0_6 a0_7 a0_8 t357 t358 t359 t360 t361 t364 t365 t366 t367 _ ?side1 ?side2 A18.out).mono ?_); (case side1 => exact mC HR0_4 HB); (case side2 => exact HC0_4.out); rintro e w21 ⟨v362, rfl, ho0, hb⟩; refine ⟨_, rfl, ?_⟩; have HO363 := Aside0.mk (Kd.S_lower ho0 (below_size (bel HB))); replace BK353 := bK BK353 hb; replace BK354 := bK BK354 hb; replace HB := bS HB hb; (try clear hb); (try clear hb2); (try clear hk); (try clear hi); (try clear ho0)) | ((with_reducible refine gate_dst (N := 6) rfl ?_); refine boxE #[.int .i64 0, .bool false, .int .i64 0, .int .i64 0, .slice none 0 0, .int .i64 0, .int .i64 0, .int .i64 0, .int .i64 0] 29 (N := 6) rfl rfl ?_; intro gb368 hg w22 hbox hb; replace HO363 := Aside0.mk (Kd.S_below (mS HO363) hb); have BK368 := Aside0.mk hbox; have GW368 := gZ HB hg; have GE368 := gZ HB hg; replace HB := bS HB hb; have NB353_368 := nL BK353 hg; have NB368_353 := nG BK353 hg; replace BK353 := bK BK353 hb; have NB354_368 := nL BK354 hg; have NB368_354 := nG BK354 hg; replace BK354 := bK BK354 hb; clear hb hbox hg; have hnb23 := NB368_353.out; have hnc23 := NB353_368.out; have hnb24 := NB368_354.out; have hnc24 := NB354_368.out; have hz25 := cl9 BK368; obtain ⟨Ao26, co26, eo26⟩ := Kd.S_slice HO363.out; subst eo26) | ((with_reducible refine gate_store (t := 29) (p := 6) rfl ?_); refine store_event (t := 29) (p := 6) (v := ?vo_w27) (w1 := (((((((((w22.setCell ⟨gb368, 0, none⟩ (.int .i64 t357)).setCell ⟨gb368, 1, none⟩ (.bool t358)).setCell ⟨gb368, 2, none⟩ (.int .i64 t359)).setCell ⟨gb368, 3, none⟩ (.int .i64 t360)).setCell ⟨gb368, 4, none⟩ (.slice Ao26 t361.length co26)).setCell ⟨gb368, 5, none⟩ (.int .i64 t364)).setCell ⟨gb368, 6, none⟩ (.int .i64 t365)).setCell ⟨gb368, 7, none⟩ (.int .i64 t366)).setCell ⟨gb368, 8, none⟩ (.int .i64 t367))) ?hg ?ho ?hn ?hr ?_; (case ho => rfl); (case hg => rfl); (case hn => rfl); (case hr => first | (go_simp; done) | (go_simp; rfl)); intro w27 hw; have n0_ : Aside0 (Kd.S k51 51 w27 w.heap.size (fun _ => True) (.slice Ao26 t361.length co26) t361) := ⟨(by rw [hw]; exact (by (with_reducible repeat (first | apply Kd.S_alloc | apply Kd.S_drewN | apply Kd.S_drew)); exact Kd.S_mono (Kd.S_far (p := ⟨gb368, 8, none⟩) (Kd.S_far (p := ⟨gb368, 7, none⟩) (Kd.S_far (p := ⟨gb368, 6, none⟩) (Kd.S_far (p := ⟨gb368, 5, none⟩) (Kd.S_far (p := ⟨gb368, 4, none⟩) (Kd.S_far (p := ⟨gb368, 3, none⟩) (Kd.S_far (p := ⟨gb368, 2, none⟩) (Kd.S_far (p := ⟨gb368, 1, none⟩) (Kd.S_far (p := ⟨gb368, 0, none⟩) (Kd.S_types HO363.out BK368.out (by decide)) (fun _ hk => hk.2) (.int .i64 t357)) (fun _ hk => hk.2) (.bool t358)) (fun _ hk => hk.2) (.int .i64 t359)) (fun _ hk => hk.2) (.int .i64 t360)) (fun _ hk => hk.2) (.slice Ao26 t361.length co26)) (fun _ hk => hk.2) (.int .i64 t364)) (fun _ hk => hk.2) (.int .i64 t365)) (fun _ hk => hk.2) (.int .i64 t366)) (fun _ hk => hk.2) (.int .i64 t367)) (fun _ hk => trivial)))⟩; have n1_ : Aside0 (w27.heap[gb353]? = some (.cells #[.int .i64 a0_0, .bool a0_1, .int .i64 a0_2, .int .i64 a0_3, .slice A0_4 l0_4.length c0_4, .int .i64 a0_5, .int .i64 a0_6, .int .i64 a0_7, .int .i64 a0_8] 29 (0, 0))) := ⟨(by rw [hw]; exact (mP BK353))⟩; have n2_ : Aside0 (w27.heap[gb354]? = some (.cells #[.int .i64 0, .int .i64 0, .bool false, .int .i64 0, .int .i64 0, .slice none 0 0, .int .i64 0, .int .i64 0, .int .i64 0, .int .i64 0, .slice none 0 0] 35 (0, 0))) := ⟨(by rw [hw]; exact (mP BK354))⟩; have n3_ : Aside0 (w27.heap[gb368]? = some (.cells #[.int .i64 t357, .bool t358, .int .i64 t359, .int .i64 t360, .slice Ao26 t361.length co26, .int .i64 t364, .int .i64 t365, .int .i64 t366, .int .i64 t367] 29 (0, 0))) := ⟨(by rw [hw]; exact (mP BK368))⟩; have n4_ : Aside0 (Below w.heap.size w w27) := ⟨(by rw [hw]; exact (bel HB))⟩; clear hw; clear HO363; clear BK353; clear BK354; clear BK368; clear HB; have HO363 := n0_; have BK353 := n1_; have BK354 := n2_; have BK368 := n3_; have HB := n4_; clear n0_ n1_ n2_ n3_ n4_; have hz28 := cl9 BK368; have hz29 := cl11 BK354))
     refine bodyPost_ret (results_cell_row rfl _ _ gb354 35 #[.int .i64 0, .int .i64 t357, .bool t358, .int .i64 1, .int .i64 a1, .slice Ao26 t361.length co26, .int .i64 t364, .int .i64 0, .int .i64 0, .int .i64 t367, .slice none 0 0] (0, 0) _ rfl (mP BK354) Try.underlying35 rfl (by kernel_rfl)) rfl ?_
     exact ⟨_, _, by first | rfl | (simp [errW_none, errW_some] <;> rfl) | (simp [*, errW_none, errW_some] <;> rfl), by (with_reducible repeat (first | apply Kd.S_alloc | apply Kd.S_drewN | apply Kd.S_drew)); exact Kd.S_mono (Kd.S_far (p := ⟨gb354, 10, none⟩) (Kd.S_far (p := ⟨gb354, 9, none⟩) (Kd.S_far (p := ⟨gb354, 8, none⟩) (Kd.S_far (p := ⟨gb354, 7, none⟩) (Kd.S_far (p := ⟨gb354, 6, none⟩) (Kd.S_far (p := ⟨gb354, 5, none⟩) (Kd.S_far (p := ⟨gb354, 4, none⟩) (Kd.S_far (p := ⟨gb354, 3, none⟩) (Kd.S_far (p := ⟨gb354, 2, none⟩) (Kd.S_far (p := ⟨gb354, 1, none⟩) (Kd.S_far (p := ⟨gb354, 0, none⟩) (Kd.S_far (p := ⟨gb368, 7, none⟩) (Kd.S_far (p := ⟨gb368, 6, none⟩) (Kd.S_far (p := ⟨gb368, 3, none⟩) (Kd.S_far (p := ⟨gb368, 2, none⟩) (Kd.S_types (Kd.S_types HO363.out BK368.out (by decide)) BK354.out (by decide)) (fun _ hk => hk.1.2) (.int .i64 1)) (fun _ hk => hk.1.2) (.int .i64 a1)) (fun _ hk => hk.1.2) (.int .i64 0)) (fun _ hk => hk.1.2) (.int .i64 0)) (fun _ hk => hk.2) (.int .i64 0)) (fun _ hk => hk.2) (.int .i64 t357)) (fun _ hk => hk.2) (.bool t358)) (fun _ hk => hk.2) (.int .i64 1)) (fun _ hk => hk.2) (.int .i64 a1)) (fun _ hk => hk.2) (.slice Ao26 t361.length co26)) (fun _ hk => hk.2) (.int .i64 t364)) (fun _ hk => hk.2) (.int .i64 0)) (fun _ hk => hk.2) (.int .i64 0)) (fun _ hk => hk.2) (.int .i64 t367)) (fun _ hk => hk.2) (.slice none 0 0)) (fun _ hk => trivial), by first | exact Kd.S_nil _ _ _ _ _ | exact Kd.N_nil _ _ _ _ _ | exact Kd.V_nil _ _ _ _ _ | exact Kd.Q_nil _ _ _ _ _ | exact Kd.R_nil _ _ _ _ _, bel HB⟩
    ·
     rw [if_neg c17] at H
     have c17b0 : (t355 == 0) = false := beq_eq_false_iff_ne.mpr c17
     have c17b1 : (t355 != 0) = true := bne_iff_ne.mpr c17
     simp only [Option.some.injEq, Prod.mk.injEq] at H
     obtain ⟨rfl, rfl, rfl, rfl, rfl, rfl, rfl, rfl, rfl, rfl, rfl⟩ := H
     have hnb30 := NB354_353.out
     have hnc30 := NB353_354.out
     have hz31 := cl11 BK354
     go_wp2
     refine bodyPost_ret (results_cell_row rfl _ _ gb354 35 #[.int .i64 t355, .int .i64 0, .bool false, .int .i64 0, .int .i64 0, .slice none 0 0, .int .i64 0, .int .i64 0, .int .i64 0, .int .i64 0, .slice none 0 0] (0, 0) _ rfl (mP BK354) Try.underlying35 rfl (by kernel_rfl)) rfl ?_
     exact ⟨_, _, by first | rfl | (simp [errW_none, errW_some] <;> rfl) | (simp [*, errW_none, errW_some] <;> rfl), by first | exact Kd.S_nil _ _ _ _ _ | exact Kd.N_nil _ _ _ _ _ | exact Kd.V_nil _ _ _ _ _ | exact Kd.Q_nil _ _ _ _ _ | exact Kd.R_nil _ _ _ _ _, by first | exact Kd.S_nil _ _ _ _ _ | exact Kd.N_nil _ _ _ _ _ | exact Kd.V_nil _ _ _ _ _ | exact Kd.Q_nil _ _ _ _ _ | exact Kd.R_nil _ _ _ _ _, bel HB⟩

-- NOT PRINTED: function 8 (laws_FnExactLeadNode)

end Go.Proofs.Ytgfoifkkffffgaa.PFnExactLeadNode
