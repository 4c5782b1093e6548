-- Laid by a turned copy of the printer (wip/tools/patch_print.py)
import Derived.Test.YtgfoifkkffffgabPFnExactAddEventx0
import Derived.Test.YtgfoifkkffffgabPFnExactAddEventx6
namespace Go.Proofs.Ytgfoifkkffffgab.PFnExactAddEvent
open Go.RowKit Go.Proofs.YtgfoifkkffffgabW.PrintWords Go.Proofs.YtgfoifkkffffgabW.PrintLast Go.Proofs.YtgfoifkkffffgabW.PrintMore
attribute [local go_sem] max2_int min2_int max_two min_two max_three min_three max_four min_four   -- for this text's walks alone
set_option linter.unusedVariables false
set_option linter.unusedSimpArgs false

/-! ### impl_upFault: function 79 -/
def impl_upFault.f (k : Nat) (a0_0 : Int) (a0_1 : Bool) (a0_2 : Int) (a0_3 : Int) (l0_4 : List (S55)) (a0_5 : Int) (a0_6 : Int) (a0_7 : Int) (a0_8 : Int) : Option (Int) := (impl_NodeFault.f k a0_0 a0_1 a0_2 a0_3 l0_4 a0_5 a0_6 a0_7 a0_8).bind fun t318 => (if t318 = 0 then (if a0_1 = true then (some t318) else (some 10)) else (some t318))
theorem impl_upFault.mono : ∀ a0 a1 a2 a3 a4 a5 a6 a7 a8 k, LeO (impl_upFault.f k a0 a1 a2 a3 a4 a5 a6 a7 a8) (impl_upFault.f (k + 1) a0 a1 a2 a3 a4 a5 a6 a7 a8) := by
 intro a0 a1 a2 a3 a4 a5 a6 a7 a8 k
 unfold impl_upFault.f
 repeat' first
   | (with_reducible exact impl_NodeFault.mono _ _ _ _ _ _ _ _ _ _)
   | (with_reducible exact LeO.refl _)
   | (with_reducible exact LeO.none _)
   | (with_reducible refine LeO.ite ?_ ?_)
   | (with_reducible refine LeO.bind ?_ (fun _ => ?_))
   | exact impl_NodeFault.mono _ _ _ _ _ _ _ _ _ _
   | exact LeO.none _
   | refine LeO.ite ?_ ?_
   | refine LeO.bind ?_ (fun _ => ?_)
set_option maxHeartbeats 8000000 in
set_option maxRecDepth 100000 in
theorem impl_upFault.calls (k : Nat) (a0_0 : Int) (a0_1 : Bool) (a0_2 : Int) (a0_3 : Int) (A0_4 : Option Addr) (c0_4 : Nat) (l0_4 : List (S55)) (a0_5 : Int) (a0_6 : Int) (a0_7 : Int) (a0_8 : Int) (r : Int) (w : World) (hr0_4 : Kd.C k55 w A0_4 l0_4.length l0_4) (hc0_4 : l0_4.length ≤ c0_4) (h : impl_upFault.f k a0_0 a0_1 a0_2 a0_3 l0_4 a0_5 a0_6 a0_7 a0_8 = some r) :
  Calls Try.prog 79 #[.agg #[.int .i64 a0_0, .bool a0_1, .int .i64 a0_2, .int .i64 a0_3, .slice A0_4 l0_4.length c0_4, .int .i64 a0_5, .int .i64 a0_6, .int .i64 a0_7, .int .i64 a0_8]] w fun e w' => e = .returned (.int .i64 r) ∧ Below w.heap.size w w' := by
 have hu32 := Try.underlying32
 have HR0_4 := Aside0.mk hr0_4
 have HC0_4 := Aside0.mk hc0_4
 clear hr0_4 hc0_4
 have HB := am (Below.refl w.heap.size w)
 have H : ((impl_NodeFault.f k a0_0 a0_1 a0_2 a0_3 l0_4 a0_5 a0_6 a0_7 a0_8).bind fun t318 => (if t318 = 0 then (if a0_1 = true then (some t318) else (some 10)) else (some t318))) = some r := h
 clear h
 replace H := Option.bind_eq_some_iff.mp H
 obtain ⟨t318, A20, H⟩ := H
 replace H : (if t318 = 0 then (if a0_1 = true then (some t318) else (some 10)) else (some t318)) = some r := H
 have A2 := Aside0.mk A20
 clear A20
 by_cases c3 : t318 = 0
 ·
  rw [if_pos c3] at H
  have c3b0 : (t318 == 0) = true := beq_iff_eq.mpr c3
  have c3b1 : (t318 != 0) = false := bne_eq_false_iff_eq.mpr c3
  clear c3
  by_cases c4 : a0_1 = true
  ·
   subst c4
   have H1 : (some t318) = some r := by rw [if_pos rfl] at H; first | done | exact H
   clear H
   have H := H1
   clear H1
   obtain rfl := Option.some.inj H
   go_enter Try.func79, Try.ntmps79
   go_wp2_with (first | ((with_reducible refine gate_dst (N := 1) rfl ?_); refine boxE #[.int .i64 a0_0, .bool true, .int .i64 a0_2, .int .i64 a0_3, .slice A0_4 l0_4.length c0_4, .int .i64 a0_5, .int .i64 a0_6, .int .i64 a0_7, .int .i64 a0_8] 32 (N := 1) rfl rfl ?_; intro gb317 hg w5 hbox hb; have BK317 := Aside0.mk hbox; have GW317 := gZ HB hg; have GE317 := gZ HB hg; replace HB := bS HB hb; clear hb hbox hg; have hz6 := cl9 BK317) | ((with_reducible refine gate_callee (f := 31) rfl ?_); refine goA (some 5) rfl rfl Try.func31 rfl #[.agg #[.int .i64 a0_0, .bool true, .int .i64 a0_2, .int .i64 a0_3, .slice A0_4 l0_4.length c0_4, .int .i64 a0_5, .int .i64 a0_6, .int .i64 a0_7, .int .i64 a0_8]] rfl ?_; (with_reducible refine (impl_NodeFault.calls k a0_0 true a0_2 a0_3 _ _ l0_4 a0_5 a0_6 a0_7 a0_8 t318 _ ?side1 ?side2 A2.out).mono ?_); (case side1 => exact mC HR0_4 HB); (case side2 => exact HC0_4.out); rintro e w7 ⟨rfl, hb⟩; refine ⟨_, rfl, ?_⟩; replace BK317 := bK BK317 hb; replace HB := bS HB hb; (try clear hb); (try clear hb2); (try clear hk); (try clear hi); have hz8 := cl9 BK317))
   go_ret
   exact ⟨by first | rfl | (simp [errW_none, errW_some] <;> rfl) | (simp [*, errW_none, errW_some] <;> rfl), bel HB⟩
  replace c4 := Bool.eq_false_iff.mpr c4
  subst c4
  have H1 : (some 10) = some r := by rw [if_neg (show ¬ (false = true) by decide)] at H; first | done | exact H
  clear H
  have H := H1
  clear H1
  obtain rfl := Option.some.inj H
  go_enter Try.func79, Try.ntmps79
  go_wp2_with (first | ((with_reducible refine gate_dst (N := 1) rfl ?_); refine boxE #[.int .i64 a0_0, .bool false, .int .i64 a0_2, .int .i64 a0_3, .slice A0_4 l0_4.length c0_4, .int .i64 a0_5, .int .i64 a0_6, .int .i64 a0_7, .int .i64 a0_8] 32 (N := 1) rfl rfl ?_; intro gb317 hg w9 hbox hb; have BK317 := Aside0.mk hbox; have GW317 := gZ HB hg; have GE317 := gZ HB hg; replace HB := bS HB hb; clear hb hbox hg; have hz10 := cl9 BK317) | ((with_reducible refine gate_callee (f := 31) rfl ?_); refine goA (some 5) rfl rfl Try.func31 rfl #[.agg #[.int .i64 a0_0, .bool false, .int .i64 a0_2, .int .i64 a0_3, .slice A0_4 l0_4.length c0_4, .int .i64 a0_5, .int .i64 a0_6, .int .i64 a0_7, .int .i64 a0_8]] rfl ?_; (with_reducible refine (impl_NodeFault.calls k a0_0 false a0_2 a0_3 _ _ l0_4 a0_5 a0_6 a0_7 a0_8 t318 _ ?side1 ?side2 A2.out).mono ?_); (case side1 => exact mC HR0_4 HB); (case side2 => exact HC0_4.out); rintro e w11 ⟨rfl, hb⟩; refine ⟨_, rfl, ?_⟩; replace BK317 := bK BK317 hb; replace HB := bS HB hb; (try clear hb); (try clear hb2); (try clear hk); (try clear hi); have hz12 := cl9 BK317))
  go_ret
  exact ⟨by first | rfl | (simp [errW_none, errW_some] <;> rfl) | (simp [*, errW_none, errW_some] <;> rfl), bel HB⟩
 rw [if_neg c3] at H
 have c3b0 : (t318 == 0) = false := beq_eq_false_iff_ne.mpr c3
 have c3b1 : (t318 != 0) = true := bne_iff_ne.mpr c3
 obtain rfl := Option.some.inj H
 go_enter Try.func79, Try.ntmps79
 go_wp2_with (first | ((with_reducible refine gate_dst (N := 1) rfl ?_); refine boxE #[.int .i64 a0_0, .bool a0_1, .int .i64 a0_2, .int .i64 a0_3, .slice A0_4 l0_4.length c0_4, .int .i64 a0_5, .int .i64 a0_6, .int .i64 a0_7, .int .i64 a0_8] 32 (N := 1) rfl rfl ?_; intro gb317 hg w13 hbox hb; have BK317 := Aside0.mk hbox; have GW317 := gZ HB hg; have GE317 := gZ HB hg; replace HB := bS HB hb; clear hb hbox hg; have hz14 := cl9 BK317) | ((with_reducible refine gate_callee (f := 31) rfl ?_); refine goA (some 5) rfl rfl Try.func31 rfl #[.agg #[.int .i64 a0_0, .bool a0_1, .int .i64 a0_2, .int .i64 a0_3, .slice A0_4 l0_4.length c0_4, .int .i64 a0_5, .int .i64 a0_6, .int .i64 a0_7, .int .i64 a0_8]] rfl ?_; (with_reducible refine (impl_NodeFault.calls k a0_0 a0_1 a0_2 a0_3 _ _ l0_4 a0_5 a0_6 a0_7 a0_8 t318 _ ?side1 ?side2 A2.out).mono ?_); (case side1 => exact mC HR0_4 HB); (case side2 => exact HC0_4.out); rintro e w15 ⟨rfl, hb⟩; refine ⟨_, rfl, ?_⟩; replace BK317 := bK BK317 hb; replace HB := bS HB hb; (try clear hb); (try clear hb2); (try clear hk); (try clear hi)))
 go_ret
 exact ⟨by first | rfl | (simp [errW_none, errW_some] <;> rfl) | (simp [*, errW_none, errW_some] <;> rfl), bel HB⟩

/-! ### impl_activeFault: function 60 -/
def impl_activeFault.f (k : Nat) (a0_0 : Int) (a0_1 : Bool) (a0_2 : Int) (a0_3 : Int) (l0_4 : List (S55)) (a0_5 : Int) (a0_6 : Int) (a0_7 : Int) (a0_8 : Int) : Option (Int) := (impl_upFault.f k a0_0 a0_1 a0_2 a0_3 l0_4 a0_5 a0_6 a0_7 a0_8).bind fun t320 => (if t320 = 0 then (if a0_2 = 1 then (some t320) else (some 10)) else (some t320))
theorem impl_activeFault.mono : ∀ a0 a1 a2 a3 a4 a5 a6 a7 a8 k, LeO (impl_activeFault.f k a0 a1 a2 a3 a4 a5 a6 a7 a8) (impl_activeFault.f (k + 1) a0 a1 a2 a3 a4 a5 a6 a7 a8) := by
 intro a0 a1 a2 a3 a4 a5 a6 a7 a8 k
 unfold impl_activeFault.f
 repeat' first
   | (with_reducible exact impl_upFault.mono _ _ _ _ _ _ _ _ _ _)
   | (with_reducible exact LeO.refl _)
   | (with_reducible exact LeO.none _)
   | (with_reducible refine LeO.ite ?_ ?_)
   | (with_reducible refine LeO.bind ?_ (fun _ => ?_))
   | exact impl_upFault.mono _ _ _ _ _ _ _ _ _ _
   | exact LeO.none _
   | refine LeO.ite ?_ ?_
   | refine LeO.bind ?_ (fun _ => ?_)
set_option maxHeartbeats 8000000 in
set_option maxRecDepth 100000 in
theorem impl_activeFault.calls (k : Nat) (a0_0 : Int) (a0_1 : Bool) (a0_2 : Int) (a0_3 : Int) (A0_4 : Option Addr) (c0_4 : Nat) (l0_4 : List (S55)) (a0_5 : Int) (a0_6 : Int) (a0_7 : Int) (a0_8 : Int) (r : Int) (w : World) (hr0_4 : Kd.C k55 w A0_4 l0_4.length l0_4) (hc0_4 : l0_4.length ≤ c0_4) (h : impl_activeFault.f k a0_0 a0_1 a0_2 a0_3 l0_4 a0_5 a0_6 a0_7 a0_8 = some r) :
  Calls Try.prog 60 #[.agg #[.int .i64 a0_0, .bool a0_1, .int .i64 a0_2, .int .i64 a0_3, .slice A0_4 l0_4.length c0_4, .int .i64 a0_5, .int .i64 a0_6, .int .i64 a0_7, .int .i64 a0_8]] w fun e w' => e = .returned (.int .i64 r) ∧ Below w.heap.size w w' := by
 have hu32 := Try.underlying32
 have HR0_4 := Aside0.mk hr0_4
 have HC0_4 := Aside0.mk hc0_4
 clear hr0_4 hc0_4
 have HB := am (Below.refl w.heap.size w)
 have H : ((impl_upFault.f k a0_0 a0_1 a0_2 a0_3 l0_4 a0_5 a0_6 a0_7 a0_8).bind fun t320 => (if t320 = 0 then (if a0_2 = 1 then (some t320) else (some 10)) else (some t320))) = some r := h
 clear h
 replace H := Option.bind_eq_some_iff.mp H
 obtain ⟨t320, A20, H⟩ := H
 replace H : (if t320 = 0 then (if a0_2 = 1 then (some t320) else (some 10)) else (some t320)) = some r := H
 have A2 := Aside0.mk A20
 clear A20
 by_cases c3 : t320 = 0
 ·
  rw [if_pos c3] at H
  have c3b0 : (t320 == 0) = true := beq_iff_eq.mpr c3
  have c3b1 : (t320 != 0) = false := bne_eq_false_iff_eq.mpr c3
  clear c3
  by_cases c4 : a0_2 = 1
  ·
   rw [if_pos c4] at H
   have c4b0 : (a0_2 == 1) = true := beq_iff_eq.mpr c4
   have c4b1 : (a0_2 != 1) = false := bne_eq_false_iff_eq.mpr c4
   clear c4
   obtain rfl := Option.some.inj H
   go_enter Try.func60, Try.ntmps60
   go_wp2_with (first | ((with_reducible refine gate_dst (N := 1) rfl ?_); refine boxE #[.int .i64 a0_0, .bool a0_1, .int .i64 a0_2, .int .i64 a0_3, .slice A0_4 l0_4.length c0_4, .int .i64 a0_5, .int .i64 a0_6, .int .i64 a0_7, .int .i64 a0_8] 32 (N := 1) rfl rfl ?_; intro gb319 hg w5 hbox hb; have BK319 := Aside0.mk hbox; have GW319 := gZ HB hg; have GE319 := gZ HB hg; replace HB := bS HB hb; clear hb hbox hg; have hz6 := cl9 BK319) | ((with_reducible refine gate_callee (f := 79) rfl ?_); refine goA (some 5) rfl rfl Try.func79 rfl #[.agg #[.int .i64 a0_0, .bool a0_1, .int .i64 a0_2, .int .i64 a0_3, .slice A0_4 l0_4.length c0_4, .int .i64 a0_5, .int .i64 a0_6, .int .i64 a0_7, .int .i64 a0_8]] rfl ?_; (with_reducible refine (impl_upFault.calls k a0_0 a0_1 a0_2 a0_3 _ _ l0_4 a0_5 a0_6 a0_7 a0_8 t320 _ ?side1 ?side2 A2.out).mono ?_); (case side1 => exact mC HR0_4 HB); (case side2 => exact HC0_4.out); rintro e w7 ⟨rfl, hb⟩; refine ⟨_, rfl, ?_⟩; replace BK319 := bK BK319 hb; replace HB := bS HB hb; (try clear hb); (try clear hb2); (try clear hk); (try clear hi); have hz8 := cl9 BK319))
   go_ret
   exact ⟨by first | rfl | (simp [errW_none, errW_some] <;> rfl) | (simp [*, errW_none, errW_some] <;> rfl), bel HB⟩
  rw [if_neg c4] at H
  have c4b0 : (a0_2 == 1) = false := beq_eq_false_iff_ne.mpr c4
  have c4b1 : (a0_2 != 1) = true := bne_iff_ne.mpr c4
  obtain rfl := Option.some.inj H
  go_enter Try.func60, Try.ntmps60
  go_wp2_with (first | ((with_reducible refine gate_dst (N := 1) rfl ?_); refine boxE #[.int .i64 a0_0, .bool a0_1, .int .i64 a0_2, .int .i64 a0_3, .slice A0_4 l0_4.length c0_4, .int .i64 a0_5, .int .i64 a0_6, .int .i64 a0_7, .int .i64 a0_8] 32 (N := 1) rfl rfl ?_; intro gb319 hg w9 hbox hb; have BK319 := Aside0.mk hbox; have GW319 := gZ HB hg; have GE319 := gZ HB hg; replace HB := bS HB hb; clear hb hbox hg; have hz10 := cl9 BK319) | ((with_reducible refine gate_callee (f := 79) rfl ?_); refine goA (some 5) rfl rfl Try.func79 rfl #[.agg #[.int .i64 a0_0, .bool a0_1, .int .i64 a0_2, .int .i64 a0_3, .slice A0_4 l0_4.length c0_4, .int .i64 a0_5, .int .i64 a0_6, .int .i64 a0_7, .int .i64 a0_8]] rfl ?_; (with_reducible refine (impl_upFault.calls k a0_0 a0_1 a0_2 a0_3 _ _ l0_4 a0_5 a0_6 a0_7 a0_8 t320 _ ?side1 ?side2 A2.out).mono ?_); (case side1 => exact mC HR0_4 HB); (case side2 => exact HC0_4.out); rintro e w11 ⟨rfl, hb⟩; refine ⟨_, rfl, ?_⟩; replace BK319 := bK BK319 hb; replace HB := bS HB hb; (try clear hb); (try clear hb2); (try clear hk); (try clear hi); have hz12 := cl9 BK319))
  go_ret
  exact ⟨by first | rfl | (simp [errW_none, errW_some] <;> rfl) | (simp [*, errW_none, errW_some] <;> rfl), bel HB⟩
 rw [if_neg c3] at H
 have c3b0 : (t320 == 0) = false := beq_eq_false_iff_ne.mpr c3
 have c3b1 : (t320 != 0) = true := bne_iff_ne.mpr c3
 obtain rfl := Option.some.inj H
 go_enter Try.func60, Try.ntmps60
 go_wp2_with (first | ((with_reducible refine gate_dst (N := 1) rfl ?_); refine boxE #[.int .i64 a0_0, .bool a0_1, .int .i64 a0_2, .int .i64 a0_3, .slice A0_4 l0_4.length c0_4, .int .i64 a0_5, .int .i64 a0_6, .int .i64 a0_7, .int .i64 a0_8] 32 (N := 1) rfl rfl ?_; intro gb319 hg w13 hbox hb; have BK319 := Aside0.mk hbox; have GW319 := gZ HB hg; have GE319 := gZ HB hg; replace HB := bS HB hb; clear hb hbox hg; have hz14 := cl9 BK319) | ((with_reducible refine gate_callee (f := 79) rfl ?_); refine goA (some 5) rfl rfl Try.func79 rfl #[.agg #[.int .i64 a0_0, .bool a0_1, .int .i64 a0_2, .int .i64 a0_3, .slice A0_4 l0_4.length c0_4, .int .i64 a0_5, .int .i64 a0_6, .int .i64 a0_7, .int .i64 a0_8]] rfl ?_; (with_reducible refine (impl_upFault.calls k a0_0 a0_1 a0_2 a0_3 _ _ l0_4 a0_5 a0_6 a0_7 a0_8 t320 _ ?side1 ?side2 A2.out).mono ?_); (case side1 => exact mC HR0_4 HB); (case side2 => exact HC0_4.out); rintro e w15 ⟨rfl, hb⟩; refine ⟨_, rfl, ?_⟩; replace BK319 := bK BK319 hb; replace HB := bS HB hb; (try clear hb); (try clear hb2); (try clear hk); (try clear hi)))
 go_ret
 exact ⟨by first | rfl | (simp [errW_none, errW_some] <;> rfl) | (simp [*, errW_none, errW_some] <;> rfl), bel HB⟩

/-! ### slices_Clone_byte_byte: function 63 -/
def slices_Clone_byte_byte.f (l0 : List Int) : Option (List Int) := (some (([] : List Int) : List Int)).bind fun y321 => (if y321.length + l0.length < 140737488355328 then (some (y321 ++ l0)) else (none))
set_option maxHeartbeats 8000000 in
set_option maxRecDepth 100000 in
theorem slices_Clone_byte_byte.calls (A0 : Option Addr) (c0 : Nat) (l0 : List Int) (r : List Int) (w : World) (hr0 : Kd.C (Kd.int .u8) w A0 l0.length l0) (hc0 : l0.length ≤ c0) (h : slices_Clone_byte_byte.f l0 = some r) :
  Calls Try.prog 63 #[.slice A0 l0.length c0] w fun e w' => ∃ v0_ : Value, e = .returned (v0_) ∧ Kd.R (Kd.int .u8) 5 w' w.heap.size (fun _ => True) v0_ r ∧ Below w.heap.size w w' := by
 cases hnil_ : A0.isNone
 rotate_left
 ·
  have hA_ : A0 = none := by cases A0 <;> simp_all
  subst hA_
  have hl_ : l0 = [] := nilList hr0
  subst hl_
  have hr_ : r = [] := by simpa [slices_Clone_byte_byte.f] using h.symm
  subst hr_
  have hq_ := fun (w : World) (c : Nat) => Lib.run_eql_slice_nil (P := Try.prog) w 25 5 none 0 c 0 0 Try.underlying25
  go_enter Try.func63, Try.ntmps63
  go_wp2
  go_ret
  exact ⟨_, rfl, by first | exact Kd.R_nil _ _ _ _ _ | exact Kd.S_nil _ _ _ _ _ | exact Kd.N_nil _ _ _ _ _ | exact Kd.V_nil _ _ _ _ _, Below.refl _ _⟩
 have hq_ := fun (w : World) => (Lib.run_eql_slice_nil (P := Try.prog) w 25 5 A0 l0.length c0 0 0 Try.underlying25).trans (by rw [hnil_])
 clear hnil_
 have HR0 := Aside0.mk hr0
 have HC0 := Aside0.mk hc0
 clear hr0 hc0
 have HB := am (Below.refl w.heap.size w)
 have H : ((some (([] : List Int) : List Int)).bind fun y321 => (if y321.length + l0.length < 140737488355328 then (some (y321 ++ l0)) else (none))) = some r := h
 clear h
 obtain ⟨y321, hy321⟩ : ∃ y_ : List Int, y_ = (([] : List Int)) := ⟨_, rfl⟩
 replace H : (if y321.length + l0.length < 140737488355328 then (some (y321 ++ l0)) else (none)) = some r := by first | (rw [hy321]; with_reducible exact H) | (have H2_ := (Option.bind_some _ _).symm.trans H; rw [hy321]; with_reducible exact H2_) | (have H2_ := (Option.bind_some _ _).symm.trans H; with_reducible exact H2_) | with_reducible exact H | (rw [hy321]; exact H) | exact H
 have Ny321 := Aside0.mk hy321
 clear hy321
 by_cases c2 : y321.length + l0.length < 140737488355328
 ·
  rw [if_pos c2] at H
  have LMc2 := Aside0.mk c2
  clear c2
  obtain ⟨y324, hy324⟩ : ∃ y_ : List Int, y_ = (y321 ++ l0) := ⟨_, rfl⟩
  replace H : (some y324) = some r := by first | (rw [hy324]; with_reducible exact H) | (have H2_ := (Option.bind_some _ _).symm.trans H; rw [hy324]; with_reducible exact H2_) | (have H2_ := (Option.bind_some _ _).symm.trans H; with_reducible exact H2_) | with_reducible exact H | (rw [hy324]; exact H) | exact H
  have Ny324 := Aside0.mk hy324
  clear hy324
  obtain rfl := Option.some.inj H
  go_enter Try.func63, Try.ntmps63
  go_wp2_with (first | ((with_reducible refine gate_dst (N := 5) rfl ?_); refine Kd.R_lit (Kd.int .u8) _ 5 ?hg (N := 5) ?hd (xs := ([] : List Int)) (inner := []) (ok := fun _ => True) (okp := fun _ => True) ?hr ?hp (fun _ hk => hk) trivial (Below.refl _ _) (Nat.le_refl _) (by simp) ?_; (case hd => rfl); (case hg => rfl); (case hr => first | (go_simp; done) | (go_simp; rfl)); (case hp => exact (Reps.none _ _)); intro v322 w3 ho4 hb hg_ hnew_; clear hg_ hnew_; (first | rw [← Ny321.out] at ho4 | (simp only [Int.reduceToNat] at ho4; rw [← Ny321.out] at ho4)); have HO323 := am (Kd.R_lower ho4 (below_size (bel HB))); replace HB := bS HB hb; clear hb ho4) | ((with_reducible refine gate_builtin (b := .append) (xs := #[.tmp 5, .tmp 6]) rfl ?_); at_builtin; refine Kd.R_append_rows (Kd.int .u8) (w0 := w) w.heap.size rfl (.tmp 5) (.tmp 6) 25 5 (.int .u8 0) 1 rfl Try.underlying25 info5 rfl (by decide) (by omega) v322 y321 l0 _ _ _ (fun _ => True) (fun _ => False) rfl rfl ?aO ?aR (fun _ _ h => h) (fun _ h => h.elim) ?aF ?aB ?aS ?aL ?_; (case aR => repeat (first | exact (Kd.C_below HR0.out HB.out) | (with_reducible refine Kd.C_alloc ?_ _) | (with_reducible refine Kd.C_drewN ?_ _) | (with_reducible refine Kd.C_drew ?_))); (case aB => exact (bel HB)); (case aF => exact (fun _ _ => trivial)); (case aO => exact (mR HO323)); (case aS => exact (below_size (bel HB))); (case aL => have := LMc2.out; omega); intro v325 w5 ho hb hg hat; rw [← Ny324.out] at ho; replace HB := Aside0.mk hb; have HO326 := Aside0.mk ho; clear HO323; clear ho hb hg hat))
  go_ret
  exact ⟨_, by first | rfl | (simp [errW_none, errW_some] <;> rfl) | (simp [*, errW_none, errW_some] <;> rfl), by (with_reducible repeat (first | apply Kd.R_alloc | apply Kd.R_drewN | apply Kd.R_drew)); exact HO326.out, bel HB⟩
 rw [if_neg c2] at H
 exact absurd H (by simp)

/-! ### impl_Entry_118: function 118 -/
def impl_Entry_118.f (l0 : List (S55)) : Option ((List (S55))) := (some (([] : List (S55)) : List (S55))).bind fun y327 => (if y327.length + l0.length < 2932031007402 then (some (y327 ++ l0)) else (none))
set_option maxHeartbeats 8000000 in
set_option maxRecDepth 100000 in
theorem impl_Entry_118.calls (P0_ : Nat → Prop) (A0 : Option Addr) (c0 : Nat) (l0 : List (S55)) (r : List (S55)) (w : World) (hs0 : Kd.V k55 55 w w.heap.size (fun k_ => P0_ k_) (.slice A0 l0.length c0) l0) (h : impl_Entry_118.f l0 = some r) :
  Calls Try.prog 118 #[.slice A0 l0.length c0] w fun e w' => ∃ v0_ : Value, e = .returned (v0_) ∧ Kd.N k55 55 w' w.heap.size (fun k_ => (P0_ k_ ∨ w.heap.size ≤ k_)) v0_ r ∧ Below w.heap.size w w' := by
 cases hnil_ : A0.isNone
 rotate_left
 ·
  have hA_ : A0 = none := by cases A0 <;> simp_all
  subst hA_
  have hl_ : l0 = [] := nilList (Kd.V_reads' hs0).2.2
  subst hl_
  have hr_ : r = [] := by simpa [impl_Entry_118.f] using h.symm
  subst hr_
  have hq_ := fun (w : World) (c : Nat) => Lib.run_eql_slice_nil (P := Try.prog) w 30 55 none 0 c 0 0 Try.underlying30
  go_enter Try.func118, Try.ntmps118
  go_wp2
  go_ret
  exact ⟨_, rfl, by first | exact Kd.R_nil _ _ _ _ _ | exact Kd.S_nil _ _ _ _ _ | exact Kd.N_nil _ _ _ _ _ | exact Kd.V_nil _ _ _ _ _, Below.refl _ _⟩
 have hq_ := fun (w : World) => (Lib.run_eql_slice_nil (P := Try.prog) w 30 55 A0 l0.length c0 0 0 Try.underlying30).trans (by rw [hnil_])
 clear hnil_
 have HO0 := am (show Kd.V k55 55 w w.heap.size (fun k_ => (P0_ k_ ∨ w.heap.size ≤ k_)) (.slice A0 l0.length c0) l0 from Kd.V_mono hs0 (fun k_ hk => .inl hk))
 have HB := am (Below.refl w.heap.size w)
 have H : ((some (([] : List (S55)) : List (S55))).bind fun y327 => (if y327.length + l0.length < 2932031007402 then (some (y327 ++ l0)) else (none))) = some r := h
 clear h
 obtain ⟨y327, hy327⟩ : ∃ y_ : List (S55), y_ = (([] : List (S55))) := ⟨_, rfl⟩
 replace H : (if y327.length + l0.length < 2932031007402 then (some (y327 ++ l0)) else (none)) = some r := by first | (rw [hy327]; with_reducible exact H) | (have H2_ := (Option.bind_some _ _).symm.trans H; rw [hy327]; with_reducible exact H2_) | (have H2_ := (Option.bind_some _ _).symm.trans H; with_reducible exact H2_) | with_reducible exact H | (rw [hy327]; exact H) | exact H
 have Ny327 := Aside0.mk hy327
 clear hy327
 by_cases c2 : y327.length + l0.length < 2932031007402
 ·
  rw [if_pos c2] at H
  have LMc2 := Aside0.mk c2
  clear c2
  obtain ⟨y330, hy330⟩ : ∃ y_ : List (S55), y_ = (y327 ++ l0) := ⟨_, rfl⟩
  replace H : (some y330) = some r := by first | (rw [hy330]; with_reducible exact H) | (have H2_ := (Option.bind_some _ _).symm.trans H; rw [hy330]; with_reducible exact H2_) | (have H2_ := (Option.bind_some _ _).symm.trans H; with_reducible exact H2_) | with_reducible exact H | (rw [hy330]; exact H) | exact H
  have Ny330 := Aside0.mk hy330
  clear hy330
  obtain rfl := Option.some.inj H
  go_enter Try.func118, Try.ntmps118
  go_wp2_with (first | ((with_reducible refine gate_dst (N := 5) rfl ?_); refine Kd.N_lit k55 _ 55 ?hg (N' := 5) ?hd (xs := ([] : List (S55))) (inner := []) (ok := (fun k_ => (P0_ k_ ∨ w.heap.size ≤ k_))) (okp := (fun k_ => (P0_ k_ ∨ w.heap.size ≤ k_))) ?hr ?hp (fun _ hk => hk) ((show ∀ k_, w.heap.size ≤ k_ → (fun k_ => (P0_ k_ ∨ w.heap.size ≤ k_)) k_ from fun k_ hk => (.inr (Nat.le_trans (below_size (bel HB)) hk))) _ (Nat.le_refl _)) (Below.refl _ _) (Nat.le_refl _) (by simp) ?_; (case hd => rfl); (case hg => rfl); (case hr => first | (go_simp; done) | (go_simp; rfl)); (case hp => exact (Reps.none _ _)); intro v328 w3 ho4 hb hg_ hnew_; clear hg_ hnew_; (first | rw [← Ny327.out] at ho4 | (simp only [Int.reduceToNat] at ho4; rw [← Ny327.out] at ho4)); replace HO0 := am (Kd.V_elder' (mV HO0) (Kd.N_base ho4) hb); have HO329 := am (Kd.N_lower ho4 (below_size (bel HB))); replace HB := bS HB hb; clear hb ho4) | ((with_reducible refine gate_builtin (b := .append) (xs := #[.tmp 5, .tmp 6]) rfl ?_); at_builtin; refine Kd.N_append_rows k55 (w0 := w) w.heap.size rfl (.tmp 5) (.tmp 6) 30 55 (.agg #[(.int .i64 0), (.int .i64 0), (.int .i64 0), (.slice none 0 0)]) 48 rfl Try.underlying30 info55 rfl (by decide) (by omega) v328 y327 l0 _ _ _ (fun k_ => (P0_ k_ ∨ w.heap.size ≤ k_)) (fun k_ => ((fun k_ => (P0_ k_ ∨ w.heap.size ≤ k_))) k_ ∧ some k_ ≠ (v328 : Value).ownBlock) rfl rfl ?aO ?aR (fun _ hk => hk) ?aF ?aB ?aS ?aL ?_; (case aR => exact (by skip; exact Kd.V_F (Kd.V_mono (ok' := (fun k_ => ((fun k_ => (P0_ k_ ∨ w.heap.size ≤ k_))) k_ ∧ some k_ ≠ (v328 : Value).ownBlock)) (HO0.out) (fun k_ hk => ⟨hk.1, hk.2⟩)))); (case aB => exact (bel HB)); (case aF => exact (fun k_ hk => (.inr (Nat.le_trans (below_size (bel HB)) hk)))); (case aO => exact (mN HO329)); (case aS => exact (below_size (bel HB))); (case aL => have := LMc2.out; omega); intro v331 w5 ho hb hg hat; rw [← Ny330.out] at ho; replace HO0 := am (Kd.V_afterv (ok := (fun k_ => (P0_ k_ ∨ w.heap.size ≤ k_))) (mV HO0) hg hat); replace HB := Aside0.mk hb; have HO332 := Aside0.mk ho; clear HO329; clear ho hb hg hat))
  go_ret
  exact ⟨_, by first | rfl | (simp [errW_none, errW_some] <;> rfl) | (simp [*, errW_none, errW_some] <;> rfl), by (with_reducible repeat (first | apply Kd.N_alloc | apply Kd.N_drewN | apply Kd.N_drew)); exact HO332.out, bel HB⟩
 rw [if_neg c2] at H
 exact absurd H (by simp)

/-! ### impl_copiedEntries: function 75 -/
def impl_copiedEntries.f (l0 : List S55) : Option (List S55) := if l0.length < 2932031007402 ∧ (∀ x ∈ l0, x.f1.f2.length < 140737488355328) then some l0 else none
/-- What holds ahead of round i: the copies below i have bytes of their own (f tells whose a block is), the others lead to what came in. -/
def impl_copiedEntries.Inv (l0 : List S55) (base : Nat) (v : Value) (i : Nat) (W : World) : Prop :=
 ∃ (rows : List (List Value)) (f : Nat → Nat), rows.length = l0.length ∧ (Kd.raw 4).R 55 W base (fun _ => True) v rows ∧
  ∀ (j : Nat) (x : S55) (c : List Value), l0[j]? = some x → rows[j]? = some c → (j < i → k55.M W base (fun k => some k ≠ v.ownBlock ∧ f k = j) x c) ∧ (i ≤ j → Kd.FK k55 W (fun k => some k ≠ v.ownBlock) x c)
theorem impl_copiedEntries.inv_start {l0 : List S55} {w1 : World} {base : Nat} {ok : Nat → Prop} {v : Value} (h : Kd.N k55 55 w1 base ok v l0) : impl_copiedEntries.Inv l0 base v 0 w1 := by
 obtain ⟨_, rows, hl, hR, hf⟩ := h
 exact ⟨rows, fun _ => 0, hl, Kd.R_mono hR (fun _ _ => trivial), fun j x c hx hc => ⟨fun h => absurd h (Nat.not_lt_zero _), fun _ => Kd.FK_mono (hf j x c hx hc) (fun _ hk => hk.2)⟩⟩
theorem impl_copiedEntries.inv_end {l0 : List S55} {W : World} {base : Nat} {v : Value} {i : Nat} (h : impl_copiedEntries.Inv l0 base v i W) (hi : l0.length ≤ i) : Kd.S k55 55 W base (fun _ => True) v l0 := by
 obtain ⟨rows, f, hl, hR, hall⟩ := h
 obtain ⟨_, inner, ho, hr⟩ := hR
 refine ⟨f, fun _ _ => trivial, inner, by rw [List.length_zipIdx, ← hl]; exact ho, by have := hr.1; rw [hl] at this; rw [List.length_zipIdx]; exact this, fun j p hj => ?_⟩
 rw [List.getElem?_zipIdx, Nat.zero_add] at hj
 obtain ⟨x, hx, rfl⟩ := Option.map_eq_some_iff.1 hj
 have hjl : j < l0.length := (List.getElem?_eq_some_iff.1 hx).1
 have hc : rows[j]? = some (rows[j]'(by omega)) := List.getElem?_eq_getElem (by omega)
 have h1 := (hall j x _ hx hc).1 (by omega)
 have h2 : (inner.drop (j * 4)).take 4 = rows[j]'(by omega) := (hr.2 j _ hc).1
 show k55.M W base _ x ((inner.drop (j * 4)).take 4)
 rw [h2]
 exact k55.M_mono (fun k hk => ⟨⟨trivial, hk.1⟩, hk.2⟩) h1
/-- Element i's cells, and what they lead to. -/
theorem impl_copiedEntries.inv_at {l0 : List S55} {W : World} {base g n cap : Nat} {i : Int} (h : impl_copiedEntries.Inv l0 base (.slice (some ⟨g, 0, none⟩) n cap) i.toNat W) (h0 : 0 ≤ i) (h1 : i < (l0.length : Int)) (hn : n = l0.length) :
  ∃ A c, W.cell? ⟨g, i.toNat * 4, none⟩ = some (.int .i64 (rd_T55 l0 i).f0) ∧ W.cell? ⟨g, i.toNat * 4 + 1, none⟩ = some (.int .i64 (rd_T55 l0 i).f1.f0) ∧ W.cell? ⟨g, i.toNat * 4 + 2, none⟩ = some (.int .i64 (rd_T55 l0 i).f1.f1) ∧ W.cell? ⟨g, i.toNat * 4 + 3, none⟩ = some (.slice A (rd_T55 l0 i).f1.f2.length c) ∧
   W.frozen? ⟨g, i.toNat * 4 + 3, none⟩ = false ∧ (rd_T55 l0 i).f1.f2.length ≤ c ∧ (Kd.int .u8).C W A (rd_T55 l0 i).f1.f2.length (rd_T55 l0 i).f1.f2 := by
 obtain ⟨rows, f, hl, hR, hall⟩ := h
 obtain ⟨c, hcl, hM, hcc, hfr⟩ := Kd.R_elem hR [] i h0 (by omega)
 have hil : i.toNat < l0.length := by omega
 have hx : l0[i.toNat]? = some (rd_T55 l0 i) := by
  unfold rd_T55
  rw [List.getD_eq_getElem?_getD, List.getElem?_eq_getElem hil]; rfl
 have hc : rows[i.toNat]? = some c := by
  have h2 : c = rows.getD i.toNat [] := hM.1
  rw [h2, List.getD_eq_getElem?_getD, List.getElem?_eq_getElem (by omega)]; rfl
 obtain ⟨A, cc, hcs, hlen, hC⟩ := k55_open (Kd.FK_now ((hall _ _ _ hx hc).2 (Nat.le_refl _)))
 subst hcs
 exact ⟨A, cc, hcc 0 _ rfl, hcc 1 _ rfl, hcc 2 _ rfl, hcc 3 _ rfl, hfr 3, hlen, hC⟩
theorem impl_copiedEntries.inv_below {l0 : List S55} {W W2 : World} {base : Nat} {v : Value} {i : Nat} (h : impl_copiedEntries.Inv l0 base v i W) (hb : Below W.heap.size W W2) : impl_copiedEntries.Inv l0 base v i W2 := by
 obtain ⟨rows, f, hl, hR, hall⟩ := h
 exact ⟨rows, f, hl, Kd.R_below hR hb, fun j x c hx hc => ⟨fun hj => Kd.M_below ((hall j x c hx hc).1 hj) hb, fun hj => Kd.FK_step ((hall j x c hx hc).2 hj) (fun k _ hlt => hb.block k hlt)⟩⟩
/-- The round's store. -/
theorem impl_copiedEntries.inv_step {l0 : List S55} {W W2 : World} {base g n cap b2 : Nat} {i : Int} {v5 : Value} (h : impl_copiedEntries.Inv l0 base (.slice (some ⟨g, 0, none⟩) n cap) i.toNat W) (hb : Below W.heap.size W W2) (h0 : 0 ≤ i) (h1 : i < (l0.length : Int)) (hn : n = l0.length) (hbase : base ≤ W.heap.size) (hb2 : W.heap.size ≤ b2)
  (h5 : (Kd.int .u8).R 5 W2 b2 (fun _ => True) v5 (rd_T55 l0 i).f1.f2) : impl_copiedEntries.Inv l0 base (.slice (some ⟨g, 0, none⟩) n cap) (i + 1).toNat (W2.setCell ⟨g, i.toNat * 4 + 3, none⟩ v5) := by
 have hsave := h
 obtain ⟨rows, f, hl, hR, hall⟩ := h
 have hglt : g < W.heap.size := Kd.R_lt hR g (by simp [Value.ownBlock])
 have hR2 := Kd.R_below hR hb
 obtain ⟨c, hcl, hM, hcc, hfr⟩ := Kd.R_elem hR2 [] i h0 (by omega)
 have hil : i.toNat < l0.length := by omega
 have hx : l0[i.toNat]? = some (rd_T55 l0 i) := by
  unfold rd_T55
  rw [List.getD_eq_getElem?_getD, List.getElem?_eq_getElem hil]; rfl
 have hc : rows[i.toNat]? = some c := by
  have h2 : c = rows.getD i.toNat [] := hM.1
  rw [h2, List.getD_eq_getElem?_getD, List.getElem?_eq_getElem (by omega)]; rfl
 obtain ⟨A, cc, hcs, hlen, hC⟩ := k55_open (Kd.FK_now ((hall _ _ _ hx hc).2 (Nat.le_refl _)))
 have hone : v5.oneCell' = true := (Kd.R_val h5).2
 subst hcs
 obtain ⟨hR3, _⟩ := Kd.R_seg (d := Kd.raw 4) hR2 i h0 (by omega) (c := [.int .i64 (rd_T55 l0 i).f0, .int .i64 (rd_T55 l0 i).f1.f0, .int .i64 (rd_T55 l0 i).f1.f1, .slice A (rd_T55 l0 i).f1.f2.length cc]) (seg := [v5]) (j := 3) (okp := fun _ => False) (x' := [.int .i64 (rd_T55 l0 i).f0, .int .i64 (rd_T55 l0 i).f1.f0, .int .i64 (rd_T55 l0 i).f1.f1, v5]) hcl hcc (by show 3 + 1 ≤ 4; omega)
  ⟨rfl, rfl, fun u hu => by
   rcases List.mem_cons.1 hu with rfl | hu
   ·
    rfl
   rcases List.mem_cons.1 hu with rfl | hu
   ·
    rfl
   rcases List.mem_cons.1 hu with rfl | hu
   ·
    rfl
   rcases List.mem_cons.1 hu with rfl | hu
   ·
    exact hone
   cases hu⟩ (fun _ hk => hk.elim)
 have e1 : (i + 1).toNat = i.toNat + 1 := by omega
 refine ⟨rows.set i.toNat [.int .i64 (rd_T55 l0 i).f0, .int .i64 (rd_T55 l0 i).f1.f0, .int .i64 (rd_T55 l0 i).f1.f1, v5], fun k => if W.heap.size ≤ k then i.toNat else f k, by rw [List.length_set]; exact hl, hR3, fun j x cj hj hcj => ?_⟩
 rw [e1]
 have hset : ∀ k, k ≠ g → (W2.setCell ⟨g, i.toNat * 4 + 3, none⟩ v5).heap[k]? = W2.heap[k]? := fun k hk => Below.heap_setCell W2 ⟨g, i.toNat * 4 + 3, none⟩ v5 k hk
 by_cases hji : j = i.toNat
 ·
  subst hji
  rw [List.getElem?_set_self (by omega)] at hcj
  injection hcj with hcj
  rw [hx] at hj
  injection hj with hj
  subst hj
  subst hcj
  refine ⟨fun _ => ?_, fun h => by omega⟩
  refine k55_mkM _ _ _ _ (Kd.R_lower (Kd.R_mono (Kd.R_far (Kd.R_mono (ok' := fun k => W.heap.size ≤ k) (Kd.R_bound h5) (fun k hk => Nat.le_trans hb2 hk.2.1)) (p := ⟨g, i.toNat * 4 + 3, none⟩) (fun k hk => by show k ≠ g; omega) v5) (fun k hk => ⟨fun he => ?_, if_pos hk⟩)) (Nat.le_trans hbase hb2))
  simp [Value.ownBlock] at he
  omega
 rw [List.getElem?_set_ne (Ne.symm hji)] at hcj
 have h3 := hall j x cj hj hcj
 refine ⟨fun hlt => ?_, fun hle => Kd.FK_step (h3.2 (by omega)) (fun k hk hlt => ?_)⟩
 have h4 := k55.M_bound (h3.1 (by omega))
 refine k55.M_mono (fun k hk => ⟨hk.1.1, ?_⟩) (k55.M_move (fun k hk => ?_) h4)
 ·
  show (if W.heap.size ≤ k then i.toNat else f k) = j
  rw [if_neg (by have := hk.2.2.1; omega)]; exact hk.1.2
 ·
  have hkg : k ≠ g := fun he => hk.1.1 (by simp [Value.ownBlock, he])
  rw [hset k hkg]
  exact hb.block k hk.2.2.1
 rw [hset k (fun he => hk (by simp [Value.ownBlock, he]))]
 exact hb.block k hlt
set_option maxHeartbeats 8000000 in
set_option maxRecDepth 100000 in
theorem impl_copiedEntries.calls (A0 : Option Addr) (c0 : Nat) (l0 : List (S55)) (r : List (S55)) (w : World) (hr0 : Kd.C k55 w A0 l0.length l0) (hc0 : l0.length ≤ c0) (h : impl_copiedEntries.f l0 = some r) :
  Calls Try.prog 75 #[.slice A0 l0.length c0] w fun e w' => ∃ v0_ : Value, e = .returned (v0_) ∧ Kd.S k55 55 w' w.heap.size (fun _ => True) v0_ r ∧ Below w.heap.size w w' := by
 have hu51 := Try.underlying55
 have hu49 := Try.underlying38
 have hb : (l0.length < 2932031007402 ∧ (∀ x ∈ l0, x.f1.f2.length < 140737488355328)) ∧ l0 = r := by
  unfold impl_copiedEntries.f at h
  split at h
  ·
   rename_i hh; exact ⟨hh, Option.some.inj h⟩
  cases h
 obtain ⟨⟨hb1, hb2⟩, rfl⟩ := hb
 clear h
 have HB2 := Aside0.mk hb2
 clear hb2
 have hV : Kd.V k55 55 w w.heap.size (fun k_ => k_ < w.heap.size) (.slice A0 l0.length c0) l0 := Kd.V_mk hc0 (Kd.F_mono (Kd.C_F k55_heap hr0) (fun k hk => hk))
 have HV := Aside0.mk hV
 clear hV hr0 hc0
 have HF := am (show impl_Entry_118.f l0 = some l0 by unfold impl_Entry_118.f; simp only [Option.bind_some, List.length_nil, Nat.zero_add, List.nil_append]; rw [if_pos hb1])
 have HLB := Aside0.mk hb1
 clear hb1
 have HB := am (Below.refl w.heap.size w)
 go_enter Try.func75, Try.ntmps75
 go_wp2_with (first | ((with_reducible refine gate_callee (f := 118) rfl ?_); refine goA (some 7) rfl rfl Try.func118 rfl #[.slice A0 l0.length c0] rfl ?_; (refine (impl_Entry_118.calls (fun k_ => k_ < w.heap.size) _ _ l0 l0 _ ?side1 HF.out).mono ?_); (case side1 => exact HV.out); rintro e w1 ⟨v1, rfl, ho1, hb1⟩; refine ⟨_, rfl, ?_⟩; have HI := am (impl_copiedEntries.inv_start ho1); have HL := am (Kd.N_reads ho1); have HB1 := Aside0.mk hb1; have HN1 := am (Kd.N_base ho1); clear ho1 hb1; obtain ⟨A1, c1, rfl, hc1, _⟩ := HL.out; clear HL; have HC1 := Aside0.mk hc1; clear hc1))
 go_loopg [10] l0.length (fun kq v10 w' => ∃ (z : Int), v10 = .int .i64 z ∧ Aside0 (0 ≤ z) ∧ Aside0 (z + kq = l0.length) ∧ Aside0 (impl_copiedEntries.Inv l0 w.heap.size (.slice A1 l0.length c1) z.toNat w') ∧ Aside0 (Below w.heap.size w w'))
 case atStart => exact ⟨0, rfl, ⟨by omega⟩, ⟨by omega⟩, HI, HB1⟩
 case round =>
  obtain ⟨z, rfl, HZ, HM, HI2, HB3⟩ := hrel
  clear HI HB HB1
  by_cases c4 : z < (l0.length : Int)
  ·
   have c4b0 : decide (z < (l0.length : Int)) = true := decide_eq_true c4
   have HC4 := Aside0.mk c4
   clear c4
   have p4 : (0 ≤ z) = True := eq_true HZ.out
   have q4 : (z < (l0.length : Int)) = True := eq_true HC4.out
   have hform : ∃ g, A1 = some ⟨g, 0, none⟩ ∧ w.heap.size ≤ g := by
    obtain ⟨rows, f, hl, hR, _⟩ := HI2.out
    obtain ⟨g, cap, he, hg, _⟩ := Kd.R_form hR (by have := HC4.out; have := HZ.out; omega)
    injection he with e1 _ _
    exact ⟨g, e1, hg⟩
   obtain ⟨g, rfl, hg⟩ := hform
   have GEg := Aside0.mk hg
   clear hg
   obtain ⟨A3, c3, hx0, hx1, hx2, hx3, hf3, hl3, hC3⟩ := impl_copiedEntries.inv_at HI2.out HZ.out HC4.out rfl
   have HL3 := Aside0.mk hl3
   have HR3 := Aside0.mk hC3
   clear hl3 hC3
   have HFB := am (show slices_Clone_byte_byte.f (rd_T55 l0 z).f1.f2 = some (rd_T55 l0 z).f1.f2 by
    have hm : rd_T55 l0 z ∈ l0 := by
     have := HC4.out
     have := HZ.out
     unfold rd_T55
     rw [List.getD_eq_getElem?_getD, List.getElem?_eq_getElem (by omega)]
     exact List.getElem_mem _
    unfold slices_Clone_byte_byte.f; simp only [Option.bind_some, List.length_nil, Nat.zero_add, List.nil_append]; rw [if_pos (HB2.out _ hm)])
   have HBr := am (Below.refl wr.heap.size wr)
   have HB4 := HB3
   go_wp2_with (first | ((with_reducible refine gate_dst (N := 5) rfl ?_); refine boxE #[.int .i64 0, .int .i64 0, .int .i64 0, .slice none 0 0] 55 (N := 5) rfl rfl ?_; intro gb hg w3 hbox hb; have BKb := Aside0.mk hbox; have GEb := gZ HBr hg; have GEw := gZ HB3 hg; replace HBr := bS HBr hb; replace HB3 := bS HB3 hb; clear hbox hb hg; have hzb := cl4 BKb) | ((with_reducible refine gate_callee (f := 63) rfl ?_); refine goA (some 20) rfl rfl Try.func63 rfl #[.slice A3 (rd_T55 l0 z).f1.f2.length c3] rfl ?_; (with_reducible refine (slices_Clone_byte_byte.calls _ _ (rd_T55 l0 z).f1.f2 (rd_T55 l0 z).f1.f2 _ ?side1 ?side2 HFB.out).mono ?_); (case side1 => exact Kd.C_below HR3.out (bel HBr)); (case side2 => exact HL3.out); rintro e w5 ⟨v5, rfl, ho5, hb5⟩; refine ⟨_, rfl, ?_⟩; have HSZ := am (below_size (bel HBr) : wr.heap.size ≤ _); have HO5 := Aside0.mk ho5; replace HBr := bS HBr hb5; replace HB3 := bS HB3 hb5; clear ho5 hb5; obtain ⟨A5, c5, rfl⟩ := Kd.R_slice HO5.out; obtain ⟨A6, c6, hy0, hy1, hy2, hy3, hy4, _, _⟩ := impl_copiedEntries.inv_at (impl_copiedEntries.inv_below HI2.out HBr.out) HZ.out HC4.out rfl))
   have hw : wrap64 (z + 1) = z + 1 := by have := HZ.out; have := HC4.out; have := HLB.out; unfold wrap64; omega
   have HW := Aside0.mk hw
   clear hw
   go_roundg (gk - 1)
   case measure => have := HM.out; have := HC4.out; omega
   case rel => exact ⟨wrap64 (z + 1), rfl, ⟨by rw [HW.out]; have := HZ.out; omega⟩, ⟨by rw [HW.out]; have := HM.out; have := HC4.out; omega⟩, ⟨by rw [HW.out]; exact impl_copiedEntries.inv_step HI2.out HBr.out HZ.out HC4.out rfl (below_size HB4.out) (by simpa [World.setCell] using HSZ.out) HO5.out⟩, ⟨bel HB3⟩⟩
  have c4b0 : decide (z < (l0.length : Int)) = false := decide_eq_false c4
  have HC4 := Aside0.mk c4
  clear c4
  go_wp2
  go_ret
  exact ⟨_, rfl, impl_copiedEntries.inv_end HI2.out (by have := HC4.out; omega), HB3.out⟩

/-! ### impl_Node_copied: function 62 -/
def impl_Node_copied.f (a0_0 : Int) (a0_1 : Bool) (a0_2 : Int) (a0_3 : Int) (l0_4 : List (S55)) (a0_5 : Int) (a0_6 : Int) (a0_7 : Int) (a0_8 : Int) : Option (Int × Bool × Int × Int × (List (S55)) × Int × Int × Int × Int) := (impl_copiedEntries.f l0_4).bind fun t335 => (some (a0_0, a0_1, a0_2, a0_3, t335, a0_5, a0_6, a0_7, a0_8))
set_option maxHeartbeats 8000000 in
set_option maxRecDepth 100000 in
theorem impl_Node_copied.calls (a0_0 : Int) (a0_1 : Bool) (a0_2 : Int) (a0_3 : Int) (A0_4 : Option Addr) (c0_4 : Nat) (l0_4 : List (S55)) (a0_5 : Int) (a0_6 : Int) (a0_7 : Int) (a0_8 : Int) (r1 : Int) (r2 : Bool) (r3 : Int) (r4 : Int) (r5 : List (S55)) (r6 : Int) (r7 : Int) (r8 : Int) (r9 : Int) (w : World) (hr0_4 : Kd.C k55 w A0_4 l0_4.length l0_4) (hc0_4 : l0_4.length ≤ c0_4) (h : impl_Node_copied.f a0_0 a0_1 a0_2 a0_3 l0_4 a0_5 a0_6 a0_7 a0_8 = some (r1, r2, r3, r4, r5, r6, r7, r8, r9)) :
  Calls Try.prog 62 #[.agg #[.int .i64 a0_0, .bool a0_1, .int .i64 a0_2, .int .i64 a0_3, .slice A0_4 l0_4.length c0_4, .int .i64 a0_5, .int .i64 a0_6, .int .i64 a0_7, .int .i64 a0_8]] w fun e w' => ∃ v4_ : Value, e = .returned (.agg #[.int .i64 r1, .bool r2, .int .i64 r3, .int .i64 r4, v4_, .int .i64 r6, .int .i64 r7, .int .i64 r8, .int .i64 r9]) ∧ Kd.S k55 55 w' w.heap.size (fun _ => True) v4_ r5 ∧ Below w.heap.size w w' := by
 have hu32 := Try.underlying32
 have HR0_4 := Aside0.mk hr0_4
 have HC0_4 := Aside0.mk hc0_4
 clear hr0_4 hc0_4
 have HB := am (Below.refl w.heap.size w)
 have H : ((impl_copiedEntries.f l0_4).bind fun t335 => (some (a0_0, a0_1, a0_2, a0_3, t335, a0_5, a0_6, a0_7, a0_8))) = some (r1, r2, r3, r4, r5, r6, r7, r8, r9) := h
 clear h
 replace H := Option.bind_eq_some_iff.mp H
 obtain ⟨t335, A20, H⟩ := H
 replace H : (some (a0_0, a0_1, a0_2, a0_3, t335, a0_5, a0_6, a0_7, a0_8)) = some (r1, r2, r3, r4, r5, r6, r7, r8, r9) := H
 have A2 := Aside0.mk A20
 clear A20
 simp only [Option.some.injEq, Prod.mk.injEq] at H
 obtain ⟨rfl, rfl, rfl, rfl, rfl, rfl, rfl, rfl, rfl⟩ := H
 go_enter Try.func62, Try.ntmps62
 go_wp2_with (first | ((with_reducible refine gate_dst (N := 1) rfl ?_); refine boxE #[.int .i64 a0_0, .bool a0_1, .int .i64 a0_2, .int .i64 a0_3, .slice A0_4 l0_4.length c0_4, .int .i64 a0_5, .int .i64 a0_6, .int .i64 a0_7, .int .i64 a0_8] 32 (N := 1) rfl rfl ?_; intro gb333 hg w3 hbox hb; have BK333 := Aside0.mk hbox; have GW333 := gZ HB hg; have GE333 := gZ HB hg; replace HB := bS HB hb; clear hb hbox hg) | ((with_reducible refine gate_dst (N := 2) rfl ?_); refine boxE #[.int .i64 0, .bool false, .int .i64 0, .int .i64 0, .slice none 0 0, .int .i64 0, .int .i64 0, .int .i64 0, .int .i64 0] 32 (N := 2) rfl rfl ?_; intro gb334 hg w4 hbox hb; have BK334 := Aside0.mk hbox; have GW334 := gZ HB hg; have GE334 := gZ HB hg; replace HB := bS HB hb; have NB333_334 := nL BK333 hg; have NB334_333 := nG BK333 hg; replace BK333 := bK BK333 hb; clear hb hbox hg; have hnb5 := NB333_334.out; have hnc5 := NB334_333.out; have hz6 := cl9 BK333) | ((with_reducible refine gate_callee (f := 75) rfl ?_); refine goA (some 5) rfl rfl Try.func75 rfl #[.slice A0_4 l0_4.length c0_4] rfl ?_; (with_reducible refine (impl_copiedEntries.calls _ _ l0_4 t335 _ ?side1 ?side2 A2.out).mono ?_); (case side1 => exact mC HR0_4 HB); (case side2 => exact HC0_4.out); rintro e w7 ⟨v336, rfl, ho0, hb⟩; refine ⟨_, rfl, ?_⟩; have HO337 := am (Kd.S_lower ho0 (below_size (bel HB))); replace BK333 := bK BK333 hb; replace BK334 := bK BK334 hb; replace HB := bS HB hb; (try clear hb); (try clear hb2); (try clear hk); (try clear hi); (try clear ho0); obtain ⟨Ao8, co8, eo8⟩ := Kd.S_slice HO337.out; subst eo8; have hz9 := cl9 BK333; have hz10 := cl9 BK334))
 refine bodyPost_ret (results_cell_row rfl _ _ gb334 32 #[.int .i64 a0_0, .bool a0_1, .int .i64 a0_2, .int .i64 a0_3, .slice Ao8 t335.length co8, .int .i64 a0_5, .int .i64 a0_6, .int .i64 a0_7, .int .i64 a0_8] (0, 0) _ rfl (mP BK334) Try.underlying32 rfl (by kernel_rfl)) rfl ?_
 exact ⟨_, by first | rfl | (simp [errW_none, errW_some] <;> rfl) | (simp [*, errW_none, errW_some] <;> rfl), by (with_reducible repeat (first | apply Kd.S_alloc | apply Kd.S_drewN | apply Kd.S_drew)); exact Kd.S_mono (Kd.S_far (p := ⟨gb334, 8, none⟩) (Kd.S_far (p := ⟨gb334, 7, none⟩) (Kd.S_far (p := ⟨gb334, 6, none⟩) (Kd.S_far (p := ⟨gb334, 5, none⟩) (Kd.S_far (p := ⟨gb334, 4, none⟩) (Kd.S_far (p := ⟨gb334, 3, none⟩) (Kd.S_far (p := ⟨gb334, 2, none⟩) (Kd.S_far (p := ⟨gb334, 1, none⟩) (Kd.S_far (p := ⟨gb334, 0, none⟩) (Kd.S_far (p := ⟨gb333, 4, none⟩) (Kd.S_types (Kd.S_types HO337.out BK333.out (by decide)) BK334.out (by decide)) (fun _ hk => hk.1.2) (.slice Ao8 t335.length co8)) (fun _ hk => hk.2) (.int .i64 a0_0)) (fun _ hk => hk.2) (.bool a0_1)) (fun _ hk => hk.2) (.int .i64 a0_2)) (fun _ hk => hk.2) (.int .i64 a0_3)) (fun _ hk => hk.2) (.slice Ao8 t335.length co8)) (fun _ hk => hk.2) (.int .i64 a0_5)) (fun _ hk => hk.2) (.int .i64 a0_6)) (fun _ hk => hk.2) (.int .i64 a0_7)) (fun _ hk => hk.2) (.int .i64 a0_8)) (fun _ hk => trivial), bel HB⟩

end Go.Proofs.Ytgfoifkkffffgab.PFnExactAddEvent
