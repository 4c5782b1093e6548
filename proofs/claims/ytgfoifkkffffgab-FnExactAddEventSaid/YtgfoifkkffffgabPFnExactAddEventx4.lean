-- Laid by a turned copy of the printer (wip/tools/patch_print.py)
import Derived.Test.YtgfoifkkffffgabPFnExactAddEventx0
import Derived.Test.YtgfoifkkffffgabPFnExactAddEventx1
import Derived.Test.YtgfoifkkffffgabPFnExactAddEventx2
import Derived.Test.YtgfoifkkffffgabPFnExactAddEventx3
namespace Go.Proofs.Ytgfoifkkffffgab.PFnExactAddEvent
open Go.RowKit Go.Proofs.YtgfoifkkffffgabW.PrintWords Go.Proofs.YtgfoifkkffffgabW.PrintLast Go.Proofs.YtgfoifkkffffgabW.PrintMore
attribute [local go_sem] max2_int min2_int max_two min_two max_three min_three max_four min_four   -- for this text's walks alone
set_option linter.unusedVariables false
set_option linter.unusedSimpArgs false

/-! ### spec_l12Asked: function 76 -/
def spec_l12Asked.f (k : Nat) (s0_0 : Int) (s0_1 : Bool) (s0_2 : Int) (s0_3 : Int) (s0_4 : List (S55)) (s0_5 : Int) (s0_6 : Int) (s0_7 : Int) (s0_8 : Int) : Option (Int × Int × Bool × Int × Int × Int × Int × Int × Int) := (spec_l12Fault.f k s0_0 s0_1 s0_2 s0_3 s0_4 s0_5 s0_6 s0_7 s0_8).bind fun bt138 => (if bt138.1 = 0 then (if bt138.2.2.1 = true then (some (0, bt138.2.1, bt138.2.2.1, bt138.2.2.2.1, bt138.2.2.2.2.1, bt138.2.2.2.2.2.1, bt138.2.2.2.2.2.2.1, bt138.2.2.2.2.2.2.2.1, bt138.2.2.2.2.2.2.2.2)) else (some (10, bt138.2.1, bt138.2.2.1, bt138.2.2.2.1, bt138.2.2.2.2.1, bt138.2.2.2.2.2.1, bt138.2.2.2.2.2.2.1, bt138.2.2.2.2.2.2.2.1, bt138.2.2.2.2.2.2.2.2))) else (some (bt138.1, bt138.2.1, bt138.2.2.1, bt138.2.2.2.1, bt138.2.2.2.2.1, bt138.2.2.2.2.2.1, bt138.2.2.2.2.2.2.1, bt138.2.2.2.2.2.2.2.1, bt138.2.2.2.2.2.2.2.2)))
theorem spec_l12Asked.mono : ∀ a0 a1 a2 a3 a4 a5 a6 a7 a8 k, LeO (spec_l12Asked.f k a0 a1 a2 a3 a4 a5 a6 a7 a8) (spec_l12Asked.f (k + 1) a0 a1 a2 a3 a4 a5 a6 a7 a8) := by
 intro a0 a1 a2 a3 a4 a5 a6 a7 a8 k
 unfold spec_l12Asked.f
 repeat' first
   | (with_reducible exact spec_l12Fault.mono _ _ _ _ _ _ _ _ _ _)
   | (with_reducible exact LeO.refl _)
   | (with_reducible exact LeO.none _)
   | (with_reducible refine LeO.ite ?_ ?_)
   | (with_reducible refine LeO.bind ?_ (fun _ => ?_))
   | exact spec_l12Fault.mono _ _ _ _ _ _ _ _ _ _
   | exact LeO.none _
   | refine LeO.ite ?_ ?_
   | refine LeO.bind ?_ (fun _ => ?_)
set_option maxHeartbeats 8000000 in
set_option maxRecDepth 100000 in
theorem spec_l12Asked.calls (k : Nat) (g : Nat) (s0_0 : Int) (s0_1 : Bool) (s0_2 : Int) (s0_3 : Int) (s0_4 : List (S55)) (s0_5 : Int) (s0_6 : Int) (s0_7 : Int) (s0_8 : Int) (r1 : Int) (r2 : Int) (r3 : Bool) (r4 : Int) (r5 : Int) (r6 : Int) (r7 : Int) (r8 : Int) (r9 : Int) (w0 w : World) (hI : IsS32 w0 w g s0_0 s0_1 s0_2 s0_3 s0_4 s0_5 s0_6 s0_7 s0_8) (hB : Below w0.heap.size w0 w) (h : spec_l12Asked.f k s0_0 s0_1 s0_2 s0_3 s0_4 s0_5 s0_6 s0_7 s0_8 = some (r1, r2, r3, r4, r5, r6, r7, r8, r9)) :
  Calls Try.prog 76 #[.pointer (some ⟨g, 0, none⟩)] w fun e w' => e = .returned (.int .i64 r1) ∧ IsS32 w0 w' g r2 r3 r4 r5 s0_4 r6 r7 r8 r9 ∧ Below w0.heap.size w0 w' ∧ KeepBut w w' g none := by
 have HI0 := Aside0.mk hI
 have HK := am (KeepBut.refl w g none)
 have HL := Aside0.mk hB.size
 clear hI
 have HW0 := Aside0.mk hB.size
 have HB := Aside0.mk hB
 clear hB
 have H : ((spec_l12Fault.f k s0_0 s0_1 s0_2 s0_3 s0_4 s0_5 s0_6 s0_7 s0_8).bind fun bt138 => (if bt138.1 = 0 then (if bt138.2.2.1 = true then (some (0, bt138.2.1, bt138.2.2.1, bt138.2.2.2.1, bt138.2.2.2.2.1, bt138.2.2.2.2.2.1, bt138.2.2.2.2.2.2.1, bt138.2.2.2.2.2.2.2.1, bt138.2.2.2.2.2.2.2.2)) else (some (10, bt138.2.1, bt138.2.2.1, bt138.2.2.2.1, bt138.2.2.2.2.1, bt138.2.2.2.2.2.1, bt138.2.2.2.2.2.2.1, bt138.2.2.2.2.2.2.2.1, bt138.2.2.2.2.2.2.2.2))) else (some (bt138.1, bt138.2.1, bt138.2.2.1, bt138.2.2.2.1, bt138.2.2.2.2.1, bt138.2.2.2.2.2.1, bt138.2.2.2.2.2.2.1, bt138.2.2.2.2.2.2.2.1, bt138.2.2.2.2.2.2.2.2)))) = some (r1, r2, r3, r4, r5, r6, r7, r8, r9) := h
 clear h
 replace H := Option.bind_eq_some_iff.mp H
 obtain ⟨⟨t138, t139, t140, t141, t142, t143, t144, t145, t146⟩, A20, H⟩ := H
 replace H : (if t138 = 0 then (if t140 = true then (some (0, t139, t140, t141, t142, t143, t144, t145, t146)) else (some (10, t139, t140, t141, t142, t143, t144, t145, t146))) else (some (t138, t139, t140, t141, t142, t143, t144, t145, t146))) = some (r1, r2, r3, r4, r5, r6, r7, r8, r9) := H
 have A2 := Aside0.mk A20
 clear A20
 by_cases c3 : t138 = 0
 ·
  rw [if_pos c3] at H
  have c3b0 : (t138 == 0) = true := beq_iff_eq.mpr c3
  have c3b1 : (t138 != 0) = false := bne_eq_false_iff_eq.mpr c3
  clear c3
  by_cases c4 : t140 = true
  ·
   subst c4
   have H1 : (some (0, t139, true, t141, t142, t143, t144, t145, t146)) = some (r1, r2, r3, r4, r5, r6, r7, r8, r9) := by rw [if_pos rfl] at H; first | done | exact H
   clear H
   have H := H1
   clear H1
   simp only [Option.some.injEq, Prod.mk.injEq] at H
   obtain ⟨rfl, rfl, rfl, rfl, rfl, rfl, rfl, rfl, rfl⟩ := H
   go_enter Try.func76, Try.ntmps76
   go_wp2_with (first | ((with_reducible refine gate_callee (f := 119) rfl ?_); refine goA (some 5) rfl rfl Try.func119 rfl #[.pointer (some ⟨g, 0, none⟩)] rfl ?_; (with_reducible refine (spec_l12Fault.calls k g s0_0 s0_1 s0_2 s0_3 s0_4 s0_5 s0_6 s0_7 s0_8 t138 t139 true t141 t142 t143 t144 t145 t146 w0 _ ?side1 ?side2 A2.out).mono ?_); (case side1 => repeat (first | (with_reducible first | exact HI0.out | apply IsS32.alloc | apply IsS32.drewN | apply IsS32.drew | apply IsS32.set_0 | apply IsS32.set_1 | apply IsS32.set_2 | apply IsS32.set_3 | apply IsS32.set_5 | apply IsS32.set_6 | apply IsS32.set_7 | apply IsS32.set_8) | exact HI0.out)); (case side2 => repeat (first | (with_reducible first | exact HB.out | apply below_alloc | apply pw_below_drewN | apply below_drew1 | refine below_set ?_ (IsS32.ge HI0.out)) | exact HB.out)); rintro e w5 ⟨rfl, hi, hb, hk⟩; refine ⟨_, rfl, ?_⟩; replace HK := am (KeepBut.trans (by repeat (first | (with_reducible first | exact HK.out | apply KeepBut.set_ | apply keep_drewN | apply keep_drew | apply keep_alloc) | exact HK.out)) hk (.inl rfl)); replace HB := Aside0.mk hb; replace HI0 := Aside0.mk hi; (try clear hb); (try clear hb2); (try clear hk); (try clear hi); obtain ⟨ASz6_4, cSz6_4, HGz6, hgz6, HSz6_4, HLz6_4⟩ := HI0.out; have hcz6_0 := cellS32_0 HGz6; have hcz6_1 := cellS32_1 HGz6; have hcz6_2 := cellS32_2 HGz6; have hcz6_3 := cellS32_3 HGz6; have hcz6_4 := cellS32_4 HGz6; have hcz6_5 := cellS32_5 HGz6; have hcz6_6 := cellS32_6 HGz6; have hcz6_7 := cellS32_7 HGz6; have hcz6_8 := cellS32_8 HGz6; have hfz6_0 := blk_frozen HGz6 0; have hfz6_1 := blk_frozen HGz6 1; have hfz6_2 := blk_frozen HGz6 2; have hfz6_3 := blk_frozen HGz6 3; have hfz6_5 := blk_frozen HGz6 5; have hfz6_6 := blk_frozen HGz6 6; have hfz6_7 := blk_frozen HGz6 7; have hfz6_8 := blk_frozen HGz6 8; clear HGz6 hgz6))
   go_ret
   exact ⟨by first | rfl | (simp [errW_none, errW_some] <;> rfl) | (simp [*, errW_none, errW_some] <;> rfl), by repeat (first | (with_reducible first | exact HI0.out | apply IsS32.alloc | apply IsS32.drewN | apply IsS32.drew | apply IsS32.set_0 | apply IsS32.set_1 | apply IsS32.set_2 | apply IsS32.set_3 | apply IsS32.set_5 | apply IsS32.set_6 | apply IsS32.set_7 | apply IsS32.set_8) | exact HI0.out), by repeat (first | (with_reducible first | exact HB.out | apply below_alloc | apply pw_below_drewN | apply below_drew1 | refine below_set ?_ (IsS32.ge HI0.out)) | exact HB.out), by repeat (first | (with_reducible first | exact HK.out | apply KeepBut.set_ | apply keep_drewN | apply keep_drew | apply keep_alloc) | exact HK.out)⟩
  replace c4 := Bool.eq_false_iff.mpr c4
  subst c4
  have H1 : (some (10, t139, false, t141, t142, t143, t144, t145, t146)) = some (r1, r2, r3, r4, r5, r6, r7, r8, r9) := by rw [if_neg (show ¬ (false = true) by decide)] at H; first | done | exact H
  clear H
  have H := H1
  clear H1
  simp only [Option.some.injEq, Prod.mk.injEq] at H
  obtain ⟨rfl, rfl, rfl, rfl, rfl, rfl, rfl, rfl, rfl⟩ := H
  go_enter Try.func76, Try.ntmps76
  go_wp2_with (first | ((with_reducible refine gate_callee (f := 119) rfl ?_); refine goA (some 5) rfl rfl Try.func119 rfl #[.pointer (some ⟨g, 0, none⟩)] rfl ?_; (with_reducible refine (spec_l12Fault.calls k g s0_0 s0_1 s0_2 s0_3 s0_4 s0_5 s0_6 s0_7 s0_8 t138 t139 false t141 t142 t143 t144 t145 t146 w0 _ ?side1 ?side2 A2.out).mono ?_); (case side1 => repeat (first | (with_reducible first | exact HI0.out | apply IsS32.alloc | apply IsS32.drewN | apply IsS32.drew | apply IsS32.set_0 | apply IsS32.set_1 | apply IsS32.set_2 | apply IsS32.set_3 | apply IsS32.set_5 | apply IsS32.set_6 | apply IsS32.set_7 | apply IsS32.set_8) | exact HI0.out)); (case side2 => repeat (first | (with_reducible first | exact HB.out | apply below_alloc | apply pw_below_drewN | apply below_drew1 | refine below_set ?_ (IsS32.ge HI0.out)) | exact HB.out)); rintro e w7 ⟨rfl, hi, hb, hk⟩; refine ⟨_, rfl, ?_⟩; replace HK := am (KeepBut.trans (by repeat (first | (with_reducible first | exact HK.out | apply KeepBut.set_ | apply keep_drewN | apply keep_drew | apply keep_alloc) | exact HK.out)) hk (.inl rfl)); replace HB := Aside0.mk hb; replace HI0 := Aside0.mk hi; (try clear hb); (try clear hb2); (try clear hk); (try clear hi); obtain ⟨ASz8_4, cSz8_4, HGz8, hgz8, HSz8_4, HLz8_4⟩ := HI0.out; have hcz8_0 := cellS32_0 HGz8; have hcz8_1 := cellS32_1 HGz8; have hcz8_2 := cellS32_2 HGz8; have hcz8_3 := cellS32_3 HGz8; have hcz8_4 := cellS32_4 HGz8; have hcz8_5 := cellS32_5 HGz8; have hcz8_6 := cellS32_6 HGz8; have hcz8_7 := cellS32_7 HGz8; have hcz8_8 := cellS32_8 HGz8; have hfz8_0 := blk_frozen HGz8 0; have hfz8_1 := blk_frozen HGz8 1; have hfz8_2 := blk_frozen HGz8 2; have hfz8_3 := blk_frozen HGz8 3; have hfz8_5 := blk_frozen HGz8 5; have hfz8_6 := blk_frozen HGz8 6; have hfz8_7 := blk_frozen HGz8 7; have hfz8_8 := blk_frozen HGz8 8; clear HGz8 hgz8))
  go_ret
  exact ⟨by first | rfl | (simp [errW_none, errW_some] <;> rfl) | (simp [*, errW_none, errW_some] <;> rfl), by repeat (first | (with_reducible first | exact HI0.out | apply IsS32.alloc | apply IsS32.drewN | apply IsS32.drew | apply IsS32.set_0 | apply IsS32.set_1 | apply IsS32.set_2 | apply IsS32.set_3 | apply IsS32.set_5 | apply IsS32.set_6 | apply IsS32.set_7 | apply IsS32.set_8) | exact HI0.out), by repeat (first | (with_reducible first | exact HB.out | apply below_alloc | apply pw_below_drewN | apply below_drew1 | refine below_set ?_ (IsS32.ge HI0.out)) | exact HB.out), by repeat (first | (with_reducible first | exact HK.out | apply KeepBut.set_ | apply keep_drewN | apply keep_drew | apply keep_alloc) | exact HK.out)⟩
 rw [if_neg c3] at H
 have c3b0 : (t138 == 0) = false := beq_eq_false_iff_ne.mpr c3
 have c3b1 : (t138 != 0) = true := bne_iff_ne.mpr c3
 simp only [Option.some.injEq, Prod.mk.injEq] at H
 obtain ⟨rfl, rfl, rfl, rfl, rfl, rfl, rfl, rfl, rfl⟩ := H
 go_enter Try.func76, Try.ntmps76
 go_wp2_with (first | ((with_reducible refine gate_callee (f := 119) rfl ?_); refine goA (some 5) rfl rfl Try.func119 rfl #[.pointer (some ⟨g, 0, none⟩)] rfl ?_; (with_reducible refine (spec_l12Fault.calls k g s0_0 s0_1 s0_2 s0_3 s0_4 s0_5 s0_6 s0_7 s0_8 t138 t139 t140 t141 t142 t143 t144 t145 t146 w0 _ ?side1 ?side2 A2.out).mono ?_); (case side1 => repeat (first | (with_reducible first | exact HI0.out | apply IsS32.alloc | apply IsS32.drewN | apply IsS32.drew | apply IsS32.set_0 | apply IsS32.set_1 | apply IsS32.set_2 | apply IsS32.set_3 | apply IsS32.set_5 | apply IsS32.set_6 | apply IsS32.set_7 | apply IsS32.set_8) | exact HI0.out)); (case side2 => repeat (first | (with_reducible first | exact HB.out | apply below_alloc | apply pw_below_drewN | apply below_drew1 | refine below_set ?_ (IsS32.ge HI0.out)) | exact HB.out)); rintro e w9 ⟨rfl, hi, hb, hk⟩; refine ⟨_, rfl, ?_⟩; replace HK := am (KeepBut.trans (by repeat (first | (with_reducible first | exact HK.out | apply KeepBut.set_ | apply keep_drewN | apply keep_drew | apply keep_alloc) | exact HK.out)) hk (.inl rfl)); replace HB := Aside0.mk hb; replace HI0 := Aside0.mk hi; (try clear hb); (try clear hb2); (try clear hk); (try clear hi)))
 go_ret
 exact ⟨by first | rfl | (simp [errW_none, errW_some] <;> rfl) | (simp [*, errW_none, errW_some] <;> rfl), by repeat (first | (with_reducible first | exact HI0.out | apply IsS32.alloc | apply IsS32.drewN | apply IsS32.drew | apply IsS32.set_0 | apply IsS32.set_1 | apply IsS32.set_2 | apply IsS32.set_3 | apply IsS32.set_5 | apply IsS32.set_6 | apply IsS32.set_7 | apply IsS32.set_8) | exact HI0.out), by repeat (first | (with_reducible first | exact HB.out | apply below_alloc | apply pw_below_drewN | apply below_drew1 | refine below_set ?_ (IsS32.ge HI0.out)) | exact HB.out), by repeat (first | (with_reducible first | exact HK.out | apply KeepBut.set_ | apply keep_drewN | apply keep_drew | apply keep_alloc) | exact HK.out)⟩

/-! ### spec_l12Active: function 53 -/
def spec_l12Active.f (k : Nat) (s0_0 : Int) (s0_1 : Bool) (s0_2 : Int) (s0_3 : Int) (s0_4 : List (S55)) (s0_5 : Int) (s0_6 : Int) (s0_7 : Int) (s0_8 : Int) : Option (Int × Int × Bool × Int × Int × Int × Int × Int × Int) := (spec_l12Asked.f k s0_0 s0_1 s0_2 s0_3 s0_4 s0_5 s0_6 s0_7 s0_8).bind fun bt147 => (if bt147.1 = 0 then (if bt147.2.2.2.1 = 1 then (some (0, bt147.2.1, bt147.2.2.1, bt147.2.2.2.1, bt147.2.2.2.2.1, bt147.2.2.2.2.2.1, bt147.2.2.2.2.2.2.1, bt147.2.2.2.2.2.2.2.1, bt147.2.2.2.2.2.2.2.2)) else (some (10, bt147.2.1, bt147.2.2.1, bt147.2.2.2.1, bt147.2.2.2.2.1, bt147.2.2.2.2.2.1, bt147.2.2.2.2.2.2.1, bt147.2.2.2.2.2.2.2.1, bt147.2.2.2.2.2.2.2.2))) else (some (bt147.1, bt147.2.1, bt147.2.2.1, bt147.2.2.2.1, bt147.2.2.2.2.1, bt147.2.2.2.2.2.1, bt147.2.2.2.2.2.2.1, bt147.2.2.2.2.2.2.2.1, bt147.2.2.2.2.2.2.2.2)))
theorem spec_l12Active.mono : ∀ a0 a1 a2 a3 a4 a5 a6 a7 a8 k, LeO (spec_l12Active.f k a0 a1 a2 a3 a4 a5 a6 a7 a8) (spec_l12Active.f (k + 1) a0 a1 a2 a3 a4 a5 a6 a7 a8) := by
 intro a0 a1 a2 a3 a4 a5 a6 a7 a8 k
 unfold spec_l12Active.f
 repeat' first
   | (with_reducible exact spec_l12Asked.mono _ _ _ _ _ _ _ _ _ _)
   | (with_reducible exact LeO.refl _)
   | (with_reducible exact LeO.none _)
   | (with_reducible refine LeO.ite ?_ ?_)
   | (with_reducible refine LeO.bind ?_ (fun _ => ?_))
   | exact spec_l12Asked.mono _ _ _ _ _ _ _ _ _ _
   | exact LeO.none _
   | refine LeO.ite ?_ ?_
   | refine LeO.bind ?_ (fun _ => ?_)
set_option maxHeartbeats 8000000 in
set_option maxRecDepth 100000 in
theorem spec_l12Active.calls (k : Nat) (g : Nat) (s0_0 : Int) (s0_1 : Bool) (s0_2 : Int) (s0_3 : Int) (s0_4 : List (S55)) (s0_5 : Int) (s0_6 : Int) (s0_7 : Int) (s0_8 : Int) (r1 : Int) (r2 : Int) (r3 : Bool) (r4 : Int) (r5 : Int) (r6 : Int) (r7 : Int) (r8 : Int) (r9 : Int) (w0 w : World) (hI : IsS32 w0 w g s0_0 s0_1 s0_2 s0_3 s0_4 s0_5 s0_6 s0_7 s0_8) (hB : Below w0.heap.size w0 w) (h : spec_l12Active.f k s0_0 s0_1 s0_2 s0_3 s0_4 s0_5 s0_6 s0_7 s0_8 = some (r1, r2, r3, r4, r5, r6, r7, r8, r9)) :
  Calls Try.prog 53 #[.pointer (some ⟨g, 0, none⟩)] w fun e w' => e = .returned (.int .i64 r1) ∧ IsS32 w0 w' g r2 r3 r4 r5 s0_4 r6 r7 r8 r9 ∧ Below w0.heap.size w0 w' ∧ KeepBut w w' g none := by
 have HI0 := Aside0.mk hI
 have HK := am (KeepBut.refl w g none)
 have HL := Aside0.mk hB.size
 clear hI
 have HW0 := Aside0.mk hB.size
 have HB := Aside0.mk hB
 clear hB
 have H : ((spec_l12Asked.f k s0_0 s0_1 s0_2 s0_3 s0_4 s0_5 s0_6 s0_7 s0_8).bind fun bt147 => (if bt147.1 = 0 then (if bt147.2.2.2.1 = 1 then (some (0, bt147.2.1, bt147.2.2.1, bt147.2.2.2.1, bt147.2.2.2.2.1, bt147.2.2.2.2.2.1, bt147.2.2.2.2.2.2.1, bt147.2.2.2.2.2.2.2.1, bt147.2.2.2.2.2.2.2.2)) else (some (10, bt147.2.1, bt147.2.2.1, bt147.2.2.2.1, bt147.2.2.2.2.1, bt147.2.2.2.2.2.1, bt147.2.2.2.2.2.2.1, bt147.2.2.2.2.2.2.2.1, bt147.2.2.2.2.2.2.2.2))) else (some (bt147.1, bt147.2.1, bt147.2.2.1, bt147.2.2.2.1, bt147.2.2.2.2.1, bt147.2.2.2.2.2.1, bt147.2.2.2.2.2.2.1, bt147.2.2.2.2.2.2.2.1, bt147.2.2.2.2.2.2.2.2)))) = some (r1, r2, r3, r4, r5, r6, r7, r8, r9) := h
 clear h
 replace H := Option.bind_eq_some_iff.mp H
 obtain ⟨⟨t147, t148, t149, t150, t151, t152, t153, t154, t155⟩, A20, H⟩ := H
 replace H : (if t147 = 0 then (if t150 = 1 then (some (0, t148, t149, t150, t151, t152, t153, t154, t155)) else (some (10, t148, t149, t150, t151, t152, t153, t154, t155))) else (some (t147, t148, t149, t150, t151, t152, t153, t154, t155))) = some (r1, r2, r3, r4, r5, r6, r7, r8, r9) := H
 have A2 := Aside0.mk A20
 clear A20
 by_cases c3 : t147 = 0
 ·
  rw [if_pos c3] at H
  have c3b0 : (t147 == 0) = true := beq_iff_eq.mpr c3
  have c3b1 : (t147 != 0) = false := bne_eq_false_iff_eq.mpr c3
  clear c3
  by_cases c4 : t150 = 1
  ·
   rw [if_pos c4] at H
   have c4b0 : (t150 == 1) = true := beq_iff_eq.mpr c4
   have c4b1 : (t150 != 1) = false := bne_eq_false_iff_eq.mpr c4
   clear c4
   simp only [Option.some.injEq, Prod.mk.injEq] at H
   obtain ⟨rfl, rfl, rfl, rfl, rfl, rfl, rfl, rfl, rfl⟩ := H
   go_enter Try.func53, Try.ntmps53
   go_wp2_with (first | ((with_reducible refine gate_callee (f := 76) rfl ?_); refine goA (some 5) rfl rfl Try.func76 rfl #[.pointer (some ⟨g, 0, none⟩)] rfl ?_; (with_reducible refine (spec_l12Asked.calls k g s0_0 s0_1 s0_2 s0_3 s0_4 s0_5 s0_6 s0_7 s0_8 t147 t148 t149 t150 t151 t152 t153 t154 t155 w0 _ ?side1 ?side2 A2.out).mono ?_); (case side1 => repeat (first | (with_reducible first | exact HI0.out | apply IsS32.alloc | apply IsS32.drewN | apply IsS32.drew | apply IsS32.set_0 | apply IsS32.set_1 | apply IsS32.set_2 | apply IsS32.set_3 | apply IsS32.set_5 | apply IsS32.set_6 | apply IsS32.set_7 | apply IsS32.set_8) | exact HI0.out)); (case side2 => repeat (first | (with_reducible first | exact HB.out | apply below_alloc | apply pw_below_drewN | apply below_drew1 | refine below_set ?_ (IsS32.ge HI0.out)) | exact HB.out)); rintro e w5 ⟨rfl, hi, hb, hk⟩; refine ⟨_, rfl, ?_⟩; replace HK := am (KeepBut.trans (by repeat (first | (with_reducible first | exact HK.out | apply KeepBut.set_ | apply keep_drewN | apply keep_drew | apply keep_alloc) | exact HK.out)) hk (.inl rfl)); replace HB := Aside0.mk hb; replace HI0 := Aside0.mk hi; (try clear hb); (try clear hb2); (try clear hk); (try clear hi); obtain ⟨ASz6_4, cSz6_4, HGz6, hgz6, HSz6_4, HLz6_4⟩ := HI0.out; have hcz6_0 := cellS32_0 HGz6; have hcz6_1 := cellS32_1 HGz6; have hcz6_2 := cellS32_2 HGz6; have hcz6_3 := cellS32_3 HGz6; have hcz6_4 := cellS32_4 HGz6; have hcz6_5 := cellS32_5 HGz6; have hcz6_6 := cellS32_6 HGz6; have hcz6_7 := cellS32_7 HGz6; have hcz6_8 := cellS32_8 HGz6; have hfz6_0 := blk_frozen HGz6 0; have hfz6_1 := blk_frozen HGz6 1; have hfz6_2 := blk_frozen HGz6 2; have hfz6_3 := blk_frozen HGz6 3; have hfz6_5 := blk_frozen HGz6 5; have hfz6_6 := blk_frozen HGz6 6; have hfz6_7 := blk_frozen HGz6 7; have hfz6_8 := blk_frozen HGz6 8; clear HGz6 hgz6))
   go_ret
   exact ⟨by first | rfl | (simp [errW_none, errW_some] <;> rfl) | (simp [*, errW_none, errW_some] <;> rfl), by repeat (first | (with_reducible first | exact HI0.out | apply IsS32.alloc | apply IsS32.drewN | apply IsS32.drew | apply IsS32.set_0 | apply IsS32.set_1 | apply IsS32.set_2 | apply IsS32.set_3 | apply IsS32.set_5 | apply IsS32.set_6 | apply IsS32.set_7 | apply IsS32.set_8) | exact HI0.out), by repeat (first | (with_reducible first | exact HB.out | apply below_alloc | apply pw_below_drewN | apply below_drew1 | refine below_set ?_ (IsS32.ge HI0.out)) | exact HB.out), by repeat (first | (with_reducible first | exact HK.out | apply KeepBut.set_ | apply keep_drewN | apply keep_drew | apply keep_alloc) | exact HK.out)⟩
  rw [if_neg c4] at H
  have c4b0 : (t150 == 1) = false := beq_eq_false_iff_ne.mpr c4
  have c4b1 : (t150 != 1) = true := bne_iff_ne.mpr c4
  simp only [Option.some.injEq, Prod.mk.injEq] at H
  obtain ⟨rfl, rfl, rfl, rfl, rfl, rfl, rfl, rfl, rfl⟩ := H
  go_enter Try.func53, Try.ntmps53
  go_wp2_with (first | ((with_reducible refine gate_callee (f := 76) rfl ?_); refine goA (some 5) rfl rfl Try.func76 rfl #[.pointer (some ⟨g, 0, none⟩)] rfl ?_; (with_reducible refine (spec_l12Asked.calls k g s0_0 s0_1 s0_2 s0_3 s0_4 s0_5 s0_6 s0_7 s0_8 t147 t148 t149 t150 t151 t152 t153 t154 t155 w0 _ ?side1 ?side2 A2.out).mono ?_); (case side1 => repeat (first | (with_reducible first | exact HI0.out | apply IsS32.alloc | apply IsS32.drewN | apply IsS32.drew | apply IsS32.set_0 | apply IsS32.set_1 | apply IsS32.set_2 | apply IsS32.set_3 | apply IsS32.set_5 | apply IsS32.set_6 | apply IsS32.set_7 | apply IsS32.set_8) | exact HI0.out)); (case side2 => repeat (first | (with_reducible first | exact HB.out | apply below_alloc | apply pw_below_drewN | apply below_drew1 | refine below_set ?_ (IsS32.ge HI0.out)) | exact HB.out)); rintro e w7 ⟨rfl, hi, hb, hk⟩; refine ⟨_, rfl, ?_⟩; replace HK := am (KeepBut.trans (by repeat (first | (with_reducible first | exact HK.out | apply KeepBut.set_ | apply keep_drewN | apply keep_drew | apply keep_alloc) | exact HK.out)) hk (.inl rfl)); replace HB := Aside0.mk hb; replace HI0 := Aside0.mk hi; (try clear hb); (try clear hb2); (try clear hk); (try clear hi); obtain ⟨ASz8_4, cSz8_4, HGz8, hgz8, HSz8_4, HLz8_4⟩ := HI0.out; have hcz8_0 := cellS32_0 HGz8; have hcz8_1 := cellS32_1 HGz8; have hcz8_2 := cellS32_2 HGz8; have hcz8_3 := cellS32_3 HGz8; have hcz8_4 := cellS32_4 HGz8; have hcz8_5 := cellS32_5 HGz8; have hcz8_6 := cellS32_6 HGz8; have hcz8_7 := cellS32_7 HGz8; have hcz8_8 := cellS32_8 HGz8; have hfz8_0 := blk_frozen HGz8 0; have hfz8_1 := blk_frozen HGz8 1; have hfz8_2 := blk_frozen HGz8 2; have hfz8_3 := blk_frozen HGz8 3; have hfz8_5 := blk_frozen HGz8 5; have hfz8_6 := blk_frozen HGz8 6; have hfz8_7 := blk_frozen HGz8 7; have hfz8_8 := blk_frozen HGz8 8; clear HGz8 hgz8))
  go_ret
  exact ⟨by first | rfl | (simp [errW_none, errW_some] <;> rfl) | (simp [*, errW_none, errW_some] <;> rfl), by repeat (first | (with_reducible first | exact HI0.out | apply IsS32.alloc | apply IsS32.drewN | apply IsS32.drew | apply IsS32.set_0 | apply IsS32.set_1 | apply IsS32.set_2 | apply IsS32.set_3 | apply IsS32.set_5 | apply IsS32.set_6 | apply IsS32.set_7 | apply IsS32.set_8) | exact HI0.out), by repeat (first | (with_reducible first | exact HB.out | apply below_alloc | apply pw_below_drewN | apply below_drew1 | refine below_set ?_ (IsS32.ge HI0.out)) | exact HB.out), by repeat (first | (with_reducible first | exact HK.out | apply KeepBut.set_ | apply keep_drewN | apply keep_drew | apply keep_alloc) | exact HK.out)⟩
 rw [if_neg c3] at H
 have c3b0 : (t147 == 0) = false := beq_eq_false_iff_ne.mpr c3
 have c3b1 : (t147 != 0) = true := bne_iff_ne.mpr c3
 simp only [Option.some.injEq, Prod.mk.injEq] at H
 obtain ⟨rfl, rfl, rfl, rfl, rfl, rfl, rfl, rfl, rfl⟩ := H
 go_enter Try.func53, Try.ntmps53
 go_wp2_with (first | ((with_reducible refine gate_callee (f := 76) rfl ?_); refine goA (some 5) rfl rfl Try.func76 rfl #[.pointer (some ⟨g, 0, none⟩)] rfl ?_; (with_reducible refine (spec_l12Asked.calls k g s0_0 s0_1 s0_2 s0_3 s0_4 s0_5 s0_6 s0_7 s0_8 t147 t148 t149 t150 t151 t152 t153 t154 t155 w0 _ ?side1 ?side2 A2.out).mono ?_); (case side1 => repeat (first | (with_reducible first | exact HI0.out | apply IsS32.alloc | apply IsS32.drewN | apply IsS32.drew | apply IsS32.set_0 | apply IsS32.set_1 | apply IsS32.set_2 | apply IsS32.set_3 | apply IsS32.set_5 | apply IsS32.set_6 | apply IsS32.set_7 | apply IsS32.set_8) | exact HI0.out)); (case side2 => repeat (first | (with_reducible first | exact HB.out | apply below_alloc | apply pw_below_drewN | apply below_drew1 | refine below_set ?_ (IsS32.ge HI0.out)) | exact HB.out)); rintro e w9 ⟨rfl, hi, hb, hk⟩; refine ⟨_, rfl, ?_⟩; replace HK := am (KeepBut.trans (by repeat (first | (with_reducible first | exact HK.out | apply KeepBut.set_ | apply keep_drewN | apply keep_drew | apply keep_alloc) | exact HK.out)) hk (.inl rfl)); replace HB := Aside0.mk hb; replace HI0 := Aside0.mk hi; (try clear hb); (try clear hb2); (try clear hk); (try clear hi)))
 go_ret
 exact ⟨by first | rfl | (simp [errW_none, errW_some] <;> rfl) | (simp [*, errW_none, errW_some] <;> rfl), by repeat (first | (with_reducible first | exact HI0.out | apply IsS32.alloc | apply IsS32.drewN | apply IsS32.drew | apply IsS32.set_0 | apply IsS32.set_1 | apply IsS32.set_2 | apply IsS32.set_3 | apply IsS32.set_5 | apply IsS32.set_6 | apply IsS32.set_7 | apply IsS32.set_8) | exact HI0.out), by repeat (first | (with_reducible first | exact HB.out | apply below_alloc | apply pw_below_drewN | apply below_drew1 | refine below_set ?_ (IsS32.ge HI0.out)) | exact HB.out), by repeat (first | (with_reducible first | exact HK.out | apply KeepBut.set_ | apply keep_drewN | apply keep_drew | apply keep_alloc) | exact HK.out)⟩

/-! ### spec_l12Bad: function 54 -/
def spec_l12Bad.f (a0 : Int) : Option (Int × Int × Bool × Int × Int × (List (S55)) × Int × Int × Int × Int × (List (S57))) := some (a0, 0, false, 0, 0, ([] : List (S55)), 0, 0, 0, 0, ([] : List (S57)))
set_option maxHeartbeats 8000000 in
set_option maxRecDepth 100000 in
theorem spec_l12Bad.calls (a0 : Int) (r1 : Int) (r2 : Int) (r3 : Bool) (r4 : Int) (r5 : Int) (r6 : List (S55)) (r7 : Int) (r8 : Int) (r9 : Int) (r10 : Int) (r11 : List (S57)) (w : World) (h : spec_l12Bad.f a0 = some (r1, r2, r3, r4, r5, r6, r7, r8, r9, r10, r11)) :
  Calls Try.prog 54 #[.int .i64 a0] w fun e w' => ∃ v5_ v10_ : Value, e = .returned (.agg #[.int .i64 r1, .int .i64 r2, .bool r3, .int .i64 r4, .int .i64 r5, v5_, .int .i64 r7, .int .i64 r8, .int .i64 r9, .int .i64 r10, v10_]) ∧ Kd.S k55 55 w' w.heap.size (fun _ => True) v5_ r6 ∧ Kd.S k57 57 w' w.heap.size (fun _ => True) v10_ r11 ∧ Below w.heap.size w w' := by
 have hu35 := Try.underlying35
 have hu32 := Try.underlying32
 have HB := am (Below.refl w.heap.size w)
 have H : (some (a0, 0, false, 0, 0, ([] : List (S55)), 0, 0, 0, 0, ([] : List (S57)))) = some (r1, r2, r3, r4, r5, r6, r7, r8, r9, r10, r11) := h
 clear h
 simp only [Option.some.injEq, Prod.mk.injEq] at H
 obtain ⟨rfl, rfl, rfl, rfl, rfl, rfl, rfl, rfl, rfl, rfl, rfl⟩ := H
 go_enter Try.func54, Try.ntmps54
 go_wp2_with (first | ((with_reducible refine gate_dst (N := 2) rfl ?_); refine boxE #[.int .i64 0, .int .i64 0, .bool false, .int .i64 0, .int .i64 0, .slice none 0 0, .int .i64 0, .int .i64 0, .int .i64 0, .int .i64 0, .slice none 0 0] 35 (N := 2) rfl rfl ?_; intro gb156 hg w2 hbox hb; have BK156 := Aside0.mk hbox; have GW156 := gZ HB hg; have GE156 := gZ HB hg; replace HB := bS HB hb; clear hb hbox hg; have hz3 := cl11 BK156))
 refine bodyPost_ret (results_cell_row rfl _ _ gb156 35 #[.int .i64 a0, .int .i64 0, .bool false, .int .i64 0, .int .i64 0, .slice none 0 0, .int .i64 0, .int .i64 0, .int .i64 0, .int .i64 0, .slice none 0 0] (0, 0) _ rfl (mP BK156) Try.underlying35 rfl (by kernel_rfl)) rfl ?_
 exact ⟨_, _, by first | rfl | (simp [errW_none, errW_some] <;> rfl) | (simp [*, errW_none, errW_some] <;> rfl), by first | exact Kd.S_nil _ _ _ _ _ | exact Kd.N_nil _ _ _ _ _ | exact Kd.V_nil _ _ _ _ _ | exact Kd.Q_nil _ _ _ _ _ | exact Kd.R_nil _ _ _ _ _, by first | exact Kd.S_nil _ _ _ _ _ | exact Kd.N_nil _ _ _ _ _ | exact Kd.V_nil _ _ _ _ _ | exact Kd.Q_nil _ _ _ _ _ | exact Kd.R_nil _ _ _ _ _, bel HB⟩

/-! ### spec_l12CopyEntry: function 57 -/
def spec_l12CopyEntry.f (a0_0 : Int) (a0_1 : Int) (a0_2 : Int) (l0_3 : List Int) : Option (Int × Int × Int × List Int) := (some (([] : List Int) : List Int)).bind fun y159 => (if y159.length + l0_3.length < 140737488355328 then (some (a0_0, a0_1, a0_2, (y159 ++ l0_3))) else (none))
set_option maxHeartbeats 8000000 in
set_option maxRecDepth 100000 in
theorem spec_l12CopyEntry.calls (a0_0 : Int) (a0_1 : Int) (a0_2 : Int) (A0_3 : Option Addr) (c0_3 : Nat) (l0_3 : List Int) (r1 : Int) (r2 : Int) (r3 : Int) (r4 : List Int) (w : World) (hr0_3 : Kd.C (Kd.int .u8) w A0_3 l0_3.length l0_3) (hc0_3 : l0_3.length ≤ c0_3) (h : spec_l12CopyEntry.f a0_0 a0_1 a0_2 l0_3 = some (r1, r2, r3, r4)) :
  Calls Try.prog 57 #[.agg #[.int .i64 a0_0, .int .i64 a0_1, .int .i64 a0_2, .slice A0_3 l0_3.length c0_3]] w fun e w' => ∃ v3_ : Value, e = .returned (.agg #[.int .i64 r1, .int .i64 r2, .int .i64 r3, v3_]) ∧ Kd.R (Kd.int .u8) 5 w' w.heap.size (fun _ => True) v3_ r4 ∧ Below w.heap.size w w' := by
 have hu55 := Try.underlying55
 have hu38 := Try.underlying38
 have HR0_3 := Aside0.mk hr0_3
 have HC0_3 := Aside0.mk hc0_3
 clear hr0_3 hc0_3
 have HB := am (Below.refl w.heap.size w)
 have H : ((some (([] : List Int) : List Int)).bind fun y159 => (if y159.length + l0_3.length < 140737488355328 then (some (a0_0, a0_1, a0_2, (y159 ++ l0_3))) else (none))) = some (r1, r2, r3, r4) := h
 clear h
 obtain ⟨y159, hy159⟩ : ∃ y_ : List Int, y_ = (([] : List Int)) := ⟨_, rfl⟩
 replace H : (if y159.length + l0_3.length < 140737488355328 then (some (a0_0, a0_1, a0_2, (y159 ++ l0_3))) else (none)) = some (r1, r2, r3, r4) := by first | (rw [hy159]; with_reducible exact H) | (have H2_ := (Option.bind_some _ _).symm.trans H; rw [hy159]; with_reducible exact H2_) | (have H2_ := (Option.bind_some _ _).symm.trans H; with_reducible exact H2_) | with_reducible exact H | (rw [hy159]; exact H) | exact H
 have Ny159 := Aside0.mk hy159
 clear hy159
 by_cases c2 : y159.length + l0_3.length < 140737488355328
 ·
  rw [if_pos c2] at H
  have LMc2 := Aside0.mk c2
  clear c2
  obtain ⟨y162, hy162⟩ : ∃ y_ : List Int, y_ = (y159 ++ l0_3) := ⟨_, rfl⟩
  replace H : (some (a0_0, a0_1, a0_2, y162)) = some (r1, r2, r3, r4) := by first | (rw [hy162]; with_reducible exact H) | (have H2_ := (Option.bind_some _ _).symm.trans H; rw [hy162]; with_reducible exact H2_) | (have H2_ := (Option.bind_some _ _).symm.trans H; with_reducible exact H2_) | with_reducible exact H | (rw [hy162]; exact H) | exact H
  have Ny162 := Aside0.mk hy162
  clear hy162
  simp only [Option.some.injEq, Prod.mk.injEq] at H
  obtain ⟨rfl, rfl, rfl, rfl⟩ := H
  go_enter Try.func57, Try.ntmps57
  go_wp2_with (first | ((with_reducible refine gate_dst (N := 1) rfl ?_); refine boxE #[.int .i64 a0_0, .int .i64 a0_1, .int .i64 a0_2, .slice A0_3 l0_3.length c0_3] 55 (N := 1) rfl rfl ?_; intro gb157 hg w3 hbox hb; have BK157 := Aside0.mk hbox; have GW157 := gZ HB hg; have GE157 := gZ HB hg; replace HB := bS HB hb; clear hb hbox hg) | ((with_reducible refine gate_dst (N := 2) rfl ?_); refine boxE #[.int .i64 0, .int .i64 0, .int .i64 0, .slice none 0 0] 55 (N := 2) rfl rfl ?_; intro gb158 hg w4 hbox hb; have BK158 := Aside0.mk hbox; have GW158 := gZ HB hg; have GE158 := gZ HB hg; replace HB := bS HB hb; have NB157_158 := nL BK157 hg; have NB158_157 := nG BK157 hg; replace BK157 := bK BK157 hb; clear hb hbox hg) | ((with_reducible refine gate_dst (N := 3) rfl ?_); refine Kd.R_lit (Kd.int .u8) _ 5 ?hg (N := 3) ?hd (xs := ([] : List Int)) (inner := []) (ok := fun _ => True) (okp := fun _ => True) ?hr ?hp (fun _ hk => hk) trivial (Below.refl _ _) (Nat.le_refl _) (by simp) ?_; (case hd => rfl); (case hg => rfl); (case hr => first | (go_simp; done) | (go_simp; rfl)); (case hp => exact (Reps.none _ _)); intro v160 w5 ho6 hb hg_ hnew_; clear hg_ hnew_; (first | rw [← Ny159.out] at ho6 | (simp only [Int.reduceToNat] at ho6; rw [← Ny159.out] at ho6)); have HO161 := am (Kd.R_lower ho6 (below_size (bel HB))); replace BK157 := bK BK157 hb; replace BK158 := bK BK158 hb; replace HB := bS HB hb; clear hb ho6; have hnb7 := NB157_158.out; have hnc7 := NB158_157.out; have hz8 := cl4 BK157) | ((with_reducible refine gate_builtin (b := .append) (xs := #[.tmp 3, .tmp 6]) rfl ?_); at_builtin; refine Kd.R_append_rows (Kd.int .u8) (w0 := w) w.heap.size rfl (.tmp 3) (.tmp 6) 25 5 (.int .u8 0) 1 rfl Try.underlying25 info5 rfl (by decide) (by omega) v160 y159 l0_3 _ _ _ (fun _ => True) (fun _ => False) rfl rfl ?aO ?aR (fun _ _ h => h) (fun _ h => h.elim) ?aF ?aB ?aS ?aL ?_; (case aR => repeat (first | exact (Kd.C_below HR0_3.out HB.out) | (with_reducible refine Kd.C_alloc ?_ _) | (with_reducible refine Kd.C_drewN ?_ _) | (with_reducible refine Kd.C_drew ?_))); (case aB => exact (bel HB)); (case aF => exact (fun _ _ => trivial)); (case aO => exact (mR HO161)); (case aS => exact (below_size (bel HB))); (case aL => have := LMc2.out; omega); intro v163 w9 ho hb hg hat; rw [← Ny162.out] at ho; replace BK157 := am (blk_grown (g := gb157) (o := .cells #[.int .i64 a0_0, .int .i64 a0_1, .int .i64 a0_2, .slice A0_3 l0_3.length c0_3] 55 (0, 0)) (mB BK157) hg (Kd.R_ne HO161.out BK157.out (by decide))); replace BK158 := am (blk_grown (g := gb158) (o := .cells #[.int .i64 0, .int .i64 0, .int .i64 0, .slice none 0 0] 55 (0, 0)) (mB BK158) hg (Kd.R_ne HO161.out BK158.out (by decide))); replace HB := Aside0.mk hb; have HO164 := Aside0.mk ho; clear HO161; clear ho hb hg hat; obtain ⟨Ao10, co10, eo10⟩ := Kd.R_slice HO164.out; subst eo10; have hz11 := cl4 BK157; have hz12 := cl4 BK158))
  refine bodyPost_ret (results_cell_row rfl _ _ gb158 55 #[.int .i64 a0_0, .int .i64 a0_1, .int .i64 a0_2, .slice Ao10 y162.length co10] (0, 0) _ rfl (mP BK158) Try.underlying55 rfl (by kernel_rfl)) rfl ?_
  exact ⟨_, by first | rfl | (simp [errW_none, errW_some] <;> rfl) | (simp [*, errW_none, errW_some] <;> rfl), by (with_reducible repeat (first | apply Kd.R_alloc | apply Kd.R_drewN | apply Kd.R_drew)); exact Kd.R_mono (RF (RF (RF (RF (Kd.R_far (p := ⟨gb157, 3, none⟩) (Kd.R_types (Kd.R_types HO164.out BK157.out (by decide)) BK158.out (by decide)) (fun _ hk => hk.1.2) (.slice Ao10 y162.length co10)))))) (fun _ hk => trivial), bel HB⟩
 rw [if_neg c2] at H
 exact absurd H (by simp)

/-! ### spec_l12Copy: function 56 -/
def spec_l12Copy.l0 : Nat → List (S55) → Int → Int → Bool → Int → Int → List (S55) → Int → Int → Int → Int → Option (Int × Bool × Int × Int × (List (S55)) × Int × Int × Int × Int)
 | 0, _, _, _, _, _, _, _, _, _, _, _ => none
 | k + 1, x3, x4, x166000, x166001, x166002, x166003, x166004, x166005, x166006, x166007, x166008 => if x4 < (x166004.length : Int) then (if 0 ≤ x4 then ((spec_l12CopyEntry.f ((rd_T55 x166004 x4).f0) ((rd_T55 x166004 x4).f1.f0) ((rd_T55 x166004 x4).f1.f1) ((rd_T55 x166004 x4).f1.f2)).bind fun bt171 => (if x3.length < 2932031007402 then (spec_l12Copy.l0 k (x3 ++ [(⟨bt171.1, (⟨bt171.2.1, bt171.2.2.1, bt171.2.2.2⟩ : S38)⟩ : S55)]) (wrap64 (x4 + 1)) x166000 x166001 x166002 x166003 x166004 x166005 x166006 x166007 x166008) else (none))) else (none)) else (some (x166000, x166001, x166002, x166003, x3, x166005, x166006, x166007, x166008))
def spec_l12Copy.f (k : Nat) (a0_0 : Int) (a0_1 : Bool) (a0_2 : Int) (a0_3 : Int) (l0_4 : List (S55)) (a0_5 : Int) (a0_6 : Int) (a0_7 : Int) (a0_8 : Int) : Option (Int × Bool × Int × Int × (List (S55)) × Int × Int × Int × Int) := spec_l12Copy.l0 k (([] : List (S55))) 0 a0_0 a0_1 a0_2 a0_3 l0_4 a0_5 a0_6 a0_7 a0_8
theorem spec_l12Copy.mono_l : ∀ k, (∀ y0 y1 y2 y3 y4 y5 y6 y7 y8 y9 y10, LeO (spec_l12Copy.l0 k y0 y1 y2 y3 y4 y5 y6 y7 y8 y9 y10) (spec_l12Copy.l0 (k + 1) y0 y1 y2 y3 y4 y5 y6 y7 y8 y9 y10))
 | 0 => fun _ _ _ _ _ _ _ _ _ _ _ r h => by simp [spec_l12Copy.l0] at h
 | k + 1 => by
  have ih0 := spec_l12Copy.mono_l k
  intro y0 y1 y2 y3 y4 y5 y6 y7 y8 y9 y10
  unfold spec_l12Copy.l0
  repeat' first
  | (with_reducible exact ih0 _ _ _ _ _ _ _ _ _ _ _)
  | (with_reducible exact LeO.refl _)
  | (with_reducible exact LeO.none _)
  | (with_reducible refine LeO.ite ?_ ?_)
  | (with_reducible refine LeO.bind ?_ (fun _ => ?_))
  | exact ih0 _ _ _ _ _ _ _ _ _ _ _
  | exact LeO.none _
  | refine LeO.ite ?_ ?_
  | refine LeO.bind ?_ (fun _ => ?_)
theorem spec_l12Copy.mono : ∀ a0 a1 a2 a3 a4 a5 a6 a7 a8 k, LeO (spec_l12Copy.f k a0 a1 a2 a3 a4 a5 a6 a7 a8) (spec_l12Copy.f (k + 1) a0 a1 a2 a3 a4 a5 a6 a7 a8) := by
 intro a0 a1 a2 a3 a4 a5 a6 a7 a8 k
 have ih0 := spec_l12Copy.mono_l k
 unfold spec_l12Copy.f
 repeat' first
   | (with_reducible exact ih0 _ _ _ _ _ _ _ _ _ _ _)
   | (with_reducible exact LeO.refl _)
   | (with_reducible exact LeO.none _)
   | (with_reducible refine LeO.ite ?_ ?_)
   | (with_reducible refine LeO.bind ?_ (fun _ => ?_))
   | exact ih0 _ _ _ _ _ _ _ _ _ _ _
   | exact LeO.none _
   | refine LeO.ite ?_ ?_
   | refine LeO.bind ?_ (fun _ => ?_)
set_option maxHeartbeats 8000000 in
set_option maxRecDepth 100000 in
theorem spec_l12Copy.calls (k : Nat) (a0_0 : Int) (a0_1 : Bool) (a0_2 : Int) (a0_3 : Int) (A0_4 : Option Addr) (c0_4 : Nat) (l0_4 : List (S55)) (a0_5 : Int) (a0_6 : Int) (a0_7 : Int) (a0_8 : Int) (r1 : Int) (r2 : Bool) (r3 : Int) (r4 : Int) (r5 : List (S55)) (r6 : Int) (r7 : Int) (r8 : Int) (r9 : Int) (w : World) (hr0_4 : Kd.C k55 w A0_4 l0_4.length l0_4) (hc0_4 : l0_4.length ≤ c0_4) (h : spec_l12Copy.f k a0_0 a0_1 a0_2 a0_3 l0_4 a0_5 a0_6 a0_7 a0_8 = some (r1, r2, r3, r4, r5, r6, r7, r8, r9)) :
  Calls Try.prog 56 #[.agg #[.int .i64 a0_0, .bool a0_1, .int .i64 a0_2, .int .i64 a0_3, .slice A0_4 l0_4.length c0_4, .int .i64 a0_5, .int .i64 a0_6, .int .i64 a0_7, .int .i64 a0_8]] w fun e w' => ∃ v4_ : Value, e = .returned (.agg #[.int .i64 r1, .bool r2, .int .i64 r3, .int .i64 r4, v4_, .int .i64 r6, .int .i64 r7, .int .i64 r8, .int .i64 r9]) ∧ Kd.S k55 55 w' w.heap.size (fun _ => True) v4_ r5 ∧ Below w.heap.size w w' := by
 have hu32 := Try.underlying32
 have hu55 := Try.underlying55
 have hu38 := Try.underlying38
 have HR0_4 := Aside0.mk hr0_4
 have HC0_4 := Aside0.mk hc0_4
 clear hr0_4 hc0_4
 have HB := am (Below.refl w.heap.size w)
 have H : (spec_l12Copy.l0 k (([] : List (S55))) 0 a0_0 a0_1 a0_2 a0_3 l0_4 a0_5 a0_6 a0_7 a0_8) = some (r1, r2, r3, r4, r5, r6, r7, r8, r9) := h
 clear h
 obtain ⟨y167, hy167⟩ : ∃ y_ : List (S55), y_ = (([] : List (S55))) := ⟨_, rfl⟩
 replace H : (spec_l12Copy.l0 k y167 0 a0_0 a0_1 a0_2 a0_3 l0_4 a0_5 a0_6 a0_7 a0_8) = some (r1, r2, r3, r4, r5, r6, r7, r8, r9) := by first | (rw [hy167]; with_reducible exact H) | (have H2_ := (Option.bind_some _ _).symm.trans H; rw [hy167]; with_reducible exact H2_) | (have H2_ := (Option.bind_some _ _).symm.trans H; with_reducible exact H2_) | with_reducible exact H | (rw [hy167]; exact H) | exact H
 have Ny167 := Aside0.mk hy167
 clear hy167
 have H' := Aside0.mk H
 clear H
 go_enter Try.func56, Try.ntmps56
 go_wp2_with (first | ((with_reducible refine gate_dst (N := 1) rfl ?_); refine boxE #[.int .i64 a0_0, .bool a0_1, .int .i64 a0_2, .int .i64 a0_3, .slice A0_4 l0_4.length c0_4, .int .i64 a0_5, .int .i64 a0_6, .int .i64 a0_7, .int .i64 a0_8] 32 (N := 1) rfl rfl ?_; intro gb165 hg w2 hbox hb; have BK165 := Aside0.mk hbox; have GW165 := gZ HB hg; have GE165 := gZ HB hg; replace HB := bS HB hb; clear hb hbox hg) | ((with_reducible refine gate_dst (N := 2) rfl ?_); refine boxE #[.int .i64 0, .bool false, .int .i64 0, .int .i64 0, .slice none 0 0, .int .i64 0, .int .i64 0, .int .i64 0, .int .i64 0] 32 (N := 2) rfl rfl ?_; intro gb166 hg w3 hbox hb; have BK166 := Aside0.mk hbox; have GW166 := gZ HB hg; have GE166 := gZ HB hg; replace HB := bS HB hb; have NB165_166 := nL BK165 hg; have NB166_165 := nG BK165 hg; replace BK165 := bK BK165 hb; clear hb hbox hg) | ((with_reducible refine gate_dst (N := 5) rfl ?_); refine Kd.S_lit k55 _ 55 ?hg (N := 5) ?hd (xs := ([] : List (S55))) (inner := []) (ok := fun _ => True) (okp := fun _ => True) ?hr ?hp (fun _ hk => hk) trivial (Below.refl _ _) (Nat.le_refl _) (by simp) ?_; (case hd => rfl); (case hg => rfl); (case hr => first | (go_simp; done) | (go_simp; rfl)); (case hp => exact (Reps.none _ _)); intro v168 w4 ho5 hb hg_ hnew_; clear hg_ hnew_; (first | rw [← Ny167.out] at ho5 | (simp only [Int.reduceToNat] at ho5; rw [← Ny167.out] at ho5)); have HO169 := am (Kd.S_lower ho5 (below_size (bel HB))); replace BK165 := bK BK165 hb; replace BK166 := bK BK166 hb; replace HB := bS HB hb; clear hb ho5))
 go_loopg [3, 4] k (fun kq v3 v4 w' => ∃ (x3_1 : List (S55)) (x4_1 : Int), v4 = .int .i64 x4_1 ∧ Aside0 (spec_l12Copy.l0 kq x3_1 x4_1 a0_0 a0_1 a0_2 a0_3 l0_4 a0_5 a0_6 a0_7 a0_8 = some (r1, r2, r3, r4, r5, r6, r7, r8, r9)) ∧ Aside0 (kq ≤ k) ∧ Aside0 (Kd.S k55 55 w' w.heap.size (fun _ => True) v3 x3_1) ∧ Aside0 (w'.heap[gb165]? = some (.cells #[.int .i64 a0_0, .bool a0_1, .int .i64 a0_2, .int .i64 a0_3, (.slice A0_4 l0_4.length c0_4), .int .i64 a0_5, .int .i64 a0_6, .int .i64 a0_7, .int .i64 a0_8] 32 (0, 0))) ∧ Aside0 (w'.heap[gb166]? = some (.cells #[.int .i64 0, .bool false, .int .i64 0, .int .i64 0, (.slice none 0 0), .int .i64 0, .int .i64 0, .int .i64 0, .int .i64 0] 32 (0, 0))) ∧ Aside0 (Below w.heap.size w w'))
 case atStart => exact ⟨(y167), (0), (by first | rfl | (simp; done) | (simp [*]; done)), H', ⟨Nat.le_refl _⟩, ⟨by (with_reducible repeat (first | apply Kd.S_alloc | apply Kd.S_drewN | apply Kd.S_drew)); exact HO169.out⟩, ⟨by (with_reducible repeat (first | refine blk_drewN ?_ _ | refine blk_drew ?_ | refine blk_alloc ?_ _)); exact BK165.out⟩, ⟨by (with_reducible repeat (first | refine blk_drewN ?_ _ | refine blk_drew ?_ | refine blk_alloc ?_ _)); exact BK166.out⟩, ⟨bel HB⟩⟩
 case round =>
  clear H'
  try clear p2
  try clear c5
  obtain ⟨x3_1, x4_1, rfl, HA, HK1, HO_3, BK165, BK166, HB⟩ := hrel
  cases gk with
  | zero => exact absurd HA.out (by simp [spec_l12Copy.l0])
  | succ k1 =>
   have H := HA.out
   clear HA
   simp only [spec_l12Copy.l0] at H
   by_cases c6 : x4_1 < (l0_4.length : Int)
   ·
    rw [if_pos c6] at H
    have c6b0 : decide (x4_1 < (l0_4.length : Int)) = true := decide_eq_true c6
    clear c6
    by_cases c7 : 0 ≤ x4_1
    ·
     rw [if_pos c7] at H
     have c7b0 : decide (0 ≤ x4_1) = true := decide_eq_true c7
     clear c7
     replace H := Option.bind_eq_some_iff.mp H
     obtain ⟨⟨t171, t172, t173, t174⟩, A80, H⟩ := H
     replace H : (if x3_1.length < 2932031007402 then (spec_l12Copy.l0 k1 (x3_1 ++ [(⟨t171, (⟨t172, t173, t174⟩ : S38)⟩ : S55)]) (wrap64 (x4_1 + 1)) a0_0 a0_1 a0_2 a0_3 l0_4 a0_5 a0_6 a0_7 a0_8) else (none)) = some (r1, r2, r3, r4, r5, r6, r7, r8, r9) := H
     have A8 := Aside0.mk A80
     clear A80
     by_cases c9 : x3_1.length < 2932031007402
     ·
      rw [if_pos c9] at H
      have LMc9 := Aside0.mk c9
      clear c9
      obtain ⟨y177, hy177⟩ : ∃ y_ : List (S55), y_ = (x3_1 ++ [(⟨t171, (⟨t172, t173, t174⟩ : S38)⟩ : S55)]) := ⟨_, rfl⟩
      replace H : (spec_l12Copy.l0 k1 y177 (wrap64 (x4_1 + 1)) a0_0 a0_1 a0_2 a0_3 l0_4 a0_5 a0_6 a0_7 a0_8) = some (r1, r2, r3, r4, r5, r6, r7, r8, r9) := by first | (rw [hy177]; with_reducible exact H) | (have H2_ := (Option.bind_some _ _).symm.trans H; rw [hy177]; with_reducible exact H2_) | (have H2_ := (Option.bind_some _ _).symm.trans H; with_reducible exact H2_) | with_reducible exact H | (rw [hy177]; exact H) | exact H
      have Ny177 := Aside0.mk hy177
      clear hy177
      have H' := Aside0.mk H
      clear H
      have hnb10 := NB165_166.out
      have hnc10 := NB166_165.out
      have hz11 := cl9 BK165
      have p170 : 0 ≤ (x4_1 : Int) := of_decide_eq_true (by first | (with_reducible assumption) | assumption)
      have q170 : x4_1 < (l0_4.length : Int) := of_decide_eq_true (by first | (with_reducible assumption) | assumption)
      obtain ⟨ad170, A170_3, c170_3, e170, hx170_0, hx170_1, hx170_2, hx170_3, hl170_3, hi170_3⟩ := at_T55 HR0_4.out x4_1 p170 q170
      cases e170
      replace hx170_0 := (HB.out.cell (World.block_lt_of_cell? w _ hx170_0)).trans hx170_0
      replace hx170_1 := (HB.out.cell (World.block_lt_of_cell? w _ hx170_1)).trans hx170_1
      replace hx170_2 := (HB.out.cell (World.block_lt_of_cell? w _ hx170_2)).trans hx170_2
      replace hx170_3 := (HB.out.cell (World.block_lt_of_cell? w _ hx170_3)).trans hx170_3
      have HR170_3 := Aside0.mk hi170_3
      have HC170_3 := Aside0.mk hl170_3
      clear hi170_3 hl170_3
      replace p170 := eq_true p170
      replace q170 := eq_true q170
      go_wp2_with (first | ((with_reducible refine gate_callee (f := 57) rfl ?_); refine goA (some 19) rfl rfl Try.func57 rfl #[.agg #[.int .i64 ((rd_T55 l0_4 x4_1).f0), .int .i64 ((rd_T55 l0_4 x4_1).f1.f0), .int .i64 ((rd_T55 l0_4 x4_1).f1.f1), .slice A170_3 ((rd_T55 l0_4 x4_1).f1.f2).length c170_3]] rfl ?_; (with_reducible refine (spec_l12CopyEntry.calls ((rd_T55 l0_4 x4_1).f0) ((rd_T55 l0_4 x4_1).f1.f0) ((rd_T55 l0_4 x4_1).f1.f1) _ _ ((rd_T55 l0_4 x4_1).f1.f2) t171 t172 t173 t174 _ ?side1 ?side2 A8.out).mono ?_); (case side1 => exact mC HR170_3 HB); (case side2 => exact HC170_3.out); rintro e w12 ⟨v175, rfl, ho0, hb⟩; refine ⟨_, rfl, ?_⟩; replace HO_3 := am (Kd.S_elder' (mS HO_3) (Kd.R_base ho0) hb); have HO176 := am (Kd.R_lower ho0 (below_size (bel HB))); replace BK165 := bK BK165 hb; replace BK166 := bK BK166 hb; replace HB := bS HB hb; (try clear hb); (try clear hb2); (try clear hk); (try clear hi); (try clear ho0); obtain ⟨Ao14, co14, eo14⟩ := Kd.R_slice HO176.out; subst eo14) | ((with_reducible refine gate_builtin (b := .append) (xs := #[.tmp 13, .tmp 20]) rfl ?_); at_builtin; refine Kd.S_append k55 (w0 := w) w.heap.size rfl (.tmp 13) (.tmp 20) 30 55 (.agg #[(.int .i64 0), (.int .i64 0), (.int .i64 0), (.slice none 0 0)]) 48 rfl Try.underlying30 info55 rfl (by decide) (by omega) u3 x3_1 (⟨t171, (⟨t172, t173, t174⟩ : S38)⟩ : S55) [.int .i64 t171, .int .i64 t172, .int .i64 t173, .slice Ao14 t174.length co14] (fun _ => True) (fun k_ => some k_ = (.slice Ao14 t174.length co14 : Value).ownBlock) rfl rfl ?aP (fun k_ hk_ => ((Kd.R_mono (ok' := fun k_ => ((fun _ => True)) k_ ∧ some k_ ≠ (u3 : Value).ownBlock) (Kd.R_apart' (HO176.out) (Kd.S_typed HO_3.out) (by decide)) (fun k_ hk => ⟨trivial, hk.2⟩))).1 k_ hk_.symm) ?aF ?aO ?aB ?aS ?aL ?_; (case aP => exact k55_mkM _ _ _ (⟨t171, (⟨t172, t173, t174⟩ : S38)⟩ : S55) (Kd.R_mono (Kd.R_tight rfl (Kd.R_mono (ok' := fun k_ => ((fun _ => True)) k_ ∧ some k_ ≠ (u3 : Value).ownBlock) (Kd.R_apart' (HO176.out) (Kd.S_typed HO_3.out) (by decide)) (fun k_ hk => ⟨trivial, hk.2⟩))) (fun _ h_ => h_))); (case aB => exact (bel HB)); (case aF => exact (fun _ _ => trivial)); (case aO => exact (by (with_reducible repeat (first | apply Kd.S_alloc | apply Kd.S_drewN | apply Kd.S_drew)); exact Kd.S_mono HO_3.out (fun k_ hk => ⟨trivial, fun e_ => hk.2 e_⟩))); (case aS => exact (below_size (bel HB))); (case aL => have := LMc9.out; omega); intro v178 w13 ho hb hg hat; rw [← Ny177.out] at ho; replace BK165 := am (blk_grown (g := gb165) (o := .cells #[.int .i64 a0_0, .bool a0_1, .int .i64 a0_2, .int .i64 a0_3, .slice (some ad170) l0_4.length c0_4, .int .i64 a0_5, .int .i64 a0_6, .int .i64 a0_7, .int .i64 a0_8] 32 (0, 0)) (mB BK165) hg (Kd.S_ne HO_3.out BK165.out (by decide))); replace BK166 := am (blk_grown (g := gb166) (o := .cells #[.int .i64 0, .bool false, .int .i64 0, .int .i64 0, .slice none 0 0, .int .i64 0, .int .i64 0, .int .i64 0, .int .i64 0] 32 (0, 0)) (mB BK166) hg (Kd.S_ne HO_3.out BK166.out (by decide))); replace HB := Aside0.mk hb; have HO179 := Aside0.mk ho; clear HO_3 HO176; clear ho hb hg hat))
      go_roundg k1
      case measure => have := HK1.out; omega
      case rel => exact ⟨(y177), (wrap64 (x4_1 + 1)), (by first | rfl | (simp; done) | (simp [*]; done)), H', ⟨by have := HK1.out; omega⟩, ⟨by (with_reducible repeat (first | apply Kd.S_alloc | apply Kd.S_drewN | apply Kd.S_drew)); exact HO179.out⟩, ⟨by (with_reducible repeat (first | refine blk_drewN ?_ _ | refine blk_drew ?_ | refine blk_alloc ?_ _)); exact BK165.out⟩, ⟨by (with_reducible repeat (first | refine blk_drewN ?_ _ | refine blk_drew ?_ | refine blk_alloc ?_ _)); exact BK166.out⟩, ⟨bel HB⟩⟩
     rw [if_neg c9] at H
     exact absurd H (by simp)
    rw [if_neg c7] at H
    exact absurd H (by simp)
   rw [if_neg c6] at H
   have c6b0 : decide (x4_1 < (l0_4.length : Int)) = false := decide_eq_false c6
   clear c6
   simp only [Option.some.injEq, Prod.mk.injEq] at H
   obtain ⟨rfl, rfl, rfl, rfl, rfl, rfl, rfl, rfl, rfl⟩ := H
   have hnb15 := NB165_166.out
   have hnc15 := NB166_165.out
   have hz16 := cl9 BK165
   obtain ⟨Ao17, co17, eo17⟩ := Kd.S_slice HO_3.out
   subst eo17
   have hz18 := cl9 BK166
   go_wp2
   refine bodyPost_ret (results_cell_row rfl _ _ gb166 32 #[.int .i64 a0_0, .bool a0_1, .int .i64 a0_2, .int .i64 a0_3, .slice Ao17 x3_1.length co17, .int .i64 a0_5, .int .i64 a0_6, .int .i64 a0_7, .int .i64 a0_8] (0, 0) _ rfl (mP BK166) Try.underlying32 rfl (by kernel_rfl)) rfl ?_
   exact ⟨_, by first | rfl | (simp [errW_none, errW_some] <;> rfl) | (simp [*, errW_none, errW_some] <;> rfl), by (with_reducible repeat (first | apply Kd.S_alloc | apply Kd.S_drewN | apply Kd.S_drew)); exact Kd.S_mono (Kd.S_far (p := ⟨gb166, 8, none⟩) (Kd.S_far (p := ⟨gb166, 7, none⟩) (Kd.S_far (p := ⟨gb166, 6, none⟩) (Kd.S_far (p := ⟨gb166, 5, none⟩) (Kd.S_far (p := ⟨gb166, 4, none⟩) (Kd.S_far (p := ⟨gb166, 3, none⟩) (Kd.S_far (p := ⟨gb166, 2, none⟩) (Kd.S_far (p := ⟨gb166, 1, none⟩) (Kd.S_far (p := ⟨gb166, 0, none⟩) (Kd.S_far (p := ⟨gb165, 4, none⟩) (Kd.S_types (Kd.S_types HO_3.out BK165.out (by decide)) BK166.out (by decide)) (fun _ hk => hk.1.2) (.slice Ao17 x3_1.length co17)) (fun _ hk => hk.2) (.int .i64 a0_0)) (fun _ hk => hk.2) (.bool a0_1)) (fun _ hk => hk.2) (.int .i64 a0_2)) (fun _ hk => hk.2) (.int .i64 a0_3)) (fun _ hk => hk.2) (.slice Ao17 x3_1.length co17)) (fun _ hk => hk.2) (.int .i64 a0_5)) (fun _ hk => hk.2) (.int .i64 a0_6)) (fun _ hk => hk.2) (.int .i64 a0_7)) (fun _ hk => hk.2) (.int .i64 a0_8)) (fun _ hk => trivial), bel HB⟩

/-! ### spec_AddEvent: function 11 -/
def spec_AddEvent.f (k : Nat) (a0_0 : Int) (a0_1 : Bool) (a0_2 : Int) (a0_3 : Int) (l0_4 : List (S55)) (a0_5 : Int) (a0_6 : Int) (a0_7 : Int) (a0_8 : Int) (a1_0 : Int) (a1_1 : Int) (l1_2 : List Int) : Option (Int × Int × Bool × Int × Int × (List (S55)) × Int × Int × Int × Int × (List (S57))) := (spec_l12Active.f k a0_0 a0_1 a0_2 a0_3 l0_4 a0_5 a0_6 a0_7 a0_8).bind fun bt183 => (if bt183.1 = 0 then ((spec_EventFault.f k a1_0 a1_1 l1_2).bind fun t207 => (if t207 = 0 then (if (l0_4.length : Int) ≥ 100 then ((spec_l12Bad.f 2).bind fun bt223 => (some (bt223.1, bt223.2.1, bt223.2.2.1, bt223.2.2.2.1, bt223.2.2.2.2.1, bt223.2.2.2.2.2.1, bt223.2.2.2.2.2.2.1, bt223.2.2.2.2.2.2.2.1, bt223.2.2.2.2.2.2.2.2.1, bt223.2.2.2.2.2.2.2.2.2.1, bt223.2.2.2.2.2.2.2.2.2.2))) else ((spec_l12Copy.f k bt183.2.1 bt183.2.2.1 bt183.2.2.2.1 bt183.2.2.2.2.1 l0_4 bt183.2.2.2.2.2.1 bt183.2.2.2.2.2.2.1 bt183.2.2.2.2.2.2.2.1 bt183.2.2.2.2.2.2.2.2).bind fun bt238 => ((spec_l12CopyEntry.f bt183.2.2.2.2.1 a1_0 a1_1 l1_2).bind fun bt250 => (if bt238.2.2.2.2.1.length < 2932031007402 then (some (0, bt238.1, bt238.2.1, bt238.2.2.1, bt238.2.2.2.1, (bt238.2.2.2.2.1 ++ [(⟨bt250.1, (⟨bt250.2.1, bt250.2.2.1, bt250.2.2.2⟩ : S38)⟩ : S55)]), bt238.2.2.2.2.2.1, bt238.2.2.2.2.2.2.1, bt238.2.2.2.2.2.2.2.1, bt238.2.2.2.2.2.2.2.2, ([] : List (S57)))) else (none))))) else ((spec_l12Bad.f t207).bind fun bt208 => (some (bt208.1, bt208.2.1, bt208.2.2.1, bt208.2.2.2.1, bt208.2.2.2.2.1, bt208.2.2.2.2.2.1, bt208.2.2.2.2.2.2.1, bt208.2.2.2.2.2.2.2.1, bt208.2.2.2.2.2.2.2.2.1, bt208.2.2.2.2.2.2.2.2.2.1, bt208.2.2.2.2.2.2.2.2.2.2))))) else ((spec_l12Bad.f bt183.1).bind fun bt192 => (some (bt192.1, bt192.2.1, bt192.2.2.1, bt192.2.2.2.1, bt192.2.2.2.2.1, bt192.2.2.2.2.2.1, bt192.2.2.2.2.2.2.1, bt192.2.2.2.2.2.2.2.1, bt192.2.2.2.2.2.2.2.2.1, bt192.2.2.2.2.2.2.2.2.2.1, bt192.2.2.2.2.2.2.2.2.2.2))))
theorem spec_AddEvent.mono : ∀ a0 a1 a2 a3 a4 a5 a6 a7 a8 a9 a10 a11 k, LeO (spec_AddEvent.f k a0 a1 a2 a3 a4 a5 a6 a7 a8 a9 a10 a11) (spec_AddEvent.f (k + 1) a0 a1 a2 a3 a4 a5 a6 a7 a8 a9 a10 a11) := by
 intro a0 a1 a2 a3 a4 a5 a6 a7 a8 a9 a10 a11 k
 unfold spec_AddEvent.f
 repeat' first
   | (with_reducible exact spec_EventFault.mono _ _ _ _)
   | (with_reducible exact spec_l12Active.mono _ _ _ _ _ _ _ _ _ _)
   | (with_reducible exact spec_l12Copy.mono _ _ _ _ _ _ _ _ _ _)
   | (with_reducible exact LeO.refl _)
   | (with_reducible exact LeO.none _)
   | (with_reducible refine LeO.ite ?_ ?_)
   | (with_reducible refine LeO.bind ?_ (fun _ => ?_))
   | exact spec_EventFault.mono _ _ _ _
   | exact spec_l12Active.mono _ _ _ _ _ _ _ _ _ _
   | exact spec_l12Copy.mono _ _ _ _ _ _ _ _ _ _
   | exact LeO.none _
   | refine LeO.ite ?_ ?_
   | refine LeO.bind ?_ (fun _ => ?_)
def spec_AddEvent.T10 : Bool × List (List Nat × List Nat) := (true, [([], []), ([0], [0]), ([], []), ([2], [2]), ([], []), ([3, 4], [3, 4]), ([5], [5]), ([6], [6]), ([1, 7, 6], [1, 7]), ([0, 1, 2, 3, 4, 5, 6, 7, 8], []), ([9, 8, 8, 0, 1, 2, 3, 4, 5, 6, 7, 8], [8, 9])])
def spec_AddEvent.B10 : List Nat := [0, 1, 0, 4, 0, 28, 60, 124, 255, 511, 1023]
theorem spec_AddEvent.tab10 : rtab .any (opsOf Try.f11 10) = spec_AddEvent.T10 := by kernel_rfl
theorem spec_AddEvent.bits10 : waitsOk spec_AddEvent.T10.2 spec_AddEvent.B10 = true := by kernel_rfl
set_option maxHeartbeats 8000000 in
set_option maxRecDepth 100000 in
theorem spec_AddEvent.calls (k : Nat) (a0_0 : Int) (a0_1 : Bool) (a0_2 : Int) (a0_3 : Int) (A0_4 : Option Addr) (c0_4 : Nat) (l0_4 : List (S55)) (a0_5 : Int) (a0_6 : Int) (a0_7 : Int) (a0_8 : Int) (a1_0 : Int) (a1_1 : Int) (A1_2 : Option Addr) (c1_2 : Nat) (l1_2 : List Int) (r1 : Int) (r2 : Int) (r3 : Bool) (r4 : Int) (r5 : Int) (r6 : List (S55)) (r7 : Int) (r8 : Int) (r9 : Int) (r10 : Int) (r11 : List (S57)) (w : World) (hr0_4 : Kd.C k55 w A0_4 l0_4.length l0_4) (hc0_4 : l0_4.length ≤ c0_4) (hr1_2 : Kd.C (Kd.int .u8) w A1_2 l1_2.length l1_2) (hc1_2 : l1_2.length ≤ c1_2) (h : spec_AddEvent.f k a0_0 a0_1 a0_2 a0_3 l0_4 a0_5 a0_6 a0_7 a0_8 a1_0 a1_1 l1_2 = some (r1, r2, r3, r4, r5, r6, r7, r8, r9, r10, r11)) :
  Calls Try.prog 11 #[.agg #[.int .i64 a0_0, .bool a0_1, .int .i64 a0_2, .int .i64 a0_3, .slice A0_4 l0_4.length c0_4, .int .i64 a0_5, .int .i64 a0_6, .int .i64 a0_7, .int .i64 a0_8], .agg #[.int .i64 a1_0, .int .i64 a1_1, .slice A1_2 l1_2.length c1_2]] w fun e w' => ∃ v5_ v10_ : Value, e = .returned (.agg #[.int .i64 r1, .int .i64 r2, .bool r3, .int .i64 r4, .int .i64 r5, v5_, .int .i64 r7, .int .i64 r8, .int .i64 r9, .int .i64 r10, v10_]) ∧ Kd.S k55 55 w' w.heap.size (fun _ => True) v5_ r6 ∧ Kd.S k57 57 w' w.heap.size (fun _ => True) v10_ r11 ∧ Below w.heap.size w w' := by
 have hu32 := Try.underlying32
 have hu38 := Try.underlying38
 have hu35 := Try.underlying35
 have hu55 := Try.underlying55
 have HR0_4 := Aside0.mk hr0_4
 have HC0_4 := Aside0.mk hc0_4
 clear hr0_4 hc0_4
 have HR1_2 := Aside0.mk hr1_2
 have HC1_2 := Aside0.mk hc1_2
 clear hr1_2 hc1_2
 have HB := am (Below.refl w.heap.size w)
 have H : ((spec_l12Active.f k a0_0 a0_1 a0_2 a0_3 l0_4 a0_5 a0_6 a0_7 a0_8).bind fun bt183 => (if bt183.1 = 0 then ((spec_EventFault.f k a1_0 a1_1 l1_2).bind fun t207 => (if t207 = 0 then (if (l0_4.length : Int) ≥ 100 then ((spec_l12Bad.f 2).bind fun bt223 => (some (bt223.1, bt223.2.1, bt223.2.2.1, bt223.2.2.2.1, bt223.2.2.2.2.1, bt223.2.2.2.2.2.1, bt223.2.2.2.2.2.2.1, bt223.2.2.2.2.2.2.2.1, bt223.2.2.2.2.2.2.2.2.1, bt223.2.2.2.2.2.2.2.2.2.1, bt223.2.2.2.2.2.2.2.2.2.2))) else ((spec_l12Copy.f k bt183.2.1 bt183.2.2.1 bt183.2.2.2.1 bt183.2.2.2.2.1 l0_4 bt183.2.2.2.2.2.1 bt183.2.2.2.2.2.2.1 bt183.2.2.2.2.2.2.2.1 bt183.2.2.2.2.2.2.2.2).bind fun bt238 => ((spec_l12CopyEntry.f bt183.2.2.2.2.1 a1_0 a1_1 l1_2).bind fun bt250 => (if bt238.2.2.2.2.1.length < 2932031007402 then (some (0, bt238.1, bt238.2.1, bt238.2.2.1, bt238.2.2.2.1, (bt238.2.2.2.2.1 ++ [(⟨bt250.1, (⟨bt250.2.1, bt250.2.2.1, bt250.2.2.2⟩ : S38)⟩ : S55)]), bt238.2.2.2.2.2.1, bt238.2.2.2.2.2.2.1, bt238.2.2.2.2.2.2.2.1, bt238.2.2.2.2.2.2.2.2, ([] : List (S57)))) else (none))))) else ((spec_l12Bad.f t207).bind fun bt208 => (some (bt208.1, bt208.2.1, bt208.2.2.1, bt208.2.2.2.1, bt208.2.2.2.2.1, bt208.2.2.2.2.2.1, bt208.2.2.2.2.2.2.1, bt208.2.2.2.2.2.2.2.1, bt208.2.2.2.2.2.2.2.2.1, bt208.2.2.2.2.2.2.2.2.2.1, bt208.2.2.2.2.2.2.2.2.2.2))))) else ((spec_l12Bad.f bt183.1).bind fun bt192 => (some (bt192.1, bt192.2.1, bt192.2.2.1, bt192.2.2.2.1, bt192.2.2.2.2.1, bt192.2.2.2.2.2.1, bt192.2.2.2.2.2.2.1, bt192.2.2.2.2.2.2.2.1, bt192.2.2.2.2.2.2.2.2.1, bt192.2.2.2.2.2.2.2.2.2.1, bt192.2.2.2.2.2.2.2.2.2.2))))) = some (r1, r2, r3, r4, r5, r6, r7, r8, r9, r10, r11) := h
 clear h
 replace H := Option.bind_eq_some_iff.mp H
 obtain ⟨⟨t183, t184, t185, t186, t187, t188, t189, t190, t191⟩, A30, H⟩ := H
 replace H : (if t183 = 0 then ((spec_EventFault.f k a1_0 a1_1 l1_2).bind fun t207 => (if t207 = 0 then (if (l0_4.length : Int) ≥ 100 then ((spec_l12Bad.f 2).bind fun bt223 => (some (bt223.1, bt223.2.1, bt223.2.2.1, bt223.2.2.2.1, bt223.2.2.2.2.1, bt223.2.2.2.2.2.1, bt223.2.2.2.2.2.2.1, bt223.2.2.2.2.2.2.2.1, bt223.2.2.2.2.2.2.2.2.1, bt223.2.2.2.2.2.2.2.2.2.1, bt223.2.2.2.2.2.2.2.2.2.2))) else ((spec_l12Copy.f k t184 t185 t186 t187 l0_4 t188 t189 t190 t191).bind fun bt238 => ((spec_l12CopyEntry.f t187 a1_0 a1_1 l1_2).bind fun bt250 => (if bt238.2.2.2.2.1.length < 2932031007402 then (some (0, bt238.1, bt238.2.1, bt238.2.2.1, bt238.2.2.2.1, (bt238.2.2.2.2.1 ++ [(⟨bt250.1, (⟨bt250.2.1, bt250.2.2.1, bt250.2.2.2⟩ : S38)⟩ : S55)]), bt238.2.2.2.2.2.1, bt238.2.2.2.2.2.2.1, bt238.2.2.2.2.2.2.2.1, bt238.2.2.2.2.2.2.2.2, ([] : List (S57)))) else (none))))) else ((spec_l12Bad.f t207).bind fun bt208 => (some (bt208.1, bt208.2.1, bt208.2.2.1, bt208.2.2.2.1, bt208.2.2.2.2.1, bt208.2.2.2.2.2.1, bt208.2.2.2.2.2.2.1, bt208.2.2.2.2.2.2.2.1, bt208.2.2.2.2.2.2.2.2.1, bt208.2.2.2.2.2.2.2.2.2.1, bt208.2.2.2.2.2.2.2.2.2.2))))) else ((spec_l12Bad.f t183).bind fun bt192 => (some (bt192.1, bt192.2.1, bt192.2.2.1, bt192.2.2.2.1, bt192.2.2.2.2.1, bt192.2.2.2.2.2.1, bt192.2.2.2.2.2.2.1, bt192.2.2.2.2.2.2.2.1, bt192.2.2.2.2.2.2.2.2.1, bt192.2.2.2.2.2.2.2.2.2.1, bt192.2.2.2.2.2.2.2.2.2.2)))) = some (r1, r2, r3, r4, r5, r6, r7, r8, r9, r10, r11) := H
 have A3 := Aside0.mk A30
 clear A30
 by_cases c4 : t183 = 0
 ·
  rw [if_pos c4] at H
  have c4b0 : (t183 == 0) = true := beq_iff_eq.mpr c4
  have c4b1 : (t183 != 0) = false := bne_eq_false_iff_eq.mpr c4
  clear c4
  replace H := Option.bind_eq_some_iff.mp H
  obtain ⟨t207, A50, H⟩ := H
  replace H : (if t207 = 0 then (if (l0_4.length : Int) ≥ 100 then ((spec_l12Bad.f 2).bind fun bt223 => (some (bt223.1, bt223.2.1, bt223.2.2.1, bt223.2.2.2.1, bt223.2.2.2.2.1, bt223.2.2.2.2.2.1, bt223.2.2.2.2.2.2.1, bt223.2.2.2.2.2.2.2.1, bt223.2.2.2.2.2.2.2.2.1, bt223.2.2.2.2.2.2.2.2.2.1, bt223.2.2.2.2.2.2.2.2.2.2))) else ((spec_l12Copy.f k t184 t185 t186 t187 l0_4 t188 t189 t190 t191).bind fun bt238 => ((spec_l12CopyEntry.f t187 a1_0 a1_1 l1_2).bind fun bt250 => (if bt238.2.2.2.2.1.length < 2932031007402 then (some (0, bt238.1, bt238.2.1, bt238.2.2.1, bt238.2.2.2.1, (bt238.2.2.2.2.1 ++ [(⟨bt250.1, (⟨bt250.2.1, bt250.2.2.1, bt250.2.2.2⟩ : S38)⟩ : S55)]), bt238.2.2.2.2.2.1, bt238.2.2.2.2.2.2.1, bt238.2.2.2.2.2.2.2.1, bt238.2.2.2.2.2.2.2.2, ([] : List (S57)))) else (none))))) else ((spec_l12Bad.f t207).bind fun bt208 => (some (bt208.1, bt208.2.1, bt208.2.2.1, bt208.2.2.2.1, bt208.2.2.2.2.1, bt208.2.2.2.2.2.1, bt208.2.2.2.2.2.2.1, bt208.2.2.2.2.2.2.2.1, bt208.2.2.2.2.2.2.2.2.1, bt208.2.2.2.2.2.2.2.2.2.1, bt208.2.2.2.2.2.2.2.2.2.2)))) = some (r1, r2, r3, r4, r5, r6, r7, r8, r9, r10, r11) := H
  have A5 := Aside0.mk A50
  clear A50
  by_cases c6 : t207 = 0
  ·
   rw [if_pos c6] at H
   have c6b0 : (t207 == 0) = true := beq_iff_eq.mpr c6
   have c6b1 : (t207 != 0) = false := bne_eq_false_iff_eq.mpr c6
   clear c6
   by_cases c7 : (l0_4.length : Int) ≥ 100
   ·
    rw [if_pos c7] at H
    have c7b0 : decide (100 ≤ (l0_4.length : Int)) = true := decide_eq_true c7
    have c7b1 : decide (100 ≤ l0_4.length) = true := decide_eq_true (by omega)
    clear c7
    replace H := Option.bind_eq_some_iff.mp H
    obtain ⟨⟨t223, t224, t225, t226, t227, t228, t231, t232, t233, t234, t235⟩, A80, H⟩ := H
    replace H : (some (t223, t224, t225, t226, t227, t228, t231, t232, t233, t234, t235)) = some (r1, r2, r3, r4, r5, r6, r7, r8, r9, r10, r11) := H
    have A8 := Aside0.mk A80
    clear A80
    simp only [Option.some.injEq, Prod.mk.injEq] at H
    obtain ⟨rfl, rfl, rfl, rfl, rfl, rfl, rfl, rfl, rfl, rfl, rfl⟩ := H
    go_enter Try.func11, Try.ntmps11
    go_wp2_with (first | ((with_reducible refine gate_dst (N := 2) rfl ?_); refine boxE #[.int .i64 a0_0, .bool a0_1, .int .i64 a0_2, .int .i64 a0_3, .slice A0_4 l0_4.length c0_4, .int .i64 a0_5, .int .i64 a0_6, .int .i64 a0_7, .int .i64 a0_8] 32 (N := 2) rfl rfl ?_; intro gb180 hg w9 hbox hb; have BK180 := Aside0.mk hbox; have GW180 := gZ HB hg; have GE180 := gZ HB hg; replace HB := bS HB hb; clear hb hbox hg) | ((with_reducible refine gate_dst (N := 3) rfl ?_); refine boxE #[.int .i64 a1_0, .int .i64 a1_1, .slice A1_2 l1_2.length c1_2] 38 (N := 3) rfl rfl ?_; intro gb181 hg w10 hbox hb; have BK181 := Aside0.mk hbox; have GW181 := gZ HB hg; have GE181 := gZ HB hg; replace HB := bS HB hb; have NB180_181 := nL BK180 hg; have NB181_180 := nG BK180 hg; replace BK180 := bK BK180 hb; clear hb hbox hg) | ((with_reducible refine gate_dst (N := 4) rfl ?_); refine boxE #[.int .i64 0, .int .i64 0, .bool false, .int .i64 0, .int .i64 0, .slice none 0 0, .int .i64 0, .int .i64 0, .int .i64 0, .int .i64 0, .slice none 0 0] 35 (N := 4) rfl rfl ?_; intro gb182 hg w11 hbox hb; have BK182 := Aside0.mk hbox; have GW182 := gZ HB hg; have GE182 := gZ HB hg; replace HB := bS HB hb; have NB180_182 := nL BK180 hg; have NB182_180 := nG BK180 hg; replace BK180 := bK BK180 hb; have NB181_182 := nL BK181 hg; have NB182_181 := nG BK181 hg; replace BK181 := bK BK181 hb; clear hb hbox hg; have HI180 := am (show IsS32 w w11 gb180 a0_0 a0_1 a0_2 a0_3 l0_4 a0_5 a0_6 a0_7 a0_8 from ⟨_, _, (mB BK180), GE180.out, HR0_4.out, HC0_4.out⟩); clear BK180) | ((with_reducible refine gate_callee (f := 53) rfl ?_); refine goA (some 8) rfl rfl Try.func53 rfl #[.pointer (some ⟨gb180, 0, none⟩)] rfl ?_; (with_reducible refine (spec_l12Active.calls k gb180 a0_0 a0_1 a0_2 a0_3 l0_4 a0_5 a0_6 a0_7 a0_8 t183 t184 t185 t186 t187 t188 t189 t190 t191 w _ ?side1 ?side2 A3.out).mono ?_); (case side1 => repeat (first | (with_reducible first | exact HI180.out | apply IsS32.alloc | apply IsS32.drewN | apply IsS32.drew | apply IsS32.set_0 | apply IsS32.set_1 | apply IsS32.set_2 | apply IsS32.set_3 | apply IsS32.set_5 | apply IsS32.set_6 | apply IsS32.set_7 | apply IsS32.set_8 | refine IsS32.far ?_ NB180_181.out _ | refine IsS32.far ?_ NB180_182.out _) | exact HI180.out)); (case side2 => repeat (first | (with_reducible first | exact HB.out | apply below_alloc | apply pw_below_drewN | apply below_drew1 | refine below_set ?_ (IsS32.ge HI180.out) | refine below_set ?_ GE181.out | refine below_set ?_ GE182.out) | exact HB.out)); rintro e w12 ⟨rfl, hi, hb, hk⟩; refine ⟨_, rfl, ?_⟩; replace BK181 := am (KeepBut.blk hk (g' := gb181) (o := .cells #[.int .i64 a1_0, .int .i64 a1_1, .slice A1_2 l1_2.length c1_2] 38 (0, 0)) (mB BK181) NB181_180.out (by simp)); replace BK182 := am (KeepBut.blk hk (g' := gb182) (o := .cells #[.int .i64 0, .int .i64 0, .bool false, .int .i64 0, .int .i64 0, .slice none 0 0, .int .i64 0, .int .i64 0, .int .i64 0, .int .i64 0, .slice none 0 0] 35 (0, 0)) (mB BK182) NB182_180.out (by simp)); replace HB := Aside0.mk hb; replace HI180 := Aside0.mk hi; (try clear hb); (try clear hb2); (try clear hk); (try clear hi); have hnb13 := NB181_182.out; have hnc13 := NB182_181.out; have hnb14 := NB181_180.out; have hnc14 := NB180_181.out; have hz15 := cl3 BK181) | ((with_reducible refine gate_callee (f := 55) rfl ?_); refine goA (some 14) rfl rfl Try.func55 rfl #[.agg #[.int .i64 a1_0, .int .i64 a1_1, .slice A1_2 l1_2.length c1_2]] rfl ?_; (with_reducible refine (spec_EventFault.calls k a1_0 a1_1 _ _ l1_2 t207 _ ?side1 ?side2 A5.out).mono ?_); (case side1 => exact mC HR1_2 HB); (case side2 => exact HC1_2.out); rintro e w16 ⟨rfl, hb⟩; refine ⟨_, rfl, ?_⟩; replace BK181 := bK BK181 hb; replace BK182 := bK BK182 hb; replace HB := am (below_step (by repeat (first | (with_reducible first | exact HB.out | apply below_alloc | apply pw_below_drewN | apply below_drew1 | refine below_set ?_ (IsS32.ge HI180.out) | refine below_set ?_ GE181.out | refine below_set ?_ GE182.out) | exact HB.out)) hb); replace HI180 := am (IsS32.below (by repeat (first | (with_reducible first | exact HI180.out | apply IsS32.alloc | apply IsS32.drewN | apply IsS32.drew | apply IsS32.set_0 | apply IsS32.set_1 | apply IsS32.set_2 | apply IsS32.set_3 | apply IsS32.set_5 | apply IsS32.set_6 | apply IsS32.set_7 | apply IsS32.set_8 | refine IsS32.far ?_ NB180_181.out _ | refine IsS32.far ?_ NB180_182.out _) | exact HI180.out)) hb); (try clear hb); (try clear hb2); (try clear hk); (try clear hi); obtain ⟨ASz17_4, cSz17_4, HGz17, hgz17, HSz17_4, HLz17_4⟩ := HI180.out; have hcz17_0 := cellS32_0 HGz17; have hcz17_1 := cellS32_1 HGz17; have hcz17_2 := cellS32_2 HGz17; have hcz17_3 := cellS32_3 HGz17; have hcz17_4 := cellS32_4 HGz17; have hcz17_5 := cellS32_5 HGz17; have hcz17_6 := cellS32_6 HGz17; have hcz17_7 := cellS32_7 HGz17; have hcz17_8 := cellS32_8 HGz17; have hfz17_0 := blk_frozen HGz17 0; have hfz17_1 := blk_frozen HGz17 1; have hfz17_2 := blk_frozen HGz17 2; have hfz17_3 := blk_frozen HGz17 3; have hfz17_5 := blk_frozen HGz17 5; have hfz17_6 := blk_frozen HGz17 6; have hfz17_7 := blk_frozen HGz17 7; have hfz17_8 := blk_frozen HGz17 8; clear HGz17 hgz17) | ((with_reducible refine gate_callee (f := 54) rfl ?_); refine goA (some 23) rfl rfl Try.func54 rfl #[.int .i64 2] rfl ?_; (with_reducible refine (spec_l12Bad.calls 2 t223 t224 t225 t226 t227 t228 t231 t232 t233 t234 t235 _ A8.out).mono ?_); rintro e w18 ⟨v229, v236, rfl, ho0, ho1, hb⟩; refine ⟨_, rfl, ?_⟩; have HO230 := am (Kd.S_lower ho0 (below_size (by repeat (first | (with_reducible first | exact HB.out | apply below_alloc | apply pw_below_drewN | apply below_drew1 | refine below_set ?_ (IsS32.ge HI180.out) | refine below_set ?_ GE181.out | refine below_set ?_ GE182.out) | exact HB.out)))); have HO237 := am (Kd.S_lower ho1 (below_size (by repeat (first | (with_reducible first | exact HB.out | apply below_alloc | apply pw_below_drewN | apply below_drew1 | refine below_set ?_ (IsS32.ge HI180.out) | refine below_set ?_ GE181.out | refine below_set ?_ GE182.out) | exact HB.out)))); replace BK181 := bK BK181 hb; replace BK182 := bK BK182 hb; replace HB := am (below_step (by repeat (first | (with_reducible first | exact HB.out | apply below_alloc | apply pw_below_drewN | apply below_drew1 | refine below_set ?_ (IsS32.ge HI180.out) | refine below_set ?_ GE181.out | refine below_set ?_ GE182.out) | exact HB.out)) hb); replace HI180 := am (IsS32.below (by repeat (first | (with_reducible first | exact HI180.out | apply IsS32.alloc | apply IsS32.drewN | apply IsS32.drew | apply IsS32.set_0 | apply IsS32.set_1 | apply IsS32.set_2 | apply IsS32.set_3 | apply IsS32.set_5 | apply IsS32.set_6 | apply IsS32.set_7 | apply IsS32.set_8 | refine IsS32.far ?_ NB180_181.out _ | refine IsS32.far ?_ NB180_182.out _) | exact HI180.out)) hb); (try clear hb); (try clear hb2); (try clear hk); (try clear hi); (try clear ho0); (try clear ho1); have hnb19 := NB182_180.out; have hnc19 := NB180_182.out; have hz20 := cl11 BK182; obtain ⟨Ao21, co21, eo21⟩ := Kd.S_slice HO230.out; subst eo21; obtain ⟨Ao22, co22, eo22⟩ := Kd.S_slice HO237.out; subst eo22))
    refine bodyPost_ret (results_cell_row rfl _ _ gb182 35 #[.int .i64 t223, .int .i64 t224, .bool t225, .int .i64 t226, .int .i64 t227, .slice Ao21 t228.length co21, .int .i64 t231, .int .i64 t232, .int .i64 t233, .int .i64 t234, .slice Ao22 t235.length co22] (0, 0) _ rfl (mP BK182) Try.underlying35 rfl (by kernel_rfl)) rfl ?_
    exact ⟨_, _, by first | rfl | (simp [errW_none, errW_some] <;> rfl) | (simp [*, errW_none, errW_some] <;> rfl), by (with_reducible repeat (first | apply Kd.S_alloc | apply Kd.S_drewN | apply Kd.S_drew)); exact Kd.S_mono (Kd.S_far (p := ⟨gb182, 10, none⟩) (Kd.S_far (p := ⟨gb182, 9, none⟩) (Kd.S_far (p := ⟨gb182, 8, none⟩) (Kd.S_far (p := ⟨gb182, 7, none⟩) (Kd.S_far (p := ⟨gb182, 6, none⟩) (Kd.S_far (p := ⟨gb182, 5, none⟩) (Kd.S_far (p := ⟨gb182, 4, none⟩) (Kd.S_far (p := ⟨gb182, 3, none⟩) (Kd.S_far (p := ⟨gb182, 2, none⟩) (Kd.S_far (p := ⟨gb182, 1, none⟩) (Kd.S_far (p := ⟨gb182, 0, none⟩) (Kd.S_types HO230.out BK182.out (by decide)) (fun _ hk => hk.2) (.int .i64 t223)) (fun _ hk => hk.2) (.int .i64 t224)) (fun _ hk => hk.2) (.bool t225)) (fun _ hk => hk.2) (.int .i64 t226)) (fun _ hk => hk.2) (.int .i64 t227)) (fun _ hk => hk.2) (.slice Ao21 t228.length co21)) (fun _ hk => hk.2) (.int .i64 t231)) (fun _ hk => hk.2) (.int .i64 t232)) (fun _ hk => hk.2) (.int .i64 t233)) (fun _ hk => hk.2) (.int .i64 t234)) (fun _ hk => hk.2) (.slice Ao22 t235.length co22)) (fun _ hk => trivial), by (with_reducible repeat (first | apply Kd.S_alloc | apply Kd.S_drewN | apply Kd.S_drew)); exact Kd.S_mono (Kd.S_far (p := ⟨gb182, 10, none⟩) (Kd.S_far (p := ⟨gb182, 9, none⟩) (Kd.S_far (p := ⟨gb182, 8, none⟩) (Kd.S_far (p := ⟨gb182, 7, none⟩) (Kd.S_far (p := ⟨gb182, 6, none⟩) (Kd.S_far (p := ⟨gb182, 5, none⟩) (Kd.S_far (p := ⟨gb182, 4, none⟩) (Kd.S_far (p := ⟨gb182, 3, none⟩) (Kd.S_far (p := ⟨gb182, 2, none⟩) (Kd.S_far (p := ⟨gb182, 1, none⟩) (Kd.S_far (p := ⟨gb182, 0, none⟩) (Kd.S_types HO237.out BK182.out (by decide)) (fun _ hk => hk.2) (.int .i64 t223)) (fun _ hk => hk.2) (.int .i64 t224)) (fun _ hk => hk.2) (.bool t225)) (fun _ hk => hk.2) (.int .i64 t226)) (fun _ hk => hk.2) (.int .i64 t227)) (fun _ hk => hk.2) (.slice Ao21 t228.length co21)) (fun _ hk => hk.2) (.int .i64 t231)) (fun _ hk => hk.2) (.int .i64 t232)) (fun _ hk => hk.2) (.int .i64 t233)) (fun _ hk => hk.2) (.int .i64 t234)) (fun _ hk => hk.2) (.slice Ao22 t235.length co22)) (fun _ hk => trivial), by repeat (first | (with_reducible first | exact HB.out | apply below_alloc | apply pw_below_drewN | apply below_drew1 | refine below_set ?_ (IsS32.ge HI180.out) | refine below_set ?_ GE181.out | refine below_set ?_ GE182.out) | exact HB.out)⟩
   rw [if_neg c7] at H
   have c7b0 : decide (100 ≤ (l0_4.length : Int)) = false := decide_eq_false c7
   have c7b1 : decide (100 ≤ l0_4.length) = false := decide_eq_false (by omega)
   clear c7
   replace H := Option.bind_eq_some_iff.mp H
   obtain ⟨⟨t238, t239, t240, t241, t242, t245, t246, t247, t248⟩, A230, H⟩ := H
   replace H : ((spec_l12CopyEntry.f t187 a1_0 a1_1 l1_2).bind fun bt250 => (if t242.length < 2932031007402 then (some (0, t238, t239, t240, t241, (t242 ++ [(⟨bt250.1, (⟨bt250.2.1, bt250.2.2.1, bt250.2.2.2⟩ : S38)⟩ : S55)]), t245, t246, t247, t248, ([] : List (S57)))) else (none))) = some (r1, r2, r3, r4, r5, r6, r7, r8, r9, r10, r11) := H
   have A23 := Aside0.mk A230
   clear A230
   replace H := Option.bind_eq_some_iff.mp H
   obtain ⟨⟨t250, t251, t252, t253⟩, A240, H⟩ := H
   replace H : (if t242.length < 2932031007402 then (some (0, t238, t239, t240, t241, (t242 ++ [(⟨t250, (⟨t251, t252, t253⟩ : S38)⟩ : S55)]), t245, t246, t247, t248, ([] : List (S57)))) else (none)) = some (r1, r2, r3, r4, r5, r6, r7, r8, r9, r10, r11) := H
   have A24 := Aside0.mk A240
   clear A240
   by_cases c25 : t242.length < 2932031007402
   ·
    rw [if_pos c25] at H
    have LMc25 := Aside0.mk c25
    clear c25
    obtain ⟨y256, hy256⟩ : ∃ y_ : List (S55), y_ = (t242 ++ [(⟨t250, (⟨t251, t252, t253⟩ : S38)⟩ : S55)]) := ⟨_, rfl⟩
    replace H : (some (0, t238, t239, t240, t241, y256, t245, t246, t247, t248, ([] : List (S57)))) = some (r1, r2, r3, r4, r5, r6, r7, r8, r9, r10, r11) := by first | (rw [hy256]; with_reducible exact H) | (have H2_ := (Option.bind_some _ _).symm.trans H; rw [hy256]; with_reducible exact H2_) | (have H2_ := (Option.bind_some _ _).symm.trans H; with_reducible exact H2_) | with_reducible exact H | (rw [hy256]; exact H) | exact H
    have Ny256 := Aside0.mk hy256
    clear hy256
    simp only [Option.some.injEq, Prod.mk.injEq] at H
    obtain ⟨rfl, rfl, rfl, rfl, rfl, rfl, rfl, rfl, rfl, rfl, rfl⟩ := H
    go_enter Try.func11, Try.ntmps11
    try go_wp2_with (first | ((with_reducible refine gate_dst (N := 2) rfl ?_); refine boxE #[.int .i64 a0_0, .bool a0_1, .int .i64 a0_2, .int .i64 a0_3, .slice A0_4 l0_4.length c0_4, .int .i64 a0_5, .int .i64 a0_6, .int .i64 a0_7, .int .i64 a0_8] 32 (N := 2) rfl rfl ?_; intro gb180 hg w26 hbox hb; have BK180 := Aside0.mk hbox; have GW180 := gZ HB hg; have GE180 := gZ HB hg; replace HB := bS HB hb; clear hb hbox hg) | ((with_reducible refine gate_dst (N := 3) rfl ?_); refine boxE #[.int .i64 a1_0, .int .i64 a1_1, .slice A1_2 l1_2.length c1_2] 38 (N := 3) rfl rfl ?_; intro gb181 hg w27 hbox hb; have BK181 := Aside0.mk hbox; have GW181 := gZ HB hg; have GE181 := gZ HB hg; replace HB := bS HB hb; have NB180_181 := nL BK180 hg; have NB181_180 := nG BK180 hg; replace BK180 := bK BK180 hb; clear hb hbox hg) | ((with_reducible refine gate_dst (N := 4) rfl ?_); refine boxE #[.int .i64 0, .int .i64 0, .bool false, .int .i64 0, .int .i64 0, .slice none 0 0, .int .i64 0, .int .i64 0, .int .i64 0, .int .i64 0, .slice none 0 0] 35 (N := 4) rfl rfl ?_; intro gb182 hg w28 hbox hb; have BK182 := Aside0.mk hbox; have GW182 := gZ HB hg; have GE182 := gZ HB hg; replace HB := bS HB hb; have NB180_182 := nL BK180 hg; have NB182_180 := nG BK180 hg; replace BK180 := bK BK180 hb; have NB181_182 := nL BK181 hg; have NB182_181 := nG BK181 hg; replace BK181 := bK BK181 hb; clear hb hbox hg; have HI180 := am (show IsS32 w w28 gb180 a0_0 a0_1 a0_2 a0_3 l0_4 a0_5 a0_6 a0_7 a0_8 from ⟨_, _, (mB BK180), GE180.out, HR0_4.out, HC0_4.out⟩); clear BK180) | ((with_reducible refine gate_callee (f := 53) rfl ?_); refine goA (some 8) rfl rfl Try.func53 rfl #[.pointer (some ⟨gb180, 0, none⟩)] rfl ?_; (with_reducible refine (spec_l12Active.calls k gb180 a0_0 a0_1 a0_2 a0_3 l0_4 a0_5 a0_6 a0_7 a0_8 t183 t184 t185 t186 t187 t188 t189 t190 t191 w _ ?side1 ?side2 A3.out).mono ?_); (case side1 => repeat (first | (with_reducible first | exact HI180.out | apply IsS32.alloc | apply IsS32.drewN | apply IsS32.drew | apply IsS32.set_0 | apply IsS32.set_1 | apply IsS32.set_2 | apply IsS32.set_3 | apply IsS32.set_5 | apply IsS32.set_6 | apply IsS32.set_7 | apply IsS32.set_8 | refine IsS32.far ?_ NB180_181.out _ | refine IsS32.far ?_ NB180_182.out _) | exact HI180.out)); (case side2 => repeat (first | (with_reducible first | exact HB.out | apply below_alloc | apply pw_below_drewN | apply below_drew1 | refine below_set ?_ (IsS32.ge HI180.out) | refine below_set ?_ GE181.out | refine below_set ?_ GE182.out) | exact HB.out)); rintro e w29 ⟨rfl, hi, hb, hk⟩; refine ⟨_, rfl, ?_⟩; replace BK181 := am (KeepBut.blk hk (g' := gb181) (o := .cells #[.int .i64 a1_0, .int .i64 a1_1, .slice A1_2 l1_2.length c1_2] 38 (0, 0)) (mB BK181) NB181_180.out (by simp)); replace BK182 := am (KeepBut.blk hk (g' := gb182) (o := .cells #[.int .i64 0, .int .i64 0, .bool false, .int .i64 0, .int .i64 0, .slice none 0 0, .int .i64 0, .int .i64 0, .int .i64 0, .int .i64 0, .slice none 0 0] 35 (0, 0)) (mB BK182) NB182_180.out (by simp)); replace HB := Aside0.mk hb; replace HI180 := Aside0.mk hi; (try clear hb); (try clear hb2); (try clear hk); (try clear hi); have hnb30 := NB181_182.out; have hnc30 := NB182_181.out; have hnb31 := NB181_180.out; have hnc31 := NB180_181.out; have hz32 := cl3 BK181) | ((with_reducible refine gate_callee (f := 55) rfl ?_); refine goA (some 14) rfl rfl Try.func55 rfl #[.agg #[.int .i64 a1_0, .int .i64 a1_1, .slice A1_2 l1_2.length c1_2]] rfl ?_; (with_reducible refine (spec_EventFault.calls k a1_0 a1_1 _ _ l1_2 t207 _ ?side1 ?side2 A5.out).mono ?_); (case side1 => exact mC HR1_2 HB); (case side2 => exact HC1_2.out); rintro e w33 ⟨rfl, hb⟩; refine ⟨_, rfl, ?_⟩; replace BK181 := bK BK181 hb; replace BK182 := bK BK182 hb; replace HB := am (below_step (by repeat (first | (with_reducible first | exact HB.out | apply below_alloc | apply pw_below_drewN | apply below_drew1 | refine below_set ?_ (IsS32.ge HI180.out) | refine below_set ?_ GE181.out | refine below_set ?_ GE182.out) | exact HB.out)) hb); replace HI180 := am (IsS32.below (by repeat (first | (with_reducible first | exact HI180.out | apply IsS32.alloc | apply IsS32.drewN | apply IsS32.drew | apply IsS32.set_0 | apply IsS32.set_1 | apply IsS32.set_2 | apply IsS32.set_3 | apply IsS32.set_5 | apply IsS32.set_6 | apply IsS32.set_7 | apply IsS32.set_8 | refine IsS32.far ?_ NB180_181.out _ | refine IsS32.far ?_ NB180_182.out _) | exact HI180.out)) hb); (try clear hb); (try clear hb2); (try clear hk); (try clear hi); obtain ⟨ASz34_4, cSz34_4, HGz34, hgz34, HSz34_4, HLz34_4⟩ := HI180.out; have hcz34_0 := cellS32_0 HGz34; have hcz34_1 := cellS32_1 HGz34; have hcz34_2 := cellS32_2 HGz34; have hcz34_3 := cellS32_3 HGz34; have hcz34_4 := cellS32_4 HGz34; have hcz34_5 := cellS32_5 HGz34; have hcz34_6 := cellS32_6 HGz34; have hcz34_7 := cellS32_7 HGz34; have hcz34_8 := cellS32_8 HGz34; have hfz34_0 := blk_frozen HGz34 0; have hfz34_1 := blk_frozen HGz34 1; have hfz34_2 := blk_frozen HGz34 2; have hfz34_3 := blk_frozen HGz34 3; have hfz34_5 := blk_frozen HGz34 5; have hfz34_6 := blk_frozen HGz34 6; have hfz34_7 := blk_frozen HGz34 7; have hfz34_8 := blk_frozen HGz34 8; clear HGz34 hgz34) | ((with_reducible refine gate_callee (f := 56) rfl ?_); refine goA (some 25) rfl rfl Try.func56 rfl #[.agg #[.int .i64 t184, .bool t185, .int .i64 t186, .int .i64 t187, .slice ASz34_4 l0_4.length cSz34_4, .int .i64 t188, .int .i64 t189, .int .i64 t190, .int .i64 t191]] rfl ?_; (with_reducible refine (spec_l12Copy.calls k t184 t185 t186 t187 _ _ l0_4 t188 t189 t190 t191 t238 t239 t240 t241 t242 t245 t246 t247 t248 _ ?side1 ?side2 A23.out).mono ?_); (case side1 => exact Kd.C_below HSz34_4 (by repeat (first | (with_reducible first | exact HB.out | apply below_alloc | apply pw_below_drewN | apply below_drew1 | refine below_set ?_ (IsS32.ge HI180.out) | refine below_set ?_ GE181.out | refine below_set ?_ GE182.out) | exact HB.out))); (case side2 => exact HLz34_4); rintro e w35 ⟨v243, rfl, ho0, hb⟩; refine ⟨_, rfl, ?_⟩; have HO244 := am (Kd.S_lower ho0 (below_size (by repeat (first | (with_reducible first | exact HB.out | apply below_alloc | apply pw_below_drewN | apply below_drew1 | refine below_set ?_ (IsS32.ge HI180.out) | refine below_set ?_ GE181.out | refine below_set ?_ GE182.out) | exact HB.out)))); replace BK181 := bK BK181 hb; replace BK182 := bK BK182 hb; replace HB := am (below_step (by repeat (first | (with_reducible first | exact HB.out | apply below_alloc | apply pw_below_drewN | apply below_drew1 | refine below_set ?_ (IsS32.ge HI180.out) | refine below_set ?_ GE181.out | refine below_set ?_ GE182.out) | exact HB.out)) hb); replace HI180 := am (IsS32.below (by repeat (first | (with_reducible first | exact HI180.out | apply IsS32.alloc | apply IsS32.drewN | apply IsS32.drew | apply IsS32.set_0 | apply IsS32.set_1 | apply IsS32.set_2 | apply IsS32.set_3 | apply IsS32.set_5 | apply IsS32.set_6 | apply IsS32.set_7 | apply IsS32.set_8 | refine IsS32.far ?_ NB180_181.out _ | refine IsS32.far ?_ NB180_182.out _) | exact HI180.out)) hb); (try clear hb); (try clear hb2); (try clear hk); (try clear hi); (try clear ho0)) | ((with_reducible refine gate_dst (N := 7) rfl ?_); refine boxE #[.int .i64 0, .bool false, .int .i64 0, .int .i64 0, .slice none 0 0, .int .i64 0, .int .i64 0, .int .i64 0, .int .i64 0] 32 (N := 7) rfl rfl ?_; intro gb249 hg w36 hbox hb; replace HO244 := am (Kd.S_below (mS HO244) hb); have BK249 := Aside0.mk hbox; have GW249 := am ((by rw [hg]; exact (below_size (by repeat (first | (with_reducible first | exact HB.out | apply below_alloc | apply pw_below_drewN | apply below_drew1 | refine below_set ?_ (IsS32.ge HI180.out) | refine below_set ?_ GE181.out | refine below_set ?_ GE182.out) | exact HB.out))) : w.heap.size ≤ gb249)); have GE249 := am ((by rw [hg]; exact (below_size (by repeat (first | (with_reducible first | exact HB.out | apply below_alloc | apply pw_below_drewN | apply below_drew1 | refine below_set ?_ (IsS32.ge HI180.out) | refine below_set ?_ GE181.out | refine below_set ?_ GE182.out) | exact HB.out))) : w.heap.size ≤ gb249)); replace HB := am (below_step (by repeat (first | (with_reducible first | exact HB.out | apply below_alloc | apply pw_below_drewN | apply below_drew1 | refine below_set ?_ (IsS32.ge HI180.out) | refine below_set ?_ GE181.out | refine below_set ?_ GE182.out) | exact HB.out)) hb); have NB181_249 := nL BK181 hg; have NB249_181 := nG BK181 hg; replace BK181 := bK BK181 hb; have NB182_249 := nL BK182 hg; have NB249_182 := nG BK182 hg; replace BK182 := bK BK182 hb; have NB180_249 := am ((by rw [hg]; exact Nat.ne_of_lt (IsS32.lt (show IsS32 w _ gb180 t184 t185 t186 t187 l0_4 t188 t189 t190 t191 from by repeat (first | (with_reducible first | exact HI180.out | apply IsS32.alloc | apply IsS32.drewN | apply IsS32.drew | apply IsS32.set_0 | apply IsS32.set_1 | apply IsS32.set_2 | apply IsS32.set_3 | apply IsS32.set_5 | apply IsS32.set_6 | apply IsS32.set_7 | apply IsS32.set_8 | refine IsS32.far ?_ NB180_181.out _ | refine IsS32.far ?_ NB180_182.out _) | exact HI180.out))) : gb180 ≠ gb249)); have NB249_180 := am ((by rw [hg]; exact Nat.ne_of_gt (IsS32.lt (show IsS32 w _ gb180 t184 t185 t186 t187 l0_4 t188 t189 t190 t191 from by repeat (first | (with_reducible first | exact HI180.out | apply IsS32.alloc | apply IsS32.drewN | apply IsS32.drew | apply IsS32.set_0 | apply IsS32.set_1 | apply IsS32.set_2 | apply IsS32.set_3 | apply IsS32.set_5 | apply IsS32.set_6 | apply IsS32.set_7 | apply IsS32.set_8 | refine IsS32.far ?_ NB180_181.out _ | refine IsS32.far ?_ NB180_182.out _) | exact HI180.out))) : gb249 ≠ gb180)); replace HI180 := am (IsS32.below (by repeat (first | (with_reducible first | exact HI180.out | apply IsS32.alloc | apply IsS32.drewN | apply IsS32.drew | apply IsS32.set_0 | apply IsS32.set_1 | apply IsS32.set_2 | apply IsS32.set_3 | apply IsS32.set_5 | apply IsS32.set_6 | apply IsS32.set_7 | apply IsS32.set_8 | refine IsS32.far ?_ NB180_181.out _ | refine IsS32.far ?_ NB180_182.out _) | exact HI180.out)) hb); clear hb hbox hg; have hnb37 := NB249_181.out; have hnc37 := NB181_249.out; have hnb38 := NB249_182.out; have hnc38 := NB182_249.out; have hnb39 := NB249_180.out; have hnc39 := NB180_249.out; have hz40 := cl9 BK249; obtain ⟨Ao41, co41, eo41⟩ := Kd.S_slice HO244.out; subst eo41) | ((with_reducible refine gate_store (t := 32) (p := 7) rfl ?_); refine store_event (t := 32) (p := 7) (v := ?vo_w42) (w1 := (((((((((w36.setCell ⟨gb249, 0, none⟩ (.int .i64 t238)).setCell ⟨gb249, 1, none⟩ (.bool t239)).setCell ⟨gb249, 2, none⟩ (.int .i64 t240)).setCell ⟨gb249, 3, none⟩ (.int .i64 t241)).setCell ⟨gb249, 4, none⟩ (.slice Ao41 t242.length co41)).setCell ⟨gb249, 5, none⟩ (.int .i64 t245)).setCell ⟨gb249, 6, none⟩ (.int .i64 t246)).setCell ⟨gb249, 7, none⟩ (.int .i64 t247)).setCell ⟨gb249, 8, none⟩ (.int .i64 t248))) ?hg ?ho ?hn ?hr ?_; (case ho => rfl); (case hg => rfl); (case hn => rfl); (case hr => first | (go_simp; done) | (go_simp; rfl)); intro w42 hw; have n0_ : Aside0 (Kd.S k55 55 w42 w.heap.size (fun _ => True) (.slice Ao41 t242.length co41) t242) := ⟨(by rw [hw]; exact (by (with_reducible repeat (first | apply Kd.S_alloc | apply Kd.S_drewN | apply Kd.S_drew)); exact Kd.S_mono (Kd.S_far (p := ⟨gb249, 8, none⟩) (Kd.S_far (p := ⟨gb249, 7, none⟩) (Kd.S_far (p := ⟨gb249, 6, none⟩) (Kd.S_far (p := ⟨gb249, 5, none⟩) (Kd.S_far (p := ⟨gb249, 4, none⟩) (Kd.S_far (p := ⟨gb249, 3, none⟩) (Kd.S_far (p := ⟨gb249, 2, none⟩) (Kd.S_far (p := ⟨gb249, 1, none⟩) (Kd.S_far (p := ⟨gb249, 0, none⟩) (Kd.S_types HO244.out BK249.out (by decide)) (fun _ hk => hk.2) (.int .i64 t238)) (fun _ hk => hk.2) (.bool t239)) (fun _ hk => hk.2) (.int .i64 t240)) (fun _ hk => hk.2) (.int .i64 t241)) (fun _ hk => hk.2) (.slice Ao41 t242.length co41)) (fun _ hk => hk.2) (.int .i64 t245)) (fun _ hk => hk.2) (.int .i64 t246)) (fun _ hk => hk.2) (.int .i64 t247)) (fun _ hk => hk.2) (.int .i64 t248)) (fun _ hk => trivial)))⟩; have n1_ : Aside0 (w42.heap[gb181]? = some (.cells #[.int .i64 a1_0, .int .i64 a1_1, .slice A1_2 l1_2.length c1_2] 38 (0, 0))) := ⟨(by rw [hw]; exact (mP BK181))⟩; have n2_ : Aside0 (w42.heap[gb182]? = some (.cells #[.int .i64 0, .int .i64 0, .bool false, .int .i64 0, .int .i64 0, .slice none 0 0, .int .i64 0, .int .i64 0, .int .i64 0, .int .i64 0, .slice none 0 0] 35 (0, 0))) := ⟨(by rw [hw]; exact (mP BK182))⟩; have n3_ : Aside0 (w42.heap[gb249]? = some (.cells #[.int .i64 t238, .bool t239, .int .i64 t240, .int .i64 t241, .slice Ao41 t242.length co41, .int .i64 t245, .int .i64 t246, .int .i64 t247, .int .i64 t248] 32 (0, 0))) := ⟨(by rw [hw]; exact (mP BK249))⟩; have n4_ : Aside0 (IsS32 w w42 gb180 t184 t185 t186 t187 l0_4 t188 t189 t190 t191) := ⟨(by rw [hw]; exact (by repeat (first | (with_reducible first | exact HI180.out | apply IsS32.alloc | apply IsS32.drewN | apply IsS32.drew | apply IsS32.set_0 | apply IsS32.set_1 | apply IsS32.set_2 | apply IsS32.set_3 | apply IsS32.set_5 | apply IsS32.set_6 | apply IsS32.set_7 | apply IsS32.set_8 | refine IsS32.far ?_ NB180_181.out _ | refine IsS32.far ?_ NB180_182.out _ | refine IsS32.far ?_ NB180_249.out _) | exact HI180.out)))⟩; have n5_ : Aside0 (Below w.heap.size w w42) := ⟨(by rw [hw]; exact (by repeat (first | (with_reducible first | exact HB.out | apply below_alloc | apply pw_below_drewN | apply below_drew1 | refine below_set ?_ (IsS32.ge HI180.out) | refine below_set ?_ GE181.out | refine below_set ?_ GE182.out | refine below_set ?_ GE249.out) | exact HB.out)))⟩; clear hw; clear HO244; clear BK181; clear BK182; clear BK249; clear HI180; clear HB; have HO244 := n0_; have BK181 := n1_; have BK182 := n2_; have BK249 := n3_; have HI180 := n4_; have HB := n5_; clear n0_ n1_ n2_ n3_ n4_ n5_))
    replace HO244 := am (Kd.S_drew HO244.out)
    replace BK181 := am (blk_drew BK181.out)
    replace BK182 := am (blk_drew BK182.out)
    replace BK249 := am (blk_drew BK249.out)
    replace HI180 := am (IsS32.drew HI180.out)
    replace HB := am (below_drew1 HB.out)
    refine start_ (n := 11) (S := fun w' => w'.cell? ⟨gb249, 0, none⟩ = some (.int .i64 t238) ∧ w'.cell? ⟨gb249, 1, none⟩ = some (.bool t239) ∧ w'.cell? ⟨gb249, 2, none⟩ = some (.int .i64 t240) ∧ w'.cell? ⟨gb249, 3, none⟩ = some (.int .i64 t241) ∧ w'.cell? ⟨gb249, 4, none⟩ = some (.slice Ao41 t242.length co41) ∧ w'.cell? ⟨gb249, 5, none⟩ = some (.int .i64 t245) ∧ w'.cell? ⟨gb249, 6, none⟩ = some (.int .i64 t246) ∧ w'.cell? ⟨gb249, 7, none⟩ = some (.int .i64 t247) ∧ w'.cell? ⟨gb249, 8, none⟩ = some (.int .i64 t248) ∧ w'.cell? ⟨gb180, 0, none⟩ = some (.int .i64 t184) ∧ w'.cell? ⟨gb180, 1, none⟩ = some (.bool t185) ∧ w'.cell? ⟨gb180, 2, none⟩ = some (.int .i64 t186) ∧ w'.cell? ⟨gb180, 3, none⟩ = some (.int .i64 t187) ∧ w'.cell? ⟨gb180, 5, none⟩ = some (.int .i64 t188) ∧ w'.cell? ⟨gb180, 6, none⟩ = some (.int .i64 t189) ∧ w'.cell? ⟨gb180, 7, none⟩ = some (.int .i64 t190) ∧ w'.cell? ⟨gb180, 8, none⟩ = some (.int .i64 t191) ∧ w'.cell? ⟨gb181, 0, none⟩ = some (.int .i64 a1_0) ∧ w'.cell? ⟨gb181, 1, none⟩ = some (.int .i64 a1_1) ∧ w'.cell? ⟨gb181, 2, none⟩ = some (.slice A1_2 l1_2.length c1_2)) (ds := [10]) #[false, false, false, false, false, false, false, false, false, false, false] (by kernel_rfl) rfl rfl ⟨(blk_cell BK249.out 0).trans rfl, (blk_cell BK249.out 1).trans rfl, (blk_cell BK249.out 2).trans rfl, (blk_cell BK249.out 3).trans rfl, (blk_cell BK249.out 4).trans rfl, (blk_cell BK249.out 5).trans rfl, (blk_cell BK249.out 6).trans rfl, (blk_cell BK249.out 7).trans rfl, (blk_cell BK249.out 8).trans rfl, (match HI180.out with | ⟨_, _, HG_, _⟩ => cellS32_0 HG_), (match HI180.out with | ⟨_, _, HG_, _⟩ => cellS32_1 HG_), (match HI180.out with | ⟨_, _, HG_, _⟩ => cellS32_2 HG_), (match HI180.out with | ⟨_, _, HG_, _⟩ => cellS32_3 HG_), (match HI180.out with | ⟨_, _, HG_, _⟩ => cellS32_5 HG_), (match HI180.out with | ⟨_, _, HG_, _⟩ => cellS32_6 HG_), (match HI180.out with | ⟨_, _, HG_, _⟩ => cellS32_7 HG_), (match HI180.out with | ⟨_, _, HG_, _⟩ => cellS32_8 HG_), (blk_cell BK181.out 0).trans rfl, (blk_cell BK181.out 1).trans rfl, (blk_cell BK181.out 2).trans rfl⟩ (fun hHeld => ?_); refine with_tabW spec_AddEvent.tab10 spec_AddEvent.bits10 (fun HT_ HW_ => ?_)
    generalize w42.drew = w43 at HO244 BK181 BK182 BK249 HI180 HB hHeld ⊢
    refine pA 0 26 [1, 10] ?_
    refine pA 2 28 [1, 1, 1, 8] ?_
    refine tA 1 27 [3, 8] (hv := by rintro w' ⟨s0, s1, s2, s3, s4, s5, s6, s7, s8, s9, s10, s11, s12, s13, s14, s15, s16, s17, s18, s19⟩; go_simp; with_reducible rfl) (h := ?_)
    refine tA 3 29 [4, 7] (hv := by rintro w' ⟨s0, s1, s2, s3, s4, s5, s6, s7, s8, s9, s10, s11, s12, s13, s14, s15, s16, s17, s18, s19⟩; go_simp; with_reducible rfl) (h := ?_)
    refine tA 4 30 [5, 6] (hv := by rintro w' ⟨s0, s1, s2, s3, s4, s5, s6, s7, s8, s9, s10, s11, s12, s13, s14, s15, s16, s17, s18, s19⟩; go_simp; with_reducible rfl) (h := ?_)
    refine pA 5 31 [6, 5] ?_
    refine one_ (i := 6) (N := some 32) #[true, true, true, true, true, true, true, false, false, false, false] rfl rfl (one_of HT_.out (by kernel_rfl)) (by decide) (fun K hK => ?_)
    refine goes_ Try.func57 (by kernel_rfl) rfl #[.agg #[.int .i64 t187, .int .i64 a1_0, .int .i64 a1_1, .slice A1_2 l1_2.length c1_2]] (by rfl) rfl rfl (by (try simp only [List.map_toArray, List.map_cons, List.map_nil]); first | done | rfl | (simp only [List.length_drop, List.length_take]; rfl)) ?_
    with_reducible refine (spec_l12CopyEntry.calls t187 a1_0 a1_1 _ _ l1_2 t250 t251 t252 t253 _ ?side1 ?side2 A24.out).mono ?_
    (case side1 => exact mC HR1_2 HB)
    (case side2 => exact HC1_2.out)
    rintro e w44 ⟨v254, rfl, ho0, hb⟩
    refine ⟨_, rfl, ?_⟩
    replace HO244 := am (Kd.S_elder' (mS HO244) (Kd.R_base ho0) hb)
    have HO255 := am (Kd.R_lower ho0 (below_size (by repeat (first | (with_reducible first | exact HB.out | apply below_alloc | apply pw_below_drewN | apply below_drew1 | refine below_set ?_ (IsS32.ge HI180.out) | refine below_set ?_ GE181.out | refine below_set ?_ GE182.out | refine below_set ?_ GE249.out) | exact HB.out))))
    replace BK181 := bK BK181 hb
    replace BK182 := bK BK182 hb
    replace BK249 := bK BK249 hb
    replace HB := am (below_step (by repeat (first | (with_reducible first | exact HB.out | apply below_alloc | apply pw_below_drewN | apply below_drew1 | refine below_set ?_ (IsS32.ge HI180.out) | refine below_set ?_ GE181.out | refine below_set ?_ GE182.out | refine below_set ?_ GE249.out) | exact HB.out)) hb)
    replace HI180 := am (IsS32.below (by repeat (first | (with_reducible first | exact HI180.out | apply IsS32.alloc | apply IsS32.drewN | apply IsS32.drew | apply IsS32.set_0 | apply IsS32.set_1 | apply IsS32.set_2 | apply IsS32.set_3 | apply IsS32.set_5 | apply IsS32.set_6 | apply IsS32.set_7 | apply IsS32.set_8 | refine IsS32.far ?_ NB180_181.out _ | refine IsS32.far ?_ NB180_182.out _ | refine IsS32.far ?_ NB180_249.out _) | exact HI180.out)) hb)
    (try clear hb)
    (try clear hb2)
    (try clear hk)
    (try clear hi)
    (try clear ho0)
    obtain ⟨Ao46, co46, eo46⟩ := Kd.R_slice HO255.out
    (first | subst eo46 | (injection eo46 with f1_ f2_ f3_; have f4_ := f1_.symm; have f5_ := f3_.symm; clear f1_ f2_ f3_; subst f4_; subst f5_))
    refine hK.out _ _ ⟨(blk_cell BK249.out 0).trans rfl, (blk_cell BK249.out 1).trans rfl, (blk_cell BK249.out 2).trans rfl, (blk_cell BK249.out 3).trans rfl, (blk_cell BK249.out 4).trans rfl, (blk_cell BK249.out 5).trans rfl, (blk_cell BK249.out 6).trans rfl, (blk_cell BK249.out 7).trans rfl, (blk_cell BK249.out 8).trans rfl, (match HI180.out with | ⟨_, _, HG_, _⟩ => cellS32_0 HG_), (match HI180.out with | ⟨_, _, HG_, _⟩ => cellS32_1 HG_), (match HI180.out with | ⟨_, _, HG_, _⟩ => cellS32_2 HG_), (match HI180.out with | ⟨_, _, HG_, _⟩ => cellS32_3 HG_), (match HI180.out with | ⟨_, _, HG_, _⟩ => cellS32_5 HG_), (match HI180.out with | ⟨_, _, HG_, _⟩ => cellS32_6 HG_), (match HI180.out with | ⟨_, _, HG_, _⟩ => cellS32_7 HG_), (match HI180.out with | ⟨_, _, HG_, _⟩ => cellS32_8 HG_), (blk_cell BK181.out 0).trans rfl, (blk_cell BK181.out 1).trans rfl, (blk_cell BK181.out 2).trans rfl⟩ (fun hHeld => ?_)
    clear hK K
    refine norm_ (a' := ?_) ?_ ?_
    rotate_left
    ·
     show Act.put _ (some 32) _ = _
     simp only [Act.put, List.setIfInBounds_toArray, List.set_cons_zero, List.set_cons_succ, i64_w, i32_w]
     rfl
    refine one_ (i := 7) (N := some 33) #[true, true, true, true, true, true, true, true, false, false, false] rfl rfl (one_of HT_.out (by kernel_rfl)) (by decide) (fun K hK => ?_)
    refine value_ (w1 := ?_) (v := ?_) (by rfl) rfl ?_ ?_
    rotate_left 2
    ·
     go_simp
     constructor
     ·
      rfl
     rfl
    refine hK.out _ _ ⟨(blk_cell (blk_alloc BK249.out _) 0).trans rfl, (blk_cell (blk_alloc BK249.out _) 1).trans rfl, (blk_cell (blk_alloc BK249.out _) 2).trans rfl, (blk_cell (blk_alloc BK249.out _) 3).trans rfl, (blk_cell (blk_alloc BK249.out _) 4).trans rfl, (blk_cell (blk_alloc BK249.out _) 5).trans rfl, (blk_cell (blk_alloc BK249.out _) 6).trans rfl, (blk_cell (blk_alloc BK249.out _) 7).trans rfl, (blk_cell (blk_alloc BK249.out _) 8).trans rfl, (match (IsS32.alloc HI180.out _) with | ⟨_, _, HG_, _⟩ => cellS32_0 HG_), (match (IsS32.alloc HI180.out _) with | ⟨_, _, HG_, _⟩ => cellS32_1 HG_), (match (IsS32.alloc HI180.out _) with | ⟨_, _, HG_, _⟩ => cellS32_2 HG_), (match (IsS32.alloc HI180.out _) with | ⟨_, _, HG_, _⟩ => cellS32_3 HG_), (match (IsS32.alloc HI180.out _) with | ⟨_, _, HG_, _⟩ => cellS32_5 HG_), (match (IsS32.alloc HI180.out _) with | ⟨_, _, HG_, _⟩ => cellS32_6 HG_), (match (IsS32.alloc HI180.out _) with | ⟨_, _, HG_, _⟩ => cellS32_7 HG_), (match (IsS32.alloc HI180.out _) with | ⟨_, _, HG_, _⟩ => cellS32_8 HG_), (blk_cell (blk_alloc BK181.out _) 0).trans rfl, (blk_cell (blk_alloc BK181.out _) 1).trans rfl, (blk_cell (blk_alloc BK181.out _) 2).trans rfl⟩ (fun hHeld => ?_)
    clear hK K
    refine norm_ (a' := ?_) ?_ ?_
    rotate_left
    ·
     show Act.put _ (some 33) _ = _
     simp only [Act.put, List.setIfInBounds_toArray, List.set_cons_zero, List.set_cons_succ, i64_w, i32_w]
     rfl
    refine one_ (i := 8) (N := some 34) #[true, true, true, true, true, true, true, true, true, false, false] rfl rfl (one_of HT_.out (by kernel_rfl)) (by decide) (fun K hK => ?_)
    refine Kd.S_append_step k55 (w0 := w) w.heap.size (by rfl) (.tmp 27) (.tmp 33) 30 55 (.agg #[(.int .i64 0), (.int .i64 0), (.int .i64 0), (.slice none 0 0)]) 48 rfl Try.underlying30 info55 rfl (by decide) (by omega) (.slice Ao41 t242.length co41) t242 (⟨t250, (⟨t251, t252, t253⟩ : S38)⟩ : S55) [.int .i64 t250, .int .i64 t251, .int .i64 t252, .slice Ao46 t253.length co46] (fun _ => True) (fun k_ => some k_ = (.slice Ao46 t253.length co46 : Value).ownBlock) rfl rfl ?aP (fun k_ hk_ => ((Kd.R_mono (ok' := fun k_ => ((fun _ => True)) k_ ∧ some k_ ≠ (.slice Ao41 t242.length co41 : Value).ownBlock) (Kd.R_apart' (HO255.out) (Kd.S_typed HO244.out) (by decide)) (fun k_ hk => ⟨trivial, hk.2⟩))).1 k_ hk_.symm) ?aF ?aO ?aB ?aS ?aL ?_
    (case aP => exact k55_mkM _ _ _ (⟨t250, (⟨t251, t252, t253⟩ : S38)⟩ : S55) (Kd.R_mono (Kd.R_tight rfl (Kd.R_mono (ok' := fun k_ => ((fun _ => True)) k_ ∧ some k_ ≠ (.slice Ao41 t242.length co41 : Value).ownBlock) (Kd.R_apart' (HO255.out) (Kd.S_typed HO244.out) (by decide)) (fun k_ hk => ⟨trivial, hk.2⟩))) (fun _ h_ => h_)))
    (case aB => exact (by repeat (first | (with_reducible first | exact HB.out | apply below_alloc | apply pw_below_drewN | apply below_drew1 | refine below_set ?_ (IsS32.ge HI180.out) | refine below_set ?_ GE181.out | refine below_set ?_ GE182.out | refine below_set ?_ GE249.out) | exact HB.out)))
    (case aF => exact (fun _ _ => trivial))
    (case aO => exact (by (with_reducible repeat (first | apply Kd.S_alloc | apply Kd.S_drewN | apply Kd.S_drew)); exact Kd.S_mono HO244.out (fun k_ hk => ⟨trivial, fun e_ => hk.2 e_⟩)))
    (case aS => exact (below_size (by repeat (first | (with_reducible first | exact HB.out | apply below_alloc | apply pw_below_drewN | apply below_drew1 | refine below_set ?_ (IsS32.ge HI180.out) | refine below_set ?_ GE181.out | refine below_set ?_ GE182.out | refine below_set ?_ GE249.out) | exact HB.out))))
    (case aL => have := LMc25.out; omega)
    intro v257 w45 ho hb hg hat
    rw [← Ny256.out] at ho
    replace HI180 := am (IsS32.grown (by repeat (first | (with_reducible first | exact HI180.out | apply IsS32.alloc | apply IsS32.drewN | apply IsS32.drew | apply IsS32.set_0 | apply IsS32.set_1 | apply IsS32.set_2 | apply IsS32.set_3 | apply IsS32.set_5 | apply IsS32.set_6 | apply IsS32.set_7 | apply IsS32.set_8 | refine IsS32.far ?_ NB180_181.out _ | refine IsS32.far ?_ NB180_182.out _ | refine IsS32.far ?_ NB180_249.out _) | exact HI180.out)) hg (IsS32.own_neS HI180.out HO244.out (by decide)))
    replace BK181 := am (blk_grown (g := gb181) (o := .cells #[.int .i64 a1_0, .int .i64 a1_1, .slice A1_2 l1_2.length c1_2] 38 (0, 0)) (mB BK181) hg (Kd.S_ne HO244.out BK181.out (by decide)))
    replace BK182 := am (blk_grown (g := gb182) (o := .cells #[.int .i64 0, .int .i64 0, .bool false, .int .i64 0, .int .i64 0, .slice none 0 0, .int .i64 0, .int .i64 0, .int .i64 0, .int .i64 0, .slice none 0 0] 35 (0, 0)) (mB BK182) hg (Kd.S_ne HO244.out BK182.out (by decide)))
    replace BK249 := am (blk_grown (g := gb249) (o := .cells #[.int .i64 t238, .bool t239, .int .i64 t240, .int .i64 t241, .slice Ao41 t242.length co41, .int .i64 t245, .int .i64 t246, .int .i64 t247, .int .i64 t248] 32 (0, 0)) (mB BK249) hg (Kd.S_ne HO244.out BK249.out (by decide)))
    replace HB := am (hb)
    have HO258 := am (ho)
    clear HO244 HO255
    clear ho hb hg hat
    obtain ⟨Ao47, co47, eo47⟩ := Kd.S_slice HO258.out
    (first | subst eo47 | (injection eo47 with f1_ f2_ f3_; have f4_ := f1_.symm; have f5_ := f3_.symm; clear f1_ f2_ f3_; subst f4_; subst f5_))
    refine hK.out _ _ ⟨(blk_cell BK249.out 0).trans rfl, (blk_cell BK249.out 1).trans rfl, (blk_cell BK249.out 2).trans rfl, (blk_cell BK249.out 3).trans rfl, (blk_cell BK249.out 4).trans rfl, (blk_cell BK249.out 5).trans rfl, (blk_cell BK249.out 6).trans rfl, (blk_cell BK249.out 7).trans rfl, (blk_cell BK249.out 8).trans rfl, (match HI180.out with | ⟨_, _, HG_, _⟩ => cellS32_0 HG_), (match HI180.out with | ⟨_, _, HG_, _⟩ => cellS32_1 HG_), (match HI180.out with | ⟨_, _, HG_, _⟩ => cellS32_2 HG_), (match HI180.out with | ⟨_, _, HG_, _⟩ => cellS32_3 HG_), (match HI180.out with | ⟨_, _, HG_, _⟩ => cellS32_5 HG_), (match HI180.out with | ⟨_, _, HG_, _⟩ => cellS32_6 HG_), (match HI180.out with | ⟨_, _, HG_, _⟩ => cellS32_7 HG_), (match HI180.out with | ⟨_, _, HG_, _⟩ => cellS32_8 HG_), (blk_cell BK181.out 0).trans rfl, (blk_cell BK181.out 1).trans rfl, (blk_cell BK181.out 2).trans rfl⟩ (fun hHeld => ?_)
    clear hK K
    refine norm_ (a' := ?_) ?_ ?_
    rotate_left
    ·
     show Act.put _ (some 34) _ = _
     simp only [Act.put, List.setIfInBounds_toArray, List.set_cons_zero, List.set_cons_succ, i64_w, i32_w]
     rfl
    refine pA 9 35 [10, 1] ?_
    refine last_ (i := 10) (N := none) #[true, true, true, true, true, true, true, true, true, true, true] rfl rfl (one_of HT_.out (by kernel_rfl)) (by decide) (fun K hK => ?_)
    have hs48 : w45.cell? ⟨gb249, 4, none⟩ = some (.slice Ao41 t242.length co41) := (blk_cell BK249.out 4).trans rfl
    have hfs48 := blk_frozen BK249.out 4
    have hns48_0 := NB181_249.out
    have hns48_1 := NB182_249.out
    have hms48_0 := NB249_181.out
    have hms48_1 := NB249_182.out
    refine skip_ (w1 := ?_) (by rfl) rfl ?_ ?_
    rotate_left
    ·
     go_simp
     rfl
    refine hK.out _ _ ?_
    clear hK K
    refine done_ (done_of HT_.out (by kernel_rfl)) ?_
    have hz49 := cl9 BK249
    have hnb50 := NB182_180.out
    have hnc50 := NB180_182.out
    have hz51 := cl11 BK182
    try go_wp2
    refine bodyPost_ret (results_cell_row rfl _ _ gb182 35 #[.int .i64 0, .int .i64 t238, .bool t239, .int .i64 t240, .int .i64 t241, .slice Ao47 y256.length co47, .int .i64 t245, .int .i64 t246, .int .i64 t247, .int .i64 t248, .slice none 0 0] (0, 0) _ rfl (mP BK182) Try.underlying35 rfl (by kernel_rfl)) rfl ?_
    exact ⟨_, _, by first | rfl | (simp [errW_none, errW_some] <;> rfl) | (simp [*, errW_none, errW_some] <;> rfl), by (with_reducible repeat (first | apply Kd.S_alloc | apply Kd.S_drewN | apply Kd.S_drew)); exact Kd.S_mono (Kd.S_far (p := ⟨gb182, 10, none⟩) (Kd.S_far (p := ⟨gb182, 9, none⟩) (Kd.S_far (p := ⟨gb182, 8, none⟩) (Kd.S_far (p := ⟨gb182, 7, none⟩) (Kd.S_far (p := ⟨gb182, 6, none⟩) (Kd.S_far (p := ⟨gb182, 5, none⟩) (Kd.S_far (p := ⟨gb182, 4, none⟩) (Kd.S_far (p := ⟨gb182, 3, none⟩) (Kd.S_far (p := ⟨gb182, 2, none⟩) (Kd.S_far (p := ⟨gb182, 1, none⟩) (Kd.S_far (p := ⟨gb182, 0, none⟩) (Kd.S_far (p := ⟨gb249, 4, none⟩) (Kd.S_types (Kd.S_types HO258.out BK249.out (by decide)) BK182.out (by decide)) (fun _ hk => hk.1.2) (.slice Ao47 y256.length co47)) (fun _ hk => hk.2) (.int .i64 0)) (fun _ hk => hk.2) (.int .i64 t238)) (fun _ hk => hk.2) (.bool t239)) (fun _ hk => hk.2) (.int .i64 t240)) (fun _ hk => hk.2) (.int .i64 t241)) (fun _ hk => hk.2) (.slice Ao47 y256.length co47)) (fun _ hk => hk.2) (.int .i64 t245)) (fun _ hk => hk.2) (.int .i64 t246)) (fun _ hk => hk.2) (.int .i64 t247)) (fun _ hk => hk.2) (.int .i64 t248)) (fun _ hk => hk.2) (.slice none 0 0)) (fun _ hk => trivial), by first | exact Kd.S_nil _ _ _ _ _ | exact Kd.N_nil _ _ _ _ _ | exact Kd.V_nil _ _ _ _ _ | exact Kd.Q_nil _ _ _ _ _ | exact Kd.R_nil _ _ _ _ _, by repeat (first | (with_reducible first | exact HB.out | apply below_alloc | apply pw_below_drewN | apply below_drew1 | refine below_set ?_ (IsS32.ge HI180.out) | refine below_set ?_ GE181.out | refine below_set ?_ GE182.out | refine below_set ?_ GE249.out) | exact HB.out)⟩
   rw [if_neg c25] at H
   exact absurd H (by simp)
  rw [if_neg c6] at H
  have c6b0 : (t207 == 0) = false := beq_eq_false_iff_ne.mpr c6
  have c6b1 : (t207 != 0) = true := bne_iff_ne.mpr c6
  replace H := Option.bind_eq_some_iff.mp H
  obtain ⟨⟨t208, t209, t210, t211, t212, t213, t216, t217, t218, t219, t220⟩, A520, H⟩ := H
  replace H : (some (t208, t209, t210, t211, t212, t213, t216, t217, t218, t219, t220)) = some (r1, r2, r3, r4, r5, r6, r7, r8, r9, r10, r11) := H
  have A52 := Aside0.mk A520
  clear A520
  simp only [Option.some.injEq, Prod.mk.injEq] at H
  obtain ⟨rfl, rfl, rfl, rfl, rfl, rfl, rfl, rfl, rfl, rfl, rfl⟩ := H
  go_enter Try.func11, Try.ntmps11
  go_wp2_with (first | ((with_reducible refine gate_dst (N := 2) rfl ?_); refine boxE #[.int .i64 a0_0, .bool a0_1, .int .i64 a0_2, .int .i64 a0_3, .slice A0_4 l0_4.length c0_4, .int .i64 a0_5, .int .i64 a0_6, .int .i64 a0_7, .int .i64 a0_8] 32 (N := 2) rfl rfl ?_; intro gb180 hg w53 hbox hb; have BK180 := Aside0.mk hbox; have GW180 := gZ HB hg; have GE180 := gZ HB hg; replace HB := bS HB hb; clear hb hbox hg) | ((with_reducible refine gate_dst (N := 3) rfl ?_); refine boxE #[.int .i64 a1_0, .int .i64 a1_1, .slice A1_2 l1_2.length c1_2] 38 (N := 3) rfl rfl ?_; intro gb181 hg w54 hbox hb; have BK181 := Aside0.mk hbox; have GW181 := gZ HB hg; have GE181 := gZ HB hg; replace HB := bS HB hb; have NB180_181 := nL BK180 hg; have NB181_180 := nG BK180 hg; replace BK180 := bK BK180 hb; clear hb hbox hg) | ((with_reducible refine gate_dst (N := 4) rfl ?_); refine boxE #[.int .i64 0, .int .i64 0, .bool false, .int .i64 0, .int .i64 0, .slice none 0 0, .int .i64 0, .int .i64 0, .int .i64 0, .int .i64 0, .slice none 0 0] 35 (N := 4) rfl rfl ?_; intro gb182 hg w55 hbox hb; have BK182 := Aside0.mk hbox; have GW182 := gZ HB hg; have GE182 := gZ HB hg; replace HB := bS HB hb; have NB180_182 := nL BK180 hg; have NB182_180 := nG BK180 hg; replace BK180 := bK BK180 hb; have NB181_182 := nL BK181 hg; have NB182_181 := nG BK181 hg; replace BK181 := bK BK181 hb; clear hb hbox hg; have HI180 := am (show IsS32 w w55 gb180 a0_0 a0_1 a0_2 a0_3 l0_4 a0_5 a0_6 a0_7 a0_8 from ⟨_, _, (mB BK180), GE180.out, HR0_4.out, HC0_4.out⟩); clear BK180) | ((with_reducible refine gate_callee (f := 53) rfl ?_); refine goA (some 8) rfl rfl Try.func53 rfl #[.pointer (some ⟨gb180, 0, none⟩)] rfl ?_; (with_reducible refine (spec_l12Active.calls k gb180 a0_0 a0_1 a0_2 a0_3 l0_4 a0_5 a0_6 a0_7 a0_8 t183 t184 t185 t186 t187 t188 t189 t190 t191 w _ ?side1 ?side2 A3.out).mono ?_); (case side1 => repeat (first | (with_reducible first | exact HI180.out | apply IsS32.alloc | apply IsS32.drewN | apply IsS32.drew | apply IsS32.set_0 | apply IsS32.set_1 | apply IsS32.set_2 | apply IsS32.set_3 | apply IsS32.set_5 | apply IsS32.set_6 | apply IsS32.set_7 | apply IsS32.set_8 | refine IsS32.far ?_ NB180_181.out _ | refine IsS32.far ?_ NB180_182.out _) | exact HI180.out)); (case side2 => repeat (first | (with_reducible first | exact HB.out | apply below_alloc | apply pw_below_drewN | apply below_drew1 | refine below_set ?_ (IsS32.ge HI180.out) | refine below_set ?_ GE181.out | refine below_set ?_ GE182.out) | exact HB.out)); rintro e w56 ⟨rfl, hi, hb, hk⟩; refine ⟨_, rfl, ?_⟩; replace BK181 := am (KeepBut.blk hk (g' := gb181) (o := .cells #[.int .i64 a1_0, .int .i64 a1_1, .slice A1_2 l1_2.length c1_2] 38 (0, 0)) (mB BK181) NB181_180.out (by simp)); replace BK182 := am (KeepBut.blk hk (g' := gb182) (o := .cells #[.int .i64 0, .int .i64 0, .bool false, .int .i64 0, .int .i64 0, .slice none 0 0, .int .i64 0, .int .i64 0, .int .i64 0, .int .i64 0, .slice none 0 0] 35 (0, 0)) (mB BK182) NB182_180.out (by simp)); replace HB := Aside0.mk hb; replace HI180 := Aside0.mk hi; (try clear hb); (try clear hb2); (try clear hk); (try clear hi); have hnb57 := NB181_182.out; have hnc57 := NB182_181.out; have hnb58 := NB181_180.out; have hnc58 := NB180_181.out; have hz59 := cl3 BK181) | ((with_reducible refine gate_callee (f := 55) rfl ?_); refine goA (some 14) rfl rfl Try.func55 rfl #[.agg #[.int .i64 a1_0, .int .i64 a1_1, .slice A1_2 l1_2.length c1_2]] rfl ?_; (with_reducible refine (spec_EventFault.calls k a1_0 a1_1 _ _ l1_2 t207 _ ?side1 ?side2 A5.out).mono ?_); (case side1 => exact mC HR1_2 HB); (case side2 => exact HC1_2.out); rintro e w60 ⟨rfl, hb⟩; refine ⟨_, rfl, ?_⟩; replace BK181 := bK BK181 hb; replace BK182 := bK BK182 hb; replace HB := am (below_step (by repeat (first | (with_reducible first | exact HB.out | apply below_alloc | apply pw_below_drewN | apply below_drew1 | refine below_set ?_ (IsS32.ge HI180.out) | refine below_set ?_ GE181.out | refine below_set ?_ GE182.out) | exact HB.out)) hb); replace HI180 := am (IsS32.below (by repeat (first | (with_reducible first | exact HI180.out | apply IsS32.alloc | apply IsS32.drewN | apply IsS32.drew | apply IsS32.set_0 | apply IsS32.set_1 | apply IsS32.set_2 | apply IsS32.set_3 | apply IsS32.set_5 | apply IsS32.set_6 | apply IsS32.set_7 | apply IsS32.set_8 | refine IsS32.far ?_ NB180_181.out _ | refine IsS32.far ?_ NB180_182.out _) | exact HI180.out)) hb); (try clear hb); (try clear hb2); (try clear hk); (try clear hi)) | ((with_reducible refine gate_callee (f := 54) rfl ?_); refine goA (some 18) rfl rfl Try.func54 rfl #[.int .i64 t207] rfl ?_; (with_reducible refine (spec_l12Bad.calls t207 t208 t209 t210 t211 t212 t213 t216 t217 t218 t219 t220 _ A52.out).mono ?_); rintro e w61 ⟨v214, v221, rfl, ho0, ho1, hb⟩; refine ⟨_, rfl, ?_⟩; have HO215 := am (Kd.S_lower ho0 (below_size (by repeat (first | (with_reducible first | exact HB.out | apply below_alloc | apply pw_below_drewN | apply below_drew1 | refine below_set ?_ (IsS32.ge HI180.out) | refine below_set ?_ GE181.out | refine below_set ?_ GE182.out) | exact HB.out)))); have HO222 := am (Kd.S_lower ho1 (below_size (by repeat (first | (with_reducible first | exact HB.out | apply below_alloc | apply pw_below_drewN | apply below_drew1 | refine below_set ?_ (IsS32.ge HI180.out) | refine below_set ?_ GE181.out | refine below_set ?_ GE182.out) | exact HB.out)))); replace BK181 := bK BK181 hb; replace BK182 := bK BK182 hb; replace HB := am (below_step (by repeat (first | (with_reducible first | exact HB.out | apply below_alloc | apply pw_below_drewN | apply below_drew1 | refine below_set ?_ (IsS32.ge HI180.out) | refine below_set ?_ GE181.out | refine below_set ?_ GE182.out) | exact HB.out)) hb); replace HI180 := am (IsS32.below (by repeat (first | (with_reducible first | exact HI180.out | apply IsS32.alloc | apply IsS32.drewN | apply IsS32.drew | apply IsS32.set_0 | apply IsS32.set_1 | apply IsS32.set_2 | apply IsS32.set_3 | apply IsS32.set_5 | apply IsS32.set_6 | apply IsS32.set_7 | apply IsS32.set_8 | refine IsS32.far ?_ NB180_181.out _ | refine IsS32.far ?_ NB180_182.out _) | exact HI180.out)) hb); (try clear hb); (try clear hb2); (try clear hk); (try clear hi); (try clear ho0); (try clear ho1); have hnb62 := NB182_180.out; have hnc62 := NB180_182.out; have hz63 := cl11 BK182; obtain ⟨Ao64, co64, eo64⟩ := Kd.S_slice HO215.out; subst eo64; obtain ⟨Ao65, co65, eo65⟩ := Kd.S_slice HO222.out; subst eo65))
  refine bodyPost_ret (results_cell_row rfl _ _ gb182 35 #[.int .i64 t208, .int .i64 t209, .bool t210, .int .i64 t211, .int .i64 t212, .slice Ao64 t213.length co64, .int .i64 t216, .int .i64 t217, .int .i64 t218, .int .i64 t219, .slice Ao65 t220.length co65] (0, 0) _ rfl (mP BK182) Try.underlying35 rfl (by kernel_rfl)) rfl ?_
  exact ⟨_, _, by first | rfl | (simp [errW_none, errW_some] <;> rfl) | (simp [*, errW_none, errW_some] <;> rfl), by (with_reducible repeat (first | apply Kd.S_alloc | apply Kd.S_drewN | apply Kd.S_drew)); exact Kd.S_mono (Kd.S_far (p := ⟨gb182, 10, none⟩) (Kd.S_far (p := ⟨gb182, 9, none⟩) (Kd.S_far (p := ⟨gb182, 8, none⟩) (Kd.S_far (p := ⟨gb182, 7, none⟩) (Kd.S_far (p := ⟨gb182, 6, none⟩) (Kd.S_far (p := ⟨gb182, 5, none⟩) (Kd.S_far (p := ⟨gb182, 4, none⟩) (Kd.S_far (p := ⟨gb182, 3, none⟩) (Kd.S_far (p := ⟨gb182, 2, none⟩) (Kd.S_far (p := ⟨gb182, 1, none⟩) (Kd.S_far (p := ⟨gb182, 0, none⟩) (Kd.S_types HO215.out BK182.out (by decide)) (fun _ hk => hk.2) (.int .i64 t208)) (fun _ hk => hk.2) (.int .i64 t209)) (fun _ hk => hk.2) (.bool t210)) (fun _ hk => hk.2) (.int .i64 t211)) (fun _ hk => hk.2) (.int .i64 t212)) (fun _ hk => hk.2) (.slice Ao64 t213.length co64)) (fun _ hk => hk.2) (.int .i64 t216)) (fun _ hk => hk.2) (.int .i64 t217)) (fun _ hk => hk.2) (.int .i64 t218)) (fun _ hk => hk.2) (.int .i64 t219)) (fun _ hk => hk.2) (.slice Ao65 t220.length co65)) (fun _ hk => trivial), by (with_reducible repeat (first | apply Kd.S_alloc | apply Kd.S_drewN | apply Kd.S_drew)); exact Kd.S_mono (Kd.S_far (p := ⟨gb182, 10, none⟩) (Kd.S_far (p := ⟨gb182, 9, none⟩) (Kd.S_far (p := ⟨gb182, 8, none⟩) (Kd.S_far (p := ⟨gb182, 7, none⟩) (Kd.S_far (p := ⟨gb182, 6, none⟩) (Kd.S_far (p := ⟨gb182, 5, none⟩) (Kd.S_far (p := ⟨gb182, 4, none⟩) (Kd.S_far (p := ⟨gb182, 3, none⟩) (Kd.S_far (p := ⟨gb182, 2, none⟩) (Kd.S_far (p := ⟨gb182, 1, none⟩) (Kd.S_far (p := ⟨gb182, 0, none⟩) (Kd.S_types HO222.out BK182.out (by decide)) (fun _ hk => hk.2) (.int .i64 t208)) (fun _ hk => hk.2) (.int .i64 t209)) (fun _ hk => hk.2) (.bool t210)) (fun _ hk => hk.2) (.int .i64 t211)) (fun _ hk => hk.2) (.int .i64 t212)) (fun _ hk => hk.2) (.slice Ao64 t213.length co64)) (fun _ hk => hk.2) (.int .i64 t216)) (fun _ hk => hk.2) (.int .i64 t217)) (fun _ hk => hk.2) (.int .i64 t218)) (fun _ hk => hk.2) (.int .i64 t219)) (fun _ hk => hk.2) (.slice Ao65 t220.length co65)) (fun _ hk => trivial), by repeat (first | (with_reducible first | exact HB.out | apply below_alloc | apply pw_below_drewN | apply below_drew1 | refine below_set ?_ (IsS32.ge HI180.out) | refine below_set ?_ GE181.out | refine below_set ?_ GE182.out) | exact HB.out)⟩
 rw [if_neg c4] at H
 have c4b0 : (t183 == 0) = false := beq_eq_false_iff_ne.mpr c4
 have c4b1 : (t183 != 0) = true := bne_iff_ne.mpr c4
 replace H := Option.bind_eq_some_iff.mp H
 obtain ⟨⟨t192, t193, t194, t195, t196, t197, t200, t201, t202, t203, t204⟩, A660, H⟩ := H
 replace H : (some (t192, t193, t194, t195, t196, t197, t200, t201, t202, t203, t204)) = some (r1, r2, r3, r4, r5, r6, r7, r8, r9, r10, r11) := H
 have A66 := Aside0.mk A660
 clear A660
 simp only [Option.some.injEq, Prod.mk.injEq] at H
 obtain ⟨rfl, rfl, rfl, rfl, rfl, rfl, rfl, rfl, rfl, rfl, rfl⟩ := H
 go_enter Try.func11, Try.ntmps11
 go_wp2_with (first | ((with_reducible refine gate_dst (N := 2) rfl ?_); refine boxE #[.int .i64 a0_0, .bool a0_1, .int .i64 a0_2, .int .i64 a0_3, .slice A0_4 l0_4.length c0_4, .int .i64 a0_5, .int .i64 a0_6, .int .i64 a0_7, .int .i64 a0_8] 32 (N := 2) rfl rfl ?_; intro gb180 hg w67 hbox hb; have BK180 := Aside0.mk hbox; have GW180 := gZ HB hg; have GE180 := gZ HB hg; replace HB := bS HB hb; clear hb hbox hg) | ((with_reducible refine gate_dst (N := 3) rfl ?_); refine boxE #[.int .i64 a1_0, .int .i64 a1_1, .slice A1_2 l1_2.length c1_2] 38 (N := 3) rfl rfl ?_; intro gb181 hg w68 hbox hb; have BK181 := Aside0.mk hbox; have GW181 := gZ HB hg; have GE181 := gZ HB hg; replace HB := bS HB hb; have NB180_181 := nL BK180 hg; have NB181_180 := nG BK180 hg; replace BK180 := bK BK180 hb; clear hb hbox hg) | ((with_reducible refine gate_dst (N := 4) rfl ?_); refine boxE #[.int .i64 0, .int .i64 0, .bool false, .int .i64 0, .int .i64 0, .slice none 0 0, .int .i64 0, .int .i64 0, .int .i64 0, .int .i64 0, .slice none 0 0] 35 (N := 4) rfl rfl ?_; intro gb182 hg w69 hbox hb; have BK182 := Aside0.mk hbox; have GW182 := gZ HB hg; have GE182 := gZ HB hg; replace HB := bS HB hb; have NB180_182 := nL BK180 hg; have NB182_180 := nG BK180 hg; replace BK180 := bK BK180 hb; have NB181_182 := nL BK181 hg; have NB182_181 := nG BK181 hg; replace BK181 := bK BK181 hb; clear hb hbox hg; have HI180 := am (show IsS32 w w69 gb180 a0_0 a0_1 a0_2 a0_3 l0_4 a0_5 a0_6 a0_7 a0_8 from ⟨_, _, (mB BK180), GE180.out, HR0_4.out, HC0_4.out⟩); clear BK180) | ((with_reducible refine gate_callee (f := 53) rfl ?_); refine goA (some 8) rfl rfl Try.func53 rfl #[.pointer (some ⟨gb180, 0, none⟩)] rfl ?_; (with_reducible refine (spec_l12Active.calls k gb180 a0_0 a0_1 a0_2 a0_3 l0_4 a0_5 a0_6 a0_7 a0_8 t183 t184 t185 t186 t187 t188 t189 t190 t191 w _ ?side1 ?side2 A3.out).mono ?_); (case side1 => repeat (first | (with_reducible first | exact HI180.out | apply IsS32.alloc | apply IsS32.drewN | apply IsS32.drew | apply IsS32.set_0 | apply IsS32.set_1 | apply IsS32.set_2 | apply IsS32.set_3 | apply IsS32.set_5 | apply IsS32.set_6 | apply IsS32.set_7 | apply IsS32.set_8 | refine IsS32.far ?_ NB180_181.out _ | refine IsS32.far ?_ NB180_182.out _) | exact HI180.out)); (case side2 => repeat (first | (with_reducible first | exact HB.out | apply below_alloc | apply pw_below_drewN | apply below_drew1 | refine below_set ?_ (IsS32.ge HI180.out) | refine below_set ?_ GE181.out | refine below_set ?_ GE182.out) | exact HB.out)); rintro e w70 ⟨rfl, hi, hb, hk⟩; refine ⟨_, rfl, ?_⟩; replace BK181 := am (KeepBut.blk hk (g' := gb181) (o := .cells #[.int .i64 a1_0, .int .i64 a1_1, .slice A1_2 l1_2.length c1_2] 38 (0, 0)) (mB BK181) NB181_180.out (by simp)); replace BK182 := am (KeepBut.blk hk (g' := gb182) (o := .cells #[.int .i64 0, .int .i64 0, .bool false, .int .i64 0, .int .i64 0, .slice none 0 0, .int .i64 0, .int .i64 0, .int .i64 0, .int .i64 0, .slice none 0 0] 35 (0, 0)) (mB BK182) NB182_180.out (by simp)); replace HB := Aside0.mk hb; replace HI180 := Aside0.mk hi; (try clear hb); (try clear hb2); (try clear hk); (try clear hi)) | ((with_reducible refine gate_callee (f := 54) rfl ?_); refine goA (some 12) rfl rfl Try.func54 rfl #[.int .i64 t183] rfl ?_; (with_reducible refine (spec_l12Bad.calls t183 t192 t193 t194 t195 t196 t197 t200 t201 t202 t203 t204 _ A66.out).mono ?_); rintro e w71 ⟨v198, v205, rfl, ho0, ho1, hb⟩; refine ⟨_, rfl, ?_⟩; have HO199 := am (Kd.S_lower ho0 (below_size (by repeat (first | (with_reducible first | exact HB.out | apply below_alloc | apply pw_below_drewN | apply below_drew1 | refine below_set ?_ (IsS32.ge HI180.out) | refine below_set ?_ GE181.out | refine below_set ?_ GE182.out) | exact HB.out)))); have HO206 := am (Kd.S_lower ho1 (below_size (by repeat (first | (with_reducible first | exact HB.out | apply below_alloc | apply pw_below_drewN | apply below_drew1 | refine below_set ?_ (IsS32.ge HI180.out) | refine below_set ?_ GE181.out | refine below_set ?_ GE182.out) | exact HB.out)))); replace BK181 := bK BK181 hb; replace BK182 := bK BK182 hb; replace HB := am (below_step (by repeat (first | (with_reducible first | exact HB.out | apply below_alloc | apply pw_below_drewN | apply below_drew1 | refine below_set ?_ (IsS32.ge HI180.out) | refine below_set ?_ GE181.out | refine below_set ?_ GE182.out) | exact HB.out)) hb); replace HI180 := am (IsS32.below (by repeat (first | (with_reducible first | exact HI180.out | apply IsS32.alloc | apply IsS32.drewN | apply IsS32.drew | apply IsS32.set_0 | apply IsS32.set_1 | apply IsS32.set_2 | apply IsS32.set_3 | apply IsS32.set_5 | apply IsS32.set_6 | apply IsS32.set_7 | apply IsS32.set_8 | refine IsS32.far ?_ NB180_181.out _ | refine IsS32.far ?_ NB180_182.out _) | exact HI180.out)) hb); (try clear hb); (try clear hb2); (try clear hk); (try clear hi); (try clear ho0); (try clear ho1); have hnb72 := NB182_181.out; have hnc72 := NB181_182.out; have hnb73 := NB182_180.out; have hnc73 := NB180_182.out; have hz74 := cl11 BK182; obtain ⟨Ao75, co75, eo75⟩ := Kd.S_slice HO199.out; subst eo75; obtain ⟨Ao76, co76, eo76⟩ := Kd.S_slice HO206.out; subst eo76))
 refine bodyPost_ret (results_cell_row rfl _ _ gb182 35 #[.int .i64 t192, .int .i64 t193, .bool t194, .int .i64 t195, .int .i64 t196, .slice Ao75 t197.length co75, .int .i64 t200, .int .i64 t201, .int .i64 t202, .int .i64 t203, .slice Ao76 t204.length co76] (0, 0) _ rfl (mP BK182) Try.underlying35 rfl (by kernel_rfl)) rfl ?_
 exact ⟨_, _, by first | rfl | (simp [errW_none, errW_some] <;> rfl) | (simp [*, errW_none, errW_some] <;> rfl), by (with_reducible repeat (first | apply Kd.S_alloc | apply Kd.S_drewN | apply Kd.S_drew)); exact Kd.S_mono (Kd.S_far (p := ⟨gb182, 10, none⟩) (Kd.S_far (p := ⟨gb182, 9, none⟩) (Kd.S_far (p := ⟨gb182, 8, none⟩) (Kd.S_far (p := ⟨gb182, 7, none⟩) (Kd.S_far (p := ⟨gb182, 6, none⟩) (Kd.S_far (p := ⟨gb182, 5, none⟩) (Kd.S_far (p := ⟨gb182, 4, none⟩) (Kd.S_far (p := ⟨gb182, 3, none⟩) (Kd.S_far (p := ⟨gb182, 2, none⟩) (Kd.S_far (p := ⟨gb182, 1, none⟩) (Kd.S_far (p := ⟨gb182, 0, none⟩) (Kd.S_types HO199.out BK182.out (by decide)) (fun _ hk => hk.2) (.int .i64 t192)) (fun _ hk => hk.2) (.int .i64 t193)) (fun _ hk => hk.2) (.bool t194)) (fun _ hk => hk.2) (.int .i64 t195)) (fun _ hk => hk.2) (.int .i64 t196)) (fun _ hk => hk.2) (.slice Ao75 t197.length co75)) (fun _ hk => hk.2) (.int .i64 t200)) (fun _ hk => hk.2) (.int .i64 t201)) (fun _ hk => hk.2) (.int .i64 t202)) (fun _ hk => hk.2) (.int .i64 t203)) (fun _ hk => hk.2) (.slice Ao76 t204.length co76)) (fun _ hk => trivial), by (with_reducible repeat (first | apply Kd.S_alloc | apply Kd.S_drewN | apply Kd.S_drew)); exact Kd.S_mono (Kd.S_far (p := ⟨gb182, 10, none⟩) (Kd.S_far (p := ⟨gb182, 9, none⟩) (Kd.S_far (p := ⟨gb182, 8, none⟩) (Kd.S_far (p := ⟨gb182, 7, none⟩) (Kd.S_far (p := ⟨gb182, 6, none⟩) (Kd.S_far (p := ⟨gb182, 5, none⟩) (Kd.S_far (p := ⟨gb182, 4, none⟩) (Kd.S_far (p := ⟨gb182, 3, none⟩) (Kd.S_far (p := ⟨gb182, 2, none⟩) (Kd.S_far (p := ⟨gb182, 1, none⟩) (Kd.S_far (p := ⟨gb182, 0, none⟩) (Kd.S_types HO206.out BK182.out (by decide)) (fun _ hk => hk.2) (.int .i64 t192)) (fun _ hk => hk.2) (.int .i64 t193)) (fun _ hk => hk.2) (.bool t194)) (fun _ hk => hk.2) (.int .i64 t195)) (fun _ hk => hk.2) (.int .i64 t196)) (fun _ hk => hk.2) (.slice Ao75 t197.length co75)) (fun _ hk => hk.2) (.int .i64 t200)) (fun _ hk => hk.2) (.int .i64 t201)) (fun _ hk => hk.2) (.int .i64 t202)) (fun _ hk => hk.2) (.int .i64 t203)) (fun _ hk => hk.2) (.slice Ao76 t204.length co76)) (fun _ hk => trivial), by repeat (first | (with_reducible first | exact HB.out | apply below_alloc | apply pw_below_drewN | apply below_drew1 | refine below_set ?_ (IsS32.ge HI180.out) | refine below_set ?_ GE181.out | refine below_set ?_ GE182.out) | exact HB.out)⟩

/-! ### laws_toByteS: function 59 -/
def laws_toByteS.l0 : Nat → List Int → List Int → Int → Option (List Int)
 | 0, _, _, _ => none
 | k + 1, x0, x3, x4 => if x4 < (x0.length : Int) then (if 0 ≤ x4 then (if x4 < (x3.length : Int) then (laws_toByteS.l0 k x0 (x3.set (x4 : Int).toNat (rd x0 x4)) (wrap64 (x4 + 1))) else (none)) else (none)) else (some x3)
def laws_toByteS.f (k : Nat) (l0 : List Int) : Option (List Int) := if 0 ≤ (l0.length : Int) then (if ((l0.length : Int) : Int).toNat ≤ 281474976710656 then (laws_toByteS.l0 k l0 (List.replicate ((l0.length : Int) : Int).toNat 0) 0) else (none)) else (none)
theorem laws_toByteS.mono_l : ∀ k, (∀ y0 y1 y2, LeO (laws_toByteS.l0 k y0 y1 y2) (laws_toByteS.l0 (k + 1) y0 y1 y2))
 | 0 => fun _ _ _ r h => by simp [laws_toByteS.l0] at h
 | k + 1 => by
  have ih0 := laws_toByteS.mono_l k
  intro y0 y1 y2
  unfold laws_toByteS.l0
  repeat' first
  | (with_reducible exact ih0 _ _ _)
  | (with_reducible exact LeO.refl _)
  | (with_reducible exact LeO.none _)
  | (with_reducible refine LeO.ite ?_ ?_)
  | (with_reducible refine LeO.bind ?_ (fun _ => ?_))
  | exact ih0 _ _ _
  | exact LeO.none _
  | refine LeO.ite ?_ ?_
  | refine LeO.bind ?_ (fun _ => ?_)
theorem laws_toByteS.mono : ∀ a0 k, LeO (laws_toByteS.f k a0) (laws_toByteS.f (k + 1) a0) := by
 intro a0 k
 have ih0 := laws_toByteS.mono_l k
 unfold laws_toByteS.f
 repeat' first
   | (with_reducible exact ih0 _ _ _)
   | (with_reducible exact LeO.refl _)
   | (with_reducible exact LeO.none _)
   | (with_reducible refine LeO.ite ?_ ?_)
   | (with_reducible refine LeO.bind ?_ (fun _ => ?_))
   | exact ih0 _ _ _
   | exact LeO.none _
   | refine LeO.ite ?_ ?_
   | refine LeO.bind ?_ (fun _ => ?_)
set_option maxHeartbeats 8000000 in
set_option maxRecDepth 100000 in
theorem laws_toByteS.calls (k : Nat) (A0 : Option Addr) (c0 : Nat) (l0 : List Int) (r : List Int) (w : World) (hr0 : Kd.C (Kd.int .u8) w A0 l0.length l0) (hc0 : l0.length ≤ c0) (h : laws_toByteS.f k l0 = some r) :
  Calls Try.prog 59 #[.slice A0 l0.length c0] w fun e w' => ∃ v0_ : Value, e = .returned (v0_) ∧ Kd.R (Kd.int .u8) 5 w' w.heap.size (fun _ => True) v0_ r ∧ Below w.heap.size w w' := by
 have HR0 := Aside0.mk hr0
 have HC0 := Aside0.mk hc0
 clear hr0 hc0
 have HB := am (Below.refl w.heap.size w)
 have H : (if 0 ≤ (l0.length : Int) then (if ((l0.length : Int) : Int).toNat ≤ 281474976710656 then (laws_toByteS.l0 k l0 (List.replicate ((l0.length : Int) : Int).toNat 0) 0) else (none)) else (none)) = some r := h
 clear h
 by_cases c2 : 0 ≤ (l0.length : Int)
 ·
  rw [if_pos c2] at H
  have c2b0 := eq_true c2
  have c2b1 : decide (0 ≤ (l0.length : Int)) = true := decide_eq_true c2
  clear c2
  by_cases c3 : ((l0.length : Int) : Int).toNat ≤ 281474976710656
  ·
   rw [if_pos c3] at H
   have c3b0 := eq_true c3
   have c3b1 : decide (((l0.length : Int) : Int).toNat ≤ 281474976710656) = true := decide_eq_true c3
   clear c3
   obtain ⟨y259, hy259⟩ : ∃ y_ : List Int, y_ = (List.replicate ((l0.length : Int) : Int).toNat 0) := ⟨_, rfl⟩
   replace H : (laws_toByteS.l0 k l0 y259 0) = some r := by first | (rw [hy259]; with_reducible exact H) | (have H2_ := (Option.bind_some _ _).symm.trans H; rw [hy259]; with_reducible exact H2_) | (have H2_ := (Option.bind_some _ _).symm.trans H; with_reducible exact H2_) | with_reducible exact H | (rw [hy259]; exact H) | exact H
   have Ny259 := Aside0.mk hy259
   clear hy259
   have H' := Aside0.mk H
   clear H
   go_enter Try.func59, Try.ntmps59
   go_wp2_with (first | ((with_reducible refine gate_dst (N := 7) rfl ?_); refine Kd.R_make (Kd.int .u8) _ 5 rfl (N := 7) rfl 25 _ _ rfl (l0.length : Int) rfl rfl Try.underlying25 (.int .u8 0) 1 info5 rfl (by decide) (by omega) 0 (ok := fun _ => True) (okp := fun _ => True) rfl (fun _ hk => hk) trivial (of_decide_eq_true (by first | (with_reducible assumption) | assumption)) (Nat.le_trans (Nat.mul_le_mul_right _ (of_decide_eq_true (by first | (with_reducible assumption) | assumption) : (l0.length : Int).toNat ≤ 281474976710656)) (by omega)) (Below.refl _ _) (Nat.le_refl _) ?_; intro v260 w4 ho5 hb hg_ hnew_; clear hg_ hnew_; (first | rw [← Ny259.out] at ho5 | (simp only [Int.reduceToNat] at ho5; rw [← Ny259.out] at ho5)); have HO261 := am (Kd.R_lower ho5 (below_size (bel HB))); replace HB := bS HB hb; clear hb ho5))
   go_loopg [4] k (fun kq v4 w' => ∃ (x3_1 : List Int) (x4_1 : Int), v4 = .int .i64 x4_1 ∧ Aside0 (laws_toByteS.l0 kq l0 x3_1 x4_1 = some r) ∧ Aside0 (kq ≤ k) ∧ Aside0 (Kd.R (Kd.int .u8) 5 w' w.heap.size (fun _ => True) v260 x3_1) ∧ Aside0 (Below w.heap.size w w'))
   case atStart => exact ⟨(y259), (0), (by first | rfl | (simp; done) | (simp [*]; done)), H', ⟨Nat.le_refl _⟩, ⟨by (with_reducible repeat (first | apply Kd.R_alloc | apply Kd.R_drewN | apply Kd.R_drew)); exact HO261.out⟩, ⟨bel HB⟩⟩
   case round =>
    clear H'
    try clear c2
    try clear c2b0
    try clear c2b1
    try clear p2
    try clear c3
    try clear c3b0
    try clear c3b1
    try clear c5
    obtain ⟨x3_1, x4_1, rfl, HA, HK1, HO_3, HB⟩ := hrel
    cases gk with
    | zero => exact absurd HA.out (by simp [laws_toByteS.l0])
    | succ k1 =>
     have H := HA.out
     clear HA
     simp only [laws_toByteS.l0] at H
     by_cases c6 : x4_1 < (l0.length : Int)
     ·
      rw [if_pos c6] at H
      have c6b0 : decide (x4_1 < (l0.length : Int)) = true := decide_eq_true c6
      clear c6
      by_cases c7 : 0 ≤ x4_1
      ·
       rw [if_pos c7] at H
       have c7b0 : decide (0 ≤ x4_1) = true := decide_eq_true c7
       clear c7
       by_cases c8 : x4_1 < (x3_1.length : Int)
       ·
        rw [if_pos c8] at H
        have c8b0 : decide (x4_1 < (x3_1.length : Int)) = true := decide_eq_true c8
        clear c8
        obtain ⟨y263, hy263⟩ : ∃ y_ : List Int, y_ = (x3_1.set (x4_1 : Int).toNat (rd l0 x4_1)) := ⟨_, rfl⟩
        replace H : (laws_toByteS.l0 k1 l0 y263 (wrap64 (x4_1 + 1))) = some r := by first | (rw [hy263]; with_reducible exact H) | (have H2_ := (Option.bind_some _ _).symm.trans H; rw [hy263]; with_reducible exact H2_) | (have H2_ := (Option.bind_some _ _).symm.trans H; with_reducible exact H2_) | with_reducible exact H | (rw [hy263]; exact H) | exact H
        have Ny263 := Aside0.mk hy263
        clear hy263
        have H' := Aside0.mk H
        clear H
        have p262 : 0 ≤ (x4_1 : Int) := of_decide_eq_true (by first | (with_reducible assumption) | assumption)
        have q262 : x4_1 < (l0.length : Int) := of_decide_eq_true (by first | (with_reducible assumption) | assumption)
        obtain ⟨ad262, e262, hx262_0⟩ := Kd.at_int HR0.out x4_1 p262 q262
        cases e262
        replace hx262_0 := (HB.out.cell (World.block_lt_of_cell? w _ hx262_0)).trans hx262_0
        replace p262 := eq_true p262
        replace q262 := eq_true q262
        have p9 : 0 ≤ (x4_1 : Int) := of_decide_eq_true (by first | (with_reducible assumption) | assumption)
        have q9 : (x4_1 : Int) < ((x3_1.length : Int) : Int) := of_decide_eq_true (by first | (with_reducible assumption) | assumption)
        obtain ⟨go9, co9, eo9, gb9, gl9, cl9, HG9⟩ := Kd.R_form HO_3.out (by omega)
        (first | cases eo9 | (injection eo9 with ea_ en_ ec_; (first | subst ea_ | (injection ea_ with ea_; subst ea_)); subst ec_; clear en_))
        have GB9 := Aside0.mk gb9
        have GG9 := Aside0.mk HG9
        clear gb9 gl9 HG9
        obtain ⟨hx9_0, hf9_0⟩ := Kd.R_celln 0 HO_3.out (x4_1 : Int) p9 q9
        replace p9 := eq_true p9
        replace q9 := eq_true q9
        have HP10 := Kd.R_putg HO_3.out (x4_1 : Int) (rd l0 x4_1)
        go_wp2_with (first | ((with_reducible refine gate_store (t := 5) (p := 20) rfl ?_); refine store_event (t := 5) (p := 20) (v := ?vo_w11) (w1 := (wr.setCell ⟨go9, (x4_1 : Int).toNat, none⟩ (.int .u8 (rd l0 x4_1)))) ?hg ?ho ?hn ?hr ?_; (case ho => rfl); (case hg => rfl); (case hn => rfl); (case hr => first | (go_simp; done) | (go_simp; rfl)); intro w11 hw; have hg : wr.grownBy w11 (some go9) := (by rw [hw]; exact HP10.2); have hp_ : Kd.R (Kd.int .u8) 5 w11 w.heap.size (fun _ => True) (.slice (some ⟨go9, 0, none⟩) x3_1.length co9) y263 := (by rw [hw, Ny263.out]; exact HP10.1); clear HP10; replace HO_3 := Aside0.mk hp_; replace HB := am ((by rw [hw]; exact below_set (HB.out) GB9.out : Below w.heap.size w w11)); clear hg hw hp_))
        go_roundg k1
        case measure => have := HK1.out; omega
        case rel => exact ⟨(y263), (wrap64 (x4_1 + 1)), (by first | rfl | (simp; done) | (simp [*]; done)), H', ⟨by have := HK1.out; omega⟩, ⟨by (with_reducible repeat (first | apply Kd.R_alloc | apply Kd.R_drewN | apply Kd.R_drew)); exact HO_3.out⟩, ⟨bel HB⟩⟩
       rw [if_neg c8] at H
       exact absurd H (by simp)
      rw [if_neg c7] at H
      exact absurd H (by simp)
     rw [if_neg c6] at H
     have c6b0 : decide (x4_1 < (l0.length : Int)) = false := decide_eq_false c6
     clear c6
     obtain rfl := Option.some.inj H
     go_wp2
     go_ret
     exact ⟨_, by first | rfl | (simp [errW_none, errW_some] <;> rfl) | (simp [*, errW_none, errW_some] <;> rfl), by (with_reducible repeat (first | apply Kd.R_alloc | apply Kd.R_drewN | apply Kd.R_drew)); exact HO_3.out, bel HB⟩
  rw [if_neg c3] at H
  exact absurd H (by simp)
 rw [if_neg c2] at H
 exact absurd H (by simp)

end Go.Proofs.Ytgfoifkkffffgab.PFnExactAddEvent
