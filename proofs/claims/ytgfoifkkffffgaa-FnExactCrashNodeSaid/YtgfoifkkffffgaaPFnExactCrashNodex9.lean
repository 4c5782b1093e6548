-- Laid by a turned copy of the printer (wip/tools/patch_print.py)
import Derived.Test.YtgfoifkkffffgaaPFnExactCrashNodex0
import Derived.Test.YtgfoifkkffffgaaPFnExactCrashNodex6
import Derived.Test.YtgfoifkkffffgaaPFnExactCrashNodex7
import Derived.Test.YtgfoifkkffffgaaPFnExactCrashNodex8
namespace Go.Proofs.Ytgfoifkkffffgaa.PFnExactCrashNode
open Go.RowKit Go.Proofs.YtgfoifkkffffgaaW.PrintWords Go.Proofs.YtgfoifkkffffgaaW.PrintLast Go.Proofs.YtgfoifkkffffgaaW.PrintMore
attribute [local go_sem] max2_int min2_int max_two min_two max_three min_three max_four min_four   -- for this text's walks alone
set_option linter.unusedVariables false
set_option linter.unusedSimpArgs false

/-! ### spec_l12Asked: function 54 -/
def spec_l12Asked.f (k : Nat) (s0_0 : Int) (s0_1 : Bool) (s0_2 : Int) (s0_3 : Int) (s0_4 : List (S51)) (s0_5 : Int) (s0_6 : Int) (s0_7 : Int) (s0_8 : Int) : Option (Int × Int × Bool × Int × Int × Int × Int × Int × Int) := (spec_l12Fault.f k s0_0 s0_1 s0_2 s0_3 s0_4 s0_5 s0_6 s0_7 s0_8).bind fun bt249 => (if bt249.1 = 0 then (if bt249.2.2.1 = true then (some (0, bt249.2.1, bt249.2.2.1, bt249.2.2.2.1, bt249.2.2.2.2.1, bt249.2.2.2.2.2.1, bt249.2.2.2.2.2.2.1, bt249.2.2.2.2.2.2.2.1, bt249.2.2.2.2.2.2.2.2)) else (some (10, bt249.2.1, bt249.2.2.1, bt249.2.2.2.1, bt249.2.2.2.2.1, bt249.2.2.2.2.2.1, bt249.2.2.2.2.2.2.1, bt249.2.2.2.2.2.2.2.1, bt249.2.2.2.2.2.2.2.2))) else (some (bt249.1, bt249.2.1, bt249.2.2.1, bt249.2.2.2.1, bt249.2.2.2.2.1, bt249.2.2.2.2.2.1, bt249.2.2.2.2.2.2.1, bt249.2.2.2.2.2.2.2.1, bt249.2.2.2.2.2.2.2.2)))
theorem spec_l12Asked.mono : ∀ a0 a1 a2 a3 a4 a5 a6 a7 a8 k, LeO (spec_l12Asked.f k a0 a1 a2 a3 a4 a5 a6 a7 a8) (spec_l12Asked.f (k + 1) a0 a1 a2 a3 a4 a5 a6 a7 a8) := by
 intro a0 a1 a2 a3 a4 a5 a6 a7 a8 k
 unfold spec_l12Asked.f
 repeat' first
   | (with_reducible exact spec_l12Fault.mono _ _ _ _ _ _ _ _ _ _)
   | (with_reducible exact LeO.refl _)
   | (with_reducible exact LeO.none _)
   | (with_reducible refine LeO.ite ?_ ?_)
   | (with_reducible refine LeO.bind ?_ (fun _ => ?_))
   | exact spec_l12Fault.mono _ _ _ _ _ _ _ _ _ _
   | exact LeO.none _
   | refine LeO.ite ?_ ?_
   | refine LeO.bind ?_ (fun _ => ?_)
set_option maxHeartbeats 8000000 in
set_option maxRecDepth 100000 in
theorem spec_l12Asked.calls (k : Nat) (g : Nat) (s0_0 : Int) (s0_1 : Bool) (s0_2 : Int) (s0_3 : Int) (s0_4 : List (S51)) (s0_5 : Int) (s0_6 : Int) (s0_7 : Int) (s0_8 : Int) (r1 : Int) (r2 : Int) (r3 : Bool) (r4 : Int) (r5 : Int) (r6 : Int) (r7 : Int) (r8 : Int) (r9 : Int) (w0 w : World) (hI : IsS29 w0 w g s0_0 s0_1 s0_2 s0_3 s0_4 s0_5 s0_6 s0_7 s0_8) (hB : Below w0.heap.size w0 w) (h : spec_l12Asked.f k s0_0 s0_1 s0_2 s0_3 s0_4 s0_5 s0_6 s0_7 s0_8 = some (r1, r2, r3, r4, r5, r6, r7, r8, r9)) :
  Calls Try.prog 54 #[.pointer (some ⟨g, 0, none⟩)] w fun e w' => e = .returned (.int .i64 r1) ∧ IsS29 w0 w' g r2 r3 r4 r5 s0_4 r6 r7 r8 r9 ∧ Below w0.heap.size w0 w' ∧ KeepBut w w' g none := by
 have HI0 := Aside0.mk hI
 have HK := Aside0.mk (KeepBut.refl w g none)
 have HL := Aside0.mk hB.size
 clear hI
 have HW0 := Aside0.mk hB.size
 have HB := Aside0.mk hB
 clear hB
 have H : ((spec_l12Fault.f k s0_0 s0_1 s0_2 s0_3 s0_4 s0_5 s0_6 s0_7 s0_8).bind fun bt249 => (if bt249.1 = 0 then (if bt249.2.2.1 = true then (some (0, bt249.2.1, bt249.2.2.1, bt249.2.2.2.1, bt249.2.2.2.2.1, bt249.2.2.2.2.2.1, bt249.2.2.2.2.2.2.1, bt249.2.2.2.2.2.2.2.1, bt249.2.2.2.2.2.2.2.2)) else (some (10, bt249.2.1, bt249.2.2.1, bt249.2.2.2.1, bt249.2.2.2.2.1, bt249.2.2.2.2.2.1, bt249.2.2.2.2.2.2.1, bt249.2.2.2.2.2.2.2.1, bt249.2.2.2.2.2.2.2.2))) else (some (bt249.1, bt249.2.1, bt249.2.2.1, bt249.2.2.2.1, bt249.2.2.2.2.1, bt249.2.2.2.2.2.1, bt249.2.2.2.2.2.2.1, bt249.2.2.2.2.2.2.2.1, bt249.2.2.2.2.2.2.2.2)))) = some (r1, r2, r3, r4, r5, r6, r7, r8, r9) := h
 clear h
 replace H := Option.bind_eq_some_iff.mp H
 obtain ⟨⟨t249, t250, t251, t252, t253, t254, t255, t256, t257⟩, A20, H⟩ := H
 replace H : (if t249 = 0 then (if t251 = true then (some (0, t250, t251, t252, t253, t254, t255, t256, t257)) else (some (10, t250, t251, t252, t253, t254, t255, t256, t257))) else (some (t249, t250, t251, t252, t253, t254, t255, t256, t257))) = some (r1, r2, r3, r4, r5, r6, r7, r8, r9) := H
 have A2 := Aside0.mk A20
 clear A20
 by_cases c3 : t249 = 0
 ·
  rw [if_pos c3] at H
  have c3b0 : (t249 == 0) = true := beq_iff_eq.mpr c3
  have c3b1 : (t249 != 0) = false := bne_eq_false_iff_eq.mpr c3
  clear c3
  by_cases c4 : t251 = true
  ·
   subst c4
   have H1 : (some (0, t250, true, t252, t253, t254, t255, t256, t257)) = some (r1, r2, r3, r4, r5, r6, r7, r8, r9) := by rw [if_pos rfl] at H; first | done | exact H
   clear H
   have H := H1
   clear H1
   simp only [Option.some.injEq, Prod.mk.injEq] at H
   obtain ⟨rfl, rfl, rfl, rfl, rfl, rfl, rfl, rfl, rfl⟩ := H
   go_enter Try.func54, Try.ntmps54
   go_wp2_with (first | ((with_reducible refine gate_callee (f := 32) rfl ?_); refine goA (some 5) rfl rfl Try.func32 rfl #[.pointer (some ⟨g, 0, none⟩)] rfl ?_; (with_reducible refine (spec_l12Fault.calls k g s0_0 s0_1 s0_2 s0_3 s0_4 s0_5 s0_6 s0_7 s0_8 t249 t250 true t252 t253 t254 t255 t256 t257 w0 _ ?side1 ?side2 A2.out).mono ?_); (case side1 => repeat (first | (with_reducible first | exact HI0.out | apply IsS29.alloc | apply IsS29.drewN | apply IsS29.drew | apply IsS29.set_0 | apply IsS29.set_1 | apply IsS29.set_2 | apply IsS29.set_3 | apply IsS29.set_5 | apply IsS29.set_6 | apply IsS29.set_7 | apply IsS29.set_8) | exact HI0.out)); (case side2 => repeat (first | (with_reducible first | exact HB.out | apply below_alloc | apply pw_below_drewN | apply below_drew1 | refine below_set ?_ (IsS29.ge HI0.out)) | exact HB.out)); rintro e w5 ⟨rfl, hi, hb, hk⟩; refine ⟨_, rfl, ?_⟩; replace HK := Aside0.mk (KeepBut.trans (by repeat (first | (with_reducible first | exact HK.out | apply KeepBut.set_ | apply keep_drewN | apply keep_drew | apply keep_alloc) | exact HK.out)) hk (.inl rfl)); replace HB := Aside0.mk hb; replace HI0 := Aside0.mk hi; (try clear hb); (try clear hb2); (try clear hk); (try clear hi); obtain ⟨ASz6_4, cSz6_4, HGz6, hgz6, HSz6_4, HLz6_4⟩ := HI0.out; have hcz6_0 := cellS29_0 HGz6; have hcz6_1 := cellS29_1 HGz6; have hcz6_2 := cellS29_2 HGz6; have hcz6_3 := cellS29_3 HGz6; have hcz6_4 := cellS29_4 HGz6; have hcz6_5 := cellS29_5 HGz6; have hcz6_6 := cellS29_6 HGz6; have hcz6_7 := cellS29_7 HGz6; have hcz6_8 := cellS29_8 HGz6; have hfz6_0 := blk_frozen HGz6 0; have hfz6_1 := blk_frozen HGz6 1; have hfz6_2 := blk_frozen HGz6 2; have hfz6_3 := blk_frozen HGz6 3; have hfz6_5 := blk_frozen HGz6 5; have hfz6_6 := blk_frozen HGz6 6; have hfz6_7 := blk_frozen HGz6 7; have hfz6_8 := blk_frozen HGz6 8; clear HGz6 hgz6))
   go_ret
   exact ⟨by first | rfl | (simp [errW_none, errW_some] <;> rfl) | (simp [*, errW_none, errW_some] <;> rfl), by repeat (first | (with_reducible first | exact HI0.out | apply IsS29.alloc | apply IsS29.drewN | apply IsS29.drew | apply IsS29.set_0 | apply IsS29.set_1 | apply IsS29.set_2 | apply IsS29.set_3 | apply IsS29.set_5 | apply IsS29.set_6 | apply IsS29.set_7 | apply IsS29.set_8) | exact HI0.out), by repeat (first | (with_reducible first | exact HB.out | apply below_alloc | apply pw_below_drewN | apply below_drew1 | refine below_set ?_ (IsS29.ge HI0.out)) | exact HB.out), by repeat (first | (with_reducible first | exact HK.out | apply KeepBut.set_ | apply keep_drewN | apply keep_drew | apply keep_alloc) | exact HK.out)⟩
  ·
   replace c4 := Bool.eq_false_iff.mpr c4
   subst c4
   have H1 : (some (10, t250, false, t252, t253, t254, t255, t256, t257)) = some (r1, r2, r3, r4, r5, r6, r7, r8, r9) := by rw [if_neg (show ¬ (false = true) by decide)] at H; first | done | exact H
   clear H
   have H := H1
   clear H1
   simp only [Option.some.injEq, Prod.mk.injEq] at H
   obtain ⟨rfl, rfl, rfl, rfl, rfl, rfl, rfl, rfl, rfl⟩ := H
   go_enter Try.func54, Try.ntmps54
   go_wp2_with (first | ((with_reducible refine gate_callee (f := 32) rfl ?_); refine goA (some 5) rfl rfl Try.func32 rfl #[.pointer (some ⟨g, 0, none⟩)] rfl ?_; (with_reducible refine (spec_l12Fault.calls k g s0_0 s0_1 s0_2 s0_3 s0_4 s0_5 s0_6 s0_7 s0_8 t249 t250 false t252 t253 t254 t255 t256 t257 w0 _ ?side1 ?side2 A2.out).mono ?_); (case side1 => repeat (first | (with_reducible first | exact HI0.out | apply IsS29.alloc | apply IsS29.drewN | apply IsS29.drew | apply IsS29.set_0 | apply IsS29.set_1 | apply IsS29.set_2 | apply IsS29.set_3 | apply IsS29.set_5 | apply IsS29.set_6 | apply IsS29.set_7 | apply IsS29.set_8) | exact HI0.out)); (case side2 => repeat (first | (with_reducible first | exact HB.out | apply below_alloc | apply pw_below_drewN | apply below_drew1 | refine below_set ?_ (IsS29.ge HI0.out)) | exact HB.out)); rintro e w7 ⟨rfl, hi, hb, hk⟩; refine ⟨_, rfl, ?_⟩; replace HK := Aside0.mk (KeepBut.trans (by repeat (first | (with_reducible first | exact HK.out | apply KeepBut.set_ | apply keep_drewN | apply keep_drew | apply keep_alloc) | exact HK.out)) hk (.inl rfl)); replace HB := Aside0.mk hb; replace HI0 := Aside0.mk hi; (try clear hb); (try clear hb2); (try clear hk); (try clear hi); obtain ⟨ASz8_4, cSz8_4, HGz8, hgz8, HSz8_4, HLz8_4⟩ := HI0.out; have hcz8_0 := cellS29_0 HGz8; have hcz8_1 := cellS29_1 HGz8; have hcz8_2 := cellS29_2 HGz8; have hcz8_3 := cellS29_3 HGz8; have hcz8_4 := cellS29_4 HGz8; have hcz8_5 := cellS29_5 HGz8; have hcz8_6 := cellS29_6 HGz8; have hcz8_7 := cellS29_7 HGz8; have hcz8_8 := cellS29_8 HGz8; have hfz8_0 := blk_frozen HGz8 0; have hfz8_1 := blk_frozen HGz8 1; have hfz8_2 := blk_frozen HGz8 2; have hfz8_3 := blk_frozen HGz8 3; have hfz8_5 := blk_frozen HGz8 5; have hfz8_6 := blk_frozen HGz8 6; have hfz8_7 := blk_frozen HGz8 7; have hfz8_8 := blk_frozen HGz8 8; clear HGz8 hgz8))
   go_ret
   exact ⟨by first | rfl | (simp [errW_none, errW_some] <;> rfl) | (simp [*, errW_none, errW_some] <;> rfl), by repeat (first | (with_reducible first | exact HI0.out | apply IsS29.alloc | apply IsS29.drewN | apply IsS29.drew | apply IsS29.set_0 | apply IsS29.set_1 | apply IsS29.set_2 | apply IsS29.set_3 | apply IsS29.set_5 | apply IsS29.set_6 | apply IsS29.set_7 | apply IsS29.set_8) | exact HI0.out), by repeat (first | (with_reducible first | exact HB.out | apply below_alloc | apply pw_below_drewN | apply below_drew1 | refine below_set ?_ (IsS29.ge HI0.out)) | exact HB.out), by repeat (first | (with_reducible first | exact HK.out | apply KeepBut.set_ | apply keep_drewN | apply keep_drew | apply keep_alloc) | exact HK.out)⟩
 ·
  rw [if_neg c3] at H
  have c3b0 : (t249 == 0) = false := beq_eq_false_iff_ne.mpr c3
  have c3b1 : (t249 != 0) = true := bne_iff_ne.mpr c3
  simp only [Option.some.injEq, Prod.mk.injEq] at H
  obtain ⟨rfl, rfl, rfl, rfl, rfl, rfl, rfl, rfl, rfl⟩ := H
  go_enter Try.func54, Try.ntmps54
  go_wp2_with (first | ((with_reducible refine gate_callee (f := 32) rfl ?_); refine goA (some 5) rfl rfl Try.func32 rfl #[.pointer (some ⟨g, 0, none⟩)] rfl ?_; (with_reducible refine (spec_l12Fault.calls k g s0_0 s0_1 s0_2 s0_3 s0_4 s0_5 s0_6 s0_7 s0_8 t249 t250 t251 t252 t253 t254 t255 t256 t257 w0 _ ?side1 ?side2 A2.out).mono ?_); (case side1 => repeat (first | (with_reducible first | exact HI0.out | apply IsS29.alloc | apply IsS29.drewN | apply IsS29.drew | apply IsS29.set_0 | apply IsS29.set_1 | apply IsS29.set_2 | apply IsS29.set_3 | apply IsS29.set_5 | apply IsS29.set_6 | apply IsS29.set_7 | apply IsS29.set_8) | exact HI0.out)); (case side2 => repeat (first | (with_reducible first | exact HB.out | apply below_alloc | apply pw_below_drewN | apply below_drew1 | refine below_set ?_ (IsS29.ge HI0.out)) | exact HB.out)); rintro e w9 ⟨rfl, hi, hb, hk⟩; refine ⟨_, rfl, ?_⟩; replace HK := Aside0.mk (KeepBut.trans (by repeat (first | (with_reducible first | exact HK.out | apply KeepBut.set_ | apply keep_drewN | apply keep_drew | apply keep_alloc) | exact HK.out)) hk (.inl rfl)); replace HB := Aside0.mk hb; replace HI0 := Aside0.mk hi; (try clear hb); (try clear hb2); (try clear hk); (try clear hi)))
  go_ret
  exact ⟨by first | rfl | (simp [errW_none, errW_some] <;> rfl) | (simp [*, errW_none, errW_some] <;> rfl), by repeat (first | (with_reducible first | exact HI0.out | apply IsS29.alloc | apply IsS29.drewN | apply IsS29.drew | apply IsS29.set_0 | apply IsS29.set_1 | apply IsS29.set_2 | apply IsS29.set_3 | apply IsS29.set_5 | apply IsS29.set_6 | apply IsS29.set_7 | apply IsS29.set_8) | exact HI0.out), by repeat (first | (with_reducible first | exact HB.out | apply below_alloc | apply pw_below_drewN | apply below_drew1 | refine below_set ?_ (IsS29.ge HI0.out)) | exact HB.out), by repeat (first | (with_reducible first | exact HK.out | apply KeepBut.set_ | apply keep_drewN | apply keep_drew | apply keep_alloc) | exact HK.out)⟩

/-! ### spec_CrashNode: function 27 -/
def spec_CrashNode.f (k : Nat) (a0_0 : Int) (a0_1 : Bool) (a0_2 : Int) (a0_3 : Int) (l0_4 : List (S51)) (a0_5 : Int) (a0_6 : Int) (a0_7 : Int) (a0_8 : Int) (a1 : Int) : Option (Int × Int × Bool × Int × Int × (List (S51)) × Int × Int × Int × Int × (List (S53))) := (spec_l12Asked.f k a0_0 a0_1 a0_2 a0_3 l0_4 a0_5 a0_6 a0_7 a0_8).bind fun bt260 => (if bt260.1 = 0 then ((spec_l1In.f a1 0 (wrap64 ((l0_4.length : Int) - bt260.2.2.2.2.2.1))).bind fun t284 => (if t284 = true then ((spec_l12Copy.f k bt260.2.1 bt260.2.2.1 bt260.2.2.2.1 bt260.2.2.2.2.1 l0_4 bt260.2.2.2.2.2.1 bt260.2.2.2.2.2.2.1 bt260.2.2.2.2.2.2.2.1 bt260.2.2.2.2.2.2.2.2).bind fun bt285 => (if 0 ≤ (wrap64 (bt260.2.2.2.2.2.1 + a1)) then (if (wrap64 (bt260.2.2.2.2.2.1 + a1)) ≤ (bt285.2.2.2.2.1.length : Int) then (some (0, bt260.2.1, false, 0, bt260.2.2.2.2.1, (bt285.2.2.2.2.1.take ((wrap64 (bt260.2.2.2.2.2.1 + a1)) : Int).toNat), wrap64 (bt260.2.2.2.2.2.1 + a1), 0, 0, 0, ([] : List (S53)))) else (none)) else (none))) else ((spec_l12Bad.f 3).bind fun bt300 => (some (bt300.1, bt300.2.1, bt300.2.2.1, bt300.2.2.2.1, bt300.2.2.2.2.1, bt300.2.2.2.2.2.1, bt300.2.2.2.2.2.2.1, bt300.2.2.2.2.2.2.2.1, bt300.2.2.2.2.2.2.2.2.1, bt300.2.2.2.2.2.2.2.2.2.1, bt300.2.2.2.2.2.2.2.2.2.2))))) else ((spec_l12Bad.f bt260.1).bind fun bt269 => (some (bt269.1, bt269.2.1, bt269.2.2.1, bt269.2.2.2.1, bt269.2.2.2.2.1, bt269.2.2.2.2.2.1, bt269.2.2.2.2.2.2.1, bt269.2.2.2.2.2.2.2.1, bt269.2.2.2.2.2.2.2.2.1, bt269.2.2.2.2.2.2.2.2.2.1, bt269.2.2.2.2.2.2.2.2.2.2))))
theorem spec_CrashNode.mono : ∀ a0 a1 a2 a3 a4 a5 a6 a7 a8 a9 k, LeO (spec_CrashNode.f k a0 a1 a2 a3 a4 a5 a6 a7 a8 a9) (spec_CrashNode.f (k + 1) a0 a1 a2 a3 a4 a5 a6 a7 a8 a9) := by
 intro a0 a1 a2 a3 a4 a5 a6 a7 a8 a9 k
 unfold spec_CrashNode.f
 repeat' first
   | (with_reducible exact spec_l12Asked.mono _ _ _ _ _ _ _ _ _ _)
   | (with_reducible exact spec_l12Copy.mono _ _ _ _ _ _ _ _ _ _)
   | (with_reducible exact LeO.refl _)
   | (with_reducible exact LeO.none _)
   | (with_reducible refine LeO.ite ?_ ?_)
   | (with_reducible refine LeO.bind ?_ (fun _ => ?_))
   | exact spec_l12Asked.mono _ _ _ _ _ _ _ _ _ _
   | exact spec_l12Copy.mono _ _ _ _ _ _ _ _ _ _
   | exact LeO.none _
   | refine LeO.ite ?_ ?_
   | refine LeO.bind ?_ (fun _ => ?_)
set_option maxHeartbeats 8000000 in
set_option maxRecDepth 100000 in
theorem spec_CrashNode.calls (k : Nat) (a0_0 : Int) (a0_1 : Bool) (a0_2 : Int) (a0_3 : Int) (A0_4 : Option Addr) (c0_4 : Nat) (l0_4 : List (S51)) (a0_5 : Int) (a0_6 : Int) (a0_7 : Int) (a0_8 : Int) (a1 : Int) (r1 : Int) (r2 : Int) (r3 : Bool) (r4 : Int) (r5 : Int) (r6 : List (S51)) (r7 : Int) (r8 : Int) (r9 : Int) (r10 : Int) (r11 : List (S53)) (w : World) (hr0_4 : Kd.C k51 w A0_4 l0_4.length l0_4) (hc0_4 : l0_4.length ≤ c0_4) (h : spec_CrashNode.f k a0_0 a0_1 a0_2 a0_3 l0_4 a0_5 a0_6 a0_7 a0_8 a1 = some (r1, r2, r3, r4, r5, r6, r7, r8, r9, r10, r11)) :
  Calls Try.prog 27 #[.agg #[.int .i64 a0_0, .bool a0_1, .int .i64 a0_2, .int .i64 a0_3, .slice A0_4 l0_4.length c0_4, .int .i64 a0_5, .int .i64 a0_6, .int .i64 a0_7, .int .i64 a0_8], .int .i64 a1] w fun e w' => ∃ v5_ v10_ : Value, e = .returned (.agg #[.int .i64 r1, .int .i64 r2, .bool r3, .int .i64 r4, .int .i64 r5, v5_, .int .i64 r7, .int .i64 r8, .int .i64 r9, .int .i64 r10, v10_]) ∧ Kd.S k51 51 w' w.heap.size (fun _ => True) v5_ r6 ∧ Kd.S k53 53 w' w.heap.size (fun _ => True) v10_ r11 ∧ Below w.heap.size w w' := by
 have hu29 := Try.underlying29
 have hu35 := Try.underlying35
 have HR0_4 := Aside0.mk hr0_4
 have HC0_4 := Aside0.mk hc0_4
 clear hr0_4 hc0_4
 have HB := Aside0.mk (Below.refl w.heap.size w)
 have H : ((spec_l12Asked.f k a0_0 a0_1 a0_2 a0_3 l0_4 a0_5 a0_6 a0_7 a0_8).bind fun bt260 => (if bt260.1 = 0 then ((spec_l1In.f a1 0 (wrap64 ((l0_4.length : Int) - bt260.2.2.2.2.2.1))).bind fun t284 => (if t284 = true then ((spec_l12Copy.f k bt260.2.1 bt260.2.2.1 bt260.2.2.2.1 bt260.2.2.2.2.1 l0_4 bt260.2.2.2.2.2.1 bt260.2.2.2.2.2.2.1 bt260.2.2.2.2.2.2.2.1 bt260.2.2.2.2.2.2.2.2).bind fun bt285 => (if 0 ≤ (wrap64 (bt260.2.2.2.2.2.1 + a1)) then (if (wrap64 (bt260.2.2.2.2.2.1 + a1)) ≤ (bt285.2.2.2.2.1.length : Int) then (some (0, bt260.2.1, false, 0, bt260.2.2.2.2.1, (bt285.2.2.2.2.1.take ((wrap64 (bt260.2.2.2.2.2.1 + a1)) : Int).toNat), wrap64 (bt260.2.2.2.2.2.1 + a1), 0, 0, 0, ([] : List (S53)))) else (none)) else (none))) else ((spec_l12Bad.f 3).bind fun bt300 => (some (bt300.1, bt300.2.1, bt300.2.2.1, bt300.2.2.2.1, bt300.2.2.2.2.1, bt300.2.2.2.2.2.1, bt300.2.2.2.2.2.2.1, bt300.2.2.2.2.2.2.2.1, bt300.2.2.2.2.2.2.2.2.1, bt300.2.2.2.2.2.2.2.2.2.1, bt300.2.2.2.2.2.2.2.2.2.2))))) else ((spec_l12Bad.f bt260.1).bind fun bt269 => (some (bt269.1, bt269.2.1, bt269.2.2.1, bt269.2.2.2.1, bt269.2.2.2.2.1, bt269.2.2.2.2.2.1, bt269.2.2.2.2.2.2.1, bt269.2.2.2.2.2.2.2.1, bt269.2.2.2.2.2.2.2.2.1, bt269.2.2.2.2.2.2.2.2.2.1, bt269.2.2.2.2.2.2.2.2.2.2))))) = some (r1, r2, r3, r4, r5, r6, r7, r8, r9, r10, r11) := h
 clear h
 replace H := Option.bind_eq_some_iff.mp H
 obtain ⟨⟨t260, t261, t262, t263, t264, t265, t266, t267, t268⟩, A30, H⟩ := H
 replace H : (if t260 = 0 then ((spec_l1In.f a1 0 (wrap64 ((l0_4.length : Int) - t265))).bind fun t284 => (if t284 = true then ((spec_l12Copy.f k t261 t262 t263 t264 l0_4 t265 t266 t267 t268).bind fun bt285 => (if 0 ≤ (wrap64 (t265 + a1)) then (if (wrap64 (t265 + a1)) ≤ (bt285.2.2.2.2.1.length : Int) then (some (0, t261, false, 0, t264, (bt285.2.2.2.2.1.take ((wrap64 (t265 + a1)) : Int).toNat), wrap64 (t265 + a1), 0, 0, 0, ([] : List (S53)))) else (none)) else (none))) else ((spec_l12Bad.f 3).bind fun bt300 => (some (bt300.1, bt300.2.1, bt300.2.2.1, bt300.2.2.2.1, bt300.2.2.2.2.1, bt300.2.2.2.2.2.1, bt300.2.2.2.2.2.2.1, bt300.2.2.2.2.2.2.2.1, bt300.2.2.2.2.2.2.2.2.1, bt300.2.2.2.2.2.2.2.2.2.1, bt300.2.2.2.2.2.2.2.2.2.2))))) else ((spec_l12Bad.f t260).bind fun bt269 => (some (bt269.1, bt269.2.1, bt269.2.2.1, bt269.2.2.2.1, bt269.2.2.2.2.1, bt269.2.2.2.2.2.1, bt269.2.2.2.2.2.2.1, bt269.2.2.2.2.2.2.2.1, bt269.2.2.2.2.2.2.2.2.1, bt269.2.2.2.2.2.2.2.2.2.1, bt269.2.2.2.2.2.2.2.2.2.2)))) = some (r1, r2, r3, r4, r5, r6, r7, r8, r9, r10, r11) := H
 have A3 := Aside0.mk A30
 clear A30
 by_cases c4 : t260 = 0
 ·
  rw [if_pos c4] at H
  have c4b0 : (t260 == 0) = true := beq_iff_eq.mpr c4
  have c4b1 : (t260 != 0) = false := bne_eq_false_iff_eq.mpr c4
  clear c4
  replace H := Option.bind_eq_some_iff.mp H
  obtain ⟨t284, A50, H⟩ := H
  replace H : (if t284 = true then ((spec_l12Copy.f k t261 t262 t263 t264 l0_4 t265 t266 t267 t268).bind fun bt285 => (if 0 ≤ (wrap64 (t265 + a1)) then (if (wrap64 (t265 + a1)) ≤ (bt285.2.2.2.2.1.length : Int) then (some (0, t261, false, 0, t264, (bt285.2.2.2.2.1.take ((wrap64 (t265 + a1)) : Int).toNat), wrap64 (t265 + a1), 0, 0, 0, ([] : List (S53)))) else (none)) else (none))) else ((spec_l12Bad.f 3).bind fun bt300 => (some (bt300.1, bt300.2.1, bt300.2.2.1, bt300.2.2.2.1, bt300.2.2.2.2.1, bt300.2.2.2.2.2.1, bt300.2.2.2.2.2.2.1, bt300.2.2.2.2.2.2.2.1, bt300.2.2.2.2.2.2.2.2.1, bt300.2.2.2.2.2.2.2.2.2.1, bt300.2.2.2.2.2.2.2.2.2.2)))) = some (r1, r2, r3, r4, r5, r6, r7, r8, r9, r10, r11) := H
  have A5 := Aside0.mk A50
  clear A50
  by_cases c6 : t284 = true
  ·
   subst c6
   have H1 : ((spec_l12Copy.f k t261 t262 t263 t264 l0_4 t265 t266 t267 t268).bind fun bt285 => (if 0 ≤ (wrap64 (t265 + a1)) then (if (wrap64 (t265 + a1)) ≤ (bt285.2.2.2.2.1.length : Int) then (some (0, t261, false, 0, t264, (bt285.2.2.2.2.1.take ((wrap64 (t265 + a1)) : Int).toNat), wrap64 (t265 + a1), 0, 0, 0, ([] : List (S53)))) else (none)) else (none))) = some (r1, r2, r3, r4, r5, r6, r7, r8, r9, r10, r11) := by rw [if_pos rfl] at H; first | done | exact H
   clear H
   have H := H1
   clear H1
   replace H := Option.bind_eq_some_iff.mp H
   obtain ⟨⟨t285, t286, t287, t288, t289, t292, t293, t294, t295⟩, A70, H⟩ := H
   replace H : (if 0 ≤ (wrap64 (t265 + a1)) then (if (wrap64 (t265 + a1)) ≤ (t289.length : Int) then (some (0, t261, false, 0, t264, (t289.take ((wrap64 (t265 + a1)) : Int).toNat), wrap64 (t265 + a1), 0, 0, 0, ([] : List (S53)))) else (none)) else (none)) = some (r1, r2, r3, r4, r5, r6, r7, r8, r9, r10, r11) := H
   have A7 := Aside0.mk A70
   clear A70
   obtain ⟨ji8, hji8⟩ : ∃ j_ : Int, (wrap64 (t265 + a1)) = j_ := ⟨_, rfl⟩
   replace H : (if 0 ≤ (ji8) then (if (ji8) ≤ (t289.length : Int) then (some (0, t261, false, 0, t264, (t289.take ((ji8) : Int).toNat), ji8, 0, 0, 0, ([] : List (S53)))) else (none)) else (none)) = some (r1, r2, r3, r4, r5, r6, r7, r8, r9, r10, r11) := by first | (rw [hji8] at H; exact H) | (simp only [hji8] at H ⊢; exact H)
   (try rw [hji8] at A3)
   (try rw [hji8] at A5)
   (try rw [hji8] at A7)
   have hji8w : (IntKind.i64.wrap (t265 + a1)) = ji8 := (i64_w _).trans hji8
   by_cases c9 : 0 ≤ (ji8)
   ·
    rw [if_pos c9] at H
    have c9b0 := eq_true c9
    have c9b1 : decide (0 ≤ (ji8)) = true := decide_eq_true c9
    clear c9
    by_cases c10 : (ji8) ≤ (t289.length : Int)
    ·
     rw [if_pos c10] at H
     have c10b0 := eq_true c10
     have c10b1 : decide ((ji8) ≤ (t289.length : Int)) = true := decide_eq_true c10
     clear c10
     obtain ⟨y297, hy297⟩ : ∃ y_ : List (S51), y_ = (t289.take ((ji8) : Int).toNat) := ⟨_, rfl⟩
     replace H : (some (0, t261, false, 0, t264, y297, ji8, 0, 0, 0, ([] : List (S53)))) = some (r1, r2, r3, r4, r5, r6, r7, r8, r9, r10, r11) := by first | (rw [hy297]; with_reducible exact H) | (have H2_ := (Option.bind_some _ _).symm.trans H; rw [hy297]; with_reducible exact H2_) | (have H2_ := (Option.bind_some _ _).symm.trans H; with_reducible exact H2_) | with_reducible exact H | (rw [hy297]; exact H) | exact H
     have Ny297 := Aside0.mk hy297
     clear hy297
     simp only [Option.some.injEq, Prod.mk.injEq] at H
     obtain ⟨rfl, rfl, rfl, rfl, rfl, rfl, rfl, rfl, rfl, rfl, rfl⟩ := H
     go_enter Try.func27, Try.ntmps27
     go_wp2_with (first | ((with_reducible refine gate_dst (N := 2) rfl ?_); refine boxE #[.int .i64 a0_0, .bool a0_1, .int .i64 a0_2, .int .i64 a0_3, .slice A0_4 l0_4.length c0_4, .int .i64 a0_5, .int .i64 a0_6, .int .i64 a0_7, .int .i64 a0_8] 29 (N := 2) rfl rfl ?_; intro gb258 hg w11 hbox hb; have BK258 := Aside0.mk hbox; have GW258 := gZ HB hg; have GE258 := gZ HB hg; replace HB := bS HB hb; clear hb hbox hg) | ((with_reducible refine gate_dst (N := 4) rfl ?_); refine boxE #[.int .i64 0, .int .i64 0, .bool false, .int .i64 0, .int .i64 0, .slice none 0 0, .int .i64 0, .int .i64 0, .int .i64 0, .int .i64 0, .slice none 0 0] 35 (N := 4) rfl rfl ?_; intro gb259 hg w12 hbox hb; have BK259 := Aside0.mk hbox; have GW259 := gZ HB hg; have GE259 := gZ HB hg; replace HB := bS HB hb; have NB258_259 := nL BK258 hg; have NB259_258 := nG BK258 hg; replace BK258 := bK BK258 hb; clear hb hbox hg; have HI258 := Aside0.mk (show IsS29 w w12 gb258 a0_0 a0_1 a0_2 a0_3 l0_4 a0_5 a0_6 a0_7 a0_8 from ⟨_, _, (mB BK258), GE258.out, HR0_4.out, HC0_4.out⟩); clear BK258) | ((with_reducible refine gate_callee (f := 54) rfl ?_); refine goA (some 7) rfl rfl Try.func54 rfl #[.pointer (some ⟨gb258, 0, none⟩)] rfl ?_; (with_reducible refine (spec_l12Asked.calls k gb258 a0_0 a0_1 a0_2 a0_3 l0_4 a0_5 a0_6 a0_7 a0_8 t260 t261 t262 t263 t264 t265 t266 t267 t268 w _ ?side1 ?side2 A3.out).mono ?_); (case side1 => repeat (first | (with_reducible first | exact HI258.out | apply IsS29.alloc | apply IsS29.drewN | apply IsS29.drew | apply IsS29.set_0 | apply IsS29.set_1 | apply IsS29.set_2 | apply IsS29.set_3 | apply IsS29.set_5 | apply IsS29.set_6 | apply IsS29.set_7 | apply IsS29.set_8 | refine IsS29.far ?_ NB258_259.out _) | exact HI258.out)); (case side2 => repeat (first | (with_reducible first | exact HB.out | apply below_alloc | apply pw_below_drewN | apply below_drew1 | refine below_set ?_ (IsS29.ge HI258.out) | refine below_set ?_ GE259.out) | exact HB.out)); rintro e w13 ⟨rfl, hi, hb, hk⟩; refine ⟨_, rfl, ?_⟩; replace BK259 := Aside0.mk (KeepBut.blk hk (g' := gb259) (o := .cells #[.int .i64 0, .int .i64 0, .bool false, .int .i64 0, .int .i64 0, .slice none 0 0, .int .i64 0, .int .i64 0, .int .i64 0, .int .i64 0, .slice none 0 0] 35 (0, 0)) (mB BK259) NB259_258.out (by simp)); replace HB := Aside0.mk hb; replace HI258 := Aside0.mk hi; (try clear hb); (try clear hb2); (try clear hk); (try clear hi); obtain ⟨ASz14_4, cSz14_4, HGz14, hgz14, HSz14_4, HLz14_4⟩ := HI258.out; have hcz14_0 := cellS29_0 HGz14; have hcz14_1 := cellS29_1 HGz14; have hcz14_2 := cellS29_2 HGz14; have hcz14_3 := cellS29_3 HGz14; have hcz14_4 := cellS29_4 HGz14; have hcz14_5 := cellS29_5 HGz14; have hcz14_6 := cellS29_6 HGz14; have hcz14_7 := cellS29_7 HGz14; have hcz14_8 := cellS29_8 HGz14; have hfz14_0 := blk_frozen HGz14 0; have hfz14_1 := blk_frozen HGz14 1; have hfz14_2 := blk_frozen HGz14 2; have hfz14_3 := blk_frozen HGz14 3; have hfz14_5 := blk_frozen HGz14 5; have hfz14_6 := blk_frozen HGz14 6; have hfz14_7 := blk_frozen HGz14 7; have hfz14_8 := blk_frozen HGz14 8; clear HGz14 hgz14) | ((with_reducible refine gate_callee (f := 39) rfl ?_); refine goA (some 19) rfl rfl Try.func39 rfl #[.int .i64 a1, .int .i64 0, .int .i64 (wrap64 ((l0_4.length : Int) - t265))] rfl ?_; (with_reducible refine (spec_l1In.calls a1 0 (wrap64 ((l0_4.length : Int) - t265)) true _ A5.out).mono ?_); rintro e w' ⟨rfl, ⟨nd, rfl⟩⟩; refine ⟨_, rfl, ?_⟩; (try ((try simp only [World.drewN_drewN]); rw [drewN_self w13]; generalize hq_ : World.drewN w13 _ = w13; replace BK259 := Aside0.mk (blk_at hq_ BK259.out); replace HI258 := Aside0.mk (IsS29.at_ hq_ HI258.out); replace HB := Aside0.mk (below_at hq_ HB.out); clear hq_)); obtain ⟨ASz15_4, cSz15_4, HGz15, hgz15, HSz15_4, HLz15_4⟩ := HI258.out; have hcz15_0 := cellS29_0 HGz15; have hcz15_1 := cellS29_1 HGz15; have hcz15_2 := cellS29_2 HGz15; have hcz15_3 := cellS29_3 HGz15; have hcz15_4 := cellS29_4 HGz15; have hcz15_5 := cellS29_5 HGz15; have hcz15_6 := cellS29_6 HGz15; have hcz15_7 := cellS29_7 HGz15; have hcz15_8 := cellS29_8 HGz15; have hfz15_0 := blk_frozen HGz15 0; have hfz15_1 := blk_frozen HGz15 1; have hfz15_2 := blk_frozen HGz15 2; have hfz15_3 := blk_frozen HGz15 3; have hfz15_5 := blk_frozen HGz15 5; have hfz15_6 := blk_frozen HGz15 6; have hfz15_7 := blk_frozen HGz15 7; have hfz15_8 := blk_frozen HGz15 8; clear HGz15 hgz15) | ((with_reducible refine gate_callee (f := 51) rfl ?_); refine goA (some 23) rfl rfl Try.func51 rfl #[.agg #[.int .i64 t261, .bool t262, .int .i64 t263, .int .i64 t264, .slice ASz15_4 l0_4.length cSz15_4, .int .i64 t265, .int .i64 t266, .int .i64 t267, .int .i64 t268]] rfl ?_; (with_reducible refine (spec_l12Copy.calls k t261 t262 t263 t264 _ _ l0_4 t265 t266 t267 t268 t285 t286 t287 t288 t289 t292 t293 t294 t295 _ ?side1 ?side2 A7.out).mono ?_); (case side1 => exact Kd.C_below HSz15_4 (by repeat (first | (with_reducible first | exact HB.out | apply below_alloc | apply pw_below_drewN | apply below_drew1 | refine below_set ?_ (IsS29.ge HI258.out) | refine below_set ?_ GE259.out) | exact HB.out))); (case side2 => exact HLz15_4); rintro e w16 ⟨v290, rfl, ho0, hb⟩; refine ⟨_, rfl, ?_⟩; have HO291 := Aside0.mk (Kd.S_lower ho0 (below_size (by repeat (first | (with_reducible first | exact HB.out | apply below_alloc | apply pw_below_drewN | apply below_drew1 | refine below_set ?_ (IsS29.ge HI258.out) | refine below_set ?_ GE259.out) | exact HB.out)))); replace BK259 := bK BK259 hb; replace HB := Aside0.mk (below_step (by repeat (first | (with_reducible first | exact HB.out | apply below_alloc | apply pw_below_drewN | apply below_drew1 | refine below_set ?_ (IsS29.ge HI258.out) | refine below_set ?_ GE259.out) | exact HB.out)) hb); replace HI258 := Aside0.mk (IsS29.below (by repeat (first | (with_reducible first | exact HI258.out | apply IsS29.alloc | apply IsS29.drewN | apply IsS29.drew | apply IsS29.set_0 | apply IsS29.set_1 | apply IsS29.set_2 | apply IsS29.set_3 | apply IsS29.set_5 | apply IsS29.set_6 | apply IsS29.set_7 | apply IsS29.set_8 | refine IsS29.far ?_ NB258_259.out _) | exact HI258.out)) hb); (try clear hb); (try clear hb2); (try clear hk); (try clear hi); (try clear ho0)) | ((with_reducible refine gate_dst (N := 6) rfl ?_); refine boxE #[.int .i64 0, .bool false, .int .i64 0, .int .i64 0, .slice none 0 0, .int .i64 0, .int .i64 0, .int .i64 0, .int .i64 0] 29 (N := 6) rfl rfl ?_; intro gb296 hg w17 hbox hb; replace HO291 := Aside0.mk (Kd.S_below (mS HO291) hb); have BK296 := Aside0.mk hbox; have GW296 := Aside0.mk ((by rw [hg]; exact (below_size (by repeat (first | (with_reducible first | exact HB.out | apply below_alloc | apply pw_below_drewN | apply below_drew1 | refine below_set ?_ (IsS29.ge HI258.out) | refine below_set ?_ GE259.out) | exact HB.out))) : w.heap.size ≤ gb296)); have GE296 := Aside0.mk ((by rw [hg]; exact (below_size (by repeat (first | (with_reducible first | exact HB.out | apply below_alloc | apply pw_below_drewN | apply below_drew1 | refine below_set ?_ (IsS29.ge HI258.out) | refine below_set ?_ GE259.out) | exact HB.out))) : w.heap.size ≤ gb296)); replace HB := Aside0.mk (below_step (by repeat (first | (with_reducible first | exact HB.out | apply below_alloc | apply pw_below_drewN | apply below_drew1 | refine below_set ?_ (IsS29.ge HI258.out) | refine below_set ?_ GE259.out) | exact HB.out)) hb); have NB259_296 := nL BK259 hg; have NB296_259 := nG BK259 hg; replace BK259 := bK BK259 hb; have NB258_296 := Aside0.mk ((by rw [hg]; exact Nat.ne_of_lt (IsS29.lt (show IsS29 w _ gb258 t261 t262 t263 t264 l0_4 t265 t266 t267 t268 from by repeat (first | (with_reducible first | exact HI258.out | apply IsS29.alloc | apply IsS29.drewN | apply IsS29.drew | apply IsS29.set_0 | apply IsS29.set_1 | apply IsS29.set_2 | apply IsS29.set_3 | apply IsS29.set_5 | apply IsS29.set_6 | apply IsS29.set_7 | apply IsS29.set_8 | refine IsS29.far ?_ NB258_259.out _) | exact HI258.out))) : gb258 ≠ gb296)); have NB296_258 := Aside0.mk ((by rw [hg]; exact Nat.ne_of_gt (IsS29.lt (show IsS29 w _ gb258 t261 t262 t263 t264 l0_4 t265 t266 t267 t268 from by repeat (first | (with_reducible first | exact HI258.out | apply IsS29.alloc | apply IsS29.drewN | apply IsS29.drew | apply IsS29.set_0 | apply IsS29.set_1 | apply IsS29.set_2 | apply IsS29.set_3 | apply IsS29.set_5 | apply IsS29.set_6 | apply IsS29.set_7 | apply IsS29.set_8 | refine IsS29.far ?_ NB258_259.out _) | exact HI258.out))) : gb296 ≠ gb258)); replace HI258 := Aside0.mk (IsS29.below (by repeat (first | (with_reducible first | exact HI258.out | apply IsS29.alloc | apply IsS29.drewN | apply IsS29.drew | apply IsS29.set_0 | apply IsS29.set_1 | apply IsS29.set_2 | apply IsS29.set_3 | apply IsS29.set_5 | apply IsS29.set_6 | apply IsS29.set_7 | apply IsS29.set_8 | refine IsS29.far ?_ NB258_259.out _) | exact HI258.out)) hb); clear hb hbox hg; have hnb18 := NB296_259.out; have hnc18 := NB259_296.out; have hnb19 := NB296_258.out; have hnc19 := NB258_296.out; have hz20 := cl9 BK296; obtain ⟨Ao21, co21, eo21⟩ := Kd.S_slice HO291.out; subst eo21) | ((with_reducible refine gate_store (t := 29) (p := 6) rfl ?_); refine store_event (t := 29) (p := 6) (v := ?vo_w22) (w1 := (((((((((w17.setCell ⟨gb296, 0, none⟩ (.int .i64 t285)).setCell ⟨gb296, 1, none⟩ (.bool t286)).setCell ⟨gb296, 2, none⟩ (.int .i64 t287)).setCell ⟨gb296, 3, none⟩ (.int .i64 t288)).setCell ⟨gb296, 4, none⟩ (.slice Ao21 t289.length co21)).setCell ⟨gb296, 5, none⟩ (.int .i64 t292)).setCell ⟨gb296, 6, none⟩ (.int .i64 t293)).setCell ⟨gb296, 7, none⟩ (.int .i64 t294)).setCell ⟨gb296, 8, none⟩ (.int .i64 t295))) ?hg ?ho ?hn ?hr ?_; (case ho => rfl); (case hg => rfl); (case hn => rfl); (case hr => first | (go_simp; done) | (go_simp; rfl)); intro w22 hw; have n0_ : Aside0 (Kd.S k51 51 w22 w.heap.size (fun _ => True) (.slice Ao21 t289.length co21) t289) := ⟨(by rw [hw]; exact (by (with_reducible repeat (first | apply Kd.S_alloc | apply Kd.S_drewN | apply Kd.S_drew)); exact Kd.S_mono (Kd.S_far (p := ⟨gb296, 8, none⟩) (Kd.S_far (p := ⟨gb296, 7, none⟩) (Kd.S_far (p := ⟨gb296, 6, none⟩) (Kd.S_far (p := ⟨gb296, 5, none⟩) (Kd.S_far (p := ⟨gb296, 4, none⟩) (Kd.S_far (p := ⟨gb296, 3, none⟩) (Kd.S_far (p := ⟨gb296, 2, none⟩) (Kd.S_far (p := ⟨gb296, 1, none⟩) (Kd.S_far (p := ⟨gb296, 0, none⟩) (Kd.S_types HO291.out BK296.out (by decide)) (fun _ hk => hk.2) (.int .i64 t285)) (fun _ hk => hk.2) (.bool t286)) (fun _ hk => hk.2) (.int .i64 t287)) (fun _ hk => hk.2) (.int .i64 t288)) (fun _ hk => hk.2) (.slice Ao21 t289.length co21)) (fun _ hk => hk.2) (.int .i64 t292)) (fun _ hk => hk.2) (.int .i64 t293)) (fun _ hk => hk.2) (.int .i64 t294)) (fun _ hk => hk.2) (.int .i64 t295)) (fun _ hk => trivial)))⟩; have n1_ : Aside0 (w22.heap[gb259]? = some (.cells #[.int .i64 0, .int .i64 0, .bool false, .int .i64 0, .int .i64 0, .slice none 0 0, .int .i64 0, .int .i64 0, .int .i64 0, .int .i64 0, .slice none 0 0] 35 (0, 0))) := ⟨(by rw [hw]; exact (mP BK259))⟩; have n2_ : Aside0 (w22.heap[gb296]? = some (.cells #[.int .i64 t285, .bool t286, .int .i64 t287, .int .i64 t288, .slice Ao21 t289.length co21, .int .i64 t292, .int .i64 t293, .int .i64 t294, .int .i64 t295] 29 (0, 0))) := ⟨(by rw [hw]; exact (mP BK296))⟩; have n3_ : Aside0 (IsS29 w w22 gb258 t261 t262 t263 t264 l0_4 t265 t266 t267 t268) := ⟨(by rw [hw]; exact (by repeat (first | (with_reducible first | exact HI258.out | apply IsS29.alloc | apply IsS29.drewN | apply IsS29.drew | apply IsS29.set_0 | apply IsS29.set_1 | apply IsS29.set_2 | apply IsS29.set_3 | apply IsS29.set_5 | apply IsS29.set_6 | apply IsS29.set_7 | apply IsS29.set_8 | refine IsS29.far ?_ NB258_259.out _ | refine IsS29.far ?_ NB258_296.out _) | exact HI258.out)))⟩; have n4_ : Aside0 (Below w.heap.size w w22) := ⟨(by rw [hw]; exact (by repeat (first | (with_reducible first | exact HB.out | apply below_alloc | apply pw_below_drewN | apply below_drew1 | refine below_set ?_ (IsS29.ge HI258.out) | refine below_set ?_ GE259.out | refine below_set ?_ GE296.out) | exact HB.out)))⟩; clear hw; clear HO291; clear BK259; clear BK296; clear HI258; clear HB; have HO291 := n0_; have BK259 := n1_; have BK296 := n2_; have HI258 := n3_; have HB := n4_; clear n0_ n1_ n2_ n3_ n4_; have hz23 := cl9 BK296; obtain ⟨ASz24_4, cSz24_4, HGz24, hgz24, HSz24_4, HLz24_4⟩ := HI258.out; have hcz24_0 := cellS29_0 HGz24; have hcz24_1 := cellS29_1 HGz24; have hcz24_2 := cellS29_2 HGz24; have hcz24_3 := cellS29_3 HGz24; have hcz24_4 := cellS29_4 HGz24; have hcz24_5 := cellS29_5 HGz24; have hcz24_6 := cellS29_6 HGz24; have hcz24_7 := cellS29_7 HGz24; have hcz24_8 := cellS29_8 HGz24; have hfz24_0 := blk_frozen HGz24 0; have hfz24_1 := blk_frozen HGz24 1; have hfz24_2 := blk_frozen HGz24 2; have hfz24_3 := blk_frozen HGz24 3; have hfz24_5 := blk_frozen HGz24 5; have hfz24_6 := blk_frozen HGz24 6; have hfz24_7 := blk_frozen HGz24 7; have hfz24_8 := blk_frozen HGz24 8; clear HGz24 hgz24; have q25 : ((ji8) : Int) ≤ ((t289.length : Int) : Int) := of_decide_eq_true (by first | (with_reducible assumption) | assumption); obtain ⟨i025, hi025, _, hsz25, _⟩ := info_parts info51; have hcut25 := cut_to (P := Try.prog) 27 51 .i64 Try.underlying27 hi025 Ao21 t289.length co21 (ji8) (of_decide_eq_true (by first | (with_reducible assumption) | assumption)) q25 (Kd.S_reads' HO291.out).2.1; have hr25 := Kd.S_take (m := ((ji8) : Int).toNat) HO291.out (by omega); have hy25 : y297.length = ((ji8) : Int).toNat := (by rw [Ny297.out, List.length_take]; omega); rw [← Ny297.out] at hr25; rw [← hy25] at hr25 hcut25; clear hy25 hi025 hsz25 HO291; have HO299 := Aside0.mk hr25; clear hr25; replace q25 := eq_true q25; have hnb26 := NB259_258.out; have hnc26 := NB258_259.out; have hz27 := cl11 BK259))
     refine bodyPost_ret (results_cell_row rfl _ _ gb259 35 #[.int .i64 0, .int .i64 t261, .bool false, .int .i64 0, .int .i64 t264, .slice Ao21 y297.length co21, .int .i64 ji8, .int .i64 0, .int .i64 0, .int .i64 0, .slice none 0 0] (0, 0) _ rfl (mP BK259) Try.underlying35 rfl (by kernel_rfl)) rfl ?_
     exact ⟨_, _, by first | rfl | (simp [errW_none, errW_some] <;> rfl) | (simp only [← hji8]; first | rfl | (simp [errW_none, errW_some] <;> rfl)) | (simp [*, errW_none, errW_some] <;> rfl), by (with_reducible repeat (first | apply Kd.S_alloc | apply Kd.S_drewN | apply Kd.S_drew)); exact Kd.S_mono (Kd.S_far (p := ⟨gb259, 10, none⟩) (Kd.S_far (p := ⟨gb259, 9, none⟩) (Kd.S_far (p := ⟨gb259, 8, none⟩) (Kd.S_far (p := ⟨gb259, 7, none⟩) (Kd.S_far (p := ⟨gb259, 6, none⟩) (Kd.S_far (p := ⟨gb259, 5, none⟩) (Kd.S_far (p := ⟨gb259, 4, none⟩) (Kd.S_far (p := ⟨gb259, 3, none⟩) (Kd.S_far (p := ⟨gb259, 2, none⟩) (Kd.S_far (p := ⟨gb259, 1, none⟩) (Kd.S_far (p := ⟨gb259, 0, none⟩) (Kd.S_far (p := ⟨gb296, 4, none⟩) (Kd.S_types (Kd.S_types HO299.out BK296.out (by decide)) BK259.out (by decide)) (fun _ hk => hk.1.2) (.slice Ao21 y297.length co21)) (fun _ hk => hk.2) (.int .i64 0)) (fun _ hk => hk.2) (.int .i64 t261)) (fun _ hk => hk.2) (.bool false)) (fun _ hk => hk.2) (.int .i64 0)) (fun _ hk => hk.2) (.int .i64 t264)) (fun _ hk => hk.2) (.slice Ao21 y297.length co21)) (fun _ hk => hk.2) (.int .i64 ji8)) (fun _ hk => hk.2) (.int .i64 0)) (fun _ hk => hk.2) (.int .i64 0)) (fun _ hk => hk.2) (.int .i64 0)) (fun _ hk => hk.2) (.slice none 0 0)) (fun _ hk => trivial), by first | exact Kd.S_nil _ _ _ _ _ | exact Kd.N_nil _ _ _ _ _ | exact Kd.V_nil _ _ _ _ _ | exact Kd.Q_nil _ _ _ _ _ | exact Kd.R_nil _ _ _ _ _, by repeat (first | (with_reducible first | exact HB.out | apply below_alloc | apply pw_below_drewN | apply below_drew1 | refine below_set ?_ (IsS29.ge HI258.out) | refine below_set ?_ GE259.out | refine below_set ?_ GE296.out) | exact HB.out)⟩
    ·
     rw [if_neg c10] at H
     exact absurd H (by simp)
   ·
    rw [if_neg c9] at H
    exact absurd H (by simp)
  ·
   replace c6 := Bool.eq_false_iff.mpr c6
   subst c6
   have H1 : ((spec_l12Bad.f 3).bind fun bt300 => (some (bt300.1, bt300.2.1, bt300.2.2.1, bt300.2.2.2.1, bt300.2.2.2.2.1, bt300.2.2.2.2.2.1, bt300.2.2.2.2.2.2.1, bt300.2.2.2.2.2.2.2.1, bt300.2.2.2.2.2.2.2.2.1, bt300.2.2.2.2.2.2.2.2.2.1, bt300.2.2.2.2.2.2.2.2.2.2))) = some (r1, r2, r3, r4, r5, r6, r7, r8, r9, r10, r11) := by rw [if_neg (show ¬ (false = true) by decide)] at H; first | done | exact H
   clear H
   have H := H1
   clear H1
   replace H := Option.bind_eq_some_iff.mp H
   obtain ⟨⟨t300, t301, t302, t303, t304, t305, t308, t309, t310, t311, t312⟩, A280, H⟩ := H
   replace H : (some (t300, t301, t302, t303, t304, t305, t308, t309, t310, t311, t312)) = some (r1, r2, r3, r4, r5, r6, r7, r8, r9, r10, r11) := H
   have A28 := Aside0.mk A280
   clear A280
   simp only [Option.some.injEq, Prod.mk.injEq] at H
   obtain ⟨rfl, rfl, rfl, rfl, rfl, rfl, rfl, rfl, rfl, rfl, rfl⟩ := H
   go_enter Try.func27, Try.ntmps27
   go_wp2_with (first | ((with_reducible refine gate_dst (N := 2) rfl ?_); refine boxE #[.int .i64 a0_0, .bool a0_1, .int .i64 a0_2, .int .i64 a0_3, .slice A0_4 l0_4.length c0_4, .int .i64 a0_5, .int .i64 a0_6, .int .i64 a0_7, .int .i64 a0_8] 29 (N := 2) rfl rfl ?_; intro gb258 hg w29 hbox hb; have BK258 := Aside0.mk hbox; have GW258 := gZ HB hg; have GE258 := gZ HB hg; replace HB := bS HB hb; clear hb hbox hg) | ((with_reducible refine gate_dst (N := 4) rfl ?_); refine boxE #[.int .i64 0, .int .i64 0, .bool false, .int .i64 0, .int .i64 0, .slice none 0 0, .int .i64 0, .int .i64 0, .int .i64 0, .int .i64 0, .slice none 0 0] 35 (N := 4) rfl rfl ?_; intro gb259 hg w30 hbox hb; have BK259 := Aside0.mk hbox; have GW259 := gZ HB hg; have GE259 := gZ HB hg; replace HB := bS HB hb; have NB258_259 := nL BK258 hg; have NB259_258 := nG BK258 hg; replace BK258 := bK BK258 hb; clear hb hbox hg; have HI258 := Aside0.mk (show IsS29 w w30 gb258 a0_0 a0_1 a0_2 a0_3 l0_4 a0_5 a0_6 a0_7 a0_8 from ⟨_, _, (mB BK258), GE258.out, HR0_4.out, HC0_4.out⟩); clear BK258) | ((with_reducible refine gate_callee (f := 54) rfl ?_); refine goA (some 7) rfl rfl Try.func54 rfl #[.pointer (some ⟨gb258, 0, none⟩)] rfl ?_; (with_reducible refine (spec_l12Asked.calls k gb258 a0_0 a0_1 a0_2 a0_3 l0_4 a0_5 a0_6 a0_7 a0_8 t260 t261 t262 t263 t264 t265 t266 t267 t268 w _ ?side1 ?side2 A3.out).mono ?_); (case side1 => repeat (first | (with_reducible first | exact HI258.out | apply IsS29.alloc | apply IsS29.drewN | apply IsS29.drew | apply IsS29.set_0 | apply IsS29.set_1 | apply IsS29.set_2 | apply IsS29.set_3 | apply IsS29.set_5 | apply IsS29.set_6 | apply IsS29.set_7 | apply IsS29.set_8 | refine IsS29.far ?_ NB258_259.out _) | exact HI258.out)); (case side2 => repeat (first | (with_reducible first | exact HB.out | apply below_alloc | apply pw_below_drewN | apply below_drew1 | refine below_set ?_ (IsS29.ge HI258.out) | refine below_set ?_ GE259.out) | exact HB.out)); rintro e w31 ⟨rfl, hi, hb, hk⟩; refine ⟨_, rfl, ?_⟩; replace BK259 := Aside0.mk (KeepBut.blk hk (g' := gb259) (o := .cells #[.int .i64 0, .int .i64 0, .bool false, .int .i64 0, .int .i64 0, .slice none 0 0, .int .i64 0, .int .i64 0, .int .i64 0, .int .i64 0, .slice none 0 0] 35 (0, 0)) (mB BK259) NB259_258.out (by simp)); replace HB := Aside0.mk hb; replace HI258 := Aside0.mk hi; (try clear hb); (try clear hb2); (try clear hk); (try clear hi); obtain ⟨ASz32_4, cSz32_4, HGz32, hgz32, HSz32_4, HLz32_4⟩ := HI258.out; have hcz32_0 := cellS29_0 HGz32; have hcz32_1 := cellS29_1 HGz32; have hcz32_2 := cellS29_2 HGz32; have hcz32_3 := cellS29_3 HGz32; have hcz32_4 := cellS29_4 HGz32; have hcz32_5 := cellS29_5 HGz32; have hcz32_6 := cellS29_6 HGz32; have hcz32_7 := cellS29_7 HGz32; have hcz32_8 := cellS29_8 HGz32; have hfz32_0 := blk_frozen HGz32 0; have hfz32_1 := blk_frozen HGz32 1; have hfz32_2 := blk_frozen HGz32 2; have hfz32_3 := blk_frozen HGz32 3; have hfz32_5 := blk_frozen HGz32 5; have hfz32_6 := blk_frozen HGz32 6; have hfz32_7 := blk_frozen HGz32 7; have hfz32_8 := blk_frozen HGz32 8; clear HGz32 hgz32) | ((with_reducible refine gate_callee (f := 39) rfl ?_); refine goA (some 19) rfl rfl Try.func39 rfl #[.int .i64 a1, .int .i64 0, .int .i64 (wrap64 ((l0_4.length : Int) - t265))] rfl ?_; (with_reducible refine (spec_l1In.calls a1 0 (wrap64 ((l0_4.length : Int) - t265)) false _ A5.out).mono ?_); rintro e w' ⟨rfl, ⟨nd, rfl⟩⟩; refine ⟨_, rfl, ?_⟩; (try ((try simp only [World.drewN_drewN]); rw [drewN_self w31]; generalize hq_ : World.drewN w31 _ = w31; replace BK259 := Aside0.mk (blk_at hq_ BK259.out); replace HI258 := Aside0.mk (IsS29.at_ hq_ HI258.out); replace HB := Aside0.mk (below_at hq_ HB.out); clear hq_))) | ((with_reducible refine gate_callee (f := 40) rfl ?_); refine goA (some 21) rfl rfl Try.func40 rfl #[.int .i64 3] rfl ?_; (with_reducible refine (spec_l12Bad.calls 3 t300 t301 t302 t303 t304 t305 t308 t309 t310 t311 t312 _ A28.out).mono ?_); rintro e w33 ⟨v306, v313, rfl, ho0, ho1, hb⟩; refine ⟨_, rfl, ?_⟩; have HO307 := Aside0.mk (Kd.S_lower ho0 (below_size (by repeat (first | (with_reducible first | exact HB.out | apply below_alloc | apply pw_below_drewN | apply below_drew1 | refine below_set ?_ (IsS29.ge HI258.out) | refine below_set ?_ GE259.out) | exact HB.out)))); have HO314 := Aside0.mk (Kd.S_lower ho1 (below_size (by repeat (first | (with_reducible first | exact HB.out | apply below_alloc | apply pw_below_drewN | apply below_drew1 | refine below_set ?_ (IsS29.ge HI258.out) | refine below_set ?_ GE259.out) | exact HB.out)))); replace BK259 := bK BK259 hb; replace HB := Aside0.mk (below_step (by repeat (first | (with_reducible first | exact HB.out | apply below_alloc | apply pw_below_drewN | apply below_drew1 | refine below_set ?_ (IsS29.ge HI258.out) | refine below_set ?_ GE259.out) | exact HB.out)) hb); replace HI258 := Aside0.mk (IsS29.below (by repeat (first | (with_reducible first | exact HI258.out | apply IsS29.alloc | apply IsS29.drewN | apply IsS29.drew | apply IsS29.set_0 | apply IsS29.set_1 | apply IsS29.set_2 | apply IsS29.set_3 | apply IsS29.set_5 | apply IsS29.set_6 | apply IsS29.set_7 | apply IsS29.set_8 | refine IsS29.far ?_ NB258_259.out _) | exact HI258.out)) hb); (try clear hb); (try clear hb2); (try clear hk); (try clear hi); (try clear ho0); (try clear ho1); have hnb34 := NB259_258.out; have hnc34 := NB258_259.out; have hz35 := cl11 BK259; obtain ⟨Ao36, co36, eo36⟩ := Kd.S_slice HO307.out; subst eo36; obtain ⟨Ao37, co37, eo37⟩ := Kd.S_slice HO314.out; subst eo37))
   refine bodyPost_ret (results_cell_row rfl _ _ gb259 35 #[.int .i64 t300, .int .i64 t301, .bool t302, .int .i64 t303, .int .i64 t304, .slice Ao36 t305.length co36, .int .i64 t308, .int .i64 t309, .int .i64 t310, .int .i64 t311, .slice Ao37 t312.length co37] (0, 0) _ rfl (mP BK259) Try.underlying35 rfl (by kernel_rfl)) rfl ?_
   exact ⟨_, _, by first | rfl | (simp [errW_none, errW_some] <;> rfl) | (simp [*, errW_none, errW_some] <;> rfl), by (with_reducible repeat (first | apply Kd.S_alloc | apply Kd.S_drewN | apply Kd.S_drew)); exact Kd.S_mono (Kd.S_far (p := ⟨gb259, 10, none⟩) (Kd.S_far (p := ⟨gb259, 9, none⟩) (Kd.S_far (p := ⟨gb259, 8, none⟩) (Kd.S_far (p := ⟨gb259, 7, none⟩) (Kd.S_far (p := ⟨gb259, 6, none⟩) (Kd.S_far (p := ⟨gb259, 5, none⟩) (Kd.S_far (p := ⟨gb259, 4, none⟩) (Kd.S_far (p := ⟨gb259, 3, none⟩) (Kd.S_far (p := ⟨gb259, 2, none⟩) (Kd.S_far (p := ⟨gb259, 1, none⟩) (Kd.S_far (p := ⟨gb259, 0, none⟩) (Kd.S_types HO307.out BK259.out (by decide)) (fun _ hk => hk.2) (.int .i64 t300)) (fun _ hk => hk.2) (.int .i64 t301)) (fun _ hk => hk.2) (.bool t302)) (fun _ hk => hk.2) (.int .i64 t303)) (fun _ hk => hk.2) (.int .i64 t304)) (fun _ hk => hk.2) (.slice Ao36 t305.length co36)) (fun _ hk => hk.2) (.int .i64 t308)) (fun _ hk => hk.2) (.int .i64 t309)) (fun _ hk => hk.2) (.int .i64 t310)) (fun _ hk => hk.2) (.int .i64 t311)) (fun _ hk => hk.2) (.slice Ao37 t312.length co37)) (fun _ hk => trivial), by (with_reducible repeat (first | apply Kd.S_alloc | apply Kd.S_drewN | apply Kd.S_drew)); exact Kd.S_mono (Kd.S_far (p := ⟨gb259, 10, none⟩) (Kd.S_far (p := ⟨gb259, 9, none⟩) (Kd.S_far (p := ⟨gb259, 8, none⟩) (Kd.S_far (p := ⟨gb259, 7, none⟩) (Kd.S_far (p := ⟨gb259, 6, none⟩) (Kd.S_far (p := ⟨gb259, 5, none⟩) (Kd.S_far (p := ⟨gb259, 4, none⟩) (Kd.S_far (p := ⟨gb259, 3, none⟩) (Kd.S_far (p := ⟨gb259, 2, none⟩) (Kd.S_far (p := ⟨gb259, 1, none⟩) (Kd.S_far (p := ⟨gb259, 0, none⟩) (Kd.S_types HO314.out BK259.out (by decide)) (fun _ hk => hk.2) (.int .i64 t300)) (fun _ hk => hk.2) (.int .i64 t301)) (fun _ hk => hk.2) (.bool t302)) (fun _ hk => hk.2) (.int .i64 t303)) (fun _ hk => hk.2) (.int .i64 t304)) (fun _ hk => hk.2) (.slice Ao36 t305.length co36)) (fun _ hk => hk.2) (.int .i64 t308)) (fun _ hk => hk.2) (.int .i64 t309)) (fun _ hk => hk.2) (.int .i64 t310)) (fun _ hk => hk.2) (.int .i64 t311)) (fun _ hk => hk.2) (.slice Ao37 t312.length co37)) (fun _ hk => trivial), by repeat (first | (with_reducible first | exact HB.out | apply below_alloc | apply pw_below_drewN | apply below_drew1 | refine below_set ?_ (IsS29.ge HI258.out) | refine below_set ?_ GE259.out) | exact HB.out)⟩
 ·
  rw [if_neg c4] at H
  have c4b0 : (t260 == 0) = false := beq_eq_false_iff_ne.mpr c4
  have c4b1 : (t260 != 0) = true := bne_iff_ne.mpr c4
  replace H := Option.bind_eq_some_iff.mp H
  obtain ⟨⟨t269, t270, t271, t272, t273, t274, t277, t278, t279, t280, t281⟩, A380, H⟩ := H
  replace H : (some (t269, t270, t271, t272, t273, t274, t277, t278, t279, t280, t281)) = some (r1, r2, r3, r4, r5, r6, r7, r8, r9, r10, r11) := H
  have A38 := Aside0.mk A380
  clear A380
  simp only [Option.some.injEq, Prod.mk.injEq] at H
  obtain ⟨rfl, rfl, rfl, rfl, rfl, rfl, rfl, rfl, rfl, rfl, rfl⟩ := H
  go_enter Try.func27, Try.ntmps27
  go_wp2_with (first | ((with_reducible refine gate_dst (N := 2) rfl ?_); refine boxE #[.int .i64 a0_0, .bool a0_1, .int .i64 a0_2, .int .i64 a0_3, .slice A0_4 l0_4.length c0_4, .int .i64 a0_5, .int .i64 a0_6, .int .i64 a0_7, .int .i64 a0_8] 29 (N := 2) rfl rfl ?_; intro gb258 hg w39 hbox hb; have BK258 := Aside0.mk hbox; have GW258 := gZ HB hg; have GE258 := gZ HB hg; replace HB := bS HB hb; clear hb hbox hg) | ((with_reducible refine gate_dst (N := 4) rfl ?_); refine boxE #[.int .i64 0, .int .i64 0, .bool false, .int .i64 0, .int .i64 0, .slice none 0 0, .int .i64 0, .int .i64 0, .int .i64 0, .int .i64 0, .slice none 0 0] 35 (N := 4) rfl rfl ?_; intro gb259 hg w40 hbox hb; have BK259 := Aside0.mk hbox; have GW259 := gZ HB hg; have GE259 := gZ HB hg; replace HB := bS HB hb; have NB258_259 := nL BK258 hg; have NB259_258 := nG BK258 hg; replace BK258 := bK BK258 hb; clear hb hbox hg; have HI258 := Aside0.mk (show IsS29 w w40 gb258 a0_0 a0_1 a0_2 a0_3 l0_4 a0_5 a0_6 a0_7 a0_8 from ⟨_, _, (mB BK258), GE258.out, HR0_4.out, HC0_4.out⟩); clear BK258) | ((with_reducible refine gate_callee (f := 54) rfl ?_); refine goA (some 7) rfl rfl Try.func54 rfl #[.pointer (some ⟨gb258, 0, none⟩)] rfl ?_; (with_reducible refine (spec_l12Asked.calls k gb258 a0_0 a0_1 a0_2 a0_3 l0_4 a0_5 a0_6 a0_7 a0_8 t260 t261 t262 t263 t264 t265 t266 t267 t268 w _ ?side1 ?side2 A3.out).mono ?_); (case side1 => repeat (first | (with_reducible first | exact HI258.out | apply IsS29.alloc | apply IsS29.drewN | apply IsS29.drew | apply IsS29.set_0 | apply IsS29.set_1 | apply IsS29.set_2 | apply IsS29.set_3 | apply IsS29.set_5 | apply IsS29.set_6 | apply IsS29.set_7 | apply IsS29.set_8 | refine IsS29.far ?_ NB258_259.out _) | exact HI258.out)); (case side2 => repeat (first | (with_reducible first | exact HB.out | apply below_alloc | apply pw_below_drewN | apply below_drew1 | refine below_set ?_ (IsS29.ge HI258.out) | refine below_set ?_ GE259.out) | exact HB.out)); rintro e w41 ⟨rfl, hi, hb, hk⟩; refine ⟨_, rfl, ?_⟩; replace BK259 := Aside0.mk (KeepBut.blk hk (g' := gb259) (o := .cells #[.int .i64 0, .int .i64 0, .bool false, .int .i64 0, .int .i64 0, .slice none 0 0, .int .i64 0, .int .i64 0, .int .i64 0, .int .i64 0, .slice none 0 0] 35 (0, 0)) (mB BK259) NB259_258.out (by simp)); replace HB := Aside0.mk hb; replace HI258 := Aside0.mk hi; (try clear hb); (try clear hb2); (try clear hk); (try clear hi)) | ((with_reducible refine gate_callee (f := 40) rfl ?_); refine goA (some 11) rfl rfl Try.func40 rfl #[.int .i64 t260] rfl ?_; (with_reducible refine (spec_l12Bad.calls t260 t269 t270 t271 t272 t273 t274 t277 t278 t279 t280 t281 _ A38.out).mono ?_); rintro e w42 ⟨v275, v282, rfl, ho0, ho1, hb⟩; refine ⟨_, rfl, ?_⟩; have HO276 := Aside0.mk (Kd.S_lower ho0 (below_size (by repeat (first | (with_reducible first | exact HB.out | apply below_alloc | apply pw_below_drewN | apply below_drew1 | refine below_set ?_ (IsS29.ge HI258.out) | refine below_set ?_ GE259.out) | exact HB.out)))); have HO283 := Aside0.mk (Kd.S_lower ho1 (below_size (by repeat (first | (with_reducible first | exact HB.out | apply below_alloc | apply pw_below_drewN | apply below_drew1 | refine below_set ?_ (IsS29.ge HI258.out) | refine below_set ?_ GE259.out) | exact HB.out)))); replace BK259 := bK BK259 hb; replace HB := Aside0.mk (below_step (by repeat (first | (with_reducible first | exact HB.out | apply below_alloc | apply pw_below_drewN | apply below_drew1 | refine below_set ?_ (IsS29.ge HI258.out) | refine below_set ?_ GE259.out) | exact HB.out)) hb); replace HI258 := Aside0.mk (IsS29.below (by repeat (first | (with_reducible first | exact HI258.out | apply IsS29.alloc | apply IsS29.drewN | apply IsS29.drew | apply IsS29.set_0 | apply IsS29.set_1 | apply IsS29.set_2 | apply IsS29.set_3 | apply IsS29.set_5 | apply IsS29.set_6 | apply IsS29.set_7 | apply IsS29.set_8 | refine IsS29.far ?_ NB258_259.out _) | exact HI258.out)) hb); (try clear hb); (try clear hb2); (try clear hk); (try clear hi); (try clear ho0); (try clear ho1); have hnb43 := NB259_258.out; have hnc43 := NB258_259.out; have hz44 := cl11 BK259; obtain ⟨Ao45, co45, eo45⟩ := Kd.S_slice HO276.out; subst eo45; obtain ⟨Ao46, co46, eo46⟩ := Kd.S_slice HO283.out; subst eo46))
  refine bodyPost_ret (results_cell_row rfl _ _ gb259 35 #[.int .i64 t269, .int .i64 t270, .bool t271, .int .i64 t272, .int .i64 t273, .slice Ao45 t274.length co45, .int .i64 t277, .int .i64 t278, .int .i64 t279, .int .i64 t280, .slice Ao46 t281.length co46] (0, 0) _ rfl (mP BK259) Try.underlying35 rfl (by kernel_rfl)) rfl ?_
  exact ⟨_, _, by first | rfl | (simp [errW_none, errW_some] <;> rfl) | (simp [*, errW_none, errW_some] <;> rfl), by (with_reducible repeat (first | apply Kd.S_alloc | apply Kd.S_drewN | apply Kd.S_drew)); exact Kd.S_mono (Kd.S_far (p := ⟨gb259, 10, none⟩) (Kd.S_far (p := ⟨gb259, 9, none⟩) (Kd.S_far (p := ⟨gb259, 8, none⟩) (Kd.S_far (p := ⟨gb259, 7, none⟩) (Kd.S_far (p := ⟨gb259, 6, none⟩) (Kd.S_far (p := ⟨gb259, 5, none⟩) (Kd.S_far (p := ⟨gb259, 4, none⟩) (Kd.S_far (p := ⟨gb259, 3, none⟩) (Kd.S_far (p := ⟨gb259, 2, none⟩) (Kd.S_far (p := ⟨gb259, 1, none⟩) (Kd.S_far (p := ⟨gb259, 0, none⟩) (Kd.S_types HO276.out BK259.out (by decide)) (fun _ hk => hk.2) (.int .i64 t269)) (fun _ hk => hk.2) (.int .i64 t270)) (fun _ hk => hk.2) (.bool t271)) (fun _ hk => hk.2) (.int .i64 t272)) (fun _ hk => hk.2) (.int .i64 t273)) (fun _ hk => hk.2) (.slice Ao45 t274.length co45)) (fun _ hk => hk.2) (.int .i64 t277)) (fun _ hk => hk.2) (.int .i64 t278)) (fun _ hk => hk.2) (.int .i64 t279)) (fun _ hk => hk.2) (.int .i64 t280)) (fun _ hk => hk.2) (.slice Ao46 t281.length co46)) (fun _ hk => trivial), by (with_reducible repeat (first | apply Kd.S_alloc | apply Kd.S_drewN | apply Kd.S_drew)); exact Kd.S_mono (Kd.S_far (p := ⟨gb259, 10, none⟩) (Kd.S_far (p := ⟨gb259, 9, none⟩) (Kd.S_far (p := ⟨gb259, 8, none⟩) (Kd.S_far (p := ⟨gb259, 7, none⟩) (Kd.S_far (p := ⟨gb259, 6, none⟩) (Kd.S_far (p := ⟨gb259, 5, none⟩) (Kd.S_far (p := ⟨gb259, 4, none⟩) (Kd.S_far (p := ⟨gb259, 3, none⟩) (Kd.S_far (p := ⟨gb259, 2, none⟩) (Kd.S_far (p := ⟨gb259, 1, none⟩) (Kd.S_far (p := ⟨gb259, 0, none⟩) (Kd.S_types HO283.out BK259.out (by decide)) (fun _ hk => hk.2) (.int .i64 t269)) (fun _ hk => hk.2) (.int .i64 t270)) (fun _ hk => hk.2) (.bool t271)) (fun _ hk => hk.2) (.int .i64 t272)) (fun _ hk => hk.2) (.int .i64 t273)) (fun _ hk => hk.2) (.slice Ao45 t274.length co45)) (fun _ hk => hk.2) (.int .i64 t277)) (fun _ hk => hk.2) (.int .i64 t278)) (fun _ hk => hk.2) (.int .i64 t279)) (fun _ hk => hk.2) (.int .i64 t280)) (fun _ hk => hk.2) (.slice Ao46 t281.length co46)) (fun _ hk => trivial), by repeat (first | (with_reducible first | exact HB.out | apply below_alloc | apply pw_below_drewN | apply below_drew1 | refine below_set ?_ (IsS29.ge HI258.out) | refine below_set ?_ GE259.out) | exact HB.out)⟩

/-! ### impl_in: function 35 -/
def impl_in.f (a0 : Int) (a1 : Int) (a2 : Int) : Option (Bool) := if a0 ≥ a1 then (some (decide (a0 ≤ a2))) else (some false)
set_option maxHeartbeats 8000000 in
set_option maxRecDepth 100000 in
theorem impl_in.calls (a0 : Int) (a1 : Int) (a2 : Int) (r : Bool) (w : World) (h : impl_in.f a0 a1 a2 = some r) :
  Calls Try.prog 35 #[.int .i64 a0, .int .i64 a1, .int .i64 a2] w fun e w' => e = .returned (.bool r) ∧ Drawn0 w w' := by
 have H : (if a0 ≥ a1 then (some (decide (a0 ≤ a2))) else (some false)) = some r := h
 clear h
 by_cases c4 : a0 ≥ a1
 ·
  rw [if_pos c4] at H
  have c4b0 : decide (a1 ≤ a0) = true := decide_eq_true c4
  clear c4
  obtain rfl := Option.some.inj H
  go_enter Try.func35, Try.ntmps35
  go_wp2
  go_ret
  exact ⟨by first | rfl | (simp; done) | (simp [*]; done), drw⟩
 ·
  rw [if_neg c4] at H
  have c4b0 : decide (a1 ≤ a0) = false := decide_eq_false c4
  clear c4
  obtain rfl := Option.some.inj H
  go_enter Try.func35, Try.ntmps35
  go_wp2
  go_ret
  exact ⟨by first | rfl | (simp; done) | (simp [*]; done), drw⟩

/-! ### impl_Entry_37: function 37 -/
def impl_Entry_37.f (l0 : List (S51)) : Option (Int) := some (l0.length : Int)
set_option maxHeartbeats 8000000 in
set_option maxRecDepth 100000 in
theorem impl_Entry_37.calls (A0 : Option Addr) (c0 : Nat) (l0 : List (S51)) (r : Int) (w : World) (hr0 : Kd.C k51 w A0 l0.length l0) (hc0 : l0.length ≤ c0) (h : impl_Entry_37.f l0 = some r) :
  Calls Try.prog 37 #[.slice A0 l0.length c0] w fun e w' => e = .returned (.int .i64 r) ∧ Drawn0 w w' := by
 have HR0 := Aside0.mk hr0
 have HC0 := Aside0.mk hc0
 clear hr0 hc0
 have H : (some (l0.length : Int)) = some r := h
 clear h
 obtain rfl := Option.some.inj H
 go_enter Try.func37, Try.ntmps37
 go_wp2
 go_ret
 exact ⟨by first | rfl | (simp; done) | (simp [*]; done), drw⟩

/-! ### impl_isNode: function 34 -/
def impl_isNode.f (a0 : Int) : Option (Bool) := (impl_in.f a0 0 1).bind fun t315 => (some t315)
set_option maxHeartbeats 8000000 in
set_option maxRecDepth 100000 in
theorem impl_isNode.calls (a0 : Int) (r : Bool) (w : World) (h : impl_isNode.f a0 = some r) :
  Calls Try.prog 34 #[.int .i64 a0] w fun e w' => e = .returned (.bool r) ∧ Drawn0 w w' := by
 have H : ((impl_in.f a0 0 1).bind fun t315 => (some t315)) = some r := h
 clear h
 replace H := Option.bind_eq_some_iff.mp H
 obtain ⟨t315, A20, H⟩ := H
 replace H : (some t315) = some r := H
 have A2 := Aside0.mk A20
 clear A20
 obtain rfl := Option.some.inj H
 go_enter Try.func34, Try.ntmps34
 go_wp2_with (first | ((with_reducible refine gate_callee (f := 35) rfl ?_); refine goA (some 4) rfl rfl Try.func35 rfl #[.int .i64 a0, .int .i64 0, .int .i64 1] rfl ?_; (with_reducible refine (impl_in.calls a0 0 1 t315 _ A2.out).mono ?_); rintro e w' ⟨rfl, ⟨nd, rfl⟩⟩; refine ⟨_, rfl, ?_⟩))
 go_ret
 exact ⟨by first | rfl | (simp; done) | (simp [*]; done), drw⟩

/-! ### impl_isEpoch: function 48 -/
def impl_isEpoch.f (a0 : Int) : Option (Bool) := (impl_in.f a0 1 1000).bind fun t316 => (some t316)
set_option maxHeartbeats 8000000 in
set_option maxRecDepth 100000 in
theorem impl_isEpoch.calls (a0 : Int) (r : Bool) (w : World) (h : impl_isEpoch.f a0 = some r) :
  Calls Try.prog 48 #[.int .i64 a0] w fun e w' => e = .returned (.bool r) ∧ Drawn0 w w' := by
 have H : ((impl_in.f a0 1 1000).bind fun t316 => (some t316)) = some r := h
 clear h
 replace H := Option.bind_eq_some_iff.mp H
 obtain ⟨t316, A20, H⟩ := H
 replace H : (some t316) = some r := H
 have A2 := Aside0.mk A20
 clear A20
 obtain rfl := Option.some.inj H
 go_enter Try.func48, Try.ntmps48
 go_wp2_with (first | ((with_reducible refine gate_callee (f := 35) rfl ?_); refine goA (some 4) rfl rfl Try.func35 rfl #[.int .i64 a0, .int .i64 1, .int .i64 1000] rfl ?_; (with_reducible refine (impl_in.calls a0 1 1000 t316 _ A2.out).mono ?_); rintro e w' ⟨rfl, ⟨nd, rfl⟩⟩; refine ⟨_, rfl, ?_⟩))
 go_ret
 exact ⟨by first | rfl | (simp; done) | (simp [*]; done), drw⟩

/-! ### impl_isPeer: function 71 -/
def impl_isPeer.f (a0 : Int) : Option (Bool) := (impl_in.f a0 0 2).bind fun t317 => (some t317)
set_option maxHeartbeats 8000000 in
set_option maxRecDepth 100000 in
theorem impl_isPeer.calls (a0 : Int) (r : Bool) (w : World) (h : impl_isPeer.f a0 = some r) :
  Calls Try.prog 71 #[.int .i64 a0] w fun e w' => e = .returned (.bool r) ∧ Drawn0 w w' := by
 have H : ((impl_in.f a0 0 2).bind fun t317 => (some t317)) = some r := h
 clear h
 replace H := Option.bind_eq_some_iff.mp H
 obtain ⟨t317, A20, H⟩ := H
 replace H : (some t317) = some r := H
 have A2 := Aside0.mk A20
 clear A20
 obtain rfl := Option.some.inj H
 go_enter Try.func71, Try.ntmps71
 go_wp2_with (first | ((with_reducible refine gate_callee (f := 35) rfl ?_); refine goA (some 4) rfl rfl Try.func35 rfl #[.int .i64 a0, .int .i64 0, .int .i64 2] rfl ?_; (with_reducible refine (impl_in.calls a0 0 2 t317 _ A2.out).mono ?_); rintro e w' ⟨rfl, ⟨nd, rfl⟩⟩; refine ⟨_, rfl, ?_⟩))
 go_ret
 exact ⟨by first | rfl | (simp; done) | (simp [*]; done), drw⟩

/-! ### impl_EventFault: function 58 -/
def impl_EventFault.j0 : Nat → Bool → Int → Int → List Int → Option (Int)
 | 0, _, _, _, _ => none
 | k + 1, x8, x319000, x319001, x319002 => if x8 = true then (some 3) else (if ((x319000 == 2) != (decide ((x319002.length : Int) > 0))) = true then (some 1) else (if (x319002.length : Int) > 60 then (some 2) else (some 0)))
def impl_EventFault.f (k : Nat) (a0_0 : Int) (a0_1 : Int) (l0_2 : List Int) : Option (Int) := (impl_in.f a0_0 1 4).bind fun t319 => (if t319 = true then ((impl_isPeer.f a0_1).bind fun t320 => (if t320 = true then (if a0_0 = 3 then (impl_EventFault.j0 k (a0_1 != 0) a0_0 a0_1 l0_2) else (impl_EventFault.j0 k false a0_0 a0_1 l0_2)) else (impl_EventFault.j0 k true a0_0 a0_1 l0_2))) else (some 1))
theorem impl_EventFault.mono_l : ∀ k, (∀ y0 y1 y2 y3, LeO (impl_EventFault.j0 k y0 y1 y2 y3) (impl_EventFault.j0 (k + 1) y0 y1 y2 y3))
 | 0 => fun _ _ _ _ r h => by simp [impl_EventFault.j0] at h
 | k + 1 => by
  have ih0 := impl_EventFault.mono_l k
  ·
   intro y0 y1 y2 y3
   unfold impl_EventFault.j0
   repeat' first
   | (with_reducible exact ih0 _ _ _ _)
   | (with_reducible exact LeO.refl _)
   | (with_reducible exact LeO.none _)
   | (with_reducible refine LeO.ite ?_ ?_)
   | (with_reducible refine LeO.bind ?_ (fun _ => ?_))
   | exact ih0 _ _ _ _
   | exact LeO.none _
   | refine LeO.ite ?_ ?_
   | refine LeO.bind ?_ (fun _ => ?_)
theorem impl_EventFault.mono : ∀ a0 a1 a2 k, LeO (impl_EventFault.f k a0 a1 a2) (impl_EventFault.f (k + 1) a0 a1 a2) := by
 intro a0 a1 a2 k
 have ih0 := impl_EventFault.mono_l k
 unfold impl_EventFault.f
 repeat' first
   | (with_reducible exact ih0 _ _ _ _)
   | (with_reducible exact LeO.refl _)
   | (with_reducible exact LeO.none _)
   | (with_reducible refine LeO.ite ?_ ?_)
   | (with_reducible refine LeO.bind ?_ (fun _ => ?_))
   | exact ih0 _ _ _ _
   | exact LeO.none _
   | refine LeO.ite ?_ ?_
   | refine LeO.bind ?_ (fun _ => ?_)
set_option maxHeartbeats 8000000 in
set_option maxRecDepth 100000 in
theorem impl_EventFault.calls (k : Nat) (a0_0 : Int) (a0_1 : Int) (A0_2 : Option Addr) (c0_2 : Nat) (l0_2 : List Int) (r : Int) (w : World) (hr0_2 : Kd.C (Kd.int .u8) w A0_2 l0_2.length l0_2) (hc0_2 : l0_2.length ≤ c0_2) (h : impl_EventFault.f k a0_0 a0_1 l0_2 = some r) :
  Calls Try.prog 58 #[.agg #[.int .i64 a0_0, .int .i64 a0_1, .slice A0_2 l0_2.length c0_2]] w fun e w' => e = .returned (.int .i64 r) ∧ Below w.heap.size w w' := by
 have hu49 := Try.underlying49
 have HR0_2 := Aside0.mk hr0_2
 have HC0_2 := Aside0.mk hc0_2
 clear hr0_2 hc0_2
 have HB := Aside0.mk (Below.refl w.heap.size w)
 have H : ((impl_in.f a0_0 1 4).bind fun t319 => (if t319 = true then ((impl_isPeer.f a0_1).bind fun t320 => (if t320 = true then (if a0_0 = 3 then (impl_EventFault.j0 k (a0_1 != 0) a0_0 a0_1 l0_2) else (impl_EventFault.j0 k false a0_0 a0_1 l0_2)) else (impl_EventFault.j0 k true a0_0 a0_1 l0_2))) else (some 1))) = some r := h
 clear h
 replace H := Option.bind_eq_some_iff.mp H
 obtain ⟨t319, A20, H⟩ := H
 replace H : (if t319 = true then ((impl_isPeer.f a0_1).bind fun t320 => (if t320 = true then (if a0_0 = 3 then (impl_EventFault.j0 k (a0_1 != 0) a0_0 a0_1 l0_2) else (impl_EventFault.j0 k false a0_0 a0_1 l0_2)) else (impl_EventFault.j0 k true a0_0 a0_1 l0_2))) else (some 1)) = some r := H
 have A2 := Aside0.mk A20
 clear A20
 by_cases c3 : t319 = true
 ·
  subst c3
  have H1 : ((impl_isPeer.f a0_1).bind fun t320 => (if t320 = true then (if a0_0 = 3 then (impl_EventFault.j0 k (a0_1 != 0) a0_0 a0_1 l0_2) else (impl_EventFault.j0 k false a0_0 a0_1 l0_2)) else (impl_EventFault.j0 k true a0_0 a0_1 l0_2))) = some r := by rw [if_pos rfl] at H; first | done | exact H
  clear H
  have H := H1
  clear H1
  have HC4 := Aside0.mk H
  clear H
  go_enter Try.func58, Try.ntmps58
  go_upto_region 3 with (first | ((with_reducible refine gate_dst (N := 1) rfl ?_); refine boxE #[.int .i64 a0_0, .int .i64 a0_1, .slice A0_2 l0_2.length c0_2] 49 (N := 1) rfl rfl ?_; intro gb318 hg w5 hbox hb; have BK318 := Aside0.mk hbox; have GW318 := gZ HB hg; have GE318 := gZ HB hg; replace HB := bS HB hb; clear hb hbox hg; have hz6 := cl3 BK318) | ((with_reducible refine gate_callee (f := 35) rfl ?_); refine goA (some 6) rfl rfl Try.func35 rfl #[.int .i64 a0_0, .int .i64 1, .int .i64 4] rfl ?_; (with_reducible refine (impl_in.calls a0_0 1 4 true _ A2.out).mono ?_); rintro e w' ⟨rfl, ⟨nd, rfl⟩⟩; refine ⟨_, rfl, ?_⟩))
  (try simp only [Act.put, List.setIfInBounds_toArray, List.set_cons_zero, List.set_cons_succ])
  go_cut [8] (fun v8 wc => ∃ (kq : Nat) (x8_3 : Bool), v8 = .bool x8_3 ∧ Aside0 (impl_EventFault.j0 kq x8_3 a0_0 a0_1 l0_2 = some r) ∧ Aside0 (kq ≤ k) ∧ Aside0 (wc.heap[gb318]? = some (.cells #[.int .i64 a0_0, .int .i64 a0_1, (.slice A0_2 l0_2.length c0_2)] 49 (0, 0))) ∧ Aside0 (Below w.heap.size w wc))
  case first =>
   have H := HC4.out
   clear HC4
   replace H := Option.bind_eq_some_iff.mp H
   obtain ⟨t320, A70, H⟩ := H
   replace H : (if t320 = true then (if a0_0 = 3 then (impl_EventFault.j0 k (a0_1 != 0) a0_0 a0_1 l0_2) else (impl_EventFault.j0 k false a0_0 a0_1 l0_2)) else (impl_EventFault.j0 k true a0_0 a0_1 l0_2)) = some r := H
   have A7 := Aside0.mk A70
   clear A70
   by_cases c8 : t320 = true
   ·
    subst c8
    have H1 : (if a0_0 = 3 then (impl_EventFault.j0 k (a0_1 != 0) a0_0 a0_1 l0_2) else (impl_EventFault.j0 k false a0_0 a0_1 l0_2)) = some r := by rw [if_pos rfl] at H; first | done | exact H
    clear H
    have H := H1
    clear H1
    by_cases c9 : a0_0 = 3
    ·
     rw [if_pos c9] at H
     have c9b0 : (a0_0 == 3) = true := beq_iff_eq.mpr c9
     have c9b1 : (a0_0 != 3) = false := bne_eq_false_iff_eq.mpr c9
     clear c9
     (first | rw [c9b0] | (simp only [i64_w, i32_w]; rw [c9b0]) | skip)
     have H' := Aside0.mk H
     clear H
     have hz10 := cl3 BK318
     go_wp2_with (first | ((with_reducible refine gate_callee (f := 71) rfl ?_); refine goA (some 11) rfl rfl Try.func71 rfl #[.int .i64 a0_1] rfl ?_; (with_reducible refine (impl_isPeer.calls a0_1 true _ A7.out).mono ?_); rintro e w' ⟨rfl, ⟨nd, rfl⟩⟩; refine ⟨_, rfl, ?_⟩))
     first | go_meet | (refine Met.intro ?_; go_step; (repeat apply Exists.intro); refine ⟨?rel, ?eqq⟩; (case eqq => (try simp only [c9b0]); rfl))
     case rel => exact ⟨_, ((a0_1 != 0)), (by first | rfl | (simp; done) | (simp [*]; done)), H', ⟨by first | omega | exact Nat.le_refl _⟩, ⟨by (with_reducible repeat (first | refine blk_drewN ?_ _ | refine blk_drew ?_ | refine blk_alloc ?_ _)); exact BK318.out⟩, ⟨bel HB⟩⟩
    ·
     rw [if_neg c9] at H
     have c9b0 : (a0_0 == 3) = false := beq_eq_false_iff_ne.mpr c9
     have c9b1 : (a0_0 != 3) = true := bne_iff_ne.mpr c9
     (first | rw [c9b0] | (simp only [i64_w, i32_w]; rw [c9b0]) | skip)
     have H' := Aside0.mk H
     clear H
     have hz11 := cl3 BK318
     go_wp2_with (first | ((with_reducible refine gate_callee (f := 71) rfl ?_); refine goA (some 11) rfl rfl Try.func71 rfl #[.int .i64 a0_1] rfl ?_; (with_reducible refine (impl_isPeer.calls a0_1 true _ A7.out).mono ?_); rintro e w' ⟨rfl, ⟨nd, rfl⟩⟩; refine ⟨_, rfl, ?_⟩))
     first | go_meet | (refine Met.intro ?_; go_step; (repeat apply Exists.intro); refine ⟨?rel, ?eqq⟩; (case eqq => (try simp only [c9b0]); rfl))
     case rel => exact ⟨_, (false), (by first | rfl | (simp; done) | (simp [*]; done)), H', ⟨by first | omega | exact Nat.le_refl _⟩, ⟨by (with_reducible repeat (first | refine blk_drewN ?_ _ | refine blk_drew ?_ | refine blk_alloc ?_ _)); exact BK318.out⟩, ⟨bel HB⟩⟩
   ·
    replace c8 := Bool.eq_false_iff.mpr c8
    subst c8
    have H1 : (impl_EventFault.j0 k true a0_0 a0_1 l0_2) = some r := by rw [if_neg (show ¬ (false = true) by decide)] at H; first | done | exact H
    clear H
    have H := H1
    clear H1
    have H' := Aside0.mk H
    clear H
    have hz12 := cl3 BK318
    go_wp2_with (first | ((with_reducible refine gate_callee (f := 71) rfl ?_); refine goA (some 11) rfl rfl Try.func71 rfl #[.int .i64 a0_1] rfl ?_; (with_reducible refine (impl_isPeer.calls a0_1 false _ A7.out).mono ?_); rintro e w' ⟨rfl, ⟨nd, rfl⟩⟩; refine ⟨_, rfl, ?_⟩))
    go_meet
    case rel => exact ⟨_, (true), (by first | rfl | (simp; done) | (simp [*]; done)), H', ⟨by first | omega | exact Nat.le_refl _⟩, ⟨by (with_reducible repeat (first | refine blk_drewN ?_ _ | refine blk_drew ?_ | refine blk_alloc ?_ _)); exact BK318.out⟩, ⟨bel HB⟩⟩
  case rest =>
   clear HC4
   try clear p2
   try clear c3
   try clear c5
   try clear c7
   try clear c8
   try clear c9
   try clear c9b0
   try clear c9b1
   try clear hz10
   try clear hz11
   try clear hz12
   try clear hz6
   obtain ⟨kq, x8_3, rfl, HA, HJ3, BK318, HB⟩ := hcut
   cases kq with
   | zero => exact absurd HA.out (by simp [impl_EventFault.j0])
   | succ kj3 =>
    have H := HA.out
    clear HA
    simp only [impl_EventFault.j0] at H
    by_cases c13 : x8_3 = true
    ·
     subst c13
     have H1 : (some 3) = some r := by rw [if_pos rfl] at H; first | done | exact H
     clear H
     have H := H1
     clear H1
     obtain rfl := Option.some.inj H
     go_wp2
     go_ret
     exact ⟨by first | rfl | (simp [errW_none, errW_some] <;> rfl) | (simp [*, errW_none, errW_some] <;> rfl), bel HB⟩
    ·
     replace c13 := Bool.eq_false_iff.mpr c13
     subst c13
     have H1 : (if ((a0_0 == 2) != (decide ((l0_2.length : Int) > 0))) = true then (some 1) else (if (l0_2.length : Int) > 60 then (some 2) else (some 0))) = some r := by rw [if_neg (show ¬ (false = true) by decide)] at H; first | done | exact H
     clear H
     have H := H1
     clear H1
     by_cases c14 : ((a0_0 == 2) != (decide ((l0_2.length : Int) > 0))) = true
     ·
      rw [if_pos c14] at H
      have c14b0 : ((a0_0 == 2) != (decide ((l0_2.length : Int) > 0))) = true := c14
      (try (have c14b1 : (!((a0_0 == 2) == (decide (0 < l0_2.length)))) = true := by simpa using c14))
      (try (have c14b2 : ((a0_0 == 2) == (decide (0 < l0_2.length))) = false := by simpa using c14))
      (try (have c14b3 : decide ((a0_0 == 2) = (decide ((l0_2.length : Int) > 0))) = false := by simpa using c14))
      (try (have c14b4 : ((a0_0 == 2) == (decide ((l0_2.length : Int) > 0))) = false := by simpa using c14))
      (try (have c14b5 : ¬ ((a0_0 == 2) = (decide ((l0_2.length : Int) > 0))) := by simpa using c14))
      clear c14
      obtain rfl := Option.some.inj H
      have hz15 := cl3 BK318
      go_wp2
      go_ret
      exact ⟨by first | rfl | (simp [errW_none, errW_some] <;> rfl) | (simp [*, errW_none, errW_some] <;> rfl), bel HB⟩
     ·
      rw [if_neg c14] at H
      have c14b0 : ((a0_0 == 2) != (decide ((l0_2.length : Int) > 0))) = false := by simpa using c14
      (try (have c14b1 : (!((a0_0 == 2) == (decide (0 < l0_2.length)))) = false := by simpa using c14))
      (try (have c14b2 : ((a0_0 == 2) == (decide (0 < l0_2.length))) = true := by simpa using c14))
      (try (have c14b3 : decide ((a0_0 == 2) = (decide ((l0_2.length : Int) > 0))) = true := by simpa using c14))
      (try (have c14b4 : ((a0_0 == 2) == (decide ((l0_2.length : Int) > 0))) = true := by simpa using c14))
      clear c14
      by_cases c16 : (l0_2.length : Int) > 60
      ·
       rw [if_pos c16] at H
       have c16b0 : decide (60 < (l0_2.length : Int)) = true := decide_eq_true c16
       have c16b1 : decide (60 < l0_2.length) = true := decide_eq_true (by omega)
       clear c16
       obtain rfl := Option.some.inj H
       have hz17 := cl3 BK318
       go_wp2
       go_ret
       exact ⟨by first | rfl | (simp [errW_none, errW_some] <;> rfl) | (simp [*, errW_none, errW_some] <;> rfl), bel HB⟩
      ·
       rw [if_neg c16] at H
       have c16b0 : decide (60 < (l0_2.length : Int)) = false := decide_eq_false c16
       have c16b1 : decide (60 < l0_2.length) = false := decide_eq_false (by omega)
       clear c16
       obtain rfl := Option.some.inj H
       have hz18 := cl3 BK318
       go_wp2
       go_ret
       exact ⟨by first | rfl | (simp [errW_none, errW_some] <;> rfl) | (simp [*, errW_none, errW_some] <;> rfl), bel HB⟩
 ·
  replace c3 := Bool.eq_false_iff.mpr c3
  subst c3
  have H1 : (some 1) = some r := by rw [if_neg (show ¬ (false = true) by decide)] at H; first | done | exact H
  clear H
  have H := H1
  clear H1
  obtain rfl := Option.some.inj H
  go_enter Try.func58, Try.ntmps58
  go_wp2_with (first | ((with_reducible refine gate_dst (N := 1) rfl ?_); refine boxE #[.int .i64 a0_0, .int .i64 a0_1, .slice A0_2 l0_2.length c0_2] 49 (N := 1) rfl rfl ?_; intro gb318 hg w19 hbox hb; have BK318 := Aside0.mk hbox; have GW318 := gZ HB hg; have GE318 := gZ HB hg; replace HB := bS HB hb; clear hb hbox hg; have hz20 := cl3 BK318) | ((with_reducible refine gate_callee (f := 35) rfl ?_); refine goA (some 6) rfl rfl Try.func35 rfl #[.int .i64 a0_0, .int .i64 1, .int .i64 4] rfl ?_; (with_reducible refine (impl_in.calls a0_0 1 4 false _ A2.out).mono ?_); rintro e w' ⟨rfl, ⟨nd, rfl⟩⟩; refine ⟨_, rfl, ?_⟩))
  go_ret
  exact ⟨by first | rfl | (simp [errW_none, errW_some] <;> rfl) | (simp [*, errW_none, errW_some] <;> rfl), bel HB⟩

/-! ### impl_EntryFault: function 36 -/
def impl_EntryFault.f (k : Nat) (a0_0 : Int) (a0_1 : Int) (a0_2 : Int) (l0_3 : List Int) : Option (Int) := (impl_isEpoch.f a0_0).bind fun t322 => (if t322 = true then ((impl_EventFault.f k a0_1 a0_2 l0_3).bind fun t323 => (some t323)) else (some 3))
theorem impl_EntryFault.mono : ∀ a0 a1 a2 a3 k, LeO (impl_EntryFault.f k a0 a1 a2 a3) (impl_EntryFault.f (k + 1) a0 a1 a2 a3) := by
 intro a0 a1 a2 a3 k
 unfold impl_EntryFault.f
 repeat' first
   | (with_reducible exact impl_EventFault.mono _ _ _ _)
   | (with_reducible exact LeO.refl _)
   | (with_reducible exact LeO.none _)
   | (with_reducible refine LeO.ite ?_ ?_)
   | (with_reducible refine LeO.bind ?_ (fun _ => ?_))
   | exact impl_EventFault.mono _ _ _ _
   | exact LeO.none _
   | refine LeO.ite ?_ ?_
   | refine LeO.bind ?_ (fun _ => ?_)
set_option maxHeartbeats 8000000 in
set_option maxRecDepth 100000 in
theorem impl_EntryFault.calls (k : Nat) (a0_0 : Int) (a0_1 : Int) (a0_2 : Int) (A0_3 : Option Addr) (c0_3 : Nat) (l0_3 : List Int) (r : Int) (w : World) (hr0_3 : Kd.C (Kd.int .u8) w A0_3 l0_3.length l0_3) (hc0_3 : l0_3.length ≤ c0_3) (h : impl_EntryFault.f k a0_0 a0_1 a0_2 l0_3 = some r) :
  Calls Try.prog 36 #[.agg #[.int .i64 a0_0, .int .i64 a0_1, .int .i64 a0_2, .slice A0_3 l0_3.length c0_3]] w fun e w' => e = .returned (.int .i64 r) ∧ Below w.heap.size w w' := by
 have hu51 := Try.underlying51
 have hu49 := Try.underlying49
 have HR0_3 := Aside0.mk hr0_3
 have HC0_3 := Aside0.mk hc0_3
 clear hr0_3 hc0_3
 have HB := Aside0.mk (Below.refl w.heap.size w)
 have H : ((impl_isEpoch.f a0_0).bind fun t322 => (if t322 = true then ((impl_EventFault.f k a0_1 a0_2 l0_3).bind fun t323 => (some t323)) else (some 3))) = some r := h
 clear h
 replace H := Option.bind_eq_some_iff.mp H
 obtain ⟨t322, A20, H⟩ := H
 replace H : (if t322 = true then ((impl_EventFault.f k a0_1 a0_2 l0_3).bind fun t323 => (some t323)) else (some 3)) = some r := H
 have A2 := Aside0.mk A20
 clear A20
 by_cases c3 : t322 = true
 ·
  subst c3
  have H1 : ((impl_EventFault.f k a0_1 a0_2 l0_3).bind fun t323 => (some t323)) = some r := by rw [if_pos rfl] at H; first | done | exact H
  clear H
  have H := H1
  clear H1
  replace H := Option.bind_eq_some_iff.mp H
  obtain ⟨t323, A40, H⟩ := H
  replace H : (some t323) = some r := H
  have A4 := Aside0.mk A40
  clear A40
  obtain rfl := Option.some.inj H
  go_enter Try.func36, Try.ntmps36
  go_wp2_with (first | ((with_reducible refine gate_dst (N := 1) rfl ?_); refine boxE #[.int .i64 a0_0, .int .i64 a0_1, .int .i64 a0_2, .slice A0_3 l0_3.length c0_3] 51 (N := 1) rfl rfl ?_; intro gb321 hg w5 hbox hb; have BK321 := Aside0.mk hbox; have GW321 := gZ HB hg; have GE321 := gZ HB hg; replace HB := bS HB hb; clear hb hbox hg; have hz6 := cl4 BK321) | ((with_reducible refine gate_callee (f := 48) rfl ?_); refine goA (some 5) rfl rfl Try.func48 rfl #[.int .i64 a0_0] rfl ?_; (with_reducible refine (impl_isEpoch.calls a0_0 true _ A2.out).mono ?_); rintro e w' ⟨rfl, ⟨nd, rfl⟩⟩; refine ⟨_, rfl, ?_⟩) | ((with_reducible refine gate_callee (f := 58) rfl ?_); refine goA (some 9) rfl rfl Try.func58 rfl #[.agg #[.int .i64 a0_1, .int .i64 a0_2, .slice A0_3 l0_3.length c0_3]] rfl ?_; (with_reducible refine (impl_EventFault.calls k a0_1 a0_2 _ _ l0_3 t323 _ ?side1 ?side2 A4.out).mono ?_); (case side1 => repeat (first | exact (Kd.C_below HR0_3.out (bel HB)) | (with_reducible refine Kd.C_alloc ?_ _) | (with_reducible refine Kd.C_drewN ?_ _) | (with_reducible refine Kd.C_drew ?_))); (case side2 => exact HC0_3.out); rintro e w7 ⟨rfl, hb⟩; refine ⟨_, rfl, ?_⟩; replace BK321 := bK BK321 hb; replace HB := bS HB hb; (try clear hb); (try clear hb2); (try clear hk); (try clear hi)))
  go_ret
  exact ⟨by first | rfl | (simp [errW_none, errW_some] <;> rfl) | (simp [*, errW_none, errW_some] <;> rfl), bel HB⟩
 ·
  replace c3 := Bool.eq_false_iff.mpr c3
  subst c3
  have H1 : (some 3) = some r := by rw [if_neg (show ¬ (false = true) by decide)] at H; first | done | exact H
  clear H
  have H := H1
  clear H1
  obtain rfl := Option.some.inj H
  go_enter Try.func36, Try.ntmps36
  go_wp2_with (first | ((with_reducible refine gate_dst (N := 1) rfl ?_); refine boxE #[.int .i64 a0_0, .int .i64 a0_1, .int .i64 a0_2, .slice A0_3 l0_3.length c0_3] 51 (N := 1) rfl rfl ?_; intro gb321 hg w8 hbox hb; have BK321 := Aside0.mk hbox; have GW321 := gZ HB hg; have GE321 := gZ HB hg; replace HB := bS HB hb; clear hb hbox hg; have hz9 := cl4 BK321) | ((with_reducible refine gate_callee (f := 48) rfl ?_); refine goA (some 5) rfl rfl Try.func48 rfl #[.int .i64 a0_0] rfl ?_; (with_reducible refine (impl_isEpoch.calls a0_0 false _ A2.out).mono ?_); rintro e w' ⟨rfl, ⟨nd, rfl⟩⟩; refine ⟨_, rfl, ?_⟩))
  go_ret
  exact ⟨by first | rfl | (simp [errW_none, errW_some] <;> rfl) | (simp [*, errW_none, errW_some] <;> rfl), bel HB⟩

end Go.Proofs.Ytgfoifkkffffgaa.PFnExactCrashNode
