-- Laid by a turned copy of the printer (wip/tools/patch_print.py)
import Derived.Test.YtgfoifkkffffgaaPFnExactLeadNodex0
import Derived.Test.YtgfoifkkffffgaaPFnExactLeadNodex6
import Derived.Test.YtgfoifkkffffgaaPFnExactLeadNodex7
import Derived.Test.YtgfoifkkffffgaaPFnExactLeadNodex8
namespace Go.Proofs.Ytgfoifkkffffgaa.PFnExactLeadNode
open Go.RowKit Go.Proofs.YtgfoifkkffffgaaW.PrintWords Go.Proofs.YtgfoifkkffffgaaW.PrintLast Go.Proofs.YtgfoifkkffffgaaW.PrintMore
attribute [local go_sem] max2_int min2_int max_two min_two max_three min_three max_four min_four   -- for this text's walks alone
set_option linter.unusedVariables false
set_option linter.unusedSimpArgs false

/-! ### spec_l12Asked: function 54 -/
def spec_l12Asked.f (k : Nat) (s0_0 : Int) (s0_1 : Bool) (s0_2 : Int) (s0_3 : Int) (s0_4 : List (S51)) (s0_5 : Int) (s0_6 : Int) (s0_7 : Int) (s0_8 : Int) : Option (Int × Int × Bool × Int × Int × Int × Int × Int × Int) := (spec_l12Fault.f k s0_0 s0_1 s0_2 s0_3 s0_4 s0_5 s0_6 s0_7 s0_8).bind fun bt249 => (if bt249.1 = 0 then (if bt249.2.2.1 = true then (some (0, bt249.2.1, bt249.2.2.1, bt249.2.2.2.1, bt249.2.2.2.2.1, bt249.2.2.2.2.2.1, bt249.2.2.2.2.2.2.1, bt249.2.2.2.2.2.2.2.1, bt249.2.2.2.2.2.2.2.2)) else (some (10, bt249.2.1, bt249.2.2.1, bt249.2.2.2.1, bt249.2.2.2.2.1, bt249.2.2.2.2.2.1, bt249.2.2.2.2.2.2.1, bt249.2.2.2.2.2.2.2.1, bt249.2.2.2.2.2.2.2.2))) else (some (bt249.1, bt249.2.1, bt249.2.2.1, bt249.2.2.2.1, bt249.2.2.2.2.1, bt249.2.2.2.2.2.1, bt249.2.2.2.2.2.2.1, bt249.2.2.2.2.2.2.2.1, bt249.2.2.2.2.2.2.2.2)))
theorem spec_l12Asked.mono : ∀ a0 a1 a2 a3 a4 a5 a6 a7 a8 k, LeO (spec_l12Asked.f k a0 a1 a2 a3 a4 a5 a6 a7 a8) (spec_l12Asked.f (k + 1) a0 a1 a2 a3 a4 a5 a6 a7 a8) := by
 intro a0 a1 a2 a3 a4 a5 a6 a7 a8 k
 unfold spec_l12Asked.f
 repeat' first
   | (with_reducible exact spec_l12Fault.mono _ _ _ _ _ _ _ _ _ _)
   | (with_reducible exact LeO.refl _)
   | (with_reducible exact LeO.none _)
   | (with_reducible refine LeO.ite ?_ ?_)
   | (with_reducible refine LeO.bind ?_ (fun _ => ?_))
   | exact spec_l12Fault.mono _ _ _ _ _ _ _ _ _ _
   | exact LeO.none _
   | refine LeO.ite ?_ ?_
   | refine LeO.bind ?_ (fun _ => ?_)
set_option maxHeartbeats 8000000 in
set_option maxRecDepth 100000 in
theorem spec_l12Asked.calls (k : Nat) (g : Nat) (s0_0 : Int) (s0_1 : Bool) (s0_2 : Int) (s0_3 : Int) (s0_4 : List (S51)) (s0_5 : Int) (s0_6 : Int) (s0_7 : Int) (s0_8 : Int) (r1 : Int) (r2 : Int) (r3 : Bool) (r4 : Int) (r5 : Int) (r6 : Int) (r7 : Int) (r8 : Int) (r9 : Int) (w0 w : World) (hI : IsS29 w0 w g s0_0 s0_1 s0_2 s0_3 s0_4 s0_5 s0_6 s0_7 s0_8) (hB : Below w0.heap.size w0 w) (h : spec_l12Asked.f k s0_0 s0_1 s0_2 s0_3 s0_4 s0_5 s0_6 s0_7 s0_8 = some (r1, r2, r3, r4, r5, r6, r7, r8, r9)) :
  Calls Try.prog 54 #[.pointer (some ⟨g, 0, none⟩)] w fun e w' => e = .returned (.int .i64 r1) ∧ IsS29 w0 w' g r2 r3 r4 r5 s0_4 r6 r7 r8 r9 ∧ Below w0.heap.size w0 w' ∧ KeepBut w w' g none := by
 have HI0 := Aside0.mk hI
 have HK := Aside0.mk (KeepBut.refl w g none)
 have HL := Aside0.mk hB.size
 clear hI
 have HW0 := Aside0.mk hB.size
 have HB := Aside0.mk hB
 clear hB
 have H : ((spec_l12Fault.f k s0_0 s0_1 s0_2 s0_3 s0_4 s0_5 s0_6 s0_7 s0_8).bind fun bt249 => (if bt249.1 = 0 then (if bt249.2.2.1 = true then (some (0, bt249.2.1, bt249.2.2.1, bt249.2.2.2.1, bt249.2.2.2.2.1, bt249.2.2.2.2.2.1, bt249.2.2.2.2.2.2.1, bt249.2.2.2.2.2.2.2.1, bt249.2.2.2.2.2.2.2.2)) else (some (10, bt249.2.1, bt249.2.2.1, bt249.2.2.2.1, bt249.2.2.2.2.1, bt249.2.2.2.2.2.1, bt249.2.2.2.2.2.2.1, bt249.2.2.2.2.2.2.2.1, bt249.2.2.2.2.2.2.2.2))) else (some (bt249.1, bt249.2.1, bt249.2.2.1, bt249.2.2.2.1, bt249.2.2.2.2.1, bt249.2.2.2.2.2.1, bt249.2.2.2.2.2.2.1, bt249.2.2.2.2.2.2.2.1, bt249.2.2.2.2.2.2.2.2)))) = some (r1, r2, r3, r4, r5, r6, r7, r8, r9) := h
 clear h
 replace H := Option.bind_eq_some_iff.mp H
 obtain ⟨⟨t249, t250, t251, t252, t253, t254, t255, t256, t257⟩, A20, H⟩ := H
 replace H : (if t249 = 0 then (if t251 = true then (some (0, t250, t251, t252, t253, t254, t255, t256, t257)) else (some (10, t250, t251, t252, t253, t254, t255, t256, t257))) else (some (t249, t250, t251, t252, t253, t254, t255, t256, t257))) = some (r1, r2, r3, r4, r5, r6, r7, r8, r9) := H
 have A2 := Aside0.mk A20
 clear A20
 by_cases c3 : t249 = 0
 ·
  rw [if_pos c3] at H
  have c3b0 : (t249 == 0) = true := beq_iff_eq.mpr c3
  have c3b1 : (t249 != 0) = false := bne_eq_false_iff_eq.mpr c3
  clear c3
  by_cases c4 : t251 = true
  ·
   subst c4
   have H1 : (some (0, t250, true, t252, t253, t254, t255, t256, t257)) = some (r1, r2, r3, r4, r5, r6, r7, r8, r9) := by rw [if_pos rfl] at H; first | done | exact H
   clear H
   have H := H1
   clear H1
   simp only [Option.some.injEq, Prod.mk.injEq] at H
   obtain ⟨rfl, rfl, rfl, rfl, rfl, rfl, rfl, rfl, rfl⟩ := H
   go_enter Try.func54, Try.ntmps54
   go_wp2_with (first | ((with_reducible refine gate_callee (f := 32) rfl ?_); refine goA (some 5) rfl rfl Try.func32 rfl #[.pointer (some ⟨g, 0, none⟩)] rfl ?_; (with_reducible refine (spec_l12Fault.calls k g s0_0 s0_1 s0_2 s0_3 s0_4 s0_5 s0_6 s0_7 s0_8 t249 t250 true t252 t253 t254 t255 t256 t257 w0 _ ?side1 ?side2 A2.out).mono ?_); (case side1 => repeat (first | (with_reducible first | exact HI0.out | apply IsS29.alloc | apply IsS29.drewN | apply IsS29.drew | apply IsS29.set_0 | apply IsS29.set_1 | apply IsS29.set_2 | apply IsS29.set_3 | apply IsS29.set_5 | apply IsS29.set_6 | apply IsS29.set_7 | apply IsS29.set_8) | exact HI0.out)); (case side2 => repeat (first | (with_reducible first | exact HB.out | apply below_alloc | apply pw_below_drewN | apply below_drew1 | refine below_set ?_ (IsS29.ge HI0.out)) | exact HB.out)); rintro e w5 ⟨rfl, hi, hb, hk⟩; refine ⟨_, rfl, ?_⟩; replace HK := Aside0.mk (KeepBut.trans (by repeat (first | (with_reducible first | exact HK.out | apply KeepBut.set_ | apply keep_drewN | apply keep_drew | apply keep_alloc) | exact HK.out)) hk (.inl rfl)); replace HB := Aside0.mk hb; replace HI0 := Aside0.mk hi; (try clear hb); (try clear hb2); (try clear hk); (try clear hi); obtain ⟨ASz6_4, cSz6_4, HGz6, hgz6, HSz6_4, HLz6_4⟩ := HI0.out; have hcz6_0 := cellS29_0 HGz6; have hcz6_1 := cellS29_1 HGz6; have hcz6_2 := cellS29_2 HGz6; have hcz6_3 := cellS29_3 HGz6; have hcz6_4 := cellS29_4 HGz6; have hcz6_5 := cellS29_5 HGz6; have hcz6_6 := cellS29_6 HGz6; have hcz6_7 := cellS29_7 HGz6; have hcz6_8 := cellS29_8 HGz6; have hfz6_0 := blk_frozen HGz6 0; have hfz6_1 := blk_frozen HGz6 1; have hfz6_2 := blk_frozen HGz6 2; have hfz6_3 := blk_frozen HGz6 3; have hfz6_5 := blk_frozen HGz6 5; have hfz6_6 := blk_frozen HGz6 6; have hfz6_7 := blk_frozen HGz6 7; have hfz6_8 := blk_frozen HGz6 8; clear HGz6 hgz6))
   go_ret
   exact ⟨by first | rfl | (simp [errW_none, errW_some] <;> rfl) | (simp [*, errW_none, errW_some] <;> rfl), by repeat (first | (with_reducible first | exact HI0.out | apply IsS29.alloc | apply IsS29.drewN | apply IsS29.drew | apply IsS29.set_0 | apply IsS29.set_1 | apply IsS29.set_2 | apply IsS29.set_3 | apply IsS29.set_5 | apply IsS29.set_6 | apply IsS29.set_7 | apply IsS29.set_8) | exact HI0.out), by repeat (first | (with_reducible first | exact HB.out | apply below_alloc | apply pw_below_drewN | apply below_drew1 | refine below_set ?_ (IsS29.ge HI0.out)) | exact HB.out), by repeat (first | (with_reducible first | exact HK.out | apply KeepBut.set_ | apply keep_drewN | apply keep_drew | apply keep_alloc) | exact HK.out)⟩
  ·
   replace c4 := Bool.eq_false_iff.mpr c4
   subst c4
   have H1 : (some (10, t250, false, t252, t253, t254, t255, t256, t257)) = some (r1, r2, r3, r4, r5, r6, r7, r8, r9) := by rw [if_neg (show ¬ (false = true) by decide)] at H; first | done | exact H
   clear H
   have H := H1
   clear H1
   simp only [Option.some.injEq, Prod.mk.injEq] at H
   obtain ⟨rfl, rfl, rfl, rfl, rfl, rfl, rfl, rfl, rfl⟩ := H
   go_enter Try.func54, Try.ntmps54
   go_wp2_with (first | ((with_reducible refine gate_callee (f := 32) rfl ?_); refine goA (some 5) rfl rfl Try.func32 rfl #[.pointer (some ⟨g, 0, none⟩)] rfl ?_; (with_reducible refine (spec_l12Fault.calls k g s0_0 s0_1 s0_2 s0_3 s0_4 s0_5 s0_6 s0_7 s0_8 t249 t250 false t252 t253 t254 t255 t256 t257 w0 _ ?side1 ?side2 A2.out).mono ?_); (case side1 => repeat (first | (with_reducible first | exact HI0.out | apply IsS29.alloc | apply IsS29.drewN | apply IsS29.drew | apply IsS29.set_0 | apply IsS29.set_1 | apply IsS29.set_2 | apply IsS29.set_3 | apply IsS29.set_5 | apply IsS29.set_6 | apply IsS29.set_7 | apply IsS29.set_8) | exact HI0.out)); (case side2 => repeat (first | (with_reducible first | exact HB.out | apply below_alloc | apply pw_below_drewN | apply below_drew1 | refine below_set ?_ (IsS29.ge HI0.out)) | exact HB.out)); rintro e w7 ⟨rfl, hi, hb, hk⟩; refine ⟨_, rfl, ?_⟩; replace HK := Aside0.mk (KeepBut.trans (by repeat (first | (with_reducible first | exact HK.out | apply KeepBut.set_ | apply keep_drewN | apply keep_drew | apply keep_alloc) | exact HK.out)) hk (.inl rfl)); replace HB := Aside0.mk hb; replace HI0 := Aside0.mk hi; (try clear hb); (try clear hb2); (try clear hk); (try clear hi); obtain ⟨ASz8_4, cSz8_4, HGz8, hgz8, HSz8_4, HLz8_4⟩ := HI0.out; have hcz8_0 := cellS29_0 HGz8; have hcz8_1 := cellS29_1 HGz8; have hcz8_2 := cellS29_2 HGz8; have hcz8_3 := cellS29_3 HGz8; have hcz8_4 := cellS29_4 HGz8; have hcz8_5 := cellS29_5 HGz8; have hcz8_6 := cellS29_6 HGz8; have hcz8_7 := cellS29_7 HGz8; have hcz8_8 := cellS29_8 HGz8; have hfz8_0 := blk_frozen HGz8 0; have hfz8_1 := blk_frozen HGz8 1; have hfz8_2 := blk_frozen HGz8 2; have hfz8_3 := blk_frozen HGz8 3; have hfz8_5 := blk_frozen HGz8 5; have hfz8_6 := blk_frozen HGz8 6; have hfz8_7 := blk_frozen HGz8 7; have hfz8_8 := blk_frozen HGz8 8; clear HGz8 hgz8))
   go_ret
   exact ⟨by first | rfl | (simp [errW_none, errW_some] <;> rfl) | (simp [*, errW_none, errW_some] <;> rfl), by repeat (first | (with_reducible first | exact HI0.out | apply IsS29.alloc | apply IsS29.drewN | apply IsS29.drew | apply IsS29.set_0 | apply IsS29.set_1 | apply IsS29.set_2 | apply IsS29.set_3 | apply IsS29.set_5 | apply IsS29.set_6 | apply IsS29.set_7 | apply IsS29.set_8) | exact HI0.out), by repeat (first | (with_reducible first | exact HB.out | apply below_alloc | apply pw_below_drewN | apply below_drew1 | refine below_set ?_ (IsS29.ge HI0.out)) | exact HB.out), by repeat (first | (with_reducible first | exact HK.out | apply KeepBut.set_ | apply keep_drewN | apply keep_drew | apply keep_alloc) | exact HK.out)⟩
 ·
  rw [if_neg c3] at H
  have c3b0 : (t249 == 0) = false := beq_eq_false_iff_ne.mpr c3
  have c3b1 : (t249 != 0) = true := bne_iff_ne.mpr c3
  simp only [Option.some.injEq, Prod.mk.injEq] at H
  obtain ⟨rfl, rfl, rfl, rfl, rfl, rfl, rfl, rfl, rfl⟩ := H
  go_enter Try.func54, Try.ntmps54
  go_wp2_with (first | ((with_reducible refine gate_callee (f := 32) rfl ?_); refine goA (some 5) rfl rfl Try.func32 rfl #[.pointer (some ⟨g, 0, none⟩)] rfl ?_; (with_reducible refine (spec_l12Fault.calls k g s0_0 s0_1 s0_2 s0_3 s0_4 s0_5 s0_6 s0_7 s0_8 t249 t250 t251 t252 t253 t254 t255 t256 t257 w0 _ ?side1 ?side2 A2.out).mono ?_); (case side1 => repeat (first | (with_reducible first | exact HI0.out | apply IsS29.alloc | apply IsS29.drewN | apply IsS29.drew | apply IsS29.set_0 | apply IsS29.set_1 | apply IsS29.set_2 | apply IsS29.set_3 | apply IsS29.set_5 | apply IsS29.set_6 | apply IsS29.set_7 | apply IsS29.set_8) | exact HI0.out)); (case side2 => repeat (first | (with_reducible first | exact HB.out | apply below_alloc | apply pw_below_drewN | apply below_drew1 | refine below_set ?_ (IsS29.ge HI0.out)) | exact HB.out)); rintro e w9 ⟨rfl, hi, hb, hk⟩; refine ⟨_, rfl, ?_⟩; replace HK := Aside0.mk (KeepBut.trans (by repeat (first | (with_reducible first | exact HK.out | apply KeepBut.set_ | apply keep_drewN | apply keep_drew | apply keep_alloc) | exact HK.out)) hk (.inl rfl)); replace HB := Aside0.mk hb; replace HI0 := Aside0.mk hi; (try clear hb); (try clear hb2); (try clear hk); (try clear hi)))
  go_ret
  exact ⟨by first | rfl | (simp [errW_none, errW_some] <;> rfl) | (simp [*, errW_none, errW_some] <;> rfl), by repeat (first | (with_reducible first | exact HI0.out | apply IsS29.alloc | apply IsS29.drewN | apply IsS29.drew | apply IsS29.set_0 | apply IsS29.set_1 | apply IsS29.set_2 | apply IsS29.set_3 | apply IsS29.set_5 | apply IsS29.set_6 | apply IsS29.set_7 | apply IsS29.set_8) | exact HI0.out), by repeat (first | (with_reducible first | exact HB.out | apply below_alloc | apply pw_below_drewN | apply below_drew1 | refine below_set ?_ (IsS29.ge HI0.out)) | exact HB.out), by repeat (first | (with_reducible first | exact HK.out | apply KeepBut.set_ | apply keep_drewN | apply keep_drew | apply keep_alloc) | exact HK.out)⟩

/-! ### spec_LeadNode: function 29 -/
def spec_LeadNode.f (k : Nat) (a0_0 : Int) (a0_1 : Bool) (a0_2 : Int) (a0_3 : Int) (l0_4 : List (S51)) (a0_5 : Int) (a0_6 : Int) (a0_7 : Int) (a0_8 : Int) (a1 : Int) : Option (Int × Int × Bool × Int × Int × (List (S51)) × Int × Int × Int × Int × (List (S53))) := (spec_l12Asked.f k a0_0 a0_1 a0_2 a0_3 l0_4 a0_5 a0_6 a0_7 a0_8).bind fun bt260 => (if bt260.1 = 0 then ((spec_l1In.f a1 (wrap64 (bt260.2.2.2.2.1 + 1)) 1000).bind fun t284 => (if t284 = true then ((spec_l12Copy.f k bt260.2.1 bt260.2.2.1 bt260.2.2.2.1 bt260.2.2.2.2.1 l0_4 bt260.2.2.2.2.2.1 bt260.2.2.2.2.2.2.1 bt260.2.2.2.2.2.2.2.1 bt260.2.2.2.2.2.2.2.2).bind fun bt285 => (some (0, bt285.1, bt285.2.1, 1, a1, bt285.2.2.2.2.1, bt285.2.2.2.2.2.1, 0, 0, bt285.2.2.2.2.2.2.2.2, ([] : List (S53))))) else ((spec_l12Bad.f 3).bind fun bt297 => (some (bt297.1, bt297.2.1, bt297.2.2.1, bt297.2.2.2.1, bt297.2.2.2.2.1, bt297.2.2.2.2.2.1, bt297.2.2.2.2.2.2.1, bt297.2.2.2.2.2.2.2.1, bt297.2.2.2.2.2.2.2.2.1, bt297.2.2.2.2.2.2.2.2.2.1, bt297.2.2.2.2.2.2.2.2.2.2))))) else ((spec_l12Bad.f bt260.1).bind fun bt269 => (some (bt269.1, bt269.2.1, bt269.2.2.1, bt269.2.2.2.1, bt269.2.2.2.2.1, bt269.2.2.2.2.2.1, bt269.2.2.2.2.2.2.1, bt269.2.2.2.2.2.2.2.1, bt269.2.2.2.2.2.2.2.2.1, bt269.2.2.2.2.2.2.2.2.2.1, bt269.2.2.2.2.2.2.2.2.2.2))))
theorem spec_LeadNode.mono : ∀ a0 a1 a2 a3 a4 a5 a6 a7 a8 a9 k, LeO (spec_LeadNode.f k a0 a1 a2 a3 a4 a5 a6 a7 a8 a9) (spec_LeadNode.f (k + 1) a0 a1 a2 a3 a4 a5 a6 a7 a8 a9) := by
 intro a0 a1 a2 a3 a4 a5 a6 a7 a8 a9 k
 unfold spec_LeadNode.f
 repeat' first
   | (with_reducible exact spec_l12Asked.mono _ _ _ _ _ _ _ _ _ _)
   | (with_reducible exact spec_l12Copy.mono _ _ _ _ _ _ _ _ _ _)
   | (with_reducible exact LeO.refl _)
   | (with_reducible exact LeO.none _)
   | (with_reducible refine LeO.ite ?_ ?_)
   | (with_reducible refine LeO.bind ?_ (fun _ => ?_))
   | exact spec_l12Asked.mono _ _ _ _ _ _ _ _ _ _
   | exact spec_l12Copy.mono _ _ _ _ _ _ _ _ _ _
   | exact LeO.none _
   | refine LeO.ite ?_ ?_
   | refine LeO.bind ?_ (fun _ => ?_)
set_option maxHeartbeats 8000000 in
set_option maxRecDepth 100000 in
theorem spec_LeadNode.calls (k : Nat) (a0_0 : Int) (a0_1 : Bool) (a0_2 : Int) (a0_3 : Int) (A0_4 : Option Addr) (c0_4 : Nat) (l0_4 : List (S51)) (a0_5 : Int) (a0_6 : Int) (a0_7 : Int) (a0_8 : Int) (a1 : Int) (r1 : Int) (r2 : Int) (r3 : Bool) (r4 : Int) (r5 : Int) (r6 : List (S51)) (r7 : Int) (r8 : Int) (r9 : Int) (r10 : Int) (r11 : List (S53)) (w : World) (hr0_4 : Kd.C k51 w A0_4 l0_4.length l0_4) (hc0_4 : l0_4.length ≤ c0_4) (h : spec_LeadNode.f k a0_0 a0_1 a0_2 a0_3 l0_4 a0_5 a0_6 a0_7 a0_8 a1 = some (r1, r2, r3, r4, r5, r6, r7, r8, r9, r10, r11)) :
  Calls Try.prog 29 #[.agg #[.int .i64 a0_0, .bool a0_1, .int .i64 a0_2, .int .i64 a0_3, .slice A0_4 l0_4.length c0_4, .int .i64 a0_5, .int .i64 a0_6, .int .i64 a0_7, .int .i64 a0_8], .int .i64 a1] w fun e w' => ∃ v5_ v10_ : Value, e = .returned (.agg #[.int .i64 r1, .int .i64 r2, .bool r3, .int .i64 r4, .int .i64 r5, v5_, .int .i64 r7, .int .i64 r8, .int .i64 r9, .int .i64 r10, v10_]) ∧ Kd.S k51 51 w' w.heap.size (fun _ => True) v5_ r6 ∧ Kd.S k53 53 w' w.heap.size (fun _ => True) v10_ r11 ∧ Below w.heap.size w w' := by
 have hu29 := Try.underlying29
 have hu35 := Try.underlying35
 have HR0_4 := Aside0.mk hr0_4
 have HC0_4 := Aside0.mk hc0_4
 clear hr0_4 hc0_4
 have HB := Aside0.mk (Below.refl w.heap.size w)
 have H : ((spec_l12Asked.f k a0_0 a0_1 a0_2 a0_3 l0_4 a0_5 a0_6 a0_7 a0_8).bind fun bt260 => (if bt260.1 = 0 then ((spec_l1In.f a1 (wrap64 (bt260.2.2.2.2.1 + 1)) 1000).bind fun t284 => (if t284 = true then ((spec_l12Copy.f k bt260.2.1 bt260.2.2.1 bt260.2.2.2.1 bt260.2.2.2.2.1 l0_4 bt260.2.2.2.2.2.1 bt260.2.2.2.2.2.2.1 bt260.2.2.2.2.2.2.2.1 bt260.2.2.2.2.2.2.2.2).bind fun bt285 => (some (0, bt285.1, bt285.2.1, 1, a1, bt285.2.2.2.2.1, bt285.2.2.2.2.2.1, 0, 0, bt285.2.2.2.2.2.2.2.2, ([] : List (S53))))) else ((spec_l12Bad.f 3).bind fun bt297 => (some (bt297.1, bt297.2.1, bt297.2.2.1, bt297.2.2.2.1, bt297.2.2.2.2.1, bt297.2.2.2.2.2.1, bt297.2.2.2.2.2.2.1, bt297.2.2.2.2.2.2.2.1, bt297.2.2.2.2.2.2.2.2.1, bt297.2.2.2.2.2.2.2.2.2.1, bt297.2.2.2.2.2.2.2.2.2.2))))) else ((spec_l12Bad.f bt260.1).bind fun bt269 => (some (bt269.1, bt269.2.1, bt269.2.2.1, bt269.2.2.2.1, bt269.2.2.2.2.1, bt269.2.2.2.2.2.1, bt269.2.2.2.2.2.2.1, bt269.2.2.2.2.2.2.2.1, bt269.2.2.2.2.2.2.2.2.1, bt269.2.2.2.2.2.2.2.2.2.1, bt269.2.2.2.2.2.2.2.2.2.2))))) = some (r1, r2, r3, r4, r5, r6, r7, r8, r9, r10, r11) := h
 clear h
 replace H := Option.bind_eq_some_iff.mp H
 obtain ⟨⟨t260, t261, t262, t263, t264, t265, t266, t267, t268⟩, A30, H⟩ := H
 replace H : (if t260 = 0 then ((spec_l1In.f a1 (wrap64 (t264 + 1)) 1000).bind fun t284 => (if t284 = true then ((spec_l12Copy.f k t261 t262 t263 t264 l0_4 t265 t266 t267 t268).bind fun bt285 => (some (0, bt285.1, bt285.2.1, 1, a1, bt285.2.2.2.2.1, bt285.2.2.2.2.2.1, 0, 0, bt285.2.2.2.2.2.2.2.2, ([] : List (S53))))) else ((spec_l12Bad.f 3).bind fun bt297 => (some (bt297.1, bt297.2.1, bt297.2.2.1, bt297.2.2.2.1, bt297.2.2.2.2.1, bt297.2.2.2.2.2.1, bt297.2.2.2.2.2.2.1, bt297.2.2.2.2.2.2.2.1, bt297.2.2.2.2.2.2.2.2.1, bt297.2.2.2.2.2.2.2.2.2.1, bt297.2.2.2.2.2.2.2.2.2.2))))) else ((spec_l12Bad.f t260).bind fun bt269 => (some (bt269.1, bt269.2.1, bt269.2.2.1, bt269.2.2.2.1, bt269.2.2.2.2.1, bt269.2.2.2.2.2.1, bt269.2.2.2.2.2.2.1, bt269.2.2.2.2.2.2.2.1, bt269.2.2.2.2.2.2.2.2.1, bt269.2.2.2.2.2.2.2.2.2.1, bt269.2.2.2.2.2.2.2.2.2.2)))) = some (r1, r2, r3, r4, r5, r6, r7, r8, r9, r10, r11) := H
 have A3 := Aside0.mk A30
 clear A30
 by_cases c4 : t260 = 0
 ·
  rw [if_pos c4] at H
  have c4b0 : (t260 == 0) = true := beq_iff_eq.mpr c4
  have c4b1 : (t260 != 0) = false := bne_eq_false_iff_eq.mpr c4
  clear c4
  replace H := Option.bind_eq_some_iff.mp H
  obtain ⟨t284, A50, H⟩ := H
  replace H : (if t284 = true then ((spec_l12Copy.f k t261 t262 t263 t264 l0_4 t265 t266 t267 t268).bind fun bt285 => (some (0, bt285.1, bt285.2.1, 1, a1, bt285.2.2.2.2.1, bt285.2.2.2.2.2.1, 0, 0, bt285.2.2.2.2.2.2.2.2, ([] : List (S53))))) else ((spec_l12Bad.f 3).bind fun bt297 => (some (bt297.1, bt297.2.1, bt297.2.2.1, bt297.2.2.2.1, bt297.2.2.2.2.1, bt297.2.2.2.2.2.1, bt297.2.2.2.2.2.2.1, bt297.2.2.2.2.2.2.2.1, bt297.2.2.2.2.2.2.2.2.1, bt297.2.2.2.2.2.2.2.2.2.1, bt297.2.2.2.2.2.2.2.2.2.2)))) = some (r1, r2, r3, r4, r5, r6, r7, r8, r9, r10, r11) := H
  have A5 := Aside0.mk A50
  clear A50
  by_cases c6 : t284 = true
  ·
   subst c6
   have H1 : ((spec_l12Copy.f k t261 t262 t263 t264 l0_4 t265 t266 t267 t268).bind fun bt285 => (some (0, bt285.1, bt285.2.1, 1, a1, bt285.2.2.2.2.1, bt285.2.2.2.2.2.1, 0, 0, bt285.2.2.2.2.2.2.2.2, ([] : List (S53))))) = some (r1, r2, r3, r4, r5, r6, r7, r8, r9, r10, r11) := by rw [if_pos rfl] at H; first | done | exact H
   clear H
   have H := H1
   clear H1
   replace H := Option.bind_eq_some_iff.mp H
   obtain ⟨⟨t285, t286, t287, t288, t289, t292, t293, t294, t295⟩, A70, H⟩ := H
   replace H : (some (0, t285, t286, 1, a1, t289, t292, 0, 0, t295, ([] : List (S53)))) = some (r1, r2, r3, r4, r5, r6, r7, r8, r9, r10, r11) := H
   have A7 := Aside0.mk A70
   clear A70
   simp only [Option.some.injEq, Prod.mk.injEq] at H
   obtain ⟨rfl, rfl, rfl, rfl, rfl, rfl, rfl, rfl, rfl, rfl, rfl⟩ := H
   go_enter Try.func29, Try.ntmps29
   go_wp2_with (first | ((with_reducible refine gate_dst (N := 2) rfl ?_); refine boxE #[.int .i64 a0_0, .bool a0_1, .int .i64 a0_2, .int .i64 a0_3, .slice A0_4 l0_4.length c0_4, .int .i64 a0_5, .int .i64 a0_6, .int .i64 a0_7, .int .i64 a0_8] 29 (N := 2) rfl rfl ?_; intro gb258 hg w8 hbox hb; have BK258 := Aside0.mk hbox; have GW258 := gZ HB hg; have GE258 := gZ HB hg; replace HB := bS HB hb; clear hb hbox hg) | ((with_reducible refine gate_dst (N := 4) rfl ?_); refine boxE #[.int .i64 0, .int .i64 0, .bool false, .int .i64 0, .int .i64 0, .slice none 0 0, .int .i64 0, .int .i64 0, .int .i64 0, .int .i64 0, .slice none 0 0] 35 (N := 4) rfl rfl ?_; intro gb259 hg w9 hbox hb; have BK259 := Aside0.mk hbox; have GW259 := gZ HB hg; have GE259 := gZ HB hg; replace HB := bS HB hb; have NB258_259 := nL BK258 hg; have NB259_258 := nG BK258 hg; replace BK258 := bK BK258 hb; clear hb hbox hg; have HI258 := Aside0.mk (show IsS29 w w9 gb258 a0_0 a0_1 a0_2 a0_3 l0_4 a0_5 a0_6 a0_7 a0_8 from ⟨_, _, (mB BK258), GE258.out, HR0_4.out, HC0_4.out⟩); clear BK258) | ((with_reducible refine gate_callee (f := 54) rfl ?_); refine goA (some 7) rfl rfl Try.func54 rfl #[.pointer (some ⟨gb258, 0, none⟩)] rfl ?_; (with_reducible refine (spec_l12Asked.calls k gb258 a0_0 a0_1 a0_2 a0_3 l0_4 a0_5 a0_6 a0_7 a0_8 t260 t261 t262 t263 t264 t265 t266 t267 t268 w _ ?side1 ?side2 A3.out).mono ?_); (case side1 => repeat (first | (with_reducible first | exact HI258.out | apply IsS29.alloc | apply IsS29.drewN | apply IsS29.drew | apply IsS29.set_0 | apply IsS29.set_1 | apply IsS29.set_2 | apply IsS29.set_3 | apply IsS29.set_5 | apply IsS29.set_6 | apply IsS29.set_7 | apply IsS29.set_8 | refine IsS29.far ?_ NB258_259.out _) | exact HI258.out)); (case side2 => repeat (first | (with_reducible first | exact HB.out | apply below_alloc | apply pw_below_drewN | apply below_drew1 | refine below_set ?_ (IsS29.ge HI258.out) | refine below_set ?_ GE259.out) | exact HB.out)); rintro e w10 ⟨rfl, hi, hb, hk⟩; refine ⟨_, rfl, ?_⟩; replace BK259 := Aside0.mk (KeepBut.blk hk (g' := gb259) (o := .cells #[.int .i64 0, .int .i64 0, .bool false, .int .i64 0, .int .i64 0, .slice none 0 0, .int .i64 0, .int .i64 0, .int .i64 0, .int .i64 0, .slice none 0 0] 35 (0, 0)) (mB BK259) NB259_258.out (by simp)); replace HB := Aside0.mk hb; replace HI258 := Aside0.mk hi; (try clear hb); (try clear hb2); (try clear hk); (try clear hi); obtain ⟨ASz11_4, cSz11_4, HGz11, hgz11, HSz11_4, HLz11_4⟩ := HI258.out; have hcz11_0 := cellS29_0 HGz11; have hcz11_1 := cellS29_1 HGz11; have hcz11_2 := cellS29_2 HGz11; have hcz11_3 := cellS29_3 HGz11; have hcz11_4 := cellS29_4 HGz11; have hcz11_5 := cellS29_5 HGz11; have hcz11_6 := cellS29_6 HGz11; have hcz11_7 := cellS29_7 HGz11; have hcz11_8 := cellS29_8 HGz11; have hfz11_0 := blk_frozen HGz11 0; have hfz11_1 := blk_frozen HGz11 1; have hfz11_2 := blk_frozen HGz11 2; have hfz11_3 := blk_frozen HGz11 3; have hfz11_5 := blk_frozen HGz11 5; have hfz11_6 := blk_frozen HGz11 6; have hfz11_7 := blk_frozen HGz11 7; have hfz11_8 := blk_frozen HGz11 8; clear HGz11 hgz11) | ((with_reducible refine gate_callee (f := 39) rfl ?_); refine goA (some 16) rfl rfl Try.func39 rfl #[.int .i64 a1, .int .i64 (wrap64 (t264 + 1)), .int .i64 1000] rfl ?_; (with_reducible refine (spec_l1In.calls a1 (wrap64 (t264 + 1)) 1000 true _ A5.out).mono ?_); rintro e w' ⟨rfl, ⟨nd, rfl⟩⟩; refine ⟨_, rfl, ?_⟩; (try ((try simp only [World.drewN_drewN]); rw [drewN_self w10]; generalize hq_ : World.drewN w10 _ = w10; replace BK259 := Aside0.mk (blk_at hq_ BK259.out); replace HI258 := Aside0.mk (IsS29.at_ hq_ HI258.out); replace HB := Aside0.mk (below_at hq_ HB.out); clear hq_)); obtain ⟨ASz12_4, cSz12_4, HGz12, hgz12, HSz12_4, HLz12_4⟩ := HI258.out; have hcz12_0 := cellS29_0 HGz12; have hcz12_1 := cellS29_1 HGz12; have hcz12_2 := cellS29_2 HGz12; have hcz12_3 := cellS29_3 HGz12; have hcz12_4 := cellS29_4 HGz12; have hcz12_5 := cellS29_5 HGz12; have hcz12_6 := cellS29_6 HGz12; have hcz12_7 := cellS29_7 HGz12; have hcz12_8 := cellS29_8 HGz12; have hfz12_0 := blk_frozen HGz12 0; have hfz12_1 := blk_frozen HGz12 1; have hfz12_2 := blk_frozen HGz12 2; have hfz12_3 := blk_frozen HGz12 3; have hfz12_5 := blk_frozen HGz12 5; have hfz12_6 := blk_frozen HGz12 6; have hfz12_7 := blk_frozen HGz12 7; have hfz12_8 := blk_frozen HGz12 8; clear HGz12 hgz12) | ((with_reducible refine gate_callee (f := 51) rfl ?_); refine goA (some 20) rfl rfl Try.func51 rfl #[.agg #[.int .i64 t261, .bool t262, .int .i64 t263, .int .i64 t264, .slice ASz12_4 l0_4.length cSz12_4, .int .i64 t265, .int .i64 t266, .int .i64 t267, .int .i64 t268]] rfl ?_; (with_reducible refine (spec_l12Copy.calls k t261 t262 t263 t264 _ _ l0_4 t265 t266 t267 t268 t285 t286 t287 t288 t289 t292 t293 t294 t295 _ ?side1 ?side2 A7.out).mono ?_); (case side1 => exact Kd.C_below HSz12_4 (by repeat (first | (with_reducible first | exact HB.out | apply below_alloc | apply pw_below_drewN | apply below_drew1 | refine below_set ?_ (IsS29.ge HI258.out) | refine below_set ?_ GE259.out) | exact HB.out))); (case side2 => exact HLz12_4); rintro e w13 ⟨v290, rfl, ho0, hb⟩; refine ⟨_, rfl, ?_⟩; have HO291 := Aside0.mk (Kd.S_lower ho0 (below_size (by repeat (first | (with_reducible first | exact HB.out | apply below_alloc | apply pw_below_drewN | apply below_drew1 | refine below_set ?_ (IsS29.ge HI258.out) | refine below_set ?_ GE259.out) | exact HB.out)))); replace BK259 := bK BK259 hb; replace HB := Aside0.mk (below_step (by repeat (first | (with_reducible first | exact HB.out | apply below_alloc | apply pw_below_drewN | apply below_drew1 | refine below_set ?_ (IsS29.ge HI258.out) | refine below_set ?_ GE259.out) | exact HB.out)) hb); replace HI258 := Aside0.mk (IsS29.below (by repeat (first | (with_reducible first | exact HI258.out | apply IsS29.alloc | apply IsS29.drewN | apply IsS29.drew | apply IsS29.set_0 | apply IsS29.set_1 | apply IsS29.set_2 | apply IsS29.set_3 | apply IsS29.set_5 | apply IsS29.set_6 | apply IsS29.set_7 | apply IsS29.set_8 | refine IsS29.far ?_ NB258_259.out _) | exact HI258.out)) hb); (try clear hb); (try clear hb2); (try clear hk); (try clear hi); (try clear ho0)) | ((with_reducible refine gate_dst (N := 6) rfl ?_); refine boxE #[.int .i64 0, .bool false, .int .i64 0, .int .i64 0, .slice none 0 0, .int .i64 0, .int .i64 0, .int .i64 0, .int .i64 0] 29 (N := 6) rfl rfl ?_; intro gb296 hg w14 hbox hb; replace HO291 := Aside0.mk (Kd.S_below (mS HO291) hb); have BK296 := Aside0.mk hbox; have GW296 := Aside0.mk ((by rw [hg]; exact (below_size (by repeat (first | (with_reducible first | exact HB.out | apply below_alloc | apply pw_below_drewN | apply below_drew1 | refine below_set ?_ (IsS29.ge HI258.out) | refine below_set ?_ GE259.out) | exact HB.out))) : w.heap.size ≤ gb296)); have GE296 := Aside0.mk ((by rw [hg]; exact (below_size (by repeat (first | (with_reducible first | exact HB.out | apply below_alloc | apply pw_below_drewN | apply below_drew1 | refine below_set ?_ (IsS29.ge HI258.out) | refine below_set ?_ GE259.out) | exact HB.out))) : w.heap.size ≤ gb296)); replace HB := Aside0.mk (below_step (by repeat (first | (with_reducible first | exact HB.out | apply below_alloc | apply pw_below_drewN | apply below_drew1 | refine below_set ?_ (IsS29.ge HI258.out) | refine below_set ?_ GE259.out) | exact HB.out)) hb); have NB259_296 := nL BK259 hg; have NB296_259 := nG BK259 hg; replace BK259 := bK BK259 hb; have NB258_296 := Aside0.mk ((by rw [hg]; exact Nat.ne_of_lt (IsS29.lt (show IsS29 w _ gb258 t261 t262 t263 t264 l0_4 t265 t266 t267 t268 from by repeat (first | (with_reducible first | exact HI258.out | apply IsS29.alloc | apply IsS29.drewN | apply IsS29.drew | apply IsS29.set_0 | apply IsS29.set_1 | apply IsS29.set_2 | apply IsS29.set_3 | apply IsS29.set_5 | apply IsS29.set_6 | apply IsS29.set_7 | apply IsS29.set_8 | refine IsS29.far ?_ NB258_259.out _) | exact HI258.out))) : gb258 ≠ gb296)); have NB296_258 := Aside0.mk ((by rw [hg]; exact Nat.ne_of_gt (IsS29.lt (show IsS29 w _ gb258 t261 t262 t263 t264 l0_4 t265 t266 t267 t268 from by repeat (first | (with_reducible first | exact HI258.out | apply IsS29.alloc | apply IsS29.drewN | apply IsS29.drew | apply IsS29.set_0 | apply IsS29.set_1 | apply IsS29.set_2 | apply IsS29.set_3 | apply IsS29.set_5 | apply IsS29.set_6 | apply IsS29.set_7 | apply IsS29.set_8 | refine IsS29.far ?_ NB258_259.out _) | exact HI258.out))) : gb296 ≠ gb258)); replace HI258 := Aside0.mk (IsS29.below (by repeat (first | (with_reducible first | exact HI258.out | apply IsS29.alloc | apply IsS29.drewN | apply IsS29.drew | apply IsS29.set_0 | apply IsS29.set_1 | apply IsS29.set_2 | apply IsS29.set_3 | apply IsS29.set_5 | apply IsS29.set_6 | apply IsS29.set_7 | apply IsS29.set_8 | refine IsS29.far ?_ NB258_259.out _) | exact HI258.out)) hb); clear hb hbox hg; have hnb15 := NB296_259.out; have hnc15 := NB259_296.out; have hnb16 := NB296_258.out; have hnc16 := NB258_296.out; have hz17 := cl9 BK296; obtain ⟨Ao18, co18, eo18⟩ := Kd.S_slice HO291.out; subst eo18) | ((with_reducible refine gate_store (t := 29) (p := 6) rfl ?_); refine store_event (t := 29) (p := 6) (v := ?vo_w19) (w1 := (((((((((w14.setCell ⟨gb296, 0, none⟩ (.int .i64 t285)).setCell ⟨gb296, 1, none⟩ (.bool t286)).setCell ⟨gb296, 2, none⟩ (.int .i64 t287)).setCell ⟨gb296, 3, none⟩ (.int .i64 t288)).setCell ⟨gb296, 4, none⟩ (.slice Ao18 t289.length co18)).setCell ⟨gb296, 5, none⟩ (.int .i64 t292)).setCell ⟨gb296, 6, none⟩ (.int .i64 t293)).setCell ⟨gb296, 7, none⟩ (.int .i64 t294)).setCell ⟨gb296, 8, none⟩ (.int .i64 t295))) ?hg ?ho ?hn ?hr ?_; (case ho => rfl); (case hg => rfl); (case hn => rfl); (case hr => first | (go_simp; done) | (go_simp; rfl)); intro w19 hw; have n0_ : Aside0 (Kd.S k51 51 w19 w.heap.size (fun _ => True) (.slice Ao18 t289.length co18) t289) := ⟨(by rw [hw]; exact (by (with_reducible repeat (first | apply Kd.S_alloc | apply Kd.S_drewN | apply Kd.S_drew)); exact Kd.S_mono (Kd.S_far (p := ⟨gb296, 8, none⟩) (Kd.S_far (p := ⟨gb296, 7, none⟩) (Kd.S_far (p := ⟨gb296, 6, none⟩) (Kd.S_far (p := ⟨gb296, 5, none⟩) (Kd.S_far (p := ⟨gb296, 4, none⟩) (Kd.S_far (p := ⟨gb296, 3, none⟩) (Kd.S_far (p := ⟨gb296, 2, none⟩) (Kd.S_far (p := ⟨gb296, 1, none⟩) (Kd.S_far (p := ⟨gb296, 0, none⟩) (Kd.S_types HO291.out BK296.out (by decide)) (fun _ hk => hk.2) (.int .i64 t285)) (fun _ hk => hk.2) (.bool t286)) (fun _ hk => hk.2) (.int .i64 t287)) (fun _ hk => hk.2) (.int .i64 t288)) (fun _ hk => hk.2) (.slice Ao18 t289.length co18)) (fun _ hk => hk.2) (.int .i64 t292)) (fun _ hk => hk.2) (.int .i64 t293)) (fun _ hk => hk.2) (.int .i64 t294)) (fun _ hk => hk.2) (.int .i64 t295)) (fun _ hk => trivial)))⟩; have n1_ : Aside0 (w19.heap[gb259]? = some (.cells #[.int .i64 0, .int .i64 0, .bool false, .int .i64 0, .int .i64 0, .slice none 0 0, .int .i64 0, .int .i64 0, .int .i64 0, .int .i64 0, .slice none 0 0] 35 (0, 0))) := ⟨(by rw [hw]; exact (mP BK259))⟩; have n2_ : Aside0 (w19.heap[gb296]? = some (.cells #[.int .i64 t285, .bool t286, .int .i64 t287, .int .i64 t288, .slice Ao18 t289.length co18, .int .i64 t292, .int .i64 t293, .int .i64 t294, .int .i64 t295] 29 (0, 0))) := ⟨(by rw [hw]; exact (mP BK296))⟩; have n3_ : Aside0 (IsS29 w w19 gb258 t261 t262 t263 t264 l0_4 t265 t266 t267 t268) := ⟨(by rw [hw]; exact (by repeat (first | (with_reducible first | exact HI258.out | apply IsS29.alloc | apply IsS29.drewN | apply IsS29.drew | apply IsS29.set_0 | apply IsS29.set_1 | apply IsS29.set_2 | apply IsS29.set_3 | apply IsS29.set_5 | apply IsS29.set_6 | apply IsS29.set_7 | apply IsS29.set_8 | refine IsS29.far ?_ NB258_259.out _ | refine IsS29.far ?_ NB258_296.out _) | exact HI258.out)))⟩; have n4_ : Aside0 (Below w.heap.size w w19) := ⟨(by rw [hw]; exact (by repeat (first | (with_reducible first | exact HB.out | apply below_alloc | apply pw_below_drewN | apply below_drew1 | refine below_set ?_ (IsS29.ge HI258.out) | refine below_set ?_ GE259.out | refine below_set ?_ GE296.out) | exact HB.out)))⟩; clear hw; clear HO291; clear BK259; clear BK296; clear HI258; clear HB; have HO291 := n0_; have BK259 := n1_; have BK296 := n2_; have HI258 := n3_; have HB := n4_; clear n0_ n1_ n2_ n3_ n4_; have hz20 := cl9 BK296; have hnb21 := NB259_258.out; have hnc21 := NB258_259.out; have hz22 := cl11 BK259))
   refine bodyPost_ret (results_cell_row rfl _ _ gb259 35 #[.int .i64 0, .int .i64 t285, .bool t286, .int .i64 1, .int .i64 a1, .slice Ao18 t289.length co18, .int .i64 t292, .int .i64 0, .int .i64 0, .int .i64 t295, .slice none 0 0] (0, 0) _ rfl (mP BK259) Try.underlying35 rfl (by kernel_rfl)) rfl ?_
   exact ⟨_, _, by first | rfl | (simp [errW_none, errW_some] <;> rfl) | (simp [*, errW_none, errW_some] <;> rfl), by (with_reducible repeat (first | apply Kd.S_alloc | apply Kd.S_drewN | apply Kd.S_drew)); exact Kd.S_mono (Kd.S_far (p := ⟨gb259, 10, none⟩) (Kd.S_far (p := ⟨gb259, 9, none⟩) (Kd.S_far (p := ⟨gb259, 8, none⟩) (Kd.S_far (p := ⟨gb259, 7, none⟩) (Kd.S_far (p := ⟨gb259, 6, none⟩) (Kd.S_far (p := ⟨gb259, 5, none⟩) (Kd.S_far (p := ⟨gb259, 4, none⟩) (Kd.S_far (p := ⟨gb259, 3, none⟩) (Kd.S_far (p := ⟨gb259, 2, none⟩) (Kd.S_far (p := ⟨gb259, 1, none⟩) (Kd.S_far (p := ⟨gb259, 0, none⟩) (Kd.S_far (p := ⟨gb296, 7, none⟩) (Kd.S_far (p := ⟨gb296, 6, none⟩) (Kd.S_far (p := ⟨gb296, 3, none⟩) (Kd.S_far (p := ⟨gb296, 2, none⟩) (Kd.S_types (Kd.S_types HO291.out BK296.out (by decide)) BK259.out (by decide)) (fun _ hk => hk.1.2) (.int .i64 1)) (fun _ hk => hk.1.2) (.int .i64 a1)) (fun _ hk => hk.1.2) (.int .i64 0)) (fun _ hk => hk.1.2) (.int .i64 0)) (fun _ hk => hk.2) (.int .i64 0)) (fun _ hk => hk.2) (.int .i64 t285)) (fun _ hk => hk.2) (.bool t286)) (fun _ hk => hk.2) (.int .i64 1)) (fun _ hk => hk.2) (.int .i64 a1)) (fun _ hk => hk.2) (.slice Ao18 t289.length co18)) (fun _ hk => hk.2) (.int .i64 t292)) (fun _ hk => hk.2) (.int .i64 0)) (fun _ hk => hk.2) (.int .i64 0)) (fun _ hk => hk.2) (.int .i64 t295)) (fun _ hk => hk.2) (.slice none 0 0)) (fun _ hk => trivial), by first | exact Kd.S_nil _ _ _ _ _ | exact Kd.N_nil _ _ _ _ _ | exact Kd.V_nil _ _ _ _ _ | exact Kd.Q_nil _ _ _ _ _ | exact Kd.R_nil _ _ _ _ _, by repeat (first | (with_reducible first | exact HB.out | apply below_alloc | apply pw_below_drewN | apply below_drew1 | refine below_set ?_ (IsS29.ge HI258.out) | refine below_set ?_ GE259.out | refine below_set ?_ GE296.out) | exact HB.out)⟩
  ·
   replace c6 := Bool.eq_false_iff.mpr c6
   subst c6
   have H1 : ((spec_l12Bad.f 3).bind fun bt297 => (some (bt297.1, bt297.2.1, bt297.2.2.1, bt297.2.2.2.1, bt297.2.2.2.2.1, bt297.2.2.2.2.2.1, bt297.2.2.2.2.2.2.1, bt297.2.2.2.2.2.2.2.1, bt297.2.2.2.2.2.2.2.2.1, bt297.2.2.2.2.2.2.2.2.2.1, bt297.2.2.2.2.2.2.2.2.2.2))) = some (r1, r2, r3, r4, r5, r6, r7, r8, r9, r10, r11) := by rw [if_neg (show ¬ (false = true) by decide)] at H; first | done | exact H
   clear H
   have H := H1
   clear H1
   replace H := Option.bind_eq_some_iff.mp H
   obtain ⟨⟨t297, t298, t299, t300, t301, t302, t305, t306, t307, t308, t309⟩, A230, H⟩ := H
   replace H : (some (t297, t298, t299, t300, t301, t302, t305, t306, t307, t308, t309)) = some (r1, r2, r3, r4, r5, r6, r7, r8, r9, r10, r11) := H
   have A23 := Aside0.mk A230
   clear A230
   simp only [Option.some.injEq, Prod.mk.injEq] at H
   obtain ⟨rfl, rfl, rfl, rfl, rfl, rfl, rfl, rfl, rfl, rfl, rfl⟩ := H
   go_enter Try.func29, Try.ntmps29
   go_wp2_with (first | ((with_reducible refine gate_dst (N := 2) rfl ?_); refine boxE #[.int .i64 a0_0, .bool a0_1, .int .i64 a0_2, .int .i64 a0_3, .slice A0_4 l0_4.length c0_4, .int .i64 a0_5, .int .i64 a0_6, .int .i64 a0_7, .int .i64 a0_8] 29 (N := 2) rfl rfl ?_; intro gb258 hg w24 hbox hb; have BK258 := Aside0.mk hbox; have GW258 := gZ HB hg; have GE258 := gZ HB hg; replace HB := bS HB hb; clear hb hbox hg) | ((with_reducible refine gate_dst (N := 4) rfl ?_); refine boxE #[.int .i64 0, .int .i64 0, .bool false, .int .i64 0, .int .i64 0, .slice none 0 0, .int .i64 0, .int .i64 0, .int .i64 0, .int .i64 0, .slice none 0 0] 35 (N := 4) rfl rfl ?_; intro gb259 hg w25 hbox hb; have BK259 := Aside0.mk hbox; have GW259 := gZ HB hg; have GE259 := gZ HB hg; replace HB := bS HB hb; have NB258_259 := nL BK258 hg; have NB259_258 := nG BK258 hg; replace BK258 := bK BK258 hb; clear hb hbox hg; have HI258 := Aside0.mk (show IsS29 w w25 gb258 a0_0 a0_1 a0_2 a0_3 l0_4 a0_5 a0_6 a0_7 a0_8 from ⟨_, _, (mB BK258), GE258.out, HR0_4.out, HC0_4.out⟩); clear BK258) | ((with_reducible refine gate_callee (f := 54) rfl ?_); refine goA (some 7) rfl rfl Try.func54 rfl #[.pointer (some ⟨gb258, 0, none⟩)] rfl ?_; (with_reducible refine (spec_l12Asked.calls k gb258 a0_0 a0_1 a0_2 a0_3 l0_4 a0_5 a0_6 a0_7 a0_8 t260 t261 t262 t263 t264 t265 t266 t267 t268 w _ ?side1 ?side2 A3.out).mono ?_); (case side1 => repeat (first | (with_reducible first | exact HI258.out | apply IsS29.alloc | apply IsS29.drewN | apply IsS29.drew | apply IsS29.set_0 | apply IsS29.set_1 | apply IsS29.set_2 | apply IsS29.set_3 | apply IsS29.set_5 | apply IsS29.set_6 | apply IsS29.set_7 | apply IsS29.set_8 | refine IsS29.far ?_ NB258_259.out _) | exact HI258.out)); (case side2 => repeat (first | (with_reducible first | exact HB.out | apply below_alloc | apply pw_below_drewN | apply below_drew1 | refine below_set ?_ (IsS29.ge HI258.out) | refine below_set ?_ GE259.out) | exact HB.out)); rintro e w26 ⟨rfl, hi, hb, hk⟩; refine ⟨_, rfl, ?_⟩; replace BK259 := Aside0.mk (KeepBut.blk hk (g' := gb259) (o := .cells #[.int .i64 0, .int .i64 0, .bool false, .int .i64 0, .int .i64 0, .slice none 0 0, .int .i64 0, .int .i64 0, .int .i64 0, .int .i64 0, .slice none 0 0] 35 (0, 0)) (mB BK259) NB259_258.out (by simp)); replace HB := Aside0.mk hb; replace HI258 := Aside0.mk hi; (try clear hb); (try clear hb2); (try clear hk); (try clear hi); obtain ⟨ASz27_4, cSz27_4, HGz27, hgz27, HSz27_4, HLz27_4⟩ := HI258.out; have hcz27_0 := cellS29_0 HGz27; have hcz27_1 := cellS29_1 HGz27; have hcz27_2 := cellS29_2 HGz27; have hcz27_3 := cellS29_3 HGz27; have hcz27_4 := cellS29_4 HGz27; have hcz27_5 := cellS29_5 HGz27; have hcz27_6 := cellS29_6 HGz27; have hcz27_7 := cellS29_7 HGz27; have hcz27_8 := cellS29_8 HGz27; have hfz27_0 := blk_frozen HGz27 0; have hfz27_1 := blk_frozen HGz27 1; have hfz27_2 := blk_frozen HGz27 2; have hfz27_3 := blk_frozen HGz27 3; have hfz27_5 := blk_frozen HGz27 5; have hfz27_6 := blk_frozen HGz27 6; have hfz27_7 := blk_frozen HGz27 7; have hfz27_8 := blk_frozen HGz27 8; clear HGz27 hgz27) | ((with_reducible refine gate_callee (f := 39) rfl ?_); refine goA (some 16) rfl rfl Try.func39 rfl #[.int .i64 a1, .int .i64 (wrap64 (t264 + 1)), .int .i64 1000] rfl ?_; (with_reducible refine (spec_l1In.calls a1 (wrap64 (t264 + 1)) 1000 false _ A5.out).mono ?_); rintro e w' ⟨rfl, ⟨nd, rfl⟩⟩; refine ⟨_, rfl, ?_⟩; (try ((try simp only [World.drewN_drewN]); rw [drewN_self w26]; generalize hq_ : World.drewN w26 _ = w26; replace BK259 := Aside0.mk (blk_at hq_ BK259.out); replace HI258 := Aside0.mk (IsS29.at_ hq_ HI258.out); replace HB := Aside0.mk (below_at hq_ HB.out); clear hq_))) | ((with_reducible refine gate_callee (f := 40) rfl ?_); refine goA (some 18) rfl rfl Try.func40 rfl #[.int .i64 3] rfl ?_; (with_reducible refine (spec_l12Bad.calls 3 t297 t298 t299 t300 t301 t302 t305 t306 t307 t308 t309 _ A23.out).mono ?_); rintro e w28 ⟨v303, v310, rfl, ho0, ho1, hb⟩; refine ⟨_, rfl, ?_⟩; have HO304 := Aside0.mk (Kd.S_lower ho0 (below_size (by repeat (first | (with_reducible first | exact HB.out | apply below_alloc | apply pw_below_drewN | apply below_drew1 | refine below_set ?_ (IsS29.ge HI258.out) | refine below_set ?_ GE259.out) | exact HB.out)))); have HO311 := Aside0.mk (Kd.S_lower ho1 (below_size (by repeat (first | (with_reducible first | exact HB.out | apply below_alloc | apply pw_below_drewN | apply below_drew1 | refine below_set ?_ (IsS29.ge HI258.out) | refine below_set ?_ GE259.out) | exact HB.out)))); replace BK259 := bK BK259 hb; replace HB := Aside0.mk (below_step (by repeat (first | (with_reducible first | exact HB.out | apply below_alloc | apply pw_below_drewN | apply below_drew1 | refine below_set ?_ (IsS29.ge HI258.out) | refine below_set ?_ GE259.out) | exact HB.out)) hb); replace HI258 := Aside0.mk (IsS29.below (by repeat (first | (with_reducible first | exact HI258.out | apply IsS29.alloc | apply IsS29.drewN | apply IsS29.drew | apply IsS29.set_0 | apply IsS29.set_1 | apply IsS29.set_2 | apply IsS29.set_3 | apply IsS29.set_5 | apply IsS29.set_6 | apply IsS29.set_7 | apply IsS29.set_8 | refine IsS29.far ?_ NB258_259.out _) | exact HI258.out)) hb); (try clear hb); (try clear hb2); (try clear hk); (try clear hi); (try clear ho0); (try clear ho1); have hnb29 := NB259_258.out; have hnc29 := NB258_259.out; have hz30 := cl11 BK259; obtain ⟨Ao31, co31, eo31⟩ := Kd.S_slice HO304.out; subst eo31; obtain ⟨Ao32, co32, eo32⟩ := Kd.S_slice HO311.out; subst eo32))
   refine bodyPost_ret (results_cell_row rfl _ _ gb259 35 #[.int .i64 t297, .int .i64 t298, .bool t299, .int .i64 t300, .int .i64 t301, .slice Ao31 t302.length co31, .int .i64 t305, .int .i64 t306, .int .i64 t307, .int .i64 t308, .slice Ao32 t309.length co32] (0, 0) _ rfl (mP BK259) Try.underlying35 rfl (by kernel_rfl)) rfl ?_
   exact ⟨_, _, by first | rfl | (simp [errW_none, errW_some] <;> rfl) | (simp [*, errW_none, errW_some] <;> rfl), by (with_reducible repeat (first | apply Kd.S_alloc | apply Kd.S_drewN | apply Kd.S_drew)); exact Kd.S_mono (Kd.S_far (p := ⟨gb259, 10, none⟩) (Kd.S_far (p := ⟨gb259, 9, none⟩) (Kd.S_far (p := ⟨gb259, 8, none⟩) (Kd.S_far (p := ⟨gb259, 7, none⟩) (Kd.S_far (p := ⟨gb259, 6, none⟩) (Kd.S_far (p := ⟨gb259, 5, none⟩) (Kd.S_far (p := ⟨gb259, 4, none⟩) (Kd.S_far (p := ⟨gb259, 3, none⟩) (Kd.S_far (p := ⟨gb259, 2, none⟩) (Kd.S_far (p := ⟨gb259, 1, none⟩) (Kd.S_far (p := ⟨gb259, 0, none⟩) (Kd.S_types HO304.out BK259.out (by decide)) (fun _ hk => hk.2) (.int .i64 t297)) (fun _ hk => hk.2) (.int .i64 t298)) (fun _ hk => hk.2) (.bool t299)) (fun _ hk => hk.2) (.int .i64 t300)) (fun _ hk => hk.2) (.int .i64 t301)) (fun _ hk => hk.2) (.slice Ao31 t302.length co31)) (fun _ hk => hk.2) (.int .i64 t305)) (fun _ hk => hk.2) (.int .i64 t306)) (fun _ hk => hk.2) (.int .i64 t307)) (fun _ hk => hk.2) (.int .i64 t308)) (fun _ hk => hk.2) (.slice Ao32 t309.length co32)) (fun _ hk => trivial), by (with_reducible repeat (first | apply Kd.S_alloc | apply Kd.S_drewN | apply Kd.S_drew)); exact Kd.S_mono (Kd.S_far (p := ⟨gb259, 10, none⟩) (Kd.S_far (p := ⟨gb259, 9, none⟩) (Kd.S_far (p := ⟨gb259, 8, none⟩) (Kd.S_far (p := ⟨gb259, 7, none⟩) (Kd.S_far (p := ⟨gb259, 6, none⟩) (Kd.S_far (p := ⟨gb259, 5, none⟩) (Kd.S_far (p := ⟨gb259, 4, none⟩) (Kd.S_far (p := ⟨gb259, 3, none⟩) (Kd.S_far (p := ⟨gb259, 2, none⟩) (Kd.S_far (p := ⟨gb259, 1, none⟩) (Kd.S_far (p := ⟨gb259, 0, none⟩) (Kd.S_types HO311.out BK259.out (by decide)) (fun _ hk => hk.2) (.int .i64 t297)) (fun _ hk => hk.2) (.int .i64 t298)) (fun _ hk => hk.2) (.bool t299)) (fun _ hk => hk.2) (.int .i64 t300)) (fun _ hk => hk.2) (.int .i64 t301)) (fun _ hk => hk.2) (.slice Ao31 t302.length co31)) (fun _ hk => hk.2) (.int .i64 t305)) (fun _ hk => hk.2) (.int .i64 t306)) (fun _ hk => hk.2) (.int .i64 t307)) (fun _ hk => hk.2) (.int .i64 t308)) (fun _ hk => hk.2) (.slice Ao32 t309.length co32)) (fun _ hk => trivial), by repeat (first | (with_reducible first | exact HB.out | apply below_alloc | apply pw_below_drewN | apply below_drew1 | refine below_set ?_ (IsS29.ge HI258.out) | refine below_set ?_ GE259.out) | exact HB.out)⟩
 ·
  rw [if_neg c4] at H
  have c4b0 : (t260 == 0) = false := beq_eq_false_iff_ne.mpr c4
  have c4b1 : (t260 != 0) = true := bne_iff_ne.mpr c4
  replace H := Option.bind_eq_some_iff.mp H
  obtain ⟨⟨t269, t270, t271, t272, t273, t274, t277, t278, t279, t280, t281⟩, A330, H⟩ := H
  replace H : (some (t269, t270, t271, t272, t273, t274, t277, t278, t279, t280, t281)) = some (r1, r2, r3, r4, r5, r6, r7, r8, r9, r10, r11) := H
  have A33 := Aside0.mk A330
  clear A330
  simp only [Option.some.injEq, Prod.mk.injEq] at H
  obtain ⟨rfl, rfl, rfl, rfl, rfl, rfl, rfl, rfl, rfl, rfl, rfl⟩ := H
  go_enter Try.func29, Try.ntmps29
  go_wp2_with (first | ((with_reducible refine gate_dst (N := 2) rfl ?_); refine boxE #[.int .i64 a0_0, .bool a0_1, .int .i64 a0_2, .int .i64 a0_3, .slice A0_4 l0_4.length c0_4, .int .i64 a0_5, .int .i64 a0_6, .int .i64 a0_7, .int .i64 a0_8] 29 (N := 2) rfl rfl ?_; intro gb258 hg w34 hbox hb; have BK258 := Aside0.mk hbox; have GW258 := gZ HB hg; have GE258 := gZ HB hg; replace HB := bS HB hb; clear hb hbox hg) | ((with_reducible refine gate_dst (N := 4) rfl ?_); refine boxE #[.int .i64 0, .int .i64 0, .bool false, .int .i64 0, .int .i64 0, .slice none 0 0, .int .i64 0, .int .i64 0, .int .i64 0, .int .i64 0, .slice none 0 0] 35 (N := 4) rfl rfl ?_; intro gb259 hg w35 hbox hb; have BK259 := Aside0.mk hbox; have GW259 := gZ HB hg; have GE259 := gZ HB hg; replace HB := bS HB hb; have NB258_259 := nL BK258 hg; have NB259_258 := nG BK258 hg; replace BK258 := bK BK258 hb; clear hb hbox hg; have HI258 := Aside0.mk (show IsS29 w w35 gb258 a0_0 a0_1 a0_2 a0_3 l0_4 a0_5 a0_6 a0_7 a0_8 from ⟨_, _, (mB BK258), GE258.out, HR0_4.out, HC0_4.out⟩); clear BK258) | ((with_reducible refine gate_callee (f := 54) rfl ?_); refine goA (some 7) rfl rfl Try.func54 rfl #[.pointer (some ⟨gb258, 0, none⟩)] rfl ?_; (with_reducible refine (spec_l12Asked.calls k gb258 a0_0 a0_1 a0_2 a0_3 l0_4 a0_5 a0_6 a0_7 a0_8 t260 t261 t262 t263 t264 t265 t266 t267 t268 w _ ?side1 ?side2 A3.out).mono ?_); (case side1 => repeat (first | (with_reducible first | exact HI258.out | apply IsS29.alloc | apply IsS29.drewN | apply IsS29.drew | apply IsS29.set_0 | apply IsS29.set_1 | apply IsS29.set_2 | apply IsS29.set_3 | apply IsS29.set_5 | apply IsS29.set_6 | apply IsS29.set_7 | apply IsS29.set_8 | refine IsS29.far ?_ NB258_259.out _) | exact HI258.out)); (case side2 => repeat (first | (with_reducible first | exact HB.out | apply below_alloc | apply pw_below_drewN | apply below_drew1 | refine below_set ?_ (IsS29.ge HI258.out) | refine below_set ?_ GE259.out) | exact HB.out)); rintro e w36 ⟨rfl, hi, hb, hk⟩; refine ⟨_, rfl, ?_⟩; replace BK259 := Aside0.mk (KeepBut.blk hk (g' := gb259) (o := .cells #[.int .i64 0, .int .i64 0, .bool false, .int .i64 0, .int .i64 0, .slice none 0 0, .int .i64 0, .int .i64 0, .int .i64 0, .int .i64 0, .slice none 0 0] 35 (0, 0)) (mB BK259) NB259_258.out (by simp)); replace HB := Aside0.mk hb; replace HI258 := Aside0.mk hi; (try clear hb); (try clear hb2); (try clear hk); (try clear hi)) | ((with_reducible refine gate_callee (f := 40) rfl ?_); refine goA (some 11) rfl rfl Try.func40 rfl #[.int .i64 t260] rfl ?_; (with_reducible refine (spec_l12Bad.calls t260 t269 t270 t271 t272 t273 t274 t277 t278 t279 t280 t281 _ A33.out).mono ?_); rintro e w37 ⟨v275, v282, rfl, ho0, ho1, hb⟩; refine ⟨_, rfl, ?_⟩; have HO276 := Aside0.mk (Kd.S_lower ho0 (below_size (by repeat (first | (with_reducible first | exact HB.out | apply below_alloc | apply pw_below_drewN | apply below_drew1 | refine below_set ?_ (IsS29.ge HI258.out) | refine below_set ?_ GE259.out) | exact HB.out)))); have HO283 := Aside0.mk (Kd.S_lower ho1 (below_size (by repeat (first | (with_reducible first | exact HB.out | apply below_alloc | apply pw_below_drewN | apply below_drew1 | refine below_set ?_ (IsS29.ge HI258.out) | refine below_set ?_ GE259.out) | exact HB.out)))); replace BK259 := bK BK259 hb; replace HB := Aside0.mk (below_step (by repeat (first | (with_reducible first | exact HB.out | apply below_alloc | apply pw_below_drewN | apply below_drew1 | refine below_set ?_ (IsS29.ge HI258.out) | refine below_set ?_ GE259.out) | exact HB.out)) hb); replace HI258 := Aside0.mk (IsS29.below (by repeat (first | (with_reducible first | exact HI258.out | apply IsS29.alloc | apply IsS29.drewN | apply IsS29.drew | apply IsS29.set_0 | apply IsS29.set_1 | apply IsS29.set_2 | apply IsS29.set_3 | apply IsS29.set_5 | apply IsS29.set_6 | apply IsS29.set_7 | apply IsS29.set_8 | refine IsS29.far ?_ NB258_259.out _) | exact HI258.out)) hb); (try clear hb); (try clear hb2); (try clear hk); (try clear hi); (try clear ho0); (try clear ho1); have hnb38 := NB259_258.out; have hnc38 := NB258_259.out; have hz39 := cl11 BK259; obtain ⟨Ao40, co40, eo40⟩ := Kd.S_slice HO276.out; subst eo40; obtain ⟨Ao41, co41, eo41⟩ := Kd.S_slice HO283.out; subst eo41))
  refine bodyPost_ret (results_cell_row rfl _ _ gb259 35 #[.int .i64 t269, .int .i64 t270, .bool t271, .int .i64 t272, .int .i64 t273, .slice Ao40 t274.length co40, .int .i64 t277, .int .i64 t278, .int .i64 t279, .int .i64 t280, .slice Ao41 t281.length co41] (0, 0) _ rfl (mP BK259) Try.underlying35 rfl (by kernel_rfl)) rfl ?_
  exact ⟨_, _, by first | rfl | (simp [errW_none, errW_some] <;> rfl) | (simp [*, errW_none, errW_some] <;> rfl), by (with_reducible repeat (first | apply Kd.S_alloc | apply Kd.S_drewN | apply Kd.S_drew)); exact Kd.S_mono (Kd.S_far (p := ⟨gb259, 10, none⟩) (Kd.S_far (p := ⟨gb259, 9, none⟩) (Kd.S_far (p := ⟨gb259, 8, none⟩) (Kd.S_far (p := ⟨gb259, 7, none⟩) (Kd.S_far (p := ⟨gb259, 6, none⟩) (Kd.S_far (p := ⟨gb259, 5, none⟩) (Kd.S_far (p := ⟨gb259, 4, none⟩) (Kd.S_far (p := ⟨gb259, 3, none⟩) (Kd.S_far (p := ⟨gb259, 2, none⟩) (Kd.S_far (p := ⟨gb259, 1, none⟩) (Kd.S_far (p := ⟨gb259, 0, none⟩) (Kd.S_types HO276.out BK259.out (by decide)) (fun _ hk => hk.2) (.int .i64 t269)) (fun _ hk => hk.2) (.int .i64 t270)) (fun _ hk => hk.2) (.bool t271)) (fun _ hk => hk.2) (.int .i64 t272)) (fun _ hk => hk.2) (.int .i64 t273)) (fun _ hk => hk.2) (.slice Ao40 t274.length co40)) (fun _ hk => hk.2) (.int .i64 t277)) (fun _ hk => hk.2) (.int .i64 t278)) (fun _ hk => hk.2) (.int .i64 t279)) (fun _ hk => hk.2) (.int .i64 t280)) (fun _ hk => hk.2) (.slice Ao41 t281.length co41)) (fun _ hk => trivial), by (with_reducible repeat (first | apply Kd.S_alloc | apply Kd.S_drewN | apply Kd.S_drew)); exact Kd.S_mono (Kd.S_far (p := ⟨gb259, 10, none⟩) (Kd.S_far (p := ⟨gb259, 9, none⟩) (Kd.S_far (p := ⟨gb259, 8, none⟩) (Kd.S_far (p := ⟨gb259, 7, none⟩) (Kd.S_far (p := ⟨gb259, 6, none⟩) (Kd.S_far (p := ⟨gb259, 5, none⟩) (Kd.S_far (p := ⟨gb259, 4, none⟩) (Kd.S_far (p := ⟨gb259, 3, none⟩) (Kd.S_far (p := ⟨gb259, 2, none⟩) (Kd.S_far (p := ⟨gb259, 1, none⟩) (Kd.S_far (p := ⟨gb259, 0, none⟩) (Kd.S_types HO283.out BK259.out (by decide)) (fun _ hk => hk.2) (.int .i64 t269)) (fun _ hk => hk.2) (.int .i64 t270)) (fun _ hk => hk.2) (.bool t271)) (fun _ hk => hk.2) (.int .i64 t272)) (fun _ hk => hk.2) (.int .i64 t273)) (fun _ hk => hk.2) (.slice Ao40 t274.length co40)) (fun _ hk => hk.2) (.int .i64 t277)) (fun _ hk => hk.2) (.int .i64 t278)) (fun _ hk => hk.2) (.int .i64 t279)) (fun _ hk => hk.2) (.int .i64 t280)) (fun _ hk => hk.2) (.slice Ao41 t281.length co41)) (fun _ hk => trivial), by repeat (first | (with_reducible first | exact HB.out | apply below_alloc | apply pw_below_drewN | apply below_drew1 | refine below_set ?_ (IsS29.ge HI258.out) | refine below_set ?_ GE259.out) | exact HB.out)⟩

/-! ### impl_in: function 35 -/
def impl_in.f (a0 : Int) (a1 : Int) (a2 : Int) : Option (Bool) := if a0 ≥ a1 then (some (decide (a0 ≤ a2))) else (some false)
set_option maxHeartbeats 8000000 in
set_option maxRecDepth 100000 in
theorem impl_in.calls (a0 : Int) (a1 : Int) (a2 : Int) (r : Bool) (w : World) (h : impl_in.f a0 a1 a2 = some r) :
  Calls Try.prog 35 #[.int .i64 a0, .int .i64 a1, .int .i64 a2] w fun e w' => e = .returned (.bool r) ∧ Drawn0 w w' := by
 have H : (if a0 ≥ a1 then (some (decide (a0 ≤ a2))) else (some false)) = some r := h
 clear h
 by_cases c4 : a0 ≥ a1
 ·
  rw [if_pos c4] at H
  have c4b0 : decide (a1 ≤ a0) = true := decide_eq_true c4
  clear c4
  obtain rfl := Option.some.inj H
  go_enter Try.func35, Try.ntmps35
  go_wp2
  go_ret
  exact ⟨by first | rfl | (simp; done) | (simp [*]; done), drw⟩
 ·
  rw [if_neg c4] at H
  have c4b0 : decide (a1 ≤ a0) = false := decide_eq_false c4
  clear c4
  obtain rfl := Option.some.inj H
  go_enter Try.func35, Try.ntmps35
  go_wp2
  go_ret
  exact ⟨by first | rfl | (simp; done) | (simp [*]; done), drw⟩

/-! ### impl_Entry_69: function 69 -/
def impl_Entry_69.f (l0 : List (S51)) : Option ((List (S51))) := (some (([] : List (S51)) : List (S51))).bind fun y312 => (if y312.length + l0.length < 2932031007402 then (some (y312 ++ l0)) else (none))
set_option maxHeartbeats 8000000 in
set_option maxRecDepth 100000 in
theorem impl_Entry_69.calls (P0_ : Nat → Prop) (A0 : Option Addr) (c0 : Nat) (l0 : List (S51)) (r : List (S51)) (w : World) (hs0 : Kd.V k51 51 w w.heap.size (fun k_ => P0_ k_) (.slice A0 l0.length c0) l0) (h : impl_Entry_69.f l0 = some r) :
  Calls Try.prog 69 #[.slice A0 l0.length c0] w fun e w' => ∃ v0_ : Value, e = .returned (v0_) ∧ Kd.N k51 51 w' w.heap.size (fun k_ => (P0_ k_ ∨ w.heap.size ≤ k_)) v0_ r ∧ Below w.heap.size w w' := by
 cases hnil_ : A0.isNone
 rotate_left
 ·
  have hA_ : A0 = none := by cases A0 <;> simp_all
  subst hA_
  have hl_ : l0 = [] := nilList (Kd.V_reads' hs0).2.2
  subst hl_
  have hr_ : r = [] := by simpa [impl_Entry_69.f] using h.symm
  subst hr_
  have hq_ := fun (w : World) (c : Nat) => Lib.run_eql_slice_nil (P := Try.prog) w 27 51 none 0 c 0 0 Try.underlying27
  go_enter Try.func69, Try.ntmps69
  go_wp2
  go_ret
  exact ⟨_, rfl, by first | exact Kd.R_nil _ _ _ _ _ | exact Kd.S_nil _ _ _ _ _ | exact Kd.N_nil _ _ _ _ _ | exact Kd.V_nil _ _ _ _ _, Below.refl _ _⟩
 have hq_ := fun (w : World) => (Lib.run_eql_slice_nil (P := Try.prog) w 27 51 A0 l0.length c0 0 0 Try.underlying27).trans (by rw [hnil_])
 clear hnil_
 have HO0 := Aside0.mk (show Kd.V k51 51 w w.heap.size (fun k_ => (P0_ k_ ∨ w.heap.size ≤ k_)) (.slice A0 l0.length c0) l0 from Kd.V_mono hs0 (fun k_ hk => .inl hk))
 have HB := Aside0.mk (Below.refl w.heap.size w)
 have H : ((some (([] : List (S51)) : List (S51))).bind fun y312 => (if y312.length + l0.length < 2932031007402 then (some (y312 ++ l0)) else (none))) = some r := h
 clear h
 obtain ⟨y312, hy312⟩ : ∃ y_ : List (S51), y_ = (([] : List (S51))) := ⟨_, rfl⟩
 replace H : (if y312.length + l0.length < 2932031007402 then (some (y312 ++ l0)) else (none)) = some r := by first | (rw [hy312]; with_reducible exact H) | (have H2_ := (Option.bind_some _ _).symm.trans H; rw [hy312]; with_reducible exact H2_) | (have H2_ := (Option.bind_some _ _).symm.trans H; with_reducible exact H2_) | with_reducible exact H | (rw [hy312]; exact H) | exact H
 have Ny312 := Aside0.mk hy312
 clear hy312
 by_cases c2 : y312.length + l0.length < 2932031007402
 ·
  rw [if_pos c2] at H
  have LMc2 := Aside0.mk c2
  clear c2
  obtain ⟨y315, hy315⟩ : ∃ y_ : List (S51), y_ = (y312 ++ l0) := ⟨_, rfl⟩
  replace H : (some y315) = some r := by first | (rw [hy315]; with_reducible exact H) | (have H2_ := (Option.bind_some _ _).symm.trans H; rw [hy315]; with_reducible exact H2_) | (have H2_ := (Option.bind_some _ _).symm.trans H; with_reducible exact H2_) | with_reducible exact H | (rw [hy315]; exact H) | exact H
  have Ny315 := Aside0.mk hy315
  clear hy315
  obtain rfl := Option.some.inj H
  go_enter Try.func69, Try.ntmps69
  go_wp2_with (first | ((with_reducible refine gate_dst (N := 5) rfl ?_); refine Kd.N_lit k51 _ 51 ?hg (N' := 5) ?hd (xs := ([] : List (S51))) (inner := []) (ok := (fun k_ => (P0_ k_ ∨ w.heap.size ≤ k_))) (okp := (fun k_ => (P0_ k_ ∨ w.heap.size ≤ k_))) ?hr ?hp (fun _ hk => hk) ((show ∀ k_, w.heap.size ≤ k_ → (fun k_ => (P0_ k_ ∨ w.heap.size ≤ k_)) k_ from fun k_ hk => (.inr (Nat.le_trans (below_size (bel HB)) hk))) _ (Nat.le_refl _)) (Below.refl _ _) (Nat.le_refl _) (by simp) ?_; (case hd => rfl); (case hg => rfl); (case hr => first | (go_simp; done) | (go_simp; rfl)); (case hp => exact (Reps.none _ _)); intro v313 w3 ho4 hb hg_ hnew_; clear hg_ hnew_; (first | rw [← Ny312.out] at ho4 | (simp only [Int.reduceToNat] at ho4; rw [← Ny312.out] at ho4)); replace HO0 := Aside0.mk (Kd.V_elder' (mV HO0) (Kd.N_base ho4) hb); have HO314 := Aside0.mk (Kd.N_lower ho4 (below_size (bel HB))); replace HB := bS HB hb; clear hb ho4) | ((with_reducible refine gate_builtin (b := .append) (xs := #[.tmp 5, .tmp 6]) rfl ?_); at_builtin; refine Kd.N_append_rows k51 (w0 := w) w.heap.size rfl (.tmp 5) (.tmp 6) 27 51 (.agg #[(.int .i64 0), (.int .i64 0), (.int .i64 0), (.slice none 0 0)]) 48 rfl Try.underlying27 info51 rfl (by decide) (by omega) v313 y312 l0 _ _ _ (fun k_ => (P0_ k_ ∨ w.heap.size ≤ k_)) (fun k_ => ((fun k_ => (P0_ k_ ∨ w.heap.size ≤ k_))) k_ ∧ some k_ ≠ (v313 : Value).ownBlock) rfl rfl ?aO ?aR (fun _ hk => hk) ?aF ?aB ?aS ?aL ?_; (case aR => exact (by skip; exact Kd.V_F (Kd.V_mono (ok' := (fun k_ => ((fun k_ => (P0_ k_ ∨ w.heap.size ≤ k_))) k_ ∧ some k_ ≠ (v313 : Value).ownBlock)) (HO0.out) (fun k_ hk => ⟨hk.1, hk.2⟩)))); (case aB => exact (bel HB)); (case aF => exact (fun k_ hk => (.inr (Nat.le_trans (below_size (bel HB)) hk)))); (case aO => exact (mN HO314)); (case aS => exact (below_size (bel HB))); (case aL => have := LMc2.out; omega); intro v316 w5 ho hb hg hat; rw [← Ny315.out] at ho; replace HO0 := Aside0.mk (Kd.V_afterv (ok := (fun k_ => (P0_ k_ ∨ w.heap.size ≤ k_))) (mV HO0) hg hat); replace HB := Aside0.mk hb; have HO317 := Aside0.mk ho; clear HO314; clear ho hb hg hat))
  go_ret
  exact ⟨_, by first | rfl | (simp [errW_none, errW_some] <;> rfl) | (simp [*, errW_none, errW_some] <;> rfl), by (with_reducible repeat (first | apply Kd.N_alloc | apply Kd.N_drewN | apply Kd.N_drew)); exact HO317.out, bel HB⟩
 ·
  rw [if_neg c2] at H
  exact absurd H (by simp)

/-! ### slices_Clone_byte_byte: function 70 -/
def slices_Clone_byte_byte.f (l0 : List Int) : Option (List Int) := (some (([] : List Int) : List Int)).bind fun y318 => (if y318.length + l0.length < 140737488355328 then (some (y318 ++ l0)) else (none))
set_option maxHeartbeats 8000000 in
set_option maxRecDepth 100000 in
theorem slices_Clone_byte_byte.calls (A0 : Option Addr) (c0 : Nat) (l0 : List Int) (r : List Int) (w : World) (hr0 : Kd.C (Kd.int .u8) w A0 l0.length l0) (hc0 : l0.length ≤ c0) (h : slices_Clone_byte_byte.f l0 = some r) :
  Calls Try.prog 70 #[.slice A0 l0.length c0] w fun e w' => ∃ v0_ : Value, e = .returned (v0_) ∧ Kd.R (Kd.int .u8) 5 w' w.heap.size (fun _ => True) v0_ r ∧ Below w.heap.size w w' := by
 cases hnil_ : A0.isNone
 rotate_left
 ·
  have hA_ : A0 = none := by cases A0 <;> simp_all
  subst hA_
  have hl_ : l0 = [] := nilList hr0
  subst hl_
  have hr_ : r = [] := by simpa [slices_Clone_byte_byte.f] using h.symm
  subst hr_
  have hq_ := fun (w : World) (c : Nat) => Lib.run_eql_slice_nil (P := Try.prog) w 40 5 none 0 c 0 0 Try.underlying40
  go_enter Try.func70, Try.ntmps70
  go_wp2
  go_ret
  exact ⟨_, rfl, by first | exact Kd.R_nil _ _ _ _ _ | exact Kd.S_nil _ _ _ _ _ | exact Kd.N_nil _ _ _ _ _ | exact Kd.V_nil _ _ _ _ _, Below.refl _ _⟩
 have hq_ := fun (w : World) => (Lib.run_eql_slice_nil (P := Try.prog) w 40 5 A0 l0.length c0 0 0 Try.underlying40).trans (by rw [hnil_])
 clear hnil_
 have HR0 := Aside0.mk hr0
 have HC0 := Aside0.mk hc0
 clear hr0 hc0
 have HB := Aside0.mk (Below.refl w.heap.size w)
 have H : ((some (([] : List Int) : List Int)).bind fun y318 => (if y318.length + l0.length < 140737488355328 then (some (y318 ++ l0)) else (none))) = some r := h
 clear h
 obtain ⟨y318, hy318⟩ : ∃ y_ : List Int, y_ = (([] : List Int)) := ⟨_, rfl⟩
 replace H : (if y318.length + l0.length < 140737488355328 then (some (y318 ++ l0)) else (none)) = some r := by first | (rw [hy318]; with_reducible exact H) | (have H2_ := (Option.bind_some _ _).symm.trans H; rw [hy318]; with_reducible exact H2_) | (have H2_ := (Option.bind_some _ _).symm.trans H; with_reducible exact H2_) | with_reducible exact H | (rw [hy318]; exact H) | exact H
 have Ny318 := Aside0.mk hy318
 clear hy318
 by_cases c2 : y318.length + l0.length < 140737488355328
 ·
  rw [if_pos c2] at H
  have LMc2 := Aside0.mk c2
  clear c2
  obtain ⟨y321, hy321⟩ : ∃ y_ : List Int, y_ = (y318 ++ l0) := ⟨_, rfl⟩
  replace H : (some y321) = some r := by first | (rw [hy321]; with_reducible exact H) | (have H2_ := (Option.bind_some _ _).symm.trans H; rw [hy321]; with_reducible exact H2_) | (have H2_ := (Option.bind_some _ _).symm.trans H; with_reducible exact H2_) | with_reducible exact H | (rw [hy321]; exact H) | exact H
  have Ny321 := Aside0.mk hy321
  clear hy321
  obtain rfl := Option.some.inj H
  go_enter Try.func70, Try.ntmps70
  go_wp2_with (first | ((with_reducible refine gate_dst (N := 5) rfl ?_); refine Kd.R_lit (Kd.int .u8) _ 5 ?hg (N := 5) ?hd (xs := ([] : List Int)) (inner := []) (ok := fun _ => True) (okp := fun _ => True) ?hr ?hp (fun _ hk => hk) trivial (Below.refl _ _) (Nat.le_refl _) (by simp) ?_; (case hd => rfl); (case hg => rfl); (case hr => first | (go_simp; done) | (go_simp; rfl)); (case hp => exact (Reps.none _ _)); intro v319 w3 ho4 hb hg_ hnew_; clear hg_ hnew_; (first | rw [← Ny318.out] at ho4 | (simp only [Int.reduceToNat] at ho4; rw [← Ny318.out] at ho4)); have HO320 := Aside0.mk (Kd.R_lower ho4 (below_size (bel HB))); replace HB := bS HB hb; clear hb ho4) | ((with_reducible refine gate_builtin (b := .append) (xs := #[.tmp 5, .tmp 6]) rfl ?_); at_builtin; refine Kd.R_append_rows (Kd.int .u8) (w0 := w) w.heap.size rfl (.tmp 5) (.tmp 6) 40 5 (.int .u8 0) 1 rfl Try.underlying40 info5 rfl (by decide) (by omega) v319 y318 l0 _ _ _ (fun _ => True) (fun _ => False) rfl rfl ?aO ?aR (fun _ _ h => h) (fun _ h => h.elim) ?aF ?aB ?aS ?aL ?_; (case aR => repeat (first | exact (Kd.C_below HR0.out HB.out) | (with_reducible refine Kd.C_alloc ?_ _) | (with_reducible refine Kd.C_drewN ?_ _) | (with_reducible refine Kd.C_drew ?_))); (case aB => exact (bel HB)); (case aF => exact (fun _ _ => trivial)); (case aO => exact (mR HO320)); (case aS => exact (below_size (bel HB))); (case aL => have := LMc2.out; omega); intro v322 w5 ho hb hg hat; rw [← Ny321.out] at ho; replace HB := Aside0.mk hb; have HO323 := Aside0.mk ho; clear HO320; clear ho hb hg hat))
  go_ret
  exact ⟨_, by first | rfl | (simp [errW_none, errW_some] <;> rfl) | (simp [*, errW_none, errW_some] <;> rfl), by (with_reducible repeat (first | apply Kd.R_alloc | apply Kd.R_drewN | apply Kd.R_drew)); exact HO323.out, bel HB⟩
 ·
  rw [if_neg c2] at H
  exact absurd H (by simp)

/-! ### impl_copiedEntries: function 56 -/
def impl_copiedEntries.f (l0 : List S51) : Option (List S51) := if l0.length < 2932031007402 ∧ (∀ x ∈ l0, x.f1.f2.length < 140737488355328) then some l0 else none
/-- What holds ahead of round i: the copies below i have bytes of their own (f tells whose a block is), the others lead to what came in. -/
def impl_copiedEntries.Inv (l0 : List S51) (base : Nat) (v : Value) (i : Nat) (W : World) : Prop :=
 ∃ (rows : List (List Value)) (f : Nat → Nat), rows.length = l0.length ∧ (Kd.raw 4).R 51 W base (fun _ => True) v rows ∧
  ∀ (j : Nat) (x : S51) (c : List Value), l0[j]? = some x → rows[j]? = some c → (j < i → k51.M W base (fun k => some k ≠ v.ownBlock ∧ f k = j) x c) ∧ (i ≤ j → Kd.FK k51 W (fun k => some k ≠ v.ownBlock) x c)
theorem impl_copiedEntries.inv_start {l0 : List S51} {w1 : World} {base : Nat} {ok : Nat → Prop} {v : Value} (h : Kd.N k51 51 w1 base ok v l0) : impl_copiedEntries.Inv l0 base v 0 w1 := by
 obtain ⟨_, rows, hl, hR, hf⟩ := h
 exact ⟨rows, fun _ => 0, hl, Kd.R_mono hR (fun _ _ => trivial), fun j x c hx hc => ⟨fun h => absurd h (Nat.not_lt_zero _), fun _ => Kd.FK_mono (hf j x c hx hc) (fun _ hk => hk.2)⟩⟩
theorem impl_copiedEntries.inv_end {l0 : List S51} {W : World} {base : Nat} {v : Value} {i : Nat} (h : impl_copiedEntries.Inv l0 base v i W) (hi : l0.length ≤ i) : Kd.S k51 51 W base (fun _ => True) v l0 := by
 obtain ⟨rows, f, hl, hR, hall⟩ := h
 obtain ⟨_, inner, ho, hr⟩ := hR
 refine ⟨f, fun _ _ => trivial, inner, by rw [List.length_zipIdx, ← hl]; exact ho, by have := hr.1; rw [hl] at this; rw [List.length_zipIdx]; exact this, fun j p hj => ?_⟩
 rw [List.getElem?_zipIdx, Nat.zero_add] at hj
 obtain ⟨x, hx, rfl⟩ := Option.map_eq_some_iff.1 hj
 have hjl : j < l0.length := (List.getElem?_eq_some_iff.1 hx).1
 have hc : rows[j]? = some (rows[j]'(by omega)) := List.getElem?_eq_getElem (by omega)
 have h1 := (hall j x _ hx hc).1 (by omega)
 have h2 : (inner.drop (j * 4)).take 4 = rows[j]'(by omega) := (hr.2 j _ hc).1
 show k51.M W base _ x ((inner.drop (j * 4)).take 4)
 rw [h2]
 exact k51.M_mono (fun k hk => ⟨⟨trivial, hk.1⟩, hk.2⟩) h1
/-- Element i's cells, and what they lead to. -/
theorem impl_copiedEntries.inv_at {l0 : List S51} {W : World} {base g n cap : Nat} {i : Int} (h : impl_copiedEntries.Inv l0 base (.slice (some ⟨g, 0, none⟩) n cap) i.toNat W) (h0 : 0 ≤ i) (h1 : i < (l0.length : Int)) (hn : n = l0.length) :
  ∃ A c, W.cell? ⟨g, i.toNat * 4, none⟩ = some (.int .i64 (rd_T51 l0 i).f0) ∧ W.cell? ⟨g, i.toNat * 4 + 1, none⟩ = some (.int .i64 (rd_T51 l0 i).f1.f0) ∧ W.cell? ⟨g, i.toNat * 4 + 2, none⟩ = some (.int .i64 (rd_T51 l0 i).f1.f1) ∧ W.cell? ⟨g, i.toNat * 4 + 3, none⟩ = some (.slice A (rd_T51 l0 i).f1.f2.length c) ∧
   W.frozen? ⟨g, i.toNat * 4 + 3, none⟩ = false ∧ (rd_T51 l0 i).f1.f2.length ≤ c ∧ (Kd.int .u8).C W A (rd_T51 l0 i).f1.f2.length (rd_T51 l0 i).f1.f2 := by
 obtain ⟨rows, f, hl, hR, hall⟩ := h
 obtain ⟨c, hcl, hM, hcc, hfr⟩ := Kd.R_elem hR [] i h0 (by omega)
 have hil : i.toNat < l0.length := by omega
 have hx : l0[i.toNat]? = some (rd_T51 l0 i) := by
  unfold rd_T51
  rw [List.getD_eq_getElem?_getD, List.getElem?_eq_getElem hil]; rfl
 have hc : rows[i.toNat]? = some c := by
  have h2 : c = rows.getD i.toNat [] := hM.1
  rw [h2, List.getD_eq_getElem?_getD, List.getElem?_eq_getElem (by omega)]; rfl
 obtain ⟨A, cc, hcs, hlen, hC⟩ := k51_open (Kd.FK_now ((hall _ _ _ hx hc).2 (Nat.le_refl _)))
 subst hcs
 exact ⟨A, cc, hcc 0 _ rfl, hcc 1 _ rfl, hcc 2 _ rfl, hcc 3 _ rfl, hfr 3, hlen, hC⟩
theorem impl_copiedEntries.inv_below {l0 : List S51} {W W2 : World} {base : Nat} {v : Value} {i : Nat} (h : impl_copiedEntries.Inv l0 base v i W) (hb : Below W.heap.size W W2) : impl_copiedEntries.Inv l0 base v i W2 := by
 obtain ⟨rows, f, hl, hR, hall⟩ := h
 exact ⟨rows, f, hl, Kd.R_below hR hb, fun j x c hx hc => ⟨fun hj => Kd.M_below ((hall j x c hx hc).1 hj) hb, fun hj => Kd.FK_step ((hall j x c hx hc).2 hj) (fun k _ hlt => hb.block k hlt)⟩⟩
/-- The round's store. -/
theorem impl_copiedEntries.inv_step {l0 : List S51} {W W2 : World} {base g n cap b2 : Nat} {i : Int} {v5 : Value} (h : impl_copiedEntries.Inv l0 base (.slice (some ⟨g, 0, none⟩) n cap) i.toNat W) (hb : Below W.heap.size W W2) (h0 : 0 ≤ i) (h1 : i < (l0.length : Int)) (hn : n = l0.length) (hbase : base ≤ W.heap.size) (hb2 : W.heap.size ≤ b2)
  (h5 : (Kd.int .u8).R 5 W2 b2 (fun _ => True) v5 (rd_T51 l0 i).f1.f2) : impl_copiedEntries.Inv l0 base (.slice (some ⟨g, 0, none⟩) n cap) (i + 1).toNat (W2.setCell ⟨g, i.toNat * 4 + 3, none⟩ v5) := by
 have hsave := h
 obtain ⟨rows, f, hl, hR, hall⟩ := h
 have hglt : g < W.heap.size := Kd.R_lt hR g (by simp [Value.ownBlock])
 have hR2 := Kd.R_below hR hb
 obtain ⟨c, hcl, hM, hcc, hfr⟩ := Kd.R_elem hR2 [] i h0 (by omega)
 have hil : i.toNat < l0.length := by omega
 have hx : l0[i.toNat]? = some (rd_T51 l0 i) := by
  unfold rd_T51
  rw [List.getD_eq_getElem?_getD, List.getElem?_eq_getElem hil]; rfl
 have hc : rows[i.toNat]? = some c := by
  have h2 : c = rows.getD i.toNat [] := hM.1
  rw [h2, List.getD_eq_getElem?_getD, List.getElem?_eq_getElem (by omega)]; rfl
 obtain ⟨A, cc, hcs, hlen, hC⟩ := k51_open (Kd.FK_now ((hall _ _ _ hx hc).2 (Nat.le_refl _)))
 have hone : v5.oneCell' = true := (Kd.R_val h5).2
 subst hcs
 obtain ⟨hR3, _⟩ := Kd.R_seg (d := Kd.raw 4) hR2 i h0 (by omega) (c := [.int .i64 (rd_T51 l0 i).f0, .int .i64 (rd_T51 l0 i).f1.f0, .int .i64 (rd_T51 l0 i).f1.f1, .slice A (rd_T51 l0 i).f1.f2.length cc]) (seg := [v5]) (j := 3) (okp := fun _ => False) (x' := [.int .i64 (rd_T51 l0 i).f0, .int .i64 (rd_T51 l0 i).f1.f0, .int .i64 (rd_T51 l0 i).f1.f1, v5]) hcl hcc (by show 3 + 1 ≤ 4; omega)
  ⟨rfl, rfl, fun u hu => by
   rcases List.mem_cons.1 hu with rfl | hu
   ·
    rfl
   rcases List.mem_cons.1 hu with rfl | hu
   ·
    rfl
   rcases List.mem_cons.1 hu with rfl | hu
   ·
    rfl
   rcases List.mem_cons.1 hu with rfl | hu
   ·
    exact hone
   cases hu⟩ (fun _ hk => hk.elim)
 have e1 : (i + 1).toNat = i.toNat + 1 := by omega
 refine ⟨rows.set i.toNat [.int .i64 (rd_T51 l0 i).f0, .int .i64 (rd_T51 l0 i).f1.f0, .int .i64 (rd_T51 l0 i).f1.f1, v5], fun k => if W.heap.size ≤ k then i.toNat else f k, by rw [List.length_set]; exact hl, hR3, fun j x cj hj hcj => ?_⟩
 rw [e1]
 have hset : ∀ k, k ≠ g → (W2.setCell ⟨g, i.toNat * 4 + 3, none⟩ v5).heap[k]? = W2.heap[k]? := fun k hk => Below.heap_setCell W2 ⟨g, i.toNat * 4 + 3, none⟩ v5 k hk
 by_cases hji : j = i.toNat
 ·
  subst hji
  rw [List.getElem?_set_self (by omega)] at hcj
  injection hcj with hcj
  rw [hx] at hj
  injection hj with hj
  subst hj
  subst hcj
  refine ⟨fun _ => ?_, fun h => by omega⟩
  refine k51_mkM _ _ _ _ (Kd.R_lower (Kd.R_mono (Kd.R_far (Kd.R_mono (ok' := fun k => W.heap.size ≤ k) (Kd.R_bound h5) (fun k hk => Nat.le_trans hb2 hk.2.1)) (p := ⟨g, i.toNat * 4 + 3, none⟩) (fun k hk => by show k ≠ g; omega) v5) (fun k hk => ⟨fun he => ?_, if_pos hk⟩)) (Nat.le_trans hbase hb2))
  simp [Value.ownBlock] at he
  omega
 ·
  rw [List.getElem?_set_ne (Ne.symm hji)] at hcj
  have h3 := hall j x cj hj hcj
  refine ⟨fun hlt => ?_, fun hle => Kd.FK_step (h3.2 (by omega)) (fun k hk hlt => ?_)⟩
  have h4 := k51.M_bound (h3.1 (by omega))
  refine k51.M_mono (fun k hk => ⟨hk.1.1, ?_⟩) (k51.M_move (fun k hk => ?_) h4)
  ·
   show (if W.heap.size ≤ k then i.toNat else f k) = j
   rw [if_neg (by have := hk.2.2.1; omega)]; exact hk.1.2
  ·
   have hkg : k ≠ g := fun he => hk.1.1 (by simp [Value.ownBlock, he])
   rw [hset k hkg]
   exact hb.block k hk.2.2.1
  ·
   rw [hset k (fun he => hk (by simp [Value.ownBlock, he]))]
   exact hb.block k hlt
set_option maxHeartbeats 8000000 in
set_option maxRecDepth 100000 in
theorem impl_copiedEntries.calls (A0 : Option Addr) (c0 : Nat) (l0 : List (S51)) (r : List (S51)) (w : World) (hr0 : Kd.C k51 w A0 l0.length l0) (hc0 : l0.length ≤ c0) (h : impl_copiedEntries.f l0 = some r) :
  Calls Try.prog 56 #[.slice A0 l0.length c0] w fun e w' => ∃ v0_ : Value, e = .returned (v0_) ∧ Kd.S k51 51 w' w.heap.size (fun _ => True) v0_ r ∧ Below w.heap.size w w' := by
 have hu51 := Try.underlying51
 have hu49 := Try.underlying49
 have hb : (l0.length < 2932031007402 ∧ (∀ x ∈ l0, x.f1.f2.length < 140737488355328)) ∧ l0 = r := by
  unfold impl_copiedEntries.f at h
  split at h
  ·
   rename_i hh; exact ⟨hh, Option.some.inj h⟩
  ·
   cases h
 obtain ⟨⟨hb1, hb2⟩, rfl⟩ := hb
 clear h
 have HB2 := Aside0.mk hb2
 clear hb2
 have hV : Kd.V k51 51 w w.heap.size (fun k_ => k_ < w.heap.size) (.slice A0 l0.length c0) l0 := Kd.V_mk hc0 (Kd.F_mono (Kd.C_F k51_heap hr0) (fun k hk => hk))
 have HV := Aside0.mk hV
 clear hV hr0 hc0
 have HF := Aside0.mk (show impl_Entry_69.f l0 = some l0 by unfold impl_Entry_69.f; simp only [Option.bind_some, List.length_nil, Nat.zero_add, List.nil_append]; rw [if_pos hb1])
 have HLB := Aside0.mk hb1
 clear hb1
 have HB := Aside0.mk (Below.refl w.heap.size w)
 go_enter Try.func56, Try.ntmps56
 go_wp2_with (first | ((with_reducible refine gate_callee (f := 69) rfl ?_); refine goA (some 7) rfl rfl Try.func69 rfl #[.slice A0 l0.length c0] rfl ?_; (refine (impl_Entry_69.calls (fun k_ => k_ < w.heap.size) _ _ l0 l0 _ ?side1 HF.out).mono ?_); (case side1 => exact HV.out); rintro e w1 ⟨v1, rfl, ho1, hb1⟩; refine ⟨_, rfl, ?_⟩; have HI := Aside0.mk (impl_copiedEntries.inv_start ho1); have HL := Aside0.mk (Kd.N_reads ho1); have HB1 := Aside0.mk hb1; have HN1 := Aside0.mk (Kd.N_base ho1); clear ho1 hb1; obtain ⟨A1, c1, rfl, hc1, _⟩ := HL.out; clear HL; have HC1 := Aside0.mk hc1; clear hc1))
 go_loopg [10] l0.length (fun kq v10 w' => ∃ (z : Int), v10 = .int .i64 z ∧ Aside0 (0 ≤ z) ∧ Aside0 (z + kq = l0.length) ∧ Aside0 (impl_copiedEntries.Inv l0 w.heap.size (.slice A1 l0.length c1) z.toNat w') ∧ Aside0 (Below w.heap.size w w'))
 case atStart => exact ⟨0, rfl, ⟨by omega⟩, ⟨by omega⟩, HI, HB1⟩
 case round =>
  obtain ⟨z, rfl, HZ, HM, HI2, HB3⟩ := hrel
  clear HI HB HB1
  by_cases c4 : z < (l0.length : Int)
  ·
   have c4b0 : decide (z < (l0.length : Int)) = true := decide_eq_true c4
   have HC4 := Aside0.mk c4
   clear c4
   have p4 : (0 ≤ z) = True := eq_true HZ.out
   have q4 : (z < (l0.length : Int)) = True := eq_true HC4.out
   have hform : ∃ g, A1 = some ⟨g, 0, none⟩ ∧ w.heap.size ≤ g := by
    obtain ⟨rows, f, hl, hR, _⟩ := HI2.out
    obtain ⟨g, cap, he, hg, _⟩ := Kd.R_form hR (by have := HC4.out; have := HZ.out; omega)
    injection he with e1 _ _
    exact ⟨g, e1, hg⟩
   obtain ⟨g, rfl, hg⟩ := hform
   have GEg := Aside0.mk hg
   clear hg
   obtain ⟨A3, c3, hx0, hx1, hx2, hx3, hf3, hl3, hC3⟩ := impl_copiedEntries.inv_at HI2.out HZ.out HC4.out rfl
   have HL3 := Aside0.mk hl3
   have HR3 := Aside0.mk hC3
   clear hl3 hC3
   have HFB := Aside0.mk (show slices_Clone_byte_byte.f (rd_T51 l0 z).f1.f2 = some (rd_T51 l0 z).f1.f2 by
    have hm : rd_T51 l0 z ∈ l0 := by
     have := HC4.out
     have := HZ.out
     unfold rd_T51
     rw [List.getD_eq_getElem?_getD, List.getElem?_eq_getElem (by omega)]
     exact List.getElem_mem _
    unfold slices_Clone_byte_byte.f; simp only [Option.bind_some, List.length_nil, Nat.zero_add, List.nil_append]; rw [if_pos (HB2.out _ hm)])
   have HBr := Aside0.mk (Below.refl wr.heap.size wr)
   have HB4 := HB3
   go_wp2_with (first | ((with_reducible refine gate_dst (N := 5) rfl ?_); refine boxE #[.int .i64 0, .int .i64 0, .int .i64 0, .slice none 0 0] 51 (N := 5) rfl rfl ?_; intro gb hg w3 hbox hb; have BKb := Aside0.mk hbox; have GEb := gZ HBr hg; have GEw := gZ HB3 hg; replace HBr := bS HBr hb; replace HB3 := bS HB3 hb; clear hbox hb hg; have hzb := cl4 BKb) | ((with_reducible refine gate_callee (f := 70) rfl ?_); refine goA (some 20) rfl rfl Try.func70 rfl #[.slice A3 (rd_T51 l0 z).f1.f2.length c3] rfl ?_; (with_reducible refine (slices_Clone_byte_byte.calls _ _ (rd_T51 l0 z).f1.f2 (rd_T51 l0 z).f1.f2 _ ?side1 ?side2 HFB.out).mono ?_); (case side1 => exact Kd.C_below HR3.out (bel HBr)); (case side2 => exact HL3.out); rintro e w5 ⟨v5, rfl, ho5, hb5⟩; refine ⟨_, rfl, ?_⟩; have HSZ := Aside0.mk (below_size (bel HBr) : wr.heap.size ≤ _); have HO5 := Aside0.mk ho5; replace HBr := bS HBr hb5; replace HB3 := bS HB3 hb5; clear ho5 hb5; obtain ⟨A5, c5, rfl⟩ := Kd.R_slice HO5.out; obtain ⟨A6, c6, hy0, hy1, hy2, hy3, hy4, _, _⟩ := impl_copiedEntries.inv_at (impl_copiedEntries.inv_below HI2.out HBr.out) HZ.out HC4.out rfl))
   have hw : wrap64 (z + 1) = z + 1 := by have := HZ.out; have := HC4.out; have := HLB.out; unfold wrap64; omega
   have HW := Aside0.mk hw
   clear hw
   go_roundg (gk - 1)
   case measure => have := HM.out; have := HC4.out; omega
   case rel => exact ⟨wrap64 (z + 1), rfl, ⟨by rw [HW.out]; have := HZ.out; omega⟩, ⟨by rw [HW.out]; have := HM.out; have := HC4.out; omega⟩, ⟨by rw [HW.out]; exact impl_copiedEntries.inv_step HI2.out HBr.out HZ.out HC4.out rfl (below_size HB4.out) (by simpa [World.setCell] using HSZ.out) HO5.out⟩, ⟨bel HB3⟩⟩
  ·
   have c4b0 : decide (z < (l0.length : Int)) = false := decide_eq_false c4
   have HC4 := Aside0.mk c4
   clear c4
   go_wp2
   go_ret
   exact ⟨_, rfl, impl_copiedEntries.inv_end HI2.out (by have := HC4.out; omega), HB3.out⟩

/-! ### impl_Node_copied: function 52 -/
def impl_Node_copied.f (a0_0 : Int) (a0_1 : Bool) (a0_2 : Int) (a0_3 : Int) (l0_4 : List (S51)) (a0_5 : Int) (a0_6 : Int) (a0_7 : Int) (a0_8 : Int) : Option (Int × Bool × Int × Int × (List (S51)) × Int × Int × Int × Int) := (impl_copiedEntries.f l0_4).bind fun t326 => (some (a0_0, a0_1, a0_2, a0_3, t326, a0_5, a0_6, a0_7, a0_8))
set_option maxHeartbeats 8000000 in
set_option maxRecDepth 100000 in
theorem impl_Node_copied.calls (a0_0 : Int) (a0_1 : Bool) (a0_2 : Int) (a0_3 : Int) (A0_4 : Option Addr) (c0_4 : Nat) (l0_4 : List (S51)) (a0_5 : Int) (a0_6 : Int) (a0_7 : Int) (a0_8 : Int) (r1 : Int) (r2 : Bool) (r3 : Int) (r4 : Int) (r5 : List (S51)) (r6 : Int) (r7 : Int) (r8 : Int) (r9 : Int) (w : World) (hr0_4 : Kd.C k51 w A0_4 l0_4.length l0_4) (hc0_4 : l0_4.length ≤ c0_4) (h : impl_Node_copied.f a0_0 a0_1 a0_2 a0_3 l0_4 a0_5 a0_6 a0_7 a0_8 = some (r1, r2, r3, r4, r5, r6, r7, r8, r9)) :
  Calls Try.prog 52 #[.agg #[.int .i64 a0_0, .bool a0_1, .int .i64 a0_2, .int .i64 a0_3, .slice A0_4 l0_4.length c0_4, .int .i64 a0_5, .int .i64 a0_6, .int .i64 a0_7, .int .i64 a0_8]] w fun e w' => ∃ v4_ : Value, e = .returned (.agg #[.int .i64 r1, .bool r2, .int .i64 r3, .int .i64 r4, v4_, .int .i64 r6, .int .i64 r7, .int .i64 r8, .int .i64 r9]) ∧ Kd.S k51 51 w' w.heap.size (fun _ => True) v4_ r5 ∧ Below w.heap.size w w' := by
 have hu29 := Try.underlying29
 have HR0_4 := Aside0.mk hr0_4
 have HC0_4 := Aside0.mk hc0_4
 clear hr0_4 hc0_4
 have HB := Aside0.mk (Below.refl w.heap.size w)
 have H : ((impl_copiedEntries.f l0_4).bind fun t326 => (some (a0_0, a0_1, a0_2, a0_3, t326, a0_5, a0_6, a0_7, a0_8))) = some (r1, r2, r3, r4, r5, r6, r7, r8, r9) := h
 clear h
 replace H := Option.bind_eq_some_iff.mp H
 obtain ⟨t326, A20, H⟩ := H
 replace H : (some (a0_0, a0_1, a0_2, a0_3, t326, a0_5, a0_6, a0_7, a0_8)) = some (r1, r2, r3, r4, r5, r6, r7, r8, r9) := H
 have A2 := Aside0.mk A20
 clear A20
 simp only [Option.some.injEq, Prod.mk.injEq] at H
 obtain ⟨rfl, rfl, rfl, rfl, rfl, rfl, rfl, rfl, rfl⟩ := H
 go_enter Try.func52, Try.ntmps52
 go_wp2_with (first | ((with_reducible refine gate_dst (N := 1) rfl ?_); refine boxE #[.int .i64 a0_0, .bool a0_1, .int .i64 a0_2, .int .i64 a0_3, .slice A0_4 l0_4.length c0_4, .int .i64 a0_5, .int .i64 a0_6, .int .i64 a0_7, .int .i64 a0_8] 29 (N := 1) rfl rfl ?_; intro gb324 hg w3 hbox hb; have BK324 := Aside0.mk hbox; have GW324 := gZ HB hg; have GE324 := gZ HB hg; replace HB := bS HB hb; clear hb hbox hg) | ((with_reducible refine gate_dst (N := 2) rfl ?_); refine boxE #[.int .i64 0, .bool false, .int .i64 0, .int .i64 0, .slice none 0 0, .int .i64 0, .int .i64 0, .int .i64 0, .int .i64 0] 29 (N := 2) rfl rfl ?_; intro gb325 hg w4 hbox hb; have BK325 := Aside0.mk hbox; have GW325 := gZ HB hg; have GE325 := gZ HB hg; replace HB := bS HB hb; have NB324_325 := nL BK324 hg; have NB325_324 := nG BK324 hg; replace BK324 := bK BK324 hb; clear hb hbox hg; have hnb5 := NB324_325.out; have hnc5 := NB325_324.out; have hz6 := cl9 BK324) | ((with_reducible refine gate_callee (f := 56) rfl ?_); refine goA (some 5) rfl rfl Try.func56 rfl #[.slice A0_4 l0_4.length c0_4] rfl ?_; (with_reducible refine (impl_copiedEntries.calls _ _ l0_4 t326 _ ?side1 ?side2 A2.out).mono ?_); (case side1 => exact mC HR0_4 HB); (case side2 => exact HC0_4.out); rintro e w7 ⟨v327, rfl, ho0, hb⟩; refine ⟨_, rfl, ?_⟩; have HO328 := Aside0.mk (Kd.S_lower ho0 (below_size (bel HB))); replace BK324 := bK BK324 hb; replace BK325 := bK BK325 hb; replace HB := bS HB hb; (try clear hb); (try clear hb2); (try clear hk); (try clear hi); (try clear ho0); obtain ⟨Ao8, co8, eo8⟩ := Kd.S_slice HO328.out; subst eo8; have hz9 := cl9 BK324; have hz10 := cl9 BK325))
 refine bodyPost_ret (results_cell_row rfl _ _ gb325 29 #[.int .i64 a0_0, .bool a0_1, .int .i64 a0_2, .int .i64 a0_3, .slice Ao8 t326.length co8, .int .i64 a0_5, .int .i64 a0_6, .int .i64 a0_7, .int .i64 a0_8] (0, 0) _ rfl (mP BK325) Try.underlying29 rfl (by kernel_rfl)) rfl ?_
 exact ⟨_, by first | rfl | (simp [errW_none, errW_some] <;> rfl) | (simp [*, errW_none, errW_some] <;> rfl), by (with_reducible repeat (first | apply Kd.S_alloc | apply Kd.S_drewN | apply Kd.S_drew)); exact Kd.S_mono (Kd.S_far (p := ⟨gb325, 8, none⟩) (Kd.S_far (p := ⟨gb325, 7, none⟩) (Kd.S_far (p := ⟨gb325, 6, none⟩) (Kd.S_far (p := ⟨gb325, 5, none⟩) (Kd.S_far (p := ⟨gb325, 4, none⟩) (Kd.S_far (p := ⟨gb325, 3, none⟩) (Kd.S_far (p := ⟨gb325, 2, none⟩) (Kd.S_far (p := ⟨gb325, 1, none⟩) (Kd.S_far (p := ⟨gb325, 0, none⟩) (Kd.S_far (p := ⟨gb324, 4, none⟩) (Kd.S_types (Kd.S_types HO328.out BK324.out (by decide)) BK325.out (by decide)) (fun _ hk => hk.1.2) (.slice Ao8 t326.length co8)) (fun _ hk => hk.2) (.int .i64 a0_0)) (fun _ hk => hk.2) (.bool a0_1)) (fun _ hk => hk.2) (.int .i64 a0_2)) (fun _ hk => hk.2) (.int .i64 a0_3)) (fun _ hk => hk.2) (.slice Ao8 t326.length co8)) (fun _ hk => hk.2) (.int .i64 a0_5)) (fun _ hk => hk.2) (.int .i64 a0_6)) (fun _ hk => hk.2) (.int .i64 a0_7)) (fun _ hk => hk.2) (.int .i64 a0_8)) (fun _ hk => trivial), bel HB⟩

/-! ### impl_isNode: function 34 -/
def impl_isNode.f (a0 : Int) : Option (Bool) := (impl_in.f a0 0 1).bind fun t329 => (some t329)
set_option maxHeartbeats 8000000 in
set_option maxRecDepth 100000 in
theorem impl_isNode.calls (a0 : Int) (r : Bool) (w : World) (h : impl_isNode.f a0 = some r) :
  Calls Try.prog 34 #[.int .i64 a0] w fun e w' => e = .returned (.bool r) ∧ Drawn0 w w' := by
 have H : ((impl_in.f a0 0 1).bind fun t329 => (some t329)) = some r := h
 clear h
 replace H := Option.bind_eq_some_iff.mp H
 obtain ⟨t329, A20, H⟩ := H
 replace H : (some t329) = some r := H
 have A2 := Aside0.mk A20
 clear A20
 obtain rfl := Option.some.inj H
 go_enter Try.func34, Try.ntmps34
 go_wp2_with (first | ((with_reducible refine gate_callee (f := 35) rfl ?_); refine goA (some 4) rfl rfl Try.func35 rfl #[.int .i64 a0, .int .i64 0, .int .i64 1] rfl ?_; (with_reducible refine (impl_in.calls a0 0 1 t329 _ A2.out).mono ?_); rintro e w' ⟨rfl, ⟨nd, rfl⟩⟩; refine ⟨_, rfl, ?_⟩))
 go_ret
 exact ⟨by first | rfl | (simp; done) | (simp [*]; done), drw⟩

/-! ### impl_isEpoch: function 48 -/
def impl_isEpoch.f (a0 : Int) : Option (Bool) := (impl_in.f a0 1 1000).bind fun t330 => (some t330)
set_option maxHeartbeats 8000000 in
set_option maxRecDepth 100000 in
theorem impl_isEpoch.calls (a0 : Int) (r : Bool) (w : World) (h : impl_isEpoch.f a0 = some r) :
  Calls Try.prog 48 #[.int .i64 a0] w fun e w' => e = .returned (.bool r) ∧ Drawn0 w w' := by
 have H : ((impl_in.f a0 1 1000).bind fun t330 => (some t330)) = some r := h
 clear h
 replace H := Option.bind_eq_some_iff.mp H
 obtain ⟨t330, A20, H⟩ := H
 replace H : (some t330) = some r := H
 have A2 := Aside0.mk A20
 clear A20
 obtain rfl := Option.some.inj H
 go_enter Try.func48, Try.ntmps48
 go_wp2_with (first | ((with_reducible refine gate_callee (f := 35) rfl ?_); refine goA (some 4) rfl rfl Try.func35 rfl #[.int .i64 a0, .int .i64 1, .int .i64 1000] rfl ?_; (with_reducible refine (impl_in.calls a0 1 1000 t330 _ A2.out).mono ?_); rintro e w' ⟨rfl, ⟨nd, rfl⟩⟩; refine ⟨_, rfl, ?_⟩))
 go_ret
 exact ⟨by first | rfl | (simp; done) | (simp [*]; done), drw⟩

/-! ### impl_isPeer: function 71 -/
def impl_isPeer.f (a0 : Int) : Option (Bool) := (impl_in.f a0 0 2).bind fun t331 => (some t331)
set_option maxHeartbeats 8000000 in
set_option maxRecDepth 100000 in
theorem impl_isPeer.calls (a0 : Int) (r : Bool) (w : World) (h : impl_isPeer.f a0 = some r) :
  Calls Try.prog 71 #[.int .i64 a0] w fun e w' => e = .returned (.bool r) ∧ Drawn0 w w' := by
 have H : ((impl_in.f a0 0 2).bind fun t331 => (some t331)) = some r := h
 clear h
 replace H := Option.bind_eq_some_iff.mp H
 obtain ⟨t331, A20, H⟩ := H
 replace H : (some t331) = some r := H
 have A2 := Aside0.mk A20
 clear A20
 obtain rfl := Option.some.inj H
 go_enter Try.func71, Try.ntmps71
 go_wp2_with (first | ((with_reducible refine gate_callee (f := 35) rfl ?_); refine goA (some 4) rfl rfl Try.func35 rfl #[.int .i64 a0, .int .i64 0, .int .i64 2] rfl ?_; (with_reducible refine (impl_in.calls a0 0 2 t331 _ A2.out).mono ?_); rintro e w' ⟨rfl, ⟨nd, rfl⟩⟩; refine ⟨_, rfl, ?_⟩))
 go_ret
 exact ⟨by first | rfl | (simp; done) | (simp [*]; done), drw⟩

/-! ### impl_EventFault: function 58 -/
def impl_EventFault.j0 : Nat → Bool → Int → Int → List Int → Option (Int)
 | 0, _, _, _, _ => none
 | k + 1, x8, x333000, x333001, x333002 => if x8 = true then (some 3) else (if ((x333000 == 2) != (decide ((x333002.length : Int) > 0))) = true then (some 1) else (if (x333002.length : Int) > 60 then (some 2) else (some 0)))
def impl_EventFault.f (k : Nat) (a0_0 : Int) (a0_1 : Int) (l0_2 : List Int) : Option (Int) := (impl_in.f a0_0 1 4).bind fun t333 => (if t333 = true then ((impl_isPeer.f a0_1).bind fun t334 => (if t334 = true then (if a0_0 = 3 then (impl_EventFault.j0 k (a0_1 != 0) a0_0 a0_1 l0_2) else (impl_EventFault.j0 k false a0_0 a0_1 l0_2)) else (impl_EventFault.j0 k true a0_0 a0_1 l0_2))) else (some 1))
theorem impl_EventFault.mono_l : ∀ k, (∀ y0 y1 y2 y3, LeO (impl_EventFault.j0 k y0 y1 y2 y3) (impl_EventFault.j0 (k + 1) y0 y1 y2 y3))
 | 0 => fun _ _ _ _ r h => by simp [impl_EventFault.j0] at h
 | k + 1 => by
  have ih0 := impl_EventFault.mono_l k
  ·
   intro y0 y1 y2 y3
   unfold impl_EventFault.j0
   repeat' first
   | (with_reducible exact ih0 _ _ _ _)
   | (with_reducible exact LeO.refl _)
   | (with_reducible exact LeO.none _)
   | (with_reducible refine LeO.ite ?_ ?_)
   | (with_reducible refine LeO.bind ?_ (fun _ => ?_))
   | exact ih0 _ _ _ _
   | exact LeO.none _
   | refine LeO.ite ?_ ?_
   | refine LeO.bind ?_ (fun _ => ?_)
theorem impl_EventFault.mono : ∀ a0 a1 a2 k, LeO (impl_EventFault.f k a0 a1 a2) (impl_EventFault.f (k + 1) a0 a1 a2) := by
 intro a0 a1 a2 k
 have ih0 := impl_EventFault.mono_l k
 unfold impl_EventFault.f
 repeat' first
   | (with_reducible exact ih0 _ _ _ _)
   | (with_reducible exact LeO.refl _)
   | (with_reducible exact LeO.none _)
   | (with_reducible refine LeO.ite ?_ ?_)
   | (with_reducible refine LeO.bind ?_ (fun _ => ?_))
   | exact ih0 _ _ _ _
   | exact LeO.none _
   | refine LeO.ite ?_ ?_
   | refine LeO.bind ?_ (fun _ => ?_)
set_option maxHeartbeats 8000000 in
set_option maxRecDepth 100000 in
theorem impl_EventFault.calls (k : Nat) (a0_0 : Int) (a0_1 : Int) (A0_2 : Option Addr) (c0_2 : Nat) (l0_2 : List Int) (r : Int) (w : World) (hr0_2 : Kd.C (Kd.int .u8) w A0_2 l0_2.length l0_2) (hc0_2 : l0_2.length ≤ c0_2) (h : impl_EventFault.f k a0_0 a0_1 l0_2 = some r) :
  Calls Try.prog 58 #[.agg #[.int .i64 a0_0, .int .i64 a0_1, .slice A0_2 l0_2.length c0_2]] w fun e w' => e = .returned (.int .i64 r) ∧ Below w.heap.size w w' := by
 have hu49 := Try.underlying49
 have HR0_2 := Aside0.mk hr0_2
 have HC0_2 := Aside0.mk hc0_2
 clear hr0_2 hc0_2
 have HB := Aside0.mk (Below.refl w.heap.size w)
 have H : ((impl_in.f a0_0 1 4).bind fun t333 => (if t333 = true then ((impl_isPeer.f a0_1).bind fun t334 => (if t334 = true then (if a0_0 = 3 then (impl_EventFault.j0 k (a0_1 != 0) a0_0 a0_1 l0_2) else (impl_EventFault.j0 k false a0_0 a0_1 l0_2)) else (impl_EventFault.j0 k true a0_0 a0_1 l0_2))) else (some 1))) = some r := h
 clear h
 replace H := Option.bind_eq_some_iff.mp H
 obtain ⟨t333, A20, H⟩ := H
 replace H : (if t333 = true then ((impl_isPeer.f a0_1).bind fun t334 => (if t334 = true then (if a0_0 = 3 then (impl_EventFault.j0 k (a0_1 != 0) a0_0 a0_1 l0_2) else (impl_EventFault.j0 k false a0_0 a0_1 l0_2)) else (impl_EventFault.j0 k true a0_0 a0_1 l0_2))) else (some 1)) = some r := H
 have A2 := Aside0.mk A20
 clear A20
 by_cases c3 : t333 = true
 ·
  subst c3
  have H1 : ((impl_isPeer.f a0_1).bind fun t334 => (if t334 = true then (if a0_0 = 3 then (impl_EventFault.j0 k (a0_1 != 0) a0_0 a0_1 l0_2) else (impl_EventFault.j0 k false a0_0 a0_1 l0_2)) else (impl_EventFault.j0 k true a0_0 a0_1 l0_2))) = some r := by rw [if_pos rfl] at H; first | done | exact H
  clear H
  have H := H1
  clear H1
  have HC4 := Aside0.mk H
  clear H
  go_enter Try.func58, Try.ntmps58
  go_upto_region 3 with (first | ((with_reducible refine gate_dst (N := 1) rfl ?_); refine boxE #[.int .i64 a0_0, .int .i64 a0_1, .slice A0_2 l0_2.length c0_2] 49 (N := 1) rfl rfl ?_; intro gb332 hg w5 hbox hb; have BK332 := Aside0.mk hbox; have GW332 := gZ HB hg; have GE332 := gZ HB hg; replace HB := bS HB hb; clear hb hbox hg; have hz6 := cl3 BK332) | ((with_reducible refine gate_callee (f := 35) rfl ?_); refine goA (some 6) rfl rfl Try.func35 rfl #[.int .i64 a0_0, .int .i64 1, .int .i64 4] rfl ?_; (with_reducible refine (impl_in.calls a0_0 1 4 true _ A2.out).mono ?_); rintro e w' ⟨rfl, ⟨nd, rfl⟩⟩; refine ⟨_, rfl, ?_⟩))
  (try simp only [Act.put, List.setIfInBounds_toArray, List.set_cons_zero, List.set_cons_succ])
  go_cut [8] (fun v8 wc => ∃ (kq : Nat) (x8_3 : Bool), v8 = .bool x8_3 ∧ Aside0 (impl_EventFault.j0 kq x8_3 a0_0 a0_1 l0_2 = some r) ∧ Aside0 (kq ≤ k) ∧ Aside0 (wc.heap[gb332]? = some (.cells #[.int .i64 a0_0, .int .i64 a0_1, (.slice A0_2 l0_2.length c0_2)] 49 (0, 0))) ∧ Aside0 (Below w.heap.size w wc))
  case first =>
   have H := HC4.out
   clear HC4
   replace H := Option.bind_eq_some_iff.mp H
   obtain ⟨t334, A70, H⟩ := H
   replace H : (if t334 = true then (if a0_0 = 3 then (impl_EventFault.j0 k (a0_1 != 0) a0_0 a0_1 l0_2) else (impl_EventFault.j0 k false a0_0 a0_1 l0_2)) else (impl_EventFault.j0 k true a0_0 a0_1 l0_2)) = some r := H
   have A7 := Aside0.mk A70
   clear A70
   by_cases c8 : t334 = true
   ·
    subst c8
    have H1 : (if a0_0 = 3 then (impl_EventFault.j0 k (a0_1 != 0) a0_0 a0_1 l0_2) else (impl_EventFault.j0 k false a0_0 a0_1 l0_2)) = some r := by rw [if_pos rfl] at H; first | done | exact H
    clear H
    have H := H1
    clear H1
    by_cases c9 : a0_0 = 3
    ·
     rw [if_pos c9] at H
     have c9b0 : (a0_0 == 3) = true := beq_iff_eq.mpr c9
     have c9b1 : (a0_0 != 3) = false := bne_eq_false_iff_eq.mpr c9
     clear c9
     (first | rw [c9b0] | (simp only [i64_w, i32_w]; rw [c9b0]) | skip)
     have H' := Aside0.mk H
     clear H
     have hz10 := cl3 BK332
     go_wp2_with (first | ((with_reducible refine gate_callee (f := 71) rfl ?_); refine goA (some 11) rfl rfl Try.func71 rfl #[.int .i64 a0_1] rfl ?_; (with_reducible refine (impl_isPeer.calls a0_1 true _ A7.out).mono ?_); rintro e w' ⟨rfl, ⟨nd, rfl⟩⟩; refine ⟨_, rfl, ?_⟩))
     first | go_meet | (refine Met.intro ?_; go_step; (repeat apply Exists.intro); refine ⟨?rel, ?eqq⟩; (case eqq => (try simp only [c9b0]); rfl))
     case rel => exact ⟨_, ((a0_1 != 0)), (by first | rfl | (simp; done) | (simp [*]; done)), H', ⟨by first | omega | exact Nat.le_refl _⟩, ⟨by (with_reducible repeat (first | refine blk_drewN ?_ _ | refine blk_drew ?_ | refine blk_alloc ?_ _)); exact BK332.out⟩, ⟨bel HB⟩⟩
    ·
     rw [if_neg c9] at H
     have c9b0 : (a0_0 == 3) = false := beq_eq_false_iff_ne.mpr c9
     have c9b1 : (a0_0 != 3) = true := bne_iff_ne.mpr c9
     (first | rw [c9b0] | (simp only [i64_w, i32_w]; rw [c9b0]) | skip)
     have H' := Aside0.mk H
     clear H
     have hz11 := cl3 BK332
     go_wp2_with (first | ((with_reducible refine gate_callee (f := 71) rfl ?_); refine goA (some 11) rfl rfl Try.func71 rfl #[.int .i64 a0_1] rfl ?_; (with_reducible refine (impl_isPeer.calls a0_1 true _ A7.out).mono ?_); rintro e w' ⟨rfl, ⟨nd, rfl⟩⟩; refine ⟨_, rfl, ?_⟩))
     first | go_meet | (refine Met.intro ?_; go_step; (repeat apply Exists.intro); refine ⟨?rel, ?eqq⟩; (case eqq => (try simp only [c9b0]); rfl))
     case rel => exact ⟨_, (false), (by first | rfl | (simp; done) | (simp [*]; done)), H', ⟨by first | omega | exact Nat.le_refl _⟩, ⟨by (with_reducible repeat (first | refine blk_drewN ?_ _ | refine blk_drew ?_ | refine blk_alloc ?_ _)); exact BK332.out⟩, ⟨bel HB⟩⟩
   ·
    replace c8 := Bool.eq_false_iff.mpr c8
    subst c8
    have H1 : (impl_EventFault.j0 k true a0_0 a0_1 l0_2) = some r := by rw [if_neg (show ¬ (false = true) by decide)] at H; first | done | exact H
    clear H
    have H := H1
    clear H1
    have H' := Aside0.mk H
    clear H
    have hz12 := cl3 BK332
    go_wp2_with (first | ((with_reducible refine gate_callee (f := 71) rfl ?_); refine goA (some 11) rfl rfl Try.func71 rfl #[.int .i64 a0_1] rfl ?_; (with_reducible refine (impl_isPeer.calls a0_1 false _ A7.out).mono ?_); rintro e w' ⟨rfl, ⟨nd, rfl⟩⟩; refine ⟨_, rfl, ?_⟩))
    go_meet
    case rel => exact ⟨_, (true), (by first | rfl | (simp; done) | (simp [*]; done)), H', ⟨by first | omega | exact Nat.le_refl _⟩, ⟨by (with_reducible repeat (first | refine blk_drewN ?_ _ | refine blk_drew ?_ | refine blk_alloc ?_ _)); exact BK332.out⟩, ⟨bel HB⟩⟩
  case rest =>
   clear HC4
   try clear p2
   try clear c3
   try clear c5
   try clear c7
   try clear c8
   try clear c9
   try clear c9b0
   try clear c9b1
   try clear hz10
   try clear hz11
   try clear hz12
   try clear hz6
   obtain ⟨kq, x8_3, rfl, HA, HJ3, BK332, HB⟩ := hcut
   cases kq with
   | zero => exact absurd HA.out (by simp [impl_EventFault.j0])
   | succ kj3 =>
    have H := HA.out
    clear HA
    simp only [impl_EventFault.j0] at H
    by_cases c13 : x8_3 = true
    ·
     subst c13
     have H1 : (some 3) = some r := by rw [if_pos rfl] at H; first | done | exact H
     clear H
     have H := H1
     clear H1
     obtain rfl := Option.some.inj H
     go_wp2
     go_ret
     exact ⟨by first | rfl | (simp [errW_none, errW_some] <;> rfl) | (simp [*, errW_none, errW_some] <;> rfl), bel HB⟩
    ·
     replace c13 := Bool.eq_false_iff.mpr c13
     subst c13
     have H1 : (if ((a0_0 == 2) != (decide ((l0_2.length : Int) > 0))) = true then (some 1) else (if (l0_2.length : Int) > 60 then (some 2) else (some 0))) = some r := by rw [if_neg (show ¬ (false = true) by decide)] at H; first | done | exact H
     clear H
     have H := H1
     clear H1
     by_cases c14 : ((a0_0 == 2) != (decide ((l0_2.length : Int) > 0))) = true
     ·
      rw [if_pos c14] at H
      have c14b0 : ((a0_0 == 2) != (decide ((l0_2.length : Int) > 0))) = true := c14
      (try (have c14b1 : (!((a0_0 == 2) == (decide (0 < l0_2.length)))) = true := by simpa using c14))
      (try (have c14b2 : ((a0_0 == 2) == (decide (0 < l0_2.length))) = false := by simpa using c14))
      (try (have c14b3 : decide ((a0_0 == 2) = (decide ((l0_2.length : Int) > 0))) = false := by simpa using c14))
      (try (have c14b4 : ((a0_0 == 2) == (decide ((l0_2.length : Int) > 0))) = false := by simpa using c14))
      (try (have c14b5 : ¬ ((a0_0 == 2) = (decide ((l0_2.length : Int) > 0))) := by simpa using c14))
      clear c14
      obtain rfl := Option.some.inj H
      have hz15 := cl3 BK332
      go_wp2
      go_ret
      exact ⟨by first | rfl | (simp [errW_none, errW_some] <;> rfl) | (simp [*, errW_none, errW_some] <;> rfl), bel HB⟩
     ·
      rw [if_neg c14] at H
      have c14b0 : ((a0_0 == 2) != (decide ((l0_2.length : Int) > 0))) = false := by simpa using c14
      (try (have c14b1 : (!((a0_0 == 2) == (decide (0 < l0_2.length)))) = false := by simpa using c14))
      (try (have c14b2 : ((a0_0 == 2) == (decide (0 < l0_2.length))) = true := by simpa using c14))
      (try (have c14b3 : decide ((a0_0 == 2) = (decide ((l0_2.length : Int) > 0))) = true := by simpa using c14))
      (try (have c14b4 : ((a0_0 == 2) == (decide ((l0_2.length : Int) > 0))) = true := by simpa using c14))
      clear c14
      by_cases c16 : (l0_2.length : Int) > 60
      ·
       rw [if_pos c16] at H
       have c16b0 : decide (60 < (l0_2.length : Int)) = true := decide_eq_true c16
       have c16b1 : decide (60 < l0_2.length) = true := decide_eq_true (by omega)
       clear c16
       obtain rfl := Option.some.inj H
       have hz17 := cl3 BK332
       go_wp2
       go_ret
       exact ⟨by first | rfl | (simp [errW_none, errW_some] <;> rfl) | (simp [*, errW_none, errW_some] <;> rfl), bel HB⟩
      ·
       rw [if_neg c16] at H
       have c16b0 : decide (60 < (l0_2.length : Int)) = false := decide_eq_false c16
       have c16b1 : decide (60 < l0_2.length) = false := decide_eq_false (by omega)
       clear c16
       obtain rfl := Option.some.inj H
       have hz18 := cl3 BK332
       go_wp2
       go_ret
       exact ⟨by first | rfl | (simp [errW_none, errW_some] <;> rfl) | (simp [*, errW_none, errW_some] <;> rfl), bel HB⟩
 ·
  replace c3 := Bool.eq_false_iff.mpr c3
  subst c3
  have H1 : (some 1) = some r := by rw [if_neg (show ¬ (false = true) by decide)] at H; first | done | exact H
  clear H
  have H := H1
  clear H1
  obtain rfl := Option.some.inj H
  go_enter Try.func58, Try.ntmps58
  go_wp2_with (first | ((with_reducible refine gate_dst (N := 1) rfl ?_); refine boxE #[.int .i64 a0_0, .int .i64 a0_1, .slice A0_2 l0_2.length c0_2] 49 (N := 1) rfl rfl ?_; intro gb332 hg w19 hbox hb; have BK332 := Aside0.mk hbox; have GW332 := gZ HB hg; have GE332 := gZ HB hg; replace HB := bS HB hb; clear hb hbox hg; have hz20 := cl3 BK332) | ((with_reducible refine gate_callee (f := 35) rfl ?_); refine goA (some 6) rfl rfl Try.func35 rfl #[.int .i64 a0_0, .int .i64 1, .int .i64 4] rfl ?_; (with_reducible refine (impl_in.calls a0_0 1 4 false _ A2.out).mono ?_); rintro e w' ⟨rfl, ⟨nd, rfl⟩⟩; refine ⟨_, rfl, ?_⟩))
  go_ret
  exact ⟨by first | rfl | (simp [errW_none, errW_some] <;> rfl) | (simp [*, errW_none, errW_some] <;> rfl), bel HB⟩

/-! ### impl_EntryFault: function 36 -/
def impl_EntryFault.f (k : Nat) (a0_0 : Int) (a0_1 : Int) (a0_2 : Int) (l0_3 : List Int) : Option (Int) := (impl_isEpoch.f a0_0).bind fun t336 => (if t336 = true then ((impl_EventFault.f k a0_1 a0_2 l0_3).bind fun t337 => (some t337)) else (some 3))
theorem impl_EntryFault.mono : ∀ a0 a1 a2 a3 k, LeO (impl_EntryFault.f k a0 a1 a2 a3) (impl_EntryFault.f (k + 1) a0 a1 a2 a3) := by
 intro a0 a1 a2 a3 k
 unfold impl_EntryFault.f
 repeat' first
   | (with_reducible exact impl_EventFault.mono _ _ _ _)
   | (with_reducible exact LeO.refl _)
   | (with_reducible exact LeO.none _)
   | (with_reducible refine LeO.ite ?_ ?_)
   | (with_reducible refine LeO.bind ?_ (fun _ => ?_))
   | exact impl_EventFault.mono _ _ _ _
   | exact LeO.none _
   | refine LeO.ite ?_ ?_
   | refine LeO.bind ?_ (fun _ => ?_)
set_option maxHeartbeats 8000000 in
set_option maxRecDepth 100000 in
theorem impl_EntryFault.calls (k : Nat) (a0_0 : Int) (a0_1 : Int) (a0_2 : Int) (A0_3 : Option Addr) (c0_3 : Nat) (l0_3 : List Int) (r : Int) (w : World) (hr0_3 : Kd.C (Kd.int .u8) w A0_3 l0_3.length l0_3) (hc0_3 : l0_3.length ≤ c0_3) (h : impl_EntryFault.f k a0_0 a0_1 a0_2 l0_3 = some r) :
  Calls Try.prog 36 #[.agg #[.int .i64 a0_0, .int .i64 a0_1, .int .i64 a0_2, .slice A0_3 l0_3.length c0_3]] w fun e w' => e = .returned (.int .i64 r) ∧ Below w.heap.size w w' := by
 have hu51 := Try.underlying51
 have hu49 := Try.underlying49
 have HR0_3 := Aside0.mk hr0_3
 have HC0_3 := Aside0.mk hc0_3
 clear hr0_3 hc0_3
 have HB := Aside0.mk (Below.refl w.heap.size w)
 have H : ((impl_isEpoch.f a0_0).bind fun t336 => (if t336 = true then ((impl_EventFault.f k a0_1 a0_2 l0_3).bind fun t337 => (some t337)) else (some 3))) = some r := h
 clear h
 replace H := Option.bind_eq_some_iff.mp H
 obtain ⟨t336, A20, H⟩ := H
 replace H : (if t336 = true then ((impl_EventFault.f k a0_1 a0_2 l0_3).bind fun t337 => (some t337)) else (some 3)) = some r := H
 have A2 := Aside0.mk A20
 clear A20
 by_cases c3 : t336 = true
 ·
  subst c3
  have H1 : ((impl_EventFault.f k a0_1 a0_2 l0_3).bind fun t337 => (some t337)) = some r := by rw [if_pos rfl] at H; first | done | exact H
  clear H
  have H := H1
  clear H1
  replace H := Option.bind_eq_some_iff.mp H
  obtain ⟨t337, A40, H⟩ := H
  replace H : (some t337) = some r := H
  have A4 := Aside0.mk A40
  clear A40
  obtain rfl := Option.some.inj H
  go_enter Try.func36, Try.ntmps36
  go_wp2_with (first | ((with_reducible refine gate_dst (N := 1) rfl ?_); refine boxE #[.int .i64 a0_0, .int .i64 a0_1, .int .i64 a0_2, .slice A0_3 l0_3.length c0_3] 51 (N := 1) rfl rfl ?_; intro gb335 hg w5 hbox hb; have BK335 := Aside0.mk hbox; have GW335 := gZ HB hg; have GE335 := gZ HB hg; replace HB := bS HB hb; clear hb hbox hg; have hz6 := cl4 BK335) | ((with_reducible refine gate_callee (f := 48) rfl ?_); refine goA (some 5) rfl rfl Try.func48 rfl #[.int .i64 a0_0] rfl ?_; (with_reducible refine (impl_isEpoch.calls a0_0 true _ A2.out).mono ?_); rintro e w' ⟨rfl, ⟨nd, rfl⟩⟩; refine ⟨_, rfl, ?_⟩) | ((with_reducible refine gate_callee (f := 58) rfl ?_); refine goA (some 9) rfl rfl Try.func58 rfl #[.agg #[.int .i64 a0_1, .int .i64 a0_2, .slice A0_3 l0_3.length c0_3]] rfl ?_; (with_reducible refine (impl_EventFault.calls k a0_1 a0_2 _ _ l0_3 t337 _ ?side1 ?side2 A4.out).mono ?_); (case side1 => repeat (first | exact (Kd.C_below HR0_3.out (bel HB)) | (with_reducible refine Kd.C_alloc ?_ _) | (with_reducible refine Kd.C_drewN ?_ _) | (with_reducible refine Kd.C_drew ?_))); (case side2 => exact HC0_3.out); rintro e w7 ⟨rfl, hb⟩; refine ⟨_, rfl, ?_⟩; replace BK335 := bK BK335 hb; replace HB := bS HB hb; (try clear hb); (try clear hb2); (try clear hk); (try clear hi)))
  go_ret
  exact ⟨by first | rfl | (simp [errW_none, errW_some] <;> rfl) | (simp [*, errW_none, errW_some] <;> rfl), bel HB⟩
 ·
  replace c3 := Bool.eq_false_iff.mpr c3
  subst c3
  have H1 : (some 3) = some r := by rw [if_neg (show ¬ (false = true) by decide)] at H; first | done | exact H
  clear H
  have H := H1
  clear H1
  obtain rfl := Option.some.inj H
  go_enter Try.func36, Try.ntmps36
  go_wp2_with (first | ((with_reducible refine gate_dst (N := 1) rfl ?_); refine boxE #[.int .i64 a0_0, .int .i64 a0_1, .int .i64 a0_2, .slice A0_3 l0_3.length c0_3] 51 (N := 1) rfl rfl ?_; intro gb335 hg w8 hbox hb; have BK335 := Aside0.mk hbox; have GW335 := gZ HB hg; have GE335 := gZ HB hg; replace HB := bS HB hb; clear hb hbox hg; have hz9 := cl4 BK335) | ((with_reducible refine gate_callee (f := 48) rfl ?_); refine goA (some 5) rfl rfl Try.func48 rfl #[.int .i64 a0_0] rfl ?_; (with_reducible refine (impl_isEpoch.calls a0_0 false _ A2.out).mono ?_); rintro e w' ⟨rfl, ⟨nd, rfl⟩⟩; refine ⟨_, rfl, ?_⟩))
  go_ret
  exact ⟨by first | rfl | (simp [errW_none, errW_some] <;> rfl) | (simp [*, errW_none, errW_some] <;> rfl), bel HB⟩

/-! ### impl_Entry_37: function 37 -/
def impl_Entry_37.f (l0 : List (S51)) : Option (Int) := some (l0.length : Int)
set_option maxHeartbeats 8000000 in
set_option maxRecDepth 100000 in
theorem impl_Entry_37.calls (A0 : Option Addr) (c0 : Nat) (l0 : List (S51)) (r : Int) (w : World) (hr0 : Kd.C k51 w A0 l0.length l0) (hc0 : l0.length ≤ c0) (h : impl_Entry_37.f l0 = some r) :
  Calls Try.prog 37 #[.slice A0 l0.length c0] w fun e w' => e = .returned (.int .i64 r) ∧ Drawn0 w w' := by
 have HR0 := Aside0.mk hr0
 have HC0 := Aside0.mk hc0
 clear hr0 hc0
 have H : (some (l0.length : Int)) = some r := h
 clear h
 obtain rfl := Option.some.inj H
 go_enter Try.func37, Try.ntmps37
 go_wp2
 go_ret
 exact ⟨by first | rfl | (simp; done) | (simp [*]; done), drw⟩

end Go.Proofs.Ytgfoifkkffffgaa.PFnExactLeadNode
