-- Laid by a turned copy of the printer (wip/tools/patch_print.py)
import Derived.Test.YtgfoifkkffffgaaPFnExactMailFaultx0
import Derived.Test.YtgfoifkkffffgaaPFnExactMailFaultx6
import Derived.Test.YtgfoifkkffffgaaPFnExactMailFaultx7
import Derived.Test.YtgfoifkkffffgaaPFnExactMailFaultx8
import Derived.Test.YtgfoifkkffffgaaPFnExactMailFaultx9
namespace Go.Proofs.Ytgfoifkkffffgaa.PFnExactMailFault
open Go.RowKit Go.Proofs.YtgfoifkkffffgaaW.PrintWords Go.Proofs.YtgfoifkkffffgaaW.PrintLast Go.Proofs.YtgfoifkkffffgaaW.PrintMore
attribute [local go_sem] max2_int min2_int max_two min_two max_three min_three max_four min_four   -- for this text's walks alone
set_option linter.unusedVariables false
set_option linter.unusedSimpArgs false

/-! ### impl_MailFault: function 22 -/
mutual
def impl_MailFault.j0 : Nat → Bool → Int → Int → Int → Int → Int → Bool → Int → Int → Int → List Int → Option (Int)
 | 0, _, _, _, _, _, _, _, _, _, _, _ => none
 | k + 1, x12, x255000, x255001, x255002, x255003, x255004, x255005, x255006, x255007, x255008, x255009 => if x12 = true then (some 1) else ((impl_isEpoch.f x255002).bind fun t256 => (if t256 = true then ((impl_in.f x255003 0 100).bind fun t257 => (if t257 = true then ((impl_in.f x255004 0 1000).bind fun t258 => (impl_MailFault.j1 k (!t258) x255000 x255001 x255002 x255003 x255004 x255005 x255006 x255007 x255008 x255009)) else (impl_MailFault.j1 k true x255000 x255001 x255002 x255003 x255004 x255005 x255006 x255007 x255008 x255009))) else (impl_MailFault.j1 k true x255000 x255001 x255002 x255003 x255004 x255005 x255006 x255007 x255008 x255009)))
def impl_MailFault.j1 : Nat → Bool → Int → Int → Int → Int → Int → Bool → Int → Int → Int → List Int → Option (Int)
 | 0, _, _, _, _, _, _, _, _, _, _, _ => none
 | k + 1, x28, x255000, x255001, x255002, x255003, x255004, x255005, x255006, x255007, x255008, x255009 => if x28 = true then (some 3) else (if x255000 = 2 then (if x255005 = true then (impl_MailFault.j2 k true x255000 x255001 x255002 x255003 x255004 x255005 x255006 x255007 x255008 x255009) else (impl_MailFault.j2 k (x255004 != 0) x255000 x255001 x255002 x255003 x255004 x255005 x255006 x255007 x255008 x255009)) else (impl_MailFault.j2 k false x255000 x255001 x255002 x255003 x255004 x255005 x255006 x255007 x255008 x255009))
def impl_MailFault.j2 : Nat → Bool → Int → Int → Int → Int → Int → Bool → Int → Int → Int → List Int → Option (Int)
 | 0, _, _, _, _, _, _, _, _, _, _, _ => none
 | k + 1, x45, x255000, x255001, x255002, x255003, x255004, x255005, x255006, x255007, x255008, x255009 => if x45 = true then (some 1) else (if x255000 = 1 then (impl_MailFault.j3 k ((x255003 == 0) != (x255004 == 0)) x255000 x255001 x255002 x255003 x255004 x255005 x255006 x255007 x255008 x255009) else (impl_MailFault.j3 k false x255000 x255001 x255002 x255003 x255004 x255005 x255006 x255007 x255008 x255009))
def impl_MailFault.j3 : Nat → Bool → Int → Int → Int → Int → Int → Bool → Int → Int → Int → List Int → Option (Int)
 | 0, _, _, _, _, _, _, _, _, _, _, _ => none
 | k + 1, x58, x255000, x255001, x255002, x255003, x255004, x255005, x255006, x255007, x255008, x255009 => if x58 = true then (some 1) else (if x255005 = true then (impl_MailFault.j4 k (decide (x255004 > x255002)) x255000 x255001 x255002 x255003 x255004 x255005 x255006 x255007 x255008 x255009) else ((impl_Entry_isZero.f x255006 x255007 x255008 x255009).bind fun t259 => (if t259 = true then (impl_MailFault.j4 k (decide (x255004 > x255002)) x255000 x255001 x255002 x255003 x255004 x255005 x255006 x255007 x255008 x255009) else (impl_MailFault.j4 k true x255000 x255001 x255002 x255003 x255004 x255005 x255006 x255007 x255008 x255009))))
def impl_MailFault.j4 : Nat → Bool → Int → Int → Int → Int → Int → Bool → Int → Int → Int → List Int → Option (Int)
 | 0, _, _, _, _, _, _, _, _, _, _, _ => none
 | k + 1, x71, x255000, x255001, x255002, x255003, x255004, x255005, x255006, x255007, x255008, x255009 => if x71 = true then (some 1) else (if x255005 = true then ((impl_EntryFault.f k x255006 x255007 x255008 x255009).bind fun t260 => (if t260 = 0 then (if x255006 > x255002 then (some 1) else (if x255006 < x255004 then (some 1) else (some 0))) else (some t260))) else (some 0))
end
def impl_MailFault.f (k : Nat) (a0_0 : Int) (a0_1 : Bool) (a0_2 : Int) (a0_3 : Int) (l0_4 : List (S51)) (a0_5 : Int) (a0_6 : Int) (a0_7 : Int) (a0_8 : Int) (a1_0 : Int) (a1_1 : Int) (a1_2 : Int) (a1_3 : Int) (a1_4 : Int) (a1_5 : Bool) (a1_6 : Int) (a1_7 : Int) (a1_8 : Int) (l1_9 : List Int) : Option (Int) := (impl_NodeFault.f k a0_0 a0_1 a0_2 a0_3 l0_4 a0_5 a0_6 a0_7 a0_8).bind fun t255 => (if t255 = 0 then (if a1_0 = 1 then (impl_MailFault.j0 k (a1_1 != a0_0) a1_0 a1_1 a1_2 a1_3 a1_4 a1_5 a1_6 a1_7 a1_8 l1_9) else (if a1_0 = 2 then (impl_MailFault.j0 k (a1_1 != a0_0) a1_0 a1_1 a1_2 a1_3 a1_4 a1_5 a1_6 a1_7 a1_8 l1_9) else (impl_MailFault.j0 k true a1_0 a1_1 a1_2 a1_3 a1_4 a1_5 a1_6 a1_7 a1_8 l1_9))) else (some t255))
theorem impl_MailFault.mono_l : ∀ k, (∀ y0 y1 y2 y3 y4 y5 y6 y7 y8 y9 y10, LeO (impl_MailFault.j0 k y0 y1 y2 y3 y4 y5 y6 y7 y8 y9 y10) (impl_MailFault.j0 (k + 1) y0 y1 y2 y3 y4 y5 y6 y7 y8 y9 y10)) ∧ (∀ y0 y1 y2 y3 y4 y5 y6 y7 y8 y9 y10, LeO (impl_MailFault.j1 k y0 y1 y2 y3 y4 y5 y6 y7 y8 y9 y10) (impl_MailFault.j1 (k + 1) y0 y1 y2 y3 y4 y5 y6 y7 y8 y9 y10)) ∧ (∀ y0 y1 y2 y3 y4 y5 y6 y7 y8 y9 y10, LeO (impl_MailFault.j2 k y0 y1 y2 y3 y4 y5 y6 y7 y8 y9 y10) (impl_MailFault.j2 (k + 1) y0 y1 y2 y3 y4 y5 y6 y7 y8 y9 y10)) ∧ (∀ y0 y1 y2 y3 y4 y5 y6 y7 y8 y9 y10, LeO (impl_MailFault.j3 k y0 y1 y2 y3 y4 y5 y6 y7 y8 y9 y10) (impl_MailFault.j3 (k + 1) y0 y1 y2 y3 y4 y5 y6 y7 y8 y9 y10)) ∧ (∀ y0 y1 y2 y3 y4 y5 y6 y7 y8 y9 y10, LeO (impl_MailFault.j4 k y0 y1 y2 y3 y4 y5 y6 y7 y8 y9 y10) (impl_MailFault.j4 (k + 1) y0 y1 y2 y3 y4 y5 y6 y7 y8 y9 y10))
 | 0 => ⟨fun _ _ _ _ _ _ _ _ _ _ _ r h => by simp [impl_MailFault.j0] at h, fun _ _ _ _ _ _ _ _ _ _ _ r h => by simp [impl_MailFault.j1] at h, fun _ _ _ _ _ _ _ _ _ _ _ r h => by simp [impl_MailFault.j2] at h, fun _ _ _ _ _ _ _ _ _ _ _ r h => by simp [impl_MailFault.j3] at h, fun _ _ _ _ _ _ _ _ _ _ _ r h => by simp [impl_MailFault.j4] at h⟩
 | k + 1 => by
  obtain ⟨ih0, ih1, ih2, ih3, ih4⟩ := impl_MailFault.mono_l k
  refine ⟨?_, ?_, ?_, ?_, ?_⟩
  ·
   intro y0 y1 y2 y3 y4 y5 y6 y7 y8 y9 y10
   unfold impl_MailFault.j0
   repeat' first
   | (with_reducible exact ih0 _ _ _ _ _ _ _ _ _ _ _)
   | (with_reducible exact ih1 _ _ _ _ _ _ _ _ _ _ _)
   | (with_reducible exact ih2 _ _ _ _ _ _ _ _ _ _ _)
   | (with_reducible exact ih3 _ _ _ _ _ _ _ _ _ _ _)
   | (with_reducible exact ih4 _ _ _ _ _ _ _ _ _ _ _)
   | (with_reducible exact impl_EntryFault.mono _ _ _ _ _)
   | (with_reducible exact impl_NodeFault.mono _ _ _ _ _ _ _ _ _ _)
   | (with_reducible exact LeO.refl _)
   | (with_reducible exact LeO.none _)
   | (with_reducible refine LeO.ite ?_ ?_)
   | (with_reducible refine LeO.bind ?_ (fun _ => ?_))
   | exact ih0 _ _ _ _ _ _ _ _ _ _ _
   | exact ih1 _ _ _ _ _ _ _ _ _ _ _
   | exact ih2 _ _ _ _ _ _ _ _ _ _ _
   | exact ih3 _ _ _ _ _ _ _ _ _ _ _
   | exact ih4 _ _ _ _ _ _ _ _ _ _ _
   | exact impl_EntryFault.mono _ _ _ _ _
   | exact impl_NodeFault.mono _ _ _ _ _ _ _ _ _ _
   | exact LeO.none _
   | refine LeO.ite ?_ ?_
   | refine LeO.bind ?_ (fun _ => ?_)
  ·
   intro y0 y1 y2 y3 y4 y5 y6 y7 y8 y9 y10
   unfold impl_MailFault.j1
   repeat' first
   | (with_reducible exact ih0 _ _ _ _ _ _ _ _ _ _ _)
   | (with_reducible exact ih1 _ _ _ _ _ _ _ _ _ _ _)
   | (with_reducible exact ih2 _ _ _ _ _ _ _ _ _ _ _)
   | (with_reducible exact ih3 _ _ _ _ _ _ _ _ _ _ _)
   | (with_reducible exact ih4 _ _ _ _ _ _ _ _ _ _ _)
   | (with_reducible exact impl_EntryFault.mono _ _ _ _ _)
   | (with_reducible exact impl_NodeFault.mono _ _ _ _ _ _ _ _ _ _)
   | (with_reducible exact LeO.refl _)
   | (with_reducible exact LeO.none _)
   | (with_reducible refine LeO.ite ?_ ?_)
   | (with_reducible refine LeO.bind ?_ (fun _ => ?_))
   | exact ih0 _ _ _ _ _ _ _ _ _ _ _
   | exact ih1 _ _ _ _ _ _ _ _ _ _ _
   | exact ih2 _ _ _ _ _ _ _ _ _ _ _
   | exact ih3 _ _ _ _ _ _ _ _ _ _ _
   | exact ih4 _ _ _ _ _ _ _ _ _ _ _
   | exact impl_EntryFault.mono _ _ _ _ _
   | exact impl_NodeFault.mono _ _ _ _ _ _ _ _ _ _
   | exact LeO.none _
   | refine LeO.ite ?_ ?_
   | refine LeO.bind ?_ (fun _ => ?_)
  ·
   intro y0 y1 y2 y3 y4 y5 y6 y7 y8 y9 y10
   unfold impl_MailFault.j2
   repeat' first
   | (with_reducible exact ih0 _ _ _ _ _ _ _ _ _ _ _)
   | (with_reducible exact ih1 _ _ _ _ _ _ _ _ _ _ _)
   | (with_reducible exact ih2 _ _ _ _ _ _ _ _ _ _ _)
   | (with_reducible exact ih3 _ _ _ _ _ _ _ _ _ _ _)
   | (with_reducible exact ih4 _ _ _ _ _ _ _ _ _ _ _)
   | (with_reducible exact impl_EntryFault.mono _ _ _ _ _)
   | (with_reducible exact impl_NodeFault.mono _ _ _ _ _ _ _ _ _ _)
   | (with_reducible exact LeO.refl _)
   | (with_reducible exact LeO.none _)
   | (with_reducible refine LeO.ite ?_ ?_)
   | (with_reducible refine LeO.bind ?_ (fun _ => ?_))
   | exact ih0 _ _ _ _ _ _ _ _ _ _ _
   | exact ih1 _ _ _ _ _ _ _ _ _ _ _
   | exact ih2 _ _ _ _ _ _ _ _ _ _ _
   | exact ih3 _ _ _ _ _ _ _ _ _ _ _
   | exact ih4 _ _ _ _ _ _ _ _ _ _ _
   | exact impl_EntryFault.mono _ _ _ _ _
   | exact impl_NodeFault.mono _ _ _ _ _ _ _ _ _ _
   | exact LeO.none _
   | refine LeO.ite ?_ ?_
   | refine LeO.bind ?_ (fun _ => ?_)
  ·
   intro y0 y1 y2 y3 y4 y5 y6 y7 y8 y9 y10
   unfold impl_MailFault.j3
   repeat' first
   | (with_reducible exact ih0 _ _ _ _ _ _ _ _ _ _ _)
   | (with_reducible exact ih1 _ _ _ _ _ _ _ _ _ _ _)
   | (with_reducible exact ih2 _ _ _ _ _ _ _ _ _ _ _)
   | (with_reducible exact ih3 _ _ _ _ _ _ _ _ _ _ _)
   | (with_reducible exact ih4 _ _ _ _ _ _ _ _ _ _ _)
   | (with_reducible exact impl_EntryFault.mono _ _ _ _ _)
   | (with_reducible exact impl_NodeFault.mono _ _ _ _ _ _ _ _ _ _)
   | (with_reducible exact LeO.refl _)
   | (with_reducible exact LeO.none _)
   | (with_reducible refine LeO.ite ?_ ?_)
   | (with_reducible refine LeO.bind ?_ (fun _ => ?_))
   | exact ih0 _ _ _ _ _ _ _ _ _ _ _
   | exact ih1 _ _ _ _ _ _ _ _ _ _ _
   | exact ih2 _ _ _ _ _ _ _ _ _ _ _
   | exact ih3 _ _ _ _ _ _ _ _ _ _ _
   | exact ih4 _ _ _ _ _ _ _ _ _ _ _
   | exact impl_EntryFault.mono _ _ _ _ _
   | exact impl_NodeFault.mono _ _ _ _ _ _ _ _ _ _
   | exact LeO.none _
   | refine LeO.ite ?_ ?_
   | refine LeO.bind ?_ (fun _ => ?_)
  ·
   intro y0 y1 y2 y3 y4 y5 y6 y7 y8 y9 y10
   unfold impl_MailFault.j4
   repeat' first
   | (with_reducible exact ih0 _ _ _ _ _ _ _ _ _ _ _)
   | (with_reducible exact ih1 _ _ _ _ _ _ _ _ _ _ _)
   | (with_reducible exact ih2 _ _ _ _ _ _ _ _ _ _ _)
   | (with_reducible exact ih3 _ _ _ _ _ _ _ _ _ _ _)
   | (with_reducible exact ih4 _ _ _ _ _ _ _ _ _ _ _)
   | (with_reducible exact impl_EntryFault.mono _ _ _ _ _)
   | (with_reducible exact impl_NodeFault.mono _ _ _ _ _ _ _ _ _ _)
   | (with_reducible exact LeO.refl _)
   | (with_reducible exact LeO.none _)
   | (with_reducible refine LeO.ite ?_ ?_)
   | (with_reducible refine LeO.bind ?_ (fun _ => ?_))
   | exact ih0 _ _ _ _ _ _ _ _ _ _ _
   | exact ih1 _ _ _ _ _ _ _ _ _ _ _
   | exact ih2 _ _ _ _ _ _ _ _ _ _ _
   | exact ih3 _ _ _ _ _ _ _ _ _ _ _
   | exact ih4 _ _ _ _ _ _ _ _ _ _ _
   | exact impl_EntryFault.mono _ _ _ _ _
   | exact impl_NodeFault.mono _ _ _ _ _ _ _ _ _ _
   | exact LeO.none _
   | refine LeO.ite ?_ ?_
   | refine LeO.bind ?_ (fun _ => ?_)
theorem impl_MailFault.mono : ∀ a0 a1 a2 a3 a4 a5 a6 a7 a8 a9 a10 a11 a12 a13 a14 a15 a16 a17 a18 k, LeO (impl_MailFault.f k a0 a1 a2 a3 a4 a5 a6 a7 a8 a9 a10 a11 a12 a13 a14 a15 a16 a17 a18) (impl_MailFault.f (k + 1) a0 a1 a2 a3 a4 a5 a6 a7 a8 a9 a10 a11 a12 a13 a14 a15 a16 a17 a18) := by
 intro a0 a1 a2 a3 a4 a5 a6 a7 a8 a9 a10 a11 a12 a13 a14 a15 a16 a17 a18 k
 obtain ⟨ih0, ih1, ih2, ih3, ih4⟩ := impl_MailFault.mono_l k
 unfold impl_MailFault.f
 repeat' first
   | (with_reducible exact ih0 _ _ _ _ _ _ _ _ _ _ _)
   | (with_reducible exact ih1 _ _ _ _ _ _ _ _ _ _ _)
   | (with_reducible exact ih2 _ _ _ _ _ _ _ _ _ _ _)
   | (with_reducible exact ih3 _ _ _ _ _ _ _ _ _ _ _)
   | (with_reducible exact ih4 _ _ _ _ _ _ _ _ _ _ _)
   | (with_reducible exact impl_EntryFault.mono _ _ _ _ _)
   | (with_reducible exact impl_NodeFault.mono _ _ _ _ _ _ _ _ _ _)
   | (with_reducible exact LeO.refl _)
   | (with_reducible exact LeO.none _)
   | (with_reducible refine LeO.ite ?_ ?_)
   | (with_reducible refine LeO.bind ?_ (fun _ => ?_))
   | exact ih0 _ _ _ _ _ _ _ _ _ _ _
   | exact ih1 _ _ _ _ _ _ _ _ _ _ _
   | exact ih2 _ _ _ _ _ _ _ _ _ _ _
   | exact ih3 _ _ _ _ _ _ _ _ _ _ _
   | exact ih4 _ _ _ _ _ _ _ _ _ _ _
   | exact impl_EntryFault.mono _ _ _ _ _
   | exact impl_NodeFault.mono _ _ _ _ _ _ _ _ _ _
   | exact LeO.none _
   | refine LeO.ite ?_ ?_
   | refine LeO.bind ?_ (fun _ => ?_)
set_option maxHeartbeats 8000000 in
set_option maxRecDepth 100000 in
theorem impl_MailFault.calls (k : Nat) (a0_0 : Int) (a0_1 : Bool) (a0_2 : Int) (a0_3 : Int) (A0_4 : Option Addr) (c0_4 : Nat) (l0_4 : List (S51)) (a0_5 : Int) (a0_6 : Int) (a0_7 : Int) (a0_8 : Int) (a1_0 : Int) (a1_1 : Int) (a1_2 : Int) (a1_3 : Int) (a1_4 : Int) (a1_5 : Bool) (a1_6 : Int) (a1_7 : Int) (a1_8 : Int) (A1_9 : Option Addr) (c1_9 : Nat) (l1_9 : List Int) (r : Int) (w : World) (hr0_4 : Kd.C k51 w A0_4 l0_4.length l0_4) (hc0_4 : l0_4.length ≤ c0_4) (hr1_9 : Kd.C (Kd.int .u8) w A1_9 l1_9.length l1_9) (hc1_9 : l1_9.length ≤ c1_9) (h : impl_MailFault.f k a0_0 a0_1 a0_2 a0_3 l0_4 a0_5 a0_6 a0_7 a0_8 a1_0 a1_1 a1_2 a1_3 a1_4 a1_5 a1_6 a1_7 a1_8 l1_9 = some r) :
  Calls Try.prog 22 #[.agg #[.int .i64 a0_0, .bool a0_1, .int .i64 a0_2, .int .i64 a0_3, .slice A0_4 l0_4.length c0_4, .int .i64 a0_5, .int .i64 a0_6, .int .i64 a0_7, .int .i64 a0_8], .agg #[.int .i64 a1_0, .int .i64 a1_1, .int .i64 a1_2, .int .i64 a1_3, .int .i64 a1_4, .bool a1_5, .int .i64 a1_6, .int .i64 a1_7, .int .i64 a1_8, .slice A1_9 l1_9.length c1_9]] w fun e w' => e = .returned (.int .i64 r) ∧ Below w.heap.size w w' := by
 have hu29 := Try.underlying29
 have hu53 := Try.underlying53
 have hu51 := Try.underlying51
 have hu49 := Try.underlying49
 have HR0_4 := Aside0.mk hr0_4
 have HC0_4 := Aside0.mk hc0_4
 clear hr0_4 hc0_4
 have HR1_9 := Aside0.mk hr1_9
 have HC1_9 := Aside0.mk hc1_9
 clear hr1_9 hc1_9
 have HB := Aside0.mk (Below.refl w.heap.size w)
 have H : ((impl_NodeFault.f k a0_0 a0_1 a0_2 a0_3 l0_4 a0_5 a0_6 a0_7 a0_8).bind fun t255 => (if t255 = 0 then (if a1_0 = 1 then (impl_MailFault.j0 k (a1_1 != a0_0) a1_0 a1_1 a1_2 a1_3 a1_4 a1_5 a1_6 a1_7 a1_8 l1_9) else (if a1_0 = 2 then (impl_MailFault.j0 k (a1_1 != a0_0) a1_0 a1_1 a1_2 a1_3 a1_4 a1_5 a1_6 a1_7 a1_8 l1_9) else (impl_MailFault.j0 k true a1_0 a1_1 a1_2 a1_3 a1_4 a1_5 a1_6 a1_7 a1_8 l1_9))) else (some t255))) = some r := h
 clear h
 replace H := Option.bind_eq_some_iff.mp H
 obtain ⟨t255, A30, H⟩ := H
 replace H : (if t255 = 0 then (if a1_0 = 1 then (impl_MailFault.j0 k (a1_1 != a0_0) a1_0 a1_1 a1_2 a1_3 a1_4 a1_5 a1_6 a1_7 a1_8 l1_9) else (if a1_0 = 2 then (impl_MailFault.j0 k (a1_1 != a0_0) a1_0 a1_1 a1_2 a1_3 a1_4 a1_5 a1_6 a1_7 a1_8 l1_9) else (impl_MailFault.j0 k true a1_0 a1_1 a1_2 a1_3 a1_4 a1_5 a1_6 a1_7 a1_8 l1_9))) else (some t255)) = some r := H
 have A3 := Aside0.mk A30
 clear A30
 by_cases c4 : t255 = 0
 ·
  rw [if_pos c4] at H
  have c4b0 : (t255 == 0) = true := beq_iff_eq.mpr c4
  have c4b1 : (t255 != 0) = false := bne_eq_false_iff_eq.mpr c4
  clear c4
  have HC5 := Aside0.mk H
  clear H
  go_enter Try.func22, Try.ntmps22
  go_upto_region 4 with (first | ((with_reducible refine gate_dst (N := 2) rfl ?_); refine boxE #[.int .i64 a0_0, .bool a0_1, .int .i64 a0_2, .int .i64 a0_3, .slice A0_4 l0_4.length c0_4, .int .i64 a0_5, .int .i64 a0_6, .int .i64 a0_7, .int .i64 a0_8] 29 (N := 2) rfl rfl ?_; intro gb253 hg w6 hbox hb; have BK253 := Aside0.mk hbox; have GW253 := gZ HB hg; have GE253 := gZ HB hg; replace HB := bS HB hb; clear hb hbox hg) | ((with_reducible refine gate_dst (N := 3) rfl ?_); refine boxE #[.int .i64 a1_0, .int .i64 a1_1, .int .i64 a1_2, .int .i64 a1_3, .int .i64 a1_4, .bool a1_5, .int .i64 a1_6, .int .i64 a1_7, .int .i64 a1_8, .slice A1_9 l1_9.length c1_9] 53 (N := 3) rfl rfl ?_; intro gb254 hg w7 hbox hb; have BK254 := Aside0.mk hbox; have GW254 := gZ HB hg; have GE254 := gZ HB hg; replace HB := bS HB hb; have NB253_254 := nL BK253 hg; have NB254_253 := nG BK253 hg; replace BK253 := bK BK253 hb; clear hb hbox hg; have hnb8 := NB253_254.out; have hnc8 := NB254_253.out; have hz9 := cl9 BK253) | ((with_reducible refine gate_callee (f := 12) rfl ?_); refine goA (some 8) rfl rfl Try.func12 rfl #[.agg #[.int .i64 a0_0, .bool a0_1, .int .i64 a0_2, .int .i64 a0_3, .slice A0_4 l0_4.length c0_4, .int .i64 a0_5, .int .i64 a0_6, .int .i64 a0_7, .int .i64 a0_8]] rfl ?_; (with_reducible refine (impl_NodeFault.calls k a0_0 a0_1 a0_2 a0_3 _ _ l0_4 a0_5 a0_6 a0_7 a0_8 t255 _ ?side1 ?side2 A3.out).mono ?_); (case side1 => exact mC HR0_4 HB); (case side2 => exact HC0_4.out); rintro e w10 ⟨rfl, hb⟩; refine ⟨_, rfl, ?_⟩; replace BK253 := bK BK253 hb; replace BK254 := bK BK254 hb; replace HB := bS HB hb; (try clear hb); (try clear hb2); (try clear hk); (try clear hi)))
  (try simp only [Act.put, List.setIfInBounds_toArray, List.set_cons_zero, List.set_cons_succ])
  go_cut [12] (fun v12 wc => ∃ (kq : Nat) (x12_4 : Bool), v12 = .bool x12_4 ∧ Aside0 (impl_MailFault.j0 kq x12_4 a1_0 a1_1 a1_2 a1_3 a1_4 a1_5 a1_6 a1_7 a1_8 l1_9 = some r) ∧ Aside0 (kq ≤ k) ∧ Aside0 (wc.heap[gb253]? = some (.cells #[.int .i64 a0_0, .bool a0_1, .int .i64 a0_2, .int .i64 a0_3, (.slice A0_4 l0_4.length c0_4), .int .i64 a0_5, .int .i64 a0_6, .int .i64 a0_7, .int .i64 a0_8] 29 (0, 0))) ∧ Aside0 (wc.heap[gb254]? = some (.cells #[.int .i64 a1_0, .int .i64 a1_1, .int .i64 a1_2, .int .i64 a1_3, .int .i64 a1_4, .bool a1_5, .int .i64 a1_6, .int .i64 a1_7, .int .i64 a1_8, (.slice A1_9 l1_9.length c1_9)] 53 (0, 0))) ∧ Aside0 (Below w.heap.size w wc))
  case first =>
   have H := HC5.out
   clear HC5
   by_cases c11 : a1_0 = 1
   ·
    rw [if_pos c11] at H
    have c11b0 : (a1_0 == 1) = true := beq_iff_eq.mpr c11
    have c11b1 : (a1_0 != 1) = false := bne_eq_false_iff_eq.mpr c11
    clear c11
    (first | rw [c11b0] | (simp only [i64_w, i32_w]; rw [c11b0]) | skip)
    have H' := Aside0.mk H
    clear H
    have hnb12 := NB254_253.out
    have hnc12 := NB253_254.out
    have hz13 := cl10 BK254
    have hz14 := cl9 BK253
    go_wp2
    first | go_meet | (refine Met.intro ?_; go_step; (repeat apply Exists.intro); refine ⟨?rel, ?eqq⟩; (case eqq => (try simp only [c4b0]); (try simp only [c11b0]); rfl))
    case rel => exact ⟨_, ((a1_1 != a0_0)), (by first | rfl | (simp; done) | (simp [*]; done)), H', ⟨by first | omega | exact Nat.le_refl _⟩, ⟨by (with_reducible repeat (first | refine blk_drewN ?_ _ | refine blk_drew ?_ | refine blk_alloc ?_ _)); exact BK253.out⟩, ⟨by (with_reducible repeat (first | refine blk_drewN ?_ _ | refine blk_drew ?_ | refine blk_alloc ?_ _)); exact BK254.out⟩, ⟨bel HB⟩⟩
   ·
    rw [if_neg c11] at H
    have c11b0 : (a1_0 == 1) = false := beq_eq_false_iff_ne.mpr c11
    have c11b1 : (a1_0 != 1) = true := bne_iff_ne.mpr c11
    (first | rw [c11b0] | (simp only [i64_w, i32_w]; rw [c11b0]) | skip)
    by_cases c15 : a1_0 = 2
    ·
     rw [if_pos c15] at H
     have c15b0 : (a1_0 == 2) = true := beq_iff_eq.mpr c15
     have c15b1 : (a1_0 != 2) = false := bne_eq_false_iff_eq.mpr c15
     clear c15
     have H' := Aside0.mk H
     clear H
     have hnb16 := NB254_253.out
     have hnc16 := NB253_254.out
     have hz17 := cl10 BK254
     have hz18 := cl9 BK253
     go_wp2
     first | go_meet | (refine Met.intro ?_; go_step; (repeat apply Exists.intro); refine ⟨?rel, ?eqq⟩; (case eqq => (try simp only [c4b0]); (try simp only [c11b0]); (try simp only [c15b0]); rfl))
     case rel => exact ⟨_, ((a1_1 != a0_0)), (by first | rfl | (simp; done) | (simp [*]; done)), H', ⟨by first | omega | exact Nat.le_refl _⟩, ⟨by (with_reducible repeat (first | refine blk_drewN ?_ _ | refine blk_drew ?_ | refine blk_alloc ?_ _)); exact BK253.out⟩, ⟨by (with_reducible repeat (first | refine blk_drewN ?_ _ | refine blk_drew ?_ | refine blk_alloc ?_ _)); exact BK254.out⟩, ⟨bel HB⟩⟩
    ·
     rw [if_neg c15] at H
     have c15b0 : (a1_0 == 2) = false := beq_eq_false_iff_ne.mpr c15
     have c15b1 : (a1_0 != 2) = true := bne_iff_ne.mpr c15
     have H' := Aside0.mk H
     clear H
     have hnb19 := NB254_253.out
     have hnc19 := NB253_254.out
     have hz20 := cl10 BK254
     go_wp2
     first | go_meet | (refine Met.intro ?_; go_step; (repeat apply Exists.intro); refine ⟨?rel, ?eqq⟩; (case eqq => (try simp only [c4b0]); (try simp only [c11b0]); (try simp only [c15b0]); rfl))
     case rel => exact ⟨_, (true), (by first | rfl | (simp; done) | (simp [*]; done)), H', ⟨by first | omega | exact Nat.le_refl _⟩, ⟨by (with_reducible repeat (first | refine blk_drewN ?_ _ | refine blk_drew ?_ | refine blk_alloc ?_ _)); exact BK253.out⟩, ⟨by (with_reducible repeat (first | refine blk_drewN ?_ _ | refine blk_drew ?_ | refine blk_alloc ?_ _)); exact BK254.out⟩, ⟨bel HB⟩⟩
  case rest =>
   clear HC5
   try clear c1
   try clear c2
   try clear p2
   try clear c4
   try clear c4b0
   try clear c4b1
   try clear c8
   try clear c11
   try clear c11b0
   try clear c11b1
   try clear c12
   try clear c15
   try clear c15b0
   try clear c15b1
   try clear c16
   try clear c19
   try clear hz13
   try clear hz14
   try clear hz17
   try clear hz18
   try clear hz20
   try clear hz9
   obtain ⟨kq, x12_4, rfl, HA, HJ4, BK253, BK254, HB⟩ := hcut
   cases kq with
   | zero => exact absurd HA.out (by simp [impl_MailFault.j0])
   | succ kj4 =>
    have H := HA.out
    clear HA
    simp only [impl_MailFault.j0] at H
    by_cases c21 : x12_4 = true
    ·
     subst c21
     have H1 : (some 1) = some r := by rw [if_pos rfl] at H; first | done | exact H
     clear H
     have H := H1
     clear H1
     obtain rfl := Option.some.inj H
     go_wp2
     go_ret
     exact ⟨by first | rfl | (simp [errW_none, errW_some] <;> rfl) | (simp [*, errW_none, errW_some] <;> rfl), bel HB⟩
    ·
     replace c21 := Bool.eq_false_iff.mpr c21
     subst c21
     have H1 : ((impl_isEpoch.f a1_2).bind fun t256 => (if t256 = true then ((impl_in.f a1_3 0 100).bind fun t257 => (if t257 = true then ((impl_in.f a1_4 0 1000).bind fun t258 => (impl_MailFault.j1 kj4 (!t258) a1_0 a1_1 a1_2 a1_3 a1_4 a1_5 a1_6 a1_7 a1_8 l1_9)) else (impl_MailFault.j1 kj4 true a1_0 a1_1 a1_2 a1_3 a1_4 a1_5 a1_6 a1_7 a1_8 l1_9))) else (impl_MailFault.j1 kj4 true a1_0 a1_1 a1_2 a1_3 a1_4 a1_5 a1_6 a1_7 a1_8 l1_9))) = some r := by rw [if_neg (show ¬ (false = true) by decide)] at H; first | done | exact H
     clear H
     have H := H1
     clear H1
     have HC22 := Aside0.mk H
     clear H
     go_upto_region 6 with (fail)
     go_cut [28] (fun v28 wc => ∃ (kq : Nat) (x28_21 : Bool), v28 = .bool x28_21 ∧ Aside0 (impl_MailFault.j1 kq x28_21 a1_0 a1_1 a1_2 a1_3 a1_4 a1_5 a1_6 a1_7 a1_8 l1_9 = some r) ∧ Aside0 (kq ≤ kj4) ∧ Aside0 (wc.heap[gb253]? = some (.cells #[.int .i64 a0_0, .bool a0_1, .int .i64 a0_2, .int .i64 a0_3, (.slice A0_4 l0_4.length c0_4), .int .i64 a0_5, .int .i64 a0_6, .int .i64 a0_7, .int .i64 a0_8] 29 (0, 0))) ∧ Aside0 (wc.heap[gb254]? = some (.cells #[.int .i64 a1_0, .int .i64 a1_1, .int .i64 a1_2, .int .i64 a1_3, .int .i64 a1_4, .bool a1_5, .int .i64 a1_6, .int .i64 a1_7, .int .i64 a1_8, (.slice A1_9 l1_9.length c1_9)] 53 (0, 0))) ∧ Aside0 (Below w.heap.size w wc))
     case first =>
      have H := HC22.out
      clear HC22
      replace H := Option.bind_eq_some_iff.mp H
      obtain ⟨t256, A230, H⟩ := H
      replace H : (if t256 = true then ((impl_in.f a1_3 0 100).bind fun t257 => (if t257 = true then ((impl_in.f a1_4 0 1000).bind fun t258 => (impl_MailFault.j1 kj4 (!t258) a1_0 a1_1 a1_2 a1_3 a1_4 a1_5 a1_6 a1_7 a1_8 l1_9)) else (impl_MailFault.j1 kj4 true a1_0 a1_1 a1_2 a1_3 a1_4 a1_5 a1_6 a1_7 a1_8 l1_9))) else (impl_MailFault.j1 kj4 true a1_0 a1_1 a1_2 a1_3 a1_4 a1_5 a1_6 a1_7 a1_8 l1_9)) = some r := H
      have A23 := Aside0.mk A230
      clear A230
      by_cases c24 : t256 = true
      ·
       subst c24
       have H1 : ((impl_in.f a1_3 0 100).bind fun t257 => (if t257 = true then ((impl_in.f a1_4 0 1000).bind fun t258 => (impl_MailFault.j1 kj4 (!t258) a1_0 a1_1 a1_2 a1_3 a1_4 a1_5 a1_6 a1_7 a1_8 l1_9)) else (impl_MailFault.j1 kj4 true a1_0 a1_1 a1_2 a1_3 a1_4 a1_5 a1_6 a1_7 a1_8 l1_9))) = some r := by rw [if_pos rfl] at H; first | done | exact H
       clear H
       have H := H1
       clear H1
       replace H := Option.bind_eq_some_iff.mp H
       obtain ⟨t257, A250, H⟩ := H
       replace H : (if t257 = true then ((impl_in.f a1_4 0 1000).bind fun t258 => (impl_MailFault.j1 kj4 (!t258) a1_0 a1_1 a1_2 a1_3 a1_4 a1_5 a1_6 a1_7 a1_8 l1_9)) else (impl_MailFault.j1 kj4 true a1_0 a1_1 a1_2 a1_3 a1_4 a1_5 a1_6 a1_7 a1_8 l1_9)) = some r := H
       have A25 := Aside0.mk A250
       clear A250
       by_cases c26 : t257 = true
       ·
        subst c26
        have H1 : ((impl_in.f a1_4 0 1000).bind fun t258 => (impl_MailFault.j1 kj4 (!t258) a1_0 a1_1 a1_2 a1_3 a1_4 a1_5 a1_6 a1_7 a1_8 l1_9)) = some r := by rw [if_pos rfl] at H; first | done | exact H
        clear H
        have H := H1
        clear H1
        replace H := Option.bind_eq_some_iff.mp H
        obtain ⟨t258, A270, H⟩ := H
        replace H : (impl_MailFault.j1 kj4 (!t258) a1_0 a1_1 a1_2 a1_3 a1_4 a1_5 a1_6 a1_7 a1_8 l1_9) = some r := H
        have A27 := Aside0.mk A270
        clear A270
        have H' := Aside0.mk H
        clear H
        have hnb28 := NB254_253.out
        have hnc28 := NB253_254.out
        have hz29 := cl10 BK254
        go_wp2_with (first | ((with_reducible refine gate_callee (f := 48) rfl ?_); refine goA (some 31) rfl rfl Try.func48 rfl #[.int .i64 a1_2] rfl ?_; (with_reducible refine (impl_isEpoch.calls a1_2 true _ A23.out).mono ?_); rintro e w' ⟨rfl, ⟨nd, rfl⟩⟩; refine ⟨_, rfl, ?_⟩) | (go_at_call 35; (with_reducible refine (impl_in.calls a1_3 0 100 true _ A25.out).mono ?_); rintro e w' ⟨rfl, ⟨nd, rfl⟩⟩) | (go_at_call 35; (with_reducible refine (impl_in.calls a1_4 0 1000 t258 _ A27.out).mono ?_); rintro e w' ⟨rfl, ⟨nd, rfl⟩⟩))
        first | go_meet | (refine Met.intro ?_; go_step; (repeat apply Exists.intro); refine ⟨?rel, ?eqq⟩; (case eqq => (try simp only [c4b0]); rfl))
        case rel => exact ⟨_, (!t258), (by first | rfl | (simp; done) | (simp [*]; done)), H', ⟨by have := HJ4.out; first | omega | exact Nat.le_refl _⟩, ⟨by (with_reducible repeat (first | refine blk_drewN ?_ _ | refine blk_drew ?_ | refine blk_alloc ?_ _)); exact BK253.out⟩, ⟨by (with_reducible repeat (first | refine blk_drewN ?_ _ | refine blk_drew ?_ | refine blk_alloc ?_ _)); exact BK254.out⟩, ⟨bel HB⟩⟩
       ·
        replace c26 := Bool.eq_false_iff.mpr c26
        subst c26
        have H1 : (impl_MailFault.j1 kj4 true a1_0 a1_1 a1_2 a1_3 a1_4 a1_5 a1_6 a1_7 a1_8 l1_9) = some r := by rw [if_neg (show ¬ (false = true) by decide)] at H; first | done | exact H
        clear H
        have H := H1
        clear H1
        have H' := Aside0.mk H
        clear H
        have hnb30 := NB254_253.out
        have hnc30 := NB253_254.out
        have hz31 := cl10 BK254
        go_wp2_with (first | ((with_reducible refine gate_callee (f := 48) rfl ?_); refine goA (some 31) rfl rfl Try.func48 rfl #[.int .i64 a1_2] rfl ?_; (with_reducible refine (impl_isEpoch.calls a1_2 true _ A23.out).mono ?_); rintro e w' ⟨rfl, ⟨nd, rfl⟩⟩; refine ⟨_, rfl, ?_⟩) | (go_at_call 35; (with_reducible refine (impl_in.calls a1_3 0 100 false _ A25.out).mono ?_); rintro e w' ⟨rfl, ⟨nd, rfl⟩⟩))
        first | go_meet | (refine Met.intro ?_; go_step; (repeat apply Exists.intro); refine ⟨?rel, ?eqq⟩; (case eqq => (try simp only [c4b0]); rfl))
        case rel => exact ⟨_, (true), (by first | rfl | (simp; done) | (simp [*]; done)), H', ⟨by have := HJ4.out; first | omega | exact Nat.le_refl _⟩, ⟨by (with_reducible repeat (first | refine blk_drewN ?_ _ | refine blk_drew ?_ | refine blk_alloc ?_ _)); exact BK253.out⟩, ⟨by (with_reducible repeat (first | refine blk_drewN ?_ _ | refine blk_drew ?_ | refine blk_alloc ?_ _)); exact BK254.out⟩, ⟨bel HB⟩⟩
      ·
       replace c24 := Bool.eq_false_iff.mpr c24
       subst c24
       have H1 : (impl_MailFault.j1 kj4 true a1_0 a1_1 a1_2 a1_3 a1_4 a1_5 a1_6 a1_7 a1_8 l1_9) = some r := by rw [if_neg (show ¬ (false = true) by decide)] at H; first | done | exact H
       clear H
       have H := H1
       clear H1
       have H' := Aside0.mk H
       clear H
       have hnb32 := NB254_253.out
       have hnc32 := NB253_254.out
       have hz33 := cl10 BK254
       go_wp2_with (first | ((with_reducible refine gate_callee (f := 48) rfl ?_); refine goA (some 31) rfl rfl Try.func48 rfl #[.int .i64 a1_2] rfl ?_; (with_reducible refine (impl_isEpoch.calls a1_2 false _ A23.out).mono ?_); rintro e w' ⟨rfl, ⟨nd, rfl⟩⟩; refine ⟨_, rfl, ?_⟩))
       first | go_meet | (refine Met.intro ?_; go_step; (repeat apply Exists.intro); refine ⟨?rel, ?eqq⟩; (case eqq => (try simp only [c4b0]); rfl))
       case rel => exact ⟨_, (true), (by first | rfl | (simp; done) | (simp [*]; done)), H', ⟨by have := HJ4.out; first | omega | exact Nat.le_refl _⟩, ⟨by (with_reducible repeat (first | refine blk_drewN ?_ _ | refine blk_drew ?_ | refine blk_alloc ?_ _)); exact BK253.out⟩, ⟨by (with_reducible repeat (first | refine blk_drewN ?_ _ | refine blk_drew ?_ | refine blk_alloc ?_ _)); exact BK254.out⟩, ⟨bel HB⟩⟩
     case rest =>
      clear HC22
      try clear c1
      try clear c2
      try clear p2
      try clear c3
      try clear c4
      try clear c4b0
      try clear c4b1
      try clear c8
      try clear c11
      try clear c11b0
      try clear c11b1
      try clear c12
      try clear c15
      try clear c15b0
      try clear c15b1
      try clear c16
      try clear c19
      try clear c21
      try clear c22
      try clear c24
      try clear c26
      try clear c28
      try clear c30
      try clear c32
      try clear hz13
      try clear hz14
      try clear hz17
      try clear hz18
      try clear hz20
      try clear hz29
      try clear hz31
      try clear hz33
      try clear hz9
      try clear p2
      obtain ⟨kq, x28_21, rfl, HA, HJ21, BK253, BK254, HB⟩ := hcut
      cases kq with
      | zero => exact absurd HA.out (by simp [impl_MailFault.j1])
      | succ kj21 =>
       have H := HA.out
       clear HA
       simp only [impl_MailFault.j1] at H
       by_cases c34 : x28_21 = true
       ·
        subst c34
        have H1 : (some 3) = some r := by rw [if_pos rfl] at H; first | done | exact H
        clear H
        have H := H1
        clear H1
        obtain rfl := Option.some.inj H
        go_wp2
        go_ret
        exact ⟨by first | rfl | (simp [errW_none, errW_some] <;> rfl) | (simp [*, errW_none, errW_some] <;> rfl), bel HB⟩
       ·
        replace c34 := Bool.eq_false_iff.mpr c34
        subst c34
        have H1 : (if a1_0 = 2 then (if a1_5 = true then (impl_MailFault.j2 kj21 true a1_0 a1_1 a1_2 a1_3 a1_4 a1_5 a1_6 a1_7 a1_8 l1_9) else (impl_MailFault.j2 kj21 (a1_4 != 0) a1_0 a1_1 a1_2 a1_3 a1_4 a1_5 a1_6 a1_7 a1_8 l1_9)) else (impl_MailFault.j2 kj21 false a1_0 a1_1 a1_2 a1_3 a1_4 a1_5 a1_6 a1_7 a1_8 l1_9)) = some r := by rw [if_neg (show ¬ (false = true) by decide)] at H; first | done | exact H
        clear H
        have H := H1
        clear H1
        have HC35 := Aside0.mk H
        clear H
        go_upto_region 8 with (fail)
        go_cut [45] (fun v45 wc => ∃ (kq : Nat) (x45_34 : Bool), v45 = .bool x45_34 ∧ Aside0 (impl_MailFault.j2 kq x45_34 a1_0 a1_1 a1_2 a1_3 a1_4 a1_5 a1_6 a1_7 a1_8 l1_9 = some r) ∧ Aside0 (kq ≤ kj21) ∧ Aside0 (wc.heap[gb253]? = some (.cells #[.int .i64 a0_0, .bool a0_1, .int .i64 a0_2, .int .i64 a0_3, (.slice A0_4 l0_4.length c0_4), .int .i64 a0_5, .int .i64 a0_6, .int .i64 a0_7, .int .i64 a0_8] 29 (0, 0))) ∧ Aside0 (wc.heap[gb254]? = some (.cells #[.int .i64 a1_0, .int .i64 a1_1, .int .i64 a1_2, .int .i64 a1_3, .int .i64 a1_4, .bool a1_5, .int .i64 a1_6, .int .i64 a1_7, .int .i64 a1_8, (.slice A1_9 l1_9.length c1_9)] 53 (0, 0))) ∧ Aside0 (Below w.heap.size w wc))
        case first =>
         have H := HC35.out
         clear HC35
         by_cases c36 : a1_0 = 2
         ·
          rw [if_pos c36] at H
          have c36b0 : (a1_0 == 2) = true := beq_iff_eq.mpr c36
          have c36b1 : (a1_0 != 2) = false := bne_eq_false_iff_eq.mpr c36
          clear c36
          (first | rw [c36b0] | (simp only [i64_w, i32_w]; rw [c36b0]) | skip)
          by_cases c37 : a1_5 = true
          ·
           subst c37
           have H1 : (impl_MailFault.j2 kj21 true a1_0 a1_1 a1_2 a1_3 a1_4 true a1_6 a1_7 a1_8 l1_9) = some r := by rw [if_pos rfl] at H; first | done | exact H
           clear H
           have H := H1
           clear H1
           have H' := Aside0.mk H
           clear H
           have hnb38 := NB254_253.out
           have hnc38 := NB253_254.out
           have hz39 := cl10 BK254
           go_wp2
           first | go_meet | (refine Met.intro ?_; go_step; (repeat apply Exists.intro); refine ⟨?rel, ?eqq⟩; (case eqq => (try simp only [c4b0]); (try simp only [c36b0]); rfl))
           case rel => exact ⟨_, (true), (by first | rfl | (simp; done) | (simp [*]; done)), H', ⟨by have := HJ4.out; have := HJ21.out; first | omega | exact Nat.le_refl _⟩, ⟨by (with_reducible repeat (first | refine blk_drewN ?_ _ | refine blk_drew ?_ | refine blk_alloc ?_ _)); exact BK253.out⟩, ⟨by (with_reducible repeat (first | refine blk_drewN ?_ _ | refine blk_drew ?_ | refine blk_alloc ?_ _)); exact BK254.out⟩, ⟨bel HB⟩⟩
          ·
           replace c37 := Bool.eq_false_iff.mpr c37
           subst c37
           have H1 : (impl_MailFault.j2 kj21 (a1_4 != 0) a1_0 a1_1 a1_2 a1_3 a1_4 false a1_6 a1_7 a1_8 l1_9) = some r := by rw [if_neg (show ¬ (false = true) by decide)] at H; first | done | exact H
           clear H
           have H := H1
           clear H1
           have H' := Aside0.mk H
           clear H
           have hnb40 := NB254_253.out
           have hnc40 := NB253_254.out
           have hz41 := cl10 BK254
           go_wp2
           first | go_meet | (refine Met.intro ?_; go_step; (repeat apply Exists.intro); refine ⟨?rel, ?eqq⟩; (case eqq => (try simp only [c4b0]); (try simp only [c36b0]); rfl))
           case rel => exact ⟨_, ((a1_4 != 0)), (by first | rfl | (simp; done) | (simp [*]; done)), H', ⟨by have := HJ4.out; have := HJ21.out; first | omega | exact Nat.le_refl _⟩, ⟨by (with_reducible repeat (first | refine blk_drewN ?_ _ | refine blk_drew ?_ | refine blk_alloc ?_ _)); exact BK253.out⟩, ⟨by (with_reducible repeat (first | refine blk_drewN ?_ _ | refine blk_drew ?_ | refine blk_alloc ?_ _)); exact BK254.out⟩, ⟨bel HB⟩⟩
         ·
          rw [if_neg c36] at H
          have c36b0 : (a1_0 == 2) = false := beq_eq_false_iff_ne.mpr c36
          have c36b1 : (a1_0 != 2) = true := bne_iff_ne.mpr c36
          (first | rw [c36b0] | (simp only [i64_w, i32_w]; rw [c36b0]) | skip)
          have H' := Aside0.mk H
          clear H
          have hnb42 := NB254_253.out
          have hnc42 := NB253_254.out
          have hz43 := cl10 BK254
          go_wp2
          first | go_meet | (refine Met.intro ?_; go_step; (repeat apply Exists.intro); refine ⟨?rel, ?eqq⟩; (case eqq => (try simp only [c4b0]); (try simp only [c36b0]); rfl))
          case rel => exact ⟨_, (false), (by first | rfl | (simp; done) | (simp [*]; done)), H', ⟨by have := HJ4.out; have := HJ21.out; first | omega | exact Nat.le_refl _⟩, ⟨by (with_reducible repeat (first | refine blk_drewN ?_ _ | refine blk_drew ?_ | refine blk_alloc ?_ _)); exact BK253.out⟩, ⟨by (with_reducible repeat (first | refine blk_drewN ?_ _ | refine blk_drew ?_ | refine blk_alloc ?_ _)); exact BK254.out⟩, ⟨bel HB⟩⟩
        case rest =>
         clear HC35
         try clear c1
         try clear c2
         try clear p2
         try clear c3
         try clear c4
         try clear c4b0
         try clear c4b1
         try clear c8
         try clear c11
         try clear c11b0
         try clear c11b1
         try clear c12
         try clear c15
         try clear c15b0
         try clear c15b1
         try clear c16
         try clear c19
         try clear c21
         try clear c22
         try clear c24
         try clear c26
         try clear c28
         try clear c30
         try clear c32
         try clear c34
         try clear c36
         try clear c36b0
         try clear c36b1
         try clear c37
         try clear c38
         try clear c40
         try clear c42
         try clear hz13
         try clear hz14
         try clear hz17
         try clear hz18
         try clear hz20
         try clear hz29
         try clear hz31
         try clear hz33
         try clear hz39
         try clear hz41
         try clear hz43
         try clear hz9
         try clear p2
         obtain ⟨kq, x45_34, rfl, HA, HJ34, BK253, BK254, HB⟩ := hcut
         cases kq with
         | zero => exact absurd HA.out (by simp [impl_MailFault.j2])
         | succ kj34 =>
          have H := HA.out
          clear HA
          simp only [impl_MailFault.j2] at H
          by_cases c44 : x45_34 = true
          ·
           subst c44
           have H1 : (some 1) = some r := by rw [if_pos rfl] at H; first | done | exact H
           clear H
           have H := H1
           clear H1
           obtain rfl := Option.some.inj H
           go_wp2
           go_ret
           exact ⟨by first | rfl | (simp [errW_none, errW_some] <;> rfl) | (simp [*, errW_none, errW_some] <;> rfl), bel HB⟩
          ·
           replace c44 := Bool.eq_false_iff.mpr c44
           subst c44
           have H1 : (if a1_0 = 1 then (impl_MailFault.j3 kj34 ((a1_3 == 0) != (a1_4 == 0)) a1_0 a1_1 a1_2 a1_3 a1_4 a1_5 a1_6 a1_7 a1_8 l1_9) else (impl_MailFault.j3 kj34 false a1_0 a1_1 a1_2 a1_3 a1_4 a1_5 a1_6 a1_7 a1_8 l1_9)) = some r := by rw [if_neg (show ¬ (false = true) by decide)] at H; first | done | exact H
           clear H
           have H := H1
           clear H1
           have HC45 := Aside0.mk H
           clear H
           go_upto_region 10 with (fail)
           go_cut [58] (fun v58 wc => ∃ (kq : Nat) (x58_44 : Bool), v58 = .bool x58_44 ∧ Aside0 (impl_MailFault.j3 kq x58_44 a1_0 a1_1 a1_2 a1_3 a1_4 a1_5 a1_6 a1_7 a1_8 l1_9 = some r) ∧ Aside0 (kq ≤ kj34) ∧ Aside0 (wc.heap[gb253]? = some (.cells #[.int .i64 a0_0, .bool a0_1, .int .i64 a0_2, .int .i64 a0_3, (.slice A0_4 l0_4.length c0_4), .int .i64 a0_5, .int .i64 a0_6, .int .i64 a0_7, .int .i64 a0_8] 29 (0, 0))) ∧ Aside0 (wc.heap[gb254]? = some (.cells #[.int .i64 a1_0, .int .i64 a1_1, .int .i64 a1_2, .int .i64 a1_3, .int .i64 a1_4, .bool a1_5, .int .i64 a1_6, .int .i64 a1_7, .int .i64 a1_8, (.slice A1_9 l1_9.length c1_9)] 53 (0, 0))) ∧ Aside0 (Below w.heap.size w wc))
           case first =>
            have H := HC45.out
            clear HC45
            by_cases c46 : a1_0 = 1
            ·
             rw [if_pos c46] at H
             have c46b0 : (a1_0 == 1) = true := beq_iff_eq.mpr c46
             have c46b1 : (a1_0 != 1) = false := bne_eq_false_iff_eq.mpr c46
             clear c46
             (first | rw [c46b0] | (simp only [i64_w, i32_w]; rw [c46b0]) | skip)
             have H' := Aside0.mk H
             clear H
             have hnb47 := NB254_253.out
             have hnc47 := NB253_254.out
             have hz48 := cl10 BK254
             go_wp2
             first | go_meet | (refine Met.intro ?_; go_step; (repeat apply Exists.intro); refine ⟨?rel, ?eqq⟩; (case eqq => (try simp only [c4b0]); (try simp only [c46b0]); rfl))
             case rel => exact ⟨_, (((a1_3 == 0) != (a1_4 == 0))), (by first | rfl | (simp; done) | (simp [*]; done)), H', ⟨by have := HJ4.out; have := HJ21.out; have := HJ34.out; first | omega | exact Nat.le_refl _⟩, ⟨by (with_reducible repeat (first | refine blk_drewN ?_ _ | refine blk_drew ?_ | refine blk_alloc ?_ _)); exact BK253.out⟩, ⟨by (with_reducible repeat (first | refine blk_drewN ?_ _ | refine blk_drew ?_ | refine blk_alloc ?_ _)); exact BK254.out⟩, ⟨bel HB⟩⟩
            ·
             rw [if_neg c46] at H
             have c46b0 : (a1_0 == 1) = false := beq_eq_false_iff_ne.mpr c46
             have c46b1 : (a1_0 != 1) = true := bne_iff_ne.mpr c46
             (first | rw [c46b0] | (simp only [i64_w, i32_w]; rw [c46b0]) | skip)
             have H' := Aside0.mk H
             clear H
             have hnb49 := NB254_253.out
             have hnc49 := NB253_254.out
             have hz50 := cl10 BK254
             go_wp2
             first | go_meet | (refine Met.intro ?_; go_step; (repeat apply Exists.intro); refine ⟨?rel, ?eqq⟩; (case eqq => (try simp only [c4b0]); (try simp only [c46b0]); rfl))
             case rel => exact ⟨_, (false), (by first | rfl | (simp; done) | (simp [*]; done)), H', ⟨by have := HJ4.out; have := HJ21.out; have := HJ34.out; first | omega | exact Nat.le_refl _⟩, ⟨by (with_reducible repeat (first | refine blk_drewN ?_ _ | refine blk_drew ?_ | refine blk_alloc ?_ _)); exact BK253.out⟩, ⟨by (with_reducible repeat (first | refine blk_drewN ?_ _ | refine blk_drew ?_ | refine blk_alloc ?_ _)); exact BK254.out⟩, ⟨bel HB⟩⟩
           case rest =>
            clear HC45
            try clear c1
            try clear c2
            try clear p2
            try clear c3
            try clear c4
            try clear c4b0
            try clear c4b1
            try clear c8
            try clear c11
            try clear c11b0
            try clear c11b1
            try clear c12
            try clear c15
            try clear c15b0
            try clear c15b1
            try clear c16
            try clear c19
            try clear c21
            try clear c22
            try clear c24
            try clear c26
            try clear c28
            try clear c30
            try clear c32
            try clear c34
            try clear c36
            try clear c36b0
            try clear c36b1
            try clear c37
            try clear c38
            try clear c40
            try clear c42
            try clear c44
            try clear c46
            try clear c46b0
            try clear c46b1
            try clear c47
            try clear c49
            try clear hz13
            try clear hz14
            try clear hz17
            try clear hz18
            try clear hz20
            try clear hz29
            try clear hz31
            try clear hz33
            try clear hz39
            try clear hz41
            try clear hz43
            try clear hz48
            try clear hz50
            try clear hz9
            try clear p2
            obtain ⟨kq, x58_44, rfl, HA, HJ44, BK253, BK254, HB⟩ := hcut
            cases kq with
            | zero => exact absurd HA.out (by simp [impl_MailFault.j3])
            | succ kj44 =>
             have H := HA.out
             clear HA
             simp only [impl_MailFault.j3] at H
             by_cases c51 : x58_44 = true
             ·
              subst c51
              have H1 : (some 1) = some r := by rw [if_pos rfl] at H; first | done | exact H
              clear H
              have H := H1
              clear H1
              obtain rfl := Option.some.inj H
              go_wp2
              go_ret
              exact ⟨by first | rfl | (simp [errW_none, errW_some] <;> rfl) | (simp [*, errW_none, errW_some] <;> rfl), bel HB⟩
             ·
              replace c51 := Bool.eq_false_iff.mpr c51
              subst c51
              have H1 : (if a1_5 = true then (impl_MailFault.j4 kj44 (decide (a1_4 > a1_2)) a1_0 a1_1 a1_2 a1_3 a1_4 a1_5 a1_6 a1_7 a1_8 l1_9) else ((impl_Entry_isZero.f a1_6 a1_7 a1_8 l1_9).bind fun t259 => (if t259 = true then (impl_MailFault.j4 kj44 (decide (a1_4 > a1_2)) a1_0 a1_1 a1_2 a1_3 a1_4 a1_5 a1_6 a1_7 a1_8 l1_9) else (impl_MailFault.j4 kj44 true a1_0 a1_1 a1_2 a1_3 a1_4 a1_5 a1_6 a1_7 a1_8 l1_9)))) = some r := by rw [if_neg (show ¬ (false = true) by decide)] at H; first | done | exact H
              clear H
              have H := H1
              clear H1
              have HC52 := Aside0.mk H
              clear H
              go_upto_region 12 with (fail)
              go_cut [71] (fun v71 wc => ∃ (kq : Nat) (x71_51 : Bool), v71 = .bool x71_51 ∧ Aside0 (impl_MailFault.j4 kq x71_51 a1_0 a1_1 a1_2 a1_3 a1_4 a1_5 a1_6 a1_7 a1_8 l1_9 = some r) ∧ Aside0 (kq ≤ kj44) ∧ Aside0 (wc.heap[gb253]? = some (.cells #[.int .i64 a0_0, .bool a0_1, .int .i64 a0_2, .int .i64 a0_3, (.slice A0_4 l0_4.length c0_4), .int .i64 a0_5, .int .i64 a0_6, .int .i64 a0_7, .int .i64 a0_8] 29 (0, 0))) ∧ Aside0 (wc.heap[gb254]? = some (.cells #[.int .i64 a1_0, .int .i64 a1_1, .int .i64 a1_2, .int .i64 a1_3, .int .i64 a1_4, .bool a1_5, .int .i64 a1_6, .int .i64 a1_7, .int .i64 a1_8, (.slice A1_9 l1_9.length c1_9)] 53 (0, 0))) ∧ Aside0 (Below w.heap.size w wc))
              case first =>
               have H := HC52.out
               clear HC52
               by_cases c53 : a1_5 = true
               ·
                subst c53
                have H1 : (impl_MailFault.j4 kj44 (decide (a1_4 > a1_2)) a1_0 a1_1 a1_2 a1_3 a1_4 true a1_6 a1_7 a1_8 l1_9) = some r := by rw [if_pos rfl] at H; first | done | exact H
                clear H
                have H := H1
                clear H1
                have H' := Aside0.mk H
                clear H
                have hnb54 := NB254_253.out
                have hnc54 := NB253_254.out
                have hz55 := cl10 BK254
                go_wp2
                first | go_meet | (refine Met.intro ?_; go_step; (repeat apply Exists.intro); refine ⟨?rel, ?eqq⟩; (case eqq => (try simp only [c4b0]); rfl))
                case rel => exact ⟨_, (decide (a1_4 > a1_2)), (by first | rfl | (simp; done) | (simp [*]; done)), H', ⟨by have := HJ4.out; have := HJ21.out; have := HJ34.out; have := HJ44.out; first | omega | exact Nat.le_refl _⟩, ⟨by (with_reducible repeat (first | refine blk_drewN ?_ _ | refine blk_drew ?_ | refine blk_alloc ?_ _)); exact BK253.out⟩, ⟨by (with_reducible repeat (first | refine blk_drewN ?_ _ | refine blk_drew ?_ | refine blk_alloc ?_ _)); exact BK254.out⟩, ⟨bel HB⟩⟩
               ·
                replace c53 := Bool.eq_false_iff.mpr c53
                subst c53
                have H1 : ((impl_Entry_isZero.f a1_6 a1_7 a1_8 l1_9).bind fun t259 => (if t259 = true then (impl_MailFault.j4 kj44 (decide (a1_4 > a1_2)) a1_0 a1_1 a1_2 a1_3 a1_4 false a1_6 a1_7 a1_8 l1_9) else (impl_MailFault.j4 kj44 true a1_0 a1_1 a1_2 a1_3 a1_4 false a1_6 a1_7 a1_8 l1_9))) = some r := by rw [if_neg (show ¬ (false = true) by decide)] at H; first | done | exact H
                clear H
                have H := H1
                clear H1
                replace H := Option.bind_eq_some_iff.mp H
                obtain ⟨t259, A560, H⟩ := H
                replace H : (if t259 = true then (impl_MailFault.j4 kj44 (decide (a1_4 > a1_2)) a1_0 a1_1 a1_2 a1_3 a1_4 false a1_6 a1_7 a1_8 l1_9) else (impl_MailFault.j4 kj44 true a1_0 a1_1 a1_2 a1_3 a1_4 false a1_6 a1_7 a1_8 l1_9)) = some r := H
                have A56 := Aside0.mk A560
                clear A560
                by_cases c57 : t259 = true
                ·
                 subst c57
                 have H1 : (impl_MailFault.j4 kj44 (decide (a1_4 > a1_2)) a1_0 a1_1 a1_2 a1_3 a1_4 false a1_6 a1_7 a1_8 l1_9) = some r := by rw [if_pos rfl] at H; first | done | exact H
                 clear H
                 have H := H1
                 clear H1
                 have H' := Aside0.mk H
                 clear H
                 have hnb58 := NB254_253.out
                 have hnc58 := NB253_254.out
                 have hz59 := cl10 BK254
                 go_wp2_with (first | (go_at_call 49; (with_reducible refine (impl_Entry_isZero.calls a1_6 a1_7 a1_8 _ _ l1_9 true _ ?side1 ?side2 A56.out).mono ?_); (case side1 => exact mC HR1_9 HB); (case side2 => exact HC1_9.out); rintro e w60 ⟨rfl, hb⟩; replace BK253 := bK BK253 hb; replace BK254 := bK BK254 hb; replace HB := bS HB hb; (try clear hb); (try clear hb2); (try clear hk); (try clear hi); have hz61 := cl10 BK254))
                 first | go_meet | (refine Met.intro ?_; go_step; (repeat apply Exists.intro); refine ⟨?rel, ?eqq⟩; (case eqq => (try simp only [c4b0]); rfl))
                 case rel => exact ⟨_, (decide (a1_4 > a1_2)), (by first | rfl | (simp; done) | (simp [*]; done)), H', ⟨by have := HJ4.out; have := HJ21.out; have := HJ34.out; have := HJ44.out; first | omega | exact Nat.le_refl _⟩, ⟨by (with_reducible repeat (first | refine blk_drewN ?_ _ | refine blk_drew ?_ | refine blk_alloc ?_ _)); exact BK253.out⟩, ⟨by (with_reducible repeat (first | refine blk_drewN ?_ _ | refine blk_drew ?_ | refine blk_alloc ?_ _)); exact BK254.out⟩, ⟨bel HB⟩⟩
                ·
                 replace c57 := Bool.eq_false_iff.mpr c57
                 subst c57
                 have H1 : (impl_MailFault.j4 kj44 true a1_0 a1_1 a1_2 a1_3 a1_4 false a1_6 a1_7 a1_8 l1_9) = some r := by rw [if_neg (show ¬ (false = true) by decide)] at H; first | done | exact H
                 clear H
                 have H := H1
                 clear H1
                 have H' := Aside0.mk H
                 clear H
                 have hnb62 := NB254_253.out
                 have hnc62 := NB253_254.out
                 have hz63 := cl10 BK254
                 go_wp2_with (first | (go_at_call 49; (with_reducible refine (impl_Entry_isZero.calls a1_6 a1_7 a1_8 _ _ l1_9 false _ ?side1 ?side2 A56.out).mono ?_); (case side1 => exact mC HR1_9 HB); (case side2 => exact HC1_9.out); rintro e w64 ⟨rfl, hb⟩; replace BK253 := bK BK253 hb; replace BK254 := bK BK254 hb; replace HB := bS HB hb; (try clear hb); (try clear hb2); (try clear hk); (try clear hi)))
                 first | go_meet | (refine Met.intro ?_; go_step; (repeat apply Exists.intro); refine ⟨?rel, ?eqq⟩; (case eqq => (try simp only [c4b0]); rfl))
                 case rel => exact ⟨_, (true), (by first | rfl | (simp; done) | (simp [*]; done)), H', ⟨by have := HJ4.out; have := HJ21.out; have := HJ34.out; have := HJ44.out; first | omega | exact Nat.le_refl _⟩, ⟨by (with_reducible repeat (first | refine blk_drewN ?_ _ | refine blk_drew ?_ | refine blk_alloc ?_ _)); exact BK253.out⟩, ⟨by (with_reducible repeat (first | refine blk_drewN ?_ _ | refine blk_drew ?_ | refine blk_alloc ?_ _)); exact BK254.out⟩, ⟨bel HB⟩⟩
              case rest =>
               clear HC52
               try clear c1
               try clear c2
               try clear p2
               try clear c3
               try clear c4
               try clear c4b0
               try clear c4b1
               try clear c5
               try clear c6
               try clear c8
               try clear c11
               try clear c11b0
               try clear c11b1
               try clear c12
               try clear c15
               try clear c15b0
               try clear c15b1
               try clear c16
               try clear c19
               try clear c21
               try clear c22
               try clear c24
               try clear c26
               try clear c28
               try clear c30
               try clear c32
               try clear c34
               try clear c36
               try clear c36b0
               try clear c36b1
               try clear c37
               try clear c38
               try clear c40
               try clear c42
               try clear c44
               try clear c46
               try clear c46b0
               try clear c46b1
               try clear c47
               try clear c49
               try clear c51
               try clear c53
               try clear c54
               try clear c57
               try clear c58
               try clear c62
               try clear hz13
               try clear hz14
               try clear hz17
               try clear hz18
               try clear hz20
               try clear hz29
               try clear hz31
               try clear hz33
               try clear hz39
               try clear hz41
               try clear hz43
               try clear hz48
               try clear hz50
               try clear hz55
               try clear hz59
               try clear hz61
               try clear hz63
               try clear hz9
               try clear p2
               obtain ⟨kq, x71_51, rfl, HA, HJ51, BK253, BK254, HB⟩ := hcut
               cases kq with
               | zero => exact absurd HA.out (by simp [impl_MailFault.j4])
               | succ kj51 =>
                have H := HA.out
                clear HA
                simp only [impl_MailFault.j4] at H
                by_cases c65 : x71_51 = true
                ·
                 subst c65
                 have H1 : (some 1) = some r := by rw [if_pos rfl] at H; first | done | exact H
                 clear H
                 have H := H1
                 clear H1
                 obtain rfl := Option.some.inj H
                 go_wp2
                 go_ret
                 exact ⟨by first | rfl | (simp [errW_none, errW_some] <;> rfl) | (simp [*, errW_none, errW_some] <;> rfl), bel HB⟩
                ·
                 replace c65 := Bool.eq_false_iff.mpr c65
                 subst c65
                 have H1 : (if a1_5 = true then ((impl_EntryFault.f kj51 a1_6 a1_7 a1_8 l1_9).bind fun t260 => (if t260 = 0 then (if a1_6 > a1_2 then (some 1) else (if a1_6 < a1_4 then (some 1) else (some 0))) else (some t260))) else (some 0)) = some r := by rw [if_neg (show ¬ (false = true) by decide)] at H; first | done | exact H
                 clear H
                 have H := H1
                 clear H1
                 by_cases c66 : a1_5 = true
                 ·
                  subst c66
                  have H1 : ((impl_EntryFault.f kj51 a1_6 a1_7 a1_8 l1_9).bind fun t260 => (if t260 = 0 then (if a1_6 > a1_2 then (some 1) else (if a1_6 < a1_4 then (some 1) else (some 0))) else (some t260))) = some r := by rw [if_pos rfl] at H; first | done | exact H
                  clear H
                  have H := H1
                  clear H1
                  replace H := Option.bind_eq_some_iff.mp H
                  obtain ⟨t260, A670, H⟩ := H
                  replace H : (if t260 = 0 then (if a1_6 > a1_2 then (some 1) else (if a1_6 < a1_4 then (some 1) else (some 0))) else (some t260)) = some r := H
                  have A67 := Aside0.mk A670
                  clear A670
                  by_cases c68 : t260 = 0
                  ·
                   rw [if_pos c68] at H
                   have c68b0 : (t260 == 0) = true := beq_iff_eq.mpr c68
                   have c68b1 : (t260 != 0) = false := bne_eq_false_iff_eq.mpr c68
                   clear c68
                   by_cases c69 : a1_6 > a1_2
                   ·
                    rw [if_pos c69] at H
                    have c69b0 : decide (a1_2 < a1_6) = true := decide_eq_true c69
                    clear c69
                    obtain rfl := Option.some.inj H
                    have hnb70 := NB254_253.out
                    have hnc70 := NB253_254.out
                    have hz71 := cl10 BK254
                    go_wp2_with (first | ((with_reducible refine gate_callee (f := 36) rfl ?_); refine goA (some 94) rfl rfl Try.func36 rfl #[.agg #[.int .i64 a1_6, .int .i64 a1_7, .int .i64 a1_8, .slice A1_9 l1_9.length c1_9]] rfl ?_; (with_reducible refine (impl_EntryFault.calls kj51 a1_6 a1_7 a1_8 _ _ l1_9 t260 _ ?side1 ?side2 A67.out).mono ?_); (case side1 => exact mC HR1_9 HB); (case side2 => exact HC1_9.out); rintro e w72 ⟨rfl, hb⟩; refine ⟨_, rfl, ?_⟩; replace BK253 := bK BK253 hb; replace BK254 := bK BK254 hb; replace HB := bS HB hb; (try clear hb); (try clear hb2); (try clear hk); (try clear hi); have hz73 := cl10 BK254))
                    go_ret
                    exact ⟨by first | rfl | (simp [errW_none, errW_some] <;> rfl) | (simp [*, errW_none, errW_some] <;> rfl), bel HB⟩
                   ·
                    rw [if_neg c69] at H
                    have c69b0 : decide (a1_2 < a1_6) = false := decide_eq_false c69
                    clear c69
                    by_cases c74 : a1_6 < a1_4
                    ·
                     rw [if_pos c74] at H
                     have c74b0 : decide (a1_6 < a1_4) = true := decide_eq_true c74
                     clear c74
                     obtain rfl := Option.some.inj H
                     have hnb75 := NB254_253.out
                     have hnc75 := NB253_254.out
                     have hz76 := cl10 BK254
                     go_wp2_with (first | ((with_reducible refine gate_callee (f := 36) rfl ?_); refine goA (some 94) rfl rfl Try.func36 rfl #[.agg #[.int .i64 a1_6, .int .i64 a1_7, .int .i64 a1_8, .slice A1_9 l1_9.length c1_9]] rfl ?_; (with_reducible refine (impl_EntryFault.calls kj51 a1_6 a1_7 a1_8 _ _ l1_9 t260 _ ?side1 ?side2 A67.out).mono ?_); (case side1 => exact mC HR1_9 HB); (case side2 => exact HC1_9.out); rintro e w77 ⟨rfl, hb⟩; refine ⟨_, rfl, ?_⟩; replace BK253 := bK BK253 hb; replace BK254 := bK BK254 hb; replace HB := bS HB hb; (try clear hb); (try clear hb2); (try clear hk); (try clear hi); have hz78 := cl10 BK254))
                     go_ret
                     exact ⟨by first | rfl | (simp [errW_none, errW_some] <;> rfl) | (simp [*, errW_none, errW_some] <;> rfl), bel HB⟩
                    ·
                     rw [if_neg c74] at H
                     have c74b0 : decide (a1_6 < a1_4) = false := decide_eq_false c74
                     clear c74
                     obtain rfl := Option.some.inj H
                     have hnb79 := NB254_253.out
                     have hnc79 := NB253_254.out
                     have hz80 := cl10 BK254
                     go_wp2_with (first | ((with_reducible refine gate_callee (f := 36) rfl ?_); refine goA (some 94) rfl rfl Try.func36 rfl #[.agg #[.int .i64 a1_6, .int .i64 a1_7, .int .i64 a1_8, .slice A1_9 l1_9.length c1_9]] rfl ?_; (with_reducible refine (impl_EntryFault.calls kj51 a1_6 a1_7 a1_8 _ _ l1_9 t260 _ ?side1 ?side2 A67.out).mono ?_); (case side1 => exact mC HR1_9 HB); (case side2 => exact HC1_9.out); rintro e w81 ⟨rfl, hb⟩; refine ⟨_, rfl, ?_⟩; replace BK253 := bK BK253 hb; replace BK254 := bK BK254 hb; replace HB := bS HB hb; (try clear hb); (try clear hb2); (try clear hk); (try clear hi); have hz82 := cl10 BK254))
                     go_ret
                     exact ⟨by first | rfl | (simp [errW_none, errW_some] <;> rfl) | (simp [*, errW_none, errW_some] <;> rfl), bel HB⟩
                  ·
                   rw [if_neg c68] at H
                   have c68b0 : (t260 == 0) = false := beq_eq_false_iff_ne.mpr c68
                   have c68b1 : (t260 != 0) = true := bne_iff_ne.mpr c68
                   obtain rfl := Option.some.inj H
                   have hnb83 := NB254_253.out
                   have hnc83 := NB253_254.out
                   have hz84 := cl10 BK254
                   go_wp2_with (first | ((with_reducible refine gate_callee (f := 36) rfl ?_); refine goA (some 94) rfl rfl Try.func36 rfl #[.agg #[.int .i64 a1_6, .int .i64 a1_7, .int .i64 a1_8, .slice A1_9 l1_9.length c1_9]] rfl ?_; (with_reducible refine (impl_EntryFault.calls kj51 a1_6 a1_7 a1_8 _ _ l1_9 t260 _ ?side1 ?side2 A67.out).mono ?_); (case side1 => exact mC HR1_9 HB); (case side2 => exact HC1_9.out); rintro e w85 ⟨rfl, hb⟩; refine ⟨_, rfl, ?_⟩; replace BK253 := bK BK253 hb; replace BK254 := bK BK254 hb; replace HB := bS HB hb; (try clear hb); (try clear hb2); (try clear hk); (try clear hi)))
                   go_ret
                   exact ⟨by first | rfl | (simp [errW_none, errW_some] <;> rfl) | (simp [*, errW_none, errW_some] <;> rfl), bel HB⟩
                 ·
                  replace c66 := Bool.eq_false_iff.mpr c66
                  subst c66
                  have H1 : (some 0) = some r := by rw [if_neg (show ¬ (false = true) by decide)] at H; first | done | exact H
                  clear H
                  have H := H1
                  clear H1
                  obtain rfl := Option.some.inj H
                  have hnb86 := NB254_253.out
                  have hnc86 := NB253_254.out
                  have hz87 := cl10 BK254
                  go_wp2
                  go_ret
                  exact ⟨by first | rfl | (simp [errW_none, errW_some] <;> rfl) | (simp [*, errW_none, errW_some] <;> rfl), bel HB⟩
 ·
  rw [if_neg c4] at H
  have c4b0 : (t255 == 0) = false := beq_eq_false_iff_ne.mpr c4
  have c4b1 : (t255 != 0) = true := bne_iff_ne.mpr c4
  obtain rfl := Option.some.inj H
  go_enter Try.func22, Try.ntmps22
  go_wp2_with (first | ((with_reducible refine gate_dst (N := 2) rfl ?_); refine boxE #[.int .i64 a0_0, .bool a0_1, .int .i64 a0_2, .int .i64 a0_3, .slice A0_4 l0_4.length c0_4, .int .i64 a0_5, .int .i64 a0_6, .int .i64 a0_7, .int .i64 a0_8] 29 (N := 2) rfl rfl ?_; intro gb253 hg w88 hbox hb; have BK253 := Aside0.mk hbox; have GW253 := gZ HB hg; have GE253 := gZ HB hg; replace HB := bS HB hb; clear hb hbox hg) | ((with_reducible refine gate_dst (N := 3) rfl ?_); refine boxE #[.int .i64 a1_0, .int .i64 a1_1, .int .i64 a1_2, .int .i64 a1_3, .int .i64 a1_4, .bool a1_5, .int .i64 a1_6, .int .i64 a1_7, .int .i64 a1_8, .slice A1_9 l1_9.length c1_9] 53 (N := 3) rfl rfl ?_; intro gb254 hg w89 hbox hb; have BK254 := Aside0.mk hbox; have GW254 := gZ HB hg; have GE254 := gZ HB hg; replace HB := bS HB hb; have NB253_254 := nL BK253 hg; have NB254_253 := nG BK253 hg; replace BK253 := bK BK253 hb; clear hb hbox hg; have hnb90 := NB253_254.out; have hnc90 := NB254_253.out; have hz91 := cl9 BK253) | ((with_reducible refine gate_callee (f := 12) rfl ?_); refine goA (some 8) rfl rfl Try.func12 rfl #[.agg #[.int .i64 a0_0, .bool a0_1, .int .i64 a0_2, .int .i64 a0_3, .slice A0_4 l0_4.length c0_4, .int .i64 a0_5, .int .i64 a0_6, .int .i64 a0_7, .int .i64 a0_8]] rfl ?_; (with_reducible refine (impl_NodeFault.calls k a0_0 a0_1 a0_2 a0_3 _ _ l0_4 a0_5 a0_6 a0_7 a0_8 t255 _ ?side1 ?side2 A3.out).mono ?_); (case side1 => exact mC HR0_4 HB); (case side2 => exact HC0_4.out); rintro e w92 ⟨rfl, hb⟩; refine ⟨_, rfl, ?_⟩; replace BK253 := bK BK253 hb; replace BK254 := bK BK254 hb; replace HB := bS HB hb; (try clear hb); (try clear hb2); (try clear hk); (try clear hi)))
  go_ret
  exact ⟨by first | rfl | (simp [errW_none, errW_some] <;> rfl) | (simp [*, errW_none, errW_some] <;> rfl), bel HB⟩

end Go.Proofs.Ytgfoifkkffffgaa.PFnExactMailFault
