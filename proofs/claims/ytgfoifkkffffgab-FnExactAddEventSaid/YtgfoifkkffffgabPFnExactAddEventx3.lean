-- Laid by a turned copy of the printer (wip/tools/patch_print.py)
import Derived.Test.YtgfoifkkffffgabPFnExactAddEventx0
import Derived.Test.YtgfoifkkffffgabPFnExactAddEventx1
import Derived.Test.YtgfoifkkffffgabPFnExactAddEventx2
namespace Go.Proofs.Ytgfoifkkffffgab.PFnExactAddEvent
open Go.RowKit Go.Proofs.YtgfoifkkffffgabW.PrintWords Go.Proofs.YtgfoifkkffffgabW.PrintLast Go.Proofs.YtgfoifkkffffgabW.PrintMore
attribute [local go_sem] max2_int min2_int max_two min_two max_three min_three max_four min_four   -- for this text's walks alone
set_option linter.unusedVariables false
set_option linter.unusedSimpArgs false

/-! ### spec_l12Fault: function 119 -/
mutual
def spec_l12Fault.j0 : Nat → Bool → Int → Bool → Int → Int → List (S55) → Int → Int → Int → Int → Option (Int × Int × Bool × Int × Int × Int × Int × Int × Int)
 | 0, _, _, _, _, _, _, _, _, _, _ => none
 | k + 1, x27, x1000, x1001, x1002, x1003, x1004, x1005, x1006, x1007, x1008 => if x27 = true then (some (3, x1000, x1001, x1002, x1003, x1005, x1006, x1007, x1008)) else ((spec_l12Log.f k x1000 x1001 x1002 x1003 x1004 x1005 x1006 x1007 x1008).bind fun bt125 => (if bt125.1 = 0 then ((spec_l1In.f bt125.2.2.2.2.2.1 0 (x1004.length : Int)).bind fun t134 => (if t134 = true then ((spec_l1In.f bt125.2.2.2.2.2.2.1 0 (x1004.length : Int)).bind fun t135 => (if t135 = true then ((spec_l1In.f bt125.2.2.2.2.2.2.2.1 0 (x1004.length : Int)).bind fun t136 => (if t136 = true then ((spec_l1In.f bt125.2.2.2.2.2.2.2.2 0 bt125.2.2.2.2.2.1).bind fun t137 => (spec_l12Fault.j1 k (x1004.length : Int) (!t137) bt125.2.1 bt125.2.2.1 bt125.2.2.2.1 bt125.2.2.2.2.1 x1004 bt125.2.2.2.2.2.1 bt125.2.2.2.2.2.2.1 bt125.2.2.2.2.2.2.2.1 bt125.2.2.2.2.2.2.2.2)) else (spec_l12Fault.j1 k (x1004.length : Int) true bt125.2.1 bt125.2.2.1 bt125.2.2.2.1 bt125.2.2.2.2.1 x1004 bt125.2.2.2.2.2.1 bt125.2.2.2.2.2.2.1 bt125.2.2.2.2.2.2.2.1 bt125.2.2.2.2.2.2.2.2))) else (spec_l12Fault.j1 k (x1004.length : Int) true bt125.2.1 bt125.2.2.1 bt125.2.2.2.1 bt125.2.2.2.2.1 x1004 bt125.2.2.2.2.2.1 bt125.2.2.2.2.2.2.1 bt125.2.2.2.2.2.2.2.1 bt125.2.2.2.2.2.2.2.2))) else (spec_l12Fault.j1 k (x1004.length : Int) true bt125.2.1 bt125.2.2.1 bt125.2.2.2.1 bt125.2.2.2.2.1 x1004 bt125.2.2.2.2.2.1 bt125.2.2.2.2.2.2.1 bt125.2.2.2.2.2.2.2.1 bt125.2.2.2.2.2.2.2.2))) else (some (bt125.1, bt125.2.1, bt125.2.2.1, bt125.2.2.2.1, bt125.2.2.2.2.1, bt125.2.2.2.2.2.1, bt125.2.2.2.2.2.2.1, bt125.2.2.2.2.2.2.2.1, bt125.2.2.2.2.2.2.2.2))))
def spec_l12Fault.j1 : Nat → Int → Bool → Int → Bool → Int → Int → List (S55) → Int → Int → Int → Int → Option (Int × Int × Bool × Int × Int × Int × Int × Int × Int)
 | 0, _, _, _, _, _, _, _, _, _, _, _ => none
 | k + 1, x4, x74, x1000, x1001, x1002, x1003, x1004, x1005, x1006, x1007, x1008 => if x74 = true then (some (3, x1000, x1001, x1002, x1003, x1005, x1006, x1007, x1008)) else (if x1002 = 1 then (if x1001 = true then (if x1003 = 0 then (some (1, x1000, x1001, x1002, x1003, x1005, x1006, x1007, x1008)) else (if x1006 = 0 then (some (0, x1000, x1001, x1002, x1003, x1005, x1006, x1007, x1008)) else (some (1, x1000, x1001, x1002, x1003, x1005, x1006, x1007, x1008)))) else (some (1, x1000, x1001, x1002, x1003, x1005, x1006, x1007, x1008))) else (if x1007 = 0 then (if x1001 = true then (some (0, x1000, x1001, x1002, x1003, x1005, x1006, x1007, x1008)) else (if x1005 = x4 then (if x1006 = 0 then (if x1008 = 0 then (some (0, x1000, x1001, x1002, x1003, x1005, x1006, x1007, x1008)) else (some (1, x1000, x1001, x1002, x1003, x1005, x1006, x1007, x1008))) else (some (1, x1000, x1001, x1002, x1003, x1005, x1006, x1007, x1008))) else (some (1, x1000, x1001, x1002, x1003, x1005, x1006, x1007, x1008)))) else (some (1, x1000, x1001, x1002, x1003, x1005, x1006, x1007, x1008))))
end
def spec_l12Fault.f (k : Nat) (s0_0 : Int) (s0_1 : Bool) (s0_2 : Int) (s0_3 : Int) (s0_4 : List (S55)) (s0_5 : Int) (s0_6 : Int) (s0_7 : Int) (s0_8 : Int) : Option (Int × Int × Bool × Int × Int × Int × Int × Int × Int) := (spec_l1In.f s0_0 0 1).bind fun t122 => (if t122 = true then ((spec_l1In.f s0_2 0 1).bind fun t123 => (if t123 = true then ((spec_l1In.f s0_3 0 1000).bind fun t124 => (spec_l12Fault.j0 k (!t124) s0_0 s0_1 s0_2 s0_3 s0_4 s0_5 s0_6 s0_7 s0_8)) else (spec_l12Fault.j0 k true s0_0 s0_1 s0_2 s0_3 s0_4 s0_5 s0_6 s0_7 s0_8))) else (spec_l12Fault.j0 k true s0_0 s0_1 s0_2 s0_3 s0_4 s0_5 s0_6 s0_7 s0_8))
theorem spec_l12Fault.mono_l : ∀ k, (∀ y0 y1 y2 y3 y4 y5 y6 y7 y8 y9, LeO (spec_l12Fault.j0 k y0 y1 y2 y3 y4 y5 y6 y7 y8 y9) (spec_l12Fault.j0 (k + 1) y0 y1 y2 y3 y4 y5 y6 y7 y8 y9)) ∧ (∀ y0 y1 y2 y3 y4 y5 y6 y7 y8 y9 y10, LeO (spec_l12Fault.j1 k y0 y1 y2 y3 y4 y5 y6 y7 y8 y9 y10) (spec_l12Fault.j1 (k + 1) y0 y1 y2 y3 y4 y5 y6 y7 y8 y9 y10))
 | 0 => ⟨fun _ _ _ _ _ _ _ _ _ _ r h => by simp [spec_l12Fault.j0] at h, fun _ _ _ _ _ _ _ _ _ _ _ r h => by simp [spec_l12Fault.j1] at h⟩
 | k + 1 => by
  obtain ⟨ih0, ih1⟩ := spec_l12Fault.mono_l k
  refine ⟨?_, ?_⟩
  ·
   intro y0 y1 y2 y3 y4 y5 y6 y7 y8 y9
   unfold spec_l12Fault.j0
   repeat' first
   | (with_reducible exact ih0 _ _ _ _ _ _ _ _ _ _)
   | (with_reducible exact ih1 _ _ _ _ _ _ _ _ _ _ _)
   | (with_reducible exact spec_l12Log.mono _ _ _ _ _ _ _ _ _ _)
   | (with_reducible exact LeO.refl _)
   | (with_reducible exact LeO.none _)
   | (with_reducible refine LeO.ite ?_ ?_)
   | (with_reducible refine LeO.bind ?_ (fun _ => ?_))
   | exact ih0 _ _ _ _ _ _ _ _ _ _
   | exact ih1 _ _ _ _ _ _ _ _ _ _ _
   | exact spec_l12Log.mono _ _ _ _ _ _ _ _ _ _
   | exact LeO.none _
   | refine LeO.ite ?_ ?_
   | refine LeO.bind ?_ (fun _ => ?_)
  intro y0 y1 y2 y3 y4 y5 y6 y7 y8 y9 y10
  unfold spec_l12Fault.j1
  repeat' first
  | (with_reducible exact ih0 _ _ _ _ _ _ _ _ _ _)
  | (with_reducible exact ih1 _ _ _ _ _ _ _ _ _ _ _)
  | (with_reducible exact spec_l12Log.mono _ _ _ _ _ _ _ _ _ _)
  | (with_reducible exact LeO.refl _)
  | (with_reducible exact LeO.none _)
  | (with_reducible refine LeO.ite ?_ ?_)
  | (with_reducible refine LeO.bind ?_ (fun _ => ?_))
  | exact ih0 _ _ _ _ _ _ _ _ _ _
  | exact ih1 _ _ _ _ _ _ _ _ _ _ _
  | exact spec_l12Log.mono _ _ _ _ _ _ _ _ _ _
  | exact LeO.none _
  | refine LeO.ite ?_ ?_
  | refine LeO.bind ?_ (fun _ => ?_)
theorem spec_l12Fault.mono : ∀ a0 a1 a2 a3 a4 a5 a6 a7 a8 k, LeO (spec_l12Fault.f k a0 a1 a2 a3 a4 a5 a6 a7 a8) (spec_l12Fault.f (k + 1) a0 a1 a2 a3 a4 a5 a6 a7 a8) := by
 intro a0 a1 a2 a3 a4 a5 a6 a7 a8 k
 obtain ⟨ih0, ih1⟩ := spec_l12Fault.mono_l k
 unfold spec_l12Fault.f
 repeat' first
   | (with_reducible exact ih0 _ _ _ _ _ _ _ _ _ _)
   | (with_reducible exact ih1 _ _ _ _ _ _ _ _ _ _ _)
   | (with_reducible exact spec_l12Log.mono _ _ _ _ _ _ _ _ _ _)
   | (with_reducible exact LeO.refl _)
   | (with_reducible exact LeO.none _)
   | (with_reducible refine LeO.ite ?_ ?_)
   | (with_reducible refine LeO.bind ?_ (fun _ => ?_))
   | exact ih0 _ _ _ _ _ _ _ _ _ _
   | exact ih1 _ _ _ _ _ _ _ _ _ _ _
   | exact spec_l12Log.mono _ _ _ _ _ _ _ _ _ _
   | exact LeO.none _
   | refine LeO.ite ?_ ?_
   | refine LeO.bind ?_ (fun _ => ?_)
def spec_l12Fault.T7 : Bool × List (List Nat × List Nat) := (true, [([], []), ([0], [0]), ([1], [1]), ([2], [2]), ([], []), ([3, 4], [3, 4]), ([5], [5]), ([6, 5], [6]), ([7], [7]), ([8, 7], [7, 8]), ([9, 7], [7, 9]), ([10, 7], [7, 10]), ([7], [7]), ([11, 12, 7, 7], [7, 11, 12]), ([13, 7], [7, 13]), ([7, 14], [7, 14]), ([15, 13], [15]), ([16], [16]), ([17, 16], [16, 17]), ([18, 16], [16, 18]), ([19, 16], [16, 19]), ([16], [16]), ([20, 21, 16, 16], [16, 20, 21]), ([22, 16], [16, 22]), ([16, 23], [16, 23]), ([24, 22], [24]), ([25], [25]), ([26, 25], [25, 26]), ([27, 25], [25, 27]), ([28, 25], [25, 28]), ([25], [25]), ([30, 25], [25, 30]), ([31, 25], [25, 31]), ([32, 25], [25, 32]), ([29, 33, 25, 25], [25, 29, 33]), ([34, 25], [25, 34]), ([25, 35], [25, 35])])
def spec_l12Fault.B7 : List Nat := [0, 1, 3, 7, 0, 31, 63, 127, 255, 511, 1023, 2047, 255, 8191, 16383, 32767, 65535, 131071, 262143, 524287, 1048575, 131071, 4194303, 8388607, 16777215, 33554431, 67108863, 134217727, 268435455, 536870911, 67108863, 1140850687, 3288334335, 7583301631, 17179869183, 34359738367, 68719476735]
theorem spec_l12Fault.tab7 : rtab .any (opsOf Try.f119 7) = spec_l12Fault.T7 := by kernel_rfl
theorem spec_l12Fault.bits7 : waitsOk spec_l12Fault.T7.2 spec_l12Fault.B7 = true := by kernel_rfl
set_option maxHeartbeats 8000000 in
set_option maxRecDepth 100000 in
theorem spec_l12Fault.calls (k : Nat) (g : Nat) (s0_0 : Int) (s0_1 : Bool) (s0_2 : Int) (s0_3 : Int) (s0_4 : List (S55)) (s0_5 : Int) (s0_6 : Int) (s0_7 : Int) (s0_8 : Int) (r1 : Int) (r2 : Int) (r3 : Bool) (r4 : Int) (r5 : Int) (r6 : Int) (r7 : Int) (r8 : Int) (r9 : Int) (w0 w : World) (hI : IsS32 w0 w g s0_0 s0_1 s0_2 s0_3 s0_4 s0_5 s0_6 s0_7 s0_8) (hB : Below w0.heap.size w0 w) (h : spec_l12Fault.f k s0_0 s0_1 s0_2 s0_3 s0_4 s0_5 s0_6 s0_7 s0_8 = some (r1, r2, r3, r4, r5, r6, r7, r8, r9)) :
  Calls Try.prog 119 #[.pointer (some ⟨g, 0, none⟩)] w fun e w' => e = .returned (.int .i64 r1) ∧ IsS32 w0 w' g r2 r3 r4 r5 s0_4 r6 r7 r8 r9 ∧ Below w0.heap.size w0 w' ∧ KeepBut w w' g none := by
 have HI0 := Aside0.mk hI
 have HK := am (KeepBut.refl w g none)
 have HL := Aside0.mk hB.size
 clear hI
 have HW0 := Aside0.mk hB.size
 have HB := Aside0.mk hB
 clear hB
 have H : ((spec_l1In.f s0_0 0 1).bind fun t122 => (if t122 = true then ((spec_l1In.f s0_2 0 1).bind fun t123 => (if t123 = true then ((spec_l1In.f s0_3 0 1000).bind fun t124 => (spec_l12Fault.j0 k (!t124) s0_0 s0_1 s0_2 s0_3 s0_4 s0_5 s0_6 s0_7 s0_8)) else (spec_l12Fault.j0 k true s0_0 s0_1 s0_2 s0_3 s0_4 s0_5 s0_6 s0_7 s0_8))) else (spec_l12Fault.j0 k true s0_0 s0_1 s0_2 s0_3 s0_4 s0_5 s0_6 s0_7 s0_8))) = some (r1, r2, r3, r4, r5, r6, r7, r8, r9) := h
 clear h
 have HC2 := Aside0.mk H
 clear H
 go_enter Try.func119, Try.ntmps119
 go_upto_region 1 with (fail)
 go_cut [27] (fun v27 wc => ∃ (kq : Nat) (x27_1 : Bool), v27 = .bool x27_1 ∧ Aside0 (spec_l12Fault.j0 kq x27_1 s0_0 s0_1 s0_2 s0_3 s0_4 s0_5 s0_6 s0_7 s0_8 = some (r1, r2, r3, r4, r5, r6, r7, r8, r9)) ∧ Aside0 (kq ≤ k) ∧ Aside0 (IsS32 w0 wc g s0_0 s0_1 s0_2 s0_3 s0_4 s0_5 s0_6 s0_7 s0_8) ∧ Aside0 (KeepBut w wc g none) ∧ Aside0 (Below w0.heap.size w0 wc))
 case first =>
  have H := HC2.out
  clear HC2
  replace H := Option.bind_eq_some_iff.mp H
  obtain ⟨t122, A30, H⟩ := H
  replace H : (if t122 = true then ((spec_l1In.f s0_2 0 1).bind fun t123 => (if t123 = true then ((spec_l1In.f s0_3 0 1000).bind fun t124 => (spec_l12Fault.j0 k (!t124) s0_0 s0_1 s0_2 s0_3 s0_4 s0_5 s0_6 s0_7 s0_8)) else (spec_l12Fault.j0 k true s0_0 s0_1 s0_2 s0_3 s0_4 s0_5 s0_6 s0_7 s0_8))) else (spec_l12Fault.j0 k true s0_0 s0_1 s0_2 s0_3 s0_4 s0_5 s0_6 s0_7 s0_8)) = some (r1, r2, r3, r4, r5, r6, r7, r8, r9) := H
  have A3 := Aside0.mk A30
  clear A30
  by_cases c4 : t122 = true
  ·
   subst c4
   have H1 : ((spec_l1In.f s0_2 0 1).bind fun t123 => (if t123 = true then ((spec_l1In.f s0_3 0 1000).bind fun t124 => (spec_l12Fault.j0 k (!t124) s0_0 s0_1 s0_2 s0_3 s0_4 s0_5 s0_6 s0_7 s0_8)) else (spec_l12Fault.j0 k true s0_0 s0_1 s0_2 s0_3 s0_4 s0_5 s0_6 s0_7 s0_8))) = some (r1, r2, r3, r4, r5, r6, r7, r8, r9) := by rw [if_pos rfl] at H; first | done | exact H
   clear H
   have H := H1
   clear H1
   replace H := Option.bind_eq_some_iff.mp H
   obtain ⟨t123, A50, H⟩ := H
   replace H : (if t123 = true then ((spec_l1In.f s0_3 0 1000).bind fun t124 => (spec_l12Fault.j0 k (!t124) s0_0 s0_1 s0_2 s0_3 s0_4 s0_5 s0_6 s0_7 s0_8)) else (spec_l12Fault.j0 k true s0_0 s0_1 s0_2 s0_3 s0_4 s0_5 s0_6 s0_7 s0_8)) = some (r1, r2, r3, r4, r5, r6, r7, r8, r9) := H
   have A5 := Aside0.mk A50
   clear A50
   by_cases c6 : t123 = true
   ·
    subst c6
    have H1 : ((spec_l1In.f s0_3 0 1000).bind fun t124 => (spec_l12Fault.j0 k (!t124) s0_0 s0_1 s0_2 s0_3 s0_4 s0_5 s0_6 s0_7 s0_8)) = some (r1, r2, r3, r4, r5, r6, r7, r8, r9) := by rw [if_pos rfl] at H; first | done | exact H
    clear H
    have H := H1
    clear H1
    replace H := Option.bind_eq_some_iff.mp H
    obtain ⟨t124, A70, H⟩ := H
    replace H : (spec_l12Fault.j0 k (!t124) s0_0 s0_1 s0_2 s0_3 s0_4 s0_5 s0_6 s0_7 s0_8) = some (r1, r2, r3, r4, r5, r6, r7, r8, r9) := H
    have A7 := Aside0.mk A70
    clear A70
    have H' := Aside0.mk H
    clear H
    obtain ⟨ASz8_4, cSz8_4, HGz8, hgz8, HSz8_4, HLz8_4⟩ := HI0.out
    have hcz8_0 := cellS32_0 HGz8
    have hcz8_1 := cellS32_1 HGz8
    have hcz8_2 := cellS32_2 HGz8
    have hcz8_3 := cellS32_3 HGz8
    have hcz8_4 := cellS32_4 HGz8
    have hcz8_5 := cellS32_5 HGz8
    have hcz8_6 := cellS32_6 HGz8
    have hcz8_7 := cellS32_7 HGz8
    have hcz8_8 := cellS32_8 HGz8
    have hfz8_0 := blk_frozen HGz8 0
    have hfz8_1 := blk_frozen HGz8 1
    have hfz8_2 := blk_frozen HGz8 2
    have hfz8_3 := blk_frozen HGz8 3
    have hfz8_5 := blk_frozen HGz8 5
    have hfz8_6 := blk_frozen HGz8 6
    have hfz8_7 := blk_frozen HGz8 7
    have hfz8_8 := blk_frozen HGz8 8
    clear HGz8 hgz8
    go_wp2_with (first | ((with_reducible refine gate_callee (f := 88) rfl ?_); refine goA (some 10) rfl rfl Try.func88 rfl #[.int .i64 s0_0, .int .i64 0, .int .i64 1] rfl ?_; (with_reducible refine (spec_l1In.calls s0_0 0 1 true _ A3.out).mono ?_); rintro e w' ⟨rfl, ⟨nd, rfl⟩⟩; refine ⟨_, rfl, ?_⟩) | (go_at_call 88; (with_reducible refine (spec_l1In.calls s0_2 0 1 true _ A5.out).mono ?_); rintro e w' ⟨rfl, ⟨nd, rfl⟩⟩) | (go_at_call 88; (with_reducible refine (spec_l1In.calls s0_3 0 1000 t124 _ A7.out).mono ?_); rintro e w' ⟨rfl, ⟨nd, rfl⟩⟩))
    go_meet
    case rel => exact ⟨_, (!t124), (by first | rfl | (simp; done) | (simp [*]; done)), H', ⟨by first | omega | exact Nat.le_refl _⟩, ⟨by repeat (first | (with_reducible first | exact HI0.out | apply IsS32.alloc | apply IsS32.drewN | apply IsS32.drew | apply IsS32.set_0 | apply IsS32.set_1 | apply IsS32.set_2 | apply IsS32.set_3 | apply IsS32.set_5 | apply IsS32.set_6 | apply IsS32.set_7 | apply IsS32.set_8) | exact HI0.out)⟩, ⟨by repeat (first | (with_reducible first | exact HK.out | apply KeepBut.set_ | apply keep_drewN | apply keep_drew | apply keep_alloc) | exact HK.out)⟩, ⟨by repeat (first | (with_reducible first | exact HB.out | apply below_alloc | apply pw_below_drewN | apply below_drew1 | refine below_set ?_ (IsS32.ge HI0.out)) | exact HB.out)⟩⟩
   replace c6 := Bool.eq_false_iff.mpr c6
   subst c6
   have H1 : (spec_l12Fault.j0 k true s0_0 s0_1 s0_2 s0_3 s0_4 s0_5 s0_6 s0_7 s0_8) = some (r1, r2, r3, r4, r5, r6, r7, r8, r9) := by rw [if_neg (show ¬ (false = true) by decide)] at H; first | done | exact H
   clear H
   have H := H1
   clear H1
   have H' := Aside0.mk H
   clear H
   obtain ⟨ASz9_4, cSz9_4, HGz9, hgz9, HSz9_4, HLz9_4⟩ := HI0.out
   have hcz9_0 := cellS32_0 HGz9
   have hcz9_1 := cellS32_1 HGz9
   have hcz9_2 := cellS32_2 HGz9
   have hcz9_3 := cellS32_3 HGz9
   have hcz9_4 := cellS32_4 HGz9
   have hcz9_5 := cellS32_5 HGz9
   have hcz9_6 := cellS32_6 HGz9
   have hcz9_7 := cellS32_7 HGz9
   have hcz9_8 := cellS32_8 HGz9
   have hfz9_0 := blk_frozen HGz9 0
   have hfz9_1 := blk_frozen HGz9 1
   have hfz9_2 := blk_frozen HGz9 2
   have hfz9_3 := blk_frozen HGz9 3
   have hfz9_5 := blk_frozen HGz9 5
   have hfz9_6 := blk_frozen HGz9 6
   have hfz9_7 := blk_frozen HGz9 7
   have hfz9_8 := blk_frozen HGz9 8
   clear HGz9 hgz9
   go_wp2_with (first | ((with_reducible refine gate_callee (f := 88) rfl ?_); refine goA (some 10) rfl rfl Try.func88 rfl #[.int .i64 s0_0, .int .i64 0, .int .i64 1] rfl ?_; (with_reducible refine (spec_l1In.calls s0_0 0 1 true _ A3.out).mono ?_); rintro e w' ⟨rfl, ⟨nd, rfl⟩⟩; refine ⟨_, rfl, ?_⟩) | (go_at_call 88; (with_reducible refine (spec_l1In.calls s0_2 0 1 false _ A5.out).mono ?_); rintro e w' ⟨rfl, ⟨nd, rfl⟩⟩))
   go_meet
   case rel => exact ⟨_, (true), (by first | rfl | (simp; done) | (simp [*]; done)), H', ⟨by first | omega | exact Nat.le_refl _⟩, ⟨by repeat (first | (with_reducible first | exact HI0.out | apply IsS32.alloc | apply IsS32.drewN | apply IsS32.drew | apply IsS32.set_0 | apply IsS32.set_1 | apply IsS32.set_2 | apply IsS32.set_3 | apply IsS32.set_5 | apply IsS32.set_6 | apply IsS32.set_7 | apply IsS32.set_8) | exact HI0.out)⟩, ⟨by repeat (first | (with_reducible first | exact HK.out | apply KeepBut.set_ | apply keep_drewN | apply keep_drew | apply keep_alloc) | exact HK.out)⟩, ⟨by repeat (first | (with_reducible first | exact HB.out | apply below_alloc | apply pw_below_drewN | apply below_drew1 | refine below_set ?_ (IsS32.ge HI0.out)) | exact HB.out)⟩⟩
  replace c4 := Bool.eq_false_iff.mpr c4
  subst c4
  have H1 : (spec_l12Fault.j0 k true s0_0 s0_1 s0_2 s0_3 s0_4 s0_5 s0_6 s0_7 s0_8) = some (r1, r2, r3, r4, r5, r6, r7, r8, r9) := by rw [if_neg (show ¬ (false = true) by decide)] at H; first | done | exact H
  clear H
  have H := H1
  clear H1
  have H' := Aside0.mk H
  clear H
  obtain ⟨ASz10_4, cSz10_4, HGz10, hgz10, HSz10_4, HLz10_4⟩ := HI0.out
  have hcz10_0 := cellS32_0 HGz10
  have hcz10_1 := cellS32_1 HGz10
  have hcz10_2 := cellS32_2 HGz10
  have hcz10_3 := cellS32_3 HGz10
  have hcz10_4 := cellS32_4 HGz10
  have hcz10_5 := cellS32_5 HGz10
  have hcz10_6 := cellS32_6 HGz10
  have hcz10_7 := cellS32_7 HGz10
  have hcz10_8 := cellS32_8 HGz10
  have hfz10_0 := blk_frozen HGz10 0
  have hfz10_1 := blk_frozen HGz10 1
  have hfz10_2 := blk_frozen HGz10 2
  have hfz10_3 := blk_frozen HGz10 3
  have hfz10_5 := blk_frozen HGz10 5
  have hfz10_6 := blk_frozen HGz10 6
  have hfz10_7 := blk_frozen HGz10 7
  have hfz10_8 := blk_frozen HGz10 8
  clear HGz10 hgz10
  go_wp2_with (first | ((with_reducible refine gate_callee (f := 88) rfl ?_); refine goA (some 10) rfl rfl Try.func88 rfl #[.int .i64 s0_0, .int .i64 0, .int .i64 1] rfl ?_; (with_reducible refine (spec_l1In.calls s0_0 0 1 false _ A3.out).mono ?_); rintro e w' ⟨rfl, ⟨nd, rfl⟩⟩; refine ⟨_, rfl, ?_⟩))
  go_meet
  case rel => exact ⟨_, (true), (by first | rfl | (simp; done) | (simp [*]; done)), H', ⟨by first | omega | exact Nat.le_refl _⟩, ⟨by repeat (first | (with_reducible first | exact HI0.out | apply IsS32.alloc | apply IsS32.drewN | apply IsS32.drew | apply IsS32.set_0 | apply IsS32.set_1 | apply IsS32.set_2 | apply IsS32.set_3 | apply IsS32.set_5 | apply IsS32.set_6 | apply IsS32.set_7 | apply IsS32.set_8) | exact HI0.out)⟩, ⟨by repeat (first | (with_reducible first | exact HK.out | apply KeepBut.set_ | apply keep_drewN | apply keep_drew | apply keep_alloc) | exact HK.out)⟩, ⟨by repeat (first | (with_reducible first | exact HB.out | apply below_alloc | apply pw_below_drewN | apply below_drew1 | refine below_set ?_ (IsS32.ge HI0.out)) | exact HB.out)⟩⟩
 case rest =>
  clear HC2
  try clear c1
  try clear p2
  try clear c4
  try clear c6
  try clear c8
  try clear hcz10_0
  try clear hcz10_1
  try clear hcz10_2
  try clear hcz10_3
  try clear hcz10_4
  try clear hcz10_5
  try clear hcz10_6
  try clear hcz10_7
  try clear hcz10_8
  try clear hcz8_0
  try clear hcz8_1
  try clear hcz8_2
  try clear hcz8_3
  try clear hcz8_4
  try clear hcz8_5
  try clear hcz8_6
  try clear hcz8_7
  try clear hcz8_8
  try clear hcz9_0
  try clear hcz9_1
  try clear hcz9_2
  try clear hcz9_3
  try clear hcz9_4
  try clear hcz9_5
  try clear hcz9_6
  try clear hcz9_7
  try clear hcz9_8
  try clear hfz10_0
  try clear hfz10_1
  try clear hfz10_2
  try clear hfz10_3
  try clear hfz10_5
  try clear hfz10_6
  try clear hfz10_7
  try clear hfz10_8
  try clear hfz8_0
  try clear hfz8_1
  try clear hfz8_2
  try clear hfz8_3
  try clear hfz8_5
  try clear hfz8_6
  try clear hfz8_7
  try clear hfz8_8
  try clear hfz9_0
  try clear hfz9_1
  try clear hfz9_2
  try clear hfz9_3
  try clear hfz9_5
  try clear hfz9_6
  try clear hfz9_7
  try clear hfz9_8
  obtain ⟨kq, x27_1, rfl, HA, HJ1, HI0, HK, HB⟩ := hcut
  cases kq with
  | zero => exact absurd HA.out (by simp [spec_l12Fault.j0])
  | succ kj1 =>
   have H := HA.out
   clear HA
   simp only [spec_l12Fault.j0] at H
   by_cases c11 : x27_1 = true
   ·
    subst c11
    have H1 : (some (3, s0_0, s0_1, s0_2, s0_3, s0_5, s0_6, s0_7, s0_8)) = some (r1, r2, r3, r4, r5, r6, r7, r8, r9) := by rw [if_pos rfl] at H; first | done | exact H
    clear H
    have H := H1
    clear H1
    simp only [Option.some.injEq, Prod.mk.injEq] at H
    obtain ⟨rfl, rfl, rfl, rfl, rfl, rfl, rfl, rfl, rfl⟩ := H
    go_wp2
    go_ret
    exact ⟨by first | rfl | (simp [errW_none, errW_some] <;> rfl) | (simp [*, errW_none, errW_some] <;> rfl), by repeat (first | (with_reducible first | exact HI0.out | apply IsS32.alloc | apply IsS32.drewN | apply IsS32.drew | apply IsS32.set_0 | apply IsS32.set_1 | apply IsS32.set_2 | apply IsS32.set_3 | apply IsS32.set_5 | apply IsS32.set_6 | apply IsS32.set_7 | apply IsS32.set_8) | exact HI0.out), by repeat (first | (with_reducible first | exact HB.out | apply below_alloc | apply pw_below_drewN | apply below_drew1 | refine below_set ?_ (IsS32.ge HI0.out)) | exact HB.out), by repeat (first | (with_reducible first | exact HK.out | apply KeepBut.set_ | apply keep_drewN | apply keep_drew | apply keep_alloc) | exact HK.out)⟩
   replace c11 := Bool.eq_false_iff.mpr c11
   subst c11
   have H1 : ((spec_l12Log.f kj1 s0_0 s0_1 s0_2 s0_3 s0_4 s0_5 s0_6 s0_7 s0_8).bind fun bt125 => (if bt125.1 = 0 then ((spec_l1In.f bt125.2.2.2.2.2.1 0 (s0_4.length : Int)).bind fun t134 => (if t134 = true then ((spec_l1In.f bt125.2.2.2.2.2.2.1 0 (s0_4.length : Int)).bind fun t135 => (if t135 = true then ((spec_l1In.f bt125.2.2.2.2.2.2.2.1 0 (s0_4.length : Int)).bind fun t136 => (if t136 = true then ((spec_l1In.f bt125.2.2.2.2.2.2.2.2 0 bt125.2.2.2.2.2.1).bind fun t137 => (spec_l12Fault.j1 kj1 (s0_4.length : Int) (!t137) bt125.2.1 bt125.2.2.1 bt125.2.2.2.1 bt125.2.2.2.2.1 s0_4 bt125.2.2.2.2.2.1 bt125.2.2.2.2.2.2.1 bt125.2.2.2.2.2.2.2.1 bt125.2.2.2.2.2.2.2.2)) else (spec_l12Fault.j1 kj1 (s0_4.length : Int) true bt125.2.1 bt125.2.2.1 bt125.2.2.2.1 bt125.2.2.2.2.1 s0_4 bt125.2.2.2.2.2.1 bt125.2.2.2.2.2.2.1 bt125.2.2.2.2.2.2.2.1 bt125.2.2.2.2.2.2.2.2))) else (spec_l12Fault.j1 kj1 (s0_4.length : Int) true bt125.2.1 bt125.2.2.1 bt125.2.2.2.1 bt125.2.2.2.2.1 s0_4 bt125.2.2.2.2.2.1 bt125.2.2.2.2.2.2.1 bt125.2.2.2.2.2.2.2.1 bt125.2.2.2.2.2.2.2.2))) else (spec_l12Fault.j1 kj1 (s0_4.length : Int) true bt125.2.1 bt125.2.2.1 bt125.2.2.2.1 bt125.2.2.2.2.1 s0_4 bt125.2.2.2.2.2.1 bt125.2.2.2.2.2.2.1 bt125.2.2.2.2.2.2.2.1 bt125.2.2.2.2.2.2.2.2))) else (some (bt125.1, bt125.2.1, bt125.2.2.1, bt125.2.2.2.1, bt125.2.2.2.2.1, bt125.2.2.2.2.2.1, bt125.2.2.2.2.2.2.1, bt125.2.2.2.2.2.2.2.1, bt125.2.2.2.2.2.2.2.2)))) = some (r1, r2, r3, r4, r5, r6, r7, r8, r9) := by rw [if_neg (show ¬ (false = true) by decide)] at H; first | done | exact H
   clear H
   have H := H1
   clear H1
   replace H := Option.bind_eq_some_iff.mp H
   obtain ⟨⟨t125, t126, t127, t128, t129, t130, t131, t132, t133⟩, A120, H⟩ := H
   replace H : (if t125 = 0 then ((spec_l1In.f t130 0 (s0_4.length : Int)).bind fun t134 => (if t134 = true then ((spec_l1In.f t131 0 (s0_4.length : Int)).bind fun t135 => (if t135 = true then ((spec_l1In.f t132 0 (s0_4.length : Int)).bind fun t136 => (if t136 = true then ((spec_l1In.f t133 0 t130).bind fun t137 => (spec_l12Fault.j1 kj1 (s0_4.length : Int) (!t137) t126 t127 t128 t129 s0_4 t130 t131 t132 t133)) else (spec_l12Fault.j1 kj1 (s0_4.length : Int) true t126 t127 t128 t129 s0_4 t130 t131 t132 t133))) else (spec_l12Fault.j1 kj1 (s0_4.length : Int) true t126 t127 t128 t129 s0_4 t130 t131 t132 t133))) else (spec_l12Fault.j1 kj1 (s0_4.length : Int) true t126 t127 t128 t129 s0_4 t130 t131 t132 t133))) else (some (t125, t126, t127, t128, t129, t130, t131, t132, t133))) = some (r1, r2, r3, r4, r5, r6, r7, r8, r9) := H
   have A12 := Aside0.mk A120
   clear A120
   by_cases c13 : t125 = 0
   ·
    rw [if_pos c13] at H
    have c13b0 : (t125 == 0) = true := beq_iff_eq.mpr c13
    have c13b1 : (t125 != 0) = false := bne_eq_false_iff_eq.mpr c13
    clear c13
    have HC14 := Aside0.mk H
    clear H
    go_upto_region 7 with (first | ((with_reducible refine gate_callee (f := 126) rfl ?_); refine goA (some 29) rfl rfl Try.func126 rfl #[.pointer (some ⟨g, 0, none⟩)] rfl ?_; (with_reducible refine (spec_l12Log.calls kj1 g s0_0 s0_1 s0_2 s0_3 s0_4 s0_5 s0_6 s0_7 s0_8 t125 t126 t127 t128 t129 t130 t131 t132 t133 w0 _ ?side1 ?side2 A12.out).mono ?_); (case side1 => repeat (first | (with_reducible first | exact HI0.out | apply IsS32.alloc | apply IsS32.drewN | apply IsS32.drew | apply IsS32.set_0 | apply IsS32.set_1 | apply IsS32.set_2 | apply IsS32.set_3 | apply IsS32.set_5 | apply IsS32.set_6 | apply IsS32.set_7 | apply IsS32.set_8) | exact HI0.out)); (case side2 => repeat (first | (with_reducible first | exact HB.out | apply below_alloc | apply pw_below_drewN | apply below_drew1 | refine below_set ?_ (IsS32.ge HI0.out)) | exact HB.out)); rintro e w15 ⟨rfl, hi, hb, hk⟩; refine ⟨_, rfl, ?_⟩; replace HK := am (KeepBut.trans (by repeat (first | (with_reducible first | exact HK.out | apply KeepBut.set_ | apply keep_drewN | apply keep_drew | apply keep_alloc) | exact HK.out)) hk (.inl rfl)); replace HB := Aside0.mk hb; replace HI0 := Aside0.mk hi; (try clear hb); (try clear hb2); (try clear hk); (try clear hi); obtain ⟨ASz16_4, cSz16_4, HGz16, hgz16, HSz16_4, HLz16_4⟩ := HI0.out; have hcz16_0 := cellS32_0 HGz16; have hcz16_1 := cellS32_1 HGz16; have hcz16_2 := cellS32_2 HGz16; have hcz16_3 := cellS32_3 HGz16; have hcz16_4 := cellS32_4 HGz16; have hcz16_5 := cellS32_5 HGz16; have hcz16_6 := cellS32_6 HGz16; have hcz16_7 := cellS32_7 HGz16; have hcz16_8 := cellS32_8 HGz16; have hfz16_0 := blk_frozen HGz16 0; have hfz16_1 := blk_frozen HGz16 1; have hfz16_2 := blk_frozen HGz16 2; have hfz16_3 := blk_frozen HGz16 3; have hfz16_5 := blk_frozen HGz16 5; have hfz16_6 := blk_frozen HGz16 6; have hfz16_7 := blk_frozen HGz16 7; have hfz16_8 := blk_frozen HGz16 8; clear HGz16 hgz16))
    (try simp only [Act.put, List.setIfInBounds_toArray, List.set_cons_zero, List.set_cons_succ])
    go_cut [74] (fun v74 wc => ∃ (kq : Nat) (x74_13 : Bool), v74 = .bool x74_13 ∧ Aside0 (spec_l12Fault.j1 kq (s0_4.length : Int) x74_13 t126 t127 t128 t129 s0_4 t130 t131 t132 t133 = some (r1, r2, r3, r4, r5, r6, r7, r8, r9)) ∧ Aside0 (kq ≤ kj1) ∧ Aside0 (IsS32 w0 wc g t126 t127 t128 t129 s0_4 t130 t131 t132 t133) ∧ Aside0 (KeepBut w wc g none) ∧ Aside0 (Below w0.heap.size w0 wc))
    case first =>
     have H := HC14.out
     clear HC14
     replace H := Option.bind_eq_some_iff.mp H
     obtain ⟨t134, A170, H⟩ := H
     replace H : (if t134 = true then ((spec_l1In.f t131 0 (s0_4.length : Int)).bind fun t135 => (if t135 = true then ((spec_l1In.f t132 0 (s0_4.length : Int)).bind fun t136 => (if t136 = true then ((spec_l1In.f t133 0 t130).bind fun t137 => (spec_l12Fault.j1 kj1 (s0_4.length : Int) (!t137) t126 t127 t128 t129 s0_4 t130 t131 t132 t133)) else (spec_l12Fault.j1 kj1 (s0_4.length : Int) true t126 t127 t128 t129 s0_4 t130 t131 t132 t133))) else (spec_l12Fault.j1 kj1 (s0_4.length : Int) true t126 t127 t128 t129 s0_4 t130 t131 t132 t133))) else (spec_l12Fault.j1 kj1 (s0_4.length : Int) true t126 t127 t128 t129 s0_4 t130 t131 t132 t133)) = some (r1, r2, r3, r4, r5, r6, r7, r8, r9) := H
     have A17 := Aside0.mk A170
     clear A170
     by_cases c18 : t134 = true
     ·
      subst c18
      have H1 : ((spec_l1In.f t131 0 (s0_4.length : Int)).bind fun t135 => (if t135 = true then ((spec_l1In.f t132 0 (s0_4.length : Int)).bind fun t136 => (if t136 = true then ((spec_l1In.f t133 0 t130).bind fun t137 => (spec_l12Fault.j1 kj1 (s0_4.length : Int) (!t137) t126 t127 t128 t129 s0_4 t130 t131 t132 t133)) else (spec_l12Fault.j1 kj1 (s0_4.length : Int) true t126 t127 t128 t129 s0_4 t130 t131 t132 t133))) else (spec_l12Fault.j1 kj1 (s0_4.length : Int) true t126 t127 t128 t129 s0_4 t130 t131 t132 t133))) = some (r1, r2, r3, r4, r5, r6, r7, r8, r9) := by rw [if_pos rfl] at H; first | done | exact H
      clear H
      have H := H1
      clear H1
      replace H := Option.bind_eq_some_iff.mp H
      obtain ⟨t135, A190, H⟩ := H
      replace H : (if t135 = true then ((spec_l1In.f t132 0 (s0_4.length : Int)).bind fun t136 => (if t136 = true then ((spec_l1In.f t133 0 t130).bind fun t137 => (spec_l12Fault.j1 kj1 (s0_4.length : Int) (!t137) t126 t127 t128 t129 s0_4 t130 t131 t132 t133)) else (spec_l12Fault.j1 kj1 (s0_4.length : Int) true t126 t127 t128 t129 s0_4 t130 t131 t132 t133))) else (spec_l12Fault.j1 kj1 (s0_4.length : Int) true t126 t127 t128 t129 s0_4 t130 t131 t132 t133)) = some (r1, r2, r3, r4, r5, r6, r7, r8, r9) := H
      have A19 := Aside0.mk A190
      clear A190
      by_cases c20 : t135 = true
      ·
       subst c20
       have H1 : ((spec_l1In.f t132 0 (s0_4.length : Int)).bind fun t136 => (if t136 = true then ((spec_l1In.f t133 0 t130).bind fun t137 => (spec_l12Fault.j1 kj1 (s0_4.length : Int) (!t137) t126 t127 t128 t129 s0_4 t130 t131 t132 t133)) else (spec_l12Fault.j1 kj1 (s0_4.length : Int) true t126 t127 t128 t129 s0_4 t130 t131 t132 t133))) = some (r1, r2, r3, r4, r5, r6, r7, r8, r9) := by rw [if_pos rfl] at H; first | done | exact H
       clear H
       have H := H1
       clear H1
       replace H := Option.bind_eq_some_iff.mp H
       obtain ⟨t136, A210, H⟩ := H
       replace H : (if t136 = true then ((spec_l1In.f t133 0 t130).bind fun t137 => (spec_l12Fault.j1 kj1 (s0_4.length : Int) (!t137) t126 t127 t128 t129 s0_4 t130 t131 t132 t133)) else (spec_l12Fault.j1 kj1 (s0_4.length : Int) true t126 t127 t128 t129 s0_4 t130 t131 t132 t133)) = some (r1, r2, r3, r4, r5, r6, r7, r8, r9) := H
       have A21 := Aside0.mk A210
       clear A210
       by_cases c22 : t136 = true
       ·
        subst c22
        have H1 : ((spec_l1In.f t133 0 t130).bind fun t137 => (spec_l12Fault.j1 kj1 (s0_4.length : Int) (!t137) t126 t127 t128 t129 s0_4 t130 t131 t132 t133)) = some (r1, r2, r3, r4, r5, r6, r7, r8, r9) := by rw [if_pos rfl] at H; first | done | exact H
        clear H
        have H := H1
        clear H1
        replace H := Option.bind_eq_some_iff.mp H
        obtain ⟨t137, A230, H⟩ := H
        replace H : (spec_l12Fault.j1 kj1 (s0_4.length : Int) (!t137) t126 t127 t128 t129 s0_4 t130 t131 t132 t133) = some (r1, r2, r3, r4, r5, r6, r7, r8, r9) := H
        have A23 := Aside0.mk A230
        clear A230
        have H' := Aside0.mk H
        clear H
        try go_wp2
        replace HI0 := am (IsS32.drew HI0.out)
        replace HK := am (keep_drew HK.out)
        replace HB := am (below_drew1 HB.out)
        refine start_ (n := 37) (S := fun w' => w'.cell? ⟨g, 0, none⟩ = some (.int .i64 t126) ∧ w'.cell? ⟨g, 1, none⟩ = some (.bool t127) ∧ w'.cell? ⟨g, 2, none⟩ = some (.int .i64 t128) ∧ w'.cell? ⟨g, 3, none⟩ = some (.int .i64 t129) ∧ w'.cell? ⟨g, 5, none⟩ = some (.int .i64 t130) ∧ w'.cell? ⟨g, 6, none⟩ = some (.int .i64 t131) ∧ w'.cell? ⟨g, 7, none⟩ = some (.int .i64 t132) ∧ w'.cell? ⟨g, 8, none⟩ = some (.int .i64 t133)) (ds := []) #[false, false, false, false, false, false, false, false, false, false, false, false, false, false, false, false, false, false, false, false, false, false, false, false, false, false, false, false, false, false, false, false, false, false, false, false, false] (by kernel_rfl) rfl rfl ⟨(match HI0.out with | ⟨_, _, HG_, _⟩ => cellS32_0 HG_), (match HI0.out with | ⟨_, _, HG_, _⟩ => cellS32_1 HG_), (match HI0.out with | ⟨_, _, HG_, _⟩ => cellS32_2 HG_), (match HI0.out with | ⟨_, _, HG_, _⟩ => cellS32_3 HG_), (match HI0.out with | ⟨_, _, HG_, _⟩ => cellS32_5 HG_), (match HI0.out with | ⟨_, _, HG_, _⟩ => cellS32_6 HG_), (match HI0.out with | ⟨_, _, HG_, _⟩ => cellS32_7 HG_), (match HI0.out with | ⟨_, _, HG_, _⟩ => cellS32_8 HG_)⟩ (fun hHeld => ?_); refine with_tabW spec_l12Fault.tab7 spec_l12Fault.bits7 (fun HT_ HW_ => ?_)
        generalize w15.drew = w24 at HI0 HK HB hHeld ⊢
        refine pA 0 38 [1, 36] ?_
        refine pA 1 39 [2, 35] ?_
        refine pA 2 40 [3, 34] ?_
        refine pA 4 42 [3, 1, 1, 32] ?_
        refine tA 3 41 [5, 32] (hv := by rintro w' ⟨s0, s1, s2, s3, s4, s5, s6, s7⟩; go_simp; with_reducible rfl) (h := ?_)
        refine one_ (i := 5) (N := some 43) (tr [6, 31]) rfl rfl (one_of HT_.out (by kernel_rfl)) (by decide) (fun K hK => ?_)
        refine goes_ Try.func88 (by kernel_rfl) rfl #[.int .i64 t130, .int .i64 0, .int .i64 (s0_4.length : Int)] (by rfl) rfl rfl (by (try simp only [List.map_toArray, List.map_cons, List.map_nil]); first | done | rfl | (simp only [List.length_drop, List.length_take]; rfl)) ?_
        with_reducible refine (spec_l1In.calls t130 0 (s0_4.length : Int) true _ A17.out).mono ?_
        rintro e w' ⟨rfl, ⟨nd, rfl⟩⟩
        refine ⟨_, rfl, ?_⟩
        refine hK.out _ _ ⟨(match HI0.out with | ⟨_, _, HG_, _⟩ => cellS32_0 HG_), (match HI0.out with | ⟨_, _, HG_, _⟩ => cellS32_1 HG_), (match HI0.out with | ⟨_, _, HG_, _⟩ => cellS32_2 HG_), (match HI0.out with | ⟨_, _, HG_, _⟩ => cellS32_3 HG_), (match HI0.out with | ⟨_, _, HG_, _⟩ => cellS32_5 HG_), (match HI0.out with | ⟨_, _, HG_, _⟩ => cellS32_6 HG_), (match HI0.out with | ⟨_, _, HG_, _⟩ => cellS32_7 HG_), (match HI0.out with | ⟨_, _, HG_, _⟩ => cellS32_8 HG_)⟩ (fun hHeld => ?_)
        clear hK K
        refine norm_ (a' := ?_) ?_ ?_
        rotate_left
        ·
         show Act.put _ (some 43) _ = _
         simp only [Act.put, List.setIfInBounds_toArray, List.set_cons_zero, List.set_cons_succ, i64_w, i32_w]
         rfl
        refine pA 6 44 [7, 30] ?_
        refine pA 7 45 [8, 29] ?_
        refine pA 8 46 [9, 28] ?_
        refine pA 9 47 [10, 27] ?_
        refine pA 10 48 [11, 26] ?_
        refine pA 12 50 [11, 1, 1, 24] ?_
        refine tA 11 49 [13, 24] (hv := by rintro w' ⟨s0, s1, s2, s3, s4, s5, s6, s7⟩; go_simp; with_reducible rfl) (h := ?_)
        refine one_ (i := 13) (N := some 51) (tr [14, 23]) rfl rfl (one_of HT_.out (by kernel_rfl)) (by decide) (fun K hK => ?_)
        refine goes_ Try.func88 (by kernel_rfl) rfl #[.int .i64 t131, .int .i64 0, .int .i64 (s0_4.length : Int)] (by rfl) rfl rfl (by (try simp only [List.map_toArray, List.map_cons, List.map_nil]); first | done | rfl | (simp only [List.length_drop, List.length_take]; rfl)) ?_
        with_reducible refine (spec_l1In.calls t131 0 (s0_4.length : Int) true _ A19.out).mono ?_
        rintro e w' ⟨rfl, ⟨nd, rfl⟩⟩
        refine ⟨_, rfl, ?_⟩
        refine hK.out _ _ ⟨(match HI0.out with | ⟨_, _, HG_, _⟩ => cellS32_0 HG_), (match HI0.out with | ⟨_, _, HG_, _⟩ => cellS32_1 HG_), (match HI0.out with | ⟨_, _, HG_, _⟩ => cellS32_2 HG_), (match HI0.out with | ⟨_, _, HG_, _⟩ => cellS32_3 HG_), (match HI0.out with | ⟨_, _, HG_, _⟩ => cellS32_5 HG_), (match HI0.out with | ⟨_, _, HG_, _⟩ => cellS32_6 HG_), (match HI0.out with | ⟨_, _, HG_, _⟩ => cellS32_7 HG_), (match HI0.out with | ⟨_, _, HG_, _⟩ => cellS32_8 HG_)⟩ (fun hHeld => ?_)
        clear hK K
        refine norm_ (a' := ?_) ?_ ?_
        rotate_left
        ·
         show Act.put _ (some 51) _ = _
         simp only [Act.put, List.setIfInBounds_toArray, List.set_cons_zero, List.set_cons_succ, i64_w, i32_w]
         rfl
        refine pA 14 52 [15, 22] ?_
        refine pA 15 53 [16, 21] ?_
        refine pA 16 54 [17, 20] ?_
        refine pA 17 55 [18, 19] ?_
        refine pA 18 56 [19, 18] ?_
        refine pA 19 57 [20, 17] ?_
        refine pA 21 59 [20, 1, 1, 15] ?_
        refine tA 20 58 [22, 15] (hv := by rintro w' ⟨s0, s1, s2, s3, s4, s5, s6, s7⟩; go_simp; with_reducible rfl) (h := ?_)
        refine one_ (i := 22) (N := some 60) (tr [23, 14]) rfl rfl (one_of HT_.out (by kernel_rfl)) (by decide) (fun K hK => ?_)
        refine goes_ Try.func88 (by kernel_rfl) rfl #[.int .i64 t132, .int .i64 0, .int .i64 (s0_4.length : Int)] (by rfl) rfl rfl (by (try simp only [List.map_toArray, List.map_cons, List.map_nil]); first | done | rfl | (simp only [List.length_drop, List.length_take]; rfl)) ?_
        with_reducible refine (spec_l1In.calls t132 0 (s0_4.length : Int) true _ A21.out).mono ?_
        rintro e w' ⟨rfl, ⟨nd, rfl⟩⟩
        refine ⟨_, rfl, ?_⟩
        refine hK.out _ _ ⟨(match HI0.out with | ⟨_, _, HG_, _⟩ => cellS32_0 HG_), (match HI0.out with | ⟨_, _, HG_, _⟩ => cellS32_1 HG_), (match HI0.out with | ⟨_, _, HG_, _⟩ => cellS32_2 HG_), (match HI0.out with | ⟨_, _, HG_, _⟩ => cellS32_3 HG_), (match HI0.out with | ⟨_, _, HG_, _⟩ => cellS32_5 HG_), (match HI0.out with | ⟨_, _, HG_, _⟩ => cellS32_6 HG_), (match HI0.out with | ⟨_, _, HG_, _⟩ => cellS32_7 HG_), (match HI0.out with | ⟨_, _, HG_, _⟩ => cellS32_8 HG_)⟩ (fun hHeld => ?_)
        clear hK K
        refine norm_ (a' := ?_) ?_ ?_
        rotate_left
        ·
         show Act.put _ (some 60) _ = _
         simp only [Act.put, List.setIfInBounds_toArray, List.set_cons_zero, List.set_cons_succ, i64_w, i32_w]
         rfl
        refine pA 23 61 [24, 13] ?_
        refine pA 24 62 [25, 12] ?_
        refine pA 25 63 [26, 11] ?_
        refine pA 26 64 [27, 10] ?_
        refine pA 27 65 [28, 9] ?_
        refine pA 28 66 [29, 8] ?_
        refine pA 30 68 [29, 1, 1, 6] ?_
        refine pA 31 69 [29, 1, 2, 5] ?_
        refine pA 32 70 [29, 1, 3, 4] ?_
        refine tA 29 67 [33, 4] (hv := by rintro w' ⟨s0, s1, s2, s3, s4, s5, s6, s7⟩; go_simp; with_reducible rfl) (h := ?_)
        refine tA 33 71 [34, 3] (hv := by rintro w' ⟨s0, s1, s2, s3, s4, s5, s6, s7⟩; go_simp; with_reducible rfl) (h := ?_)
        refine one_ (i := 34) (N := some 72) (tr [35, 2]) rfl rfl (one_of HT_.out (by kernel_rfl)) (by decide) (fun K hK => ?_)
        refine goes_ Try.func88 (by kernel_rfl) rfl #[.int .i64 t133, .int .i64 0, .int .i64 t130] (by rfl) rfl rfl (by (try simp only [List.map_toArray, List.map_cons, List.map_nil]); first | done | rfl | (simp only [List.length_drop, List.length_take]; rfl)) ?_
        with_reducible refine (spec_l1In.calls t133 0 t130 t137 _ A23.out).mono ?_
        rintro e w' ⟨rfl, ⟨nd, rfl⟩⟩
        refine ⟨_, rfl, ?_⟩
        refine hK.out _ _ ⟨(match HI0.out with | ⟨_, _, HG_, _⟩ => cellS32_0 HG_), (match HI0.out with | ⟨_, _, HG_, _⟩ => cellS32_1 HG_), (match HI0.out with | ⟨_, _, HG_, _⟩ => cellS32_2 HG_), (match HI0.out with | ⟨_, _, HG_, _⟩ => cellS32_3 HG_), (match HI0.out with | ⟨_, _, HG_, _⟩ => cellS32_5 HG_), (match HI0.out with | ⟨_, _, HG_, _⟩ => cellS32_6 HG_), (match HI0.out with | ⟨_, _, HG_, _⟩ => cellS32_7 HG_), (match HI0.out with | ⟨_, _, HG_, _⟩ => cellS32_8 HG_)⟩ (fun hHeld => ?_)
        clear hK K
        refine norm_ (a' := ?_) ?_ ?_
        rotate_left
        ·
         show Act.put _ (some 72) _ = _
         simp only [Act.put, List.setIfInBounds_toArray, List.set_cons_zero, List.set_cons_succ, i64_w, i32_w]
         rfl
        refine pA 35 73 [36, 1] ?_
        refine pA 36 74 [37] ?_
        refine done_ (done_of HT_.out (by kernel_rfl)) ?_
        try go_wp2
        first | go_meet | (refine Met.intro ?_; go_step; (repeat apply Exists.intro); refine ⟨?rel, ?eqq⟩; (case eqq => (try simp only [c13b0]); rfl))
        case rel => exact ⟨_, (!t137), (by first | rfl | (simp; done) | (simp [*]; done)), H', ⟨by have := HJ1.out; first | omega | exact Nat.le_refl _⟩, ⟨by repeat (first | (with_reducible first | exact HI0.out | apply IsS32.alloc | apply IsS32.drewN | apply IsS32.drew | apply IsS32.set_0 | apply IsS32.set_1 | apply IsS32.set_2 | apply IsS32.set_3 | apply IsS32.set_5 | apply IsS32.set_6 | apply IsS32.set_7 | apply IsS32.set_8) | exact HI0.out)⟩, ⟨by repeat (first | (with_reducible first | exact HK.out | apply KeepBut.set_ | apply keep_drewN | apply keep_drew | apply keep_alloc) | exact HK.out)⟩, ⟨by repeat (first | (with_reducible first | exact HB.out | apply below_alloc | apply pw_below_drewN | apply below_drew1 | refine below_set ?_ (IsS32.ge HI0.out)) | exact HB.out)⟩⟩
       replace c22 := Bool.eq_false_iff.mpr c22
       subst c22
       have H1 : (spec_l12Fault.j1 kj1 (s0_4.length : Int) true t126 t127 t128 t129 s0_4 t130 t131 t132 t133) = some (r1, r2, r3, r4, r5, r6, r7, r8, r9) := by rw [if_neg (show ¬ (false = true) by decide)] at H; first | done | exact H
       clear H
       have H := H1
       clear H1
       have H' := Aside0.mk H
       clear H
       try go_wp2
       replace HI0 := am (IsS32.drew HI0.out)
       replace HK := am (keep_drew HK.out)
       replace HB := am (below_drew1 HB.out)
       refine start_ (n := 37) (S := fun w' => w'.cell? ⟨g, 0, none⟩ = some (.int .i64 t126) ∧ w'.cell? ⟨g, 1, none⟩ = some (.bool t127) ∧ w'.cell? ⟨g, 2, none⟩ = some (.int .i64 t128) ∧ w'.cell? ⟨g, 3, none⟩ = some (.int .i64 t129) ∧ w'.cell? ⟨g, 5, none⟩ = some (.int .i64 t130) ∧ w'.cell? ⟨g, 6, none⟩ = some (.int .i64 t131) ∧ w'.cell? ⟨g, 7, none⟩ = some (.int .i64 t132) ∧ w'.cell? ⟨g, 8, none⟩ = some (.int .i64 t133)) (ds := []) #[false, false, false, false, false, false, false, false, false, false, false, false, false, false, false, false, false, false, false, false, false, false, false, false, false, false, false, false, false, false, false, false, false, false, false, false, false] (by kernel_rfl) rfl rfl ⟨(match HI0.out with | ⟨_, _, HG_, _⟩ => cellS32_0 HG_), (match HI0.out with | ⟨_, _, HG_, _⟩ => cellS32_1 HG_), (match HI0.out with | ⟨_, _, HG_, _⟩ => cellS32_2 HG_), (match HI0.out with | ⟨_, _, HG_, _⟩ => cellS32_3 HG_), (match HI0.out with | ⟨_, _, HG_, _⟩ => cellS32_5 HG_), (match HI0.out with | ⟨_, _, HG_, _⟩ => cellS32_6 HG_), (match HI0.out with | ⟨_, _, HG_, _⟩ => cellS32_7 HG_), (match HI0.out with | ⟨_, _, HG_, _⟩ => cellS32_8 HG_)⟩ (fun hHeld => ?_); refine with_tabW spec_l12Fault.tab7 spec_l12Fault.bits7 (fun HT_ HW_ => ?_)
       generalize w15.drew = w25 at HI0 HK HB hHeld ⊢
       refine pA 0 38 [1, 36] ?_
       refine pA 1 39 [2, 35] ?_
       refine pA 2 40 [3, 34] ?_
       refine pA 4 42 [3, 1, 1, 32] ?_
       refine tA 3 41 [5, 32] (hv := by rintro w' ⟨s0, s1, s2, s3, s4, s5, s6, s7⟩; go_simp; with_reducible rfl) (h := ?_)
       refine one_ (i := 5) (N := some 43) (tr [6, 31]) rfl rfl (one_of HT_.out (by kernel_rfl)) (by decide) (fun K hK => ?_)
       refine goes_ Try.func88 (by kernel_rfl) rfl #[.int .i64 t130, .int .i64 0, .int .i64 (s0_4.length : Int)] (by rfl) rfl rfl (by (try simp only [List.map_toArray, List.map_cons, List.map_nil]); first | done | rfl | (simp only [List.length_drop, List.length_take]; rfl)) ?_
       with_reducible refine (spec_l1In.calls t130 0 (s0_4.length : Int) true _ A17.out).mono ?_
       rintro e w' ⟨rfl, ⟨nd, rfl⟩⟩
       refine ⟨_, rfl, ?_⟩
       refine hK.out _ _ ⟨(match HI0.out with | ⟨_, _, HG_, _⟩ => cellS32_0 HG_), (match HI0.out with | ⟨_, _, HG_, _⟩ => cellS32_1 HG_), (match HI0.out with | ⟨_, _, HG_, _⟩ => cellS32_2 HG_), (match HI0.out with | ⟨_, _, HG_, _⟩ => cellS32_3 HG_), (match HI0.out with | ⟨_, _, HG_, _⟩ => cellS32_5 HG_), (match HI0.out with | ⟨_, _, HG_, _⟩ => cellS32_6 HG_), (match HI0.out with | ⟨_, _, HG_, _⟩ => cellS32_7 HG_), (match HI0.out with | ⟨_, _, HG_, _⟩ => cellS32_8 HG_)⟩ (fun hHeld => ?_)
       clear hK K
       refine norm_ (a' := ?_) ?_ ?_
       rotate_left
       ·
        show Act.put _ (some 43) _ = _
        simp only [Act.put, List.setIfInBounds_toArray, List.set_cons_zero, List.set_cons_succ, i64_w, i32_w]
        rfl
       refine pA 6 44 [7, 30] ?_
       refine pA 7 45 [8, 29] ?_
       refine pA 8 46 [9, 28] ?_
       refine pA 9 47 [10, 27] ?_
       refine pA 10 48 [11, 26] ?_
       refine pA 12 50 [11, 1, 1, 24] ?_
       refine tA 11 49 [13, 24] (hv := by rintro w' ⟨s0, s1, s2, s3, s4, s5, s6, s7⟩; go_simp; with_reducible rfl) (h := ?_)
       refine one_ (i := 13) (N := some 51) (tr [14, 23]) rfl rfl (one_of HT_.out (by kernel_rfl)) (by decide) (fun K hK => ?_)
       refine goes_ Try.func88 (by kernel_rfl) rfl #[.int .i64 t131, .int .i64 0, .int .i64 (s0_4.length : Int)] (by rfl) rfl rfl (by (try simp only [List.map_toArray, List.map_cons, List.map_nil]); first | done | rfl | (simp only [List.length_drop, List.length_take]; rfl)) ?_
       with_reducible refine (spec_l1In.calls t131 0 (s0_4.length : Int) true _ A19.out).mono ?_
       rintro e w' ⟨rfl, ⟨nd, rfl⟩⟩
       refine ⟨_, rfl, ?_⟩
       refine hK.out _ _ ⟨(match HI0.out with | ⟨_, _, HG_, _⟩ => cellS32_0 HG_), (match HI0.out with | ⟨_, _, HG_, _⟩ => cellS32_1 HG_), (match HI0.out with | ⟨_, _, HG_, _⟩ => cellS32_2 HG_), (match HI0.out with | ⟨_, _, HG_, _⟩ => cellS32_3 HG_), (match HI0.out with | ⟨_, _, HG_, _⟩ => cellS32_5 HG_), (match HI0.out with | ⟨_, _, HG_, _⟩ => cellS32_6 HG_), (match HI0.out with | ⟨_, _, HG_, _⟩ => cellS32_7 HG_), (match HI0.out with | ⟨_, _, HG_, _⟩ => cellS32_8 HG_)⟩ (fun hHeld => ?_)
       clear hK K
       refine norm_ (a' := ?_) ?_ ?_
       rotate_left
       ·
        show Act.put _ (some 51) _ = _
        simp only [Act.put, List.setIfInBounds_toArray, List.set_cons_zero, List.set_cons_succ, i64_w, i32_w]
        rfl
       refine pA 14 52 [15, 22] ?_
       refine pA 15 53 [16, 21] ?_
       refine pA 16 54 [17, 20] ?_
       refine pA 17 55 [18, 19] ?_
       refine pA 18 56 [19, 18] ?_
       refine pA 19 57 [20, 17] ?_
       refine pA 21 59 [20, 1, 1, 15] ?_
       refine tA 20 58 [22, 15] (hv := by rintro w' ⟨s0, s1, s2, s3, s4, s5, s6, s7⟩; go_simp; with_reducible rfl) (h := ?_)
       refine one_ (i := 22) (N := some 60) (tr [23, 14]) rfl rfl (one_of HT_.out (by kernel_rfl)) (by decide) (fun K hK => ?_)
       refine goes_ Try.func88 (by kernel_rfl) rfl #[.int .i64 t132, .int .i64 0, .int .i64 (s0_4.length : Int)] (by rfl) rfl rfl (by (try simp only [List.map_toArray, List.map_cons, List.map_nil]); first | done | rfl | (simp only [List.length_drop, List.length_take]; rfl)) ?_
       with_reducible refine (spec_l1In.calls t132 0 (s0_4.length : Int) false _ A21.out).mono ?_
       rintro e w' ⟨rfl, ⟨nd, rfl⟩⟩
       refine ⟨_, rfl, ?_⟩
       refine hK.out _ _ ⟨(match HI0.out with | ⟨_, _, HG_, _⟩ => cellS32_0 HG_), (match HI0.out with | ⟨_, _, HG_, _⟩ => cellS32_1 HG_), (match HI0.out with | ⟨_, _, HG_, _⟩ => cellS32_2 HG_), (match HI0.out with | ⟨_, _, HG_, _⟩ => cellS32_3 HG_), (match HI0.out with | ⟨_, _, HG_, _⟩ => cellS32_5 HG_), (match HI0.out with | ⟨_, _, HG_, _⟩ => cellS32_6 HG_), (match HI0.out with | ⟨_, _, HG_, _⟩ => cellS32_7 HG_), (match HI0.out with | ⟨_, _, HG_, _⟩ => cellS32_8 HG_)⟩ (fun hHeld => ?_)
       clear hK K
       refine norm_ (a' := ?_) ?_ ?_
       rotate_left
       ·
        show Act.put _ (some 60) _ = _
        simp only [Act.put, List.setIfInBounds_toArray, List.set_cons_zero, List.set_cons_succ, i64_w, i32_w]
        rfl
       refine pA 23 61 [24, 13] ?_
       refine pA 24 62 [25, 12] ?_
       refine pA 25 63 [26, 11] ?_
       refine pU 26 64 [27, 10] ?_
       refine pU 27 65 [28, 9] ?_
       refine pU 28 66 [29, 8] ?_
       refine pU 29 67 [30, 7] ?_
       refine pU 30 68 [31, 6] ?_
       refine pU 31 69 [32, 5] ?_
       refine pU 32 70 [33, 4] ?_
       refine pU 33 71 [34, 3] ?_
       refine pU 34 72 [35, 2] ?_
       refine pU 35 73 [36, 1] ?_
       refine pA 36 74 [37] ?_
       refine done_ (done_of HT_.out (by kernel_rfl)) ?_
       try go_wp2
       first | go_meet | (refine Met.intro ?_; go_step; (repeat apply Exists.intro); refine ⟨?rel, ?eqq⟩; (case eqq => (try simp only [c13b0]); rfl))
       case rel => exact ⟨_, (true), (by first | rfl | (simp; done) | (simp [*]; done)), H', ⟨by have := HJ1.out; first | omega | exact Nat.le_refl _⟩, ⟨by repeat (first | (with_reducible first | exact HI0.out | apply IsS32.alloc | apply IsS32.drewN | apply IsS32.drew | apply IsS32.set_0 | apply IsS32.set_1 | apply IsS32.set_2 | apply IsS32.set_3 | apply IsS32.set_5 | apply IsS32.set_6 | apply IsS32.set_7 | apply IsS32.set_8) | exact HI0.out)⟩, ⟨by repeat (first | (with_reducible first | exact HK.out | apply KeepBut.set_ | apply keep_drewN | apply keep_drew | apply keep_alloc) | exact HK.out)⟩, ⟨by repeat (first | (with_reducible first | exact HB.out | apply below_alloc | apply pw_below_drewN | apply below_drew1 | refine below_set ?_ (IsS32.ge HI0.out)) | exact HB.out)⟩⟩
      replace c20 := Bool.eq_false_iff.mpr c20
      subst c20
      have H1 : (spec_l12Fault.j1 kj1 (s0_4.length : Int) true t126 t127 t128 t129 s0_4 t130 t131 t132 t133) = some (r1, r2, r3, r4, r5, r6, r7, r8, r9) := by rw [if_neg (show ¬ (false = true) by decide)] at H; first | done | exact H
      clear H
      have H := H1
      clear H1
      have H' := Aside0.mk H
      clear H
      try go_wp2
      replace HI0 := am (IsS32.drew HI0.out)
      replace HK := am (keep_drew HK.out)
      replace HB := am (below_drew1 HB.out)
      refine start_ (n := 37) (S := fun w' => w'.cell? ⟨g, 0, none⟩ = some (.int .i64 t126) ∧ w'.cell? ⟨g, 1, none⟩ = some (.bool t127) ∧ w'.cell? ⟨g, 2, none⟩ = some (.int .i64 t128) ∧ w'.cell? ⟨g, 3, none⟩ = some (.int .i64 t129) ∧ w'.cell? ⟨g, 5, none⟩ = some (.int .i64 t130) ∧ w'.cell? ⟨g, 6, none⟩ = some (.int .i64 t131) ∧ w'.cell? ⟨g, 7, none⟩ = some (.int .i64 t132) ∧ w'.cell? ⟨g, 8, none⟩ = some (.int .i64 t133)) (ds := []) #[false, false, false, false, false, false, false, false, false, false, false, false, false, false, false, false, false, false, false, false, false, false, false, false, false, false, false, false, false, false, false, false, false, false, false, false, false] (by kernel_rfl) rfl rfl ⟨(match HI0.out with | ⟨_, _, HG_, _⟩ => cellS32_0 HG_), (match HI0.out with | ⟨_, _, HG_, _⟩ => cellS32_1 HG_), (match HI0.out with | ⟨_, _, HG_, _⟩ => cellS32_2 HG_), (match HI0.out with | ⟨_, _, HG_, _⟩ => cellS32_3 HG_), (match HI0.out with | ⟨_, _, HG_, _⟩ => cellS32_5 HG_), (match HI0.out with | ⟨_, _, HG_, _⟩ => cellS32_6 HG_), (match HI0.out with | ⟨_, _, HG_, _⟩ => cellS32_7 HG_), (match HI0.out with | ⟨_, _, HG_, _⟩ => cellS32_8 HG_)⟩ (fun hHeld => ?_); refine with_tabW spec_l12Fault.tab7 spec_l12Fault.bits7 (fun HT_ HW_ => ?_)
      generalize w15.drew = w26 at HI0 HK HB hHeld ⊢
      refine pA 0 38 [1, 36] ?_
      refine pA 1 39 [2, 35] ?_
      refine pA 2 40 [3, 34] ?_
      refine pA 4 42 [3, 1, 1, 32] ?_
      refine tA 3 41 [5, 32] (hv := by rintro w' ⟨s0, s1, s2, s3, s4, s5, s6, s7⟩; go_simp; with_reducible rfl) (h := ?_)
      refine one_ (i := 5) (N := some 43) (tr [6, 31]) rfl rfl (one_of HT_.out (by kernel_rfl)) (by decide) (fun K hK => ?_)
      refine goes_ Try.func88 (by kernel_rfl) rfl #[.int .i64 t130, .int .i64 0, .int .i64 (s0_4.length : Int)] (by rfl) rfl rfl (by (try simp only [List.map_toArray, List.map_cons, List.map_nil]); first | done | rfl | (simp only [List.length_drop, List.length_take]; rfl)) ?_
      with_reducible refine (spec_l1In.calls t130 0 (s0_4.length : Int) true _ A17.out).mono ?_
      rintro e w' ⟨rfl, ⟨nd, rfl⟩⟩
      refine ⟨_, rfl, ?_⟩
      refine hK.out _ _ ⟨(match HI0.out with | ⟨_, _, HG_, _⟩ => cellS32_0 HG_), (match HI0.out with | ⟨_, _, HG_, _⟩ => cellS32_1 HG_), (match HI0.out with | ⟨_, _, HG_, _⟩ => cellS32_2 HG_), (match HI0.out with | ⟨_, _, HG_, _⟩ => cellS32_3 HG_), (match HI0.out with | ⟨_, _, HG_, _⟩ => cellS32_5 HG_), (match HI0.out with | ⟨_, _, HG_, _⟩ => cellS32_6 HG_), (match HI0.out with | ⟨_, _, HG_, _⟩ => cellS32_7 HG_), (match HI0.out with | ⟨_, _, HG_, _⟩ => cellS32_8 HG_)⟩ (fun hHeld => ?_)
      clear hK K
      refine norm_ (a' := ?_) ?_ ?_
      rotate_left
      ·
       show Act.put _ (some 43) _ = _
       simp only [Act.put, List.setIfInBounds_toArray, List.set_cons_zero, List.set_cons_succ, i64_w, i32_w]
       rfl
      refine pA 6 44 [7, 30] ?_
      refine pA 7 45 [8, 29] ?_
      refine pA 8 46 [9, 28] ?_
      refine pA 9 47 [10, 27] ?_
      refine pA 10 48 [11, 26] ?_
      refine pA 12 50 [11, 1, 1, 24] ?_
      refine tA 11 49 [13, 24] (hv := by rintro w' ⟨s0, s1, s2, s3, s4, s5, s6, s7⟩; go_simp; with_reducible rfl) (h := ?_)
      refine one_ (i := 13) (N := some 51) (tr [14, 23]) rfl rfl (one_of HT_.out (by kernel_rfl)) (by decide) (fun K hK => ?_)
      refine goes_ Try.func88 (by kernel_rfl) rfl #[.int .i64 t131, .int .i64 0, .int .i64 (s0_4.length : Int)] (by rfl) rfl rfl (by (try simp only [List.map_toArray, List.map_cons, List.map_nil]); first | done | rfl | (simp only [List.length_drop, List.length_take]; rfl)) ?_
      with_reducible refine (spec_l1In.calls t131 0 (s0_4.length : Int) false _ A19.out).mono ?_
      rintro e w' ⟨rfl, ⟨nd, rfl⟩⟩
      refine ⟨_, rfl, ?_⟩
      refine hK.out _ _ ⟨(match HI0.out with | ⟨_, _, HG_, _⟩ => cellS32_0 HG_), (match HI0.out with | ⟨_, _, HG_, _⟩ => cellS32_1 HG_), (match HI0.out with | ⟨_, _, HG_, _⟩ => cellS32_2 HG_), (match HI0.out with | ⟨_, _, HG_, _⟩ => cellS32_3 HG_), (match HI0.out with | ⟨_, _, HG_, _⟩ => cellS32_5 HG_), (match HI0.out with | ⟨_, _, HG_, _⟩ => cellS32_6 HG_), (match HI0.out with | ⟨_, _, HG_, _⟩ => cellS32_7 HG_), (match HI0.out with | ⟨_, _, HG_, _⟩ => cellS32_8 HG_)⟩ (fun hHeld => ?_)
      clear hK K
      refine norm_ (a' := ?_) ?_ ?_
      rotate_left
      ·
       show Act.put _ (some 51) _ = _
       simp only [Act.put, List.setIfInBounds_toArray, List.set_cons_zero, List.set_cons_succ, i64_w, i32_w]
       rfl
      refine pA 14 52 [15, 22] ?_
      refine pA 15 53 [16, 21] ?_
      refine pA 16 54 [17, 20] ?_
      refine pU 17 55 [18, 19] ?_
      refine pU 18 56 [19, 18] ?_
      refine pU 19 57 [20, 17] ?_
      refine pU 20 58 [21, 16] ?_
      refine pU 21 59 [22, 15] ?_
      refine pU 22 60 [23, 14] ?_
      refine pU 23 61 [24, 13] ?_
      refine pA 24 62 [25, 12] ?_
      refine pA 25 63 [26, 11] ?_
      refine pU 26 64 [27, 10] ?_
      refine pU 27 65 [28, 9] ?_
      refine pU 28 66 [29, 8] ?_
      refine pU 29 67 [30, 7] ?_
      refine pU 30 68 [31, 6] ?_
      refine pU 31 69 [32, 5] ?_
      refine pU 32 70 [33, 4] ?_
      refine pU 33 71 [34, 3] ?_
      refine pU 34 72 [35, 2] ?_
      refine pU 35 73 [36, 1] ?_
      refine pA 36 74 [37] ?_
      refine done_ (done_of HT_.out (by kernel_rfl)) ?_
      try go_wp2
      first | go_meet | (refine Met.intro ?_; go_step; (repeat apply Exists.intro); refine ⟨?rel, ?eqq⟩; (case eqq => (try simp only [c13b0]); rfl))
      case rel => exact ⟨_, (true), (by first | rfl | (simp; done) | (simp [*]; done)), H', ⟨by have := HJ1.out; first | omega | exact Nat.le_refl _⟩, ⟨by repeat (first | (with_reducible first | exact HI0.out | apply IsS32.alloc | apply IsS32.drewN | apply IsS32.drew | apply IsS32.set_0 | apply IsS32.set_1 | apply IsS32.set_2 | apply IsS32.set_3 | apply IsS32.set_5 | apply IsS32.set_6 | apply IsS32.set_7 | apply IsS32.set_8) | exact HI0.out)⟩, ⟨by repeat (first | (with_reducible first | exact HK.out | apply KeepBut.set_ | apply keep_drewN | apply keep_drew | apply keep_alloc) | exact HK.out)⟩, ⟨by repeat (first | (with_reducible first | exact HB.out | apply below_alloc | apply pw_below_drewN | apply below_drew1 | refine below_set ?_ (IsS32.ge HI0.out)) | exact HB.out)⟩⟩
     replace c18 := Bool.eq_false_iff.mpr c18
     subst c18
     have H1 : (spec_l12Fault.j1 kj1 (s0_4.length : Int) true t126 t127 t128 t129 s0_4 t130 t131 t132 t133) = some (r1, r2, r3, r4, r5, r6, r7, r8, r9) := by rw [if_neg (show ¬ (false = true) by decide)] at H; first | done | exact H
     clear H
     have H := H1
     clear H1
     have H' := Aside0.mk H
     clear H
     try go_wp2
     replace HI0 := am (IsS32.drew HI0.out)
     replace HK := am (keep_drew HK.out)
     replace HB := am (below_drew1 HB.out)
     refine start_ (n := 37) (S := fun w' => w'.cell? ⟨g, 0, none⟩ = some (.int .i64 t126) ∧ w'.cell? ⟨g, 1, none⟩ = some (.bool t127) ∧ w'.cell? ⟨g, 2, none⟩ = some (.int .i64 t128) ∧ w'.cell? ⟨g, 3, none⟩ = some (.int .i64 t129) ∧ w'.cell? ⟨g, 5, none⟩ = some (.int .i64 t130) ∧ w'.cell? ⟨g, 6, none⟩ = some (.int .i64 t131) ∧ w'.cell? ⟨g, 7, none⟩ = some (.int .i64 t132) ∧ w'.cell? ⟨g, 8, none⟩ = some (.int .i64 t133)) (ds := []) #[false, false, false, false, false, false, false, false, false, false, false, false, false, false, false, false, false, false, false, false, false, false, false, false, false, false, false, false, false, false, false, false, false, false, false, false, false] (by kernel_rfl) rfl rfl ⟨(match HI0.out with | ⟨_, _, HG_, _⟩ => cellS32_0 HG_), (match HI0.out with | ⟨_, _, HG_, _⟩ => cellS32_1 HG_), (match HI0.out with | ⟨_, _, HG_, _⟩ => cellS32_2 HG_), (match HI0.out with | ⟨_, _, HG_, _⟩ => cellS32_3 HG_), (match HI0.out with | ⟨_, _, HG_, _⟩ => cellS32_5 HG_), (match HI0.out with | ⟨_, _, HG_, _⟩ => cellS32_6 HG_), (match HI0.out with | ⟨_, _, HG_, _⟩ => cellS32_7 HG_), (match HI0.out with | ⟨_, _, HG_, _⟩ => cellS32_8 HG_)⟩ (fun hHeld => ?_); refine with_tabW spec_l12Fault.tab7 spec_l12Fault.bits7 (fun HT_ HW_ => ?_)
     generalize w15.drew = w27 at HI0 HK HB hHeld ⊢
     refine pA 0 38 [1, 36] ?_
     refine pA 1 39 [2, 35] ?_
     refine pA 2 40 [3, 34] ?_
     refine pA 4 42 [3, 1, 1, 32] ?_
     refine tA 3 41 [5, 32] (hv := by rintro w' ⟨s0, s1, s2, s3, s4, s5, s6, s7⟩; go_simp; with_reducible rfl) (h := ?_)
     refine one_ (i := 5) (N := some 43) (tr [6, 31]) rfl rfl (one_of HT_.out (by kernel_rfl)) (by decide) (fun K hK => ?_)
     refine goes_ Try.func88 (by kernel_rfl) rfl #[.int .i64 t130, .int .i64 0, .int .i64 (s0_4.length : Int)] (by rfl) rfl rfl (by (try simp only [List.map_toArray, List.map_cons, List.map_nil]); first | done | rfl | (simp only [List.length_drop, List.length_take]; rfl)) ?_
     with_reducible refine (spec_l1In.calls t130 0 (s0_4.length : Int) false _ A17.out).mono ?_
     rintro e w' ⟨rfl, ⟨nd, rfl⟩⟩
     refine ⟨_, rfl, ?_⟩
     refine hK.out _ _ ⟨(match HI0.out with | ⟨_, _, HG_, _⟩ => cellS32_0 HG_), (match HI0.out with | ⟨_, _, HG_, _⟩ => cellS32_1 HG_), (match HI0.out with | ⟨_, _, HG_, _⟩ => cellS32_2 HG_), (match HI0.out with | ⟨_, _, HG_, _⟩ => cellS32_3 HG_), (match HI0.out with | ⟨_, _, HG_, _⟩ => cellS32_5 HG_), (match HI0.out with | ⟨_, _, HG_, _⟩ => cellS32_6 HG_), (match HI0.out with | ⟨_, _, HG_, _⟩ => cellS32_7 HG_), (match HI0.out with | ⟨_, _, HG_, _⟩ => cellS32_8 HG_)⟩ (fun hHeld => ?_)
     clear hK K
     refine norm_ (a' := ?_) ?_ ?_
     rotate_left
     ·
      show Act.put _ (some 43) _ = _
      simp only [Act.put, List.setIfInBounds_toArray, List.set_cons_zero, List.set_cons_succ, i64_w, i32_w]
      rfl
     refine pA 6 44 [7, 30] ?_
     refine pA 7 45 [8, 29] ?_
     refine pU 8 46 [9, 28] ?_
     refine pU 9 47 [10, 27] ?_
     refine pU 10 48 [11, 26] ?_
     refine pU 11 49 [12, 25] ?_
     refine pU 12 50 [13, 24] ?_
     refine pU 13 51 [14, 23] ?_
     refine pU 14 52 [15, 22] ?_
     refine pA 15 53 [16, 21] ?_
     refine pA 16 54 [17, 20] ?_
     refine pU 17 55 [18, 19] ?_
     refine pU 18 56 [19, 18] ?_
     refine pU 19 57 [20, 17] ?_
     refine pU 20 58 [21, 16] ?_
     refine pU 21 59 [22, 15] ?_
     refine pU 22 60 [23, 14] ?_
     refine pU 23 61 [24, 13] ?_
     refine pA 24 62 [25, 12] ?_
     refine pA 25 63 [26, 11] ?_
     refine pU 26 64 [27, 10] ?_
     refine pU 27 65 [28, 9] ?_
     refine pU 28 66 [29, 8] ?_
     refine pU 29 67 [30, 7] ?_
     refine pU 30 68 [31, 6] ?_
     refine pU 31 69 [32, 5] ?_
     refine pU 32 70 [33, 4] ?_
     refine pU 33 71 [34, 3] ?_
     refine pU 34 72 [35, 2] ?_
     refine pU 35 73 [36, 1] ?_
     refine pA 36 74 [37] ?_
     refine done_ (done_of HT_.out (by kernel_rfl)) ?_
     try go_wp2
     first | go_meet | (refine Met.intro ?_; go_step; (repeat apply Exists.intro); refine ⟨?rel, ?eqq⟩; (case eqq => (try simp only [c13b0]); rfl))
     case rel => exact ⟨_, (true), (by first | rfl | (simp; done) | (simp [*]; done)), H', ⟨by have := HJ1.out; first | omega | exact Nat.le_refl _⟩, ⟨by repeat (first | (with_reducible first | exact HI0.out | apply IsS32.alloc | apply IsS32.drewN | apply IsS32.drew | apply IsS32.set_0 | apply IsS32.set_1 | apply IsS32.set_2 | apply IsS32.set_3 | apply IsS32.set_5 | apply IsS32.set_6 | apply IsS32.set_7 | apply IsS32.set_8) | exact HI0.out)⟩, ⟨by repeat (first | (with_reducible first | exact HK.out | apply KeepBut.set_ | apply keep_drewN | apply keep_drew | apply keep_alloc) | exact HK.out)⟩, ⟨by repeat (first | (with_reducible first | exact HB.out | apply below_alloc | apply pw_below_drewN | apply below_drew1 | refine below_set ?_ (IsS32.ge HI0.out)) | exact HB.out)⟩⟩
    case rest =>
     clear HC14
     try clear c1
     try clear c2
     try clear p2
     try clear c8
     try clear c13
     try clear c13b0
     try clear c18
     try clear c20
     obtain ⟨kq, x74_13, rfl, HA, HJ13, HI0, HK, HB⟩ := hcut
     cases kq with
     | zero => exact absurd HA.out (by simp [spec_l12Fault.j1])
     | succ kj13 =>
      have H := HA.out
      clear HA
      simp only [spec_l12Fault.j1] at H
      by_cases c28 : x74_13 = true
      ·
       subst c28
       have H1 : (some (3, t126, t127, t128, t129, t130, t131, t132, t133)) = some (r1, r2, r3, r4, r5, r6, r7, r8, r9) := by rw [if_pos rfl] at H; first | done | exact H
       clear H
       have H := H1
       clear H1
       simp only [Option.some.injEq, Prod.mk.injEq] at H
       obtain ⟨rfl, rfl, rfl, rfl, rfl, rfl, rfl, rfl, rfl⟩ := H
       go_wp2
       go_ret
       exact ⟨by first | rfl | (simp [errW_none, errW_some] <;> rfl) | (simp [*, errW_none, errW_some] <;> rfl), by repeat (first | (with_reducible first | exact HI0.out | apply IsS32.alloc | apply IsS32.drewN | apply IsS32.drew | apply IsS32.set_0 | apply IsS32.set_1 | apply IsS32.set_2 | apply IsS32.set_3 | apply IsS32.set_5 | apply IsS32.set_6 | apply IsS32.set_7 | apply IsS32.set_8) | exact HI0.out), by repeat (first | (with_reducible first | exact HB.out | apply below_alloc | apply pw_below_drewN | apply below_drew1 | refine below_set ?_ (IsS32.ge HI0.out)) | exact HB.out), by repeat (first | (with_reducible first | exact HK.out | apply KeepBut.set_ | apply keep_drewN | apply keep_drew | apply keep_alloc) | exact HK.out)⟩
      replace c28 := Bool.eq_false_iff.mpr c28
      subst c28
      have H1 : (if t128 = 1 then (if t127 = true then (if t129 = 0 then (some (1, t126, t127, t128, t129, t130, t131, t132, t133)) else (if t131 = 0 then (some (0, t126, t127, t128, t129, t130, t131, t132, t133)) else (some (1, t126, t127, t128, t129, t130, t131, t132, t133)))) else (some (1, t126, t127, t128, t129, t130, t131, t132, t133))) else (if t132 = 0 then (if t127 = true then (some (0, t126, t127, t128, t129, t130, t131, t132, t133)) else (if t130 = (s0_4.length : Int) then (if t131 = 0 then (if t133 = 0 then (some (0, t126, t127, t128, t129, t130, t131, t132, t133)) else (some (1, t126, t127, t128, t129, t130, t131, t132, t133))) else (some (1, t126, t127, t128, t129, t130, t131, t132, t133))) else (some (1, t126, t127, t128, t129, t130, t131, t132, t133)))) else (some (1, t126, t127, t128, t129, t130, t131, t132, t133)))) = some (r1, r2, r3, r4, r5, r6, r7, r8, r9) := by rw [if_neg (show ¬ (false = true) by decide)] at H; first | done | exact H
      clear H
      have H := H1
      clear H1
      by_cases c29 : t128 = 1
      ·
       rw [if_pos c29] at H
       have c29b0 : (t128 == 1) = true := beq_iff_eq.mpr c29
       have c29b1 : (t128 != 1) = false := bne_eq_false_iff_eq.mpr c29
       clear c29
       by_cases c30 : t127 = true
       ·
        subst c30
        have H1 : (if t129 = 0 then (some (1, t126, true, t128, t129, t130, t131, t132, t133)) else (if t131 = 0 then (some (0, t126, true, t128, t129, t130, t131, t132, t133)) else (some (1, t126, true, t128, t129, t130, t131, t132, t133)))) = some (r1, r2, r3, r4, r5, r6, r7, r8, r9) := by rw [if_pos rfl] at H; first | done | exact H
        clear H
        have H := H1
        clear H1
        by_cases c31 : t129 = 0
        ·
         rw [if_pos c31] at H
         have c31b0 : (t129 == 0) = true := beq_iff_eq.mpr c31
         have c31b1 : (t129 != 0) = false := bne_eq_false_iff_eq.mpr c31
         clear c31
         simp only [Option.some.injEq, Prod.mk.injEq] at H
         obtain ⟨rfl, rfl, rfl, rfl, rfl, rfl, rfl, rfl, rfl⟩ := H
         obtain ⟨ASz32_4, cSz32_4, HGz32, hgz32, HSz32_4, HLz32_4⟩ := HI0.out
         have hcz32_0 := cellS32_0 HGz32
         have hcz32_1 := cellS32_1 HGz32
         have hcz32_2 := cellS32_2 HGz32
         have hcz32_3 := cellS32_3 HGz32
         have hcz32_4 := cellS32_4 HGz32
         have hcz32_5 := cellS32_5 HGz32
         have hcz32_6 := cellS32_6 HGz32
         have hcz32_7 := cellS32_7 HGz32
         have hcz32_8 := cellS32_8 HGz32
         have hfz32_0 := blk_frozen HGz32 0
         have hfz32_1 := blk_frozen HGz32 1
         have hfz32_2 := blk_frozen HGz32 2
         have hfz32_3 := blk_frozen HGz32 3
         have hfz32_5 := blk_frozen HGz32 5
         have hfz32_6 := blk_frozen HGz32 6
         have hfz32_7 := blk_frozen HGz32 7
         have hfz32_8 := blk_frozen HGz32 8
         clear HGz32 hgz32
         go_wp2
         go_ret
         exact ⟨by first | rfl | (simp [errW_none, errW_some] <;> rfl) | (simp [*, errW_none, errW_some] <;> rfl), by repeat (first | (with_reducible first | exact HI0.out | apply IsS32.alloc | apply IsS32.drewN | apply IsS32.drew | apply IsS32.set_0 | apply IsS32.set_1 | apply IsS32.set_2 | apply IsS32.set_3 | apply IsS32.set_5 | apply IsS32.set_6 | apply IsS32.set_7 | apply IsS32.set_8) | exact HI0.out), by repeat (first | (with_reducible first | exact HB.out | apply below_alloc | apply pw_below_drewN | apply below_drew1 | refine below_set ?_ (IsS32.ge HI0.out)) | exact HB.out), by repeat (first | (with_reducible first | exact HK.out | apply KeepBut.set_ | apply keep_drewN | apply keep_drew | apply keep_alloc) | exact HK.out)⟩
        rw [if_neg c31] at H
        have c31b0 : (t129 == 0) = false := beq_eq_false_iff_ne.mpr c31
        have c31b1 : (t129 != 0) = true := bne_iff_ne.mpr c31
        by_cases c33 : t131 = 0
        ·
         rw [if_pos c33] at H
         have c33b0 : (t131 == 0) = true := beq_iff_eq.mpr c33
         have c33b1 : (t131 != 0) = false := bne_eq_false_iff_eq.mpr c33
         clear c33
         simp only [Option.some.injEq, Prod.mk.injEq] at H
         obtain ⟨rfl, rfl, rfl, rfl, rfl, rfl, rfl, rfl, rfl⟩ := H
         obtain ⟨ASz34_4, cSz34_4, HGz34, hgz34, HSz34_4, HLz34_4⟩ := HI0.out
         have hcz34_0 := cellS32_0 HGz34
         have hcz34_1 := cellS32_1 HGz34
         have hcz34_2 := cellS32_2 HGz34
         have hcz34_3 := cellS32_3 HGz34
         have hcz34_4 := cellS32_4 HGz34
         have hcz34_5 := cellS32_5 HGz34
         have hcz34_6 := cellS32_6 HGz34
         have hcz34_7 := cellS32_7 HGz34
         have hcz34_8 := cellS32_8 HGz34
         have hfz34_0 := blk_frozen HGz34 0
         have hfz34_1 := blk_frozen HGz34 1
         have hfz34_2 := blk_frozen HGz34 2
         have hfz34_3 := blk_frozen HGz34 3
         have hfz34_5 := blk_frozen HGz34 5
         have hfz34_6 := blk_frozen HGz34 6
         have hfz34_7 := blk_frozen HGz34 7
         have hfz34_8 := blk_frozen HGz34 8
         clear HGz34 hgz34
         go_wp2
         go_ret
         exact ⟨by first | rfl | (simp [errW_none, errW_some] <;> rfl) | (simp [*, errW_none, errW_some] <;> rfl), by repeat (first | (with_reducible first | exact HI0.out | apply IsS32.alloc | apply IsS32.drewN | apply IsS32.drew | apply IsS32.set_0 | apply IsS32.set_1 | apply IsS32.set_2 | apply IsS32.set_3 | apply IsS32.set_5 | apply IsS32.set_6 | apply IsS32.set_7 | apply IsS32.set_8) | exact HI0.out), by repeat (first | (with_reducible first | exact HB.out | apply below_alloc | apply pw_below_drewN | apply below_drew1 | refine below_set ?_ (IsS32.ge HI0.out)) | exact HB.out), by repeat (first | (with_reducible first | exact HK.out | apply KeepBut.set_ | apply keep_drewN | apply keep_drew | apply keep_alloc) | exact HK.out)⟩
        rw [if_neg c33] at H
        have c33b0 : (t131 == 0) = false := beq_eq_false_iff_ne.mpr c33
        have c33b1 : (t131 != 0) = true := bne_iff_ne.mpr c33
        simp only [Option.some.injEq, Prod.mk.injEq] at H
        obtain ⟨rfl, rfl, rfl, rfl, rfl, rfl, rfl, rfl, rfl⟩ := H
        obtain ⟨ASz35_4, cSz35_4, HGz35, hgz35, HSz35_4, HLz35_4⟩ := HI0.out
        have hcz35_0 := cellS32_0 HGz35
        have hcz35_1 := cellS32_1 HGz35
        have hcz35_2 := cellS32_2 HGz35
        have hcz35_3 := cellS32_3 HGz35
        have hcz35_4 := cellS32_4 HGz35
        have hcz35_5 := cellS32_5 HGz35
        have hcz35_6 := cellS32_6 HGz35
        have hcz35_7 := cellS32_7 HGz35
        have hcz35_8 := cellS32_8 HGz35
        have hfz35_0 := blk_frozen HGz35 0
        have hfz35_1 := blk_frozen HGz35 1
        have hfz35_2 := blk_frozen HGz35 2
        have hfz35_3 := blk_frozen HGz35 3
        have hfz35_5 := blk_frozen HGz35 5
        have hfz35_6 := blk_frozen HGz35 6
        have hfz35_7 := blk_frozen HGz35 7
        have hfz35_8 := blk_frozen HGz35 8
        clear HGz35 hgz35
        go_wp2
        go_ret
        exact ⟨by first | rfl | (simp [errW_none, errW_some] <;> rfl) | (simp [*, errW_none, errW_some] <;> rfl), by repeat (first | (with_reducible first | exact HI0.out | apply IsS32.alloc | apply IsS32.drewN | apply IsS32.drew | apply IsS32.set_0 | apply IsS32.set_1 | apply IsS32.set_2 | apply IsS32.set_3 | apply IsS32.set_5 | apply IsS32.set_6 | apply IsS32.set_7 | apply IsS32.set_8) | exact HI0.out), by repeat (first | (with_reducible first | exact HB.out | apply below_alloc | apply pw_below_drewN | apply below_drew1 | refine below_set ?_ (IsS32.ge HI0.out)) | exact HB.out), by repeat (first | (with_reducible first | exact HK.out | apply KeepBut.set_ | apply keep_drewN | apply keep_drew | apply keep_alloc) | exact HK.out)⟩
       replace c30 := Bool.eq_false_iff.mpr c30
       subst c30
       have H1 : (some (1, t126, false, t128, t129, t130, t131, t132, t133)) = some (r1, r2, r3, r4, r5, r6, r7, r8, r9) := by rw [if_neg (show ¬ (false = true) by decide)] at H; first | done | exact H
       clear H
       have H := H1
       clear H1
       simp only [Option.some.injEq, Prod.mk.injEq] at H
       obtain ⟨rfl, rfl, rfl, rfl, rfl, rfl, rfl, rfl, rfl⟩ := H
       obtain ⟨ASz36_4, cSz36_4, HGz36, hgz36, HSz36_4, HLz36_4⟩ := HI0.out
       have hcz36_0 := cellS32_0 HGz36
       have hcz36_1 := cellS32_1 HGz36
       have hcz36_2 := cellS32_2 HGz36
       have hcz36_3 := cellS32_3 HGz36
       have hcz36_4 := cellS32_4 HGz36
       have hcz36_5 := cellS32_5 HGz36
       have hcz36_6 := cellS32_6 HGz36
       have hcz36_7 := cellS32_7 HGz36
       have hcz36_8 := cellS32_8 HGz36
       have hfz36_0 := blk_frozen HGz36 0
       have hfz36_1 := blk_frozen HGz36 1
       have hfz36_2 := blk_frozen HGz36 2
       have hfz36_3 := blk_frozen HGz36 3
       have hfz36_5 := blk_frozen HGz36 5
       have hfz36_6 := blk_frozen HGz36 6
       have hfz36_7 := blk_frozen HGz36 7
       have hfz36_8 := blk_frozen HGz36 8
       clear HGz36 hgz36
       go_wp2
       go_ret
       exact ⟨by first | rfl | (simp [errW_none, errW_some] <;> rfl) | (simp [*, errW_none, errW_some] <;> rfl), by repeat (first | (with_reducible first | exact HI0.out | apply IsS32.alloc | apply IsS32.drewN | apply IsS32.drew | apply IsS32.set_0 | apply IsS32.set_1 | apply IsS32.set_2 | apply IsS32.set_3 | apply IsS32.set_5 | apply IsS32.set_6 | apply IsS32.set_7 | apply IsS32.set_8) | exact HI0.out), by repeat (first | (with_reducible first | exact HB.out | apply below_alloc | apply pw_below_drewN | apply below_drew1 | refine below_set ?_ (IsS32.ge HI0.out)) | exact HB.out), by repeat (first | (with_reducible first | exact HK.out | apply KeepBut.set_ | apply keep_drewN | apply keep_drew | apply keep_alloc) | exact HK.out)⟩
      rw [if_neg c29] at H
      have c29b0 : (t128 == 1) = false := beq_eq_false_iff_ne.mpr c29
      have c29b1 : (t128 != 1) = true := bne_iff_ne.mpr c29
      by_cases c37 : t132 = 0
      ·
       rw [if_pos c37] at H
       have c37b0 : (t132 == 0) = true := beq_iff_eq.mpr c37
       have c37b1 : (t132 != 0) = false := bne_eq_false_iff_eq.mpr c37
       clear c37
       by_cases c38 : t127 = true
       ·
        subst c38
        have H1 : (some (0, t126, true, t128, t129, t130, t131, t132, t133)) = some (r1, r2, r3, r4, r5, r6, r7, r8, r9) := by rw [if_pos rfl] at H; first | done | exact H
        clear H
        have H := H1
        clear H1
        simp only [Option.some.injEq, Prod.mk.injEq] at H
        obtain ⟨rfl, rfl, rfl, rfl, rfl, rfl, rfl, rfl, rfl⟩ := H
        obtain ⟨ASz39_4, cSz39_4, HGz39, hgz39, HSz39_4, HLz39_4⟩ := HI0.out
        have hcz39_0 := cellS32_0 HGz39
        have hcz39_1 := cellS32_1 HGz39
        have hcz39_2 := cellS32_2 HGz39
        have hcz39_3 := cellS32_3 HGz39
        have hcz39_4 := cellS32_4 HGz39
        have hcz39_5 := cellS32_5 HGz39
        have hcz39_6 := cellS32_6 HGz39
        have hcz39_7 := cellS32_7 HGz39
        have hcz39_8 := cellS32_8 HGz39
        have hfz39_0 := blk_frozen HGz39 0
        have hfz39_1 := blk_frozen HGz39 1
        have hfz39_2 := blk_frozen HGz39 2
        have hfz39_3 := blk_frozen HGz39 3
        have hfz39_5 := blk_frozen HGz39 5
        have hfz39_6 := blk_frozen HGz39 6
        have hfz39_7 := blk_frozen HGz39 7
        have hfz39_8 := blk_frozen HGz39 8
        clear HGz39 hgz39
        go_wp2
        go_ret
        exact ⟨by first | rfl | (simp [errW_none, errW_some] <;> rfl) | (simp [*, errW_none, errW_some] <;> rfl), by repeat (first | (with_reducible first | exact HI0.out | apply IsS32.alloc | apply IsS32.drewN | apply IsS32.drew | apply IsS32.set_0 | apply IsS32.set_1 | apply IsS32.set_2 | apply IsS32.set_3 | apply IsS32.set_5 | apply IsS32.set_6 | apply IsS32.set_7 | apply IsS32.set_8) | exact HI0.out), by repeat (first | (with_reducible first | exact HB.out | apply below_alloc | apply pw_below_drewN | apply below_drew1 | refine below_set ?_ (IsS32.ge HI0.out)) | exact HB.out), by repeat (first | (with_reducible first | exact HK.out | apply KeepBut.set_ | apply keep_drewN | apply keep_drew | apply keep_alloc) | exact HK.out)⟩
       replace c38 := Bool.eq_false_iff.mpr c38
       subst c38
       have H1 : (if t130 = (s0_4.length : Int) then (if t131 = 0 then (if t133 = 0 then (some (0, t126, false, t128, t129, t130, t131, t132, t133)) else (some (1, t126, false, t128, t129, t130, t131, t132, t133))) else (some (1, t126, false, t128, t129, t130, t131, t132, t133))) else (some (1, t126, false, t128, t129, t130, t131, t132, t133))) = some (r1, r2, r3, r4, r5, r6, r7, r8, r9) := by rw [if_neg (show ¬ (false = true) by decide)] at H; first | done | exact H
       clear H
       have H := H1
       clear H1
       by_cases c40 : t130 = (s0_4.length : Int)
       ·
        rw [if_pos c40] at H
        have c40b0 : (t130 == (s0_4.length : Int)) = true := beq_iff_eq.mpr c40
        have c40b1 : (t130 != (s0_4.length : Int)) = false := bne_eq_false_iff_eq.mpr c40
        clear c40
        by_cases c41 : t131 = 0
        ·
         rw [if_pos c41] at H
         have c41b0 : (t131 == 0) = true := beq_iff_eq.mpr c41
         have c41b1 : (t131 != 0) = false := bne_eq_false_iff_eq.mpr c41
         clear c41
         by_cases c42 : t133 = 0
         ·
          rw [if_pos c42] at H
          have c42b0 : (t133 == 0) = true := beq_iff_eq.mpr c42
          have c42b1 : (t133 != 0) = false := bne_eq_false_iff_eq.mpr c42
          clear c42
          simp only [Option.some.injEq, Prod.mk.injEq] at H
          obtain ⟨rfl, rfl, rfl, rfl, rfl, rfl, rfl, rfl, rfl⟩ := H
          obtain ⟨ASz43_4, cSz43_4, HGz43, hgz43, HSz43_4, HLz43_4⟩ := HI0.out
          have hcz43_0 := cellS32_0 HGz43
          have hcz43_1 := cellS32_1 HGz43
          have hcz43_2 := cellS32_2 HGz43
          have hcz43_3 := cellS32_3 HGz43
          have hcz43_4 := cellS32_4 HGz43
          have hcz43_5 := cellS32_5 HGz43
          have hcz43_6 := cellS32_6 HGz43
          have hcz43_7 := cellS32_7 HGz43
          have hcz43_8 := cellS32_8 HGz43
          have hfz43_0 := blk_frozen HGz43 0
          have hfz43_1 := blk_frozen HGz43 1
          have hfz43_2 := blk_frozen HGz43 2
          have hfz43_3 := blk_frozen HGz43 3
          have hfz43_5 := blk_frozen HGz43 5
          have hfz43_6 := blk_frozen HGz43 6
          have hfz43_7 := blk_frozen HGz43 7
          have hfz43_8 := blk_frozen HGz43 8
          clear HGz43 hgz43
          go_wp2
          go_ret
          exact ⟨by first | rfl | (simp [errW_none, errW_some] <;> rfl) | (simp [*, errW_none, errW_some] <;> rfl), by repeat (first | (with_reducible first | exact HI0.out | apply IsS32.alloc | apply IsS32.drewN | apply IsS32.drew | apply IsS32.set_0 | apply IsS32.set_1 | apply IsS32.set_2 | apply IsS32.set_3 | apply IsS32.set_5 | apply IsS32.set_6 | apply IsS32.set_7 | apply IsS32.set_8) | exact HI0.out), by repeat (first | (with_reducible first | exact HB.out | apply below_alloc | apply pw_below_drewN | apply below_drew1 | refine below_set ?_ (IsS32.ge HI0.out)) | exact HB.out), by repeat (first | (with_reducible first | exact HK.out | apply KeepBut.set_ | apply keep_drewN | apply keep_drew | apply keep_alloc) | exact HK.out)⟩
         rw [if_neg c42] at H
         have c42b0 : (t133 == 0) = false := beq_eq_false_iff_ne.mpr c42
         have c42b1 : (t133 != 0) = true := bne_iff_ne.mpr c42
         simp only [Option.some.injEq, Prod.mk.injEq] at H
         obtain ⟨rfl, rfl, rfl, rfl, rfl, rfl, rfl, rfl, rfl⟩ := H
         obtain ⟨ASz44_4, cSz44_4, HGz44, hgz44, HSz44_4, HLz44_4⟩ := HI0.out
         have hcz44_0 := cellS32_0 HGz44
         have hcz44_1 := cellS32_1 HGz44
         have hcz44_2 := cellS32_2 HGz44
         have hcz44_3 := cellS32_3 HGz44
         have hcz44_4 := cellS32_4 HGz44
         have hcz44_5 := cellS32_5 HGz44
         have hcz44_6 := cellS32_6 HGz44
         have hcz44_7 := cellS32_7 HGz44
         have hcz44_8 := cellS32_8 HGz44
         have hfz44_0 := blk_frozen HGz44 0
         have hfz44_1 := blk_frozen HGz44 1
         have hfz44_2 := blk_frozen HGz44 2
         have hfz44_3 := blk_frozen HGz44 3
         have hfz44_5 := blk_frozen HGz44 5
         have hfz44_6 := blk_frozen HGz44 6
         have hfz44_7 := blk_frozen HGz44 7
         have hfz44_8 := blk_frozen HGz44 8
         clear HGz44 hgz44
         go_wp2
         go_ret
         exact ⟨by first | rfl | (simp [errW_none, errW_some] <;> rfl) | (simp [*, errW_none, errW_some] <;> rfl), by repeat (first | (with_reducible first | exact HI0.out | apply IsS32.alloc | apply IsS32.drewN | apply IsS32.drew | apply IsS32.set_0 | apply IsS32.set_1 | apply IsS32.set_2 | apply IsS32.set_3 | apply IsS32.set_5 | apply IsS32.set_6 | apply IsS32.set_7 | apply IsS32.set_8) | exact HI0.out), by repeat (first | (with_reducible first | exact HB.out | apply below_alloc | apply pw_below_drewN | apply below_drew1 | refine below_set ?_ (IsS32.ge HI0.out)) | exact HB.out), by repeat (first | (with_reducible first | exact HK.out | apply KeepBut.set_ | apply keep_drewN | apply keep_drew | apply keep_alloc) | exact HK.out)⟩
        rw [if_neg c41] at H
        have c41b0 : (t131 == 0) = false := beq_eq_false_iff_ne.mpr c41
        have c41b1 : (t131 != 0) = true := bne_iff_ne.mpr c41
        simp only [Option.some.injEq, Prod.mk.injEq] at H
        obtain ⟨rfl, rfl, rfl, rfl, rfl, rfl, rfl, rfl, rfl⟩ := H
        obtain ⟨ASz45_4, cSz45_4, HGz45, hgz45, HSz45_4, HLz45_4⟩ := HI0.out
        have hcz45_0 := cellS32_0 HGz45
        have hcz45_1 := cellS32_1 HGz45
        have hcz45_2 := cellS32_2 HGz45
        have hcz45_3 := cellS32_3 HGz45
        have hcz45_4 := cellS32_4 HGz45
        have hcz45_5 := cellS32_5 HGz45
        have hcz45_6 := cellS32_6 HGz45
        have hcz45_7 := cellS32_7 HGz45
        have hcz45_8 := cellS32_8 HGz45
        have hfz45_0 := blk_frozen HGz45 0
        have hfz45_1 := blk_frozen HGz45 1
        have hfz45_2 := blk_frozen HGz45 2
        have hfz45_3 := blk_frozen HGz45 3
        have hfz45_5 := blk_frozen HGz45 5
        have hfz45_6 := blk_frozen HGz45 6
        have hfz45_7 := blk_frozen HGz45 7
        have hfz45_8 := blk_frozen HGz45 8
        clear HGz45 hgz45
        go_wp2
        go_ret
        exact ⟨by first | rfl | (simp [errW_none, errW_some] <;> rfl) | (simp [*, errW_none, errW_some] <;> rfl), by repeat (first | (with_reducible first | exact HI0.out | apply IsS32.alloc | apply IsS32.drewN | apply IsS32.drew | apply IsS32.set_0 | apply IsS32.set_1 | apply IsS32.set_2 | apply IsS32.set_3 | apply IsS32.set_5 | apply IsS32.set_6 | apply IsS32.set_7 | apply IsS32.set_8) | exact HI0.out), by repeat (first | (with_reducible first | exact HB.out | apply below_alloc | apply pw_below_drewN | apply below_drew1 | refine below_set ?_ (IsS32.ge HI0.out)) | exact HB.out), by repeat (first | (with_reducible first | exact HK.out | apply KeepBut.set_ | apply keep_drewN | apply keep_drew | apply keep_alloc) | exact HK.out)⟩
       rw [if_neg c40] at H
       have c40b0 : (t130 == (s0_4.length : Int)) = false := beq_eq_false_iff_ne.mpr c40
       have c40b1 : (t130 != (s0_4.length : Int)) = true := bne_iff_ne.mpr c40
       simp only [Option.some.injEq, Prod.mk.injEq] at H
       obtain ⟨rfl, rfl, rfl, rfl, rfl, rfl, rfl, rfl, rfl⟩ := H
       obtain ⟨ASz46_4, cSz46_4, HGz46, hgz46, HSz46_4, HLz46_4⟩ := HI0.out
       have hcz46_0 := cellS32_0 HGz46
       have hcz46_1 := cellS32_1 HGz46
       have hcz46_2 := cellS32_2 HGz46
       have hcz46_3 := cellS32_3 HGz46
       have hcz46_4 := cellS32_4 HGz46
       have hcz46_5 := cellS32_5 HGz46
       have hcz46_6 := cellS32_6 HGz46
       have hcz46_7 := cellS32_7 HGz46
       have hcz46_8 := cellS32_8 HGz46
       have hfz46_0 := blk_frozen HGz46 0
       have hfz46_1 := blk_frozen HGz46 1
       have hfz46_2 := blk_frozen HGz46 2
       have hfz46_3 := blk_frozen HGz46 3
       have hfz46_5 := blk_frozen HGz46 5
       have hfz46_6 := blk_frozen HGz46 6
       have hfz46_7 := blk_frozen HGz46 7
       have hfz46_8 := blk_frozen HGz46 8
       clear HGz46 hgz46
       go_wp2
       go_ret
       exact ⟨by first | rfl | (simp [errW_none, errW_some] <;> rfl) | (simp [*, errW_none, errW_some] <;> rfl), by repeat (first | (with_reducible first | exact HI0.out | apply IsS32.alloc | apply IsS32.drewN | apply IsS32.drew | apply IsS32.set_0 | apply IsS32.set_1 | apply IsS32.set_2 | apply IsS32.set_3 | apply IsS32.set_5 | apply IsS32.set_6 | apply IsS32.set_7 | apply IsS32.set_8) | exact HI0.out), by repeat (first | (with_reducible first | exact HB.out | apply below_alloc | apply pw_below_drewN | apply below_drew1 | refine below_set ?_ (IsS32.ge HI0.out)) | exact HB.out), by repeat (first | (with_reducible first | exact HK.out | apply KeepBut.set_ | apply keep_drewN | apply keep_drew | apply keep_alloc) | exact HK.out)⟩
      rw [if_neg c37] at H
      have c37b0 : (t132 == 0) = false := beq_eq_false_iff_ne.mpr c37
      have c37b1 : (t132 != 0) = true := bne_iff_ne.mpr c37
      simp only [Option.some.injEq, Prod.mk.injEq] at H
      obtain ⟨rfl, rfl, rfl, rfl, rfl, rfl, rfl, rfl, rfl⟩ := H
      obtain ⟨ASz47_4, cSz47_4, HGz47, hgz47, HSz47_4, HLz47_4⟩ := HI0.out
      have hcz47_0 := cellS32_0 HGz47
      have hcz47_1 := cellS32_1 HGz47
      have hcz47_2 := cellS32_2 HGz47
      have hcz47_3 := cellS32_3 HGz47
      have hcz47_4 := cellS32_4 HGz47
      have hcz47_5 := cellS32_5 HGz47
      have hcz47_6 := cellS32_6 HGz47
      have hcz47_7 := cellS32_7 HGz47
      have hcz47_8 := cellS32_8 HGz47
      have hfz47_0 := blk_frozen HGz47 0
      have hfz47_1 := blk_frozen HGz47 1
      have hfz47_2 := blk_frozen HGz47 2
      have hfz47_3 := blk_frozen HGz47 3
      have hfz47_5 := blk_frozen HGz47 5
      have hfz47_6 := blk_frozen HGz47 6
      have hfz47_7 := blk_frozen HGz47 7
      have hfz47_8 := blk_frozen HGz47 8
      clear HGz47 hgz47
      go_wp2
      go_ret
      exact ⟨by first | rfl | (simp [errW_none, errW_some] <;> rfl) | (simp [*, errW_none, errW_some] <;> rfl), by repeat (first | (with_reducible first | exact HI0.out | apply IsS32.alloc | apply IsS32.drewN | apply IsS32.drew | apply IsS32.set_0 | apply IsS32.set_1 | apply IsS32.set_2 | apply IsS32.set_3 | apply IsS32.set_5 | apply IsS32.set_6 | apply IsS32.set_7 | apply IsS32.set_8) | exact HI0.out), by repeat (first | (with_reducible first | exact HB.out | apply below_alloc | apply pw_below_drewN | apply below_drew1 | refine below_set ?_ (IsS32.ge HI0.out)) | exact HB.out), by repeat (first | (with_reducible first | exact HK.out | apply KeepBut.set_ | apply keep_drewN | apply keep_drew | apply keep_alloc) | exact HK.out)⟩
   rw [if_neg c13] at H
   have c13b0 : (t125 == 0) = false := beq_eq_false_iff_ne.mpr c13
   have c13b1 : (t125 != 0) = true := bne_iff_ne.mpr c13
   simp only [Option.some.injEq, Prod.mk.injEq] at H
   obtain ⟨rfl, rfl, rfl, rfl, rfl, rfl, rfl, rfl, rfl⟩ := H
   go_wp2_with (first | ((with_reducible refine gate_callee (f := 126) rfl ?_); refine goA (some 29) rfl rfl Try.func126 rfl #[.pointer (some ⟨g, 0, none⟩)] rfl ?_; (with_reducible refine (spec_l12Log.calls kj1 g s0_0 s0_1 s0_2 s0_3 s0_4 s0_5 s0_6 s0_7 s0_8 t125 t126 t127 t128 t129 t130 t131 t132 t133 w0 _ ?side1 ?side2 A12.out).mono ?_); (case side1 => repeat (first | (with_reducible first | exact HI0.out | apply IsS32.alloc | apply IsS32.drewN | apply IsS32.drew | apply IsS32.set_0 | apply IsS32.set_1 | apply IsS32.set_2 | apply IsS32.set_3 | apply IsS32.set_5 | apply IsS32.set_6 | apply IsS32.set_7 | apply IsS32.set_8) | exact HI0.out)); (case side2 => repeat (first | (with_reducible first | exact HB.out | apply below_alloc | apply pw_below_drewN | apply below_drew1 | refine below_set ?_ (IsS32.ge HI0.out)) | exact HB.out)); rintro e w48 ⟨rfl, hi, hb, hk⟩; refine ⟨_, rfl, ?_⟩; replace HK := am (KeepBut.trans (by repeat (first | (with_reducible first | exact HK.out | apply KeepBut.set_ | apply keep_drewN | apply keep_drew | apply keep_alloc) | exact HK.out)) hk (.inl rfl)); replace HB := Aside0.mk hb; replace HI0 := Aside0.mk hi; (try clear hb); (try clear hb2); (try clear hk); (try clear hi)))
   go_ret
   exact ⟨by first | rfl | (simp [errW_none, errW_some] <;> rfl) | (simp [*, errW_none, errW_some] <;> rfl), by repeat (first | (with_reducible first | exact HI0.out | apply IsS32.alloc | apply IsS32.drewN | apply IsS32.drew | apply IsS32.set_0 | apply IsS32.set_1 | apply IsS32.set_2 | apply IsS32.set_3 | apply IsS32.set_5 | apply IsS32.set_6 | apply IsS32.set_7 | apply IsS32.set_8) | exact HI0.out), by repeat (first | (with_reducible first | exact HB.out | apply below_alloc | apply pw_below_drewN | apply below_drew1 | refine below_set ?_ (IsS32.ge HI0.out)) | exact HB.out), by repeat (first | (with_reducible first | exact HK.out | apply KeepBut.set_ | apply keep_drewN | apply keep_drew | apply keep_alloc) | exact HK.out)⟩

end Go.Proofs.Ytgfoifkkffffgab.PFnExactAddEvent
