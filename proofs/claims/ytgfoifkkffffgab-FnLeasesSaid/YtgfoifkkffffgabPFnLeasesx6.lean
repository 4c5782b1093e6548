-- Laid by a turned copy of the printer (wip/tools/patch_print.py)
import Derived.Test.YtgfoifkkffffgabPFnLeasesx0
import Derived.Test.YtgfoifkkffffgabPFnLeasesx1
import Derived.Test.YtgfoifkkffffgabPFnLeasesx2
import Derived.Test.YtgfoifkkffffgabPFnLeasesx5
namespace Go.Proofs.Ytgfoifkkffffgab.PFnLeases
open Go.RowKit Go.Proofs.YtgfoifkkffffgabW.PrintWords Go.Proofs.YtgfoifkkffffgabW.PrintLast Go.Proofs.YtgfoifkkffffgabW.PrintMore
attribute [local go_sem] max2_int min2_int max_two min_two max_three min_three max_four min_four   -- for this text's walks alone
theorem fld81_0 (x0 x1 x2 x3 x4 : Value) (w : World) : (Instr.field 81 (.agg #[x0, x1, x2, x3, x4]) 0).run Try.prog w = .ok x0 w := by kernel_rfl
attribute [local go_sem] fld81_0
theorem fld75_0 (x0 x1 x2 : Value) (w : World) : (Instr.field 75 (.agg #[x0, x1, x2]) 0).run Try.prog w = .ok x0 w := by kernel_rfl
attribute [local go_sem] fld75_0
set_option linter.unusedVariables false
set_option linter.unusedSimpArgs false

/-! ### laws_FnLeases: function 8 -/
mutual
def laws_FnLeases.l0 : Nat → List Int → Int → Int → List Int → Int → Int → Int → Int → Option (Bool)
 | 0, _, _, _, _, _, _, _, _ => none
 | k + 1, x0, x5, x220000, x220001, x221000, x221001, x221002, x221003 => if x5 < 40 then ((laws_lwAt.f x0 x5 6).bind fun t221 => ((laws_lwAt.f x0 (wrap64 (x5 + 40)) 5).bind fun t222 => ((laws_lwAt.f x0 (wrap64 (x5 + 80)) 5).bind fun t223 => ((impl_TickClock.f k x220000 x220001 t221 (([wrap64 (t222 - 2), wrap64 (t223 - 2)] : List Int))).bind fun bt227 => (if bt227.1 = 0 then ((impl_ClockFault.f k bt227.2.1 bt227.2.2).bind fun t233 => (if t233 = 0 then (if (bt227.2.2.length : Int) = 2 then (if 0 ≤ x221000 then (if x221000 < (x220001.length : Int) then (if x221000 < (bt227.2.2.length : Int) then ((impl_MayLead.f x221000 x221001 x221002 x221003 (rd bt227.2.2 x221000)).bind fun t236 => (if t236 = true then (if 0 ≤ (wrap64 (1 - x221000)) then (if (wrap64 (1 - x221000)) < (bt227.2.2.length : Int) then ((impl_MayTake.f x221000 x221001 x221002 x221003 (rd bt227.2.2 (wrap64 (1 - x221000)))).bind fun t238 => (laws_FnLeases.j3 k x0 x5 (rd x220001 x221000) x221000 t238 bt227.2.1 bt227.2.2 x221000 x221001 x221002 x221003)) else (none)) else (none)) else (laws_FnLeases.j3 k x0 x5 (rd x220001 x221000) x221000 false bt227.2.1 bt227.2.2 x221000 x221001 x221002 x221003))) else (none)) else (none)) else (none)) else (some false)) else (some false))) else (some false)))))) else ((spec_DrawMayTake.f x0).bind fun bt317 => ((impl_MayTake.f bt317.1 bt317.2.1 bt317.2.2.1 bt317.2.2.2.1 bt317.2.2.2.2).bind fun t323 => ((spec_MayTake.f bt317.1 bt317.2.1 bt317.2.2.1 bt317.2.2.2.1 bt317.2.2.2.2).bind fun t324 => (if (t323 == t324) = true then ((impl_MayLead.f bt317.1 bt317.2.1 bt317.2.2.1 bt317.2.2.2.1 bt317.2.2.2.2).bind fun t325 => ((spec_MayLead.f bt317.1 bt317.2.1 bt317.2.2.1 bt317.2.2.2.1 bt317.2.2.2.2).bind fun t326 => (some (t325 == t326)))) else (some false)))))
def laws_FnLeases.j3 : Nat → List Int → Int → Int → Int → Bool → Int → List Int → Int → Int → Int → Int → Option (Bool)
 | 0, _, _, _, _, _, _, _, _, _, _, _ => none
 | k + 1, x0, x5, x7, x8, x80, x220000, x220001, x221000, x221001, x221002, x221003 => if x80 = true then (some false) else ((laws_lwAt.f x0 (wrap64 (x5 + 120)) 4).bind fun t291 => (if t291 = 0 then (if 0 ≤ (wrap64 (1 - x8)) then (if (wrap64 (1 - x8)) < (x220001.length : Int) then ((impl_GrantLease.f k x221000 x221001 x221002 x221003 x7 (rd x220001 (wrap64 (1 - x8)))).bind fun bt293 => (if bt293.1 = 0 then ((impl_LeaseFault.f bt293.2.1 bt293.2.2.1 bt293.2.2.2.1 bt293.2.2.2.2).bind fun t299 => (if t299 = 0 then (laws_FnLeases.l0 k x0 (wrap64 (x5 + 1)) x220000 x220001 bt293.2.1 bt293.2.2.1 bt293.2.2.2.1 bt293.2.2.2.2) else (some false))) else ((impl_LeaseFault.f x221000 x221001 x221002 x221003).bind fun t300 => (if t300 = 0 then (laws_FnLeases.l0 k x0 (wrap64 (x5 + 1)) x220000 x220001 x221000 x221001 x221002 x221003) else (some false))))) else (none)) else (none)) else (if t291 = 1 then (if 0 ≤ (wrap64 (1 - x8)) then (if (wrap64 (1 - x8)) < (x220001.length : Int) then ((impl_TakeLease.f x221000 x221001 x221002 x221003 (rd x220001 (wrap64 (1 - x8)))).bind fun bt302 => ((impl_MayTake.f x221000 x221001 x221002 x221003 (rd x220001 (wrap64 (1 - x8)))).bind fun t309 => (if ((bt302.1 == 0) != t309) = true then (laws_FnLeases.j4 k x0 x5 true x220000 x220001 x221000 x221001 x221002 x221003 bt302.1 bt302.2.1 bt302.2.2.1 bt302.2.2.2.1 bt302.2.2.2.2) else (if bt302.1 = 0 then (if bt302.2.1 = (wrap64 (1 - x8)) then (if bt302.2.2.1 = (wrap64 (x221001 + 1)) then (if 0 ≤ x8 then (if x8 < (x220001.length : Int) then ((impl_MayLead.f x221000 x221001 x221002 x221003 (rd x220001 x8)).bind fun t311 => (laws_FnLeases.j4 k x0 x5 t311 x220000 x220001 x221000 x221001 x221002 x221003 bt302.1 bt302.2.1 bt302.2.2.1 bt302.2.2.2.1 bt302.2.2.2.2)) else (none)) else (none)) else (laws_FnLeases.j4 k x0 x5 true x220000 x220001 x221000 x221001 x221002 x221003 bt302.1 bt302.2.1 bt302.2.2.1 bt302.2.2.2.1 bt302.2.2.2.2)) else (laws_FnLeases.j4 k x0 x5 true x220000 x220001 x221000 x221001 x221002 x221003 bt302.1 bt302.2.1 bt302.2.2.1 bt302.2.2.2.1 bt302.2.2.2.2)) else (laws_FnLeases.j4 k x0 x5 false x220000 x220001 x221000 x221001 x221002 x221003 bt302.1 bt302.2.1 bt302.2.2.1 bt302.2.2.2.1 bt302.2.2.2.2))))) else (none)) else (none)) else ((impl_LeaseFault.f x221000 x221001 x221002 x221003).bind fun t316 => (if t316 = 0 then (laws_FnLeases.l0 k x0 (wrap64 (x5 + 1)) x220000 x220001 x221000 x221001 x221002 x221003) else (some false))))))
def laws_FnLeases.j4 : Nat → List Int → Int → Bool → Int → List Int → Int → Int → Int → Int → Int → Int → Int → Int → Int → Option (Bool)
 | 0, _, _, _, _, _, _, _, _, _, _, _, _, _, _ => none
 | k + 1, x0, x5, x153, x220000, x220001, x221000, x221001, x221002, x221003, x308000, x308001, x308002, x308003, x308004 => if x153 = true then (some false) else (if x308000 = 0 then ((impl_LeaseFault.f x308001 x308002 x308003 x308004).bind fun t314 => (if t314 = 0 then (laws_FnLeases.l0 k x0 (wrap64 (x5 + 1)) x220000 x220001 x308001 x308002 x308003 x308004) else (some false))) else ((impl_LeaseFault.f x221000 x221001 x221002 x221003).bind fun t315 => (if t315 = 0 then (laws_FnLeases.l0 k x0 (wrap64 (x5 + 1)) x220000 x220001 x221000 x221001 x221002 x221003) else (some false))))
end
def laws_FnLeases.f (k : Nat) (l0 : List Int) : Option (Bool) := (laws_lwBig.f l0).bind fun t215 => (if t215 = true then (some true) else (laws_FnLeases.l0 k l0 0 0 (([0, 0] : List Int)) 0 1 0 0))
theorem laws_FnLeases.mono_l : ∀ k, (∀ y0 y1 y2 y3 y4 y5 y6 y7, LeO (laws_FnLeases.l0 k y0 y1 y2 y3 y4 y5 y6 y7) (laws_FnLeases.l0 (k + 1) y0 y1 y2 y3 y4 y5 y6 y7)) ∧ (∀ y0 y1 y2 y3 y4 y5 y6 y7 y8 y9 y10, LeO (laws_FnLeases.j3 k y0 y1 y2 y3 y4 y5 y6 y7 y8 y9 y10) (laws_FnLeases.j3 (k + 1) y0 y1 y2 y3 y4 y5 y6 y7 y8 y9 y10)) ∧ (∀ y0 y1 y2 y3 y4 y5 y6 y7 y8 y9 y10 y11 y12 y13, LeO (laws_FnLeases.j4 k y0 y1 y2 y3 y4 y5 y6 y7 y8 y9 y10 y11 y12 y13) (laws_FnLeases.j4 (k + 1) y0 y1 y2 y3 y4 y5 y6 y7 y8 y9 y10 y11 y12 y13))
 | 0 => ⟨fun _ _ _ _ _ _ _ _ r h => by simp [laws_FnLeases.l0] at h, fun _ _ _ _ _ _ _ _ _ _ _ r h => by simp [laws_FnLeases.j3] at h, fun _ _ _ _ _ _ _ _ _ _ _ _ _ _ r h => by simp [laws_FnLeases.j4] at h⟩
 | k + 1 => by
  obtain ⟨ih0, ih1, ih2⟩ := laws_FnLeases.mono_l k
  refine ⟨?_, ?_, ?_⟩
  ·
   intro y0 y1 y2 y3 y4 y5 y6 y7
   unfold laws_FnLeases.l0
   repeat' first
   | (with_reducible exact ih0 _ _ _ _ _ _ _ _)
   | (with_reducible exact ih1 _ _ _ _ _ _ _ _ _ _ _)
   | (with_reducible exact ih2 _ _ _ _ _ _ _ _ _ _ _ _ _ _)
   | (with_reducible exact impl_ClockFault.mono _ _ _)
   | (with_reducible exact impl_GrantLease.mono _ _ _ _ _ _ _)
   | (with_reducible exact impl_TickClock.mono _ _ _ _ _)
   | (with_reducible exact LeO.refl _)
   | (with_reducible exact LeO.none _)
   | (with_reducible refine LeO.ite ?_ ?_)
   | (with_reducible refine LeO.bind ?_ (fun _ => ?_))
   | exact ih0 _ _ _ _ _ _ _ _
   | exact ih1 _ _ _ _ _ _ _ _ _ _ _
   | exact ih2 _ _ _ _ _ _ _ _ _ _ _ _ _ _
   | exact impl_ClockFault.mono _ _ _
   | exact impl_GrantLease.mono _ _ _ _ _ _ _
   | exact impl_TickClock.mono _ _ _ _ _
   | exact LeO.none _
   | refine LeO.ite ?_ ?_
   | refine LeO.bind ?_ (fun _ => ?_)
  ·
   intro y0 y1 y2 y3 y4 y5 y6 y7 y8 y9 y10
   unfold laws_FnLeases.j3
   repeat' first
   | (with_reducible exact ih0 _ _ _ _ _ _ _ _)
   | (with_reducible exact ih1 _ _ _ _ _ _ _ _ _ _ _)
   | (with_reducible exact ih2 _ _ _ _ _ _ _ _ _ _ _ _ _ _)
   | (with_reducible exact impl_ClockFault.mono _ _ _)
   | (with_reducible exact impl_GrantLease.mono _ _ _ _ _ _ _)
   | (with_reducible exact impl_TickClock.mono _ _ _ _ _)
   | (with_reducible exact LeO.refl _)
   | (with_reducible exact LeO.none _)
   | (with_reducible refine LeO.ite ?_ ?_)
   | (with_reducible refine LeO.bind ?_ (fun _ => ?_))
   | exact ih0 _ _ _ _ _ _ _ _
   | exact ih1 _ _ _ _ _ _ _ _ _ _ _
   | exact ih2 _ _ _ _ _ _ _ _ _ _ _ _ _ _
   | exact impl_ClockFault.mono _ _ _
   | exact impl_GrantLease.mono _ _ _ _ _ _ _
   | exact impl_TickClock.mono _ _ _ _ _
   | exact LeO.none _
   | refine LeO.ite ?_ ?_
   | refine LeO.bind ?_ (fun _ => ?_)
  intro y0 y1 y2 y3 y4 y5 y6 y7 y8 y9 y10 y11 y12 y13
  unfold laws_FnLeases.j4
  repeat' first
  | (with_reducible exact ih0 _ _ _ _ _ _ _ _)
  | (with_reducible exact ih1 _ _ _ _ _ _ _ _ _ _ _)
  | (with_reducible exact ih2 _ _ _ _ _ _ _ _ _ _ _ _ _ _)
  | (with_reducible exact impl_ClockFault.mono _ _ _)
  | (with_reducible exact impl_GrantLease.mono _ _ _ _ _ _ _)
  | (with_reducible exact impl_TickClock.mono _ _ _ _ _)
  | (with_reducible exact LeO.refl _)
  | (with_reducible exact LeO.none _)
  | (with_reducible refine LeO.ite ?_ ?_)
  | (with_reducible refine LeO.bind ?_ (fun _ => ?_))
  | exact ih0 _ _ _ _ _ _ _ _
  | exact ih1 _ _ _ _ _ _ _ _ _ _ _
  | exact ih2 _ _ _ _ _ _ _ _ _ _ _ _ _ _
  | exact impl_ClockFault.mono _ _ _
  | exact impl_GrantLease.mono _ _ _ _ _ _ _
  | exact impl_TickClock.mono _ _ _ _ _
  | exact LeO.none _
  | refine LeO.ite ?_ ?_
  | refine LeO.bind ?_ (fun _ => ?_)
theorem laws_FnLeases.mono : ∀ a0 k, LeO (laws_FnLeases.f k a0) (laws_FnLeases.f (k + 1) a0) := by
 intro a0 k
 obtain ⟨ih0, ih1, ih2⟩ := laws_FnLeases.mono_l k
 unfold laws_FnLeases.f
 repeat' first
   | (with_reducible exact ih0 _ _ _ _ _ _ _ _)
   | (with_reducible exact ih1 _ _ _ _ _ _ _ _ _ _ _)
   | (with_reducible exact ih2 _ _ _ _ _ _ _ _ _ _ _ _ _ _)
   | (with_reducible exact impl_ClockFault.mono _ _ _)
   | (with_reducible exact impl_GrantLease.mono _ _ _ _ _ _ _)
   | (with_reducible exact impl_TickClock.mono _ _ _ _ _)
   | (with_reducible exact LeO.refl _)
   | (with_reducible exact LeO.none _)
   | (with_reducible refine LeO.ite ?_ ?_)
   | (with_reducible refine LeO.bind ?_ (fun _ => ?_))
   | exact ih0 _ _ _ _ _ _ _ _
   | exact ih1 _ _ _ _ _ _ _ _ _ _ _
   | exact ih2 _ _ _ _ _ _ _ _ _ _ _ _ _ _
   | exact impl_ClockFault.mono _ _ _
   | exact impl_GrantLease.mono _ _ _ _ _ _ _
   | exact impl_TickClock.mono _ _ _ _ _
   | exact LeO.none _
   | refine LeO.ite ?_ ?_
   | refine LeO.bind ?_ (fun _ => ?_)
def laws_FnLeases.T8 : Bool × List (List Nat × List Nat) := (true, [([], []), ([], []), ([], []), ([1, 2], [1, 2]), ([], []), ([], []), ([5], [5]), ([4, 6, 3], [4, 6]), ([7], [7]), ([], []), ([], []), ([10], [10]), ([9, 11, 7], [9, 11]), ([12], [12]), ([8, 13], [8, 13]), ([0, 3, 14, 12], [0, 3, 14]), ([], []), ([16, 15, 15, 0, 1, 2, 3, 4, 5, 6, 7, 8, 9, 10, 11, 12, 13, 14, 15, 16], [15, 16])])
def laws_FnLeases.B8 : List Nat := [0, 0, 0, 6, 0, 0, 32, 126, 254, 0, 0, 1024, 3838, 7934, 16382, 32767, 0, 131071]
theorem laws_FnLeases.tab8 : rtab .any (opsOf Try.f8 8) = laws_FnLeases.T8 := by kernel_rfl
theorem laws_FnLeases.bits8 : waitsOk laws_FnLeases.T8.2 laws_FnLeases.B8 = true := by kernel_rfl
def laws_FnLeases.T14 : Bool × List (List Nat × List Nat) := (true, [([], []), ([], []), ([1], [1]), ([], []), ([2, 3], [2, 3]), ([4], [4]), ([0, 5], [0, 5]), ([6, 6], [6]), ([7], [7]), ([7], [7]), ([9, 7], [7, 9]), ([7], [7]), ([11, 7], [7, 11]), ([10, 12, 7], [7, 10, 12]), ([13, 7], [7, 13]), ([8, 14, 7, 7], [7, 8, 14]), ([7, 15], [7, 15])])
def laws_FnLeases.B14 : List Nat := [0, 0, 2, 0, 14, 30, 63, 127, 255, 255, 767, 255, 2303, 7935, 16127, 32767, 65535]
theorem laws_FnLeases.tab14 : rtab .any (opsOf Try.f8 14) = laws_FnLeases.T14 := by kernel_rfl
theorem laws_FnLeases.bits14 : waitsOk laws_FnLeases.T14.2 laws_FnLeases.B14 = true := by kernel_rfl
def laws_FnLeases.T18 : Bool × List (List Nat × List Nat) := (true, [([], []), ([], []), ([], []), ([2], [2]), ([], []), ([4], [4]), ([3, 5], [3, 5]), ([6], [6]), ([0, 1, 7], [0, 1, 7]), ([], []), ([9, 8, 8, 0, 1, 2, 3, 4, 5, 6, 7, 8, 9], [8, 9])])
def laws_FnLeases.B18 : List Nat := [0, 0, 0, 4, 0, 16, 60, 124, 255, 0, 1023]
theorem laws_FnLeases.tab18 : rtab .any (opsOf Try.f8 18) = laws_FnLeases.T18 := by kernel_rfl
theorem laws_FnLeases.bits18 : waitsOk laws_FnLeases.T18.2 laws_FnLeases.B18 = true := by kernel_rfl
def laws_FnLeases.T22 : Bool × List (List Nat × List Nat) := (true, [([], []), ([], []), ([1], [1]), ([], []), ([3], [3]), ([2, 4], [2, 4]), ([5], [5]), ([0, 6], [0, 6]), ([], []), ([8, 7, 7, 0, 1, 2, 3, 4, 5, 6, 7, 8], [7, 8])])
def laws_FnLeases.B22 : List Nat := [0, 0, 2, 0, 8, 30, 62, 127, 0, 511]
theorem laws_FnLeases.tab22 : rtab .any (opsOf Try.f8 22) = laws_FnLeases.T22 := by kernel_rfl
theorem laws_FnLeases.bits22 : waitsOk laws_FnLeases.T22.2 laws_FnLeases.B22 = true := by kernel_rfl
def laws_FnLeases.T23 : Bool × List (List Nat × List Nat) := (true, [([], []), ([0], [0]), ([1], [1]), ([], []), ([], []), ([4], [4]), ([], []), ([6], [6]), ([5, 7], [5, 7]), ([8], [8]), ([3, 9], [3, 9]), ([2, 10], [2, 10]), ([11, 10], [11]), ([12], [12]), ([13, 12], [12, 13]), ([14, 12], [12, 14]), ([15, 12, 12], [12, 15]), ([16], [16]), ([17, 16], [16, 17]), ([18, 16], [16, 18]), ([16], [16]), ([20, 16], [16, 20]), ([19, 21, 16], [16, 19, 21]), ([22, 16, 16], [16, 22]), ([23], [23]), ([24, 23], [23, 24]), ([25, 23], [23, 25]), ([23], [23]), ([27, 23], [23, 27]), ([28, 23], [23, 28]), ([26, 29, 23], [23, 26, 29]), ([23, 30, 16], [16, 23, 30]), ([31, 23, 16], [16, 31]), ([32], [32]), ([32], [32]), ([34, 32], [32, 34]), ([32], [32]), ([35, 36, 32], [32, 35, 36]), ([37, 32], [32, 37]), ([33, 38, 32, 32], [32, 33, 38]), ([32, 39, 16], [16, 32, 39]), ([16, 40, 12], [12, 16, 40]), ([12, 41], [12, 41])])
def laws_FnLeases.B23 : List Nat := [0, 1, 3, 0, 0, 16, 0, 64, 240, 496, 1016, 2047, 4095, 8191, 16383, 32767, 65535, 131071, 262143, 524287, 131071, 1179647, 4194303, 8388607, 16777215, 33554431, 67108863, 16777215, 150994943, 419430399, 1073741823, 2147483647, 4294967295, 8589934591, 8589934591, 25769803775, 8589934591, 128849018879, 266287972351, 549755813887, 1099511627775, 2199023255551, 4398046511103]
theorem laws_FnLeases.tab23 : rtab .any (opsOf Try.f8 23) = laws_FnLeases.T23 := by kernel_rfl
theorem laws_FnLeases.bits23 : waitsOk laws_FnLeases.T23.2 laws_FnLeases.B23 = true := by kernel_rfl
def laws_FnLeases.T30 : Bool × List (List Nat × List Nat) := (true, [([], []), ([], []), ([0, 1], [0, 1]), ([], []), ([], []), ([3, 4, 2], [3, 4]), ([2, 5], [2, 5]), ([6, 5], [6]), ([7], [7]), ([7], [7]), ([8, 9, 7, 7], [7, 8, 9]), ([7], [7]), ([7], [7]), ([11, 12, 10, 7], [7, 11, 12]), ([10, 13, 7], [7, 10, 13]), ([7, 14], [7, 14]), ([15, 13, 0, 1, 2, 3, 4, 5, 6, 7, 8, 9, 10, 11, 12, 13, 14, 15], [15])])
def laws_FnLeases.B30 : List Nat := [0, 0, 3, 0, 0, 31, 63, 127, 255, 255, 1023, 255, 255, 8191, 16383, 32767, 65535]
theorem laws_FnLeases.tab30 : rtab .any (opsOf Try.f8 30) = laws_FnLeases.T30 := by kernel_rfl
theorem laws_FnLeases.bits30 : waitsOk laws_FnLeases.T30.2 laws_FnLeases.B30 = true := by kernel_rfl
set_option maxHeartbeats 8000000 in
set_option maxRecDepth 100000 in
theorem laws_FnLeases.calls (k : Nat) (A0 : Option Addr) (c0 : Nat) (l0 : List Int) (w : World) (hr0 : Kd.C (Kd.int .u8) w A0 l0.length l0) (hc0 : l0.length ≤ c0) (h : laws_FnLeases.f k l0 = some true) :
  Calls Try.prog 8 #[.slice A0 l0.length c0] w fun e w' => e = .returned (.bool true) ∧ Below w.heap.size w w' := by
 have hu71 := Try.underlying71
 have hu73 := Try.underlying73
 have hu75 := Try.underlying75
 have hu81 := Try.underlying81
 have HR0 := Aside0.mk hr0
 have HC0 := Aside0.mk hc0
 clear hr0 hc0
 have HB := am (Below.refl w.heap.size w)
 have H : ((laws_lwBig.f l0).bind fun t215 => (if t215 = true then (some true) else (laws_FnLeases.l0 k l0 0 0 (([0, 0] : List Int)) 0 1 0 0))) = some true := h
 clear h
 replace H := Option.bind_eq_some_iff.mp H
 obtain ⟨t215, A20, H⟩ := H
 replace H : (if t215 = true then (some true) else (laws_FnLeases.l0 k l0 0 0 (([0, 0] : List Int)) 0 1 0 0)) = some true := H
 have A2 := Aside0.mk A20
 clear A20
 by_cases c3 : t215 = true
 ·
  subst c3
  have H1 : (some true) = some true := by rw [if_pos rfl] at H; first | done | exact H
  clear H
  have H := H1
  clear H1
  have HT_ := Option.some.inj H
  clear H
  go_enter Try.func8, Try.ntmps8
  go_wp2_with (first | ((with_reducible refine gate_callee (f := 26) rfl ?_); refine goA (some 14) rfl rfl Try.func26 rfl #[.slice A0 l0.length c0] rfl ?_; (with_reducible refine (laws_lwBig.calls _ _ l0 true _ ?side1 ?side2 A2.out).mono ?_); (case side1 => repeat (first | exact HR0.out | (with_reducible refine Kd.C_alloc ?_ _) | (with_reducible refine Kd.C_drewN ?_ _) | (with_reducible refine Kd.C_drew ?_))); (case side2 => exact HC0.out); rintro e w' ⟨rfl, ⟨nd, rfl⟩⟩; refine ⟨_, rfl, ?_⟩))
  go_ret
  exact ⟨by first | rfl | (simp [errW_none, errW_some] <;> rfl) | (simp [*, errW_none, errW_some] <;> rfl), bel HB⟩
 replace c3 := Bool.eq_false_iff.mpr c3
 subst c3
 have H1 : (laws_FnLeases.l0 k l0 0 0 (([0, 0] : List Int)) 0 1 0 0) = some true := by rw [if_neg (show ¬ (false = true) by decide)] at H; first | done | exact H
 clear H
 have H := H1
 clear H1
 obtain ⟨y216, hy216⟩ : ∃ y_ : List Int, y_ = (([0, 0] : List Int)) := ⟨_, rfl⟩
 replace H : (laws_FnLeases.l0 k l0 0 0 y216 0 1 0 0) = some true := by first | (rw [hy216]; with_reducible exact H) | (have H2_ := (Option.bind_some _ _).symm.trans H; rw [hy216]; with_reducible exact H2_) | (have H2_ := (Option.bind_some _ _).symm.trans H; with_reducible exact H2_) | with_reducible exact H | (rw [hy216]; exact H) | exact H
 have Ny216 := Aside0.mk hy216
 clear hy216
 have H' := Aside0.mk H
 clear H
 go_enter Try.func8, Try.ntmps8
 go_wp2_with (first | ((with_reducible refine gate_callee (f := 26) rfl ?_); refine goA (some 14) rfl rfl Try.func26 rfl #[.slice A0 l0.length c0] rfl ?_; (with_reducible refine (laws_lwBig.calls _ _ l0 false _ ?side1 ?side2 A2.out).mono ?_); (case side1 => repeat (first | exact HR0.out | (with_reducible refine Kd.C_alloc ?_ _) | (with_reducible refine Kd.C_drewN ?_ _) | (with_reducible refine Kd.C_drew ?_))); (case side2 => exact HC0.out); rintro e w' ⟨rfl, ⟨nd, rfl⟩⟩; refine ⟨_, rfl, ?_⟩) | ((with_reducible refine gate_dst (N := 15) rfl ?_); (try (refine gate_guard (by rfl) ?_; dsimp only)); refine Kd.R_lit (Kd.int .i64) _ 2 ?hg (N := 15) ?hd (xs := ([0, 0] : List Int)) (inner := [.int .i64 0, .int .i64 0]) (ok := fun _ => True) (okp := fun _ => True) ?hr ?hp (fun _ hk => hk) trivial (Below.refl _ _) (Nat.le_refl _) (by simp) ?_; (case hd => rfl); (case hg => rfl); (case hr => first | (go_simp; done) | (go_simp; rfl)); (case hp => exact (Reps.one (show Kd.M (Kd.int .i64) _ _ _ 0 [.int .i64 0] from rfl) (Reps.one (show Kd.M (Kd.int .i64) _ _ _ 0 [.int .i64 0] from rfl) (Reps.none _ _)))); intro v217 w4 ho5 hb hg_ hnew_; clear hg_ hnew_; (first | rw [← Ny216.out] at ho5 | (simp only [Int.reduceToNat] at ho5; rw [← Ny216.out] at ho5)); have HO218 := am (Kd.R_lower ho5 (below_size (bel HB))); replace HB := bS HB hb; clear hb ho5; obtain ⟨Ao6, co6, eo6⟩ := Kd.R_slice HO218.out; subst eo6) | ((with_reducible refine gate_dst (N := 3) rfl ?_); (try (refine gate_guard (by rfl) ?_; dsimp only)); refine boxE #[.int .i64 0, .slice none 0 0] 71 (N := 3) rfl rfl ?_; intro gb219 hg w7 hbox hb; replace HO218 := am (Kd.R_below (mR HO218) hb); have BK219 := Aside0.mk hbox; have GW219 := gZ HB hg; have GE219 := gZ HB hg; replace HB := bS HB hb; clear hb hbox hg; have hz8 := cl2 BK219) | ((with_reducible refine gate_dst (N := 4) rfl ?_); (try (refine gate_guard (by rfl) ?_; dsimp only)); refine boxE #[.int .i64 0, .int .i64 0, .int .i64 0, .int .i64 0] 73 (N := 4) rfl rfl ?_; intro gb220 hg w9 hbox hb; replace HO218 := am (Kd.R_below (by (with_reducible repeat (first | apply Kd.R_alloc | apply Kd.R_drewN | apply Kd.R_drew)); exact (Kd.R_mono (RF (RF (Kd.R_types HO218.out BK219.out (by decide)))) (fun _ h_ => h_.1))) hb); have BK220 := Aside0.mk hbox; have GW220 := gZ HB hg; have GE220 := gZ HB hg; replace HB := bS HB hb; have NB219_220 := am ((by rw [hg]; exact Nat.ne_of_lt (blk_lt (g := gb219) (o := .cells #[.int .i64 0, .slice Ao6 y216.length co6] 71 (0, 0)) (mP BK219)) : gb219 ≠ gb220)); have NB220_219 := am ((by rw [hg]; exact Nat.ne_of_gt (blk_lt (g := gb219) (o := .cells #[.int .i64 0, .slice Ao6 y216.length co6] 71 (0, 0)) (mP BK219)) : gb220 ≠ gb219)); replace BK219 := am (blk_below (g := gb219) (o := .cells #[.int .i64 0, .slice Ao6 y216.length co6] 71 (0, 0)) (mP BK219) hb); clear hb hbox hg; have hnb10 := NB220_219.out; have hnc10 := NB219_220.out; have hz11 := cl4 BK220))
 go_loopg [5] k (fun kq v5 w' => ∃ (x5_1 : Int) (x220000_1 : Int) (x220001_1 : List Int) (x221000_1 : Int) (x221001_1 : Int) (x221002_1 : Int) (x221003_1 : Int) (u220001 : Value), v5 = .int .i64 x5_1 ∧ Aside0 (laws_FnLeases.l0 kq l0 x5_1 x220000_1 x220001_1 x221000_1 x221001_1 x221002_1 x221003_1 = some true) ∧ Aside0 (kq ≤ k) ∧ Aside0 (Kd.R (Kd.int .i64) 2 w' w.heap.size (fun _ => True) u220001 x220001_1) ∧ Aside0 (w'.heap[gb219]? = some (.cells #[.int .i64 x220000_1, u220001] 71 (0, 0))) ∧ Aside0 (w'.heap[gb220]? = some (.cells #[.int .i64 x221000_1, .int .i64 x221001_1, .int .i64 x221002_1, .int .i64 x221003_1] 73 (0, 0))) ∧ Aside0 (Below w.heap.size w w'))
 case atStart => exact ⟨(0), (0), (y216), (0), (1), (0), (0), (.slice Ao6 y216.length co6), (by first | rfl | (simp; done) | (simp [*]; done)), H', ⟨Nat.le_refl _⟩, ⟨by (with_reducible repeat (first | apply Kd.R_alloc | apply Kd.R_drewN | apply Kd.R_drew)); exact Kd.R_mono (RF (RF (RF (RF (Kd.R_types HO218.out BK220.out (by decide)))))) (fun _ hk => trivial)⟩, ⟨by (with_reducible repeat (first | refine blk_drewN ?_ _ | refine blk_drew ?_ | refine blk_alloc ?_ _)); refine blk_far ?_ NB219_220.out _; (with_reducible repeat (first | refine blk_drewN ?_ _ | refine blk_drew ?_ | refine blk_alloc ?_ _)); refine blk_far ?_ NB219_220.out _; (with_reducible repeat (first | refine blk_drewN ?_ _ | refine blk_drew ?_ | refine blk_alloc ?_ _)); refine blk_far ?_ NB219_220.out _; (with_reducible repeat (first | refine blk_drewN ?_ _ | refine blk_drew ?_ | refine blk_alloc ?_ _)); refine blk_far ?_ NB219_220.out _; (with_reducible repeat (first | refine blk_drewN ?_ _ | refine blk_drew ?_ | refine blk_alloc ?_ _)); exact BK219.out⟩, ⟨by (with_reducible repeat (first | refine blk_drewN ?_ _ | refine blk_drew ?_ | refine blk_alloc ?_ _)); refine blk_put (cs := #[.int .i64 0, .int .i64 1, .int .i64 0, .int .i64 0]) ?_ 3 _ rfl; (with_reducible repeat (first | refine blk_drewN ?_ _ | refine blk_drew ?_ | refine blk_alloc ?_ _)); refine blk_put (cs := #[.int .i64 0, .int .i64 1, .int .i64 0, .int .i64 0]) ?_ 2 _ rfl; (with_reducible repeat (first | refine blk_drewN ?_ _ | refine blk_drew ?_ | refine blk_alloc ?_ _)); refine blk_put (cs := #[.int .i64 0, .int .i64 0, .int .i64 0, .int .i64 0]) ?_ 1 _ rfl; (with_reducible repeat (first | refine blk_drewN ?_ _ | refine blk_drew ?_ | refine blk_alloc ?_ _)); refine blk_put (cs := #[.int .i64 0, .int .i64 0, .int .i64 0, .int .i64 0]) ?_ 0 _ rfl; (with_reducible repeat (first | refine blk_drewN ?_ _ | refine blk_drew ?_ | refine blk_alloc ?_ _)); exact BK220.out⟩, ⟨bel HB⟩⟩
 case round =>
  clear H'
  try clear c1
  try clear c2
  try clear p2
  try clear c3
  try clear c8
  try clear c10
  try clear hz11
  try clear hz8
  obtain ⟨x5_1, x220000_1, x220001_1, x221000_1, x221001_1, x221002_1, x221003_1, u220001, rfl, HA, HK1, HO_220001, BK219, BK220, HB⟩ := hrel
  cases gk with
  | zero => exact absurd HA.out (by simp [laws_FnLeases.l0])
  | succ k1 =>
   have H := HA.out
   clear HA
   simp only [laws_FnLeases.l0] at H
   by_cases c12 : x5_1 < 40
   ·
    rw [if_pos c12] at H
    have c12b0 : decide (x5_1 < 40) = true := decide_eq_true c12
    clear c12
    replace H := Option.bind_eq_some_iff.mp H
    obtain ⟨t221, A130, H⟩ := H
    replace H : ((laws_lwAt.f l0 (wrap64 (x5_1 + 40)) 5).bind fun t222 => ((laws_lwAt.f l0 (wrap64 (x5_1 + 80)) 5).bind fun t223 => ((impl_TickClock.f k1 x220000_1 x220001_1 t221 (([wrap64 (t222 - 2), wrap64 (t223 - 2)] : List Int))).bind fun bt227 => (if bt227.1 = 0 then ((impl_ClockFault.f k1 bt227.2.1 bt227.2.2).bind fun t233 => (if t233 = 0 then (if (bt227.2.2.length : Int) = 2 then (if 0 ≤ x221000_1 then (if x221000_1 < (x220001_1.length : Int) then (if x221000_1 < (bt227.2.2.length : Int) then ((impl_MayLead.f x221000_1 x221001_1 x221002_1 x221003_1 (rd bt227.2.2 x221000_1)).bind fun t236 => (if t236 = true then (if 0 ≤ (wrap64 (1 - x221000_1)) then (if (wrap64 (1 - x221000_1)) < (bt227.2.2.length : Int) then ((impl_MayTake.f x221000_1 x221001_1 x221002_1 x221003_1 (rd bt227.2.2 (wrap64 (1 - x221000_1)))).bind fun t238 => (laws_FnLeases.j3 k1 l0 x5_1 (rd x220001_1 x221000_1) x221000_1 t238 bt227.2.1 bt227.2.2 x221000_1 x221001_1 x221002_1 x221003_1)) else (none)) else (none)) else (laws_FnLeases.j3 k1 l0 x5_1 (rd x220001_1 x221000_1) x221000_1 false bt227.2.1 bt227.2.2 x221000_1 x221001_1 x221002_1 x221003_1))) else (none)) else (none)) else (none)) else (some false)) else (some false))) else (some false))))) = some true := H
    have A13 := Aside0.mk A130
    clear A130
    replace H := Option.bind_eq_some_iff.mp H
    obtain ⟨t222, A140, H⟩ := H
    replace H : ((laws_lwAt.f l0 (wrap64 (x5_1 + 80)) 5).bind fun t223 => ((impl_TickClock.f k1 x220000_1 x220001_1 t221 (([wrap64 (t222 - 2), wrap64 (t223 - 2)] : List Int))).bind fun bt227 => (if bt227.1 = 0 then ((impl_ClockFault.f k1 bt227.2.1 bt227.2.2).bind fun t233 => (if t233 = 0 then (if (bt227.2.2.length : Int) = 2 then (if 0 ≤ x221000_1 then (if x221000_1 < (x220001_1.length : Int) then (if x221000_1 < (bt227.2.2.length : Int) then ((impl_MayLead.f x221000_1 x221001_1 x221002_1 x221003_1 (rd bt227.2.2 x221000_1)).bind fun t236 => (if t236 = true then (if 0 ≤ (wrap64 (1 - x221000_1)) then (if (wrap64 (1 - x221000_1)) < (bt227.2.2.length : Int) then ((impl_MayTake.f x221000_1 x221001_1 x221002_1 x221003_1 (rd bt227.2.2 (wrap64 (1 - x221000_1)))).bind fun t238 => (laws_FnLeases.j3 k1 l0 x5_1 (rd x220001_1 x221000_1) x221000_1 t238 bt227.2.1 bt227.2.2 x221000_1 x221001_1 x221002_1 x221003_1)) else (none)) else (none)) else (laws_FnLeases.j3 k1 l0 x5_1 (rd x220001_1 x221000_1) x221000_1 false bt227.2.1 bt227.2.2 x221000_1 x221001_1 x221002_1 x221003_1))) else (none)) else (none)) else (none)) else (some false)) else (some false))) else (some false)))) = some true := H
    have A14 := Aside0.mk A140
    clear A140
    replace H := Option.bind_eq_some_iff.mp H
    obtain ⟨t223, A150, H⟩ := H
    replace H : ((impl_TickClock.f k1 x220000_1 x220001_1 t221 (([wrap64 (t222 - 2), wrap64 (t223 - 2)] : List Int))).bind fun bt227 => (if bt227.1 = 0 then ((impl_ClockFault.f k1 bt227.2.1 bt227.2.2).bind fun t233 => (if t233 = 0 then (if (bt227.2.2.length : Int) = 2 then (if 0 ≤ x221000_1 then (if x221000_1 < (x220001_1.length : Int) then (if x221000_1 < (bt227.2.2.length : Int) then ((impl_MayLead.f x221000_1 x221001_1 x221002_1 x221003_1 (rd bt227.2.2 x221000_1)).bind fun t236 => (if t236 = true then (if 0 ≤ (wrap64 (1 - x221000_1)) then (if (wrap64 (1 - x221000_1)) < (bt227.2.2.length : Int) then ((impl_MayTake.f x221000_1 x221001_1 x221002_1 x221003_1 (rd bt227.2.2 (wrap64 (1 - x221000_1)))).bind fun t238 => (laws_FnLeases.j3 k1 l0 x5_1 (rd x220001_1 x221000_1) x221000_1 t238 bt227.2.1 bt227.2.2 x221000_1 x221001_1 x221002_1 x221003_1)) else (none)) else (none)) else (laws_FnLeases.j3 k1 l0 x5_1 (rd x220001_1 x221000_1) x221000_1 false bt227.2.1 bt227.2.2 x221000_1 x221001_1 x221002_1 x221003_1))) else (none)) else (none)) else (none)) else (some false)) else (some false))) else (some false))) = some true := H
    have A15 := Aside0.mk A150
    clear A150
    obtain ⟨y224, hy224⟩ : ∃ y_ : List Int, y_ = (([wrap64 (t222 - 2), wrap64 (t223 - 2)] : List Int)) := ⟨_, rfl⟩
    replace H : ((impl_TickClock.f k1 x220000_1 x220001_1 t221 y224).bind fun bt227 => (if bt227.1 = 0 then ((impl_ClockFault.f k1 bt227.2.1 bt227.2.2).bind fun t233 => (if t233 = 0 then (if (bt227.2.2.length : Int) = 2 then (if 0 ≤ x221000_1 then (if x221000_1 < (x220001_1.length : Int) then (if x221000_1 < (bt227.2.2.length : Int) then ((impl_MayLead.f x221000_1 x221001_1 x221002_1 x221003_1 (rd bt227.2.2 x221000_1)).bind fun t236 => (if t236 = true then (if 0 ≤ (wrap64 (1 - x221000_1)) then (if (wrap64 (1 - x221000_1)) < (bt227.2.2.length : Int) then ((impl_MayTake.f x221000_1 x221001_1 x221002_1 x221003_1 (rd bt227.2.2 (wrap64 (1 - x221000_1)))).bind fun t238 => (laws_FnLeases.j3 k1 l0 x5_1 (rd x220001_1 x221000_1) x221000_1 t238 bt227.2.1 bt227.2.2 x221000_1 x221001_1 x221002_1 x221003_1)) else (none)) else (none)) else (laws_FnLeases.j3 k1 l0 x5_1 (rd x220001_1 x221000_1) x221000_1 false bt227.2.1 bt227.2.2 x221000_1 x221001_1 x221002_1 x221003_1))) else (none)) else (none)) else (none)) else (some false)) else (some false))) else (some false))) = some true := by first | (rw [hy224]; with_reducible exact H) | (have H2_ := (Option.bind_some _ _).symm.trans H; rw [hy224]; with_reducible exact H2_) | (have H2_ := (Option.bind_some _ _).symm.trans H; with_reducible exact H2_) | with_reducible exact H | (rw [hy224]; exact H) | exact H
    have Ny224 := Aside0.mk hy224
    clear hy224
    replace H := Option.bind_eq_some_iff.mp H
    obtain ⟨⟨t227, t228, t229⟩, A160, H⟩ := H
    replace H : (if t227 = 0 then ((impl_ClockFault.f k1 t228 t229).bind fun t233 => (if t233 = 0 then (if (t229.length : Int) = 2 then (if 0 ≤ x221000_1 then (if x221000_1 < (x220001_1.length : Int) then (if x221000_1 < (t229.length : Int) then ((impl_MayLead.f x221000_1 x221001_1 x221002_1 x221003_1 (rd t229 x221000_1)).bind fun t236 => (if t236 = true then (if 0 ≤ (wrap64 (1 - x221000_1)) then (if (wrap64 (1 - x221000_1)) < (t229.length : Int) then ((impl_MayTake.f x221000_1 x221001_1 x221002_1 x221003_1 (rd t229 (wrap64 (1 - x221000_1)))).bind fun t238 => (laws_FnLeases.j3 k1 l0 x5_1 (rd x220001_1 x221000_1) x221000_1 t238 t228 t229 x221000_1 x221001_1 x221002_1 x221003_1)) else (none)) else (none)) else (laws_FnLeases.j3 k1 l0 x5_1 (rd x220001_1 x221000_1) x221000_1 false t228 t229 x221000_1 x221001_1 x221002_1 x221003_1))) else (none)) else (none)) else (none)) else (some false)) else (some false))) else (some false)) = some true := H
    have A16 := Aside0.mk A160
    clear A160
    by_cases c17 : t227 = 0
    ·
     rw [if_pos c17] at H
     have c17b0 : (t227 == 0) = true := beq_iff_eq.mpr c17
     have c17b1 : (t227 != 0) = false := bne_eq_false_iff_eq.mpr c17
     clear c17
     replace H := Option.bind_eq_some_iff.mp H
     obtain ⟨t233, A180, H⟩ := H
     replace H : (if t233 = 0 then (if (t229.length : Int) = 2 then (if 0 ≤ x221000_1 then (if x221000_1 < (x220001_1.length : Int) then (if x221000_1 < (t229.length : Int) then ((impl_MayLead.f x221000_1 x221001_1 x221002_1 x221003_1 (rd t229 x221000_1)).bind fun t236 => (if t236 = true then (if 0 ≤ (wrap64 (1 - x221000_1)) then (if (wrap64 (1 - x221000_1)) < (t229.length : Int) then ((impl_MayTake.f x221000_1 x221001_1 x221002_1 x221003_1 (rd t229 (wrap64 (1 - x221000_1)))).bind fun t238 => (laws_FnLeases.j3 k1 l0 x5_1 (rd x220001_1 x221000_1) x221000_1 t238 t228 t229 x221000_1 x221001_1 x221002_1 x221003_1)) else (none)) else (none)) else (laws_FnLeases.j3 k1 l0 x5_1 (rd x220001_1 x221000_1) x221000_1 false t228 t229 x221000_1 x221001_1 x221002_1 x221003_1))) else (none)) else (none)) else (none)) else (some false)) else (some false)) = some true := H
     have A18 := Aside0.mk A180
     clear A180
     by_cases c19 : t233 = 0
     ·
      rw [if_pos c19] at H
      have c19b0 : (t233 == 0) = true := beq_iff_eq.mpr c19
      have c19b1 : (t233 != 0) = false := bne_eq_false_iff_eq.mpr c19
      clear c19
      by_cases c20 : (t229.length : Int) = 2
      ·
       rw [if_pos c20] at H
       have c20b0 : ((t229.length : Int) == 2) = true := beq_iff_eq.mpr c20
       have c20b1 : ((t229.length : Int) != 2) = false := bne_eq_false_iff_eq.mpr c20
       clear c20
       by_cases c21 : 0 ≤ x221000_1
       ·
        rw [if_pos c21] at H
        have c21b0 : decide (0 ≤ x221000_1) = true := decide_eq_true c21
        clear c21
        by_cases c22 : x221000_1 < (x220001_1.length : Int)
        ·
         rw [if_pos c22] at H
         have c22b0 : decide (x221000_1 < (x220001_1.length : Int)) = true := decide_eq_true c22
         clear c22
         have HC23 := Aside0.mk H
         clear H
         obtain ⟨Ao24, co24, eo24⟩ := Kd.R_slice HO_220001.out
         subst eo24
         try go_wp2
         replace HO_220001 := am (Kd.R_drew HO_220001.out)
         replace BK219 := am (blk_drew BK219.out)
         replace BK220 := am (blk_drew BK220.out)
         replace HB := am (below_drew1 HB.out)
         refine start_ (n := 18) (S := fun w' => w'.cell? ⟨gb219, 0, none⟩ = some (.int .i64 x220000_1) ∧ w'.cell? ⟨gb219, 1, none⟩ = some (.slice Ao24 x220001_1.length co24)) (ds := []) #[false, false, false, false, false, false, false, false, false, false, false, false, false, false, false, false, false, false] (by kernel_rfl) rfl rfl ⟨(blk_cell BK219.out 0).trans rfl, (blk_cell BK219.out 1).trans rfl⟩ (fun hHeld => ?_); refine with_tabW laws_FnLeases.tab8 laws_FnLeases.bits8 (fun HT_ HW_ => ?_)
         generalize wr.drew = w25 at HO_220001 BK219 BK220 HB hHeld ⊢
         refine pA 1 23 [0, 1, 1, 16] ?_
         refine pA 2 24 [0, 1, 2, 15] ?_
         refine pA 4 26 [0, 1, 2, 1, 1, 13] ?_
         refine pA 5 27 [0, 1, 2, 1, 2, 12] ?_
         refine pA 6 28 [0, 1, 2, 1, 3, 11] ?_
         refine pA 9 31 [0, 1, 2, 1, 3, 2, 1, 8] ?_
         refine pA 10 32 [0, 1, 2, 1, 3, 2, 2, 7] ?_
         refine pA 11 33 [0, 1, 2, 1, 3, 2, 3, 6] ?_
         refine tA 0 22 [3, 1, 3, 2, 3, 6] (hv := by rintro w' ⟨s0, s1⟩; go_simp; with_reducible rfl) (h := ?_)
         refine join_ (σ := Value × Value × Nat) 1 #[true, true, true, true, true, true, true, true, true, true, true, true, true, true, true, true, true, false] (fun s_ => [(25, .int .i64 t221), (29, .int .i64 t222), (34, .int .i64 t223), (36, s_.1), (37, .agg #[.int .i64 t227, .int .i64 t228, s_.2.1]), (6, .pointer (some ⟨s_.2.2, 0, none⟩)), (30, .int .i64 (wrap64 (t222 - 2))), (35, .int .i64 (wrap64 (t223 - 2)))]) (fun s_ w' => (w'.cell? ⟨gb219, 0, none⟩ = some (.int .i64 x220000_1) ∧ w'.cell? ⟨gb219, 1, none⟩ = some (.slice Ao24 x220001_1.length co24)) ∧ (Kd.R (Kd.int .i64) 2 w' w.heap.size (fun k_ => some k_ ≠ (s_.2.1 : Value).ownBlock ∧ some k_ ≠ (.slice Ao24 x220001_1.length co24 : Value).ownBlock) s_.1 y224) ∧ (Kd.R (Kd.int .i64) 2 w' w.heap.size (fun k_ => some k_ ≠ (s_.1 : Value).ownBlock ∧ some k_ ≠ (.slice Ao24 x220001_1.length co24 : Value).ownBlock) s_.2.1 t229) ∧ (Kd.R (Kd.int .i64) 2 w' w.heap.size (fun k_ => some k_ ≠ (s_.1 : Value).ownBlock ∧ some k_ ≠ (s_.2.1 : Value).ownBlock) (.slice Ao24 x220001_1.length co24) x220001_1) ∧ (w'.heap[gb219]? = some (.cells #[.int .i64 x220000_1, .slice Ao24 x220001_1.length co24] 71 (0, 0))) ∧ (w'.heap[gb220]? = some (.cells #[.int .i64 x221000_1, .int .i64 x221001_1, .int .i64 x221002_1, .int .i64 x221003_1] 73 (0, 0))) ∧ (w'.heap[s_.2.2]? = some (.cells #[.int .i64 0, .int .i64 0, .slice none 0 0] 75 (0, 0))) ∧ (w.heap.size ≤ s_.2.2) ∧ (w.heap.size ≤ s_.2.2) ∧ (gb219 ≠ s_.2.2) ∧ (s_.2.2 ≠ gb219) ∧ (gb220 ≠ s_.2.2) ∧ (s_.2.2 ≠ gb220) ∧ (Below w.heap.size w w')) ?_ ?_
         rotate_left
         ·
          intro hJ3_7_12_14_15_16
          refine join_ (σ := Value × Value) 2 #[true, true, true, true, true, true, true, true, true, true, true, true, true, true, true, true, false, false] (fun s_ => [(25, .int .i64 t221), (29, .int .i64 t222), (34, .int .i64 t223), (36, s_.1), (37, .agg #[.int .i64 t227, .int .i64 t228, s_.2]), (30, .int .i64 (wrap64 (t222 - 2))), (35, .int .i64 (wrap64 (t223 - 2)))]) (fun s_ w' => (w'.cell? ⟨gb219, 0, none⟩ = some (.int .i64 x220000_1) ∧ w'.cell? ⟨gb219, 1, none⟩ = some (.slice Ao24 x220001_1.length co24)) ∧ (Kd.R (Kd.int .i64) 2 w' w.heap.size (fun k_ => some k_ ≠ (s_.2 : Value).ownBlock ∧ some k_ ≠ (.slice Ao24 x220001_1.length co24 : Value).ownBlock) s_.1 y224) ∧ (Kd.R (Kd.int .i64) 2 w' w.heap.size (fun k_ => some k_ ≠ (s_.1 : Value).ownBlock ∧ some k_ ≠ (.slice Ao24 x220001_1.length co24 : Value).ownBlock) s_.2 t229) ∧ (Kd.R (Kd.int .i64) 2 w' w.heap.size (fun k_ => some k_ ≠ (s_.1 : Value).ownBlock ∧ some k_ ≠ (s_.2 : Value).ownBlock) (.slice Ao24 x220001_1.length co24) x220001_1) ∧ (w'.heap[gb219]? = some (.cells #[.int .i64 x220000_1, .slice Ao24 x220001_1.length co24] 71 (0, 0))) ∧ (w'.heap[gb220]? = some (.cells #[.int .i64 x221000_1, .int .i64 x221001_1, .int .i64 x221002_1, .int .i64 x221003_1] 73 (0, 0))) ∧ (Below w.heap.size w w')) ?_ ?_
          rotate_left
          ·
           intro hJ3_7_12_14_15
           refine join_ (σ := Value × Nat) 2 #[true, true, true, true, true, true, true, true, true, true, true, true, true, true, true, false, true, false] (fun s_ => [(25, .int .i64 t221), (29, .int .i64 t222), (34, .int .i64 t223), (36, s_.1), (6, .pointer (some ⟨s_.2, 0, none⟩)), (30, .int .i64 (wrap64 (t222 - 2))), (35, .int .i64 (wrap64 (t223 - 2)))]) (fun s_ w' => (w'.cell? ⟨gb219, 0, none⟩ = some (.int .i64 x220000_1) ∧ w'.cell? ⟨gb219, 1, none⟩ = some (.slice Ao24 x220001_1.length co24)) ∧ (Kd.R (Kd.int .i64) 2 w' w.heap.size (fun k_ => some k_ ≠ (.slice Ao24 x220001_1.length co24 : Value).ownBlock) s_.1 y224) ∧ (Kd.R (Kd.int .i64) 2 w' w.heap.size (fun k_ => some k_ ≠ (s_.1 : Value).ownBlock) (.slice Ao24 x220001_1.length co24) x220001_1) ∧ (w'.heap[gb219]? = some (.cells #[.int .i64 x220000_1, .slice Ao24 x220001_1.length co24] 71 (0, 0))) ∧ (w'.heap[gb220]? = some (.cells #[.int .i64 x221000_1, .int .i64 x221001_1, .int .i64 x221002_1, .int .i64 x221003_1] 73 (0, 0))) ∧ (w'.heap[s_.2]? = some (.cells #[.int .i64 0, .int .i64 0, .slice none 0 0] 75 (0, 0))) ∧ (w.heap.size ≤ s_.2) ∧ (w.heap.size ≤ s_.2) ∧ (gb219 ≠ s_.2) ∧ (s_.2 ≠ gb219) ∧ (gb220 ≠ s_.2) ∧ (s_.2 ≠ gb220) ∧ (Below w.heap.size w w')) ?_ ?_
           rotate_left
           ·
            intro hJ3_7_12_14_16
            refine join_ (σ := Value) 3 #[true, true, true, true, true, true, true, true, true, true, true, true, true, true, true, false, false, false] (fun s_ => [(25, .int .i64 t221), (29, .int .i64 t222), (34, .int .i64 t223), (36, s_), (30, .int .i64 (wrap64 (t222 - 2))), (35, .int .i64 (wrap64 (t223 - 2)))]) (fun s_ w' => (w'.cell? ⟨gb219, 0, none⟩ = some (.int .i64 x220000_1) ∧ w'.cell? ⟨gb219, 1, none⟩ = some (.slice Ao24 x220001_1.length co24)) ∧ (Kd.R (Kd.int .i64) 2 w' w.heap.size (fun k_ => some k_ ≠ (.slice Ao24 x220001_1.length co24 : Value).ownBlock) s_ y224) ∧ (Kd.R (Kd.int .i64) 2 w' w.heap.size (fun k_ => some k_ ≠ (s_ : Value).ownBlock) (.slice Ao24 x220001_1.length co24) x220001_1) ∧ (w'.heap[gb219]? = some (.cells #[.int .i64 x220000_1, .slice Ao24 x220001_1.length co24] 71 (0, 0))) ∧ (w'.heap[gb220]? = some (.cells #[.int .i64 x221000_1, .int .i64 x221001_1, .int .i64 x221002_1, .int .i64 x221003_1] 73 (0, 0))) ∧ (Below w.heap.size w w')) ?_ ?_
            rotate_left
            ·
             intro hJ3_7_12_14
             refine join_ (σ := Nat) 3 #[true, true, true, true, true, true, true, true, true, true, true, true, true, true, false, false, true, false] (fun s_ => [(25, .int .i64 t221), (29, .int .i64 t222), (34, .int .i64 t223), (6, .pointer (some ⟨s_, 0, none⟩)), (30, .int .i64 (wrap64 (t222 - 2))), (35, .int .i64 (wrap64 (t223 - 2)))]) (fun s_ w' => (w'.cell? ⟨gb219, 0, none⟩ = some (.int .i64 x220000_1) ∧ w'.cell? ⟨gb219, 1, none⟩ = some (.slice Ao24 x220001_1.length co24)) ∧ (Kd.R (Kd.int .i64) 2 w' w.heap.size (fun _ => True) (.slice Ao24 x220001_1.length co24) x220001_1) ∧ (w'.heap[gb219]? = some (.cells #[.int .i64 x220000_1, .slice Ao24 x220001_1.length co24] 71 (0, 0))) ∧ (w'.heap[gb220]? = some (.cells #[.int .i64 x221000_1, .int .i64 x221001_1, .int .i64 x221002_1, .int .i64 x221003_1] 73 (0, 0))) ∧ (w'.heap[s_]? = some (.cells #[.int .i64 0, .int .i64 0, .slice none 0 0] 75 (0, 0))) ∧ (w.heap.size ≤ s_) ∧ (w.heap.size ≤ s_) ∧ (gb219 ≠ s_) ∧ (s_ ≠ gb219) ∧ (gb220 ≠ s_) ∧ (s_ ≠ gb220) ∧ (Below w.heap.size w w')) ?_ ?_
             rotate_left
             ·
              intro hJ3_7_12_16
              refine join_ (σ := Unit) 4 #[true, true, true, true, true, true, true, true, true, true, true, true, true, true, false, false, false, false] (fun s_ => [(25, .int .i64 t221), (29, .int .i64 t222), (34, .int .i64 t223), (30, .int .i64 (wrap64 (t222 - 2))), (35, .int .i64 (wrap64 (t223 - 2)))]) (fun s_ w' => (w'.cell? ⟨gb219, 0, none⟩ = some (.int .i64 x220000_1) ∧ w'.cell? ⟨gb219, 1, none⟩ = some (.slice Ao24 x220001_1.length co24)) ∧ (Kd.R (Kd.int .i64) 2 w' w.heap.size (fun _ => True) (.slice Ao24 x220001_1.length co24) x220001_1) ∧ (w'.heap[gb219]? = some (.cells #[.int .i64 x220000_1, .slice Ao24 x220001_1.length co24] 71 (0, 0))) ∧ (w'.heap[gb220]? = some (.cells #[.int .i64 x221000_1, .int .i64 x221001_1, .int .i64 x221002_1, .int .i64 x221003_1] 73 (0, 0))) ∧ (Below w.heap.size w w')) ?_ ?_
              rotate_left
              ·
               intro hJ3_7_12
               refine join_ (σ := Nat) 5 #[true, true, true, true, true, true, true, true, true, true, true, true, false, false, false, false, true, false] (fun s_ => [(25, .int .i64 t221), (29, .int .i64 t222), (6, .pointer (some ⟨s_, 0, none⟩)), (30, .int .i64 (wrap64 (t222 - 2)))]) (fun s_ w' => (w'.cell? ⟨gb219, 0, none⟩ = some (.int .i64 x220000_1) ∧ w'.cell? ⟨gb219, 1, none⟩ = some (.slice Ao24 x220001_1.length co24)) ∧ (Kd.R (Kd.int .i64) 2 w' w.heap.size (fun _ => True) (.slice Ao24 x220001_1.length co24) x220001_1) ∧ (w'.heap[gb219]? = some (.cells #[.int .i64 x220000_1, .slice Ao24 x220001_1.length co24] 71 (0, 0))) ∧ (w'.heap[gb220]? = some (.cells #[.int .i64 x221000_1, .int .i64 x221001_1, .int .i64 x221002_1, .int .i64 x221003_1] 73 (0, 0))) ∧ (w'.heap[s_]? = some (.cells #[.int .i64 0, .int .i64 0, .slice none 0 0] 75 (0, 0))) ∧ (w.heap.size ≤ s_) ∧ (w.heap.size ≤ s_) ∧ (gb219 ≠ s_) ∧ (s_ ≠ gb219) ∧ (gb220 ≠ s_) ∧ (s_ ≠ gb220) ∧ (Below w.heap.size w w')) ?_ ?_
               rotate_left
               ·
                intro hJ3_7_16
                refine join_ (σ := Unit) 6 #[true, true, true, true, true, true, true, true, true, true, true, true, false, false, false, false, false, false] (fun s_ => [(25, .int .i64 t221), (29, .int .i64 t222), (30, .int .i64 (wrap64 (t222 - 2)))]) (fun s_ w' => (w'.cell? ⟨gb219, 0, none⟩ = some (.int .i64 x220000_1) ∧ w'.cell? ⟨gb219, 1, none⟩ = some (.slice Ao24 x220001_1.length co24)) ∧ (Kd.R (Kd.int .i64) 2 w' w.heap.size (fun _ => True) (.slice Ao24 x220001_1.length co24) x220001_1) ∧ (w'.heap[gb219]? = some (.cells #[.int .i64 x220000_1, .slice Ao24 x220001_1.length co24] 71 (0, 0))) ∧ (w'.heap[gb220]? = some (.cells #[.int .i64 x221000_1, .int .i64 x221001_1, .int .i64 x221002_1, .int .i64 x221003_1] 73 (0, 0))) ∧ (Below w.heap.size w w')) ?_ ?_
                rotate_left
                ·
                 intro hJ3_7
                 refine join_ (σ := Nat) 7 #[true, true, true, true, true, true, true, false, false, true, true, true, false, false, false, false, true, false] (fun s_ => [(25, .int .i64 t221), (6, .pointer (some ⟨s_, 0, none⟩))]) (fun s_ w' => (w'.cell? ⟨gb219, 0, none⟩ = some (.int .i64 x220000_1) ∧ w'.cell? ⟨gb219, 1, none⟩ = some (.slice Ao24 x220001_1.length co24)) ∧ (Kd.R (Kd.int .i64) 2 w' w.heap.size (fun _ => True) (.slice Ao24 x220001_1.length co24) x220001_1) ∧ (w'.heap[gb219]? = some (.cells #[.int .i64 x220000_1, .slice Ao24 x220001_1.length co24] 71 (0, 0))) ∧ (w'.heap[gb220]? = some (.cells #[.int .i64 x221000_1, .int .i64 x221001_1, .int .i64 x221002_1, .int .i64 x221003_1] 73 (0, 0))) ∧ (w'.heap[s_]? = some (.cells #[.int .i64 0, .int .i64 0, .slice none 0 0] 75 (0, 0))) ∧ (w.heap.size ≤ s_) ∧ (w.heap.size ≤ s_) ∧ (gb219 ≠ s_) ∧ (s_ ≠ gb219) ∧ (gb220 ≠ s_) ∧ (s_ ≠ gb220) ∧ (Below w.heap.size w w')) ?_ ?_
                 rotate_left
                 ·
                  intro hJ3_16
                  refine join_ (σ := Unit) 8 #[true, true, true, true, true, true, true, false, false, true, true, true, false, false, false, false, false, false] (fun s_ => [(25, .int .i64 t221)]) (fun s_ w' => (w'.cell? ⟨gb219, 0, none⟩ = some (.int .i64 x220000_1) ∧ w'.cell? ⟨gb219, 1, none⟩ = some (.slice Ao24 x220001_1.length co24)) ∧ (Kd.R (Kd.int .i64) 2 w' w.heap.size (fun _ => True) (.slice Ao24 x220001_1.length co24) x220001_1) ∧ (w'.heap[gb219]? = some (.cells #[.int .i64 x220000_1, .slice Ao24 x220001_1.length co24] 71 (0, 0))) ∧ (w'.heap[gb220]? = some (.cells #[.int .i64 x221000_1, .int .i64 x221001_1, .int .i64 x221002_1, .int .i64 x221003_1] 73 (0, 0))) ∧ (Below w.heap.size w w')) ?_ ?_
                  rotate_left
                  ·
                   intro hJ3
                   refine join_ (σ := Nat) 8 #[true, true, true, false, true, true, true, false, false, true, true, true, false, false, false, false, true, false] (fun s_ => [(6, .pointer (some ⟨s_, 0, none⟩))]) (fun s_ w' => (w'.cell? ⟨gb219, 0, none⟩ = some (.int .i64 x220000_1) ∧ w'.cell? ⟨gb219, 1, none⟩ = some (.slice Ao24 x220001_1.length co24)) ∧ (Kd.R (Kd.int .i64) 2 w' w.heap.size (fun _ => True) (.slice Ao24 x220001_1.length co24) x220001_1) ∧ (w'.heap[gb219]? = some (.cells #[.int .i64 x220000_1, .slice Ao24 x220001_1.length co24] 71 (0, 0))) ∧ (w'.heap[gb220]? = some (.cells #[.int .i64 x221000_1, .int .i64 x221001_1, .int .i64 x221002_1, .int .i64 x221003_1] 73 (0, 0))) ∧ (w'.heap[s_]? = some (.cells #[.int .i64 0, .int .i64 0, .slice none 0 0] 75 (0, 0))) ∧ (w.heap.size ≤ s_) ∧ (w.heap.size ≤ s_) ∧ (gb219 ≠ s_) ∧ (s_ ≠ gb219) ∧ (gb220 ≠ s_) ∧ (s_ ≠ gb220) ∧ (Below w.heap.size w w')) ?_ ?_
                   rotate_left
                   ·
                    intro hJ16
                    refine two_ (i := 3) (j := 16) (Ni := some 25) (Nj := some 6) (tr [7, 2, 3, 6]) (tr [3, 1, 3, 2, 3, 4, 1, 1]) rfl rfl rfl rfl (two_of HT_.out (by kernel_rfl)) (by decide) (by decide) (fun K hK => ?_) (fun K hK => ?_)
                    ·
                     skip
                     refine goes_ Try.func41 (by kernel_rfl) rfl #[.slice A0 l0.length c0, .int .i64 x5_1, .int .i64 6] (by rfl) rfl rfl (by (try simp only [List.map_toArray, List.map_cons, List.map_nil]); first | done | rfl | (simp only [List.length_drop, List.length_take]; rfl)) ?_
                     with_reducible refine (laws_lwAt.calls _ _ l0 x5_1 6 t221 _ ?side1 ?side2 A13.out).mono ?_
                     (case side1 => exact mC HR0 HB)
                     (case side2 => exact HC0.out)
                     rintro e w' ⟨rfl, ⟨nd, rfl⟩⟩
                     refine ⟨_, rfl, ?_⟩
                     refine hK.out _ _ (ce2 BK219) (fun hHeld => ?_)
                     clear hK K
                     refine norm_ (a' := ?_) ?_ ?_
                     rotate_left
                     ·
                      show Act.put _ (some 25) _ = _
                      simp only [Act.put, List.setIfInBounds_toArray, List.set_cons_zero, List.set_cons_succ, i64_w, i32_w]
                      rfl
                     exact norm_ (by first | (simp only [putAll, Act.put, List.setIfInBounds_toArray, List.set_cons_zero, List.set_cons_succ]; done) | (simp only [putAll, Act.put, List.setIfInBounds_toArray, List.set_cons_zero, List.set_cons_succ]; rfl)) (hJ3 () _ ⟨hHeld, (mR HO_220001), (mB BK219), (mB BK220), (bel HB)⟩)
                    skip
                    refine box_step ?hg (N := 6) ?hd (cs := #[.int .i64 0, .int .i64 0, .slice none 0 0]) (t := 75) ?hr ?_; (case hd => rfl); (case hg => rfl); (case hr => first | (go_simp; done) | (go_simp; rfl))
                    intro gb232 hg w26 hbox hb
                    replace HO_220001 := am (Kd.R_below (mR HO_220001) hb)
                    have BK232 := am (hbox)
                    have GW232 := gZ HB hg
                    have GE232 := gZ HB hg
                    replace HB := bS HB hb
                    have NB219_232 := nL BK219 hg
                    have NB232_219 := nG BK219 hg
                    replace BK219 := bK BK219 hb
                    have NB220_232 := nL BK220 hg
                    have NB232_220 := nG BK220 hg
                    replace BK220 := bK BK220 hb
                    clear hb hbox hg
                    refine hK.out _ _ (ce2 BK219) (fun hHeld => ?_)
                    clear hK K
                    refine norm_ (a' := ?_) ?_ ?_
                    rotate_left
                    ·
                     show Act.put _ (some 6) _ = _
                     simp only [Act.put, List.setIfInBounds_toArray, List.set_cons_zero, List.set_cons_succ, i64_w, i32_w]
                     rfl
                    exact norm_ (by first | (simp only [putAll, Act.put, List.setIfInBounds_toArray, List.set_cons_zero, List.set_cons_succ]; done) | (simp only [putAll, Act.put, List.setIfInBounds_toArray, List.set_cons_zero, List.set_cons_succ]; rfl)) (hJ16 (gb232) _ ⟨hHeld, (mR HO_220001), (mB BK219), (mB BK220), (mB BK232), GW232.out, GE232.out, NB219_232.out, NB232_219.out, NB220_232.out, NB232_220.out, (bel HB)⟩)
                   skip
                   rintro gb232 w27 ⟨hS_, h0_, h1_, h2_, h3_, h4_, h5_, h6_, h7_, h8_, h9_, h10_⟩
                   have n0_ : Aside0 (Kd.R (Kd.int .i64) 2 w27 w.heap.size (fun _ => True) (.slice Ao24 x220001_1.length co24) x220001_1) := ⟨h0_⟩
                   have n1_ : Aside0 (w27.heap[gb219]? = some (.cells #[.int .i64 x220000_1, .slice Ao24 x220001_1.length co24] 71 (0, 0))) := ⟨h1_⟩
                   have n2_ : Aside0 (w27.heap[gb220]? = some (.cells #[.int .i64 x221000_1, .int .i64 x221001_1, .int .i64 x221002_1, .int .i64 x221003_1] 73 (0, 0))) := ⟨h2_⟩
                   have n3_ : Aside0 (w27.heap[gb232]? = some (.cells #[.int .i64 0, .int .i64 0, .slice none 0 0] 75 (0, 0))) := ⟨h3_⟩
                   have n4_ : Aside0 (w.heap.size ≤ gb232) := ⟨h4_⟩
                   have n5_ : Aside0 (w.heap.size ≤ gb232) := ⟨h5_⟩
                   have n6_ : Aside0 (gb219 ≠ gb232) := ⟨h6_⟩
                   have n7_ : Aside0 (gb232 ≠ gb219) := ⟨h7_⟩
                   have n8_ : Aside0 (gb220 ≠ gb232) := ⟨h8_⟩
                   have n9_ : Aside0 (gb232 ≠ gb220) := ⟨h9_⟩
                   have n10_ : Aside0 (Below w.heap.size w w27) := ⟨h10_⟩
                   clear HO_220001
                   clear BK219
                   clear BK220
                   clear HB
                   clear h0_ h1_ h2_ h3_ h4_ h5_ h6_ h7_ h8_ h9_ h10_
                   have HO_220001 := n0_
                   have BK219 := n1_
                   have BK220 := n2_
                   have BK232 := n3_
                   have GW232 := n4_
                   have GE232 := n5_
                   have NB219_232 := n6_
                   have NB232_219 := n7_
                   have NB220_232 := n8_
                   have NB232_220 := n9_
                   have HB := n10_
                   clear n0_ n1_ n2_ n3_ n4_ n5_ n6_ n7_ n8_ n9_ n10_
                   have hHeld : w27.cell? ⟨gb219, 0, none⟩ = some (.int .i64 x220000_1) ∧ w27.cell? ⟨gb219, 1, none⟩ = some (.slice Ao24 x220001_1.length co24) := hS_
                   refine norm_ (a' := ?_) ?_ ?_
                   rotate_left
                   ·
                    simp only [putAll, Act.put, List.setIfInBounds_toArray, List.set_cons_zero, List.set_cons_succ]
                    rfl
                   refine one_ (i := 3) (N := some 25) (tr [7, 2, 3, 4, 1, 1]) rfl rfl (one_of HT_.out (by kernel_rfl)) (by decide) (fun K hK => ?_)
                   refine goes_ Try.func41 (by kernel_rfl) rfl #[.slice A0 l0.length c0, .int .i64 x5_1, .int .i64 6] (by rfl) rfl rfl (by (try simp only [List.map_toArray, List.map_cons, List.map_nil]); first | done | rfl | (simp only [List.length_drop, List.length_take]; rfl)) ?_
                   with_reducible refine (laws_lwAt.calls _ _ l0 x5_1 6 t221 _ ?side1 ?side2 A13.out).mono ?_
                   (case side1 => exact mC HR0 HB)
                   (case side2 => exact HC0.out)
                   rintro e w' ⟨rfl, ⟨nd, rfl⟩⟩
                   refine ⟨_, rfl, ?_⟩
                   refine hK.out _ _ (ce2 BK219) (fun hHeld => ?_)
                   clear hK K
                   refine norm_ (a' := ?_) ?_ ?_
                   rotate_left
                   ·
                    show Act.put _ (some 25) _ = _
                    simp only [Act.put, List.setIfInBounds_toArray, List.set_cons_zero, List.set_cons_succ, i64_w, i32_w]
                    rfl
                   exact norm_ (by first | (simp only [putAll, Act.put, List.setIfInBounds_toArray, List.set_cons_zero, List.set_cons_succ]; done) | (simp only [putAll, Act.put, List.setIfInBounds_toArray, List.set_cons_zero, List.set_cons_succ]; rfl)) (hJ3_16 (gb232) _ ⟨hHeld, (mR HO_220001), (mB BK219), (mB BK220), (mB BK232), GW232.out, GE232.out, NB219_232.out, NB232_219.out, NB220_232.out, NB232_220.out, (bel HB)⟩)
                  skip
                  rintro _ w26 ⟨hS_, h0_, h1_, h2_, h3_⟩
                  have n0_ : Aside0 (Kd.R (Kd.int .i64) 2 w26 w.heap.size (fun _ => True) (.slice Ao24 x220001_1.length co24) x220001_1) := ⟨h0_⟩
                  have n1_ : Aside0 (w26.heap[gb219]? = some (.cells #[.int .i64 x220000_1, .slice Ao24 x220001_1.length co24] 71 (0, 0))) := ⟨h1_⟩
                  have n2_ : Aside0 (w26.heap[gb220]? = some (.cells #[.int .i64 x221000_1, .int .i64 x221001_1, .int .i64 x221002_1, .int .i64 x221003_1] 73 (0, 0))) := ⟨h2_⟩
                  have n3_ : Aside0 (Below w.heap.size w w26) := ⟨h3_⟩
                  clear HO_220001
                  clear BK219
                  clear BK220
                  clear HB
                  clear h0_ h1_ h2_ h3_
                  have HO_220001 := n0_
                  have BK219 := n1_
                  have BK220 := n2_
                  have HB := n3_
                  clear n0_ n1_ n2_ n3_
                  have hHeld : w26.cell? ⟨gb219, 0, none⟩ = some (.int .i64 x220000_1) ∧ w26.cell? ⟨gb219, 1, none⟩ = some (.slice Ao24 x220001_1.length co24) := hS_
                  refine norm_ (a' := ?_) ?_ ?_
                  rotate_left
                  ·
                   simp only [putAll, Act.put, List.setIfInBounds_toArray, List.set_cons_zero, List.set_cons_succ]
                   rfl
                  refine two_ (i := 7) (j := 16) (Ni := some 29) (Nj := some 6) (tr [8, 1, 3, 6]) (tr [7, 2, 3, 4, 1, 1]) rfl rfl rfl rfl (two_of HT_.out (by kernel_rfl)) (by decide) (by decide) (fun K hK => ?_) (fun K hK => ?_)
                  ·
                   skip
                   refine goes_ Try.func41 (by kernel_rfl) rfl #[.slice A0 l0.length c0, .int .i64 (wrap64 (x5_1 + 40)), .int .i64 5] (by rfl) rfl rfl (by (try simp only [List.map_toArray, List.map_cons, List.map_nil]); first | done | rfl | (simp only [List.length_drop, List.length_take]; rfl)) ?_
                   with_reducible refine (laws_lwAt.calls _ _ l0 (wrap64 (x5_1 + 40)) 5 t222 _ ?side1 ?side2 A14.out).mono ?_
                   (case side1 => exact mC HR0 HB)
                   (case side2 => exact HC0.out)
                   rintro e w' ⟨rfl, ⟨nd, rfl⟩⟩
                   refine ⟨_, rfl, ?_⟩
                   refine hK.out _ _ (ce2 BK219) (fun hHeld => ?_)
                   clear hK K
                   refine norm_ (a' := ?_) ?_ ?_
                   rotate_left
                   ·
                    show Act.put _ (some 29) _ = _
                    simp only [Act.put, List.setIfInBounds_toArray, List.set_cons_zero, List.set_cons_succ, i64_w, i32_w]
                    rfl
                   refine pA 8 30 [12, 6] ?_
                   exact norm_ (by first | (simp only [putAll, Act.put, List.setIfInBounds_toArray, List.set_cons_zero, List.set_cons_succ]; done) | (simp only [putAll, Act.put, List.setIfInBounds_toArray, List.set_cons_zero, List.set_cons_succ]; rfl)) (hJ3_7 () _ ⟨hHeld, (mR HO_220001), (mB BK219), (mB BK220), (bel HB)⟩)
                  skip
                  refine box_step ?hg (N := 6) ?hd (cs := #[.int .i64 0, .int .i64 0, .slice none 0 0]) (t := 75) ?hr ?_; (case hd => rfl); (case hg => rfl); (case hr => first | (go_simp; done) | (go_simp; rfl))
                  intro gb232 hg w27 hbox hb
                  replace HO_220001 := am (Kd.R_below (mR HO_220001) hb)
                  have BK232 := am (hbox)
                  have GW232 := gZ HB hg
                  have GE232 := gZ HB hg
                  replace HB := bS HB hb
                  have NB219_232 := nL BK219 hg
                  have NB232_219 := nG BK219 hg
                  replace BK219 := bK BK219 hb
                  have NB220_232 := nL BK220 hg
                  have NB232_220 := nG BK220 hg
                  replace BK220 := bK BK220 hb
                  clear hb hbox hg
                  refine hK.out _ _ (ce2 BK219) (fun hHeld => ?_)
                  clear hK K
                  refine norm_ (a' := ?_) ?_ ?_
                  rotate_left
                  ·
                   show Act.put _ (some 6) _ = _
                   simp only [Act.put, List.setIfInBounds_toArray, List.set_cons_zero, List.set_cons_succ, i64_w, i32_w]
                   rfl
                  exact norm_ (by first | (simp only [putAll, Act.put, List.setIfInBounds_toArray, List.set_cons_zero, List.set_cons_succ]; done) | (simp only [putAll, Act.put, List.setIfInBounds_toArray, List.set_cons_zero, List.set_cons_succ]; rfl)) (hJ3_16 (gb232) _ ⟨hHeld, (mR HO_220001), (mB BK219), (mB BK220), (mB BK232), GW232.out, GE232.out, NB219_232.out, NB232_219.out, NB220_232.out, NB232_220.out, (bel HB)⟩)
                 skip
                 rintro gb232 w27 ⟨hS_, h0_, h1_, h2_, h3_, h4_, h5_, h6_, h7_, h8_, h9_, h10_⟩
                 have n0_ : Aside0 (Kd.R (Kd.int .i64) 2 w27 w.heap.size (fun _ => True) (.slice Ao24 x220001_1.length co24) x220001_1) := ⟨h0_⟩
                 have n1_ : Aside0 (w27.heap[gb219]? = some (.cells #[.int .i64 x220000_1, .slice Ao24 x220001_1.length co24] 71 (0, 0))) := ⟨h1_⟩
                 have n2_ : Aside0 (w27.heap[gb220]? = some (.cells #[.int .i64 x221000_1, .int .i64 x221001_1, .int .i64 x221002_1, .int .i64 x221003_1] 73 (0, 0))) := ⟨h2_⟩
                 have n3_ : Aside0 (w27.heap[gb232]? = some (.cells #[.int .i64 0, .int .i64 0, .slice none 0 0] 75 (0, 0))) := ⟨h3_⟩
                 have n4_ : Aside0 (w.heap.size ≤ gb232) := ⟨h4_⟩
                 have n5_ : Aside0 (w.heap.size ≤ gb232) := ⟨h5_⟩
                 have n6_ : Aside0 (gb219 ≠ gb232) := ⟨h6_⟩
                 have n7_ : Aside0 (gb232 ≠ gb219) := ⟨h7_⟩
                 have n8_ : Aside0 (gb220 ≠ gb232) := ⟨h8_⟩
                 have n9_ : Aside0 (gb232 ≠ gb220) := ⟨h9_⟩
                 have n10_ : Aside0 (Below w.heap.size w w27) := ⟨h10_⟩
                 clear HO_220001
                 clear BK219
                 clear BK220
                 clear HB
                 clear h0_ h1_ h2_ h3_ h4_ h5_ h6_ h7_ h8_ h9_ h10_
                 have HO_220001 := n0_
                 have BK219 := n1_
                 have BK220 := n2_
                 have BK232 := n3_
                 have GW232 := n4_
                 have GE232 := n5_
                 have NB219_232 := n6_
                 have NB232_219 := n7_
                 have NB220_232 := n8_
                 have NB232_220 := n9_
                 have HB := n10_
                 clear n0_ n1_ n2_ n3_ n4_ n5_ n6_ n7_ n8_ n9_ n10_
                 have hHeld : w27.cell? ⟨gb219, 0, none⟩ = some (.int .i64 x220000_1) ∧ w27.cell? ⟨gb219, 1, none⟩ = some (.slice Ao24 x220001_1.length co24) := hS_
                 refine norm_ (a' := ?_) ?_ ?_
                 rotate_left
                 ·
                  simp only [putAll, Act.put, List.setIfInBounds_toArray, List.set_cons_zero, List.set_cons_succ]
                  rfl
                 refine one_ (i := 7) (N := some 29) (tr [8, 1, 3, 4, 1, 1]) rfl rfl (one_of HT_.out (by kernel_rfl)) (by decide) (fun K hK => ?_)
                 refine goes_ Try.func41 (by kernel_rfl) rfl #[.slice A0 l0.length c0, .int .i64 (wrap64 (x5_1 + 40)), .int .i64 5] (by rfl) rfl rfl (by (try simp only [List.map_toArray, List.map_cons, List.map_nil]); first | done | rfl | (simp only [List.length_drop, List.length_take]; rfl)) ?_
                 with_reducible refine (laws_lwAt.calls _ _ l0 (wrap64 (x5_1 + 40)) 5 t222 _ ?side1 ?side2 A14.out).mono ?_
                 (case side1 => exact mC HR0 HB)
                 (case side2 => exact HC0.out)
                 rintro e w' ⟨rfl, ⟨nd, rfl⟩⟩
                 refine ⟨_, rfl, ?_⟩
                 refine hK.out _ _ (ce2 BK219) (fun hHeld => ?_)
                 clear hK K
                 refine norm_ (a' := ?_) ?_ ?_
                 rotate_left
                 ·
                  show Act.put _ (some 29) _ = _
                  simp only [Act.put, List.setIfInBounds_toArray, List.set_cons_zero, List.set_cons_succ, i64_w, i32_w]
                  rfl
                 refine pA 8 30 [12, 4, 1, 1] ?_
                 exact norm_ (by first | (simp only [putAll, Act.put, List.setIfInBounds_toArray, List.set_cons_zero, List.set_cons_succ]; done) | (simp only [putAll, Act.put, List.setIfInBounds_toArray, List.set_cons_zero, List.set_cons_succ]; rfl)) (hJ3_7_16 (gb232) _ ⟨hHeld, (mR HO_220001), (mB BK219), (mB BK220), (mB BK232), GW232.out, GE232.out, NB219_232.out, NB232_219.out, NB220_232.out, NB232_220.out, (bel HB)⟩)
                skip
                rintro _ w26 ⟨hS_, h0_, h1_, h2_, h3_⟩
                have n0_ : Aside0 (Kd.R (Kd.int .i64) 2 w26 w.heap.size (fun _ => True) (.slice Ao24 x220001_1.length co24) x220001_1) := ⟨h0_⟩
                have n1_ : Aside0 (w26.heap[gb219]? = some (.cells #[.int .i64 x220000_1, .slice Ao24 x220001_1.length co24] 71 (0, 0))) := ⟨h1_⟩
                have n2_ : Aside0 (w26.heap[gb220]? = some (.cells #[.int .i64 x221000_1, .int .i64 x221001_1, .int .i64 x221002_1, .int .i64 x221003_1] 73 (0, 0))) := ⟨h2_⟩
                have n3_ : Aside0 (Below w.heap.size w w26) := ⟨h3_⟩
                clear HO_220001
                clear BK219
                clear BK220
                clear HB
                clear h0_ h1_ h2_ h3_
                have HO_220001 := n0_
                have BK219 := n1_
                have BK220 := n2_
                have HB := n3_
                clear n0_ n1_ n2_ n3_
                have hHeld : w26.cell? ⟨gb219, 0, none⟩ = some (.int .i64 x220000_1) ∧ w26.cell? ⟨gb219, 1, none⟩ = some (.slice Ao24 x220001_1.length co24) := hS_
                refine norm_ (a' := ?_) ?_ ?_
                rotate_left
                ·
                 simp only [putAll, Act.put, List.setIfInBounds_toArray, List.set_cons_zero, List.set_cons_succ]
                 rfl
                refine two_ (i := 12) (j := 16) (Ni := some 34) (Nj := some 6) (tr [13, 5]) (tr [12, 4, 1, 1]) rfl rfl rfl rfl (two_of HT_.out (by kernel_rfl)) (by decide) (by decide) (fun K hK => ?_) (fun K hK => ?_)
                ·
                 skip
                 refine goes_ Try.func41 (by kernel_rfl) rfl #[.slice A0 l0.length c0, .int .i64 (wrap64 (x5_1 + 80)), .int .i64 5] (by rfl) rfl rfl (by (try simp only [List.map_toArray, List.map_cons, List.map_nil]); first | done | rfl | (simp only [List.length_drop, List.length_take]; rfl)) ?_
                 with_reducible refine (laws_lwAt.calls _ _ l0 (wrap64 (x5_1 + 80)) 5 t223 _ ?side1 ?side2 A15.out).mono ?_
                 (case side1 => exact mC HR0 HB)
                 (case side2 => exact HC0.out)
                 rintro e w' ⟨rfl, ⟨nd, rfl⟩⟩
                 refine ⟨_, rfl, ?_⟩
                 refine hK.out _ _ (ce2 BK219) (fun hHeld => ?_)
                 clear hK K
                 refine norm_ (a' := ?_) ?_ ?_
                 rotate_left
                 ·
                  show Act.put _ (some 34) _ = _
                  simp only [Act.put, List.setIfInBounds_toArray, List.set_cons_zero, List.set_cons_succ, i64_w, i32_w]
                  rfl
                 refine pA 13 35 [14, 4] ?_
                 exact norm_ (by first | (simp only [putAll, Act.put, List.setIfInBounds_toArray, List.set_cons_zero, List.set_cons_succ]; done) | (simp only [putAll, Act.put, List.setIfInBounds_toArray, List.set_cons_zero, List.set_cons_succ]; rfl)) (hJ3_7_12 () _ ⟨hHeld, (mR HO_220001), (mB BK219), (mB BK220), (bel HB)⟩)
                skip
                refine box_step ?hg (N := 6) ?hd (cs := #[.int .i64 0, .int .i64 0, .slice none 0 0]) (t := 75) ?hr ?_; (case hd => rfl); (case hg => rfl); (case hr => first | (go_simp; done) | (go_simp; rfl))
                intro gb232 hg w27 hbox hb
                replace HO_220001 := am (Kd.R_below (mR HO_220001) hb)
                have BK232 := am (hbox)
                have GW232 := gZ HB hg
                have GE232 := gZ HB hg
                replace HB := bS HB hb
                have NB219_232 := nL BK219 hg
                have NB232_219 := nG BK219 hg
                replace BK219 := bK BK219 hb
                have NB220_232 := nL BK220 hg
                have NB232_220 := nG BK220 hg
                replace BK220 := bK BK220 hb
                clear hb hbox hg
                refine hK.out _ _ (ce2 BK219) (fun hHeld => ?_)
                clear hK K
                refine norm_ (a' := ?_) ?_ ?_
                rotate_left
                ·
                 show Act.put _ (some 6) _ = _
                 simp only [Act.put, List.setIfInBounds_toArray, List.set_cons_zero, List.set_cons_succ, i64_w, i32_w]
                 rfl
                exact norm_ (by first | (simp only [putAll, Act.put, List.setIfInBounds_toArray, List.set_cons_zero, List.set_cons_succ]; done) | (simp only [putAll, Act.put, List.setIfInBounds_toArray, List.set_cons_zero, List.set_cons_succ]; rfl)) (hJ3_7_16 (gb232) _ ⟨hHeld, (mR HO_220001), (mB BK219), (mB BK220), (mB BK232), GW232.out, GE232.out, NB219_232.out, NB232_219.out, NB220_232.out, NB232_220.out, (bel HB)⟩)
               skip
               rintro gb232 w27 ⟨hS_, h0_, h1_, h2_, h3_, h4_, h5_, h6_, h7_, h8_, h9_, h10_⟩
               have n0_ : Aside0 (Kd.R (Kd.int .i64) 2 w27 w.heap.size (fun _ => True) (.slice Ao24 x220001_1.length co24) x220001_1) := ⟨h0_⟩
               have n1_ : Aside0 (w27.heap[gb219]? = some (.cells #[.int .i64 x220000_1, .slice Ao24 x220001_1.length co24] 71 (0, 0))) := ⟨h1_⟩
               have n2_ : Aside0 (w27.heap[gb220]? = some (.cells #[.int .i64 x221000_1, .int .i64 x221001_1, .int .i64 x221002_1, .int .i64 x221003_1] 73 (0, 0))) := ⟨h2_⟩
               have n3_ : Aside0 (w27.heap[gb232]? = some (.cells #[.int .i64 0, .int .i64 0, .slice none 0 0] 75 (0, 0))) := ⟨h3_⟩
               have n4_ : Aside0 (w.heap.size ≤ gb232) := ⟨h4_⟩
               have n5_ : Aside0 (w.heap.size ≤ gb232) := ⟨h5_⟩
               have n6_ : Aside0 (gb219 ≠ gb232) := ⟨h6_⟩
               have n7_ : Aside0 (gb232 ≠ gb219) := ⟨h7_⟩
               have n8_ : Aside0 (gb220 ≠ gb232) := ⟨h8_⟩
               have n9_ : Aside0 (gb232 ≠ gb220) := ⟨h9_⟩
               have n10_ : Aside0 (Below w.heap.size w w27) := ⟨h10_⟩
               clear HO_220001
               clear BK219
               clear BK220
               clear HB
               clear h0_ h1_ h2_ h3_ h4_ h5_ h6_ h7_ h8_ h9_ h10_
               have HO_220001 := n0_
               have BK219 := n1_
               have BK220 := n2_
               have BK232 := n3_
               have GW232 := n4_
               have GE232 := n5_
               have NB219_232 := n6_
               have NB232_219 := n7_
               have NB220_232 := n8_
               have NB232_220 := n9_
               have HB := n10_
               clear n0_ n1_ n2_ n3_ n4_ n5_ n6_ n7_ n8_ n9_ n10_
               have hHeld : w27.cell? ⟨gb219, 0, none⟩ = some (.int .i64 x220000_1) ∧ w27.cell? ⟨gb219, 1, none⟩ = some (.slice Ao24 x220001_1.length co24) := hS_
               refine norm_ (a' := ?_) ?_ ?_
               rotate_left
               ·
                simp only [putAll, Act.put, List.setIfInBounds_toArray, List.set_cons_zero, List.set_cons_succ]
                rfl
               refine one_ (i := 12) (N := some 34) (tr [13, 3, 1, 1]) rfl rfl (one_of HT_.out (by kernel_rfl)) (by decide) (fun K hK => ?_)
               refine goes_ Try.func41 (by kernel_rfl) rfl #[.slice A0 l0.length c0, .int .i64 (wrap64 (x5_1 + 80)), .int .i64 5] (by rfl) rfl rfl (by (try simp only [List.map_toArray, List.map_cons, List.map_nil]); first | done | rfl | (simp only [List.length_drop, List.length_take]; rfl)) ?_
               with_reducible refine (laws_lwAt.calls _ _ l0 (wrap64 (x5_1 + 80)) 5 t223 _ ?side1 ?side2 A15.out).mono ?_
               (case side1 => exact mC HR0 HB)
               (case side2 => exact HC0.out)
               rintro e w' ⟨rfl, ⟨nd, rfl⟩⟩
               refine ⟨_, rfl, ?_⟩
               refine hK.out _ _ (ce2 BK219) (fun hHeld => ?_)
               clear hK K
               refine norm_ (a' := ?_) ?_ ?_
               rotate_left
               ·
                show Act.put _ (some 34) _ = _
                simp only [Act.put, List.setIfInBounds_toArray, List.set_cons_zero, List.set_cons_succ, i64_w, i32_w]
                rfl
               refine pA 13 35 [14, 2, 1, 1] ?_
               exact norm_ (by first | (simp only [putAll, Act.put, List.setIfInBounds_toArray, List.set_cons_zero, List.set_cons_succ]; done) | (simp only [putAll, Act.put, List.setIfInBounds_toArray, List.set_cons_zero, List.set_cons_succ]; rfl)) (hJ3_7_12_16 (gb232) _ ⟨hHeld, (mR HO_220001), (mB BK219), (mB BK220), (mB BK232), GW232.out, GE232.out, NB219_232.out, NB232_219.out, NB220_232.out, NB232_220.out, (bel HB)⟩)
              skip
              rintro _ w26 ⟨hS_, h0_, h1_, h2_, h3_⟩
              have n0_ : Aside0 (Kd.R (Kd.int .i64) 2 w26 w.heap.size (fun _ => True) (.slice Ao24 x220001_1.length co24) x220001_1) := ⟨h0_⟩
              have n1_ : Aside0 (w26.heap[gb219]? = some (.cells #[.int .i64 x220000_1, .slice Ao24 x220001_1.length co24] 71 (0, 0))) := ⟨h1_⟩
              have n2_ : Aside0 (w26.heap[gb220]? = some (.cells #[.int .i64 x221000_1, .int .i64 x221001_1, .int .i64 x221002_1, .int .i64 x221003_1] 73 (0, 0))) := ⟨h2_⟩
              have n3_ : Aside0 (Below w.heap.size w w26) := ⟨h3_⟩
              clear HO_220001
              clear BK219
              clear BK220
              clear HB
              clear h0_ h1_ h2_ h3_
              have HO_220001 := n0_
              have BK219 := n1_
              have BK220 := n2_
              have HB := n3_
              clear n0_ n1_ n2_ n3_
              have hHeld : w26.cell? ⟨gb219, 0, none⟩ = some (.int .i64 x220000_1) ∧ w26.cell? ⟨gb219, 1, none⟩ = some (.slice Ao24 x220001_1.length co24) := hS_
              refine norm_ (a' := ?_) ?_ ?_
              rotate_left
              ·
               simp only [putAll, Act.put, List.setIfInBounds_toArray, List.set_cons_zero, List.set_cons_succ]
               rfl
              refine two_ (i := 14) (j := 16) (Ni := some 36) (Nj := some 6) (tr [15, 3]) (tr [14, 2, 1, 1]) rfl rfl rfl rfl (two_of HT_.out (by kernel_rfl)) (by decide) (by decide) (fun K hK => ?_) (fun K hK => ?_)
              ·
               skip
               refine Kd.R_lit_step (Kd.int .i64) _ 2 ?hg (N := 36) ?hd (xs := ([wrap64 (t222 - 2), wrap64 (t223 - 2)] : List Int)) (inner := [.int .i64 (wrap64 (t222 - 2)), .int .i64 (wrap64 (t223 - 2))]) (ok := fun _ => True) (okp := fun _ => True) ?hr ?hp (fun _ hk => hk) trivial (Below.refl _ _) (Nat.le_refl _) (by simp) ?_; (case hd => rfl); (case hg => rfl); (case hr => first | (go_simp; done) | (go_simp; rfl)); (case hp => exact (Reps.one (show Kd.M (Kd.int .i64) _ _ _ (wrap64 (t222 - 2)) [.int .i64 (wrap64 (t222 - 2))] from rfl) (Reps.one (show Kd.M (Kd.int .i64) _ _ _ (wrap64 (t223 - 2)) [.int .i64 (wrap64 (t223 - 2))] from rfl) (Reps.none _ _))))
               intro v225 w27 ho28 hb hg_ hnew_
               clear hg_ hnew_
               (first | rw [← Ny224.out] at ho28 | (simp only [Int.reduceToNat] at ho28; rw [← Ny224.out] at ho28))
               have HO226 := am (Kd.R_lower (Kd.R_new' ho28 (Kd.R_lt (mR HO_220001))) (below_size (bel HB)))
               replace HO_220001 := am (Kd.R_elder' (mR HO_220001) (Kd.R_base ho28) hb)
               replace BK219 := bK BK219 hb
               replace BK220 := bK BK220 hb
               replace HB := bS HB hb
               clear hb ho28
               refine hK.out _ _ (ce2 BK219) (fun hHeld => ?_)
               clear hK K
               refine norm_ (a' := ?_) ?_ ?_
               rotate_left
               ·
                show Act.put _ (some 36) _ = _
                simp only [Act.put, List.setIfInBounds_toArray, List.set_cons_zero, List.set_cons_succ, i64_w, i32_w]
                rfl
               exact norm_ (by first | (simp only [putAll, Act.put, List.setIfInBounds_toArray, List.set_cons_zero, List.set_cons_succ]; done) | (simp only [putAll, Act.put, List.setIfInBounds_toArray, List.set_cons_zero, List.set_cons_succ]; rfl)) (hJ3_7_12_14 (v225) _ ⟨hHeld, (by (with_reducible repeat (first | apply Kd.R_alloc | apply Kd.R_drewN | apply Kd.R_drew)); exact Kd.R_mono HO226.out (fun _ hk => hk.2)), (by (with_reducible repeat (first | apply Kd.R_alloc | apply Kd.R_drewN | apply Kd.R_drew)); exact Kd.R_mono HO_220001.out (fun _ hk => hk.2)), (mB BK219), (mB BK220), (bel HB)⟩)
              skip
              refine box_step ?hg (N := 6) ?hd (cs := #[.int .i64 0, .int .i64 0, .slice none 0 0]) (t := 75) ?hr ?_; (case hd => rfl); (case hg => rfl); (case hr => first | (go_simp; done) | (go_simp; rfl))
              intro gb232 hg w27 hbox hb
              replace HO_220001 := am (Kd.R_below (mR HO_220001) hb)
              have BK232 := am (hbox)
              have GW232 := gZ HB hg
              have GE232 := gZ HB hg
              replace HB := bS HB hb
              have NB219_232 := nL BK219 hg
              have NB232_219 := nG BK219 hg
              replace BK219 := bK BK219 hb
              have NB220_232 := nL BK220 hg
              have NB232_220 := nG BK220 hg
              replace BK220 := bK BK220 hb
              clear hb hbox hg
              refine hK.out _ _ (ce2 BK219) (fun hHeld => ?_)
              clear hK K
              refine norm_ (a' := ?_) ?_ ?_
              rotate_left
              ·
               show Act.put _ (some 6) _ = _
               simp only [Act.put, List.setIfInBounds_toArray, List.set_cons_zero, List.set_cons_succ, i64_w, i32_w]
               rfl
              exact norm_ (by first | (simp only [putAll, Act.put, List.setIfInBounds_toArray, List.set_cons_zero, List.set_cons_succ]; done) | (simp only [putAll, Act.put, List.setIfInBounds_toArray, List.set_cons_zero, List.set_cons_succ]; rfl)) (hJ3_7_12_16 (gb232) _ ⟨hHeld, (mR HO_220001), (mB BK219), (mB BK220), (mB BK232), GW232.out, GE232.out, NB219_232.out, NB232_219.out, NB220_232.out, NB232_220.out, (bel HB)⟩)
             skip
             rintro gb232 w27 ⟨hS_, h0_, h1_, h2_, h3_, h4_, h5_, h6_, h7_, h8_, h9_, h10_⟩
             have n0_ : Aside0 (Kd.R (Kd.int .i64) 2 w27 w.heap.size (fun _ => True) (.slice Ao24 x220001_1.length co24) x220001_1) := ⟨h0_⟩
             have n1_ : Aside0 (w27.heap[gb219]? = some (.cells #[.int .i64 x220000_1, .slice Ao24 x220001_1.length co24] 71 (0, 0))) := ⟨h1_⟩
             have n2_ : Aside0 (w27.heap[gb220]? = some (.cells #[.int .i64 x221000_1, .int .i64 x221001_1, .int .i64 x221002_1, .int .i64 x221003_1] 73 (0, 0))) := ⟨h2_⟩
             have n3_ : Aside0 (w27.heap[gb232]? = some (.cells #[.int .i64 0, .int .i64 0, .slice none 0 0] 75 (0, 0))) := ⟨h3_⟩
             have n4_ : Aside0 (w.heap.size ≤ gb232) := ⟨h4_⟩
             have n5_ : Aside0 (w.heap.size ≤ gb232) := ⟨h5_⟩
             have n6_ : Aside0 (gb219 ≠ gb232) := ⟨h6_⟩
             have n7_ : Aside0 (gb232 ≠ gb219) := ⟨h7_⟩
             have n8_ : Aside0 (gb220 ≠ gb232) := ⟨h8_⟩
             have n9_ : Aside0 (gb232 ≠ gb220) := ⟨h9_⟩
             have n10_ : Aside0 (Below w.heap.size w w27) := ⟨h10_⟩
             clear HO_220001
             clear BK219
             clear BK220
             clear HB
             clear h0_ h1_ h2_ h3_ h4_ h5_ h6_ h7_ h8_ h9_ h10_
             have HO_220001 := n0_
             have BK219 := n1_
             have BK220 := n2_
             have BK232 := n3_
             have GW232 := n4_
             have GE232 := n5_
             have NB219_232 := n6_
             have NB232_219 := n7_
             have NB220_232 := n8_
             have NB232_220 := n9_
             have HB := n10_
             clear n0_ n1_ n2_ n3_ n4_ n5_ n6_ n7_ n8_ n9_ n10_
             have hHeld : w27.cell? ⟨gb219, 0, none⟩ = some (.int .i64 x220000_1) ∧ w27.cell? ⟨gb219, 1, none⟩ = some (.slice Ao24 x220001_1.length co24) := hS_
             refine norm_ (a' := ?_) ?_ ?_
             rotate_left
             ·
              simp only [putAll, Act.put, List.setIfInBounds_toArray, List.set_cons_zero, List.set_cons_succ]
              rfl
             refine one_ (i := 14) (N := some 36) (tr [15, 1, 1, 1]) rfl rfl (one_of HT_.out (by kernel_rfl)) (by decide) (fun K hK => ?_)
             refine Kd.R_lit_step (Kd.int .i64) _ 2 ?hg (N := 36) ?hd (xs := ([wrap64 (t222 - 2), wrap64 (t223 - 2)] : List Int)) (inner := [.int .i64 (wrap64 (t222 - 2)), .int .i64 (wrap64 (t223 - 2))]) (ok := fun _ => True) (okp := fun _ => True) ?hr ?hp (fun _ hk => hk) trivial (Below.refl _ _) (Nat.le_refl _) (by simp) ?_; (case hd => rfl); (case hg => rfl); (case hr => first | (go_simp; done) | (go_simp; rfl)); (case hp => exact (Reps.one (show Kd.M (Kd.int .i64) _ _ _ (wrap64 (t222 - 2)) [.int .i64 (wrap64 (t222 - 2))] from rfl) (Reps.one (show Kd.M (Kd.int .i64) _ _ _ (wrap64 (t223 - 2)) [.int .i64 (wrap64 (t223 - 2))] from rfl) (Reps.none _ _))))
             intro v225 w28 ho29 hb hg_ hnew_
             clear hg_ hnew_
             (first | rw [← Ny224.out] at ho29 | (simp only [Int.reduceToNat] at ho29; rw [← Ny224.out] at ho29))
             have HO226 := am (Kd.R_lower (Kd.R_new' ho29 (Kd.R_lt (mR HO_220001))) (below_size (bel HB)))
             replace HO_220001 := am (Kd.R_elder' (mR HO_220001) (Kd.R_base ho29) hb)
             replace BK219 := bK BK219 hb
             replace BK220 := bK BK220 hb
             replace BK232 := bK BK232 hb
             replace HB := bS HB hb
             clear hb ho29
             refine hK.out _ _ (ce2 BK219) (fun hHeld => ?_)
             clear hK K
             refine norm_ (a' := ?_) ?_ ?_
             rotate_left
             ·
              show Act.put _ (some 36) _ = _
              simp only [Act.put, List.setIfInBounds_toArray, List.set_cons_zero, List.set_cons_succ, i64_w, i32_w]
              rfl
             exact norm_ (by first | (simp only [putAll, Act.put, List.setIfInBounds_toArray, List.set_cons_zero, List.set_cons_succ]; done) | (simp only [putAll, Act.put, List.setIfInBounds_toArray, List.set_cons_zero, List.set_cons_succ]; rfl)) (hJ3_7_12_14_16 (v225, gb232) _ ⟨hHeld, (by (with_reducible repeat (first | apply Kd.R_alloc | apply Kd.R_drewN | apply Kd.R_drew)); exact Kd.R_mono HO226.out (fun _ hk => hk.2)), (by (with_reducible repeat (first | apply Kd.R_alloc | apply Kd.R_drewN | apply Kd.R_drew)); exact Kd.R_mono HO_220001.out (fun _ hk => hk.2)), (mB BK219), (mB BK220), (mB BK232), GW232.out, GE232.out, NB219_232.out, NB232_219.out, NB220_232.out, NB232_220.out, (bel HB)⟩)
            skip
            rintro v225 w28 ⟨hS_, h0_, h1_, h2_, h3_, h4_⟩
            have n0_ : Aside0 (Kd.R (Kd.int .i64) 2 w28 w.heap.size (fun k_ => some k_ ≠ (.slice Ao24 x220001_1.length co24 : Value).ownBlock) v225 y224) := ⟨h0_⟩
            have n1_ : Aside0 (Kd.R (Kd.int .i64) 2 w28 w.heap.size (fun k_ => some k_ ≠ (v225 : Value).ownBlock) (.slice Ao24 x220001_1.length co24) x220001_1) := ⟨h1_⟩
            have n2_ : Aside0 (w28.heap[gb219]? = some (.cells #[.int .i64 x220000_1, .slice Ao24 x220001_1.length co24] 71 (0, 0))) := ⟨h2_⟩
            have n3_ : Aside0 (w28.heap[gb220]? = some (.cells #[.int .i64 x221000_1, .int .i64 x221001_1, .int .i64 x221002_1, .int .i64 x221003_1] 73 (0, 0))) := ⟨h3_⟩
            have n4_ : Aside0 (Below w.heap.size w w28) := ⟨h4_⟩
            clear HO_220001
            clear BK219
            clear BK220
            clear HB
            clear h0_ h1_ h2_ h3_ h4_
            have HO226 := n0_
            have HO_220001 := n1_
            have BK219 := n2_
            have BK220 := n3_
            have HB := n4_
            clear n0_ n1_ n2_ n3_ n4_
            have hHeld : w28.cell? ⟨gb219, 0, none⟩ = some (.int .i64 x220000_1) ∧ w28.cell? ⟨gb219, 1, none⟩ = some (.slice Ao24 x220001_1.length co24) := hS_
            obtain ⟨Ao29, co29, eo29⟩ := Kd.R_slice HO226.out
            (first | subst eo29 | (injection eo29 with f1_ f2_ f3_; have f4_ := f1_.symm; have f5_ := f3_.symm; clear f1_ f2_ f3_; subst f4_; subst f5_))
            refine norm_ (a' := ?_) ?_ ?_
            rotate_left
            ·
             simp only [putAll, Act.put, List.setIfInBounds_toArray, List.set_cons_zero, List.set_cons_succ]
             rfl
            refine two_ (i := 15) (j := 16) (Ni := some 37) (Nj := some 6) (tr [16, 2]) (tr [15, 1, 1, 1]) rfl rfl rfl rfl (two_of HT_.out (by kernel_rfl)) (by decide) (by decide) (fun K hK => ?_) (fun K hK => ?_)
            ·
             skip
             refine goes_ Try.func40 (by kernel_rfl) rfl #[.agg #[.int .i64 x220000_1, .slice Ao24 x220001_1.length co24], .int .i64 t221, .slice Ao29 y224.length co29] (by rfl) rfl rfl (by (try simp only [List.map_toArray, List.map_cons, List.map_nil]); first | done | rfl | (simp only [List.length_drop, List.length_take]; rfl)) ?_
             with_reducible refine (impl_TickClock.calls k1 x220000_1 _ _ x220001_1 t221 _ _ y224 t227 t228 t229 _ ?side1 ?side2 ?side3 ?side4 A16.out).mono ?_
             (case side1 => repeat (first | exact (Kd.R_reads' HO_220001.out).2.2 | (with_reducible refine Kd.C_alloc ?_ _) | (with_reducible refine Kd.C_drewN ?_ _) | (with_reducible refine Kd.C_drew ?_)))
             (case side2 => exact (Kd.R_reads' HO_220001.out).2.1)
             (case side3 => repeat (first | exact (Kd.R_reads' HO226.out).2.2 | (with_reducible refine Kd.C_alloc ?_ _) | (with_reducible refine Kd.C_drewN ?_ _) | (with_reducible refine Kd.C_drew ?_)))
             (case side4 => exact (Kd.R_reads' HO226.out).2.1)
             rintro e w30 ⟨v230, rfl, ho0, hb⟩
             refine ⟨_, rfl, ?_⟩
             have HO231 := am (Kd.R_lower (Kd.R_new' (Kd.R_new' ho0 (Kd.R_lt (mR HO_220001))) (Kd.R_lt (mR HO226))) (below_size (bel HB)))
             replace HO_220001 := am (Kd.R_elder' (mR HO_220001) (Kd.R_base ho0) hb)
             replace HO226 := am (Kd.R_elder' (mR HO226) (Kd.R_base ho0) hb)
             replace BK219 := bK BK219 hb
             replace BK220 := bK BK220 hb
             replace HB := bS HB hb
             (try clear hb)
             (try clear hb2)
             (try clear hk)
             (try clear hi)
             (try clear ho0)
             refine hK.out _ _ (ce2 BK219) (fun hHeld => ?_)
             clear hK K
             refine norm_ (a' := ?_) ?_ ?_
             rotate_left
             ·
              show Act.put _ (some 37) _ = _
              simp only [Act.put, List.setIfInBounds_toArray, List.set_cons_zero, List.set_cons_succ, i64_w, i32_w]
              rfl
             exact norm_ (by first | (simp only [putAll, Act.put, List.setIfInBounds_toArray, List.set_cons_zero, List.set_cons_succ]; done) | (simp only [putAll, Act.put, List.setIfInBounds_toArray, List.set_cons_zero, List.set_cons_succ]; rfl)) (hJ3_7_12_14_15 (.slice Ao29 y224.length co29, _) _ ⟨hHeld, (by (with_reducible repeat (first | apply Kd.R_alloc | apply Kd.R_drewN | apply Kd.R_drew)); exact Kd.R_mono HO226.out (fun _ hk => ⟨hk.2, hk.1⟩)), (by (with_reducible repeat (first | apply Kd.R_alloc | apply Kd.R_drewN | apply Kd.R_drew)); exact Kd.R_mono HO231.out (fun _ hk => ⟨hk.2, hk.1.2⟩)), (mR HO_220001), (mB BK219), (mB BK220), (bel HB)⟩)
            skip
            refine box_step ?hg (N := 6) ?hd (cs := #[.int .i64 0, .int .i64 0, .slice none 0 0]) (t := 75) ?hr ?_; (case hd => rfl); (case hg => rfl); (case hr => first | (go_simp; done) | (go_simp; rfl))
            intro gb232 hg w29 hbox hb
            replace HO_220001 := am (Kd.R_below (mR HO_220001) hb)
            replace HO226 := am (Kd.R_below (mR HO226) hb)
            have BK232 := am (hbox)
            have GW232 := gZ HB hg
            have GE232 := gZ HB hg
            replace HB := bS HB hb
            have NB219_232 := nL BK219 hg
            have NB232_219 := nG BK219 hg
            replace BK219 := bK BK219 hb
            have NB220_232 := nL BK220 hg
            have NB232_220 := nG BK220 hg
            replace BK220 := bK BK220 hb
            clear hb hbox hg
            refine hK.out _ _ (ce2 BK219) (fun hHeld => ?_)
            clear hK K
            refine norm_ (a' := ?_) ?_ ?_
            rotate_left
            ·
             show Act.put _ (some 6) _ = _
             simp only [Act.put, List.setIfInBounds_toArray, List.set_cons_zero, List.set_cons_succ, i64_w, i32_w]
             rfl
            exact norm_ (by first | (simp only [putAll, Act.put, List.setIfInBounds_toArray, List.set_cons_zero, List.set_cons_succ]; done) | (simp only [putAll, Act.put, List.setIfInBounds_toArray, List.set_cons_zero, List.set_cons_succ]; rfl)) (hJ3_7_12_14_16 (_, _) _ ⟨hHeld, (mR HO226), (mR HO_220001), (mB BK219), (mB BK220), (mB BK232), GW232.out, GE232.out, NB219_232.out, NB232_219.out, NB220_232.out, NB232_220.out, (bel HB)⟩)
           skip
           rintro ⟨v225, gb232⟩ w29 ⟨hS_, h0_, h1_, h2_, h3_, h4_, h5_, h6_, h7_, h8_, h9_, h10_, h11_⟩
           have n0_ : Aside0 (Kd.R (Kd.int .i64) 2 w29 w.heap.size (fun k_ => some k_ ≠ (.slice Ao24 x220001_1.length co24 : Value).ownBlock) v225 y224) := ⟨h0_⟩
           have n1_ : Aside0 (Kd.R (Kd.int .i64) 2 w29 w.heap.size (fun k_ => some k_ ≠ (v225 : Value).ownBlock) (.slice Ao24 x220001_1.length co24) x220001_1) := ⟨h1_⟩
           have n2_ : Aside0 (w29.heap[gb219]? = some (.cells #[.int .i64 x220000_1, .slice Ao24 x220001_1.length co24] 71 (0, 0))) := ⟨h2_⟩
           have n3_ : Aside0 (w29.heap[gb220]? = some (.cells #[.int .i64 x221000_1, .int .i64 x221001_1, .int .i64 x221002_1, .int .i64 x221003_1] 73 (0, 0))) := ⟨h3_⟩
           have n4_ : Aside0 (w29.heap[gb232]? = some (.cells #[.int .i64 0, .int .i64 0, .slice none 0 0] 75 (0, 0))) := ⟨h4_⟩
           have n5_ : Aside0 (w.heap.size ≤ gb232) := ⟨h5_⟩
           have n6_ : Aside0 (w.heap.size ≤ gb232) := ⟨h6_⟩
           have n7_ : Aside0 (gb219 ≠ gb232) := ⟨h7_⟩
           have n8_ : Aside0 (gb232 ≠ gb219) := ⟨h8_⟩
           have n9_ : Aside0 (gb220 ≠ gb232) := ⟨h9_⟩
           have n10_ : Aside0 (gb232 ≠ gb220) := ⟨h10_⟩
           have n11_ : Aside0 (Below w.heap.size w w29) := ⟨h11_⟩
           clear HO_220001
           clear BK219
           clear BK220
           clear HB
           clear h0_ h1_ h2_ h3_ h4_ h5_ h6_ h7_ h8_ h9_ h10_ h11_
           have HO226 := n0_
           have HO_220001 := n1_
           have BK219 := n2_
           have BK220 := n3_
           have BK232 := n4_
           have GW232 := n5_
           have GE232 := n6_
           have NB219_232 := n7_
           have NB232_219 := n8_
           have NB220_232 := n9_
           have NB232_220 := n10_
           have HB := n11_
           clear n0_ n1_ n2_ n3_ n4_ n5_ n6_ n7_ n8_ n9_ n10_ n11_
           have hHeld : w29.cell? ⟨gb219, 0, none⟩ = some (.int .i64 x220000_1) ∧ w29.cell? ⟨gb219, 1, none⟩ = some (.slice Ao24 x220001_1.length co24) := hS_
           obtain ⟨Ao30, co30, eo30⟩ := Kd.R_slice HO226.out
           (first | subst eo30 | (injection eo30 with f1_ f2_ f3_; have f4_ := f1_.symm; have f5_ := f3_.symm; clear f1_ f2_ f3_; subst f4_; subst f5_))
           refine norm_ (a' := ?_) ?_ ?_
           rotate_left
           ·
            simp only [putAll, Act.put, List.setIfInBounds_toArray, List.set_cons_zero, List.set_cons_succ]
            rfl
           refine one_ (i := 15) (N := some 37) (tr [17, 1]) rfl rfl (one_of HT_.out (by kernel_rfl)) (by decide) (fun K hK => ?_)
           refine goes_ Try.func40 (by kernel_rfl) rfl #[.agg #[.int .i64 x220000_1, .slice Ao24 x220001_1.length co24], .int .i64 t221, .slice Ao30 y224.length co30] (by rfl) rfl rfl (by (try simp only [List.map_toArray, List.map_cons, List.map_nil]); first | done | rfl | (simp only [List.length_drop, List.length_take]; rfl)) ?_
           with_reducible refine (impl_TickClock.calls k1 x220000_1 _ _ x220001_1 t221 _ _ y224 t227 t228 t229 _ ?side1 ?side2 ?side3 ?side4 A16.out).mono ?_
           (case side1 => repeat (first | exact (Kd.R_reads' HO_220001.out).2.2 | (with_reducible refine Kd.C_alloc ?_ _) | (with_reducible refine Kd.C_drewN ?_ _) | (with_reducible refine Kd.C_drew ?_)))
           (case side2 => exact (Kd.R_reads' HO_220001.out).2.1)
           (case side3 => repeat (first | exact (Kd.R_reads' HO226.out).2.2 | (with_reducible refine Kd.C_alloc ?_ _) | (with_reducible refine Kd.C_drewN ?_ _) | (with_reducible refine Kd.C_drew ?_)))
           (case side4 => exact (Kd.R_reads' HO226.out).2.1)
           rintro e w31 ⟨v230, rfl, ho0, hb⟩
           refine ⟨_, rfl, ?_⟩
           have HO231 := am (Kd.R_lower (Kd.R_new' (Kd.R_new' ho0 (Kd.R_lt (mR HO_220001))) (Kd.R_lt (mR HO226))) (below_size (bel HB)))
           replace HO_220001 := am (Kd.R_elder' (mR HO_220001) (Kd.R_base ho0) hb)
           replace HO226 := am (Kd.R_elder' (mR HO226) (Kd.R_base ho0) hb)
           replace BK219 := bK BK219 hb
           replace BK220 := bK BK220 hb
           replace BK232 := bK BK232 hb
           replace HB := bS HB hb
           (try clear hb)
           (try clear hb2)
           (try clear hk)
           (try clear hi)
           (try clear ho0)
           refine hK.out _ _ (ce2 BK219) (fun hHeld => ?_)
           clear hK K
           refine norm_ (a' := ?_) ?_ ?_
           rotate_left
           ·
            show Act.put _ (some 37) _ = _
            simp only [Act.put, List.setIfInBounds_toArray, List.set_cons_zero, List.set_cons_succ, i64_w, i32_w]
            rfl
           exact norm_ (by first | (simp only [putAll, Act.put, List.setIfInBounds_toArray, List.set_cons_zero, List.set_cons_succ]; done) | (simp only [putAll, Act.put, List.setIfInBounds_toArray, List.set_cons_zero, List.set_cons_succ]; rfl)) (hJ3_7_12_14_15_16 (.slice Ao30 y224.length co30, _, _) _ ⟨hHeld, (by (with_reducible repeat (first | apply Kd.R_alloc | apply Kd.R_drewN | apply Kd.R_drew)); exact Kd.R_mono HO226.out (fun _ hk => ⟨hk.2, hk.1⟩)), (by (with_reducible repeat (first | apply Kd.R_alloc | apply Kd.R_drewN | apply Kd.R_drew)); exact Kd.R_mono HO231.out (fun _ hk => ⟨hk.2, hk.1.2⟩)), (mR HO_220001), (mB BK219), (mB BK220), (mB BK232), GW232.out, GE232.out, NB219_232.out, NB232_219.out, NB220_232.out, NB232_220.out, (bel HB)⟩)
          skip
          rintro ⟨v225, v230⟩ w30 ⟨hS_, h0_, h1_, h2_, h3_, h4_, h5_⟩
          have n0_ : Aside0 (Kd.R (Kd.int .i64) 2 w30 w.heap.size (fun k_ => some k_ ≠ (v230 : Value).ownBlock ∧ some k_ ≠ (.slice Ao24 x220001_1.length co24 : Value).ownBlock) v225 y224) := ⟨h0_⟩
          have n1_ : Aside0 (Kd.R (Kd.int .i64) 2 w30 w.heap.size (fun k_ => some k_ ≠ (v225 : Value).ownBlock ∧ some k_ ≠ (.slice Ao24 x220001_1.length co24 : Value).ownBlock) v230 t229) := ⟨h1_⟩
          have n2_ : Aside0 (Kd.R (Kd.int .i64) 2 w30 w.heap.size (fun k_ => some k_ ≠ (v225 : Value).ownBlock ∧ some k_ ≠ (v230 : Value).ownBlock) (.slice Ao24 x220001_1.length co24) x220001_1) := ⟨h2_⟩
          have n3_ : Aside0 (w30.heap[gb219]? = some (.cells #[.int .i64 x220000_1, .slice Ao24 x220001_1.length co24] 71 (0, 0))) := ⟨h3_⟩
          have n4_ : Aside0 (w30.heap[gb220]? = some (.cells #[.int .i64 x221000_1, .int .i64 x221001_1, .int .i64 x221002_1, .int .i64 x221003_1] 73 (0, 0))) := ⟨h4_⟩
          have n5_ : Aside0 (Below w.heap.size w w30) := ⟨h5_⟩
          clear HO_220001
          clear BK219
          clear BK220
          clear HB
          clear h0_ h1_ h2_ h3_ h4_ h5_
          have HO226 := n0_
          have HO231 := n1_
          have HO_220001 := n2_
          have BK219 := n3_
          have BK220 := n4_
          have HB := n5_
          clear n0_ n1_ n2_ n3_ n4_ n5_
          have hHeld : w30.cell? ⟨gb219, 0, none⟩ = some (.int .i64 x220000_1) ∧ w30.cell? ⟨gb219, 1, none⟩ = some (.slice Ao24 x220001_1.length co24) := hS_
          refine norm_ (a' := ?_) ?_ ?_
          rotate_left
          ·
           simp only [putAll, Act.put, List.setIfInBounds_toArray, List.set_cons_zero, List.set_cons_succ]
           rfl
          refine one_ (i := 16) (N := some 6) (tr [17, 1]) rfl rfl (one_of HT_.out (by kernel_rfl)) (by decide) (fun K hK => ?_)
          refine box_step ?hg (N := 6) ?hd (cs := #[.int .i64 0, .int .i64 0, .slice none 0 0]) (t := 75) ?hr ?_; (case hd => rfl); (case hg => rfl); (case hr => first | (go_simp; done) | (go_simp; rfl))
          intro gb232 hg w31 hbox hb
          replace HO_220001 := am (Kd.R_below (mR HO_220001) hb)
          replace HO226 := am (Kd.R_below (mR HO226) hb)
          replace HO231 := am (Kd.R_below (mR HO231) hb)
          have BK232 := am (hbox)
          have GW232 := gZ HB hg
          have GE232 := gZ HB hg
          replace HB := bS HB hb
          have NB219_232 := nL BK219 hg
          have NB232_219 := nG BK219 hg
          replace BK219 := bK BK219 hb
          have NB220_232 := nL BK220 hg
          have NB232_220 := nG BK220 hg
          replace BK220 := bK BK220 hb
          clear hb hbox hg
          refine hK.out _ _ (ce2 BK219) (fun hHeld => ?_)
          clear hK K
          refine norm_ (a' := ?_) ?_ ?_
          rotate_left
          ·
           show Act.put _ (some 6) _ = _
           simp only [Act.put, List.setIfInBounds_toArray, List.set_cons_zero, List.set_cons_succ, i64_w, i32_w]
           rfl
          exact norm_ (by first | (simp only [putAll, Act.put, List.setIfInBounds_toArray, List.set_cons_zero, List.set_cons_succ]; done) | (simp only [putAll, Act.put, List.setIfInBounds_toArray, List.set_cons_zero, List.set_cons_succ]; rfl)) (hJ3_7_12_14_15_16 (v225, v230, gb232) _ ⟨hHeld, (mR HO226), (mR HO231), (mR HO_220001), (mB BK219), (mB BK220), (mB BK232), GW232.out, GE232.out, NB219_232.out, NB232_219.out, NB220_232.out, NB232_220.out, (bel HB)⟩)
         rintro ⟨v225, v230, gb232⟩ w31 ⟨hS_, h0_, h1_, h2_, h3_, h4_, h5_, h6_, h7_, h8_, h9_, h10_, h11_, h12_⟩
         have n0_ : Aside0 (Kd.R (Kd.int .i64) 2 w31 w.heap.size (fun k_ => some k_ ≠ (v230 : Value).ownBlock ∧ some k_ ≠ (.slice Ao24 x220001_1.length co24 : Value).ownBlock) v225 y224) := ⟨h0_⟩
         have n1_ : Aside0 (Kd.R (Kd.int .i64) 2 w31 w.heap.size (fun k_ => some k_ ≠ (v225 : Value).ownBlock ∧ some k_ ≠ (.slice Ao24 x220001_1.length co24 : Value).ownBlock) v230 t229) := ⟨h1_⟩
         have n2_ : Aside0 (Kd.R (Kd.int .i64) 2 w31 w.heap.size (fun k_ => some k_ ≠ (v225 : Value).ownBlock ∧ some k_ ≠ (v230 : Value).ownBlock) (.slice Ao24 x220001_1.length co24) x220001_1) := ⟨h2_⟩
         have n3_ : Aside0 (w31.heap[gb219]? = some (.cells #[.int .i64 x220000_1, .slice Ao24 x220001_1.length co24] 71 (0, 0))) := ⟨h3_⟩
         have n4_ : Aside0 (w31.heap[gb220]? = some (.cells #[.int .i64 x221000_1, .int .i64 x221001_1, .int .i64 x221002_1, .int .i64 x221003_1] 73 (0, 0))) := ⟨h4_⟩
         have n5_ : Aside0 (w31.heap[gb232]? = some (.cells #[.int .i64 0, .int .i64 0, .slice none 0 0] 75 (0, 0))) := ⟨h5_⟩
         have n6_ : Aside0 (w.heap.size ≤ gb232) := ⟨h6_⟩
         have n7_ : Aside0 (w.heap.size ≤ gb232) := ⟨h7_⟩
         have n8_ : Aside0 (gb219 ≠ gb232) := ⟨h8_⟩
         have n9_ : Aside0 (gb232 ≠ gb219) := ⟨h9_⟩
         have n10_ : Aside0 (gb220 ≠ gb232) := ⟨h10_⟩
         have n11_ : Aside0 (gb232 ≠ gb220) := ⟨h11_⟩
         have n12_ : Aside0 (Below w.heap.size w w31) := ⟨h12_⟩
         clear HO_220001
         clear BK219
         clear BK220
         clear HB
         clear h0_ h1_ h2_ h3_ h4_ h5_ h6_ h7_ h8_ h9_ h10_ h11_ h12_
         have HO226 := n0_
         have HO231 := n1_
         have HO_220001 := n2_
         have BK219 := n3_
         have BK220 := n4_
         have BK232 := n5_
         have GW232 := n6_
         have GE232 := n7_
         have NB219_232 := n8_
         have NB232_219 := n9_
         have NB220_232 := n10_
         have NB232_220 := n11_
         have HB := n12_
         clear n0_ n1_ n2_ n3_ n4_ n5_ n6_ n7_ n8_ n9_ n10_ n11_ n12_
         have hHeld : w31.cell? ⟨gb219, 0, none⟩ = some (.int .i64 x220000_1) ∧ w31.cell? ⟨gb219, 1, none⟩ = some (.slice Ao24 x220001_1.length co24) := hS_
         obtain ⟨Ao34, co34, eo34⟩ := Kd.R_slice HO231.out
         (first | subst eo34 | (injection eo34 with f1_ f2_ f3_; have f4_ := f1_.symm; have f5_ := f3_.symm; clear f1_ f2_ f3_; subst f4_; subst f5_))
         refine norm_ (a' := ?_) ?_ ?_
         rotate_left
         ·
          simp only [putAll, Act.put, List.setIfInBounds_toArray, List.set_cons_zero, List.set_cons_succ]
          rfl
         refine one_ (i := 17) (N := none) (tr [18]) rfl rfl (one_of HT_.out (by kernel_rfl)) (by decide) (fun K hK => ?_)
         have hs32 : w31.cell? ⟨gb232, 0, none⟩ = some (.int .i64 0) := (blk_cell BK232.out 0).trans rfl
         have hfs32 := blk_frozen BK232.out 0
         have hns32_0 := NB219_232.out
         have hns32_1 := NB220_232.out
         have hms32_0 := NB232_219.out
         have hms32_1 := NB232_220.out
         have hs33 : w31.cell? ⟨gb232, 1, none⟩ = some (.int .i64 0) := (blk_cell BK232.out 1).trans rfl
         have hfs33 := blk_frozen BK232.out 1
         have hns33_0 := NB219_232.out
         have hns33_1 := NB220_232.out
         have hms33_0 := NB232_219.out
         have hms33_1 := NB232_220.out
         have hs35 : w31.cell? ⟨gb232, 2, none⟩ = some (.slice none 0 0) := (blk_cell BK232.out 2).trans rfl
         have hfs35 := blk_frozen BK232.out 2
         have hns35_0 := NB219_232.out
         have hns35_1 := NB220_232.out
         have hms35_0 := NB232_219.out
         have hms35_1 := NB232_220.out
         refine skip_ (w1 := ?_) (by rfl) rfl ?_ ?_
         rotate_left
         ·
          go_simp
          rfl
         refine hK.out _ _ ⟨((cell_far (p := ⟨gb232, _, none⟩) NB219_232.out _).trans (((cell_far (p := ⟨gb232, _, none⟩) NB219_232.out _).trans (((cell_far (p := ⟨gb232, _, none⟩) NB219_232.out _).trans (hHeld.1)))))), ((cell_far (p := ⟨gb232, _, none⟩) NB219_232.out _).trans (((cell_far (p := ⟨gb232, _, none⟩) NB219_232.out _).trans (((cell_far (p := ⟨gb232, _, none⟩) NB219_232.out _).trans (hHeld.2))))))⟩ (fun hHeld => ?_)
         clear hK K
         refine done_ (done_of HT_.out (by kernel_rfl)) ?_
         have hnb36 := NB232_219.out
         have hnc36 := NB219_232.out
         have hnb37 := NB232_220.out
         have hnc37 := NB220_232.out
         have hz38 := cl3 BK232
         go_upto_region 14 with (first | (go_at_call 42; (with_reducible refine (impl_ClockFault.calls k1 t228 _ _ t229 t233 _ ?side1 ?side2 A18.out).mono ?_); (case side1 => refine (Kd.R_reads' (e := 2) (base := w.heap.size) (ok := fun k_ => (some k_ ≠ (v225 : Value).ownBlock ∧ some k_ ≠ (.slice Ao24 x220001_1.length co24 : Value).ownBlock)) (n := t229.length) (c := co34) ?_).2.2; exact (by (with_reducible repeat (first | apply Kd.R_alloc | apply Kd.R_drewN | apply Kd.R_drew)); exact (Kd.R_mono (RF (RF (RF (Kd.R_types HO231.out BK232.out (by decide))))) (fun _ h_ => h_.1)))); (case side2 => exact (Kd.R_reads' HO231.out).2.1); rintro e w39 ⟨rfl, hb⟩; replace HO_220001 := am (Kd.R_below (by (with_reducible repeat (first | apply Kd.R_alloc | apply Kd.R_drewN | apply Kd.R_drew)); exact (Kd.R_mono (RF (RF (RF (Kd.R_types HO_220001.out BK232.out (by decide))))) (fun _ h_ => h_.1))) hb); replace HO226 := am (Kd.R_below (by (with_reducible repeat (first | apply Kd.R_alloc | apply Kd.R_drewN | apply Kd.R_drew)); exact (Kd.R_mono (RF (RF (RF (Kd.R_types HO226.out BK232.out (by decide))))) (fun _ h_ => h_.1))) hb); replace HO231 := am (Kd.R_below (by (with_reducible repeat (first | apply Kd.R_alloc | apply Kd.R_drewN | apply Kd.R_drew)); exact (Kd.R_mono (RF (RF (RF (Kd.R_types HO231.out BK232.out (by decide))))) (fun _ h_ => h_.1))) hb); replace BK219 := am (blk_below (g := gb219) (o := .cells #[.int .i64 x220000_1, .slice Ao24 x220001_1.length co24] 71 (0, 0)) (mP BK219) hb); replace BK220 := am (blk_below (g := gb220) (o := .cells #[.int .i64 x221000_1, .int .i64 x221001_1, .int .i64 x221002_1, .int .i64 x221003_1] 73 (0, 0)) (mP BK220) hb); replace BK232 := am (blk_below (g := gb232) (o := .cells #[.int .i64 t227, .int .i64 t228, .slice Ao34 t229.length co34] 75 (0, 0)) (mP BK232) hb); replace HB := bS HB hb; (try clear hb); (try clear hb2); (try clear hk); (try clear hi); have hz40 := cl3 BK232; have hnb41 := NB219_220.out; have hnc41 := NB220_219.out; have hz42 := cl2 BK219; have hz43 := cl4 BK220; have p234 : 0 ≤ (x221000_1 : Int) := of_decide_eq_true (by first | (with_reducible assumption) | assumption); have q234 : x221000_1 < (x220001_1.length : Int) := of_decide_eq_true (by first | (with_reducible assumption) | assumption); obtain ⟨ad234, e234, hx234_0⟩ := Kd.at_int (Kd.R_reads' HO_220001.out).2.2 x221000_1 p234 q234; cases e234; replace p234 := eq_true p234; replace q234 := eq_true q234))
         (try simp only [Act.put, List.setIfInBounds_toArray, List.set_cons_zero, List.set_cons_succ])
         go_cut [80] (fun v80 wc => ∃ (kq : Nat) (x80_22 : Bool), v80 = .bool x80_22 ∧ Aside0 (laws_FnLeases.j3 kq l0 x5_1 (rd x220001_1 x221000_1) x221000_1 x80_22 t228 t229 x221000_1 x221001_1 x221002_1 x221003_1 = some true) ∧ Aside0 (kq ≤ k1) ∧ Aside0 (Kd.R (Kd.int .i64) 2 wc w.heap.size (fun _ => True) (.slice Ao34 t229.length co34) t229) ∧ Aside0 (Kd.R (Kd.int .i64) 2 wc w.heap.size (fun _ => True) (.slice Ao34 t229.length co34) t229) ∧ Aside0 (wc.heap[gb219]? = some (.cells #[.int .i64 t228, (.slice Ao34 t229.length co34)] 71 (0, 0))) ∧ Aside0 (wc.heap[gb220]? = some (.cells #[.int .i64 x221000_1, .int .i64 x221001_1, .int .i64 x221002_1, .int .i64 x221003_1] 73 (0, 0))) ∧ Aside0 (wc.heap[gb232]? = some (.cells #[.int .i64 t227, .int .i64 t228, (.slice Ao34 t229.length co34)] 75 (0, 0))) ∧ Aside0 (Below w.heap.size w wc))
         case first =>
          have H := HC23.out
          clear HC23
          by_cases c44 : x221000_1 < (t229.length : Int)
          ·
           rw [if_pos c44] at H
           have c44b0 : decide (x221000_1 < (t229.length : Int)) = true := decide_eq_true c44
           clear c44
           (first | rw [c44b0] | (simp only [i64_w, i32_w]; rw [c44b0]) | skip)
           replace H := Option.bind_eq_some_iff.mp H
           obtain ⟨t236, A450, H⟩ := H
           replace H : (if t236 = true then (if 0 ≤ (wrap64 (1 - x221000_1)) then (if (wrap64 (1 - x221000_1)) < (t229.length : Int) then ((impl_MayTake.f x221000_1 x221001_1 x221002_1 x221003_1 (rd t229 (wrap64 (1 - x221000_1)))).bind fun t238 => (laws_FnLeases.j3 k1 l0 x5_1 (rd x220001_1 x221000_1) x221000_1 t238 t228 t229 x221000_1 x221001_1 x221002_1 x221003_1)) else (none)) else (none)) else (laws_FnLeases.j3 k1 l0 x5_1 (rd x220001_1 x221000_1) x221000_1 false t228 t229 x221000_1 x221001_1 x221002_1 x221003_1)) = some true := H
           have A45 := Aside0.mk A450
           clear A450
           by_cases c46 : t236 = true
           ·
            subst c46
            have H1 : (if 0 ≤ (wrap64 (1 - x221000_1)) then (if (wrap64 (1 - x221000_1)) < (t229.length : Int) then ((impl_MayTake.f x221000_1 x221001_1 x221002_1 x221003_1 (rd t229 (wrap64 (1 - x221000_1)))).bind fun t238 => (laws_FnLeases.j3 k1 l0 x5_1 (rd x220001_1 x221000_1) x221000_1 t238 t228 t229 x221000_1 x221001_1 x221002_1 x221003_1)) else (none)) else (none)) = some true := by rw [if_pos rfl] at H; first | done | exact H
            clear H
            have H := H1
            clear H1
            obtain ⟨ji47, hji47⟩ : ∃ j_ : Int, (wrap64 (1 - x221000_1)) = j_ := ⟨_, rfl⟩
            replace H : (if 0 ≤ (ji47) then (if (ji47) < (t229.length : Int) then ((impl_MayTake.f x221000_1 x221001_1 x221002_1 x221003_1 (rd t229 (ji47))).bind fun t238 => (laws_FnLeases.j3 k1 l0 x5_1 (rd x220001_1 x221000_1) x221000_1 t238 t228 t229 x221000_1 x221001_1 x221002_1 x221003_1)) else (none)) else (none)) = some true := by first | (rw [hji47] at H; exact H) | (simp only [hji47] at H ⊢; exact H)
            (try rw [hji47] at A45)
            have hji47w : (IntKind.i64.wrap (1 - x221000_1)) = ji47 := (i64_w _).trans hji47
            by_cases c48 : 0 ≤ (ji47)
            ·
             rw [if_pos c48] at H
             have c48b0 : decide (0 ≤ (ji47)) = true := decide_eq_true c48
             clear c48
             by_cases c49 : (ji47) < (t229.length : Int)
             ·
              rw [if_pos c49] at H
              have c49b0 : decide ((ji47) < (t229.length : Int)) = true := decide_eq_true c49
              clear c49
              replace H := Option.bind_eq_some_iff.mp H
              obtain ⟨t238, A500, H⟩ := H
              replace H : (laws_FnLeases.j3 k1 l0 x5_1 (rd x220001_1 x221000_1) x221000_1 t238 t228 t229 x221000_1 x221001_1 x221002_1 x221003_1) = some true := H
              have A50 := Aside0.mk A500
              clear A500
              have H' := Aside0.mk H
              clear H
              try go_wp2
              have n0_ : Aside0 (Kd.R (Kd.int .i64) 2 ((w39.setCell ⟨gb219, 0, none⟩ (.int .i64 t228)).setCell ⟨gb219, 1, none⟩ (.slice Ao34 t229.length co34)) w.heap.size (fun k_ => some k_ ≠ (v225 : Value).ownBlock ∧ some k_ ≠ (.slice Ao34 t229.length co34 : Value).ownBlock) (.slice (some ad234) x220001_1.length co24) x220001_1) := ⟨by (with_reducible repeat (first | apply Kd.R_alloc | apply Kd.R_drewN | apply Kd.R_drew)); exact Kd.R_mono (RF (RF (Kd.R_types HO_220001.out BK219.out (by decide)))) (fun _ hk => ⟨hk.1.1, hk.1.2⟩)⟩
              have n1_ : Aside0 (Kd.R (Kd.int .i64) 2 ((w39.setCell ⟨gb219, 0, none⟩ (.int .i64 t228)).setCell ⟨gb219, 1, none⟩ (.slice Ao34 t229.length co34)) w.heap.size (fun k_ => some k_ ≠ (.slice (some ad234) x220001_1.length co24 : Value).ownBlock ∧ some k_ ≠ (.slice Ao34 t229.length co34 : Value).ownBlock) v225 y224) := ⟨by (with_reducible repeat (first | apply Kd.R_alloc | apply Kd.R_drewN | apply Kd.R_drew)); exact Kd.R_mono (RF (RF (Kd.R_types HO226.out BK219.out (by decide)))) (fun _ hk => ⟨hk.1.2, hk.1.1⟩)⟩
              have n2_ : Aside0 (Kd.R (Kd.int .i64) 2 ((w39.setCell ⟨gb219, 0, none⟩ (.int .i64 t228)).setCell ⟨gb219, 1, none⟩ (.slice Ao34 t229.length co34)) w.heap.size (fun k_ => some k_ ≠ (.slice (some ad234) x220001_1.length co24 : Value).ownBlock ∧ some k_ ≠ (v225 : Value).ownBlock) (.slice Ao34 t229.length co34) t229) := ⟨by (with_reducible repeat (first | apply Kd.R_alloc | apply Kd.R_drewN | apply Kd.R_drew)); exact Kd.R_mono (RF (RF (Kd.R_types HO231.out BK219.out (by decide)))) (fun _ hk => ⟨hk.1.2, hk.1.1⟩)⟩
              have n3_ : Aside0 (((w39.setCell ⟨gb219, 0, none⟩ (.int .i64 t228)).setCell ⟨gb219, 1, none⟩ (.slice Ao34 t229.length co34)).heap[gb219]? = some (.cells #[.int .i64 t228, .slice Ao34 t229.length co34] 71 (0, 0))) := ⟨by (with_reducible repeat (first | refine blk_drewN ?_ _ | refine blk_drew ?_ | refine blk_alloc ?_ _)); refine blk_put (cs := #[.int .i64 t228, .slice (some ad234) x220001_1.length co24]) ?_ 1 _ rfl; (with_reducible repeat (first | refine blk_drewN ?_ _ | refine blk_drew ?_ | refine blk_alloc ?_ _)); refine blk_put (cs := #[.int .i64 x220000_1, .slice (some ad234) x220001_1.length co24]) ?_ 0 _ rfl; (with_reducible repeat (first | refine blk_drewN ?_ _ | refine blk_drew ?_ | refine blk_alloc ?_ _)); exact BK219.out⟩
              have n4_ : Aside0 (((w39.setCell ⟨gb219, 0, none⟩ (.int .i64 t228)).setCell ⟨gb219, 1, none⟩ (.slice Ao34 t229.length co34)).heap[gb220]? = some (.cells #[.int .i64 x221000_1, .int .i64 x221001_1, .int .i64 x221002_1, .int .i64 x221003_1] 73 (0, 0))) := ⟨by (with_reducible repeat (first | refine blk_drewN ?_ _ | refine blk_drew ?_ | refine blk_alloc ?_ _)); refine blk_far ?_ NB220_219.out _; (with_reducible repeat (first | refine blk_drewN ?_ _ | refine blk_drew ?_ | refine blk_alloc ?_ _)); refine blk_far ?_ NB220_219.out _; (with_reducible repeat (first | refine blk_drewN ?_ _ | refine blk_drew ?_ | refine blk_alloc ?_ _)); exact BK220.out⟩
              have n5_ : Aside0 (((w39.setCell ⟨gb219, 0, none⟩ (.int .i64 t228)).setCell ⟨gb219, 1, none⟩ (.slice Ao34 t229.length co34)).heap[gb232]? = some (.cells #[.int .i64 t227, .int .i64 t228, .slice Ao34 t229.length co34] 75 (0, 0))) := ⟨by (with_reducible repeat (first | refine blk_drewN ?_ _ | refine blk_drew ?_ | refine blk_alloc ?_ _)); refine blk_far ?_ NB232_219.out _; (with_reducible repeat (first | refine blk_drewN ?_ _ | refine blk_drew ?_ | refine blk_alloc ?_ _)); refine blk_far ?_ NB232_219.out _; (with_reducible repeat (first | refine blk_drewN ?_ _ | refine blk_drew ?_ | refine blk_alloc ?_ _)); exact BK232.out⟩
              have n6_ : Aside0 (Below w.heap.size w ((w39.setCell ⟨gb219, 0, none⟩ (.int .i64 t228)).setCell ⟨gb219, 1, none⟩ (.slice Ao34 t229.length co34))) := ⟨bel HB⟩
              (try clear HO_220001)
              (try clear HO226)
              (try clear HO231)
              (try clear BK219)
              (try clear BK220)
              (try clear BK232)
              (try clear HB)
              generalize ((w39.setCell ⟨gb219, 0, none⟩ (.int .i64 t228)).setCell ⟨gb219, 1, none⟩ (.slice Ao34 t229.length co34)) = w51 at n0_ n1_ n2_ n3_ n4_ n5_ n6_ ⊢
              have HO_220001 := n0_
              have HO226 := n1_
              have HO231 := n2_
              have BK219 := n3_
              have BK220 := n4_
              have BK232 := n5_
              have HB := n6_
              clear n0_ n1_ n2_ n3_ n4_ n5_ n6_
              replace HO_220001 := am (Kd.R_drew HO_220001.out)
              replace HO226 := am (Kd.R_drew HO226.out)
              replace HO231 := am (Kd.R_drew HO231.out)
              replace BK219 := am (blk_drew BK219.out)
              replace BK220 := am (blk_drew BK220.out)
              replace BK232 := am (blk_drew BK232.out)
              replace HB := am (below_drew1 HB.out)
              have p235 : 0 ≤ (x221000_1 : Int) := of_decide_eq_true (by first | (with_reducible assumption) | assumption)
              have q235 : x221000_1 < (t229.length : Int) := of_decide_eq_true (by first | (with_reducible assumption) | assumption)
              obtain ⟨ad235, e235, hx235_0⟩ := Kd.at_int (Kd.R_reads' HO231.out).2.2 x221000_1 p235 q235
              cases e235
              replace p235 := eq_true p235
              replace q235 := eq_true q235
              have p237 : 0 ≤ ((ji47) : Int) := of_decide_eq_true (by first | (with_reducible assumption) | assumption)
              have q237 : (ji47) < (t229.length : Int) := of_decide_eq_true (by first | (with_reducible assumption) | assumption)
              obtain ⟨ad237, e237, hx237_0⟩ := Kd.at_int (Kd.R_reads' HO231.out).2.2 (ji47) p237 q237
              obtain rfl : ad235 = ad237 := (by injection e237)
              replace p237 := eq_true p237
              replace q237 := eq_true q237
              refine start_ (n := 17) (S := fun w' => w'.cell? ⟨gb220, 0, none⟩ = some (.int .i64 x221000_1) ∧ w'.cell? ⟨gb220, 1, none⟩ = some (.int .i64 x221001_1) ∧ w'.cell? ⟨gb220, 2, none⟩ = some (.int .i64 x221002_1) ∧ w'.cell? ⟨gb220, 3, none⟩ = some (.int .i64 x221003_1) ∧ w'.cell? ⟨gb219, 0, none⟩ = some (.int .i64 t228) ∧ w'.cell? ⟨gb219, 1, none⟩ = some (.slice (some ad235) t229.length co34) ∧ w'.cell? (ad235.add (x221000_1).toNat) = some (.int .i64 (rd t229 x221000_1)) ∧ w'.cell? (ad235.add ((ji47)).toNat) = some (.int .i64 (rd t229 (ji47)))) (ds := []) #[false, false, false, false, false, false, false, false, false, false, false, false, false, false, false, false, false] (by kernel_rfl) rfl rfl ⟨(blk_cell BK220.out 0).trans rfl, (blk_cell BK220.out 1).trans rfl, (blk_cell BK220.out 2).trans rfl, (blk_cell BK220.out 3).trans rfl, (blk_cell BK219.out 0).trans rfl, (blk_cell BK219.out 1).trans rfl, hx235_0, hx237_0⟩ (fun hHeld => ?_); refine with_tabW laws_FnLeases.tab14 laws_FnLeases.bits14 (fun HT_ HW_ => ?_)
              generalize w51.drew = w52 at HO_220001 HO226 HO231 BK219 BK220 BK232 HB hx235_0 hx237_0 hHeld ⊢
              refine pA 1 65 [0, 1, 1, 15] ?_
              refine pA 3 67 [0, 1, 1, 1, 1, 13] ?_
              refine tA 0 64 [2, 1, 1, 13] (hv := by rintro w' ⟨s0, s1, s2, s3, s4, s5, s6, s7⟩; go_simp; with_reducible rfl) (h := ?_)
              refine tA 2 66 [4, 13] (hv := by rintro w' ⟨s0, s1, s2, s3, s4, s5, s6, s7⟩; go_simp; with_reducible rfl) (h := ?_)
              refine pA 4 68 [5, 12] ?_
              refine tA 5 69 [6, 11] (hv := by rintro w' ⟨s0, s1, s2, s3, s4, s5, s6, s7⟩; go_simp; with_reducible rfl) (h := ?_)
              refine one_ (i := 6) (N := some 70) (tr [7, 10]) rfl rfl (one_of HT_.out (by kernel_rfl)) (by decide) (fun K hK => ?_)
              refine goes_ Try.func43 (by kernel_rfl) rfl #[.agg #[.int .i64 x221000_1, .int .i64 x221001_1, .int .i64 x221002_1, .int .i64 x221003_1], .int .i64 (rd t229 x221000_1)] (by rfl) rfl rfl (by (try simp only [List.map_toArray, List.map_cons, List.map_nil]); first | done | rfl | (simp only [List.length_drop, List.length_take]; rfl)) ?_
              with_reducible refine (impl_MayLead.calls x221000_1 x221001_1 x221002_1 x221003_1 (rd t229 x221000_1) true _ A45.out).mono ?_
              rintro e w53 ⟨rfl, hb⟩
              have HS6_ := (hb.cell (World.block_lt_of_cell? _ _ (hHeld.2.2.2.2.2.2.1))).trans (hHeld.2.2.2.2.2.2.1)
              have HS7_ := (hb.cell (World.block_lt_of_cell? _ _ (hHeld.2.2.2.2.2.2.2))).trans (hHeld.2.2.2.2.2.2.2)
              refine ⟨_, rfl, ?_⟩
              replace HO_220001 := am (Kd.R_below (mR HO_220001) hb)
              replace HO226 := am (Kd.R_below (mR HO226) hb)
              replace HO231 := am (Kd.R_below (mR HO231) hb)
              replace BK219 := bK BK219 hb
              replace BK220 := bK BK220 hb
              replace BK232 := bK BK232 hb
              replace HB := bS HB hb
              (try clear hb)
              (try clear hb2)
              (try clear hk)
              (try clear hi)
              refine hK.out _ _ ⟨(blk_cell BK220.out 0).trans rfl, (blk_cell BK220.out 1).trans rfl, (blk_cell BK220.out 2).trans rfl, (blk_cell BK220.out 3).trans rfl, (blk_cell BK219.out 0).trans rfl, (blk_cell BK219.out 1).trans rfl, HS6_, HS7_⟩ (fun hHeld => ?_)
              clear hK K
              refine norm_ (a' := ?_) ?_ ?_
              rotate_left
              ·
               show Act.put _ (some 70) _ = _
               simp only [Act.put, List.setIfInBounds_toArray, List.set_cons_zero, List.set_cons_succ, i64_w, i32_w]
               rfl
              refine pA 7 71 [8, 9] ?_
              refine pA 9 73 [8, 1, 1, 7] ?_
              refine pA 11 75 [8, 1, 1, 1, 1, 5] ?_
              refine pA 12 76 [8, 1, 1, 1, 2, 4] ?_
              refine tA 8 72 [10, 1, 2, 4] (hv := by rintro w' ⟨s0, s1, s2, s3, s4, s5, s6, s7⟩; go_simp; with_reducible rfl) (h := ?_)
              refine tA 10 74 [13, 4] (hv := by rintro w' ⟨s0, s1, s2, s3, s4, s5, s6, s7⟩; go_simp; with_reducible rfl) (h := ?_)
              refine pA 13 77 [14, 3] ?_
              refine tA 14 78 [15, 2] (hv := by rintro w' ⟨s0, s1, s2, s3, s4, s5, s6, s7⟩; go_simp; with_reducible rfl) (h := ?_)
              refine one_ (i := 15) (N := some 79) (tr [16, 1]) rfl rfl (one_of HT_.out (by kernel_rfl)) (by decide) (fun K hK => ?_)
              refine goes_ Try.func44 (by kernel_rfl) rfl #[.agg #[.int .i64 x221000_1, .int .i64 x221001_1, .int .i64 x221002_1, .int .i64 x221003_1], .int .i64 (rd t229 (ji47))] (by rfl) rfl rfl (by (try simp only [List.map_toArray, List.map_cons, List.map_nil]); first | done | (simp only [hji47]; rfl) | rfl | (simp only [List.length_drop, List.length_take]; rfl)) ?_
              with_reducible refine (impl_MayTake.calls x221000_1 x221001_1 x221002_1 x221003_1 (rd t229 (ji47)) t238 _ A50.out).mono ?_
              rintro e w54 ⟨rfl, hb⟩
              have HS6_ := (hb.cell (World.block_lt_of_cell? _ _ (hHeld.2.2.2.2.2.2.1))).trans (hHeld.2.2.2.2.2.2.1)
              have HS7_ := (hb.cell (World.block_lt_of_cell? _ _ (hHeld.2.2.2.2.2.2.2))).trans (hHeld.2.2.2.2.2.2.2)
              refine ⟨_, rfl, ?_⟩
              replace HO_220001 := am (Kd.R_below (mR HO_220001) hb)
              replace HO226 := am (Kd.R_below (mR HO226) hb)
              replace HO231 := am (Kd.R_below (mR HO231) hb)
              replace BK219 := bK BK219 hb
              replace BK220 := bK BK220 hb
              replace BK232 := bK BK232 hb
              replace HB := bS HB hb
              (try clear hb)
              (try clear hb2)
              (try clear hk)
              (try clear hi)
              refine hK.out _ _ ⟨(blk_cell BK220.out 0).trans rfl, (blk_cell BK220.out 1).trans rfl, (blk_cell BK220.out 2).trans rfl, (blk_cell BK220.out 3).trans rfl, (blk_cell BK219.out 0).trans rfl, (blk_cell BK219.out 1).trans rfl, HS6_, HS7_⟩ (fun hHeld => ?_)
              clear hK K
              refine norm_ (a' := ?_) ?_ ?_
              rotate_left
              ·
               show Act.put _ (some 79) _ = _
               simp only [Act.put, List.setIfInBounds_toArray, List.set_cons_zero, List.set_cons_succ, i64_w, i32_w]
               rfl
              refine pA 16 80 [17] ?_
              refine done_ (done_of HT_.out (by kernel_rfl)) ?_
              try go_wp2
              first | go_meet | (refine Met.intro ?_; go_step; (repeat apply Exists.intro); refine ⟨?rel, ?eqq⟩; (case eqq => (try simp only [c12b0]); (try simp only [c17b0]); (try simp only [c19b0]); (try simp only [c20b0]); (try simp only [c21b0]); (try simp only [c22b0]); (try simp only [c44b0]); (try simp only [c48b0]); (try simp only [c49b0]); rfl))
              case rel => exact ⟨_, (t238), (by first | rfl | (simp; done) | (simp [*]; done)), H', ⟨by have := HK1.out; first | omega | exact Nat.le_refl _⟩, ⟨by (with_reducible repeat (first | apply Kd.R_alloc | apply Kd.R_drewN | apply Kd.R_drew)); exact Kd.R_mono HO231.out (fun _ hk => trivial)⟩, ⟨by (with_reducible repeat (first | apply Kd.R_alloc | apply Kd.R_drewN | apply Kd.R_drew)); exact Kd.R_mono HO231.out (fun _ hk => trivial)⟩, ⟨by (with_reducible repeat (first | refine blk_drewN ?_ _ | refine blk_drew ?_ | refine blk_alloc ?_ _)); exact BK219.out⟩, ⟨by (with_reducible repeat (first | refine blk_drewN ?_ _ | refine blk_drew ?_ | refine blk_alloc ?_ _)); exact BK220.out⟩, ⟨by (with_reducible repeat (first | refine blk_drewN ?_ _ | refine blk_drew ?_ | refine blk_alloc ?_ _)); exact BK232.out⟩, ⟨bel HB⟩⟩
             rw [if_neg c49] at H
             exact absurd H (by simp)
            rw [if_neg c48] at H
            exact absurd H (by simp)
           replace c46 := Bool.eq_false_iff.mpr c46
           subst c46
           have H1 : (laws_FnLeases.j3 k1 l0 x5_1 (rd x220001_1 x221000_1) x221000_1 false t228 t229 x221000_1 x221001_1 x221002_1 x221003_1) = some true := by rw [if_neg (show ¬ (false = true) by decide)] at H; first | done | exact H
           clear H
           have H := H1
           clear H1
           have H' := Aside0.mk H
           clear H
           try go_wp2
           have n0_ : Aside0 (Kd.R (Kd.int .i64) 2 ((w39.setCell ⟨gb219, 0, none⟩ (.int .i64 t228)).setCell ⟨gb219, 1, none⟩ (.slice Ao34 t229.length co34)) w.heap.size (fun k_ => some k_ ≠ (v225 : Value).ownBlock ∧ some k_ ≠ (.slice Ao34 t229.length co34 : Value).ownBlock) (.slice (some ad234) x220001_1.length co24) x220001_1) := ⟨by (with_reducible repeat (first | apply Kd.R_alloc | apply Kd.R_drewN | apply Kd.R_drew)); exact Kd.R_mono (RF (RF (Kd.R_types HO_220001.out BK219.out (by decide)))) (fun _ hk => ⟨hk.1.1, hk.1.2⟩)⟩
           have n1_ : Aside0 (Kd.R (Kd.int .i64) 2 ((w39.setCell ⟨gb219, 0, none⟩ (.int .i64 t228)).setCell ⟨gb219, 1, none⟩ (.slice Ao34 t229.length co34)) w.heap.size (fun k_ => some k_ ≠ (.slice (some ad234) x220001_1.length co24 : Value).ownBlock ∧ some k_ ≠ (.slice Ao34 t229.length co34 : Value).ownBlock) v225 y224) := ⟨by (with_reducible repeat (first | apply Kd.R_alloc | apply Kd.R_drewN | apply Kd.R_drew)); exact Kd.R_mono (RF (RF (Kd.R_types HO226.out BK219.out (by decide)))) (fun _ hk => ⟨hk.1.2, hk.1.1⟩)⟩
           have n2_ : Aside0 (Kd.R (Kd.int .i64) 2 ((w39.setCell ⟨gb219, 0, none⟩ (.int .i64 t228)).setCell ⟨gb219, 1, none⟩ (.slice Ao34 t229.length co34)) w.heap.size (fun k_ => some k_ ≠ (.slice (some ad234) x220001_1.length co24 : Value).ownBlock ∧ some k_ ≠ (v225 : Value).ownBlock) (.slice Ao34 t229.length co34) t229) := ⟨by (with_reducible repeat (first | apply Kd.R_alloc | apply Kd.R_drewN | apply Kd.R_drew)); exact Kd.R_mono (RF (RF (Kd.R_types HO231.out BK219.out (by decide)))) (fun _ hk => ⟨hk.1.2, hk.1.1⟩)⟩
           have n3_ : Aside0 (((w39.setCell ⟨gb219, 0, none⟩ (.int .i64 t228)).setCell ⟨gb219, 1, none⟩ (.slice Ao34 t229.length co34)).heap[gb219]? = some (.cells #[.int .i64 t228, .slice Ao34 t229.length co34] 71 (0, 0))) := ⟨by (with_reducible repeat (first | refine blk_drewN ?_ _ | refine blk_drew ?_ | refine blk_alloc ?_ _)); refine blk_put (cs := #[.int .i64 t228, .slice (some ad234) x220001_1.length co24]) ?_ 1 _ rfl; (with_reducible repeat (first | refine blk_drewN ?_ _ | refine blk_drew ?_ | refine blk_alloc ?_ _)); refine blk_put (cs := #[.int .i64 x220000_1, .slice (some ad234) x220001_1.length co24]) ?_ 0 _ rfl; (with_reducible repeat (first | refine blk_drewN ?_ _ | refine blk_drew ?_ | refine blk_alloc ?_ _)); exact BK219.out⟩
           have n4_ : Aside0 (((w39.setCell ⟨gb219, 0, none⟩ (.int .i64 t228)).setCell ⟨gb219, 1, none⟩ (.slice Ao34 t229.length co34)).heap[gb220]? = some (.cells #[.int .i64 x221000_1, .int .i64 x221001_1, .int .i64 x221002_1, .int .i64 x221003_1] 73 (0, 0))) := ⟨by (with_reducible repeat (first | refine blk_drewN ?_ _ | refine blk_drew ?_ | refine blk_alloc ?_ _)); refine blk_far ?_ NB220_219.out _; (with_reducible repeat (first | refine blk_drewN ?_ _ | refine blk_drew ?_ | refine blk_alloc ?_ _)); refine blk_far ?_ NB220_219.out _; (with_reducible repeat (first | refine blk_drewN ?_ _ | refine blk_drew ?_ | refine blk_alloc ?_ _)); exact BK220.out⟩
           have n5_ : Aside0 (((w39.setCell ⟨gb219, 0, none⟩ (.int .i64 t228)).setCell ⟨gb219, 1, none⟩ (.slice Ao34 t229.length co34)).heap[gb232]? = some (.cells #[.int .i64 t227, .int .i64 t228, .slice Ao34 t229.length co34] 75 (0, 0))) := ⟨by (with_reducible repeat (first | refine blk_drewN ?_ _ | refine blk_drew ?_ | refine blk_alloc ?_ _)); refine blk_far ?_ NB232_219.out _; (with_reducible repeat (first | refine blk_drewN ?_ _ | refine blk_drew ?_ | refine blk_alloc ?_ _)); refine blk_far ?_ NB232_219.out _; (with_reducible repeat (first | refine blk_drewN ?_ _ | refine blk_drew ?_ | refine blk_alloc ?_ _)); exact BK232.out⟩
           have n6_ : Aside0 (Below w.heap.size w ((w39.setCell ⟨gb219, 0, none⟩ (.int .i64 t228)).setCell ⟨gb219, 1, none⟩ (.slice Ao34 t229.length co34))) := ⟨bel HB⟩
           (try clear HO_220001)
           (try clear HO226)
           (try clear HO231)
           (try clear BK219)
           (try clear BK220)
           (try clear BK232)
           (try clear HB)
           generalize ((w39.setCell ⟨gb219, 0, none⟩ (.int .i64 t228)).setCell ⟨gb219, 1, none⟩ (.slice Ao34 t229.length co34)) = w55 at n0_ n1_ n2_ n3_ n4_ n5_ n6_ ⊢
           have HO_220001 := n0_
           have HO226 := n1_
           have HO231 := n2_
           have BK219 := n3_
           have BK220 := n4_
           have BK232 := n5_
           have HB := n6_
           clear n0_ n1_ n2_ n3_ n4_ n5_ n6_
           replace HO_220001 := am (Kd.R_drew HO_220001.out)
           replace HO226 := am (Kd.R_drew HO226.out)
           replace HO231 := am (Kd.R_drew HO231.out)
           replace BK219 := am (blk_drew BK219.out)
           replace BK220 := am (blk_drew BK220.out)
           replace BK232 := am (blk_drew BK232.out)
           replace HB := am (below_drew1 HB.out)
           have p235 : 0 ≤ (x221000_1 : Int) := of_decide_eq_true (by first | (with_reducible assumption) | assumption)
           have q235 : x221000_1 < (t229.length : Int) := of_decide_eq_true (by first | (with_reducible assumption) | assumption)
           obtain ⟨ad235, e235, hx235_0⟩ := Kd.at_int (Kd.R_reads' HO231.out).2.2 x221000_1 p235 q235
           cases e235
           replace p235 := eq_true p235
           replace q235 := eq_true q235
           refine start_ (n := 17) (S := fun w' => w'.cell? ⟨gb220, 0, none⟩ = some (.int .i64 x221000_1) ∧ w'.cell? ⟨gb220, 1, none⟩ = some (.int .i64 x221001_1) ∧ w'.cell? ⟨gb220, 2, none⟩ = some (.int .i64 x221002_1) ∧ w'.cell? ⟨gb220, 3, none⟩ = some (.int .i64 x221003_1) ∧ w'.cell? ⟨gb219, 0, none⟩ = some (.int .i64 t228) ∧ w'.cell? ⟨gb219, 1, none⟩ = some (.slice (some ad235) t229.length co34) ∧ w'.cell? (ad235.add (x221000_1).toNat) = some (.int .i64 (rd t229 x221000_1))) (ds := []) #[false, false, false, false, false, false, false, false, false, false, false, false, false, false, false, false, false] (by kernel_rfl) rfl rfl ⟨(blk_cell BK220.out 0).trans rfl, (blk_cell BK220.out 1).trans rfl, (blk_cell BK220.out 2).trans rfl, (blk_cell BK220.out 3).trans rfl, (blk_cell BK219.out 0).trans rfl, (blk_cell BK219.out 1).trans rfl, hx235_0⟩ (fun hHeld => ?_); refine with_tabW laws_FnLeases.tab14 laws_FnLeases.bits14 (fun HT_ HW_ => ?_)
           generalize w55.drew = w56 at HO_220001 HO226 HO231 BK219 BK220 BK232 HB hx235_0 hHeld ⊢
           refine pA 1 65 [0, 1, 1, 15] ?_
           refine pA 3 67 [0, 1, 1, 1, 1, 13] ?_
           refine tA 0 64 [2, 1, 1, 13] (hv := by rintro w' ⟨s0, s1, s2, s3, s4, s5, s6⟩; go_simp; with_reducible rfl) (h := ?_)
           refine tA 2 66 [4, 13] (hv := by rintro w' ⟨s0, s1, s2, s3, s4, s5, s6⟩; go_simp; with_reducible rfl) (h := ?_)
           refine pA 4 68 [5, 12] ?_
           refine tA 5 69 [6, 11] (hv := by rintro w' ⟨s0, s1, s2, s3, s4, s5, s6⟩; go_simp; with_reducible rfl) (h := ?_)
           refine one_ (i := 6) (N := some 70) (tr [7, 10]) rfl rfl (one_of HT_.out (by kernel_rfl)) (by decide) (fun K hK => ?_)
           refine goes_ Try.func43 (by kernel_rfl) rfl #[.agg #[.int .i64 x221000_1, .int .i64 x221001_1, .int .i64 x221002_1, .int .i64 x221003_1], .int .i64 (rd t229 x221000_1)] (by rfl) rfl rfl (by (try simp only [List.map_toArray, List.map_cons, List.map_nil]); first | done | rfl | (simp only [List.length_drop, List.length_take]; rfl)) ?_
           with_reducible refine (impl_MayLead.calls x221000_1 x221001_1 x221002_1 x221003_1 (rd t229 x221000_1) false _ A45.out).mono ?_
           rintro e w57 ⟨rfl, hb⟩
           have HS6_ := (hb.cell (World.block_lt_of_cell? _ _ (hHeld.2.2.2.2.2.2))).trans (hHeld.2.2.2.2.2.2)
           refine ⟨_, rfl, ?_⟩
           replace HO_220001 := am (Kd.R_below (mR HO_220001) hb)
           replace HO226 := am (Kd.R_below (mR HO226) hb)
           replace HO231 := am (Kd.R_below (mR HO231) hb)
           replace BK219 := bK BK219 hb
           replace BK220 := bK BK220 hb
           replace BK232 := bK BK232 hb
           replace HB := bS HB hb
           (try clear hb)
           (try clear hb2)
           (try clear hk)
           (try clear hi)
           refine hK.out _ _ ⟨(blk_cell BK220.out 0).trans rfl, (blk_cell BK220.out 1).trans rfl, (blk_cell BK220.out 2).trans rfl, (blk_cell BK220.out 3).trans rfl, (blk_cell BK219.out 0).trans rfl, (blk_cell BK219.out 1).trans rfl, HS6_⟩ (fun hHeld => ?_)
           clear hK K
           refine norm_ (a' := ?_) ?_ ?_
           rotate_left
           ·
            show Act.put _ (some 70) _ = _
            simp only [Act.put, List.setIfInBounds_toArray, List.set_cons_zero, List.set_cons_succ, i64_w, i32_w]
            rfl
           refine pA 7 71 [8, 9] ?_
           refine pU 8 72 [9, 8] ?_
           refine pU 9 73 [10, 7] ?_
           refine pU 10 74 [11, 6] ?_
           refine pU 11 75 [12, 5] ?_
           refine pU 12 76 [13, 4] ?_
           refine pU 13 77 [14, 3] ?_
           refine pU 14 78 [15, 2] ?_
           refine pU 15 79 [16, 1] ?_
           refine pA 16 80 [17] ?_
           refine done_ (done_of HT_.out (by kernel_rfl)) ?_
           try go_wp2
           first | go_meet | (refine Met.intro ?_; go_step; (repeat apply Exists.intro); refine ⟨?rel, ?eqq⟩; (case eqq => (try simp only [c12b0]); (try simp only [c17b0]); (try simp only [c19b0]); (try simp only [c20b0]); (try simp only [c21b0]); (try simp only [c22b0]); (try simp only [c44b0]); rfl))
           case rel => exact ⟨_, (false), (by first | rfl | (simp; done) | (simp [*]; done)), H', ⟨by have := HK1.out; first | omega | exact Nat.le_refl _⟩, ⟨by (with_reducible repeat (first | apply Kd.R_alloc | apply Kd.R_drewN | apply Kd.R_drew)); exact Kd.R_mono HO231.out (fun _ hk => trivial)⟩, ⟨by (with_reducible repeat (first | apply Kd.R_alloc | apply Kd.R_drewN | apply Kd.R_drew)); exact Kd.R_mono HO231.out (fun _ hk => trivial)⟩, ⟨by (with_reducible repeat (first | refine blk_drewN ?_ _ | refine blk_drew ?_ | refine blk_alloc ?_ _)); exact BK219.out⟩, ⟨by (with_reducible repeat (first | refine blk_drewN ?_ _ | refine blk_drew ?_ | refine blk_alloc ?_ _)); exact BK220.out⟩, ⟨by (with_reducible repeat (first | refine blk_drewN ?_ _ | refine blk_drew ?_ | refine blk_alloc ?_ _)); exact BK232.out⟩, ⟨bel HB⟩⟩
          rw [if_neg c44] at H
          exact absurd H (by simp)
         case rest =>
          clear HC23
          try clear c1
          try clear c2
          try clear p2
          try clear q2
          try clear hx2
          try clear c3
          try clear c4
          try clear p6
          try clear c12
          try clear c12b0
          try clear c17
          try clear c17b0
          try clear c19
          try clear c19b0
          try clear c20
          try clear c20b0
          try clear c21
          try clear c21b0
          try clear c22
          try clear c22b0
          try clear p23
          try clear q23
          try clear hx23
          try clear c36
          try clear c37
          try clear c41
          try clear c43
          try clear c44
          try clear c44b0
          try clear c46
          try clear c48
          try clear c48b0
          try clear c49
          try clear c49b0
          try clear hz38
          try clear hz40
          try clear hz42
          try clear hz43
          try clear hx234_0
          try clear hx235_0
          try clear hx237_0
          try clear p234
          try clear p235
          try clear p237
          try clear q234
          try clear q235
          try clear q237
          obtain ⟨kq, x80_22, rfl, HA, HJ22, HO_220001, HO_233002, BK219, BK220, BK232, HB⟩ := hcut
          cases kq with
          | zero => exact absurd HA.out (by simp [laws_FnLeases.j3])
          | succ kj22 =>
           have H := HA.out
           clear HA
           simp only [laws_FnLeases.j3] at H
           by_cases c58 : x80_22 = true
           ·
            subst c58
            have H1 : (some false) = some true := by rw [if_pos rfl] at H; first | done | exact H
            clear H
            have H := H1
            clear H1
            exact absurd H (by simp)
           replace c58 := Bool.eq_false_iff.mpr c58
           subst c58
           have H1 : ((laws_lwAt.f l0 (wrap64 (x5_1 + 120)) 4).bind fun t291 => (if t291 = 0 then (if 0 ≤ (wrap64 (1 - x221000_1)) then (if (wrap64 (1 - x221000_1)) < (t229.length : Int) then ((impl_GrantLease.f kj22 x221000_1 x221001_1 x221002_1 x221003_1 (rd x220001_1 x221000_1) (rd t229 (wrap64 (1 - x221000_1)))).bind fun bt293 => (if bt293.1 = 0 then ((impl_LeaseFault.f bt293.2.1 bt293.2.2.1 bt293.2.2.2.1 bt293.2.2.2.2).bind fun t299 => (if t299 = 0 then (laws_FnLeases.l0 kj22 l0 (wrap64 (x5_1 + 1)) t228 t229 bt293.2.1 bt293.2.2.1 bt293.2.2.2.1 bt293.2.2.2.2) else (some false))) else ((impl_LeaseFault.f x221000_1 x221001_1 x221002_1 x221003_1).bind fun t300 => (if t300 = 0 then (laws_FnLeases.l0 kj22 l0 (wrap64 (x5_1 + 1)) t228 t229 x221000_1 x221001_1 x221002_1 x221003_1) else (some false))))) else (none)) else (none)) else (if t291 = 1 then (if 0 ≤ (wrap64 (1 - x221000_1)) then (if (wrap64 (1 - x221000_1)) < (t229.length : Int) then ((impl_TakeLease.f x221000_1 x221001_1 x221002_1 x221003_1 (rd t229 (wrap64 (1 - x221000_1)))).bind fun bt302 => ((impl_MayTake.f x221000_1 x221001_1 x221002_1 x221003_1 (rd t229 (wrap64 (1 - x221000_1)))).bind fun t309 => (if ((bt302.1 == 0) != t309) = true then (laws_FnLeases.j4 kj22 l0 x5_1 true t228 t229 x221000_1 x221001_1 x221002_1 x221003_1 bt302.1 bt302.2.1 bt302.2.2.1 bt302.2.2.2.1 bt302.2.2.2.2) else (if bt302.1 = 0 then (if bt302.2.1 = (wrap64 (1 - x221000_1)) then (if bt302.2.2.1 = (wrap64 (x221001_1 + 1)) then (if 0 ≤ x221000_1 then (if x221000_1 < (t229.length : Int) then ((impl_MayLead.f x221000_1 x221001_1 x221002_1 x221003_1 (rd t229 x221000_1)).bind fun t311 => (laws_FnLeases.j4 kj22 l0 x5_1 t311 t228 t229 x221000_1 x221001_1 x221002_1 x221003_1 bt302.1 bt302.2.1 bt302.2.2.1 bt302.2.2.2.1 bt302.2.2.2.2)) else (none)) else (none)) else (laws_FnLeases.j4 kj22 l0 x5_1 true t228 t229 x221000_1 x221001_1 x221002_1 x221003_1 bt302.1 bt302.2.1 bt302.2.2.1 bt302.2.2.2.1 bt302.2.2.2.2)) else (laws_FnLeases.j4 kj22 l0 x5_1 true t228 t229 x221000_1 x221001_1 x221002_1 x221003_1 bt302.1 bt302.2.1 bt302.2.2.1 bt302.2.2.2.1 bt302.2.2.2.2)) else (laws_FnLeases.j4 kj22 l0 x5_1 false t228 t229 x221000_1 x221001_1 x221002_1 x221003_1 bt302.1 bt302.2.1 bt302.2.2.1 bt302.2.2.2.1 bt302.2.2.2.2))))) else (none)) else (none)) else ((impl_LeaseFault.f x221000_1 x221001_1 x221002_1 x221003_1).bind fun t316 => (if t316 = 0 then (laws_FnLeases.l0 kj22 l0 (wrap64 (x5_1 + 1)) t228 t229 x221000_1 x221001_1 x221002_1 x221003_1) else (some false)))))) = some true := by rw [if_neg (show ¬ (false = true) by decide)] at H; first | done | exact H
           clear H
           have H := H1
           clear H1
           replace H := Option.bind_eq_some_iff.mp H
           obtain ⟨t291, A590, H⟩ := H
           replace H : (if t291 = 0 then (if 0 ≤ (wrap64 (1 - x221000_1)) then (if (wrap64 (1 - x221000_1)) < (t229.length : Int) then ((impl_GrantLease.f kj22 x221000_1 x221001_1 x221002_1 x221003_1 (rd x220001_1 x221000_1) (rd t229 (wrap64 (1 - x221000_1)))).bind fun bt293 => (if bt293.1 = 0 then ((impl_LeaseFault.f bt293.2.1 bt293.2.2.1 bt293.2.2.2.1 bt293.2.2.2.2).bind fun t299 => (if t299 = 0 then (laws_FnLeases.l0 kj22 l0 (wrap64 (x5_1 + 1)) t228 t229 bt293.2.1 bt293.2.2.1 bt293.2.2.2.1 bt293.2.2.2.2) else (some false))) else ((impl_LeaseFault.f x221000_1 x221001_1 x221002_1 x221003_1).bind fun t300 => (if t300 = 0 then (laws_FnLeases.l0 kj22 l0 (wrap64 (x5_1 + 1)) t228 t229 x221000_1 x221001_1 x221002_1 x221003_1) else (some false))))) else (none)) else (none)) else (if t291 = 1 then (if 0 ≤ (wrap64 (1 - x221000_1)) then (if (wrap64 (1 - x221000_1)) < (t229.length : Int) then ((impl_TakeLease.f x221000_1 x221001_1 x221002_1 x221003_1 (rd t229 (wrap64 (1 - x221000_1)))).bind fun bt302 => ((impl_MayTake.f x221000_1 x221001_1 x221002_1 x221003_1 (rd t229 (wrap64 (1 - x221000_1)))).bind fun t309 => (if ((bt302.1 == 0) != t309) = true then (laws_FnLeases.j4 kj22 l0 x5_1 true t228 t229 x221000_1 x221001_1 x221002_1 x221003_1 bt302.1 bt302.2.1 bt302.2.2.1 bt302.2.2.2.1 bt302.2.2.2.2) else (if bt302.1 = 0 then (if bt302.2.1 = (wrap64 (1 - x221000_1)) then (if bt302.2.2.1 = (wrap64 (x221001_1 + 1)) then (if 0 ≤ x221000_1 then (if x221000_1 < (t229.length : Int) then ((impl_MayLead.f x221000_1 x221001_1 x221002_1 x221003_1 (rd t229 x221000_1)).bind fun t311 => (laws_FnLeases.j4 kj22 l0 x5_1 t311 t228 t229 x221000_1 x221001_1 x221002_1 x221003_1 bt302.1 bt302.2.1 bt302.2.2.1 bt302.2.2.2.1 bt302.2.2.2.2)) else (none)) else (none)) else (laws_FnLeases.j4 kj22 l0 x5_1 true t228 t229 x221000_1 x221001_1 x221002_1 x221003_1 bt302.1 bt302.2.1 bt302.2.2.1 bt302.2.2.2.1 bt302.2.2.2.2)) else (laws_FnLeases.j4 kj22 l0 x5_1 true t228 t229 x221000_1 x221001_1 x221002_1 x221003_1 bt302.1 bt302.2.1 bt302.2.2.1 bt302.2.2.2.1 bt302.2.2.2.2)) else (laws_FnLeases.j4 kj22 l0 x5_1 false t228 t229 x221000_1 x221001_1 x221002_1 x221003_1 bt302.1 bt302.2.1 bt302.2.2.1 bt302.2.2.2.1 bt302.2.2.2.2))))) else (none)) else (none)) else ((impl_LeaseFault.f x221000_1 x221001_1 x221002_1 x221003_1).bind fun t316 => (if t316 = 0 then (laws_FnLeases.l0 kj22 l0 (wrap64 (x5_1 + 1)) t228 t229 x221000_1 x221001_1 x221002_1 x221003_1) else (some false))))) = some true := H
           have A59 := Aside0.mk A590
           clear A590
           by_cases c60 : t291 = 0
           ·
            rw [if_pos c60] at H
            have c60b0 : (t291 == 0) = true := beq_iff_eq.mpr c60
            have c60b1 : (t291 != 0) = false := bne_eq_false_iff_eq.mpr c60
            clear c60
            obtain ⟨ji61, hji61⟩ : ∃ j_ : Int, (wrap64 (1 - x221000_1)) = j_ := ⟨_, rfl⟩
            replace H : (if 0 ≤ (ji61) then (if (ji61) < (t229.length : Int) then ((impl_GrantLease.f kj22 x221000_1 x221001_1 x221002_1 x221003_1 (rd x220001_1 x221000_1) (rd t229 (ji61))).bind fun bt293 => (if bt293.1 = 0 then ((impl_LeaseFault.f bt293.2.1 bt293.2.2.1 bt293.2.2.2.1 bt293.2.2.2.2).bind fun t299 => (if t299 = 0 then (laws_FnLeases.l0 kj22 l0 (wrap64 (x5_1 + 1)) t228 t229 bt293.2.1 bt293.2.2.1 bt293.2.2.2.1 bt293.2.2.2.2) else (some false))) else ((impl_LeaseFault.f x221000_1 x221001_1 x221002_1 x221003_1).bind fun t300 => (if t300 = 0 then (laws_FnLeases.l0 kj22 l0 (wrap64 (x5_1 + 1)) t228 t229 x221000_1 x221001_1 x221002_1 x221003_1) else (some false))))) else (none)) else (none)) = some true := by first | (rw [hji61] at H; exact H) | (simp only [hji61] at H ⊢; exact H)
            (try rw [hji61] at A59)
            have hji61w : (IntKind.i64.wrap (1 - x221000_1)) = ji61 := (i64_w _).trans hji61
            by_cases c62 : 0 ≤ (ji61)
            ·
             rw [if_pos c62] at H
             have c62b0 : decide (0 ≤ (ji61)) = true := decide_eq_true c62
             clear c62
             by_cases c63 : (ji61) < (t229.length : Int)
             ·
              rw [if_pos c63] at H
              have c63b0 : decide ((ji61) < (t229.length : Int)) = true := decide_eq_true c63
              clear c63
              replace H := Option.bind_eq_some_iff.mp H
              obtain ⟨⟨t293, t294, t295, t296, t297⟩, A640, H⟩ := H
              replace H : (if t293 = 0 then ((impl_LeaseFault.f t294 t295 t296 t297).bind fun t299 => (if t299 = 0 then (laws_FnLeases.l0 kj22 l0 (wrap64 (x5_1 + 1)) t228 t229 t294 t295 t296 t297) else (some false))) else ((impl_LeaseFault.f x221000_1 x221001_1 x221002_1 x221003_1).bind fun t300 => (if t300 = 0 then (laws_FnLeases.l0 kj22 l0 (wrap64 (x5_1 + 1)) t228 t229 x221000_1 x221001_1 x221002_1 x221003_1) else (some false)))) = some true := H
              have A64 := Aside0.mk A640
              clear A640
              by_cases c65 : t293 = 0
              ·
               rw [if_pos c65] at H
               have c65b0 : (t293 == 0) = true := beq_iff_eq.mpr c65
               have c65b1 : (t293 != 0) = false := bne_eq_false_iff_eq.mpr c65
               clear c65
               replace H := Option.bind_eq_some_iff.mp H
               obtain ⟨t299, A660, H⟩ := H
               replace H : (if t299 = 0 then (laws_FnLeases.l0 kj22 l0 (wrap64 (x5_1 + 1)) t228 t229 t294 t295 t296 t297) else (some false)) = some true := H
               have A66 := Aside0.mk A660
               clear A660
               by_cases c67 : t299 = 0
               ·
                rw [if_pos c67] at H
                have c67b0 : (t299 == 0) = true := beq_iff_eq.mpr c67
                have c67b1 : (t299 != 0) = false := bne_eq_false_iff_eq.mpr c67
                clear c67
                have H' := Aside0.mk H
                clear H
                try go_wp2_with (first | ((with_reducible refine gate_callee (f := 41) rfl ?_); refine goA (some 84) rfl rfl Try.func41 rfl #[.slice A0 l0.length c0, .int .i64 (wrap64 (x5_1 + 120)), .int .i64 4] rfl ?_; (with_reducible refine (laws_lwAt.calls _ _ l0 (wrap64 (x5_1 + 120)) 4 t291 _ ?side1 ?side2 A59.out).mono ?_); (case side1 => exact mC HR0 HB); (case side2 => exact HC0.out); rintro e w' ⟨rfl, ⟨nd, rfl⟩⟩; refine ⟨_, rfl, ?_⟩; (try ((try simp only [World.drewN_drewN]); rw [drewN_self wc]; generalize hq_ : World.drewN wc _ = wc; replace HO_220001 := am (Kd.R_at hq_ HO_220001.out); replace HO_233002 := am (Kd.R_at hq_ HO_233002.out); replace BK219 := am (blk_at hq_ BK219.out); replace BK220 := am (blk_at hq_ BK220.out); replace BK232 := am (blk_at hq_ BK232.out); replace HB := am (below_at hq_ HB.out); clear hq_))))
                replace HO_220001 := am (Kd.R_drew HO_220001.out)
                replace HO_233002 := am (Kd.R_drew HO_233002.out)
                replace BK219 := am (blk_drew BK219.out)
                replace BK220 := am (blk_drew BK220.out)
                replace BK232 := am (blk_drew BK232.out)
                replace HB := am (below_drew1 HB.out)
                have p292 : 0 ≤ ((ji61) : Int) := of_decide_eq_true (by first | (with_reducible assumption) | assumption)
                have q292 : (ji61) < (t229.length : Int) := of_decide_eq_true (by first | (with_reducible assumption) | assumption)
                obtain ⟨ad292, e292, hx292_0⟩ := Kd.at_int (Kd.R_reads' HO_220001.out).2.2 (ji61) p292 q292
                cases e292
                replace p292 := eq_true p292
                replace q292 := eq_true q292
                refine start_ (n := 11) (S := fun w' => w'.cell? ⟨gb220, 0, none⟩ = some (.int .i64 x221000_1) ∧ w'.cell? ⟨gb220, 1, none⟩ = some (.int .i64 x221001_1) ∧ w'.cell? ⟨gb220, 2, none⟩ = some (.int .i64 x221002_1) ∧ w'.cell? ⟨gb220, 3, none⟩ = some (.int .i64 x221003_1) ∧ w'.cell? ⟨gb219, 0, none⟩ = some (.int .i64 t228) ∧ w'.cell? ⟨gb219, 1, none⟩ = some (.slice (some ad292) t229.length co34) ∧ w'.cell? (ad292.add ((ji61)).toNat) = some (.int .i64 (rd t229 (ji61)))) (ds := []) #[false, false, false, false, false, false, false, false, false, false, false] (by kernel_rfl) rfl rfl ⟨(blk_cell BK220.out 0).trans rfl, (blk_cell BK220.out 1).trans rfl, (blk_cell BK220.out 2).trans rfl, (blk_cell BK220.out 3).trans rfl, (blk_cell BK219.out 0).trans rfl, (blk_cell BK219.out 1).trans rfl, hx292_0⟩ (fun hHeld => ?_); refine with_tabW laws_FnLeases.tab18 laws_FnLeases.bits18 (fun HT_ HW_ => ?_)
                generalize wc.drew = w68 at HO_220001 HO_233002 BK219 BK220 BK232 HB hx292_0 hHeld ⊢
                refine pA 1 88 [0, 1, 1, 9] ?_
                refine pA 2 89 [0, 1, 2, 8] ?_
                refine pA 4 91 [0, 1, 2, 1, 1, 6] ?_
                refine pA 5 92 [0, 1, 2, 1, 2, 5] ?_
                refine tA 0 87 [3, 1, 2, 5] (hv := by rintro w' ⟨s0, s1, s2, s3, s4, s5, s6⟩; go_simp; with_reducible rfl) (h := ?_)
                refine tA 3 90 [6, 5] (hv := by rintro w' ⟨s0, s1, s2, s3, s4, s5, s6⟩; go_simp; with_reducible rfl) (h := ?_)
                refine pA 6 93 [7, 4] ?_
                refine tA 7 94 [8, 3] (hv := by rintro w' ⟨s0, s1, s2, s3, s4, s5, s6⟩; go_simp; with_reducible rfl) (h := ?_)
                refine join_ (σ := Nat) 1 #[true, true, true, true, true, true, true, true, true, true, false] (fun s_ => [(95, .agg #[.int .i64 t293, .int .i64 t294, .int .i64 t295, .int .i64 t296, .int .i64 t297]), (9, .pointer (some ⟨s_, 0, none⟩))]) (fun s_ w' => (w'.cell? ⟨gb220, 0, none⟩ = some (.int .i64 x221000_1) ∧ w'.cell? ⟨gb220, 1, none⟩ = some (.int .i64 x221001_1) ∧ w'.cell? ⟨gb220, 2, none⟩ = some (.int .i64 x221002_1) ∧ w'.cell? ⟨gb220, 3, none⟩ = some (.int .i64 x221003_1) ∧ w'.cell? ⟨gb219, 0, none⟩ = some (.int .i64 t228) ∧ w'.cell? ⟨gb219, 1, none⟩ = some (.slice (some ad292) t229.length co34) ∧ w'.cell? (ad292.add ((ji61)).toNat) = some (.int .i64 (rd t229 (ji61)))) ∧ (Kd.R (Kd.int .i64) 2 w' w.heap.size (fun _ => True) (.slice (some ad292) t229.length co34) t229) ∧ (Kd.R (Kd.int .i64) 2 w' w.heap.size (fun _ => True) (.slice (some ad292) t229.length co34) t229) ∧ (w'.heap[gb219]? = some (.cells #[.int .i64 t228, .slice (some ad292) t229.length co34] 71 (0, 0))) ∧ (w'.heap[gb220]? = some (.cells #[.int .i64 x221000_1, .int .i64 x221001_1, .int .i64 x221002_1, .int .i64 x221003_1] 73 (0, 0))) ∧ (w'.heap[gb232]? = some (.cells #[.int .i64 t227, .int .i64 t228, .slice (some ad292) t229.length co34] 75 (0, 0))) ∧ (w'.heap[s_]? = some (.cells #[.int .i64 0, .int .i64 0, .int .i64 0, .int .i64 0, .int .i64 0] 81 (0, 0))) ∧ (w.heap.size ≤ s_) ∧ (w.heap.size ≤ s_) ∧ (gb219 ≠ s_) ∧ (s_ ≠ gb219) ∧ (gb220 ≠ s_) ∧ (s_ ≠ gb220) ∧ (gb232 ≠ s_) ∧ (s_ ≠ gb232) ∧ (Below w.heap.size w w')) ?_ ?_
                rotate_left
                ·
                 intro hCont
                 refine two_ (i := 8) (j := 9) (Ni := some 95) (Nj := some 9) #[true, true, true, true, true, true, true, true, true, false, false] #[true, true, true, true, true, true, true, true, false, true, false] rfl rfl rfl rfl (two_of HT_.out (by kernel_rfl)) (by decide) (by decide) (fun K hK => ?_) (fun K hK => ?_)
                 ·
                  skip
                  refine goes_ Try.func45 (by kernel_rfl) rfl #[.agg #[.int .i64 x221000_1, .int .i64 x221001_1, .int .i64 x221002_1, .int .i64 x221003_1], .int .i64 (rd x220001_1 x221000_1), .int .i64 (rd t229 (ji61))] (by rfl) rfl rfl (by (try simp only [List.map_toArray, List.map_cons, List.map_nil]); first | done | (simp only [hji61]; rfl) | rfl | (simp only [List.length_drop, List.length_take]; rfl)) ?_
                  with_reducible refine (impl_GrantLease.calls kj22 x221000_1 x221001_1 x221002_1 x221003_1 (rd x220001_1 x221000_1) (rd t229 (ji61)) t293 t294 t295 t296 t297 _ A64.out).mono ?_
                  rintro e w69 ⟨rfl, hb⟩
                  have HS6_ := (hb.cell (World.block_lt_of_cell? _ _ (hHeld.2.2.2.2.2.2))).trans (hHeld.2.2.2.2.2.2)
                  refine ⟨_, rfl, ?_⟩
                  replace HO_220001 := am (Kd.R_below (mR HO_220001) hb)
                  replace HO_233002 := am (Kd.R_below (mR HO_233002) hb)
                  replace BK219 := bK BK219 hb
                  replace BK220 := bK BK220 hb
                  replace BK232 := bK BK232 hb
                  replace HB := bS HB hb
                  (try clear hb)
                  (try clear hb2)
                  (try clear hk)
                  (try clear hi)
                  refine hK.out _ _ ⟨(blk_cell BK220.out 0).trans rfl, (blk_cell BK220.out 1).trans rfl, (blk_cell BK220.out 2).trans rfl, (blk_cell BK220.out 3).trans rfl, (blk_cell BK219.out 0).trans rfl, (blk_cell BK219.out 1).trans rfl, HS6_⟩ (fun hHeld => ?_)
                  clear hK K
                  refine norm_ (a' := ?_) ?_ ?_
                  rotate_left
                  ·
                   show Act.put _ (some 95) _ = _
                   simp only [Act.put, List.setIfInBounds_toArray, List.set_cons_zero, List.set_cons_succ, i64_w, i32_w]
                   rfl
                  refine one_ (i := 9) (N := some 9) #[true, true, true, true, true, true, true, true, true, true, false] rfl rfl (one_of HT_.out (by kernel_rfl)) (by decide) (fun K hK => ?_)
                  refine box_step ?hg (N := 9) ?hd (cs := #[.int .i64 0, .int .i64 0, .int .i64 0, .int .i64 0, .int .i64 0]) (t := 81) ?hr ?_; (case hd => rfl); (case hg => rfl); (case hr => first | (go_simp; done) | (go_simp; rfl))
                  intro gb298 hg w70 hbox hb
                  have HS6_ := (hb.cell (World.block_lt_of_cell? _ _ (hHeld.2.2.2.2.2.2))).trans (hHeld.2.2.2.2.2.2)
                  replace HO_220001 := am (Kd.R_below (mR HO_220001) hb)
                  replace HO_233002 := am (Kd.R_below (mR HO_233002) hb)
                  have BK298 := am (hbox)
                  have GW298 := gZ HB hg
                  have GE298 := gZ HB hg
                  replace HB := bS HB hb
                  have NB219_298 := nL BK219 hg
                  have NB298_219 := nG BK219 hg
                  replace BK219 := bK BK219 hb
                  have NB220_298 := nL BK220 hg
                  have NB298_220 := nG BK220 hg
                  replace BK220 := bK BK220 hb
                  have NB232_298 := nL BK232 hg
                  have NB298_232 := nG BK232 hg
                  replace BK232 := bK BK232 hb
                  clear hb hbox hg
                  refine hK.out _ _ ⟨(blk_cell BK220.out 0).trans rfl, (blk_cell BK220.out 1).trans rfl, (blk_cell BK220.out 2).trans rfl, (blk_cell BK220.out 3).trans rfl, (blk_cell BK219.out 0).trans rfl, (blk_cell BK219.out 1).trans rfl, HS6_⟩ (fun hHeld => ?_)
                  clear hK K
                  refine norm_ (a' := ?_) ?_ ?_
                  rotate_left
                  ·
                   show Act.put _ (some 9) _ = _
                   simp only [Act.put, List.setIfInBounds_toArray, List.set_cons_zero, List.set_cons_succ, i64_w, i32_w]
                   rfl
                  exact norm_ (by simp only [putAll, Act.put, List.setIfInBounds_toArray, List.set_cons_zero, List.set_cons_succ]) (hCont (gb298) _ ⟨hHeld, (mR HO_220001), (mR HO_233002), (mB BK219), (mB BK220), (mB BK232), (mB BK298), GW298.out, GE298.out, NB219_298.out, NB298_219.out, NB220_298.out, NB298_220.out, NB232_298.out, NB298_232.out, (bel HB)⟩)
                 skip
                 refine box_step ?hg (N := 9) ?hd (cs := #[.int .i64 0, .int .i64 0, .int .i64 0, .int .i64 0, .int .i64 0]) (t := 81) ?hr ?_; (case hd => rfl); (case hg => rfl); (case hr => first | (go_simp; done) | (go_simp; rfl))
                 intro gb298 hg w69 hbox hb
                 have HS6_ := (hb.cell (World.block_lt_of_cell? _ _ (hHeld.2.2.2.2.2.2))).trans (hHeld.2.2.2.2.2.2)
                 replace HO_220001 := am (Kd.R_below (mR HO_220001) hb)
                 replace HO_233002 := am (Kd.R_below (mR HO_233002) hb)
                 have BK298 := am (hbox)
                 have GW298 := gZ HB hg
                 have GE298 := gZ HB hg
                 replace HB := bS HB hb
                 have NB219_298 := nL BK219 hg
                 have NB298_219 := nG BK219 hg
                 replace BK219 := bK BK219 hb
                 have NB220_298 := nL BK220 hg
                 have NB298_220 := nG BK220 hg
                 replace BK220 := bK BK220 hb
                 have NB232_298 := nL BK232 hg
                 have NB298_232 := nG BK232 hg
                 replace BK232 := bK BK232 hb
                 clear hb hbox hg
                 refine hK.out _ _ ⟨(blk_cell BK220.out 0).trans rfl, (blk_cell BK220.out 1).trans rfl, (blk_cell BK220.out 2).trans rfl, (blk_cell BK220.out 3).trans rfl, (blk_cell BK219.out 0).trans rfl, (blk_cell BK219.out 1).trans rfl, HS6_⟩ (fun hHeld => ?_)
                 clear hK K
                 refine norm_ (a' := ?_) ?_ ?_
                 rotate_left
                 ·
                  show Act.put _ (some 9) _ = _
                  simp only [Act.put, List.setIfInBounds_toArray, List.set_cons_zero, List.set_cons_succ, i64_w, i32_w]
                  rfl
                 refine one_ (i := 8) (N := some 95) #[true, true, true, true, true, true, true, true, true, true, false] rfl rfl (one_of HT_.out (by kernel_rfl)) (by decide) (fun K hK => ?_)
                 refine goes_ Try.func45 (by kernel_rfl) rfl #[.agg #[.int .i64 x221000_1, .int .i64 x221001_1, .int .i64 x221002_1, .int .i64 x221003_1], .int .i64 (rd x220001_1 x221000_1), .int .i64 (rd t229 (ji61))] (by rfl) rfl rfl (by (try simp only [List.map_toArray, List.map_cons, List.map_nil]); first | done | (simp only [hji61]; rfl) | rfl | (simp only [List.length_drop, List.length_take]; rfl)) ?_
                 with_reducible refine (impl_GrantLease.calls kj22 x221000_1 x221001_1 x221002_1 x221003_1 (rd x220001_1 x221000_1) (rd t229 (ji61)) t293 t294 t295 t296 t297 _ A64.out).mono ?_
                 rintro e w70 ⟨rfl, hb⟩
                 have HS6_ := (hb.cell (World.block_lt_of_cell? _ _ (hHeld.2.2.2.2.2.2))).trans (hHeld.2.2.2.2.2.2)
                 refine ⟨_, rfl, ?_⟩
                 replace HO_220001 := am (Kd.R_below (mR HO_220001) hb)
                 replace HO_233002 := am (Kd.R_below (mR HO_233002) hb)
                 replace BK219 := bK BK219 hb
                 replace BK220 := bK BK220 hb
                 replace BK232 := bK BK232 hb
                 replace BK298 := bK BK298 hb
                 replace HB := bS HB hb
                 (try clear hb)
                 (try clear hb2)
                 (try clear hk)
                 (try clear hi)
                 refine hK.out _ _ ⟨(blk_cell BK220.out 0).trans rfl, (blk_cell BK220.out 1).trans rfl, (blk_cell BK220.out 2).trans rfl, (blk_cell BK220.out 3).trans rfl, (blk_cell BK219.out 0).trans rfl, (blk_cell BK219.out 1).trans rfl, HS6_⟩ (fun hHeld => ?_)
                 clear hK K
                 refine norm_ (a' := ?_) ?_ ?_
                 rotate_left
                 ·
                  show Act.put _ (some 95) _ = _
                  simp only [Act.put, List.setIfInBounds_toArray, List.set_cons_zero, List.set_cons_succ, i64_w, i32_w]
                  rfl
                 exact norm_ (by simp only [putAll, Act.put, List.setIfInBounds_toArray, List.set_cons_zero, List.set_cons_succ]) (hCont (gb298) _ ⟨hHeld, (mR HO_220001), (mR HO_233002), (mB BK219), (mB BK220), (mB BK232), (mB BK298), GW298.out, GE298.out, NB219_298.out, NB298_219.out, NB220_298.out, NB298_220.out, NB232_298.out, NB298_232.out, (bel HB)⟩)
                rintro gb298 w71 ⟨hS_, h0_, h1_, h2_, h3_, h4_, h5_, h6_, h7_, h8_, h9_, h10_, h11_, h12_, h13_, h14_⟩
                have n0_ : Aside0 (Kd.R (Kd.int .i64) 2 w71 w.heap.size (fun _ => True) (.slice (some ad292) t229.length co34) t229) := ⟨h0_⟩
                have n1_ : Aside0 (Kd.R (Kd.int .i64) 2 w71 w.heap.size (fun _ => True) (.slice (some ad292) t229.length co34) t229) := ⟨h1_⟩
                have n2_ : Aside0 (w71.heap[gb219]? = some (.cells #[.int .i64 t228, .slice (some ad292) t229.length co34] 71 (0, 0))) := ⟨h2_⟩
                have n3_ : Aside0 (w71.heap[gb220]? = some (.cells #[.int .i64 x221000_1, .int .i64 x221001_1, .int .i64 x221002_1, .int .i64 x221003_1] 73 (0, 0))) := ⟨h3_⟩
                have n4_ : Aside0 (w71.heap[gb232]? = some (.cells #[.int .i64 t227, .int .i64 t228, .slice (some ad292) t229.length co34] 75 (0, 0))) := ⟨h4_⟩
                have n5_ : Aside0 (w71.heap[gb298]? = some (.cells #[.int .i64 0, .int .i64 0, .int .i64 0, .int .i64 0, .int .i64 0] 81 (0, 0))) := ⟨h5_⟩
                have n6_ : Aside0 (w.heap.size ≤ gb298) := ⟨h6_⟩
                have n7_ : Aside0 (w.heap.size ≤ gb298) := ⟨h7_⟩
                have n8_ : Aside0 (gb219 ≠ gb298) := ⟨h8_⟩
                have n9_ : Aside0 (gb298 ≠ gb219) := ⟨h9_⟩
                have n10_ : Aside0 (gb220 ≠ gb298) := ⟨h10_⟩
                have n11_ : Aside0 (gb298 ≠ gb220) := ⟨h11_⟩
                have n12_ : Aside0 (gb232 ≠ gb298) := ⟨h12_⟩
                have n13_ : Aside0 (gb298 ≠ gb232) := ⟨h13_⟩
                have n14_ : Aside0 (Below w.heap.size w w71) := ⟨h14_⟩
                clear HO_220001
                clear HO_233002
                clear BK219
                clear BK220
                clear BK232
                clear HB
                clear h0_ h1_ h2_ h3_ h4_ h5_ h6_ h7_ h8_ h9_ h10_ h11_ h12_ h13_ h14_
                have HO_220001 := n0_
                have HO_233002 := n1_
                have BK219 := n2_
                have BK220 := n3_
                have BK232 := n4_
                have BK298 := n5_
                have GW298 := n6_
                have GE298 := n7_
                have NB219_298 := n8_
                have NB298_219 := n9_
                have NB220_298 := n10_
                have NB298_220 := n11_
                have NB232_298 := n12_
                have NB298_232 := n13_
                have HB := n14_
                clear n0_ n1_ n2_ n3_ n4_ n5_ n6_ n7_ n8_ n9_ n10_ n11_ n12_ n13_ n14_
                have hHeld : w71.cell? ⟨gb220, 0, none⟩ = some (.int .i64 x221000_1) ∧ w71.cell? ⟨gb220, 1, none⟩ = some (.int .i64 x221001_1) ∧ w71.cell? ⟨gb220, 2, none⟩ = some (.int .i64 x221002_1) ∧ w71.cell? ⟨gb220, 3, none⟩ = some (.int .i64 x221003_1) ∧ w71.cell? ⟨gb219, 0, none⟩ = some (.int .i64 t228) ∧ w71.cell? ⟨gb219, 1, none⟩ = some (.slice (some ad292) t229.length co34) ∧ w71.cell? (ad292.add ((ji61)).toNat) = some (.int .i64 (rd t229 (ji61))) := hS_
                refine norm_ (a' := ?_) ?_ ?_
                rotate_left
                ·
                 simp only [putAll, Act.put, List.setIfInBounds_toArray, List.set_cons_zero, List.set_cons_succ]
                 rfl
                refine one_ (i := 10) (N := none) #[true, true, true, true, true, true, true, true, true, true, true] rfl rfl (one_of HT_.out (by kernel_rfl)) (by decide) (fun K hK => ?_)
                have hs72 : w71.cell? ⟨gb298, 0, none⟩ = some (.int .i64 0) := (blk_cell BK298.out 0).trans rfl
                have hfs72 := blk_frozen BK298.out 0
                have hns72_0 := NB219_298.out
                have hns72_1 := NB220_298.out
                have hns72_2 := NB232_298.out
                have hms72_0 := NB298_219.out
                have hms72_1 := NB298_220.out
                have hms72_2 := NB298_232.out
                have hs73 : w71.cell? ⟨gb298, 1, none⟩ = some (.int .i64 0) := (blk_cell BK298.out 1).trans rfl
                have hfs73 := blk_frozen BK298.out 1
                have hns73_0 := NB219_298.out
                have hns73_1 := NB220_298.out
                have hns73_2 := NB232_298.out
                have hms73_0 := NB298_219.out
                have hms73_1 := NB298_220.out
                have hms73_2 := NB298_232.out
                have hs74 : w71.cell? ⟨gb298, 2, none⟩ = some (.int .i64 0) := (blk_cell BK298.out 2).trans rfl
                have hfs74 := blk_frozen BK298.out 2
                have hns74_0 := NB219_298.out
                have hns74_1 := NB220_298.out
                have hns74_2 := NB232_298.out
                have hms74_0 := NB298_219.out
                have hms74_1 := NB298_220.out
                have hms74_2 := NB298_232.out
                have hs75 : w71.cell? ⟨gb298, 3, none⟩ = some (.int .i64 0) := (blk_cell BK298.out 3).trans rfl
                have hfs75 := blk_frozen BK298.out 3
                have hns75_0 := NB219_298.out
                have hns75_1 := NB220_298.out
                have hns75_2 := NB232_298.out
                have hms75_0 := NB298_219.out
                have hms75_1 := NB298_220.out
                have hms75_2 := NB298_232.out
                have hs76 : w71.cell? ⟨gb298, 4, none⟩ = some (.int .i64 0) := (blk_cell BK298.out 4).trans rfl
                have hfs76 := blk_frozen BK298.out 4
                have hns76_0 := NB219_298.out
                have hns76_1 := NB220_298.out
                have hns76_2 := NB232_298.out
                have hms76_0 := NB298_219.out
                have hms76_1 := NB298_220.out
                have hms76_2 := NB298_232.out
                refine skip_ (w1 := ?_) (by rfl) rfl ?_ ?_
                rotate_left
                ·
                 go_simp
                 rfl
                refine hK.out _ _ ⟨((cell_far (p := ⟨gb298, _, none⟩) NB220_298.out _).trans (((cell_far (p := ⟨gb298, _, none⟩) NB220_298.out _).trans (((cell_far (p := ⟨gb298, _, none⟩) NB220_298.out _).trans (((cell_far (p := ⟨gb298, _, none⟩) NB220_298.out _).trans (((cell_far (p := ⟨gb298, _, none⟩) NB220_298.out _).trans (hHeld.1)))))))))), ((cell_far (p := ⟨gb298, _, none⟩) NB220_298.out _).trans (((cell_far (p := ⟨gb298, _, none⟩) NB220_298.out _).trans (((cell_far (p := ⟨gb298, _, none⟩) NB220_298.out _).trans (((cell_far (p := ⟨gb298, _, none⟩) NB220_298.out _).trans (((cell_far (p := ⟨gb298, _, none⟩) NB220_298.out _).trans (hHeld.2.1)))))))))), ((cell_far (p := ⟨gb298, _, none⟩) NB220_298.out _).trans (((cell_far (p := ⟨gb298, _, none⟩) NB220_298.out _).trans (((cell_far (p := ⟨gb298, _, none⟩) NB220_298.out _).trans (((cell_far (p := ⟨gb298, _, none⟩) NB220_298.out _).trans (((cell_far (p := ⟨gb298, _, none⟩) NB220_298.out _).trans (hHeld.2.2.1)))))))))), ((cell_far (p := ⟨gb298, _, none⟩) NB220_298.out _).trans (((cell_far (p := ⟨gb298, _, none⟩) NB220_298.out _).trans (((cell_far (p := ⟨gb298, _, none⟩) NB220_298.out _).trans (((cell_far (p := ⟨gb298, _, none⟩) NB220_298.out _).trans (((cell_far (p := ⟨gb298, _, none⟩) NB220_298.out _).trans (hHeld.2.2.2.1)))))))))), ((cell_far (p := ⟨gb298, _, none⟩) NB219_298.out _).trans (((cell_far (p := ⟨gb298, _, none⟩) NB219_298.out _).trans (((cell_far (p := ⟨gb298, _, none⟩) NB219_298.out _).trans (((cell_far (p := ⟨gb298, _, none⟩) NB219_298.out _).trans (((cell_far (p := ⟨gb298, _, none⟩) NB219_298.out _).trans (hHeld.2.2.2.2.1)))))))))), ((cell_far (p := ⟨gb298, _, none⟩) NB219_298.out _).trans (((cell_far (p := ⟨gb298, _, none⟩) NB219_298.out _).trans (((cell_far (p := ⟨gb298, _, none⟩) NB219_298.out _).trans (((cell_far (p := ⟨gb298, _, none⟩) NB219_298.out _).trans (((cell_far (p := ⟨gb298, _, none⟩) NB219_298.out _).trans (hHeld.2.2.2.2.2.1)))))))))), ((cell_far (p := ⟨gb298, _, none⟩) (by first | exact Kd.own_blk (Kd.R_ne HO_220001.out BK298.out (by decide)) | (rw [add_block]; exact Kd.own_blk (Kd.R_ne HO_220001.out BK298.out (by decide))) | (show (Addr.add _ _).block ≠ _; rw [add_block]; exact Kd.own_blk (Kd.R_ne HO_220001.out BK298.out (by decide))) | (dsimp only; exact Kd.own_blk (Kd.R_ne HO_220001.out BK298.out (by decide)))) _).trans (((cell_far (p := ⟨gb298, _, none⟩) (by first | exact Kd.own_blk (Kd.R_ne HO_220001.out BK298.out (by decide)) | (rw [add_block]; exact Kd.own_blk (Kd.R_ne HO_220001.out BK298.out (by decide))) | (show (Addr.add _ _).block ≠ _; rw [add_block]; exact Kd.own_blk (Kd.R_ne HO_220001.out BK298.out (by decide))) | (dsimp only; exact Kd.own_blk (Kd.R_ne HO_220001.out BK298.out (by decide)))) _).trans (((cell_far (p := ⟨gb298, _, none⟩) (by first | exact Kd.own_blk (Kd.R_ne HO_220001.out BK298.out (by decide)) | (rw [add_block]; exact Kd.own_blk (Kd.R_ne HO_220001.out BK298.out (by decide))) | (show (Addr.add _ _).block ≠ _; rw [add_block]; exact Kd.own_blk (Kd.R_ne HO_220001.out BK298.out (by decide))) | (dsimp only; exact Kd.own_blk (Kd.R_ne HO_220001.out BK298.out (by decide)))) _).trans (((cell_far (p := ⟨gb298, _, none⟩) (by first | exact Kd.own_blk (Kd.R_ne HO_220001.out BK298.out (by decide)) | (rw [add_block]; exact Kd.own_blk (Kd.R_ne HO_220001.out BK298.out (by decide))) | (show (Addr.add _ _).block ≠ _; rw [add_block]; exact Kd.own_blk (Kd.R_ne HO_220001.out BK298.out (by decide))) | (dsimp only; exact Kd.own_blk (Kd.R_ne HO_220001.out BK298.out (by decide)))) _).trans (((cell_far (p := ⟨gb298, _, none⟩) (by first | exact Kd.own_blk (Kd.R_ne HO_220001.out BK298.out (by decide)) | (rw [add_block]; exact Kd.own_blk (Kd.R_ne HO_220001.out BK298.out (by decide))) | (show (Addr.add _ _).block ≠ _; rw [add_block]; exact Kd.own_blk (Kd.R_ne HO_220001.out BK298.out (by decide))) | (dsimp only; exact Kd.own_blk (Kd.R_ne HO_220001.out BK298.out (by decide)))) _).trans (hHeld.2.2.2.2.2.2))))))))))⟩ (fun hHeld => ?_)
                clear hK K
                refine done_ (done_of HT_.out (by kernel_rfl)) ?_
                have hnb77 := NB298_219.out
                have hnc77 := NB219_298.out
                have hnb78 := NB298_220.out
                have hnc78 := NB220_298.out
                have hnb79 := NB298_232.out
                have hnc79 := NB232_298.out
                have hz80 := cl5 BK298
                have hnb81 := NB220_219.out
                have hnc81 := NB219_220.out
                have hnb82 := NB220_232.out
                have hnc82 := NB232_220.out
                have hz83 := cl4 BK220
                try go_wp2_with (first | ((with_reducible refine gate_callee (f := 47) rfl ?_); refine goA (some 160) rfl rfl Try.func47 rfl #[.agg #[.int .i64 t294, .int .i64 t295, .int .i64 t296, .int .i64 t297]] rfl ?_; (with_reducible refine (impl_LeaseFault.calls t294 t295 t296 t297 t299 _ A66.out).mono ?_); rintro e w84 ⟨rfl, hb⟩; refine ⟨_, rfl, ?_⟩; replace HO_220001 := am (Kd.R_below (by (with_reducible repeat (first | apply Kd.R_alloc | apply Kd.R_drewN | apply Kd.R_drew)); exact (Kd.R_mono (Kd.R_mono (RF (RF (RF (RF (Kd.R_far (p := ⟨gb298, 4, none⟩) (Kd.R_far (p := ⟨gb298, 3, none⟩) (Kd.R_far (p := ⟨gb298, 2, none⟩) (Kd.R_far (p := ⟨gb298, 1, none⟩) (Kd.R_far (p := ⟨gb298, 0, none⟩) (Kd.R_types (Kd.R_types HO_220001.out BK298.out (by decide)) BK220.out (by decide)) (fun _ hk => hk.1.2) (.int .i64 t293)) (fun _ hk => hk.1.2) (.int .i64 t294)) (fun _ hk => hk.1.2) (.int .i64 t295)) (fun _ hk => hk.1.2) (.int .i64 t296)) (fun _ hk => hk.1.2) (.int .i64 t297)))))) (fun _ h_ => h_.1)) (fun _ h_ => h_.1))) hb); replace HO_233002 := am (Kd.R_below (by (with_reducible repeat (first | apply Kd.R_alloc | apply Kd.R_drewN | apply Kd.R_drew)); exact (Kd.R_mono (Kd.R_mono (RF (RF (RF (RF (Kd.R_far (p := ⟨gb298, 4, none⟩) (Kd.R_far (p := ⟨gb298, 3, none⟩) (Kd.R_far (p := ⟨gb298, 2, none⟩) (Kd.R_far (p := ⟨gb298, 1, none⟩) (Kd.R_far (p := ⟨gb298, 0, none⟩) (Kd.R_types (Kd.R_types HO_233002.out BK298.out (by decide)) BK220.out (by decide)) (fun _ hk => hk.1.2) (.int .i64 t293)) (fun _ hk => hk.1.2) (.int .i64 t294)) (fun _ hk => hk.1.2) (.int .i64 t295)) (fun _ hk => hk.1.2) (.int .i64 t296)) (fun _ hk => hk.1.2) (.int .i64 t297)))))) (fun _ h_ => h_.1)) (fun _ h_ => h_.1))) hb); replace BK219 := am (blk_below (g := gb219) (o := .cells #[.int .i64 t228, .slice (some ad292) t229.length co34] 71 (0, 0)) (mP BK219) hb); replace BK220 := am (blk_below (g := gb220) (o := .cells #[.int .i64 t294, .int .i64 t295, .int .i64 t296, .int .i64 t297] 73 (0, 0)) (mP BK220) hb); replace BK232 := am (blk_below (g := gb232) (o := .cells #[.int .i64 t227, .int .i64 t228, .slice (some ad292) t229.length co34] 75 (0, 0)) (mP BK232) hb); replace BK298 := am (blk_below (g := gb298) (o := .cells #[.int .i64 t293, .int .i64 t294, .int .i64 t295, .int .i64 t296, .int .i64 t297] 81 (0, 0)) (mP BK298) hb); replace HB := bS HB hb; (try clear hb); (try clear hb2); (try clear hk); (try clear hi)))
                go_roundg kj22
                case measure => have := HK1.out; have := HJ22.out; omega
                case rel => exact ⟨(wrap64 (x5_1 + 1)), (t228), (t229), (t294), (t295), (t296), (t297), (.slice (some ad292) t229.length co34), (by first | rfl | (simp; done) | (simp [*]; done)), H', ⟨by have := HK1.out; have := HJ22.out; omega⟩, ⟨by (with_reducible repeat (first | apply Kd.R_alloc | apply Kd.R_drewN | apply Kd.R_drew)); exact HO_220001.out⟩, ⟨by (with_reducible repeat (first | refine blk_drewN ?_ _ | refine blk_drew ?_ | refine blk_alloc ?_ _)); exact BK219.out⟩, ⟨by (with_reducible repeat (first | refine blk_drewN ?_ _ | refine blk_drew ?_ | refine blk_alloc ?_ _)); exact BK220.out⟩, ⟨bel HB⟩⟩
               rw [if_neg c67] at H
               have c67b0 : (t299 == 0) = false := beq_eq_false_iff_ne.mpr c67
               have c67b1 : (t299 != 0) = true := bne_iff_ne.mpr c67
               exact absurd H (by simp)
              rw [if_neg c65] at H
              have c65b0 : (t293 == 0) = false := beq_eq_false_iff_ne.mpr c65
              have c65b1 : (t293 != 0) = true := bne_iff_ne.mpr c65
              replace H := Option.bind_eq_some_iff.mp H
              obtain ⟨t300, A850, H⟩ := H
              replace H : (if t300 = 0 then (laws_FnLeases.l0 kj22 l0 (wrap64 (x5_1 + 1)) t228 t229 x221000_1 x221001_1 x221002_1 x221003_1) else (some false)) = some true := H
              have A85 := Aside0.mk A850
              clear A850
              by_cases c86 : t300 = 0
              ·
               rw [if_pos c86] at H
               have c86b0 : (t300 == 0) = true := beq_iff_eq.mpr c86
               have c86b1 : (t300 != 0) = false := bne_eq_false_iff_eq.mpr c86
               clear c86
               have H' := Aside0.mk H
               clear H
               try go_wp2_with (first | ((with_reducible refine gate_callee (f := 41) rfl ?_); refine goA (some 84) rfl rfl Try.func41 rfl #[.slice A0 l0.length c0, .int .i64 (wrap64 (x5_1 + 120)), .int .i64 4] rfl ?_; (with_reducible refine (laws_lwAt.calls _ _ l0 (wrap64 (x5_1 + 120)) 4 t291 _ ?side1 ?side2 A59.out).mono ?_); (case side1 => exact mC HR0 HB); (case side2 => exact HC0.out); rintro e w' ⟨rfl, ⟨nd, rfl⟩⟩; refine ⟨_, rfl, ?_⟩; (try ((try simp only [World.drewN_drewN]); rw [drewN_self wc]; generalize hq_ : World.drewN wc _ = wc; replace HO_220001 := am (Kd.R_at hq_ HO_220001.out); replace HO_233002 := am (Kd.R_at hq_ HO_233002.out); replace BK219 := am (blk_at hq_ BK219.out); replace BK220 := am (blk_at hq_ BK220.out); replace BK232 := am (blk_at hq_ BK232.out); replace HB := am (below_at hq_ HB.out); clear hq_))))
               replace HO_220001 := am (Kd.R_drew HO_220001.out)
               replace HO_233002 := am (Kd.R_drew HO_233002.out)
               replace BK219 := am (blk_drew BK219.out)
               replace BK220 := am (blk_drew BK220.out)
               replace BK232 := am (blk_drew BK232.out)
               replace HB := am (below_drew1 HB.out)
               have p292 : 0 ≤ ((ji61) : Int) := of_decide_eq_true (by first | (with_reducible assumption) | assumption)
               have q292 : (ji61) < (t229.length : Int) := of_decide_eq_true (by first | (with_reducible assumption) | assumption)
               obtain ⟨ad292, e292, hx292_0⟩ := Kd.at_int (Kd.R_reads' HO_220001.out).2.2 (ji61) p292 q292
               cases e292
               replace p292 := eq_true p292
               replace q292 := eq_true q292
               refine start_ (n := 11) (S := fun w' => w'.cell? ⟨gb220, 0, none⟩ = some (.int .i64 x221000_1) ∧ w'.cell? ⟨gb220, 1, none⟩ = some (.int .i64 x221001_1) ∧ w'.cell? ⟨gb220, 2, none⟩ = some (.int .i64 x221002_1) ∧ w'.cell? ⟨gb220, 3, none⟩ = some (.int .i64 x221003_1) ∧ w'.cell? ⟨gb219, 0, none⟩ = some (.int .i64 t228) ∧ w'.cell? ⟨gb219, 1, none⟩ = some (.slice (some ad292) t229.length co34) ∧ w'.cell? (ad292.add ((ji61)).toNat) = some (.int .i64 (rd t229 (ji61)))) (ds := []) #[false, false, false, false, false, false, false, false, false, false, false] (by kernel_rfl) rfl rfl ⟨(blk_cell BK220.out 0).trans rfl, (blk_cell BK220.out 1).trans rfl, (blk_cell BK220.out 2).trans rfl, (blk_cell BK220.out 3).trans rfl, (blk_cell BK219.out 0).trans rfl, (blk_cell BK219.out 1).trans rfl, hx292_0⟩ (fun hHeld => ?_); refine with_tabW laws_FnLeases.tab18 laws_FnLeases.bits18 (fun HT_ HW_ => ?_)
               generalize wc.drew = w87 at HO_220001 HO_233002 BK219 BK220 BK232 HB hx292_0 hHeld ⊢
               refine pA 1 88 [0, 1, 1, 9] ?_
               refine pA 2 89 [0, 1, 2, 8] ?_
               refine pA 4 91 [0, 1, 2, 1, 1, 6] ?_
               refine pA 5 92 [0, 1, 2, 1, 2, 5] ?_
               refine tA 0 87 [3, 1, 2, 5] (hv := by rintro w' ⟨s0, s1, s2, s3, s4, s5, s6⟩; go_simp; with_reducible rfl) (h := ?_)
               refine tA 3 90 [6, 5] (hv := by rintro w' ⟨s0, s1, s2, s3, s4, s5, s6⟩; go_simp; with_reducible rfl) (h := ?_)
               refine pA 6 93 [7, 4] ?_
               refine tA 7 94 [8, 3] (hv := by rintro w' ⟨s0, s1, s2, s3, s4, s5, s6⟩; go_simp; with_reducible rfl) (h := ?_)
               refine join_ (σ := Nat) 1 #[true, true, true, true, true, true, true, true, true, true, false] (fun s_ => [(95, .agg #[.int .i64 t293, .int .i64 t294, .int .i64 t295, .int .i64 t296, .int .i64 t297]), (9, .pointer (some ⟨s_, 0, none⟩))]) (fun s_ w' => (w'.cell? ⟨gb220, 0, none⟩ = some (.int .i64 x221000_1) ∧ w'.cell? ⟨gb220, 1, none⟩ = some (.int .i64 x221001_1) ∧ w'.cell? ⟨gb220, 2, none⟩ = some (.int .i64 x221002_1) ∧ w'.cell? ⟨gb220, 3, none⟩ = some (.int .i64 x221003_1) ∧ w'.cell? ⟨gb219, 0, none⟩ = some (.int .i64 t228) ∧ w'.cell? ⟨gb219, 1, none⟩ = some (.slice (some ad292) t229.length co34) ∧ w'.cell? (ad292.add ((ji61)).toNat) = some (.int .i64 (rd t229 (ji61)))) ∧ (Kd.R (Kd.int .i64) 2 w' w.heap.size (fun _ => True) (.slice (some ad292) t229.length co34) t229) ∧ (Kd.R (Kd.int .i64) 2 w' w.heap.size (fun _ => True) (.slice (some ad292) t229.length co34) t229) ∧ (w'.heap[gb219]? = some (.cells #[.int .i64 t228, .slice (some ad292) t229.length co34] 71 (0, 0))) ∧ (w'.heap[gb220]? = some (.cells #[.int .i64 x221000_1, .int .i64 x221001_1, .int .i64 x221002_1, .int .i64 x221003_1] 73 (0, 0))) ∧ (w'.heap[gb232]? = some (.cells #[.int .i64 t227, .int .i64 t228, .slice (some ad292) t229.length co34] 75 (0, 0))) ∧ (w'.heap[s_]? = some (.cells #[.int .i64 0, .int .i64 0, .int .i64 0, .int .i64 0, .int .i64 0] 81 (0, 0))) ∧ (w.heap.size ≤ s_) ∧ (w.heap.size ≤ s_) ∧ (gb219 ≠ s_) ∧ (s_ ≠ gb219) ∧ (gb220 ≠ s_) ∧ (s_ ≠ gb220) ∧ (gb232 ≠ s_) ∧ (s_ ≠ gb232) ∧ (Below w.heap.size w w')) ?_ ?_
               rotate_left
               ·
                intro hCont
                refine two_ (i := 8) (j := 9) (Ni := some 95) (Nj := some 9) #[true, true, true, true, true, true, true, true, true, false, false] #[true, true, true, true, true, true, true, true, false, true, false] rfl rfl rfl rfl (two_of HT_.out (by kernel_rfl)) (by decide) (by decide) (fun K hK => ?_) (fun K hK => ?_)
                ·
                 skip
                 refine goes_ Try.func45 (by kernel_rfl) rfl #[.agg #[.int .i64 x221000_1, .int .i64 x221001_1, .int .i64 x221002_1, .int .i64 x221003_1], .int .i64 (rd x220001_1 x221000_1), .int .i64 (rd t229 (ji61))] (by rfl) rfl rfl (by (try simp only [List.map_toArray, List.map_cons, List.map_nil]); first | done | (simp only [hji61]; rfl) | rfl | (simp only [List.length_drop, List.length_take]; rfl)) ?_
                 with_reducible refine (impl_GrantLease.calls kj22 x221000_1 x221001_1 x221002_1 x221003_1 (rd x220001_1 x221000_1) (rd t229 (ji61)) t293 t294 t295 t296 t297 _ A64.out).mono ?_
                 rintro e w88 ⟨rfl, hb⟩
                 have HS6_ := (hb.cell (World.block_lt_of_cell? _ _ (hHeld.2.2.2.2.2.2))).trans (hHeld.2.2.2.2.2.2)
                 refine ⟨_, rfl, ?_⟩
                 replace HO_220001 := am (Kd.R_below (mR HO_220001) hb)
                 replace HO_233002 := am (Kd.R_below (mR HO_233002) hb)
                 replace BK219 := bK BK219 hb
                 replace BK220 := bK BK220 hb
                 replace BK232 := bK BK232 hb
                 replace HB := bS HB hb
                 (try clear hb)
                 (try clear hb2)
                 (try clear hk)
                 (try clear hi)
                 refine hK.out _ _ ⟨(blk_cell BK220.out 0).trans rfl, (blk_cell BK220.out 1).trans rfl, (blk_cell BK220.out 2).trans rfl, (blk_cell BK220.out 3).trans rfl, (blk_cell BK219.out 0).trans rfl, (blk_cell BK219.out 1).trans rfl, HS6_⟩ (fun hHeld => ?_)
                 clear hK K
                 refine norm_ (a' := ?_) ?_ ?_
                 rotate_left
                 ·
                  show Act.put _ (some 95) _ = _
                  simp only [Act.put, List.setIfInBounds_toArray, List.set_cons_zero, List.set_cons_succ, i64_w, i32_w]
                  rfl
                 refine one_ (i := 9) (N := some 9) #[true, true, true, true, true, true, true, true, true, true, false] rfl rfl (one_of HT_.out (by kernel_rfl)) (by decide) (fun K hK => ?_)
                 refine box_step ?hg (N := 9) ?hd (cs := #[.int .i64 0, .int .i64 0, .int .i64 0, .int .i64 0, .int .i64 0]) (t := 81) ?hr ?_; (case hd => rfl); (case hg => rfl); (case hr => first | (go_simp; done) | (go_simp; rfl))
                 intro gb298 hg w89 hbox hb
                 have HS6_ := (hb.cell (World.block_lt_of_cell? _ _ (hHeld.2.2.2.2.2.2))).trans (hHeld.2.2.2.2.2.2)
                 replace HO_220001 := am (Kd.R_below (mR HO_220001) hb)
                 replace HO_233002 := am (Kd.R_below (mR HO_233002) hb)
                 have BK298 := am (hbox)
                 have GW298 := gZ HB hg
                 have GE298 := gZ HB hg
                 replace HB := bS HB hb
                 have NB219_298 := nL BK219 hg
                 have NB298_219 := nG BK219 hg
                 replace BK219 := bK BK219 hb
                 have NB220_298 := nL BK220 hg
                 have NB298_220 := nG BK220 hg
                 replace BK220 := bK BK220 hb
                 have NB232_298 := nL BK232 hg
                 have NB298_232 := nG BK232 hg
                 replace BK232 := bK BK232 hb
                 clear hb hbox hg
                 refine hK.out _ _ ⟨(blk_cell BK220.out 0).trans rfl, (blk_cell BK220.out 1).trans rfl, (blk_cell BK220.out 2).trans rfl, (blk_cell BK220.out 3).trans rfl, (blk_cell BK219.out 0).trans rfl, (blk_cell BK219.out 1).trans rfl, HS6_⟩ (fun hHeld => ?_)
                 clear hK K
                 refine norm_ (a' := ?_) ?_ ?_
                 rotate_left
                 ·
                  show Act.put _ (some 9) _ = _
                  simp only [Act.put, List.setIfInBounds_toArray, List.set_cons_zero, List.set_cons_succ, i64_w, i32_w]
                  rfl
                 exact norm_ (by simp only [putAll, Act.put, List.setIfInBounds_toArray, List.set_cons_zero, List.set_cons_succ]) (hCont (gb298) _ ⟨hHeld, (mR HO_220001), (mR HO_233002), (mB BK219), (mB BK220), (mB BK232), (mB BK298), GW298.out, GE298.out, NB219_298.out, NB298_219.out, NB220_298.out, NB298_220.out, NB232_298.out, NB298_232.out, (bel HB)⟩)
                skip
                refine box_step ?hg (N := 9) ?hd (cs := #[.int .i64 0, .int .i64 0, .int .i64 0, .int .i64 0, .int .i64 0]) (t := 81) ?hr ?_; (case hd => rfl); (case hg => rfl); (case hr => first | (go_simp; done) | (go_simp; rfl))
                intro gb298 hg w88 hbox hb
                have HS6_ := (hb.cell (World.block_lt_of_cell? _ _ (hHeld.2.2.2.2.2.2))).trans (hHeld.2.2.2.2.2.2)
                replace HO_220001 := am (Kd.R_below (mR HO_220001) hb)
                replace HO_233002 := am (Kd.R_below (mR HO_233002) hb)
                have BK298 := am (hbox)
                have GW298 := gZ HB hg
                have GE298 := gZ HB hg
                replace HB := bS HB hb
                have NB219_298 := nL BK219 hg
                have NB298_219 := nG BK219 hg
                replace BK219 := bK BK219 hb
                have NB220_298 := nL BK220 hg
                have NB298_220 := nG BK220 hg
                replace BK220 := bK BK220 hb
                have NB232_298 := nL BK232 hg
                have NB298_232 := nG BK232 hg
                replace BK232 := bK BK232 hb
                clear hb hbox hg
                refine hK.out _ _ ⟨(blk_cell BK220.out 0).trans rfl, (blk_cell BK220.out 1).trans rfl, (blk_cell BK220.out 2).trans rfl, (blk_cell BK220.out 3).trans rfl, (blk_cell BK219.out 0).trans rfl, (blk_cell BK219.out 1).trans rfl, HS6_⟩ (fun hHeld => ?_)
                clear hK K
                refine norm_ (a' := ?_) ?_ ?_
                rotate_left
                ·
                 show Act.put _ (some 9) _ = _
                 simp only [Act.put, List.setIfInBounds_toArray, List.set_cons_zero, List.set_cons_succ, i64_w, i32_w]
                 rfl
                refine one_ (i := 8) (N := some 95) #[true, true, true, true, true, true, true, true, true, true, false] rfl rfl (one_of HT_.out (by kernel_rfl)) (by decide) (fun K hK => ?_)
                refine goes_ Try.func45 (by kernel_rfl) rfl #[.agg #[.int .i64 x221000_1, .int .i64 x221001_1, .int .i64 x221002_1, .int .i64 x221003_1], .int .i64 (rd x220001_1 x221000_1), .int .i64 (rd t229 (ji61))] (by rfl) rfl rfl (by (try simp only [List.map_toArray, List.map_cons, List.map_nil]); first | done | (simp only [hji61]; rfl) | rfl | (simp only [List.length_drop, List.length_take]; rfl)) ?_
                with_reducible refine (impl_GrantLease.calls kj22 x221000_1 x221001_1 x221002_1 x221003_1 (rd x220001_1 x221000_1) (rd t229 (ji61)) t293 t294 t295 t296 t297 _ A64.out).mono ?_
                rintro e w89 ⟨rfl, hb⟩
                have HS6_ := (hb.cell (World.block_lt_of_cell? _ _ (hHeld.2.2.2.2.2.2))).trans (hHeld.2.2.2.2.2.2)
                refine ⟨_, rfl, ?_⟩
                replace HO_220001 := am (Kd.R_below (mR HO_220001) hb)
                replace HO_233002 := am (Kd.R_below (mR HO_233002) hb)
                replace BK219 := bK BK219 hb
                replace BK220 := bK BK220 hb
                replace BK232 := bK BK232 hb
                replace BK298 := bK BK298 hb
                replace HB := bS HB hb
                (try clear hb)
                (try clear hb2)
                (try clear hk)
                (try clear hi)
                refine hK.out _ _ ⟨(blk_cell BK220.out 0).trans rfl, (blk_cell BK220.out 1).trans rfl, (blk_cell BK220.out 2).trans rfl, (blk_cell BK220.out 3).trans rfl, (blk_cell BK219.out 0).trans rfl, (blk_cell BK219.out 1).trans rfl, HS6_⟩ (fun hHeld => ?_)
                clear hK K
                refine norm_ (a' := ?_) ?_ ?_
                rotate_left
                ·
                 show Act.put _ (some 95) _ = _
                 simp only [Act.put, List.setIfInBounds_toArray, List.set_cons_zero, List.set_cons_succ, i64_w, i32_w]
                 rfl
                exact norm_ (by simp only [putAll, Act.put, List.setIfInBounds_toArray, List.set_cons_zero, List.set_cons_succ]) (hCont (gb298) _ ⟨hHeld, (mR HO_220001), (mR HO_233002), (mB BK219), (mB BK220), (mB BK232), (mB BK298), GW298.out, GE298.out, NB219_298.out, NB298_219.out, NB220_298.out, NB298_220.out, NB232_298.out, NB298_232.out, (bel HB)⟩)
               rintro gb298 w90 ⟨hS_, h0_, h1_, h2_, h3_, h4_, h5_, h6_, h7_, h8_, h9_, h10_, h11_, h12_, h13_, h14_⟩
               have n0_ : Aside0 (Kd.R (Kd.int .i64) 2 w90 w.heap.size (fun _ => True) (.slice (some ad292) t229.length co34) t229) := ⟨h0_⟩
               have n1_ : Aside0 (Kd.R (Kd.int .i64) 2 w90 w.heap.size (fun _ => True) (.slice (some ad292) t229.length co34) t229) := ⟨h1_⟩
               have n2_ : Aside0 (w90.heap[gb219]? = some (.cells #[.int .i64 t228, .slice (some ad292) t229.length co34] 71 (0, 0))) := ⟨h2_⟩
               have n3_ : Aside0 (w90.heap[gb220]? = some (.cells #[.int .i64 x221000_1, .int .i64 x221001_1, .int .i64 x221002_1, .int .i64 x221003_1] 73 (0, 0))) := ⟨h3_⟩
               have n4_ : Aside0 (w90.heap[gb232]? = some (.cells #[.int .i64 t227, .int .i64 t228, .slice (some ad292) t229.length co34] 75 (0, 0))) := ⟨h4_⟩
               have n5_ : Aside0 (w90.heap[gb298]? = some (.cells #[.int .i64 0, .int .i64 0, .int .i64 0, .int .i64 0, .int .i64 0] 81 (0, 0))) := ⟨h5_⟩
               have n6_ : Aside0 (w.heap.size ≤ gb298) := ⟨h6_⟩
               have n7_ : Aside0 (w.heap.size ≤ gb298) := ⟨h7_⟩
               have n8_ : Aside0 (gb219 ≠ gb298) := ⟨h8_⟩
               have n9_ : Aside0 (gb298 ≠ gb219) := ⟨h9_⟩
               have n10_ : Aside0 (gb220 ≠ gb298) := ⟨h10_⟩
               have n11_ : Aside0 (gb298 ≠ gb220) := ⟨h11_⟩
               have n12_ : Aside0 (gb232 ≠ gb298) := ⟨h12_⟩
               have n13_ : Aside0 (gb298 ≠ gb232) := ⟨h13_⟩
               have n14_ : Aside0 (Below w.heap.size w w90) := ⟨h14_⟩
               clear HO_220001
               clear HO_233002
               clear BK219
               clear BK220
               clear BK232
               clear HB
               clear h0_ h1_ h2_ h3_ h4_ h5_ h6_ h7_ h8_ h9_ h10_ h11_ h12_ h13_ h14_
               have HO_220001 := n0_
               have HO_233002 := n1_
               have BK219 := n2_
               have BK220 := n3_
               have BK232 := n4_
               have BK298 := n5_
               have GW298 := n6_
               have GE298 := n7_
               have NB219_298 := n8_
               have NB298_219 := n9_
               have NB220_298 := n10_
               have NB298_220 := n11_
               have NB232_298 := n12_
               have NB298_232 := n13_
               have HB := n14_
               clear n0_ n1_ n2_ n3_ n4_ n5_ n6_ n7_ n8_ n9_ n10_ n11_ n12_ n13_ n14_
               have hHeld : w90.cell? ⟨gb220, 0, none⟩ = some (.int .i64 x221000_1) ∧ w90.cell? ⟨gb220, 1, none⟩ = some (.int .i64 x221001_1) ∧ w90.cell? ⟨gb220, 2, none⟩ = some (.int .i64 x221002_1) ∧ w90.cell? ⟨gb220, 3, none⟩ = some (.int .i64 x221003_1) ∧ w90.cell? ⟨gb219, 0, none⟩ = some (.int .i64 t228) ∧ w90.cell? ⟨gb219, 1, none⟩ = some (.slice (some ad292) t229.length co34) ∧ w90.cell? (ad292.add ((ji61)).toNat) = some (.int .i64 (rd t229 (ji61))) := hS_
               refine norm_ (a' := ?_) ?_ ?_
               rotate_left
               ·
                simp only [putAll, Act.put, List.setIfInBounds_toArray, List.set_cons_zero, List.set_cons_succ]
                rfl
               refine one_ (i := 10) (N := none) #[true, true, true, true, true, true, true, true, true, true, true] rfl rfl (one_of HT_.out (by kernel_rfl)) (by decide) (fun K hK => ?_)
               have hs91 : w90.cell? ⟨gb298, 0, none⟩ = some (.int .i64 0) := (blk_cell BK298.out 0).trans rfl
               have hfs91 := blk_frozen BK298.out 0
               have hns91_0 := NB219_298.out
               have hns91_1 := NB220_298.out
               have hns91_2 := NB232_298.out
               have hms91_0 := NB298_219.out
               have hms91_1 := NB298_220.out
               have hms91_2 := NB298_232.out
               have hs92 : w90.cell? ⟨gb298, 1, none⟩ = some (.int .i64 0) := (blk_cell BK298.out 1).trans rfl
               have hfs92 := blk_frozen BK298.out 1
               have hns92_0 := NB219_298.out
               have hns92_1 := NB220_298.out
               have hns92_2 := NB232_298.out
               have hms92_0 := NB298_219.out
               have hms92_1 := NB298_220.out
               have hms92_2 := NB298_232.out
               have hs93 : w90.cell? ⟨gb298, 2, none⟩ = some (.int .i64 0) := (blk_cell BK298.out 2).trans rfl
               have hfs93 := blk_frozen BK298.out 2
               have hns93_0 := NB219_298.out
               have hns93_1 := NB220_298.out
               have hns93_2 := NB232_298.out
               have hms93_0 := NB298_219.out
               have hms93_1 := NB298_220.out
               have hms93_2 := NB298_232.out
               have hs94 : w90.cell? ⟨gb298, 3, none⟩ = some (.int .i64 0) := (blk_cell BK298.out 3).trans rfl
               have hfs94 := blk_frozen BK298.out 3
               have hns94_0 := NB219_298.out
               have hns94_1 := NB220_298.out
               have hns94_2 := NB232_298.out
               have hms94_0 := NB298_219.out
               have hms94_1 := NB298_220.out
               have hms94_2 := NB298_232.out
               have hs95 : w90.cell? ⟨gb298, 4, none⟩ = some (.int .i64 0) := (blk_cell BK298.out 4).trans rfl
               have hfs95 := blk_frozen BK298.out 4
               have hns95_0 := NB219_298.out
               have hns95_1 := NB220_298.out
               have hns95_2 := NB232_298.out
               have hms95_0 := NB298_219.out
               have hms95_1 := NB298_220.out
               have hms95_2 := NB298_232.out
               refine skip_ (w1 := ?_) (by rfl) rfl ?_ ?_
               rotate_left
               ·
                go_simp
                rfl
               refine hK.out _ _ ⟨((cell_far (p := ⟨gb298, _, none⟩) NB220_298.out _).trans (((cell_far (p := ⟨gb298, _, none⟩) NB220_298.out _).trans (((cell_far (p := ⟨gb298, _, none⟩) NB220_298.out _).trans (((cell_far (p := ⟨gb298, _, none⟩) NB220_298.out _).trans (((cell_far (p := ⟨gb298, _, none⟩) NB220_298.out _).trans (hHeld.1)))))))))), ((cell_far (p := ⟨gb298, _, none⟩) NB220_298.out _).trans (((cell_far (p := ⟨gb298, _, none⟩) NB220_298.out _).trans (((cell_far (p := ⟨gb298, _, none⟩) NB220_298.out _).trans (((cell_far (p := ⟨gb298, _, none⟩) NB220_298.out _).trans (((cell_far (p := ⟨gb298, _, none⟩) NB220_298.out _).trans (hHeld.2.1)))))))))), ((cell_far (p := ⟨gb298, _, none⟩) NB220_298.out _).trans (((cell_far (p := ⟨gb298, _, none⟩) NB220_298.out _).trans (((cell_far (p := ⟨gb298, _, none⟩) NB220_298.out _).trans (((cell_far (p := ⟨gb298, _, none⟩) NB220_298.out _).trans (((cell_far (p := ⟨gb298, _, none⟩) NB220_298.out _).trans (hHeld.2.2.1)))))))))), ((cell_far (p := ⟨gb298, _, none⟩) NB220_298.out _).trans (((cell_far (p := ⟨gb298, _, none⟩) NB220_298.out _).trans (((cell_far (p := ⟨gb298, _, none⟩) NB220_298.out _).trans (((cell_far (p := ⟨gb298, _, none⟩) NB220_298.out _).trans (((cell_far (p := ⟨gb298, _, none⟩) NB220_298.out _).trans (hHeld.2.2.2.1)))))))))), ((cell_far (p := ⟨gb298, _, none⟩) NB219_298.out _).trans (((cell_far (p := ⟨gb298, _, none⟩) NB219_298.out _).trans (((cell_far (p := ⟨gb298, _, none⟩) NB219_298.out _).trans (((cell_far (p := ⟨gb298, _, none⟩) NB219_298.out _).trans (((cell_far (p := ⟨gb298, _, none⟩) NB219_298.out _).trans (hHeld.2.2.2.2.1)))))))))), ((cell_far (p := ⟨gb298, _, none⟩) NB219_298.out _).trans (((cell_far (p := ⟨gb298, _, none⟩) NB219_298.out _).trans (((cell_far (p := ⟨gb298, _, none⟩) NB219_298.out _).trans (((cell_far (p := ⟨gb298, _, none⟩) NB219_298.out _).trans (((cell_far (p := ⟨gb298, _, none⟩) NB219_298.out _).trans (hHeld.2.2.2.2.2.1)))))))))), ((cell_far (p := ⟨gb298, _, none⟩) (by first | exact Kd.own_blk (Kd.R_ne HO_220001.out BK298.out (by decide)) | (rw [add_block]; exact Kd.own_blk (Kd.R_ne HO_220001.out BK298.out (by decide))) | (show (Addr.add _ _).block ≠ _; rw [add_block]; exact Kd.own_blk (Kd.R_ne HO_220001.out BK298.out (by decide))) | (dsimp only; exact Kd.own_blk (Kd.R_ne HO_220001.out BK298.out (by decide)))) _).trans (((cell_far (p := ⟨gb298, _, none⟩) (by first | exact Kd.own_blk (Kd.R_ne HO_220001.out BK298.out (by decide)) | (rw [add_block]; exact Kd.own_blk (Kd.R_ne HO_220001.out BK298.out (by decide))) | (show (Addr.add _ _).block ≠ _; rw [add_block]; exact Kd.own_blk (Kd.R_ne HO_220001.out BK298.out (by decide))) | (dsimp only; exact Kd.own_blk (Kd.R_ne HO_220001.out BK298.out (by decide)))) _).trans (((cell_far (p := ⟨gb298, _, none⟩) (by first | exact Kd.own_blk (Kd.R_ne HO_220001.out BK298.out (by decide)) | (rw [add_block]; exact Kd.own_blk (Kd.R_ne HO_220001.out BK298.out (by decide))) | (show (Addr.add _ _).block ≠ _; rw [add_block]; exact Kd.own_blk (Kd.R_ne HO_220001.out BK298.out (by decide))) | (dsimp only; exact Kd.own_blk (Kd.R_ne HO_220001.out BK298.out (by decide)))) _).trans (((cell_far (p := ⟨gb298, _, none⟩) (by first | exact Kd.own_blk (Kd.R_ne HO_220001.out BK298.out (by decide)) | (rw [add_block]; exact Kd.own_blk (Kd.R_ne HO_220001.out BK298.out (by decide))) | (show (Addr.add _ _).block ≠ _; rw [add_block]; exact Kd.own_blk (Kd.R_ne HO_220001.out BK298.out (by decide))) | (dsimp only; exact Kd.own_blk (Kd.R_ne HO_220001.out BK298.out (by decide)))) _).trans (((cell_far (p := ⟨gb298, _, none⟩) (by first | exact Kd.own_blk (Kd.R_ne HO_220001.out BK298.out (by decide)) | (rw [add_block]; exact Kd.own_blk (Kd.R_ne HO_220001.out BK298.out (by decide))) | (show (Addr.add _ _).block ≠ _; rw [add_block]; exact Kd.own_blk (Kd.R_ne HO_220001.out BK298.out (by decide))) | (dsimp only; exact Kd.own_blk (Kd.R_ne HO_220001.out BK298.out (by decide)))) _).trans (hHeld.2.2.2.2.2.2))))))))))⟩ (fun hHeld => ?_)
               clear hK K
               refine done_ (done_of HT_.out (by kernel_rfl)) ?_
               have hnb96 := NB298_219.out
               have hnc96 := NB219_298.out
               have hnb97 := NB298_220.out
               have hnc97 := NB220_298.out
               have hnb98 := NB298_232.out
               have hnc98 := NB232_298.out
               have hz99 := cl5 BK298
               have hnb100 := NB220_219.out
               have hnc100 := NB219_220.out
               have hnb101 := NB220_232.out
               have hnc101 := NB232_220.out
               have hz102 := cl4 BK220
               try go_wp2_with (first | ((with_reducible refine gate_callee (f := 47) rfl ?_); refine goA (some 160) rfl rfl Try.func47 rfl #[.agg #[.int .i64 x221000_1, .int .i64 x221001_1, .int .i64 x221002_1, .int .i64 x221003_1]] rfl ?_; (with_reducible refine (impl_LeaseFault.calls x221000_1 x221001_1 x221002_1 x221003_1 t300 _ A85.out).mono ?_); rintro e w103 ⟨rfl, hb⟩; refine ⟨_, rfl, ?_⟩; replace HO_220001 := am (Kd.R_below (by (with_reducible repeat (first | apply Kd.R_alloc | apply Kd.R_drewN | apply Kd.R_drew)); exact (Kd.R_mono (RF (RF (RF (RF (RF (Kd.R_types HO_220001.out BK298.out (by decide))))))) (fun _ h_ => h_.1))) hb); replace HO_233002 := am (Kd.R_below (by (with_reducible repeat (first | apply Kd.R_alloc | apply Kd.R_drewN | apply Kd.R_drew)); exact (Kd.R_mono (RF (RF (RF (RF (RF (Kd.R_types HO_233002.out BK298.out (by decide))))))) (fun _ h_ => h_.1))) hb); replace BK219 := am (blk_below (g := gb219) (o := .cells #[.int .i64 t228, .slice (some ad292) t229.length co34] 71 (0, 0)) (mP BK219) hb); replace BK220 := am (blk_below (g := gb220) (o := .cells #[.int .i64 x221000_1, .int .i64 x221001_1, .int .i64 x221002_1, .int .i64 x221003_1] 73 (0, 0)) (mP BK220) hb); replace BK232 := am (blk_below (g := gb232) (o := .cells #[.int .i64 t227, .int .i64 t228, .slice (some ad292) t229.length co34] 75 (0, 0)) (mP BK232) hb); replace BK298 := am (blk_below (g := gb298) (o := .cells #[.int .i64 t293, .int .i64 t294, .int .i64 t295, .int .i64 t296, .int .i64 t297] 81 (0, 0)) (mP BK298) hb); replace HB := bS HB hb; (try clear hb); (try clear hb2); (try clear hk); (try clear hi)))
               go_roundg kj22
               case measure => have := HK1.out; have := HJ22.out; omega
               case rel => exact ⟨(wrap64 (x5_1 + 1)), (t228), (t229), (x221000_1), (x221001_1), (x221002_1), (x221003_1), (.slice (some ad292) t229.length co34), (by first | rfl | (simp; done) | (simp [*]; done)), H', ⟨by have := HK1.out; have := HJ22.out; omega⟩, ⟨by (with_reducible repeat (first | apply Kd.R_alloc | apply Kd.R_drewN | apply Kd.R_drew)); exact HO_220001.out⟩, ⟨by (with_reducible repeat (first | refine blk_drewN ?_ _ | refine blk_drew ?_ | refine blk_alloc ?_ _)); exact BK219.out⟩, ⟨by (with_reducible repeat (first | refine blk_drewN ?_ _ | refine blk_drew ?_ | refine blk_alloc ?_ _)); exact BK220.out⟩, ⟨bel HB⟩⟩
              rw [if_neg c86] at H
              have c86b0 : (t300 == 0) = false := beq_eq_false_iff_ne.mpr c86
              have c86b1 : (t300 != 0) = true := bne_iff_ne.mpr c86
              exact absurd H (by simp)
             rw [if_neg c63] at H
             exact absurd H (by simp)
            rw [if_neg c62] at H
            exact absurd H (by simp)
           rw [if_neg c60] at H
           have c60b0 : (t291 == 0) = false := beq_eq_false_iff_ne.mpr c60
           have c60b1 : (t291 != 0) = true := bne_iff_ne.mpr c60
           by_cases c104 : t291 = 1
           ·
            rw [if_pos c104] at H
            have c104b0 : (t291 == 1) = true := beq_iff_eq.mpr c104
            have c104b1 : (t291 != 1) = false := bne_eq_false_iff_eq.mpr c104
            clear c104
            obtain ⟨ji105, hji105⟩ : ∃ j_ : Int, (wrap64 (1 - x221000_1)) = j_ := ⟨_, rfl⟩
            replace H : (if 0 ≤ (ji105) then (if (ji105) < (t229.length : Int) then ((impl_TakeLease.f x221000_1 x221001_1 x221002_1 x221003_1 (rd t229 (ji105))).bind fun bt302 => ((impl_MayTake.f x221000_1 x221001_1 x221002_1 x221003_1 (rd t229 (ji105))).bind fun t309 => (if ((bt302.1 == 0) != t309) = true then (laws_FnLeases.j4 kj22 l0 x5_1 true t228 t229 x221000_1 x221001_1 x221002_1 x221003_1 bt302.1 bt302.2.1 bt302.2.2.1 bt302.2.2.2.1 bt302.2.2.2.2) else (if bt302.1 = 0 then (if bt302.2.1 = (ji105) then (if bt302.2.2.1 = (wrap64 (x221001_1 + 1)) then (if 0 ≤ x221000_1 then (if x221000_1 < (t229.length : Int) then ((impl_MayLead.f x221000_1 x221001_1 x221002_1 x221003_1 (rd t229 x221000_1)).bind fun t311 => (laws_FnLeases.j4 kj22 l0 x5_1 t311 t228 t229 x221000_1 x221001_1 x221002_1 x221003_1 bt302.1 bt302.2.1 bt302.2.2.1 bt302.2.2.2.1 bt302.2.2.2.2)) else (none)) else (none)) else (laws_FnLeases.j4 kj22 l0 x5_1 true t228 t229 x221000_1 x221001_1 x221002_1 x221003_1 bt302.1 bt302.2.1 bt302.2.2.1 bt302.2.2.2.1 bt302.2.2.2.2)) else (laws_FnLeases.j4 kj22 l0 x5_1 true t228 t229 x221000_1 x221001_1 x221002_1 x221003_1 bt302.1 bt302.2.1 bt302.2.2.1 bt302.2.2.2.1 bt302.2.2.2.2)) else (laws_FnLeases.j4 kj22 l0 x5_1 false t228 t229 x221000_1 x221001_1 x221002_1 x221003_1 bt302.1 bt302.2.1 bt302.2.2.1 bt302.2.2.2.1 bt302.2.2.2.2))))) else (none)) else (none)) = some true := by first | (rw [hji105] at H; exact H) | (simp only [hji105] at H ⊢; exact H)
            (try rw [hji105] at A59)
            have hji105w : (IntKind.i64.wrap (1 - x221000_1)) = ji105 := (i64_w _).trans hji105
            by_cases c106 : 0 ≤ (ji105)
            ·
             rw [if_pos c106] at H
             have c106b0 : decide (0 ≤ (ji105)) = true := decide_eq_true c106
             clear c106
             by_cases c107 : (ji105) < (t229.length : Int)
             ·
              rw [if_pos c107] at H
              have c107b0 : decide ((ji105) < (t229.length : Int)) = true := decide_eq_true c107
              clear c107
              replace H := Option.bind_eq_some_iff.mp H
              obtain ⟨⟨t302, t303, t304, t305, t306⟩, A1080, H⟩ := H
              replace H : ((impl_MayTake.f x221000_1 x221001_1 x221002_1 x221003_1 (rd t229 (ji105))).bind fun t309 => (if ((t302 == 0) != t309) = true then (laws_FnLeases.j4 kj22 l0 x5_1 true t228 t229 x221000_1 x221001_1 x221002_1 x221003_1 t302 t303 t304 t305 t306) else (if t302 = 0 then (if t303 = (ji105) then (if t304 = (wrap64 (x221001_1 + 1)) then (if 0 ≤ x221000_1 then (if x221000_1 < (t229.length : Int) then ((impl_MayLead.f x221000_1 x221001_1 x221002_1 x221003_1 (rd t229 x221000_1)).bind fun t311 => (laws_FnLeases.j4 kj22 l0 x5_1 t311 t228 t229 x221000_1 x221001_1 x221002_1 x221003_1 t302 t303 t304 t305 t306)) else (none)) else (none)) else (laws_FnLeases.j4 kj22 l0 x5_1 true t228 t229 x221000_1 x221001_1 x221002_1 x221003_1 t302 t303 t304 t305 t306)) else (laws_FnLeases.j4 kj22 l0 x5_1 true t228 t229 x221000_1 x221001_1 x221002_1 x221003_1 t302 t303 t304 t305 t306)) else (laws_FnLeases.j4 kj22 l0 x5_1 false t228 t229 x221000_1 x221001_1 x221002_1 x221003_1 t302 t303 t304 t305 t306)))) = some true := H
              have A108 := Aside0.mk A1080
              clear A1080
              have HC109 := Aside0.mk H
              clear H
              try go_wp2_with (first | ((with_reducible refine gate_callee (f := 41) rfl ?_); refine goA (some 84) rfl rfl Try.func41 rfl #[.slice A0 l0.length c0, .int .i64 (wrap64 (x5_1 + 120)), .int .i64 4] rfl ?_; (with_reducible refine (laws_lwAt.calls _ _ l0 (wrap64 (x5_1 + 120)) 4 t291 _ ?side1 ?side2 A59.out).mono ?_); (case side1 => exact mC HR0 HB); (case side2 => exact HC0.out); rintro e w' ⟨rfl, ⟨nd, rfl⟩⟩; refine ⟨_, rfl, ?_⟩; (try ((try simp only [World.drewN_drewN]); rw [drewN_self wc]; generalize hq_ : World.drewN wc _ = wc; replace HO_220001 := am (Kd.R_at hq_ HO_220001.out); replace HO_233002 := am (Kd.R_at hq_ HO_233002.out); replace BK219 := am (blk_at hq_ BK219.out); replace BK220 := am (blk_at hq_ BK220.out); replace BK232 := am (blk_at hq_ BK232.out); replace HB := am (below_at hq_ HB.out); clear hq_))))
              replace HO_220001 := am (Kd.R_drew HO_220001.out)
              replace HO_233002 := am (Kd.R_drew HO_233002.out)
              replace BK219 := am (blk_drew BK219.out)
              replace BK220 := am (blk_drew BK220.out)
              replace BK232 := am (blk_drew BK232.out)
              replace HB := am (below_drew1 HB.out)
              have p301 : 0 ≤ ((ji105) : Int) := of_decide_eq_true (by first | (with_reducible assumption) | assumption)
              have q301 : (ji105) < (t229.length : Int) := of_decide_eq_true (by first | (with_reducible assumption) | assumption)
              obtain ⟨ad301, e301, hx301_0⟩ := Kd.at_int (Kd.R_reads' HO_220001.out).2.2 (ji105) p301 q301
              cases e301
              replace p301 := eq_true p301
              replace q301 := eq_true q301
              refine start_ (n := 10) (S := fun w' => w'.cell? ⟨gb220, 0, none⟩ = some (.int .i64 x221000_1) ∧ w'.cell? ⟨gb220, 1, none⟩ = some (.int .i64 x221001_1) ∧ w'.cell? ⟨gb220, 2, none⟩ = some (.int .i64 x221002_1) ∧ w'.cell? ⟨gb220, 3, none⟩ = some (.int .i64 x221003_1) ∧ w'.cell? ⟨gb219, 0, none⟩ = some (.int .i64 t228) ∧ w'.cell? ⟨gb219, 1, none⟩ = some (.slice (some ad301) t229.length co34) ∧ w'.cell? (ad301.add ((ji105)).toNat) = some (.int .i64 (rd t229 (ji105)))) (ds := []) #[false, false, false, false, false, false, false, false, false, false] (by kernel_rfl) rfl rfl ⟨(blk_cell BK220.out 0).trans rfl, (blk_cell BK220.out 1).trans rfl, (blk_cell BK220.out 2).trans rfl, (blk_cell BK220.out 3).trans rfl, (blk_cell BK219.out 0).trans rfl, (blk_cell BK219.out 1).trans rfl, hx301_0⟩ (fun hHeld => ?_); refine with_tabW laws_FnLeases.tab22 laws_FnLeases.bits22 (fun HT_ HW_ => ?_)
              generalize wc.drew = w110 at HO_220001 HO_233002 BK219 BK220 BK232 HB hx301_0 hHeld ⊢
              refine pA 1 104 [0, 1, 1, 8] ?_
              refine pA 3 106 [0, 1, 1, 1, 1, 6] ?_
              refine pA 4 107 [0, 1, 1, 1, 2, 5] ?_
              refine tA 0 103 [2, 1, 2, 5] (hv := by rintro w' ⟨s0, s1, s2, s3, s4, s5, s6⟩; go_simp; with_reducible rfl) (h := ?_)
              refine tA 2 105 [5, 5] (hv := by rintro w' ⟨s0, s1, s2, s3, s4, s5, s6⟩; go_simp; with_reducible rfl) (h := ?_)
              refine pA 5 108 [6, 4] ?_
              refine tA 6 109 [7, 3] (hv := by rintro w' ⟨s0, s1, s2, s3, s4, s5, s6⟩; go_simp; with_reducible rfl) (h := ?_)
              refine join_ (σ := Nat) 1 #[true, true, true, true, true, true, true, true, true, false] (fun s_ => [(110, .agg #[.int .i64 t302, .int .i64 t303, .int .i64 t304, .int .i64 t305, .int .i64 t306]), (10, .pointer (some ⟨s_, 0, none⟩))]) (fun s_ w' => (w'.cell? ⟨gb220, 0, none⟩ = some (.int .i64 x221000_1) ∧ w'.cell? ⟨gb220, 1, none⟩ = some (.int .i64 x221001_1) ∧ w'.cell? ⟨gb220, 2, none⟩ = some (.int .i64 x221002_1) ∧ w'.cell? ⟨gb220, 3, none⟩ = some (.int .i64 x221003_1) ∧ w'.cell? ⟨gb219, 0, none⟩ = some (.int .i64 t228) ∧ w'.cell? ⟨gb219, 1, none⟩ = some (.slice (some ad301) t229.length co34) ∧ w'.cell? (ad301.add ((ji105)).toNat) = some (.int .i64 (rd t229 (ji105)))) ∧ (Kd.R (Kd.int .i64) 2 w' w.heap.size (fun _ => True) (.slice (some ad301) t229.length co34) t229) ∧ (Kd.R (Kd.int .i64) 2 w' w.heap.size (fun _ => True) (.slice (some ad301) t229.length co34) t229) ∧ (w'.heap[gb219]? = some (.cells #[.int .i64 t228, .slice (some ad301) t229.length co34] 71 (0, 0))) ∧ (w'.heap[gb220]? = some (.cells #[.int .i64 x221000_1, .int .i64 x221001_1, .int .i64 x221002_1, .int .i64 x221003_1] 73 (0, 0))) ∧ (w'.heap[gb232]? = some (.cells #[.int .i64 t227, .int .i64 t228, .slice (some ad301) t229.length co34] 75 (0, 0))) ∧ (w'.heap[s_]? = some (.cells #[.int .i64 0, .int .i64 0, .int .i64 0, .int .i64 0, .int .i64 0] 81 (0, 0))) ∧ (w.heap.size ≤ s_) ∧ (w.heap.size ≤ s_) ∧ (gb219 ≠ s_) ∧ (s_ ≠ gb219) ∧ (gb220 ≠ s_) ∧ (s_ ≠ gb220) ∧ (gb232 ≠ s_) ∧ (s_ ≠ gb232) ∧ (Below w.heap.size w w')) ?_ ?_
              rotate_left
              ·
               intro hCont
               refine two_ (i := 7) (j := 8) (Ni := some 110) (Nj := some 10) #[true, true, true, true, true, true, true, true, false, false] #[true, true, true, true, true, true, true, false, true, false] rfl rfl rfl rfl (two_of HT_.out (by kernel_rfl)) (by decide) (by decide) (fun K hK => ?_) (fun K hK => ?_)
               ·
                skip
                refine goes_ Try.func46 (by kernel_rfl) rfl #[.agg #[.int .i64 x221000_1, .int .i64 x221001_1, .int .i64 x221002_1, .int .i64 x221003_1], .int .i64 (rd t229 (ji105))] (by rfl) rfl rfl (by (try simp only [List.map_toArray, List.map_cons, List.map_nil]); first | done | (simp only [hji105]; rfl) | rfl | (simp only [List.length_drop, List.length_take]; rfl)) ?_
                with_reducible refine (impl_TakeLease.calls x221000_1 x221001_1 x221002_1 x221003_1 (rd t229 (ji105)) t302 t303 t304 t305 t306 _ A108.out).mono ?_
                rintro e w111 ⟨rfl, hb⟩
                have HS6_ := (hb.cell (World.block_lt_of_cell? _ _ (hHeld.2.2.2.2.2.2))).trans (hHeld.2.2.2.2.2.2)
                refine ⟨_, rfl, ?_⟩
                replace HO_220001 := am (Kd.R_below (mR HO_220001) hb)
                replace HO_233002 := am (Kd.R_below (mR HO_233002) hb)
                replace BK219 := bK BK219 hb
                replace BK220 := bK BK220 hb
                replace BK232 := bK BK232 hb
                replace HB := bS HB hb
                (try clear hb)
                (try clear hb2)
                (try clear hk)
                (try clear hi)
                refine hK.out _ _ ⟨(blk_cell BK220.out 0).trans rfl, (blk_cell BK220.out 1).trans rfl, (blk_cell BK220.out 2).trans rfl, (blk_cell BK220.out 3).trans rfl, (blk_cell BK219.out 0).trans rfl, (blk_cell BK219.out 1).trans rfl, HS6_⟩ (fun hHeld => ?_)
                clear hK K
                refine norm_ (a' := ?_) ?_ ?_
                rotate_left
                ·
                 show Act.put _ (some 110) _ = _
                 simp only [Act.put, List.setIfInBounds_toArray, List.set_cons_zero, List.set_cons_succ, i64_w, i32_w]
                 rfl
                refine one_ (i := 8) (N := some 10) #[true, true, true, true, true, true, true, true, true, false] rfl rfl (one_of HT_.out (by kernel_rfl)) (by decide) (fun K hK => ?_)
                refine box_step ?hg (N := 10) ?hd (cs := #[.int .i64 0, .int .i64 0, .int .i64 0, .int .i64 0, .int .i64 0]) (t := 81) ?hr ?_; (case hd => rfl); (case hg => rfl); (case hr => first | (go_simp; done) | (go_simp; rfl))
                intro gb307 hg w112 hbox hb
                have HS6_ := (hb.cell (World.block_lt_of_cell? _ _ (hHeld.2.2.2.2.2.2))).trans (hHeld.2.2.2.2.2.2)
                replace HO_220001 := am (Kd.R_below (mR HO_220001) hb)
                replace HO_233002 := am (Kd.R_below (mR HO_233002) hb)
                have BK307 := am (hbox)
                have GW307 := gZ HB hg
                have GE307 := gZ HB hg
                replace HB := bS HB hb
                have NB219_307 := nL BK219 hg
                have NB307_219 := nG BK219 hg
                replace BK219 := bK BK219 hb
                have NB220_307 := nL BK220 hg
                have NB307_220 := nG BK220 hg
                replace BK220 := bK BK220 hb
                have NB232_307 := nL BK232 hg
                have NB307_232 := nG BK232 hg
                replace BK232 := bK BK232 hb
                clear hb hbox hg
                refine hK.out _ _ ⟨(blk_cell BK220.out 0).trans rfl, (blk_cell BK220.out 1).trans rfl, (blk_cell BK220.out 2).trans rfl, (blk_cell BK220.out 3).trans rfl, (blk_cell BK219.out 0).trans rfl, (blk_cell BK219.out 1).trans rfl, HS6_⟩ (fun hHeld => ?_)
                clear hK K
                refine norm_ (a' := ?_) ?_ ?_
                rotate_left
                ·
                 show Act.put _ (some 10) _ = _
                 simp only [Act.put, List.setIfInBounds_toArray, List.set_cons_zero, List.set_cons_succ, i64_w, i32_w]
                 rfl
                exact norm_ (by simp only [putAll, Act.put, List.setIfInBounds_toArray, List.set_cons_zero, List.set_cons_succ]) (hCont (gb307) _ ⟨hHeld, (mR HO_220001), (mR HO_233002), (mB BK219), (mB BK220), (mB BK232), (mB BK307), GW307.out, GE307.out, NB219_307.out, NB307_219.out, NB220_307.out, NB307_220.out, NB232_307.out, NB307_232.out, (bel HB)⟩)
               skip
               refine box_step ?hg (N := 10) ?hd (cs := #[.int .i64 0, .int .i64 0, .int .i64 0, .int .i64 0, .int .i64 0]) (t := 81) ?hr ?_; (case hd => rfl); (case hg => rfl); (case hr => first | (go_simp; done) | (go_simp; rfl))
               intro gb307 hg w111 hbox hb
               have HS6_ := (hb.cell (World.block_lt_of_cell? _ _ (hHeld.2.2.2.2.2.2))).trans (hHeld.2.2.2.2.2.2)
               replace HO_220001 := am (Kd.R_below (mR HO_220001) hb)
               replace HO_233002 := am (Kd.R_below (mR HO_233002) hb)
               have BK307 := am (hbox)
               have GW307 := gZ HB hg
               have GE307 := gZ HB hg
               replace HB := bS HB hb
               have NB219_307 := nL BK219 hg
               have NB307_219 := nG BK219 hg
               replace BK219 := bK BK219 hb
               have NB220_307 := nL BK220 hg
               have NB307_220 := nG BK220 hg
               replace BK220 := bK BK220 hb
               have NB232_307 := nL BK232 hg
               have NB307_232 := nG BK232 hg
               replace BK232 := bK BK232 hb
               clear hb hbox hg
               refine hK.out _ _ ⟨(blk_cell BK220.out 0).trans rfl, (blk_cell BK220.out 1).trans rfl, (blk_cell BK220.out 2).trans rfl, (blk_cell BK220.out 3).trans rfl, (blk_cell BK219.out 0).trans rfl, (blk_cell BK219.out 1).trans rfl, HS6_⟩ (fun hHeld => ?_)
               clear hK K
               refine norm_ (a' := ?_) ?_ ?_
               rotate_left
               ·
                show Act.put _ (some 10) _ = _
                simp only [Act.put, List.setIfInBounds_toArray, List.set_cons_zero, List.set_cons_succ, i64_w, i32_w]
                rfl
               refine one_ (i := 7) (N := some 110) #[true, true, true, true, true, true, true, true, true, false] rfl rfl (one_of HT_.out (by kernel_rfl)) (by decide) (fun K hK => ?_)
               refine goes_ Try.func46 (by kernel_rfl) rfl #[.agg #[.int .i64 x221000_1, .int .i64 x221001_1, .int .i64 x221002_1, .int .i64 x221003_1], .int .i64 (rd t229 (ji105))] (by rfl) rfl rfl (by (try simp only [List.map_toArray, List.map_cons, List.map_nil]); first | done | (simp only [hji105]; rfl) | rfl | (simp only [List.length_drop, List.length_take]; rfl)) ?_
               with_reducible refine (impl_TakeLease.calls x221000_1 x221001_1 x221002_1 x221003_1 (rd t229 (ji105)) t302 t303 t304 t305 t306 _ A108.out).mono ?_
               rintro e w112 ⟨rfl, hb⟩
               have HS6_ := (hb.cell (World.block_lt_of_cell? _ _ (hHeld.2.2.2.2.2.2))).trans (hHeld.2.2.2.2.2.2)
               refine ⟨_, rfl, ?_⟩
               replace HO_220001 := am (Kd.R_below (mR HO_220001) hb)
               replace HO_233002 := am (Kd.R_below (mR HO_233002) hb)
               replace BK219 := bK BK219 hb
               replace BK220 := bK BK220 hb
               replace BK232 := bK BK232 hb
               replace BK307 := bK BK307 hb
               replace HB := bS HB hb
               (try clear hb)
               (try clear hb2)
               (try clear hk)
               (try clear hi)
               refine hK.out _ _ ⟨(blk_cell BK220.out 0).trans rfl, (blk_cell BK220.out 1).trans rfl, (blk_cell BK220.out 2).trans rfl, (blk_cell BK220.out 3).trans rfl, (blk_cell BK219.out 0).trans rfl, (blk_cell BK219.out 1).trans rfl, HS6_⟩ (fun hHeld => ?_)
               clear hK K
               refine norm_ (a' := ?_) ?_ ?_
               rotate_left
               ·
                show Act.put _ (some 110) _ = _
                simp only [Act.put, List.setIfInBounds_toArray, List.set_cons_zero, List.set_cons_succ, i64_w, i32_w]
                rfl
               exact norm_ (by simp only [putAll, Act.put, List.setIfInBounds_toArray, List.set_cons_zero, List.set_cons_succ]) (hCont (gb307) _ ⟨hHeld, (mR HO_220001), (mR HO_233002), (mB BK219), (mB BK220), (mB BK232), (mB BK307), GW307.out, GE307.out, NB219_307.out, NB307_219.out, NB220_307.out, NB307_220.out, NB232_307.out, NB307_232.out, (bel HB)⟩)
              rintro gb307 w113 ⟨hS_, h0_, h1_, h2_, h3_, h4_, h5_, h6_, h7_, h8_, h9_, h10_, h11_, h12_, h13_, h14_⟩
              have n0_ : Aside0 (Kd.R (Kd.int .i64) 2 w113 w.heap.size (fun _ => True) (.slice (some ad301) t229.length co34) t229) := ⟨h0_⟩
              have n1_ : Aside0 (Kd.R (Kd.int .i64) 2 w113 w.heap.size (fun _ => True) (.slice (some ad301) t229.length co34) t229) := ⟨h1_⟩
              have n2_ : Aside0 (w113.heap[gb219]? = some (.cells #[.int .i64 t228, .slice (some ad301) t229.length co34] 71 (0, 0))) := ⟨h2_⟩
              have n3_ : Aside0 (w113.heap[gb220]? = some (.cells #[.int .i64 x221000_1, .int .i64 x221001_1, .int .i64 x221002_1, .int .i64 x221003_1] 73 (0, 0))) := ⟨h3_⟩
              have n4_ : Aside0 (w113.heap[gb232]? = some (.cells #[.int .i64 t227, .int .i64 t228, .slice (some ad301) t229.length co34] 75 (0, 0))) := ⟨h4_⟩
              have n5_ : Aside0 (w113.heap[gb307]? = some (.cells #[.int .i64 0, .int .i64 0, .int .i64 0, .int .i64 0, .int .i64 0] 81 (0, 0))) := ⟨h5_⟩
              have n6_ : Aside0 (w.heap.size ≤ gb307) := ⟨h6_⟩
              have n7_ : Aside0 (w.heap.size ≤ gb307) := ⟨h7_⟩
              have n8_ : Aside0 (gb219 ≠ gb307) := ⟨h8_⟩
              have n9_ : Aside0 (gb307 ≠ gb219) := ⟨h9_⟩
              have n10_ : Aside0 (gb220 ≠ gb307) := ⟨h10_⟩
              have n11_ : Aside0 (gb307 ≠ gb220) := ⟨h11_⟩
              have n12_ : Aside0 (gb232 ≠ gb307) := ⟨h12_⟩
              have n13_ : Aside0 (gb307 ≠ gb232) := ⟨h13_⟩
              have n14_ : Aside0 (Below w.heap.size w w113) := ⟨h14_⟩
              clear HO_220001
              clear HO_233002
              clear BK219
              clear BK220
              clear BK232
              clear HB
              clear h0_ h1_ h2_ h3_ h4_ h5_ h6_ h7_ h8_ h9_ h10_ h11_ h12_ h13_ h14_
              have HO_220001 := n0_
              have HO_233002 := n1_
              have BK219 := n2_
              have BK220 := n3_
              have BK232 := n4_
              have BK307 := n5_
              have GW307 := n6_
              have GE307 := n7_
              have NB219_307 := n8_
              have NB307_219 := n9_
              have NB220_307 := n10_
              have NB307_220 := n11_
              have NB232_307 := n12_
              have NB307_232 := n13_
              have HB := n14_
              clear n0_ n1_ n2_ n3_ n4_ n5_ n6_ n7_ n8_ n9_ n10_ n11_ n12_ n13_ n14_
              have hHeld : w113.cell? ⟨gb220, 0, none⟩ = some (.int .i64 x221000_1) ∧ w113.cell? ⟨gb220, 1, none⟩ = some (.int .i64 x221001_1) ∧ w113.cell? ⟨gb220, 2, none⟩ = some (.int .i64 x221002_1) ∧ w113.cell? ⟨gb220, 3, none⟩ = some (.int .i64 x221003_1) ∧ w113.cell? ⟨gb219, 0, none⟩ = some (.int .i64 t228) ∧ w113.cell? ⟨gb219, 1, none⟩ = some (.slice (some ad301) t229.length co34) ∧ w113.cell? (ad301.add ((ji105)).toNat) = some (.int .i64 (rd t229 (ji105))) := hS_
              refine norm_ (a' := ?_) ?_ ?_
              rotate_left
              ·
               simp only [putAll, Act.put, List.setIfInBounds_toArray, List.set_cons_zero, List.set_cons_succ]
               rfl
              refine one_ (i := 9) (N := none) #[true, true, true, true, true, true, true, true, true, true] rfl rfl (one_of HT_.out (by kernel_rfl)) (by decide) (fun K hK => ?_)
              have hs114 : w113.cell? ⟨gb307, 0, none⟩ = some (.int .i64 0) := (blk_cell BK307.out 0).trans rfl
              have hfs114 := blk_frozen BK307.out 0
              have hns114_0 := NB219_307.out
              have hns114_1 := NB220_307.out
              have hns114_2 := NB232_307.out
              have hms114_0 := NB307_219.out
              have hms114_1 := NB307_220.out
              have hms114_2 := NB307_232.out
              have hs115 : w113.cell? ⟨gb307, 1, none⟩ = some (.int .i64 0) := (blk_cell BK307.out 1).trans rfl
              have hfs115 := blk_frozen BK307.out 1
              have hns115_0 := NB219_307.out
              have hns115_1 := NB220_307.out
              have hns115_2 := NB232_307.out
              have hms115_0 := NB307_219.out
              have hms115_1 := NB307_220.out
              have hms115_2 := NB307_232.out
              have hs116 : w113.cell? ⟨gb307, 2, none⟩ = some (.int .i64 0) := (blk_cell BK307.out 2).trans rfl
              have hfs116 := blk_frozen BK307.out 2
              have hns116_0 := NB219_307.out
              have hns116_1 := NB220_307.out
              have hns116_2 := NB232_307.out
              have hms116_0 := NB307_219.out
              have hms116_1 := NB307_220.out
              have hms116_2 := NB307_232.out
              have hs117 : w113.cell? ⟨gb307, 3, none⟩ = some (.int .i64 0) := (blk_cell BK307.out 3).trans rfl
              have hfs117 := blk_frozen BK307.out 3
              have hns117_0 := NB219_307.out
              have hns117_1 := NB220_307.out
              have hns117_2 := NB232_307.out
              have hms117_0 := NB307_219.out
              have hms117_1 := NB307_220.out
              have hms117_2 := NB307_232.out
              have hs118 : w113.cell? ⟨gb307, 4, none⟩ = some (.int .i64 0) := (blk_cell BK307.out 4).trans rfl
              have hfs118 := blk_frozen BK307.out 4
              have hns118_0 := NB219_307.out
              have hns118_1 := NB220_307.out
              have hns118_2 := NB232_307.out
              have hms118_0 := NB307_219.out
              have hms118_1 := NB307_220.out
              have hms118_2 := NB307_232.out
              refine skip_ (w1 := ?_) (by rfl) rfl ?_ ?_
              rotate_left
              ·
               go_simp
               rfl
              refine hK.out _ _ ⟨((cell_far (p := ⟨gb307, _, none⟩) NB220_307.out _).trans (((cell_far (p := ⟨gb307, _, none⟩) NB220_307.out _).trans (((cell_far (p := ⟨gb307, _, none⟩) NB220_307.out _).trans (((cell_far (p := ⟨gb307, _, none⟩) NB220_307.out _).trans (((cell_far (p := ⟨gb307, _, none⟩) NB220_307.out _).trans (hHeld.1)))))))))), ((cell_far (p := ⟨gb307, _, none⟩) NB220_307.out _).trans (((cell_far (p := ⟨gb307, _, none⟩) NB220_307.out _).trans (((cell_far (p := ⟨gb307, _, none⟩) NB220_307.out _).trans (((cell_far (p := ⟨gb307, _, none⟩) NB220_307.out _).trans (((cell_far (p := ⟨gb307, _, none⟩) NB220_307.out _).trans (hHeld.2.1)))))))))), ((cell_far (p := ⟨gb307, _, none⟩) NB220_307.out _).trans (((cell_far (p := ⟨gb307, _, none⟩) NB220_307.out _).trans (((cell_far (p := ⟨gb307, _, none⟩) NB220_307.out _).trans (((cell_far (p := ⟨gb307, _, none⟩) NB220_307.out _).trans (((cell_far (p := ⟨gb307, _, none⟩) NB220_307.out _).trans (hHeld.2.2.1)))))))))), ((cell_far (p := ⟨gb307, _, none⟩) NB220_307.out _).trans (((cell_far (p := ⟨gb307, _, none⟩) NB220_307.out _).trans (((cell_far (p := ⟨gb307, _, none⟩) NB220_307.out _).trans (((cell_far (p := ⟨gb307, _, none⟩) NB220_307.out _).trans (((cell_far (p := ⟨gb307, _, none⟩) NB220_307.out _).trans (hHeld.2.2.2.1)))))))))), ((cell_far (p := ⟨gb307, _, none⟩) NB219_307.out _).trans (((cell_far (p := ⟨gb307, _, none⟩) NB219_307.out _).trans (((cell_far (p := ⟨gb307, _, none⟩) NB219_307.out _).trans (((cell_far (p := ⟨gb307, _, none⟩) NB219_307.out _).trans (((cell_far (p := ⟨gb307, _, none⟩) NB219_307.out _).trans (hHeld.2.2.2.2.1)))))))))), ((cell_far (p := ⟨gb307, _, none⟩) NB219_307.out _).trans (((cell_far (p := ⟨gb307, _, none⟩) NB219_307.out _).trans (((cell_far (p := ⟨gb307, _, none⟩) NB219_307.out _).trans (((cell_far (p := ⟨gb307, _, none⟩) NB219_307.out _).trans (((cell_far (p := ⟨gb307, _, none⟩) NB219_307.out _).trans (hHeld.2.2.2.2.2.1)))))))))), ((cell_far (p := ⟨gb307, _, none⟩) (by first | exact Kd.own_blk (Kd.R_ne HO_220001.out BK307.out (by decide)) | (rw [add_block]; exact Kd.own_blk (Kd.R_ne HO_220001.out BK307.out (by decide))) | (show (Addr.add _ _).block ≠ _; rw [add_block]; exact Kd.own_blk (Kd.R_ne HO_220001.out BK307.out (by decide))) | (dsimp only; exact Kd.own_blk (Kd.R_ne HO_220001.out BK307.out (by decide)))) _).trans (((cell_far (p := ⟨gb307, _, none⟩) (by first | exact Kd.own_blk (Kd.R_ne HO_220001.out BK307.out (by decide)) | (rw [add_block]; exact Kd.own_blk (Kd.R_ne HO_220001.out BK307.out (by decide))) | (show (Addr.add _ _).block ≠ _; rw [add_block]; exact Kd.own_blk (Kd.R_ne HO_220001.out BK307.out (by decide))) | (dsimp only; exact Kd.own_blk (Kd.R_ne HO_220001.out BK307.out (by decide)))) _).trans (((cell_far (p := ⟨gb307, _, none⟩) (by first | exact Kd.own_blk (Kd.R_ne HO_220001.out BK307.out (by decide)) | (rw [add_block]; exact Kd.own_blk (Kd.R_ne HO_220001.out BK307.out (by decide))) | (show (Addr.add _ _).block ≠ _; rw [add_block]; exact Kd.own_blk (Kd.R_ne HO_220001.out BK307.out (by decide))) | (dsimp only; exact Kd.own_blk (Kd.R_ne HO_220001.out BK307.out (by decide)))) _).trans (((cell_far (p := ⟨gb307, _, none⟩) (by first | exact Kd.own_blk (Kd.R_ne HO_220001.out BK307.out (by decide)) | (rw [add_block]; exact Kd.own_blk (Kd.R_ne HO_220001.out BK307.out (by decide))) | (show (Addr.add _ _).block ≠ _; rw [add_block]; exact Kd.own_blk (Kd.R_ne HO_220001.out BK307.out (by decide))) | (dsimp only; exact Kd.own_blk (Kd.R_ne HO_220001.out BK307.out (by decide)))) _).trans (((cell_far (p := ⟨gb307, _, none⟩) (by first | exact Kd.own_blk (Kd.R_ne HO_220001.out BK307.out (by decide)) | (rw [add_block]; exact Kd.own_blk (Kd.R_ne HO_220001.out BK307.out (by decide))) | (show (Addr.add _ _).block ≠ _; rw [add_block]; exact Kd.own_blk (Kd.R_ne HO_220001.out BK307.out (by decide))) | (dsimp only; exact Kd.own_blk (Kd.R_ne HO_220001.out BK307.out (by decide)))) _).trans (hHeld.2.2.2.2.2.2))))))))))⟩ (fun hHeld => ?_)
              clear hK K
              refine done_ (done_of HT_.out (by kernel_rfl)) ?_
              go_upto_region 23 with (fail)
              go_cut [153] (fun v153 wc => ∃ (kq : Nat) (x153_108 : Bool), v153 = .bool x153_108 ∧ Aside0 (laws_FnLeases.j4 kq l0 x5_1 x153_108 t228 t229 x221000_1 x221001_1 x221002_1 x221003_1 t302 t303 t304 t305 t306 = some true) ∧ Aside0 (kq ≤ kj22) ∧ Aside0 (Kd.R (Kd.int .i64) 2 wc w.heap.size (fun _ => True) (.slice (some ad301) t229.length co34) t229) ∧ Aside0 (Kd.R (Kd.int .i64) 2 wc w.heap.size (fun _ => True) (.slice (some ad301) t229.length co34) t229) ∧ Aside0 (wc.heap[gb219]? = some (.cells #[.int .i64 t228, (.slice (some ad301) t229.length co34)] 71 (0, 0))) ∧ Aside0 (wc.heap[gb220]? = some (.cells #[.int .i64 x221000_1, .int .i64 x221001_1, .int .i64 x221002_1, .int .i64 x221003_1] 73 (0, 0))) ∧ Aside0 (wc.heap[gb232]? = some (.cells #[.int .i64 t227, .int .i64 t228, (.slice (some ad301) t229.length co34)] 75 (0, 0))) ∧ Aside0 (wc.heap[gb307]? = some (.cells #[.int .i64 t302, .int .i64 t303, .int .i64 t304, .int .i64 t305, .int .i64 t306] 81 (0, 0))) ∧ Aside0 (Below w.heap.size w wc))
              case first =>
               have H := HC109.out
               clear HC109
               replace H := Option.bind_eq_some_iff.mp H
               obtain ⟨t309, A1190, H⟩ := H
               replace H : (if ((t302 == 0) != t309) = true then (laws_FnLeases.j4 kj22 l0 x5_1 true t228 t229 x221000_1 x221001_1 x221002_1 x221003_1 t302 t303 t304 t305 t306) else (if t302 = 0 then (if t303 = (ji105) then (if t304 = (wrap64 (x221001_1 + 1)) then (if 0 ≤ x221000_1 then (if x221000_1 < (t229.length : Int) then ((impl_MayLead.f x221000_1 x221001_1 x221002_1 x221003_1 (rd t229 x221000_1)).bind fun t311 => (laws_FnLeases.j4 kj22 l0 x5_1 t311 t228 t229 x221000_1 x221001_1 x221002_1 x221003_1 t302 t303 t304 t305 t306)) else (none)) else (none)) else (laws_FnLeases.j4 kj22 l0 x5_1 true t228 t229 x221000_1 x221001_1 x221002_1 x221003_1 t302 t303 t304 t305 t306)) else (laws_FnLeases.j4 kj22 l0 x5_1 true t228 t229 x221000_1 x221001_1 x221002_1 x221003_1 t302 t303 t304 t305 t306)) else (laws_FnLeases.j4 kj22 l0 x5_1 false t228 t229 x221000_1 x221001_1 x221002_1 x221003_1 t302 t303 t304 t305 t306))) = some true := H
               have A119 := Aside0.mk A1190
               clear A1190
               by_cases c120 : ((t302 == 0) != t309) = true
               ·
                rw [if_pos c120] at H
                have c120b0 : ((t302 == 0) != t309) = true := c120
                (try (have c120b1 : decide ((t302 == 0) = t309) = false := by simpa using c120))
                (try (have c120b2 : ((t302 == 0) == t309) = false := by simpa using c120))
                (try (have c120b3 : ¬ ((t302 == 0) = t309) := by simpa using c120))
                clear c120
                (first | rw [c120b0] | (simp only [i64_w, i32_w]; rw [c120b0]) | skip)
                exact absurd H (by cases kj22 <;> simp [laws_FnLeases.j4])
               rw [if_neg c120] at H
               have c120b0 : ((t302 == 0) != t309) = false := by simpa using c120
               (try (have c120b1 : decide ((t302 == 0) = t309) = true := by simpa using c120))
               (try (have c120b2 : ((t302 == 0) == t309) = true := by simpa using c120))
               clear c120
               (first | rw [c120b0] | (simp only [i64_w, i32_w]; rw [c120b0]) | skip)
               by_cases c121 : t302 = 0
               ·
                rw [if_pos c121] at H
                have c121b0 : (t302 == 0) = true := beq_iff_eq.mpr c121
                have c121b1 : (t302 != 0) = false := bne_eq_false_iff_eq.mpr c121
                have c121z : t309 = true := by simpa [c121b0] using c120b0
                clear c121
                by_cases c122 : t303 = (ji105)
                ·
                 rw [if_pos c122] at H
                 have c122b0 : (t303 == (ji105)) = true := beq_iff_eq.mpr c122
                 have c122b1 : (t303 != (ji105)) = false := bne_eq_false_iff_eq.mpr c122
                 clear c122
                 by_cases c123 : t304 = (wrap64 (x221001_1 + 1))
                 ·
                  rw [if_pos c123] at H
                  have c123b0 : (t304 == (wrap64 (x221001_1 + 1))) = true := beq_iff_eq.mpr c123
                  have c123b1 : (t304 != (wrap64 (x221001_1 + 1))) = false := bne_eq_false_iff_eq.mpr c123
                  clear c123
                  by_cases c124 : 0 ≤ x221000_1
                  ·
                   rw [if_pos c124] at H
                   have c124b0 : decide (0 ≤ x221000_1) = true := decide_eq_true c124
                   clear c124
                   by_cases c125 : x221000_1 < (t229.length : Int)
                   ·
                    rw [if_pos c125] at H
                    have c125b0 : decide (x221000_1 < (t229.length : Int)) = true := decide_eq_true c125
                    clear c125
                    replace H := Option.bind_eq_some_iff.mp H
                    obtain ⟨t311, A1260, H⟩ := H
                    replace H : (laws_FnLeases.j4 kj22 l0 x5_1 t311 t228 t229 x221000_1 x221001_1 x221002_1 x221003_1 t302 t303 t304 t305 t306) = some true := H
                    have A126 := Aside0.mk A1260
                    clear A1260
                    have H' := Aside0.mk H
                    clear H
                    try go_wp2
                    have n0_ : Aside0 (Kd.R (Kd.int .i64) 2 (((((w113.setCell ⟨gb307, 0, none⟩ (.int .i64 t302)).setCell ⟨gb307, 1, none⟩ (.int .i64 t303)).setCell ⟨gb307, 2, none⟩ (.int .i64 t304)).setCell ⟨gb307, 3, none⟩ (.int .i64 t305)).setCell ⟨gb307, 4, none⟩ (.int .i64 t306)) w.heap.size (fun _ => True) (.slice (some ad301) t229.length co34) t229) := ⟨by (with_reducible repeat (first | apply Kd.R_alloc | apply Kd.R_drewN | apply Kd.R_drew)); exact Kd.R_mono (RF (RF (RF (RF (RF (Kd.R_types HO_220001.out BK307.out (by decide))))))) (fun _ hk => trivial)⟩
                    have n1_ : Aside0 (Kd.R (Kd.int .i64) 2 (((((w113.setCell ⟨gb307, 0, none⟩ (.int .i64 t302)).setCell ⟨gb307, 1, none⟩ (.int .i64 t303)).setCell ⟨gb307, 2, none⟩ (.int .i64 t304)).setCell ⟨gb307, 3, none⟩ (.int .i64 t305)).setCell ⟨gb307, 4, none⟩ (.int .i64 t306)) w.heap.size (fun _ => True) (.slice (some ad301) t229.length co34) t229) := ⟨by (with_reducible repeat (first | apply Kd.R_alloc | apply Kd.R_drewN | apply Kd.R_drew)); exact Kd.R_mono (RF (RF (RF (RF (RF (Kd.R_types HO_233002.out BK307.out (by decide))))))) (fun _ hk => trivial)⟩
                    have n2_ : Aside0 ((((((w113.setCell ⟨gb307, 0, none⟩ (.int .i64 t302)).setCell ⟨gb307, 1, none⟩ (.int .i64 t303)).setCell ⟨gb307, 2, none⟩ (.int .i64 t304)).setCell ⟨gb307, 3, none⟩ (.int .i64 t305)).setCell ⟨gb307, 4, none⟩ (.int .i64 t306)).heap[gb219]? = some (.cells #[.int .i64 t228, .slice (some ad301) t229.length co34] 71 (0, 0))) := ⟨by (with_reducible repeat (first | refine blk_drewN ?_ _ | refine blk_drew ?_ | refine blk_alloc ?_ _)); refine blk_far ?_ NB219_307.out _; (with_reducible repeat (first | refine blk_drewN ?_ _ | refine blk_drew ?_ | refine blk_alloc ?_ _)); refine blk_far ?_ NB219_307.out _; (with_reducible repeat (first | refine blk_drewN ?_ _ | refine blk_drew ?_ | refine blk_alloc ?_ _)); refine blk_far ?_ NB219_307.out _; (with_reducible repeat (first | refine blk_drewN ?_ _ | refine blk_drew ?_ | refine blk_alloc ?_ _)); refine blk_far ?_ NB219_307.out _; (with_reducible repeat (first | refine blk_drewN ?_ _ | refine blk_drew ?_ | refine blk_alloc ?_ _)); refine blk_far ?_ NB219_307.out _; (with_reducible repeat (first | refine blk_drewN ?_ _ | refine blk_drew ?_ | refine blk_alloc ?_ _)); exact BK219.out⟩
                    have n3_ : Aside0 ((((((w113.setCell ⟨gb307, 0, none⟩ (.int .i64 t302)).setCell ⟨gb307, 1, none⟩ (.int .i64 t303)).setCell ⟨gb307, 2, none⟩ (.int .i64 t304)).setCell ⟨gb307, 3, none⟩ (.int .i64 t305)).setCell ⟨gb307, 4, none⟩ (.int .i64 t306)).heap[gb220]? = some (.cells #[.int .i64 x221000_1, .int .i64 x221001_1, .int .i64 x221002_1, .int .i64 x221003_1] 73 (0, 0))) := ⟨by (with_reducible repeat (first | refine blk_drewN ?_ _ | refine blk_drew ?_ | refine blk_alloc ?_ _)); refine blk_far ?_ NB220_307.out _; (with_reducible repeat (first | refine blk_drewN ?_ _ | refine blk_drew ?_ | refine blk_alloc ?_ _)); refine blk_far ?_ NB220_307.out _; (with_reducible repeat (first | refine blk_drewN ?_ _ | refine blk_drew ?_ | refine blk_alloc ?_ _)); refine blk_far ?_ NB220_307.out _; (with_reducible repeat (first | refine blk_drewN ?_ _ | refine blk_drew ?_ | refine blk_alloc ?_ _)); refine blk_far ?_ NB220_307.out _; (with_reducible repeat (first | refine blk_drewN ?_ _ | refine blk_drew ?_ | refine blk_alloc ?_ _)); refine blk_far ?_ NB220_307.out _; (with_reducible repeat (first | refine blk_drewN ?_ _ | refine blk_drew ?_ | refine blk_alloc ?_ _)); exact BK220.out⟩
                    have n4_ : Aside0 ((((((w113.setCell ⟨gb307, 0, none⟩ (.int .i64 t302)).setCell ⟨gb307, 1, none⟩ (.int .i64 t303)).setCell ⟨gb307, 2, none⟩ (.int .i64 t304)).setCell ⟨gb307, 3, none⟩ (.int .i64 t305)).setCell ⟨gb307, 4, none⟩ (.int .i64 t306)).heap[gb232]? = some (.cells #[.int .i64 t227, .int .i64 t228, .slice (some ad301) t229.length co34] 75 (0, 0))) := ⟨by (with_reducible repeat (first | refine blk_drewN ?_ _ | refine blk_drew ?_ | refine blk_alloc ?_ _)); refine blk_far ?_ NB232_307.out _; (with_reducible repeat (first | refine blk_drewN ?_ _ | refine blk_drew ?_ | refine blk_alloc ?_ _)); refine blk_far ?_ NB232_307.out _; (with_reducible repeat (first | refine blk_drewN ?_ _ | refine blk_drew ?_ | refine blk_alloc ?_ _)); refine blk_far ?_ NB232_307.out _; (with_reducible repeat (first | refine blk_drewN ?_ _ | refine blk_drew ?_ | refine blk_alloc ?_ _)); refine blk_far ?_ NB232_307.out _; (with_reducible repeat (first | refine blk_drewN ?_ _ | refine blk_drew ?_ | refine blk_alloc ?_ _)); refine blk_far ?_ NB232_307.out _; (with_reducible repeat (first | refine blk_drewN ?_ _ | refine blk_drew ?_ | refine blk_alloc ?_ _)); exact BK232.out⟩
                    have n5_ : Aside0 ((((((w113.setCell ⟨gb307, 0, none⟩ (.int .i64 t302)).setCell ⟨gb307, 1, none⟩ (.int .i64 t303)).setCell ⟨gb307, 2, none⟩ (.int .i64 t304)).setCell ⟨gb307, 3, none⟩ (.int .i64 t305)).setCell ⟨gb307, 4, none⟩ (.int .i64 t306)).heap[gb307]? = some (.cells #[.int .i64 t302, .int .i64 t303, .int .i64 t304, .int .i64 t305, .int .i64 t306] 81 (0, 0))) := ⟨by (with_reducible repeat (first | refine blk_drewN ?_ _ | refine blk_drew ?_ | refine blk_alloc ?_ _)); refine blk_put (cs := #[.int .i64 t302, .int .i64 t303, .int .i64 t304, .int .i64 t305, .int .i64 0]) ?_ 4 _ rfl; (with_reducible repeat (first | refine blk_drewN ?_ _ | refine blk_drew ?_ | refine blk_alloc ?_ _)); refine blk_put (cs := #[.int .i64 t302, .int .i64 t303, .int .i64 t304, .int .i64 0, .int .i64 0]) ?_ 3 _ rfl; (with_reducible repeat (first | refine blk_drewN ?_ _ | refine blk_drew ?_ | refine blk_alloc ?_ _)); refine blk_put (cs := #[.int .i64 t302, .int .i64 t303, .int .i64 0, .int .i64 0, .int .i64 0]) ?_ 2 _ rfl; (with_reducible repeat (first | refine blk_drewN ?_ _ | refine blk_drew ?_ | refine blk_alloc ?_ _)); refine blk_put (cs := #[.int .i64 t302, .int .i64 0, .int .i64 0, .int .i64 0, .int .i64 0]) ?_ 1 _ rfl; (with_reducible repeat (first | refine blk_drewN ?_ _ | refine blk_drew ?_ | refine blk_alloc ?_ _)); refine blk_put (cs := #[.int .i64 0, .int .i64 0, .int .i64 0, .int .i64 0, .int .i64 0]) ?_ 0 _ rfl; (with_reducible repeat (first | refine blk_drewN ?_ _ | refine blk_drew ?_ | refine blk_alloc ?_ _)); exact BK307.out⟩
                    have n6_ : Aside0 (Below w.heap.size w (((((w113.setCell ⟨gb307, 0, none⟩ (.int .i64 t302)).setCell ⟨gb307, 1, none⟩ (.int .i64 t303)).setCell ⟨gb307, 2, none⟩ (.int .i64 t304)).setCell ⟨gb307, 3, none⟩ (.int .i64 t305)).setCell ⟨gb307, 4, none⟩ (.int .i64 t306))) := ⟨bel HB⟩
                    (try clear HO_220001)
                    (try clear HO_233002)
                    (try clear BK219)
                    (try clear BK220)
                    (try clear BK232)
                    (try clear BK307)
                    (try clear HB)
                    generalize (((((w113.setCell ⟨gb307, 0, none⟩ (.int .i64 t302)).setCell ⟨gb307, 1, none⟩ (.int .i64 t303)).setCell ⟨gb307, 2, none⟩ (.int .i64 t304)).setCell ⟨gb307, 3, none⟩ (.int .i64 t305)).setCell ⟨gb307, 4, none⟩ (.int .i64 t306)) = w127 at n0_ n1_ n2_ n3_ n4_ n5_ n6_ ⊢
                    have HO_220001 := n0_
                    have HO_233002 := n1_
                    have BK219 := n2_
                    have BK220 := n3_
                    have BK232 := n4_
                    have BK307 := n5_
                    have HB := n6_
                    clear n0_ n1_ n2_ n3_ n4_ n5_ n6_
                    replace HO_220001 := am (Kd.R_drew HO_220001.out)
                    replace HO_233002 := am (Kd.R_drew HO_233002.out)
                    replace BK219 := am (blk_drew BK219.out)
                    replace BK220 := am (blk_drew BK220.out)
                    replace BK232 := am (blk_drew BK232.out)
                    replace BK307 := am (blk_drew BK307.out)
                    replace HB := am (below_drew1 HB.out)
                    have p308 : 0 ≤ ((ji105) : Int) := of_decide_eq_true (by first | (with_reducible assumption) | assumption)
                    have q308 : (ji105) < (t229.length : Int) := of_decide_eq_true (by first | (with_reducible assumption) | assumption)
                    obtain ⟨ad308, e308, hx308_0⟩ := Kd.at_int (Kd.R_reads' HO_220001.out).2.2 (ji105) p308 q308
                    obtain rfl : ad301 = ad308 := (by injection e308)
                    replace p308 := eq_true p308
                    replace q308 := eq_true q308
                    have p310 : 0 ≤ (x221000_1 : Int) := of_decide_eq_true (by first | (with_reducible assumption) | assumption)
                    have q310 : x221000_1 < (t229.length : Int) := of_decide_eq_true (by first | (with_reducible assumption) | assumption)
                    obtain ⟨ad310, e310, hx310_0⟩ := Kd.at_int (Kd.R_reads' HO_220001.out).2.2 x221000_1 p310 q310
                    obtain rfl : ad301 = ad310 := (by injection e310)
                    replace p310 := eq_true p310
                    replace q310 := eq_true q310
                    refine start_ (n := 43) (S := fun w' => w'.cell? ⟨gb307, 0, none⟩ = some (.int .i64 t302) ∧ w'.cell? ⟨gb307, 1, none⟩ = some (.int .i64 t303) ∧ w'.cell? ⟨gb307, 2, none⟩ = some (.int .i64 t304) ∧ w'.cell? ⟨gb307, 3, none⟩ = some (.int .i64 t305) ∧ w'.cell? ⟨gb307, 4, none⟩ = some (.int .i64 t306) ∧ w'.cell? ⟨gb220, 0, none⟩ = some (.int .i64 x221000_1) ∧ w'.cell? ⟨gb220, 1, none⟩ = some (.int .i64 x221001_1) ∧ w'.cell? ⟨gb220, 2, none⟩ = some (.int .i64 x221002_1) ∧ w'.cell? ⟨gb220, 3, none⟩ = some (.int .i64 x221003_1) ∧ w'.cell? ⟨gb219, 0, none⟩ = some (.int .i64 t228) ∧ w'.cell? ⟨gb219, 1, none⟩ = some (.slice (some ad301) t229.length co34) ∧ w'.cell? (ad301.add ((ji105)).toNat) = some (.int .i64 (rd t229 (ji105))) ∧ w'.cell? (ad301.add (x221000_1).toNat) = some (.int .i64 (rd t229 x221000_1))) (ds := []) #[false, false, false, false, false, false, false, false, false, false, false, false, false, false, false, false, false, false, false, false, false, false, false, false, false, false, false, false, false, false, false, false, false, false, false, false, false, false, false, false, false, false, false] (by kernel_rfl) rfl rfl ⟨(blk_cell BK307.out 0).trans rfl, (blk_cell BK307.out 1).trans rfl, (blk_cell BK307.out 2).trans rfl, (blk_cell BK307.out 3).trans rfl, (blk_cell BK307.out 4).trans rfl, (blk_cell BK220.out 0).trans rfl, (blk_cell BK220.out 1).trans rfl, (blk_cell BK220.out 2).trans rfl, (blk_cell BK220.out 3).trans rfl, (blk_cell BK219.out 0).trans rfl, (blk_cell BK219.out 1).trans rfl, hx308_0, hx310_0⟩ (fun hHeld => ?_); refine with_tabW laws_FnLeases.tab23 laws_FnLeases.bits23 (fun HT_ HW_ => ?_)
                    generalize w127.drew = w128 at HO_220001 HO_233002 BK219 BK220 BK232 BK307 HB hx308_0 hx310_0 hHeld ⊢
                    refine pA 0 111 [1, 42] ?_
                    refine pA 4 115 [1, 3, 1, 38] ?_
                    refine pA 6 117 [1, 3, 1, 1, 1, 36] ?_
                    refine pA 7 118 [1, 3, 1, 1, 2, 35] ?_
                    refine tA 1 112 [2, 2, 1, 1, 2, 35] (hv := by rintro w' ⟨s0, s1, s2, s3, s4, s5, s6, s7, s8, s9, s10, s11, s12⟩; go_simp; with_reducible rfl) (h := ?_)
                    refine pA 2 113 [3, 1, 1, 1, 2, 35] ?_
                    refine tA 3 114 [5, 1, 2, 35] (hv := by rintro w' ⟨s0, s1, s2, s3, s4, s5, s6, s7, s8, s9, s10, s11, s12⟩; go_simp; with_reducible rfl) (h := ?_)
                    refine tA 5 116 [8, 35] (hv := by rintro w' ⟨s0, s1, s2, s3, s4, s5, s6, s7, s8, s9, s10, s11, s12⟩; go_simp; with_reducible rfl) (h := ?_)
                    refine pA 8 119 [9, 34] ?_
                    refine tA 9 120 [10, 33] (hv := by rintro w' ⟨s0, s1, s2, s3, s4, s5, s6, s7, s8, s9, s10, s11, s12⟩; go_simp; with_reducible rfl) (h := ?_)
                    refine one_ (i := 10) (N := some 121) (tr [11, 32]) rfl rfl (one_of HT_.out (by kernel_rfl)) (by decide) (fun K hK => ?_)
                    refine goes_ Try.func44 (by kernel_rfl) rfl #[.agg #[.int .i64 x221000_1, .int .i64 x221001_1, .int .i64 x221002_1, .int .i64 x221003_1], .int .i64 (rd t229 (ji105))] (by rfl) rfl rfl (by (try simp only [List.map_toArray, List.map_cons, List.map_nil]); first | done | (simp only [hji105]; rfl) | rfl | (simp only [List.length_drop, List.length_take]; rfl)) ?_
                    with_reducible refine (impl_MayTake.calls x221000_1 x221001_1 x221002_1 x221003_1 (rd t229 (ji105)) t309 _ A119.out).mono ?_
                    rintro e w129 ⟨rfl, hb⟩
                    have HS11_ := (hb.cell (World.block_lt_of_cell? _ _ (hHeld.2.2.2.2.2.2.2.2.2.2.2.1))).trans (hHeld.2.2.2.2.2.2.2.2.2.2.2.1)
                    have HS12_ := (hb.cell (World.block_lt_of_cell? _ _ (hHeld.2.2.2.2.2.2.2.2.2.2.2.2))).trans (hHeld.2.2.2.2.2.2.2.2.2.2.2.2)
                    refine ⟨_, rfl, ?_⟩
                    replace HO_220001 := am (Kd.R_below (mR HO_220001) hb)
                    replace HO_233002 := am (Kd.R_below (mR HO_233002) hb)
                    replace BK219 := bK BK219 hb
                    replace BK220 := bK BK220 hb
                    replace BK232 := bK BK232 hb
                    replace BK307 := bK BK307 hb
                    replace HB := bS HB hb
                    (try clear hb)
                    (try clear hb2)
                    (try clear hk)
                    (try clear hi)
                    refine hK.out _ _ ⟨(blk_cell BK307.out 0).trans rfl, (blk_cell BK307.out 1).trans rfl, (blk_cell BK307.out 2).trans rfl, (blk_cell BK307.out 3).trans rfl, (blk_cell BK307.out 4).trans rfl, (blk_cell BK220.out 0).trans rfl, (blk_cell BK220.out 1).trans rfl, (blk_cell BK220.out 2).trans rfl, (blk_cell BK220.out 3).trans rfl, (blk_cell BK219.out 0).trans rfl, (blk_cell BK219.out 1).trans rfl, HS11_, HS12_⟩ (fun hHeld => ?_)
                    clear hK K
                    refine norm_ (a' := ?_) ?_ ?_
                    rotate_left
                    ·
                     show Act.put _ (some 121) _ = _
                     simp only [Act.put, List.setIfInBounds_toArray, List.set_cons_zero, List.set_cons_succ, i64_w, i32_w]
                     rfl
                    refine pA 11 122 [12, 31] ?_
                    refine pA 12 123 [13, 30] ?_
                    refine pA 13 124 [14, 29] ?_
                    refine tA 14 125 [15, 28] (hv := by rintro w' ⟨s0, s1, s2, s3, s4, s5, s6, s7, s8, s9, s10, s11, s12⟩; go_simp; with_reducible rfl) (h := ?_)
                    refine pA 15 126 [16, 27] ?_
                    refine pA 16 127 [17, 26] ?_
                    refine pA 17 128 [18, 25] ?_
                    refine pA 18 129 [19, 24] ?_
                    refine pA 20 131 [19, 1, 1, 22] ?_
                    refine pA 21 132 [19, 1, 2, 21] ?_
                    refine tA 19 130 [22, 21] (hv := by rintro w' ⟨s0, s1, s2, s3, s4, s5, s6, s7, s8, s9, s10, s11, s12⟩; go_simp; with_reducible rfl) (h := ?_)
                    refine pA 22 133 [23, 20] ?_
                    refine pA 23 134 [24, 19] ?_
                    refine pA 24 135 [25, 18] ?_
                    refine pA 25 136 [26, 17] ?_
                    refine pA 27 138 [26, 1, 1, 15] ?_
                    refine tA 26 137 [28, 15] (hv := by rintro w' ⟨s0, s1, s2, s3, s4, s5, s6, s7, s8, s9, s10, s11, s12⟩; go_simp; with_reducible rfl) (h := ?_)
                    refine tA 28 139 [29, 14] (hv := by rintro w' ⟨s0, s1, s2, s3, s4, s5, s6, s7, s8, s9, s10, s11, s12⟩; go_simp; with_reducible rfl) (h := ?_)
                    refine pA 29 140 [30, 13] ?_
                    refine pA 30 141 [31, 12] ?_
                    refine pA 31 142 [32, 11] ?_
                    refine pA 32 143 [33, 10] ?_
                    refine pA 34 145 [33, 1, 1, 8] ?_
                    refine pA 36 147 [33, 1, 1, 1, 1, 6] ?_
                    refine tA 33 144 [35, 1, 1, 6] (hv := by rintro w' ⟨s0, s1, s2, s3, s4, s5, s6, s7, s8, s9, s10, s11, s12⟩; go_simp; with_reducible rfl) (h := ?_)
                    refine tA 35 146 [37, 6] (hv := by rintro w' ⟨s0, s1, s2, s3, s4, s5, s6, s7, s8, s9, s10, s11, s12⟩; go_simp; with_reducible rfl) (h := ?_)
                    refine pA 37 148 [38, 5] ?_
                    refine tA 38 149 [39, 4] (hv := by rintro w' ⟨s0, s1, s2, s3, s4, s5, s6, s7, s8, s9, s10, s11, s12⟩; go_simp; with_reducible rfl) (h := ?_)
                    refine one_ (i := 39) (N := some 150) (tr [40, 3]) rfl rfl (one_of HT_.out (by kernel_rfl)) (by decide) (fun K hK => ?_)
                    refine goes_ Try.func43 (by kernel_rfl) rfl #[.agg #[.int .i64 x221000_1, .int .i64 x221001_1, .int .i64 x221002_1, .int .i64 x221003_1], .int .i64 (rd t229 x221000_1)] (by rfl) rfl rfl (by (try simp only [List.map_toArray, List.map_cons, List.map_nil]); first | done | rfl | (simp only [List.length_drop, List.length_take]; rfl)) ?_
                    with_reducible refine (impl_MayLead.calls x221000_1 x221001_1 x221002_1 x221003_1 (rd t229 x221000_1) t311 _ A126.out).mono ?_
                    rintro e w130 ⟨rfl, hb⟩
                    have HS11_ := (hb.cell (World.block_lt_of_cell? _ _ (hHeld.2.2.2.2.2.2.2.2.2.2.2.1))).trans (hHeld.2.2.2.2.2.2.2.2.2.2.2.1)
                    have HS12_ := (hb.cell (World.block_lt_of_cell? _ _ (hHeld.2.2.2.2.2.2.2.2.2.2.2.2))).trans (hHeld.2.2.2.2.2.2.2.2.2.2.2.2)
                    refine ⟨_, rfl, ?_⟩
                    replace HO_220001 := am (Kd.R_below (mR HO_220001) hb)
                    replace HO_233002 := am (Kd.R_below (mR HO_233002) hb)
                    replace BK219 := bK BK219 hb
                    replace BK220 := bK BK220 hb
                    replace BK232 := bK BK232 hb
                    replace BK307 := bK BK307 hb
                    replace HB := bS HB hb
                    (try clear hb)
                    (try clear hb2)
                    (try clear hk)
                    (try clear hi)
                    refine hK.out _ _ ⟨(blk_cell BK307.out 0).trans rfl, (blk_cell BK307.out 1).trans rfl, (blk_cell BK307.out 2).trans rfl, (blk_cell BK307.out 3).trans rfl, (blk_cell BK307.out 4).trans rfl, (blk_cell BK220.out 0).trans rfl, (blk_cell BK220.out 1).trans rfl, (blk_cell BK220.out 2).trans rfl, (blk_cell BK220.out 3).trans rfl, (blk_cell BK219.out 0).trans rfl, (blk_cell BK219.out 1).trans rfl, HS11_, HS12_⟩ (fun hHeld => ?_)
                    clear hK K
                    refine norm_ (a' := ?_) ?_ ?_
                    rotate_left
                    ·
                     show Act.put _ (some 150) _ = _
                     simp only [Act.put, List.setIfInBounds_toArray, List.set_cons_zero, List.set_cons_succ, i64_w, i32_w]
                     rfl
                    refine pA 40 151 [41, 2] ?_
                    refine pA 41 152 [42, 1] ?_
                    refine pA 42 153 [43] ?_
                    refine done_ (done_of HT_.out (by kernel_rfl)) ?_
                    try go_wp2
                    first | go_meet | (refine Met.intro ?_; go_step; (repeat apply Exists.intro); refine ⟨?rel, ?eqq⟩; (case eqq => (try simp only [c12b0]); (try simp only [c17b0]); (try simp only [c19b0]); (try simp only [c20b0]); (try simp only [c21b0]); (try simp only [c22b0]); (try simp only [c60b0]); (try simp only [c104b0]); (try simp only [c106b0]); (try simp only [c107b0]); (try simp only [c120b0]); (try simp only [c121b0]); (try simp only [c122b0]); (try simp only [c123b0]); (try simp only [c124b0]); (try simp only [c125b0]); rfl))
                    case rel => exact ⟨_, (t311), (by first | rfl | (simp; done) | (simp [*]; done)), H', ⟨by have := HK1.out; have := HJ22.out; first | omega | exact Nat.le_refl _⟩, ⟨by (with_reducible repeat (first | apply Kd.R_alloc | apply Kd.R_drewN | apply Kd.R_drew)); exact HO_220001.out⟩, ⟨by (with_reducible repeat (first | apply Kd.R_alloc | apply Kd.R_drewN | apply Kd.R_drew)); exact HO_233002.out⟩, ⟨by (with_reducible repeat (first | refine blk_drewN ?_ _ | refine blk_drew ?_ | refine blk_alloc ?_ _)); exact BK219.out⟩, ⟨by (with_reducible repeat (first | refine blk_drewN ?_ _ | refine blk_drew ?_ | refine blk_alloc ?_ _)); exact BK220.out⟩, ⟨by (with_reducible repeat (first | refine blk_drewN ?_ _ | refine blk_drew ?_ | refine blk_alloc ?_ _)); exact BK232.out⟩, ⟨by (with_reducible repeat (first | refine blk_drewN ?_ _ | refine blk_drew ?_ | refine blk_alloc ?_ _)); exact BK307.out⟩, ⟨bel HB⟩⟩
                   rw [if_neg c125] at H
                   exact absurd H (by simp)
                  rw [if_neg c124] at H
                  exact absurd H (by simp)
                 rw [if_neg c123] at H
                 have c123b0 : (t304 == (wrap64 (x221001_1 + 1))) = false := beq_eq_false_iff_ne.mpr c123
                 have c123b1 : (t304 != (wrap64 (x221001_1 + 1))) = true := bne_iff_ne.mpr c123
                 exact absurd H (by cases kj22 <;> simp [laws_FnLeases.j4])
                rw [if_neg c122] at H
                have c122b0 : (t303 == (ji105)) = false := beq_eq_false_iff_ne.mpr c122
                have c122b1 : (t303 != (ji105)) = true := bne_iff_ne.mpr c122
                exact absurd H (by cases kj22 <;> simp [laws_FnLeases.j4])
               rw [if_neg c121] at H
               have c121b0 : (t302 == 0) = false := beq_eq_false_iff_ne.mpr c121
               have c121b1 : (t302 != 0) = true := bne_iff_ne.mpr c121
               have c121z : t309 = false := by simpa [c121b0] using c120b0
               have H' := Aside0.mk H
               clear H
               try go_wp2
               have n0_ : Aside0 (Kd.R (Kd.int .i64) 2 (((((w113.setCell ⟨gb307, 0, none⟩ (.int .i64 t302)).setCell ⟨gb307, 1, none⟩ (.int .i64 t303)).setCell ⟨gb307, 2, none⟩ (.int .i64 t304)).setCell ⟨gb307, 3, none⟩ (.int .i64 t305)).setCell ⟨gb307, 4, none⟩ (.int .i64 t306)) w.heap.size (fun _ => True) (.slice (some ad301) t229.length co34) t229) := ⟨by (with_reducible repeat (first | apply Kd.R_alloc | apply Kd.R_drewN | apply Kd.R_drew)); exact Kd.R_mono (RF (RF (RF (RF (RF (Kd.R_types HO_220001.out BK307.out (by decide))))))) (fun _ hk => trivial)⟩
               have n1_ : Aside0 (Kd.R (Kd.int .i64) 2 (((((w113.setCell ⟨gb307, 0, none⟩ (.int .i64 t302)).setCell ⟨gb307, 1, none⟩ (.int .i64 t303)).setCell ⟨gb307, 2, none⟩ (.int .i64 t304)).setCell ⟨gb307, 3, none⟩ (.int .i64 t305)).setCell ⟨gb307, 4, none⟩ (.int .i64 t306)) w.heap.size (fun _ => True) (.slice (some ad301) t229.length co34) t229) := ⟨by (with_reducible repeat (first | apply Kd.R_alloc | apply Kd.R_drewN | apply Kd.R_drew)); exact Kd.R_mono (RF (RF (RF (RF (RF (Kd.R_types HO_233002.out BK307.out (by decide))))))) (fun _ hk => trivial)⟩
               have n2_ : Aside0 ((((((w113.setCell ⟨gb307, 0, none⟩ (.int .i64 t302)).setCell ⟨gb307, 1, none⟩ (.int .i64 t303)).setCell ⟨gb307, 2, none⟩ (.int .i64 t304)).setCell ⟨gb307, 3, none⟩ (.int .i64 t305)).setCell ⟨gb307, 4, none⟩ (.int .i64 t306)).heap[gb219]? = some (.cells #[.int .i64 t228, .slice (some ad301) t229.length co34] 71 (0, 0))) := ⟨by (with_reducible repeat (first | refine blk_drewN ?_ _ | refine blk_drew ?_ | refine blk_alloc ?_ _)); refine blk_far ?_ NB219_307.out _; (with_reducible repeat (first | refine blk_drewN ?_ _ | refine blk_drew ?_ | refine blk_alloc ?_ _)); refine blk_far ?_ NB219_307.out _; (with_reducible repeat (first | refine blk_drewN ?_ _ | refine blk_drew ?_ | refine blk_alloc ?_ _)); refine blk_far ?_ NB219_307.out _; (with_reducible repeat (first | refine blk_drewN ?_ _ | refine blk_drew ?_ | refine blk_alloc ?_ _)); refine blk_far ?_ NB219_307.out _; (with_reducible repeat (first | refine blk_drewN ?_ _ | refine blk_drew ?_ | refine blk_alloc ?_ _)); refine blk_far ?_ NB219_307.out _; (with_reducible repeat (first | refine blk_drewN ?_ _ | refine blk_drew ?_ | refine blk_alloc ?_ _)); exact BK219.out⟩
               have n3_ : Aside0 ((((((w113.setCell ⟨gb307, 0, none⟩ (.int .i64 t302)).setCell ⟨gb307, 1, none⟩ (.int .i64 t303)).setCell ⟨gb307, 2, none⟩ (.int .i64 t304)).setCell ⟨gb307, 3, none⟩ (.int .i64 t305)).setCell ⟨gb307, 4, none⟩ (.int .i64 t306)).heap[gb220]? = some (.cells #[.int .i64 x221000_1, .int .i64 x221001_1, .int .i64 x221002_1, .int .i64 x221003_1] 73 (0, 0))) := ⟨by (with_reducible repeat (first | refine blk_drewN ?_ _ | refine blk_drew ?_ | refine blk_alloc ?_ _)); refine blk_far ?_ NB220_307.out _; (with_reducible repeat (first | refine blk_drewN ?_ _ | refine blk_drew ?_ | refine blk_alloc ?_ _)); refine blk_far ?_ NB220_307.out _; (with_reducible repeat (first | refine blk_drewN ?_ _ | refine blk_drew ?_ | refine blk_alloc ?_ _)); refine blk_far ?_ NB220_307.out _; (with_reducible repeat (first | refine blk_drewN ?_ _ | refine blk_drew ?_ | refine blk_alloc ?_ _)); refine blk_far ?_ NB220_307.out _; (with_reducible repeat (first | refine blk_drewN ?_ _ | refine blk_drew ?_ | refine blk_alloc ?_ _)); refine blk_far ?_ NB220_307.out _; (with_reducible repeat (first | refine blk_drewN ?_ _ | refine blk_drew ?_ | refine blk_alloc ?_ _)); exact BK220.out⟩
               have n4_ : Aside0 ((((((w113.setCell ⟨gb307, 0, none⟩ (.int .i64 t302)).setCell ⟨gb307, 1, none⟩ (.int .i64 t303)).setCell ⟨gb307, 2, none⟩ (.int .i64 t304)).setCell ⟨gb307, 3, none⟩ (.int .i64 t305)).setCell ⟨gb307, 4, none⟩ (.int .i64 t306)).heap[gb232]? = some (.cells #[.int .i64 t227, .int .i64 t228, .slice (some ad301) t229.length co34] 75 (0, 0))) := ⟨by (with_reducible repeat (first | refine blk_drewN ?_ _ | refine blk_drew ?_ | refine blk_alloc ?_ _)); refine blk_far ?_ NB232_307.out _; (with_reducible repeat (first | refine blk_drewN ?_ _ | refine blk_drew ?_ | refine blk_alloc ?_ _)); refine blk_far ?_ NB232_307.out _; (with_reducible repeat (first | refine blk_drewN ?_ _ | refine blk_drew ?_ | refine blk_alloc ?_ _)); refine blk_far ?_ NB232_307.out _; (with_reducible repeat (first | refine blk_drewN ?_ _ | refine blk_drew ?_ | refine blk_alloc ?_ _)); refine blk_far ?_ NB232_307.out _; (with_reducible repeat (first | refine blk_drewN ?_ _ | refine blk_drew ?_ | refine blk_alloc ?_ _)); refine blk_far ?_ NB232_307.out _; (with_reducible repeat (first | refine blk_drewN ?_ _ | refine blk_drew ?_ | refine blk_alloc ?_ _)); exact BK232.out⟩
               have n5_ : Aside0 ((((((w113.setCell ⟨gb307, 0, none⟩ (.int .i64 t302)).setCell ⟨gb307, 1, none⟩ (.int .i64 t303)).setCell ⟨gb307, 2, none⟩ (.int .i64 t304)).setCell ⟨gb307, 3, none⟩ (.int .i64 t305)).setCell ⟨gb307, 4, none⟩ (.int .i64 t306)).heap[gb307]? = some (.cells #[.int .i64 t302, .int .i64 t303, .int .i64 t304, .int .i64 t305, .int .i64 t306] 81 (0, 0))) := ⟨by (with_reducible repeat (first | refine blk_drewN ?_ _ | refine blk_drew ?_ | refine blk_alloc ?_ _)); refine blk_put (cs := #[.int .i64 t302, .int .i64 t303, .int .i64 t304, .int .i64 t305, .int .i64 0]) ?_ 4 _ rfl; (with_reducible repeat (first | refine blk_drewN ?_ _ | refine blk_drew ?_ | refine blk_alloc ?_ _)); refine blk_put (cs := #[.int .i64 t302, .int .i64 t303, .int .i64 t304, .int .i64 0, .int .i64 0]) ?_ 3 _ rfl; (with_reducible repeat (first | refine blk_drewN ?_ _ | refine blk_drew ?_ | refine blk_alloc ?_ _)); refine blk_put (cs := #[.int .i64 t302, .int .i64 t303, .int .i64 0, .int .i64 0, .int .i64 0]) ?_ 2 _ rfl; (with_reducible repeat (first | refine blk_drewN ?_ _ | refine blk_drew ?_ | refine blk_alloc ?_ _)); refine blk_put (cs := #[.int .i64 t302, .int .i64 0, .int .i64 0, .int .i64 0, .int .i64 0]) ?_ 1 _ rfl; (with_reducible repeat (first | refine blk_drewN ?_ _ | refine blk_drew ?_ | refine blk_alloc ?_ _)); refine blk_put (cs := #[.int .i64 0, .int .i64 0, .int .i64 0, .int .i64 0, .int .i64 0]) ?_ 0 _ rfl; (with_reducible repeat (first | refine blk_drewN ?_ _ | refine blk_drew ?_ | refine blk_alloc ?_ _)); exact BK307.out⟩
               have n6_ : Aside0 (Below w.heap.size w (((((w113.setCell ⟨gb307, 0, none⟩ (.int .i64 t302)).setCell ⟨gb307, 1, none⟩ (.int .i64 t303)).setCell ⟨gb307, 2, none⟩ (.int .i64 t304)).setCell ⟨gb307, 3, none⟩ (.int .i64 t305)).setCell ⟨gb307, 4, none⟩ (.int .i64 t306))) := ⟨bel HB⟩
               (try clear HO_220001)
               (try clear HO_233002)
               (try clear BK219)
               (try clear BK220)
               (try clear BK232)
               (try clear BK307)
               (try clear HB)
               generalize (((((w113.setCell ⟨gb307, 0, none⟩ (.int .i64 t302)).setCell ⟨gb307, 1, none⟩ (.int .i64 t303)).setCell ⟨gb307, 2, none⟩ (.int .i64 t304)).setCell ⟨gb307, 3, none⟩ (.int .i64 t305)).setCell ⟨gb307, 4, none⟩ (.int .i64 t306)) = w131 at n0_ n1_ n2_ n3_ n4_ n5_ n6_ ⊢
               have HO_220001 := n0_
               have HO_233002 := n1_
               have BK219 := n2_
               have BK220 := n3_
               have BK232 := n4_
               have BK307 := n5_
               have HB := n6_
               clear n0_ n1_ n2_ n3_ n4_ n5_ n6_
               replace HO_220001 := am (Kd.R_drew HO_220001.out)
               replace HO_233002 := am (Kd.R_drew HO_233002.out)
               replace BK219 := am (blk_drew BK219.out)
               replace BK220 := am (blk_drew BK220.out)
               replace BK232 := am (blk_drew BK232.out)
               replace BK307 := am (blk_drew BK307.out)
               replace HB := am (below_drew1 HB.out)
               have p308 : 0 ≤ ((ji105) : Int) := of_decide_eq_true (by first | (with_reducible assumption) | assumption)
               have q308 : (ji105) < (t229.length : Int) := of_decide_eq_true (by first | (with_reducible assumption) | assumption)
               obtain ⟨ad308, e308, hx308_0⟩ := Kd.at_int (Kd.R_reads' HO_220001.out).2.2 (ji105) p308 q308
               obtain rfl : ad301 = ad308 := (by injection e308)
               replace p308 := eq_true p308
               replace q308 := eq_true q308
               refine start_ (n := 43) (S := fun w' => w'.cell? ⟨gb307, 0, none⟩ = some (.int .i64 t302) ∧ w'.cell? ⟨gb307, 1, none⟩ = some (.int .i64 t303) ∧ w'.cell? ⟨gb307, 2, none⟩ = some (.int .i64 t304) ∧ w'.cell? ⟨gb307, 3, none⟩ = some (.int .i64 t305) ∧ w'.cell? ⟨gb307, 4, none⟩ = some (.int .i64 t306) ∧ w'.cell? ⟨gb220, 0, none⟩ = some (.int .i64 x221000_1) ∧ w'.cell? ⟨gb220, 1, none⟩ = some (.int .i64 x221001_1) ∧ w'.cell? ⟨gb220, 2, none⟩ = some (.int .i64 x221002_1) ∧ w'.cell? ⟨gb220, 3, none⟩ = some (.int .i64 x221003_1) ∧ w'.cell? ⟨gb219, 0, none⟩ = some (.int .i64 t228) ∧ w'.cell? ⟨gb219, 1, none⟩ = some (.slice (some ad301) t229.length co34) ∧ w'.cell? (ad301.add ((ji105)).toNat) = some (.int .i64 (rd t229 (ji105)))) (ds := []) #[false, false, false, false, false, false, false, false, false, false, false, false, false, false, false, false, false, false, false, false, false, false, false, false, false, false, false, false, false, false, false, false, false, false, false, false, false, false, false, false, false, false, false] (by kernel_rfl) rfl rfl ⟨(blk_cell BK307.out 0).trans rfl, (blk_cell BK307.out 1).trans rfl, (blk_cell BK307.out 2).trans rfl, (blk_cell BK307.out 3).trans rfl, (blk_cell BK307.out 4).trans rfl, (blk_cell BK220.out 0).trans rfl, (blk_cell BK220.out 1).trans rfl, (blk_cell BK220.out 2).trans rfl, (blk_cell BK220.out 3).trans rfl, (blk_cell BK219.out 0).trans rfl, (blk_cell BK219.out 1).trans rfl, hx308_0⟩ (fun hHeld => ?_); refine with_tabW laws_FnLeases.tab23 laws_FnLeases.bits23 (fun HT_ HW_ => ?_)
               generalize w131.drew = w132 at HO_220001 HO_233002 BK219 BK220 BK232 BK307 HB hx308_0 hHeld ⊢
               refine pA 0 111 [1, 42] ?_
               refine pA 4 115 [1, 3, 1, 38] ?_
               refine pA 6 117 [1, 3, 1, 1, 1, 36] ?_
               refine pA 7 118 [1, 3, 1, 1, 2, 35] ?_
               refine tA 1 112 [2, 2, 1, 1, 2, 35] (hv := by rintro w' ⟨s0, s1, s2, s3, s4, s5, s6, s7, s8, s9, s10, s11⟩; go_simp; with_reducible rfl) (h := ?_)
               refine pA 2 113 [3, 1, 1, 1, 2, 35] ?_
               refine tA 3 114 [5, 1, 2, 35] (hv := by rintro w' ⟨s0, s1, s2, s3, s4, s5, s6, s7, s8, s9, s10, s11⟩; go_simp; with_reducible rfl) (h := ?_)
               refine tA 5 116 [8, 35] (hv := by rintro w' ⟨s0, s1, s2, s3, s4, s5, s6, s7, s8, s9, s10, s11⟩; go_simp; with_reducible rfl) (h := ?_)
               refine pA 8 119 [9, 34] ?_
               refine tA 9 120 [10, 33] (hv := by rintro w' ⟨s0, s1, s2, s3, s4, s5, s6, s7, s8, s9, s10, s11⟩; go_simp; with_reducible rfl) (h := ?_)
               refine one_ (i := 10) (N := some 121) (tr [11, 32]) rfl rfl (one_of HT_.out (by kernel_rfl)) (by decide) (fun K hK => ?_)
               refine goes_ Try.func44 (by kernel_rfl) rfl #[.agg #[.int .i64 x221000_1, .int .i64 x221001_1, .int .i64 x221002_1, .int .i64 x221003_1], .int .i64 (rd t229 (ji105))] (by rfl) rfl rfl (by (try simp only [List.map_toArray, List.map_cons, List.map_nil]); first | done | (simp only [hji105]; rfl) | rfl | (simp only [List.length_drop, List.length_take]; rfl)) ?_
               with_reducible refine (impl_MayTake.calls x221000_1 x221001_1 x221002_1 x221003_1 (rd t229 (ji105)) t309 _ A119.out).mono ?_
               rintro e w133 ⟨rfl, hb⟩
               have HS11_ := (hb.cell (World.block_lt_of_cell? _ _ (hHeld.2.2.2.2.2.2.2.2.2.2.2))).trans (hHeld.2.2.2.2.2.2.2.2.2.2.2)
               refine ⟨_, rfl, ?_⟩
               replace HO_220001 := am (Kd.R_below (mR HO_220001) hb)
               replace HO_233002 := am (Kd.R_below (mR HO_233002) hb)
               replace BK219 := bK BK219 hb
               replace BK220 := bK BK220 hb
               replace BK232 := bK BK232 hb
               replace BK307 := bK BK307 hb
               replace HB := bS HB hb
               (try clear hb)
               (try clear hb2)
               (try clear hk)
               (try clear hi)
               refine hK.out _ _ ⟨(blk_cell BK307.out 0).trans rfl, (blk_cell BK307.out 1).trans rfl, (blk_cell BK307.out 2).trans rfl, (blk_cell BK307.out 3).trans rfl, (blk_cell BK307.out 4).trans rfl, (blk_cell BK220.out 0).trans rfl, (blk_cell BK220.out 1).trans rfl, (blk_cell BK220.out 2).trans rfl, (blk_cell BK220.out 3).trans rfl, (blk_cell BK219.out 0).trans rfl, (blk_cell BK219.out 1).trans rfl, HS11_⟩ (fun hHeld => ?_)
               clear hK K
               refine norm_ (a' := ?_) ?_ ?_
               rotate_left
               ·
                show Act.put _ (some 121) _ = _
                simp only [Act.put, List.setIfInBounds_toArray, List.set_cons_zero, List.set_cons_succ, i64_w, i32_w]
                rfl
               refine pA 11 122 [12, 31] ?_
               refine pA 12 123 [13, 30] ?_
               refine pA 13 124 [14, 29] ?_
               refine tA 14 125 [15, 28] (hv := by rintro w' ⟨s0, s1, s2, s3, s4, s5, s6, s7, s8, s9, s10, s11⟩; go_simp; with_reducible rfl) (h := ?_)
               refine pA 15 126 [16, 27] ?_
               refine pA 16 127 [17, 26] ?_
               refine pU 17 128 [18, 25] ?_
               refine pU 18 129 [19, 24] ?_
               refine pU 19 130 [20, 23] ?_
               refine pU 20 131 [21, 22] ?_
               refine pU 21 132 [22, 21] ?_
               refine pU 22 133 [23, 20] ?_
               refine pU 23 134 [24, 19] ?_
               refine pU 24 135 [25, 18] ?_
               refine pU 25 136 [26, 17] ?_
               refine pU 26 137 [27, 16] ?_
               refine pU 27 138 [28, 15] ?_
               refine pU 28 139 [29, 14] ?_
               refine pU 29 140 [30, 13] ?_
               refine pU 30 141 [31, 12] ?_
               refine pU 31 142 [32, 11] ?_
               refine pU 32 143 [33, 10] ?_
               refine pU 33 144 [34, 9] ?_
               refine pU 34 145 [35, 8] ?_
               refine pU 35 146 [36, 7] ?_
               refine pU 36 147 [37, 6] ?_
               refine pU 37 148 [38, 5] ?_
               refine pU 38 149 [39, 4] ?_
               refine pU 39 150 [40, 3] ?_
               refine pU 40 151 [41, 2] ?_
               refine pA 41 152 [42, 1] ?_
               refine pA 42 153 [43] ?_
               refine done_ (done_of HT_.out (by kernel_rfl)) ?_
               try go_wp2
               first | go_meet | (refine Met.intro ?_; go_step; (repeat apply Exists.intro); refine ⟨?rel, ?eqq⟩; (case eqq => (try simp only [c12b0]); (try simp only [c17b0]); (try simp only [c19b0]); (try simp only [c20b0]); (try simp only [c21b0]); (try simp only [c22b0]); (try simp only [c60b0]); (try simp only [c104b0]); (try simp only [c106b0]); (try simp only [c107b0]); (try simp only [c120b0]); (try simp only [c121b0]); rfl))
               case rel => exact ⟨_, (false), (by first | rfl | (simp; done) | (simp [*]; done)), H', ⟨by have := HK1.out; have := HJ22.out; first | omega | exact Nat.le_refl _⟩, ⟨by (with_reducible repeat (first | apply Kd.R_alloc | apply Kd.R_drewN | apply Kd.R_drew)); exact HO_220001.out⟩, ⟨by (with_reducible repeat (first | apply Kd.R_alloc | apply Kd.R_drewN | apply Kd.R_drew)); exact HO_233002.out⟩, ⟨by (with_reducible repeat (first | refine blk_drewN ?_ _ | refine blk_drew ?_ | refine blk_alloc ?_ _)); exact BK219.out⟩, ⟨by (with_reducible repeat (first | refine blk_drewN ?_ _ | refine blk_drew ?_ | refine blk_alloc ?_ _)); exact BK220.out⟩, ⟨by (with_reducible repeat (first | refine blk_drewN ?_ _ | refine blk_drew ?_ | refine blk_alloc ?_ _)); exact BK232.out⟩, ⟨by (with_reducible repeat (first | refine blk_drewN ?_ _ | refine blk_drew ?_ | refine blk_alloc ?_ _)); exact BK307.out⟩, ⟨bel HB⟩⟩
              case rest =>
               clear HC109
               try clear c1
               try clear c2
               try clear p2
               try clear p3
               try clear q3
               try clear hx3
               try clear c4
               try clear c6
               try clear p6
               try clear c10
               try clear c12
               try clear c12b0
               try clear c17
               try clear c17b0
               try clear c19
               try clear c19b0
               try clear c20
               try clear c20b0
               try clear c21
               try clear c21b0
               try clear c22
               try clear c22b0
               try clear p30
               try clear q30
               try clear hx30
               try clear c43
               try clear c44
               try clear c60
               try clear c60b0
               try clear p64
               try clear c104
               try clear c104b0
               try clear c106
               try clear c106b0
               try clear c107
               try clear c107b0
               try clear c120
               try clear c120b0
               try clear c121
               try clear c121b0
               try clear c121b1
               try clear c122
               try clear c122b0
               try clear c122b1
               try clear c123
               try clear c123b0
               try clear c123b1
               try clear c124
               try clear c124b0
               try clear c125
               try clear c125b0
               try clear hx308_0
               try clear p308
               try clear q308
               obtain ⟨kq, x153_108, rfl, HA, HJ108, HO_220001, HO_233002, BK219, BK220, BK232, BK307, HB⟩ := hcut
               cases kq with
               | zero => exact absurd HA.out (by simp [laws_FnLeases.j4])
               | succ kj108 =>
                have H := HA.out
                clear HA
                simp only [laws_FnLeases.j4] at H
                by_cases c134 : x153_108 = true
                ·
                 subst c134
                 have H1 : (some false) = some true := by rw [if_pos rfl] at H; first | done | exact H
                 clear H
                 have H := H1
                 clear H1
                 exact absurd H (by simp)
                replace c134 := Bool.eq_false_iff.mpr c134
                subst c134
                have H1 : (if t302 = 0 then ((impl_LeaseFault.f t303 t304 t305 t306).bind fun t314 => (if t314 = 0 then (laws_FnLeases.l0 kj108 l0 (wrap64 (x5_1 + 1)) t228 t229 t303 t304 t305 t306) else (some false))) else ((impl_LeaseFault.f x221000_1 x221001_1 x221002_1 x221003_1).bind fun t315 => (if t315 = 0 then (laws_FnLeases.l0 kj108 l0 (wrap64 (x5_1 + 1)) t228 t229 x221000_1 x221001_1 x221002_1 x221003_1) else (some false)))) = some true := by rw [if_neg (show ¬ (false = true) by decide)] at H; first | done | exact H
                clear H
                have H := H1
                clear H1
                by_cases c135 : t302 = 0
                ·
                 rw [if_pos c135] at H
                 have c135b0 : (t302 == 0) = true := beq_iff_eq.mpr c135
                 have c135b1 : (t302 != 0) = false := bne_eq_false_iff_eq.mpr c135
                 clear c135
                 replace H := Option.bind_eq_some_iff.mp H
                 obtain ⟨t314, A1360, H⟩ := H
                 replace H : (if t314 = 0 then (laws_FnLeases.l0 kj108 l0 (wrap64 (x5_1 + 1)) t228 t229 t303 t304 t305 t306) else (some false)) = some true := H
                 have A136 := Aside0.mk A1360
                 clear A1360
                 by_cases c137 : t314 = 0
                 ·
                  rw [if_pos c137] at H
                  have c137b0 : (t314 == 0) = true := beq_iff_eq.mpr c137
                  have c137b1 : (t314 != 0) = false := bne_eq_false_iff_eq.mpr c137
                  clear c137
                  have H' := Aside0.mk H
                  clear H
                  have hnb138 := NB307_219.out
                  have hnc138 := NB219_307.out
                  have hnb139 := NB307_220.out
                  have hnc139 := NB220_307.out
                  have hnb140 := NB307_232.out
                  have hnc140 := NB232_307.out
                  have hz141 := cl5 BK307
                  have hnb142 := NB220_219.out
                  have hnc142 := NB219_220.out
                  have hnb143 := NB220_232.out
                  have hnc143 := NB232_220.out
                  have hz144 := cl4 BK220
                  go_wp2_with (first | ((with_reducible refine gate_callee (f := 47) rfl ?_); refine goA (some 160) rfl rfl Try.func47 rfl #[.agg #[.int .i64 t303, .int .i64 t304, .int .i64 t305, .int .i64 t306]] rfl ?_; (with_reducible refine (impl_LeaseFault.calls t303 t304 t305 t306 t314 _ A136.out).mono ?_); rintro e w145 ⟨rfl, hb⟩; refine ⟨_, rfl, ?_⟩; replace HO_220001 := am (Kd.R_below (by (with_reducible repeat (first | apply Kd.R_alloc | apply Kd.R_drewN | apply Kd.R_drew)); exact (Kd.R_mono (RF (RF (RF (RF (Kd.R_types HO_220001.out BK220.out (by decide)))))) (fun _ h_ => h_.1))) hb); replace HO_233002 := am (Kd.R_below (by (with_reducible repeat (first | apply Kd.R_alloc | apply Kd.R_drewN | apply Kd.R_drew)); exact (Kd.R_mono (RF (RF (RF (RF (Kd.R_types HO_233002.out BK220.out (by decide)))))) (fun _ h_ => h_.1))) hb); replace BK219 := am (blk_below (g := gb219) (o := .cells #[.int .i64 t228, .slice (some ad301) t229.length co34] 71 (0, 0)) (mP BK219) hb); replace BK220 := am (blk_below (g := gb220) (o := .cells #[.int .i64 t303, .int .i64 t304, .int .i64 t305, .int .i64 t306] 73 (0, 0)) (mP BK220) hb); replace BK232 := am (blk_below (g := gb232) (o := .cells #[.int .i64 t227, .int .i64 t228, .slice (some ad301) t229.length co34] 75 (0, 0)) (mP BK232) hb); replace BK307 := am (blk_below (g := gb307) (o := .cells #[.int .i64 t302, .int .i64 t303, .int .i64 t304, .int .i64 t305, .int .i64 t306] 81 (0, 0)) (mP BK307) hb); replace HB := bS HB hb; (try clear hb); (try clear hb2); (try clear hk); (try clear hi)))
                  go_roundg kj108
                  case measure => have := HK1.out; have := HJ22.out; have := HJ108.out; omega
                  case rel => exact ⟨(wrap64 (x5_1 + 1)), (t228), (t229), (t303), (t304), (t305), (t306), (.slice (some ad301) t229.length co34), (by first | rfl | (simp; done) | (simp [*]; done)), H', ⟨by have := HK1.out; have := HJ22.out; have := HJ108.out; omega⟩, ⟨by (with_reducible repeat (first | apply Kd.R_alloc | apply Kd.R_drewN | apply Kd.R_drew)); exact HO_220001.out⟩, ⟨by (with_reducible repeat (first | refine blk_drewN ?_ _ | refine blk_drew ?_ | refine blk_alloc ?_ _)); exact BK219.out⟩, ⟨by (with_reducible repeat (first | refine blk_drewN ?_ _ | refine blk_drew ?_ | refine blk_alloc ?_ _)); exact BK220.out⟩, ⟨bel HB⟩⟩
                 rw [if_neg c137] at H
                 have c137b0 : (t314 == 0) = false := beq_eq_false_iff_ne.mpr c137
                 have c137b1 : (t314 != 0) = true := bne_iff_ne.mpr c137
                 exact absurd H (by simp)
                rw [if_neg c135] at H
                have c135b0 : (t302 == 0) = false := beq_eq_false_iff_ne.mpr c135
                have c135b1 : (t302 != 0) = true := bne_iff_ne.mpr c135
                replace H := Option.bind_eq_some_iff.mp H
                obtain ⟨t315, A1460, H⟩ := H
                replace H : (if t315 = 0 then (laws_FnLeases.l0 kj108 l0 (wrap64 (x5_1 + 1)) t228 t229 x221000_1 x221001_1 x221002_1 x221003_1) else (some false)) = some true := H
                have A146 := Aside0.mk A1460
                clear A1460
                by_cases c147 : t315 = 0
                ·
                 rw [if_pos c147] at H
                 have c147b0 : (t315 == 0) = true := beq_iff_eq.mpr c147
                 have c147b1 : (t315 != 0) = false := bne_eq_false_iff_eq.mpr c147
                 clear c147
                 have H' := Aside0.mk H
                 clear H
                 have hnb148 := NB307_219.out
                 have hnc148 := NB219_307.out
                 have hnb149 := NB307_220.out
                 have hnc149 := NB220_307.out
                 have hnb150 := NB307_232.out
                 have hnc150 := NB232_307.out
                 have hz151 := cl5 BK307
                 have hnb152 := NB220_219.out
                 have hnc152 := NB219_220.out
                 have hnb153 := NB220_232.out
                 have hnc153 := NB232_220.out
                 have hz154 := cl4 BK220
                 go_wp2_with (first | ((with_reducible refine gate_callee (f := 47) rfl ?_); refine goA (some 160) rfl rfl Try.func47 rfl #[.agg #[.int .i64 x221000_1, .int .i64 x221001_1, .int .i64 x221002_1, .int .i64 x221003_1]] rfl ?_; (with_reducible refine (impl_LeaseFault.calls x221000_1 x221001_1 x221002_1 x221003_1 t315 _ A146.out).mono ?_); rintro e w155 ⟨rfl, hb⟩; refine ⟨_, rfl, ?_⟩; replace HO_220001 := am (Kd.R_below (mR HO_220001) hb); replace HO_233002 := am (Kd.R_below (mR HO_233002) hb); replace BK219 := bK BK219 hb; replace BK220 := bK BK220 hb; replace BK232 := bK BK232 hb; replace BK307 := bK BK307 hb; replace HB := bS HB hb; (try clear hb); (try clear hb2); (try clear hk); (try clear hi)))
                 go_roundg kj108
                 case measure => have := HK1.out; have := HJ22.out; have := HJ108.out; omega
                 case rel => exact ⟨(wrap64 (x5_1 + 1)), (t228), (t229), (x221000_1), (x221001_1), (x221002_1), (x221003_1), (.slice (some ad301) t229.length co34), (by first | rfl | (simp; done) | (simp [*]; done)), H', ⟨by have := HK1.out; have := HJ22.out; have := HJ108.out; omega⟩, ⟨by (with_reducible repeat (first | apply Kd.R_alloc | apply Kd.R_drewN | apply Kd.R_drew)); exact HO_220001.out⟩, ⟨by (with_reducible repeat (first | refine blk_drewN ?_ _ | refine blk_drew ?_ | refine blk_alloc ?_ _)); exact BK219.out⟩, ⟨by (with_reducible repeat (first | refine blk_drewN ?_ _ | refine blk_drew ?_ | refine blk_alloc ?_ _)); exact BK220.out⟩, ⟨bel HB⟩⟩
                rw [if_neg c147] at H
                have c147b0 : (t315 == 0) = false := beq_eq_false_iff_ne.mpr c147
                have c147b1 : (t315 != 0) = true := bne_iff_ne.mpr c147
                exact absurd H (by simp)
             rw [if_neg c107] at H
             exact absurd H (by simp)
            rw [if_neg c106] at H
            exact absurd H (by simp)
           rw [if_neg c104] at H
           have c104b0 : (t291 == 1) = false := beq_eq_false_iff_ne.mpr c104
           have c104b1 : (t291 != 1) = true := bne_iff_ne.mpr c104
           replace H := Option.bind_eq_some_iff.mp H
           obtain ⟨t316, A1560, H⟩ := H
           replace H : (if t316 = 0 then (laws_FnLeases.l0 kj22 l0 (wrap64 (x5_1 + 1)) t228 t229 x221000_1 x221001_1 x221002_1 x221003_1) else (some false)) = some true := H
           have A156 := Aside0.mk A1560
           clear A1560
           by_cases c157 : t316 = 0
           ·
            rw [if_pos c157] at H
            have c157b0 : (t316 == 0) = true := beq_iff_eq.mpr c157
            have c157b1 : (t316 != 0) = false := bne_eq_false_iff_eq.mpr c157
            clear c157
            have H' := Aside0.mk H
            clear H
            go_wp2_with (first | ((with_reducible refine gate_callee (f := 41) rfl ?_); refine goA (some 84) rfl rfl Try.func41 rfl #[.slice A0 l0.length c0, .int .i64 (wrap64 (x5_1 + 120)), .int .i64 4] rfl ?_; (with_reducible refine (laws_lwAt.calls _ _ l0 (wrap64 (x5_1 + 120)) 4 t291 _ ?side1 ?side2 A59.out).mono ?_); (case side1 => exact mC HR0 HB); (case side2 => exact HC0.out); rintro e w' ⟨rfl, ⟨nd, rfl⟩⟩; refine ⟨_, rfl, ?_⟩; have hnb158 := NB220_219.out; have hnc158 := NB219_220.out; have hnb159 := NB220_232.out; have hnc159 := NB232_220.out; have hz160 := cl4 BK220) | ((with_reducible refine gate_callee (f := 47) rfl ?_); refine goA (some 160) rfl rfl Try.func47 rfl #[.agg #[.int .i64 x221000_1, .int .i64 x221001_1, .int .i64 x221002_1, .int .i64 x221003_1]] rfl ?_; (with_reducible refine (impl_LeaseFault.calls x221000_1 x221001_1 x221002_1 x221003_1 t316 _ A156.out).mono ?_); rintro e w161 ⟨rfl, hb⟩; refine ⟨_, rfl, ?_⟩; replace HO_220001 := am (Kd.R_below (mR HO_220001) hb); replace HO_233002 := am (Kd.R_below (mR HO_233002) hb); replace BK219 := bK BK219 hb; replace BK220 := bK BK220 hb; replace BK232 := bK BK232 hb; replace HB := bS HB hb; (try clear hb); (try clear hb2); (try clear hk); (try clear hi)))
            go_roundg kj22
            case measure => have := HK1.out; have := HJ22.out; omega
            case rel => exact ⟨(wrap64 (x5_1 + 1)), (t228), (t229), (x221000_1), (x221001_1), (x221002_1), (x221003_1), (.slice Ao34 t229.length co34), (by first | rfl | (simp; done) | (simp [*]; done)), H', ⟨by have := HK1.out; have := HJ22.out; omega⟩, ⟨by (with_reducible repeat (first | apply Kd.R_alloc | apply Kd.R_drewN | apply Kd.R_drew)); exact HO_220001.out⟩, ⟨by (with_reducible repeat (first | refine blk_drewN ?_ _ | refine blk_drew ?_ | refine blk_alloc ?_ _)); exact BK219.out⟩, ⟨by (with_reducible repeat (first | refine blk_drewN ?_ _ | refine blk_drew ?_ | refine blk_alloc ?_ _)); exact BK220.out⟩, ⟨bel HB⟩⟩
           rw [if_neg c157] at H
           have c157b0 : (t316 == 0) = false := beq_eq_false_iff_ne.mpr c157
           have c157b1 : (t316 != 0) = true := bne_iff_ne.mpr c157
           exact absurd H (by simp)
        rw [if_neg c22] at H
        exact absurd H (by simp)
       rw [if_neg c21] at H
       exact absurd H (by simp)
      rw [if_neg c20] at H
      have c20b0 : ((t229.length : Int) == 2) = false := beq_eq_false_iff_ne.mpr c20
      have c20b1 : ((t229.length : Int) != 2) = true := bne_iff_ne.mpr c20
      exact absurd H (by simp)
     rw [if_neg c19] at H
     have c19b0 : (t233 == 0) = false := beq_eq_false_iff_ne.mpr c19
     have c19b1 : (t233 != 0) = true := bne_iff_ne.mpr c19
     exact absurd H (by simp)
    rw [if_neg c17] at H
    have c17b0 : (t227 == 0) = false := beq_eq_false_iff_ne.mpr c17
    have c17b1 : (t227 != 0) = true := bne_iff_ne.mpr c17
    exact absurd H (by simp)
   rw [if_neg c12] at H
   have c12b0 : decide (x5_1 < 40) = false := decide_eq_false c12
   clear c12
   replace H := Option.bind_eq_some_iff.mp H
   obtain ⟨⟨t317, t318, t319, t320, t321⟩, A1620, H⟩ := H
   replace H : ((impl_MayTake.f t317 t318 t319 t320 t321).bind fun t323 => ((spec_MayTake.f t317 t318 t319 t320 t321).bind fun t324 => (if (t323 == t324) = true then ((impl_MayLead.f t317 t318 t319 t320 t321).bind fun t325 => ((spec_MayLead.f t317 t318 t319 t320 t321).bind fun t326 => (some (t325 == t326)))) else (some false)))) = some true := H
   have A162 := Aside0.mk A1620
   clear A1620
   replace H := Option.bind_eq_some_iff.mp H
   obtain ⟨t323, A1630, H⟩ := H
   replace H : ((spec_MayTake.f t317 t318 t319 t320 t321).bind fun t324 => (if (t323 == t324) = true then ((impl_MayLead.f t317 t318 t319 t320 t321).bind fun t325 => ((spec_MayLead.f t317 t318 t319 t320 t321).bind fun t326 => (some (t325 == t326)))) else (some false))) = some true := H
   have A163 := Aside0.mk A1630
   clear A1630
   replace H := Option.bind_eq_some_iff.mp H
   obtain ⟨t324, A1640, H⟩ := H
   replace H : (if (t323 == t324) = true then ((impl_MayLead.f t317 t318 t319 t320 t321).bind fun t325 => ((spec_MayLead.f t317 t318 t319 t320 t321).bind fun t326 => (some (t325 == t326)))) else (some false)) = some true := H
   have A164 := Aside0.mk A1640
   clear A1640
   by_cases c165 : (t323 == t324) = true
   ·
    rw [if_pos c165] at H
    have c165b0 : (t323 == t324) = true := c165
    (try (have c165b1 : decide (t323 = t324) = true := by simpa using c165))
    (try (have c165b2 : (t323 == t324) = true := by simpa using c165))
    clear c165
    replace H := Option.bind_eq_some_iff.mp H
    obtain ⟨t325, A1660, H⟩ := H
    replace H : ((spec_MayLead.f t317 t318 t319 t320 t321).bind fun t326 => (some (t325 == t326))) = some true := H
    have A166 := Aside0.mk A1660
    clear A1660
    replace H := Option.bind_eq_some_iff.mp H
    obtain ⟨t326, A1670, H⟩ := H
    replace H : (some (t325 == t326)) = some true := H
    have A167 := Aside0.mk A1670
    clear A1670
    have HT_ := Option.some.inj H
    clear H
    try go_wp2_with (first | ((with_reducible refine gate_callee (f := 48) rfl ?_); refine goA (some 164) rfl rfl Try.func48 rfl #[.slice A0 l0.length c0] rfl ?_; (with_reducible refine (spec_DrawMayTake.calls _ _ l0 t317 t318 t319 t320 t321 _ ?side1 ?side2 A162.out).mono ?_); (case side1 => exact mC HR0 HB); (case side2 => exact HC0.out); rintro e w168 ⟨rfl, hb⟩; refine ⟨_, rfl, ?_⟩; replace HO_220001 := am (Kd.R_below (mR HO_220001) hb); replace BK219 := bK BK219 hb; replace BK220 := bK BK220 hb; replace HB := bS HB hb; (try clear hb); (try clear hb2); (try clear hk); (try clear hi)) | ((with_reducible refine gate_dst (N := 11) rfl ?_); (try (refine gate_guard (by rfl) ?_; dsimp only)); refine boxE #[.int .i64 0, .int .i64 0, .int .i64 0, .int .i64 0] 73 (N := 11) rfl rfl ?_; intro gb322 hg w169 hbox hb; replace HO_220001 := am (Kd.R_below (mR HO_220001) hb); have BK322 := Aside0.mk hbox; have GW322 := gZ HB hg; have GE322 := gZ HB hg; replace HB := bS HB hb; have NB219_322 := nL BK219 hg; have NB322_219 := nG BK219 hg; replace BK219 := bK BK219 hb; have NB220_322 := nL BK220 hg; have NB322_220 := nG BK220 hg; replace BK220 := bK BK220 hb; clear hb hbox hg; have hnb170 := NB322_219.out; have hnc170 := NB219_322.out; have hnb171 := NB322_220.out; have hnc171 := NB220_322.out; have hz172 := cl4 BK322))
    have n0_ : Aside0 (Kd.R (Kd.int .i64) 2 ((((w169.setCell ⟨gb322, 0, none⟩ (.int .i64 t317)).setCell ⟨gb322, 1, none⟩ (.int .i64 t318)).setCell ⟨gb322, 2, none⟩ (.int .i64 t319)).setCell ⟨gb322, 3, none⟩ (.int .i64 t320)) w.heap.size (fun _ => True) u220001 x220001_1) := ⟨by (with_reducible repeat (first | apply Kd.R_alloc | apply Kd.R_drewN | apply Kd.R_drew)); exact Kd.R_mono (RF (RF (RF (RF (Kd.R_types HO_220001.out BK322.out (by decide)))))) (fun _ hk => trivial)⟩
    have n1_ : Aside0 (((((w169.setCell ⟨gb322, 0, none⟩ (.int .i64 t317)).setCell ⟨gb322, 1, none⟩ (.int .i64 t318)).setCell ⟨gb322, 2, none⟩ (.int .i64 t319)).setCell ⟨gb322, 3, none⟩ (.int .i64 t320)).heap[gb219]? = some (.cells #[.int .i64 x220000_1, u220001] 71 (0, 0))) := ⟨by (with_reducible repeat (first | refine blk_drewN ?_ _ | refine blk_drew ?_ | refine blk_alloc ?_ _)); refine blk_far ?_ NB219_322.out _; (with_reducible repeat (first | refine blk_drewN ?_ _ | refine blk_drew ?_ | refine blk_alloc ?_ _)); refine blk_far ?_ NB219_322.out _; (with_reducible repeat (first | refine blk_drewN ?_ _ | refine blk_drew ?_ | refine blk_alloc ?_ _)); refine blk_far ?_ NB219_322.out _; (with_reducible repeat (first | refine blk_drewN ?_ _ | refine blk_drew ?_ | refine blk_alloc ?_ _)); refine blk_far ?_ NB219_322.out _; (with_reducible repeat (first | refine blk_drewN ?_ _ | refine blk_drew ?_ | refine blk_alloc ?_ _)); exact BK219.out⟩
    have n2_ : Aside0 (((((w169.setCell ⟨gb322, 0, none⟩ (.int .i64 t317)).setCell ⟨gb322, 1, none⟩ (.int .i64 t318)).setCell ⟨gb322, 2, none⟩ (.int .i64 t319)).setCell ⟨gb322, 3, none⟩ (.int .i64 t320)).heap[gb220]? = some (.cells #[.int .i64 x221000_1, .int .i64 x221001_1, .int .i64 x221002_1, .int .i64 x221003_1] 73 (0, 0))) := ⟨by (with_reducible repeat (first | refine blk_drewN ?_ _ | refine blk_drew ?_ | refine blk_alloc ?_ _)); refine blk_far ?_ NB220_322.out _; (with_reducible repeat (first | refine blk_drewN ?_ _ | refine blk_drew ?_ | refine blk_alloc ?_ _)); refine blk_far ?_ NB220_322.out _; (with_reducible repeat (first | refine blk_drewN ?_ _ | refine blk_drew ?_ | refine blk_alloc ?_ _)); refine blk_far ?_ NB220_322.out _; (with_reducible repeat (first | refine blk_drewN ?_ _ | refine blk_drew ?_ | refine blk_alloc ?_ _)); refine blk_far ?_ NB220_322.out _; (with_reducible repeat (first | refine blk_drewN ?_ _ | refine blk_drew ?_ | refine blk_alloc ?_ _)); exact BK220.out⟩
    have n3_ : Aside0 (((((w169.setCell ⟨gb322, 0, none⟩ (.int .i64 t317)).setCell ⟨gb322, 1, none⟩ (.int .i64 t318)).setCell ⟨gb322, 2, none⟩ (.int .i64 t319)).setCell ⟨gb322, 3, none⟩ (.int .i64 t320)).heap[gb322]? = some (.cells #[.int .i64 t317, .int .i64 t318, .int .i64 t319, .int .i64 t320] 73 (0, 0))) := ⟨by (with_reducible repeat (first | refine blk_drewN ?_ _ | refine blk_drew ?_ | refine blk_alloc ?_ _)); refine blk_put (cs := #[.int .i64 t317, .int .i64 t318, .int .i64 t319, .int .i64 0]) ?_ 3 _ rfl; (with_reducible repeat (first | refine blk_drewN ?_ _ | refine blk_drew ?_ | refine blk_alloc ?_ _)); refine blk_put (cs := #[.int .i64 t317, .int .i64 t318, .int .i64 0, .int .i64 0]) ?_ 2 _ rfl; (with_reducible repeat (first | refine blk_drewN ?_ _ | refine blk_drew ?_ | refine blk_alloc ?_ _)); refine blk_put (cs := #[.int .i64 t317, .int .i64 0, .int .i64 0, .int .i64 0]) ?_ 1 _ rfl; (with_reducible repeat (first | refine blk_drewN ?_ _ | refine blk_drew ?_ | refine blk_alloc ?_ _)); refine blk_put (cs := #[.int .i64 0, .int .i64 0, .int .i64 0, .int .i64 0]) ?_ 0 _ rfl; (with_reducible repeat (first | refine blk_drewN ?_ _ | refine blk_drew ?_ | refine blk_alloc ?_ _)); exact BK322.out⟩
    have n4_ : Aside0 (Below w.heap.size w ((((w169.setCell ⟨gb322, 0, none⟩ (.int .i64 t317)).setCell ⟨gb322, 1, none⟩ (.int .i64 t318)).setCell ⟨gb322, 2, none⟩ (.int .i64 t319)).setCell ⟨gb322, 3, none⟩ (.int .i64 t320))) := ⟨bel HB⟩
    (try clear HO_220001)
    (try clear BK219)
    (try clear BK220)
    (try clear BK322)
    (try clear HB)
    generalize ((((w169.setCell ⟨gb322, 0, none⟩ (.int .i64 t317)).setCell ⟨gb322, 1, none⟩ (.int .i64 t318)).setCell ⟨gb322, 2, none⟩ (.int .i64 t319)).setCell ⟨gb322, 3, none⟩ (.int .i64 t320)) = w173 at n0_ n1_ n2_ n3_ n4_ ⊢
    have HO_220001 := n0_
    have BK219 := n1_
    have BK220 := n2_
    have BK322 := n3_
    have HB := n4_
    clear n0_ n1_ n2_ n3_ n4_
    replace HO_220001 := am (Kd.R_drew HO_220001.out)
    replace BK219 := am (blk_drew BK219.out)
    replace BK220 := am (blk_drew BK220.out)
    replace BK322 := am (blk_drew BK322.out)
    replace HB := am (below_drew1 HB.out)
    refine start_ (n := 17) (S := fun w' => w'.cell? ⟨gb322, 0, none⟩ = some (.int .i64 t317) ∧ w'.cell? ⟨gb322, 1, none⟩ = some (.int .i64 t318) ∧ w'.cell? ⟨gb322, 2, none⟩ = some (.int .i64 t319) ∧ w'.cell? ⟨gb322, 3, none⟩ = some (.int .i64 t320)) (ds := []) #[false, false, false, false, false, false, false, false, false, false, false, false, false, false, false, false, false] (by kernel_rfl) rfl rfl ⟨(blk_cell BK322.out 0).trans rfl, (blk_cell BK322.out 1).trans rfl, (blk_cell BK322.out 2).trans rfl, (blk_cell BK322.out 3).trans rfl⟩ (fun hHeld => ?_); refine with_tabW laws_FnLeases.tab30 laws_FnLeases.bits30 (fun HT_ HW_ => ?_)
    generalize w173.drew = w174 at HO_220001 BK219 BK220 BK322 HB hHeld ⊢
    refine pA 1 168 [0, 1, 1, 15] ?_
    refine pA 4 171 [0, 1, 1, 2, 1, 12] ?_
    refine tA 0 167 [2, 2, 1, 12] (hv := by rintro w' ⟨s0, s1, s2, s3⟩; go_simp; with_reducible rfl) (h := ?_)
    refine tA 3 170 [2, 1, 2, 12] (hv := by rintro w' ⟨s0, s1, s2, s3⟩; go_simp; with_reducible rfl) (h := ?_)
    refine one_ (i := 2) (N := some 169) (tr [5, 12]) rfl rfl (one_of HT_.out (by kernel_rfl)) (by decide) (fun K hK => ?_)
    refine goes_ Try.func44 (by kernel_rfl) rfl #[.agg #[.int .i64 t317, .int .i64 t318, .int .i64 t319, .int .i64 t320], .int .i64 t321] (by rfl) rfl rfl (by (try simp only [List.map_toArray, List.map_cons, List.map_nil]); first | done | rfl | (simp only [List.length_drop, List.length_take]; rfl)) ?_
    with_reducible refine (impl_MayTake.calls t317 t318 t319 t320 t321 t323 _ A163.out).mono ?_
    rintro e w175 ⟨rfl, hb⟩
    refine ⟨_, rfl, ?_⟩
    replace HO_220001 := am (Kd.R_below (mR HO_220001) hb)
    replace BK219 := bK BK219 hb
    replace BK220 := bK BK220 hb
    replace BK322 := bK BK322 hb
    replace HB := bS HB hb
    (try clear hb)
    (try clear hb2)
    (try clear hk)
    (try clear hi)
    refine hK.out _ _ (ce4 BK322) (fun hHeld => ?_)
    clear hK K
    refine norm_ (a' := ?_) ?_ ?_
    rotate_left
    ·
     show Act.put _ (some 169) _ = _
     simp only [Act.put, List.setIfInBounds_toArray, List.set_cons_zero, List.set_cons_succ, i64_w, i32_w]
     rfl
    refine one_ (i := 5) (N := some 172) (tr [6, 11]) rfl rfl (one_of HT_.out (by kernel_rfl)) (by decide) (fun K hK => ?_)
    refine goes_ Try.func49 (by kernel_rfl) rfl #[.agg #[.int .i64 t317, .int .i64 t318, .int .i64 t319, .int .i64 t320], .int .i64 t321] (by rfl) rfl rfl (by (try simp only [List.map_toArray, List.map_cons, List.map_nil]); first | done | rfl | (simp only [List.length_drop, List.length_take]; rfl)) ?_
    with_reducible refine (spec_MayTake.calls t317 t318 t319 t320 t321 t324 _ A164.out).mono ?_
    rintro e w176 ⟨rfl, hb⟩
    refine ⟨_, rfl, ?_⟩
    replace HO_220001 := am (Kd.R_below (mR HO_220001) hb)
    replace BK219 := bK BK219 hb
    replace BK220 := bK BK220 hb
    replace BK322 := bK BK322 hb
    replace HB := bS HB hb
    (try clear hb)
    (try clear hb2)
    (try clear hk)
    (try clear hi)
    refine hK.out _ _ (ce4 BK322) (fun hHeld => ?_)
    clear hK K
    refine norm_ (a' := ?_) ?_ ?_
    rotate_left
    ·
     show Act.put _ (some 172) _ = _
     simp only [Act.put, List.setIfInBounds_toArray, List.set_cons_zero, List.set_cons_succ, i64_w, i32_w]
     rfl
    refine pA 6 173 [7, 10] ?_
    refine pA 7 174 [8, 9] ?_
    refine pA 9 176 [8, 1, 1, 7] ?_
    refine pA 12 179 [8, 1, 1, 2, 1, 4] ?_
    refine tA 8 175 [10, 2, 1, 4] (hv := by rintro w' ⟨s0, s1, s2, s3⟩; go_simp; with_reducible rfl) (h := ?_)
    refine tA 11 178 [10, 1, 2, 4] (hv := by rintro w' ⟨s0, s1, s2, s3⟩; go_simp; with_reducible rfl) (h := ?_)
    refine one_ (i := 10) (N := some 177) (tr [13, 4]) rfl rfl (one_of HT_.out (by kernel_rfl)) (by decide) (fun K hK => ?_)
    refine goes_ Try.func43 (by kernel_rfl) rfl #[.agg #[.int .i64 t317, .int .i64 t318, .int .i64 t319, .int .i64 t320], .int .i64 t321] (by rfl) rfl rfl (by (try simp only [List.map_toArray, List.map_cons, List.map_nil]); first | done | rfl | (simp only [List.length_drop, List.length_take]; rfl)) ?_
    with_reducible refine (impl_MayLead.calls t317 t318 t319 t320 t321 t325 _ A166.out).mono ?_
    rintro e w177 ⟨rfl, hb⟩
    refine ⟨_, rfl, ?_⟩
    replace HO_220001 := am (Kd.R_below (mR HO_220001) hb)
    replace BK219 := bK BK219 hb
    replace BK220 := bK BK220 hb
    replace BK322 := bK BK322 hb
    replace HB := bS HB hb
    (try clear hb)
    (try clear hb2)
    (try clear hk)
    (try clear hi)
    refine hK.out _ _ (ce4 BK322) (fun hHeld => ?_)
    clear hK K
    refine norm_ (a' := ?_) ?_ ?_
    rotate_left
    ·
     show Act.put _ (some 177) _ = _
     simp only [Act.put, List.setIfInBounds_toArray, List.set_cons_zero, List.set_cons_succ, i64_w, i32_w]
     rfl
    refine one_ (i := 13) (N := some 180) (tr [14, 3]) rfl rfl (one_of HT_.out (by kernel_rfl)) (by decide) (fun K hK => ?_)
    refine goes_ Try.func50 (by kernel_rfl) rfl #[.agg #[.int .i64 t317, .int .i64 t318, .int .i64 t319, .int .i64 t320], .int .i64 t321] (by rfl) rfl rfl (by (try simp only [List.map_toArray, List.map_cons, List.map_nil]); first | done | rfl | (simp only [List.length_drop, List.length_take]; rfl)) ?_
    with_reducible refine (spec_MayLead.calls t317 t318 t319 t320 t321 t326 _ A167.out).mono ?_
    rintro e w178 ⟨rfl, hb⟩
    refine ⟨_, rfl, ?_⟩
    replace HO_220001 := am (Kd.R_below (mR HO_220001) hb)
    replace BK219 := bK BK219 hb
    replace BK220 := bK BK220 hb
    replace BK322 := bK BK322 hb
    replace HB := bS HB hb
    (try clear hb)
    (try clear hb2)
    (try clear hk)
    (try clear hi)
    refine hK.out _ _ (ce4 BK322) (fun hHeld => ?_)
    clear hK K
    refine norm_ (a' := ?_) ?_ ?_
    rotate_left
    ·
     show Act.put _ (some 180) _ = _
     simp only [Act.put, List.setIfInBounds_toArray, List.set_cons_zero, List.set_cons_succ, i64_w, i32_w]
     rfl
    refine pA 14 181 [15, 2] ?_
    refine pA 15 182 [16, 1] ?_
    refine pA 16 2 [17] ?_
    refine done_ (done_of HT_.out (by kernel_rfl)) ?_
    try go_wp2
    go_ret
    exact ⟨by first | rfl | (simp [errW_none, errW_some] <;> rfl) | (simp [*, errW_none, errW_some] <;> rfl), bel HB⟩
   rw [if_neg c165] at H
   have c165b0 : (t323 == t324) = false := by simpa using c165
   (try (have c165b1 : decide (t323 = t324) = false := by simpa using c165))
   (try (have c165b2 : (t323 == t324) = false := by simpa using c165))
   (try (have c165b3 : ¬ (t323 = t324) := by simpa using c165))
   clear c165
   exact absurd H (by simp)

/-- THE ONE PURE STATEMENT of laws_FnLeases: yours. -/
def laws_FnLeases.Pure : Prop := ∀ (l0 : List Int), l0.length ≤ maxLen → l0.length * 1 ≤ 140737488351232 → (∀ x ∈ l0, (Lit.int .u8 x).wf = true) → ∃ k, laws_FnLeases.f k l0 = some true
theorem laws_FnLeases.walk (P : laws_FnLeases.Pure) (a0 : Option Addr) (len0 cap0 : Nat) (z0 : List Int) (w : World) (w0 : (a0 = none ∧ len0 = 0 ∧ cap0 = 0 ∧ z0 = []) ∨ ∃ x, a0 = some x ∧ len0 ≤ cap0 ∧ cap0 ≤ maxLen ∧ z0.length = cap0 ∧ (∀ i, i < z0.length → w.cell? (x.add i) = some (.int .u8 (z0.getD i 0))) ∧ ∀ n ∈ z0, (Lit.int .u8 n).wf = true) (y0 : len0 * 1 ≤ 140737488351232) :
  Calls Try.prog 8 #[.slice a0 len0 cap0] w fun e w' => e = .returned (.bool true) ∧ Below w.heap.size w w' := by
 obtain ⟨l0, rfl, hr0, hm0, hw0, hc0⟩ := ReadsInt.ofRowC w0
 obtain ⟨k, h⟩ := P l0 hm0 y0 hw0
 refine (laws_FnLeases.calls k _ _ l0 w (Kd.C_of_reads (d := (0 : Int)) (h1 := fun _ => rfl) hr0) hc0 h).mono ?_
 rintro e w' ⟨rfl, hd⟩
 exact ⟨rfl, hd⟩

end Go.Proofs.Ytgfoifkkffffgab.PFnLeases
