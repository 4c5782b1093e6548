-- Laid by a turned copy of the printer (wip/tools/patch_print.py)
import Derived.Test.YtgfoifkkffffgabPFnWiresx0
import Derived.Test.YtgfoifkkffffgabPFnWiresx3
import Derived.Test.YtgfoifkkffffgabPFnWiresx4
namespace Go.Proofs.Ytgfoifkkffffgab.PFnWires
open Go.RowKit Go.Proofs.YtgfoifkkffffgabW.PrintWords Go.Proofs.YtgfoifkkffffgabW.PrintLast Go.Proofs.YtgfoifkkffffgabW.PrintMore
attribute [local go_sem] max2_int min2_int max_two min_two max_three min_three max_four min_four   -- for this text's walks alone
set_option linter.unusedVariables false
set_option linter.unusedSimpArgs false

/-! ### impl_DeliverOut: function 34 -/
def impl_DeliverOut.f (k : Nat) (a0_0 : Int) (l0_1 : List Int) (a0_2 : Int) (l0_3 : List Int) (a1 : Int) (a2 : Int) (l3 : List Int) : Option (Int × List Int × Int × List Int × Int × List Int) := (impl_epochFault.f k a0_0 l0_1 a0_2 l0_3 a1).bind fun t253 => (if t253 = 0 then ((impl_size_byte.f l0_3).bind fun t254 => ((impl_in.f a2 0 t254).bind fun t255 => (if t255 = true then ((impl_size_byte.f l3).bind fun t256 => (if (wrap64 (a2 + t256)) > 2000 then (some (2, ([] : List Int), 0, ([] : List Int), 0, ([] : List Int))) else ((impl_size_byte.f l3).bind fun t257 => ((impl_size_byte.f l0_3).bind fun t258 => (if 0 ≤ (mn t257 (wrap64 (t258 - a2))) then (if (mn t257 (wrap64 (t258 - a2))) ≤ (l3.length : Int) then (if 0 ≤ a2 then (if a2 ≤ (wrap64 (a2 + (mn t257 (wrap64 (t258 - a2))))) then (if (wrap64 (a2 + (mn t257 (wrap64 (t258 - a2))))) ≤ (l0_3.length : Int) then ((slices_Equal_byte_byte.f k (l3.take ((mn t257 (wrap64 (t258 - a2))) : Int).toNat) ((l0_3.take ((wrap64 (a2 + (mn t257 (wrap64 (t258 - a2))))) : Int).toNat).drop (a2 : Int).toNat)).bind fun t269 => (if t269 = true then ((slices_Concat_byte_byte.f k (([l0_3, (l3.drop ((mn t257 (wrap64 (t258 - a2))) : Int).toNat)] : List (List Int)))).bind fun t278 => ((impl_Wire_result.f a0_0 l0_1 a0_2 t278).bind fun bt281 => (some (bt281.1, bt281.2.1, bt281.2.2.1, bt281.2.2.2.1, bt281.2.2.2.2.1, bt281.2.2.2.2.2)))) else (some (7, ([] : List Int), 0, ([] : List Int), 0, ([] : List Int))))) else (none)) else (none)) else (none)) else (none)) else (none)))))) else (some (3, ([] : List Int), 0, ([] : List Int), 0, ([] : List Int)))))) else (some (t253, ([] : List Int), 0, ([] : List Int), 0, ([] : List Int))))
theorem impl_DeliverOut.mono : ∀ a0 a1 a2 a3 a4 a5 a6 k, LeO (impl_DeliverOut.f k a0 a1 a2 a3 a4 a5 a6) (impl_DeliverOut.f (k + 1) a0 a1 a2 a3 a4 a5 a6) := by
 intro a0 a1 a2 a3 a4 a5 a6 k
 unfold impl_DeliverOut.f
 repeat' first
   | (with_reducible exact impl_epochFault.mono _ _ _ _ _ _)
   | (with_reducible exact slices_Concat_byte_byte.mono _ _)
   | (with_reducible exact slices_Equal_byte_byte.mono _ _ _)
   | (with_reducible exact LeO.refl _)
   | (with_reducible exact LeO.none _)
   | (with_reducible refine LeO.ite ?_ ?_)
   | (with_reducible refine LeO.bind ?_ (fun _ => ?_))
   | exact impl_epochFault.mono _ _ _ _ _ _
   | exact slices_Concat_byte_byte.mono _ _
   | exact slices_Equal_byte_byte.mono _ _ _
   | exact LeO.none _
   | refine LeO.ite ?_ ?_
   | refine LeO.bind ?_ (fun _ => ?_)
def impl_DeliverOut.T8 : Bool × List (List Nat × List Nat) := (true, [([], []), ([0], [0]), ([], []), ([2], [2]), ([3, 1], [3]), ([], []), ([4, 5], [4, 5]), ([1, 6], [1, 6]), ([7, 4, 0, 1, 2, 3, 4, 5, 6, 7], [7])])
def impl_DeliverOut.B8 : List Nat := [0, 1, 0, 4, 15, 0, 63, 127, 255]
theorem impl_DeliverOut.tab8 : rtab .any (opsOf Try.f34 8) = impl_DeliverOut.T8 := by kernel_rfl
theorem impl_DeliverOut.bits8 : waitsOk impl_DeliverOut.T8.2 impl_DeliverOut.B8 = true := by kernel_rfl
def impl_DeliverOut.T9 : Bool × List (List Nat × List Nat) := (true, [([], []), ([], []), ([0, 1], [0, 1]), ([], []), ([3], [3]), ([], []), ([], []), ([], []), ([6, 7], [6, 7]), ([4, 5, 8], [4, 5, 8]), ([2, 9], [2, 9]), ([10], [10])])
def impl_DeliverOut.B9 : List Nat := [0, 0, 3, 0, 8, 0, 0, 0, 192, 504, 1023, 2047]
theorem impl_DeliverOut.tab9 : rtab .any (opsOf Try.f34 9) = impl_DeliverOut.T9 := by kernel_rfl
theorem impl_DeliverOut.bits9 : waitsOk impl_DeliverOut.T9.2 impl_DeliverOut.B9 = true := by kernel_rfl
def impl_DeliverOut.T11 : Bool × List (List Nat × List Nat) := (true, [([], []), ([0], [0]), ([], []), ([], []), ([2, 3], [2, 3]), ([1, 4], [1, 4]), ([5], [5]), ([0, 1, 2, 3, 4, 5, 6], []), ([7, 6, 6, 0, 1, 2, 3, 4, 5, 6], [6, 7])])
def impl_DeliverOut.B11 : List Nat := [0, 1, 0, 0, 12, 31, 63, 127, 255]
theorem impl_DeliverOut.tab11 : rtab .any (opsOf Try.f34 11) = impl_DeliverOut.T11 := by kernel_rfl
theorem impl_DeliverOut.bits11 : waitsOk impl_DeliverOut.T11.2 impl_DeliverOut.B11 = true := by kernel_rfl
set_option maxHeartbeats 8000000 in
set_option maxRecDepth 100000 in
theorem impl_DeliverOut.calls (k : Nat) (a0_0 : Int) (A0_1 : Option Addr) (c0_1 : Nat) (l0_1 : List Int) (a0_2 : Int) (P0_3_ : Nat → Prop) (A0_3 : Option Addr) (c0_3 : Nat) (l0_3 : List Int) (a1 : Int) (a2 : Int) (P3_ : Nat → Prop) (A3 : Option Addr) (c3 : Nat) (l3 : List Int) (r1 : Int) (r2 : List Int) (r3 : Int) (r4 : List Int) (r5 : Int) (r6 : List Int) (w : World) (hr0_1 : Kd.C (Kd.int .u8) w A0_1 l0_1.length l0_1) (hc0_1 : l0_1.length ≤ c0_1) (hs0_3 : Kd.V (Kd.int .u8) 5 w w.heap.size (fun k_ => P0_3_ k_) (.slice A0_3 l0_3.length c0_3) l0_3) (hs3 : Kd.V (Kd.int .u8) 5 w w.heap.size (fun k_ => P3_ k_) (.slice A3 l3.length c3) l3) (h : impl_DeliverOut.f k a0_0 l0_1 a0_2 l0_3 a1 a2 l3 = some (r1, r2, r3, r4, r5, r6)) :
  Calls Try.prog 34 #[.agg #[.int .i64 a0_0, .slice A0_1 l0_1.length c0_1, .int .i64 a0_2, .slice A0_3 l0_3.length c0_3], .int .i64 a1, .int .i64 a2, .slice A3 l3.length c3] w fun e w' => ∃ v1_ v3_ v5_ : Value, e = .returned (.agg #[.int .i64 r1, v1_, .int .i64 r3, v3_, .int .i64 r5, v5_]) ∧ Kd.R (Kd.int .u8) 5 w' w.heap.size (fun k_ => (w.heap.size ≤ k_) ∧ some k_ ≠ (v3_ : Value).ownBlock ∧ some k_ ≠ (v5_ : Value).ownBlock) v1_ r2 ∧ Kd.R (Kd.int .u8) 5 w' w.heap.size (fun k_ => (w.heap.size ≤ k_) ∧ some k_ ≠ (v1_ : Value).ownBlock ∧ some k_ ≠ (v5_ : Value).ownBlock) v3_ r4 ∧ Kd.R (Kd.int .u8) 5 w' w.heap.size (fun k_ => (w.heap.size ≤ k_) ∧ some k_ ≠ (v1_ : Value).ownBlock ∧ some k_ ≠ (v3_ : Value).ownBlock) v5_ r6 ∧ Below w.heap.size w w' := by
 have hu59 := Try.underlying59
 have hu63 := Try.underlying63
 have HR0_1 := Aside0.mk hr0_1
 have HC0_1 := Aside0.mk hc0_1
 clear hr0_1 hc0_1
 have HO0_3 := Aside0.mk (show Kd.V (Kd.int .u8) 5 w w.heap.size (fun k_ => ((P0_3_ k_ ∨ P3_ k_) ∨ w.heap.size ≤ k_)) (.slice A0_3 l0_3.length c0_3) l0_3 from Kd.V_mono hs0_3 (fun k_ hk => .inl (.inl hk)))
 have HO3 := Aside0.mk (show Kd.V (Kd.int .u8) 5 w w.heap.size (fun k_ => ((P0_3_ k_ ∨ P3_ k_) ∨ w.heap.size ≤ k_)) (.slice A3 l3.length c3) l3 from Kd.V_mono hs3 (fun k_ hk => .inl (.inr hk)))
 have HB := Aside0.mk (Below.refl w.heap.size w)
 have H : ((impl_epochFault.f k a0_0 l0_1 a0_2 l0_3 a1).bind fun t253 => (if t253 = 0 then ((impl_size_byte.f l0_3).bind fun t254 => ((impl_in.f a2 0 t254).bind fun t255 => (if t255 = true then ((impl_size_byte.f l3).bind fun t256 => (if (wrap64 (a2 + t256)) > 2000 then (some (2, ([] : List Int), 0, ([] : List Int), 0, ([] : List Int))) else ((impl_size_byte.f l3).bind fun t257 => ((impl_size_byte.f l0_3).bind fun t258 => (if 0 ≤ (mn t257 (wrap64 (t258 - a2))) then (if (mn t257 (wrap64 (t258 - a2))) ≤ (l3.length : Int) then (if 0 ≤ a2 then (if a2 ≤ (wrap64 (a2 + (mn t257 (wrap64 (t258 - a2))))) then (if (wrap64 (a2 + (mn t257 (wrap64 (t258 - a2))))) ≤ (l0_3.length : Int) then ((slices_Equal_byte_byte.f k (l3.take ((mn t257 (wrap64 (t258 - a2))) : Int).toNat) ((l0_3.take ((wrap64 (a2 + (mn t257 (wrap64 (t258 - a2))))) : Int).toNat).drop (a2 : Int).toNat)).bind fun t269 => (if t269 = true then ((slices_Concat_byte_byte.f k (([l0_3, (l3.drop ((mn t257 (wrap64 (t258 - a2))) : Int).toNat)] : List (List Int)))).bind fun t278 => ((impl_Wire_result.f a0_0 l0_1 a0_2 t278).bind fun bt281 => (some (bt281.1, bt281.2.1, bt281.2.2.1, bt281.2.2.2.1, bt281.2.2.2.2.1, bt281.2.2.2.2.2)))) else (some (7, ([] : List Int), 0, ([] : List Int), 0, ([] : List Int))))) else (none)) else (none)) else (none)) else (none)) else (none)))))) else (some (3, ([] : List Int), 0, ([] : List Int), 0, ([] : List Int)))))) else (some (t253, ([] : List Int), 0, ([] : List Int), 0, ([] : List Int))))) = some (r1, r2, r3, r4, r5, r6) := h
 clear h
 replace H := Option.bind_eq_some_iff.mp H
 obtain ⟨t253, A50, H⟩ := H
 replace H : (if t253 = 0 then ((impl_size_byte.f l0_3).bind fun t254 => ((impl_in.f a2 0 t254).bind fun t255 => (if t255 = true then ((impl_size_byte.f l3).bind fun t256 => (if (wrap64 (a2 + t256)) > 2000 then (some (2, ([] : List Int), 0, ([] : List Int), 0, ([] : List Int))) else ((impl_size_byte.f l3).bind fun t257 => ((impl_size_byte.f l0_3).bind fun t258 => (if 0 ≤ (mn t257 (wrap64 (t258 - a2))) then (if (mn t257 (wrap64 (t258 - a2))) ≤ (l3.length : Int) then (if 0 ≤ a2 then (if a2 ≤ (wrap64 (a2 + (mn t257 (wrap64 (t258 - a2))))) then (if (wrap64 (a2 + (mn t257 (wrap64 (t258 - a2))))) ≤ (l0_3.length : Int) then ((slices_Equal_byte_byte.f k (l3.take ((mn t257 (wrap64 (t258 - a2))) : Int).toNat) ((l0_3.take ((wrap64 (a2 + (mn t257 (wrap64 (t258 - a2))))) : Int).toNat).drop (a2 : Int).toNat)).bind fun t269 => (if t269 = true then ((slices_Concat_byte_byte.f k (([l0_3, (l3.drop ((mn t257 (wrap64 (t258 - a2))) : Int).toNat)] : List (List Int)))).bind fun t278 => ((impl_Wire_result.f a0_0 l0_1 a0_2 t278).bind fun bt281 => (some (bt281.1, bt281.2.1, bt281.2.2.1, bt281.2.2.2.1, bt281.2.2.2.2.1, bt281.2.2.2.2.2)))) else (some (7, ([] : List Int), 0, ([] : List Int), 0, ([] : List Int))))) else (none)) else (none)) else (none)) else (none)) else (none)))))) else (some (3, ([] : List Int), 0, ([] : List Int), 0, ([] : List Int)))))) else (some (t253, ([] : List Int), 0, ([] : List Int), 0, ([] : List Int)))) = some (r1, r2, r3, r4, r5, r6) := H
 have A5 := Aside0.mk A50
 clear A50
 by_cases c6 : t253 = 0
 ·
  rw [if_pos c6] at H
  have c6b0 : (t253 == 0) = true := beq_iff_eq.mpr c6
  have c6b1 : (t253 != 0) = false := bne_eq_false_iff_eq.mpr c6
  clear c6
  replace H := Option.bind_eq_some_iff.mp H
  obtain ⟨t254, A70, H⟩ := H
  replace H : ((impl_in.f a2 0 t254).bind fun t255 => (if t255 = true then ((impl_size_byte.f l3).bind fun t256 => (if (wrap64 (a2 + t256)) > 2000 then (some (2, ([] : List Int), 0, ([] : List Int), 0, ([] : List Int))) else ((impl_size_byte.f l3).bind fun t257 => ((impl_size_byte.f l0_3).bind fun t258 => (if 0 ≤ (mn t257 (wrap64 (t258 - a2))) then (if (mn t257 (wrap64 (t258 - a2))) ≤ (l3.length : Int) then (if 0 ≤ a2 then (if a2 ≤ (wrap64 (a2 + (mn t257 (wrap64 (t258 - a2))))) then (if (wrap64 (a2 + (mn t257 (wrap64 (t258 - a2))))) ≤ (l0_3.length : Int) then ((slices_Equal_byte_byte.f k (l3.take ((mn t257 (wrap64 (t258 - a2))) : Int).toNat) ((l0_3.take ((wrap64 (a2 + (mn t257 (wrap64 (t258 - a2))))) : Int).toNat).drop (a2 : Int).toNat)).bind fun t269 => (if t269 = true then ((slices_Concat_byte_byte.f k (([l0_3, (l3.drop ((mn t257 (wrap64 (t258 - a2))) : Int).toNat)] : List (List Int)))).bind fun t278 => ((impl_Wire_result.f a0_0 l0_1 a0_2 t278).bind fun bt281 => (some (bt281.1, bt281.2.1, bt281.2.2.1, bt281.2.2.2.1, bt281.2.2.2.2.1, bt281.2.2.2.2.2)))) else (some (7, ([] : List Int), 0, ([] : List Int), 0, ([] : List Int))))) else (none)) else (none)) else (none)) else (none)) else (none)))))) else (some (3, ([] : List Int), 0, ([] : List Int), 0, ([] : List Int))))) = some (r1, r2, r3, r4, r5, r6) := H
  have A7 := Aside0.mk A70
  clear A70
  replace H := Option.bind_eq_some_iff.mp H
  obtain ⟨t255, A80, H⟩ := H
  replace H : (if t255 = true then ((impl_size_byte.f l3).bind fun t256 => (if (wrap64 (a2 + t256)) > 2000 then (some (2, ([] : List Int), 0, ([] : List Int), 0, ([] : List Int))) else ((impl_size_byte.f l3).bind fun t257 => ((impl_size_byte.f l0_3).bind fun t258 => (if 0 ≤ (mn t257 (wrap64 (t258 - a2))) then (if (mn t257 (wrap64 (t258 - a2))) ≤ (l3.length : Int) then (if 0 ≤ a2 then (if a2 ≤ (wrap64 (a2 + (mn t257 (wrap64 (t258 - a2))))) then (if (wrap64 (a2 + (mn t257 (wrap64 (t258 - a2))))) ≤ (l0_3.length : Int) then ((slices_Equal_byte_byte.f k (l3.take ((mn t257 (wrap64 (t258 - a2))) : Int).toNat) ((l0_3.take ((wrap64 (a2 + (mn t257 (wrap64 (t258 - a2))))) : Int).toNat).drop (a2 : Int).toNat)).bind fun t269 => (if t269 = true then ((slices_Concat_byte_byte.f k (([l0_3, (l3.drop ((mn t257 (wrap64 (t258 - a2))) : Int).toNat)] : List (List Int)))).bind fun t278 => ((impl_Wire_result.f a0_0 l0_1 a0_2 t278).bind fun bt281 => (some (bt281.1, bt281.2.1, bt281.2.2.1, bt281.2.2.2.1, bt281.2.2.2.2.1, bt281.2.2.2.2.2)))) else (some (7, ([] : List Int), 0, ([] : List Int), 0, ([] : List Int))))) else (none)) else (none)) else (none)) else (none)) else (none)))))) else (some (3, ([] : List Int), 0, ([] : List Int), 0, ([] : List Int)))) = some (r1, r2, r3, r4, r5, r6) := H
  have A8 := Aside0.mk A80
  clear A80
  by_cases c9 : t255 = true
  ·
   subst c9
   have H1 : ((impl_size_byte.f l3).bind fun t256 => (if (wrap64 (a2 + t256)) > 2000 then (some (2, ([] : List Int), 0, ([] : List Int), 0, ([] : List Int))) else ((impl_size_byte.f l3).bind fun t257 => ((impl_size_byte.f l0_3).bind fun t258 => (if 0 ≤ (mn t257 (wrap64 (t258 - a2))) then (if (mn t257 (wrap64 (t258 - a2))) ≤ (l3.length : Int) then (if 0 ≤ a2 then (if a2 ≤ (wrap64 (a2 + (mn t257 (wrap64 (t258 - a2))))) then (if (wrap64 (a2 + (mn t257 (wrap64 (t258 - a2))))) ≤ (l0_3.length : Int) then ((slices_Equal_byte_byte.f k (l3.take ((mn t257 (wrap64 (t258 - a2))) : Int).toNat) ((l0_3.take ((wrap64 (a2 + (mn t257 (wrap64 (t258 - a2))))) : Int).toNat).drop (a2 : Int).toNat)).bind fun t269 => (if t269 = true then ((slices_Concat_byte_byte.f k (([l0_3, (l3.drop ((mn t257 (wrap64 (t258 - a2))) : Int).toNat)] : List (List Int)))).bind fun t278 => ((impl_Wire_result.f a0_0 l0_1 a0_2 t278).bind fun bt281 => (some (bt281.1, bt281.2.1, bt281.2.2.1, bt281.2.2.2.1, bt281.2.2.2.2.1, bt281.2.2.2.2.2)))) else (some (7, ([] : List Int), 0, ([] : List Int), 0, ([] : List Int))))) else (none)) else (none)) else (none)) else (none)) else (none)))))) = some (r1, r2, r3, r4, r5, r6) := by rw [if_pos rfl] at H; first | done | exact H
   clear H
   have H := H1
   clear H1
   replace H := Option.bind_eq_some_iff.mp H
   obtain ⟨t256, A100, H⟩ := H
   replace H : (if (wrap64 (a2 + t256)) > 2000 then (some (2, ([] : List Int), 0, ([] : List Int), 0, ([] : List Int))) else ((impl_size_byte.f l3).bind fun t257 => ((impl_size_byte.f l0_3).bind fun t258 => (if 0 ≤ (mn t257 (wrap64 (t258 - a2))) then (if (mn t257 (wrap64 (t258 - a2))) ≤ (l3.length : Int) then (if 0 ≤ a2 then (if a2 ≤ (wrap64 (a2 + (mn t257 (wrap64 (t258 - a2))))) then (if (wrap64 (a2 + (mn t257 (wrap64 (t258 - a2))))) ≤ (l0_3.length : Int) then ((slices_Equal_byte_byte.f k (l3.take ((mn t257 (wrap64 (t258 - a2))) : Int).toNat) ((l0_3.take ((wrap64 (a2 + (mn t257 (wrap64 (t258 - a2))))) : Int).toNat).drop (a2 : Int).toNat)).bind fun t269 => (if t269 = true then ((slices_Concat_byte_byte.f k (([l0_3, (l3.drop ((mn t257 (wrap64 (t258 - a2))) : Int).toNat)] : List (List Int)))).bind fun t278 => ((impl_Wire_result.f a0_0 l0_1 a0_2 t278).bind fun bt281 => (some (bt281.1, bt281.2.1, bt281.2.2.1, bt281.2.2.2.1, bt281.2.2.2.2.1, bt281.2.2.2.2.2)))) else (some (7, ([] : List Int), 0, ([] : List Int), 0, ([] : List Int))))) else (none)) else (none)) else (none)) else (none)) else (none))))) = some (r1, r2, r3, r4, r5, r6) := H
   have A10 := Aside0.mk A100
   clear A100
   by_cases c11 : (wrap64 (a2 + t256)) > 2000
   ·
    rw [if_pos c11] at H
    have c11b0 : decide (2000 < (wrap64 (a2 + t256))) = true := decide_eq_true c11
    clear c11
    simp only [Option.some.injEq, Prod.mk.injEq] at H
    obtain ⟨rfl, rfl, rfl, rfl, rfl, rfl⟩ := H
    go_enter Try.func34, Try.ntmps34
    go_wp2_with (first | ((with_reducible refine gate_dst (N := 4) rfl ?_); refine boxE #[.int .i64 a0_0, .slice A0_1 l0_1.length c0_1, .int .i64 a0_2, .slice A0_3 l0_3.length c0_3] 59 (N := 4) rfl rfl ?_; intro gb251 hg w12 hbox hb; replace HO0_3 := Aside0.mk (Kd.V_below (Kd.V_elderB (mV HO0_3) gb251 (Nat.le_of_eq hg.symm)) hb); replace HO3 := Aside0.mk (Kd.V_below (Kd.V_elderB (mV HO3) gb251 (Nat.le_of_eq hg.symm)) hb); have BK251 := Aside0.mk hbox; have GW251 := gZ HB hg; have GE251 := gZ HB hg; replace HB := bS HB hb; clear hb hbox hg) | ((with_reducible refine gate_dst (N := 8) rfl ?_); refine boxE #[.int .i64 0, .slice none 0 0, .int .i64 0, .slice none 0 0, .int .i64 0, .slice none 0 0] 63 (N := 8) rfl rfl ?_; intro gb252 hg w13 hbox hb; replace HO0_3 := Aside0.mk (Kd.V_below (Kd.V_elderB (mV HO0_3) gb252 (Nat.le_of_eq hg.symm)) hb); replace HO3 := Aside0.mk (Kd.V_below (Kd.V_elderB (mV HO3) gb252 (Nat.le_of_eq hg.symm)) hb); have BK252 := Aside0.mk hbox; have GW252 := gZ HB hg; have GE252 := gZ HB hg; replace HB := bS HB hb; have NB251_252 := nL BK251 hg; have NB252_251 := nG BK251 hg; replace BK251 := bK BK251 hb; clear hb hbox hg; have hnb14 := NB251_252.out; have hnc14 := NB252_251.out; have hz15 := cl4 BK251) | ((with_reducible refine gate_callee (f := 96) rfl ?_); refine goA (some 13) rfl rfl Try.func96 rfl #[.agg #[.int .i64 a0_0, .slice A0_1 l0_1.length c0_1, .int .i64 a0_2, .slice A0_3 l0_3.length c0_3], .int .i64 a1] rfl ?_; (with_reducible refine (impl_epochFault.calls k a0_0 _ _ l0_1 a0_2 _ _ l0_3 a1 t253 _ ?side1 ?side2 ?side3 ?side4 A5.out).mono ?_); (case side1 => exact mC HR0_1 HB); (case side2 => exact HC0_1.out); (case side3 => repeat (first | exact (Kd.V_reads' HO0_3.out).2.2 | (with_reducible refine Kd.C_alloc ?_ _) | (with_reducible refine Kd.C_drewN ?_ _) | (with_reducible refine Kd.C_drew ?_))); (case side4 => exact (Kd.V_reads' HO0_3.out).2.1); rintro e w16 ⟨rfl, hb⟩; refine ⟨_, rfl, ?_⟩; replace HO0_3 := Aside0.mk (Kd.V_below (mV HO0_3) hb); replace HO3 := Aside0.mk (Kd.V_below (mV HO3) hb); replace BK251 := bK BK251 hb; replace BK252 := bK BK252 hb; replace HB := bS HB hb; (try clear hb); (try clear hb2); (try clear hk); (try clear hi); have hz17 := cl4 BK251) | ((with_reducible refine gate_callee (f := 97) rfl ?_); refine goA (some 23) rfl rfl Try.func97 rfl #[.slice A0_3 l0_3.length c0_3] rfl ?_; (with_reducible refine (impl_size_byte.calls _ _ l0_3 t254 _ ?side1 ?side2 A7.out).mono ?_); (case side1 => repeat (first | exact (Kd.V_reads' HO0_3.out).2.2 | (with_reducible refine Kd.C_alloc ?_ _) | (with_reducible refine Kd.C_drewN ?_ _) | (with_reducible refine Kd.C_drew ?_))); (case side2 => exact (Kd.V_reads' HO0_3.out).2.1); rintro e w' ⟨rfl, ⟨nd, rfl⟩⟩; refine ⟨_, rfl, ?_⟩; (try ((try simp only [World.drewN_drewN]); rw [drewN_self w16]; generalize hq_ : World.drewN w16 _ = w16; replace HO0_3 := Aside0.mk (Eq.mp (congrArg (fun w_ => Kd.V _ _ w_ _ _ _ _) hq_) (Kd.V_drewN HO0_3.out _)); replace HO3 := Aside0.mk (Eq.mp (congrArg (fun w_ => Kd.V _ _ w_ _ _ _ _) hq_) (Kd.V_drewN HO3.out _)); replace BK251 := Aside0.mk (blk_at hq_ BK251.out); replace BK252 := Aside0.mk (blk_at hq_ BK252.out); replace HB := Aside0.mk (below_at hq_ HB.out); clear hq_))) | ((with_reducible refine gate_callee (f := 87) rfl ?_); refine goA (some 24) rfl rfl Try.func87 rfl #[.int .i64 a2, .int .i64 0, .int .i64 t254] rfl ?_; (with_reducible refine (impl_in.calls a2 0 t254 true _ A8.out).mono ?_); rintro e w' ⟨rfl, ⟨nd, rfl⟩⟩; refine ⟨_, rfl, ?_⟩; (try ((try simp only [World.drewN_drewN]); rw [drewN_self w16]; generalize hq_ : World.drewN w16 _ = w16; replace HO0_3 := Aside0.mk (Eq.mp (congrArg (fun w_ => Kd.V _ _ w_ _ _ _ _) hq_) (Kd.V_drewN HO0_3.out _)); replace HO3 := Aside0.mk (Eq.mp (congrArg (fun w_ => Kd.V _ _ w_ _ _ _ _) hq_) (Kd.V_drewN HO3.out _)); replace BK251 := Aside0.mk (blk_at hq_ BK251.out); replace BK252 := Aside0.mk (blk_at hq_ BK252.out); replace HB := Aside0.mk (below_at hq_ HB.out); clear hq_))) | ((with_reducible refine gate_callee (f := 97) rfl ?_); refine goA (some 30) rfl rfl Try.func97 rfl #[.slice A3 l3.length c3] rfl ?_; (with_reducible refine (impl_size_byte.calls _ _ l3 t256 _ ?side1 ?side2 A10.out).mono ?_); (case side1 => repeat (first | exact (Kd.V_reads' HO3.out).2.2 | (with_reducible refine Kd.C_alloc ?_ _) | (with_reducible refine Kd.C_drewN ?_ _) | (with_reducible refine Kd.C_drew ?_))); (case side2 => exact (Kd.V_reads' HO3.out).2.1); rintro e w' ⟨rfl, ⟨nd, rfl⟩⟩; refine ⟨_, rfl, ?_⟩; (try ((try simp only [World.drewN_drewN]); rw [drewN_self w16]; generalize hq_ : World.drewN w16 _ = w16; replace HO0_3 := Aside0.mk (Eq.mp (congrArg (fun w_ => Kd.V _ _ w_ _ _ _ _) hq_) (Kd.V_drewN HO0_3.out _)); replace HO3 := Aside0.mk (Eq.mp (congrArg (fun w_ => Kd.V _ _ w_ _ _ _ _) hq_) (Kd.V_drewN HO3.out _)); replace BK251 := Aside0.mk (blk_at hq_ BK251.out); replace BK252 := Aside0.mk (blk_at hq_ BK252.out); replace HB := Aside0.mk (below_at hq_ HB.out); clear hq_)); have hz18 := cl6 BK252))
    refine bodyPost_ret (results_cell_row rfl _ _ gb252 63 #[.int .i64 2, .slice none 0 0, .int .i64 0, .slice none 0 0, .int .i64 0, .slice none 0 0] (0, 0) _ rfl (mP BK252) Try.underlying63 rfl (by kernel_rfl)) rfl ?_
    exact ⟨_, _, _, by first | rfl | (simp [errW_none, errW_some] <;> rfl) | (simp [*, errW_none, errW_some] <;> rfl), by first | exact Kd.R_nil _ _ _ _ _ | exact Kd.N_nil _ _ _ _ _ | exact Kd.V_nil _ _ _ _ _ | exact Kd.Q_nil _ _ _ _ _ | exact Kd.S_nil _ _ _ _ _, by first | exact Kd.R_nil _ _ _ _ _ | exact Kd.N_nil _ _ _ _ _ | exact Kd.V_nil _ _ _ _ _ | exact Kd.Q_nil _ _ _ _ _ | exact Kd.S_nil _ _ _ _ _, by first | exact Kd.R_nil _ _ _ _ _ | exact Kd.N_nil _ _ _ _ _ | exact Kd.V_nil _ _ _ _ _ | exact Kd.Q_nil _ _ _ _ _ | exact Kd.S_nil _ _ _ _ _, bel HB⟩
   ·
    rw [if_neg c11] at H
    have c11b0 : decide (2000 < (wrap64 (a2 + t256))) = false := decide_eq_false c11
    clear c11
    replace H := Option.bind_eq_some_iff.mp H
    obtain ⟨t257, A190, H⟩ := H
    replace H : ((impl_size_byte.f l0_3).bind fun t258 => (if 0 ≤ (mn t257 (wrap64 (t258 - a2))) then (if (mn t257 (wrap64 (t258 - a2))) ≤ (l3.length : Int) then (if 0 ≤ a2 then (if a2 ≤ (wrap64 (a2 + (mn t257 (wrap64 (t258 - a2))))) then (if (wrap64 (a2 + (mn t257 (wrap64 (t258 - a2))))) ≤ (l0_3.length : Int) then ((slices_Equal_byte_byte.f k (l3.take ((mn t257 (wrap64 (t258 - a2))) : Int).toNat) ((l0_3.take ((wrap64 (a2 + (mn t257 (wrap64 (t258 - a2))))) : Int).toNat).drop (a2 : Int).toNat)).bind fun t269 => (if t269 = true then ((slices_Concat_byte_byte.f k (([l0_3, (l3.drop ((mn t257 (wrap64 (t258 - a2))) : Int).toNat)] : List (List Int)))).bind fun t278 => ((impl_Wire_result.f a0_0 l0_1 a0_2 t278).bind fun bt281 => (some (bt281.1, bt281.2.1, bt281.2.2.1, bt281.2.2.2.1, bt281.2.2.2.2.1, bt281.2.2.2.2.2)))) else (some (7, ([] : List Int), 0, ([] : List Int), 0, ([] : List Int))))) else (none)) else (none)) else (none)) else (none)) else (none))) = some (r1, r2, r3, r4, r5, r6) := H
    have A19 := Aside0.mk A190
    clear A190
    replace H := Option.bind_eq_some_iff.mp H
    obtain ⟨t258, A200, H⟩ := H
    replace H : (if 0 ≤ (mn t257 (wrap64 (t258 - a2))) then (if (mn t257 (wrap64 (t258 - a2))) ≤ (l3.length : Int) then (if 0 ≤ a2 then (if a2 ≤ (wrap64 (a2 + (mn t257 (wrap64 (t258 - a2))))) then (if (wrap64 (a2 + (mn t257 (wrap64 (t258 - a2))))) ≤ (l0_3.length : Int) then ((slices_Equal_byte_byte.f k (l3.take ((mn t257 (wrap64 (t258 - a2))) : Int).toNat) ((l0_3.take ((wrap64 (a2 + (mn t257 (wrap64 (t258 - a2))))) : Int).toNat).drop (a2 : Int).toNat)).bind fun t269 => (if t269 = true then ((slices_Concat_byte_byte.f k (([l0_3, (l3.drop ((mn t257 (wrap64 (t258 - a2))) : Int).toNat)] : List (List Int)))).bind fun t278 => ((impl_Wire_result.f a0_0 l0_1 a0_2 t278).bind fun bt281 => (some (bt281.1, bt281.2.1, bt281.2.2.1, bt281.2.2.2.1, bt281.2.2.2.2.1, bt281.2.2.2.2.2)))) else (some (7, ([] : List Int), 0, ([] : List Int), 0, ([] : List Int))))) else (none)) else (none)) else (none)) else (none)) else (none)) = some (r1, r2, r3, r4, r5, r6) := H
    have A20 := Aside0.mk A200
    clear A200
    obtain ⟨ji21, hji21⟩ : ∃ j_ : Int, (mn t257 (wrap64 (t258 - a2))) = j_ := ⟨_, rfl⟩
    replace H : (if 0 ≤ (ji21) then (if (ji21) ≤ (l3.length : Int) then (if 0 ≤ a2 then (if a2 ≤ (wrap64 (a2 + (ji21))) then (if (wrap64 (a2 + (ji21))) ≤ (l0_3.length : Int) then ((slices_Equal_byte_byte.f k (l3.take ((ji21) : Int).toNat) ((l0_3.take ((wrap64 (a2 + (ji21))) : Int).toNat).drop (a2 : Int).toNat)).bind fun t269 => (if t269 = true then ((slices_Concat_byte_byte.f k (([l0_3, (l3.drop ((ji21) : Int).toNat)] : List (List Int)))).bind fun t278 => ((impl_Wire_result.f a0_0 l0_1 a0_2 t278).bind fun bt281 => (some (bt281.1, bt281.2.1, bt281.2.2.1, bt281.2.2.2.1, bt281.2.2.2.2.1, bt281.2.2.2.2.2)))) else (some (7, ([] : List Int), 0, ([] : List Int), 0, ([] : List Int))))) else (none)) else (none)) else (none)) else (none)) else (none)) = some (r1, r2, r3, r4, r5, r6) := by first | (rw [hji21] at H; exact H) | (simp only [hji21] at H ⊢; exact H)
    (try rw [hji21] at A5)
    (try rw [hji21] at A7)
    (try rw [hji21] at A8)
    (try rw [hji21] at A10)
    (try rw [hji21] at A19)
    (try rw [hji21] at A20)
    have hji21_ : (if (wrap64 (t258 - a2)) < t257 then (wrap64 (t258 - a2)) else t257) = ji21 := hji21
    by_cases c22 : 0 ≤ (ji21)
    ·
     rw [if_pos c22] at H
     have c22b0 := eq_true c22
     have c22b1 : decide (0 ≤ (ji21)) = true := decide_eq_true c22
     clear c22
     by_cases c23 : (ji21) ≤ (l3.length : Int)
     ·
      rw [if_pos c23] at H
      have c23b0 := eq_true c23
      have c23b1 : decide ((ji21) ≤ (l3.length : Int)) = true := decide_eq_true c23
      clear c23
      obtain ⟨y259, hy259⟩ : ∃ y_ : List Int, y_ = (l3.take ((ji21) : Int).toNat) := ⟨_, rfl⟩
      replace H : (if 0 ≤ a2 then (if a2 ≤ (wrap64 (a2 + (ji21))) then (if (wrap64 (a2 + (ji21))) ≤ (l0_3.length : Int) then ((slices_Equal_byte_byte.f k y259 ((l0_3.take ((wrap64 (a2 + (ji21))) : Int).toNat).drop (a2 : Int).toNat)).bind fun t269 => (if t269 = true then ((slices_Concat_byte_byte.f k (([l0_3, (l3.drop ((ji21) : Int).toNat)] : List (List Int)))).bind fun t278 => ((impl_Wire_result.f a0_0 l0_1 a0_2 t278).bind fun bt281 => (some (bt281.1, bt281.2.1, bt281.2.2.1, bt281.2.2.2.1, bt281.2.2.2.2.1, bt281.2.2.2.2.2)))) else (some (7, ([] : List Int), 0, ([] : List Int), 0, ([] : List Int))))) else (none)) else (none)) else (none)) = some (r1, r2, r3, r4, r5, r6) := by first | (rw [hy259]; with_reducible exact H) | (have H2_ := (Option.bind_some _ _).symm.trans H; rw [hy259]; with_reducible exact H2_) | (have H2_ := (Option.bind_some _ _).symm.trans H; with_reducible exact H2_) | with_reducible exact H | (rw [hy259]; exact H) | exact H
      have Ny259 := Aside0.mk hy259
      clear hy259
      by_cases c24 : 0 ≤ a2
      ·
       rw [if_pos c24] at H
       have c24b0 := eq_true c24
       have c24b1 : decide (0 ≤ a2) = true := decide_eq_true c24
       clear c24
       by_cases c25 : a2 ≤ (wrap64 (a2 + (ji21)))
       ·
        rw [if_pos c25] at H
        have c25b0 := eq_true c25
        have c25b1 : decide (a2 ≤ (wrap64 (a2 + (ji21)))) = true := decide_eq_true c25
        by_cases c26 : (wrap64 (a2 + (ji21))) ≤ (l0_3.length : Int)
        ·
         rw [if_pos c26] at H
         have c26b0 := eq_true c26
         have c26b1 : decide ((wrap64 (a2 + (ji21))) ≤ (l0_3.length : Int)) = true := decide_eq_true c26
         obtain ⟨y264, hy264⟩ : ∃ y_ : List Int, y_ = ((l0_3.take ((wrap64 (a2 + (ji21))) : Int).toNat).drop (a2 : Int).toNat) := ⟨_, rfl⟩
         replace H : ((slices_Equal_byte_byte.f k y259 y264).bind fun t269 => (if t269 = true then ((slices_Concat_byte_byte.f k (([l0_3, (l3.drop ((ji21) : Int).toNat)] : List (List Int)))).bind fun t278 => ((impl_Wire_result.f a0_0 l0_1 a0_2 t278).bind fun bt281 => (some (bt281.1, bt281.2.1, bt281.2.2.1, bt281.2.2.2.1, bt281.2.2.2.2.1, bt281.2.2.2.2.2)))) else (some (7, ([] : List Int), 0, ([] : List Int), 0, ([] : List Int))))) = some (r1, r2, r3, r4, r5, r6) := by first | (rw [hy264]; with_reducible exact H) | (have H2_ := (Option.bind_some _ _).symm.trans H; rw [hy264]; with_reducible exact H2_) | (have H2_ := (Option.bind_some _ _).symm.trans H; with_reducible exact H2_) | with_reducible exact H | (rw [hy264]; exact H) | exact H
         have Ny264 := Aside0.mk hy264
         clear hy264
         replace H := Option.bind_eq_some_iff.mp H
         obtain ⟨t269, A270, H⟩ := H
         replace H : (if t269 = true then ((slices_Concat_byte_byte.f k (([l0_3, (l3.drop ((ji21) : Int).toNat)] : List (List Int)))).bind fun t278 => ((impl_Wire_result.f a0_0 l0_1 a0_2 t278).bind fun bt281 => (some (bt281.1, bt281.2.1, bt281.2.2.1, bt281.2.2.2.1, bt281.2.2.2.2.1, bt281.2.2.2.2.2)))) else (some (7, ([] : List Int), 0, ([] : List Int), 0, ([] : List Int)))) = some (r1, r2, r3, r4, r5, r6) := H
         have A27 := Aside0.mk A270
         clear A270
         by_cases c28 : t269 = true
         ·
          subst c28
          have H1 : ((slices_Concat_byte_byte.f k (([l0_3, (l3.drop ((ji21) : Int).toNat)] : List (List Int)))).bind fun t278 => ((impl_Wire_result.f a0_0 l0_1 a0_2 t278).bind fun bt281 => (some (bt281.1, bt281.2.1, bt281.2.2.1, bt281.2.2.2.1, bt281.2.2.2.2.1, bt281.2.2.2.2.2)))) = some (r1, r2, r3, r4, r5, r6) := by rw [if_pos rfl] at H; first | done | exact H
          clear H
          have H := H1
          clear H1
          have c29b0 := eq_true (of_decide_eq_true (by first | (with_reducible assumption) | assumption) : 0 ≤ (ji21))
          have c30b0 := eq_true (of_decide_eq_true (by first | (with_reducible assumption) | assumption) : (ji21) ≤ (l3.length : Int))
          obtain ⟨y270, hy270⟩ : ∃ y_ : List Int, y_ = (l3.drop ((ji21) : Int).toNat) := ⟨_, rfl⟩
          replace H : ((slices_Concat_byte_byte.f k (([l0_3, y270] : List (List Int)))).bind fun t278 => ((impl_Wire_result.f a0_0 l0_1 a0_2 t278).bind fun bt281 => (some (bt281.1, bt281.2.1, bt281.2.2.1, bt281.2.2.2.1, bt281.2.2.2.2.1, bt281.2.2.2.2.2)))) = some (r1, r2, r3, r4, r5, r6) := by first | (rw [hy270]; with_reducible exact H) | (have H2_ := (Option.bind_some _ _).symm.trans H; rw [hy270]; with_reducible exact H2_) | (have H2_ := (Option.bind_some _ _).symm.trans H; with_reducible exact H2_) | with_reducible exact H | (rw [hy270]; exact H) | exact H
          have Ny270 := Aside0.mk hy270
          clear hy270
          obtain ⟨y275, hy275⟩ : ∃ y_ : List (List Int), y_ = (([l0_3, y270] : List (List Int))) := ⟨_, rfl⟩
          replace H : ((slices_Concat_byte_byte.f k y275).bind fun t278 => ((impl_Wire_result.f a0_0 l0_1 a0_2 t278).bind fun bt281 => (some (bt281.1, bt281.2.1, bt281.2.2.1, bt281.2.2.2.1, bt281.2.2.2.2.1, bt281.2.2.2.2.2)))) = some (r1, r2, r3, r4, r5, r6) := by first | (rw [hy275]; with_reducible exact H) | (have H2_ := (Option.bind_some _ _).symm.trans H; rw [hy275]; with_reducible exact H2_) | (have H2_ := (Option.bind_some _ _).symm.trans H; with_reducible exact H2_) | with_reducible exact H | (rw [hy275]; exact H) | exact H
          have Ny275 := Aside0.mk hy275
          clear hy275
          replace H := Option.bind_eq_some_iff.mp H
          obtain ⟨t278, A310, H⟩ := H
          replace H : ((impl_Wire_result.f a0_0 l0_1 a0_2 t278).bind fun bt281 => (some (bt281.1, bt281.2.1, bt281.2.2.1, bt281.2.2.2.1, bt281.2.2.2.2.1, bt281.2.2.2.2.2))) = some (r1, r2, r3, r4, r5, r6) := H
          have A31 := Aside0.mk A310
          clear A310
          replace H := Option.bind_eq_some_iff.mp H
          obtain ⟨⟨t281, t282, t285, t286, t289, t290⟩, A320, H⟩ := H
          replace H : (some (t281, t282, t285, t286, t289, t290)) = some (r1, r2, r3, r4, r5, r6) := H
          have A32 := Aside0.mk A320
          clear A320
          simp only [Option.some.injEq, Prod.mk.injEq] at H
          obtain ⟨rfl, rfl, rfl, rfl, rfl, rfl⟩ := H
          go_enter Try.func34, Try.ntmps34
          try go_wp2_with (first | ((with_reducible refine gate_dst (N := 4) rfl ?_); refine boxE #[.int .i64 a0_0, .slice A0_1 l0_1.length c0_1, .int .i64 a0_2, .slice A0_3 l0_3.length c0_3] 59 (N := 4) rfl rfl ?_; intro gb251 hg w33 hbox hb; replace HO0_3 := Aside0.mk (Kd.V_below (Kd.V_elderB (mV HO0_3) gb251 (Nat.le_of_eq hg.symm)) hb); replace HO3 := Aside0.mk (Kd.V_below (Kd.V_elderB (mV HO3) gb251 (Nat.le_of_eq hg.symm)) hb); have BK251 := Aside0.mk hbox; have GW251 := gZ HB hg; have GE251 := gZ HB hg; replace HB := bS HB hb; clear hb hbox hg) | ((with_reducible refine gate_dst (N := 8) rfl ?_); refine boxE #[.int .i64 0, .slice none 0 0, .int .i64 0, .slice none 0 0, .int .i64 0, .slice none 0 0] 63 (N := 8) rfl rfl ?_; intro gb252 hg w34 hbox hb; replace HO0_3 := Aside0.mk (Kd.V_below (Kd.V_elderB (mV HO0_3) gb252 (Nat.le_of_eq hg.symm)) hb); replace HO3 := Aside0.mk (Kd.V_below (Kd.V_elderB (mV HO3) gb252 (Nat.le_of_eq hg.symm)) hb); have BK252 := Aside0.mk hbox; have GW252 := gZ HB hg; have GE252 := gZ HB hg; replace HB := bS HB hb; have NB251_252 := nL BK251 hg; have NB252_251 := nG BK251 hg; replace BK251 := bK BK251 hb; clear hb hbox hg; have hnb35 := NB251_252.out; have hnc35 := NB252_251.out; have hz36 := cl4 BK251) | ((with_reducible refine gate_callee (f := 96) rfl ?_); refine goA (some 13) rfl rfl Try.func96 rfl #[.agg #[.int .i64 a0_0, .slice A0_1 l0_1.length c0_1, .int .i64 a0_2, .slice A0_3 l0_3.length c0_3], .int .i64 a1] rfl ?_; (with_reducible refine (impl_epochFault.calls k a0_0 _ _ l0_1 a0_2 _ _ l0_3 a1 t253 _ ?side1 ?side2 ?side3 ?side4 A5.out).mono ?_); (case side1 => exact mC HR0_1 HB); (case side2 => exact HC0_1.out); (case side3 => repeat (first | exact (Kd.V_reads' HO0_3.out).2.2 | (with_reducible refine Kd.C_alloc ?_ _) | (with_reducible refine Kd.C_drewN ?_ _) | (with_reducible refine Kd.C_drew ?_))); (case side4 => exact (Kd.V_reads' HO0_3.out).2.1); rintro e w37 ⟨rfl, hb⟩; refine ⟨_, rfl, ?_⟩; replace HO0_3 := Aside0.mk (Kd.V_below (mV HO0_3) hb); replace HO3 := Aside0.mk (Kd.V_below (mV HO3) hb); replace BK251 := bK BK251 hb; replace BK252 := bK BK252 hb; replace HB := bS HB hb; (try clear hb); (try clear hb2); (try clear hk); (try clear hi); have hz38 := cl4 BK251) | ((with_reducible refine gate_callee (f := 97) rfl ?_); refine goA (some 23) rfl rfl Try.func97 rfl #[.slice A0_3 l0_3.length c0_3] rfl ?_; (with_reducible refine (impl_size_byte.calls _ _ l0_3 t254 _ ?side1 ?side2 A7.out).mono ?_); (case side1 => repeat (first | exact (Kd.V_reads' HO0_3.out).2.2 | (with_reducible refine Kd.C_alloc ?_ _) | (with_reducible refine Kd.C_drewN ?_ _) | (with_reducible refine Kd.C_drew ?_))); (case side2 => exact (Kd.V_reads' HO0_3.out).2.1); rintro e w' ⟨rfl, ⟨nd, rfl⟩⟩; refine ⟨_, rfl, ?_⟩; (try ((try simp only [World.drewN_drewN]); rw [drewN_self w37]; generalize hq_ : World.drewN w37 _ = w37; replace HO0_3 := Aside0.mk (Eq.mp (congrArg (fun w_ => Kd.V _ _ w_ _ _ _ _) hq_) (Kd.V_drewN HO0_3.out _)); replace HO3 := Aside0.mk (Eq.mp (congrArg (fun w_ => Kd.V _ _ w_ _ _ _ _) hq_) (Kd.V_drewN HO3.out _)); replace BK251 := Aside0.mk (blk_at hq_ BK251.out); replace BK252 := Aside0.mk (blk_at hq_ BK252.out); replace HB := Aside0.mk (below_at hq_ HB.out); clear hq_))) | ((with_reducible refine gate_callee (f := 87) rfl ?_); refine goA (some 24) rfl rfl Try.func87 rfl #[.int .i64 a2, .int .i64 0, .int .i64 t254] rfl ?_; (with_reducible refine (impl_in.calls a2 0 t254 true _ A8.out).mono ?_); rintro e w' ⟨rfl, ⟨nd, rfl⟩⟩; refine ⟨_, rfl, ?_⟩; (try ((try simp only [World.drewN_drewN]); rw [drewN_self w37]; generalize hq_ : World.drewN w37 _ = w37; replace HO0_3 := Aside0.mk (Eq.mp (congrArg (fun w_ => Kd.V _ _ w_ _ _ _ _) hq_) (Kd.V_drewN HO0_3.out _)); replace HO3 := Aside0.mk (Eq.mp (congrArg (fun w_ => Kd.V _ _ w_ _ _ _ _) hq_) (Kd.V_drewN HO3.out _)); replace BK251 := Aside0.mk (blk_at hq_ BK251.out); replace BK252 := Aside0.mk (blk_at hq_ BK252.out); replace HB := Aside0.mk (below_at hq_ HB.out); clear hq_))) | ((with_reducible refine gate_callee (f := 97) rfl ?_); refine goA (some 30) rfl rfl Try.func97 rfl #[.slice A3 l3.length c3] rfl ?_; (with_reducible refine (impl_size_byte.calls _ _ l3 t256 _ ?side1 ?side2 A10.out).mono ?_); (case side1 => repeat (first | exact (Kd.V_reads' HO3.out).2.2 | (with_reducible refine Kd.C_alloc ?_ _) | (with_reducible refine Kd.C_drewN ?_ _) | (with_reducible refine Kd.C_drew ?_))); (case side2 => exact (Kd.V_reads' HO3.out).2.1); rintro e w' ⟨rfl, ⟨nd, rfl⟩⟩; refine ⟨_, rfl, ?_⟩; (try ((try simp only [World.drewN_drewN]); rw [drewN_self w37]; generalize hq_ : World.drewN w37 _ = w37; replace HO0_3 := Aside0.mk (Eq.mp (congrArg (fun w_ => Kd.V _ _ w_ _ _ _ _) hq_) (Kd.V_drewN HO0_3.out _)); replace HO3 := Aside0.mk (Eq.mp (congrArg (fun w_ => Kd.V _ _ w_ _ _ _ _) hq_) (Kd.V_drewN HO3.out _)); replace BK251 := Aside0.mk (blk_at hq_ BK251.out); replace BK252 := Aside0.mk (blk_at hq_ BK252.out); replace HB := Aside0.mk (below_at hq_ HB.out); clear hq_))))
          have n0_ := Aside0.mk (Kd.V_drew HO0_3.out)
          have n1_ := Aside0.mk (Kd.V_drew HO3.out)
          have n2_ := Aside0.mk (blk_drew BK251.out)
          have n3_ := Aside0.mk (blk_drew BK252.out)
          have n4_ := Aside0.mk (below_drew1 HB.out)
          clear HO0_3
          clear HO3
          clear BK251
          clear BK252
          clear HB
          have HO0_3 := n0_
          have HO3 := n1_
          have BK251 := n2_
          have BK252 := n3_
          have HB := n4_
          clear n0_ n1_ n2_ n3_ n4_
          refine start_ (n := 9) (S := fun w' => w'.cell? ⟨gb251, 0, none⟩ = some (.int .i64 a0_0) ∧ w'.cell? ⟨gb251, 1, none⟩ = some (.slice A0_1 l0_1.length c0_1) ∧ w'.cell? ⟨gb251, 2, none⟩ = some (.int .i64 a0_2) ∧ w'.cell? ⟨gb251, 3, none⟩ = some (.slice A0_3 l0_3.length c0_3)) (ds := []) #[false, false, false, false, false, false, false, false, false] (by kernel_rfl) rfl rfl ⟨(blk_cell BK251.out 0).trans rfl, (blk_cell BK251.out 1).trans rfl, (blk_cell BK251.out 2).trans rfl, (blk_cell BK251.out 3).trans rfl⟩ (fun hHeld => ?_); refine with_tabW impl_DeliverOut.tab8 impl_DeliverOut.bits8 (fun HT_ HW_ => ?_)
          generalize w37.drew = w39 at HO0_3 HO3 BK251 BK252 HB hHeld ⊢
          refine pA 0 34 [1, 8] ?_
          refine pA 2 36 [1, 1, 1, 6] ?_
          refine pA 5 39 [1, 1, 1, 2, 1, 3] ?_
          refine take_ (i := 3) (N := some 37) (v := ?_) (a' := ?_) #[true, false, true, true, false, true, false, false, false] rfl rfl (take_ofW HT_.out HW_.out (by kernel_rfl)) (fun _ _ _ h => h) (Or.inl ⟨by rfl, ?_⟩) hHeld ?_ ?_
          rotate_left
          ·
           rintro w' ⟨s0, s1, s2, s3⟩
           go_simp
           with_reducible rfl
          rotate_left
          ·
           simp only [Act.put, List.setIfInBounds_toArray, List.set_cons_zero, List.set_cons_succ, i64_w, i32_w]
           rfl
          refine one_ (i := 1) (N := some 35) #[true, true, true, true, false, true, false, false, false] rfl rfl (one_of HT_.out (by kernel_rfl)) (by decide) (fun K hK => ?_)
          refine goes_ Try.func97 (by kernel_rfl) rfl #[.slice A3 l3.length c3] (by rfl) rfl rfl (by (try simp only [List.map_toArray, List.map_cons, List.map_nil]); first | done | rfl | (simp only [List.length_drop, List.length_take]; rfl)) ?_
          with_reducible refine (impl_size_byte.calls _ _ l3 t257 _ ?side1 ?side2 A19.out).mono ?_
          (case side1 => repeat (first | exact (Kd.V_reads' HO3.out).2.2 | (with_reducible refine Kd.C_alloc ?_ _) | (with_reducible refine Kd.C_drewN ?_ _) | (with_reducible refine Kd.C_drew ?_)))
          (case side2 => exact (Kd.V_reads' HO3.out).2.1)
          rintro e w' ⟨rfl, ⟨nd, rfl⟩⟩
          refine ⟨_, rfl, ?_⟩
          refine hK.out _ _ (ce4 BK251) (fun hHeld => ?_)
          clear hK K
          refine norm_ (a' := ?_) ?_ ?_
          rotate_left
          ·
           show Act.put _ (some 35) _ = _
           simp only [Act.put, List.setIfInBounds_toArray, List.set_cons_zero, List.set_cons_succ, i64_w, i32_w]
           rfl
          refine one_ (i := 4) (N := some 38) #[true, true, true, true, true, true, false, false, false] rfl rfl (one_of HT_.out (by kernel_rfl)) (by decide) (fun K hK => ?_)
          refine goes_ Try.func97 (by kernel_rfl) rfl #[.slice A0_3 l0_3.length c0_3] (by rfl) rfl rfl (by (try simp only [List.map_toArray, List.map_cons, List.map_nil]); first | done | rfl | (simp only [List.length_drop, List.length_take]; rfl)) ?_
          with_reducible refine (impl_size_byte.calls _ _ l0_3 t258 _ ?side1 ?side2 A20.out).mono ?_
          (case side1 => repeat (first | exact (Kd.V_reads' HO0_3.out).2.2 | (with_reducible refine Kd.C_alloc ?_ _) | (with_reducible refine Kd.C_drewN ?_ _) | (with_reducible refine Kd.C_drew ?_)))
          (case side2 => exact (Kd.V_reads' HO0_3.out).2.1)
          rintro e w' ⟨rfl, ⟨nd, rfl⟩⟩
          refine ⟨_, rfl, ?_⟩
          refine hK.out _ _ (ce4 BK251) (fun hHeld => ?_)
          clear hK K
          refine norm_ (a' := ?_) ?_ ?_
          rotate_left
          ·
           show Act.put _ (some 38) _ = _
           simp only [Act.put, List.setIfInBounds_toArray, List.set_cons_zero, List.set_cons_succ, i64_w, i32_w]
           rfl
          refine pA 6 40 [7, 2] ?_
          refine pA 7 41 [8, 1] ?_
          refine pA 8 10 [9] ?_
          refine done_ (done_of HT_.out (by kernel_rfl)) ?_
          try go_wp2
          (try ((try simp only [World.drewN_drewN]); rw [drewN_self w39]; generalize hq_ : World.drewN w39 _ = w39; replace HO0_3 := Aside0.mk (Eq.mp (congrArg (fun w_ => Kd.V _ _ w_ _ _ _ _) hq_) (Kd.V_drewN HO0_3.out _)); replace HO3 := Aside0.mk (Eq.mp (congrArg (fun w_ => Kd.V _ _ w_ _ _ _ _) hq_) (Kd.V_drewN HO3.out _)); replace BK251 := Aside0.mk (blk_at hq_ BK251.out); replace BK252 := Aside0.mk (blk_at hq_ BK252.out); replace HB := Aside0.mk (below_at hq_ HB.out); clear hq_))
          have n0_ := Aside0.mk (Kd.V_drew HO0_3.out)
          have n1_ := Aside0.mk (Kd.V_drew HO3.out)
          have n2_ := Aside0.mk (blk_drew BK251.out)
          have n3_ := Aside0.mk (blk_drew BK252.out)
          have n4_ := Aside0.mk (below_drew1 HB.out)
          clear HO0_3
          clear HO3
          clear BK251
          clear BK252
          clear HB
          have HO0_3 := n0_
          have HO3 := n1_
          have BK251 := n2_
          have BK252 := n3_
          have HB := n4_
          clear n0_ n1_ n2_ n3_ n4_
          have q41 : ((ji21) : Int) ≤ ((l3.length : Int) : Int) := of_decide_eq_true (by first | (with_reducible assumption) | assumption)
          obtain ⟨i041, hi041, _, hsz41, _⟩ := info_parts info5
          have hroom41 : l3.length ≤ c3 := (Kd.V_reads' HO3.out).2.1
          have hC41 : Kd.F (Kd.int .u8) _ _ A3 l3.length l3 := (Kd.V_at (base := w.heap.size) HO3.out).2.2
          have hcut41 := cut_to (P := Try.prog) 25 5 .i64 Try.underlying25 hi041 A3 l3.length c3 (ji21) (of_decide_eq_true (by first | (with_reducible assumption) | assumption)) q41 hroom41
          have hr41 := Kd.F_take (m := ((ji21) : Int).toNat) hC41 (by omega)
          have hy41 : y259.length = ((ji21) : Int).toNat := (by rw [Ny259.out, List.length_take]; omega)
          rw [← Ny259.out] at hr41
          rw [← hy41] at hcut41
          have HO263 := Aside0.mk (show Kd.V (Kd.int .u8) 5 _ w.heap.size _ (.slice A3 y259.length c3) y259 from Kd.V_mk (by omega) hr41)
          have HC263 := Aside0.mk (show y259.length ≤ c3 from by omega)
          clear hr41 hC41 hroom41 hi041 hsz41
          have KY41 := Aside0.mk hy41
          clear hy41
          replace q41 := eq_true q41
          have q42 : ((wrap64 (a2 + (ji21))) : Int) ≤ ((l0_3.length : Int) : Int) := of_decide_eq_true (by first | (with_reducible assumption) | assumption)
          obtain ⟨i042, hi042, _, hsz42, _⟩ := info_parts info5
          have hroom42 : l0_3.length ≤ c0_3 := (Kd.V_reads' HO0_3.out).2.1
          have hC42 : Kd.F (Kd.int .u8) _ _ A0_3 l0_3.length l0_3 := (Kd.V_at (base := w.heap.size) HO0_3.out).2.2
          have ql42 : (a2 : Int) ≤ ((wrap64 (a2 + (ji21))) : Int) := of_decide_eq_true (by first | (with_reducible assumption) | assumption)
          have q042 : (0 : Int) ≤ (a2 : Int) := of_decide_eq_true (by first | (with_reducible assumption) | assumption)
          have hcut42 := cut_mid (P := Try.prog) 25 5 .i64 .i64 Try.underlying25 hi042 1 hsz42 A0_3 l0_3.length c0_3 a2 (wrap64 (a2 + (ji21))) q042 ql42 q42 hroom42
          have hr42 := Kd.F_mid (lo := (a2 : Int).toNat) (hi := ((wrap64 (a2 + (ji21))) : Int).toNat) (c := c0_3) hC42 (by omega) (by omega) hroom42
          obtain ⟨A42, hA42⟩ : ∃ A1, A1 = (if c0_3 = (a2 : Int).toNat then A0_3 else (A0_3 : Option Addr).map (·.add ((a2 : Int).toNat * 1))) := ⟨_, rfl⟩
          obtain ⟨c42, hc42⟩ : ∃ c1, c1 = c0_3 - (a2 : Int).toNat := ⟨_, rfl⟩
          have hy42 : y264.length = ((wrap64 (a2 + (ji21))) : Int).toNat - (a2 : Int).toNat := (by rw [Ny264.out, List.length_drop, List.length_take] <;> omega)
          rw [show ((l0_3).take ((wrap64 (a2 + (ji21))) : Int).toNat).drop (a2 : Int).toNat = y264 from Ny264.out.symm] at hr42
          replace hr42 : Kd.F (Kd.int .u8) _ _ A42 y264.length y264 := (by rw [hA42]; exact hr42)
          rw [← hy42, ← hA42, ← hc42] at hcut42
          have HO268 := Aside0.mk (show Kd.V (Kd.int .u8) 5 _ w.heap.size _ (.slice A42 y264.length c42) y264 from Kd.V_mk (by rw [hy42, hc42]; exact Nat.sub_le_sub_right (Nat.le_trans (by omega) hroom42) _) hr42)
          have HC268 := Aside0.mk (show y264.length ≤ c42 from by rw [hy42, hc42]; exact Nat.sub_le_sub_right (Nat.le_trans (by omega) hroom42) _)
          clear hr42 hC42 hroom42 hi042 hsz42 hc42
          have KY42 := Aside0.mk hy42
          have KA42 := Aside0.mk hA42
          clear hy42 hA42
          replace q42 := eq_true q42
          refine start_ (n := 12) (S := fun w' => w'.cell? ⟨gb251, 0, none⟩ = some (.int .i64 a0_0) ∧ w'.cell? ⟨gb251, 1, none⟩ = some (.slice A0_1 l0_1.length c0_1) ∧ w'.cell? ⟨gb251, 2, none⟩ = some (.int .i64 a0_2) ∧ w'.cell? ⟨gb251, 3, none⟩ = some (.slice A0_3 l0_3.length c0_3)) (ds := []) #[false, false, false, false, false, false, false, false, false, false, false, false] (by kernel_rfl) rfl rfl ⟨(blk_cell BK251.out 0).trans rfl, (blk_cell BK251.out 1).trans rfl, (blk_cell BK251.out 2).trans rfl, (blk_cell BK251.out 3).trans rfl⟩ (fun hHeld => ?_); refine with_tabW impl_DeliverOut.tab9 impl_DeliverOut.bits9 (fun HT_ HW_ => ?_)
          generalize w39.drew = w40 at HO0_3 HO3 BK251 BK252 HB HO263 HO268 hHeld ⊢
          refine pA 0 42 [1, 11] ?_
          refine pA 1 43 [2, 10] ?_
          refine pA 2 44 [3, 9] ?_
          refine pA 3 45 [4, 8] ?_
          refine pA 5 47 [4, 1, 1, 6] ?_
          refine pA 6 48 [4, 1, 2, 5] ?_
          refine pA 7 49 [4, 1, 3, 4] ?_
          refine pA 8 50 [4, 1, 4, 3] ?_
          refine take_ (i := 4) (N := some 46) (v := ?_) (a' := ?_) #[true, true, true, true, true, true, true, true, true, false, false, false] rfl rfl (take_ofW HT_.out HW_.out (by kernel_rfl)) (fun _ _ _ h => h) (Or.inl ⟨by rfl, ?_⟩) hHeld ?_ ?_
          rotate_left
          ·
           rintro w' ⟨s0, s1, s2, s3⟩
           go_simp
           with_reducible rfl
          rotate_left
          ·
           simp only [Act.put, List.setIfInBounds_toArray, List.set_cons_zero, List.set_cons_succ, i64_w, i32_w]
           rfl
          refine pA 9 51 [10, 2] ?_
          refine one_ (i := 10) (N := some 52) #[true, true, true, true, true, true, true, true, true, true, true, false] rfl rfl (one_of HT_.out (by kernel_rfl)) (by decide) (fun K hK => ?_)
          refine goes_ Try.func98 (by kernel_rfl) rfl #[.slice A3 y259.length c3, .slice A42 y264.length c42] (by rfl) rfl rfl (by (try simp only [List.map_toArray, List.map_cons, List.map_nil]); first | done | rfl | (simp only [List.length_drop, List.length_take]; rfl)) ?_
          with_reducible refine (slices_Equal_byte_byte.calls k _ _ y259 _ _ y264 true _ ?side1 ?side2 ?side3 ?side4 A27.out).mono ?_
          (case side1 => repeat (first | exact (Kd.V_reads' HO263.out).2.2 | (with_reducible refine Kd.C_alloc ?_ _) | (with_reducible refine Kd.C_drewN ?_ _) | (with_reducible refine Kd.C_drew ?_)))
          (case side2 => exact (Kd.V_reads' HO263.out).2.1)
          (case side3 => repeat (first | exact (Kd.V_reads' HO268.out).2.2 | (with_reducible refine Kd.C_alloc ?_ _) | (with_reducible refine Kd.C_drewN ?_ _) | (with_reducible refine Kd.C_drew ?_)))
          (case side4 => exact (Kd.V_reads' HO268.out).2.1)
          rintro e w' ⟨rfl, ⟨nd, rfl⟩⟩
          refine ⟨_, rfl, ?_⟩
          refine hK.out _ _ (ce4 BK251) (fun hHeld => ?_)
          clear hK K
          refine norm_ (a' := ?_) ?_ ?_
          rotate_left
          ·
           show Act.put _ (some 52) _ = _
           simp only [Act.put, List.setIfInBounds_toArray, List.set_cons_zero, List.set_cons_succ, i64_w, i32_w]
           rfl
          refine pA 11 53 [12] ?_
          refine done_ (done_of HT_.out (by kernel_rfl)) ?_
          try go_wp2
          (try ((try simp only [World.drewN_drewN]); rw [drewN_self w40]; generalize hq_ : World.drewN w40 _ = w40; replace HO0_3 := Aside0.mk (Eq.mp (congrArg (fun w_ => Kd.V _ _ w_ _ _ _ _) hq_) (Kd.V_drewN HO0_3.out _)); replace HO3 := Aside0.mk (Eq.mp (congrArg (fun w_ => Kd.V _ _ w_ _ _ _ _) hq_) (Kd.V_drewN HO3.out _)); replace HO263 := Aside0.mk (Eq.mp (congrArg (fun w_ => Kd.V _ _ w_ _ _ _ _) hq_) (Kd.V_drewN HO263.out _)); replace HO268 := Aside0.mk (Eq.mp (congrArg (fun w_ => Kd.V _ _ w_ _ _ _ _) hq_) (Kd.V_drewN HO268.out _)); replace BK251 := Aside0.mk (blk_at hq_ BK251.out); replace BK252 := Aside0.mk (blk_at hq_ BK252.out); replace HB := Aside0.mk (below_at hq_ HB.out); clear hq_))
          have n0_ := Aside0.mk (Kd.V_drew HO0_3.out)
          have n1_ := Aside0.mk (Kd.V_drew HO3.out)
          have n2_ := Aside0.mk (Kd.V_drew HO263.out)
          have n3_ := Aside0.mk (Kd.V_drew HO268.out)
          have n4_ := Aside0.mk (blk_drew BK251.out)
          have n5_ := Aside0.mk (blk_drew BK252.out)
          have n6_ := Aside0.mk (below_drew1 HB.out)
          clear HO0_3
          clear HO3
          clear HO263
          clear HO268
          clear BK251
          clear BK252
          clear HB
          have HO0_3 := n0_
          have HO3 := n1_
          have HO263 := n2_
          have HO268 := n3_
          have BK251 := n4_
          have BK252 := n5_
          have HB := n6_
          clear n0_ n1_ n2_ n3_ n4_ n5_ n6_
          have q44 : ((ji21) : Int) ≤ ((l3.length : Int) : Int) := of_decide_eq_true (by first | (with_reducible assumption) | assumption)
          obtain ⟨i044, hi044, _, hsz44, _⟩ := info_parts info5
          have hroom44 : l3.length ≤ c3 := (Kd.V_reads' HO3.out).2.1
          have hC44 : Kd.F (Kd.int .u8) _ _ A3 l3.length l3 := (Kd.V_at (base := w.heap.size) HO3.out).2.2
          have q044 : (0 : Int) ≤ ((ji21) : Int) := of_decide_eq_true (by first | (with_reducible assumption) | assumption)
          have hcut44 := cut_from (P := Try.prog) 25 5 .i64 Try.underlying25 hi044 1 hsz44 A3 l3.length c3 (ji21) q044 q44
          have hr44 := Kd.F_cut (m := ((ji21) : Int).toNat) (c := c3) hC44 (by omega) hroom44
          obtain ⟨A44, hA44⟩ : ∃ A1, A1 = (if c3 = ((ji21) : Int).toNat then A3 else (A3 : Option Addr).map (·.add (((ji21) : Int).toNat * 1))) := ⟨_, rfl⟩
          obtain ⟨c44, hc44⟩ : ∃ c1, c1 = c3 - ((ji21) : Int).toNat := ⟨_, rfl⟩
          have hy44 : y270.length = l3.length - ((ji21) : Int).toNat := (by rw [Ny270.out, List.length_drop] <;> omega)
          rw [show (l3).drop ((ji21) : Int).toNat = y270 from Ny270.out.symm] at hr44
          replace hr44 : Kd.F (Kd.int .u8) _ _ A44 y270.length y270 := (by rw [hA44]; exact hr44)
          rw [← hy44, ← hA44, ← hc44] at hcut44
          have HO274 := Aside0.mk (show Kd.V (Kd.int .u8) 5 _ w.heap.size _ (.slice A44 y270.length c44) y270 from Kd.V_mk (by rw [hy44, hc44]; exact Nat.sub_le_sub_right hroom44 _) hr44)
          have HC274 := Aside0.mk (show y270.length ≤ c44 from by rw [hy44, hc44]; exact Nat.sub_le_sub_right hroom44 _)
          clear hr44 hC44 hroom44 hi044 hsz44 hc44
          have KY44 := Aside0.mk hy44
          have KA44 := Aside0.mk hA44
          clear hy44 hA44
          replace q44 := eq_true q44
          refine start_ (n := 9) (S := fun w' => w'.cell? ⟨gb251, 0, none⟩ = some (.int .i64 a0_0) ∧ w'.cell? ⟨gb251, 1, none⟩ = some (.slice A0_1 l0_1.length c0_1) ∧ w'.cell? ⟨gb251, 2, none⟩ = some (.int .i64 a0_2) ∧ w'.cell? ⟨gb251, 3, none⟩ = some (.slice A0_3 l0_3.length c0_3)) (ds := [8]) #[false, false, false, false, false, false, false, false, false] (by kernel_rfl) rfl rfl ⟨(blk_cell BK251.out 0).trans rfl, (blk_cell BK251.out 1).trans rfl, (blk_cell BK251.out 2).trans rfl, (blk_cell BK251.out 3).trans rfl⟩ (fun hHeld => ?_); refine with_tabW impl_DeliverOut.tab11 impl_DeliverOut.bits11 (fun HT_ HW_ => ?_)
          generalize w40.drew = w43 at HO0_3 HO3 HO263 HO268 BK251 BK252 HB HO274 hHeld ⊢
          refine pA 0 55 [1, 8] ?_
          refine pA 2 57 [1, 1, 1, 6] ?_
          refine pA 3 58 [1, 1, 2, 5] ?_
          refine pA 4 59 [1, 1, 3, 4] ?_
          refine take_ (i := 1) (N := some 56) (v := ?_) (a' := ?_) #[true, true, true, true, true, false, false, false, false] rfl rfl (take_ofW HT_.out HW_.out (by kernel_rfl)) (fun _ _ _ h => h) (Or.inl ⟨by rfl, ?_⟩) hHeld ?_ ?_
          rotate_left
          ·
           rintro w' ⟨s0, s1, s2, s3⟩
           go_simp
           with_reducible rfl
          rotate_left
          ·
           simp only [Act.put, List.setIfInBounds_toArray, List.set_cons_zero, List.set_cons_succ, i64_w, i32_w]
           rfl
          refine one_ (i := 5) (N := some 60) #[true, true, true, true, true, true, false, false, false] rfl rfl (one_of HT_.out (by kernel_rfl)) (by decide) (fun K hK => ?_)
          refine Kd.N_lit_step (Kd.slice 5 (Kd.int .u8)) _ 25 ?hg (N' := 60) ?hd (xs := ([l0_3, y270] : List (List Int))) (inner := [.slice A0_3 l0_3.length c0_3, .slice A44 y270.length c44]) (ok := (fun k_ => ((P0_3_ k_ ∨ P3_ k_) ∨ w.heap.size ≤ k_) ∧ k_ ≠ gb251 ∧ k_ ≠ gb252)) (okp := (fun k_ => ((P0_3_ k_ ∨ P3_ k_) ∨ w.heap.size ≤ k_) ∧ k_ ≠ gb251 ∧ k_ ≠ gb252)) ?hr ?hp (fun _ hk => hk) ((show ∀ k_, w43.heap.size ≤ k_ → (fun k_ => ((P0_3_ k_ ∨ P3_ k_) ∨ w.heap.size ≤ k_) ∧ k_ ≠ gb251 ∧ k_ ≠ gb252) k_ from fun k_ hk => ⟨(.inr (Nat.le_trans (below_size (bel HB)) hk)), Kd.freshB (g := gb251) (o := .cells #[.int .i64 a0_0, .slice A0_1 l0_1.length c0_1, .int .i64 a0_2, .slice A0_3 l0_3.length c0_3] 59 (0, 0)) (mB BK251) k_ hk, Kd.freshB (g := gb252) (o := .cells #[.int .i64 0, .slice none 0 0, .int .i64 0, .slice none 0 0, .int .i64 0, .slice none 0 0] 63 (0, 0)) (mB BK252) k_ hk⟩) _ (Nat.le_refl _)) (Below.refl _ _) (Nat.le_refl _) (by simp) ?_; (case hd => rfl); (case hg => rfl); (case hr => first | (go_simp; done) | (go_simp; rfl)); (case hp => exact (Reps.one (show Kd.FK (Kd.slice 5 (Kd.int .u8)) _ _ l0_3 [.slice A0_3 l0_3.length c0_3] from (Kd.FK_slice_mk (Kd.V_reads' (Kd.V_mono (ok' := (fun k_ => ((P0_3_ k_ ∨ P3_ k_) ∨ w.heap.size ≤ k_) ∧ k_ ≠ gb251 ∧ k_ ≠ gb252)) (HO0_3.out) (fun k_ hk => ⟨hk.1.1, ⟨hk.1.2, hk.2⟩⟩))).2.1 (Kd.V_F (Kd.V_mono (ok' := (fun k_ => ((P0_3_ k_ ∨ P3_ k_) ∨ w.heap.size ≤ k_) ∧ k_ ≠ gb251 ∧ k_ ≠ gb252)) (HO0_3.out) (fun k_ hk => ⟨hk.1.1, ⟨hk.1.2, hk.2⟩⟩))))) (Reps.one (show Kd.FK (Kd.slice 5 (Kd.int .u8)) _ _ y270 [.slice A44 y270.length c44] from (Kd.FK_slice_mk (Kd.V_reads' (Kd.V_mono (ok' := (fun k_ => ((P0_3_ k_ ∨ P3_ k_) ∨ w.heap.size ≤ k_) ∧ k_ ≠ gb251 ∧ k_ ≠ gb252)) (HO274.out) (fun k_ hk => ⟨hk.1.1, ⟨hk.1.2, hk.2⟩⟩))).2.1 (Kd.V_F (Kd.V_mono (ok' := (fun k_ => ((P0_3_ k_ ∨ P3_ k_) ∨ w.heap.size ≤ k_) ∧ k_ ≠ gb251 ∧ k_ ≠ gb252)) (HO274.out) (fun k_ hk => ⟨hk.1.1, ⟨hk.1.2, hk.2⟩⟩))))) (Reps.none _ _))))
          intro v276 w45 ho46 hb hg_ hnew_
          clear hg_ hnew_
          (first | rw [← Ny275.out] at ho46 | (simp only [Int.reduceToNat] at ho46; rw [← Ny275.out] at ho46))
          have n0_ := Aside0.mk (Kd.V_elder' (mV HO0_3) (Kd.N_base ho46) hb)
          have n1_ := Aside0.mk (Kd.V_elder' (mV HO3) (Kd.N_base ho46) hb)
          have n2_ := Aside0.mk (Kd.V_elder' (mV HO263) (Kd.N_base ho46) hb)
          have n3_ := Aside0.mk (Kd.V_elder' (mV HO268) (Kd.N_base ho46) hb)
          have n4_ := Aside0.mk (Kd.V_elder' (mV HO274) (Kd.N_base ho46) hb)
          have n5_ := Aside0.mk (Kd.N_lower ho46 (below_size (bel HB)))
          have n6_ := bK BK251 hb
          have n7_ := bK BK252 hb
          have n8_ := bS HB hb
          clear HO0_3
          clear HO3
          clear HO263
          clear HO268
          clear HO274
          clear BK251
          clear BK252
          clear HB
          have HO0_3 := n0_
          have HO3 := n1_
          have HO263 := n2_
          have HO268 := n3_
          have HO274 := n4_
          have HO277 := n5_
          have BK251 := n6_
          have BK252 := n7_
          have HB := n8_
          clear n0_ n1_ n2_ n3_ n4_ n5_ n6_ n7_ n8_
          clear hb ho46
          obtain ⟨Ao47, co47, eo47⟩ := Kd.N_slice HO277.out
          (first | subst eo47 | (injection eo47 with f1_ f2_ f3_; have f4_ := f1_.symm; have f5_ := f3_.symm; clear f1_ f2_ f3_; subst f4_; subst f5_))
          refine hK.out _ _ (ce4 BK251) (fun hHeld => ?_)
          clear hK K
          refine norm_ (a' := ?_) ?_ ?_
          rotate_left
          ·
           show Act.put _ (some 60) _ = _
           simp only [Act.put, List.setIfInBounds_toArray, List.set_cons_zero, List.set_cons_succ, i64_w, i32_w]
           rfl
          refine one_ (i := 6) (N := some 61) #[true, true, true, true, true, true, true, false, false] rfl rfl (one_of HT_.out (by kernel_rfl)) (by decide) (fun K hK => ?_)
          refine goes_ Try.func99 (by kernel_rfl) rfl #[.slice Ao47 y275.length co47] (by rfl) rfl rfl (by (try simp only [List.map_toArray, List.map_cons, List.map_nil]); first | done | rfl | (simp only [List.length_drop, List.length_take]; rfl)) ?_
          with_reducible refine (slices_Concat_byte_byte.calls k _ _ y275 t278 _ ?side1 ?side2 A31.out).mono ?_
          (case side1 => repeat (first | exact (Kd.N_reads' HO277.out).2.2 | (with_reducible refine Kd.C_alloc ?_ _) | (with_reducible refine Kd.C_drewN ?_ _) | (with_reducible refine Kd.C_drew ?_)))
          (case side2 => exact (Kd.N_reads' HO277.out).2.1)
          rintro e w48 ⟨v279, rfl, ho0, hb⟩
          refine ⟨_, rfl, ?_⟩
          have n0_ := Aside0.mk (Kd.V_elder' (mV HO0_3) (Kd.R_base ho0) hb)
          have n1_ := Aside0.mk (Kd.V_elder' (mV HO3) (Kd.R_base ho0) hb)
          have n2_ := Aside0.mk (Kd.V_elder' (mV HO263) (Kd.R_base ho0) hb)
          have n3_ := Aside0.mk (Kd.V_elder' (mV HO268) (Kd.R_base ho0) hb)
          have n4_ := Aside0.mk (Kd.V_elder' (mV HO274) (Kd.R_base ho0) hb)
          have n5_ := Aside0.mk (Kd.N_elder' (mN HO277) (Kd.R_base ho0) hb)
          have n6_ := Aside0.mk (Kd.R_lower (Kd.R_newM (M := fun k_ => (w.heap.size ≤ k_)) ho0 (below_size (bel HB)) (fun k_ h_ => h_)) (below_size (bel HB)))
          have n7_ := bK BK251 hb
          have n8_ := bK BK252 hb
          have n9_ := bS HB hb
          clear HO0_3
          clear HO3
          clear HO263
          clear HO268
          clear HO274
          clear HO277
          clear BK251
          clear BK252
          clear HB
          have HO0_3 := n0_
          have HO3 := n1_
          have HO263 := n2_
          have HO268 := n3_
          have HO274 := n4_
          have HO277 := n5_
          have HO280 := n6_
          have BK251 := n7_
          have BK252 := n8_
          have HB := n9_
          clear n0_ n1_ n2_ n3_ n4_ n5_ n6_ n7_ n8_ n9_
          (try clear hb)
          (try clear hb2)
          (try clear hk)
          (try clear hi)
          (try clear ho0)
          obtain ⟨Ao49, co49, eo49⟩ := Kd.R_slice HO280.out
          (first | subst eo49 | (injection eo49 with f1_ f2_ f3_; have f4_ := f1_.symm; have f5_ := f3_.symm; clear f1_ f2_ f3_; subst f4_; subst f5_))
          refine hK.out _ _ (ce4 BK251) (fun hHeld => ?_)
          clear hK K
          refine norm_ (a' := ?_) ?_ ?_
          rotate_left
          ·
           show Act.put _ (some 61) _ = _
           simp only [Act.put, List.setIfInBounds_toArray, List.set_cons_zero, List.set_cons_succ, i64_w, i32_w]
           rfl
          refine pA 7 62 [8, 1] ?_
          refine last_ (i := 8) (N := none) #[true, true, true, true, true, true, true, true, true] rfl rfl (one_of HT_.out (by kernel_rfl)) (by decide) (fun K hK => ?_)
          have hs50 : w48.cell? ⟨gb251, 3, none⟩ = some (.slice A0_3 l0_3.length c0_3) := (blk_cell BK251.out 3).trans rfl
          have hfs50 := blk_frozen BK251.out 3
          have hns50_1 := NB252_251.out
          have hms50_1 := NB251_252.out
          refine skip_ (w1 := ?_) (by rfl) rfl ?_ ?_
          rotate_left
          ·
           go_simp
           rfl
          refine hK.out _ _ ?_
          clear hK K
          refine done_ (done_of HT_.out (by kernel_rfl)) ?_
          have hz51 := cl4 BK251
          try go_wp2_with (first | ((with_reducible refine gate_callee (f := 100) rfl ?_); refine goA (some 64) rfl rfl Try.func100 rfl #[.agg #[.int .i64 a0_0, .slice A0_1 l0_1.length c0_1, .int .i64 a0_2, .slice Ao49 t278.length co49]] rfl ?_; (with_reducible refine (impl_Wire_result.calls a0_0 _ _ l0_1 a0_2 _ _ t278 t281 t282 t285 t286 t289 t290 _ ?side1 ?side2 ?side3 ?side4 A32.out).mono ?_); (case side1 => exact Kd.C_below HR0_1.out (bel HB)); (case side2 => exact HC0_1.out); (case side3 => refine (Kd.R_reads' (e := 5) (base := w.heap.size) (ok := fun k_ => ((w.heap.size ≤ k_) ∧ True)) (n := t278.length) (c := co49) ?_).2.2; exact (by (with_reducible repeat (first | apply Kd.R_alloc | apply Kd.R_drewN | apply Kd.R_drew)); exact (Kd.R_mono (RF (Kd.R_types HO280.out BK251.out (by decide))) (fun _ h_ => h_.1)))); (case side4 => exact (Kd.R_reads' HO280.out).2.1); rintro e w52 ⟨v283, v287, v291, rfl, ho0, ho1, ho2, hb⟩; refine ⟨_, rfl, ?_⟩; replace HO0_3 := Aside0.mk (Kd.V_mono (Kd.V_told (Kd.V_told (Kd.V_told (Kd.V_old (by (with_reducible repeat (first | apply Kd.V_alloc | apply Kd.V_drewN | apply Kd.V_drew)); exact (Kd.V_mono (Kd.V_far (p := ⟨gb251, 3, none⟩) (Kd.V_mono HO0_3.out (fun k_ hk => (⟨hk, hk.1.1.1.2⟩ : _ ∧ k_ ≠ gb251))) (fun _ hk => hk.2) (.slice Ao49 t278.length co49)) (fun _ h_ => h_.1))) hb) (Kd.R_base ho0)) (Kd.R_base ho1)) (Kd.R_base ho2)) (fun _ h_ => h_.1)); replace HO3 := Aside0.mk (Kd.V_mono (Kd.V_told (Kd.V_told (Kd.V_told (Kd.V_old (by (with_reducible repeat (first | apply Kd.V_alloc | apply Kd.V_drewN | apply Kd.V_drew)); exact (Kd.V_mono (Kd.V_far (p := ⟨gb251, 3, none⟩) (Kd.V_mono HO3.out (fun k_ hk => (⟨hk, hk.1.1.1.2⟩ : _ ∧ k_ ≠ gb251))) (fun _ hk => hk.2) (.slice Ao49 t278.length co49)) (fun _ h_ => h_.1))) hb) (Kd.R_base ho0)) (Kd.R_base ho1)) (Kd.R_base ho2)) (fun _ h_ => h_.1)); replace HO263 := Aside0.mk (Kd.V_mono (Kd.V_told (Kd.V_told (Kd.V_told (Kd.V_old (by (with_reducible repeat (first | apply Kd.V_alloc | apply Kd.V_drewN | apply Kd.V_drew)); exact (Kd.V_mono (Kd.V_far (p := ⟨gb251, 3, none⟩) (Kd.V_mono HO263.out (fun k_ hk => (⟨hk, hk.1.1.1.2⟩ : _ ∧ k_ ≠ gb251))) (fun _ hk => hk.2) (.slice Ao49 t278.length co49)) (fun _ h_ => h_.1))) hb) (Kd.R_base ho0)) (Kd.R_base ho1)) (Kd.R_base ho2)) (fun _ h_ => h_.1)); replace HO268 := Aside0.mk (Kd.V_mono (Kd.V_told (Kd.V_told (Kd.V_told (Kd.V_old (by (with_reducible repeat (first | apply Kd.V_alloc | apply Kd.V_drewN | apply Kd.V_drew)); exact (Kd.V_mono (Kd.V_far (p := ⟨gb251, 3, none⟩) (Kd.V_mono HO268.out (fun k_ hk => (⟨hk, hk.1.1.1.2⟩ : _ ∧ k_ ≠ gb251))) (fun _ hk => hk.2) (.slice Ao49 t278.length co49)) (fun _ h_ => h_.1))) hb) (Kd.R_base ho0)) (Kd.R_base ho1)) (Kd.R_base ho2)) (fun _ h_ => h_.1)); replace HO274 := Aside0.mk (Kd.V_mono (Kd.V_told (Kd.V_told (Kd.V_told (Kd.V_old (by (with_reducible repeat (first | apply Kd.V_alloc | apply Kd.V_drewN | apply Kd.V_drew)); exact (Kd.V_mono (Kd.V_far (p := ⟨gb251, 3, none⟩) (Kd.V_mono HO274.out (fun k_ hk => (⟨hk, hk.1.1.1.2⟩ : _ ∧ k_ ≠ gb251))) (fun _ hk => hk.2) (.slice Ao49 t278.length co49)) (fun _ h_ => h_.1))) hb) (Kd.R_base ho0)) (Kd.R_base ho1)) (Kd.R_base ho2)) (fun _ h_ => h_.1)); replace HO277 := Aside0.mk (Kd.N_mono (Kd.N_told (Kd.N_told (Kd.N_told (Kd.N_old (by (with_reducible repeat (first | apply Kd.N_alloc | apply Kd.N_drewN | apply Kd.N_drew)); exact (Kd.N_mono (Kd.N_far (p := ⟨gb251, 3, none⟩) (Kd.N_mono HO277.out (fun k_ hk => (⟨hk, hk.1.2.1⟩ : _ ∧ k_ ≠ gb251))) (fun _ hk => hk.2) (.slice Ao49 t278.length co49)) (fun _ h_ => h_.1))) hb) (Kd.R_base ho0)) (Kd.R_base ho1)) (Kd.R_base ho2)) (fun _ h_ => h_.1)); have HO284 := Aside0.mk (Kd.R_lower (Kd.R_new' (Kd.R_newM (M := fun k_ => (w.heap.size ≤ k_)) ho0 (below_size (bel HB)) (fun k_ h_ => h_)) (Kd.R_lt (by (with_reducible repeat (first | apply Kd.R_alloc | apply Kd.R_drewN | apply Kd.R_drew)); exact (Kd.R_mono (RF (Kd.R_types HO280.out BK251.out (by decide))) (fun _ h_ => h_.1))))) (below_size (bel HB))); have HO288 := Aside0.mk (Kd.R_lower (Kd.R_new' (Kd.R_newM (M := fun k_ => (w.heap.size ≤ k_)) ho1 (below_size (bel HB)) (fun k_ h_ => h_)) (Kd.R_lt (by (with_reducible repeat (first | apply Kd.R_alloc | apply Kd.R_drewN | apply Kd.R_drew)); exact (Kd.R_mono (RF (Kd.R_types HO280.out BK251.out (by decide))) (fun _ h_ => h_.1))))) (below_size (bel HB))); have HO292 := Aside0.mk (Kd.R_lower (Kd.R_new' (Kd.R_newM (M := fun k_ => (w.heap.size ≤ k_)) ho2 (below_size (bel HB)) (fun k_ h_ => h_)) (Kd.R_lt (by (with_reducible repeat (first | apply Kd.R_alloc | apply Kd.R_drewN | apply Kd.R_drew)); exact (Kd.R_mono (RF (Kd.R_types HO280.out BK251.out (by decide))) (fun _ h_ => h_.1))))) (below_size (bel HB))); replace HO280 := Aside0.mk (Kd.R_mono (Kd.R_told (Kd.R_told (Kd.R_told (Kd.R_old (by (with_reducible repeat (first | apply Kd.R_alloc | apply Kd.R_drewN | apply Kd.R_drew)); exact (Kd.R_mono (RF (Kd.R_types HO280.out BK251.out (by decide))) (fun _ h_ => h_.1))) hb) (Kd.R_base ho0)) (Kd.R_base ho1)) (Kd.R_base ho2)) (fun _ h_ => h_.1)); replace BK251 := Aside0.mk (blk_below (g := gb251) (o := .cells #[.int .i64 a0_0, .slice A0_1 l0_1.length c0_1, .int .i64 a0_2, .slice Ao49 t278.length co49] 59 (0, 0)) (mP BK251) hb); replace BK252 := Aside0.mk (blk_below (g := gb252) (o := .cells #[.int .i64 0, .slice none 0 0, .int .i64 0, .slice none 0 0, .int .i64 0, .slice none 0 0] 63 (0, 0)) (mP BK252) hb); replace HB := bS HB hb; (try clear hb); (try clear hb2); (try clear hk); (try clear hi); (try clear ho0); (try clear ho1); (try clear ho2); have hz53 := cl6 BK252; obtain ⟨Ao54, co54, eo54⟩ := Kd.R_slice HO284.out; subst eo54; obtain ⟨Ao55, co55, eo55⟩ := Kd.R_slice HO288.out; subst eo55; obtain ⟨Ao56, co56, eo56⟩ := Kd.R_slice HO292.out; subst eo56))
          refine bodyPost_ret (results_cell_row rfl _ _ gb252 63 #[.int .i64 t281, .slice Ao54 t282.length co54, .int .i64 t285, .slice Ao55 t286.length co55, .int .i64 t289, .slice Ao56 t290.length co56] (0, 0) _ rfl (mP BK252) Try.underlying63 rfl (by kernel_rfl)) rfl ?_
          exact ⟨_, _, _, by first | rfl | (simp [errW_none, errW_some] <;> rfl) | (simp only [← hji21]; first | rfl | (simp [errW_none, errW_some] <;> rfl)) | (simp [*, errW_none, errW_some] <;> rfl), by (with_reducible repeat (first | apply Kd.R_alloc | apply Kd.R_drewN | apply Kd.R_drew)); exact Kd.R_mono (RF (RF (RF (RF (RF (RF (Kd.R_types HO284.out BK252.out (by decide)))))))) (fun _ hk => ⟨hk.1.1.1, ⟨hk.1.1.2.1, hk.1.1.2.2⟩⟩), by (with_reducible repeat (first | apply Kd.R_alloc | apply Kd.R_drewN | apply Kd.R_drew)); exact Kd.R_mono (RF (RF (RF (RF (RF (RF (Kd.R_types HO288.out BK252.out (by decide)))))))) (fun _ hk => ⟨hk.1.1.1, ⟨hk.1.1.2.1, hk.1.1.2.2⟩⟩), by (with_reducible repeat (first | apply Kd.R_alloc | apply Kd.R_drewN | apply Kd.R_drew)); exact Kd.R_mono (RF (RF (RF (RF (RF (RF (Kd.R_types HO292.out BK252.out (by decide)))))))) (fun _ hk => ⟨hk.1.1.1, ⟨hk.1.1.2.1, hk.1.1.2.2⟩⟩), bel HB⟩
         ·
          replace c28 := Bool.eq_false_iff.mpr c28
          subst c28
          have H1 : (some (7, ([] : List Int), 0, ([] : List Int), 0, ([] : List Int))) = some (r1, r2, r3, r4, r5, r6) := by rw [if_neg (show ¬ (false = true) by decide)] at H; first | done | exact H
          clear H
          have H := H1
          clear H1
          simp only [Option.some.injEq, Prod.mk.injEq] at H
          obtain ⟨rfl, rfl, rfl, rfl, rfl, rfl⟩ := H
          go_enter Try.func34, Try.ntmps34
          try go_wp2_with (first | ((with_reducible refine gate_dst (N := 4) rfl ?_); refine boxE #[.int .i64 a0_0, .slice A0_1 l0_1.length c0_1, .int .i64 a0_2, .slice A0_3 l0_3.length c0_3] 59 (N := 4) rfl rfl ?_; intro gb251 hg w57 hbox hb; replace HO0_3 := Aside0.mk (Kd.V_below (Kd.V_elderB (mV HO0_3) gb251 (Nat.le_of_eq hg.symm)) hb); replace HO3 := Aside0.mk (Kd.V_below (Kd.V_elderB (mV HO3) gb251 (Nat.le_of_eq hg.symm)) hb); have BK251 := Aside0.mk hbox; have GW251 := gZ HB hg; have GE251 := gZ HB hg; replace HB := bS HB hb; clear hb hbox hg) | ((with_reducible refine gate_dst (N := 8) rfl ?_); refine boxE #[.int .i64 0, .slice none 0 0, .int .i64 0, .slice none 0 0, .int .i64 0, .slice none 0 0] 63 (N := 8) rfl rfl ?_; intro gb252 hg w58 hbox hb; replace HO0_3 := Aside0.mk (Kd.V_below (Kd.V_elderB (mV HO0_3) gb252 (Nat.le_of_eq hg.symm)) hb); replace HO3 := Aside0.mk (Kd.V_below (Kd.V_elderB (mV HO3) gb252 (Nat.le_of_eq hg.symm)) hb); have BK252 := Aside0.mk hbox; have GW252 := gZ HB hg; have GE252 := gZ HB hg; replace HB := bS HB hb; have NB251_252 := nL BK251 hg; have NB252_251 := nG BK251 hg; replace BK251 := bK BK251 hb; clear hb hbox hg; have hnb59 := NB251_252.out; have hnc59 := NB252_251.out; have hz60 := cl4 BK251) | ((with_reducible refine gate_callee (f := 96) rfl ?_); refine goA (some 13) rfl rfl Try.func96 rfl #[.agg #[.int .i64 a0_0, .slice A0_1 l0_1.length c0_1, .int .i64 a0_2, .slice A0_3 l0_3.length c0_3], .int .i64 a1] rfl ?_; (with_reducible refine (impl_epochFault.calls k a0_0 _ _ l0_1 a0_2 _ _ l0_3 a1 t253 _ ?side1 ?side2 ?side3 ?side4 A5.out).mono ?_); (case side1 => exact mC HR0_1 HB); (case side2 => exact HC0_1.out); (case side3 => repeat (first | exact (Kd.V_reads' HO0_3.out).2.2 | (with_reducible refine Kd.C_alloc ?_ _) | (with_reducible refine Kd.C_drewN ?_ _) | (with_reducible refine Kd.C_drew ?_))); (case side4 => exact (Kd.V_reads' HO0_3.out).2.1); rintro e w61 ⟨rfl, hb⟩; refine ⟨_, rfl, ?_⟩; replace HO0_3 := Aside0.mk (Kd.V_below (mV HO0_3) hb); replace HO3 := Aside0.mk (Kd.V_below (mV HO3) hb); replace BK251 := bK BK251 hb; replace BK252 := bK BK252 hb; replace HB := bS HB hb; (try clear hb); (try clear hb2); (try clear hk); (try clear hi); have hz62 := cl4 BK251) | ((with_reducible refine gate_callee (f := 97) rfl ?_); refine goA (some 23) rfl rfl Try.func97 rfl #[.slice A0_3 l0_3.length c0_3] rfl ?_; (with_reducible refine (impl_size_byte.calls _ _ l0_3 t254 _ ?side1 ?side2 A7.out).mono ?_); (case side1 => repeat (first | exact (Kd.V_reads' HO0_3.out).2.2 | (with_reducible refine Kd.C_alloc ?_ _) | (with_reducible refine Kd.C_drewN ?_ _) | (with_reducible refine Kd.C_drew ?_))); (case side2 => exact (Kd.V_reads' HO0_3.out).2.1); rintro e w' ⟨rfl, ⟨nd, rfl⟩⟩; refine ⟨_, rfl, ?_⟩; (try ((try simp only [World.drewN_drewN]); rw [drewN_self w61]; generalize hq_ : World.drewN w61 _ = w61; replace HO0_3 := Aside0.mk (Eq.mp (congrArg (fun w_ => Kd.V _ _ w_ _ _ _ _) hq_) (Kd.V_drewN HO0_3.out _)); replace HO3 := Aside0.mk (Eq.mp (congrArg (fun w_ => Kd.V _ _ w_ _ _ _ _) hq_) (Kd.V_drewN HO3.out _)); replace BK251 := Aside0.mk (blk_at hq_ BK251.out); replace BK252 := Aside0.mk (blk_at hq_ BK252.out); replace HB := Aside0.mk (below_at hq_ HB.out); clear hq_))) | ((with_reducible refine gate_callee (f := 87) rfl ?_); refine goA (some 24) rfl rfl Try.func87 rfl #[.int .i64 a2, .int .i64 0, .int .i64 t254] rfl ?_; (with_reducible refine (impl_in.calls a2 0 t254 true _ A8.out).mono ?_); rintro e w' ⟨rfl, ⟨nd, rfl⟩⟩; refine ⟨_, rfl, ?_⟩; (try ((try simp only [World.drewN_drewN]); rw [drewN_self w61]; generalize hq_ : World.drewN w61 _ = w61; replace HO0_3 := Aside0.mk (Eq.mp (congrArg (fun w_ => Kd.V _ _ w_ _ _ _ _) hq_) (Kd.V_drewN HO0_3.out _)); replace HO3 := Aside0.mk (Eq.mp (congrArg (fun w_ => Kd.V _ _ w_ _ _ _ _) hq_) (Kd.V_drewN HO3.out _)); replace BK251 := Aside0.mk (blk_at hq_ BK251.out); replace BK252 := Aside0.mk (blk_at hq_ BK252.out); replace HB := Aside0.mk (below_at hq_ HB.out); clear hq_))) | ((with_reducible refine gate_callee (f := 97) rfl ?_); refine goA (some 30) rfl rfl Try.func97 rfl #[.slice A3 l3.length c3] rfl ?_; (with_reducible refine (impl_size_byte.calls _ _ l3 t256 _ ?side1 ?side2 A10.out).mono ?_); (case side1 => repeat (first | exact (Kd.V_reads' HO3.out).2.2 | (with_reducible refine Kd.C_alloc ?_ _) | (with_reducible refine Kd.C_drewN ?_ _) | (with_reducible refine Kd.C_drew ?_))); (case side2 => exact (Kd.V_reads' HO3.out).2.1); rintro e w' ⟨rfl, ⟨nd, rfl⟩⟩; refine ⟨_, rfl, ?_⟩; (try ((try simp only [World.drewN_drewN]); rw [drewN_self w61]; generalize hq_ : World.drewN w61 _ = w61; replace HO0_3 := Aside0.mk (Eq.mp (congrArg (fun w_ => Kd.V _ _ w_ _ _ _ _) hq_) (Kd.V_drewN HO0_3.out _)); replace HO3 := Aside0.mk (Eq.mp (congrArg (fun w_ => Kd.V _ _ w_ _ _ _ _) hq_) (Kd.V_drewN HO3.out _)); replace BK251 := Aside0.mk (blk_at hq_ BK251.out); replace BK252 := Aside0.mk (blk_at hq_ BK252.out); replace HB := Aside0.mk (below_at hq_ HB.out); clear hq_))))
          have n0_ := Aside0.mk (Kd.V_drew HO0_3.out)
          have n1_ := Aside0.mk (Kd.V_drew HO3.out)
          have n2_ := Aside0.mk (blk_drew BK251.out)
          have n3_ := Aside0.mk (blk_drew BK252.out)
          have n4_ := Aside0.mk (below_drew1 HB.out)
          clear HO0_3
          clear HO3
          clear BK251
          clear BK252
          clear HB
          have HO0_3 := n0_
          have HO3 := n1_
          have BK251 := n2_
          have BK252 := n3_
          have HB := n4_
          clear n0_ n1_ n2_ n3_ n4_
          refine start_ (n := 9) (S := fun w' => w'.cell? ⟨gb251, 0, none⟩ = some (.int .i64 a0_0) ∧ w'.cell? ⟨gb251, 1, none⟩ = some (.slice A0_1 l0_1.length c0_1) ∧ w'.cell? ⟨gb251, 2, none⟩ = some (.int .i64 a0_2) ∧ w'.cell? ⟨gb251, 3, none⟩ = some (.slice A0_3 l0_3.length c0_3)) (ds := []) #[false, false, false, false, false, false, false, false, false] (by kernel_rfl) rfl rfl ⟨(blk_cell BK251.out 0).trans rfl, (blk_cell BK251.out 1).trans rfl, (blk_cell BK251.out 2).trans rfl, (blk_cell BK251.out 3).trans rfl⟩ (fun hHeld => ?_); refine with_tabW impl_DeliverOut.tab8 impl_DeliverOut.bits8 (fun HT_ HW_ => ?_)
          generalize w61.drew = w63 at HO0_3 HO3 BK251 BK252 HB hHeld ⊢
          refine pA 0 34 [1, 8] ?_
          refine pA 2 36 [1, 1, 1, 6] ?_
          refine pA 5 39 [1, 1, 1, 2, 1, 3] ?_
          refine take_ (i := 3) (N := some 37) (v := ?_) (a' := ?_) #[true, false, true, true, false, true, false, false, false] rfl rfl (take_ofW HT_.out HW_.out (by kernel_rfl)) (fun _ _ _ h => h) (Or.inl ⟨by rfl, ?_⟩) hHeld ?_ ?_
          rotate_left
          ·
           rintro w' ⟨s0, s1, s2, s3⟩
           go_simp
           with_reducible rfl
          rotate_left
          ·
           simp only [Act.put, List.setIfInBounds_toArray, List.set_cons_zero, List.set_cons_succ, i64_w, i32_w]
           rfl
          refine one_ (i := 1) (N := some 35) #[true, true, true, true, false, true, false, false, false] rfl rfl (one_of HT_.out (by kernel_rfl)) (by decide) (fun K hK => ?_)
          refine goes_ Try.func97 (by kernel_rfl) rfl #[.slice A3 l3.length c3] (by rfl) rfl rfl (by (try simp only [List.map_toArray, List.map_cons, List.map_nil]); first | done | rfl | (simp only [List.length_drop, List.length_take]; rfl)) ?_
          with_reducible refine (impl_size_byte.calls _ _ l3 t257 _ ?side1 ?side2 A19.out).mono ?_
          (case side1 => repeat (first | exact (Kd.V_reads' HO3.out).2.2 | (with_reducible refine Kd.C_alloc ?_ _) | (with_reducible refine Kd.C_drewN ?_ _) | (with_reducible refine Kd.C_drew ?_)))
          (case side2 => exact (Kd.V_reads' HO3.out).2.1)
          rintro e w' ⟨rfl, ⟨nd, rfl⟩⟩
          refine ⟨_, rfl, ?_⟩
          refine hK.out _ _ (ce4 BK251) (fun hHeld => ?_)
          clear hK K
          refine norm_ (a' := ?_) ?_ ?_
          rotate_left
          ·
           show Act.put _ (some 35) _ = _
           simp only [Act.put, List.setIfInBounds_toArray, List.set_cons_zero, List.set_cons_succ, i64_w, i32_w]
           rfl
          refine one_ (i := 4) (N := some 38) #[true, true, true, true, true, true, false, false, false] rfl rfl (one_of HT_.out (by kernel_rfl)) (by decide) (fun K hK => ?_)
          refine goes_ Try.func97 (by kernel_rfl) rfl #[.slice A0_3 l0_3.length c0_3] (by rfl) rfl rfl (by (try simp only [List.map_toArray, List.map_cons, List.map_nil]); first | done | rfl | (simp only [List.length_drop, List.length_take]; rfl)) ?_
          with_reducible refine (impl_size_byte.calls _ _ l0_3 t258 _ ?side1 ?side2 A20.out).mono ?_
          (case side1 => repeat (first | exact (Kd.V_reads' HO0_3.out).2.2 | (with_reducible refine Kd.C_alloc ?_ _) | (with_reducible refine Kd.C_drewN ?_ _) | (with_reducible refine Kd.C_drew ?_)))
          (case side2 => exact (Kd.V_reads' HO0_3.out).2.1)
          rintro e w' ⟨rfl, ⟨nd, rfl⟩⟩
          refine ⟨_, rfl, ?_⟩
          refine hK.out _ _ (ce4 BK251) (fun hHeld => ?_)
          clear hK K
          refine norm_ (a' := ?_) ?_ ?_
          rotate_left
          ·
           show Act.put _ (some 38) _ = _
           simp only [Act.put, List.setIfInBounds_toArray, List.set_cons_zero, List.set_cons_succ, i64_w, i32_w]
           rfl
          refine pA 6 40 [7, 2] ?_
          refine pA 7 41 [8, 1] ?_
          refine pA 8 10 [9] ?_
          refine done_ (done_of HT_.out (by kernel_rfl)) ?_
          try go_wp2
          (try ((try simp only [World.drewN_drewN]); rw [drewN_self w63]; generalize hq_ : World.drewN w63 _ = w63; replace HO0_3 := Aside0.mk (Eq.mp (congrArg (fun w_ => Kd.V _ _ w_ _ _ _ _) hq_) (Kd.V_drewN HO0_3.out _)); replace HO3 := Aside0.mk (Eq.mp (congrArg (fun w_ => Kd.V _ _ w_ _ _ _ _) hq_) (Kd.V_drewN HO3.out _)); replace BK251 := Aside0.mk (blk_at hq_ BK251.out); replace BK252 := Aside0.mk (blk_at hq_ BK252.out); replace HB := Aside0.mk (below_at hq_ HB.out); clear hq_))
          have n0_ := Aside0.mk (Kd.V_drew HO0_3.out)
          have n1_ := Aside0.mk (Kd.V_drew HO3.out)
          have n2_ := Aside0.mk (blk_drew BK251.out)
          have n3_ := Aside0.mk (blk_drew BK252.out)
          have n4_ := Aside0.mk (below_drew1 HB.out)
          clear HO0_3
          clear HO3
          clear BK251
          clear BK252
          clear HB
          have HO0_3 := n0_
          have HO3 := n1_
          have BK251 := n2_
          have BK252 := n3_
          have HB := n4_
          clear n0_ n1_ n2_ n3_ n4_
          have q65 : ((ji21) : Int) ≤ ((l3.length : Int) : Int) := of_decide_eq_true (by first | (with_reducible assumption) | assumption)
          obtain ⟨i065, hi065, _, hsz65, _⟩ := info_parts info5
          have hroom65 : l3.length ≤ c3 := (Kd.V_reads' HO3.out).2.1
          have hC65 : Kd.F (Kd.int .u8) _ _ A3 l3.length l3 := (Kd.V_at (base := w.heap.size) HO3.out).2.2
          have hcut65 := cut_to (P := Try.prog) 25 5 .i64 Try.underlying25 hi065 A3 l3.length c3 (ji21) (of_decide_eq_true (by first | (with_reducible assumption) | assumption)) q65 hroom65
          have hr65 := Kd.F_take (m := ((ji21) : Int).toNat) hC65 (by omega)
          have hy65 : y259.length = ((ji21) : Int).toNat := (by rw [Ny259.out, List.length_take]; omega)
          rw [← Ny259.out] at hr65
          rw [← hy65] at hcut65
          have HO263 := Aside0.mk (show Kd.V (Kd.int .u8) 5 _ w.heap.size _ (.slice A3 y259.length c3) y259 from Kd.V_mk (by omega) hr65)
          have HC263 := Aside0.mk (show y259.length ≤ c3 from by omega)
          clear hr65 hC65 hroom65 hi065 hsz65
          have KY65 := Aside0.mk hy65
          clear hy65
          replace q65 := eq_true q65
          have q66 : ((wrap64 (a2 + (ji21))) : Int) ≤ ((l0_3.length : Int) : Int) := of_decide_eq_true (by first | (with_reducible assumption) | assumption)
          obtain ⟨i066, hi066, _, hsz66, _⟩ := info_parts info5
          have hroom66 : l0_3.length ≤ c0_3 := (Kd.V_reads' HO0_3.out).2.1
          have hC66 : Kd.F (Kd.int .u8) _ _ A0_3 l0_3.length l0_3 := (Kd.V_at (base := w.heap.size) HO0_3.out).2.2
          have ql66 : (a2 : Int) ≤ ((wrap64 (a2 + (ji21))) : Int) := of_decide_eq_true (by first | (with_reducible assumption) | assumption)
          have q066 : (0 : Int) ≤ (a2 : Int) := of_decide_eq_true (by first | (with_reducible assumption) | assumption)
          have hcut66 := cut_mid (P := Try.prog) 25 5 .i64 .i64 Try.underlying25 hi066 1 hsz66 A0_3 l0_3.length c0_3 a2 (wrap64 (a2 + (ji21))) q066 ql66 q66 hroom66
          have hr66 := Kd.F_mid (lo := (a2 : Int).toNat) (hi := ((wrap64 (a2 + (ji21))) : Int).toNat) (c := c0_3) hC66 (by omega) (by omega) hroom66
          obtain ⟨A66, hA66⟩ : ∃ A1, A1 = (if c0_3 = (a2 : Int).toNat then A0_3 else (A0_3 : Option Addr).map (·.add ((a2 : Int).toNat * 1))) := ⟨_, rfl⟩
          obtain ⟨c66, hc66⟩ : ∃ c1, c1 = c0_3 - (a2 : Int).toNat := ⟨_, rfl⟩
          have hy66 : y264.length = ((wrap64 (a2 + (ji21))) : Int).toNat - (a2 : Int).toNat := (by rw [Ny264.out, List.length_drop, List.length_take] <;> omega)
          rw [show ((l0_3).take ((wrap64 (a2 + (ji21))) : Int).toNat).drop (a2 : Int).toNat = y264 from Ny264.out.symm] at hr66
          replace hr66 : Kd.F (Kd.int .u8) _ _ A66 y264.length y264 := (by rw [hA66]; exact hr66)
          rw [← hy66, ← hA66, ← hc66] at hcut66
          have HO268 := Aside0.mk (show Kd.V (Kd.int .u8) 5 _ w.heap.size _ (.slice A66 y264.length c66) y264 from Kd.V_mk (by rw [hy66, hc66]; exact Nat.sub_le_sub_right (Nat.le_trans (by omega) hroom66) _) hr66)
          have HC268 := Aside0.mk (show y264.length ≤ c66 from by rw [hy66, hc66]; exact Nat.sub_le_sub_right (Nat.le_trans (by omega) hroom66) _)
          clear hr66 hC66 hroom66 hi066 hsz66 hc66
          have KY66 := Aside0.mk hy66
          have KA66 := Aside0.mk hA66
          clear hy66 hA66
          replace q66 := eq_true q66
          refine start_ (n := 12) (S := fun w' => w'.cell? ⟨gb251, 0, none⟩ = some (.int .i64 a0_0) ∧ w'.cell? ⟨gb251, 1, none⟩ = some (.slice A0_1 l0_1.length c0_1) ∧ w'.cell? ⟨gb251, 2, none⟩ = some (.int .i64 a0_2) ∧ w'.cell? ⟨gb251, 3, none⟩ = some (.slice A0_3 l0_3.length c0_3)) (ds := []) #[false, false, false, false, false, false, false, false, false, false, false, false] (by kernel_rfl) rfl rfl ⟨(blk_cell BK251.out 0).trans rfl, (blk_cell BK251.out 1).trans rfl, (blk_cell BK251.out 2).trans rfl, (blk_cell BK251.out 3).trans rfl⟩ (fun hHeld => ?_); refine with_tabW impl_DeliverOut.tab9 impl_DeliverOut.bits9 (fun HT_ HW_ => ?_)
          generalize w63.drew = w64 at HO0_3 HO3 BK251 BK252 HB HO263 HO268 hHeld ⊢
          refine pA 0 42 [1, 11] ?_
          refine pA 1 43 [2, 10] ?_
          refine pA 2 44 [3, 9] ?_
          refine pA 3 45 [4, 8] ?_
          refine pA 5 47 [4, 1, 1, 6] ?_
          refine pA 6 48 [4, 1, 2, 5] ?_
          refine pA 7 49 [4, 1, 3, 4] ?_
          refine pA 8 50 [4, 1, 4, 3] ?_
          refine take_ (i := 4) (N := some 46) (v := ?_) (a' := ?_) #[true, true, true, true, true, true, true, true, true, false, false, false] rfl rfl (take_ofW HT_.out HW_.out (by kernel_rfl)) (fun _ _ _ h => h) (Or.inl ⟨by rfl, ?_⟩) hHeld ?_ ?_
          rotate_left
          ·
           rintro w' ⟨s0, s1, s2, s3⟩
           go_simp
           with_reducible rfl
          rotate_left
          ·
           simp only [Act.put, List.setIfInBounds_toArray, List.set_cons_zero, List.set_cons_succ, i64_w, i32_w]
           rfl
          refine pA 9 51 [10, 2] ?_
          refine one_ (i := 10) (N := some 52) #[true, true, true, true, true, true, true, true, true, true, true, false] rfl rfl (one_of HT_.out (by kernel_rfl)) (by decide) (fun K hK => ?_)
          refine goes_ Try.func98 (by kernel_rfl) rfl #[.slice A3 y259.length c3, .slice A66 y264.length c66] (by rfl) rfl rfl (by (try simp only [List.map_toArray, List.map_cons, List.map_nil]); first | done | rfl | (simp only [List.length_drop, List.length_take]; rfl)) ?_
          with_reducible refine (slices_Equal_byte_byte.calls k _ _ y259 _ _ y264 false _ ?side1 ?side2 ?side3 ?side4 A27.out).mono ?_
          (case side1 => repeat (first | exact (Kd.V_reads' HO263.out).2.2 | (with_reducible refine Kd.C_alloc ?_ _) | (with_reducible refine Kd.C_drewN ?_ _) | (with_reducible refine Kd.C_drew ?_)))
          (case side2 => exact (Kd.V_reads' HO263.out).2.1)
          (case side3 => repeat (first | exact (Kd.V_reads' HO268.out).2.2 | (with_reducible refine Kd.C_alloc ?_ _) | (with_reducible refine Kd.C_drewN ?_ _) | (with_reducible refine Kd.C_drew ?_)))
          (case side4 => exact (Kd.V_reads' HO268.out).2.1)
          rintro e w' ⟨rfl, ⟨nd, rfl⟩⟩
          refine ⟨_, rfl, ?_⟩
          refine hK.out _ _ (ce4 BK251) (fun hHeld => ?_)
          clear hK K
          refine norm_ (a' := ?_) ?_ ?_
          rotate_left
          ·
           show Act.put _ (some 52) _ = _
           simp only [Act.put, List.setIfInBounds_toArray, List.set_cons_zero, List.set_cons_succ, i64_w, i32_w]
           rfl
          refine pA 11 53 [12] ?_
          refine done_ (done_of HT_.out (by kernel_rfl)) ?_
          have hz67 := cl6 BK252
          try go_wp2
          refine bodyPost_ret (results_cell_row rfl _ _ gb252 63 #[.int .i64 7, .slice none 0 0, .int .i64 0, .slice none 0 0, .int .i64 0, .slice none 0 0] (0, 0) _ rfl (mP BK252) Try.underlying63 rfl (by kernel_rfl)) rfl ?_
          exact ⟨_, _, _, by first | rfl | (simp [errW_none, errW_some] <;> rfl) | (simp only [← hji21]; first | rfl | (simp [errW_none, errW_some] <;> rfl)) | (simp [*, errW_none, errW_some] <;> rfl), by first | exact Kd.R_nil _ _ _ _ _ | exact Kd.N_nil _ _ _ _ _ | exact Kd.V_nil _ _ _ _ _ | exact Kd.Q_nil _ _ _ _ _ | exact Kd.S_nil _ _ _ _ _, by first | exact Kd.R_nil _ _ _ _ _ | exact Kd.N_nil _ _ _ _ _ | exact Kd.V_nil _ _ _ _ _ | exact Kd.Q_nil _ _ _ _ _ | exact Kd.S_nil _ _ _ _ _, by first | exact Kd.R_nil _ _ _ _ _ | exact Kd.N_nil _ _ _ _ _ | exact Kd.V_nil _ _ _ _ _ | exact Kd.Q_nil _ _ _ _ _ | exact Kd.S_nil _ _ _ _ _, bel HB⟩
        ·
         rw [if_neg c26] at H
         exact absurd H (by simp)
       ·
        rw [if_neg c25] at H
        exact absurd H (by simp)
      ·
       rw [if_neg c24] at H
       exact absurd H (by simp)
     ·
      rw [if_neg c23] at H
      exact absurd H (by simp)
    ·
     rw [if_neg c22] at H
     exact absurd H (by simp)
  ·
   replace c9 := Bool.eq_false_iff.mpr c9
   subst c9
   have H1 : (some (3, ([] : List Int), 0, ([] : List Int), 0, ([] : List Int))) = some (r1, r2, r3, r4, r5, r6) := by rw [if_neg (show ¬ (false = true) by decide)] at H; first | done | exact H
   clear H
   have H := H1
   clear H1
   simp only [Option.some.injEq, Prod.mk.injEq] at H
   obtain ⟨rfl, rfl, rfl, rfl, rfl, rfl⟩ := H
   go_enter Try.func34, Try.ntmps34
   go_wp2_with (first | ((with_reducible refine gate_dst (N := 4) rfl ?_); refine boxE #[.int .i64 a0_0, .slice A0_1 l0_1.length c0_1, .int .i64 a0_2, .slice A0_3 l0_3.length c0_3] 59 (N := 4) rfl rfl ?_; intro gb251 hg w68 hbox hb; replace HO0_3 := Aside0.mk (Kd.V_below (Kd.V_elderB (mV HO0_3) gb251 (Nat.le_of_eq hg.symm)) hb); replace HO3 := Aside0.mk (Kd.V_below (Kd.V_elderB (mV HO3) gb251 (Nat.le_of_eq hg.symm)) hb); have BK251 := Aside0.mk hbox; have GW251 := gZ HB hg; have GE251 := gZ HB hg; replace HB := bS HB hb; clear hb hbox hg) | ((with_reducible refine gate_dst (N := 8) rfl ?_); refine boxE #[.int .i64 0, .slice none 0 0, .int .i64 0, .slice none 0 0, .int .i64 0, .slice none 0 0] 63 (N := 8) rfl rfl ?_; intro gb252 hg w69 hbox hb; replace HO0_3 := Aside0.mk (Kd.V_below (Kd.V_elderB (mV HO0_3) gb252 (Nat.le_of_eq hg.symm)) hb); replace HO3 := Aside0.mk (Kd.V_below (Kd.V_elderB (mV HO3) gb252 (Nat.le_of_eq hg.symm)) hb); have BK252 := Aside0.mk hbox; have GW252 := gZ HB hg; have GE252 := gZ HB hg; replace HB := bS HB hb; have NB251_252 := nL BK251 hg; have NB252_251 := nG BK251 hg; replace BK251 := bK BK251 hb; clear hb hbox hg; have hnb70 := NB251_252.out; have hnc70 := NB252_251.out; have hz71 := cl4 BK251) | ((with_reducible refine gate_callee (f := 96) rfl ?_); refine goA (some 13) rfl rfl Try.func96 rfl #[.agg #[.int .i64 a0_0, .slice A0_1 l0_1.length c0_1, .int .i64 a0_2, .slice A0_3 l0_3.length c0_3], .int .i64 a1] rfl ?_; (with_reducible refine (impl_epochFault.calls k a0_0 _ _ l0_1 a0_2 _ _ l0_3 a1 t253 _ ?side1 ?side2 ?side3 ?side4 A5.out).mono ?_); (case side1 => exact mC HR0_1 HB); (case side2 => exact HC0_1.out); (case side3 => repeat (first | exact (Kd.V_reads' HO0_3.out).2.2 | (with_reducible refine Kd.C_alloc ?_ _) | (with_reducible refine Kd.C_drewN ?_ _) | (with_reducible refine Kd.C_drew ?_))); (case side4 => exact (Kd.V_reads' HO0_3.out).2.1); rintro e w72 ⟨rfl, hb⟩; refine ⟨_, rfl, ?_⟩; replace HO0_3 := Aside0.mk (Kd.V_below (mV HO0_3) hb); replace HO3 := Aside0.mk (Kd.V_below (mV HO3) hb); replace BK251 := bK BK251 hb; replace BK252 := bK BK252 hb; replace HB := bS HB hb; (try clear hb); (try clear hb2); (try clear hk); (try clear hi); have hz73 := cl4 BK251) | ((with_reducible refine gate_callee (f := 97) rfl ?_); refine goA (some 23) rfl rfl Try.func97 rfl #[.slice A0_3 l0_3.length c0_3] rfl ?_; (with_reducible refine (impl_size_byte.calls _ _ l0_3 t254 _ ?side1 ?side2 A7.out).mono ?_); (case side1 => repeat (first | exact (Kd.V_reads' HO0_3.out).2.2 | (with_reducible refine Kd.C_alloc ?_ _) | (with_reducible refine Kd.C_drewN ?_ _) | (with_reducible refine Kd.C_drew ?_))); (case side2 => exact (Kd.V_reads' HO0_3.out).2.1); rintro e w' ⟨rfl, ⟨nd, rfl⟩⟩; refine ⟨_, rfl, ?_⟩; (try ((try simp only [World.drewN_drewN]); rw [drewN_self w72]; generalize hq_ : World.drewN w72 _ = w72; replace HO0_3 := Aside0.mk (Eq.mp (congrArg (fun w_ => Kd.V _ _ w_ _ _ _ _) hq_) (Kd.V_drewN HO0_3.out _)); replace HO3 := Aside0.mk (Eq.mp (congrArg (fun w_ => Kd.V _ _ w_ _ _ _ _) hq_) (Kd.V_drewN HO3.out _)); replace BK251 := Aside0.mk (blk_at hq_ BK251.out); replace BK252 := Aside0.mk (blk_at hq_ BK252.out); replace HB := Aside0.mk (below_at hq_ HB.out); clear hq_))) | ((with_reducible refine gate_callee (f := 87) rfl ?_); refine goA (some 24) rfl rfl Try.func87 rfl #[.int .i64 a2, .int .i64 0, .int .i64 t254] rfl ?_; (with_reducible refine (impl_in.calls a2 0 t254 false _ A8.out).mono ?_); rintro e w' ⟨rfl, ⟨nd, rfl⟩⟩; refine ⟨_, rfl, ?_⟩; (try ((try simp only [World.drewN_drewN]); rw [drewN_self w72]; generalize hq_ : World.drewN w72 _ = w72; replace HO0_3 := Aside0.mk (Eq.mp (congrArg (fun w_ => Kd.V _ _ w_ _ _ _ _) hq_) (Kd.V_drewN HO0_3.out _)); replace HO3 := Aside0.mk (Eq.mp (congrArg (fun w_ => Kd.V _ _ w_ _ _ _ _) hq_) (Kd.V_drewN HO3.out _)); replace BK251 := Aside0.mk (blk_at hq_ BK251.out); replace BK252 := Aside0.mk (blk_at hq_ BK252.out); replace HB := Aside0.mk (below_at hq_ HB.out); clear hq_)); have hz74 := cl6 BK252))
   refine bodyPost_ret (results_cell_row rfl _ _ gb252 63 #[.int .i64 3, .slice none 0 0, .int .i64 0, .slice none 0 0, .int .i64 0, .slice none 0 0] (0, 0) _ rfl (mP BK252) Try.underlying63 rfl (by kernel_rfl)) rfl ?_
   exact ⟨_, _, _, by first | rfl | (simp [errW_none, errW_some] <;> rfl) | (simp [*, errW_none, errW_some] <;> rfl), by first | exact Kd.R_nil _ _ _ _ _ | exact Kd.N_nil _ _ _ _ _ | exact Kd.V_nil _ _ _ _ _ | exact Kd.Q_nil _ _ _ _ _ | exact Kd.S_nil _ _ _ _ _, by first | exact Kd.R_nil _ _ _ _ _ | exact Kd.N_nil _ _ _ _ _ | exact Kd.V_nil _ _ _ _ _ | exact Kd.Q_nil _ _ _ _ _ | exact Kd.S_nil _ _ _ _ _, by first | exact Kd.R_nil _ _ _ _ _ | exact Kd.N_nil _ _ _ _ _ | exact Kd.V_nil _ _ _ _ _ | exact Kd.Q_nil _ _ _ _ _ | exact Kd.S_nil _ _ _ _ _, bel HB⟩
 ·
  rw [if_neg c6] at H
  have c6b0 : (t253 == 0) = false := beq_eq_false_iff_ne.mpr c6
  have c6b1 : (t253 != 0) = true := bne_iff_ne.mpr c6
  simp only [Option.some.injEq, Prod.mk.injEq] at H
  obtain ⟨rfl, rfl, rfl, rfl, rfl, rfl⟩ := H
  go_enter Try.func34, Try.ntmps34
  go_wp2_with (first | ((with_reducible refine gate_dst (N := 4) rfl ?_); refine boxE #[.int .i64 a0_0, .slice A0_1 l0_1.length c0_1, .int .i64 a0_2, .slice A0_3 l0_3.length c0_3] 59 (N := 4) rfl rfl ?_; intro gb251 hg w75 hbox hb; replace HO0_3 := Aside0.mk (Kd.V_below (Kd.V_elderB (mV HO0_3) gb251 (Nat.le_of_eq hg.symm)) hb); replace HO3 := Aside0.mk (Kd.V_below (Kd.V_elderB (mV HO3) gb251 (Nat.le_of_eq hg.symm)) hb); have BK251 := Aside0.mk hbox; have GW251 := gZ HB hg; have GE251 := gZ HB hg; replace HB := bS HB hb; clear hb hbox hg) | ((with_reducible refine gate_dst (N := 8) rfl ?_); refine boxE #[.int .i64 0, .slice none 0 0, .int .i64 0, .slice none 0 0, .int .i64 0, .slice none 0 0] 63 (N := 8) rfl rfl ?_; intro gb252 hg w76 hbox hb; replace HO0_3 := Aside0.mk (Kd.V_below (Kd.V_elderB (mV HO0_3) gb252 (Nat.le_of_eq hg.symm)) hb); replace HO3 := Aside0.mk (Kd.V_below (Kd.V_elderB (mV HO3) gb252 (Nat.le_of_eq hg.symm)) hb); have BK252 := Aside0.mk hbox; have GW252 := gZ HB hg; have GE252 := gZ HB hg; replace HB := bS HB hb; have NB251_252 := nL BK251 hg; have NB252_251 := nG BK251 hg; replace BK251 := bK BK251 hb; clear hb hbox hg; have hnb77 := NB251_252.out; have hnc77 := NB252_251.out; have hz78 := cl4 BK251) | ((with_reducible refine gate_callee (f := 96) rfl ?_); refine goA (some 13) rfl rfl Try.func96 rfl #[.agg #[.int .i64 a0_0, .slice A0_1 l0_1.length c0_1, .int .i64 a0_2, .slice A0_3 l0_3.length c0_3], .int .i64 a1] rfl ?_; (with_reducible refine (impl_epochFault.calls k a0_0 _ _ l0_1 a0_2 _ _ l0_3 a1 t253 _ ?side1 ?side2 ?side3 ?side4 A5.out).mono ?_); (case side1 => exact mC HR0_1 HB); (case side2 => exact HC0_1.out); (case side3 => repeat (first | exact (Kd.V_reads' HO0_3.out).2.2 | (with_reducible refine Kd.C_alloc ?_ _) | (with_reducible refine Kd.C_drewN ?_ _) | (with_reducible refine Kd.C_drew ?_))); (case side4 => exact (Kd.V_reads' HO0_3.out).2.1); rintro e w79 ⟨rfl, hb⟩; refine ⟨_, rfl, ?_⟩; replace HO0_3 := Aside0.mk (Kd.V_below (mV HO0_3) hb); replace HO3 := Aside0.mk (Kd.V_below (mV HO3) hb); replace BK251 := bK BK251 hb; replace BK252 := bK BK252 hb; replace HB := bS HB hb; (try clear hb); (try clear hb2); (try clear hk); (try clear hi); have hz80 := cl6 BK252))
  refine bodyPost_ret (results_cell_row rfl _ _ gb252 63 #[.int .i64 t253, .slice none 0 0, .int .i64 0, .slice none 0 0, .int .i64 0, .slice none 0 0] (0, 0) _ rfl (mP BK252) Try.underlying63 rfl (by kernel_rfl)) rfl ?_
  exact ⟨_, _, _, by first | rfl | (simp [errW_none, errW_some] <;> rfl) | (simp [*, errW_none, errW_some] <;> rfl), by first | exact Kd.R_nil _ _ _ _ _ | exact Kd.N_nil _ _ _ _ _ | exact Kd.V_nil _ _ _ _ _ | exact Kd.Q_nil _ _ _ _ _ | exact Kd.S_nil _ _ _ _ _, by first | exact Kd.R_nil _ _ _ _ _ | exact Kd.N_nil _ _ _ _ _ | exact Kd.V_nil _ _ _ _ _ | exact Kd.Q_nil _ _ _ _ _ | exact Kd.S_nil _ _ _ _ _, by first | exact Kd.R_nil _ _ _ _ _ | exact Kd.N_nil _ _ _ _ _ | exact Kd.V_nil _ _ _ _ _ | exact Kd.Q_nil _ _ _ _ _ | exact Kd.S_nil _ _ _ _ _, bel HB⟩

end Go.Proofs.Ytgfoifkkffffgab.PFnWires
