-- Laid by a turned copy of the printer (wip/tools/patch_print.py)
import Derived.Test.YtjbeehechclccadPFnExactMessageFaultx0
import Derived.Test.YtjbeehechclccadPFnExactMessageFaultx6
import Derived.Test.YtjbeehechclccadPFnExactMessageFaultx7
import Derived.Test.YtjbeehechclccadPFnExactMessageFaultx8
namespace Go.Proofs.Ytjbeehechclccad.PFnExactMessageFault
open Go.RowKit Go.Proofs.YtjbeehechclccadW.PrintWords Go.Proofs.YtjbeehechclccadW.PrintLast Go.Proofs.YtjbeehechclccadW.PrintMore
attribute [local go_sem] max2_int min2_int max_two min_two max_three min_three max_four min_four   -- for this text's walks alone
set_option linter.unusedVariables false
set_option linter.unusedSimpArgs false

/-! ### impl_MessageFault: function 43 -/
mutual
def impl_MessageFault.j0 : Nat → Bool → Int → Int → Int → Int → Int → Int → List (S139) → Bool → Int → List Int → Int → Int → Int → List (S139) → Option (Int)
  | 0, _, _, _, _, _, _, _, _, _, _, _, _, _, _, _ => none
  | k + 1, x8, x250000, x250001, x250002, x250003, x250004, x250005, x250006, x250007, x250008, x250009, x250010, x250011, x250012, x250013 => if x8 = true then (some 3) else (if x250000 = 3 then ((impl_areReasons.f x250004 x250005).bind fun t254 => (impl_MessageFault.j1 k (!t254) x250000 x250001 x250002 x250003 x250004 x250005 x250006 x250007 x250008 x250009 x250010 x250011 x250012 x250013)) else (impl_MessageFault.j1 k false x250000 x250001 x250002 x250003 x250004 x250005 x250006 x250007 x250008 x250009 x250010 x250011 x250012 x250013))
def impl_MessageFault.j1 : Nat → Bool → Int → Int → Int → Int → Int → Int → List (S139) → Bool → Int → List Int → Int → Int → Int → List (S139) → Option (Int)
  | 0, _, _, _, _, _, _, _, _, _, _, _, _, _, _, _ => none
  | k + 1, x30, x250000, x250001, x250002, x250003, x250004, x250005, x250006, x250007, x250008, x250009, x250010, x250011, x250012, x250013 => if x30 = true then (some 3) else (if x250000 = 1 then (impl_MessageFault.j2 k false x250000 x250001 x250002 x250003 x250004 x250005 x250006 x250007 x250008 x250009 x250010 x250011 x250012 x250013) else (if x250001 = 0 then (if x250002 = 0 then (impl_MessageFault.j2 k (x250003 != 0) x250000 x250001 x250002 x250003 x250004 x250005 x250006 x250007 x250008 x250009 x250010 x250011 x250012 x250013) else (impl_MessageFault.j2 k true x250000 x250001 x250002 x250003 x250004 x250005 x250006 x250007 x250008 x250009 x250010 x250011 x250012 x250013)) else (impl_MessageFault.j2 k true x250000 x250001 x250002 x250003 x250004 x250005 x250006 x250007 x250008 x250009 x250010 x250011 x250012 x250013)))
def impl_MessageFault.j2 : Nat → Bool → Int → Int → Int → Int → Int → Int → List (S139) → Bool → Int → List Int → Int → Int → Int → List (S139) → Option (Int)
  | 0, _, _, _, _, _, _, _, _, _, _, _, _, _, _, _ => none
  | k + 1, x42, x250000, x250001, x250002, x250003, x250004, x250005, x250006, x250007, x250008, x250009, x250010, x250011, x250012, x250013 => if x42 = true then (some 1) else (if x250000 = 3 then (impl_MessageFault.j3 k false x250000 x250001 x250002 x250003 x250004 x250005 x250006 x250007 x250008 x250009 x250010 x250011 x250012 x250013) else (if x250004 = 0 then (impl_MessageFault.j3 k (x250005 != 0) x250000 x250001 x250002 x250003 x250004 x250005 x250006 x250007 x250008 x250009 x250010 x250011 x250012 x250013) else (impl_MessageFault.j3 k true x250000 x250001 x250002 x250003 x250004 x250005 x250006 x250007 x250008 x250009 x250010 x250011 x250012 x250013)))
def impl_MessageFault.j3 : Nat → Bool → Int → Int → Int → Int → Int → Int → List (S139) → Bool → Int → List Int → Int → Int → Int → List (S139) → Option (Int)
  | 0, _, _, _, _, _, _, _, _, _, _, _, _, _, _, _ => none
  | k + 1, x61, x250000, x250001, x250002, x250003, x250004, x250005, x250006, x250007, x250008, x250009, x250010, x250011, x250012, x250013 => if x61 = true then (some 1) else (if x250000 = 2 then ((impl_UpdateFault.f k x250006 x250007 x250008 x250009 x250010 x250011 x250012 x250013).bind fun t255 => (some t255)) else ((impl_Update_isZero.f x250006 x250007 x250008 x250009 x250010 x250011 x250012 x250013).bind fun t256 => (if t256 = true then ((impl_UpdateFault.f k x250006 x250007 x250008 x250009 x250010 x250011 x250012 x250013).bind fun t257 => (some t257)) else (some 1))))
end
def impl_MessageFault.f (k : Nat) (a0_0 : Int) (a0_1 : Int) (a0_2 : Int) (a0_3 : Int) (a0_4 : Int) (a0_5 : Int) (l0_6 : List (S139)) (a0_7 : Bool) (a0_8 : Int) (l0_9 : List Int) (a0_10 : Int) (a0_11 : Int) (a0_12 : Int) (l0_13 : List (S139)) : Option (Int) := (impl_in.f a0_0 1 4).bind fun t250 => (if t250 = true then (if a0_0 = 1 then ((impl_isSystem.f a0_1).bind fun t251 => (if t251 = true then ((impl_isHold.f a0_2).bind fun t252 => (if t252 = true then ((impl_isSystem.f a0_3).bind fun t253 => (impl_MessageFault.j0 k (!t253) a0_0 a0_1 a0_2 a0_3 a0_4 a0_5 l0_6 a0_7 a0_8 l0_9 a0_10 a0_11 a0_12 l0_13)) else (impl_MessageFault.j0 k true a0_0 a0_1 a0_2 a0_3 a0_4 a0_5 l0_6 a0_7 a0_8 l0_9 a0_10 a0_11 a0_12 l0_13))) else (impl_MessageFault.j0 k true a0_0 a0_1 a0_2 a0_3 a0_4 a0_5 l0_6 a0_7 a0_8 l0_9 a0_10 a0_11 a0_12 l0_13))) else (impl_MessageFault.j0 k false a0_0 a0_1 a0_2 a0_3 a0_4 a0_5 l0_6 a0_7 a0_8 l0_9 a0_10 a0_11 a0_12 l0_13)) else (some 1))
theorem impl_MessageFault.mono_l : ∀ k, (∀ y0 y1 y2 y3 y4 y5 y6 y7 y8 y9 y10 y11 y12 y13 y14, LeO (impl_MessageFault.j0 k y0 y1 y2 y3 y4 y5 y6 y7 y8 y9 y10 y11 y12 y13 y14) (impl_MessageFault.j0 (k + 1) y0 y1 y2 y3 y4 y5 y6 y7 y8 y9 y10 y11 y12 y13 y14)) ∧ (∀ y0 y1 y2 y3 y4 y5 y6 y7 y8 y9 y10 y11 y12 y13 y14, LeO (impl_MessageFault.j1 k y0 y1 y2 y3 y4 y5 y6 y7 y8 y9 y10 y11 y12 y13 y14) (impl_MessageFault.j1 (k + 1) y0 y1 y2 y3 y4 y5 y6 y7 y8 y9 y10 y11 y12 y13 y14)) ∧ (∀ y0 y1 y2 y3 y4 y5 y6 y7 y8 y9 y10 y11 y12 y13 y14, LeO (impl_MessageFault.j2 k y0 y1 y2 y3 y4 y5 y6 y7 y8 y9 y10 y11 y12 y13 y14) (impl_MessageFault.j2 (k + 1) y0 y1 y2 y3 y4 y5 y6 y7 y8 y9 y10 y11 y12 y13 y14)) ∧ (∀ y0 y1 y2 y3 y4 y5 y6 y7 y8 y9 y10 y11 y12 y13 y14, LeO (impl_MessageFault.j3 k y0 y1 y2 y3 y4 y5 y6 y7 y8 y9 y10 y11 y12 y13 y14) (impl_MessageFault.j3 (k + 1) y0 y1 y2 y3 y4 y5 y6 y7 y8 y9 y10 y11 y12 y13 y14))
  | 0 => ⟨fun _ _ _ _ _ _ _ _ _ _ _ _ _ _ _ r h => by simp [impl_MessageFault.j0] at h, fun _ _ _ _ _ _ _ _ _ _ _ _ _ _ _ r h => by simp [impl_MessageFault.j1] at h, fun _ _ _ _ _ _ _ _ _ _ _ _ _ _ _ r h => by simp [impl_MessageFault.j2] at h, fun _ _ _ _ _ _ _ _ _ _ _ _ _ _ _ r h => by simp [impl_MessageFault.j3] at h⟩
  | k + 1 => by
    obtain ⟨ih0, ih1, ih2, ih3⟩ := impl_MessageFault.mono_l k
    refine ⟨?_, ?_, ?_, ?_⟩
    · intro y0 y1 y2 y3 y4 y5 y6 y7 y8 y9 y10 y11 y12 y13 y14
      unfold impl_MessageFault.j0
      repeat' first
      | (with_reducible exact ih0 _ _ _ _ _ _ _ _ _ _ _ _ _ _ _)
      | (with_reducible exact ih1 _ _ _ _ _ _ _ _ _ _ _ _ _ _ _)
      | (with_reducible exact ih2 _ _ _ _ _ _ _ _ _ _ _ _ _ _ _)
      | (with_reducible exact ih3 _ _ _ _ _ _ _ _ _ _ _ _ _ _ _)
      | (with_reducible exact impl_UpdateFault.mono _ _ _ _ _ _ _ _ _)
      | (with_reducible exact LeO.refl _)
      | (with_reducible exact LeO.none _)
      | (with_reducible refine LeO.ite ?_ ?_)
      | (with_reducible refine LeO.bind ?_ (fun _ => ?_))
      | exact ih0 _ _ _ _ _ _ _ _ _ _ _ _ _ _ _
      | exact ih1 _ _ _ _ _ _ _ _ _ _ _ _ _ _ _
      | exact ih2 _ _ _ _ _ _ _ _ _ _ _ _ _ _ _
      | exact ih3 _ _ _ _ _ _ _ _ _ _ _ _ _ _ _
      | exact impl_UpdateFault.mono _ _ _ _ _ _ _ _ _
      | exact LeO.none _
      | refine LeO.ite ?_ ?_
      | refine LeO.bind ?_ (fun _ => ?_)
    · intro y0 y1 y2 y3 y4 y5 y6 y7 y8 y9 y10 y11 y12 y13 y14
      unfold impl_MessageFault.j1
      repeat' first
      | (with_reducible exact ih0 _ _ _ _ _ _ _ _ _ _ _ _ _ _ _)
      | (with_reducible exact ih1 _ _ _ _ _ _ _ _ _ _ _ _ _ _ _)
      | (with_reducible exact ih2 _ _ _ _ _ _ _ _ _ _ _ _ _ _ _)
      | (with_reducible exact ih3 _ _ _ _ _ _ _ _ _ _ _ _ _ _ _)
      | (with_reducible exact impl_UpdateFault.mono _ _ _ _ _ _ _ _ _)
      | (with_reducible exact LeO.refl _)
      | (with_reducible exact LeO.none _)
      | (with_reducible refine LeO.ite ?_ ?_)
      | (with_reducible refine LeO.bind ?_ (fun _ => ?_))
      | exact ih0 _ _ _ _ _ _ _ _ _ _ _ _ _ _ _
      | exact ih1 _ _ _ _ _ _ _ _ _ _ _ _ _ _ _
      | exact ih2 _ _ _ _ _ _ _ _ _ _ _ _ _ _ _
      | exact ih3 _ _ _ _ _ _ _ _ _ _ _ _ _ _ _
      | exact impl_UpdateFault.mono _ _ _ _ _ _ _ _ _
      | exact LeO.none _
      | refine LeO.ite ?_ ?_
      | refine LeO.bind ?_ (fun _ => ?_)
    · intro y0 y1 y2 y3 y4 y5 y6 y7 y8 y9 y10 y11 y12 y13 y14
      unfold impl_MessageFault.j2
      repeat' first
      | (with_reducible exact ih0 _ _ _ _ _ _ _ _ _ _ _ _ _ _ _)
      | (with_reducible exact ih1 _ _ _ _ _ _ _ _ _ _ _ _ _ _ _)
      | (with_reducible exact ih2 _ _ _ _ _ _ _ _ _ _ _ _ _ _ _)
      | (with_reducible exact ih3 _ _ _ _ _ _ _ _ _ _ _ _ _ _ _)
      | (with_reducible exact impl_UpdateFault.mono _ _ _ _ _ _ _ _ _)
      | (with_reducible exact LeO.refl _)
      | (with_reducible exact LeO.none _)
      | (with_reducible refine LeO.ite ?_ ?_)
      | (with_reducible refine LeO.bind ?_ (fun _ => ?_))
      | exact ih0 _ _ _ _ _ _ _ _ _ _ _ _ _ _ _
      | exact ih1 _ _ _ _ _ _ _ _ _ _ _ _ _ _ _
      | exact ih2 _ _ _ _ _ _ _ _ _ _ _ _ _ _ _
      | exact ih3 _ _ _ _ _ _ _ _ _ _ _ _ _ _ _
      | exact impl_UpdateFault.mono _ _ _ _ _ _ _ _ _
      | exact LeO.none _
      | refine LeO.ite ?_ ?_
      | refine LeO.bind ?_ (fun _ => ?_)
    · intro y0 y1 y2 y3 y4 y5 y6 y7 y8 y9 y10 y11 y12 y13 y14
      unfold impl_MessageFault.j3
      repeat' first
      | (with_reducible exact ih0 _ _ _ _ _ _ _ _ _ _ _ _ _ _ _)
      | (with_reducible exact ih1 _ _ _ _ _ _ _ _ _ _ _ _ _ _ _)
      | (with_reducible exact ih2 _ _ _ _ _ _ _ _ _ _ _ _ _ _ _)
      | (with_reducible exact ih3 _ _ _ _ _ _ _ _ _ _ _ _ _ _ _)
      | (with_reducible exact impl_UpdateFault.mono _ _ _ _ _ _ _ _ _)
      | (with_reducible exact LeO.refl _)
      | (with_reducible exact LeO.none _)
      | (with_reducible refine LeO.ite ?_ ?_)
      | (with_reducible refine LeO.bind ?_ (fun _ => ?_))
      | exact ih0 _ _ _ _ _ _ _ _ _ _ _ _ _ _ _
      | exact ih1 _ _ _ _ _ _ _ _ _ _ _ _ _ _ _
      | exact ih2 _ _ _ _ _ _ _ _ _ _ _ _ _ _ _
      | exact ih3 _ _ _ _ _ _ _ _ _ _ _ _ _ _ _
      | exact impl_UpdateFault.mono _ _ _ _ _ _ _ _ _
      | exact LeO.none _
      | refine LeO.ite ?_ ?_
      | refine LeO.bind ?_ (fun _ => ?_)
theorem impl_MessageFault.mono : ∀ a0 a1 a2 a3 a4 a5 a6 a7 a8 a9 a10 a11 a12 a13 k, LeO (impl_MessageFault.f k a0 a1 a2 a3 a4 a5 a6 a7 a8 a9 a10 a11 a12 a13) (impl_MessageFault.f (k + 1) a0 a1 a2 a3 a4 a5 a6 a7 a8 a9 a10 a11 a12 a13) := by
  intro a0 a1 a2 a3 a4 a5 a6 a7 a8 a9 a10 a11 a12 a13 k
  obtain ⟨ih0, ih1, ih2, ih3⟩ := impl_MessageFault.mono_l k
  unfold impl_MessageFault.f
  repeat' first
      | (with_reducible exact ih0 _ _ _ _ _ _ _ _ _ _ _ _ _ _ _)
      | (with_reducible exact ih1 _ _ _ _ _ _ _ _ _ _ _ _ _ _ _)
      | (with_reducible exact ih2 _ _ _ _ _ _ _ _ _ _ _ _ _ _ _)
      | (with_reducible exact ih3 _ _ _ _ _ _ _ _ _ _ _ _ _ _ _)
      | (with_reducible exact impl_UpdateFault.mono _ _ _ _ _ _ _ _ _)
      | (with_reducible exact LeO.refl _)
      | (with_reducible exact LeO.none _)
      | (with_reducible refine LeO.ite ?_ ?_)
      | (with_reducible refine LeO.bind ?_ (fun _ => ?_))
      | exact ih0 _ _ _ _ _ _ _ _ _ _ _ _ _ _ _
      | exact ih1 _ _ _ _ _ _ _ _ _ _ _ _ _ _ _
      | exact ih2 _ _ _ _ _ _ _ _ _ _ _ _ _ _ _
      | exact ih3 _ _ _ _ _ _ _ _ _ _ _ _ _ _ _
      | exact impl_UpdateFault.mono _ _ _ _ _ _ _ _ _
      | exact LeO.none _
      | refine LeO.ite ?_ ?_
      | refine LeO.bind ?_ (fun _ => ?_)
set_option maxHeartbeats 8000000 in
set_option maxRecDepth 100000 in
theorem impl_MessageFault.calls (k : Nat) (a0_0 : Int) (a0_1 : Int) (a0_2 : Int) (a0_3 : Int) (a0_4 : Int) (a0_5 : Int) (A0_6 : Option Addr) (c0_6 : Nat) (l0_6 : List (S139)) (a0_7 : Bool) (a0_8 : Int) (A0_9 : Option Addr) (c0_9 : Nat) (l0_9 : List Int) (a0_10 : Int) (a0_11 : Int) (a0_12 : Int) (A0_13 : Option Addr) (c0_13 : Nat) (l0_13 : List (S139)) (r : Int) (w : World) (hr0_6 : Kd.C k139 w A0_6 l0_6.length l0_6) (hc0_6 : l0_6.length ≤ c0_6) (hr0_9 : Kd.C (Kd.int .i64) w A0_9 l0_9.length l0_9) (hc0_9 : l0_9.length ≤ c0_9) (hr0_13 : Kd.C k139 w A0_13 l0_13.length l0_13) (hc0_13 : l0_13.length ≤ c0_13) (h : impl_MessageFault.f k a0_0 a0_1 a0_2 a0_3 a0_4 a0_5 l0_6 a0_7 a0_8 l0_9 a0_10 a0_11 a0_12 l0_13 = some r) :
    Calls Try.prog 43 #[.agg #[.int .i64 a0_0, .int .i64 a0_1, .int .i64 a0_2, .int .i64 a0_3, .int .i64 a0_4, .int .i64 a0_5, .slice A0_6 l0_6.length c0_6, .bool a0_7, .int .i64 a0_8, .slice A0_9 l0_9.length c0_9, .int .i64 a0_10, .int .i64 a0_11, .int .i64 a0_12, .slice A0_13 l0_13.length c0_13]] w fun e w' => e = .returned (.int .i64 r) ∧ Below w.heap.size w w' := by
  have hu84 := Try.underlying84
  have hu75 := Try.underlying75
  have HR0_6 := Aside0.mk hr0_6
  have HC0_6 := Aside0.mk hc0_6
  clear hr0_6 hc0_6
  have HR0_9 := Aside0.mk hr0_9
  have HC0_9 := Aside0.mk hc0_9
  clear hr0_9 hc0_9
  have HR0_13 := Aside0.mk hr0_13
  have HC0_13 := Aside0.mk hc0_13
  clear hr0_13 hc0_13
  have HB := Aside0.mk (Below.refl w.heap.size w)
  have H : ((impl_in.f a0_0 1 4).bind fun t250 => (if t250 = true then (if a0_0 = 1 then ((impl_isSystem.f a0_1).bind fun t251 => (if t251 = true then ((impl_isHold.f a0_2).bind fun t252 => (if t252 = true then ((impl_isSystem.f a0_3).bind fun t253 => (impl_MessageFault.j0 k (!t253) a0_0 a0_1 a0_2 a0_3 a0_4 a0_5 l0_6 a0_7 a0_8 l0_9 a0_10 a0_11 a0_12 l0_13)) else (impl_MessageFault.j0 k true a0_0 a0_1 a0_2 a0_3 a0_4 a0_5 l0_6 a0_7 a0_8 l0_9 a0_10 a0_11 a0_12 l0_13))) else (impl_MessageFault.j0 k true a0_0 a0_1 a0_2 a0_3 a0_4 a0_5 l0_6 a0_7 a0_8 l0_9 a0_10 a0_11 a0_12 l0_13))) else (impl_MessageFault.j0 k false a0_0 a0_1 a0_2 a0_3 a0_4 a0_5 l0_6 a0_7 a0_8 l0_9 a0_10 a0_11 a0_12 l0_13)) else (some 1))) = some r := h
  clear h
  replace H := Option.bind_eq_some_iff.mp H
  obtain ⟨t250, A20, H⟩ := H
  replace H : (if t250 = true then (if a0_0 = 1 then ((impl_isSystem.f a0_1).bind fun t251 => (if t251 = true then ((impl_isHold.f a0_2).bind fun t252 => (if t252 = true then ((impl_isSystem.f a0_3).bind fun t253 => (impl_MessageFault.j0 k (!t253) a0_0 a0_1 a0_2 a0_3 a0_4 a0_5 l0_6 a0_7 a0_8 l0_9 a0_10 a0_11 a0_12 l0_13)) else (impl_MessageFault.j0 k true a0_0 a0_1 a0_2 a0_3 a0_4 a0_5 l0_6 a0_7 a0_8 l0_9 a0_10 a0_11 a0_12 l0_13))) else (impl_MessageFault.j0 k true a0_0 a0_1 a0_2 a0_3 a0_4 a0_5 l0_6 a0_7 a0_8 l0_9 a0_10 a0_11 a0_12 l0_13))) else (impl_MessageFault.j0 k false a0_0 a0_1 a0_2 a0_3 a0_4 a0_5 l0_6 a0_7 a0_8 l0_9 a0_10 a0_11 a0_12 l0_13)) else (some 1)) = some r := H
  have A2 := Aside0.mk A20
  clear A20
  by_cases c3 : t250 = true
  · subst c3
    have H1 : (if a0_0 = 1 then ((impl_isSystem.f a0_1).bind fun t251 => (if t251 = true then ((impl_isHold.f a0_2).bind fun t252 => (if t252 = true then ((impl_isSystem.f a0_3).bind fun t253 => (impl_MessageFault.j0 k (!t253) a0_0 a0_1 a0_2 a0_3 a0_4 a0_5 l0_6 a0_7 a0_8 l0_9 a0_10 a0_11 a0_12 l0_13)) else (impl_MessageFault.j0 k true a0_0 a0_1 a0_2 a0_3 a0_4 a0_5 l0_6 a0_7 a0_8 l0_9 a0_10 a0_11 a0_12 l0_13))) else (impl_MessageFault.j0 k true a0_0 a0_1 a0_2 a0_3 a0_4 a0_5 l0_6 a0_7 a0_8 l0_9 a0_10 a0_11 a0_12 l0_13))) else (impl_MessageFault.j0 k false a0_0 a0_1 a0_2 a0_3 a0_4 a0_5 l0_6 a0_7 a0_8 l0_9 a0_10 a0_11 a0_12 l0_13)) = some r := by rw [if_pos rfl] at H; first | done | exact H
    clear H
    have H := H1
    clear H1
    have HC4 := Aside0.mk H
    clear H
    go_enter Try.func43, Try.ntmps43
    go_upto_region 3 with (first | ((with_reducible refine gate_dst (N := 1) rfl ?_); refine box_event ?hg (N := 1) ?hd (cs := #[.int .i64 a0_0, .int .i64 a0_1, .int .i64 a0_2, .int .i64 a0_3, .int .i64 a0_4, .int .i64 a0_5, .slice A0_6 l0_6.length c0_6, .bool a0_7, .int .i64 a0_8, .slice A0_9 l0_9.length c0_9, .int .i64 a0_10, .int .i64 a0_11, .int .i64 a0_12, .slice A0_13 l0_13.length c0_13]) (t := 84) ?hr ?_; (case hd => rfl); (case hg => rfl); (case hr => first | (go_simp; done) | (go_simp; rfl)); intro gb249 hg w5 hbox hb; have n0_ := Aside0.mk (below_step (by repeat (first | (with_reducible first | exact HB.out | apply below_alloc | apply pw_below_drewN | apply below_drew1) | exact HB.out)) hb); have n1_ := Aside0.mk (hbox); have n2_ := Aside0.mk ((by rw [hg]; exact (below_size (by repeat (first | (with_reducible first | exact HB.out | apply below_alloc | apply pw_below_drewN | apply below_drew1) | exact HB.out))) : w.heap.size ≤ gb249)); have n3_ := Aside0.mk ((by rw [hg]; exact (below_size (by repeat (first | (with_reducible first | exact HB.out | apply below_alloc | apply pw_below_drewN | apply below_drew1) | exact HB.out))) : w.heap.size ≤ gb249)); clear HB; have HB := n0_; have BK249 := n1_; have GW249 := n2_; have GE249 := n3_; clear n0_ n1_ n2_ n3_; clear hb hbox hg; have hcz6_0 : w5.cell? ⟨gb249, 0, none⟩ = some (.int .i64 a0_0) := (blk_cell BK249.out 0).trans rfl; have hcz6_1 : w5.cell? ⟨gb249, 1, none⟩ = some (.int .i64 a0_1) := (blk_cell BK249.out 1).trans rfl; have hcz6_2 : w5.cell? ⟨gb249, 2, none⟩ = some (.int .i64 a0_2) := (blk_cell BK249.out 2).trans rfl; have hcz6_3 : w5.cell? ⟨gb249, 3, none⟩ = some (.int .i64 a0_3) := (blk_cell BK249.out 3).trans rfl; have hcz6_4 : w5.cell? ⟨gb249, 4, none⟩ = some (.int .i64 a0_4) := (blk_cell BK249.out 4).trans rfl; have hcz6_5 : w5.cell? ⟨gb249, 5, none⟩ = some (.int .i64 a0_5) := (blk_cell BK249.out 5).trans rfl; have hcz6_6 : w5.cell? ⟨gb249, 6, none⟩ = some (.slice A0_6 l0_6.length c0_6) := (blk_cell BK249.out 6).trans rfl; have hcz6_7 : w5.cell? ⟨gb249, 7, none⟩ = some (.bool a0_7) := (blk_cell BK249.out 7).trans rfl; have hcz6_8 : w5.cell? ⟨gb249, 8, none⟩ = some (.int .i64 a0_8) := (blk_cell BK249.out 8).trans rfl; have hcz6_9 : w5.cell? ⟨gb249, 9, none⟩ = some (.slice A0_9 l0_9.length c0_9) := (blk_cell BK249.out 9).trans rfl; have hcz6_10 : w5.cell? ⟨gb249, 10, none⟩ = some (.int .i64 a0_10) := (blk_cell BK249.out 10).trans rfl; have hcz6_11 : w5.cell? ⟨gb249, 11, none⟩ = some (.int .i64 a0_11) := (blk_cell BK249.out 11).trans rfl; have hcz6_12 : w5.cell? ⟨gb249, 12, none⟩ = some (.int .i64 a0_12) := (blk_cell BK249.out 12).trans rfl; have hcz6_13 : w5.cell? ⟨gb249, 13, none⟩ = some (.slice A0_13 l0_13.length c0_13) := (blk_cell BK249.out 13).trans rfl; have hfz6_0 := blk_frozen BK249.out 0; have hfz6_1 := blk_frozen BK249.out 1; have hfz6_2 := blk_frozen BK249.out 2; have hfz6_3 := blk_frozen BK249.out 3; have hfz6_4 := blk_frozen BK249.out 4; have hfz6_5 := blk_frozen BK249.out 5; have hfz6_6 := blk_frozen BK249.out 6; have hfz6_7 := blk_frozen BK249.out 7; have hfz6_8 := blk_frozen BK249.out 8; have hfz6_9 := blk_frozen BK249.out 9; have hfz6_10 := blk_frozen BK249.out 10; have hfz6_11 := blk_frozen BK249.out 11; have hfz6_12 := blk_frozen BK249.out 12; have hfz6_13 := blk_frozen BK249.out 13) | ((with_reducible refine gate_callee (f := 74) rfl ?_); refine goesL_ (some 6) rfl rfl Try.func74 (by kernel_rfl) rfl #[.int .i64 a0_0, .int .i64 1, .int .i64 4] rfl (by (try simp only [List.map_toArray, List.map_cons, List.map_nil]); first | done | rfl | (simp only [List.length_drop, List.length_take]; rfl)) ?_; (with_reducible refine (impl_in.calls a0_0 1 4 true _ A2.out).mono ?_); rintro e w' ⟨rfl, ⟨nd, rfl⟩⟩; refine ⟨_, rfl, ?_⟩))
    (try simp only [Act.put, List.setIfInBounds_toArray, List.set_cons_zero, List.set_cons_succ])
    go_cut [8] (fun v8 wc => ∃ (kq : Nat) (x8_3 : Bool), v8 = .bool x8_3 ∧ Aside0 (impl_MessageFault.j0 kq x8_3 a0_0 a0_1 a0_2 a0_3 a0_4 a0_5 l0_6 a0_7 a0_8 l0_9 a0_10 a0_11 a0_12 l0_13 = some r) ∧ Aside0 (kq ≤ k) ∧ Aside0 (wc.heap[gb249]? = some (.cells #[.int .i64 a0_0, .int .i64 a0_1, .int .i64 a0_2, .int .i64 a0_3, .int .i64 a0_4, .int .i64 a0_5, (.slice A0_6 l0_6.length c0_6), .bool a0_7, .int .i64 a0_8, (.slice A0_9 l0_9.length c0_9), .int .i64 a0_10, .int .i64 a0_11, .int .i64 a0_12, (.slice A0_13 l0_13.length c0_13)] 84 (0, 0))) ∧ Aside0 (Below w.heap.size w wc))
    case first =>
      have H := HC4.out
      clear HC4
      by_cases c7 : a0_0 = 1
      · rw [if_pos c7] at H
        have c7b0 : (a0_0 == 1) = true := beq_iff_eq.mpr c7
        have c7b1 : (a0_0 != 1) = false := bne_eq_false_iff_eq.mpr c7
        clear c7
        (first | rw [c7b0] | (simp only [i64_w, i32_w]; rw [c7b0]) | skip)
        replace H := Option.bind_eq_some_iff.mp H
        obtain ⟨t251, A80, H⟩ := H
        replace H : (if t251 = true then ((impl_isHold.f a0_2).bind fun t252 => (if t252 = true then ((impl_isSystem.f a0_3).bind fun t253 => (impl_MessageFault.j0 k (!t253) a0_0 a0_1 a0_2 a0_3 a0_4 a0_5 l0_6 a0_7 a0_8 l0_9 a0_10 a0_11 a0_12 l0_13)) else (impl_MessageFault.j0 k true a0_0 a0_1 a0_2 a0_3 a0_4 a0_5 l0_6 a0_7 a0_8 l0_9 a0_10 a0_11 a0_12 l0_13))) else (impl_MessageFault.j0 k true a0_0 a0_1 a0_2 a0_3 a0_4 a0_5 l0_6 a0_7 a0_8 l0_9 a0_10 a0_11 a0_12 l0_13)) = some r := H
        have A8 := Aside0.mk A80
        clear A80
        by_cases c9 : t251 = true
        · subst c9
          have H1 : ((impl_isHold.f a0_2).bind fun t252 => (if t252 = true then ((impl_isSystem.f a0_3).bind fun t253 => (impl_MessageFault.j0 k (!t253) a0_0 a0_1 a0_2 a0_3 a0_4 a0_5 l0_6 a0_7 a0_8 l0_9 a0_10 a0_11 a0_12 l0_13)) else (impl_MessageFault.j0 k true a0_0 a0_1 a0_2 a0_3 a0_4 a0_5 l0_6 a0_7 a0_8 l0_9 a0_10 a0_11 a0_12 l0_13))) = some r := by rw [if_pos rfl] at H; first | done | exact H
          clear H
          have H := H1
          clear H1
          replace H := Option.bind_eq_some_iff.mp H
          obtain ⟨t252, A100, H⟩ := H
          replace H : (if t252 = true then ((impl_isSystem.f a0_3).bind fun t253 => (impl_MessageFault.j0 k (!t253) a0_0 a0_1 a0_2 a0_3 a0_4 a0_5 l0_6 a0_7 a0_8 l0_9 a0_10 a0_11 a0_12 l0_13)) else (impl_MessageFault.j0 k true a0_0 a0_1 a0_2 a0_3 a0_4 a0_5 l0_6 a0_7 a0_8 l0_9 a0_10 a0_11 a0_12 l0_13)) = some r := H
          have A10 := Aside0.mk A100
          clear A100
          by_cases c11 : t252 = true
          · subst c11
            have H1 : ((impl_isSystem.f a0_3).bind fun t253 => (impl_MessageFault.j0 k (!t253) a0_0 a0_1 a0_2 a0_3 a0_4 a0_5 l0_6 a0_7 a0_8 l0_9 a0_10 a0_11 a0_12 l0_13)) = some r := by rw [if_pos rfl] at H; first | done | exact H
            clear H
            have H := H1
            clear H1
            replace H := Option.bind_eq_some_iff.mp H
            obtain ⟨t253, A120, H⟩ := H
            replace H : (impl_MessageFault.j0 k (!t253) a0_0 a0_1 a0_2 a0_3 a0_4 a0_5 l0_6 a0_7 a0_8 l0_9 a0_10 a0_11 a0_12 l0_13) = some r := H
            have A12 := Aside0.mk A120
            clear A120
            have H' := Aside0.mk H
            clear H
            have hcz13_0 : w5.cell? ⟨gb249, 0, none⟩ = some (.int .i64 a0_0) := (blk_cell BK249.out 0).trans rfl
            have hcz13_1 : w5.cell? ⟨gb249, 1, none⟩ = some (.int .i64 a0_1) := (blk_cell BK249.out 1).trans rfl
            have hcz13_2 : w5.cell? ⟨gb249, 2, none⟩ = some (.int .i64 a0_2) := (blk_cell BK249.out 2).trans rfl
            have hcz13_3 : w5.cell? ⟨gb249, 3, none⟩ = some (.int .i64 a0_3) := (blk_cell BK249.out 3).trans rfl
            have hcz13_4 : w5.cell? ⟨gb249, 4, none⟩ = some (.int .i64 a0_4) := (blk_cell BK249.out 4).trans rfl
            have hcz13_5 : w5.cell? ⟨gb249, 5, none⟩ = some (.int .i64 a0_5) := (blk_cell BK249.out 5).trans rfl
            have hcz13_6 : w5.cell? ⟨gb249, 6, none⟩ = some (.slice A0_6 l0_6.length c0_6) := (blk_cell BK249.out 6).trans rfl
            have hcz13_7 : w5.cell? ⟨gb249, 7, none⟩ = some (.bool a0_7) := (blk_cell BK249.out 7).trans rfl
            have hcz13_8 : w5.cell? ⟨gb249, 8, none⟩ = some (.int .i64 a0_8) := (blk_cell BK249.out 8).trans rfl
            have hcz13_9 : w5.cell? ⟨gb249, 9, none⟩ = some (.slice A0_9 l0_9.length c0_9) := (blk_cell BK249.out 9).trans rfl
            have hcz13_10 : w5.cell? ⟨gb249, 10, none⟩ = some (.int .i64 a0_10) := (blk_cell BK249.out 10).trans rfl
            have hcz13_11 : w5.cell? ⟨gb249, 11, none⟩ = some (.int .i64 a0_11) := (blk_cell BK249.out 11).trans rfl
            have hcz13_12 : w5.cell? ⟨gb249, 12, none⟩ = some (.int .i64 a0_12) := (blk_cell BK249.out 12).trans rfl
            have hcz13_13 : w5.cell? ⟨gb249, 13, none⟩ = some (.slice A0_13 l0_13.length c0_13) := (blk_cell BK249.out 13).trans rfl
            have hfz13_0 := blk_frozen BK249.out 0
            have hfz13_1 := blk_frozen BK249.out 1
            have hfz13_2 := blk_frozen BK249.out 2
            have hfz13_3 := blk_frozen BK249.out 3
            have hfz13_4 := blk_frozen BK249.out 4
            have hfz13_5 := blk_frozen BK249.out 5
            have hfz13_6 := blk_frozen BK249.out 6
            have hfz13_7 := blk_frozen BK249.out 7
            have hfz13_8 := blk_frozen BK249.out 8
            have hfz13_9 := blk_frozen BK249.out 9
            have hfz13_10 := blk_frozen BK249.out 10
            have hfz13_11 := blk_frozen BK249.out 11
            have hfz13_12 := blk_frozen BK249.out 12
            have hfz13_13 := blk_frozen BK249.out 13
            go_wp2_with (first | (go_at_call 105; (with_reducible refine (impl_isSystem.calls a0_1 true _ A8.out).mono ?_); rintro e w' ⟨rfl, ⟨nd, rfl⟩⟩) | (go_at_call 106; (with_reducible refine (impl_isHold.calls a0_2 true _ A10.out).mono ?_); rintro e w' ⟨rfl, ⟨nd, rfl⟩⟩) | (go_at_call 105; (with_reducible refine (impl_isSystem.calls a0_3 t253 _ A12.out).mono ?_); rintro e w' ⟨rfl, ⟨nd, rfl⟩⟩))
            go_meet
            case rel => exact ⟨_, (!t253), (by first | rfl | (simp; done) | (simp [*]; done)), H', ⟨by first | omega | exact Nat.le_refl _⟩, ⟨by (with_reducible repeat (first | refine blk_drewN ?_ _ | refine blk_drew ?_ | refine blk_alloc ?_ _)); exact BK249.out⟩, ⟨by repeat (first | (with_reducible first | exact HB.out | apply below_alloc | apply pw_below_drewN | apply below_drew1 | refine below_set ?_ GE249.out) | exact HB.out)⟩⟩
          · replace c11 := Bool.eq_false_iff.mpr c11
            subst c11
            have H1 : (impl_MessageFault.j0 k true a0_0 a0_1 a0_2 a0_3 a0_4 a0_5 l0_6 a0_7 a0_8 l0_9 a0_10 a0_11 a0_12 l0_13) = some r := by rw [if_neg (show ¬ (false = true) by decide)] at H; first | done | exact H
            clear H
            have H := H1
            clear H1
            have H' := Aside0.mk H
            clear H
            have hcz14_0 : w5.cell? ⟨gb249, 0, none⟩ = some (.int .i64 a0_0) := (blk_cell BK249.out 0).trans rfl
            have hcz14_1 : w5.cell? ⟨gb249, 1, none⟩ = some (.int .i64 a0_1) := (blk_cell BK249.out 1).trans rfl
            have hcz14_2 : w5.cell? ⟨gb249, 2, none⟩ = some (.int .i64 a0_2) := (blk_cell BK249.out 2).trans rfl
            have hcz14_3 : w5.cell? ⟨gb249, 3, none⟩ = some (.int .i64 a0_3) := (blk_cell BK249.out 3).trans rfl
            have hcz14_4 : w5.cell? ⟨gb249, 4, none⟩ = some (.int .i64 a0_4) := (blk_cell BK249.out 4).trans rfl
            have hcz14_5 : w5.cell? ⟨gb249, 5, none⟩ = some (.int .i64 a0_5) := (blk_cell BK249.out 5).trans rfl
            have hcz14_6 : w5.cell? ⟨gb249, 6, none⟩ = some (.slice A0_6 l0_6.length c0_6) := (blk_cell BK249.out 6).trans rfl
            have hcz14_7 : w5.cell? ⟨gb249, 7, none⟩ = some (.bool a0_7) := (blk_cell BK249.out 7).trans rfl
            have hcz14_8 : w5.cell? ⟨gb249, 8, none⟩ = some (.int .i64 a0_8) := (blk_cell BK249.out 8).trans rfl
            have hcz14_9 : w5.cell? ⟨gb249, 9, none⟩ = some (.slice A0_9 l0_9.length c0_9) := (blk_cell BK249.out 9).trans rfl
            have hcz14_10 : w5.cell? ⟨gb249, 10, none⟩ = some (.int .i64 a0_10) := (blk_cell BK249.out 10).trans rfl
            have hcz14_11 : w5.cell? ⟨gb249, 11, none⟩ = some (.int .i64 a0_11) := (blk_cell BK249.out 11).trans rfl
            have hcz14_12 : w5.cell? ⟨gb249, 12, none⟩ = some (.int .i64 a0_12) := (blk_cell BK249.out 12).trans rfl
            have hcz14_13 : w5.cell? ⟨gb249, 13, none⟩ = some (.slice A0_13 l0_13.length c0_13) := (blk_cell BK249.out 13).trans rfl
            have hfz14_0 := blk_frozen BK249.out 0
            have hfz14_1 := blk_frozen BK249.out 1
            have hfz14_2 := blk_frozen BK249.out 2
            have hfz14_3 := blk_frozen BK249.out 3
            have hfz14_4 := blk_frozen BK249.out 4
            have hfz14_5 := blk_frozen BK249.out 5
            have hfz14_6 := blk_frozen BK249.out 6
            have hfz14_7 := blk_frozen BK249.out 7
            have hfz14_8 := blk_frozen BK249.out 8
            have hfz14_9 := blk_frozen BK249.out 9
            have hfz14_10 := blk_frozen BK249.out 10
            have hfz14_11 := blk_frozen BK249.out 11
            have hfz14_12 := blk_frozen BK249.out 12
            have hfz14_13 := blk_frozen BK249.out 13
            go_wp2_with (first | (go_at_call 105; (with_reducible refine (impl_isSystem.calls a0_1 true _ A8.out).mono ?_); rintro e w' ⟨rfl, ⟨nd, rfl⟩⟩) | (go_at_call 106; (with_reducible refine (impl_isHold.calls a0_2 false _ A10.out).mono ?_); rintro e w' ⟨rfl, ⟨nd, rfl⟩⟩))
            go_meet
            case rel => exact ⟨_, (true), (by first | rfl | (simp; done) | (simp [*]; done)), H', ⟨by first | omega | exact Nat.le_refl _⟩, ⟨by (with_reducible repeat (first | refine blk_drewN ?_ _ | refine blk_drew ?_ | refine blk_alloc ?_ _)); exact BK249.out⟩, ⟨by repeat (first | (with_reducible first | exact HB.out | apply below_alloc | apply pw_below_drewN | apply below_drew1 | refine below_set ?_ GE249.out) | exact HB.out)⟩⟩
        · replace c9 := Bool.eq_false_iff.mpr c9
          subst c9
          have H1 : (impl_MessageFault.j0 k true a0_0 a0_1 a0_2 a0_3 a0_4 a0_5 l0_6 a0_7 a0_8 l0_9 a0_10 a0_11 a0_12 l0_13) = some r := by rw [if_neg (show ¬ (false = true) by decide)] at H; first | done | exact H
          clear H
          have H := H1
          clear H1
          have H' := Aside0.mk H
          clear H
          have hcz15_0 : w5.cell? ⟨gb249, 0, none⟩ = some (.int .i64 a0_0) := (blk_cell BK249.out 0).trans rfl
          have hcz15_1 : w5.cell? ⟨gb249, 1, none⟩ = some (.int .i64 a0_1) := (blk_cell BK249.out 1).trans rfl
          have hcz15_2 : w5.cell? ⟨gb249, 2, none⟩ = some (.int .i64 a0_2) := (blk_cell BK249.out 2).trans rfl
          have hcz15_3 : w5.cell? ⟨gb249, 3, none⟩ = some (.int .i64 a0_3) := (blk_cell BK249.out 3).trans rfl
          have hcz15_4 : w5.cell? ⟨gb249, 4, none⟩ = some (.int .i64 a0_4) := (blk_cell BK249.out 4).trans rfl
          have hcz15_5 : w5.cell? ⟨gb249, 5, none⟩ = some (.int .i64 a0_5) := (blk_cell BK249.out 5).trans rfl
          have hcz15_6 : w5.cell? ⟨gb249, 6, none⟩ = some (.slice A0_6 l0_6.length c0_6) := (blk_cell BK249.out 6).trans rfl
          have hcz15_7 : w5.cell? ⟨gb249, 7, none⟩ = some (.bool a0_7) := (blk_cell BK249.out 7).trans rfl
          have hcz15_8 : w5.cell? ⟨gb249, 8, none⟩ = some (.int .i64 a0_8) := (blk_cell BK249.out 8).trans rfl
          have hcz15_9 : w5.cell? ⟨gb249, 9, none⟩ = some (.slice A0_9 l0_9.length c0_9) := (blk_cell BK249.out 9).trans rfl
          have hcz15_10 : w5.cell? ⟨gb249, 10, none⟩ = some (.int .i64 a0_10) := (blk_cell BK249.out 10).trans rfl
          have hcz15_11 : w5.cell? ⟨gb249, 11, none⟩ = some (.int .i64 a0_11) := (blk_cell BK249.out 11).trans rfl
          have hcz15_12 : w5.cell? ⟨gb249, 12, none⟩ = some (.int .i64 a0_12) := (blk_cell BK249.out 12).trans rfl
          have hcz15_13 : w5.cell? ⟨gb249, 13, none⟩ = some (.slice A0_13 l0_13.length c0_13) := (blk_cell BK249.out 13).trans rfl
          have hfz15_0 := blk_frozen BK249.out 0
          have hfz15_1 := blk_frozen BK249.out 1
          have hfz15_2 := blk_frozen BK249.out 2
          have hfz15_3 := blk_frozen BK249.out 3
          have hfz15_4 := blk_frozen BK249.out 4
          have hfz15_5 := blk_frozen BK249.out 5
          have hfz15_6 := blk_frozen BK249.out 6
          have hfz15_7 := blk_frozen BK249.out 7
          have hfz15_8 := blk_frozen BK249.out 8
          have hfz15_9 := blk_frozen BK249.out 9
          have hfz15_10 := blk_frozen BK249.out 10
          have hfz15_11 := blk_frozen BK249.out 11
          have hfz15_12 := blk_frozen BK249.out 12
          have hfz15_13 := blk_frozen BK249.out 13
          go_wp2_with (first | (go_at_call 105; (with_reducible refine (impl_isSystem.calls a0_1 false _ A8.out).mono ?_); rintro e w' ⟨rfl, ⟨nd, rfl⟩⟩))
          go_meet
          case rel => exact ⟨_, (true), (by first | rfl | (simp; done) | (simp [*]; done)), H', ⟨by first | omega | exact Nat.le_refl _⟩, ⟨by (with_reducible repeat (first | refine blk_drewN ?_ _ | refine blk_drew ?_ | refine blk_alloc ?_ _)); exact BK249.out⟩, ⟨by repeat (first | (with_reducible first | exact HB.out | apply below_alloc | apply pw_below_drewN | apply below_drew1 | refine below_set ?_ GE249.out) | exact HB.out)⟩⟩
      · rw [if_neg c7] at H
        have c7b0 : (a0_0 == 1) = false := beq_eq_false_iff_ne.mpr c7
        have c7b1 : (a0_0 != 1) = true := bne_iff_ne.mpr c7
        (first | rw [c7b0] | (simp only [i64_w, i32_w]; rw [c7b0]) | skip)
        have H' := Aside0.mk H
        clear H
        have hcz16_0 : w5.cell? ⟨gb249, 0, none⟩ = some (.int .i64 a0_0) := (blk_cell BK249.out 0).trans rfl
        have hcz16_1 : w5.cell? ⟨gb249, 1, none⟩ = some (.int .i64 a0_1) := (blk_cell BK249.out 1).trans rfl
        have hcz16_2 : w5.cell? ⟨gb249, 2, none⟩ = some (.int .i64 a0_2) := (blk_cell BK249.out 2).trans rfl
        have hcz16_3 : w5.cell? ⟨gb249, 3, none⟩ = some (.int .i64 a0_3) := (blk_cell BK249.out 3).trans rfl
        have hcz16_4 : w5.cell? ⟨gb249, 4, none⟩ = some (.int .i64 a0_4) := (blk_cell BK249.out 4).trans rfl
        have hcz16_5 : w5.cell? ⟨gb249, 5, none⟩ = some (.int .i64 a0_5) := (blk_cell BK249.out 5).trans rfl
        have hcz16_6 : w5.cell? ⟨gb249, 6, none⟩ = some (.slice A0_6 l0_6.length c0_6) := (blk_cell BK249.out 6).trans rfl
        have hcz16_7 : w5.cell? ⟨gb249, 7, none⟩ = some (.bool a0_7) := (blk_cell BK249.out 7).trans rfl
        have hcz16_8 : w5.cell? ⟨gb249, 8, none⟩ = some (.int .i64 a0_8) := (blk_cell BK249.out 8).trans rfl
        have hcz16_9 : w5.cell? ⟨gb249, 9, none⟩ = some (.slice A0_9 l0_9.length c0_9) := (blk_cell BK249.out 9).trans rfl
        have hcz16_10 : w5.cell? ⟨gb249, 10, none⟩ = some (.int .i64 a0_10) := (blk_cell BK249.out 10).trans rfl
        have hcz16_11 : w5.cell? ⟨gb249, 11, none⟩ = some (.int .i64 a0_11) := (blk_cell BK249.out 11).trans rfl
        have hcz16_12 : w5.cell? ⟨gb249, 12, none⟩ = some (.int .i64 a0_12) := (blk_cell BK249.out 12).trans rfl
        have hcz16_13 : w5.cell? ⟨gb249, 13, none⟩ = some (.slice A0_13 l0_13.length c0_13) := (blk_cell BK249.out 13).trans rfl
        have hfz16_0 := blk_frozen BK249.out 0
        have hfz16_1 := blk_frozen BK249.out 1
        have hfz16_2 := blk_frozen BK249.out 2
        have hfz16_3 := blk_frozen BK249.out 3
        have hfz16_4 := blk_frozen BK249.out 4
        have hfz16_5 := blk_frozen BK249.out 5
        have hfz16_6 := blk_frozen BK249.out 6
        have hfz16_7 := blk_frozen BK249.out 7
        have hfz16_8 := blk_frozen BK249.out 8
        have hfz16_9 := blk_frozen BK249.out 9
        have hfz16_10 := blk_frozen BK249.out 10
        have hfz16_11 := blk_frozen BK249.out 11
        have hfz16_12 := blk_frozen BK249.out 12
        have hfz16_13 := blk_frozen BK249.out 13
        go_wp2
        go_meet
        case rel => exact ⟨_, (false), (by first | rfl | (simp; done) | (simp [*]; done)), H', ⟨by first | omega | exact Nat.le_refl _⟩, ⟨by (with_reducible repeat (first | refine blk_drewN ?_ _ | refine blk_drew ?_ | refine blk_alloc ?_ _)); exact BK249.out⟩, ⟨by repeat (first | (with_reducible first | exact HB.out | apply below_alloc | apply pw_below_drewN | apply below_drew1 | refine below_set ?_ GE249.out) | exact HB.out)⟩⟩
    case rest =>
      clear HC4
      try clear c1
      try clear p2
      try clear c3
      try clear c4
      try clear c7
      try clear c7b0
      try clear c7b1
      try clear c9
      try clear c11
      try clear hcz13_0
      try clear hcz13_1
      try clear hcz13_10
      try clear hcz13_11
      try clear hcz13_12
      try clear hcz13_13
      try clear hcz13_2
      try clear hcz13_3
      try clear hcz13_4
      try clear hcz13_5
      try clear hcz13_6
      try clear hcz13_7
      try clear hcz13_8
      try clear hcz13_9
      try clear hcz14_0
      try clear hcz14_1
      try clear hcz14_10
      try clear hcz14_11
      try clear hcz14_12
      try clear hcz14_13
      try clear hcz14_2
      try clear hcz14_3
      try clear hcz14_4
      try clear hcz14_5
      try clear hcz14_6
      try clear hcz14_7
      try clear hcz14_8
      try clear hcz14_9
      try clear hcz15_0
      try clear hcz15_1
      try clear hcz15_10
      try clear hcz15_11
      try clear hcz15_12
      try clear hcz15_13
      try clear hcz15_2
      try clear hcz15_3
      try clear hcz15_4
      try clear hcz15_5
      try clear hcz15_6
      try clear hcz15_7
      try clear hcz15_8
      try clear hcz15_9
      try clear hcz16_0
      try clear hcz16_1
      try clear hcz16_10
      try clear hcz16_11
      try clear hcz16_12
      try clear hcz16_13
      try clear hcz16_2
      try clear hcz16_3
      try clear hcz16_4
      try clear hcz16_5
      try clear hcz16_6
      try clear hcz16_7
      try clear hcz16_8
      try clear hcz16_9
      try clear hcz6_0
      try clear hcz6_1
      try clear hcz6_10
      try clear hcz6_11
      try clear hcz6_12
      try clear hcz6_13
      try clear hcz6_2
      try clear hcz6_3
      try clear hcz6_4
      try clear hcz6_5
      try clear hcz6_6
      try clear hcz6_7
      try clear hcz6_8
      try clear hcz6_9
      try clear hfz13_0
      try clear hfz13_1
      try clear hfz13_10
      try clear hfz13_11
      try clear hfz13_12
      try clear hfz13_13
      try clear hfz13_2
      try clear hfz13_3
      try clear hfz13_4
      try clear hfz13_5
      try clear hfz13_6
      try clear hfz13_7
      try clear hfz13_8
      try clear hfz13_9
      try clear hfz14_0
      try clear hfz14_1
      try clear hfz14_10
      try clear hfz14_11
      try clear hfz14_12
      try clear hfz14_13
      try clear hfz14_2
      try clear hfz14_3
      try clear hfz14_4
      try clear hfz14_5
      try clear hfz14_6
      try clear hfz14_7
      try clear hfz14_8
      try clear hfz14_9
      try clear hfz15_0
      try clear hfz15_1
      try clear hfz15_10
      try clear hfz15_11
      try clear hfz15_12
      try clear hfz15_13
      try clear hfz15_2
      try clear hfz15_3
      try clear hfz15_4
      try clear hfz15_5
      try clear hfz15_6
      try clear hfz15_7
      try clear hfz15_8
      try clear hfz15_9
      try clear hfz16_0
      try clear hfz16_1
      try clear hfz16_10
      try clear hfz16_11
      try clear hfz16_12
      try clear hfz16_13
      try clear hfz16_2
      try clear hfz16_3
      try clear hfz16_4
      try clear hfz16_5
      try clear hfz16_6
      try clear hfz16_7
      try clear hfz16_8
      try clear hfz16_9
      try clear hfz6_0
      try clear hfz6_1
      try clear hfz6_10
      try clear hfz6_11
      try clear hfz6_12
      try clear hfz6_13
      try clear hfz6_2
      try clear hfz6_3
      try clear hfz6_4
      try clear hfz6_5
      try clear hfz6_6
      try clear hfz6_7
      try clear hfz6_8
      try clear hfz6_9
      obtain ⟨kq, x8_3, rfl, HA, HJ3, BK249, HB⟩ := hcut
      cases kq with
      | zero => exact absurd HA.out (by simp [impl_MessageFault.j0])
      | succ kj3 =>
        have H := HA.out
        clear HA
        simp only [impl_MessageFault.j0] at H
        by_cases c17 : x8_3 = true
        · subst c17
          have H1 : (some 3) = some r := by rw [if_pos rfl] at H; first | done | exact H
          clear H
          have H := H1
          clear H1
          obtain rfl := Option.some.inj H
          go_wp2
          go_ret
          exact ⟨by first | rfl | (simp [errW_none, errW_some] <;> rfl) | (simp [*, errW_none, errW_some] <;> rfl), by repeat (first | (with_reducible first | exact HB.out | apply below_alloc | apply pw_below_drewN | apply below_drew1 | refine below_set ?_ GE249.out) | exact HB.out)⟩
        · replace c17 := Bool.eq_false_iff.mpr c17
          subst c17
          have H1 : (if a0_0 = 3 then ((impl_areReasons.f a0_4 a0_5).bind fun t254 => (impl_MessageFault.j1 kj3 (!t254) a0_0 a0_1 a0_2 a0_3 a0_4 a0_5 l0_6 a0_7 a0_8 l0_9 a0_10 a0_11 a0_12 l0_13)) else (impl_MessageFault.j1 kj3 false a0_0 a0_1 a0_2 a0_3 a0_4 a0_5 l0_6 a0_7 a0_8 l0_9 a0_10 a0_11 a0_12 l0_13)) = some r := by rw [if_neg (show ¬ (false = true) by decide)] at H; first | done | exact H
          clear H
          have H := H1
          clear H1
          have HC18 := Aside0.mk H
          clear H
          go_upto_region 5 with (fail)
          go_cut [30] (fun v30 wc => ∃ (kq : Nat) (x30_17 : Bool), v30 = .bool x30_17 ∧ Aside0 (impl_MessageFault.j1 kq x30_17 a0_0 a0_1 a0_2 a0_3 a0_4 a0_5 l0_6 a0_7 a0_8 l0_9 a0_10 a0_11 a0_12 l0_13 = some r) ∧ Aside0 (kq ≤ kj3) ∧ Aside0 (wc.heap[gb249]? = some (.cells #[.int .i64 a0_0, .int .i64 a0_1, .int .i64 a0_2, .int .i64 a0_3, .int .i64 a0_4, .int .i64 a0_5, (.slice A0_6 l0_6.length c0_6), .bool a0_7, .int .i64 a0_8, (.slice A0_9 l0_9.length c0_9), .int .i64 a0_10, .int .i64 a0_11, .int .i64 a0_12, (.slice A0_13 l0_13.length c0_13)] 84 (0, 0))) ∧ Aside0 (Below w.heap.size w wc))
          case first =>
            have H := HC18.out
            clear HC18
            by_cases c19 : a0_0 = 3
            · rw [if_pos c19] at H
              have c19b0 : (a0_0 == 3) = true := beq_iff_eq.mpr c19
              have c19b1 : (a0_0 != 3) = false := bne_eq_false_iff_eq.mpr c19
              clear c19
              (first | rw [c19b0] | (simp only [i64_w, i32_w]; rw [c19b0]) | skip)
              replace H := Option.bind_eq_some_iff.mp H
              obtain ⟨t254, A200, H⟩ := H
              replace H : (impl_MessageFault.j1 kj3 (!t254) a0_0 a0_1 a0_2 a0_3 a0_4 a0_5 l0_6 a0_7 a0_8 l0_9 a0_10 a0_11 a0_12 l0_13) = some r := H
              have A20 := Aside0.mk A200
              clear A200
              have H' := Aside0.mk H
              clear H
              have hcz21_0 : wc.cell? ⟨gb249, 0, none⟩ = some (.int .i64 a0_0) := (blk_cell BK249.out 0).trans rfl
              have hcz21_1 : wc.cell? ⟨gb249, 1, none⟩ = some (.int .i64 a0_1) := (blk_cell BK249.out 1).trans rfl
              have hcz21_2 : wc.cell? ⟨gb249, 2, none⟩ = some (.int .i64 a0_2) := (blk_cell BK249.out 2).trans rfl
              have hcz21_3 : wc.cell? ⟨gb249, 3, none⟩ = some (.int .i64 a0_3) := (blk_cell BK249.out 3).trans rfl
              have hcz21_4 : wc.cell? ⟨gb249, 4, none⟩ = some (.int .i64 a0_4) := (blk_cell BK249.out 4).trans rfl
              have hcz21_5 : wc.cell? ⟨gb249, 5, none⟩ = some (.int .i64 a0_5) := (blk_cell BK249.out 5).trans rfl
              have hcz21_6 : wc.cell? ⟨gb249, 6, none⟩ = some (.slice A0_6 l0_6.length c0_6) := (blk_cell BK249.out 6).trans rfl
              have hcz21_7 : wc.cell? ⟨gb249, 7, none⟩ = some (.bool a0_7) := (blk_cell BK249.out 7).trans rfl
              have hcz21_8 : wc.cell? ⟨gb249, 8, none⟩ = some (.int .i64 a0_8) := (blk_cell BK249.out 8).trans rfl
              have hcz21_9 : wc.cell? ⟨gb249, 9, none⟩ = some (.slice A0_9 l0_9.length c0_9) := (blk_cell BK249.out 9).trans rfl
              have hcz21_10 : wc.cell? ⟨gb249, 10, none⟩ = some (.int .i64 a0_10) := (blk_cell BK249.out 10).trans rfl
              have hcz21_11 : wc.cell? ⟨gb249, 11, none⟩ = some (.int .i64 a0_11) := (blk_cell BK249.out 11).trans rfl
              have hcz21_12 : wc.cell? ⟨gb249, 12, none⟩ = some (.int .i64 a0_12) := (blk_cell BK249.out 12).trans rfl
              have hcz21_13 : wc.cell? ⟨gb249, 13, none⟩ = some (.slice A0_13 l0_13.length c0_13) := (blk_cell BK249.out 13).trans rfl
              have hfz21_0 := blk_frozen BK249.out 0
              have hfz21_1 := blk_frozen BK249.out 1
              have hfz21_2 := blk_frozen BK249.out 2
              have hfz21_3 := blk_frozen BK249.out 3
              have hfz21_4 := blk_frozen BK249.out 4
              have hfz21_5 := blk_frozen BK249.out 5
              have hfz21_6 := blk_frozen BK249.out 6
              have hfz21_7 := blk_frozen BK249.out 7
              have hfz21_8 := blk_frozen BK249.out 8
              have hfz21_9 := blk_frozen BK249.out 9
              have hfz21_10 := blk_frozen BK249.out 10
              have hfz21_11 := blk_frozen BK249.out 11
              have hfz21_12 := blk_frozen BK249.out 12
              have hfz21_13 := blk_frozen BK249.out 13
              go_wp2_with (first | (go_at_call 107; (with_reducible refine (impl_areReasons.calls a0_4 a0_5 t254 _ A20.out).mono ?_); rintro e w' ⟨rfl, ⟨nd, rfl⟩⟩))
              go_meet
              case rel => exact ⟨_, (!t254), (by first | rfl | (simp; done) | (simp [*]; done)), H', ⟨by have := HJ3.out; first | omega | exact Nat.le_refl _⟩, ⟨by (with_reducible repeat (first | refine blk_drewN ?_ _ | refine blk_drew ?_ | refine blk_alloc ?_ _)); exact BK249.out⟩, ⟨by repeat (first | (with_reducible first | exact HB.out | apply below_alloc | apply pw_below_drewN | apply below_drew1 | refine below_set ?_ GE249.out) | exact HB.out)⟩⟩
            · rw [if_neg c19] at H
              have c19b0 : (a0_0 == 3) = false := beq_eq_false_iff_ne.mpr c19
              have c19b1 : (a0_0 != 3) = true := bne_iff_ne.mpr c19
              (first | rw [c19b0] | (simp only [i64_w, i32_w]; rw [c19b0]) | skip)
              have H' := Aside0.mk H
              clear H
              have hcz22_0 : wc.cell? ⟨gb249, 0, none⟩ = some (.int .i64 a0_0) := (blk_cell BK249.out 0).trans rfl
              have hcz22_1 : wc.cell? ⟨gb249, 1, none⟩ = some (.int .i64 a0_1) := (blk_cell BK249.out 1).trans rfl
              have hcz22_2 : wc.cell? ⟨gb249, 2, none⟩ = some (.int .i64 a0_2) := (blk_cell BK249.out 2).trans rfl
              have hcz22_3 : wc.cell? ⟨gb249, 3, none⟩ = some (.int .i64 a0_3) := (blk_cell BK249.out 3).trans rfl
              have hcz22_4 : wc.cell? ⟨gb249, 4, none⟩ = some (.int .i64 a0_4) := (blk_cell BK249.out 4).trans rfl
              have hcz22_5 : wc.cell? ⟨gb249, 5, none⟩ = some (.int .i64 a0_5) := (blk_cell BK249.out 5).trans rfl
              have hcz22_6 : wc.cell? ⟨gb249, 6, none⟩ = some (.slice A0_6 l0_6.length c0_6) := (blk_cell BK249.out 6).trans rfl
              have hcz22_7 : wc.cell? ⟨gb249, 7, none⟩ = some (.bool a0_7) := (blk_cell BK249.out 7).trans rfl
              have hcz22_8 : wc.cell? ⟨gb249, 8, none⟩ = some (.int .i64 a0_8) := (blk_cell BK249.out 8).trans rfl
              have hcz22_9 : wc.cell? ⟨gb249, 9, none⟩ = some (.slice A0_9 l0_9.length c0_9) := (blk_cell BK249.out 9).trans rfl
              have hcz22_10 : wc.cell? ⟨gb249, 10, none⟩ = some (.int .i64 a0_10) := (blk_cell BK249.out 10).trans rfl
              have hcz22_11 : wc.cell? ⟨gb249, 11, none⟩ = some (.int .i64 a0_11) := (blk_cell BK249.out 11).trans rfl
              have hcz22_12 : wc.cell? ⟨gb249, 12, none⟩ = some (.int .i64 a0_12) := (blk_cell BK249.out 12).trans rfl
              have hcz22_13 : wc.cell? ⟨gb249, 13, none⟩ = some (.slice A0_13 l0_13.length c0_13) := (blk_cell BK249.out 13).trans rfl
              have hfz22_0 := blk_frozen BK249.out 0
              have hfz22_1 := blk_frozen BK249.out 1
              have hfz22_2 := blk_frozen BK249.out 2
              have hfz22_3 := blk_frozen BK249.out 3
              have hfz22_4 := blk_frozen BK249.out 4
              have hfz22_5 := blk_frozen BK249.out 5
              have hfz22_6 := blk_frozen BK249.out 6
              have hfz22_7 := blk_frozen BK249.out 7
              have hfz22_8 := blk_frozen BK249.out 8
              have hfz22_9 := blk_frozen BK249.out 9
              have hfz22_10 := blk_frozen BK249.out 10
              have hfz22_11 := blk_frozen BK249.out 11
              have hfz22_12 := blk_frozen BK249.out 12
              have hfz22_13 := blk_frozen BK249.out 13
              go_wp2
              go_meet
              case rel => exact ⟨_, (false), (by first | rfl | (simp; done) | (simp [*]; done)), H', ⟨by have := HJ3.out; first | omega | exact Nat.le_refl _⟩, ⟨by (with_reducible repeat (first | refine blk_drewN ?_ _ | refine blk_drew ?_ | refine blk_alloc ?_ _)); exact BK249.out⟩, ⟨by repeat (first | (with_reducible first | exact HB.out | apply below_alloc | apply pw_below_drewN | apply below_drew1 | refine below_set ?_ GE249.out) | exact HB.out)⟩⟩
          case rest =>
            clear HC18
            try clear c1
            try clear p2
            try clear c3
            try clear c4
            try clear c7
            try clear c7b0
            try clear c7b1
            try clear c9
            try clear c11
            try clear c17
            try clear c19
            try clear c19b0
            try clear c19b1
            try clear hcz13_0
            try clear hcz13_1
            try clear hcz13_10
            try clear hcz13_11
            try clear hcz13_12
            try clear hcz13_13
            try clear hcz13_2
            try clear hcz13_3
            try clear hcz13_4
            try clear hcz13_5
            try clear hcz13_6
            try clear hcz13_7
            try clear hcz13_8
            try clear hcz13_9
            try clear hcz14_0
            try clear hcz14_1
            try clear hcz14_10
            try clear hcz14_11
            try clear hcz14_12
            try clear hcz14_13
            try clear hcz14_2
            try clear hcz14_3
            try clear hcz14_4
            try clear hcz14_5
            try clear hcz14_6
            try clear hcz14_7
            try clear hcz14_8
            try clear hcz14_9
            try clear hcz15_0
            try clear hcz15_1
            try clear hcz15_10
            try clear hcz15_11
            try clear hcz15_12
            try clear hcz15_13
            try clear hcz15_2
            try clear hcz15_3
            try clear hcz15_4
            try clear hcz15_5
            try clear hcz15_6
            try clear hcz15_7
            try clear hcz15_8
            try clear hcz15_9
            try clear hcz16_0
            try clear hcz16_1
            try clear hcz16_10
            try clear hcz16_11
            try clear hcz16_12
            try clear hcz16_13
            try clear hcz16_2
            try clear hcz16_3
            try clear hcz16_4
            try clear hcz16_5
            try clear hcz16_6
            try clear hcz16_7
            try clear hcz16_8
            try clear hcz16_9
            try clear hcz21_0
            try clear hcz21_1
            try clear hcz21_10
            try clear hcz21_11
            try clear hcz21_12
            try clear hcz21_13
            try clear hcz21_2
            try clear hcz21_3
            try clear hcz21_4
            try clear hcz21_5
            try clear hcz21_6
            try clear hcz21_7
            try clear hcz21_8
            try clear hcz21_9
            try clear hcz22_0
            try clear hcz22_1
            try clear hcz22_10
            try clear hcz22_11
            try clear hcz22_12
            try clear hcz22_13
            try clear hcz22_2
            try clear hcz22_3
            try clear hcz22_4
            try clear hcz22_5
            try clear hcz22_6
            try clear hcz22_7
            try clear hcz22_8
            try clear hcz22_9
            try clear hcz6_0
            try clear hcz6_1
            try clear hcz6_10
            try clear hcz6_11
            try clear hcz6_12
            try clear hcz6_13
            try clear hcz6_2
            try clear hcz6_3
            try clear hcz6_4
            try clear hcz6_5
            try clear hcz6_6
            try clear hcz6_7
            try clear hcz6_8
            try clear hcz6_9
            try clear hfz13_0
            try clear hfz13_1
            try clear hfz13_10
            try clear hfz13_11
            try clear hfz13_12
            try clear hfz13_13
            try clear hfz13_2
            try clear hfz13_3
            try clear hfz13_4
            try clear hfz13_5
            try clear hfz13_6
            try clear hfz13_7
            try clear hfz13_8
            try clear hfz13_9
            try clear hfz14_0
            try clear hfz14_1
            try clear hfz14_10
            try clear hfz14_11
            try clear hfz14_12
            try clear hfz14_13
            try clear hfz14_2
            try clear hfz14_3
            try clear hfz14_4
            try clear hfz14_5
            try clear hfz14_6
            try clear hfz14_7
            try clear hfz14_8
            try clear hfz14_9
            try clear hfz15_0
            try clear hfz15_1
            try clear hfz15_10
            try clear hfz15_11
            try clear hfz15_12
            try clear hfz15_13
            try clear hfz15_2
            try clear hfz15_3
            try clear hfz15_4
            try clear hfz15_5
            try clear hfz15_6
            try clear hfz15_7
            try clear hfz15_8
            try clear hfz15_9
            try clear hfz16_0
            try clear hfz16_1
            try clear hfz16_10
            try clear hfz16_11
            try clear hfz16_12
            try clear hfz16_13
            try clear hfz16_2
            try clear hfz16_3
            try clear hfz16_4
            try clear hfz16_5
            try clear hfz16_6
            try clear hfz16_7
            try clear hfz16_8
            try clear hfz16_9
            try clear hfz21_0
            try clear hfz21_1
            try clear hfz21_10
            try clear hfz21_11
            try clear hfz21_12
            try clear hfz21_13
            try clear hfz21_2
            try clear hfz21_3
            try clear hfz21_4
            try clear hfz21_5
            try clear hfz21_6
            try clear hfz21_7
            try clear hfz21_8
            try clear hfz21_9
            try clear hfz22_0
            try clear hfz22_1
            try clear hfz22_10
            try clear hfz22_11
            try clear hfz22_12
            try clear hfz22_13
            try clear hfz22_2
            try clear hfz22_3
            try clear hfz22_4
            try clear hfz22_5
            try clear hfz22_6
            try clear hfz22_7
            try clear hfz22_8
            try clear hfz22_9
            try clear hfz6_0
            try clear hfz6_1
            try clear hfz6_10
            try clear hfz6_11
            try clear hfz6_12
            try clear hfz6_13
            try clear hfz6_2
            try clear hfz6_3
            try clear hfz6_4
            try clear hfz6_5
            try clear hfz6_6
            try clear hfz6_7
            try clear hfz6_8
            try clear hfz6_9
            try clear p2
            obtain ⟨kq, x30_17, rfl, HA, HJ17, BK249, HB⟩ := hcut
            cases kq with
            | zero => exact absurd HA.out (by simp [impl_MessageFault.j1])
            | succ kj17 =>
              have H := HA.out
              clear HA
              simp only [impl_MessageFault.j1] at H
              by_cases c23 : x30_17 = true
              · subst c23
                have H1 : (some 3) = some r := by rw [if_pos rfl] at H; first | done | exact H
                clear H
                have H := H1
                clear H1
                obtain rfl := Option.some.inj H
                go_wp2
                go_ret
                exact ⟨by first | rfl | (simp [errW_none, errW_some] <;> rfl) | (simp [*, errW_none, errW_some] <;> rfl), by repeat (first | (with_reducible first | exact HB.out | apply below_alloc | apply pw_below_drewN | apply below_drew1 | refine below_set ?_ GE249.out) | exact HB.out)⟩
              · replace c23 := Bool.eq_false_iff.mpr c23
                subst c23
                have H1 : (if a0_0 = 1 then (impl_MessageFault.j2 kj17 false a0_0 a0_1 a0_2 a0_3 a0_4 a0_5 l0_6 a0_7 a0_8 l0_9 a0_10 a0_11 a0_12 l0_13) else (if a0_1 = 0 then (if a0_2 = 0 then (impl_MessageFault.j2 kj17 (a0_3 != 0) a0_0 a0_1 a0_2 a0_3 a0_4 a0_5 l0_6 a0_7 a0_8 l0_9 a0_10 a0_11 a0_12 l0_13) else (impl_MessageFault.j2 kj17 true a0_0 a0_1 a0_2 a0_3 a0_4 a0_5 l0_6 a0_7 a0_8 l0_9 a0_10 a0_11 a0_12 l0_13)) else (impl_MessageFault.j2 kj17 true a0_0 a0_1 a0_2 a0_3 a0_4 a0_5 l0_6 a0_7 a0_8 l0_9 a0_10 a0_11 a0_12 l0_13))) = some r := by rw [if_neg (show ¬ (false = true) by decide)] at H; first | done | exact H
                clear H
                have H := H1
                clear H1
                have HC24 := Aside0.mk H
                clear H
                go_upto_region 7 with (fail)
                go_cut [42] (fun v42 wc => ∃ (kq : Nat) (x42_23 : Bool), v42 = .bool x42_23 ∧ Aside0 (impl_MessageFault.j2 kq x42_23 a0_0 a0_1 a0_2 a0_3 a0_4 a0_5 l0_6 a0_7 a0_8 l0_9 a0_10 a0_11 a0_12 l0_13 = some r) ∧ Aside0 (kq ≤ kj17) ∧ Aside0 (wc.heap[gb249]? = some (.cells #[.int .i64 a0_0, .int .i64 a0_1, .int .i64 a0_2, .int .i64 a0_3, .int .i64 a0_4, .int .i64 a0_5, (.slice A0_6 l0_6.length c0_6), .bool a0_7, .int .i64 a0_8, (.slice A0_9 l0_9.length c0_9), .int .i64 a0_10, .int .i64 a0_11, .int .i64 a0_12, (.slice A0_13 l0_13.length c0_13)] 84 (0, 0))) ∧ Aside0 (Below w.heap.size w wc))
                case first =>
                  have H := HC24.out
                  clear HC24
                  by_cases c25 : a0_0 = 1
                  · rw [if_pos c25] at H
                    have c25b0 : (a0_0 == 1) = true := beq_iff_eq.mpr c25
                    have c25b1 : (a0_0 != 1) = false := bne_eq_false_iff_eq.mpr c25
                    clear c25
                    (first | rw [c25b0] | (simp only [i64_w, i32_w]; rw [c25b0]) | skip)
                    have H' := Aside0.mk H
                    clear H
                    have hcz26_0 : wc.cell? ⟨gb249, 0, none⟩ = some (.int .i64 a0_0) := (blk_cell BK249.out 0).trans rfl
                    have hcz26_1 : wc.cell? ⟨gb249, 1, none⟩ = some (.int .i64 a0_1) := (blk_cell BK249.out 1).trans rfl
                    have hcz26_2 : wc.cell? ⟨gb249, 2, none⟩ = some (.int .i64 a0_2) := (blk_cell BK249.out 2).trans rfl
                    have hcz26_3 : wc.cell? ⟨gb249, 3, none⟩ = some (.int .i64 a0_3) := (blk_cell BK249.out 3).trans rfl
                    have hcz26_4 : wc.cell? ⟨gb249, 4, none⟩ = some (.int .i64 a0_4) := (blk_cell BK249.out 4).trans rfl
                    have hcz26_5 : wc.cell? ⟨gb249, 5, none⟩ = some (.int .i64 a0_5) := (blk_cell BK249.out 5).trans rfl
                    have hcz26_6 : wc.cell? ⟨gb249, 6, none⟩ = some (.slice A0_6 l0_6.length c0_6) := (blk_cell BK249.out 6).trans rfl
                    have hcz26_7 : wc.cell? ⟨gb249, 7, none⟩ = some (.bool a0_7) := (blk_cell BK249.out 7).trans rfl
                    have hcz26_8 : wc.cell? ⟨gb249, 8, none⟩ = some (.int .i64 a0_8) := (blk_cell BK249.out 8).trans rfl
                    have hcz26_9 : wc.cell? ⟨gb249, 9, none⟩ = some (.slice A0_9 l0_9.length c0_9) := (blk_cell BK249.out 9).trans rfl
                    have hcz26_10 : wc.cell? ⟨gb249, 10, none⟩ = some (.int .i64 a0_10) := (blk_cell BK249.out 10).trans rfl
                    have hcz26_11 : wc.cell? ⟨gb249, 11, none⟩ = some (.int .i64 a0_11) := (blk_cell BK249.out 11).trans rfl
                    have hcz26_12 : wc.cell? ⟨gb249, 12, none⟩ = some (.int .i64 a0_12) := (blk_cell BK249.out 12).trans rfl
                    have hcz26_13 : wc.cell? ⟨gb249, 13, none⟩ = some (.slice A0_13 l0_13.length c0_13) := (blk_cell BK249.out 13).trans rfl
                    have hfz26_0 := blk_frozen BK249.out 0
                    have hfz26_1 := blk_frozen BK249.out 1
                    have hfz26_2 := blk_frozen BK249.out 2
                    have hfz26_3 := blk_frozen BK249.out 3
                    have hfz26_4 := blk_frozen BK249.out 4
                    have hfz26_5 := blk_frozen BK249.out 5
                    have hfz26_6 := blk_frozen BK249.out 6
                    have hfz26_7 := blk_frozen BK249.out 7
                    have hfz26_8 := blk_frozen BK249.out 8
                    have hfz26_9 := blk_frozen BK249.out 9
                    have hfz26_10 := blk_frozen BK249.out 10
                    have hfz26_11 := blk_frozen BK249.out 11
                    have hfz26_12 := blk_frozen BK249.out 12
                    have hfz26_13 := blk_frozen BK249.out 13
                    go_wp2
                    go_meet
                    case rel => exact ⟨_, (false), (by first | rfl | (simp; done) | (simp [*]; done)), H', ⟨by have := HJ3.out; have := HJ17.out; first | omega | exact Nat.le_refl _⟩, ⟨by (with_reducible repeat (first | refine blk_drewN ?_ _ | refine blk_drew ?_ | refine blk_alloc ?_ _)); exact BK249.out⟩, ⟨by repeat (first | (with_reducible first | exact HB.out | apply below_alloc | apply pw_below_drewN | apply below_drew1 | refine below_set ?_ GE249.out) | exact HB.out)⟩⟩
                  · rw [if_neg c25] at H
                    have c25b0 : (a0_0 == 1) = false := beq_eq_false_iff_ne.mpr c25
                    have c25b1 : (a0_0 != 1) = true := bne_iff_ne.mpr c25
                    (first | rw [c25b0] | (simp only [i64_w, i32_w]; rw [c25b0]) | skip)
                    by_cases c27 : a0_1 = 0
                    · rw [if_pos c27] at H
                      have c27b0 : (a0_1 == 0) = true := beq_iff_eq.mpr c27
                      have c27b1 : (a0_1 != 0) = false := bne_eq_false_iff_eq.mpr c27
                      clear c27
                      by_cases c28 : a0_2 = 0
                      · rw [if_pos c28] at H
                        have c28b0 : (a0_2 == 0) = true := beq_iff_eq.mpr c28
                        have c28b1 : (a0_2 != 0) = false := bne_eq_false_iff_eq.mpr c28
                        clear c28
                        have H' := Aside0.mk H
                        clear H
                        have hcz29_0 : wc.cell? ⟨gb249, 0, none⟩ = some (.int .i64 a0_0) := (blk_cell BK249.out 0).trans rfl
                        have hcz29_1 : wc.cell? ⟨gb249, 1, none⟩ = some (.int .i64 a0_1) := (blk_cell BK249.out 1).trans rfl
                        have hcz29_2 : wc.cell? ⟨gb249, 2, none⟩ = some (.int .i64 a0_2) := (blk_cell BK249.out 2).trans rfl
                        have hcz29_3 : wc.cell? ⟨gb249, 3, none⟩ = some (.int .i64 a0_3) := (blk_cell BK249.out 3).trans rfl
                        have hcz29_4 : wc.cell? ⟨gb249, 4, none⟩ = some (.int .i64 a0_4) := (blk_cell BK249.out 4).trans rfl
                        have hcz29_5 : wc.cell? ⟨gb249, 5, none⟩ = some (.int .i64 a0_5) := (blk_cell BK249.out 5).trans rfl
                        have hcz29_6 : wc.cell? ⟨gb249, 6, none⟩ = some (.slice A0_6 l0_6.length c0_6) := (blk_cell BK249.out 6).trans rfl
                        have hcz29_7 : wc.cell? ⟨gb249, 7, none⟩ = some (.bool a0_7) := (blk_cell BK249.out 7).trans rfl
                        have hcz29_8 : wc.cell? ⟨gb249, 8, none⟩ = some (.int .i64 a0_8) := (blk_cell BK249.out 8).trans rfl
                        have hcz29_9 : wc.cell? ⟨gb249, 9, none⟩ = some (.slice A0_9 l0_9.length c0_9) := (blk_cell BK249.out 9).trans rfl
                        have hcz29_10 : wc.cell? ⟨gb249, 10, none⟩ = some (.int .i64 a0_10) := (blk_cell BK249.out 10).trans rfl
                        have hcz29_11 : wc.cell? ⟨gb249, 11, none⟩ = some (.int .i64 a0_11) := (blk_cell BK249.out 11).trans rfl
                        have hcz29_12 : wc.cell? ⟨gb249, 12, none⟩ = some (.int .i64 a0_12) := (blk_cell BK249.out 12).trans rfl
                        have hcz29_13 : wc.cell? ⟨gb249, 13, none⟩ = some (.slice A0_13 l0_13.length c0_13) := (blk_cell BK249.out 13).trans rfl
                        have hfz29_0 := blk_frozen BK249.out 0
                        have hfz29_1 := blk_frozen BK249.out 1
                        have hfz29_2 := blk_frozen BK249.out 2
                        have hfz29_3 := blk_frozen BK249.out 3
                        have hfz29_4 := blk_frozen BK249.out 4
                        have hfz29_5 := blk_frozen BK249.out 5
                        have hfz29_6 := blk_frozen BK249.out 6
                        have hfz29_7 := blk_frozen BK249.out 7
                        have hfz29_8 := blk_frozen BK249.out 8
                        have hfz29_9 := blk_frozen BK249.out 9
                        have hfz29_10 := blk_frozen BK249.out 10
                        have hfz29_11 := blk_frozen BK249.out 11
                        have hfz29_12 := blk_frozen BK249.out 12
                        have hfz29_13 := blk_frozen BK249.out 13
                        go_wp2
                        go_meet
                        case rel => exact ⟨_, ((a0_3 != 0)), (by first | rfl | (simp; done) | (simp [*]; done)), H', ⟨by have := HJ3.out; have := HJ17.out; first | omega | exact Nat.le_refl _⟩, ⟨by (with_reducible repeat (first | refine blk_drewN ?_ _ | refine blk_drew ?_ | refine blk_alloc ?_ _)); exact BK249.out⟩, ⟨by repeat (first | (with_reducible first | exact HB.out | apply below_alloc | apply pw_below_drewN | apply below_drew1 | refine below_set ?_ GE249.out) | exact HB.out)⟩⟩
                      · rw [if_neg c28] at H
                        have c28b0 : (a0_2 == 0) = false := beq_eq_false_iff_ne.mpr c28
                        have c28b1 : (a0_2 != 0) = true := bne_iff_ne.mpr c28
                        have H' := Aside0.mk H
                        clear H
                        have hcz30_0 : wc.cell? ⟨gb249, 0, none⟩ = some (.int .i64 a0_0) := (blk_cell BK249.out 0).trans rfl
                        have hcz30_1 : wc.cell? ⟨gb249, 1, none⟩ = some (.int .i64 a0_1) := (blk_cell BK249.out 1).trans rfl
                        have hcz30_2 : wc.cell? ⟨gb249, 2, none⟩ = some (.int .i64 a0_2) := (blk_cell BK249.out 2).trans rfl
                        have hcz30_3 : wc.cell? ⟨gb249, 3, none⟩ = some (.int .i64 a0_3) := (blk_cell BK249.out 3).trans rfl
                        have hcz30_4 : wc.cell? ⟨gb249, 4, none⟩ = some (.int .i64 a0_4) := (blk_cell BK249.out 4).trans rfl
                        have hcz30_5 : wc.cell? ⟨gb249, 5, none⟩ = some (.int .i64 a0_5) := (blk_cell BK249.out 5).trans rfl
                        have hcz30_6 : wc.cell? ⟨gb249, 6, none⟩ = some (.slice A0_6 l0_6.length c0_6) := (blk_cell BK249.out 6).trans rfl
                        have hcz30_7 : wc.cell? ⟨gb249, 7, none⟩ = some (.bool a0_7) := (blk_cell BK249.out 7).trans rfl
                        have hcz30_8 : wc.cell? ⟨gb249, 8, none⟩ = some (.int .i64 a0_8) := (blk_cell BK249.out 8).trans rfl
                        have hcz30_9 : wc.cell? ⟨gb249, 9, none⟩ = some (.slice A0_9 l0_9.length c0_9) := (blk_cell BK249.out 9).trans rfl
                        have hcz30_10 : wc.cell? ⟨gb249, 10, none⟩ = some (.int .i64 a0_10) := (blk_cell BK249.out 10).trans rfl
                        have hcz30_11 : wc.cell? ⟨gb249, 11, none⟩ = some (.int .i64 a0_11) := (blk_cell BK249.out 11).trans rfl
                        have hcz30_12 : wc.cell? ⟨gb249, 12, none⟩ = some (.int .i64 a0_12) := (blk_cell BK249.out 12).trans rfl
                        have hcz30_13 : wc.cell? ⟨gb249, 13, none⟩ = some (.slice A0_13 l0_13.length c0_13) := (blk_cell BK249.out 13).trans rfl
                        have hfz30_0 := blk_frozen BK249.out 0
                        have hfz30_1 := blk_frozen BK249.out 1
                        have hfz30_2 := blk_frozen BK249.out 2
                        have hfz30_3 := blk_frozen BK249.out 3
                        have hfz30_4 := blk_frozen BK249.out 4
                        have hfz30_5 := blk_frozen BK249.out 5
                        have hfz30_6 := blk_frozen BK249.out 6
                        have hfz30_7 := blk_frozen BK249.out 7
                        have hfz30_8 := blk_frozen BK249.out 8
                        have hfz30_9 := blk_frozen BK249.out 9
                        have hfz30_10 := blk_frozen BK249.out 10
                        have hfz30_11 := blk_frozen BK249.out 11
                        have hfz30_12 := blk_frozen BK249.out 12
                        have hfz30_13 := blk_frozen BK249.out 13
                        go_wp2
                        go_meet
                        case rel => exact ⟨_, (true), (by first | rfl | (simp; done) | (simp [*]; done)), H', ⟨by have := HJ3.out; have := HJ17.out; first | omega | exact Nat.le_refl _⟩, ⟨by (with_reducible repeat (first | refine blk_drewN ?_ _ | refine blk_drew ?_ | refine blk_alloc ?_ _)); exact BK249.out⟩, ⟨by repeat (first | (with_reducible first | exact HB.out | apply below_alloc | apply pw_below_drewN | apply below_drew1 | refine below_set ?_ GE249.out) | exact HB.out)⟩⟩
                    · rw [if_neg c27] at H
                      have c27b0 : (a0_1 == 0) = false := beq_eq_false_iff_ne.mpr c27
                      have c27b1 : (a0_1 != 0) = true := bne_iff_ne.mpr c27
                      have H' := Aside0.mk H
                      clear H
                      have hcz31_0 : wc.cell? ⟨gb249, 0, none⟩ = some (.int .i64 a0_0) := (blk_cell BK249.out 0).trans rfl
                      have hcz31_1 : wc.cell? ⟨gb249, 1, none⟩ = some (.int .i64 a0_1) := (blk_cell BK249.out 1).trans rfl
                      have hcz31_2 : wc.cell? ⟨gb249, 2, none⟩ = some (.int .i64 a0_2) := (blk_cell BK249.out 2).trans rfl
                      have hcz31_3 : wc.cell? ⟨gb249, 3, none⟩ = some (.int .i64 a0_3) := (blk_cell BK249.out 3).trans rfl
                      have hcz31_4 : wc.cell? ⟨gb249, 4, none⟩ = some (.int .i64 a0_4) := (blk_cell BK249.out 4).trans rfl
                      have hcz31_5 : wc.cell? ⟨gb249, 5, none⟩ = some (.int .i64 a0_5) := (blk_cell BK249.out 5).trans rfl
                      have hcz31_6 : wc.cell? ⟨gb249, 6, none⟩ = some (.slice A0_6 l0_6.length c0_6) := (blk_cell BK249.out 6).trans rfl
                      have hcz31_7 : wc.cell? ⟨gb249, 7, none⟩ = some (.bool a0_7) := (blk_cell BK249.out 7).trans rfl
                      have hcz31_8 : wc.cell? ⟨gb249, 8, none⟩ = some (.int .i64 a0_8) := (blk_cell BK249.out 8).trans rfl
                      have hcz31_9 : wc.cell? ⟨gb249, 9, none⟩ = some (.slice A0_9 l0_9.length c0_9) := (blk_cell BK249.out 9).trans rfl
                      have hcz31_10 : wc.cell? ⟨gb249, 10, none⟩ = some (.int .i64 a0_10) := (blk_cell BK249.out 10).trans rfl
                      have hcz31_11 : wc.cell? ⟨gb249, 11, none⟩ = some (.int .i64 a0_11) := (blk_cell BK249.out 11).trans rfl
                      have hcz31_12 : wc.cell? ⟨gb249, 12, none⟩ = some (.int .i64 a0_12) := (blk_cell BK249.out 12).trans rfl
                      have hcz31_13 : wc.cell? ⟨gb249, 13, none⟩ = some (.slice A0_13 l0_13.length c0_13) := (blk_cell BK249.out 13).trans rfl
                      have hfz31_0 := blk_frozen BK249.out 0
                      have hfz31_1 := blk_frozen BK249.out 1
                      have hfz31_2 := blk_frozen BK249.out 2
                      have hfz31_3 := blk_frozen BK249.out 3
                      have hfz31_4 := blk_frozen BK249.out 4
                      have hfz31_5 := blk_frozen BK249.out 5
                      have hfz31_6 := blk_frozen BK249.out 6
                      have hfz31_7 := blk_frozen BK249.out 7
                      have hfz31_8 := blk_frozen BK249.out 8
                      have hfz31_9 := blk_frozen BK249.out 9
                      have hfz31_10 := blk_frozen BK249.out 10
                      have hfz31_11 := blk_frozen BK249.out 11
                      have hfz31_12 := blk_frozen BK249.out 12
                      have hfz31_13 := blk_frozen BK249.out 13
                      go_wp2
                      go_meet
                      case rel => exact ⟨_, (true), (by first | rfl | (simp; done) | (simp [*]; done)), H', ⟨by have := HJ3.out; have := HJ17.out; first | omega | exact Nat.le_refl _⟩, ⟨by (with_reducible repeat (first | refine blk_drewN ?_ _ | refine blk_drew ?_ | refine blk_alloc ?_ _)); exact BK249.out⟩, ⟨by repeat (first | (with_reducible first | exact HB.out | apply below_alloc | apply pw_below_drewN | apply below_drew1 | refine below_set ?_ GE249.out) | exact HB.out)⟩⟩
                case rest =>
                  clear HC24
                  try clear c1
                  try clear c2
                  try clear p2
                  try clear c3
                  try clear c4
                  try clear c7
                  try clear c7b0
                  try clear c7b1
                  try clear c9
                  try clear c11
                  try clear c17
                  try clear c19
                  try clear c19b0
                  try clear c19b1
                  try clear c23
                  try clear c25
                  try clear c25b0
                  try clear c25b1
                  try clear c27
                  try clear c27b0
                  try clear c27b1
                  try clear c28
                  try clear c28b0
                  try clear c28b1
                  try clear hcz13_0
                  try clear hcz13_1
                  try clear hcz13_10
                  try clear hcz13_11
                  try clear hcz13_12
                  try clear hcz13_13
                  try clear hcz13_2
                  try clear hcz13_3
                  try clear hcz13_4
                  try clear hcz13_5
                  try clear hcz13_6
                  try clear hcz13_7
                  try clear hcz13_8
                  try clear hcz13_9
                  try clear hcz14_0
                  try clear hcz14_1
                  try clear hcz14_10
                  try clear hcz14_11
                  try clear hcz14_12
                  try clear hcz14_13
                  try clear hcz14_2
                  try clear hcz14_3
                  try clear hcz14_4
                  try clear hcz14_5
                  try clear hcz14_6
                  try clear hcz14_7
                  try clear hcz14_8
                  try clear hcz14_9
                  try clear hcz15_0
                  try clear hcz15_1
                  try clear hcz15_10
                  try clear hcz15_11
                  try clear hcz15_12
                  try clear hcz15_13
                  try clear hcz15_2
                  try clear hcz15_3
                  try clear hcz15_4
                  try clear hcz15_5
                  try clear hcz15_6
                  try clear hcz15_7
                  try clear hcz15_8
                  try clear hcz15_9
                  try clear hcz16_0
                  try clear hcz16_1
                  try clear hcz16_10
                  try clear hcz16_11
                  try clear hcz16_12
                  try clear hcz16_13
                  try clear hcz16_2
                  try clear hcz16_3
                  try clear hcz16_4
                  try clear hcz16_5
                  try clear hcz16_6
                  try clear hcz16_7
                  try clear hcz16_8
                  try clear hcz16_9
                  try clear hcz21_0
                  try clear hcz21_1
                  try clear hcz21_10
                  try clear hcz21_11
                  try clear hcz21_12
                  try clear hcz21_13
                  try clear hcz21_2
                  try clear hcz21_3
                  try clear hcz21_4
                  try clear hcz21_5
                  try clear hcz21_6
                  try clear hcz21_7
                  try clear hcz21_8
                  try clear hcz21_9
                  try clear hcz22_0
                  try clear hcz22_1
                  try clear hcz22_10
                  try clear hcz22_11
                  try clear hcz22_12
                  try clear hcz22_13
                  try clear hcz22_2
                  try clear hcz22_3
                  try clear hcz22_4
                  try clear hcz22_5
                  try clear hcz22_6
                  try clear hcz22_7
                  try clear hcz22_8
                  try clear hcz22_9
                  try clear hcz26_0
                  try clear hcz26_1
                  try clear hcz26_10
                  try clear hcz26_11
                  try clear hcz26_12
                  try clear hcz26_13
                  try clear hcz26_2
                  try clear hcz26_3
                  try clear hcz26_4
                  try clear hcz26_5
                  try clear hcz26_6
                  try clear hcz26_7
                  try clear hcz26_8
                  try clear hcz26_9
                  try clear hcz29_0
                  try clear hcz29_1
                  try clear hcz29_10
                  try clear hcz29_11
                  try clear hcz29_12
                  try clear hcz29_13
                  try clear hcz29_2
                  try clear hcz29_3
                  try clear hcz29_4
                  try clear hcz29_5
                  try clear hcz29_6
                  try clear hcz29_7
                  try clear hcz29_8
                  try clear hcz29_9
                  try clear hcz30_0
                  try clear hcz30_1
                  try clear hcz30_10
                  try clear hcz30_11
                  try clear hcz30_12
                  try clear hcz30_13
                  try clear hcz30_2
                  try clear hcz30_3
                  try clear hcz30_4
                  try clear hcz30_5
                  try clear hcz30_6
                  try clear hcz30_7
                  try clear hcz30_8
                  try clear hcz30_9
                  try clear hcz31_0
                  try clear hcz31_1
                  try clear hcz31_10
                  try clear hcz31_11
                  try clear hcz31_12
                  try clear hcz31_13
                  try clear hcz31_2
                  try clear hcz31_3
                  try clear hcz31_4
                  try clear hcz31_5
                  try clear hcz31_6
                  try clear hcz31_7
                  try clear hcz31_8
                  try clear hcz31_9
                  try clear hcz6_0
                  try clear hcz6_1
                  try clear hcz6_10
                  try clear hcz6_11
                  try clear hcz6_12
                  try clear hcz6_13
                  try clear hcz6_2
                  try clear hcz6_3
                  try clear hcz6_4
                  try clear hcz6_5
                  try clear hcz6_6
                  try clear hcz6_7
                  try clear hcz6_8
                  try clear hcz6_9
                  try clear hfz13_0
                  try clear hfz13_1
                  try clear hfz13_10
                  try clear hfz13_11
                  try clear hfz13_12
                  try clear hfz13_13
                  try clear hfz13_2
                  try clear hfz13_3
                  try clear hfz13_4
                  try clear hfz13_5
                  try clear hfz13_6
                  try clear hfz13_7
                  try clear hfz13_8
                  try clear hfz13_9
                  try clear hfz14_0
                  try clear hfz14_1
                  try clear hfz14_10
                  try clear hfz14_11
                  try clear hfz14_12
                  try clear hfz14_13
                  try clear hfz14_2
                  try clear hfz14_3
                  try clear hfz14_4
                  try clear hfz14_5
                  try clear hfz14_6
                  try clear hfz14_7
                  try clear hfz14_8
                  try clear hfz14_9
                  try clear hfz15_0
                  try clear hfz15_1
                  try clear hfz15_10
                  try clear hfz15_11
                  try clear hfz15_12
                  try clear hfz15_13
                  try clear hfz15_2
                  try clear hfz15_3
                  try clear hfz15_4
                  try clear hfz15_5
                  try clear hfz15_6
                  try clear hfz15_7
                  try clear hfz15_8
                  try clear hfz15_9
                  try clear hfz16_0
                  try clear hfz16_1
                  try clear hfz16_10
                  try clear hfz16_11
                  try clear hfz16_12
                  try clear hfz16_13
                  try clear hfz16_2
                  try clear hfz16_3
                  try clear hfz16_4
                  try clear hfz16_5
                  try clear hfz16_6
                  try clear hfz16_7
                  try clear hfz16_8
                  try clear hfz16_9
                  try clear hfz21_0
                  try clear hfz21_1
                  try clear hfz21_10
                  try clear hfz21_11
                  try clear hfz21_12
                  try clear hfz21_13
                  try clear hfz21_2
                  try clear hfz21_3
                  try clear hfz21_4
                  try clear hfz21_5
                  try clear hfz21_6
                  try clear hfz21_7
                  try clear hfz21_8
                  try clear hfz21_9
                  try clear hfz22_0
                  try clear hfz22_1
                  try clear hfz22_10
                  try clear hfz22_11
                  try clear hfz22_12
                  try clear hfz22_13
                  try clear hfz22_2
                  try clear hfz22_3
                  try clear hfz22_4
                  try clear hfz22_5
                  try clear hfz22_6
                  try clear hfz22_7
                  try clear hfz22_8
                  try clear hfz22_9
                  try clear hfz26_0
                  try clear hfz26_1
                  try clear hfz26_10
                  try clear hfz26_11
                  try clear hfz26_12
                  try clear hfz26_13
                  try clear hfz26_2
                  try clear hfz26_3
                  try clear hfz26_4
                  try clear hfz26_5
                  try clear hfz26_6
                  try clear hfz26_7
                  try clear hfz26_8
                  try clear hfz26_9
                  try clear hfz29_0
                  try clear hfz29_1
                  try clear hfz29_10
                  try clear hfz29_11
                  try clear hfz29_12
                  try clear hfz29_13
                  try clear hfz29_2
                  try clear hfz29_3
                  try clear hfz29_4
                  try clear hfz29_5
                  try clear hfz29_6
                  try clear hfz29_7
                  try clear hfz29_8
                  try clear hfz29_9
                  try clear hfz30_0
                  try clear hfz30_1
                  try clear hfz30_10
                  try clear hfz30_11
                  try clear hfz30_12
                  try clear hfz30_13
                  try clear hfz30_2
                  try clear hfz30_3
                  try clear hfz30_4
                  try clear hfz30_5
                  try clear hfz30_6
                  try clear hfz30_7
                  try clear hfz30_8
                  try clear hfz30_9
                  try clear hfz31_0
                  try clear hfz31_1
                  try clear hfz31_10
                  try clear hfz31_11
                  try clear hfz31_12
                  try clear hfz31_13
                  try clear hfz31_2
                  try clear hfz31_3
                  try clear hfz31_4
                  try clear hfz31_5
                  try clear hfz31_6
                  try clear hfz31_7
                  try clear hfz31_8
                  try clear hfz31_9
                  try clear hfz6_0
                  try clear hfz6_1
                  try clear hfz6_10
                  try clear hfz6_11
                  try clear hfz6_12
                  try clear hfz6_13
                  try clear hfz6_2
                  try clear hfz6_3
                  try clear hfz6_4
                  try clear hfz6_5
                  try clear hfz6_6
                  try clear hfz6_7
                  try clear hfz6_8
                  try clear hfz6_9
                  try clear p2
                  obtain ⟨kq, x42_23, rfl, HA, HJ23, BK249, HB⟩ := hcut
                  cases kq with
                  | zero => exact absurd HA.out (by simp [impl_MessageFault.j2])
                  | succ kj23 =>
                    have H := HA.out
                    clear HA
                    simp only [impl_MessageFault.j2] at H
                    by_cases c32 : x42_23 = true
                    · subst c32
                      have H1 : (some 1) = some r := by rw [if_pos rfl] at H; first | done | exact H
                      clear H
                      have H := H1
                      clear H1
                      obtain rfl := Option.some.inj H
                      go_wp2
                      go_ret
                      exact ⟨by first | rfl | (simp [errW_none, errW_some] <;> rfl) | (simp [*, errW_none, errW_some] <;> rfl), by repeat (first | (with_reducible first | exact HB.out | apply below_alloc | apply pw_below_drewN | apply below_drew1 | refine below_set ?_ GE249.out) | exact HB.out)⟩
                    · replace c32 := Bool.eq_false_iff.mpr c32
                      subst c32
                      have H1 : (if a0_0 = 3 then (impl_MessageFault.j3 kj23 false a0_0 a0_1 a0_2 a0_3 a0_4 a0_5 l0_6 a0_7 a0_8 l0_9 a0_10 a0_11 a0_12 l0_13) else (if a0_4 = 0 then (impl_MessageFault.j3 kj23 (a0_5 != 0) a0_0 a0_1 a0_2 a0_3 a0_4 a0_5 l0_6 a0_7 a0_8 l0_9 a0_10 a0_11 a0_12 l0_13) else (impl_MessageFault.j3 kj23 true a0_0 a0_1 a0_2 a0_3 a0_4 a0_5 l0_6 a0_7 a0_8 l0_9 a0_10 a0_11 a0_12 l0_13))) = some r := by rw [if_neg (show ¬ (false = true) by decide)] at H; first | done | exact H
                      clear H
                      have H := H1
                      clear H1
                      have HC33 := Aside0.mk H
                      clear H
                      go_upto_region 9 with (fail)
                      go_cut [61] (fun v61 wc => ∃ (kq : Nat) (x61_32 : Bool), v61 = .bool x61_32 ∧ Aside0 (impl_MessageFault.j3 kq x61_32 a0_0 a0_1 a0_2 a0_3 a0_4 a0_5 l0_6 a0_7 a0_8 l0_9 a0_10 a0_11 a0_12 l0_13 = some r) ∧ Aside0 (kq ≤ kj23) ∧ Aside0 (wc.heap[gb249]? = some (.cells #[.int .i64 a0_0, .int .i64 a0_1, .int .i64 a0_2, .int .i64 a0_3, .int .i64 a0_4, .int .i64 a0_5, (.slice A0_6 l0_6.length c0_6), .bool a0_7, .int .i64 a0_8, (.slice A0_9 l0_9.length c0_9), .int .i64 a0_10, .int .i64 a0_11, .int .i64 a0_12, (.slice A0_13 l0_13.length c0_13)] 84 (0, 0))) ∧ Aside0 (Below w.heap.size w wc))
                      case first =>
                        have H := HC33.out
                        clear HC33
                        by_cases c34 : a0_0 = 3
                        · rw [if_pos c34] at H
                          have c34b0 : (a0_0 == 3) = true := beq_iff_eq.mpr c34
                          have c34b1 : (a0_0 != 3) = false := bne_eq_false_iff_eq.mpr c34
                          clear c34
                          (first | rw [c34b0] | (simp only [i64_w, i32_w]; rw [c34b0]) | skip)
                          have H' := Aside0.mk H
                          clear H
                          have hcz35_0 : wc.cell? ⟨gb249, 0, none⟩ = some (.int .i64 a0_0) := (blk_cell BK249.out 0).trans rfl
                          have hcz35_1 : wc.cell? ⟨gb249, 1, none⟩ = some (.int .i64 a0_1) := (blk_cell BK249.out 1).trans rfl
                          have hcz35_2 : wc.cell? ⟨gb249, 2, none⟩ = some (.int .i64 a0_2) := (blk_cell BK249.out 2).trans rfl
                          have hcz35_3 : wc.cell? ⟨gb249, 3, none⟩ = some (.int .i64 a0_3) := (blk_cell BK249.out 3).trans rfl
                          have hcz35_4 : wc.cell? ⟨gb249, 4, none⟩ = some (.int .i64 a0_4) := (blk_cell BK249.out 4).trans rfl
                          have hcz35_5 : wc.cell? ⟨gb249, 5, none⟩ = some (.int .i64 a0_5) := (blk_cell BK249.out 5).trans rfl
                          have hcz35_6 : wc.cell? ⟨gb249, 6, none⟩ = some (.slice A0_6 l0_6.length c0_6) := (blk_cell BK249.out 6).trans rfl
                          have hcz35_7 : wc.cell? ⟨gb249, 7, none⟩ = some (.bool a0_7) := (blk_cell BK249.out 7).trans rfl
                          have hcz35_8 : wc.cell? ⟨gb249, 8, none⟩ = some (.int .i64 a0_8) := (blk_cell BK249.out 8).trans rfl
                          have hcz35_9 : wc.cell? ⟨gb249, 9, none⟩ = some (.slice A0_9 l0_9.length c0_9) := (blk_cell BK249.out 9).trans rfl
                          have hcz35_10 : wc.cell? ⟨gb249, 10, none⟩ = some (.int .i64 a0_10) := (blk_cell BK249.out 10).trans rfl
                          have hcz35_11 : wc.cell? ⟨gb249, 11, none⟩ = some (.int .i64 a0_11) := (blk_cell BK249.out 11).trans rfl
                          have hcz35_12 : wc.cell? ⟨gb249, 12, none⟩ = some (.int .i64 a0_12) := (blk_cell BK249.out 12).trans rfl
                          have hcz35_13 : wc.cell? ⟨gb249, 13, none⟩ = some (.slice A0_13 l0_13.length c0_13) := (blk_cell BK249.out 13).trans rfl
                          have hfz35_0 := blk_frozen BK249.out 0
                          have hfz35_1 := blk_frozen BK249.out 1
                          have hfz35_2 := blk_frozen BK249.out 2
                          have hfz35_3 := blk_frozen BK249.out 3
                          have hfz35_4 := blk_frozen BK249.out 4
                          have hfz35_5 := blk_frozen BK249.out 5
                          have hfz35_6 := blk_frozen BK249.out 6
                          have hfz35_7 := blk_frozen BK249.out 7
                          have hfz35_8 := blk_frozen BK249.out 8
                          have hfz35_9 := blk_frozen BK249.out 9
                          have hfz35_10 := blk_frozen BK249.out 10
                          have hfz35_11 := blk_frozen BK249.out 11
                          have hfz35_12 := blk_frozen BK249.out 12
                          have hfz35_13 := blk_frozen BK249.out 13
                          go_wp2
                          go_meet
                          case rel => exact ⟨_, (false), (by first | rfl | (simp; done) | (simp [*]; done)), H', ⟨by have := HJ3.out; have := HJ17.out; have := HJ23.out; first | omega | exact Nat.le_refl _⟩, ⟨by (with_reducible repeat (first | refine blk_drewN ?_ _ | refine blk_drew ?_ | refine blk_alloc ?_ _)); exact BK249.out⟩, ⟨by repeat (first | (with_reducible first | exact HB.out | apply below_alloc | apply pw_below_drewN | apply below_drew1 | refine below_set ?_ GE249.out) | exact HB.out)⟩⟩
                        · rw [if_neg c34] at H
                          have c34b0 : (a0_0 == 3) = false := beq_eq_false_iff_ne.mpr c34
                          have c34b1 : (a0_0 != 3) = true := bne_iff_ne.mpr c34
                          (first | rw [c34b0] | (simp only [i64_w, i32_w]; rw [c34b0]) | skip)
                          by_cases c36 : a0_4 = 0
                          · rw [if_pos c36] at H
                            have c36b0 : (a0_4 == 0) = true := beq_iff_eq.mpr c36
                            have c36b1 : (a0_4 != 0) = false := bne_eq_false_iff_eq.mpr c36
                            clear c36
                            have H' := Aside0.mk H
                            clear H
                            have hcz37_0 : wc.cell? ⟨gb249, 0, none⟩ = some (.int .i64 a0_0) := (blk_cell BK249.out 0).trans rfl
                            have hcz37_1 : wc.cell? ⟨gb249, 1, none⟩ = some (.int .i64 a0_1) := (blk_cell BK249.out 1).trans rfl
                            have hcz37_2 : wc.cell? ⟨gb249, 2, none⟩ = some (.int .i64 a0_2) := (blk_cell BK249.out 2).trans rfl
                            have hcz37_3 : wc.cell? ⟨gb249, 3, none⟩ = some (.int .i64 a0_3) := (blk_cell BK249.out 3).trans rfl
                            have hcz37_4 : wc.cell? ⟨gb249, 4, none⟩ = some (.int .i64 a0_4) := (blk_cell BK249.out 4).trans rfl
                            have hcz37_5 : wc.cell? ⟨gb249, 5, none⟩ = some (.int .i64 a0_5) := (blk_cell BK249.out 5).trans rfl
                            have hcz37_6 : wc.cell? ⟨gb249, 6, none⟩ = some (.slice A0_6 l0_6.length c0_6) := (blk_cell BK249.out 6).trans rfl
                            have hcz37_7 : wc.cell? ⟨gb249, 7, none⟩ = some (.bool a0_7) := (blk_cell BK249.out 7).trans rfl
                            have hcz37_8 : wc.cell? ⟨gb249, 8, none⟩ = some (.int .i64 a0_8) := (blk_cell BK249.out 8).trans rfl
                            have hcz37_9 : wc.cell? ⟨gb249, 9, none⟩ = some (.slice A0_9 l0_9.length c0_9) := (blk_cell BK249.out 9).trans rfl
                            have hcz37_10 : wc.cell? ⟨gb249, 10, none⟩ = some (.int .i64 a0_10) := (blk_cell BK249.out 10).trans rfl
                            have hcz37_11 : wc.cell? ⟨gb249, 11, none⟩ = some (.int .i64 a0_11) := (blk_cell BK249.out 11).trans rfl
                            have hcz37_12 : wc.cell? ⟨gb249, 12, none⟩ = some (.int .i64 a0_12) := (blk_cell BK249.out 12).trans rfl
                            have hcz37_13 : wc.cell? ⟨gb249, 13, none⟩ = some (.slice A0_13 l0_13.length c0_13) := (blk_cell BK249.out 13).trans rfl
                            have hfz37_0 := blk_frozen BK249.out 0
                            have hfz37_1 := blk_frozen BK249.out 1
                            have hfz37_2 := blk_frozen BK249.out 2
                            have hfz37_3 := blk_frozen BK249.out 3
                            have hfz37_4 := blk_frozen BK249.out 4
                            have hfz37_5 := blk_frozen BK249.out 5
                            have hfz37_6 := blk_frozen BK249.out 6
                            have hfz37_7 := blk_frozen BK249.out 7
                            have hfz37_8 := blk_frozen BK249.out 8
                            have hfz37_9 := blk_frozen BK249.out 9
                            have hfz37_10 := blk_frozen BK249.out 10
                            have hfz37_11 := blk_frozen BK249.out 11
                            have hfz37_12 := blk_frozen BK249.out 12
                            have hfz37_13 := blk_frozen BK249.out 13
                            go_wp2
                            go_meet
                            case rel => exact ⟨_, ((a0_5 != 0)), (by first | rfl | (simp; done) | (simp [*]; done)), H', ⟨by have := HJ3.out; have := HJ17.out; have := HJ23.out; first | omega | exact Nat.le_refl _⟩, ⟨by (with_reducible repeat (first | refine blk_drewN ?_ _ | refine blk_drew ?_ | refine blk_alloc ?_ _)); exact BK249.out⟩, ⟨by repeat (first | (with_reducible first | exact HB.out | apply below_alloc | apply pw_below_drewN | apply below_drew1 | refine below_set ?_ GE249.out) | exact HB.out)⟩⟩
                          · rw [if_neg c36] at H
                            have c36b0 : (a0_4 == 0) = false := beq_eq_false_iff_ne.mpr c36
                            have c36b1 : (a0_4 != 0) = true := bne_iff_ne.mpr c36
                            have H' := Aside0.mk H
                            clear H
                            have hcz38_0 : wc.cell? ⟨gb249, 0, none⟩ = some (.int .i64 a0_0) := (blk_cell BK249.out 0).trans rfl
                            have hcz38_1 : wc.cell? ⟨gb249, 1, none⟩ = some (.int .i64 a0_1) := (blk_cell BK249.out 1).trans rfl
                            have hcz38_2 : wc.cell? ⟨gb249, 2, none⟩ = some (.int .i64 a0_2) := (blk_cell BK249.out 2).trans rfl
                            have hcz38_3 : wc.cell? ⟨gb249, 3, none⟩ = some (.int .i64 a0_3) := (blk_cell BK249.out 3).trans rfl
                            have hcz38_4 : wc.cell? ⟨gb249, 4, none⟩ = some (.int .i64 a0_4) := (blk_cell BK249.out 4).trans rfl
                            have hcz38_5 : wc.cell? ⟨gb249, 5, none⟩ = some (.int .i64 a0_5) := (blk_cell BK249.out 5).trans rfl
                            have hcz38_6 : wc.cell? ⟨gb249, 6, none⟩ = some (.slice A0_6 l0_6.length c0_6) := (blk_cell BK249.out 6).trans rfl
                            have hcz38_7 : wc.cell? ⟨gb249, 7, none⟩ = some (.bool a0_7) := (blk_cell BK249.out 7).trans rfl
                            have hcz38_8 : wc.cell? ⟨gb249, 8, none⟩ = some (.int .i64 a0_8) := (blk_cell BK249.out 8).trans rfl
                            have hcz38_9 : wc.cell? ⟨gb249, 9, none⟩ = some (.slice A0_9 l0_9.length c0_9) := (blk_cell BK249.out 9).trans rfl
                            have hcz38_10 : wc.cell? ⟨gb249, 10, none⟩ = some (.int .i64 a0_10) := (blk_cell BK249.out 10).trans rfl
                            have hcz38_11 : wc.cell? ⟨gb249, 11, none⟩ = some (.int .i64 a0_11) := (blk_cell BK249.out 11).trans rfl
                            have hcz38_12 : wc.cell? ⟨gb249, 12, none⟩ = some (.int .i64 a0_12) := (blk_cell BK249.out 12).trans rfl
                            have hcz38_13 : wc.cell? ⟨gb249, 13, none⟩ = some (.slice A0_13 l0_13.length c0_13) := (blk_cell BK249.out 13).trans rfl
                            have hfz38_0 := blk_frozen BK249.out 0
                            have hfz38_1 := blk_frozen BK249.out 1
                            have hfz38_2 := blk_frozen BK249.out 2
                            have hfz38_3 := blk_frozen BK249.out 3
                            have hfz38_4 := blk_frozen BK249.out 4
                            have hfz38_5 := blk_frozen BK249.out 5
                            have hfz38_6 := blk_frozen BK249.out 6
                            have hfz38_7 := blk_frozen BK249.out 7
                            have hfz38_8 := blk_frozen BK249.out 8
                            have hfz38_9 := blk_frozen BK249.out 9
                            have hfz38_10 := blk_frozen BK249.out 10
                            have hfz38_11 := blk_frozen BK249.out 11
                            have hfz38_12 := blk_frozen BK249.out 12
                            have hfz38_13 := blk_frozen BK249.out 13
                            go_wp2
                            go_meet
                            case rel => exact ⟨_, (true), (by first | rfl | (simp; done) | (simp [*]; done)), H', ⟨by have := HJ3.out; have := HJ17.out; have := HJ23.out; first | omega | exact Nat.le_refl _⟩, ⟨by (with_reducible repeat (first | refine blk_drewN ?_ _ | refine blk_drew ?_ | refine blk_alloc ?_ _)); exact BK249.out⟩, ⟨by repeat (first | (with_reducible first | exact HB.out | apply below_alloc | apply pw_below_drewN | apply below_drew1 | refine below_set ?_ GE249.out) | exact HB.out)⟩⟩
                      case rest =>
                        clear HC33
                        try clear c1
                        try clear c2
                        try clear p2
                        try clear c3
                        try clear c4
                        try clear c7
                        try clear c7b0
                        try clear c7b1
                        try clear c9
                        try clear c11
                        try clear c17
                        try clear c19
                        try clear c19b0
                        try clear c19b1
                        try clear c23
                        try clear c25
                        try clear c25b0
                        try clear c25b1
                        try clear c27
                        try clear c27b0
                        try clear c27b1
                        try clear c28
                        try clear c28b0
                        try clear c28b1
                        try clear c32
                        try clear c34
                        try clear c34b0
                        try clear c34b1
                        try clear c36
                        try clear c36b0
                        try clear c36b1
                        try clear hcz13_0
                        try clear hcz13_1
                        try clear hcz13_10
                        try clear hcz13_11
                        try clear hcz13_12
                        try clear hcz13_13
                        try clear hcz13_2
                        try clear hcz13_3
                        try clear hcz13_4
                        try clear hcz13_5
                        try clear hcz13_6
                        try clear hcz13_7
                        try clear hcz13_8
                        try clear hcz13_9
                        try clear hcz14_0
                        try clear hcz14_1
                        try clear hcz14_10
                        try clear hcz14_11
                        try clear hcz14_12
                        try clear hcz14_13
                        try clear hcz14_2
                        try clear hcz14_3
                        try clear hcz14_4
                        try clear hcz14_5
                        try clear hcz14_6
                        try clear hcz14_7
                        try clear hcz14_8
                        try clear hcz14_9
                        try clear hcz15_0
                        try clear hcz15_1
                        try clear hcz15_10
                        try clear hcz15_11
                        try clear hcz15_12
                        try clear hcz15_13
                        try clear hcz15_2
                        try clear hcz15_3
                        try clear hcz15_4
                        try clear hcz15_5
                        try clear hcz15_6
                        try clear hcz15_7
                        try clear hcz15_8
                        try clear hcz15_9
                        try clear hcz16_0
                        try clear hcz16_1
                        try clear hcz16_10
                        try clear hcz16_11
                        try clear hcz16_12
                        try clear hcz16_13
                        try clear hcz16_2
                        try clear hcz16_3
                        try clear hcz16_4
                        try clear hcz16_5
                        try clear hcz16_6
                        try clear hcz16_7
                        try clear hcz16_8
                        try clear hcz16_9
                        try clear hcz21_0
                        try clear hcz21_1
                        try clear hcz21_10
                        try clear hcz21_11
                        try clear hcz21_12
                        try clear hcz21_13
                        try clear hcz21_2
                        try clear hcz21_3
                        try clear hcz21_4
                        try clear hcz21_5
                        try clear hcz21_6
                        try clear hcz21_7
                        try clear hcz21_8
                        try clear hcz21_9
                        try clear hcz22_0
                        try clear hcz22_1
                        try clear hcz22_10
                        try clear hcz22_11
                        try clear hcz22_12
                        try clear hcz22_13
                        try clear hcz22_2
                        try clear hcz22_3
                        try clear hcz22_4
                        try clear hcz22_5
                        try clear hcz22_6
                        try clear hcz22_7
                        try clear hcz22_8
                        try clear hcz22_9
                        try clear hcz26_0
                        try clear hcz26_1
                        try clear hcz26_10
                        try clear hcz26_11
                        try clear hcz26_12
                        try clear hcz26_13
                        try clear hcz26_2
                        try clear hcz26_3
                        try clear hcz26_4
                        try clear hcz26_5
                        try clear hcz26_6
                        try clear hcz26_7
                        try clear hcz26_8
                        try clear hcz26_9
                        try clear hcz29_0
                        try clear hcz29_1
                        try clear hcz29_10
                        try clear hcz29_11
                        try clear hcz29_12
                        try clear hcz29_13
                        try clear hcz29_2
                        try clear hcz29_3
                        try clear hcz29_4
                        try clear hcz29_5
                        try clear hcz29_6
                        try clear hcz29_7
                        try clear hcz29_8
                        try clear hcz29_9
                        try clear hcz30_0
                        try clear hcz30_1
                        try clear hcz30_10
                        try clear hcz30_11
                        try clear hcz30_12
                        try clear hcz30_13
                        try clear hcz30_2
                        try clear hcz30_3
                        try clear hcz30_4
                        try clear hcz30_5
                        try clear hcz30_6
                        try clear hcz30_7
                        try clear hcz30_8
                        try clear hcz30_9
                        try clear hcz31_0
                        try clear hcz31_1
                        try clear hcz31_10
                        try clear hcz31_11
                        try clear hcz31_12
                        try clear hcz31_13
                        try clear hcz31_2
                        try clear hcz31_3
                        try clear hcz31_4
                        try clear hcz31_5
                        try clear hcz31_6
                        try clear hcz31_7
                        try clear hcz31_8
                        try clear hcz31_9
                        try clear hcz35_0
                        try clear hcz35_1
                        try clear hcz35_10
                        try clear hcz35_11
                        try clear hcz35_12
                        try clear hcz35_13
                        try clear hcz35_2
                        try clear hcz35_3
                        try clear hcz35_4
                        try clear hcz35_5
                        try clear hcz35_6
                        try clear hcz35_7
                        try clear hcz35_8
                        try clear hcz35_9
                        try clear hcz37_0
                        try clear hcz37_1
                        try clear hcz37_10
                        try clear hcz37_11
                        try clear hcz37_12
                        try clear hcz37_13
                        try clear hcz37_2
                        try clear hcz37_3
                        try clear hcz37_4
                        try clear hcz37_5
                        try clear hcz37_6
                        try clear hcz37_7
                        try clear hcz37_8
                        try clear hcz37_9
                        try clear hcz38_0
                        try clear hcz38_1
                        try clear hcz38_10
                        try clear hcz38_11
                        try clear hcz38_12
                        try clear hcz38_13
                        try clear hcz38_2
                        try clear hcz38_3
                        try clear hcz38_4
                        try clear hcz38_5
                        try clear hcz38_6
                        try clear hcz38_7
                        try clear hcz38_8
                        try clear hcz38_9
                        try clear hcz6_0
                        try clear hcz6_1
                        try clear hcz6_10
                        try clear hcz6_11
                        try clear hcz6_12
                        try clear hcz6_13
                        try clear hcz6_2
                        try clear hcz6_3
                        try clear hcz6_4
                        try clear hcz6_5
                        try clear hcz6_6
                        try clear hcz6_7
                        try clear hcz6_8
                        try clear hcz6_9
                        try clear hfz13_0
                        try clear hfz13_1
                        try clear hfz13_10
                        try clear hfz13_11
                        try clear hfz13_12
                        try clear hfz13_13
                        try clear hfz13_2
                        try clear hfz13_3
                        try clear hfz13_4
                        try clear hfz13_5
                        try clear hfz13_6
                        try clear hfz13_7
                        try clear hfz13_8
                        try clear hfz13_9
                        try clear hfz14_0
                        try clear hfz14_1
                        try clear hfz14_10
                        try clear hfz14_11
                        try clear hfz14_12
                        try clear hfz14_13
                        try clear hfz14_2
                        try clear hfz14_3
                        try clear hfz14_4
                        try clear hfz14_5
                        try clear hfz14_6
                        try clear hfz14_7
                        try clear hfz14_8
                        try clear hfz14_9
                        try clear hfz15_0
                        try clear hfz15_1
                        try clear hfz15_10
                        try clear hfz15_11
                        try clear hfz15_12
                        try clear hfz15_13
                        try clear hfz15_2
                        try clear hfz15_3
                        try clear hfz15_4
                        try clear hfz15_5
                        try clear hfz15_6
                        try clear hfz15_7
                        try clear hfz15_8
                        try clear hfz15_9
                        try clear hfz16_0
                        try clear hfz16_1
                        try clear hfz16_10
                        try clear hfz16_11
                        try clear hfz16_12
                        try clear hfz16_13
                        try clear hfz16_2
                        try clear hfz16_3
                        try clear hfz16_4
                        try clear hfz16_5
                        try clear hfz16_6
                        try clear hfz16_7
                        try clear hfz16_8
                        try clear hfz16_9
                        try clear hfz21_0
                        try clear hfz21_1
                        try clear hfz21_10
                        try clear hfz21_11
                        try clear hfz21_12
                        try clear hfz21_13
                        try clear hfz21_2
                        try clear hfz21_3
                        try clear hfz21_4
                        try clear hfz21_5
                        try clear hfz21_6
                        try clear hfz21_7
                        try clear hfz21_8
                        try clear hfz21_9
                        try clear hfz22_0
                        try clear hfz22_1
                        try clear hfz22_10
                        try clear hfz22_11
                        try clear hfz22_12
                        try clear hfz22_13
                        try clear hfz22_2
                        try clear hfz22_3
                        try clear hfz22_4
                        try clear hfz22_5
                        try clear hfz22_6
                        try clear hfz22_7
                        try clear hfz22_8
                        try clear hfz22_9
                        try clear hfz26_0
                        try clear hfz26_1
                        try clear hfz26_10
                        try clear hfz26_11
                        try clear hfz26_12
                        try clear hfz26_13
                        try clear hfz26_2
                        try clear hfz26_3
                        try clear hfz26_4
                        try clear hfz26_5
                        try clear hfz26_6
                        try clear hfz26_7
                        try clear hfz26_8
                        try clear hfz26_9
                        try clear hfz29_0
                        try clear hfz29_1
                        try clear hfz29_10
                        try clear hfz29_11
                        try clear hfz29_12
                        try clear hfz29_13
                        try clear hfz29_2
                        try clear hfz29_3
                        try clear hfz29_4
                        try clear hfz29_5
                        try clear hfz29_6
                        try clear hfz29_7
                        try clear hfz29_8
                        try clear hfz29_9
                        try clear hfz30_0
                        try clear hfz30_1
                        try clear hfz30_10
                        try clear hfz30_11
                        try clear hfz30_12
                        try clear hfz30_13
                        try clear hfz30_2
                        try clear hfz30_3
                        try clear hfz30_4
                        try clear hfz30_5
                        try clear hfz30_6
                        try clear hfz30_7
                        try clear hfz30_8
                        try clear hfz30_9
                        try clear hfz31_0
                        try clear hfz31_1
                        try clear hfz31_10
                        try clear hfz31_11
                        try clear hfz31_12
                        try clear hfz31_13
                        try clear hfz31_2
                        try clear hfz31_3
                        try clear hfz31_4
                        try clear hfz31_5
                        try clear hfz31_6
                        try clear hfz31_7
                        try clear hfz31_8
                        try clear hfz31_9
                        try clear hfz35_0
                        try clear hfz35_1
                        try clear hfz35_10
                        try clear hfz35_11
                        try clear hfz35_12
                        try clear hfz35_13
                        try clear hfz35_2
                        try clear hfz35_3
                        try clear hfz35_4
                        try clear hfz35_5
                        try clear hfz35_6
                        try clear hfz35_7
                        try clear hfz35_8
                        try clear hfz35_9
                        try clear hfz37_0
                        try clear hfz37_1
                        try clear hfz37_10
                        try clear hfz37_11
                        try clear hfz37_12
                        try clear hfz37_13
                        try clear hfz37_2
                        try clear hfz37_3
                        try clear hfz37_4
                        try clear hfz37_5
                        try clear hfz37_6
                        try clear hfz37_7
                        try clear hfz37_8
                        try clear hfz37_9
                        try clear hfz38_0
                        try clear hfz38_1
                        try clear hfz38_10
                        try clear hfz38_11
                        try clear hfz38_12
                        try clear hfz38_13
                        try clear hfz38_2
                        try clear hfz38_3
                        try clear hfz38_4
                        try clear hfz38_5
                        try clear hfz38_6
                        try clear hfz38_7
                        try clear hfz38_8
                        try clear hfz38_9
                        try clear hfz6_0
                        try clear hfz6_1
                        try clear hfz6_10
                        try clear hfz6_11
                        try clear hfz6_12
                        try clear hfz6_13
                        try clear hfz6_2
                        try clear hfz6_3
                        try clear hfz6_4
                        try clear hfz6_5
                        try clear hfz6_6
                        try clear hfz6_7
                        try clear hfz6_8
                        try clear hfz6_9
                        try clear p2
                        obtain ⟨kq, x61_32, rfl, HA, HJ32, BK249, HB⟩ := hcut
                        cases kq with
                        | zero => exact absurd HA.out (by simp [impl_MessageFault.j3])
                        | succ kj32 =>
                          have H := HA.out
                          clear HA
                          simp only [impl_MessageFault.j3] at H
                          by_cases c39 : x61_32 = true
                          · subst c39
                            have H1 : (some 1) = some r := by rw [if_pos rfl] at H; first | done | exact H
                            clear H
                            have H := H1
                            clear H1
                            obtain rfl := Option.some.inj H
                            go_wp2
                            go_ret
                            exact ⟨by first | rfl | (simp [errW_none, errW_some] <;> rfl) | (simp [*, errW_none, errW_some] <;> rfl), by repeat (first | (with_reducible first | exact HB.out | apply below_alloc | apply pw_below_drewN | apply below_drew1 | refine below_set ?_ GE249.out) | exact HB.out)⟩
                          · replace c39 := Bool.eq_false_iff.mpr c39
                            subst c39
                            have H1 : (if a0_0 = 2 then ((impl_UpdateFault.f kj32 l0_6 a0_7 a0_8 l0_9 a0_10 a0_11 a0_12 l0_13).bind fun t255 => (some t255)) else ((impl_Update_isZero.f l0_6 a0_7 a0_8 l0_9 a0_10 a0_11 a0_12 l0_13).bind fun t256 => (if t256 = true then ((impl_UpdateFault.f kj32 l0_6 a0_7 a0_8 l0_9 a0_10 a0_11 a0_12 l0_13).bind fun t257 => (some t257)) else (some 1)))) = some r := by rw [if_neg (show ¬ (false = true) by decide)] at H; first | done | exact H
                            clear H
                            have H := H1
                            clear H1
                            by_cases c40 : a0_0 = 2
                            · rw [if_pos c40] at H
                              have c40b0 : (a0_0 == 2) = true := beq_iff_eq.mpr c40
                              have c40b1 : (a0_0 != 2) = false := bne_eq_false_iff_eq.mpr c40
                              clear c40
                              replace H := Option.bind_eq_some_iff.mp H
                              obtain ⟨t255, A410, H⟩ := H
                              replace H : (some t255) = some r := H
                              have A41 := Aside0.mk A410
                              clear A410
                              obtain rfl := Option.some.inj H
                              have hcz42_0 : wc.cell? ⟨gb249, 0, none⟩ = some (.int .i64 a0_0) := (blk_cell BK249.out 0).trans rfl
                              have hcz42_1 : wc.cell? ⟨gb249, 1, none⟩ = some (.int .i64 a0_1) := (blk_cell BK249.out 1).trans rfl
                              have hcz42_2 : wc.cell? ⟨gb249, 2, none⟩ = some (.int .i64 a0_2) := (blk_cell BK249.out 2).trans rfl
                              have hcz42_3 : wc.cell? ⟨gb249, 3, none⟩ = some (.int .i64 a0_3) := (blk_cell BK249.out 3).trans rfl
                              have hcz42_4 : wc.cell? ⟨gb249, 4, none⟩ = some (.int .i64 a0_4) := (blk_cell BK249.out 4).trans rfl
                              have hcz42_5 : wc.cell? ⟨gb249, 5, none⟩ = some (.int .i64 a0_5) := (blk_cell BK249.out 5).trans rfl
                              have hcz42_6 : wc.cell? ⟨gb249, 6, none⟩ = some (.slice A0_6 l0_6.length c0_6) := (blk_cell BK249.out 6).trans rfl
                              have hcz42_7 : wc.cell? ⟨gb249, 7, none⟩ = some (.bool a0_7) := (blk_cell BK249.out 7).trans rfl
                              have hcz42_8 : wc.cell? ⟨gb249, 8, none⟩ = some (.int .i64 a0_8) := (blk_cell BK249.out 8).trans rfl
                              have hcz42_9 : wc.cell? ⟨gb249, 9, none⟩ = some (.slice A0_9 l0_9.length c0_9) := (blk_cell BK249.out 9).trans rfl
                              have hcz42_10 : wc.cell? ⟨gb249, 10, none⟩ = some (.int .i64 a0_10) := (blk_cell BK249.out 10).trans rfl
                              have hcz42_11 : wc.cell? ⟨gb249, 11, none⟩ = some (.int .i64 a0_11) := (blk_cell BK249.out 11).trans rfl
                              have hcz42_12 : wc.cell? ⟨gb249, 12, none⟩ = some (.int .i64 a0_12) := (blk_cell BK249.out 12).trans rfl
                              have hcz42_13 : wc.cell? ⟨gb249, 13, none⟩ = some (.slice A0_13 l0_13.length c0_13) := (blk_cell BK249.out 13).trans rfl
                              have hfz42_0 := blk_frozen BK249.out 0
                              have hfz42_1 := blk_frozen BK249.out 1
                              have hfz42_2 := blk_frozen BK249.out 2
                              have hfz42_3 := blk_frozen BK249.out 3
                              have hfz42_4 := blk_frozen BK249.out 4
                              have hfz42_5 := blk_frozen BK249.out 5
                              have hfz42_6 := blk_frozen BK249.out 6
                              have hfz42_7 := blk_frozen BK249.out 7
                              have hfz42_8 := blk_frozen BK249.out 8
                              have hfz42_9 := blk_frozen BK249.out 9
                              have hfz42_10 := blk_frozen BK249.out 10
                              have hfz42_11 := blk_frozen BK249.out 11
                              have hfz42_12 := blk_frozen BK249.out 12
                              have hfz42_13 := blk_frozen BK249.out 13
                              go_wp2_with (first | ((with_reducible refine gate_callee (f := 38) rfl ?_); refine goesL_ (some 87) rfl rfl Try.func38 (by kernel_rfl) rfl #[.agg #[.slice A0_6 l0_6.length c0_6, .bool a0_7, .int .i64 a0_8, .slice A0_9 l0_9.length c0_9, .int .i64 a0_10, .int .i64 a0_11, .int .i64 a0_12, .slice A0_13 l0_13.length c0_13]] rfl (by (try simp only [List.map_toArray, List.map_cons, List.map_nil]); first | done | rfl | (simp only [List.length_drop, List.length_take]; rfl)) ?_; (with_reducible refine (impl_UpdateFault.calls kj32 (fun k_ => k_ < w.heap.size) _ _ l0_6 a0_7 a0_8 _ _ l0_9 a0_10 a0_11 a0_12 (fun k_ => k_ < w.heap.size) _ _ l0_13 t255 _ ?side1 ?side2 ?side3 ?side4 A41.out).mono ?_); (case side1 => exact Kd.V_mk HC0_6.out (Kd.F_below (Kd.C_F k139_heap HR0_6.out) (by repeat (first | (with_reducible first | exact HB.out | apply below_alloc | apply pw_below_drewN | apply below_drew1 | refine below_set ?_ GE249.out) | exact HB.out)))); (case side2 => repeat (first | exact (Kd.C_below HR0_9.out HB.out) | (with_reducible refine Kd.C_alloc ?_ _) | (with_reducible refine Kd.C_drewN ?_ _) | (with_reducible refine Kd.C_drew ?_))); (case side3 => exact HC0_9.out); (case side4 => exact Kd.V_mk HC0_13.out (Kd.F_below (Kd.C_F k139_heap HR0_13.out) (by repeat (first | (with_reducible first | exact HB.out | apply below_alloc | apply pw_below_drewN | apply below_drew1 | refine below_set ?_ GE249.out) | exact HB.out)))); rintro e w43 ⟨rfl, hb⟩; refine ⟨_, rfl, ?_⟩; have n0_ := Aside0.mk (blk_below (g := gb249) (o := .cells #[.int .i64 a0_0, .int .i64 a0_1, .int .i64 a0_2, .int .i64 a0_3, .int .i64 a0_4, .int .i64 a0_5, .slice A0_6 l0_6.length c0_6, .bool a0_7, .int .i64 a0_8, .slice A0_9 l0_9.length c0_9, .int .i64 a0_10, .int .i64 a0_11, .int .i64 a0_12, .slice A0_13 l0_13.length c0_13] 84 (0, 0)) (by (with_reducible repeat (first | refine blk_drewN ?_ _ | refine blk_drew ?_ | refine blk_alloc ?_ _)); exact BK249.out) hb); have n1_ := Aside0.mk (below_step (by repeat (first | (with_reducible first | exact HB.out | apply below_alloc | apply pw_below_drewN | apply below_drew1 | refine below_set ?_ GE249.out) | exact HB.out)) hb); clear BK249; clear HB; have BK249 := n0_; have HB := n1_; clear n0_ n1_; (try clear hb); (try clear hb2); (try clear hk); (try clear hi)))
                              go_ret
                              exact ⟨by first | rfl | (simp [errW_none, errW_some] <;> rfl) | (simp [*, errW_none, errW_some] <;> rfl), by repeat (first | (with_reducible first | exact HB.out | apply below_alloc | apply pw_below_drewN | apply below_drew1 | refine below_set ?_ GE249.out) | exact HB.out)⟩
                            · rw [if_neg c40] at H
                              have c40b0 : (a0_0 == 2) = false := beq_eq_false_iff_ne.mpr c40
                              have c40b1 : (a0_0 != 2) = true := bne_iff_ne.mpr c40
                              replace H := Option.bind_eq_some_iff.mp H
                              obtain ⟨t256, A440, H⟩ := H
                              replace H : (if t256 = true then ((impl_UpdateFault.f kj32 l0_6 a0_7 a0_8 l0_9 a0_10 a0_11 a0_12 l0_13).bind fun t257 => (some t257)) else (some 1)) = some r := H
                              have A44 := Aside0.mk A440
                              clear A440
                              by_cases c45 : t256 = true
                              · subst c45
                                have H1 : ((impl_UpdateFault.f kj32 l0_6 a0_7 a0_8 l0_9 a0_10 a0_11 a0_12 l0_13).bind fun t257 => (some t257)) = some r := by rw [if_pos rfl] at H; first | done | exact H
                                clear H
                                have H := H1
                                clear H1
                                replace H := Option.bind_eq_some_iff.mp H
                                obtain ⟨t257, A460, H⟩ := H
                                replace H : (some t257) = some r := H
                                have A46 := Aside0.mk A460
                                clear A460
                                obtain rfl := Option.some.inj H
                                have hcz47_0 : wc.cell? ⟨gb249, 0, none⟩ = some (.int .i64 a0_0) := (blk_cell BK249.out 0).trans rfl
                                have hcz47_1 : wc.cell? ⟨gb249, 1, none⟩ = some (.int .i64 a0_1) := (blk_cell BK249.out 1).trans rfl
                                have hcz47_2 : wc.cell? ⟨gb249, 2, none⟩ = some (.int .i64 a0_2) := (blk_cell BK249.out 2).trans rfl
                                have hcz47_3 : wc.cell? ⟨gb249, 3, none⟩ = some (.int .i64 a0_3) := (blk_cell BK249.out 3).trans rfl
                                have hcz47_4 : wc.cell? ⟨gb249, 4, none⟩ = some (.int .i64 a0_4) := (blk_cell BK249.out 4).trans rfl
                                have hcz47_5 : wc.cell? ⟨gb249, 5, none⟩ = some (.int .i64 a0_5) := (blk_cell BK249.out 5).trans rfl
                                have hcz47_6 : wc.cell? ⟨gb249, 6, none⟩ = some (.slice A0_6 l0_6.length c0_6) := (blk_cell BK249.out 6).trans rfl
                                have hcz47_7 : wc.cell? ⟨gb249, 7, none⟩ = some (.bool a0_7) := (blk_cell BK249.out 7).trans rfl
                                have hcz47_8 : wc.cell? ⟨gb249, 8, none⟩ = some (.int .i64 a0_8) := (blk_cell BK249.out 8).trans rfl
                                have hcz47_9 : wc.cell? ⟨gb249, 9, none⟩ = some (.slice A0_9 l0_9.length c0_9) := (blk_cell BK249.out 9).trans rfl
                                have hcz47_10 : wc.cell? ⟨gb249, 10, none⟩ = some (.int .i64 a0_10) := (blk_cell BK249.out 10).trans rfl
                                have hcz47_11 : wc.cell? ⟨gb249, 11, none⟩ = some (.int .i64 a0_11) := (blk_cell BK249.out 11).trans rfl
                                have hcz47_12 : wc.cell? ⟨gb249, 12, none⟩ = some (.int .i64 a0_12) := (blk_cell BK249.out 12).trans rfl
                                have hcz47_13 : wc.cell? ⟨gb249, 13, none⟩ = some (.slice A0_13 l0_13.length c0_13) := (blk_cell BK249.out 13).trans rfl
                                have hfz47_0 := blk_frozen BK249.out 0
                                have hfz47_1 := blk_frozen BK249.out 1
                                have hfz47_2 := blk_frozen BK249.out 2
                                have hfz47_3 := blk_frozen BK249.out 3
                                have hfz47_4 := blk_frozen BK249.out 4
                                have hfz47_5 := blk_frozen BK249.out 5
                                have hfz47_6 := blk_frozen BK249.out 6
                                have hfz47_7 := blk_frozen BK249.out 7
                                have hfz47_8 := blk_frozen BK249.out 8
                                have hfz47_9 := blk_frozen BK249.out 9
                                have hfz47_10 := blk_frozen BK249.out 10
                                have hfz47_11 := blk_frozen BK249.out 11
                                have hfz47_12 := blk_frozen BK249.out 12
                                have hfz47_13 := blk_frozen BK249.out 13
                                go_wp2_with (first | (go_at_call 108; (with_reducible refine (impl_Update_isZero.calls _ _ l0_6 a0_7 a0_8 _ _ l0_9 a0_10 a0_11 a0_12 _ _ l0_13 true _ ?side1 ?side2 ?side3 ?side4 ?side5 ?side6 A44.out).mono ?_); (case side1 => repeat (first | exact (Kd.C_below HR0_6.out HB.out) | (with_reducible refine Kd.C_alloc ?_ _) | (with_reducible refine Kd.C_drewN ?_ _) | (with_reducible refine Kd.C_drew ?_))); (case side2 => exact HC0_6.out); (case side3 => repeat (first | exact (Kd.C_below HR0_9.out HB.out) | (with_reducible refine Kd.C_alloc ?_ _) | (with_reducible refine Kd.C_drewN ?_ _) | (with_reducible refine Kd.C_drew ?_))); (case side4 => exact HC0_9.out); (case side5 => repeat (first | exact (Kd.C_below HR0_13.out HB.out) | (with_reducible refine Kd.C_alloc ?_ _) | (with_reducible refine Kd.C_drewN ?_ _) | (with_reducible refine Kd.C_drew ?_))); (case side6 => exact HC0_13.out); rintro e w48 ⟨rfl, hb⟩; have n0_ := Aside0.mk (blk_below (g := gb249) (o := .cells #[.int .i64 a0_0, .int .i64 a0_1, .int .i64 a0_2, .int .i64 a0_3, .int .i64 a0_4, .int .i64 a0_5, .slice A0_6 l0_6.length c0_6, .bool a0_7, .int .i64 a0_8, .slice A0_9 l0_9.length c0_9, .int .i64 a0_10, .int .i64 a0_11, .int .i64 a0_12, .slice A0_13 l0_13.length c0_13] 84 (0, 0)) (by (with_reducible repeat (first | refine blk_drewN ?_ _ | refine blk_drew ?_ | refine blk_alloc ?_ _)); exact BK249.out) hb); have n1_ := Aside0.mk (below_step (by repeat (first | (with_reducible first | exact HB.out | apply below_alloc | apply pw_below_drewN | apply below_drew1 | refine below_set ?_ GE249.out) | exact HB.out)) hb); clear BK249; clear HB; have BK249 := n0_; have HB := n1_; clear n0_ n1_; (try clear hb); (try clear hb2); (try clear hk); (try clear hi); have hcz49_0 : w48.cell? ⟨gb249, 0, none⟩ = some (.int .i64 a0_0) := (blk_cell BK249.out 0).trans rfl; have hcz49_1 : w48.cell? ⟨gb249, 1, none⟩ = some (.int .i64 a0_1) := (blk_cell BK249.out 1).trans rfl; have hcz49_2 : w48.cell? ⟨gb249, 2, none⟩ = some (.int .i64 a0_2) := (blk_cell BK249.out 2).trans rfl; have hcz49_3 : w48.cell? ⟨gb249, 3, none⟩ = some (.int .i64 a0_3) := (blk_cell BK249.out 3).trans rfl; have hcz49_4 : w48.cell? ⟨gb249, 4, none⟩ = some (.int .i64 a0_4) := (blk_cell BK249.out 4).trans rfl; have hcz49_5 : w48.cell? ⟨gb249, 5, none⟩ = some (.int .i64 a0_5) := (blk_cell BK249.out 5).trans rfl; have hcz49_6 : w48.cell? ⟨gb249, 6, none⟩ = some (.slice A0_6 l0_6.length c0_6) := (blk_cell BK249.out 6).trans rfl; have hcz49_7 : w48.cell? ⟨gb249, 7, none⟩ = some (.bool a0_7) := (blk_cell BK249.out 7).trans rfl; have hcz49_8 : w48.cell? ⟨gb249, 8, none⟩ = some (.int .i64 a0_8) := (blk_cell BK249.out 8).trans rfl; have hcz49_9 : w48.cell? ⟨gb249, 9, none⟩ = some (.slice A0_9 l0_9.length c0_9) := (blk_cell BK249.out 9).trans rfl; have hcz49_10 : w48.cell? ⟨gb249, 10, none⟩ = some (.int .i64 a0_10) := (blk_cell BK249.out 10).trans rfl; have hcz49_11 : w48.cell? ⟨gb249, 11, none⟩ = some (.int .i64 a0_11) := (blk_cell BK249.out 11).trans rfl; have hcz49_12 : w48.cell? ⟨gb249, 12, none⟩ = some (.int .i64 a0_12) := (blk_cell BK249.out 12).trans rfl; have hcz49_13 : w48.cell? ⟨gb249, 13, none⟩ = some (.slice A0_13 l0_13.length c0_13) := (blk_cell BK249.out 13).trans rfl; have hfz49_0 := blk_frozen BK249.out 0; have hfz49_1 := blk_frozen BK249.out 1; have hfz49_2 := blk_frozen BK249.out 2; have hfz49_3 := blk_frozen BK249.out 3; have hfz49_4 := blk_frozen BK249.out 4; have hfz49_5 := blk_frozen BK249.out 5; have hfz49_6 := blk_frozen BK249.out 6; have hfz49_7 := blk_frozen BK249.out 7; have hfz49_8 := blk_frozen BK249.out 8; have hfz49_9 := blk_frozen BK249.out 9; have hfz49_10 := blk_frozen BK249.out 10; have hfz49_11 := blk_frozen BK249.out 11; have hfz49_12 := blk_frozen BK249.out 12; have hfz49_13 := blk_frozen BK249.out 13) | ((with_reducible refine gate_callee (f := 38) rfl ?_); refine goesL_ (some 87) rfl rfl Try.func38 (by kernel_rfl) rfl #[.agg #[.slice A0_6 l0_6.length c0_6, .bool a0_7, .int .i64 a0_8, .slice A0_9 l0_9.length c0_9, .int .i64 a0_10, .int .i64 a0_11, .int .i64 a0_12, .slice A0_13 l0_13.length c0_13]] rfl (by (try simp only [List.map_toArray, List.map_cons, List.map_nil]); first | done | rfl | (simp only [List.length_drop, List.length_take]; rfl)) ?_; (with_reducible refine (impl_UpdateFault.calls kj32 (fun k_ => k_ < w.heap.size) _ _ l0_6 a0_7 a0_8 _ _ l0_9 a0_10 a0_11 a0_12 (fun k_ => k_ < w.heap.size) _ _ l0_13 t257 _ ?side1 ?side2 ?side3 ?side4 A46.out).mono ?_); (case side1 => exact Kd.V_mk HC0_6.out (Kd.F_below (Kd.C_F k139_heap HR0_6.out) (by repeat (first | (with_reducible first | exact HB.out | apply below_alloc | apply pw_below_drewN | apply below_drew1 | refine below_set ?_ GE249.out) | exact HB.out)))); (case side2 => repeat (first | exact (Kd.C_below HR0_9.out HB.out) | (with_reducible refine Kd.C_alloc ?_ _) | (with_reducible refine Kd.C_drewN ?_ _) | (with_reducible refine Kd.C_drew ?_))); (case side3 => exact HC0_9.out); (case side4 => exact Kd.V_mk HC0_13.out (Kd.F_below (Kd.C_F k139_heap HR0_13.out) (by repeat (first | (with_reducible first | exact HB.out | apply below_alloc | apply pw_below_drewN | apply below_drew1 | refine below_set ?_ GE249.out) | exact HB.out)))); rintro e w50 ⟨rfl, hb⟩; refine ⟨_, rfl, ?_⟩; have n0_ := Aside0.mk (blk_below (g := gb249) (o := .cells #[.int .i64 a0_0, .int .i64 a0_1, .int .i64 a0_2, .int .i64 a0_3, .int .i64 a0_4, .int .i64 a0_5, .slice A0_6 l0_6.length c0_6, .bool a0_7, .int .i64 a0_8, .slice A0_9 l0_9.length c0_9, .int .i64 a0_10, .int .i64 a0_11, .int .i64 a0_12, .slice A0_13 l0_13.length c0_13] 84 (0, 0)) (by (with_reducible repeat (first | refine blk_drewN ?_ _ | refine blk_drew ?_ | refine blk_alloc ?_ _)); exact BK249.out) hb); have n1_ := Aside0.mk (below_step (by repeat (first | (with_reducible first | exact HB.out | apply below_alloc | apply pw_below_drewN | apply below_drew1 | refine below_set ?_ GE249.out) | exact HB.out)) hb); clear BK249; clear HB; have BK249 := n0_; have HB := n1_; clear n0_ n1_; (try clear hb); (try clear hb2); (try clear hk); (try clear hi)))
                                go_ret
                                exact ⟨by first | rfl | (simp [errW_none, errW_some] <;> rfl) | (simp [*, errW_none, errW_some] <;> rfl), by repeat (first | (with_reducible first | exact HB.out | apply below_alloc | apply pw_below_drewN | apply below_drew1 | refine below_set ?_ GE249.out) | exact HB.out)⟩
                              · replace c45 := Bool.eq_false_iff.mpr c45
                                subst c45
                                have H1 : (some 1) = some r := by rw [if_neg (show ¬ (false = true) by decide)] at H; first | done | exact H
                                clear H
                                have H := H1
                                clear H1
                                obtain rfl := Option.some.inj H
                                have hcz51_0 : wc.cell? ⟨gb249, 0, none⟩ = some (.int .i64 a0_0) := (blk_cell BK249.out 0).trans rfl
                                have hcz51_1 : wc.cell? ⟨gb249, 1, none⟩ = some (.int .i64 a0_1) := (blk_cell BK249.out 1).trans rfl
                                have hcz51_2 : wc.cell? ⟨gb249, 2, none⟩ = some (.int .i64 a0_2) := (blk_cell BK249.out 2).trans rfl
                                have hcz51_3 : wc.cell? ⟨gb249, 3, none⟩ = some (.int .i64 a0_3) := (blk_cell BK249.out 3).trans rfl
                                have hcz51_4 : wc.cell? ⟨gb249, 4, none⟩ = some (.int .i64 a0_4) := (blk_cell BK249.out 4).trans rfl
                                have hcz51_5 : wc.cell? ⟨gb249, 5, none⟩ = some (.int .i64 a0_5) := (blk_cell BK249.out 5).trans rfl
                                have hcz51_6 : wc.cell? ⟨gb249, 6, none⟩ = some (.slice A0_6 l0_6.length c0_6) := (blk_cell BK249.out 6).trans rfl
                                have hcz51_7 : wc.cell? ⟨gb249, 7, none⟩ = some (.bool a0_7) := (blk_cell BK249.out 7).trans rfl
                                have hcz51_8 : wc.cell? ⟨gb249, 8, none⟩ = some (.int .i64 a0_8) := (blk_cell BK249.out 8).trans rfl
                                have hcz51_9 : wc.cell? ⟨gb249, 9, none⟩ = some (.slice A0_9 l0_9.length c0_9) := (blk_cell BK249.out 9).trans rfl
                                have hcz51_10 : wc.cell? ⟨gb249, 10, none⟩ = some (.int .i64 a0_10) := (blk_cell BK249.out 10).trans rfl
                                have hcz51_11 : wc.cell? ⟨gb249, 11, none⟩ = some (.int .i64 a0_11) := (blk_cell BK249.out 11).trans rfl
                                have hcz51_12 : wc.cell? ⟨gb249, 12, none⟩ = some (.int .i64 a0_12) := (blk_cell BK249.out 12).trans rfl
                                have hcz51_13 : wc.cell? ⟨gb249, 13, none⟩ = some (.slice A0_13 l0_13.length c0_13) := (blk_cell BK249.out 13).trans rfl
                                have hfz51_0 := blk_frozen BK249.out 0
                                have hfz51_1 := blk_frozen BK249.out 1
                                have hfz51_2 := blk_frozen BK249.out 2
                                have hfz51_3 := blk_frozen BK249.out 3
                                have hfz51_4 := blk_frozen BK249.out 4
                                have hfz51_5 := blk_frozen BK249.out 5
                                have hfz51_6 := blk_frozen BK249.out 6
                                have hfz51_7 := blk_frozen BK249.out 7
                                have hfz51_8 := blk_frozen BK249.out 8
                                have hfz51_9 := blk_frozen BK249.out 9
                                have hfz51_10 := blk_frozen BK249.out 10
                                have hfz51_11 := blk_frozen BK249.out 11
                                have hfz51_12 := blk_frozen BK249.out 12
                                have hfz51_13 := blk_frozen BK249.out 13
                                go_wp2_with (first | (go_at_call 108; (with_reducible refine (impl_Update_isZero.calls _ _ l0_6 a0_7 a0_8 _ _ l0_9 a0_10 a0_11 a0_12 _ _ l0_13 false _ ?side1 ?side2 ?side3 ?side4 ?side5 ?side6 A44.out).mono ?_); (case side1 => repeat (first | exact (Kd.C_below HR0_6.out HB.out) | (with_reducible refine Kd.C_alloc ?_ _) | (with_reducible refine Kd.C_drewN ?_ _) | (with_reducible refine Kd.C_drew ?_))); (case side2 => exact HC0_6.out); (case side3 => repeat (first | exact (Kd.C_below HR0_9.out HB.out) | (with_reducible refine Kd.C_alloc ?_ _) | (with_reducible refine Kd.C_drewN ?_ _) | (with_reducible refine Kd.C_drew ?_))); (case side4 => exact HC0_9.out); (case side5 => repeat (first | exact (Kd.C_below HR0_13.out HB.out) | (with_reducible refine Kd.C_alloc ?_ _) | (with_reducible refine Kd.C_drewN ?_ _) | (with_reducible refine Kd.C_drew ?_))); (case side6 => exact HC0_13.out); rintro e w52 ⟨rfl, hb⟩; have n0_ := Aside0.mk (blk_below (g := gb249) (o := .cells #[.int .i64 a0_0, .int .i64 a0_1, .int .i64 a0_2, .int .i64 a0_3, .int .i64 a0_4, .int .i64 a0_5, .slice A0_6 l0_6.length c0_6, .bool a0_7, .int .i64 a0_8, .slice A0_9 l0_9.length c0_9, .int .i64 a0_10, .int .i64 a0_11, .int .i64 a0_12, .slice A0_13 l0_13.length c0_13] 84 (0, 0)) (by (with_reducible repeat (first | refine blk_drewN ?_ _ | refine blk_drew ?_ | refine blk_alloc ?_ _)); exact BK249.out) hb); have n1_ := Aside0.mk (below_step (by repeat (first | (with_reducible first | exact HB.out | apply below_alloc | apply pw_below_drewN | apply below_drew1 | refine below_set ?_ GE249.out) | exact HB.out)) hb); clear BK249; clear HB; have BK249 := n0_; have HB := n1_; clear n0_ n1_; (try clear hb); (try clear hb2); (try clear hk); (try clear hi)))
                                go_ret
                                exact ⟨by first | rfl | (simp [errW_none, errW_some] <;> rfl) | (simp [*, errW_none, errW_some] <;> rfl), by repeat (first | (with_reducible first | exact HB.out | apply below_alloc | apply pw_below_drewN | apply below_drew1 | refine below_set ?_ GE249.out) | exact HB.out)⟩
  · replace c3 := Bool.eq_false_iff.mpr c3
    subst c3
    have H1 : (some 1) = some r := by rw [if_neg (show ¬ (false = true) by decide)] at H; first | done | exact H
    clear H
    have H := H1
    clear H1
    obtain rfl := Option.some.inj H
    go_enter Try.func43, Try.ntmps43
    go_wp2_with (first | ((with_reducible refine gate_dst (N := 1) rfl ?_); refine box_event ?hg (N := 1) ?hd (cs := #[.int .i64 a0_0, .int .i64 a0_1, .int .i64 a0_2, .int .i64 a0_3, .int .i64 a0_4, .int .i64 a0_5, .slice A0_6 l0_6.length c0_6, .bool a0_7, .int .i64 a0_8, .slice A0_9 l0_9.length c0_9, .int .i64 a0_10, .int .i64 a0_11, .int .i64 a0_12, .slice A0_13 l0_13.length c0_13]) (t := 84) ?hr ?_; (case hd => rfl); (case hg => rfl); (case hr => first | (go_simp; done) | (go_simp; rfl)); intro gb249 hg w53 hbox hb; have n0_ := Aside0.mk (below_step (by repeat (first | (with_reducible first | exact HB.out | apply below_alloc | apply pw_below_drewN | apply below_drew1) | exact HB.out)) hb); have n1_ := Aside0.mk (hbox); have n2_ := Aside0.mk ((by rw [hg]; exact (below_size (by repeat (first | (with_reducible first | exact HB.out | apply below_alloc | apply pw_below_drewN | apply below_drew1) | exact HB.out))) : w.heap.size ≤ gb249)); have n3_ := Aside0.mk ((by rw [hg]; exact (below_size (by repeat (first | (with_reducible first | exact HB.out | apply below_alloc | apply pw_below_drewN | apply below_drew1) | exact HB.out))) : w.heap.size ≤ gb249)); clear HB; have HB := n0_; have BK249 := n1_; have GW249 := n2_; have GE249 := n3_; clear n0_ n1_ n2_ n3_; clear hb hbox hg; have hcz54_0 : w53.cell? ⟨gb249, 0, none⟩ = some (.int .i64 a0_0) := (blk_cell BK249.out 0).trans rfl; have hcz54_1 : w53.cell? ⟨gb249, 1, none⟩ = some (.int .i64 a0_1) := (blk_cell BK249.out 1).trans rfl; have hcz54_2 : w53.cell? ⟨gb249, 2, none⟩ = some (.int .i64 a0_2) := (blk_cell BK249.out 2).trans rfl; have hcz54_3 : w53.cell? ⟨gb249, 3, none⟩ = some (.int .i64 a0_3) := (blk_cell BK249.out 3).trans rfl; have hcz54_4 : w53.cell? ⟨gb249, 4, none⟩ = some (.int .i64 a0_4) := (blk_cell BK249.out 4).trans rfl; have hcz54_5 : w53.cell? ⟨gb249, 5, none⟩ = some (.int .i64 a0_5) := (blk_cell BK249.out 5).trans rfl; have hcz54_6 : w53.cell? ⟨gb249, 6, none⟩ = some (.slice A0_6 l0_6.length c0_6) := (blk_cell BK249.out 6).trans rfl; have hcz54_7 : w53.cell? ⟨gb249, 7, none⟩ = some (.bool a0_7) := (blk_cell BK249.out 7).trans rfl; have hcz54_8 : w53.cell? ⟨gb249, 8, none⟩ = some (.int .i64 a0_8) := (blk_cell BK249.out 8).trans rfl; have hcz54_9 : w53.cell? ⟨gb249, 9, none⟩ = some (.slice A0_9 l0_9.length c0_9) := (blk_cell BK249.out 9).trans rfl; have hcz54_10 : w53.cell? ⟨gb249, 10, none⟩ = some (.int .i64 a0_10) := (blk_cell BK249.out 10).trans rfl; have hcz54_11 : w53.cell? ⟨gb249, 11, none⟩ = some (.int .i64 a0_11) := (blk_cell BK249.out 11).trans rfl; have hcz54_12 : w53.cell? ⟨gb249, 12, none⟩ = some (.int .i64 a0_12) := (blk_cell BK249.out 12).trans rfl; have hcz54_13 : w53.cell? ⟨gb249, 13, none⟩ = some (.slice A0_13 l0_13.length c0_13) := (blk_cell BK249.out 13).trans rfl; have hfz54_0 := blk_frozen BK249.out 0; have hfz54_1 := blk_frozen BK249.out 1; have hfz54_2 := blk_frozen BK249.out 2; have hfz54_3 := blk_frozen BK249.out 3; have hfz54_4 := blk_frozen BK249.out 4; have hfz54_5 := blk_frozen BK249.out 5; have hfz54_6 := blk_frozen BK249.out 6; have hfz54_7 := blk_frozen BK249.out 7; have hfz54_8 := blk_frozen BK249.out 8; have hfz54_9 := blk_frozen BK249.out 9; have hfz54_10 := blk_frozen BK249.out 10; have hfz54_11 := blk_frozen BK249.out 11; have hfz54_12 := blk_frozen BK249.out 12; have hfz54_13 := blk_frozen BK249.out 13) | ((with_reducible refine gate_callee (f := 74) rfl ?_); refine goesL_ (some 6) rfl rfl Try.func74 (by kernel_rfl) rfl #[.int .i64 a0_0, .int .i64 1, .int .i64 4] rfl (by (try simp only [List.map_toArray, List.map_cons, List.map_nil]); first | done | rfl | (simp only [List.length_drop, List.length_take]; rfl)) ?_; (with_reducible refine (impl_in.calls a0_0 1 4 false _ A2.out).mono ?_); rintro e w' ⟨rfl, ⟨nd, rfl⟩⟩; refine ⟨_, rfl, ?_⟩))
    go_ret
    exact ⟨by first | rfl | (simp [errW_none, errW_some] <;> rfl) | (simp [*, errW_none, errW_some] <;> rfl), by repeat (first | (with_reducible first | exact HB.out | apply below_alloc | apply pw_below_drewN | apply below_drew1 | refine below_set ?_ GE249.out) | exact HB.out)⟩

end Go.Proofs.Ytjbeehechclccad.PFnExactMessageFault
