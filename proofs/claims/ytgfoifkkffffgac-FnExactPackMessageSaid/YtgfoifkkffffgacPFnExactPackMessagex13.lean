-- Laid by a turned copy of the printer (wip/tools/patch_print.py)
import Derived.Test.YtgfoifkkffffgacPFnExactPackMessagex0
import Derived.Test.YtgfoifkkffffgacPFnExactPackMessagex10
import Derived.Test.YtgfoifkkffffgacPFnExactPackMessagex11
import Derived.Test.YtgfoifkkffffgacPFnExactPackMessagex12
namespace Go.Proofs.Ytgfoifkkffffgac.PFnExactPackMessage
open Go.RowKit Go.Proofs.YtgfoifkkffffgacW.PrintWords Go.Proofs.YtgfoifkkffffgacW.PrintLast Go.Proofs.YtgfoifkkffffgacW.PrintMore
attribute [local go_sem] max2_int min2_int max_two min_two max_three min_three max_four min_four   -- for this text's walks alone
set_option linter.unusedVariables false
set_option linter.unusedSimpArgs false

/-! ### impl_MessageFault: function 53 -/
mutual
def impl_MessageFault.j0 : Nat → Bool → Int → Int → Int → Int → Int → Int → List (S91) → Bool → Int → List Int → Int → Int → Int → List (S91) → Option (Int)
 | 0, _, _, _, _, _, _, _, _, _, _, _, _, _, _, _ => none
 | k + 1, x8, x385000, x385001, x385002, x385003, x385004, x385005, x385006, x385007, x385008, x385009, x385010, x385011, x385012, x385013 => if x8 = true then (some 3) else (if x385000 = 3 then ((impl_areReasons.f x385004 x385005).bind fun t389 => (impl_MessageFault.j1 k (!t389) x385000 x385001 x385002 x385003 x385004 x385005 x385006 x385007 x385008 x385009 x385010 x385011 x385012 x385013)) else (impl_MessageFault.j1 k false x385000 x385001 x385002 x385003 x385004 x385005 x385006 x385007 x385008 x385009 x385010 x385011 x385012 x385013))
def impl_MessageFault.j1 : Nat → Bool → Int → Int → Int → Int → Int → Int → List (S91) → Bool → Int → List Int → Int → Int → Int → List (S91) → Option (Int)
 | 0, _, _, _, _, _, _, _, _, _, _, _, _, _, _, _ => none
 | k + 1, x30, x385000, x385001, x385002, x385003, x385004, x385005, x385006, x385007, x385008, x385009, x385010, x385011, x385012, x385013 => if x30 = true then (some 3) else (if x385000 = 1 then (impl_MessageFault.j2 k false x385000 x385001 x385002 x385003 x385004 x385005 x385006 x385007 x385008 x385009 x385010 x385011 x385012 x385013) else (if x385001 = 0 then (if x385002 = 0 then (impl_MessageFault.j2 k (x385003 != 0) x385000 x385001 x385002 x385003 x385004 x385005 x385006 x385007 x385008 x385009 x385010 x385011 x385012 x385013) else (impl_MessageFault.j2 k true x385000 x385001 x385002 x385003 x385004 x385005 x385006 x385007 x385008 x385009 x385010 x385011 x385012 x385013)) else (impl_MessageFault.j2 k true x385000 x385001 x385002 x385003 x385004 x385005 x385006 x385007 x385008 x385009 x385010 x385011 x385012 x385013)))
def impl_MessageFault.j2 : Nat → Bool → Int → Int → Int → Int → Int → Int → List (S91) → Bool → Int → List Int → Int → Int → Int → List (S91) → Option (Int)
 | 0, _, _, _, _, _, _, _, _, _, _, _, _, _, _, _ => none
 | k + 1, x42, x385000, x385001, x385002, x385003, x385004, x385005, x385006, x385007, x385008, x385009, x385010, x385011, x385012, x385013 => if x42 = true then (some 1) else (if x385000 = 3 then (impl_MessageFault.j3 k false x385000 x385001 x385002 x385003 x385004 x385005 x385006 x385007 x385008 x385009 x385010 x385011 x385012 x385013) else (if x385004 = 0 then (impl_MessageFault.j3 k (x385005 != 0) x385000 x385001 x385002 x385003 x385004 x385005 x385006 x385007 x385008 x385009 x385010 x385011 x385012 x385013) else (impl_MessageFault.j3 k true x385000 x385001 x385002 x385003 x385004 x385005 x385006 x385007 x385008 x385009 x385010 x385011 x385012 x385013)))
def impl_MessageFault.j3 : Nat → Bool → Int → Int → Int → Int → Int → Int → List (S91) → Bool → Int → List Int → Int → Int → Int → List (S91) → Option (Int)
 | 0, _, _, _, _, _, _, _, _, _, _, _, _, _, _, _ => none
 | k + 1, x61, x385000, x385001, x385002, x385003, x385004, x385005, x385006, x385007, x385008, x385009, x385010, x385011, x385012, x385013 => if x61 = true then (some 1) else (if x385000 = 2 then ((impl_UpdateFault.f k x385006 x385007 x385008 x385009 x385010 x385011 x385012 x385013).bind fun t390 => (some t390)) else ((impl_Update_isZero.f x385006 x385007 x385008 x385009 x385010 x385011 x385012 x385013).bind fun t391 => (if t391 = true then ((impl_UpdateFault.f k x385006 x385007 x385008 x385009 x385010 x385011 x385012 x385013).bind fun t392 => (some t392)) else (some 1))))
end
def impl_MessageFault.f (k : Nat) (a0_0 : Int) (a0_1 : Int) (a0_2 : Int) (a0_3 : Int) (a0_4 : Int) (a0_5 : Int) (l0_6 : List (S91)) (a0_7 : Bool) (a0_8 : Int) (l0_9 : List Int) (a0_10 : Int) (a0_11 : Int) (a0_12 : Int) (l0_13 : List (S91)) : Option (Int) := (impl_in.f a0_0 1 4).bind fun t385 => (if t385 = true then (if a0_0 = 1 then ((impl_isSystem.f a0_1).bind fun t386 => (if t386 = true then ((impl_isHold.f a0_2).bind fun t387 => (if t387 = true then ((impl_isSystem.f a0_3).bind fun t388 => (impl_MessageFault.j0 k (!t388) a0_0 a0_1 a0_2 a0_3 a0_4 a0_5 l0_6 a0_7 a0_8 l0_9 a0_10 a0_11 a0_12 l0_13)) else (impl_MessageFault.j0 k true a0_0 a0_1 a0_2 a0_3 a0_4 a0_5 l0_6 a0_7 a0_8 l0_9 a0_10 a0_11 a0_12 l0_13))) else (impl_MessageFault.j0 k true a0_0 a0_1 a0_2 a0_3 a0_4 a0_5 l0_6 a0_7 a0_8 l0_9 a0_10 a0_11 a0_12 l0_13))) else (impl_MessageFault.j0 k false a0_0 a0_1 a0_2 a0_3 a0_4 a0_5 l0_6 a0_7 a0_8 l0_9 a0_10 a0_11 a0_12 l0_13)) else (some 1))
theorem impl_MessageFault.mono_l : ∀ k, (∀ y0 y1 y2 y3 y4 y5 y6 y7 y8 y9 y10 y11 y12 y13 y14, LeO (impl_MessageFault.j0 k y0 y1 y2 y3 y4 y5 y6 y7 y8 y9 y10 y11 y12 y13 y14) (impl_MessageFault.j0 (k + 1) y0 y1 y2 y3 y4 y5 y6 y7 y8 y9 y10 y11 y12 y13 y14)) ∧ (∀ y0 y1 y2 y3 y4 y5 y6 y7 y8 y9 y10 y11 y12 y13 y14, LeO (impl_MessageFault.j1 k y0 y1 y2 y3 y4 y5 y6 y7 y8 y9 y10 y11 y12 y13 y14) (impl_MessageFault.j1 (k + 1) y0 y1 y2 y3 y4 y5 y6 y7 y8 y9 y10 y11 y12 y13 y14)) ∧ (∀ y0 y1 y2 y3 y4 y5 y6 y7 y8 y9 y10 y11 y12 y13 y14, LeO (impl_MessageFault.j2 k y0 y1 y2 y3 y4 y5 y6 y7 y8 y9 y10 y11 y12 y13 y14) (impl_MessageFault.j2 (k + 1) y0 y1 y2 y3 y4 y5 y6 y7 y8 y9 y10 y11 y12 y13 y14)) ∧ (∀ y0 y1 y2 y3 y4 y5 y6 y7 y8 y9 y10 y11 y12 y13 y14, LeO (impl_MessageFault.j3 k y0 y1 y2 y3 y4 y5 y6 y7 y8 y9 y10 y11 y12 y13 y14) (impl_MessageFault.j3 (k + 1) y0 y1 y2 y3 y4 y5 y6 y7 y8 y9 y10 y11 y12 y13 y14))
 | 0 => ⟨fun _ _ _ _ _ _ _ _ _ _ _ _ _ _ _ r h => by simp [impl_MessageFault.j0] at h, fun _ _ _ _ _ _ _ _ _ _ _ _ _ _ _ r h => by simp [impl_MessageFault.j1] at h, fun _ _ _ _ _ _ _ _ _ _ _ _ _ _ _ r h => by simp [impl_MessageFault.j2] at h, fun _ _ _ _ _ _ _ _ _ _ _ _ _ _ _ r h => by simp [impl_MessageFault.j3] at h⟩
 | k + 1 => by
  obtain ⟨ih0, ih1, ih2, ih3⟩ := impl_MessageFault.mono_l k
  refine ⟨?_, ?_, ?_, ?_⟩
  ·
   intro y0 y1 y2 y3 y4 y5 y6 y7 y8 y9 y10 y11 y12 y13 y14
   unfold impl_MessageFault.j0
   repeat' first
   | (with_reducible exact ih0 _ _ _ _ _ _ _ _ _ _ _ _ _ _ _)
   | (with_reducible exact ih1 _ _ _ _ _ _ _ _ _ _ _ _ _ _ _)
   | (with_reducible exact ih2 _ _ _ _ _ _ _ _ _ _ _ _ _ _ _)
   | (with_reducible exact ih3 _ _ _ _ _ _ _ _ _ _ _ _ _ _ _)
   | (with_reducible exact impl_UpdateFault.mono _ _ _ _ _ _ _ _ _)
   | (with_reducible exact LeO.refl _)
   | (with_reducible exact LeO.none _)
   | (with_reducible refine LeO.ite ?_ ?_)
   | (with_reducible refine LeO.bind ?_ (fun _ => ?_))
   | exact ih0 _ _ _ _ _ _ _ _ _ _ _ _ _ _ _
   | exact ih1 _ _ _ _ _ _ _ _ _ _ _ _ _ _ _
   | exact ih2 _ _ _ _ _ _ _ _ _ _ _ _ _ _ _
   | exact ih3 _ _ _ _ _ _ _ _ _ _ _ _ _ _ _
   | exact impl_UpdateFault.mono _ _ _ _ _ _ _ _ _
   | exact LeO.none _
   | refine LeO.ite ?_ ?_
   | refine LeO.bind ?_ (fun _ => ?_)
  ·
   intro y0 y1 y2 y3 y4 y5 y6 y7 y8 y9 y10 y11 y12 y13 y14
   unfold impl_MessageFault.j1
   repeat' first
   | (with_reducible exact ih0 _ _ _ _ _ _ _ _ _ _ _ _ _ _ _)
   | (with_reducible exact ih1 _ _ _ _ _ _ _ _ _ _ _ _ _ _ _)
   | (with_reducible exact ih2 _ _ _ _ _ _ _ _ _ _ _ _ _ _ _)
   | (with_reducible exact ih3 _ _ _ _ _ _ _ _ _ _ _ _ _ _ _)
   | (with_reducible exact impl_UpdateFault.mono _ _ _ _ _ _ _ _ _)
   | (with_reducible exact LeO.refl _)
   | (with_reducible exact LeO.none _)
   | (with_reducible refine LeO.ite ?_ ?_)
   | (with_reducible refine LeO.bind ?_ (fun _ => ?_))
   | exact ih0 _ _ _ _ _ _ _ _ _ _ _ _ _ _ _
   | exact ih1 _ _ _ _ _ _ _ _ _ _ _ _ _ _ _
   | exact ih2 _ _ _ _ _ _ _ _ _ _ _ _ _ _ _
   | exact ih3 _ _ _ _ _ _ _ _ _ _ _ _ _ _ _
   | exact impl_UpdateFault.mono _ _ _ _ _ _ _ _ _
   | exact LeO.none _
   | refine LeO.ite ?_ ?_
   | refine LeO.bind ?_ (fun _ => ?_)
  ·
   intro y0 y1 y2 y3 y4 y5 y6 y7 y8 y9 y10 y11 y12 y13 y14
   unfold impl_MessageFault.j2
   repeat' first
   | (with_reducible exact ih0 _ _ _ _ _ _ _ _ _ _ _ _ _ _ _)
   | (with_reducible exact ih1 _ _ _ _ _ _ _ _ _ _ _ _ _ _ _)
   | (with_reducible exact ih2 _ _ _ _ _ _ _ _ _ _ _ _ _ _ _)
   | (with_reducible exact ih3 _ _ _ _ _ _ _ _ _ _ _ _ _ _ _)
   | (with_reducible exact impl_UpdateFault.mono _ _ _ _ _ _ _ _ _)
   | (with_reducible exact LeO.refl _)
   | (with_reducible exact LeO.none _)
   | (with_reducible refine LeO.ite ?_ ?_)
   | (with_reducible refine LeO.bind ?_ (fun _ => ?_))
   | exact ih0 _ _ _ _ _ _ _ _ _ _ _ _ _ _ _
   | exact ih1 _ _ _ _ _ _ _ _ _ _ _ _ _ _ _
   | exact ih2 _ _ _ _ _ _ _ _ _ _ _ _ _ _ _
   | exact ih3 _ _ _ _ _ _ _ _ _ _ _ _ _ _ _
   | exact impl_UpdateFault.mono _ _ _ _ _ _ _ _ _
   | exact LeO.none _
   | refine LeO.ite ?_ ?_
   | refine LeO.bind ?_ (fun _ => ?_)
  ·
   intro y0 y1 y2 y3 y4 y5 y6 y7 y8 y9 y10 y11 y12 y13 y14
   unfold impl_MessageFault.j3
   repeat' first
   | (with_reducible exact ih0 _ _ _ _ _ _ _ _ _ _ _ _ _ _ _)
   | (with_reducible exact ih1 _ _ _ _ _ _ _ _ _ _ _ _ _ _ _)
   | (with_reducible exact ih2 _ _ _ _ _ _ _ _ _ _ _ _ _ _ _)
   | (with_reducible exact ih3 _ _ _ _ _ _ _ _ _ _ _ _ _ _ _)
   | (with_reducible exact impl_UpdateFault.mono _ _ _ _ _ _ _ _ _)
   | (with_reducible exact LeO.refl _)
   | (with_reducible exact LeO.none _)
   | (with_reducible refine LeO.ite ?_ ?_)
   | (with_reducible refine LeO.bind ?_ (fun _ => ?_))
   | exact ih0 _ _ _ _ _ _ _ _ _ _ _ _ _ _ _
   | exact ih1 _ _ _ _ _ _ _ _ _ _ _ _ _ _ _
   | exact ih2 _ _ _ _ _ _ _ _ _ _ _ _ _ _ _
   | exact ih3 _ _ _ _ _ _ _ _ _ _ _ _ _ _ _
   | exact impl_UpdateFault.mono _ _ _ _ _ _ _ _ _
   | exact LeO.none _
   | refine LeO.ite ?_ ?_
   | refine LeO.bind ?_ (fun _ => ?_)
theorem impl_MessageFault.mono : ∀ a0 a1 a2 a3 a4 a5 a6 a7 a8 a9 a10 a11 a12 a13 k, LeO (impl_MessageFault.f k a0 a1 a2 a3 a4 a5 a6 a7 a8 a9 a10 a11 a12 a13) (impl_MessageFault.f (k + 1) a0 a1 a2 a3 a4 a5 a6 a7 a8 a9 a10 a11 a12 a13) := by
 intro a0 a1 a2 a3 a4 a5 a6 a7 a8 a9 a10 a11 a12 a13 k
 obtain ⟨ih0, ih1, ih2, ih3⟩ := impl_MessageFault.mono_l k
 unfold impl_MessageFault.f
 repeat' first
   | (with_reducible exact ih0 _ _ _ _ _ _ _ _ _ _ _ _ _ _ _)
   | (with_reducible exact ih1 _ _ _ _ _ _ _ _ _ _ _ _ _ _ _)
   | (with_reducible exact ih2 _ _ _ _ _ _ _ _ _ _ _ _ _ _ _)
   | (with_reducible exact ih3 _ _ _ _ _ _ _ _ _ _ _ _ _ _ _)
   | (with_reducible exact impl_UpdateFault.mono _ _ _ _ _ _ _ _ _)
   | (with_reducible exact LeO.refl _)
   | (with_reducible exact LeO.none _)
   | (with_reducible refine LeO.ite ?_ ?_)
   | (with_reducible refine LeO.bind ?_ (fun _ => ?_))
   | exact ih0 _ _ _ _ _ _ _ _ _ _ _ _ _ _ _
   | exact ih1 _ _ _ _ _ _ _ _ _ _ _ _ _ _ _
   | exact ih2 _ _ _ _ _ _ _ _ _ _ _ _ _ _ _
   | exact ih3 _ _ _ _ _ _ _ _ _ _ _ _ _ _ _
   | exact impl_UpdateFault.mono _ _ _ _ _ _ _ _ _
   | exact LeO.none _
   | refine LeO.ite ?_ ?_
   | refine LeO.bind ?_ (fun _ => ?_)
set_option maxHeartbeats 8000000 in
set_option maxRecDepth 100000 in
theorem impl_MessageFault.calls (k : Nat) (a0_0 : Int) (a0_1 : Int) (a0_2 : Int) (a0_3 : Int) (a0_4 : Int) (a0_5 : Int) (A0_6 : Option Addr) (c0_6 : Nat) (l0_6 : List (S91)) (a0_7 : Bool) (a0_8 : Int) (A0_9 : Option Addr) (c0_9 : Nat) (l0_9 : List Int) (a0_10 : Int) (a0_11 : Int) (a0_12 : Int) (A0_13 : Option Addr) (c0_13 : Nat) (l0_13 : List (S91)) (r : Int) (w : World) (hr0_6 : Kd.C k91 w A0_6 l0_6.length l0_6) (hc0_6 : l0_6.length ≤ c0_6) (hr0_9 : Kd.C (Kd.int .i64) w A0_9 l0_9.length l0_9) (hc0_9 : l0_9.length ≤ c0_9) (hr0_13 : Kd.C k91 w A0_13 l0_13.length l0_13) (hc0_13 : l0_13.length ≤ c0_13) (h : impl_MessageFault.f k a0_0 a0_1 a0_2 a0_3 a0_4 a0_5 l0_6 a0_7 a0_8 l0_9 a0_10 a0_11 a0_12 l0_13 = some r) :
  Calls Try.prog 53 #[.agg #[.int .i64 a0_0, .int .i64 a0_1, .int .i64 a0_2, .int .i64 a0_3, .int .i64 a0_4, .int .i64 a0_5, .slice A0_6 l0_6.length c0_6, .bool a0_7, .int .i64 a0_8, .slice A0_9 l0_9.length c0_9, .int .i64 a0_10, .int .i64 a0_11, .int .i64 a0_12, .slice A0_13 l0_13.length c0_13]] w fun e w' => e = .returned (.int .i64 r) ∧ Below w.heap.size w w' := by
 have hu40 := Try.underlying40
 have hu38 := Try.underlying38
 have hu36 := Try.underlying36
 have HR0_6 := Aside0.mk hr0_6
 have HC0_6 := Aside0.mk hc0_6
 clear hr0_6 hc0_6
 have HR0_9 := Aside0.mk hr0_9
 have HC0_9 := Aside0.mk hc0_9
 clear hr0_9 hc0_9
 have HR0_13 := Aside0.mk hr0_13
 have HC0_13 := Aside0.mk hc0_13
 clear hr0_13 hc0_13
 have HB := Aside0.mk (Below.refl w.heap.size w)
 have H : ((impl_in.f a0_0 1 4).bind fun t385 => (if t385 = true then (if a0_0 = 1 then ((impl_isSystem.f a0_1).bind fun t386 => (if t386 = true then ((impl_isHold.f a0_2).bind fun t387 => (if t387 = true then ((impl_isSystem.f a0_3).bind fun t388 => (impl_MessageFault.j0 k (!t388) a0_0 a0_1 a0_2 a0_3 a0_4 a0_5 l0_6 a0_7 a0_8 l0_9 a0_10 a0_11 a0_12 l0_13)) else (impl_MessageFault.j0 k true a0_0 a0_1 a0_2 a0_3 a0_4 a0_5 l0_6 a0_7 a0_8 l0_9 a0_10 a0_11 a0_12 l0_13))) else (impl_MessageFault.j0 k true a0_0 a0_1 a0_2 a0_3 a0_4 a0_5 l0_6 a0_7 a0_8 l0_9 a0_10 a0_11 a0_12 l0_13))) else (impl_MessageFault.j0 k false a0_0 a0_1 a0_2 a0_3 a0_4 a0_5 l0_6 a0_7 a0_8 l0_9 a0_10 a0_11 a0_12 l0_13)) else (some 1))) = some r := h
 clear h
 replace H := Option.bind_eq_some_iff.mp H
 obtain ⟨t385, A20, H⟩ := H
 replace H : (if t385 = true then (if a0_0 = 1 then ((impl_isSystem.f a0_1).bind fun t386 => (if t386 = true then ((impl_isHold.f a0_2).bind fun t387 => (if t387 = true then ((impl_isSystem.f a0_3).bind fun t388 => (impl_MessageFault.j0 k (!t388) a0_0 a0_1 a0_2 a0_3 a0_4 a0_5 l0_6 a0_7 a0_8 l0_9 a0_10 a0_11 a0_12 l0_13)) else (impl_MessageFault.j0 k true a0_0 a0_1 a0_2 a0_3 a0_4 a0_5 l0_6 a0_7 a0_8 l0_9 a0_10 a0_11 a0_12 l0_13))) else (impl_MessageFault.j0 k true a0_0 a0_1 a0_2 a0_3 a0_4 a0_5 l0_6 a0_7 a0_8 l0_9 a0_10 a0_11 a0_12 l0_13))) else (impl_MessageFault.j0 k false a0_0 a0_1 a0_2 a0_3 a0_4 a0_5 l0_6 a0_7 a0_8 l0_9 a0_10 a0_11 a0_12 l0_13)) else (some 1)) = some r := H
 have A2 := Aside0.mk A20
 clear A20
 have H' := Aside0.mk H
 clear H
 go_enter Try.func53, Try.ntmps53
 repeat (first | ((with_reducible refine gate_dst (N := 1) rfl ?_); refine boxE #[.int .i64 a0_0, .int .i64 a0_1, .int .i64 a0_2, .int .i64 a0_3, .int .i64 a0_4, .int .i64 a0_5, .slice A0_6 l0_6.length c0_6, .bool a0_7, .int .i64 a0_8, .slice A0_9 l0_9.length c0_9, .int .i64 a0_10, .int .i64 a0_11, .int .i64 a0_12, .slice A0_13 l0_13.length c0_13] 40 (N := 1) rfl rfl ?_; intro gb384 hg w3 hbox hb; have BK384 := Aside0.mk hbox; have GW384 := gZ HB hg; have GE384 := gZ HB hg; replace HB := bS HB hb; clear hb hbox hg; have hz4 := cl14 BK384) | ((with_reducible refine gate_callee (f := 110) rfl ?_); refine goA (some 6) rfl rfl Try.func110 rfl #[.int .i64 a0_0, .int .i64 1, .int .i64 4] rfl ?_; (with_reducible refine (impl_in.calls a0_0 1 4 t385 _ A2.out).mono ?_); rintro e w' ⟨rfl, ⟨nd, rfl⟩⟩; refine ⟨_, rfl, ?_⟩) | go_values | go_skip | ((with_reducible refine gateG ?gw ?_); (case gw => rfl)) | refine wpList_skip (by rfl) ?_ | refine wp_cond_true rfl ?_ | refine wp_cond_false rfl ?_ | (with_reducible refine iteTr (by first | assumption | omega) ?_) | (with_reducible refine iteFl (by first | assumption | omega) ?_) | ((fail_if_success (with_reducible refine condP ?_)); (fail_if_success (with_reducible refine iteP ?_)); (fail_if_success (with_reducible refine grdP ?_)); go_step) | go_upon | (simp only [Int.not_lt, Int.not_le] at *; go_simp))
 have H := H'.out
 clear H'
 by_cases c5 : t385 = true
 ·
  subst c5
  have H1 : (if a0_0 = 1 then ((impl_isSystem.f a0_1).bind fun t386 => (if t386 = true then ((impl_isHold.f a0_2).bind fun t387 => (if t387 = true then ((impl_isSystem.f a0_3).bind fun t388 => (impl_MessageFault.j0 k (!t388) a0_0 a0_1 a0_2 a0_3 a0_4 a0_5 l0_6 a0_7 a0_8 l0_9 a0_10 a0_11 a0_12 l0_13)) else (impl_MessageFault.j0 k true a0_0 a0_1 a0_2 a0_3 a0_4 a0_5 l0_6 a0_7 a0_8 l0_9 a0_10 a0_11 a0_12 l0_13))) else (impl_MessageFault.j0 k true a0_0 a0_1 a0_2 a0_3 a0_4 a0_5 l0_6 a0_7 a0_8 l0_9 a0_10 a0_11 a0_12 l0_13))) else (impl_MessageFault.j0 k false a0_0 a0_1 a0_2 a0_3 a0_4 a0_5 l0_6 a0_7 a0_8 l0_9 a0_10 a0_11 a0_12 l0_13)) = some r := by rw [if_pos rfl] at H; first | done | exact H
  clear H
  have H := H1
  clear H1
  have HC6 := Aside0.mk H
  clear H
  go_upto_region 3 with (fail)
  go_cut [8] (fun v8 wc => ∃ (kq : Nat) (x8_5 : Bool), v8 = .bool x8_5 ∧ Aside0 (impl_MessageFault.j0 kq x8_5 a0_0 a0_1 a0_2 a0_3 a0_4 a0_5 l0_6 a0_7 a0_8 l0_9 a0_10 a0_11 a0_12 l0_13 = some r) ∧ Aside0 (kq ≤ k) ∧ Aside0 (wc.heap[gb384]? = some (.cells #[.int .i64 a0_0, .int .i64 a0_1, .int .i64 a0_2, .int .i64 a0_3, .int .i64 a0_4, .int .i64 a0_5, (.slice A0_6 l0_6.length c0_6), .bool a0_7, .int .i64 a0_8, (.slice A0_9 l0_9.length c0_9), .int .i64 a0_10, .int .i64 a0_11, .int .i64 a0_12, (.slice A0_13 l0_13.length c0_13)] 40 (0, 0))) ∧ Aside0 (Below w.heap.size w wc))
  case first =>
   have H := HC6.out
   clear HC6
   by_cases c7 : a0_0 = 1
   ·
    rw [if_pos c7] at H
    have c7b0 : (a0_0 == 1) = true := beq_iff_eq.mpr c7
    have c7b1 : (a0_0 != 1) = false := bne_eq_false_iff_eq.mpr c7
    have c7e := eq_true c7
    clear c7
    (first | rw [c7b0] | (simp only [i64_w, i32_w]; rw [c7b0]) | skip)
    (try simp only [c7b0, c7b1]); (try (with_reducible refine iteP ?_; simp only [c7e, ↓reduceIte]))
    replace H := Option.bind_eq_some_iff.mp H
    obtain ⟨t386, A80, H⟩ := H
    replace H : (if t386 = true then ((impl_isHold.f a0_2).bind fun t387 => (if t387 = true then ((impl_isSystem.f a0_3).bind fun t388 => (impl_MessageFault.j0 k (!t388) a0_0 a0_1 a0_2 a0_3 a0_4 a0_5 l0_6 a0_7 a0_8 l0_9 a0_10 a0_11 a0_12 l0_13)) else (impl_MessageFault.j0 k true a0_0 a0_1 a0_2 a0_3 a0_4 a0_5 l0_6 a0_7 a0_8 l0_9 a0_10 a0_11 a0_12 l0_13))) else (impl_MessageFault.j0 k true a0_0 a0_1 a0_2 a0_3 a0_4 a0_5 l0_6 a0_7 a0_8 l0_9 a0_10 a0_11 a0_12 l0_13)) = some r := H
    have A8 := Aside0.mk A80
    clear A80
    have H' := Aside0.mk H
    clear H
    have hz9 := cl14 BK384
    repeat (first | (go_at_call 111; (with_reducible refine (impl_isSystem.calls a0_1 t386 _ A8.out).mono ?_); rintro e w' ⟨rfl, ⟨nd, rfl⟩⟩) | go_values | go_skip | ((with_reducible refine gateG ?gw ?_); (case gw => rfl)) | refine wpList_skip (by rfl) ?_ | refine wp_cond_true rfl ?_ | refine wp_cond_false rfl ?_ | (with_reducible refine iteTr (by first | assumption | omega) ?_) | (with_reducible refine iteFl (by first | assumption | omega) ?_) | ((fail_if_success (with_reducible refine condP ?_)); (fail_if_success (with_reducible refine iteP ?_)); (fail_if_success (with_reducible refine grdP ?_)); go_step) | go_upon | (simp only [Int.not_lt, Int.not_le] at *; go_simp))
    have H := H'.out
    clear H'
    by_cases c10 : t386 = true
    ·
     subst c10
     have H1 : ((impl_isHold.f a0_2).bind fun t387 => (if t387 = true then ((impl_isSystem.f a0_3).bind fun t388 => (impl_MessageFault.j0 k (!t388) a0_0 a0_1 a0_2 a0_3 a0_4 a0_5 l0_6 a0_7 a0_8 l0_9 a0_10 a0_11 a0_12 l0_13)) else (impl_MessageFault.j0 k true a0_0 a0_1 a0_2 a0_3 a0_4 a0_5 l0_6 a0_7 a0_8 l0_9 a0_10 a0_11 a0_12 l0_13))) = some r := by rw [if_pos rfl] at H; first | done | exact H
     clear H
     have H := H1
     clear H1
     replace H := Option.bind_eq_some_iff.mp H
     obtain ⟨t387, A110, H⟩ := H
     replace H : (if t387 = true then ((impl_isSystem.f a0_3).bind fun t388 => (impl_MessageFault.j0 k (!t388) a0_0 a0_1 a0_2 a0_3 a0_4 a0_5 l0_6 a0_7 a0_8 l0_9 a0_10 a0_11 a0_12 l0_13)) else (impl_MessageFault.j0 k true a0_0 a0_1 a0_2 a0_3 a0_4 a0_5 l0_6 a0_7 a0_8 l0_9 a0_10 a0_11 a0_12 l0_13)) = some r := H
     have A11 := Aside0.mk A110
     clear A110
     have H' := Aside0.mk H
     clear H
     have hz12 := cl14 BK384
     repeat (first | (go_at_call 90; (with_reducible refine (impl_isHold.calls a0_2 t387 _ A11.out).mono ?_); rintro e w' ⟨rfl, ⟨nd, rfl⟩⟩) | go_values | go_skip | ((with_reducible refine gateG ?gw ?_); (case gw => rfl)) | refine wpList_skip (by rfl) ?_ | refine wp_cond_true rfl ?_ | refine wp_cond_false rfl ?_ | (with_reducible refine iteTr (by first | assumption | omega) ?_) | (with_reducible refine iteFl (by first | assumption | omega) ?_) | ((fail_if_success (with_reducible refine condP ?_)); (fail_if_success (with_reducible refine iteP ?_)); (fail_if_success (with_reducible refine grdP ?_)); go_step) | go_upon | (simp only [Int.not_lt, Int.not_le] at *; go_simp))
     have H := H'.out
     clear H'
     by_cases c13 : t387 = true
     ·
      subst c13
      have H1 : ((impl_isSystem.f a0_3).bind fun t388 => (impl_MessageFault.j0 k (!t388) a0_0 a0_1 a0_2 a0_3 a0_4 a0_5 l0_6 a0_7 a0_8 l0_9 a0_10 a0_11 a0_12 l0_13)) = some r := by rw [if_pos rfl] at H; first | done | exact H
      clear H
      have H := H1
      clear H1
      replace H := Option.bind_eq_some_iff.mp H
      obtain ⟨t388, A140, H⟩ := H
      replace H : (impl_MessageFault.j0 k (!t388) a0_0 a0_1 a0_2 a0_3 a0_4 a0_5 l0_6 a0_7 a0_8 l0_9 a0_10 a0_11 a0_12 l0_13) = some r := H
      have A14 := Aside0.mk A140
      clear A140
      have H' := Aside0.mk H
      clear H
      have hz15 := cl14 BK384
      go_wp2_with (first | (go_at_call 111; (with_reducible refine (impl_isSystem.calls a0_3 t388 _ A14.out).mono ?_); rintro e w' ⟨rfl, ⟨nd, rfl⟩⟩))
      first | go_meet | (refine Met.intro ?_; go_step; (repeat apply Exists.intro); refine ⟨?rel, ?eqq⟩; (case eqq => (try simp only [c7b0]); rfl))
      case rel => exact ⟨_, (!t388), (by first | rfl | (simp; done) | (simp [*]; done)), H', ⟨by first | omega | exact Nat.le_refl _⟩, ⟨by (with_reducible repeat (first | refine blk_drewN ?_ _ | refine blk_drew ?_ | refine blk_alloc ?_ _)); exact BK384.out⟩, ⟨bel HB⟩⟩
     ·
      replace c13 := Bool.eq_false_iff.mpr c13
      subst c13
      have H1 : (impl_MessageFault.j0 k true a0_0 a0_1 a0_2 a0_3 a0_4 a0_5 l0_6 a0_7 a0_8 l0_9 a0_10 a0_11 a0_12 l0_13) = some r := by rw [if_neg (show ¬ (false = true) by decide)] at H; first | done | exact H
      clear H
      have H := H1
      clear H1
      have H' := Aside0.mk H
      clear H
      go_wp2
      first | go_meet | (refine Met.intro ?_; go_step; (repeat apply Exists.intro); refine ⟨?rel, ?eqq⟩; (case eqq => (try simp only [c7b0]); rfl))
      case rel => exact ⟨_, (true), (by first | rfl | (simp; done) | (simp [*]; done)), H', ⟨by first | omega | exact Nat.le_refl _⟩, ⟨by (with_reducible repeat (first | refine blk_drewN ?_ _ | refine blk_drew ?_ | refine blk_alloc ?_ _)); exact BK384.out⟩, ⟨bel HB⟩⟩
    ·
     replace c10 := Bool.eq_false_iff.mpr c10
     subst c10
     have H1 : (impl_MessageFault.j0 k true a0_0 a0_1 a0_2 a0_3 a0_4 a0_5 l0_6 a0_7 a0_8 l0_9 a0_10 a0_11 a0_12 l0_13) = some r := by rw [if_neg (show ¬ (false = true) by decide)] at H; first | done | exact H
     clear H
     have H := H1
     clear H1
     have H' := Aside0.mk H
     clear H
     go_wp2
     first | go_meet | (refine Met.intro ?_; go_step; (repeat apply Exists.intro); refine ⟨?rel, ?eqq⟩; (case eqq => (try simp only [c7b0]); rfl))
     case rel => exact ⟨_, (true), (by first | rfl | (simp; done) | (simp [*]; done)), H', ⟨by first | omega | exact Nat.le_refl _⟩, ⟨by (with_reducible repeat (first | refine blk_drewN ?_ _ | refine blk_drew ?_ | refine blk_alloc ?_ _)); exact BK384.out⟩, ⟨bel HB⟩⟩
   ·
    rw [if_neg c7] at H
    have c7b0 : (a0_0 == 1) = false := beq_eq_false_iff_ne.mpr c7
    have c7b1 : (a0_0 != 1) = true := bne_iff_ne.mpr c7
    have c7e := eq_false c7
    (first | rw [c7b0] | (simp only [i64_w, i32_w]; rw [c7b0]) | skip)
    (try simp only [c7b0, c7b1]); (try (with_reducible refine iteP ?_; simp only [c7e, ↓reduceIte]))
    have H' := Aside0.mk H
    clear H
    have hz16 := cl14 BK384
    go_wp2
    first | go_meet | (refine Met.intro ?_; go_step; (repeat apply Exists.intro); refine ⟨?rel, ?eqq⟩; (case eqq => (try simp only [c7b0]); rfl))
    case rel => exact ⟨_, (false), (by first | rfl | (simp; done) | (simp [*]; done)), H', ⟨by first | omega | exact Nat.le_refl _⟩, ⟨by (with_reducible repeat (first | refine blk_drewN ?_ _ | refine blk_drew ?_ | refine blk_alloc ?_ _)); exact BK384.out⟩, ⟨bel HB⟩⟩
  case rest =>
   clear HC6
   try clear c1
   try clear p2
   try clear c5
   try clear c7e
   try clear c7
   try clear c7b0
   try clear c7b1
   try clear c10
   try clear c11
   try clear c13
   try clear hz12
   try clear hz15
   try clear hz16
   try clear hz4
   try clear hz9
   obtain ⟨kq, x8_5, rfl, HA, HJ5, BK384, HB⟩ := hcut
   cases kq with
   | zero => exact absurd HA.out (by simp [impl_MessageFault.j0])
   | succ kj5 =>
    have H := HA.out
    clear HA
    simp only [impl_MessageFault.j0] at H
    by_cases c17 : x8_5 = true
    ·
     subst c17
     have H1 : (some 3) = some r := by rw [if_pos rfl] at H; first | done | exact H
     clear H
     have H := H1
     clear H1
     obtain rfl := Option.some.inj H
     go_wp2
     go_ret
     exact ⟨by first | rfl | (simp [errW_none, errW_some] <;> rfl) | (simp [*, errW_none, errW_some] <;> rfl), bel HB⟩
    ·
     replace c17 := Bool.eq_false_iff.mpr c17
     subst c17
     have H1 : (if a0_0 = 3 then ((impl_areReasons.f a0_4 a0_5).bind fun t389 => (impl_MessageFault.j1 kj5 (!t389) a0_0 a0_1 a0_2 a0_3 a0_4 a0_5 l0_6 a0_7 a0_8 l0_9 a0_10 a0_11 a0_12 l0_13)) else (impl_MessageFault.j1 kj5 false a0_0 a0_1 a0_2 a0_3 a0_4 a0_5 l0_6 a0_7 a0_8 l0_9 a0_10 a0_11 a0_12 l0_13)) = some r := by rw [if_neg (show ¬ (false = true) by decide)] at H; first | done | exact H
     clear H
     have H := H1
     clear H1
     have HC18 := Aside0.mk H
     clear H
     go_upto_region 5 with (fail)
     go_cut [30] (fun v30 wc => ∃ (kq : Nat) (x30_17 : Bool), v30 = .bool x30_17 ∧ Aside0 (impl_MessageFault.j1 kq x30_17 a0_0 a0_1 a0_2 a0_3 a0_4 a0_5 l0_6 a0_7 a0_8 l0_9 a0_10 a0_11 a0_12 l0_13 = some r) ∧ Aside0 (kq ≤ kj5) ∧ Aside0 (wc.heap[gb384]? = some (.cells #[.int .i64 a0_0, .int .i64 a0_1, .int .i64 a0_2, .int .i64 a0_3, .int .i64 a0_4, .int .i64 a0_5, (.slice A0_6 l0_6.length c0_6), .bool a0_7, .int .i64 a0_8, (.slice A0_9 l0_9.length c0_9), .int .i64 a0_10, .int .i64 a0_11, .int .i64 a0_12, (.slice A0_13 l0_13.length c0_13)] 40 (0, 0))) ∧ Aside0 (Below w.heap.size w wc))
     case first =>
      have H := HC18.out
      clear HC18
      by_cases c19 : a0_0 = 3
      ·
       rw [if_pos c19] at H
       have c19b0 : (a0_0 == 3) = true := beq_iff_eq.mpr c19
       have c19b1 : (a0_0 != 3) = false := bne_eq_false_iff_eq.mpr c19
       have c19e := eq_true c19
       clear c19
       (first | rw [c19b0] | (simp only [i64_w, i32_w]; rw [c19b0]) | skip)
       (try simp only [c19b0, c19b1]); (try (with_reducible refine iteP ?_; simp only [c19e, ↓reduceIte]))
       replace H := Option.bind_eq_some_iff.mp H
       obtain ⟨t389, A200, H⟩ := H
       replace H : (impl_MessageFault.j1 kj5 (!t389) a0_0 a0_1 a0_2 a0_3 a0_4 a0_5 l0_6 a0_7 a0_8 l0_9 a0_10 a0_11 a0_12 l0_13) = some r := H
       have A20 := Aside0.mk A200
       clear A200
       have H' := Aside0.mk H
       clear H
       have hz21 := cl14 BK384
       go_wp2_with (first | (go_at_call 91; (with_reducible refine (impl_areReasons.calls a0_4 a0_5 t389 _ A20.out).mono ?_); rintro e w' ⟨rfl, ⟨nd, rfl⟩⟩))
       first | go_meet | (refine Met.intro ?_; go_step; (repeat apply Exists.intro); refine ⟨?rel, ?eqq⟩; (case eqq => (try simp only [c19b0]); rfl))
       case rel => exact ⟨_, (!t389), (by first | rfl | (simp; done) | (simp [*]; done)), H', ⟨by have := HJ5.out; first | omega | exact Nat.le_refl _⟩, ⟨by (with_reducible repeat (first | refine blk_drewN ?_ _ | refine blk_drew ?_ | refine blk_alloc ?_ _)); exact BK384.out⟩, ⟨bel HB⟩⟩
      ·
       rw [if_neg c19] at H
       have c19b0 : (a0_0 == 3) = false := beq_eq_false_iff_ne.mpr c19
       have c19b1 : (a0_0 != 3) = true := bne_iff_ne.mpr c19
       have c19e := eq_false c19
       (first | rw [c19b0] | (simp only [i64_w, i32_w]; rw [c19b0]) | skip)
       (try simp only [c19b0, c19b1]); (try (with_reducible refine iteP ?_; simp only [c19e, ↓reduceIte]))
       have H' := Aside0.mk H
       clear H
       have hz22 := cl14 BK384
       go_wp2
       first | go_meet | (refine Met.intro ?_; go_step; (repeat apply Exists.intro); refine ⟨?rel, ?eqq⟩; (case eqq => (try simp only [c19b0]); rfl))
       case rel => exact ⟨_, (false), (by first | rfl | (simp; done) | (simp [*]; done)), H', ⟨by have := HJ5.out; first | omega | exact Nat.le_refl _⟩, ⟨by (with_reducible repeat (first | refine blk_drewN ?_ _ | refine blk_drew ?_ | refine blk_alloc ?_ _)); exact BK384.out⟩, ⟨bel HB⟩⟩
     case rest =>
      clear HC18
      try clear c1
      try clear p2
      try clear c5
      try clear c7e
      try clear c7
      try clear c7b0
      try clear c7b1
      try clear c10
      try clear c11
      try clear c13
      try clear c17
      try clear c19e
      try clear c19
      try clear c19b0
      try clear c19b1
      try clear hz12
      try clear hz15
      try clear hz16
      try clear hz21
      try clear hz22
      try clear hz4
      try clear hz9
      try clear p2
      obtain ⟨kq, x30_17, rfl, HA, HJ17, BK384, HB⟩ := hcut
      cases kq with
      | zero => exact absurd HA.out (by simp [impl_MessageFault.j1])
      | succ kj17 =>
       have H := HA.out
       clear HA
       simp only [impl_MessageFault.j1] at H
       by_cases c23 : x30_17 = true
       ·
        subst c23
        have H1 : (some 3) = some r := by rw [if_pos rfl] at H; first | done | exact H
        clear H
        have H := H1
        clear H1
        obtain rfl := Option.some.inj H
        go_wp2
        go_ret
        exact ⟨by first | rfl | (simp [errW_none, errW_some] <;> rfl) | (simp [*, errW_none, errW_some] <;> rfl), bel HB⟩
       ·
        replace c23 := Bool.eq_false_iff.mpr c23
        subst c23
        have H1 : (if a0_0 = 1 then (impl_MessageFault.j2 kj17 false a0_0 a0_1 a0_2 a0_3 a0_4 a0_5 l0_6 a0_7 a0_8 l0_9 a0_10 a0_11 a0_12 l0_13) else (if a0_1 = 0 then (if a0_2 = 0 then (impl_MessageFault.j2 kj17 (a0_3 != 0) a0_0 a0_1 a0_2 a0_3 a0_4 a0_5 l0_6 a0_7 a0_8 l0_9 a0_10 a0_11 a0_12 l0_13) else (impl_MessageFault.j2 kj17 true a0_0 a0_1 a0_2 a0_3 a0_4 a0_5 l0_6 a0_7 a0_8 l0_9 a0_10 a0_11 a0_12 l0_13)) else (impl_MessageFault.j2 kj17 true a0_0 a0_1 a0_2 a0_3 a0_4 a0_5 l0_6 a0_7 a0_8 l0_9 a0_10 a0_11 a0_12 l0_13))) = some r := by rw [if_neg (show ¬ (false = true) by decide)] at H; first | done | exact H
        clear H
        have H := H1
        clear H1
        have HC24 := Aside0.mk H
        clear H
        go_upto_region 7 with (fail)
        go_cut [42] (fun v42 wc => ∃ (kq : Nat) (x42_23 : Bool), v42 = .bool x42_23 ∧ Aside0 (impl_MessageFault.j2 kq x42_23 a0_0 a0_1 a0_2 a0_3 a0_4 a0_5 l0_6 a0_7 a0_8 l0_9 a0_10 a0_11 a0_12 l0_13 = some r) ∧ Aside0 (kq ≤ kj17) ∧ Aside0 (wc.heap[gb384]? = some (.cells #[.int .i64 a0_0, .int .i64 a0_1, .int .i64 a0_2, .int .i64 a0_3, .int .i64 a0_4, .int .i64 a0_5, (.slice A0_6 l0_6.length c0_6), .bool a0_7, .int .i64 a0_8, (.slice A0_9 l0_9.length c0_9), .int .i64 a0_10, .int .i64 a0_11, .int .i64 a0_12, (.slice A0_13 l0_13.length c0_13)] 40 (0, 0))) ∧ Aside0 (Below w.heap.size w wc))
        case first =>
         have H := HC24.out
         clear HC24
         by_cases c25 : a0_0 = 1
         ·
          rw [if_pos c25] at H
          have c25b0 : (a0_0 == 1) = true := beq_iff_eq.mpr c25
          have c25b1 : (a0_0 != 1) = false := bne_eq_false_iff_eq.mpr c25
          have c25e := eq_true c25
          clear c25
          (first | rw [c25b0] | (simp only [i64_w, i32_w]; rw [c25b0]) | skip)
          (try simp only [c25b0, c25b1]); (try (with_reducible refine iteP ?_; simp only [c25e, ↓reduceIte]))
          have H' := Aside0.mk H
          clear H
          have hz26 := cl14 BK384
          go_wp2
          first | go_meet | (refine Met.intro ?_; go_step; (repeat apply Exists.intro); refine ⟨?rel, ?eqq⟩; (case eqq => (try simp only [c25b0]); rfl))
          case rel => exact ⟨_, (false), (by first | rfl | (simp; done) | (simp [*]; done)), H', ⟨by have := HJ5.out; have := HJ17.out; first | omega | exact Nat.le_refl _⟩, ⟨by (with_reducible repeat (first | refine blk_drewN ?_ _ | refine blk_drew ?_ | refine blk_alloc ?_ _)); exact BK384.out⟩, ⟨bel HB⟩⟩
         ·
          rw [if_neg c25] at H
          have c25b0 : (a0_0 == 1) = false := beq_eq_false_iff_ne.mpr c25
          have c25b1 : (a0_0 != 1) = true := bne_iff_ne.mpr c25
          have c25e := eq_false c25
          (first | rw [c25b0] | (simp only [i64_w, i32_w]; rw [c25b0]) | skip)
          (try simp only [c25b0, c25b1]); (try (with_reducible refine iteP ?_; simp only [c25e, ↓reduceIte]))
          by_cases c27 : a0_1 = 0
          ·
           rw [if_pos c27] at H
           have c27b0 : (a0_1 == 0) = true := beq_iff_eq.mpr c27
           have c27b1 : (a0_1 != 0) = false := bne_eq_false_iff_eq.mpr c27
           have c27e := eq_true c27
           clear c27
           by_cases c28 : a0_2 = 0
           ·
            rw [if_pos c28] at H
            have c28b0 : (a0_2 == 0) = true := beq_iff_eq.mpr c28
            have c28b1 : (a0_2 != 0) = false := bne_eq_false_iff_eq.mpr c28
            have c28e := eq_true c28
            clear c28
            have H' := Aside0.mk H
            clear H
            have hz29 := cl14 BK384
            go_wp2
            first | go_meet | (refine Met.intro ?_; go_step; (repeat apply Exists.intro); refine ⟨?rel, ?eqq⟩; (case eqq => (try simp only [c25b0]); (try simp only [c27b0]); (try simp only [c28b0]); rfl))
            case rel => exact ⟨_, ((a0_3 != 0)), (by first | rfl | (simp; done) | (simp [*]; done)), H', ⟨by have := HJ5.out; have := HJ17.out; first | omega | exact Nat.le_refl _⟩, ⟨by (with_reducible repeat (first | refine blk_drewN ?_ _ | refine blk_drew ?_ | refine blk_alloc ?_ _)); exact BK384.out⟩, ⟨bel HB⟩⟩
           ·
            rw [if_neg c28] at H
            have c28b0 : (a0_2 == 0) = false := beq_eq_false_iff_ne.mpr c28
            have c28b1 : (a0_2 != 0) = true := bne_iff_ne.mpr c28
            have c28e := eq_false c28
            have H' := Aside0.mk H
            clear H
            have hz30 := cl14 BK384
            go_wp2
            first | go_meet | (refine Met.intro ?_; go_step; (repeat apply Exists.intro); refine ⟨?rel, ?eqq⟩; (case eqq => (try simp only [c25b0]); (try simp only [c27b0]); (try simp only [c28b0]); rfl))
            case rel => exact ⟨_, (true), (by first | rfl | (simp; done) | (simp [*]; done)), H', ⟨by have := HJ5.out; have := HJ17.out; first | omega | exact Nat.le_refl _⟩, ⟨by (with_reducible repeat (first | refine blk_drewN ?_ _ | refine blk_drew ?_ | refine blk_alloc ?_ _)); exact BK384.out⟩, ⟨bel HB⟩⟩
          ·
           rw [if_neg c27] at H
           have c27b0 : (a0_1 == 0) = false := beq_eq_false_iff_ne.mpr c27
           have c27b1 : (a0_1 != 0) = true := bne_iff_ne.mpr c27
           have c27e := eq_false c27
           have H' := Aside0.mk H
           clear H
           have hz31 := cl14 BK384
           go_wp2
           first | go_meet | (refine Met.intro ?_; go_step; (repeat apply Exists.intro); refine ⟨?rel, ?eqq⟩; (case eqq => (try simp only [c25b0]); (try simp only [c27b0]); rfl))
           case rel => exact ⟨_, (true), (by first | rfl | (simp; done) | (simp [*]; done)), H', ⟨by have := HJ5.out; have := HJ17.out; first | omega | exact Nat.le_refl _⟩, ⟨by (with_reducible repeat (first | refine blk_drewN ?_ _ | refine blk_drew ?_ | refine blk_alloc ?_ _)); exact BK384.out⟩, ⟨bel HB⟩⟩
        case rest =>
         clear HC24
         try clear c1
         try clear c2
         try clear p2
         try clear c5
         try clear c7e
         try clear c7
         try clear c7b0
         try clear c7b1
         try clear c10
         try clear c11
         try clear c13
         try clear c17
         try clear c19e
         try clear c19
         try clear c19b0
         try clear c19b1
         try clear c23
         try clear c25e
         try clear c25
         try clear c25b0
         try clear c25b1
         try clear c27e
         try clear c27
         try clear c27b0
         try clear c27b1
         try clear c28e
         try clear c28
         try clear c28b0
         try clear c28b1
         try clear hz12
         try clear hz15
         try clear hz16
         try clear hz21
         try clear hz22
         try clear hz26
         try clear hz29
         try clear hz30
         try clear hz31
         try clear hz4
         try clear hz9
         try clear p2
         obtain ⟨kq, x42_23, rfl, HA, HJ23, BK384, HB⟩ := hcut
         cases kq with
         | zero => exact absurd HA.out (by simp [impl_MessageFault.j2])
         | succ kj23 =>
          have H := HA.out
          clear HA
          simp only [impl_MessageFault.j2] at H
          by_cases c32 : x42_23 = true
          ·
           subst c32
           have H1 : (some 1) = some r := by rw [if_pos rfl] at H; first | done | exact H
           clear H
           have H := H1
           clear H1
           obtain rfl := Option.some.inj H
           go_wp2
           go_ret
           exact ⟨by first | rfl | (simp [errW_none, errW_some] <;> rfl) | (simp [*, errW_none, errW_some] <;> rfl), bel HB⟩
          ·
           replace c32 := Bool.eq_false_iff.mpr c32
           subst c32
           have H1 : (if a0_0 = 3 then (impl_MessageFault.j3 kj23 false a0_0 a0_1 a0_2 a0_3 a0_4 a0_5 l0_6 a0_7 a0_8 l0_9 a0_10 a0_11 a0_12 l0_13) else (if a0_4 = 0 then (impl_MessageFault.j3 kj23 (a0_5 != 0) a0_0 a0_1 a0_2 a0_3 a0_4 a0_5 l0_6 a0_7 a0_8 l0_9 a0_10 a0_11 a0_12 l0_13) else (impl_MessageFault.j3 kj23 true a0_0 a0_1 a0_2 a0_3 a0_4 a0_5 l0_6 a0_7 a0_8 l0_9 a0_10 a0_11 a0_12 l0_13))) = some r := by rw [if_neg (show ¬ (false = true) by decide)] at H; first | done | exact H
           clear H
           have H := H1
           clear H1
           have HC33 := Aside0.mk H
           clear H
           go_upto_region 9 with (fail)
           go_cut [61] (fun v61 wc => ∃ (kq : Nat) (x61_32 : Bool), v61 = .bool x61_32 ∧ Aside0 (impl_MessageFault.j3 kq x61_32 a0_0 a0_1 a0_2 a0_3 a0_4 a0_5 l0_6 a0_7 a0_8 l0_9 a0_10 a0_11 a0_12 l0_13 = some r) ∧ Aside0 (kq ≤ kj23) ∧ Aside0 (wc.heap[gb384]? = some (.cells #[.int .i64 a0_0, .int .i64 a0_1, .int .i64 a0_2, .int .i64 a0_3, .int .i64 a0_4, .int .i64 a0_5, (.slice A0_6 l0_6.length c0_6), .bool a0_7, .int .i64 a0_8, (.slice A0_9 l0_9.length c0_9), .int .i64 a0_10, .int .i64 a0_11, .int .i64 a0_12, (.slice A0_13 l0_13.length c0_13)] 40 (0, 0))) ∧ Aside0 (Below w.heap.size w wc))
           case first =>
            have H := HC33.out
            clear HC33
            by_cases c34 : a0_0 = 3
            ·
             rw [if_pos c34] at H
             have c34b0 : (a0_0 == 3) = true := beq_iff_eq.mpr c34
             have c34b1 : (a0_0 != 3) = false := bne_eq_false_iff_eq.mpr c34
             have c34e := eq_true c34
             clear c34
             (first | rw [c34b0] | (simp only [i64_w, i32_w]; rw [c34b0]) | skip)
             (try simp only [c34b0, c34b1]); (try (with_reducible refine iteP ?_; simp only [c34e, ↓reduceIte]))
             have H' := Aside0.mk H
             clear H
             have hz35 := cl14 BK384
             go_wp2
             first | go_meet | (refine Met.intro ?_; go_step; (repeat apply Exists.intro); refine ⟨?rel, ?eqq⟩; (case eqq => (try simp only [c34b0]); rfl))
             case rel => exact ⟨_, (false), (by first | rfl | (simp; done) | (simp [*]; done)), H', ⟨by have := HJ5.out; have := HJ17.out; have := HJ23.out; first | omega | exact Nat.le_refl _⟩, ⟨by (with_reducible repeat (first | refine blk_drewN ?_ _ | refine blk_drew ?_ | refine blk_alloc ?_ _)); exact BK384.out⟩, ⟨bel HB⟩⟩
            ·
             rw [if_neg c34] at H
             have c34b0 : (a0_0 == 3) = false := beq_eq_false_iff_ne.mpr c34
             have c34b1 : (a0_0 != 3) = true := bne_iff_ne.mpr c34
             have c34e := eq_false c34
             (first | rw [c34b0] | (simp only [i64_w, i32_w]; rw [c34b0]) | skip)
             (try simp only [c34b0, c34b1]); (try (with_reducible refine iteP ?_; simp only [c34e, ↓reduceIte]))
             by_cases c36 : a0_4 = 0
             ·
              rw [if_pos c36] at H
              have c36b0 : (a0_4 == 0) = true := beq_iff_eq.mpr c36
              have c36b1 : (a0_4 != 0) = false := bne_eq_false_iff_eq.mpr c36
              have c36e := eq_true c36
              clear c36
              have H' := Aside0.mk H
              clear H
              have hz37 := cl14 BK384
              go_wp2
              first | go_meet | (refine Met.intro ?_; go_step; (repeat apply Exists.intro); refine ⟨?rel, ?eqq⟩; (case eqq => (try simp only [c34b0]); (try simp only [c36b0]); rfl))
              case rel => exact ⟨_, ((a0_5 != 0)), (by first | rfl | (simp; done) | (simp [*]; done)), H', ⟨by have := HJ5.out; have := HJ17.out; have := HJ23.out; first | omega | exact Nat.le_refl _⟩, ⟨by (with_reducible repeat (first | refine blk_drewN ?_ _ | refine blk_drew ?_ | refine blk_alloc ?_ _)); exact BK384.out⟩, ⟨bel HB⟩⟩
             ·
              rw [if_neg c36] at H
              have c36b0 : (a0_4 == 0) = false := beq_eq_false_iff_ne.mpr c36
              have c36b1 : (a0_4 != 0) = true := bne_iff_ne.mpr c36
              have c36e := eq_false c36
              have H' := Aside0.mk H
              clear H
              have hz38 := cl14 BK384
              go_wp2
              first | go_meet | (refine Met.intro ?_; go_step; (repeat apply Exists.intro); refine ⟨?rel, ?eqq⟩; (case eqq => (try simp only [c34b0]); (try simp only [c36b0]); rfl))
              case rel => exact ⟨_, (true), (by first | rfl | (simp; done) | (simp [*]; done)), H', ⟨by have := HJ5.out; have := HJ17.out; have := HJ23.out; first | omega | exact Nat.le_refl _⟩, ⟨by (with_reducible repeat (first | refine blk_drewN ?_ _ | refine blk_drew ?_ | refine blk_alloc ?_ _)); exact BK384.out⟩, ⟨bel HB⟩⟩
           case rest =>
            clear HC33
            try clear c1
            try clear c2
            try clear p2
            try clear c3
            try clear c5
            try clear c7e
            try clear c7
            try clear c7b0
            try clear c7b1
            try clear c10
            try clear c11
            try clear c13
            try clear c17
            try clear c19e
            try clear c19
            try clear c19b0
            try clear c19b1
            try clear c23
            try clear c25e
            try clear c25
            try clear c25b0
            try clear c25b1
            try clear c27e
            try clear c27
            try clear c27b0
            try clear c27b1
            try clear c28e
            try clear c28
            try clear c28b0
            try clear c28b1
            try clear c32
            try clear c34e
            try clear c34
            try clear c34b0
            try clear c34b1
            try clear c36e
            try clear c36
            try clear c36b0
            try clear c36b1
            try clear hz12
            try clear hz15
            try clear hz16
            try clear hz21
            try clear hz22
            try clear hz26
            try clear hz29
            try clear hz30
            try clear hz31
            try clear hz35
            try clear hz37
            try clear hz38
            try clear hz4
            try clear hz9
            try clear p2
            obtain ⟨kq, x61_32, rfl, HA, HJ32, BK384, HB⟩ := hcut
            cases kq with
            | zero => exact absurd HA.out (by simp [impl_MessageFault.j3])
            | succ kj32 =>
             have H := HA.out
             clear HA
             simp only [impl_MessageFault.j3] at H
             by_cases c39 : x61_32 = true
             ·
              subst c39
              have H1 : (some 1) = some r := by rw [if_pos rfl] at H; first | done | exact H
              clear H
              have H := H1
              clear H1
              obtain rfl := Option.some.inj H
              go_wp2
              go_ret
              exact ⟨by first | rfl | (simp [errW_none, errW_some] <;> rfl) | (simp [*, errW_none, errW_some] <;> rfl), bel HB⟩
             ·
              replace c39 := Bool.eq_false_iff.mpr c39
              subst c39
              have H1 : (if a0_0 = 2 then ((impl_UpdateFault.f kj32 l0_6 a0_7 a0_8 l0_9 a0_10 a0_11 a0_12 l0_13).bind fun t390 => (some t390)) else ((impl_Update_isZero.f l0_6 a0_7 a0_8 l0_9 a0_10 a0_11 a0_12 l0_13).bind fun t391 => (if t391 = true then ((impl_UpdateFault.f kj32 l0_6 a0_7 a0_8 l0_9 a0_10 a0_11 a0_12 l0_13).bind fun t392 => (some t392)) else (some 1)))) = some r := by rw [if_neg (show ¬ (false = true) by decide)] at H; first | done | exact H
              clear H
              have H := H1
              clear H1
              by_cases c40 : a0_0 = 2
              ·
               rw [if_pos c40] at H
               have c40b0 : (a0_0 == 2) = true := beq_iff_eq.mpr c40
               have c40b1 : (a0_0 != 2) = false := bne_eq_false_iff_eq.mpr c40
               have c40e := eq_true c40
               clear c40
               replace H := Option.bind_eq_some_iff.mp H
               obtain ⟨t390, A410, H⟩ := H
               replace H : (some t390) = some r := H
               have A41 := Aside0.mk A410
               clear A410
               obtain rfl := Option.some.inj H
               have hz42 := cl14 BK384
               go_wp2_with (first | ((with_reducible refine gate_callee (f := 29) rfl ?_); refine goA (some 87) rfl rfl Try.func29 rfl #[.agg #[.slice A0_6 l0_6.length c0_6, .bool a0_7, .int .i64 a0_8, .slice A0_9 l0_9.length c0_9, .int .i64 a0_10, .int .i64 a0_11, .int .i64 a0_12, .slice A0_13 l0_13.length c0_13]] rfl ?_; (with_reducible refine (impl_UpdateFault.calls kj32 (fun k_ => k_ < w.heap.size) _ _ l0_6 a0_7 a0_8 _ _ l0_9 a0_10 a0_11 a0_12 (fun k_ => k_ < w.heap.size) _ _ l0_13 t390 _ ?side1 ?side2 ?side3 ?side4 A41.out).mono ?_); (case side1 => exact Kd.V_mk HC0_6.out (Kd.F_below (Kd.C_F k91_heap HR0_6.out) (bel HB))); (case side2 => exact mC HR0_9 HB); (case side3 => exact HC0_9.out); (case side4 => exact Kd.V_mk HC0_13.out (Kd.F_below (Kd.C_F k91_heap HR0_13.out) (bel HB))); rintro e w43 ⟨rfl, hb⟩; refine ⟨_, rfl, ?_⟩; replace BK384 := bK BK384 hb; replace HB := bS HB hb; (try clear hb); (try clear hb2); (try clear hk); (try clear hi)))
               go_ret
               exact ⟨by first | rfl | (simp [errW_none, errW_some] <;> rfl) | (simp [*, errW_none, errW_some] <;> rfl), bel HB⟩
              ·
               rw [if_neg c40] at H
               have c40b0 : (a0_0 == 2) = false := beq_eq_false_iff_ne.mpr c40
               have c40b1 : (a0_0 != 2) = true := bne_iff_ne.mpr c40
               have c40e := eq_false c40
               replace H := Option.bind_eq_some_iff.mp H
               obtain ⟨t391, A440, H⟩ := H
               replace H : (if t391 = true then ((impl_UpdateFault.f kj32 l0_6 a0_7 a0_8 l0_9 a0_10 a0_11 a0_12 l0_13).bind fun t392 => (some t392)) else (some 1)) = some r := H
               have A44 := Aside0.mk A440
               clear A440
               have H' := Aside0.mk H
               clear H
               have hz45 := cl14 BK384
               repeat (first | (go_at_call 112; (with_reducible refine (impl_Update_isZero.calls _ _ l0_6 a0_7 a0_8 _ _ l0_9 a0_10 a0_11 a0_12 _ _ l0_13 t391 _ ?side1 ?side2 ?side3 ?side4 ?side5 ?side6 A44.out).mono ?_); (case side1 => exact mC HR0_6 HB); (case side2 => exact HC0_6.out); (case side3 => exact mC HR0_9 HB); (case side4 => exact HC0_9.out); (case side5 => exact mC HR0_13 HB); (case side6 => exact HC0_13.out); rintro e w46 ⟨rfl, hb⟩; replace BK384 := bK BK384 hb; replace HB := bS HB hb; (try clear hb); (try clear hb2); (try clear hk); (try clear hi)) | go_values | go_skip | ((with_reducible refine gateG ?gw ?_); (case gw => rfl)) | refine wpList_skip (by rfl) ?_ | refine wp_cond_true rfl ?_ | refine wp_cond_false rfl ?_ | (with_reducible refine iteTr (by first | assumption | omega) ?_) | (with_reducible refine iteFl (by first | assumption | omega) ?_) | ((fail_if_success (with_reducible refine condP ?_)); (fail_if_success (with_reducible refine iteP ?_)); (fail_if_success (with_reducible refine grdP ?_)); go_step) | go_upon | (simp only [Int.not_lt, Int.not_le] at *; go_simp))
               have H := H'.out
               clear H'
               by_cases c47 : t391 = true
               ·
                subst c47
                have H1 : ((impl_UpdateFault.f kj32 l0_6 a0_7 a0_8 l0_9 a0_10 a0_11 a0_12 l0_13).bind fun t392 => (some t392)) = some r := by rw [if_pos rfl] at H; first | done | exact H
                clear H
                have H := H1
                clear H1
                replace H := Option.bind_eq_some_iff.mp H
                obtain ⟨t392, A480, H⟩ := H
                replace H : (some t392) = some r := H
                have A48 := Aside0.mk A480
                clear A480
                obtain rfl := Option.some.inj H
                have hz49 := cl14 BK384
                go_wp2_with (first | ((with_reducible refine gate_callee (f := 29) rfl ?_); refine goA (some 87) rfl rfl Try.func29 rfl #[.agg #[.slice A0_6 l0_6.length c0_6, .bool a0_7, .int .i64 a0_8, .slice A0_9 l0_9.length c0_9, .int .i64 a0_10, .int .i64 a0_11, .int .i64 a0_12, .slice A0_13 l0_13.length c0_13]] rfl ?_; (with_reducible refine (impl_UpdateFault.calls kj32 (fun k_ => k_ < w.heap.size) _ _ l0_6 a0_7 a0_8 _ _ l0_9 a0_10 a0_11 a0_12 (fun k_ => k_ < w.heap.size) _ _ l0_13 t392 _ ?side1 ?side2 ?side3 ?side4 A48.out).mono ?_); (case side1 => exact Kd.V_mk HC0_6.out (Kd.F_below (Kd.C_F k91_heap HR0_6.out) (bel HB))); (case side2 => exact mC HR0_9 HB); (case side3 => exact HC0_9.out); (case side4 => exact Kd.V_mk HC0_13.out (Kd.F_below (Kd.C_F k91_heap HR0_13.out) (bel HB))); rintro e w50 ⟨rfl, hb⟩; refine ⟨_, rfl, ?_⟩; replace BK384 := bK BK384 hb; replace HB := bS HB hb; (try clear hb); (try clear hb2); (try clear hk); (try clear hi)))
                go_ret
                exact ⟨by first | rfl | (simp [errW_none, errW_some] <;> rfl) | (simp [*, errW_none, errW_some] <;> rfl), bel HB⟩
               ·
                replace c47 := Bool.eq_false_iff.mpr c47
                subst c47
                have H1 : (some 1) = some r := by rw [if_neg (show ¬ (false = true) by decide)] at H; first | done | exact H
                clear H
                have H := H1
                clear H1
                obtain rfl := Option.some.inj H
                go_wp2
                go_ret
                exact ⟨by first | rfl | (simp [errW_none, errW_some] <;> rfl) | (simp [*, errW_none, errW_some] <;> rfl), bel HB⟩
 ·
  replace c5 := Bool.eq_false_iff.mpr c5
  subst c5
  have H1 : (some 1) = some r := by rw [if_neg (show ¬ (false = true) by decide)] at H; first | done | exact H
  clear H
  have H := H1
  clear H1
  obtain rfl := Option.some.inj H
  go_wp2
  go_ret
  exact ⟨by first | rfl | (simp [errW_none, errW_some] <;> rfl) | (simp [*, errW_none, errW_some] <;> rfl), bel HB⟩

end Go.Proofs.Ytgfoifkkffffgac.PFnExactPackMessage
