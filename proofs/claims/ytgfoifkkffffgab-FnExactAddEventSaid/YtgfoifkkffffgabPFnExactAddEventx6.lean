-- Laid by a turned copy of the printer (wip/tools/patch_print.py)
import Derived.Test.YtgfoifkkffffgabPFnExactAddEventx0
import Derived.Test.YtgfoifkkffffgabPFnExactAddEventx5
namespace Go.Proofs.Ytgfoifkkffffgab.PFnExactAddEvent
open Go.RowKit Go.Proofs.YtgfoifkkffffgabW.PrintWords Go.Proofs.YtgfoifkkffffgabW.PrintLast Go.Proofs.YtgfoifkkffffgabW.PrintMore
attribute [local go_sem] max2_int min2_int max_two min_two max_three min_three max_four min_four   -- for this text's walks alone
set_option linter.unusedVariables false
set_option linter.unusedSimpArgs false

/-! ### impl_NodeFault: function 31 -/
mutual
def impl_NodeFault.j0 : Nat → Bool → Int → Bool → Int → Int → List (S55) → Int → Int → Int → Int → Option (Int)
 | 0, _, _, _, _, _, _, _, _, _, _ => none
 | k + 1, x8, x305000, x305001, x305002, x305003, x305004, x305005, x305006, x305007, x305008 => if x8 = true then (some 3) else (if (x305004.length : Int) > 100 then (some 2) else (impl_NodeFault.l0 k x305004 (x305004.length : Int) 0 x305000 x305001 x305002 x305003 x305004 x305005 x305006 x305007 x305008))
def impl_NodeFault.l0 : Nat → List (S55) → Int → Int → Int → Bool → Int → Int → List (S55) → Int → Int → Int → Int → Option (Int)
 | 0, _, _, _, _, _, _, _, _, _, _, _, _ => none
 | k + 1, x31, x32, x33, x305000, x305001, x305002, x305003, x305004, x305005, x305006, x305007, x305008 => if x33 < x32 then (if 0 ≤ x33 then (if x33 < (x31.length : Int) then ((impl_EntryFault.f k ((rd_T55 x31 x33).f0) ((rd_T55 x31 x33).f1.f0) ((rd_T55 x31 x33).f1.f1) ((rd_T55 x31 x33).f1.f2)).bind fun t310 => (if t310 = 0 then (if ((rd_T55 x31 x33).f0) > x305003 then (some 1) else (if x33 > 0 then (if 0 ≤ (wrap64 (x33 - 1)) then (if (wrap64 (x33 - 1)) < (x305004.length : Int) then (if ((rd_T55 x31 x33).f0) < ((rd_T55 x305004 (wrap64 (x33 - 1))).f0) then (some 1) else (impl_NodeFault.l0 k x31 x32 (wrap64 (x33 + 1)) x305000 x305001 x305002 x305003 x305004 x305005 x305006 x305007 x305008)) else (none)) else (none)) else (impl_NodeFault.l0 k x31 x32 (wrap64 (x33 + 1)) x305000 x305001 x305002 x305003 x305004 x305005 x305006 x305007 x305008))) else (some t310))) else (none)) else (none)) else ((impl_Entry_74.f x305004).bind fun t312 => ((impl_in.f x305005 0 t312).bind fun t313 => (if t313 = true then ((impl_in.f x305006 0 t312).bind fun t314 => (if t314 = true then ((impl_in.f x305007 0 t312).bind fun t315 => (if t315 = true then ((impl_in.f x305008 0 x305005).bind fun t316 => (impl_NodeFault.j2 k t312 (x305002 == 1) (!t316) x305000 x305001 x305002 x305003 x305004 x305005 x305006 x305007 x305008)) else (impl_NodeFault.j2 k t312 (x305002 == 1) true x305000 x305001 x305002 x305003 x305004 x305005 x305006 x305007 x305008))) else (impl_NodeFault.j2 k t312 (x305002 == 1) true x305000 x305001 x305002 x305003 x305004 x305005 x305006 x305007 x305008))) else (impl_NodeFault.j2 k t312 (x305002 == 1) true x305000 x305001 x305002 x305003 x305004 x305005 x305006 x305007 x305008))))
def impl_NodeFault.j2 : Nat → Int → Bool → Bool → Int → Bool → Int → Int → List (S55) → Int → Int → Int → Int → Option (Int)
 | 0, _, _, _, _, _, _, _, _, _, _, _, _ => none
 | k + 1, x6, x7, x71, x305000, x305001, x305002, x305003, x305004, x305005, x305006, x305007, x305008 => if x71 = true then (some 3) else (if x7 = true then (if x305001 = true then (if x305003 = 0 then (impl_NodeFault.j3 k x6 true x305000 x305001 x305002 x305003 x305004 x305005 x305006 x305007 x305008) else (if x305006 = 0 then (impl_NodeFault.j3 k x6 false x305000 x305001 x305002 x305003 x305004 x305005 x305006 x305007 x305008) else (impl_NodeFault.j3 k x6 true x305000 x305001 x305002 x305003 x305004 x305005 x305006 x305007 x305008))) else (impl_NodeFault.j3 k x6 true x305000 x305001 x305002 x305003 x305004 x305005 x305006 x305007 x305008)) else (impl_NodeFault.j3 k x6 (x305007 != 0) x305000 x305001 x305002 x305003 x305004 x305005 x305006 x305007 x305008))
def impl_NodeFault.j3 : Nat → Int → Bool → Int → Bool → Int → Int → List (S55) → Int → Int → Int → Int → Option (Int)
 | 0, _, _, _, _, _, _, _, _, _, _, _ => none
 | k + 1, x6, x99, x305000, x305001, x305002, x305003, x305004, x305005, x305006, x305007, x305008 => if x99 = true then (some 1) else (if x305001 = true then (some 0) else (if x305005 = x6 then (if x305006 = 0 then (if x305008 = 0 then (some 0) else (some 1)) else (some 1)) else (some 1)))
end
def impl_NodeFault.f (k : Nat) (a0_0 : Int) (a0_1 : Bool) (a0_2 : Int) (a0_3 : Int) (l0_4 : List (S55)) (a0_5 : Int) (a0_6 : Int) (a0_7 : Int) (a0_8 : Int) : Option (Int) := (impl_isNode.f a0_0).bind fun t305 => (if t305 = true then ((impl_in.f a0_2 0 1).bind fun t306 => (if t306 = true then ((impl_in.f a0_3 0 1000).bind fun t307 => (impl_NodeFault.j0 k (!t307) a0_0 a0_1 a0_2 a0_3 l0_4 a0_5 a0_6 a0_7 a0_8)) else (impl_NodeFault.j0 k true a0_0 a0_1 a0_2 a0_3 l0_4 a0_5 a0_6 a0_7 a0_8))) else (impl_NodeFault.j0 k true a0_0 a0_1 a0_2 a0_3 l0_4 a0_5 a0_6 a0_7 a0_8))
theorem impl_NodeFault.mono_l : ∀ k, (∀ y0 y1 y2 y3 y4 y5 y6 y7 y8 y9, LeO (impl_NodeFault.j0 k y0 y1 y2 y3 y4 y5 y6 y7 y8 y9) (impl_NodeFault.j0 (k + 1) y0 y1 y2 y3 y4 y5 y6 y7 y8 y9)) ∧ (∀ y0 y1 y2 y3 y4 y5 y6 y7 y8 y9 y10 y11, LeO (impl_NodeFault.l0 k y0 y1 y2 y3 y4 y5 y6 y7 y8 y9 y10 y11) (impl_NodeFault.l0 (k + 1) y0 y1 y2 y3 y4 y5 y6 y7 y8 y9 y10 y11)) ∧ (∀ y0 y1 y2 y3 y4 y5 y6 y7 y8 y9 y10 y11, LeO (impl_NodeFault.j2 k y0 y1 y2 y3 y4 y5 y6 y7 y8 y9 y10 y11) (impl_NodeFault.j2 (k + 1) y0 y1 y2 y3 y4 y5 y6 y7 y8 y9 y10 y11)) ∧ (∀ y0 y1 y2 y3 y4 y5 y6 y7 y8 y9 y10, LeO (impl_NodeFault.j3 k y0 y1 y2 y3 y4 y5 y6 y7 y8 y9 y10) (impl_NodeFault.j3 (k + 1) y0 y1 y2 y3 y4 y5 y6 y7 y8 y9 y10))
 | 0 => ⟨fun _ _ _ _ _ _ _ _ _ _ r h => by simp [impl_NodeFault.j0] at h, fun _ _ _ _ _ _ _ _ _ _ _ _ r h => by simp [impl_NodeFault.l0] at h, fun _ _ _ _ _ _ _ _ _ _ _ _ r h => by simp [impl_NodeFault.j2] at h, fun _ _ _ _ _ _ _ _ _ _ _ r h => by simp [impl_NodeFault.j3] at h⟩
 | k + 1 => by
  obtain ⟨ih0, ih1, ih2, ih3⟩ := impl_NodeFault.mono_l k
  refine ⟨?_, ?_, ?_, ?_⟩
  ·
   intro y0 y1 y2 y3 y4 y5 y6 y7 y8 y9
   unfold impl_NodeFault.j0
   repeat' first
   | (with_reducible exact ih0 _ _ _ _ _ _ _ _ _ _)
   | (with_reducible exact ih1 _ _ _ _ _ _ _ _ _ _ _ _)
   | (with_reducible exact ih2 _ _ _ _ _ _ _ _ _ _ _ _)
   | (with_reducible exact ih3 _ _ _ _ _ _ _ _ _ _ _)
   | (with_reducible exact impl_EntryFault.mono _ _ _ _ _)
   | (with_reducible exact LeO.refl _)
   | (with_reducible exact LeO.none _)
   | (with_reducible refine LeO.ite ?_ ?_)
   | (with_reducible refine LeO.bind ?_ (fun _ => ?_))
   | exact ih0 _ _ _ _ _ _ _ _ _ _
   | exact ih1 _ _ _ _ _ _ _ _ _ _ _ _
   | exact ih2 _ _ _ _ _ _ _ _ _ _ _ _
   | exact ih3 _ _ _ _ _ _ _ _ _ _ _
   | exact impl_EntryFault.mono _ _ _ _ _
   | exact LeO.none _
   | refine LeO.ite ?_ ?_
   | refine LeO.bind ?_ (fun _ => ?_)
  ·
   intro y0 y1 y2 y3 y4 y5 y6 y7 y8 y9 y10 y11
   unfold impl_NodeFault.l0
   repeat' first
   | (with_reducible exact ih0 _ _ _ _ _ _ _ _ _ _)
   | (with_reducible exact ih1 _ _ _ _ _ _ _ _ _ _ _ _)
   | (with_reducible exact ih2 _ _ _ _ _ _ _ _ _ _ _ _)
   | (with_reducible exact ih3 _ _ _ _ _ _ _ _ _ _ _)
   | (with_reducible exact impl_EntryFault.mono _ _ _ _ _)
   | (with_reducible exact LeO.refl _)
   | (with_reducible exact LeO.none _)
   | (with_reducible refine LeO.ite ?_ ?_)
   | (with_reducible refine LeO.bind ?_ (fun _ => ?_))
   | exact ih0 _ _ _ _ _ _ _ _ _ _
   | exact ih1 _ _ _ _ _ _ _ _ _ _ _ _
   | exact ih2 _ _ _ _ _ _ _ _ _ _ _ _
   | exact ih3 _ _ _ _ _ _ _ _ _ _ _
   | exact impl_EntryFault.mono _ _ _ _ _
   | exact LeO.none _
   | refine LeO.ite ?_ ?_
   | refine LeO.bind ?_ (fun _ => ?_)
  ·
   intro y0 y1 y2 y3 y4 y5 y6 y7 y8 y9 y10 y11
   unfold impl_NodeFault.j2
   repeat' first
   | (with_reducible exact ih0 _ _ _ _ _ _ _ _ _ _)
   | (with_reducible exact ih1 _ _ _ _ _ _ _ _ _ _ _ _)
   | (with_reducible exact ih2 _ _ _ _ _ _ _ _ _ _ _ _)
   | (with_reducible exact ih3 _ _ _ _ _ _ _ _ _ _ _)
   | (with_reducible exact impl_EntryFault.mono _ _ _ _ _)
   | (with_reducible exact LeO.refl _)
   | (with_reducible exact LeO.none _)
   | (with_reducible refine LeO.ite ?_ ?_)
   | (with_reducible refine LeO.bind ?_ (fun _ => ?_))
   | exact ih0 _ _ _ _ _ _ _ _ _ _
   | exact ih1 _ _ _ _ _ _ _ _ _ _ _ _
   | exact ih2 _ _ _ _ _ _ _ _ _ _ _ _
   | exact ih3 _ _ _ _ _ _ _ _ _ _ _
   | exact impl_EntryFault.mono _ _ _ _ _
   | exact LeO.none _
   | refine LeO.ite ?_ ?_
   | refine LeO.bind ?_ (fun _ => ?_)
  intro y0 y1 y2 y3 y4 y5 y6 y7 y8 y9 y10
  unfold impl_NodeFault.j3
  repeat' first
  | (with_reducible exact ih0 _ _ _ _ _ _ _ _ _ _)
  | (with_reducible exact ih1 _ _ _ _ _ _ _ _ _ _ _ _)
  | (with_reducible exact ih2 _ _ _ _ _ _ _ _ _ _ _ _)
  | (with_reducible exact ih3 _ _ _ _ _ _ _ _ _ _ _)
  | (with_reducible exact impl_EntryFault.mono _ _ _ _ _)
  | (with_reducible exact LeO.refl _)
  | (with_reducible exact LeO.none _)
  | (with_reducible refine LeO.ite ?_ ?_)
  | (with_reducible refine LeO.bind ?_ (fun _ => ?_))
  | exact ih0 _ _ _ _ _ _ _ _ _ _
  | exact ih1 _ _ _ _ _ _ _ _ _ _ _ _
  | exact ih2 _ _ _ _ _ _ _ _ _ _ _ _
  | exact ih3 _ _ _ _ _ _ _ _ _ _ _
  | exact impl_EntryFault.mono _ _ _ _ _
  | exact LeO.none _
  | refine LeO.ite ?_ ?_
  | refine LeO.bind ?_ (fun _ => ?_)
theorem impl_NodeFault.mono : ∀ a0 a1 a2 a3 a4 a5 a6 a7 a8 k, LeO (impl_NodeFault.f k a0 a1 a2 a3 a4 a5 a6 a7 a8) (impl_NodeFault.f (k + 1) a0 a1 a2 a3 a4 a5 a6 a7 a8) := by
 intro a0 a1 a2 a3 a4 a5 a6 a7 a8 k
 obtain ⟨ih0, ih1, ih2, ih3⟩ := impl_NodeFault.mono_l k
 unfold impl_NodeFault.f
 repeat' first
   | (with_reducible exact ih0 _ _ _ _ _ _ _ _ _ _)
   | (with_reducible exact ih1 _ _ _ _ _ _ _ _ _ _ _ _)
   | (with_reducible exact ih2 _ _ _ _ _ _ _ _ _ _ _ _)
   | (with_reducible exact ih3 _ _ _ _ _ _ _ _ _ _ _)
   | (with_reducible exact impl_EntryFault.mono _ _ _ _ _)
   | (with_reducible exact LeO.refl _)
   | (with_reducible exact LeO.none _)
   | (with_reducible refine LeO.ite ?_ ?_)
   | (with_reducible refine LeO.bind ?_ (fun _ => ?_))
   | exact ih0 _ _ _ _ _ _ _ _ _ _
   | exact ih1 _ _ _ _ _ _ _ _ _ _ _ _
   | exact ih2 _ _ _ _ _ _ _ _ _ _ _ _
   | exact ih3 _ _ _ _ _ _ _ _ _ _ _
   | exact impl_EntryFault.mono _ _ _ _ _
   | exact LeO.none _
   | refine LeO.ite ?_ ?_
   | refine LeO.bind ?_ (fun _ => ?_)
set_option maxHeartbeats 8000000 in
set_option maxRecDepth 100000 in
theorem impl_NodeFault.calls (k : Nat) (a0_0 : Int) (a0_1 : Bool) (a0_2 : Int) (a0_3 : Int) (A0_4 : Option Addr) (c0_4 : Nat) (l0_4 : List (S55)) (a0_5 : Int) (a0_6 : Int) (a0_7 : Int) (a0_8 : Int) (r : Int) (w : World) (hr0_4 : Kd.C k55 w A0_4 l0_4.length l0_4) (hc0_4 : l0_4.length ≤ c0_4) (h : impl_NodeFault.f k a0_0 a0_1 a0_2 a0_3 l0_4 a0_5 a0_6 a0_7 a0_8 = some r) :
  Calls Try.prog 31 #[.agg #[.int .i64 a0_0, .bool a0_1, .int .i64 a0_2, .int .i64 a0_3, .slice A0_4 l0_4.length c0_4, .int .i64 a0_5, .int .i64 a0_6, .int .i64 a0_7, .int .i64 a0_8]] w fun e w' => e = .returned (.int .i64 r) ∧ Below w.heap.size w w' := by
 have hu32 := Try.underlying32
 have hu55 := Try.underlying55
 have hu38 := Try.underlying38
 have HR0_4 := Aside0.mk hr0_4
 have HC0_4 := Aside0.mk hc0_4
 clear hr0_4 hc0_4
 have HB := am (Below.refl w.heap.size w)
 have H : ((impl_isNode.f a0_0).bind fun t305 => (if t305 = true then ((impl_in.f a0_2 0 1).bind fun t306 => (if t306 = true then ((impl_in.f a0_3 0 1000).bind fun t307 => (impl_NodeFault.j0 k (!t307) a0_0 a0_1 a0_2 a0_3 l0_4 a0_5 a0_6 a0_7 a0_8)) else (impl_NodeFault.j0 k true a0_0 a0_1 a0_2 a0_3 l0_4 a0_5 a0_6 a0_7 a0_8))) else (impl_NodeFault.j0 k true a0_0 a0_1 a0_2 a0_3 l0_4 a0_5 a0_6 a0_7 a0_8))) = some r := h
 clear h
 have HC2 := Aside0.mk H
 clear H
 go_enter Try.func31, Try.ntmps31
 go_upto_region 1 with (first | ((with_reducible refine gate_dst (N := 1) rfl ?_); refine boxE #[.int .i64 a0_0, .bool a0_1, .int .i64 a0_2, .int .i64 a0_3, .slice A0_4 l0_4.length c0_4, .int .i64 a0_5, .int .i64 a0_6, .int .i64 a0_7, .int .i64 a0_8] 32 (N := 1) rfl rfl ?_; intro gb304 hg w3 hbox hb; have BK304 := Aside0.mk hbox; have GW304 := gZ HB hg; have GE304 := gZ HB hg; replace HB := bS HB hb; clear hb hbox hg))
 repeat (go_quiet (fail); go_upto_region 1 with (first | ((with_reducible refine gate_dst (N := 1) rfl ?_); refine boxE #[.int .i64 a0_0, .bool a0_1, .int .i64 a0_2, .int .i64 a0_3, .slice A0_4 l0_4.length c0_4, .int .i64 a0_5, .int .i64 a0_6, .int .i64 a0_7, .int .i64 a0_8] 32 (N := 1) rfl rfl ?_; intro gb304 hg w3 hbox hb; have BK304 := Aside0.mk hbox; have GW304 := gZ HB hg; have GE304 := gZ HB hg; replace HB := bS HB hb; clear hb hbox hg)))
 (try simp only [Act.put, List.setIfInBounds_toArray, List.set_cons_zero, List.set_cons_succ])
 go_cut [8] (fun v8 wc => ∃ (kq : Nat) (x8_1 : Bool), v8 = .bool x8_1 ∧ Aside0 (impl_NodeFault.j0 kq x8_1 a0_0 a0_1 a0_2 a0_3 l0_4 a0_5 a0_6 a0_7 a0_8 = some r) ∧ Aside0 (kq ≤ k) ∧ Aside0 (wc.heap[gb304]? = some (.cells #[.int .i64 a0_0, .bool a0_1, .int .i64 a0_2, .int .i64 a0_3, (.slice A0_4 l0_4.length c0_4), .int .i64 a0_5, .int .i64 a0_6, .int .i64 a0_7, .int .i64 a0_8] 32 (0, 0))) ∧ Aside0 (Below w.heap.size w wc))
 case first =>
  have H := HC2.out
  clear HC2
  replace H := Option.bind_eq_some_iff.mp H
  obtain ⟨t305, A40, H⟩ := H
  replace H : (if t305 = true then ((impl_in.f a0_2 0 1).bind fun t306 => (if t306 = true then ((impl_in.f a0_3 0 1000).bind fun t307 => (impl_NodeFault.j0 k (!t307) a0_0 a0_1 a0_2 a0_3 l0_4 a0_5 a0_6 a0_7 a0_8)) else (impl_NodeFault.j0 k true a0_0 a0_1 a0_2 a0_3 l0_4 a0_5 a0_6 a0_7 a0_8))) else (impl_NodeFault.j0 k true a0_0 a0_1 a0_2 a0_3 l0_4 a0_5 a0_6 a0_7 a0_8)) = some r := H
  have A4 := Aside0.mk A40
  clear A40
  by_cases c5 : t305 = true
  ·
   subst c5
   have H1 : ((impl_in.f a0_2 0 1).bind fun t306 => (if t306 = true then ((impl_in.f a0_3 0 1000).bind fun t307 => (impl_NodeFault.j0 k (!t307) a0_0 a0_1 a0_2 a0_3 l0_4 a0_5 a0_6 a0_7 a0_8)) else (impl_NodeFault.j0 k true a0_0 a0_1 a0_2 a0_3 l0_4 a0_5 a0_6 a0_7 a0_8))) = some r := by rw [if_pos rfl] at H; first | done | exact H
   clear H
   have H := H1
   clear H1
   replace H := Option.bind_eq_some_iff.mp H
   obtain ⟨t306, A60, H⟩ := H
   replace H : (if t306 = true then ((impl_in.f a0_3 0 1000).bind fun t307 => (impl_NodeFault.j0 k (!t307) a0_0 a0_1 a0_2 a0_3 l0_4 a0_5 a0_6 a0_7 a0_8)) else (impl_NodeFault.j0 k true a0_0 a0_1 a0_2 a0_3 l0_4 a0_5 a0_6 a0_7 a0_8)) = some r := H
   have A6 := Aside0.mk A60
   clear A60
   by_cases c7 : t306 = true
   ·
    subst c7
    have H1 : ((impl_in.f a0_3 0 1000).bind fun t307 => (impl_NodeFault.j0 k (!t307) a0_0 a0_1 a0_2 a0_3 l0_4 a0_5 a0_6 a0_7 a0_8)) = some r := by rw [if_pos rfl] at H; first | done | exact H
    clear H
    have H := H1
    clear H1
    replace H := Option.bind_eq_some_iff.mp H
    obtain ⟨t307, A80, H⟩ := H
    replace H : (impl_NodeFault.j0 k (!t307) a0_0 a0_1 a0_2 a0_3 l0_4 a0_5 a0_6 a0_7 a0_8) = some r := H
    have A8 := Aside0.mk A80
    clear A80
    have H' := Aside0.mk H
    clear H
    have hz9 := cl9 BK304
    go_wp2_with (first | (go_at_call 89; (with_reducible refine (impl_isNode.calls a0_0 true _ A4.out).mono ?_); rintro e w' ⟨rfl, ⟨nd, rfl⟩⟩; (try first | exact ⟨rfl, _, World.drewN_drewN _ _ _⟩ | exact ⟨rfl, _, Eq.trans (World.drewN_drewN _ _ _) (congrArg (World.drewN _) (Nat.add_assoc _ _ _))⟩)) | (go_at_call 87; (with_reducible refine (impl_in.calls a0_2 0 1 true _ A6.out).mono ?_); rintro e w' ⟨rfl, ⟨nd, rfl⟩⟩; (try first | exact ⟨rfl, _, World.drewN_drewN _ _ _⟩ | exact ⟨rfl, _, Eq.trans (World.drewN_drewN _ _ _) (congrArg (World.drewN _) (Nat.add_assoc _ _ _))⟩)) | (go_at_call 87; (with_reducible refine (impl_in.calls a0_3 0 1000 t307 _ A8.out).mono ?_); rintro e w' ⟨rfl, ⟨nd, rfl⟩⟩; (try first | exact ⟨rfl, _, World.drewN_drewN _ _ _⟩ | exact ⟨rfl, _, Eq.trans (World.drewN_drewN _ _ _) (congrArg (World.drewN _) (Nat.add_assoc _ _ _))⟩)))
    repeat (go_quiet (first | (go_at_call 89; (with_reducible refine (impl_isNode.calls a0_0 true _ A4.out).mono ?_); rintro e w' ⟨rfl, ⟨nd, rfl⟩⟩; (try first | exact ⟨rfl, _, World.drewN_drewN _ _ _⟩ | exact ⟨rfl, _, Eq.trans (World.drewN_drewN _ _ _) (congrArg (World.drewN _) (Nat.add_assoc _ _ _))⟩)) | (go_at_call 87; (with_reducible refine (impl_in.calls a0_2 0 1 true _ A6.out).mono ?_); rintro e w' ⟨rfl, ⟨nd, rfl⟩⟩; (try first | exact ⟨rfl, _, World.drewN_drewN _ _ _⟩ | exact ⟨rfl, _, Eq.trans (World.drewN_drewN _ _ _) (congrArg (World.drewN _) (Nat.add_assoc _ _ _))⟩)) | (go_at_call 87; (with_reducible refine (impl_in.calls a0_3 0 1000 t307 _ A8.out).mono ?_); rintro e w' ⟨rfl, ⟨nd, rfl⟩⟩; (try first | exact ⟨rfl, _, World.drewN_drewN _ _ _⟩ | exact ⟨rfl, _, Eq.trans (World.drewN_drewN _ _ _) (congrArg (World.drewN _) (Nat.add_assoc _ _ _))⟩))); try go_wp2_with (first | (go_at_call 89; (with_reducible refine (impl_isNode.calls a0_0 true _ A4.out).mono ?_); rintro e w' ⟨rfl, ⟨nd, rfl⟩⟩; (try first | exact ⟨rfl, _, World.drewN_drewN _ _ _⟩ | exact ⟨rfl, _, Eq.trans (World.drewN_drewN _ _ _) (congrArg (World.drewN _) (Nat.add_assoc _ _ _))⟩)) | (go_at_call 87; (with_reducible refine (impl_in.calls a0_2 0 1 true _ A6.out).mono ?_); rintro e w' ⟨rfl, ⟨nd, rfl⟩⟩; (try first | exact ⟨rfl, _, World.drewN_drewN _ _ _⟩ | exact ⟨rfl, _, Eq.trans (World.drewN_drewN _ _ _) (congrArg (World.drewN _) (Nat.add_assoc _ _ _))⟩)) | (go_at_call 87; (with_reducible refine (impl_in.calls a0_3 0 1000 t307 _ A8.out).mono ?_); rintro e w' ⟨rfl, ⟨nd, rfl⟩⟩; (try first | exact ⟨rfl, _, World.drewN_drewN _ _ _⟩ | exact ⟨rfl, _, Eq.trans (World.drewN_drewN _ _ _) (congrArg (World.drewN _) (Nat.add_assoc _ _ _))⟩))))
    go_meet
    case rel => exact ⟨_, (!t307), (by first | rfl | (simp; done) | (simp [*]; done)), H', ⟨by first | omega | exact Nat.le_refl _⟩, ⟨by (with_reducible repeat (first | refine blk_drewN ?_ _ | refine blk_drew ?_ | refine blk_alloc ?_ _)); exact BK304.out⟩, ⟨bel HB⟩⟩
   replace c7 := Bool.eq_false_iff.mpr c7
   subst c7
   have H1 : (impl_NodeFault.j0 k true a0_0 a0_1 a0_2 a0_3 l0_4 a0_5 a0_6 a0_7 a0_8) = some r := by rw [if_neg (show ¬ (false = true) by decide)] at H; first | done | exact H
   clear H
   have H := H1
   clear H1
   have H' := Aside0.mk H
   clear H
   have hz10 := cl9 BK304
   go_wp2_with (first | (go_at_call 89; (with_reducible refine (impl_isNode.calls a0_0 true _ A4.out).mono ?_); rintro e w' ⟨rfl, ⟨nd, rfl⟩⟩; (try first | exact ⟨rfl, _, World.drewN_drewN _ _ _⟩ | exact ⟨rfl, _, Eq.trans (World.drewN_drewN _ _ _) (congrArg (World.drewN _) (Nat.add_assoc _ _ _))⟩)) | (go_at_call 87; (with_reducible refine (impl_in.calls a0_2 0 1 false _ A6.out).mono ?_); rintro e w' ⟨rfl, ⟨nd, rfl⟩⟩; (try first | exact ⟨rfl, _, World.drewN_drewN _ _ _⟩ | exact ⟨rfl, _, Eq.trans (World.drewN_drewN _ _ _) (congrArg (World.drewN _) (Nat.add_assoc _ _ _))⟩)))
   repeat (go_quiet (first | (go_at_call 89; (with_reducible refine (impl_isNode.calls a0_0 true _ A4.out).mono ?_); rintro e w' ⟨rfl, ⟨nd, rfl⟩⟩; (try first | exact ⟨rfl, _, World.drewN_drewN _ _ _⟩ | exact ⟨rfl, _, Eq.trans (World.drewN_drewN _ _ _) (congrArg (World.drewN _) (Nat.add_assoc _ _ _))⟩)) | (go_at_call 87; (with_reducible refine (impl_in.calls a0_2 0 1 false _ A6.out).mono ?_); rintro e w' ⟨rfl, ⟨nd, rfl⟩⟩; (try first | exact ⟨rfl, _, World.drewN_drewN _ _ _⟩ | exact ⟨rfl, _, Eq.trans (World.drewN_drewN _ _ _) (congrArg (World.drewN _) (Nat.add_assoc _ _ _))⟩))); try go_wp2_with (first | (go_at_call 89; (with_reducible refine (impl_isNode.calls a0_0 true _ A4.out).mono ?_); rintro e w' ⟨rfl, ⟨nd, rfl⟩⟩; (try first | exact ⟨rfl, _, World.drewN_drewN _ _ _⟩ | exact ⟨rfl, _, Eq.trans (World.drewN_drewN _ _ _) (congrArg (World.drewN _) (Nat.add_assoc _ _ _))⟩)) | (go_at_call 87; (with_reducible refine (impl_in.calls a0_2 0 1 false _ A6.out).mono ?_); rintro e w' ⟨rfl, ⟨nd, rfl⟩⟩; (try first | exact ⟨rfl, _, World.drewN_drewN _ _ _⟩ | exact ⟨rfl, _, Eq.trans (World.drewN_drewN _ _ _) (congrArg (World.drewN _) (Nat.add_assoc _ _ _))⟩))))
   go_meet
   case rel => exact ⟨_, (true), (by first | rfl | (simp; done) | (simp [*]; done)), H', ⟨by first | omega | exact Nat.le_refl _⟩, ⟨by (with_reducible repeat (first | refine blk_drewN ?_ _ | refine blk_drew ?_ | refine blk_alloc ?_ _)); exact BK304.out⟩, ⟨bel HB⟩⟩
  replace c5 := Bool.eq_false_iff.mpr c5
  subst c5
  have H1 : (impl_NodeFault.j0 k true a0_0 a0_1 a0_2 a0_3 l0_4 a0_5 a0_6 a0_7 a0_8) = some r := by rw [if_neg (show ¬ (false = true) by decide)] at H; first | done | exact H
  clear H
  have H := H1
  clear H1
  have H' := Aside0.mk H
  clear H
  have hz11 := cl9 BK304
  go_wp2_with (first | (go_at_call 89; (with_reducible refine (impl_isNode.calls a0_0 false _ A4.out).mono ?_); rintro e w' ⟨rfl, ⟨nd, rfl⟩⟩; (try first | exact ⟨rfl, _, World.drewN_drewN _ _ _⟩ | exact ⟨rfl, _, Eq.trans (World.drewN_drewN _ _ _) (congrArg (World.drewN _) (Nat.add_assoc _ _ _))⟩)))
  repeat (go_quiet ((go_at_call 89; (with_reducible refine (impl_isNode.calls a0_0 false _ A4.out).mono ?_); rintro e w' ⟨rfl, ⟨nd, rfl⟩⟩; (try first | exact ⟨rfl, _, World.drewN_drewN _ _ _⟩ | exact ⟨rfl, _, Eq.trans (World.drewN_drewN _ _ _) (congrArg (World.drewN _) (Nat.add_assoc _ _ _))⟩))); try go_wp2_with (first | (go_at_call 89; (with_reducible refine (impl_isNode.calls a0_0 false _ A4.out).mono ?_); rintro e w' ⟨rfl, ⟨nd, rfl⟩⟩; (try first | exact ⟨rfl, _, World.drewN_drewN _ _ _⟩ | exact ⟨rfl, _, Eq.trans (World.drewN_drewN _ _ _) (congrArg (World.drewN _) (Nat.add_assoc _ _ _))⟩))))
  go_meet
  case rel => exact ⟨_, (true), (by first | rfl | (simp; done) | (simp [*]; done)), H', ⟨by first | omega | exact Nat.le_refl _⟩, ⟨by (with_reducible repeat (first | refine blk_drewN ?_ _ | refine blk_drew ?_ | refine blk_alloc ?_ _)); exact BK304.out⟩, ⟨bel HB⟩⟩
 case rest =>
  clear HC2
  try clear p2
  try clear c3
  try clear c5
  try clear c7
  try clear hz10
  try clear hz11
  try clear hz9
  obtain ⟨kq, x8_1, rfl, HA, HJ1, BK304, HB⟩ := hcut
  cases kq with
  | zero => exact absurd HA.out (by simp [impl_NodeFault.j0])
  | succ kj1 =>
   have H := HA.out
   clear HA
   simp only [impl_NodeFault.j0] at H
   by_cases c12 : x8_1 = true
   ·
    subst c12
    have H1 : (some 3) = some r := by rw [if_pos rfl] at H; first | done | exact H
    clear H
    have H := H1
    clear H1
    obtain rfl := Option.some.inj H
    go_wp2
    repeat (go_quiet (fail); try go_wp2)
    go_ret
    exact ⟨by first | rfl | (simp [errW_none, errW_some] <;> rfl) | (simp [*, errW_none, errW_some] <;> rfl), bel HB⟩
   replace c12 := Bool.eq_false_iff.mpr c12
   subst c12
   have H1 : (if (l0_4.length : Int) > 100 then (some 2) else (impl_NodeFault.l0 kj1 l0_4 (l0_4.length : Int) 0 a0_0 a0_1 a0_2 a0_3 l0_4 a0_5 a0_6 a0_7 a0_8)) = some r := by rw [if_neg (show ¬ (false = true) by decide)] at H; first | done | exact H
   clear H
   have H := H1
   clear H1
   by_cases c13 : (l0_4.length : Int) > 100
   ·
    rw [if_pos c13] at H
    have c13b0 : decide (100 < (l0_4.length : Int)) = true := decide_eq_true c13
    have c13b1 : decide (100 < l0_4.length) = true := decide_eq_true (by omega)
    clear c13
    obtain rfl := Option.some.inj H
    have hz14 := cl9 BK304
    go_wp2
    repeat (go_quiet (fail); try go_wp2)
    go_ret
    exact ⟨by first | rfl | (simp [errW_none, errW_some] <;> rfl) | (simp [*, errW_none, errW_some] <;> rfl), bel HB⟩
   rw [if_neg c13] at H
   have c13b0 : decide (100 < (l0_4.length : Int)) = false := decide_eq_false c13
   have c13b1 : decide (100 < l0_4.length) = false := decide_eq_false (by omega)
   clear c13
   have H' := Aside0.mk H
   clear H
   have hz15 := cl9 BK304
   go_wp2
   repeat (go_quiet (fail); try go_wp2)
   go_loopg [33] kj1 (fun kq v33 w' => ∃ (x33_2 : Int), v33 = .int .i64 x33_2 ∧ Aside0 (impl_NodeFault.l0 kq l0_4 (l0_4.length : Int) x33_2 a0_0 a0_1 a0_2 a0_3 l0_4 a0_5 a0_6 a0_7 a0_8 = some r) ∧ Aside0 (kq ≤ kj1) ∧ Aside0 (w'.heap[gb304]? = some (.cells #[.int .i64 a0_0, .bool a0_1, .int .i64 a0_2, .int .i64 a0_3, (.slice A0_4 l0_4.length c0_4), .int .i64 a0_5, .int .i64 a0_6, .int .i64 a0_7, .int .i64 a0_8] 32 (0, 0))) ∧ Aside0 (Below w.heap.size w w'))
   case atStart => exact ⟨(0), (by first | rfl | (simp; done) | (simp [*]; done)), H', ⟨Nat.le_refl _⟩, ⟨by (with_reducible repeat (first | refine blk_drewN ?_ _ | refine blk_drew ?_ | refine blk_alloc ?_ _)); exact BK304.out⟩, ⟨bel HB⟩⟩
   case round =>
    clear H'
    try clear c1
    try clear p2
    try clear c3
    try clear c5
    try clear c7
    try clear c12
    try clear c13
    try clear c13b0
    try clear c13b1
    try clear hz10
    try clear hz11
    try clear hz14
    try clear hz15
    try clear hz9
    try clear p2
    obtain ⟨x33_2, rfl, HA, HK2, BK304, HB⟩ := hrel
    cases gk with
    | zero => exact absurd HA.out (by simp [impl_NodeFault.l0])
    | succ k2 =>
     have H := HA.out
     clear HA
     simp only [impl_NodeFault.l0] at H
     by_cases c16 : x33_2 < (l0_4.length : Int)
     ·
      rw [if_pos c16] at H
      have c16b0 : decide (x33_2 < (l0_4.length : Int)) = true := decide_eq_true c16
      clear c16
      by_cases c17 : 0 ≤ x33_2
      ·
       rw [if_pos c17] at H
       have c17b0 : decide (0 ≤ x33_2) = true := decide_eq_true c17
       clear c17
       by_cases c18 : x33_2 < (l0_4.length : Int)
       ·
        rw [if_pos c18] at H
        have c18b0 : decide (x33_2 < (l0_4.length : Int)) = true := decide_eq_true c18
        clear c18
        replace H := Option.bind_eq_some_iff.mp H
        obtain ⟨t310, A190, H⟩ := H
        replace H : (if t310 = 0 then (if ((rd_T55 l0_4 x33_2).f0) > a0_3 then (some 1) else (if x33_2 > 0 then (if 0 ≤ (wrap64 (x33_2 - 1)) then (if (wrap64 (x33_2 - 1)) < (l0_4.length : Int) then (if ((rd_T55 l0_4 x33_2).f0) < ((rd_T55 l0_4 (wrap64 (x33_2 - 1))).f0) then (some 1) else (impl_NodeFault.l0 k2 l0_4 (l0_4.length : Int) (wrap64 (x33_2 + 1)) a0_0 a0_1 a0_2 a0_3 l0_4 a0_5 a0_6 a0_7 a0_8)) else (none)) else (none)) else (impl_NodeFault.l0 k2 l0_4 (l0_4.length : Int) (wrap64 (x33_2 + 1)) a0_0 a0_1 a0_2 a0_3 l0_4 a0_5 a0_6 a0_7 a0_8))) else (some t310)) = some r := H
        have A19 := Aside0.mk A190
        clear A190
        by_cases c20 : t310 = 0
        ·
         rw [if_pos c20] at H
         have c20b0 : (t310 == 0) = true := beq_iff_eq.mpr c20
         have c20b1 : (t310 != 0) = false := bne_eq_false_iff_eq.mpr c20
         clear c20
         by_cases c21 : ((rd_T55 l0_4 x33_2).f0) > a0_3
         ·
          rw [if_pos c21] at H
          have c21b0 : decide (a0_3 < ((rd_T55 l0_4 x33_2).f0)) = true := decide_eq_true c21
          clear c21
          obtain rfl := Option.some.inj H
          have p308 : 0 ≤ (x33_2 : Int) := of_decide_eq_true (by first | (with_reducible assumption) | assumption)
          have q308 : x33_2 < (l0_4.length : Int) := of_decide_eq_true (by first | (with_reducible assumption) | assumption)
          obtain ⟨ad308, A308_3, c308_3, e308, hx308_0, hx308_1, hx308_2, hx308_3, hl308_3, hi308_3⟩ := at_T55 HR0_4.out x33_2 p308 q308
          cases e308
          replace hx308_0 := (HB.out.cell (World.block_lt_of_cell? w _ hx308_0)).trans hx308_0
          replace hx308_1 := (HB.out.cell (World.block_lt_of_cell? w _ hx308_1)).trans hx308_1
          replace hx308_2 := (HB.out.cell (World.block_lt_of_cell? w _ hx308_2)).trans hx308_2
          replace hx308_3 := (HB.out.cell (World.block_lt_of_cell? w _ hx308_3)).trans hx308_3
          have HR308_3 := Aside0.mk hi308_3
          have HC308_3 := Aside0.mk hl308_3
          clear hi308_3 hl308_3
          replace p308 := eq_true p308
          replace q308 := eq_true q308
          go_wp2_with (first | ((with_reducible refine gate_dst (N := 4) rfl ?_); refine boxE #[.int .i64 0, .int .i64 0, .int .i64 0, .slice none 0 0] 55 (N := 4) rfl rfl ?_; intro gb309 hg w22 hbox hb; have BK309 := Aside0.mk hbox; have GW309 := gZ HB hg; have GE309 := gZ HB hg; replace HB := bS HB hb; have NB304_309 := nL BK304 hg; have NB309_304 := nG BK304 hg; replace BK304 := bK BK304 hb; clear hb hbox hg; have hnb23 := NB309_304.out; have hnc23 := NB304_309.out; have hz24 := cl4 BK309) | (go_at_call 90; (with_reducible refine (impl_EntryFault.calls k2 ((rd_T55 l0_4 x33_2).f0) ((rd_T55 l0_4 x33_2).f1.f0) ((rd_T55 l0_4 x33_2).f1.f1) _ _ ((rd_T55 l0_4 x33_2).f1.f2) t310 _ ?side1 ?side2 A19.out).mono ?_); (case side1 => exact Kd.C_below HR308_3.out (bel HB)); (case side2 => exact HC308_3.out); rintro e w25 ⟨rfl, hb⟩; replace BK304 := am (blk_below (g := gb304) (o := .cells #[.int .i64 a0_0, .bool a0_1, .int .i64 a0_2, .int .i64 a0_3, .slice (some ad308) l0_4.length c0_4, .int .i64 a0_5, .int .i64 a0_6, .int .i64 a0_7, .int .i64 a0_8] 32 (0, 0)) (mP BK304) hb); replace BK309 := am (blk_below (g := gb309) (o := .cells #[.int .i64 ((rd_T55 l0_4 x33_2).f0), .int .i64 ((rd_T55 l0_4 x33_2).f1.f0), .int .i64 ((rd_T55 l0_4 x33_2).f1.f1), .slice A308_3 ((rd_T55 l0_4 x33_2).f1.f2).length c308_3] 55 (0, 0)) (mP BK309) hb); replace HB := bS HB hb; (try clear hb); (try clear hb2); (try clear hk); (try clear hi); have hz26 := cl4 BK309; have hz27 := cl9 BK304))
          repeat (go_quiet ((go_at_call 90; (with_reducible refine (impl_EntryFault.calls k2 ((rd_T55 l0_4 x33_2).f0) ((rd_T55 l0_4 x33_2).f1.f0) ((rd_T55 l0_4 x33_2).f1.f1) _ _ ((rd_T55 l0_4 x33_2).f1.f2) t310 _ ?side1 ?side2 A19.out).mono ?_); (case side1 => exact Kd.C_below HR308_3.out (bel HB)); (case side2 => exact HC308_3.out); rintro e w25 ⟨rfl, hb⟩; replace BK304 := am (blk_below (g := gb304) (o := .cells #[.int .i64 a0_0, .bool a0_1, .int .i64 a0_2, .int .i64 a0_3, .slice (some ad308) l0_4.length c0_4, .int .i64 a0_5, .int .i64 a0_6, .int .i64 a0_7, .int .i64 a0_8] 32 (0, 0)) (mP BK304) hb); replace BK309 := am (blk_below (g := gb309) (o := .cells #[.int .i64 ((rd_T55 l0_4 x33_2).f0), .int .i64 ((rd_T55 l0_4 x33_2).f1.f0), .int .i64 ((rd_T55 l0_4 x33_2).f1.f1), .slice A308_3 ((rd_T55 l0_4 x33_2).f1.f2).length c308_3] 55 (0, 0)) (mP BK309) hb); replace HB := bS HB hb; (try clear hb); (try clear hb2); (try clear hk); (try clear hi); have hz26 := cl4 BK309; have hz27 := cl9 BK304)); try go_wp2_with (first | ((with_reducible refine gate_dst (N := 4) rfl ?_); refine boxE #[.int .i64 0, .int .i64 0, .int .i64 0, .slice none 0 0] 55 (N := 4) rfl rfl ?_; intro gb309 hg w22 hbox hb; have BK309 := Aside0.mk hbox; have GW309 := gZ HB hg; have GE309 := gZ HB hg; replace HB := bS HB hb; have NB304_309 := nL BK304 hg; have NB309_304 := nG BK304 hg; replace BK304 := bK BK304 hb; clear hb hbox hg; have hnb23 := NB309_304.out; have hnc23 := NB304_309.out; have hz24 := cl4 BK309) | (go_at_call 90; (with_reducible refine (impl_EntryFault.calls k2 ((rd_T55 l0_4 x33_2).f0) ((rd_T55 l0_4 x33_2).f1.f0) ((rd_T55 l0_4 x33_2).f1.f1) _ _ ((rd_T55 l0_4 x33_2).f1.f2) t310 _ ?side1 ?side2 A19.out).mono ?_); (case side1 => exact Kd.C_below HR308_3.out (bel HB)); (case side2 => exact HC308_3.out); rintro e w25 ⟨rfl, hb⟩; replace BK304 := am (blk_below (g := gb304) (o := .cells #[.int .i64 a0_0, .bool a0_1, .int .i64 a0_2, .int .i64 a0_3, .slice (some ad308) l0_4.length c0_4, .int .i64 a0_5, .int .i64 a0_6, .int .i64 a0_7, .int .i64 a0_8] 32 (0, 0)) (mP BK304) hb); replace BK309 := am (blk_below (g := gb309) (o := .cells #[.int .i64 ((rd_T55 l0_4 x33_2).f0), .int .i64 ((rd_T55 l0_4 x33_2).f1.f0), .int .i64 ((rd_T55 l0_4 x33_2).f1.f1), .slice A308_3 ((rd_T55 l0_4 x33_2).f1.f2).length c308_3] 55 (0, 0)) (mP BK309) hb); replace HB := bS HB hb; (try clear hb); (try clear hb2); (try clear hk); (try clear hi); have hz26 := cl4 BK309; have hz27 := cl9 BK304)))
          go_ret
          exact ⟨by first | rfl | (simp [errW_none, errW_some] <;> rfl) | (simp [*, errW_none, errW_some] <;> rfl), bel HB⟩
         rw [if_neg c21] at H
         have c21b0 : decide (a0_3 < ((rd_T55 l0_4 x33_2).f0)) = false := decide_eq_false c21
         clear c21
         by_cases c28 : x33_2 > 0
         ·
          rw [if_pos c28] at H
          have c28b0 : decide (0 < x33_2) = true := decide_eq_true c28
          clear c28
          obtain ⟨ji29, hji29⟩ : ∃ j_ : Int, (wrap64 (x33_2 - 1)) = j_ := ⟨_, rfl⟩
          replace H : (if 0 ≤ (ji29) then (if (ji29) < (l0_4.length : Int) then (if ((rd_T55 l0_4 x33_2).f0) < ((rd_T55 l0_4 (ji29)).f0) then (some 1) else (impl_NodeFault.l0 k2 l0_4 (l0_4.length : Int) (wrap64 (x33_2 + 1)) a0_0 a0_1 a0_2 a0_3 l0_4 a0_5 a0_6 a0_7 a0_8)) else (none)) else (none)) = some r := by first | (rw [hji29] at H; exact H) | (simp only [hji29] at H ⊢; exact H)
          (try rw [hji29] at A19)
          have hji29w : (IntKind.i64.wrap (x33_2 - 1)) = ji29 := (i64_w _).trans hji29
          by_cases c30 : 0 ≤ (ji29)
          ·
           rw [if_pos c30] at H
           have c30b0 : decide (0 ≤ (ji29)) = true := decide_eq_true c30
           clear c30
           by_cases c31 : (ji29) < (l0_4.length : Int)
           ·
            rw [if_pos c31] at H
            have c31b0 : decide ((ji29) < (l0_4.length : Int)) = true := decide_eq_true c31
            clear c31
            by_cases c32 : ((rd_T55 l0_4 x33_2).f0) < ((rd_T55 l0_4 (ji29)).f0)
            ·
             rw [if_pos c32] at H
             have c32b0 : decide (((rd_T55 l0_4 x33_2).f0) < ((rd_T55 l0_4 (ji29)).f0)) = true := decide_eq_true c32
             clear c32
             obtain rfl := Option.some.inj H
             have p308 : 0 ≤ (x33_2 : Int) := of_decide_eq_true (by first | (with_reducible assumption) | assumption)
             have q308 : x33_2 < (l0_4.length : Int) := of_decide_eq_true (by first | (with_reducible assumption) | assumption)
             obtain ⟨ad308, A308_3, c308_3, e308, hx308_0, hx308_1, hx308_2, hx308_3, hl308_3, hi308_3⟩ := at_T55 HR0_4.out x33_2 p308 q308
             cases e308
             replace hx308_0 := (HB.out.cell (World.block_lt_of_cell? w _ hx308_0)).trans hx308_0
             replace hx308_1 := (HB.out.cell (World.block_lt_of_cell? w _ hx308_1)).trans hx308_1
             replace hx308_2 := (HB.out.cell (World.block_lt_of_cell? w _ hx308_2)).trans hx308_2
             replace hx308_3 := (HB.out.cell (World.block_lt_of_cell? w _ hx308_3)).trans hx308_3
             have HR308_3 := Aside0.mk hi308_3
             have HC308_3 := Aside0.mk hl308_3
             clear hi308_3 hl308_3
             replace p308 := eq_true p308
             replace q308 := eq_true q308
             go_wp2_with (first | ((with_reducible refine gate_dst (N := 4) rfl ?_); refine boxE #[.int .i64 0, .int .i64 0, .int .i64 0, .slice none 0 0] 55 (N := 4) rfl rfl ?_; intro gb309 hg w33 hbox hb; have BK309 := Aside0.mk hbox; have GW309 := gZ HB hg; have GE309 := gZ HB hg; replace HB := bS HB hb; have NB304_309 := nL BK304 hg; have NB309_304 := nG BK304 hg; replace BK304 := bK BK304 hb; clear hb hbox hg; have hnb34 := NB309_304.out; have hnc34 := NB304_309.out; have hz35 := cl4 BK309) | (go_at_call 90; (with_reducible refine (impl_EntryFault.calls k2 ((rd_T55 l0_4 x33_2).f0) ((rd_T55 l0_4 x33_2).f1.f0) ((rd_T55 l0_4 x33_2).f1.f1) _ _ ((rd_T55 l0_4 x33_2).f1.f2) t310 _ ?side1 ?side2 A19.out).mono ?_); (case side1 => exact Kd.C_below HR308_3.out (bel HB)); (case side2 => exact HC308_3.out); rintro e w36 ⟨rfl, hb⟩; replace BK304 := am (blk_below (g := gb304) (o := .cells #[.int .i64 a0_0, .bool a0_1, .int .i64 a0_2, .int .i64 a0_3, .slice (some ad308) l0_4.length c0_4, .int .i64 a0_5, .int .i64 a0_6, .int .i64 a0_7, .int .i64 a0_8] 32 (0, 0)) (mP BK304) hb); replace BK309 := am (blk_below (g := gb309) (o := .cells #[.int .i64 ((rd_T55 l0_4 x33_2).f0), .int .i64 ((rd_T55 l0_4 x33_2).f1.f0), .int .i64 ((rd_T55 l0_4 x33_2).f1.f1), .slice A308_3 ((rd_T55 l0_4 x33_2).f1.f2).length c308_3] 55 (0, 0)) (mP BK309) hb); replace HB := bS HB hb; (try clear hb); (try clear hb2); (try clear hk); (try clear hi); have hz37 := cl4 BK309; have hz38 := cl9 BK304; have p311 : 0 ≤ ((ji29) : Int) := of_decide_eq_true (by first | (with_reducible assumption) | assumption); have q311 : (ji29) < (l0_4.length : Int) := of_decide_eq_true (by first | (with_reducible assumption) | assumption); obtain ⟨ad311, A311_3, c311_3, e311, hx311_0, hx311_1, hx311_2, hx311_3, hl311_3, hi311_3⟩ := at_T55 HR0_4.out (ji29) p311 q311; obtain rfl : ad308 = ad311 := (by injection e311); replace hx311_0 := (HB.out.cell (World.block_lt_of_cell? w _ hx311_0)).trans hx311_0; replace hx311_1 := (HB.out.cell (World.block_lt_of_cell? w _ hx311_1)).trans hx311_1; replace hx311_2 := (HB.out.cell (World.block_lt_of_cell? w _ hx311_2)).trans hx311_2; replace hx311_3 := (HB.out.cell (World.block_lt_of_cell? w _ hx311_3)).trans hx311_3; have HR311_3 := Aside0.mk hi311_3; have HC311_3 := Aside0.mk hl311_3; clear hi311_3 hl311_3; replace p311 := eq_true p311; replace q311 := eq_true q311))
             repeat (go_quiet ((go_at_call 90; (with_reducible refine (impl_EntryFault.calls k2 ((rd_T55 l0_4 x33_2).f0) ((rd_T55 l0_4 x33_2).f1.f0) ((rd_T55 l0_4 x33_2).f1.f1) _ _ ((rd_T55 l0_4 x33_2).f1.f2) t310 _ ?side1 ?side2 A19.out).mono ?_); (case side1 => exact Kd.C_below HR308_3.out (bel HB)); (case side2 => exact HC308_3.out); rintro e w36 ⟨rfl, hb⟩; replace BK304 := am (blk_below (g := gb304) (o := .cells #[.int .i64 a0_0, .bool a0_1, .int .i64 a0_2, .int .i64 a0_3, .slice (some ad308) l0_4.length c0_4, .int .i64 a0_5, .int .i64 a0_6, .int .i64 a0_7, .int .i64 a0_8] 32 (0, 0)) (mP BK304) hb); replace BK309 := am (blk_below (g := gb309) (o := .cells #[.int .i64 ((rd_T55 l0_4 x33_2).f0), .int .i64 ((rd_T55 l0_4 x33_2).f1.f0), .int .i64 ((rd_T55 l0_4 x33_2).f1.f1), .slice A308_3 ((rd_T55 l0_4 x33_2).f1.f2).length c308_3] 55 (0, 0)) (mP BK309) hb); replace HB := bS HB hb; (try clear hb); (try clear hb2); (try clear hk); (try clear hi); have hz37 := cl4 BK309; have hz38 := cl9 BK304; have p311 : 0 ≤ ((ji29) : Int) := of_decide_eq_true (by first | (with_reducible assumption) | assumption); have q311 : (ji29) < (l0_4.length : Int) := of_decide_eq_true (by first | (with_reducible assumption) | assumption); obtain ⟨ad311, A311_3, c311_3, e311, hx311_0, hx311_1, hx311_2, hx311_3, hl311_3, hi311_3⟩ := at_T55 HR0_4.out (ji29) p311 q311; obtain rfl : ad308 = ad311 := (by injection e311); replace hx311_0 := (HB.out.cell (World.block_lt_of_cell? w _ hx311_0)).trans hx311_0; replace hx311_1 := (HB.out.cell (World.block_lt_of_cell? w _ hx311_1)).trans hx311_1; replace hx311_2 := (HB.out.cell (World.block_lt_of_cell? w _ hx311_2)).trans hx311_2; replace hx311_3 := (HB.out.cell (World.block_lt_of_cell? w _ hx311_3)).trans hx311_3; have HR311_3 := Aside0.mk hi311_3; have HC311_3 := Aside0.mk hl311_3; clear hi311_3 hl311_3; replace p311 := eq_true p311; replace q311 := eq_true q311)); try go_wp2_with (first | ((with_reducible refine gate_dst (N := 4) rfl ?_); refine boxE #[.int .i64 0, .int .i64 0, .int .i64 0, .slice none 0 0] 55 (N := 4) rfl rfl ?_; intro gb309 hg w33 hbox hb; have BK309 := Aside0.mk hbox; have GW309 := gZ HB hg; have GE309 := gZ HB hg; replace HB := bS HB hb; have NB304_309 := nL BK304 hg; have NB309_304 := nG BK304 hg; replace BK304 := bK BK304 hb; clear hb hbox hg; have hnb34 := NB309_304.out; have hnc34 := NB304_309.out; have hz35 := cl4 BK309) | (go_at_call 90; (with_reducible refine (impl_EntryFault.calls k2 ((rd_T55 l0_4 x33_2).f0) ((rd_T55 l0_4 x33_2).f1.f0) ((rd_T55 l0_4 x33_2).f1.f1) _ _ ((rd_T55 l0_4 x33_2).f1.f2) t310 _ ?side1 ?side2 A19.out).mono ?_); (case side1 => exact Kd.C_below HR308_3.out (bel HB)); (case side2 => exact HC308_3.out); rintro e w36 ⟨rfl, hb⟩; replace BK304 := am (blk_below (g := gb304) (o := .cells #[.int .i64 a0_0, .bool a0_1, .int .i64 a0_2, .int .i64 a0_3, .slice (some ad308) l0_4.length c0_4, .int .i64 a0_5, .int .i64 a0_6, .int .i64 a0_7, .int .i64 a0_8] 32 (0, 0)) (mP BK304) hb); replace BK309 := am (blk_below (g := gb309) (o := .cells #[.int .i64 ((rd_T55 l0_4 x33_2).f0), .int .i64 ((rd_T55 l0_4 x33_2).f1.f0), .int .i64 ((rd_T55 l0_4 x33_2).f1.f1), .slice A308_3 ((rd_T55 l0_4 x33_2).f1.f2).length c308_3] 55 (0, 0)) (mP BK309) hb); replace HB := bS HB hb; (try clear hb); (try clear hb2); (try clear hk); (try clear hi); have hz37 := cl4 BK309; have hz38 := cl9 BK304; have p311 : 0 ≤ ((ji29) : Int) := of_decide_eq_true (by first | (with_reducible assumption) | assumption); have q311 : (ji29) < (l0_4.length : Int) := of_decide_eq_true (by first | (with_reducible assumption) | assumption); obtain ⟨ad311, A311_3, c311_3, e311, hx311_0, hx311_1, hx311_2, hx311_3, hl311_3, hi311_3⟩ := at_T55 HR0_4.out (ji29) p311 q311; obtain rfl : ad308 = ad311 := (by injection e311); replace hx311_0 := (HB.out.cell (World.block_lt_of_cell? w _ hx311_0)).trans hx311_0; replace hx311_1 := (HB.out.cell (World.block_lt_of_cell? w _ hx311_1)).trans hx311_1; replace hx311_2 := (HB.out.cell (World.block_lt_of_cell? w _ hx311_2)).trans hx311_2; replace hx311_3 := (HB.out.cell (World.block_lt_of_cell? w _ hx311_3)).trans hx311_3; have HR311_3 := Aside0.mk hi311_3; have HC311_3 := Aside0.mk hl311_3; clear hi311_3 hl311_3; replace p311 := eq_true p311; replace q311 := eq_true q311)))
             go_ret
             exact ⟨by first | rfl | (simp [errW_none, errW_some] <;> rfl) | (simp only [← hji29]; first | rfl | (simp [errW_none, errW_some] <;> rfl)) | (simp [*, errW_none, errW_some] <;> rfl), bel HB⟩
            rw [if_neg c32] at H
            have c32b0 : decide (((rd_T55 l0_4 x33_2).f0) < ((rd_T55 l0_4 (ji29)).f0)) = false := decide_eq_false c32
            clear c32
            have H' := Aside0.mk H
            clear H
            have p308 : 0 ≤ (x33_2 : Int) := of_decide_eq_true (by first | (with_reducible assumption) | assumption)
            have q308 : x33_2 < (l0_4.length : Int) := of_decide_eq_true (by first | (with_reducible assumption) | assumption)
            obtain ⟨ad308, A308_3, c308_3, e308, hx308_0, hx308_1, hx308_2, hx308_3, hl308_3, hi308_3⟩ := at_T55 HR0_4.out x33_2 p308 q308
            cases e308
            replace hx308_0 := (HB.out.cell (World.block_lt_of_cell? w _ hx308_0)).trans hx308_0
            replace hx308_1 := (HB.out.cell (World.block_lt_of_cell? w _ hx308_1)).trans hx308_1
            replace hx308_2 := (HB.out.cell (World.block_lt_of_cell? w _ hx308_2)).trans hx308_2
            replace hx308_3 := (HB.out.cell (World.block_lt_of_cell? w _ hx308_3)).trans hx308_3
            have HR308_3 := Aside0.mk hi308_3
            have HC308_3 := Aside0.mk hl308_3
            clear hi308_3 hl308_3
            replace p308 := eq_true p308
            replace q308 := eq_true q308
            go_wp2_with (first | ((with_reducible refine gate_dst (N := 4) rfl ?_); refine boxE #[.int .i64 0, .int .i64 0, .int .i64 0, .slice none 0 0] 55 (N := 4) rfl rfl ?_; intro gb309 hg w39 hbox hb; have BK309 := Aside0.mk hbox; have GW309 := gZ HB hg; have GE309 := gZ HB hg; replace HB := bS HB hb; have NB304_309 := nL BK304 hg; have NB309_304 := nG BK304 hg; replace BK304 := bK BK304 hb; clear hb hbox hg; have hnb40 := NB309_304.out; have hnc40 := NB304_309.out; have hz41 := cl4 BK309) | (go_at_call 90; (with_reducible refine (impl_EntryFault.calls k2 ((rd_T55 l0_4 x33_2).f0) ((rd_T55 l0_4 x33_2).f1.f0) ((rd_T55 l0_4 x33_2).f1.f1) _ _ ((rd_T55 l0_4 x33_2).f1.f2) t310 _ ?side1 ?side2 A19.out).mono ?_); (case side1 => exact Kd.C_below HR308_3.out (bel HB)); (case side2 => exact HC308_3.out); rintro e w42 ⟨rfl, hb⟩; replace BK304 := am (blk_below (g := gb304) (o := .cells #[.int .i64 a0_0, .bool a0_1, .int .i64 a0_2, .int .i64 a0_3, .slice (some ad308) l0_4.length c0_4, .int .i64 a0_5, .int .i64 a0_6, .int .i64 a0_7, .int .i64 a0_8] 32 (0, 0)) (mP BK304) hb); replace BK309 := am (blk_below (g := gb309) (o := .cells #[.int .i64 ((rd_T55 l0_4 x33_2).f0), .int .i64 ((rd_T55 l0_4 x33_2).f1.f0), .int .i64 ((rd_T55 l0_4 x33_2).f1.f1), .slice A308_3 ((rd_T55 l0_4 x33_2).f1.f2).length c308_3] 55 (0, 0)) (mP BK309) hb); replace HB := bS HB hb; (try clear hb); (try clear hb2); (try clear hk); (try clear hi); have hz43 := cl4 BK309; have hz44 := cl9 BK304; have p311 : 0 ≤ ((ji29) : Int) := of_decide_eq_true (by first | (with_reducible assumption) | assumption); have q311 : (ji29) < (l0_4.length : Int) := of_decide_eq_true (by first | (with_reducible assumption) | assumption); obtain ⟨ad311, A311_3, c311_3, e311, hx311_0, hx311_1, hx311_2, hx311_3, hl311_3, hi311_3⟩ := at_T55 HR0_4.out (ji29) p311 q311; obtain rfl : ad308 = ad311 := (by injection e311); replace hx311_0 := (HB.out.cell (World.block_lt_of_cell? w _ hx311_0)).trans hx311_0; replace hx311_1 := (HB.out.cell (World.block_lt_of_cell? w _ hx311_1)).trans hx311_1; replace hx311_2 := (HB.out.cell (World.block_lt_of_cell? w _ hx311_2)).trans hx311_2; replace hx311_3 := (HB.out.cell (World.block_lt_of_cell? w _ hx311_3)).trans hx311_3; have HR311_3 := Aside0.mk hi311_3; have HC311_3 := Aside0.mk hl311_3; clear hi311_3 hl311_3; replace p311 := eq_true p311; replace q311 := eq_true q311))
            repeat (go_quiet ((go_at_call 90; (with_reducible refine (impl_EntryFault.calls k2 ((rd_T55 l0_4 x33_2).f0) ((rd_T55 l0_4 x33_2).f1.f0) ((rd_T55 l0_4 x33_2).f1.f1) _ _ ((rd_T55 l0_4 x33_2).f1.f2) t310 _ ?side1 ?side2 A19.out).mono ?_); (case side1 => exact Kd.C_below HR308_3.out (bel HB)); (case side2 => exact HC308_3.out); rintro e w42 ⟨rfl, hb⟩; replace BK304 := am (blk_below (g := gb304) (o := .cells #[.int .i64 a0_0, .bool a0_1, .int .i64 a0_2, .int .i64 a0_3, .slice (some ad308) l0_4.length c0_4, .int .i64 a0_5, .int .i64 a0_6, .int .i64 a0_7, .int .i64 a0_8] 32 (0, 0)) (mP BK304) hb); replace BK309 := am (blk_below (g := gb309) (o := .cells #[.int .i64 ((rd_T55 l0_4 x33_2).f0), .int .i64 ((rd_T55 l0_4 x33_2).f1.f0), .int .i64 ((rd_T55 l0_4 x33_2).f1.f1), .slice A308_3 ((rd_T55 l0_4 x33_2).f1.f2).length c308_3] 55 (0, 0)) (mP BK309) hb); replace HB := bS HB hb; (try clear hb); (try clear hb2); (try clear hk); (try clear hi); have hz43 := cl4 BK309; have hz44 := cl9 BK304; have p311 : 0 ≤ ((ji29) : Int) := of_decide_eq_true (by first | (with_reducible assumption) | assumption); have q311 : (ji29) < (l0_4.length : Int) := of_decide_eq_true (by first | (with_reducible assumption) | assumption); obtain ⟨ad311, A311_3, c311_3, e311, hx311_0, hx311_1, hx311_2, hx311_3, hl311_3, hi311_3⟩ := at_T55 HR0_4.out (ji29) p311 q311; obtain rfl : ad308 = ad311 := (by injection e311); replace hx311_0 := (HB.out.cell (World.block_lt_of_cell? w _ hx311_0)).trans hx311_0; replace hx311_1 := (HB.out.cell (World.block_lt_of_cell? w _ hx311_1)).trans hx311_1; replace hx311_2 := (HB.out.cell (World.block_lt_of_cell? w _ hx311_2)).trans hx311_2; replace hx311_3 := (HB.out.cell (World.block_lt_of_cell? w _ hx311_3)).trans hx311_3; have HR311_3 := Aside0.mk hi311_3; have HC311_3 := Aside0.mk hl311_3; clear hi311_3 hl311_3; replace p311 := eq_true p311; replace q311 := eq_true q311)); try go_wp2_with (first | ((with_reducible refine gate_dst (N := 4) rfl ?_); refine boxE #[.int .i64 0, .int .i64 0, .int .i64 0, .slice none 0 0] 55 (N := 4) rfl rfl ?_; intro gb309 hg w39 hbox hb; have BK309 := Aside0.mk hbox; have GW309 := gZ HB hg; have GE309 := gZ HB hg; replace HB := bS HB hb; have NB304_309 := nL BK304 hg; have NB309_304 := nG BK304 hg; replace BK304 := bK BK304 hb; clear hb hbox hg; have hnb40 := NB309_304.out; have hnc40 := NB304_309.out; have hz41 := cl4 BK309) | (go_at_call 90; (with_reducible refine (impl_EntryFault.calls k2 ((rd_T55 l0_4 x33_2).f0) ((rd_T55 l0_4 x33_2).f1.f0) ((rd_T55 l0_4 x33_2).f1.f1) _ _ ((rd_T55 l0_4 x33_2).f1.f2) t310 _ ?side1 ?side2 A19.out).mono ?_); (case side1 => exact Kd.C_below HR308_3.out (bel HB)); (case side2 => exact HC308_3.out); rintro e w42 ⟨rfl, hb⟩; replace BK304 := am (blk_below (g := gb304) (o := .cells #[.int .i64 a0_0, .bool a0_1, .int .i64 a0_2, .int .i64 a0_3, .slice (some ad308) l0_4.length c0_4, .int .i64 a0_5, .int .i64 a0_6, .int .i64 a0_7, .int .i64 a0_8] 32 (0, 0)) (mP BK304) hb); replace BK309 := am (blk_below (g := gb309) (o := .cells #[.int .i64 ((rd_T55 l0_4 x33_2).f0), .int .i64 ((rd_T55 l0_4 x33_2).f1.f0), .int .i64 ((rd_T55 l0_4 x33_2).f1.f1), .slice A308_3 ((rd_T55 l0_4 x33_2).f1.f2).length c308_3] 55 (0, 0)) (mP BK309) hb); replace HB := bS HB hb; (try clear hb); (try clear hb2); (try clear hk); (try clear hi); have hz43 := cl4 BK309; have hz44 := cl9 BK304; have p311 : 0 ≤ ((ji29) : Int) := of_decide_eq_true (by first | (with_reducible assumption) | assumption); have q311 : (ji29) < (l0_4.length : Int) := of_decide_eq_true (by first | (with_reducible assumption) | assumption); obtain ⟨ad311, A311_3, c311_3, e311, hx311_0, hx311_1, hx311_2, hx311_3, hl311_3, hi311_3⟩ := at_T55 HR0_4.out (ji29) p311 q311; obtain rfl : ad308 = ad311 := (by injection e311); replace hx311_0 := (HB.out.cell (World.block_lt_of_cell? w _ hx311_0)).trans hx311_0; replace hx311_1 := (HB.out.cell (World.block_lt_of_cell? w _ hx311_1)).trans hx311_1; replace hx311_2 := (HB.out.cell (World.block_lt_of_cell? w _ hx311_2)).trans hx311_2; replace hx311_3 := (HB.out.cell (World.block_lt_of_cell? w _ hx311_3)).trans hx311_3; have HR311_3 := Aside0.mk hi311_3; have HC311_3 := Aside0.mk hl311_3; clear hi311_3 hl311_3; replace p311 := eq_true p311; replace q311 := eq_true q311)))
            go_roundg k2
            case measure => have := HJ1.out; have := HK2.out; omega
            case rel => exact ⟨(wrap64 (x33_2 + 1)), (by first | rfl | (simp; done) | (simp [*]; done)), H', ⟨by have := HJ1.out; have := HK2.out; omega⟩, ⟨by (with_reducible repeat (first | refine blk_drewN ?_ _ | refine blk_drew ?_ | refine blk_alloc ?_ _)); exact BK304.out⟩, ⟨bel HB⟩⟩
           rw [if_neg c31] at H
           exact absurd H (by simp)
          rw [if_neg c30] at H
          exact absurd H (by simp)
         rw [if_neg c28] at H
         have c28b0 : decide (0 < x33_2) = false := decide_eq_false c28
         clear c28
         have H' := Aside0.mk H
         clear H
         have p308 : 0 ≤ (x33_2 : Int) := of_decide_eq_true (by first | (with_reducible assumption) | assumption)
         have q308 : x33_2 < (l0_4.length : Int) := of_decide_eq_true (by first | (with_reducible assumption) | assumption)
         obtain ⟨ad308, A308_3, c308_3, e308, hx308_0, hx308_1, hx308_2, hx308_3, hl308_3, hi308_3⟩ := at_T55 HR0_4.out x33_2 p308 q308
         cases e308
         replace hx308_0 := (HB.out.cell (World.block_lt_of_cell? w _ hx308_0)).trans hx308_0
         replace hx308_1 := (HB.out.cell (World.block_lt_of_cell? w _ hx308_1)).trans hx308_1
         replace hx308_2 := (HB.out.cell (World.block_lt_of_cell? w _ hx308_2)).trans hx308_2
         replace hx308_3 := (HB.out.cell (World.block_lt_of_cell? w _ hx308_3)).trans hx308_3
         have HR308_3 := Aside0.mk hi308_3
         have HC308_3 := Aside0.mk hl308_3
         clear hi308_3 hl308_3
         replace p308 := eq_true p308
         replace q308 := eq_true q308
         go_wp2_with (first | ((with_reducible refine gate_dst (N := 4) rfl ?_); refine boxE #[.int .i64 0, .int .i64 0, .int .i64 0, .slice none 0 0] 55 (N := 4) rfl rfl ?_; intro gb309 hg w45 hbox hb; have BK309 := Aside0.mk hbox; have GW309 := gZ HB hg; have GE309 := gZ HB hg; replace HB := bS HB hb; have NB304_309 := nL BK304 hg; have NB309_304 := nG BK304 hg; replace BK304 := bK BK304 hb; clear hb hbox hg; have hnb46 := NB309_304.out; have hnc46 := NB304_309.out; have hz47 := cl4 BK309) | (go_at_call 90; (with_reducible refine (impl_EntryFault.calls k2 ((rd_T55 l0_4 x33_2).f0) ((rd_T55 l0_4 x33_2).f1.f0) ((rd_T55 l0_4 x33_2).f1.f1) _ _ ((rd_T55 l0_4 x33_2).f1.f2) t310 _ ?side1 ?side2 A19.out).mono ?_); (case side1 => exact Kd.C_below HR308_3.out (bel HB)); (case side2 => exact HC308_3.out); rintro e w48 ⟨rfl, hb⟩; replace BK304 := am (blk_below (g := gb304) (o := .cells #[.int .i64 a0_0, .bool a0_1, .int .i64 a0_2, .int .i64 a0_3, .slice (some ad308) l0_4.length c0_4, .int .i64 a0_5, .int .i64 a0_6, .int .i64 a0_7, .int .i64 a0_8] 32 (0, 0)) (mP BK304) hb); replace BK309 := am (blk_below (g := gb309) (o := .cells #[.int .i64 ((rd_T55 l0_4 x33_2).f0), .int .i64 ((rd_T55 l0_4 x33_2).f1.f0), .int .i64 ((rd_T55 l0_4 x33_2).f1.f1), .slice A308_3 ((rd_T55 l0_4 x33_2).f1.f2).length c308_3] 55 (0, 0)) (mP BK309) hb); replace HB := bS HB hb; (try clear hb); (try clear hb2); (try clear hk); (try clear hi); have hz49 := cl4 BK309; have hz50 := cl9 BK304))
         repeat (go_quiet ((go_at_call 90; (with_reducible refine (impl_EntryFault.calls k2 ((rd_T55 l0_4 x33_2).f0) ((rd_T55 l0_4 x33_2).f1.f0) ((rd_T55 l0_4 x33_2).f1.f1) _ _ ((rd_T55 l0_4 x33_2).f1.f2) t310 _ ?side1 ?side2 A19.out).mono ?_); (case side1 => exact Kd.C_below HR308_3.out (bel HB)); (case side2 => exact HC308_3.out); rintro e w48 ⟨rfl, hb⟩; replace BK304 := am (blk_below (g := gb304) (o := .cells #[.int .i64 a0_0, .bool a0_1, .int .i64 a0_2, .int .i64 a0_3, .slice (some ad308) l0_4.length c0_4, .int .i64 a0_5, .int .i64 a0_6, .int .i64 a0_7, .int .i64 a0_8] 32 (0, 0)) (mP BK304) hb); replace BK309 := am (blk_below (g := gb309) (o := .cells #[.int .i64 ((rd_T55 l0_4 x33_2).f0), .int .i64 ((rd_T55 l0_4 x33_2).f1.f0), .int .i64 ((rd_T55 l0_4 x33_2).f1.f1), .slice A308_3 ((rd_T55 l0_4 x33_2).f1.f2).length c308_3] 55 (0, 0)) (mP BK309) hb); replace HB := bS HB hb; (try clear hb); (try clear hb2); (try clear hk); (try clear hi); have hz49 := cl4 BK309; have hz50 := cl9 BK304)); try go_wp2_with (first | ((with_reducible refine gate_dst (N := 4) rfl ?_); refine boxE #[.int .i64 0, .int .i64 0, .int .i64 0, .slice none 0 0] 55 (N := 4) rfl rfl ?_; intro gb309 hg w45 hbox hb; have BK309 := Aside0.mk hbox; have GW309 := gZ HB hg; have GE309 := gZ HB hg; replace HB := bS HB hb; have NB304_309 := nL BK304 hg; have NB309_304 := nG BK304 hg; replace BK304 := bK BK304 hb; clear hb hbox hg; have hnb46 := NB309_304.out; have hnc46 := NB304_309.out; have hz47 := cl4 BK309) | (go_at_call 90; (with_reducible refine (impl_EntryFault.calls k2 ((rd_T55 l0_4 x33_2).f0) ((rd_T55 l0_4 x33_2).f1.f0) ((rd_T55 l0_4 x33_2).f1.f1) _ _ ((rd_T55 l0_4 x33_2).f1.f2) t310 _ ?side1 ?side2 A19.out).mono ?_); (case side1 => exact Kd.C_below HR308_3.out (bel HB)); (case side2 => exact HC308_3.out); rintro e w48 ⟨rfl, hb⟩; replace BK304 := am (blk_below (g := gb304) (o := .cells #[.int .i64 a0_0, .bool a0_1, .int .i64 a0_2, .int .i64 a0_3, .slice (some ad308) l0_4.length c0_4, .int .i64 a0_5, .int .i64 a0_6, .int .i64 a0_7, .int .i64 a0_8] 32 (0, 0)) (mP BK304) hb); replace BK309 := am (blk_below (g := gb309) (o := .cells #[.int .i64 ((rd_T55 l0_4 x33_2).f0), .int .i64 ((rd_T55 l0_4 x33_2).f1.f0), .int .i64 ((rd_T55 l0_4 x33_2).f1.f1), .slice A308_3 ((rd_T55 l0_4 x33_2).f1.f2).length c308_3] 55 (0, 0)) (mP BK309) hb); replace HB := bS HB hb; (try clear hb); (try clear hb2); (try clear hk); (try clear hi); have hz49 := cl4 BK309; have hz50 := cl9 BK304)))
         go_roundg k2
         case measure => have := HJ1.out; have := HK2.out; omega
         case rel => exact ⟨(wrap64 (x33_2 + 1)), (by first | rfl | (simp; done) | (simp [*]; done)), H', ⟨by have := HJ1.out; have := HK2.out; omega⟩, ⟨by (with_reducible repeat (first | refine blk_drewN ?_ _ | refine blk_drew ?_ | refine blk_alloc ?_ _)); exact BK304.out⟩, ⟨bel HB⟩⟩
        rw [if_neg c20] at H
        have c20b0 : (t310 == 0) = false := beq_eq_false_iff_ne.mpr c20
        have c20b1 : (t310 != 0) = true := bne_iff_ne.mpr c20
        obtain rfl := Option.some.inj H
        have p308 : 0 ≤ (x33_2 : Int) := of_decide_eq_true (by first | (with_reducible assumption) | assumption)
        have q308 : x33_2 < (l0_4.length : Int) := of_decide_eq_true (by first | (with_reducible assumption) | assumption)
        obtain ⟨ad308, A308_3, c308_3, e308, hx308_0, hx308_1, hx308_2, hx308_3, hl308_3, hi308_3⟩ := at_T55 HR0_4.out x33_2 p308 q308
        cases e308
        replace hx308_0 := (HB.out.cell (World.block_lt_of_cell? w _ hx308_0)).trans hx308_0
        replace hx308_1 := (HB.out.cell (World.block_lt_of_cell? w _ hx308_1)).trans hx308_1
        replace hx308_2 := (HB.out.cell (World.block_lt_of_cell? w _ hx308_2)).trans hx308_2
        replace hx308_3 := (HB.out.cell (World.block_lt_of_cell? w _ hx308_3)).trans hx308_3
        have HR308_3 := Aside0.mk hi308_3
        have HC308_3 := Aside0.mk hl308_3
        clear hi308_3 hl308_3
        replace p308 := eq_true p308
        replace q308 := eq_true q308
        go_wp2_with (first | ((with_reducible refine gate_dst (N := 4) rfl ?_); refine boxE #[.int .i64 0, .int .i64 0, .int .i64 0, .slice none 0 0] 55 (N := 4) rfl rfl ?_; intro gb309 hg w51 hbox hb; have BK309 := Aside0.mk hbox; have GW309 := gZ HB hg; have GE309 := gZ HB hg; replace HB := bS HB hb; have NB304_309 := nL BK304 hg; have NB309_304 := nG BK304 hg; replace BK304 := bK BK304 hb; clear hb hbox hg; have hnb52 := NB309_304.out; have hnc52 := NB304_309.out; have hz53 := cl4 BK309) | (go_at_call 90; (with_reducible refine (impl_EntryFault.calls k2 ((rd_T55 l0_4 x33_2).f0) ((rd_T55 l0_4 x33_2).f1.f0) ((rd_T55 l0_4 x33_2).f1.f1) _ _ ((rd_T55 l0_4 x33_2).f1.f2) t310 _ ?side1 ?side2 A19.out).mono ?_); (case side1 => exact Kd.C_below HR308_3.out (bel HB)); (case side2 => exact HC308_3.out); rintro e w54 ⟨rfl, hb⟩; replace BK304 := am (blk_below (g := gb304) (o := .cells #[.int .i64 a0_0, .bool a0_1, .int .i64 a0_2, .int .i64 a0_3, .slice (some ad308) l0_4.length c0_4, .int .i64 a0_5, .int .i64 a0_6, .int .i64 a0_7, .int .i64 a0_8] 32 (0, 0)) (mP BK304) hb); replace BK309 := am (blk_below (g := gb309) (o := .cells #[.int .i64 ((rd_T55 l0_4 x33_2).f0), .int .i64 ((rd_T55 l0_4 x33_2).f1.f0), .int .i64 ((rd_T55 l0_4 x33_2).f1.f1), .slice A308_3 ((rd_T55 l0_4 x33_2).f1.f2).length c308_3] 55 (0, 0)) (mP BK309) hb); replace HB := bS HB hb; (try clear hb); (try clear hb2); (try clear hk); (try clear hi)))
        repeat (go_quiet ((go_at_call 90; (with_reducible refine (impl_EntryFault.calls k2 ((rd_T55 l0_4 x33_2).f0) ((rd_T55 l0_4 x33_2).f1.f0) ((rd_T55 l0_4 x33_2).f1.f1) _ _ ((rd_T55 l0_4 x33_2).f1.f2) t310 _ ?side1 ?side2 A19.out).mono ?_); (case side1 => exact Kd.C_below HR308_3.out (bel HB)); (case side2 => exact HC308_3.out); rintro e w54 ⟨rfl, hb⟩; replace BK304 := am (blk_below (g := gb304) (o := .cells #[.int .i64 a0_0, .bool a0_1, .int .i64 a0_2, .int .i64 a0_3, .slice (some ad308) l0_4.length c0_4, .int .i64 a0_5, .int .i64 a0_6, .int .i64 a0_7, .int .i64 a0_8] 32 (0, 0)) (mP BK304) hb); replace BK309 := am (blk_below (g := gb309) (o := .cells #[.int .i64 ((rd_T55 l0_4 x33_2).f0), .int .i64 ((rd_T55 l0_4 x33_2).f1.f0), .int .i64 ((rd_T55 l0_4 x33_2).f1.f1), .slice A308_3 ((rd_T55 l0_4 x33_2).f1.f2).length c308_3] 55 (0, 0)) (mP BK309) hb); replace HB := bS HB hb; (try clear hb); (try clear hb2); (try clear hk); (try clear hi))); try go_wp2_with (first | ((with_reducible refine gate_dst (N := 4) rfl ?_); refine boxE #[.int .i64 0, .int .i64 0, .int .i64 0, .slice none 0 0] 55 (N := 4) rfl rfl ?_; intro gb309 hg w51 hbox hb; have BK309 := Aside0.mk hbox; have GW309 := gZ HB hg; have GE309 := gZ HB hg; replace HB := bS HB hb; have NB304_309 := nL BK304 hg; have NB309_304 := nG BK304 hg; replace BK304 := bK BK304 hb; clear hb hbox hg; have hnb52 := NB309_304.out; have hnc52 := NB304_309.out; have hz53 := cl4 BK309) | (go_at_call 90; (with_reducible refine (impl_EntryFault.calls k2 ((rd_T55 l0_4 x33_2).f0) ((rd_T55 l0_4 x33_2).f1.f0) ((rd_T55 l0_4 x33_2).f1.f1) _ _ ((rd_T55 l0_4 x33_2).f1.f2) t310 _ ?side1 ?side2 A19.out).mono ?_); (case side1 => exact Kd.C_below HR308_3.out (bel HB)); (case side2 => exact HC308_3.out); rintro e w54 ⟨rfl, hb⟩; replace BK304 := am (blk_below (g := gb304) (o := .cells #[.int .i64 a0_0, .bool a0_1, .int .i64 a0_2, .int .i64 a0_3, .slice (some ad308) l0_4.length c0_4, .int .i64 a0_5, .int .i64 a0_6, .int .i64 a0_7, .int .i64 a0_8] 32 (0, 0)) (mP BK304) hb); replace BK309 := am (blk_below (g := gb309) (o := .cells #[.int .i64 ((rd_T55 l0_4 x33_2).f0), .int .i64 ((rd_T55 l0_4 x33_2).f1.f0), .int .i64 ((rd_T55 l0_4 x33_2).f1.f1), .slice A308_3 ((rd_T55 l0_4 x33_2).f1.f2).length c308_3] 55 (0, 0)) (mP BK309) hb); replace HB := bS HB hb; (try clear hb); (try clear hb2); (try clear hk); (try clear hi))))
        go_ret
        exact ⟨by first | rfl | (simp [errW_none, errW_some] <;> rfl) | (simp [*, errW_none, errW_some] <;> rfl), bel HB⟩
       rw [if_neg c18] at H
       exact absurd H (by simp)
      rw [if_neg c17] at H
      exact absurd H (by simp)
     rw [if_neg c16] at H
     have c16b0 : decide (x33_2 < (l0_4.length : Int)) = false := decide_eq_false c16
     clear c16
     replace H := Option.bind_eq_some_iff.mp H
     obtain ⟨t312, A550, H⟩ := H
     replace H : ((impl_in.f a0_5 0 t312).bind fun t313 => (if t313 = true then ((impl_in.f a0_6 0 t312).bind fun t314 => (if t314 = true then ((impl_in.f a0_7 0 t312).bind fun t315 => (if t315 = true then ((impl_in.f a0_8 0 a0_5).bind fun t316 => (impl_NodeFault.j2 k2 t312 (a0_2 == 1) (!t316) a0_0 a0_1 a0_2 a0_3 l0_4 a0_5 a0_6 a0_7 a0_8)) else (impl_NodeFault.j2 k2 t312 (a0_2 == 1) true a0_0 a0_1 a0_2 a0_3 l0_4 a0_5 a0_6 a0_7 a0_8))) else (impl_NodeFault.j2 k2 t312 (a0_2 == 1) true a0_0 a0_1 a0_2 a0_3 l0_4 a0_5 a0_6 a0_7 a0_8))) else (impl_NodeFault.j2 k2 t312 (a0_2 == 1) true a0_0 a0_1 a0_2 a0_3 l0_4 a0_5 a0_6 a0_7 a0_8))) = some r := H
     have A55 := Aside0.mk A550
     clear A550
     have HC56 := Aside0.mk H
     clear H
     have hz57 := cl9 BK304
     go_upto_region 16 with (first | (go_at_call 74; (with_reducible refine (impl_Entry_74.calls _ _ l0_4 t312 _ ?side1 ?side2 A55.out).mono ?_); (case side1 => exact mC HR0_4 HB); (case side2 => exact HC0_4.out); rintro e w' ⟨rfl, ⟨nd, rfl⟩⟩; (try first | exact ⟨rfl, _, World.drewN_drewN _ _ _⟩ | exact ⟨rfl, _, Eq.trans (World.drewN_drewN _ _ _) (congrArg (World.drewN _) (Nat.add_assoc _ _ _))⟩)))
     repeat (go_quiet ((go_at_call 74; (with_reducible refine (impl_Entry_74.calls _ _ l0_4 t312 _ ?side1 ?side2 A55.out).mono ?_); (case side1 => exact mC HR0_4 HB); (case side2 => exact HC0_4.out); rintro e w' ⟨rfl, ⟨nd, rfl⟩⟩; (try first | exact ⟨rfl, _, World.drewN_drewN _ _ _⟩ | exact ⟨rfl, _, Eq.trans (World.drewN_drewN _ _ _) (congrArg (World.drewN _) (Nat.add_assoc _ _ _))⟩))); go_upto_region 16 with (first | (go_at_call 74; (with_reducible refine (impl_Entry_74.calls _ _ l0_4 t312 _ ?side1 ?side2 A55.out).mono ?_); (case side1 => exact mC HR0_4 HB); (case side2 => exact HC0_4.out); rintro e w' ⟨rfl, ⟨nd, rfl⟩⟩; (try first | exact ⟨rfl, _, World.drewN_drewN _ _ _⟩ | exact ⟨rfl, _, Eq.trans (World.drewN_drewN _ _ _) (congrArg (World.drewN _) (Nat.add_assoc _ _ _))⟩))))
     (try simp only [Act.put, List.setIfInBounds_toArray, List.set_cons_zero, List.set_cons_succ])
     go_cut [71] (fun v71 wc => ∃ (kq : Nat) (x71_55 : Bool), v71 = .bool x71_55 ∧ Aside0 (impl_NodeFault.j2 kq t312 (a0_2 == 1) x71_55 a0_0 a0_1 a0_2 a0_3 l0_4 a0_5 a0_6 a0_7 a0_8 = some r) ∧ Aside0 (kq ≤ k2) ∧ Aside0 (wc.heap[gb304]? = some (.cells #[.int .i64 a0_0, .bool a0_1, .int .i64 a0_2, .int .i64 a0_3, (.slice A0_4 l0_4.length c0_4), .int .i64 a0_5, .int .i64 a0_6, .int .i64 a0_7, .int .i64 a0_8] 32 (0, 0))) ∧ Aside0 (Below w.heap.size w wc))
     case first =>
      have H := HC56.out
      clear HC56
      replace H := Option.bind_eq_some_iff.mp H
      obtain ⟨t313, A580, H⟩ := H
      replace H : (if t313 = true then ((impl_in.f a0_6 0 t312).bind fun t314 => (if t314 = true then ((impl_in.f a0_7 0 t312).bind fun t315 => (if t315 = true then ((impl_in.f a0_8 0 a0_5).bind fun t316 => (impl_NodeFault.j2 k2 t312 (a0_2 == 1) (!t316) a0_0 a0_1 a0_2 a0_3 l0_4 a0_5 a0_6 a0_7 a0_8)) else (impl_NodeFault.j2 k2 t312 (a0_2 == 1) true a0_0 a0_1 a0_2 a0_3 l0_4 a0_5 a0_6 a0_7 a0_8))) else (impl_NodeFault.j2 k2 t312 (a0_2 == 1) true a0_0 a0_1 a0_2 a0_3 l0_4 a0_5 a0_6 a0_7 a0_8))) else (impl_NodeFault.j2 k2 t312 (a0_2 == 1) true a0_0 a0_1 a0_2 a0_3 l0_4 a0_5 a0_6 a0_7 a0_8)) = some r := H
      have A58 := Aside0.mk A580
      clear A580
      by_cases c59 : t313 = true
      ·
       subst c59
       have H1 : ((impl_in.f a0_6 0 t312).bind fun t314 => (if t314 = true then ((impl_in.f a0_7 0 t312).bind fun t315 => (if t315 = true then ((impl_in.f a0_8 0 a0_5).bind fun t316 => (impl_NodeFault.j2 k2 t312 (a0_2 == 1) (!t316) a0_0 a0_1 a0_2 a0_3 l0_4 a0_5 a0_6 a0_7 a0_8)) else (impl_NodeFault.j2 k2 t312 (a0_2 == 1) true a0_0 a0_1 a0_2 a0_3 l0_4 a0_5 a0_6 a0_7 a0_8))) else (impl_NodeFault.j2 k2 t312 (a0_2 == 1) true a0_0 a0_1 a0_2 a0_3 l0_4 a0_5 a0_6 a0_7 a0_8))) = some r := by rw [if_pos rfl] at H; first | done | exact H
       clear H
       have H := H1
       clear H1
       replace H := Option.bind_eq_some_iff.mp H
       obtain ⟨t314, A600, H⟩ := H
       replace H : (if t314 = true then ((impl_in.f a0_7 0 t312).bind fun t315 => (if t315 = true then ((impl_in.f a0_8 0 a0_5).bind fun t316 => (impl_NodeFault.j2 k2 t312 (a0_2 == 1) (!t316) a0_0 a0_1 a0_2 a0_3 l0_4 a0_5 a0_6 a0_7 a0_8)) else (impl_NodeFault.j2 k2 t312 (a0_2 == 1) true a0_0 a0_1 a0_2 a0_3 l0_4 a0_5 a0_6 a0_7 a0_8))) else (impl_NodeFault.j2 k2 t312 (a0_2 == 1) true a0_0 a0_1 a0_2 a0_3 l0_4 a0_5 a0_6 a0_7 a0_8)) = some r := H
       have A60 := Aside0.mk A600
       clear A600
       by_cases c61 : t314 = true
       ·
        subst c61
        have H1 : ((impl_in.f a0_7 0 t312).bind fun t315 => (if t315 = true then ((impl_in.f a0_8 0 a0_5).bind fun t316 => (impl_NodeFault.j2 k2 t312 (a0_2 == 1) (!t316) a0_0 a0_1 a0_2 a0_3 l0_4 a0_5 a0_6 a0_7 a0_8)) else (impl_NodeFault.j2 k2 t312 (a0_2 == 1) true a0_0 a0_1 a0_2 a0_3 l0_4 a0_5 a0_6 a0_7 a0_8))) = some r := by rw [if_pos rfl] at H; first | done | exact H
        clear H
        have H := H1
        clear H1
        replace H := Option.bind_eq_some_iff.mp H
        obtain ⟨t315, A620, H⟩ := H
        replace H : (if t315 = true then ((impl_in.f a0_8 0 a0_5).bind fun t316 => (impl_NodeFault.j2 k2 t312 (a0_2 == 1) (!t316) a0_0 a0_1 a0_2 a0_3 l0_4 a0_5 a0_6 a0_7 a0_8)) else (impl_NodeFault.j2 k2 t312 (a0_2 == 1) true a0_0 a0_1 a0_2 a0_3 l0_4 a0_5 a0_6 a0_7 a0_8)) = some r := H
        have A62 := Aside0.mk A620
        clear A620
        by_cases c63 : t315 = true
        ·
         subst c63
         have H1 : ((impl_in.f a0_8 0 a0_5).bind fun t316 => (impl_NodeFault.j2 k2 t312 (a0_2 == 1) (!t316) a0_0 a0_1 a0_2 a0_3 l0_4 a0_5 a0_6 a0_7 a0_8)) = some r := by rw [if_pos rfl] at H; first | done | exact H
         clear H
         have H := H1
         clear H1
         replace H := Option.bind_eq_some_iff.mp H
         obtain ⟨t316, A640, H⟩ := H
         replace H : (impl_NodeFault.j2 k2 t312 (a0_2 == 1) (!t316) a0_0 a0_1 a0_2 a0_3 l0_4 a0_5 a0_6 a0_7 a0_8) = some r := H
         have A64 := Aside0.mk A640
         clear A640
         have H' := Aside0.mk H
         clear H
         have hz65 := cl9 BK304
         go_wp2_with (first | (go_at_call 87; (with_reducible refine (impl_in.calls a0_5 0 t312 true _ A58.out).mono ?_); rintro e w' ⟨rfl, ⟨nd, rfl⟩⟩; (try first | exact ⟨rfl, _, World.drewN_drewN _ _ _⟩ | exact ⟨rfl, _, Eq.trans (World.drewN_drewN _ _ _) (congrArg (World.drewN _) (Nat.add_assoc _ _ _))⟩)) | (go_at_call 87; (with_reducible refine (impl_in.calls a0_6 0 t312 true _ A60.out).mono ?_); rintro e w' ⟨rfl, ⟨nd, rfl⟩⟩; (try first | exact ⟨rfl, _, World.drewN_drewN _ _ _⟩ | exact ⟨rfl, _, Eq.trans (World.drewN_drewN _ _ _) (congrArg (World.drewN _) (Nat.add_assoc _ _ _))⟩)) | (go_at_call 87; (with_reducible refine (impl_in.calls a0_7 0 t312 true _ A62.out).mono ?_); rintro e w' ⟨rfl, ⟨nd, rfl⟩⟩; (try first | exact ⟨rfl, _, World.drewN_drewN _ _ _⟩ | exact ⟨rfl, _, Eq.trans (World.drewN_drewN _ _ _) (congrArg (World.drewN _) (Nat.add_assoc _ _ _))⟩)) | (go_at_call 87; (with_reducible refine (impl_in.calls a0_8 0 a0_5 t316 _ A64.out).mono ?_); rintro e w' ⟨rfl, ⟨nd, rfl⟩⟩; (try first | exact ⟨rfl, _, World.drewN_drewN _ _ _⟩ | exact ⟨rfl, _, Eq.trans (World.drewN_drewN _ _ _) (congrArg (World.drewN _) (Nat.add_assoc _ _ _))⟩)))
         repeat (go_quiet (first | (go_at_call 87; (with_reducible refine (impl_in.calls a0_5 0 t312 true _ A58.out).mono ?_); rintro e w' ⟨rfl, ⟨nd, rfl⟩⟩; (try first | exact ⟨rfl, _, World.drewN_drewN _ _ _⟩ | exact ⟨rfl, _, Eq.trans (World.drewN_drewN _ _ _) (congrArg (World.drewN _) (Nat.add_assoc _ _ _))⟩)) | (go_at_call 87; (with_reducible refine (impl_in.calls a0_6 0 t312 true _ A60.out).mono ?_); rintro e w' ⟨rfl, ⟨nd, rfl⟩⟩; (try first | exact ⟨rfl, _, World.drewN_drewN _ _ _⟩ | exact ⟨rfl, _, Eq.trans (World.drewN_drewN _ _ _) (congrArg (World.drewN _) (Nat.add_assoc _ _ _))⟩)) | (go_at_call 87; (with_reducible refine (impl_in.calls a0_7 0 t312 true _ A62.out).mono ?_); rintro e w' ⟨rfl, ⟨nd, rfl⟩⟩; (try first | exact ⟨rfl, _, World.drewN_drewN _ _ _⟩ | exact ⟨rfl, _, Eq.trans (World.drewN_drewN _ _ _) (congrArg (World.drewN _) (Nat.add_assoc _ _ _))⟩)) | (go_at_call 87; (with_reducible refine (impl_in.calls a0_8 0 a0_5 t316 _ A64.out).mono ?_); rintro e w' ⟨rfl, ⟨nd, rfl⟩⟩; (try first | exact ⟨rfl, _, World.drewN_drewN _ _ _⟩ | exact ⟨rfl, _, Eq.trans (World.drewN_drewN _ _ _) (congrArg (World.drewN _) (Nat.add_assoc _ _ _))⟩))); try go_wp2_with (first | (go_at_call 87; (with_reducible refine (impl_in.calls a0_5 0 t312 true _ A58.out).mono ?_); rintro e w' ⟨rfl, ⟨nd, rfl⟩⟩; (try first | exact ⟨rfl, _, World.drewN_drewN _ _ _⟩ | exact ⟨rfl, _, Eq.trans (World.drewN_drewN _ _ _) (congrArg (World.drewN _) (Nat.add_assoc _ _ _))⟩)) | (go_at_call 87; (with_reducible refine (impl_in.calls a0_6 0 t312 true _ A60.out).mono ?_); rintro e w' ⟨rfl, ⟨nd, rfl⟩⟩; (try first | exact ⟨rfl, _, World.drewN_drewN _ _ _⟩ | exact ⟨rfl, _, Eq.trans (World.drewN_drewN _ _ _) (congrArg (World.drewN _) (Nat.add_assoc _ _ _))⟩)) | (go_at_call 87; (with_reducible refine (impl_in.calls a0_7 0 t312 true _ A62.out).mono ?_); rintro e w' ⟨rfl, ⟨nd, rfl⟩⟩; (try first | exact ⟨rfl, _, World.drewN_drewN _ _ _⟩ | exact ⟨rfl, _, Eq.trans (World.drewN_drewN _ _ _) (congrArg (World.drewN _) (Nat.add_assoc _ _ _))⟩)) | (go_at_call 87; (with_reducible refine (impl_in.calls a0_8 0 a0_5 t316 _ A64.out).mono ?_); rintro e w' ⟨rfl, ⟨nd, rfl⟩⟩; (try first | exact ⟨rfl, _, World.drewN_drewN _ _ _⟩ | exact ⟨rfl, _, Eq.trans (World.drewN_drewN _ _ _) (congrArg (World.drewN _) (Nat.add_assoc _ _ _))⟩))))
         first | go_meet | (refine Met.intro ?_; go_step; (repeat apply Exists.intro); refine ⟨?rel, ?eqq⟩; (case eqq => (try simp only [c13b0]); (try simp only [c13b1]); (try simp only [c16b0]); rfl))
         case rel => exact ⟨_, (!t316), (by first | rfl | (simp; done) | (simp [*]; done)), H', ⟨by have := HJ1.out; have := HK2.out; first | omega | exact Nat.le_refl _⟩, ⟨by (with_reducible repeat (first | refine blk_drewN ?_ _ | refine blk_drew ?_ | refine blk_alloc ?_ _)); exact BK304.out⟩, ⟨bel HB⟩⟩
        replace c63 := Bool.eq_false_iff.mpr c63
        subst c63
        have H1 : (impl_NodeFault.j2 k2 t312 (a0_2 == 1) true a0_0 a0_1 a0_2 a0_3 l0_4 a0_5 a0_6 a0_7 a0_8) = some r := by rw [if_neg (show ¬ (false = true) by decide)] at H; first | done | exact H
        clear H
        have H := H1
        clear H1
        have H' := Aside0.mk H
        clear H
        have hz66 := cl9 BK304
        go_wp2_with (first | (go_at_call 87; (with_reducible refine (impl_in.calls a0_5 0 t312 true _ A58.out).mono ?_); rintro e w' ⟨rfl, ⟨nd, rfl⟩⟩; (try first | exact ⟨rfl, _, World.drewN_drewN _ _ _⟩ | exact ⟨rfl, _, Eq.trans (World.drewN_drewN _ _ _) (congrArg (World.drewN _) (Nat.add_assoc _ _ _))⟩)) | (go_at_call 87; (with_reducible refine (impl_in.calls a0_6 0 t312 true _ A60.out).mono ?_); rintro e w' ⟨rfl, ⟨nd, rfl⟩⟩; (try first | exact ⟨rfl, _, World.drewN_drewN _ _ _⟩ | exact ⟨rfl, _, Eq.trans (World.drewN_drewN _ _ _) (congrArg (World.drewN _) (Nat.add_assoc _ _ _))⟩)) | (go_at_call 87; (with_reducible refine (impl_in.calls a0_7 0 t312 false _ A62.out).mono ?_); rintro e w' ⟨rfl, ⟨nd, rfl⟩⟩; (try first | exact ⟨rfl, _, World.drewN_drewN _ _ _⟩ | exact ⟨rfl, _, Eq.trans (World.drewN_drewN _ _ _) (congrArg (World.drewN _) (Nat.add_assoc _ _ _))⟩)))
        repeat (go_quiet (first | (go_at_call 87; (with_reducible refine (impl_in.calls a0_5 0 t312 true _ A58.out).mono ?_); rintro e w' ⟨rfl, ⟨nd, rfl⟩⟩; (try first | exact ⟨rfl, _, World.drewN_drewN _ _ _⟩ | exact ⟨rfl, _, Eq.trans (World.drewN_drewN _ _ _) (congrArg (World.drewN _) (Nat.add_assoc _ _ _))⟩)) | (go_at_call 87; (with_reducible refine (impl_in.calls a0_6 0 t312 true _ A60.out).mono ?_); rintro e w' ⟨rfl, ⟨nd, rfl⟩⟩; (try first | exact ⟨rfl, _, World.drewN_drewN _ _ _⟩ | exact ⟨rfl, _, Eq.trans (World.drewN_drewN _ _ _) (congrArg (World.drewN _) (Nat.add_assoc _ _ _))⟩)) | (go_at_call 87; (with_reducible refine (impl_in.calls a0_7 0 t312 false _ A62.out).mono ?_); rintro e w' ⟨rfl, ⟨nd, rfl⟩⟩; (try first | exact ⟨rfl, _, World.drewN_drewN _ _ _⟩ | exact ⟨rfl, _, Eq.trans (World.drewN_drewN _ _ _) (congrArg (World.drewN _) (Nat.add_assoc _ _ _))⟩))); try go_wp2_with (first | (go_at_call 87; (with_reducible refine (impl_in.calls a0_5 0 t312 true _ A58.out).mono ?_); rintro e w' ⟨rfl, ⟨nd, rfl⟩⟩; (try first | exact ⟨rfl, _, World.drewN_drewN _ _ _⟩ | exact ⟨rfl, _, Eq.trans (World.drewN_drewN _ _ _) (congrArg (World.drewN _) (Nat.add_assoc _ _ _))⟩)) | (go_at_call 87; (with_reducible refine (impl_in.calls a0_6 0 t312 true _ A60.out).mono ?_); rintro e w' ⟨rfl, ⟨nd, rfl⟩⟩; (try first | exact ⟨rfl, _, World.drewN_drewN _ _ _⟩ | exact ⟨rfl, _, Eq.trans (World.drewN_drewN _ _ _) (congrArg (World.drewN _) (Nat.add_assoc _ _ _))⟩)) | (go_at_call 87; (with_reducible refine (impl_in.calls a0_7 0 t312 false _ A62.out).mono ?_); rintro e w' ⟨rfl, ⟨nd, rfl⟩⟩; (try first | exact ⟨rfl, _, World.drewN_drewN _ _ _⟩ | exact ⟨rfl, _, Eq.trans (World.drewN_drewN _ _ _) (congrArg (World.drewN _) (Nat.add_assoc _ _ _))⟩))))
        first | go_meet | (refine Met.intro ?_; go_step; (repeat apply Exists.intro); refine ⟨?rel, ?eqq⟩; (case eqq => (try simp only [c13b0]); (try simp only [c13b1]); (try simp only [c16b0]); rfl))
        case rel => exact ⟨_, (true), (by first | rfl | (simp; done) | (simp [*]; done)), H', ⟨by have := HJ1.out; have := HK2.out; first | omega | exact Nat.le_refl _⟩, ⟨by (with_reducible repeat (first | refine blk_drewN ?_ _ | refine blk_drew ?_ | refine blk_alloc ?_ _)); exact BK304.out⟩, ⟨bel HB⟩⟩
       replace c61 := Bool.eq_false_iff.mpr c61
       subst c61
       have H1 : (impl_NodeFault.j2 k2 t312 (a0_2 == 1) true a0_0 a0_1 a0_2 a0_3 l0_4 a0_5 a0_6 a0_7 a0_8) = some r := by rw [if_neg (show ¬ (false = true) by decide)] at H; first | done | exact H
       clear H
       have H := H1
       clear H1
       have H' := Aside0.mk H
       clear H
       have hz67 := cl9 BK304
       go_wp2_with (first | (go_at_call 87; (with_reducible refine (impl_in.calls a0_5 0 t312 true _ A58.out).mono ?_); rintro e w' ⟨rfl, ⟨nd, rfl⟩⟩; (try first | exact ⟨rfl, _, World.drewN_drewN _ _ _⟩ | exact ⟨rfl, _, Eq.trans (World.drewN_drewN _ _ _) (congrArg (World.drewN _) (Nat.add_assoc _ _ _))⟩)) | (go_at_call 87; (with_reducible refine (impl_in.calls a0_6 0 t312 false _ A60.out).mono ?_); rintro e w' ⟨rfl, ⟨nd, rfl⟩⟩; (try first | exact ⟨rfl, _, World.drewN_drewN _ _ _⟩ | exact ⟨rfl, _, Eq.trans (World.drewN_drewN _ _ _) (congrArg (World.drewN _) (Nat.add_assoc _ _ _))⟩)))
       repeat (go_quiet (first | (go_at_call 87; (with_reducible refine (impl_in.calls a0_5 0 t312 true _ A58.out).mono ?_); rintro e w' ⟨rfl, ⟨nd, rfl⟩⟩; (try first | exact ⟨rfl, _, World.drewN_drewN _ _ _⟩ | exact ⟨rfl, _, Eq.trans (World.drewN_drewN _ _ _) (congrArg (World.drewN _) (Nat.add_assoc _ _ _))⟩)) | (go_at_call 87; (with_reducible refine (impl_in.calls a0_6 0 t312 false _ A60.out).mono ?_); rintro e w' ⟨rfl, ⟨nd, rfl⟩⟩; (try first | exact ⟨rfl, _, World.drewN_drewN _ _ _⟩ | exact ⟨rfl, _, Eq.trans (World.drewN_drewN _ _ _) (congrArg (World.drewN _) (Nat.add_assoc _ _ _))⟩))); try go_wp2_with (first | (go_at_call 87; (with_reducible refine (impl_in.calls a0_5 0 t312 true _ A58.out).mono ?_); rintro e w' ⟨rfl, ⟨nd, rfl⟩⟩; (try first | exact ⟨rfl, _, World.drewN_drewN _ _ _⟩ | exact ⟨rfl, _, Eq.trans (World.drewN_drewN _ _ _) (congrArg (World.drewN _) (Nat.add_assoc _ _ _))⟩)) | (go_at_call 87; (with_reducible refine (impl_in.calls a0_6 0 t312 false _ A60.out).mono ?_); rintro e w' ⟨rfl, ⟨nd, rfl⟩⟩; (try first | exact ⟨rfl, _, World.drewN_drewN _ _ _⟩ | exact ⟨rfl, _, Eq.trans (World.drewN_drewN _ _ _) (congrArg (World.drewN _) (Nat.add_assoc _ _ _))⟩))))
       first | go_meet | (refine Met.intro ?_; go_step; (repeat apply Exists.intro); refine ⟨?rel, ?eqq⟩; (case eqq => (try simp only [c13b0]); (try simp only [c13b1]); (try simp only [c16b0]); rfl))
       case rel => exact ⟨_, (true), (by first | rfl | (simp; done) | (simp [*]; done)), H', ⟨by have := HJ1.out; have := HK2.out; first | omega | exact Nat.le_refl _⟩, ⟨by (with_reducible repeat (first | refine blk_drewN ?_ _ | refine blk_drew ?_ | refine blk_alloc ?_ _)); exact BK304.out⟩, ⟨bel HB⟩⟩
      replace c59 := Bool.eq_false_iff.mpr c59
      subst c59
      have H1 : (impl_NodeFault.j2 k2 t312 (a0_2 == 1) true a0_0 a0_1 a0_2 a0_3 l0_4 a0_5 a0_6 a0_7 a0_8) = some r := by rw [if_neg (show ¬ (false = true) by decide)] at H; first | done | exact H
      clear H
      have H := H1
      clear H1
      have H' := Aside0.mk H
      clear H
      have hz68 := cl9 BK304
      go_wp2_with (first | (go_at_call 87; (with_reducible refine (impl_in.calls a0_5 0 t312 false _ A58.out).mono ?_); rintro e w' ⟨rfl, ⟨nd, rfl⟩⟩; (try first | exact ⟨rfl, _, World.drewN_drewN _ _ _⟩ | exact ⟨rfl, _, Eq.trans (World.drewN_drewN _ _ _) (congrArg (World.drewN _) (Nat.add_assoc _ _ _))⟩)))
      repeat (go_quiet ((go_at_call 87; (with_reducible refine (impl_in.calls a0_5 0 t312 false _ A58.out).mono ?_); rintro e w' ⟨rfl, ⟨nd, rfl⟩⟩; (try first | exact ⟨rfl, _, World.drewN_drewN _ _ _⟩ | exact ⟨rfl, _, Eq.trans (World.drewN_drewN _ _ _) (congrArg (World.drewN _) (Nat.add_assoc _ _ _))⟩))); try go_wp2_with (first | (go_at_call 87; (with_reducible refine (impl_in.calls a0_5 0 t312 false _ A58.out).mono ?_); rintro e w' ⟨rfl, ⟨nd, rfl⟩⟩; (try first | exact ⟨rfl, _, World.drewN_drewN _ _ _⟩ | exact ⟨rfl, _, Eq.trans (World.drewN_drewN _ _ _) (congrArg (World.drewN _) (Nat.add_assoc _ _ _))⟩))))
      first | go_meet | (refine Met.intro ?_; go_step; (repeat apply Exists.intro); refine ⟨?rel, ?eqq⟩; (case eqq => (try simp only [c13b0]); (try simp only [c13b1]); (try simp only [c16b0]); rfl))
      case rel => exact ⟨_, (true), (by first | rfl | (simp; done) | (simp [*]; done)), H', ⟨by have := HJ1.out; have := HK2.out; first | omega | exact Nat.le_refl _⟩, ⟨by (with_reducible repeat (first | refine blk_drewN ?_ _ | refine blk_drew ?_ | refine blk_alloc ?_ _)); exact BK304.out⟩, ⟨bel HB⟩⟩
     case rest =>
      clear HC56
      try clear c1
      try clear c2
      try clear p2
      try clear c3
      try clear p3
      try clear q3
      try clear hx3
      try clear c4
      try clear c5
      try clear c6
      try clear p6
      try clear c7
      try clear c12
      try clear c13
      try clear c13b0
      try clear c13b1
      try clear c16
      try clear c16b0
      try clear c17
      try clear c17b0
      try clear c18
      try clear c18b0
      try clear c20
      try clear c20b0
      try clear c20b1
      try clear c21
      try clear c21b0
      try clear c23
      try clear c28
      try clear c28b0
      try clear c30
      try clear c30b0
      try clear p30
      try clear q30
      try clear hx30
      try clear c31
      try clear c31b0
      try clear p31
      try clear q31
      try clear hx31
      try clear c32
      try clear c32b0
      try clear c34
      try clear c40
      try clear c46
      try clear c52
      try clear c59
      try clear c61
      try clear c63
      try clear p64
      try clear hz10
      try clear hz11
      try clear hz14
      try clear hz15
      try clear hz24
      try clear hz26
      try clear hz27
      try clear hz35
      try clear hz37
      try clear hz38
      try clear hz41
      try clear hz43
      try clear hz44
      try clear hz47
      try clear hz49
      try clear hz50
      try clear hz53
      try clear hz57
      try clear hz65
      try clear hz66
      try clear hz67
      try clear hz68
      try clear hz9
      try clear hx308_0
      try clear hx308_1
      try clear hx308_2
      try clear hx308_3
      try clear hx311_0
      try clear hx311_1
      try clear hx311_2
      try clear hx311_3
      try clear p2
      try clear p308
      try clear p311
      try clear q308
      try clear q311
      obtain ⟨kq, x71_55, rfl, HA, HJ55, BK304, HB⟩ := hcut
      cases kq with
      | zero => exact absurd HA.out (by simp [impl_NodeFault.j2])
      | succ kj55 =>
       have H := HA.out
       clear HA
       simp only [impl_NodeFault.j2] at H
       by_cases c69 : x71_55 = true
       ·
        subst c69
        have H1 : (some 3) = some r := by rw [if_pos rfl] at H; first | done | exact H
        clear H
        have H := H1
        clear H1
        obtain rfl := Option.some.inj H
        go_wp2
        repeat (go_quiet (fail); try go_wp2)
        go_ret
        exact ⟨by first | rfl | (simp [errW_none, errW_some] <;> rfl) | (simp [*, errW_none, errW_some] <;> rfl), bel HB⟩
       replace c69 := Bool.eq_false_iff.mpr c69
       subst c69
       have H1 : (if (a0_2 == 1) = true then (if a0_1 = true then (if a0_3 = 0 then (impl_NodeFault.j3 kj55 t312 true a0_0 a0_1 a0_2 a0_3 l0_4 a0_5 a0_6 a0_7 a0_8) else (if a0_6 = 0 then (impl_NodeFault.j3 kj55 t312 false a0_0 a0_1 a0_2 a0_3 l0_4 a0_5 a0_6 a0_7 a0_8) else (impl_NodeFault.j3 kj55 t312 true a0_0 a0_1 a0_2 a0_3 l0_4 a0_5 a0_6 a0_7 a0_8))) else (impl_NodeFault.j3 kj55 t312 true a0_0 a0_1 a0_2 a0_3 l0_4 a0_5 a0_6 a0_7 a0_8)) else (impl_NodeFault.j3 kj55 t312 (a0_7 != 0) a0_0 a0_1 a0_2 a0_3 l0_4 a0_5 a0_6 a0_7 a0_8)) = some r := by rw [if_neg (show ¬ (false = true) by decide)] at H; first | done | exact H
       clear H
       have H := H1
       clear H1
       have HC70 := Aside0.mk H
       clear H
       go_upto_region 18 with (fail)
       repeat (go_quiet (fail); go_upto_region 18 with (fail))
       go_cut [99] (fun v99 wc => ∃ (kq : Nat) (x99_69 : Bool), v99 = .bool x99_69 ∧ Aside0 (impl_NodeFault.j3 kq t312 x99_69 a0_0 a0_1 a0_2 a0_3 l0_4 a0_5 a0_6 a0_7 a0_8 = some r) ∧ Aside0 (kq ≤ kj55) ∧ Aside0 (wc.heap[gb304]? = some (.cells #[.int .i64 a0_0, .bool a0_1, .int .i64 a0_2, .int .i64 a0_3, (.slice A0_4 l0_4.length c0_4), .int .i64 a0_5, .int .i64 a0_6, .int .i64 a0_7, .int .i64 a0_8] 32 (0, 0))) ∧ Aside0 (Below w.heap.size w wc))
       case first =>
        have H := HC70.out
        clear HC70
        by_cases c71 : (a0_2 == 1) = true
        ·
         rw [if_pos c71] at H
         have c71b0 : (a0_2 == 1) = true := c71
         (try (have c71b1 : decide (a0_2 = 1) = true := by simpa using c71))
         (try (have c71b2 : (a0_2 == 1) = true := by simpa using c71))
         clear c71
         (first | rw [c71b0] | (simp only [i64_w, i32_w]; rw [c71b0]) | skip)
         by_cases c72 : a0_1 = true
         ·
          subst c72
          have H1 : (if a0_3 = 0 then (impl_NodeFault.j3 kj55 t312 true a0_0 true a0_2 a0_3 l0_4 a0_5 a0_6 a0_7 a0_8) else (if a0_6 = 0 then (impl_NodeFault.j3 kj55 t312 false a0_0 true a0_2 a0_3 l0_4 a0_5 a0_6 a0_7 a0_8) else (impl_NodeFault.j3 kj55 t312 true a0_0 true a0_2 a0_3 l0_4 a0_5 a0_6 a0_7 a0_8))) = some r := by rw [if_pos rfl] at H; first | done | exact H
          clear H
          have H := H1
          clear H1
          by_cases c73 : a0_3 = 0
          ·
           rw [if_pos c73] at H
           have c73b0 : (a0_3 == 0) = true := beq_iff_eq.mpr c73
           have c73b1 : (a0_3 != 0) = false := bne_eq_false_iff_eq.mpr c73
           clear c73
           have H' := Aside0.mk H
           clear H
           have hz74 := cl9 BK304
           go_wp2
           repeat (go_quiet (fail); try go_wp2)
           first | go_meet | (refine Met.intro ?_; go_step; (repeat apply Exists.intro); refine ⟨?rel, ?eqq⟩; (case eqq => (try simp only [c13b0]); (try simp only [c13b1]); (try simp only [c16b0]); (try simp only [c71b0]); (try simp only [c73b0]); rfl))
           case rel => exact ⟨_, (true), (by first | rfl | (simp; done) | (simp [*]; done)), H', ⟨by have := HJ1.out; have := HK2.out; have := HJ55.out; first | omega | exact Nat.le_refl _⟩, ⟨by (with_reducible repeat (first | refine blk_drewN ?_ _ | refine blk_drew ?_ | refine blk_alloc ?_ _)); exact BK304.out⟩, ⟨bel HB⟩⟩
          rw [if_neg c73] at H
          have c73b0 : (a0_3 == 0) = false := beq_eq_false_iff_ne.mpr c73
          have c73b1 : (a0_3 != 0) = true := bne_iff_ne.mpr c73
          by_cases c75 : a0_6 = 0
          ·
           rw [if_pos c75] at H
           have c75b0 : (a0_6 == 0) = true := beq_iff_eq.mpr c75
           have c75b1 : (a0_6 != 0) = false := bne_eq_false_iff_eq.mpr c75
           clear c75
           have H' := Aside0.mk H
           clear H
           have hz76 := cl9 BK304
           go_wp2
           repeat (go_quiet (fail); try go_wp2)
           first | go_meet | (refine Met.intro ?_; go_step; (repeat apply Exists.intro); refine ⟨?rel, ?eqq⟩; (case eqq => (try simp only [c13b0]); (try simp only [c13b1]); (try simp only [c16b0]); (try simp only [c71b0]); (try simp only [c73b0]); (try simp only [c75b0]); rfl))
           case rel => exact ⟨_, (false), (by first | rfl | (simp; done) | (simp [*]; done)), H', ⟨by have := HJ1.out; have := HK2.out; have := HJ55.out; first | omega | exact Nat.le_refl _⟩, ⟨by (with_reducible repeat (first | refine blk_drewN ?_ _ | refine blk_drew ?_ | refine blk_alloc ?_ _)); exact BK304.out⟩, ⟨bel HB⟩⟩
          rw [if_neg c75] at H
          have c75b0 : (a0_6 == 0) = false := beq_eq_false_iff_ne.mpr c75
          have c75b1 : (a0_6 != 0) = true := bne_iff_ne.mpr c75
          have H' := Aside0.mk H
          clear H
          have hz77 := cl9 BK304
          go_wp2
          repeat (go_quiet (fail); try go_wp2)
          first | go_meet | (refine Met.intro ?_; go_step; (repeat apply Exists.intro); refine ⟨?rel, ?eqq⟩; (case eqq => (try simp only [c13b0]); (try simp only [c13b1]); (try simp only [c16b0]); (try simp only [c71b0]); (try simp only [c73b0]); (try simp only [c75b0]); rfl))
          case rel => exact ⟨_, (true), (by first | rfl | (simp; done) | (simp [*]; done)), H', ⟨by have := HJ1.out; have := HK2.out; have := HJ55.out; first | omega | exact Nat.le_refl _⟩, ⟨by (with_reducible repeat (first | refine blk_drewN ?_ _ | refine blk_drew ?_ | refine blk_alloc ?_ _)); exact BK304.out⟩, ⟨bel HB⟩⟩
         replace c72 := Bool.eq_false_iff.mpr c72
         subst c72
         have H1 : (impl_NodeFault.j3 kj55 t312 true a0_0 false a0_2 a0_3 l0_4 a0_5 a0_6 a0_7 a0_8) = some r := by rw [if_neg (show ¬ (false = true) by decide)] at H; first | done | exact H
         clear H
         have H := H1
         clear H1
         have H' := Aside0.mk H
         clear H
         have hz78 := cl9 BK304
         go_wp2
         repeat (go_quiet (fail); try go_wp2)
         first | go_meet | (refine Met.intro ?_; go_step; (repeat apply Exists.intro); refine ⟨?rel, ?eqq⟩; (case eqq => (try simp only [c13b0]); (try simp only [c13b1]); (try simp only [c16b0]); (try simp only [c71b0]); rfl))
         case rel => exact ⟨_, (true), (by first | rfl | (simp; done) | (simp [*]; done)), H', ⟨by have := HJ1.out; have := HK2.out; have := HJ55.out; first | omega | exact Nat.le_refl _⟩, ⟨by (with_reducible repeat (first | refine blk_drewN ?_ _ | refine blk_drew ?_ | refine blk_alloc ?_ _)); exact BK304.out⟩, ⟨bel HB⟩⟩
        rw [if_neg c71] at H
        have c71b0 : (a0_2 == 1) = false := by simpa using c71
        (try (have c71b1 : decide (a0_2 = 1) = false := by simpa using c71))
        (try (have c71b2 : (a0_2 == 1) = false := by simpa using c71))
        (try (have c71b3 : ¬ (a0_2 = 1) := by simpa using c71))
        clear c71
        (first | rw [c71b0] | (simp only [i64_w, i32_w]; rw [c71b0]) | skip)
        have H' := Aside0.mk H
        clear H
        have hz79 := cl9 BK304
        go_wp2
        repeat (go_quiet (fail); try go_wp2)
        first | go_meet | (refine Met.intro ?_; go_step; (repeat apply Exists.intro); refine ⟨?rel, ?eqq⟩; (case eqq => (try simp only [c13b0]); (try simp only [c13b1]); (try simp only [c16b0]); (try simp only [c71b0]); rfl))
        case rel => exact ⟨_, ((a0_7 != 0)), (by first | rfl | (simp; done) | (simp [*]; done)), H', ⟨by have := HJ1.out; have := HK2.out; have := HJ55.out; first | omega | exact Nat.le_refl _⟩, ⟨by (with_reducible repeat (first | refine blk_drewN ?_ _ | refine blk_drew ?_ | refine blk_alloc ?_ _)); exact BK304.out⟩, ⟨bel HB⟩⟩
       case rest =>
        clear HC70
        try clear c1
        try clear c2
        try clear p2
        try clear c3
        try clear p3
        try clear q3
        try clear hx3
        try clear c4
        try clear c5
        try clear c6
        try clear p6
        try clear c7
        try clear c12
        try clear c13
        try clear c13b0
        try clear c13b1
        try clear c16
        try clear c16b0
        try clear c17
        try clear c17b0
        try clear c18
        try clear c18b0
        try clear c20
        try clear c20b0
        try clear c20b1
        try clear c21
        try clear c21b0
        try clear c23
        try clear c28
        try clear c28b0
        try clear c30
        try clear c30b0
        try clear p30
        try clear q30
        try clear hx30
        try clear c31
        try clear c31b0
        try clear p31
        try clear q31
        try clear hx31
        try clear c32
        try clear c32b0
        try clear c34
        try clear c40
        try clear c46
        try clear c52
        try clear c59
        try clear c61
        try clear c63
        try clear p64
        try clear c69
        try clear c71
        try clear c71b0
        try clear c71b1
        try clear c71b2
        try clear c72
        try clear c73
        try clear c73b0
        try clear c73b1
        try clear c75
        try clear c75b0
        try clear c75b1
        try clear hz10
        try clear hz11
        try clear hz14
        try clear hz15
        try clear hz24
        try clear hz26
        try clear hz27
        try clear hz35
        try clear hz37
        try clear hz38
        try clear hz41
        try clear hz43
        try clear hz44
        try clear hz47
        try clear hz49
        try clear hz50
        try clear hz53
        try clear hz57
        try clear hz65
        try clear hz66
        try clear hz67
        try clear hz68
        try clear hz74
        try clear hz76
        try clear hz77
        try clear hz78
        try clear hz79
        try clear hz9
        try clear hx308_0
        try clear hx308_1
        try clear hx308_2
        try clear hx308_3
        try clear hx311_0
        try clear hx311_1
        try clear hx311_2
        try clear hx311_3
        try clear p2
        try clear p3
        try clear p30
        try clear p308
        try clear p31
        try clear p311
        try clear p6
        try clear p64
        try clear q3
        try clear q30
        try clear q308
        try clear q31
        try clear q311
        obtain ⟨kq, x99_69, rfl, HA, HJ69, BK304, HB⟩ := hcut
        cases kq with
        | zero => exact absurd HA.out (by simp [impl_NodeFault.j3])
        | succ kj69 =>
         have H := HA.out
         clear HA
         simp only [impl_NodeFault.j3] at H
         by_cases c80 : x99_69 = true
         ·
          subst c80
          have H1 : (some 1) = some r := by rw [if_pos rfl] at H; first | done | exact H
          clear H
          have H := H1
          clear H1
          obtain rfl := Option.some.inj H
          go_wp2
          repeat (go_quiet (fail); try go_wp2)
          go_ret
          exact ⟨by first | rfl | (simp [errW_none, errW_some] <;> rfl) | (simp [*, errW_none, errW_some] <;> rfl), bel HB⟩
         replace c80 := Bool.eq_false_iff.mpr c80
         subst c80
         have H1 : (if a0_1 = true then (some 0) else (if a0_5 = t312 then (if a0_6 = 0 then (if a0_8 = 0 then (some 0) else (some 1)) else (some 1)) else (some 1))) = some r := by rw [if_neg (show ¬ (false = true) by decide)] at H; first | done | exact H
         clear H
         have H := H1
         clear H1
         by_cases c81 : a0_1 = true
         ·
          subst c81
          have H1 : (some 0) = some r := by rw [if_pos rfl] at H; first | done | exact H
          clear H
          have H := H1
          clear H1
          obtain rfl := Option.some.inj H
          have hz82 := cl9 BK304
          go_wp2
          repeat (go_quiet (fail); try go_wp2)
          go_ret
          exact ⟨by first | rfl | (simp [errW_none, errW_some] <;> rfl) | (simp [*, errW_none, errW_some] <;> rfl), bel HB⟩
         replace c81 := Bool.eq_false_iff.mpr c81
         subst c81
         have H1 : (if a0_5 = t312 then (if a0_6 = 0 then (if a0_8 = 0 then (some 0) else (some 1)) else (some 1)) else (some 1)) = some r := by rw [if_neg (show ¬ (false = true) by decide)] at H; first | done | exact H
         clear H
         have H := H1
         clear H1
         by_cases c83 : a0_5 = t312
         ·
          rw [if_pos c83] at H
          have c83b0 : (a0_5 == t312) = true := beq_iff_eq.mpr c83
          have c83b1 : (a0_5 != t312) = false := bne_eq_false_iff_eq.mpr c83
          clear c83
          by_cases c84 : a0_6 = 0
          ·
           rw [if_pos c84] at H
           have c84b0 : (a0_6 == 0) = true := beq_iff_eq.mpr c84
           have c84b1 : (a0_6 != 0) = false := bne_eq_false_iff_eq.mpr c84
           clear c84
           by_cases c85 : a0_8 = 0
           ·
            rw [if_pos c85] at H
            have c85b0 : (a0_8 == 0) = true := beq_iff_eq.mpr c85
            have c85b1 : (a0_8 != 0) = false := bne_eq_false_iff_eq.mpr c85
            clear c85
            obtain rfl := Option.some.inj H
            have hz86 := cl9 BK304
            go_wp2
            repeat (go_quiet (fail); try go_wp2)
            go_ret
            exact ⟨by first | rfl | (simp [errW_none, errW_some] <;> rfl) | (simp [*, errW_none, errW_some] <;> rfl), bel HB⟩
           rw [if_neg c85] at H
           have c85b0 : (a0_8 == 0) = false := beq_eq_false_iff_ne.mpr c85
           have c85b1 : (a0_8 != 0) = true := bne_iff_ne.mpr c85
           obtain rfl := Option.some.inj H
           have hz87 := cl9 BK304
           go_wp2
           repeat (go_quiet (fail); try go_wp2)
           go_ret
           exact ⟨by first | rfl | (simp [errW_none, errW_some] <;> rfl) | (simp [*, errW_none, errW_some] <;> rfl), bel HB⟩
          rw [if_neg c84] at H
          have c84b0 : (a0_6 == 0) = false := beq_eq_false_iff_ne.mpr c84
          have c84b1 : (a0_6 != 0) = true := bne_iff_ne.mpr c84
          obtain rfl := Option.some.inj H
          have hz88 := cl9 BK304
          go_wp2
          repeat (go_quiet (fail); try go_wp2)
          go_ret
          exact ⟨by first | rfl | (simp [errW_none, errW_some] <;> rfl) | (simp [*, errW_none, errW_some] <;> rfl), bel HB⟩
         rw [if_neg c83] at H
         have c83b0 : (a0_5 == t312) = false := beq_eq_false_iff_ne.mpr c83
         have c83b1 : (a0_5 != t312) = true := bne_iff_ne.mpr c83
         obtain rfl := Option.some.inj H
         have hz89 := cl9 BK304
         go_wp2
         repeat (go_quiet (fail); try go_wp2)
         go_ret
         exact ⟨by first | rfl | (simp [errW_none, errW_some] <;> rfl) | (simp [*, errW_none, errW_some] <;> rfl), bel HB⟩

end Go.Proofs.Ytgfoifkkffffgab.PFnExactAddEvent
