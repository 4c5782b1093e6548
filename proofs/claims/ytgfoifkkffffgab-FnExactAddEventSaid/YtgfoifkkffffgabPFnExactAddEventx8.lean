-- Laid by a turned copy of the printer (wip/tools/patch_print.py)
import Derived.Test.YtgfoifkkffffgabPFnExactAddEventx0
import Derived.Test.YtgfoifkkffffgabPFnExactAddEventx5
import Derived.Test.YtgfoifkkffffgabPFnExactAddEventx7
namespace Go.Proofs.Ytgfoifkkffffgab.PFnExactAddEvent
open Go.RowKit Go.Proofs.YtgfoifkkffffgabW.PrintWords Go.Proofs.YtgfoifkkffffgabW.PrintLast Go.Proofs.YtgfoifkkffffgabW.PrintMore
attribute [local go_sem] max2_int min2_int max_two min_two max_three min_three max_four min_four   -- for this text's walks alone
set_option linter.unusedVariables false
set_option linter.unusedSimpArgs false

/-! ### impl_AddEvent: function 14 -/
mutual
def impl_AddEvent.j0 : Nat → Int → Int → Bool → Int → Int → List (S55) → Int → Int → Int → Int → Int → Int → List Int → Option (Int × Int × Bool × Int × Int × (List (S55)) × Int × Int × Int × Int × (List (S57)))
 | 0, _, _, _, _, _, _, _, _, _, _, _, _, _ => none
 | k + 1, x5, x339000, x339001, x339002, x339003, x339004, x339005, x339006, x339007, x339008, x340000, x340001, x340002 => if x5 = 0 then (impl_AddEvent.j1 k x5 ((x339004.length : Int) == 100) x339000 x339001 x339002 x339003 x339004 x339005 x339006 x339007 x339008 x340000 x340001 x340002) else (impl_AddEvent.j1 k x5 false x339000 x339001 x339002 x339003 x339004 x339005 x339006 x339007 x339008 x340000 x340001 x340002)
def impl_AddEvent.j1 : Nat → Int → Bool → Int → Bool → Int → Int → List (S55) → Int → Int → Int → Int → Int → Int → List Int → Option (Int × Int × Bool × Int × Int × (List (S55)) × Int × Int × Int × Int × (List (S57)))
 | 0, _, _, _, _, _, _, _, _, _, _, _, _, _, _ => none
 | k + 1, x5, x20, x339000, x339001, x339002, x339003, x339004, x339005, x339006, x339007, x339008, x340000, x340001, x340002 => if x20 = true then (impl_AddEvent.j2 k 2 x339000 x339001 x339002 x339003 x339004 x339005 x339006 x339007 x339008 x340000 x340001 x340002) else (impl_AddEvent.j2 k x5 x339000 x339001 x339002 x339003 x339004 x339005 x339006 x339007 x339008 x340000 x340001 x340002)
def impl_AddEvent.j2 : Nat → Int → Int → Bool → Int → Int → List (S55) → Int → Int → Int → Int → Int → Int → List Int → Option (Int × Int × Bool × Int × Int × (List (S55)) × Int × Int × Int × Int × (List (S57)))
 | 0, _, _, _, _, _, _, _, _, _, _, _, _, _ => none
 | k + 1, x5, x339000, x339001, x339002, x339003, x339004, x339005, x339006, x339007, x339008, x340000, x340001, x340002 => if x5 = 0 then ((impl_Node_copied.f x339000 x339001 x339002 x339003 x339004 x339005 x339006 x339007 x339008).bind fun bt343 => ((slices_Clone_byte_byte.f x340002).bind fun t355 => (if bt343.2.2.2.2.1.length < 2932031007402 then (some (0, bt343.1, bt343.2.1, bt343.2.2.1, bt343.2.2.2.1, (bt343.2.2.2.2.1 ++ [(⟨x339003, (⟨x340000, x340001, t355⟩ : S38)⟩ : S55)]), bt343.2.2.2.2.2.1, bt343.2.2.2.2.2.2.1, bt343.2.2.2.2.2.2.2.1, bt343.2.2.2.2.2.2.2.2, ([] : List (S57)))) else (none)))) else (some (x5, 0, false, 0, 0, ([] : List (S55)), 0, 0, 0, 0, ([] : List (S57))))
end
def impl_AddEvent.f (k : Nat) (a0_0 : Int) (a0_1 : Bool) (a0_2 : Int) (a0_3 : Int) (l0_4 : List (S55)) (a0_5 : Int) (a0_6 : Int) (a0_7 : Int) (a0_8 : Int) (a1_0 : Int) (a1_1 : Int) (l1_2 : List Int) : Option (Int × Int × Bool × Int × Int × (List (S55)) × Int × Int × Int × Int × (List (S57))) := (impl_activeFault.f k a0_0 a0_1 a0_2 a0_3 l0_4 a0_5 a0_6 a0_7 a0_8).bind fun t341 => (if t341 = 0 then ((impl_EventFault.f k a1_0 a1_1 l1_2).bind fun t342 => (impl_AddEvent.j0 k t342 a0_0 a0_1 a0_2 a0_3 l0_4 a0_5 a0_6 a0_7 a0_8 a1_0 a1_1 l1_2)) else (impl_AddEvent.j0 k t341 a0_0 a0_1 a0_2 a0_3 l0_4 a0_5 a0_6 a0_7 a0_8 a1_0 a1_1 l1_2))
theorem impl_AddEvent.mono_l : ∀ k, (∀ y0 y1 y2 y3 y4 y5 y6 y7 y8 y9 y10 y11 y12, LeO (impl_AddEvent.j0 k y0 y1 y2 y3 y4 y5 y6 y7 y8 y9 y10 y11 y12) (impl_AddEvent.j0 (k + 1) y0 y1 y2 y3 y4 y5 y6 y7 y8 y9 y10 y11 y12)) ∧ (∀ y0 y1 y2 y3 y4 y5 y6 y7 y8 y9 y10 y11 y12 y13, LeO (impl_AddEvent.j1 k y0 y1 y2 y3 y4 y5 y6 y7 y8 y9 y10 y11 y12 y13) (impl_AddEvent.j1 (k + 1) y0 y1 y2 y3 y4 y5 y6 y7 y8 y9 y10 y11 y12 y13)) ∧ (∀ y0 y1 y2 y3 y4 y5 y6 y7 y8 y9 y10 y11 y12, LeO (impl_AddEvent.j2 k y0 y1 y2 y3 y4 y5 y6 y7 y8 y9 y10 y11 y12) (impl_AddEvent.j2 (k + 1) y0 y1 y2 y3 y4 y5 y6 y7 y8 y9 y10 y11 y12))
 | 0 => ⟨fun _ _ _ _ _ _ _ _ _ _ _ _ _ r h => by simp [impl_AddEvent.j0] at h, fun _ _ _ _ _ _ _ _ _ _ _ _ _ _ r h => by simp [impl_AddEvent.j1] at h, fun _ _ _ _ _ _ _ _ _ _ _ _ _ r h => by simp [impl_AddEvent.j2] at h⟩
 | k + 1 => by
  obtain ⟨ih0, ih1, ih2⟩ := impl_AddEvent.mono_l k
  refine ⟨?_, ?_, ?_⟩
  ·
   intro y0 y1 y2 y3 y4 y5 y6 y7 y8 y9 y10 y11 y12
   unfold impl_AddEvent.j0
   repeat' first
   | (with_reducible exact ih0 _ _ _ _ _ _ _ _ _ _ _ _ _)
   | (with_reducible exact ih1 _ _ _ _ _ _ _ _ _ _ _ _ _ _)
   | (with_reducible exact ih2 _ _ _ _ _ _ _ _ _ _ _ _ _)
   | (with_reducible exact impl_EventFault.mono _ _ _ _)
   | (with_reducible exact impl_activeFault.mono _ _ _ _ _ _ _ _ _ _)
   | (with_reducible exact LeO.refl _)
   | (with_reducible exact LeO.none _)
   | (with_reducible refine LeO.ite ?_ ?_)
   | (with_reducible refine LeO.bind ?_ (fun _ => ?_))
   | exact ih0 _ _ _ _ _ _ _ _ _ _ _ _ _
   | exact ih1 _ _ _ _ _ _ _ _ _ _ _ _ _ _
   | exact ih2 _ _ _ _ _ _ _ _ _ _ _ _ _
   | exact impl_EventFault.mono _ _ _ _
   | exact impl_activeFault.mono _ _ _ _ _ _ _ _ _ _
   | exact LeO.none _
   | refine LeO.ite ?_ ?_
   | refine LeO.bind ?_ (fun _ => ?_)
  ·
   intro y0 y1 y2 y3 y4 y5 y6 y7 y8 y9 y10 y11 y12 y13
   unfold impl_AddEvent.j1
   repeat' first
   | (with_reducible exact ih0 _ _ _ _ _ _ _ _ _ _ _ _ _)
   | (with_reducible exact ih1 _ _ _ _ _ _ _ _ _ _ _ _ _ _)
   | (with_reducible exact ih2 _ _ _ _ _ _ _ _ _ _ _ _ _)
   | (with_reducible exact impl_EventFault.mono _ _ _ _)
   | (with_reducible exact impl_activeFault.mono _ _ _ _ _ _ _ _ _ _)
   | (with_reducible exact LeO.refl _)
   | (with_reducible exact LeO.none _)
   | (with_reducible refine LeO.ite ?_ ?_)
   | (with_reducible refine LeO.bind ?_ (fun _ => ?_))
   | exact ih0 _ _ _ _ _ _ _ _ _ _ _ _ _
   | exact ih1 _ _ _ _ _ _ _ _ _ _ _ _ _ _
   | exact ih2 _ _ _ _ _ _ _ _ _ _ _ _ _
   | exact impl_EventFault.mono _ _ _ _
   | exact impl_activeFault.mono _ _ _ _ _ _ _ _ _ _
   | exact LeO.none _
   | refine LeO.ite ?_ ?_
   | refine LeO.bind ?_ (fun _ => ?_)
  intro y0 y1 y2 y3 y4 y5 y6 y7 y8 y9 y10 y11 y12
  unfold impl_AddEvent.j2
  repeat' first
  | (with_reducible exact ih0 _ _ _ _ _ _ _ _ _ _ _ _ _)
  | (with_reducible exact ih1 _ _ _ _ _ _ _ _ _ _ _ _ _ _)
  | (with_reducible exact ih2 _ _ _ _ _ _ _ _ _ _ _ _ _)
  | (with_reducible exact impl_EventFault.mono _ _ _ _)
  | (with_reducible exact impl_activeFault.mono _ _ _ _ _ _ _ _ _ _)
  | (with_reducible exact LeO.refl _)
  | (with_reducible exact LeO.none _)
  | (with_reducible refine LeO.ite ?_ ?_)
  | (with_reducible refine LeO.bind ?_ (fun _ => ?_))
  | exact ih0 _ _ _ _ _ _ _ _ _ _ _ _ _
  | exact ih1 _ _ _ _ _ _ _ _ _ _ _ _ _ _
  | exact ih2 _ _ _ _ _ _ _ _ _ _ _ _ _
  | exact impl_EventFault.mono _ _ _ _
  | exact impl_activeFault.mono _ _ _ _ _ _ _ _ _ _
  | exact LeO.none _
  | refine LeO.ite ?_ ?_
  | refine LeO.bind ?_ (fun _ => ?_)
theorem impl_AddEvent.mono : ∀ a0 a1 a2 a3 a4 a5 a6 a7 a8 a9 a10 a11 k, LeO (impl_AddEvent.f k a0 a1 a2 a3 a4 a5 a6 a7 a8 a9 a10 a11) (impl_AddEvent.f (k + 1) a0 a1 a2 a3 a4 a5 a6 a7 a8 a9 a10 a11) := by
 intro a0 a1 a2 a3 a4 a5 a6 a7 a8 a9 a10 a11 k
 obtain ⟨ih0, ih1, ih2⟩ := impl_AddEvent.mono_l k
 unfold impl_AddEvent.f
 repeat' first
   | (with_reducible exact ih0 _ _ _ _ _ _ _ _ _ _ _ _ _)
   | (with_reducible exact ih1 _ _ _ _ _ _ _ _ _ _ _ _ _ _)
   | (with_reducible exact ih2 _ _ _ _ _ _ _ _ _ _ _ _ _)
   | (with_reducible exact impl_EventFault.mono _ _ _ _)
   | (with_reducible exact impl_activeFault.mono _ _ _ _ _ _ _ _ _ _)
   | (with_reducible exact LeO.refl _)
   | (with_reducible exact LeO.none _)
   | (with_reducible refine LeO.ite ?_ ?_)
   | (with_reducible refine LeO.bind ?_ (fun _ => ?_))
   | exact ih0 _ _ _ _ _ _ _ _ _ _ _ _ _
   | exact ih1 _ _ _ _ _ _ _ _ _ _ _ _ _ _
   | exact ih2 _ _ _ _ _ _ _ _ _ _ _ _ _
   | exact impl_EventFault.mono _ _ _ _
   | exact impl_activeFault.mono _ _ _ _ _ _ _ _ _ _
   | exact LeO.none _
   | refine LeO.ite ?_ ?_
   | refine LeO.bind ?_ (fun _ => ?_)
def impl_AddEvent.T9 : Bool × List (List Nat × List Nat) := (true, [([], []), ([0], [0]), ([], []), ([2], [2]), ([], []), ([4], [4]), ([], []), ([6], [6]), ([], []), ([8], [8]), ([9], [9]), ([5, 7, 10], [5, 7, 10]), ([3, 11], [3, 11]), ([12], [12]), ([1, 13, 10], [1, 13]), ([0, 1, 2, 3, 4, 5, 6, 7, 8, 9, 10, 11, 12, 13, 14], []), ([15, 14, 14, 0, 1, 2, 3, 4, 5, 6, 7, 8, 9, 10, 11, 12, 13, 14], [14, 15])])
def impl_AddEvent.B9 : List Nat := [0, 1, 0, 4, 0, 16, 0, 64, 0, 256, 768, 2032, 4092, 8188, 16383, 32767, 65535]
theorem impl_AddEvent.tab9 : rtab .any (opsOf Try.f14 9) = impl_AddEvent.T9 := by kernel_rfl
theorem impl_AddEvent.bits9 : waitsOk impl_AddEvent.T9.2 impl_AddEvent.B9 = true := by kernel_rfl
set_option maxHeartbeats 8000000 in
set_option maxRecDepth 100000 in
theorem impl_AddEvent.calls (k : Nat) (a0_0 : Int) (a0_1 : Bool) (a0_2 : Int) (a0_3 : Int) (A0_4 : Option Addr) (c0_4 : Nat) (l0_4 : List (S55)) (a0_5 : Int) (a0_6 : Int) (a0_7 : Int) (a0_8 : Int) (a1_0 : Int) (a1_1 : Int) (A1_2 : Option Addr) (c1_2 : Nat) (l1_2 : List Int) (r1 : Int) (r2 : Int) (r3 : Bool) (r4 : Int) (r5 : Int) (r6 : List (S55)) (r7 : Int) (r8 : Int) (r9 : Int) (r10 : Int) (r11 : List (S57)) (w : World) (hr0_4 : Kd.C k55 w A0_4 l0_4.length l0_4) (hc0_4 : l0_4.length ≤ c0_4) (hr1_2 : Kd.C (Kd.int .u8) w A1_2 l1_2.length l1_2) (hc1_2 : l1_2.length ≤ c1_2) (h : impl_AddEvent.f k a0_0 a0_1 a0_2 a0_3 l0_4 a0_5 a0_6 a0_7 a0_8 a1_0 a1_1 l1_2 = some (r1, r2, r3, r4, r5, r6, r7, r8, r9, r10, r11)) :
  Calls Try.prog 14 #[.agg #[.int .i64 a0_0, .bool a0_1, .int .i64 a0_2, .int .i64 a0_3, .slice A0_4 l0_4.length c0_4, .int .i64 a0_5, .int .i64 a0_6, .int .i64 a0_7, .int .i64 a0_8], .agg #[.int .i64 a1_0, .int .i64 a1_1, .slice A1_2 l1_2.length c1_2]] w fun e w' => ∃ v5_ v10_ : Value, e = .returned (.agg #[.int .i64 r1, .int .i64 r2, .bool r3, .int .i64 r4, .int .i64 r5, v5_, .int .i64 r7, .int .i64 r8, .int .i64 r9, .int .i64 r10, v10_]) ∧ Kd.S k55 55 w' w.heap.size (fun _ => True) v5_ r6 ∧ Kd.S k57 57 w' w.heap.size (fun _ => True) v10_ r11 ∧ Below w.heap.size w w' := by
 have hu32 := Try.underlying32
 have hu38 := Try.underlying38
 have hu35 := Try.underlying35
 have hu55 := Try.underlying55
 have HR0_4 := Aside0.mk hr0_4
 have HC0_4 := Aside0.mk hc0_4
 clear hr0_4 hc0_4
 have HR1_2 := Aside0.mk hr1_2
 have HC1_2 := Aside0.mk hc1_2
 clear hr1_2 hc1_2
 have HB := am (Below.refl w.heap.size w)
 have H : ((impl_activeFault.f k a0_0 a0_1 a0_2 a0_3 l0_4 a0_5 a0_6 a0_7 a0_8).bind fun t341 => (if t341 = 0 then ((impl_EventFault.f k a1_0 a1_1 l1_2).bind fun t342 => (impl_AddEvent.j0 k t342 a0_0 a0_1 a0_2 a0_3 l0_4 a0_5 a0_6 a0_7 a0_8 a1_0 a1_1 l1_2)) else (impl_AddEvent.j0 k t341 a0_0 a0_1 a0_2 a0_3 l0_4 a0_5 a0_6 a0_7 a0_8 a1_0 a1_1 l1_2))) = some (r1, r2, r3, r4, r5, r6, r7, r8, r9, r10, r11) := h
 clear h
 replace H := Option.bind_eq_some_iff.mp H
 obtain ⟨t341, A30, H⟩ := H
 replace H : (if t341 = 0 then ((impl_EventFault.f k a1_0 a1_1 l1_2).bind fun t342 => (impl_AddEvent.j0 k t342 a0_0 a0_1 a0_2 a0_3 l0_4 a0_5 a0_6 a0_7 a0_8 a1_0 a1_1 l1_2)) else (impl_AddEvent.j0 k t341 a0_0 a0_1 a0_2 a0_3 l0_4 a0_5 a0_6 a0_7 a0_8 a1_0 a1_1 l1_2)) = some (r1, r2, r3, r4, r5, r6, r7, r8, r9, r10, r11) := H
 have A3 := Aside0.mk A30
 clear A30
 have HC4 := Aside0.mk H
 clear H
 go_enter Try.func14, Try.ntmps14
 go_upto_if 10 with (first | ((with_reducible refine gate_dst (N := 2) rfl ?_); (try (refine gate_guard (by rfl) ?_; dsimp only)); refine boxE #[.int .i64 a0_0, .bool a0_1, .int .i64 a0_2, .int .i64 a0_3, .slice A0_4 l0_4.length c0_4, .int .i64 a0_5, .int .i64 a0_6, .int .i64 a0_7, .int .i64 a0_8] 32 (N := 2) rfl rfl ?_; intro gb338 hg w5 hbox hb; have BK338 := Aside0.mk hbox; have GW338 := gZ HB hg; have GE338 := gZ HB hg; replace HB := bS HB hb; clear hb hbox hg) | ((with_reducible refine gate_dst (N := 3) rfl ?_); (try (refine gate_guard (by rfl) ?_; dsimp only)); refine boxE #[.int .i64 a1_0, .int .i64 a1_1, .slice A1_2 l1_2.length c1_2] 38 (N := 3) rfl rfl ?_; intro gb339 hg w6 hbox hb; have BK339 := Aside0.mk hbox; have GW339 := gZ HB hg; have GE339 := gZ HB hg; replace HB := bS HB hb; have NB338_339 := nL BK338 hg; have NB339_338 := nG BK338 hg; replace BK338 := bK BK338 hb; clear hb hbox hg) | ((with_reducible refine gate_dst (N := 4) rfl ?_); (try (refine gate_guard (by rfl) ?_; dsimp only)); refine boxE #[.int .i64 0, .int .i64 0, .bool false, .int .i64 0, .int .i64 0, .slice none 0 0, .int .i64 0, .int .i64 0, .int .i64 0, .int .i64 0, .slice none 0 0] 35 (N := 4) rfl rfl ?_; intro gb340 hg w7 hbox hb; have BK340 := Aside0.mk hbox; have GW340 := gZ HB hg; have GE340 := gZ HB hg; replace HB := bS HB hb; have NB338_340 := nL BK338 hg; have NB340_338 := nG BK338 hg; replace BK338 := bK BK338 hb; have NB339_340 := nL BK339 hg; have NB340_339 := nG BK339 hg; replace BK339 := bK BK339 hb; clear hb hbox hg; have hnb8 := NB338_339.out; have hnc8 := NB339_338.out; have hnb9 := NB338_340.out; have hnc9 := NB340_338.out; have hz10 := cl9 BK338) | ((with_reducible refine gate_callee (f := 60) rfl ?_); refine goA (some 8) rfl rfl Try.func60 rfl #[.agg #[.int .i64 a0_0, .bool a0_1, .int .i64 a0_2, .int .i64 a0_3, .slice A0_4 l0_4.length c0_4, .int .i64 a0_5, .int .i64 a0_6, .int .i64 a0_7, .int .i64 a0_8]] rfl ?_; (with_reducible refine (impl_activeFault.calls k a0_0 a0_1 a0_2 a0_3 _ _ l0_4 a0_5 a0_6 a0_7 a0_8 t341 _ ?side1 ?side2 A3.out).mono ?_); (case side1 => exact mC HR0_4 HB); (case side2 => exact HC0_4.out); rintro e w11 ⟨rfl, hb⟩; refine ⟨_, rfl, ?_⟩; replace BK338 := bK BK338 hb; replace BK339 := bK BK339 hb; replace BK340 := bK BK340 hb; replace HB := bS HB hb; (try clear hb); (try clear hb2); (try clear hk); (try clear hi)))
 (try simp only [Act.put, List.setIfInBounds_toArray, List.set_cons_zero, List.set_cons_succ])
 go_cut [5] (fun v5 wc => ∃ (kq : Nat) (x5_3 : Int), v5 = .int .i64 x5_3 ∧ Aside0 (impl_AddEvent.j0 kq x5_3 a0_0 a0_1 a0_2 a0_3 l0_4 a0_5 a0_6 a0_7 a0_8 a1_0 a1_1 l1_2 = some (r1, r2, r3, r4, r5, r6, r7, r8, r9, r10, r11)) ∧ Aside0 (kq ≤ k) ∧ Aside0 (wc.heap[gb338]? = some (.cells #[.int .i64 a0_0, .bool a0_1, .int .i64 a0_2, .int .i64 a0_3, (.slice A0_4 l0_4.length c0_4), .int .i64 a0_5, .int .i64 a0_6, .int .i64 a0_7, .int .i64 a0_8] 32 (0, 0))) ∧ Aside0 (wc.heap[gb339]? = some (.cells #[.int .i64 a1_0, .int .i64 a1_1, (.slice A1_2 l1_2.length c1_2)] 38 (0, 0))) ∧ Aside0 (wc.heap[gb340]? = some (.cells #[.int .i64 0, .int .i64 0, .bool false, .int .i64 0, .int .i64 0, (.slice none 0 0), .int .i64 0, .int .i64 0, .int .i64 0, .int .i64 0, (.slice none 0 0)] 35 (0, 0))) ∧ Aside0 (Below w.heap.size w wc))
 case first =>
  have H := HC4.out
  clear HC4
  by_cases c12 : t341 = 0
  ·
   rw [if_pos c12] at H
   have c12b0 : (t341 == 0) = true := beq_iff_eq.mpr c12
   have c12b1 : (t341 != 0) = false := bne_eq_false_iff_eq.mpr c12
   clear c12
   (first | rw [c12b0] | (simp only [i64_w, i32_w]; rw [c12b0]) | skip)
   replace H := Option.bind_eq_some_iff.mp H
   obtain ⟨t342, A130, H⟩ := H
   replace H : (impl_AddEvent.j0 k t342 a0_0 a0_1 a0_2 a0_3 l0_4 a0_5 a0_6 a0_7 a0_8 a1_0 a1_1 l1_2) = some (r1, r2, r3, r4, r5, r6, r7, r8, r9, r10, r11) := H
   have A13 := Aside0.mk A130
   clear A130
   have H' := Aside0.mk H
   clear H
   have hnb14 := NB339_338.out
   have hnc14 := NB338_339.out
   have hnb15 := NB339_340.out
   have hnc15 := NB340_339.out
   have hz16 := cl3 BK339
   go_wp2_with (first | ((with_reducible refine gate_callee (f := 61) rfl ?_); refine goA (some 12) rfl rfl Try.func61 rfl #[.agg #[.int .i64 a1_0, .int .i64 a1_1, .slice A1_2 l1_2.length c1_2]] rfl ?_; (with_reducible refine (impl_EventFault.calls k a1_0 a1_1 _ _ l1_2 t342 _ ?side1 ?side2 A13.out).mono ?_); (case side1 => exact mC HR1_2 HB); (case side2 => exact HC1_2.out); rintro e w17 ⟨rfl, hb⟩; refine ⟨_, rfl, ?_⟩; replace BK338 := bK BK338 hb; replace BK339 := bK BK339 hb; replace BK340 := bK BK340 hb; replace HB := bS HB hb; (try clear hb); (try clear hb2); (try clear hk); (try clear hi)))
   first | go_meet | (refine Met.intro ?_; go_step; (repeat apply Exists.intro); refine ⟨?rel, ?eqq⟩; (case eqq => (try simp only [c12b0]); rfl))
   case rel => exact ⟨_, (t342), (by first | rfl | (simp; done) | (simp [*]; done)), H', ⟨by first | omega | exact Nat.le_refl _⟩, ⟨by (with_reducible repeat (first | refine blk_drewN ?_ _ | refine blk_drew ?_ | refine blk_alloc ?_ _)); exact BK338.out⟩, ⟨by (with_reducible repeat (first | refine blk_drewN ?_ _ | refine blk_drew ?_ | refine blk_alloc ?_ _)); exact BK339.out⟩, ⟨by (with_reducible repeat (first | refine blk_drewN ?_ _ | refine blk_drew ?_ | refine blk_alloc ?_ _)); exact BK340.out⟩, ⟨bel HB⟩⟩
  rw [if_neg c12] at H
  have c12b0 : (t341 == 0) = false := beq_eq_false_iff_ne.mpr c12
  have c12b1 : (t341 != 0) = true := bne_iff_ne.mpr c12
  (first | rw [c12b0] | (simp only [i64_w, i32_w]; rw [c12b0]) | skip)
  have H' := Aside0.mk H
  clear H
  go_wp2
  first | go_meet | (refine Met.intro ?_; go_step; (repeat apply Exists.intro); refine ⟨?rel, ?eqq⟩; (case eqq => (try simp only [c12b0]); rfl))
  case rel => exact ⟨_, (t341), (by first | rfl | (simp; done) | (simp [*]; done)), H', ⟨by first | omega | exact Nat.le_refl _⟩, ⟨by (with_reducible repeat (first | refine blk_drewN ?_ _ | refine blk_drew ?_ | refine blk_alloc ?_ _)); exact BK338.out⟩, ⟨by (with_reducible repeat (first | refine blk_drewN ?_ _ | refine blk_drew ?_ | refine blk_alloc ?_ _)); exact BK339.out⟩, ⟨by (with_reducible repeat (first | refine blk_drewN ?_ _ | refine blk_drew ?_ | refine blk_alloc ?_ _)); exact BK340.out⟩, ⟨bel HB⟩⟩
 case rest =>
  clear HC4
  try clear c1
  try clear p2
  try clear c6
  try clear c8
  try clear c9
  try clear c12
  try clear c12b0
  try clear c12b1
  try clear c14
  try clear c15
  try clear hz10
  try clear hz16
  obtain ⟨kq, x5_3, rfl, HA, HJ3, BK338, BK339, BK340, HB⟩ := hcut
  cases kq with
  | zero => exact absurd HA.out (by simp [impl_AddEvent.j0])
  | succ kj3 =>
   have H := HA.out
   clear HA
   simp only [impl_AddEvent.j0] at H
   have HC18 := Aside0.mk H
   clear H
   go_upto_region 4 with (fail)
   go_cut [20] (fun v20 wc => ∃ (kq : Nat) (x20_17 : Bool), v20 = .bool x20_17 ∧ Aside0 (impl_AddEvent.j1 kq x5_3 x20_17 a0_0 a0_1 a0_2 a0_3 l0_4 a0_5 a0_6 a0_7 a0_8 a1_0 a1_1 l1_2 = some (r1, r2, r3, r4, r5, r6, r7, r8, r9, r10, r11)) ∧ Aside0 (kq ≤ kj3) ∧ Aside0 (wc.heap[gb338]? = some (.cells #[.int .i64 a0_0, .bool a0_1, .int .i64 a0_2, .int .i64 a0_3, (.slice A0_4 l0_4.length c0_4), .int .i64 a0_5, .int .i64 a0_6, .int .i64 a0_7, .int .i64 a0_8] 32 (0, 0))) ∧ Aside0 (wc.heap[gb339]? = some (.cells #[.int .i64 a1_0, .int .i64 a1_1, (.slice A1_2 l1_2.length c1_2)] 38 (0, 0))) ∧ Aside0 (wc.heap[gb340]? = some (.cells #[.int .i64 0, .int .i64 0, .bool false, .int .i64 0, .int .i64 0, (.slice none 0 0), .int .i64 0, .int .i64 0, .int .i64 0, .int .i64 0, (.slice none 0 0)] 35 (0, 0))) ∧ Aside0 (Below w.heap.size w wc))
   case first =>
    have H := HC18.out
    clear HC18
    by_cases c19 : x5_3 = 0
    ·
     rw [if_pos c19] at H
     have c19b0 : (x5_3 == 0) = true := beq_iff_eq.mpr c19
     have c19b1 : (x5_3 != 0) = false := bne_eq_false_iff_eq.mpr c19
     clear c19
     (first | rw [c19b0] | (simp only [i64_w, i32_w]; rw [c19b0]) | skip)
     have H' := Aside0.mk H
     clear H
     have hnb20 := NB338_339.out
     have hnc20 := NB339_338.out
     have hnb21 := NB338_340.out
     have hnc21 := NB340_338.out
     have hz22 := cl9 BK338
     go_wp2
     first | go_meet | (refine Met.intro ?_; go_step; (repeat apply Exists.intro); refine ⟨?rel, ?eqq⟩; (case eqq => (try simp only [c19b0]); rfl))
     case rel => exact ⟨_, (((l0_4.length : Int) == 100)), (by first | rfl | (simp; done) | (simp [*]; done)), H', ⟨by have := HJ3.out; first | omega | exact Nat.le_refl _⟩, ⟨by (with_reducible repeat (first | refine blk_drewN ?_ _ | refine blk_drew ?_ | refine blk_alloc ?_ _)); exact BK338.out⟩, ⟨by (with_reducible repeat (first | refine blk_drewN ?_ _ | refine blk_drew ?_ | refine blk_alloc ?_ _)); exact BK339.out⟩, ⟨by (with_reducible repeat (first | refine blk_drewN ?_ _ | refine blk_drew ?_ | refine blk_alloc ?_ _)); exact BK340.out⟩, ⟨bel HB⟩⟩
    rw [if_neg c19] at H
    have c19b0 : (x5_3 == 0) = false := beq_eq_false_iff_ne.mpr c19
    have c19b1 : (x5_3 != 0) = true := bne_iff_ne.mpr c19
    (first | rw [c19b0] | (simp only [i64_w, i32_w]; rw [c19b0]) | skip)
    have H' := Aside0.mk H
    clear H
    go_wp2
    first | go_meet | (refine Met.intro ?_; go_step; (repeat apply Exists.intro); refine ⟨?rel, ?eqq⟩; (case eqq => (try simp only [c19b0]); rfl))
    case rel => exact ⟨_, (false), (by first | rfl | (simp; done) | (simp [*]; done)), H', ⟨by have := HJ3.out; first | omega | exact Nat.le_refl _⟩, ⟨by (with_reducible repeat (first | refine blk_drewN ?_ _ | refine blk_drew ?_ | refine blk_alloc ?_ _)); exact BK338.out⟩, ⟨by (with_reducible repeat (first | refine blk_drewN ?_ _ | refine blk_drew ?_ | refine blk_alloc ?_ _)); exact BK339.out⟩, ⟨by (with_reducible repeat (first | refine blk_drewN ?_ _ | refine blk_drew ?_ | refine blk_alloc ?_ _)); exact BK340.out⟩, ⟨bel HB⟩⟩
   case rest =>
    clear HC18
    try clear c1
    try clear c2
    try clear p2
    try clear c6
    try clear c8
    try clear c9
    try clear c12
    try clear c12b0
    try clear c12b1
    try clear c14
    try clear c15
    try clear c19
    try clear c19b0
    try clear c19b1
    try clear c20
    try clear c21
    try clear hz10
    try clear hz16
    try clear hz22
    try clear p2
    obtain ⟨kq, x20_17, rfl, HA, HJ17, BK338, BK339, BK340, HB⟩ := hcut
    cases kq with
    | zero => exact absurd HA.out (by simp [impl_AddEvent.j1])
    | succ kj17 =>
     have H := HA.out
     clear HA
     simp only [impl_AddEvent.j1] at H
     have HC23 := Aside0.mk H
     clear H
     go_upto_if 20 with (fail)
     go_cut [5] (fun v5 wc => ∃ (kq : Nat) (x5_22 : Int), v5 = .int .i64 x5_22 ∧ Aside0 (impl_AddEvent.j2 kq x5_22 a0_0 a0_1 a0_2 a0_3 l0_4 a0_5 a0_6 a0_7 a0_8 a1_0 a1_1 l1_2 = some (r1, r2, r3, r4, r5, r6, r7, r8, r9, r10, r11)) ∧ Aside0 (kq ≤ kj17) ∧ Aside0 (wc.heap[gb338]? = some (.cells #[.int .i64 a0_0, .bool a0_1, .int .i64 a0_2, .int .i64 a0_3, (.slice A0_4 l0_4.length c0_4), .int .i64 a0_5, .int .i64 a0_6, .int .i64 a0_7, .int .i64 a0_8] 32 (0, 0))) ∧ Aside0 (wc.heap[gb339]? = some (.cells #[.int .i64 a1_0, .int .i64 a1_1, (.slice A1_2 l1_2.length c1_2)] 38 (0, 0))) ∧ Aside0 (wc.heap[gb340]? = some (.cells #[.int .i64 0, .int .i64 0, .bool false, .int .i64 0, .int .i64 0, (.slice none 0 0), .int .i64 0, .int .i64 0, .int .i64 0, .int .i64 0, (.slice none 0 0)] 35 (0, 0))) ∧ Aside0 (Below w.heap.size w wc))
     case first =>
      have H := HC23.out
      clear HC23
      by_cases c24 : x20_17 = true
      ·
       subst c24
       have H1 : (impl_AddEvent.j2 kj17 2 a0_0 a0_1 a0_2 a0_3 l0_4 a0_5 a0_6 a0_7 a0_8 a1_0 a1_1 l1_2) = some (r1, r2, r3, r4, r5, r6, r7, r8, r9, r10, r11) := by rw [if_pos rfl] at H; first | done | exact H
       clear H
       have H := H1
       clear H1
       have H' := Aside0.mk H
       clear H
       go_wp2
       go_meet
       case rel => exact ⟨_, (2), (by first | rfl | (simp; done) | (simp [*]; done)), H', ⟨by have := HJ3.out; have := HJ17.out; first | omega | exact Nat.le_refl _⟩, ⟨by (with_reducible repeat (first | refine blk_drewN ?_ _ | refine blk_drew ?_ | refine blk_alloc ?_ _)); exact BK338.out⟩, ⟨by (with_reducible repeat (first | refine blk_drewN ?_ _ | refine blk_drew ?_ | refine blk_alloc ?_ _)); exact BK339.out⟩, ⟨by (with_reducible repeat (first | refine blk_drewN ?_ _ | refine blk_drew ?_ | refine blk_alloc ?_ _)); exact BK340.out⟩, ⟨bel HB⟩⟩
      replace c24 := Bool.eq_false_iff.mpr c24
      subst c24
      have H1 : (impl_AddEvent.j2 kj17 x5_3 a0_0 a0_1 a0_2 a0_3 l0_4 a0_5 a0_6 a0_7 a0_8 a1_0 a1_1 l1_2) = some (r1, r2, r3, r4, r5, r6, r7, r8, r9, r10, r11) := by rw [if_neg (show ¬ (false = true) by decide)] at H; first | done | exact H
      clear H
      have H := H1
      clear H1
      have H' := Aside0.mk H
      clear H
      go_wp2
      go_meet
      case rel => exact ⟨_, (x5_3), (by first | rfl | (simp; done) | (simp [*]; done)), H', ⟨by have := HJ3.out; have := HJ17.out; first | omega | exact Nat.le_refl _⟩, ⟨by (with_reducible repeat (first | refine blk_drewN ?_ _ | refine blk_drew ?_ | refine blk_alloc ?_ _)); exact BK338.out⟩, ⟨by (with_reducible repeat (first | refine blk_drewN ?_ _ | refine blk_drew ?_ | refine blk_alloc ?_ _)); exact BK339.out⟩, ⟨by (with_reducible repeat (first | refine blk_drewN ?_ _ | refine blk_drew ?_ | refine blk_alloc ?_ _)); exact BK340.out⟩, ⟨bel HB⟩⟩
     case rest =>
      clear HC23
      try clear c1
      try clear c2
      try clear p2
      try clear c6
      try clear c8
      try clear c9
      try clear c12
      try clear c12b0
      try clear c12b1
      try clear c14
      try clear c15
      try clear c19
      try clear c19b0
      try clear c19b1
      try clear c20
      try clear c21
      try clear c24
      try clear hz10
      try clear hz16
      try clear hz22
      try clear p2
      obtain ⟨kq, x5_22, rfl, HA, HJ22, BK338, BK339, BK340, HB⟩ := hcut
      cases kq with
      | zero => exact absurd HA.out (by simp [impl_AddEvent.j2])
      | succ kj22 =>
       have H := HA.out
       clear HA
       simp only [impl_AddEvent.j2] at H
       by_cases c25 : x5_22 = 0
       ·
        rw [if_pos c25] at H
        have c25b0 : (x5_22 == 0) = true := beq_iff_eq.mpr c25
        have c25b1 : (x5_22 != 0) = false := bne_eq_false_iff_eq.mpr c25
        clear c25
        replace H := Option.bind_eq_some_iff.mp H
        obtain ⟨⟨t343, t344, t345, t346, t347, t350, t351, t352, t353⟩, A260, H⟩ := H
        replace H : ((slices_Clone_byte_byte.f l1_2).bind fun t355 => (if t347.length < 2932031007402 then (some (0, t343, t344, t345, t346, (t347 ++ [(⟨a0_3, (⟨a1_0, a1_1, t355⟩ : S38)⟩ : S55)]), t350, t351, t352, t353, ([] : List (S57)))) else (none))) = some (r1, r2, r3, r4, r5, r6, r7, r8, r9, r10, r11) := H
        have A26 := Aside0.mk A260
        clear A260
        replace H := Option.bind_eq_some_iff.mp H
        obtain ⟨t355, A270, H⟩ := H
        replace H : (if t347.length < 2932031007402 then (some (0, t343, t344, t345, t346, (t347 ++ [(⟨a0_3, (⟨a1_0, a1_1, t355⟩ : S38)⟩ : S55)]), t350, t351, t352, t353, ([] : List (S57)))) else (none)) = some (r1, r2, r3, r4, r5, r6, r7, r8, r9, r10, r11) := H
        have A27 := Aside0.mk A270
        clear A270
        by_cases c28 : t347.length < 2932031007402
        ·
         rw [if_pos c28] at H
         have LMc28 := Aside0.mk c28
         clear c28
         obtain ⟨y358, hy358⟩ : ∃ y_ : List (S55), y_ = (t347 ++ [(⟨a0_3, (⟨a1_0, a1_1, t355⟩ : S38)⟩ : S55)]) := ⟨_, rfl⟩
         replace H : (some (0, t343, t344, t345, t346, y358, t350, t351, t352, t353, ([] : List (S57)))) = some (r1, r2, r3, r4, r5, r6, r7, r8, r9, r10, r11) := by first | (rw [hy358]; with_reducible exact H) | (have H2_ := (Option.bind_some _ _).symm.trans H; rw [hy358]; with_reducible exact H2_) | (have H2_ := (Option.bind_some _ _).symm.trans H; with_reducible exact H2_) | with_reducible exact H | (rw [hy358]; exact H) | exact H
         have Ny358 := Aside0.mk hy358
         clear hy358
         simp only [Option.some.injEq, Prod.mk.injEq] at H
         obtain ⟨rfl, rfl, rfl, rfl, rfl, rfl, rfl, rfl, rfl, rfl, rfl⟩ := H
         have hnb29 := NB338_339.out
         have hnc29 := NB339_338.out
         have hnb30 := NB338_340.out
         have hnc30 := NB340_338.out
         have hz31 := cl9 BK338
         try go_wp2_with (first | ((with_reducible refine gate_callee (f := 62) rfl ?_); refine goA (some 26) rfl rfl Try.func62 rfl #[.agg #[.int .i64 a0_0, .bool a0_1, .int .i64 a0_2, .int .i64 a0_3, .slice A0_4 l0_4.length c0_4, .int .i64 a0_5, .int .i64 a0_6, .int .i64 a0_7, .int .i64 a0_8]] rfl ?_; (with_reducible refine (impl_Node_copied.calls a0_0 a0_1 a0_2 a0_3 _ _ l0_4 a0_5 a0_6 a0_7 a0_8 t343 t344 t345 t346 t347 t350 t351 t352 t353 _ ?side1 ?side2 A26.out).mono ?_); (case side1 => exact mC HR0_4 HB); (case side2 => exact HC0_4.out); rintro e w32 ⟨v348, rfl, ho0, hb⟩; refine ⟨_, rfl, ?_⟩; have HO349 := am (Kd.S_lower ho0 (below_size (bel HB))); replace BK338 := bK BK338 hb; replace BK339 := bK BK339 hb; replace BK340 := bK BK340 hb; replace HB := bS HB hb; (try clear hb); (try clear hb2); (try clear hk); (try clear hi); (try clear ho0)) | ((with_reducible refine gate_dst (N := 6) rfl ?_); (try (refine gate_guard (by rfl) ?_; dsimp only)); refine boxE #[.int .i64 0, .bool false, .int .i64 0, .int .i64 0, .slice none 0 0, .int .i64 0, .int .i64 0, .int .i64 0, .int .i64 0] 32 (N := 6) rfl rfl ?_; intro gb354 hg w33 hbox hb; replace HO349 := am (Kd.S_below (mS HO349) hb); have BK354 := Aside0.mk hbox; have GW354 := gZ HB hg; have GE354 := gZ HB hg; replace HB := bS HB hb; have NB338_354 := nL BK338 hg; have NB354_338 := nG BK338 hg; replace BK338 := bK BK338 hb; have NB339_354 := nL BK339 hg; have NB354_339 := nG BK339 hg; replace BK339 := bK BK339 hb; have NB340_354 := nL BK340 hg; have NB354_340 := nG BK340 hg; replace BK340 := bK BK340 hb; clear hb hbox hg; have hnb34 := NB354_338.out; have hnc34 := NB338_354.out; have hnb35 := NB354_339.out; have hnc35 := NB339_354.out; have hnb36 := NB354_340.out; have hnc36 := NB340_354.out; have hz37 := cl9 BK354; obtain ⟨Ao38, co38, eo38⟩ := Kd.S_slice HO349.out; subst eo38) | ((with_reducible refine gate_store (t := 32) (p := 6) rfl ?_); refine store_event (t := 32) (p := 6) (v := ?vo_w39) (w1 := (((((((((w33.setCell ⟨gb354, 0, none⟩ (.int .i64 t343)).setCell ⟨gb354, 1, none⟩ (.bool t344)).setCell ⟨gb354, 2, none⟩ (.int .i64 t345)).setCell ⟨gb354, 3, none⟩ (.int .i64 t346)).setCell ⟨gb354, 4, none⟩ (.slice Ao38 t347.length co38)).setCell ⟨gb354, 5, none⟩ (.int .i64 t350)).setCell ⟨gb354, 6, none⟩ (.int .i64 t351)).setCell ⟨gb354, 7, none⟩ (.int .i64 t352)).setCell ⟨gb354, 8, none⟩ (.int .i64 t353))) ?hg ?ho ?hn ?hr ?_; (case ho => rfl); (case hg => rfl); (case hn => rfl); (case hr => first | (go_simp; done) | (go_simp; rfl)); intro w39 hw; have n0_ : Aside0 (Kd.S k55 55 w39 w.heap.size (fun _ => True) (.slice Ao38 t347.length co38) t347) := ⟨(by rw [hw]; exact (by (with_reducible repeat (first | apply Kd.S_alloc | apply Kd.S_drewN | apply Kd.S_drew)); exact Kd.S_mono (Kd.S_far (p := ⟨gb354, 8, none⟩) (Kd.S_far (p := ⟨gb354, 7, none⟩) (Kd.S_far (p := ⟨gb354, 6, none⟩) (Kd.S_far (p := ⟨gb354, 5, none⟩) (Kd.S_far (p := ⟨gb354, 4, none⟩) (Kd.S_far (p := ⟨gb354, 3, none⟩) (Kd.S_far (p := ⟨gb354, 2, none⟩) (Kd.S_far (p := ⟨gb354, 1, none⟩) (Kd.S_far (p := ⟨gb354, 0, none⟩) (Kd.S_types HO349.out BK354.out (by decide)) (fun _ hk => hk.2) (.int .i64 t343)) (fun _ hk => hk.2) (.bool t344)) (fun _ hk => hk.2) (.int .i64 t345)) (fun _ hk => hk.2) (.int .i64 t346)) (fun _ hk => hk.2) (.slice Ao38 t347.length co38)) (fun _ hk => hk.2) (.int .i64 t350)) (fun _ hk => hk.2) (.int .i64 t351)) (fun _ hk => hk.2) (.int .i64 t352)) (fun _ hk => hk.2) (.int .i64 t353)) (fun _ hk => trivial)))⟩; have n1_ : Aside0 (w39.heap[gb338]? = some (.cells #[.int .i64 a0_0, .bool a0_1, .int .i64 a0_2, .int .i64 a0_3, .slice A0_4 l0_4.length c0_4, .int .i64 a0_5, .int .i64 a0_6, .int .i64 a0_7, .int .i64 a0_8] 32 (0, 0))) := ⟨(by rw [hw]; exact (mP BK338))⟩; have n2_ : Aside0 (w39.heap[gb339]? = some (.cells #[.int .i64 a1_0, .int .i64 a1_1, .slice A1_2 l1_2.length c1_2] 38 (0, 0))) := ⟨(by rw [hw]; exact (mP BK339))⟩; have n3_ : Aside0 (w39.heap[gb340]? = some (.cells #[.int .i64 0, .int .i64 0, .bool false, .int .i64 0, .int .i64 0, .slice none 0 0, .int .i64 0, .int .i64 0, .int .i64 0, .int .i64 0, .slice none 0 0] 35 (0, 0))) := ⟨(by rw [hw]; exact (mP BK340))⟩; have n4_ : Aside0 (w39.heap[gb354]? = some (.cells #[.int .i64 t343, .bool t344, .int .i64 t345, .int .i64 t346, .slice Ao38 t347.length co38, .int .i64 t350, .int .i64 t351, .int .i64 t352, .int .i64 t353] 32 (0, 0))) := ⟨(by rw [hw]; exact (mP BK354))⟩; have n5_ : Aside0 (Below w.heap.size w w39) := ⟨(by rw [hw]; exact (bel HB))⟩; clear hw; clear HO349; clear BK338; clear BK339; clear BK340; clear BK354; clear HB; have HO349 := n0_; have BK338 := n1_; have BK339 := n2_; have BK340 := n3_; have BK354 := n4_; have HB := n5_; clear n0_ n1_ n2_ n3_ n4_ n5_))
         replace HO349 := am (Kd.S_drew HO349.out)
         replace BK338 := am (blk_drew BK338.out)
         replace BK339 := am (blk_drew BK339.out)
         replace BK340 := am (blk_drew BK340.out)
         replace BK354 := am (blk_drew BK354.out)
         replace HB := am (below_drew1 HB.out)
         refine start_ (n := 17) (S := fun w' => w'.cell? ⟨gb354, 0, none⟩ = some (.int .i64 t343) ∧ w'.cell? ⟨gb354, 1, none⟩ = some (.bool t344) ∧ w'.cell? ⟨gb354, 2, none⟩ = some (.int .i64 t345) ∧ w'.cell? ⟨gb354, 3, none⟩ = some (.int .i64 t346) ∧ w'.cell? ⟨gb354, 4, none⟩ = some (.slice Ao38 t347.length co38) ∧ w'.cell? ⟨gb354, 5, none⟩ = some (.int .i64 t350) ∧ w'.cell? ⟨gb354, 6, none⟩ = some (.int .i64 t351) ∧ w'.cell? ⟨gb354, 7, none⟩ = some (.int .i64 t352) ∧ w'.cell? ⟨gb354, 8, none⟩ = some (.int .i64 t353) ∧ w'.cell? ⟨gb338, 0, none⟩ = some (.int .i64 a0_0) ∧ w'.cell? ⟨gb338, 1, none⟩ = some (.bool a0_1) ∧ w'.cell? ⟨gb338, 2, none⟩ = some (.int .i64 a0_2) ∧ w'.cell? ⟨gb338, 3, none⟩ = some (.int .i64 a0_3) ∧ w'.cell? ⟨gb338, 4, none⟩ = some (.slice A0_4 l0_4.length c0_4) ∧ w'.cell? ⟨gb338, 5, none⟩ = some (.int .i64 a0_5) ∧ w'.cell? ⟨gb338, 6, none⟩ = some (.int .i64 a0_6) ∧ w'.cell? ⟨gb338, 7, none⟩ = some (.int .i64 a0_7) ∧ w'.cell? ⟨gb338, 8, none⟩ = some (.int .i64 a0_8) ∧ w'.cell? ⟨gb339, 0, none⟩ = some (.int .i64 a1_0) ∧ w'.cell? ⟨gb339, 1, none⟩ = some (.int .i64 a1_1) ∧ w'.cell? ⟨gb339, 2, none⟩ = some (.slice A1_2 l1_2.length c1_2)) (ds := [16]) #[false, false, false, false, false, false, false, false, false, false, false, false, false, false, false, false, false] (by kernel_rfl) rfl rfl ⟨(blk_cell BK354.out 0).trans rfl, (blk_cell BK354.out 1).trans rfl, (blk_cell BK354.out 2).trans rfl, (blk_cell BK354.out 3).trans rfl, (blk_cell BK354.out 4).trans rfl, (blk_cell BK354.out 5).trans rfl, (blk_cell BK354.out 6).trans rfl, (blk_cell BK354.out 7).trans rfl, (blk_cell BK354.out 8).trans rfl, (blk_cell BK338.out 0).trans rfl, (blk_cell BK338.out 1).trans rfl, (blk_cell BK338.out 2).trans rfl, (blk_cell BK338.out 3).trans rfl, (blk_cell BK338.out 4).trans rfl, (blk_cell BK338.out 5).trans rfl, (blk_cell BK338.out 6).trans rfl, (blk_cell BK338.out 7).trans rfl, (blk_cell BK338.out 8).trans rfl, (blk_cell BK339.out 0).trans rfl, (blk_cell BK339.out 1).trans rfl, (blk_cell BK339.out 2).trans rfl⟩ (fun hHeld => ?_); refine with_tabW impl_AddEvent.tab9 impl_AddEvent.bits9 (fun HT_ HW_ => ?_)
         generalize w39.drew = w40 at HO349 BK338 BK339 BK340 BK354 HB hHeld ⊢
         refine pA 0 27 [1, 16] ?_
         refine pA 2 29 [1, 1, 1, 14] ?_
         refine pA 4 31 [1, 1, 1, 1, 1, 12] ?_
         refine pA 6 33 [1, 1, 1, 1, 1, 1, 1, 10] ?_
         refine pA 8 35 [1, 1, 1, 1, 1, 1, 1, 1, 1, 8] ?_
         refine tA 1 28 [3, 1, 1, 1, 1, 1, 1, 8] (hv := by rintro w' ⟨s0, s1, s2, s3, s4, s5, s6, s7, s8, s9, s10, s11, s12, s13, s14, s15, s16, s17, s18, s19, s20⟩; go_simp; with_reducible rfl) (h := ?_)
         refine tA 3 30 [5, 1, 1, 1, 1, 8] (hv := by rintro w' ⟨s0, s1, s2, s3, s4, s5, s6, s7, s8, s9, s10, s11, s12, s13, s14, s15, s16, s17, s18, s19, s20⟩; go_simp; with_reducible rfl) (h := ?_)
         refine tA 5 32 [7, 1, 1, 8] (hv := by rintro w' ⟨s0, s1, s2, s3, s4, s5, s6, s7, s8, s9, s10, s11, s12, s13, s14, s15, s16, s17, s18, s19, s20⟩; go_simp; with_reducible rfl) (h := ?_)
         refine tA 7 34 [9, 8] (hv := by rintro w' ⟨s0, s1, s2, s3, s4, s5, s6, s7, s8, s9, s10, s11, s12, s13, s14, s15, s16, s17, s18, s19, s20⟩; go_simp; with_reducible rfl) (h := ?_)
         refine tA 9 36 [10, 7] (hv := by rintro w' ⟨s0, s1, s2, s3, s4, s5, s6, s7, s8, s9, s10, s11, s12, s13, s14, s15, s16, s17, s18, s19, s20⟩; go_simp; with_reducible rfl) (h := ?_)
         refine one_ (i := 10) (N := some 37) (tr [11, 6]) rfl rfl (one_of HT_.out (by kernel_rfl)) (by decide) (fun K hK => ?_)
         refine goes_ Try.func63 (by kernel_rfl) rfl #[.slice A1_2 l1_2.length c1_2] (by rfl) rfl rfl (by (try simp only [List.map_toArray, List.map_cons, List.map_nil]); first | done | rfl | (simp only [List.length_drop, List.length_take]; rfl)) ?_
         with_reducible refine (slices_Clone_byte_byte.calls _ _ l1_2 t355 _ ?side1 ?side2 A27.out).mono ?_
         (case side1 => exact mC HR1_2 HB)
         (case side2 => exact HC1_2.out)
         rintro e w41 ⟨v356, rfl, ho0, hb⟩
         refine ⟨_, rfl, ?_⟩
         replace HO349 := am (Kd.S_elder' (mS HO349) (Kd.R_base ho0) hb)
         have HO357 := am (Kd.R_lower ho0 (below_size (bel HB)))
         replace BK338 := bK BK338 hb
         replace BK339 := bK BK339 hb
         replace BK340 := bK BK340 hb
         replace BK354 := bK BK354 hb
         replace HB := bS HB hb
         (try clear hb)
         (try clear hb2)
         (try clear hk)
         (try clear hi)
         (try clear ho0)
         obtain ⟨Ao42, co42, eo42⟩ := Kd.R_slice HO357.out
         (first | subst eo42 | (injection eo42 with f1_ f2_ f3_; have f4_ := f1_.symm; have f5_ := f3_.symm; clear f1_ f2_ f3_; subst f4_; subst f5_))
         refine hK.out _ _ ⟨(blk_cell BK354.out 0).trans rfl, (blk_cell BK354.out 1).trans rfl, (blk_cell BK354.out 2).trans rfl, (blk_cell BK354.out 3).trans rfl, (blk_cell BK354.out 4).trans rfl, (blk_cell BK354.out 5).trans rfl, (blk_cell BK354.out 6).trans rfl, (blk_cell BK354.out 7).trans rfl, (blk_cell BK354.out 8).trans rfl, (blk_cell BK338.out 0).trans rfl, (blk_cell BK338.out 1).trans rfl, (blk_cell BK338.out 2).trans rfl, (blk_cell BK338.out 3).trans rfl, (blk_cell BK338.out 4).trans rfl, (blk_cell BK338.out 5).trans rfl, (blk_cell BK338.out 6).trans rfl, (blk_cell BK338.out 7).trans rfl, (blk_cell BK338.out 8).trans rfl, (blk_cell BK339.out 0).trans rfl, (blk_cell BK339.out 1).trans rfl, (blk_cell BK339.out 2).trans rfl⟩ (fun hHeld => ?_)
         clear hK K
         refine norm_ (a' := ?_) ?_ ?_
         rotate_left
         ·
          show Act.put _ (some 37) _ = _
          simp only [Act.put, List.setIfInBounds_toArray, List.set_cons_zero, List.set_cons_succ, i64_w, i32_w]
          rfl
         refine pA 11 38 [12, 5] ?_
         refine pA 12 39 [13, 4] ?_
         refine one_ (i := 13) (N := some 40) (tr [14, 3]) rfl rfl (one_of HT_.out (by kernel_rfl)) (by decide) (fun K hK => ?_)
         refine value_ (w1 := ?_) (v := ?_) (by rfl) rfl ?_ ?_
         rotate_left 2
         ·
          go_simp
          constructor
          ·
           rfl
          rfl
         refine hK.out _ _ ⟨(blk_cell (blk_alloc BK354.out _) 0).trans rfl, (blk_cell (blk_alloc BK354.out _) 1).trans rfl, (blk_cell (blk_alloc BK354.out _) 2).trans rfl, (blk_cell (blk_alloc BK354.out _) 3).trans rfl, (blk_cell (blk_alloc BK354.out _) 4).trans rfl, (blk_cell (blk_alloc BK354.out _) 5).trans rfl, (blk_cell (blk_alloc BK354.out _) 6).trans rfl, (blk_cell (blk_alloc BK354.out _) 7).trans rfl, (blk_cell (blk_alloc BK354.out _) 8).trans rfl, (blk_cell (blk_alloc BK338.out _) 0).trans rfl, (blk_cell (blk_alloc BK338.out _) 1).trans rfl, (blk_cell (blk_alloc BK338.out _) 2).trans rfl, (blk_cell (blk_alloc BK338.out _) 3).trans rfl, (blk_cell (blk_alloc BK338.out _) 4).trans rfl, (blk_cell (blk_alloc BK338.out _) 5).trans rfl, (blk_cell (blk_alloc BK338.out _) 6).trans rfl, (blk_cell (blk_alloc BK338.out _) 7).trans rfl, (blk_cell (blk_alloc BK338.out _) 8).trans rfl, (blk_cell (blk_alloc BK339.out _) 0).trans rfl, (blk_cell (blk_alloc BK339.out _) 1).trans rfl, (blk_cell (blk_alloc BK339.out _) 2).trans rfl⟩ (fun hHeld => ?_)
         clear hK K
         refine norm_ (a' := ?_) ?_ ?_
         rotate_left
         ·
          show Act.put _ (some 40) _ = _
          simp only [Act.put, List.setIfInBounds_toArray, List.set_cons_zero, List.set_cons_succ, i64_w, i32_w]
          rfl
         refine one_ (i := 14) (N := some 41) (tr [15, 2]) rfl rfl (one_of HT_.out (by kernel_rfl)) (by decide) (fun K hK => ?_)
         refine Kd.S_append_step k55 (w0 := w) w.heap.size (by rfl) (.tmp 28) (.tmp 40) 30 55 (.agg #[(.int .i64 0), (.int .i64 0), (.int .i64 0), (.slice none 0 0)]) 48 rfl Try.underlying30 info55 rfl (by decide) (by omega) (.slice Ao38 t347.length co38) t347 (⟨a0_3, (⟨a1_0, a1_1, t355⟩ : S38)⟩ : S55) [.int .i64 a0_3, .int .i64 a1_0, .int .i64 a1_1, .slice Ao42 t355.length co42] (fun _ => True) (fun k_ => some k_ = (.slice Ao42 t355.length co42 : Value).ownBlock) rfl rfl ?aP (fun k_ hk_ => ((Kd.R_mono (ok' := fun k_ => ((fun _ => True)) k_ ∧ some k_ ≠ (.slice Ao38 t347.length co38 : Value).ownBlock) (Kd.R_apart' (HO357.out) (Kd.S_typed HO349.out) (by decide)) (fun k_ hk => ⟨trivial, hk.2⟩))).1 k_ hk_.symm) ?aF ?aO ?aB ?aS ?aL ?_
         (case aP => exact k55_mkM _ _ _ (⟨a0_3, (⟨a1_0, a1_1, t355⟩ : S38)⟩ : S55) (Kd.R_mono (Kd.R_tight rfl (Kd.R_mono (ok' := fun k_ => ((fun _ => True)) k_ ∧ some k_ ≠ (.slice Ao38 t347.length co38 : Value).ownBlock) (Kd.R_apart' (HO357.out) (Kd.S_typed HO349.out) (by decide)) (fun k_ hk => ⟨trivial, hk.2⟩))) (fun _ h_ => h_)))
         (case aB => exact (bel HB))
         (case aF => exact (fun _ _ => trivial))
         (case aO => exact (by (with_reducible repeat (first | apply Kd.S_alloc | apply Kd.S_drewN | apply Kd.S_drew)); exact Kd.S_mono HO349.out (fun k_ hk => ⟨trivial, fun e_ => hk.2 e_⟩)))
         (case aS => exact (below_size (bel HB)))
         (case aL => have := LMc28.out; omega)
         intro v359 w43 ho hb hg hat
         rw [← Ny358.out] at ho
         replace BK338 := am (blk_grown (g := gb338) (o := .cells #[.int .i64 a0_0, .bool a0_1, .int .i64 a0_2, .int .i64 a0_3, .slice A0_4 l0_4.length c0_4, .int .i64 a0_5, .int .i64 a0_6, .int .i64 a0_7, .int .i64 a0_8] 32 (0, 0)) (mB BK338) hg (Kd.S_ne HO349.out BK338.out (by decide)))
         replace BK339 := am (blk_grown (g := gb339) (o := .cells #[.int .i64 a1_0, .int .i64 a1_1, .slice A1_2 l1_2.length c1_2] 38 (0, 0)) (mB BK339) hg (Kd.S_ne HO349.out BK339.out (by decide)))
         replace BK340 := am (blk_grown (g := gb340) (o := .cells #[.int .i64 0, .int .i64 0, .bool false, .int .i64 0, .int .i64 0, .slice none 0 0, .int .i64 0, .int .i64 0, .int .i64 0, .int .i64 0, .slice none 0 0] 35 (0, 0)) (mB BK340) hg (Kd.S_ne HO349.out BK340.out (by decide)))
         replace BK354 := am (blk_grown (g := gb354) (o := .cells #[.int .i64 t343, .bool t344, .int .i64 t345, .int .i64 t346, .slice Ao38 t347.length co38, .int .i64 t350, .int .i64 t351, .int .i64 t352, .int .i64 t353] 32 (0, 0)) (mB BK354) hg (Kd.S_ne HO349.out BK354.out (by decide)))
         replace HB := am (hb)
         have HO360 := am (ho)
         clear HO349 HO357
         clear ho hb hg hat
         obtain ⟨Ao44, co44, eo44⟩ := Kd.S_slice HO360.out
         (first | subst eo44 | (injection eo44 with f1_ f2_ f3_; have f4_ := f1_.symm; have f5_ := f3_.symm; clear f1_ f2_ f3_; subst f4_; subst f5_))
         refine hK.out _ _ ⟨(blk_cell BK354.out 0).trans rfl, (blk_cell BK354.out 1).trans rfl, (blk_cell BK354.out 2).trans rfl, (blk_cell BK354.out 3).trans rfl, (blk_cell BK354.out 4).trans rfl, (blk_cell BK354.out 5).trans rfl, (blk_cell BK354.out 6).trans rfl, (blk_cell BK354.out 7).trans rfl, (blk_cell BK354.out 8).trans rfl, (blk_cell BK338.out 0).trans rfl, (blk_cell BK338.out 1).trans rfl, (blk_cell BK338.out 2).trans rfl, (blk_cell BK338.out 3).trans rfl, (blk_cell BK338.out 4).trans rfl, (blk_cell BK338.out 5).trans rfl, (blk_cell BK338.out 6).trans rfl, (blk_cell BK338.out 7).trans rfl, (blk_cell BK338.out 8).trans rfl, (blk_cell BK339.out 0).trans rfl, (blk_cell BK339.out 1).trans rfl, (blk_cell BK339.out 2).trans rfl⟩ (fun hHeld => ?_)
         clear hK K
         refine norm_ (a' := ?_) ?_ ?_
         rotate_left
         ·
          show Act.put _ (some 41) _ = _
          simp only [Act.put, List.setIfInBounds_toArray, List.set_cons_zero, List.set_cons_succ, i64_w, i32_w]
          rfl
         refine pA 15 42 [16, 1] ?_
         refine last_ (i := 16) (N := none) #[true, true, true, true, true, true, true, true, true, true, true, true, true, true, true, true, true] rfl rfl (one_of HT_.out (by kernel_rfl)) (by decide) (fun K hK => ?_)
         have hs45 : w43.cell? ⟨gb354, 4, none⟩ = some (.slice Ao38 t347.length co38) := (blk_cell BK354.out 4).trans rfl
         have hfs45 := blk_frozen BK354.out 4
         have hns45_0 := NB338_354.out
         have hns45_1 := NB339_354.out
         have hns45_2 := NB340_354.out
         have hms45_0 := NB354_338.out
         have hms45_1 := NB354_339.out
         have hms45_2 := NB354_340.out
         refine skip_ (w1 := ?_) (by rfl) rfl ?_ ?_
         rotate_left
         ·
          go_simp
          rfl
         refine hK.out _ _ ?_
         clear hK K
         refine done_ (done_of HT_.out (by kernel_rfl)) ?_
         have hz46 := cl9 BK354
         have hnb47 := NB340_339.out
         have hnc47 := NB339_340.out
         have hz48 := cl11 BK340
         try go_wp2
         refine bodyPost_ret (results_cell_row rfl _ _ gb340 35 #[.int .i64 0, .int .i64 t343, .bool t344, .int .i64 t345, .int .i64 t346, .slice Ao44 y358.length co44, .int .i64 t350, .int .i64 t351, .int .i64 t352, .int .i64 t353, .slice none 0 0] (0, 0) _ rfl (mP BK340) Try.underlying35 rfl (by kernel_rfl)) rfl ?_
         exact ⟨_, _, by first | rfl | (simp [errW_none, errW_some] <;> rfl) | (simp [*, errW_none, errW_some] <;> rfl), by (with_reducible repeat (first | apply Kd.S_alloc | apply Kd.S_drewN | apply Kd.S_drew)); exact Kd.S_mono (Kd.S_far (p := ⟨gb340, 10, none⟩) (Kd.S_far (p := ⟨gb340, 9, none⟩) (Kd.S_far (p := ⟨gb340, 8, none⟩) (Kd.S_far (p := ⟨gb340, 7, none⟩) (Kd.S_far (p := ⟨gb340, 6, none⟩) (Kd.S_far (p := ⟨gb340, 5, none⟩) (Kd.S_far (p := ⟨gb340, 4, none⟩) (Kd.S_far (p := ⟨gb340, 3, none⟩) (Kd.S_far (p := ⟨gb340, 2, none⟩) (Kd.S_far (p := ⟨gb340, 1, none⟩) (Kd.S_far (p := ⟨gb340, 0, none⟩) (Kd.S_far (p := ⟨gb354, 4, none⟩) (Kd.S_types (Kd.S_types HO360.out BK354.out (by decide)) BK340.out (by decide)) (fun _ hk => hk.1.2) (.slice Ao44 y358.length co44)) (fun _ hk => hk.2) (.int .i64 0)) (fun _ hk => hk.2) (.int .i64 t343)) (fun _ hk => hk.2) (.bool t344)) (fun _ hk => hk.2) (.int .i64 t345)) (fun _ hk => hk.2) (.int .i64 t346)) (fun _ hk => hk.2) (.slice Ao44 y358.length co44)) (fun _ hk => hk.2) (.int .i64 t350)) (fun _ hk => hk.2) (.int .i64 t351)) (fun _ hk => hk.2) (.int .i64 t352)) (fun _ hk => hk.2) (.int .i64 t353)) (fun _ hk => hk.2) (.slice none 0 0)) (fun _ hk => trivial), by first | exact Kd.S_nil _ _ _ _ _ | exact Kd.N_nil _ _ _ _ _ | exact Kd.V_nil _ _ _ _ _ | exact Kd.Q_nil _ _ _ _ _ | exact Kd.R_nil _ _ _ _ _, bel HB⟩
        rw [if_neg c28] at H
        exact absurd H (by simp)
       rw [if_neg c25] at H
       have c25b0 : (x5_22 == 0) = false := beq_eq_false_iff_ne.mpr c25
       have c25b1 : (x5_22 != 0) = true := bne_iff_ne.mpr c25
       simp only [Option.some.injEq, Prod.mk.injEq] at H
       obtain ⟨rfl, rfl, rfl, rfl, rfl, rfl, rfl, rfl, rfl, rfl, rfl⟩ := H
       have hnb49 := NB340_338.out
       have hnc49 := NB338_340.out
       have hnb50 := NB340_339.out
       have hnc50 := NB339_340.out
       have hz51 := cl11 BK340
       go_wp2
       refine bodyPost_ret (results_cell_row rfl _ _ gb340 35 #[.int .i64 x5_22, .int .i64 0, .bool false, .int .i64 0, .int .i64 0, .slice none 0 0, .int .i64 0, .int .i64 0, .int .i64 0, .int .i64 0, .slice none 0 0] (0, 0) _ rfl (mP BK340) Try.underlying35 rfl (by kernel_rfl)) rfl ?_
       exact ⟨_, _, by first | rfl | (simp [errW_none, errW_some] <;> rfl) | (simp [*, errW_none, errW_some] <;> rfl), by first | exact Kd.S_nil _ _ _ _ _ | exact Kd.N_nil _ _ _ _ _ | exact Kd.V_nil _ _ _ _ _ | exact Kd.Q_nil _ _ _ _ _ | exact Kd.R_nil _ _ _ _ _, by first | exact Kd.S_nil _ _ _ _ _ | exact Kd.N_nil _ _ _ _ _ | exact Kd.V_nil _ _ _ _ _ | exact Kd.Q_nil _ _ _ _ _ | exact Kd.R_nil _ _ _ _ _, bel HB⟩

end Go.Proofs.Ytgfoifkkffffgab.PFnExactAddEvent
