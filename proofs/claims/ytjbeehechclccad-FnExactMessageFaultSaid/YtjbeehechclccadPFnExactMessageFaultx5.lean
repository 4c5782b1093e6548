-- Laid by a turned copy of the printer (wip/tools/patch_print.py)
import Derived.Test.YtjbeehechclccadPFnExactMessageFaultx0
import Derived.Test.YtjbeehechclccadPFnExactMessageFaultx1
import Derived.Test.YtjbeehechclccadPFnExactMessageFaultx3
import Derived.Test.YtjbeehechclccadPFnExactMessageFaultx4
namespace Go.Proofs.Ytjbeehechclccad.PFnExactMessageFault
open Go.RowKit Go.Proofs.YtjbeehechclccadW.PrintWords Go.Proofs.YtjbeehechclccadW.PrintLast Go.Proofs.YtjbeehechclccadW.PrintMore
attribute [local go_sem] max2_int min2_int max_two min_two max_three min_three max_four min_four   -- for this text's walks alone
set_option linter.unusedVariables false
set_option linter.unusedSimpArgs false

/-! ### spec_MessageFault: function 41 -/
mutual
def spec_MessageFault.j0 : Nat → Bool → Int → Int → Int → Int → Int → Int → List (S139) → Bool → Int → List Int → Int → Int → Int → List (S139) → Option (Int)
  | 0, _, _, _, _, _, _, _, _, _, _, _, _, _, _, _ => none
  | k + 1, x27, x138000, x138001, x138002, x138003, x138004, x138005, x138006, x138007, x138008, x138009, x138010, x138011, x138012, x138013 => if x27 = true then (some 3) else (if x138000 = 3 then ((spec_l1In.f x138004 1 6).bind fun t142 => (if t142 = true then ((spec_l1In.f x138005 0 20).bind fun t143 => (spec_MessageFault.j1 k (!t143) x138000 x138001 x138002 x138003 x138004 x138005 x138006 x138007 x138008 x138009 x138010 x138011 x138012 x138013)) else (spec_MessageFault.j1 k true x138000 x138001 x138002 x138003 x138004 x138005 x138006 x138007 x138008 x138009 x138010 x138011 x138012 x138013))) else (spec_MessageFault.j1 k false x138000 x138001 x138002 x138003 x138004 x138005 x138006 x138007 x138008 x138009 x138010 x138011 x138012 x138013))
def spec_MessageFault.j1 : Nat → Bool → Int → Int → Int → Int → Int → Int → List (S139) → Bool → Int → List Int → Int → Int → Int → List (S139) → Option (Int)
  | 0, _, _, _, _, _, _, _, _, _, _, _, _, _, _, _ => none
  | k + 1, x42, x138000, x138001, x138002, x138003, x138004, x138005, x138006, x138007, x138008, x138009, x138010, x138011, x138012, x138013 => if x42 = true then (some 3) else ((spec_l4Bare.f k x138000 x138001 x138002 x138003 x138004 x138005 x138006 x138007 x138008 x138009 x138010 x138011 x138012 x138013).bind fun t144 => (if t144 = true then (if x138000 = 2 then ((spec_UpdateFault.f k x138006 x138007 x138008 x138009 x138010 x138011 x138012 x138013).bind fun t145 => (some t145)) else (some 0)) else (some 1)))
end
def spec_MessageFault.f (k : Nat) (a0_0 : Int) (a0_1 : Int) (a0_2 : Int) (a0_3 : Int) (a0_4 : Int) (a0_5 : Int) (l0_6 : List (S139)) (a0_7 : Bool) (a0_8 : Int) (l0_9 : List Int) (a0_10 : Int) (a0_11 : Int) (a0_12 : Int) (l0_13 : List (S139)) : Option (Int) := (spec_l1In.f a0_0 1 4).bind fun t138 => (if t138 = true then (if a0_0 = 1 then ((spec_l1In.f a0_1 1 65535).bind fun t139 => (if t139 = true then ((spec_l4Hold.f a0_2).bind fun t140 => (if t140 = true then ((spec_l1In.f a0_3 1 65535).bind fun t141 => (spec_MessageFault.j0 k (!t141) a0_0 a0_1 a0_2 a0_3 a0_4 a0_5 l0_6 a0_7 a0_8 l0_9 a0_10 a0_11 a0_12 l0_13)) else (spec_MessageFault.j0 k true a0_0 a0_1 a0_2 a0_3 a0_4 a0_5 l0_6 a0_7 a0_8 l0_9 a0_10 a0_11 a0_12 l0_13))) else (spec_MessageFault.j0 k true a0_0 a0_1 a0_2 a0_3 a0_4 a0_5 l0_6 a0_7 a0_8 l0_9 a0_10 a0_11 a0_12 l0_13))) else (spec_MessageFault.j0 k false a0_0 a0_1 a0_2 a0_3 a0_4 a0_5 l0_6 a0_7 a0_8 l0_9 a0_10 a0_11 a0_12 l0_13)) else (some 1))
theorem spec_MessageFault.mono_l : ∀ k, (∀ y0 y1 y2 y3 y4 y5 y6 y7 y8 y9 y10 y11 y12 y13 y14, LeO (spec_MessageFault.j0 k y0 y1 y2 y3 y4 y5 y6 y7 y8 y9 y10 y11 y12 y13 y14) (spec_MessageFault.j0 (k + 1) y0 y1 y2 y3 y4 y5 y6 y7 y8 y9 y10 y11 y12 y13 y14)) ∧ (∀ y0 y1 y2 y3 y4 y5 y6 y7 y8 y9 y10 y11 y12 y13 y14, LeO (spec_MessageFault.j1 k y0 y1 y2 y3 y4 y5 y6 y7 y8 y9 y10 y11 y12 y13 y14) (spec_MessageFault.j1 (k + 1) y0 y1 y2 y3 y4 y5 y6 y7 y8 y9 y10 y11 y12 y13 y14))
  | 0 => ⟨fun _ _ _ _ _ _ _ _ _ _ _ _ _ _ _ r h => by simp [spec_MessageFault.j0] at h, fun _ _ _ _ _ _ _ _ _ _ _ _ _ _ _ r h => by simp [spec_MessageFault.j1] at h⟩
  | k + 1 => by
    obtain ⟨ih0, ih1⟩ := spec_MessageFault.mono_l k
    refine ⟨?_, ?_⟩
    · intro y0 y1 y2 y3 y4 y5 y6 y7 y8 y9 y10 y11 y12 y13 y14
      unfold spec_MessageFault.j0
      repeat' first
      | (with_reducible exact ih0 _ _ _ _ _ _ _ _ _ _ _ _ _ _ _)
      | (with_reducible exact ih1 _ _ _ _ _ _ _ _ _ _ _ _ _ _ _)
      | (with_reducible exact spec_UpdateFault.mono _ _ _ _ _ _ _ _ _)
      | (with_reducible exact spec_l4Bare.mono _ _ _ _ _ _ _ _ _ _ _ _ _ _ _)
      | (with_reducible exact LeO.refl _)
      | (with_reducible exact LeO.none _)
      | (with_reducible refine LeO.ite ?_ ?_)
      | (with_reducible refine LeO.bind ?_ (fun _ => ?_))
      | exact ih0 _ _ _ _ _ _ _ _ _ _ _ _ _ _ _
      | exact ih1 _ _ _ _ _ _ _ _ _ _ _ _ _ _ _
      | exact spec_UpdateFault.mono _ _ _ _ _ _ _ _ _
      | exact spec_l4Bare.mono _ _ _ _ _ _ _ _ _ _ _ _ _ _ _
      | exact LeO.none _
      | refine LeO.ite ?_ ?_
      | refine LeO.bind ?_ (fun _ => ?_)
    · intro y0 y1 y2 y3 y4 y5 y6 y7 y8 y9 y10 y11 y12 y13 y14
      unfold spec_MessageFault.j1
      repeat' first
      | (with_reducible exact ih0 _ _ _ _ _ _ _ _ _ _ _ _ _ _ _)
      | (with_reducible exact ih1 _ _ _ _ _ _ _ _ _ _ _ _ _ _ _)
      | (with_reducible exact spec_UpdateFault.mono _ _ _ _ _ _ _ _ _)
      | (with_reducible exact spec_l4Bare.mono _ _ _ _ _ _ _ _ _ _ _ _ _ _ _)
      | (with_reducible exact LeO.refl _)
      | (with_reducible exact LeO.none _)
      | (with_reducible refine LeO.ite ?_ ?_)
      | (with_reducible refine LeO.bind ?_ (fun _ => ?_))
      | exact ih0 _ _ _ _ _ _ _ _ _ _ _ _ _ _ _
      | exact ih1 _ _ _ _ _ _ _ _ _ _ _ _ _ _ _
      | exact spec_UpdateFault.mono _ _ _ _ _ _ _ _ _
      | exact spec_l4Bare.mono _ _ _ _ _ _ _ _ _ _ _ _ _ _ _
      | exact LeO.none _
      | refine LeO.ite ?_ ?_
      | refine LeO.bind ?_ (fun _ => ?_)
theorem spec_MessageFault.mono : ∀ a0 a1 a2 a3 a4 a5 a6 a7 a8 a9 a10 a11 a12 a13 k, LeO (spec_MessageFault.f k a0 a1 a2 a3 a4 a5 a6 a7 a8 a9 a10 a11 a12 a13) (spec_MessageFault.f (k + 1) a0 a1 a2 a3 a4 a5 a6 a7 a8 a9 a10 a11 a12 a13) := by
  intro a0 a1 a2 a3 a4 a5 a6 a7 a8 a9 a10 a11 a12 a13 k
  obtain ⟨ih0, ih1⟩ := spec_MessageFault.mono_l k
  unfold spec_MessageFault.f
  repeat' first
      | (with_reducible exact ih0 _ _ _ _ _ _ _ _ _ _ _ _ _ _ _)
      | (with_reducible exact ih1 _ _ _ _ _ _ _ _ _ _ _ _ _ _ _)
      | (with_reducible exact spec_UpdateFault.mono _ _ _ _ _ _ _ _ _)
      | (with_reducible exact spec_l4Bare.mono _ _ _ _ _ _ _ _ _ _ _ _ _ _ _)
      | (with_reducible exact LeO.refl _)
      | (with_reducible exact LeO.none _)
      | (with_reducible refine LeO.ite ?_ ?_)
      | (with_reducible refine LeO.bind ?_ (fun _ => ?_))
      | exact ih0 _ _ _ _ _ _ _ _ _ _ _ _ _ _ _
      | exact ih1 _ _ _ _ _ _ _ _ _ _ _ _ _ _ _
      | exact spec_UpdateFault.mono _ _ _ _ _ _ _ _ _
      | exact spec_l4Bare.mono _ _ _ _ _ _ _ _ _ _ _ _ _ _ _
      | exact LeO.none _
      | refine LeO.ite ?_ ?_
      | refine LeO.bind ?_ (fun _ => ?_)
set_option maxHeartbeats 8000000 in
set_option maxRecDepth 100000 in
theorem spec_MessageFault.calls (k : Nat) (a0_0 : Int) (a0_1 : Int) (a0_2 : Int) (a0_3 : Int) (a0_4 : Int) (a0_5 : Int) (A0_6 : Option Addr) (c0_6 : Nat) (l0_6 : List (S139)) (a0_7 : Bool) (a0_8 : Int) (A0_9 : Option Addr) (c0_9 : Nat) (l0_9 : List Int) (a0_10 : Int) (a0_11 : Int) (a0_12 : Int) (A0_13 : Option Addr) (c0_13 : Nat) (l0_13 : List (S139)) (r : Int) (w : World) (hr0_6 : Kd.C k139 w A0_6 l0_6.length l0_6) (hc0_6 : l0_6.length ≤ c0_6) (hr0_9 : Kd.C (Kd.int .i64) w A0_9 l0_9.length l0_9) (hc0_9 : l0_9.length ≤ c0_9) (hr0_13 : Kd.C k139 w A0_13 l0_13.length l0_13) (hc0_13 : l0_13.length ≤ c0_13) (h : spec_MessageFault.f k a0_0 a0_1 a0_2 a0_3 a0_4 a0_5 l0_6 a0_7 a0_8 l0_9 a0_10 a0_11 a0_12 l0_13 = some r) :
    Calls Try.prog 41 #[.agg #[.int .i64 a0_0, .int .i64 a0_1, .int .i64 a0_2, .int .i64 a0_3, .int .i64 a0_4, .int .i64 a0_5, .slice A0_6 l0_6.length c0_6, .bool a0_7, .int .i64 a0_8, .slice A0_9 l0_9.length c0_9, .int .i64 a0_10, .int .i64 a0_11, .int .i64 a0_12, .slice A0_13 l0_13.length c0_13]] w fun e w' => e = .returned (.int .i64 r) ∧ Below w.heap.size w w' := by
  have hu84 := Try.underlying84
  have hu75 := Try.underlying75
  have HR0_6 := Aside0.mk hr0_6
  have HC0_6 := Aside0.mk hc0_6
  clear hr0_6 hc0_6
  have HR0_9 := Aside0.mk hr0_9
  have HC0_9 := Aside0.mk hc0_9
  clear hr0_9 hc0_9
  have HR0_13 := Aside0.mk hr0_13
  have HC0_13 := Aside0.mk hc0_13
  clear hr0_13 hc0_13
  have HB := Aside0.mk (Below.refl w.heap.size w)
  have H : ((spec_l1In.f a0_0 1 4).bind fun t138 => (if t138 = true then (if a0_0 = 1 then ((spec_l1In.f a0_1 1 65535).bind fun t139 => (if t139 = true then ((spec_l4Hold.f a0_2).bind fun t140 => (if t140 = true then ((spec_l1In.f a0_3 1 65535).bind fun t141 => (spec_MessageFault.j0 k (!t141) a0_0 a0_1 a0_2 a0_3 a0_4 a0_5 l0_6 a0_7 a0_8 l0_9 a0_10 a0_11 a0_12 l0_13)) else (spec_MessageFault.j0 k true a0_0 a0_1 a0_2 a0_3 a0_4 a0_5 l0_6 a0_7 a0_8 l0_9 a0_10 a0_11 a0_12 l0_13))) else (spec_MessageFault.j0 k true a0_0 a0_1 a0_2 a0_3 a0_4 a0_5 l0_6 a0_7 a0_8 l0_9 a0_10 a0_11 a0_12 l0_13))) else (spec_MessageFault.j0 k false a0_0 a0_1 a0_2 a0_3 a0_4 a0_5 l0_6 a0_7 a0_8 l0_9 a0_10 a0_11 a0_12 l0_13)) else (some 1))) = some r := h
  clear h
  replace H := Option.bind_eq_some_iff.mp H
  obtain ⟨t138, A20, H⟩ := H
  replace H : (if t138 = true then (if a0_0 = 1 then ((spec_l1In.f a0_1 1 65535).bind fun t139 => (if t139 = true then ((spec_l4Hold.f a0_2).bind fun t140 => (if t140 = true then ((spec_l1In.f a0_3 1 65535).bind fun t141 => (spec_MessageFault.j0 k (!t141) a0_0 a0_1 a0_2 a0_3 a0_4 a0_5 l0_6 a0_7 a0_8 l0_9 a0_10 a0_11 a0_12 l0_13)) else (spec_MessageFault.j0 k true a0_0 a0_1 a0_2 a0_3 a0_4 a0_5 l0_6 a0_7 a0_8 l0_9 a0_10 a0_11 a0_12 l0_13))) else (spec_MessageFault.j0 k true a0_0 a0_1 a0_2 a0_3 a0_4 a0_5 l0_6 a0_7 a0_8 l0_9 a0_10 a0_11 a0_12 l0_13))) else (spec_MessageFault.j0 k false a0_0 a0_1 a0_2 a0_3 a0_4 a0_5 l0_6 a0_7 a0_8 l0_9 a0_10 a0_11 a0_12 l0_13)) else (some 1)) = some r := H
  have A2 := Aside0.mk A20
  clear A20
  by_cases c3 : t138 = true
  · subst c3
    have H1 : (if a0_0 = 1 then ((spec_l1In.f a0_1 1 65535).bind fun t139 => (if t139 = true then ((spec_l4Hold.f a0_2).bind fun t140 => (if t140 = true then ((spec_l1In.f a0_3 1 65535).bind fun t141 => (spec_MessageFault.j0 k (!t141) a0_0 a0_1 a0_2 a0_3 a0_4 a0_5 l0_6 a0_7 a0_8 l0_9 a0_10 a0_11 a0_12 l0_13)) else (spec_MessageFault.j0 k true a0_0 a0_1 a0_2 a0_3 a0_4 a0_5 l0_6 a0_7 a0_8 l0_9 a0_10 a0_11 a0_12 l0_13))) else (spec_MessageFault.j0 k true a0_0 a0_1 a0_2 a0_3 a0_4 a0_5 l0_6 a0_7 a0_8 l0_9 a0_10 a0_11 a0_12 l0_13))) else (spec_MessageFault.j0 k false a0_0 a0_1 a0_2 a0_3 a0_4 a0_5 l0_6 a0_7 a0_8 l0_9 a0_10 a0_11 a0_12 l0_13)) = some r := by rw [if_pos rfl] at H; first | done | exact H
    clear H
    have H := H1
    clear H1
    have HC4 := Aside0.mk H
    clear H
    go_enter Try.func41, Try.ntmps41
    go_upto_region 3 with (first | ((with_reducible refine gate_dst (N := 1) rfl ?_); refine box_event ?hg (N := 1) ?hd (cs := #[.int .i64 a0_0, .int .i64 a0_1, .int .i64 a0_2, .int .i64 a0_3, .int .i64 a0_4, .int .i64 a0_5, .slice A0_6 l0_6.length c0_6, .bool a0_7, .int .i64 a0_8, .slice A0_9 l0_9.length c0_9, .int .i64 a0_10, .int .i64 a0_11, .int .i64 a0_12, .slice A0_13 l0_13.length c0_13]) (t := 84) ?hr ?_; (case hd => rfl); (case hg => rfl); (case hr => first | (go_simp; done) | (go_simp; rfl)); intro gb137 hg w5 hbox hb; have n0_ := Aside0.mk (below_step (by repeat (first | (with_reducible first | exact HB.out | apply below_alloc | apply pw_below_drewN | apply below_drew1) | exact HB.out)) hb); have n1_ := Aside0.mk (hbox); have n2_ := Aside0.mk ((by rw [hg]; exact (below_size (by repeat (first | (with_reducible first | exact HB.out | apply below_alloc | apply pw_below_drewN | apply below_drew1) | exact HB.out))) : w.heap.size ≤ gb137)); have n3_ := Aside0.mk ((by rw [hg]; exact (below_size (by repeat (first | (with_reducible first | exact HB.out | apply below_alloc | apply pw_below_drewN | apply below_drew1) | exact HB.out))) : w.heap.size ≤ gb137)); clear HB; have HB := n0_; have BK137 := n1_; have GW137 := n2_; have GE137 := n3_; clear n0_ n1_ n2_ n3_; clear hb hbox hg; have hcz6_0 : w5.cell? ⟨gb137, 0, none⟩ = some (.int .i64 a0_0) := (blk_cell BK137.out 0).trans rfl; have hcz6_1 : w5.cell? ⟨gb137, 1, none⟩ = some (.int .i64 a0_1) := (blk_cell BK137.out 1).trans rfl; have hcz6_2 : w5.cell? ⟨gb137, 2, none⟩ = some (.int .i64 a0_2) := (blk_cell BK137.out 2).trans rfl; have hcz6_3 : w5.cell? ⟨gb137, 3, none⟩ = some (.int .i64 a0_3) := (blk_cell BK137.out 3).trans rfl; have hcz6_4 : w5.cell? ⟨gb137, 4, none⟩ = some (.int .i64 a0_4) := (blk_cell BK137.out 4).trans rfl; have hcz6_5 : w5.cell? ⟨gb137, 5, none⟩ = some (.int .i64 a0_5) := (blk_cell BK137.out 5).trans rfl; have hcz6_6 : w5.cell? ⟨gb137, 6, none⟩ = some (.slice A0_6 l0_6.length c0_6) := (blk_cell BK137.out 6).trans rfl; have hcz6_7 : w5.cell? ⟨gb137, 7, none⟩ = some (.bool a0_7) := (blk_cell BK137.out 7).trans rfl; have hcz6_8 : w5.cell? ⟨gb137, 8, none⟩ = some (.int .i64 a0_8) := (blk_cell BK137.out 8).trans rfl; have hcz6_9 : w5.cell? ⟨gb137, 9, none⟩ = some (.slice A0_9 l0_9.length c0_9) := (blk_cell BK137.out 9).trans rfl; have hcz6_10 : w5.cell? ⟨gb137, 10, none⟩ = some (.int .i64 a0_10) := (blk_cell BK137.out 10).trans rfl; have hcz6_11 : w5.cell? ⟨gb137, 11, none⟩ = some (.int .i64 a0_11) := (blk_cell BK137.out 11).trans rfl; have hcz6_12 : w5.cell? ⟨gb137, 12, none⟩ = some (.int .i64 a0_12) := (blk_cell BK137.out 12).trans rfl; have hcz6_13 : w5.cell? ⟨gb137, 13, none⟩ = some (.slice A0_13 l0_13.length c0_13) := (blk_cell BK137.out 13).trans rfl; have hfz6_0 := blk_frozen BK137.out 0; have hfz6_1 := blk_frozen BK137.out 1; have hfz6_2 := blk_frozen BK137.out 2; have hfz6_3 := blk_frozen BK137.out 3; have hfz6_4 := blk_frozen BK137.out 4; have hfz6_5 := blk_frozen BK137.out 5; have hfz6_6 := blk_frozen BK137.out 6; have hfz6_7 := blk_frozen BK137.out 7; have hfz6_8 := blk_frozen BK137.out 8; have hfz6_9 := blk_frozen BK137.out 9; have hfz6_10 := blk_frozen BK137.out 10; have hfz6_11 := blk_frozen BK137.out 11; have hfz6_12 := blk_frozen BK137.out 12; have hfz6_13 := blk_frozen BK137.out 13) | ((with_reducible refine gate_callee (f := 75) rfl ?_); refine goesL_ (some 5) rfl rfl Try.func75 (by kernel_rfl) rfl #[.int .i64 a0_0, .int .i64 1, .int .i64 4] rfl (by (try simp only [List.map_toArray, List.map_cons, List.map_nil]); first | done | rfl | (simp only [List.length_drop, List.length_take]; rfl)) ?_; (with_reducible refine (spec_l1In.calls a0_0 1 4 true _ A2.out).mono ?_); rintro e w' ⟨rfl, ⟨nd, rfl⟩⟩; refine ⟨_, rfl, ?_⟩))
    (try simp only [Act.put, List.setIfInBounds_toArray, List.set_cons_zero, List.set_cons_succ])
    go_cut [27] (fun v27 wc => ∃ (kq : Nat) (x27_3 : Bool), v27 = .bool x27_3 ∧ Aside0 (spec_MessageFault.j0 kq x27_3 a0_0 a0_1 a0_2 a0_3 a0_4 a0_5 l0_6 a0_7 a0_8 l0_9 a0_10 a0_11 a0_12 l0_13 = some r) ∧ Aside0 (kq ≤ k) ∧ Aside0 (wc.heap[gb137]? = some (.cells #[.int .i64 a0_0, .int .i64 a0_1, .int .i64 a0_2, .int .i64 a0_3, .int .i64 a0_4, .int .i64 a0_5, (.slice A0_6 l0_6.length c0_6), .bool a0_7, .int .i64 a0_8, (.slice A0_9 l0_9.length c0_9), .int .i64 a0_10, .int .i64 a0_11, .int .i64 a0_12, (.slice A0_13 l0_13.length c0_13)] 84 (0, 0))) ∧ Aside0 (Below w.heap.size w wc))
    case first =>
      have H := HC4.out
      clear HC4
      by_cases c7 : a0_0 = 1
      · rw [if_pos c7] at H
        have c7b0 : (a0_0 == 1) = true := beq_iff_eq.mpr c7
        have c7b1 : (a0_0 != 1) = false := bne_eq_false_iff_eq.mpr c7
        clear c7
        (first | rw [c7b0] | (simp only [i64_w, i32_w]; rw [c7b0]) | skip)
        replace H := Option.bind_eq_some_iff.mp H
        obtain ⟨t139, A80, H⟩ := H
        replace H : (if t139 = true then ((spec_l4Hold.f a0_2).bind fun t140 => (if t140 = true then ((spec_l1In.f a0_3 1 65535).bind fun t141 => (spec_MessageFault.j0 k (!t141) a0_0 a0_1 a0_2 a0_3 a0_4 a0_5 l0_6 a0_7 a0_8 l0_9 a0_10 a0_11 a0_12 l0_13)) else (spec_MessageFault.j0 k true a0_0 a0_1 a0_2 a0_3 a0_4 a0_5 l0_6 a0_7 a0_8 l0_9 a0_10 a0_11 a0_12 l0_13))) else (spec_MessageFault.j0 k true a0_0 a0_1 a0_2 a0_3 a0_4 a0_5 l0_6 a0_7 a0_8 l0_9 a0_10 a0_11 a0_12 l0_13)) = some r := H
        have A8 := Aside0.mk A80
        clear A80
        by_cases c9 : t139 = true
        · subst c9
          have H1 : ((spec_l4Hold.f a0_2).bind fun t140 => (if t140 = true then ((spec_l1In.f a0_3 1 65535).bind fun t141 => (spec_MessageFault.j0 k (!t141) a0_0 a0_1 a0_2 a0_3 a0_4 a0_5 l0_6 a0_7 a0_8 l0_9 a0_10 a0_11 a0_12 l0_13)) else (spec_MessageFault.j0 k true a0_0 a0_1 a0_2 a0_3 a0_4 a0_5 l0_6 a0_7 a0_8 l0_9 a0_10 a0_11 a0_12 l0_13))) = some r := by rw [if_pos rfl] at H; first | done | exact H
          clear H
          have H := H1
          clear H1
          replace H := Option.bind_eq_some_iff.mp H
          obtain ⟨t140, A100, H⟩ := H
          replace H : (if t140 = true then ((spec_l1In.f a0_3 1 65535).bind fun t141 => (spec_MessageFault.j0 k (!t141) a0_0 a0_1 a0_2 a0_3 a0_4 a0_5 l0_6 a0_7 a0_8 l0_9 a0_10 a0_11 a0_12 l0_13)) else (spec_MessageFault.j0 k true a0_0 a0_1 a0_2 a0_3 a0_4 a0_5 l0_6 a0_7 a0_8 l0_9 a0_10 a0_11 a0_12 l0_13)) = some r := H
          have A10 := Aside0.mk A100
          clear A100
          by_cases c11 : t140 = true
          · subst c11
            have H1 : ((spec_l1In.f a0_3 1 65535).bind fun t141 => (spec_MessageFault.j0 k (!t141) a0_0 a0_1 a0_2 a0_3 a0_4 a0_5 l0_6 a0_7 a0_8 l0_9 a0_10 a0_11 a0_12 l0_13)) = some r := by rw [if_pos rfl] at H; first | done | exact H
            clear H
            have H := H1
            clear H1
            replace H := Option.bind_eq_some_iff.mp H
            obtain ⟨t141, A120, H⟩ := H
            replace H : (spec_MessageFault.j0 k (!t141) a0_0 a0_1 a0_2 a0_3 a0_4 a0_5 l0_6 a0_7 a0_8 l0_9 a0_10 a0_11 a0_12 l0_13) = some r := H
            have A12 := Aside0.mk A120
            clear A120
            have H' := Aside0.mk H
            clear H
            have hcz13_0 : w5.cell? ⟨gb137, 0, none⟩ = some (.int .i64 a0_0) := (blk_cell BK137.out 0).trans rfl
            have hcz13_1 : w5.cell? ⟨gb137, 1, none⟩ = some (.int .i64 a0_1) := (blk_cell BK137.out 1).trans rfl
            have hcz13_2 : w5.cell? ⟨gb137, 2, none⟩ = some (.int .i64 a0_2) := (blk_cell BK137.out 2).trans rfl
            have hcz13_3 : w5.cell? ⟨gb137, 3, none⟩ = some (.int .i64 a0_3) := (blk_cell BK137.out 3).trans rfl
            have hcz13_4 : w5.cell? ⟨gb137, 4, none⟩ = some (.int .i64 a0_4) := (blk_cell BK137.out 4).trans rfl
            have hcz13_5 : w5.cell? ⟨gb137, 5, none⟩ = some (.int .i64 a0_5) := (blk_cell BK137.out 5).trans rfl
            have hcz13_6 : w5.cell? ⟨gb137, 6, none⟩ = some (.slice A0_6 l0_6.length c0_6) := (blk_cell BK137.out 6).trans rfl
            have hcz13_7 : w5.cell? ⟨gb137, 7, none⟩ = some (.bool a0_7) := (blk_cell BK137.out 7).trans rfl
            have hcz13_8 : w5.cell? ⟨gb137, 8, none⟩ = some (.int .i64 a0_8) := (blk_cell BK137.out 8).trans rfl
            have hcz13_9 : w5.cell? ⟨gb137, 9, none⟩ = some (.slice A0_9 l0_9.length c0_9) := (blk_cell BK137.out 9).trans rfl
            have hcz13_10 : w5.cell? ⟨gb137, 10, none⟩ = some (.int .i64 a0_10) := (blk_cell BK137.out 10).trans rfl
            have hcz13_11 : w5.cell? ⟨gb137, 11, none⟩ = some (.int .i64 a0_11) := (blk_cell BK137.out 11).trans rfl
            have hcz13_12 : w5.cell? ⟨gb137, 12, none⟩ = some (.int .i64 a0_12) := (blk_cell BK137.out 12).trans rfl
            have hcz13_13 : w5.cell? ⟨gb137, 13, none⟩ = some (.slice A0_13 l0_13.length c0_13) := (blk_cell BK137.out 13).trans rfl
            have hfz13_0 := blk_frozen BK137.out 0
            have hfz13_1 := blk_frozen BK137.out 1
            have hfz13_2 := blk_frozen BK137.out 2
            have hfz13_3 := blk_frozen BK137.out 3
            have hfz13_4 := blk_frozen BK137.out 4
            have hfz13_5 := blk_frozen BK137.out 5
            have hfz13_6 := blk_frozen BK137.out 6
            have hfz13_7 := blk_frozen BK137.out 7
            have hfz13_8 := blk_frozen BK137.out 8
            have hfz13_9 := blk_frozen BK137.out 9
            have hfz13_10 := blk_frozen BK137.out 10
            have hfz13_11 := blk_frozen BK137.out 11
            have hfz13_12 := blk_frozen BK137.out 12
            have hfz13_13 := blk_frozen BK137.out 13
            go_wp2_with (first | (go_at_call 75; (with_reducible refine (spec_l1In.calls a0_1 1 65535 true _ A8.out).mono ?_); rintro e w' ⟨rfl, ⟨nd, rfl⟩⟩) | (go_at_call 103; (with_reducible refine (spec_l4Hold.calls a0_2 true _ A10.out).mono ?_); rintro e w' ⟨rfl, ⟨nd, rfl⟩⟩) | (go_at_call 75; (with_reducible refine (spec_l1In.calls a0_3 1 65535 t141 _ A12.out).mono ?_); rintro e w' ⟨rfl, ⟨nd, rfl⟩⟩))
            go_meet
            case rel => exact ⟨_, (!t141), (by first | rfl | (simp; done) | (simp [*]; done)), H', ⟨by first | omega | exact Nat.le_refl _⟩, ⟨by (with_reducible repeat (first | refine blk_drewN ?_ _ | refine blk_drew ?_ | refine blk_alloc ?_ _)); exact BK137.out⟩, ⟨by repeat (first | (with_reducible first | exact HB.out | apply below_alloc | apply pw_below_drewN | apply below_drew1 | refine below_set ?_ GE137.out) | exact HB.out)⟩⟩
          · replace c11 := Bool.eq_false_iff.mpr c11
            subst c11
            have H1 : (spec_MessageFault.j0 k true a0_0 a0_1 a0_2 a0_3 a0_4 a0_5 l0_6 a0_7 a0_8 l0_9 a0_10 a0_11 a0_12 l0_13) = some r := by rw [if_neg (show ¬ (false = true) by decide)] at H; first | done | exact H
            clear H
            have H := H1
            clear H1
            have H' := Aside0.mk H
            clear H
            have hcz14_0 : w5.cell? ⟨gb137, 0, none⟩ = some (.int .i64 a0_0) := (blk_cell BK137.out 0).trans rfl
            have hcz14_1 : w5.cell? ⟨gb137, 1, none⟩ = some (.int .i64 a0_1) := (blk_cell BK137.out 1).trans rfl
            have hcz14_2 : w5.cell? ⟨gb137, 2, none⟩ = some (.int .i64 a0_2) := (blk_cell BK137.out 2).trans rfl
            have hcz14_3 : w5.cell? ⟨gb137, 3, none⟩ = some (.int .i64 a0_3) := (blk_cell BK137.out 3).trans rfl
            have hcz14_4 : w5.cell? ⟨gb137, 4, none⟩ = some (.int .i64 a0_4) := (blk_cell BK137.out 4).trans rfl
            have hcz14_5 : w5.cell? ⟨gb137, 5, none⟩ = some (.int .i64 a0_5) := (blk_cell BK137.out 5).trans rfl
            have hcz14_6 : w5.cell? ⟨gb137, 6, none⟩ = some (.slice A0_6 l0_6.length c0_6) := (blk_cell BK137.out 6).trans rfl
            have hcz14_7 : w5.cell? ⟨gb137, 7, none⟩ = some (.bool a0_7) := (blk_cell BK137.out 7).trans rfl
            have hcz14_8 : w5.cell? ⟨gb137, 8, none⟩ = some (.int .i64 a0_8) := (blk_cell BK137.out 8).trans rfl
            have hcz14_9 : w5.cell? ⟨gb137, 9, none⟩ = some (.slice A0_9 l0_9.length c0_9) := (blk_cell BK137.out 9).trans rfl
            have hcz14_10 : w5.cell? ⟨gb137, 10, none⟩ = some (.int .i64 a0_10) := (blk_cell BK137.out 10).trans rfl
            have hcz14_11 : w5.cell? ⟨gb137, 11, none⟩ = some (.int .i64 a0_11) := (blk_cell BK137.out 11).trans rfl
            have hcz14_12 : w5.cell? ⟨gb137, 12, none⟩ = some (.int .i64 a0_12) := (blk_cell BK137.out 12).trans rfl
            have hcz14_13 : w5.cell? ⟨gb137, 13, none⟩ = some (.slice A0_13 l0_13.length c0_13) := (blk_cell BK137.out 13).trans rfl
            have hfz14_0 := blk_frozen BK137.out 0
            have hfz14_1 := blk_frozen BK137.out 1
            have hfz14_2 := blk_frozen BK137.out 2
            have hfz14_3 := blk_frozen BK137.out 3
            have hfz14_4 := blk_frozen BK137.out 4
            have hfz14_5 := blk_frozen BK137.out 5
            have hfz14_6 := blk_frozen BK137.out 6
            have hfz14_7 := blk_frozen BK137.out 7
            have hfz14_8 := blk_frozen BK137.out 8
            have hfz14_9 := blk_frozen BK137.out 9
            have hfz14_10 := blk_frozen BK137.out 10
            have hfz14_11 := blk_frozen BK137.out 11
            have hfz14_12 := blk_frozen BK137.out 12
            have hfz14_13 := blk_frozen BK137.out 13
            go_wp2_with (first | (go_at_call 75; (with_reducible refine (spec_l1In.calls a0_1 1 65535 true _ A8.out).mono ?_); rintro e w' ⟨rfl, ⟨nd, rfl⟩⟩) | (go_at_call 103; (with_reducible refine (spec_l4Hold.calls a0_2 false _ A10.out).mono ?_); rintro e w' ⟨rfl, ⟨nd, rfl⟩⟩))
            go_meet
            case rel => exact ⟨_, (true), (by first | rfl | (simp; done) | (simp [*]; done)), H', ⟨by first | omega | exact Nat.le_refl _⟩, ⟨by (with_reducible repeat (first | refine blk_drewN ?_ _ | refine blk_drew ?_ | refine blk_alloc ?_ _)); exact BK137.out⟩, ⟨by repeat (first | (with_reducible first | exact HB.out | apply below_alloc | apply pw_below_drewN | apply below_drew1 | refine below_set ?_ GE137.out) | exact HB.out)⟩⟩
        · replace c9 := Bool.eq_false_iff.mpr c9
          subst c9
          have H1 : (spec_MessageFault.j0 k true a0_0 a0_1 a0_2 a0_3 a0_4 a0_5 l0_6 a0_7 a0_8 l0_9 a0_10 a0_11 a0_12 l0_13) = some r := by rw [if_neg (show ¬ (false = true) by decide)] at H; first | done | exact H
          clear H
          have H := H1
          clear H1
          have H' := Aside0.mk H
          clear H
          have hcz15_0 : w5.cell? ⟨gb137, 0, none⟩ = some (.int .i64 a0_0) := (blk_cell BK137.out 0).trans rfl
          have hcz15_1 : w5.cell? ⟨gb137, 1, none⟩ = some (.int .i64 a0_1) := (blk_cell BK137.out 1).trans rfl
          have hcz15_2 : w5.cell? ⟨gb137, 2, none⟩ = some (.int .i64 a0_2) := (blk_cell BK137.out 2).trans rfl
          have hcz15_3 : w5.cell? ⟨gb137, 3, none⟩ = some (.int .i64 a0_3) := (blk_cell BK137.out 3).trans rfl
          have hcz15_4 : w5.cell? ⟨gb137, 4, none⟩ = some (.int .i64 a0_4) := (blk_cell BK137.out 4).trans rfl
          have hcz15_5 : w5.cell? ⟨gb137, 5, none⟩ = some (.int .i64 a0_5) := (blk_cell BK137.out 5).trans rfl
          have hcz15_6 : w5.cell? ⟨gb137, 6, none⟩ = some (.slice A0_6 l0_6.length c0_6) := (blk_cell BK137.out 6).trans rfl
          have hcz15_7 : w5.cell? ⟨gb137, 7, none⟩ = some (.bool a0_7) := (blk_cell BK137.out 7).trans rfl
          have hcz15_8 : w5.cell? ⟨gb137, 8, none⟩ = some (.int .i64 a0_8) := (blk_cell BK137.out 8).trans rfl
          have hcz15_9 : w5.cell? ⟨gb137, 9, none⟩ = some (.slice A0_9 l0_9.length c0_9) := (blk_cell BK137.out 9).trans rfl
          have hcz15_10 : w5.cell? ⟨gb137, 10, none⟩ = some (.int .i64 a0_10) := (blk_cell BK137.out 10).trans rfl
          have hcz15_11 : w5.cell? ⟨gb137, 11, none⟩ = some (.int .i64 a0_11) := (blk_cell BK137.out 11).trans rfl
          have hcz15_12 : w5.cell? ⟨gb137, 12, none⟩ = some (.int .i64 a0_12) := (blk_cell BK137.out 12).trans rfl
          have hcz15_13 : w5.cell? ⟨gb137, 13, none⟩ = some (.slice A0_13 l0_13.length c0_13) := (blk_cell BK137.out 13).trans rfl
          have hfz15_0 := blk_frozen BK137.out 0
          have hfz15_1 := blk_frozen BK137.out 1
          have hfz15_2 := blk_frozen BK137.out 2
          have hfz15_3 := blk_frozen BK137.out 3
          have hfz15_4 := blk_frozen BK137.out 4
          have hfz15_5 := blk_frozen BK137.out 5
          have hfz15_6 := blk_frozen BK137.out 6
          have hfz15_7 := blk_frozen BK137.out 7
          have hfz15_8 := blk_frozen BK137.out 8
          have hfz15_9 := blk_frozen BK137.out 9
          have hfz15_10 := blk_frozen BK137.out 10
          have hfz15_11 := blk_frozen BK137.out 11
          have hfz15_12 := blk_frozen BK137.out 12
          have hfz15_13 := blk_frozen BK137.out 13
          go_wp2_with (first | (go_at_call 75; (with_reducible refine (spec_l1In.calls a0_1 1 65535 false _ A8.out).mono ?_); rintro e w' ⟨rfl, ⟨nd, rfl⟩⟩))
          go_meet
          case rel => exact ⟨_, (true), (by first | rfl | (simp; done) | (simp [*]; done)), H', ⟨by first | omega | exact Nat.le_refl _⟩, ⟨by (with_reducible repeat (first | refine blk_drewN ?_ _ | refine blk_drew ?_ | refine blk_alloc ?_ _)); exact BK137.out⟩, ⟨by repeat (first | (with_reducible first | exact HB.out | apply below_alloc | apply pw_below_drewN | apply below_drew1 | refine below_set ?_ GE137.out) | exact HB.out)⟩⟩
      · rw [if_neg c7] at H
        have c7b0 : (a0_0 == 1) = false := beq_eq_false_iff_ne.mpr c7
        have c7b1 : (a0_0 != 1) = true := bne_iff_ne.mpr c7
        (first | rw [c7b0] | (simp only [i64_w, i32_w]; rw [c7b0]) | skip)
        have H' := Aside0.mk H
        clear H
        have hcz16_0 : w5.cell? ⟨gb137, 0, none⟩ = some (.int .i64 a0_0) := (blk_cell BK137.out 0).trans rfl
        have hcz16_1 : w5.cell? ⟨gb137, 1, none⟩ = some (.int .i64 a0_1) := (blk_cell BK137.out 1).trans rfl
        have hcz16_2 : w5.cell? ⟨gb137, 2, none⟩ = some (.int .i64 a0_2) := (blk_cell BK137.out 2).trans rfl
        have hcz16_3 : w5.cell? ⟨gb137, 3, none⟩ = some (.int .i64 a0_3) := (blk_cell BK137.out 3).trans rfl
        have hcz16_4 : w5.cell? ⟨gb137, 4, none⟩ = some (.int .i64 a0_4) := (blk_cell BK137.out 4).trans rfl
        have hcz16_5 : w5.cell? ⟨gb137, 5, none⟩ = some (.int .i64 a0_5) := (blk_cell BK137.out 5).trans rfl
        have hcz16_6 : w5.cell? ⟨gb137, 6, none⟩ = some (.slice A0_6 l0_6.length c0_6) := (blk_cell BK137.out 6).trans rfl
        have hcz16_7 : w5.cell? ⟨gb137, 7, none⟩ = some (.bool a0_7) := (blk_cell BK137.out 7).trans rfl
        have hcz16_8 : w5.cell? ⟨gb137, 8, none⟩ = some (.int .i64 a0_8) := (blk_cell BK137.out 8).trans rfl
        have hcz16_9 : w5.cell? ⟨gb137, 9, none⟩ = some (.slice A0_9 l0_9.length c0_9) := (blk_cell BK137.out 9).trans rfl
        have hcz16_10 : w5.cell? ⟨gb137, 10, none⟩ = some (.int .i64 a0_10) := (blk_cell BK137.out 10).trans rfl
        have hcz16_11 : w5.cell? ⟨gb137, 11, none⟩ = some (.int .i64 a0_11) := (blk_cell BK137.out 11).trans rfl
        have hcz16_12 : w5.cell? ⟨gb137, 12, none⟩ = some (.int .i64 a0_12) := (blk_cell BK137.out 12).trans rfl
        have hcz16_13 : w5.cell? ⟨gb137, 13, none⟩ = some (.slice A0_13 l0_13.length c0_13) := (blk_cell BK137.out 13).trans rfl
        have hfz16_0 := blk_frozen BK137.out 0
        have hfz16_1 := blk_frozen BK137.out 1
        have hfz16_2 := blk_frozen BK137.out 2
        have hfz16_3 := blk_frozen BK137.out 3
        have hfz16_4 := blk_frozen BK137.out 4
        have hfz16_5 := blk_frozen BK137.out 5
        have hfz16_6 := blk_frozen BK137.out 6
        have hfz16_7 := blk_frozen BK137.out 7
        have hfz16_8 := blk_frozen BK137.out 8
        have hfz16_9 := blk_frozen BK137.out 9
        have hfz16_10 := blk_frozen BK137.out 10
        have hfz16_11 := blk_frozen BK137.out 11
        have hfz16_12 := blk_frozen BK137.out 12
        have hfz16_13 := blk_frozen BK137.out 13
        go_wp2
        go_meet
        case rel => exact ⟨_, (false), (by first | rfl | (simp; done) | (simp [*]; done)), H', ⟨by first | omega | exact Nat.le_refl _⟩, ⟨by (with_reducible repeat (first | refine blk_drewN ?_ _ | refine blk_drew ?_ | refine blk_alloc ?_ _)); exact BK137.out⟩, ⟨by repeat (first | (with_reducible first | exact HB.out | apply below_alloc | apply pw_below_drewN | apply below_drew1 | refine below_set ?_ GE137.out) | exact HB.out)⟩⟩
    case rest =>
      clear HC4
      try clear c1
      try clear p2
      try clear c3
      try clear c4
      try clear c7
      try clear c7b0
      try clear c7b1
      try clear c9
      try clear c11
      try clear hcz13_0
      try clear hcz13_1
      try clear hcz13_10
      try clear hcz13_11
      try clear hcz13_12
      try clear hcz13_13
      try clear hcz13_2
      try clear hcz13_3
      try clear hcz13_4
      try clear hcz13_5
      try clear hcz13_6
      try clear hcz13_7
      try clear hcz13_8
      try clear hcz13_9
      try clear hcz14_0
      try clear hcz14_1
      try clear hcz14_10
      try clear hcz14_11
      try clear hcz14_12
      try clear hcz14_13
      try clear hcz14_2
      try clear hcz14_3
      try clear hcz14_4
      try clear hcz14_5
      try clear hcz14_6
      try clear hcz14_7
      try clear hcz14_8
      try clear hcz14_9
      try clear hcz15_0
      try clear hcz15_1
      try clear hcz15_10
      try clear hcz15_11
      try clear hcz15_12
      try clear hcz15_13
      try clear hcz15_2
      try clear hcz15_3
      try clear hcz15_4
      try clear hcz15_5
      try clear hcz15_6
      try clear hcz15_7
      try clear hcz15_8
      try clear hcz15_9
      try clear hcz16_0
      try clear hcz16_1
      try clear hcz16_10
      try clear hcz16_11
      try clear hcz16_12
      try clear hcz16_13
      try clear hcz16_2
      try clear hcz16_3
      try clear hcz16_4
      try clear hcz16_5
      try clear hcz16_6
      try clear hcz16_7
      try clear hcz16_8
      try clear hcz16_9
      try clear hcz6_0
      try clear hcz6_1
      try clear hcz6_10
      try clear hcz6_11
      try clear hcz6_12
      try clear hcz6_13
      try clear hcz6_2
      try clear hcz6_3
      try clear hcz6_4
      try clear hcz6_5
      try clear hcz6_6
      try clear hcz6_7
      try clear hcz6_8
      try clear hcz6_9
      try clear hfz13_0
      try clear hfz13_1
      try clear hfz13_10
      try clear hfz13_11
      try clear hfz13_12
      try clear hfz13_13
      try clear hfz13_2
      try clear hfz13_3
      try clear hfz13_4
      try clear hfz13_5
      try clear hfz13_6
      try clear hfz13_7
      try clear hfz13_8
      try clear hfz13_9
      try clear hfz14_0
      try clear hfz14_1
      try clear hfz14_10
      try clear hfz14_11
      try clear hfz14_12
      try clear hfz14_13
      try clear hfz14_2
      try clear hfz14_3
      try clear hfz14_4
      try clear hfz14_5
      try clear hfz14_6
      try clear hfz14_7
      try clear hfz14_8
      try clear hfz14_9
      try clear hfz15_0
      try clear hfz15_1
      try clear hfz15_10
      try clear hfz15_11
      try clear hfz15_12
      try clear hfz15_13
      try clear hfz15_2
      try clear hfz15_3
      try clear hfz15_4
      try clear hfz15_5
      try clear hfz15_6
      try clear hfz15_7
      try clear hfz15_8
      try clear hfz15_9
      try clear hfz16_0
      try clear hfz16_1
      try clear hfz16_10
      try clear hfz16_11
      try clear hfz16_12
      try clear hfz16_13
      try clear hfz16_2
      try clear hfz16_3
      try clear hfz16_4
      try clear hfz16_5
      try clear hfz16_6
      try clear hfz16_7
      try clear hfz16_8
      try clear hfz16_9
      try clear hfz6_0
      try clear hfz6_1
      try clear hfz6_10
      try clear hfz6_11
      try clear hfz6_12
      try clear hfz6_13
      try clear hfz6_2
      try clear hfz6_3
      try clear hfz6_4
      try clear hfz6_5
      try clear hfz6_6
      try clear hfz6_7
      try clear hfz6_8
      try clear hfz6_9
      obtain ⟨kq, x27_3, rfl, HA, HJ3, BK137, HB⟩ := hcut
      cases kq with
      | zero => exact absurd HA.out (by simp [spec_MessageFault.j0])
      | succ kj3 =>
        have H := HA.out
        clear HA
        simp only [spec_MessageFault.j0] at H
        by_cases c17 : x27_3 = true
        · subst c17
          have H1 : (some 3) = some r := by rw [if_pos rfl] at H; first | done | exact H
          clear H
          have H := H1
          clear H1
          obtain rfl := Option.some.inj H
          go_wp2
          go_ret
          exact ⟨by first | rfl | (simp [errW_none, errW_some] <;> rfl) | (simp [*, errW_none, errW_some] <;> rfl), by repeat (first | (with_reducible first | exact HB.out | apply below_alloc | apply pw_below_drewN | apply below_drew1 | refine below_set ?_ GE137.out) | exact HB.out)⟩
        · replace c17 := Bool.eq_false_iff.mpr c17
          subst c17
          have H1 : (if a0_0 = 3 then ((spec_l1In.f a0_4 1 6).bind fun t142 => (if t142 = true then ((spec_l1In.f a0_5 0 20).bind fun t143 => (spec_MessageFault.j1 kj3 (!t143) a0_0 a0_1 a0_2 a0_3 a0_4 a0_5 l0_6 a0_7 a0_8 l0_9 a0_10 a0_11 a0_12 l0_13)) else (spec_MessageFault.j1 kj3 true a0_0 a0_1 a0_2 a0_3 a0_4 a0_5 l0_6 a0_7 a0_8 l0_9 a0_10 a0_11 a0_12 l0_13))) else (spec_MessageFault.j1 kj3 false a0_0 a0_1 a0_2 a0_3 a0_4 a0_5 l0_6 a0_7 a0_8 l0_9 a0_10 a0_11 a0_12 l0_13)) = some r := by rw [if_neg (show ¬ (false = true) by decide)] at H; first | done | exact H
          clear H
          have H := H1
          clear H1
          have HC18 := Aside0.mk H
          clear H
          go_upto_region 5 with (fail)
          go_cut [42] (fun v42 wc => ∃ (kq : Nat) (x42_17 : Bool), v42 = .bool x42_17 ∧ Aside0 (spec_MessageFault.j1 kq x42_17 a0_0 a0_1 a0_2 a0_3 a0_4 a0_5 l0_6 a0_7 a0_8 l0_9 a0_10 a0_11 a0_12 l0_13 = some r) ∧ Aside0 (kq ≤ kj3) ∧ Aside0 (wc.heap[gb137]? = some (.cells #[.int .i64 a0_0, .int .i64 a0_1, .int .i64 a0_2, .int .i64 a0_3, .int .i64 a0_4, .int .i64 a0_5, (.slice A0_6 l0_6.length c0_6), .bool a0_7, .int .i64 a0_8, (.slice A0_9 l0_9.length c0_9), .int .i64 a0_10, .int .i64 a0_11, .int .i64 a0_12, (.slice A0_13 l0_13.length c0_13)] 84 (0, 0))) ∧ Aside0 (Below w.heap.size w wc))
          case first =>
            have H := HC18.out
            clear HC18
            by_cases c19 : a0_0 = 3
            · rw [if_pos c19] at H
              have c19b0 : (a0_0 == 3) = true := beq_iff_eq.mpr c19
              have c19b1 : (a0_0 != 3) = false := bne_eq_false_iff_eq.mpr c19
              clear c19
              (first | rw [c19b0] | (simp only [i64_w, i32_w]; rw [c19b0]) | skip)
              replace H := Option.bind_eq_some_iff.mp H
              obtain ⟨t142, A200, H⟩ := H
              replace H : (if t142 = true then ((spec_l1In.f a0_5 0 20).bind fun t143 => (spec_MessageFault.j1 kj3 (!t143) a0_0 a0_1 a0_2 a0_3 a0_4 a0_5 l0_6 a0_7 a0_8 l0_9 a0_10 a0_11 a0_12 l0_13)) else (spec_MessageFault.j1 kj3 true a0_0 a0_1 a0_2 a0_3 a0_4 a0_5 l0_6 a0_7 a0_8 l0_9 a0_10 a0_11 a0_12 l0_13)) = some r := H
              have A20 := Aside0.mk A200
              clear A200
              by_cases c21 : t142 = true
              · subst c21
                have H1 : ((spec_l1In.f a0_5 0 20).bind fun t143 => (spec_MessageFault.j1 kj3 (!t143) a0_0 a0_1 a0_2 a0_3 a0_4 a0_5 l0_6 a0_7 a0_8 l0_9 a0_10 a0_11 a0_12 l0_13)) = some r := by rw [if_pos rfl] at H; first | done | exact H
                clear H
                have H := H1
                clear H1
                replace H := Option.bind_eq_some_iff.mp H
                obtain ⟨t143, A220, H⟩ := H
                replace H : (spec_MessageFault.j1 kj3 (!t143) a0_0 a0_1 a0_2 a0_3 a0_4 a0_5 l0_6 a0_7 a0_8 l0_9 a0_10 a0_11 a0_12 l0_13) = some r := H
                have A22 := Aside0.mk A220
                clear A220
                have H' := Aside0.mk H
                clear H
                have hcz23_0 : wc.cell? ⟨gb137, 0, none⟩ = some (.int .i64 a0_0) := (blk_cell BK137.out 0).trans rfl
                have hcz23_1 : wc.cell? ⟨gb137, 1, none⟩ = some (.int .i64 a0_1) := (blk_cell BK137.out 1).trans rfl
                have hcz23_2 : wc.cell? ⟨gb137, 2, none⟩ = some (.int .i64 a0_2) := (blk_cell BK137.out 2).trans rfl
                have hcz23_3 : wc.cell? ⟨gb137, 3, none⟩ = some (.int .i64 a0_3) := (blk_cell BK137.out 3).trans rfl
                have hcz23_4 : wc.cell? ⟨gb137, 4, none⟩ = some (.int .i64 a0_4) := (blk_cell BK137.out 4).trans rfl
                have hcz23_5 : wc.cell? ⟨gb137, 5, none⟩ = some (.int .i64 a0_5) := (blk_cell BK137.out 5).trans rfl
                have hcz23_6 : wc.cell? ⟨gb137, 6, none⟩ = some (.slice A0_6 l0_6.length c0_6) := (blk_cell BK137.out 6).trans rfl
                have hcz23_7 : wc.cell? ⟨gb137, 7, none⟩ = some (.bool a0_7) := (blk_cell BK137.out 7).trans rfl
                have hcz23_8 : wc.cell? ⟨gb137, 8, none⟩ = some (.int .i64 a0_8) := (blk_cell BK137.out 8).trans rfl
                have hcz23_9 : wc.cell? ⟨gb137, 9, none⟩ = some (.slice A0_9 l0_9.length c0_9) := (blk_cell BK137.out 9).trans rfl
                have hcz23_10 : wc.cell? ⟨gb137, 10, none⟩ = some (.int .i64 a0_10) := (blk_cell BK137.out 10).trans rfl
                have hcz23_11 : wc.cell? ⟨gb137, 11, none⟩ = some (.int .i64 a0_11) := (blk_cell BK137.out 11).trans rfl
                have hcz23_12 : wc.cell? ⟨gb137, 12, none⟩ = some (.int .i64 a0_12) := (blk_cell BK137.out 12).trans rfl
                have hcz23_13 : wc.cell? ⟨gb137, 13, none⟩ = some (.slice A0_13 l0_13.length c0_13) := (blk_cell BK137.out 13).trans rfl
                have hfz23_0 := blk_frozen BK137.out 0
                have hfz23_1 := blk_frozen BK137.out 1
                have hfz23_2 := blk_frozen BK137.out 2
                have hfz23_3 := blk_frozen BK137.out 3
                have hfz23_4 := blk_frozen BK137.out 4
                have hfz23_5 := blk_frozen BK137.out 5
                have hfz23_6 := blk_frozen BK137.out 6
                have hfz23_7 := blk_frozen BK137.out 7
                have hfz23_8 := blk_frozen BK137.out 8
                have hfz23_9 := blk_frozen BK137.out 9
                have hfz23_10 := blk_frozen BK137.out 10
                have hfz23_11 := blk_frozen BK137.out 11
                have hfz23_12 := blk_frozen BK137.out 12
                have hfz23_13 := blk_frozen BK137.out 13
                go_wp2_with (first | (go_at_call 75; (with_reducible refine (spec_l1In.calls a0_4 1 6 true _ A20.out).mono ?_); rintro e w' ⟨rfl, ⟨nd, rfl⟩⟩) | (go_at_call 75; (with_reducible refine (spec_l1In.calls a0_5 0 20 t143 _ A22.out).mono ?_); rintro e w' ⟨rfl, ⟨nd, rfl⟩⟩))
                go_meet
                case rel => exact ⟨_, (!t143), (by first | rfl | (simp; done) | (simp [*]; done)), H', ⟨by have := HJ3.out; first | omega | exact Nat.le_refl _⟩, ⟨by (with_reducible repeat (first | refine blk_drewN ?_ _ | refine blk_drew ?_ | refine blk_alloc ?_ _)); exact BK137.out⟩, ⟨by repeat (first | (with_reducible first | exact HB.out | apply below_alloc | apply pw_below_drewN | apply below_drew1 | refine below_set ?_ GE137.out) | exact HB.out)⟩⟩
              · replace c21 := Bool.eq_false_iff.mpr c21
                subst c21
                have H1 : (spec_MessageFault.j1 kj3 true a0_0 a0_1 a0_2 a0_3 a0_4 a0_5 l0_6 a0_7 a0_8 l0_9 a0_10 a0_11 a0_12 l0_13) = some r := by rw [if_neg (show ¬ (false = true) by decide)] at H; first | done | exact H
                clear H
                have H := H1
                clear H1
                have H' := Aside0.mk H
                clear H
                have hcz24_0 : wc.cell? ⟨gb137, 0, none⟩ = some (.int .i64 a0_0) := (blk_cell BK137.out 0).trans rfl
                have hcz24_1 : wc.cell? ⟨gb137, 1, none⟩ = some (.int .i64 a0_1) := (blk_cell BK137.out 1).trans rfl
                have hcz24_2 : wc.cell? ⟨gb137, 2, none⟩ = some (.int .i64 a0_2) := (blk_cell BK137.out 2).trans rfl
                have hcz24_3 : wc.cell? ⟨gb137, 3, none⟩ = some (.int .i64 a0_3) := (blk_cell BK137.out 3).trans rfl
                have hcz24_4 : wc.cell? ⟨gb137, 4, none⟩ = some (.int .i64 a0_4) := (blk_cell BK137.out 4).trans rfl
                have hcz24_5 : wc.cell? ⟨gb137, 5, none⟩ = some (.int .i64 a0_5) := (blk_cell BK137.out 5).trans rfl
                have hcz24_6 : wc.cell? ⟨gb137, 6, none⟩ = some (.slice A0_6 l0_6.length c0_6) := (blk_cell BK137.out 6).trans rfl
                have hcz24_7 : wc.cell? ⟨gb137, 7, none⟩ = some (.bool a0_7) := (blk_cell BK137.out 7).trans rfl
                have hcz24_8 : wc.cell? ⟨gb137, 8, none⟩ = some (.int .i64 a0_8) := (blk_cell BK137.out 8).trans rfl
                have hcz24_9 : wc.cell? ⟨gb137, 9, none⟩ = some (.slice A0_9 l0_9.length c0_9) := (blk_cell BK137.out 9).trans rfl
                have hcz24_10 : wc.cell? ⟨gb137, 10, none⟩ = some (.int .i64 a0_10) := (blk_cell BK137.out 10).trans rfl
                have hcz24_11 : wc.cell? ⟨gb137, 11, none⟩ = some (.int .i64 a0_11) := (blk_cell BK137.out 11).trans rfl
                have hcz24_12 : wc.cell? ⟨gb137, 12, none⟩ = some (.int .i64 a0_12) := (blk_cell BK137.out 12).trans rfl
                have hcz24_13 : wc.cell? ⟨gb137, 13, none⟩ = some (.slice A0_13 l0_13.length c0_13) := (blk_cell BK137.out 13).trans rfl
                have hfz24_0 := blk_frozen BK137.out 0
                have hfz24_1 := blk_frozen BK137.out 1
                have hfz24_2 := blk_frozen BK137.out 2
                have hfz24_3 := blk_frozen BK137.out 3
                have hfz24_4 := blk_frozen BK137.out 4
                have hfz24_5 := blk_frozen BK137.out 5
                have hfz24_6 := blk_frozen BK137.out 6
                have hfz24_7 := blk_frozen BK137.out 7
                have hfz24_8 := blk_frozen BK137.out 8
                have hfz24_9 := blk_frozen BK137.out 9
                have hfz24_10 := blk_frozen BK137.out 10
                have hfz24_11 := blk_frozen BK137.out 11
                have hfz24_12 := blk_frozen BK137.out 12
                have hfz24_13 := blk_frozen BK137.out 13
                go_wp2_with (first | (go_at_call 75; (with_reducible refine (spec_l1In.calls a0_4 1 6 false _ A20.out).mono ?_); rintro e w' ⟨rfl, ⟨nd, rfl⟩⟩))
                go_meet
                case rel => exact ⟨_, (true), (by first | rfl | (simp; done) | (simp [*]; done)), H', ⟨by have := HJ3.out; first | omega | exact Nat.le_refl _⟩, ⟨by (with_reducible repeat (first | refine blk_drewN ?_ _ | refine blk_drew ?_ | refine blk_alloc ?_ _)); exact BK137.out⟩, ⟨by repeat (first | (with_reducible first | exact HB.out | apply below_alloc | apply pw_below_drewN | apply below_drew1 | refine below_set ?_ GE137.out) | exact HB.out)⟩⟩
            · rw [if_neg c19] at H
              have c19b0 : (a0_0 == 3) = false := beq_eq_false_iff_ne.mpr c19
              have c19b1 : (a0_0 != 3) = true := bne_iff_ne.mpr c19
              (first | rw [c19b0] | (simp only [i64_w, i32_w]; rw [c19b0]) | skip)
              have H' := Aside0.mk H
              clear H
              have hcz25_0 : wc.cell? ⟨gb137, 0, none⟩ = some (.int .i64 a0_0) := (blk_cell BK137.out 0).trans rfl
              have hcz25_1 : wc.cell? ⟨gb137, 1, none⟩ = some (.int .i64 a0_1) := (blk_cell BK137.out 1).trans rfl
              have hcz25_2 : wc.cell? ⟨gb137, 2, none⟩ = some (.int .i64 a0_2) := (blk_cell BK137.out 2).trans rfl
              have hcz25_3 : wc.cell? ⟨gb137, 3, none⟩ = some (.int .i64 a0_3) := (blk_cell BK137.out 3).trans rfl
              have hcz25_4 : wc.cell? ⟨gb137, 4, none⟩ = some (.int .i64 a0_4) := (blk_cell BK137.out 4).trans rfl
              have hcz25_5 : wc.cell? ⟨gb137, 5, none⟩ = some (.int .i64 a0_5) := (blk_cell BK137.out 5).trans rfl
              have hcz25_6 : wc.cell? ⟨gb137, 6, none⟩ = some (.slice A0_6 l0_6.length c0_6) := (blk_cell BK137.out 6).trans rfl
              have hcz25_7 : wc.cell? ⟨gb137, 7, none⟩ = some (.bool a0_7) := (blk_cell BK137.out 7).trans rfl
              have hcz25_8 : wc.cell? ⟨gb137, 8, none⟩ = some (.int .i64 a0_8) := (blk_cell BK137.out 8).trans rfl
              have hcz25_9 : wc.cell? ⟨gb137, 9, none⟩ = some (.slice A0_9 l0_9.length c0_9) := (blk_cell BK137.out 9).trans rfl
              have hcz25_10 : wc.cell? ⟨gb137, 10, none⟩ = some (.int .i64 a0_10) := (blk_cell BK137.out 10).trans rfl
              have hcz25_11 : wc.cell? ⟨gb137, 11, none⟩ = some (.int .i64 a0_11) := (blk_cell BK137.out 11).trans rfl
              have hcz25_12 : wc.cell? ⟨gb137, 12, none⟩ = some (.int .i64 a0_12) := (blk_cell BK137.out 12).trans rfl
              have hcz25_13 : wc.cell? ⟨gb137, 13, none⟩ = some (.slice A0_13 l0_13.length c0_13) := (blk_cell BK137.out 13).trans rfl
              have hfz25_0 := blk_frozen BK137.out 0
              have hfz25_1 := blk_frozen BK137.out 1
              have hfz25_2 := blk_frozen BK137.out 2
              have hfz25_3 := blk_frozen BK137.out 3
              have hfz25_4 := blk_frozen BK137.out 4
              have hfz25_5 := blk_frozen BK137.out 5
              have hfz25_6 := blk_frozen BK137.out 6
              have hfz25_7 := blk_frozen BK137.out 7
              have hfz25_8 := blk_frozen BK137.out 8
              have hfz25_9 := blk_frozen BK137.out 9
              have hfz25_10 := blk_frozen BK137.out 10
              have hfz25_11 := blk_frozen BK137.out 11
              have hfz25_12 := blk_frozen BK137.out 12
              have hfz25_13 := blk_frozen BK137.out 13
              go_wp2
              go_meet
              case rel => exact ⟨_, (false), (by first | rfl | (simp; done) | (simp [*]; done)), H', ⟨by have := HJ3.out; first | omega | exact Nat.le_refl _⟩, ⟨by (with_reducible repeat (first | refine blk_drewN ?_ _ | refine blk_drew ?_ | refine blk_alloc ?_ _)); exact BK137.out⟩, ⟨by repeat (first | (with_reducible first | exact HB.out | apply below_alloc | apply pw_below_drewN | apply below_drew1 | refine below_set ?_ GE137.out) | exact HB.out)⟩⟩
          case rest =>
            clear HC18
            try clear c1
            try clear c2
            try clear p2
            try clear c3
            try clear c4
            try clear c7
            try clear c7b0
            try clear c7b1
            try clear c9
            try clear c11
            try clear c17
            try clear c19
            try clear c19b0
            try clear c19b1
            try clear c21
            try clear hcz13_0
            try clear hcz13_1
            try clear hcz13_10
            try clear hcz13_11
            try clear hcz13_12
            try clear hcz13_13
            try clear hcz13_2
            try clear hcz13_3
            try clear hcz13_4
            try clear hcz13_5
            try clear hcz13_6
            try clear hcz13_7
            try clear hcz13_8
            try clear hcz13_9
            try clear hcz14_0
            try clear hcz14_1
            try clear hcz14_10
            try clear hcz14_11
            try clear hcz14_12
            try clear hcz14_13
            try clear hcz14_2
            try clear hcz14_3
            try clear hcz14_4
            try clear hcz14_5
            try clear hcz14_6
            try clear hcz14_7
            try clear hcz14_8
            try clear hcz14_9
            try clear hcz15_0
            try clear hcz15_1
            try clear hcz15_10
            try clear hcz15_11
            try clear hcz15_12
            try clear hcz15_13
            try clear hcz15_2
            try clear hcz15_3
            try clear hcz15_4
            try clear hcz15_5
            try clear hcz15_6
            try clear hcz15_7
            try clear hcz15_8
            try clear hcz15_9
            try clear hcz16_0
            try clear hcz16_1
            try clear hcz16_10
            try clear hcz16_11
            try clear hcz16_12
            try clear hcz16_13
            try clear hcz16_2
            try clear hcz16_3
            try clear hcz16_4
            try clear hcz16_5
            try clear hcz16_6
            try clear hcz16_7
            try clear hcz16_8
            try clear hcz16_9
            try clear hcz23_0
            try clear hcz23_1
            try clear hcz23_10
            try clear hcz23_11
            try clear hcz23_12
            try clear hcz23_13
            try clear hcz23_2
            try clear hcz23_3
            try clear hcz23_4
            try clear hcz23_5
            try clear hcz23_6
            try clear hcz23_7
            try clear hcz23_8
            try clear hcz23_9
            try clear hcz24_0
            try clear hcz24_1
            try clear hcz24_10
            try clear hcz24_11
            try clear hcz24_12
            try clear hcz24_13
            try clear hcz24_2
            try clear hcz24_3
            try clear hcz24_4
            try clear hcz24_5
            try clear hcz24_6
            try clear hcz24_7
            try clear hcz24_8
            try clear hcz24_9
            try clear hcz25_0
            try clear hcz25_1
            try clear hcz25_10
            try clear hcz25_11
            try clear hcz25_12
            try clear hcz25_13
            try clear hcz25_2
            try clear hcz25_3
            try clear hcz25_4
            try clear hcz25_5
            try clear hcz25_6
            try clear hcz25_7
            try clear hcz25_8
            try clear hcz25_9
            try clear hcz6_0
            try clear hcz6_1
            try clear hcz6_10
            try clear hcz6_11
            try clear hcz6_12
            try clear hcz6_13
            try clear hcz6_2
            try clear hcz6_3
            try clear hcz6_4
            try clear hcz6_5
            try clear hcz6_6
            try clear hcz6_7
            try clear hcz6_8
            try clear hcz6_9
            try clear hfz13_0
            try clear hfz13_1
            try clear hfz13_10
            try clear hfz13_11
            try clear hfz13_12
            try clear hfz13_13
            try clear hfz13_2
            try clear hfz13_3
            try clear hfz13_4
            try clear hfz13_5
            try clear hfz13_6
            try clear hfz13_7
            try clear hfz13_8
            try clear hfz13_9
            try clear hfz14_0
            try clear hfz14_1
            try clear hfz14_10
            try clear hfz14_11
            try clear hfz14_12
            try clear hfz14_13
            try clear hfz14_2
            try clear hfz14_3
            try clear hfz14_4
            try clear hfz14_5
            try clear hfz14_6
            try clear hfz14_7
            try clear hfz14_8
            try clear hfz14_9
            try clear hfz15_0
            try clear hfz15_1
            try clear hfz15_10
            try clear hfz15_11
            try clear hfz15_12
            try clear hfz15_13
            try clear hfz15_2
            try clear hfz15_3
            try clear hfz15_4
            try clear hfz15_5
            try clear hfz15_6
            try clear hfz15_7
            try clear hfz15_8
            try clear hfz15_9
            try clear hfz16_0
            try clear hfz16_1
            try clear hfz16_10
            try clear hfz16_11
            try clear hfz16_12
            try clear hfz16_13
            try clear hfz16_2
            try clear hfz16_3
            try clear hfz16_4
            try clear hfz16_5
            try clear hfz16_6
            try clear hfz16_7
            try clear hfz16_8
            try clear hfz16_9
            try clear hfz23_0
            try clear hfz23_1
            try clear hfz23_10
            try clear hfz23_11
            try clear hfz23_12
            try clear hfz23_13
            try clear hfz23_2
            try clear hfz23_3
            try clear hfz23_4
            try clear hfz23_5
            try clear hfz23_6
            try clear hfz23_7
            try clear hfz23_8
            try clear hfz23_9
            try clear hfz24_0
            try clear hfz24_1
            try clear hfz24_10
            try clear hfz24_11
            try clear hfz24_12
            try clear hfz24_13
            try clear hfz24_2
            try clear hfz24_3
            try clear hfz24_4
            try clear hfz24_5
            try clear hfz24_6
            try clear hfz24_7
            try clear hfz24_8
            try clear hfz24_9
            try clear hfz25_0
            try clear hfz25_1
            try clear hfz25_10
            try clear hfz25_11
            try clear hfz25_12
            try clear hfz25_13
            try clear hfz25_2
            try clear hfz25_3
            try clear hfz25_4
            try clear hfz25_5
            try clear hfz25_6
            try clear hfz25_7
            try clear hfz25_8
            try clear hfz25_9
            try clear hfz6_0
            try clear hfz6_1
            try clear hfz6_10
            try clear hfz6_11
            try clear hfz6_12
            try clear hfz6_13
            try clear hfz6_2
            try clear hfz6_3
            try clear hfz6_4
            try clear hfz6_5
            try clear hfz6_6
            try clear hfz6_7
            try clear hfz6_8
            try clear hfz6_9
            try clear p2
            obtain ⟨kq, x42_17, rfl, HA, HJ17, BK137, HB⟩ := hcut
            cases kq with
            | zero => exact absurd HA.out (by simp [spec_MessageFault.j1])
            | succ kj17 =>
              have H := HA.out
              clear HA
              simp only [spec_MessageFault.j1] at H
              by_cases c26 : x42_17 = true
              · subst c26
                have H1 : (some 3) = some r := by rw [if_pos rfl] at H; first | done | exact H
                clear H
                have H := H1
                clear H1
                obtain rfl := Option.some.inj H
                go_wp2
                go_ret
                exact ⟨by first | rfl | (simp [errW_none, errW_some] <;> rfl) | (simp [*, errW_none, errW_some] <;> rfl), by repeat (first | (with_reducible first | exact HB.out | apply below_alloc | apply pw_below_drewN | apply below_drew1 | refine below_set ?_ GE137.out) | exact HB.out)⟩
              · replace c26 := Bool.eq_false_iff.mpr c26
                subst c26
                have H1 : ((spec_l4Bare.f kj17 a0_0 a0_1 a0_2 a0_3 a0_4 a0_5 l0_6 a0_7 a0_8 l0_9 a0_10 a0_11 a0_12 l0_13).bind fun t144 => (if t144 = true then (if a0_0 = 2 then ((spec_UpdateFault.f kj17 l0_6 a0_7 a0_8 l0_9 a0_10 a0_11 a0_12 l0_13).bind fun t145 => (some t145)) else (some 0)) else (some 1))) = some r := by rw [if_neg (show ¬ (false = true) by decide)] at H; first | done | exact H
                clear H
                have H := H1
                clear H1
                replace H := Option.bind_eq_some_iff.mp H
                obtain ⟨t144, A270, H⟩ := H
                replace H : (if t144 = true then (if a0_0 = 2 then ((spec_UpdateFault.f kj17 l0_6 a0_7 a0_8 l0_9 a0_10 a0_11 a0_12 l0_13).bind fun t145 => (some t145)) else (some 0)) else (some 1)) = some r := H
                have A27 := Aside0.mk A270
                clear A270
                by_cases c28 : t144 = true
                · subst c28
                  have H1 : (if a0_0 = 2 then ((spec_UpdateFault.f kj17 l0_6 a0_7 a0_8 l0_9 a0_10 a0_11 a0_12 l0_13).bind fun t145 => (some t145)) else (some 0)) = some r := by rw [if_pos rfl] at H; first | done | exact H
                  clear H
                  have H := H1
                  clear H1
                  by_cases c29 : a0_0 = 2
                  · rw [if_pos c29] at H
                    have c29b0 : (a0_0 == 2) = true := beq_iff_eq.mpr c29
                    have c29b1 : (a0_0 != 2) = false := bne_eq_false_iff_eq.mpr c29
                    clear c29
                    replace H := Option.bind_eq_some_iff.mp H
                    obtain ⟨t145, A300, H⟩ := H
                    replace H : (some t145) = some r := H
                    have A30 := Aside0.mk A300
                    clear A300
                    obtain rfl := Option.some.inj H
                    have hcz31_0 : wc.cell? ⟨gb137, 0, none⟩ = some (.int .i64 a0_0) := (blk_cell BK137.out 0).trans rfl
                    have hcz31_1 : wc.cell? ⟨gb137, 1, none⟩ = some (.int .i64 a0_1) := (blk_cell BK137.out 1).trans rfl
                    have hcz31_2 : wc.cell? ⟨gb137, 2, none⟩ = some (.int .i64 a0_2) := (blk_cell BK137.out 2).trans rfl
                    have hcz31_3 : wc.cell? ⟨gb137, 3, none⟩ = some (.int .i64 a0_3) := (blk_cell BK137.out 3).trans rfl
                    have hcz31_4 : wc.cell? ⟨gb137, 4, none⟩ = some (.int .i64 a0_4) := (blk_cell BK137.out 4).trans rfl
                    have hcz31_5 : wc.cell? ⟨gb137, 5, none⟩ = some (.int .i64 a0_5) := (blk_cell BK137.out 5).trans rfl
                    have hcz31_6 : wc.cell? ⟨gb137, 6, none⟩ = some (.slice A0_6 l0_6.length c0_6) := (blk_cell BK137.out 6).trans rfl
                    have hcz31_7 : wc.cell? ⟨gb137, 7, none⟩ = some (.bool a0_7) := (blk_cell BK137.out 7).trans rfl
                    have hcz31_8 : wc.cell? ⟨gb137, 8, none⟩ = some (.int .i64 a0_8) := (blk_cell BK137.out 8).trans rfl
                    have hcz31_9 : wc.cell? ⟨gb137, 9, none⟩ = some (.slice A0_9 l0_9.length c0_9) := (blk_cell BK137.out 9).trans rfl
                    have hcz31_10 : wc.cell? ⟨gb137, 10, none⟩ = some (.int .i64 a0_10) := (blk_cell BK137.out 10).trans rfl
                    have hcz31_11 : wc.cell? ⟨gb137, 11, none⟩ = some (.int .i64 a0_11) := (blk_cell BK137.out 11).trans rfl
                    have hcz31_12 : wc.cell? ⟨gb137, 12, none⟩ = some (.int .i64 a0_12) := (blk_cell BK137.out 12).trans rfl
                    have hcz31_13 : wc.cell? ⟨gb137, 13, none⟩ = some (.slice A0_13 l0_13.length c0_13) := (blk_cell BK137.out 13).trans rfl
                    have hfz31_0 := blk_frozen BK137.out 0
                    have hfz31_1 := blk_frozen BK137.out 1
                    have hfz31_2 := blk_frozen BK137.out 2
                    have hfz31_3 := blk_frozen BK137.out 3
                    have hfz31_4 := blk_frozen BK137.out 4
                    have hfz31_5 := blk_frozen BK137.out 5
                    have hfz31_6 := blk_frozen BK137.out 6
                    have hfz31_7 := blk_frozen BK137.out 7
                    have hfz31_8 := blk_frozen BK137.out 8
                    have hfz31_9 := blk_frozen BK137.out 9
                    have hfz31_10 := blk_frozen BK137.out 10
                    have hfz31_11 := blk_frozen BK137.out 11
                    have hfz31_12 := blk_frozen BK137.out 12
                    have hfz31_13 := blk_frozen BK137.out 13
                    go_wp2_with (first | ((with_reducible refine gate_callee (f := 104) rfl ?_); refine goesL_ (some 44) rfl rfl Try.func104 (by kernel_rfl) rfl #[.agg #[.int .i64 a0_0, .int .i64 a0_1, .int .i64 a0_2, .int .i64 a0_3, .int .i64 a0_4, .int .i64 a0_5, .slice A0_6 l0_6.length c0_6, .bool a0_7, .int .i64 a0_8, .slice A0_9 l0_9.length c0_9, .int .i64 a0_10, .int .i64 a0_11, .int .i64 a0_12, .slice A0_13 l0_13.length c0_13]] rfl (by (try simp only [List.map_toArray, List.map_cons, List.map_nil]); first | done | rfl | (simp only [List.length_drop, List.length_take]; rfl)) ?_; (with_reducible refine (spec_l4Bare.calls kj17 a0_0 a0_1 a0_2 a0_3 a0_4 a0_5 _ _ l0_6 a0_7 a0_8 _ _ l0_9 a0_10 a0_11 a0_12 _ _ l0_13 true _ ?side1 ?side2 ?side3 ?side4 ?side5 ?side6 A27.out).mono ?_); (case side1 => repeat (first | exact (Kd.C_below HR0_6.out HB.out) | (with_reducible refine Kd.C_alloc ?_ _) | (with_reducible refine Kd.C_drewN ?_ _) | (with_reducible refine Kd.C_drew ?_))); (case side2 => exact HC0_6.out); (case side3 => repeat (first | exact (Kd.C_below HR0_9.out HB.out) | (with_reducible refine Kd.C_alloc ?_ _) | (with_reducible refine Kd.C_drewN ?_ _) | (with_reducible refine Kd.C_drew ?_))); (case side4 => exact HC0_9.out); (case side5 => repeat (first | exact (Kd.C_below HR0_13.out HB.out) | (with_reducible refine Kd.C_alloc ?_ _) | (with_reducible refine Kd.C_drewN ?_ _) | (with_reducible refine Kd.C_drew ?_))); (case side6 => exact HC0_13.out); rintro e w32 ⟨rfl, hb⟩; refine ⟨_, rfl, ?_⟩; have n0_ := Aside0.mk (blk_below (g := gb137) (o := .cells #[.int .i64 a0_0, .int .i64 a0_1, .int .i64 a0_2, .int .i64 a0_3, .int .i64 a0_4, .int .i64 a0_5, .slice A0_6 l0_6.length c0_6, .bool a0_7, .int .i64 a0_8, .slice A0_9 l0_9.length c0_9, .int .i64 a0_10, .int .i64 a0_11, .int .i64 a0_12, .slice A0_13 l0_13.length c0_13] 84 (0, 0)) (by (with_reducible repeat (first | refine blk_drewN ?_ _ | refine blk_drew ?_ | refine blk_alloc ?_ _)); exact BK137.out) hb); have n1_ := Aside0.mk (below_step (by repeat (first | (with_reducible first | exact HB.out | apply below_alloc | apply pw_below_drewN | apply below_drew1 | refine below_set ?_ GE137.out) | exact HB.out)) hb); clear BK137; clear HB; have BK137 := n0_; have HB := n1_; clear n0_ n1_; (try clear hb); (try clear hb2); (try clear hk); (try clear hi); have hcz33_0 : w32.cell? ⟨gb137, 0, none⟩ = some (.int .i64 a0_0) := (blk_cell BK137.out 0).trans rfl; have hcz33_1 : w32.cell? ⟨gb137, 1, none⟩ = some (.int .i64 a0_1) := (blk_cell BK137.out 1).trans rfl; have hcz33_2 : w32.cell? ⟨gb137, 2, none⟩ = some (.int .i64 a0_2) := (blk_cell BK137.out 2).trans rfl; have hcz33_3 : w32.cell? ⟨gb137, 3, none⟩ = some (.int .i64 a0_3) := (blk_cell BK137.out 3).trans rfl; have hcz33_4 : w32.cell? ⟨gb137, 4, none⟩ = some (.int .i64 a0_4) := (blk_cell BK137.out 4).trans rfl; have hcz33_5 : w32.cell? ⟨gb137, 5, none⟩ = some (.int .i64 a0_5) := (blk_cell BK137.out 5).trans rfl; have hcz33_6 : w32.cell? ⟨gb137, 6, none⟩ = some (.slice A0_6 l0_6.length c0_6) := (blk_cell BK137.out 6).trans rfl; have hcz33_7 : w32.cell? ⟨gb137, 7, none⟩ = some (.bool a0_7) := (blk_cell BK137.out 7).trans rfl; have hcz33_8 : w32.cell? ⟨gb137, 8, none⟩ = some (.int .i64 a0_8) := (blk_cell BK137.out 8).trans rfl; have hcz33_9 : w32.cell? ⟨gb137, 9, none⟩ = some (.slice A0_9 l0_9.length c0_9) := (blk_cell BK137.out 9).trans rfl; have hcz33_10 : w32.cell? ⟨gb137, 10, none⟩ = some (.int .i64 a0_10) := (blk_cell BK137.out 10).trans rfl; have hcz33_11 : w32.cell? ⟨gb137, 11, none⟩ = some (.int .i64 a0_11) := (blk_cell BK137.out 11).trans rfl; have hcz33_12 : w32.cell? ⟨gb137, 12, none⟩ = some (.int .i64 a0_12) := (blk_cell BK137.out 12).trans rfl; have hcz33_13 : w32.cell? ⟨gb137, 13, none⟩ = some (.slice A0_13 l0_13.length c0_13) := (blk_cell BK137.out 13).trans rfl; have hfz33_0 := blk_frozen BK137.out 0; have hfz33_1 := blk_frozen BK137.out 1; have hfz33_2 := blk_frozen BK137.out 2; have hfz33_3 := blk_frozen BK137.out 3; have hfz33_4 := blk_frozen BK137.out 4; have hfz33_5 := blk_frozen BK137.out 5; have hfz33_6 := blk_frozen BK137.out 6; have hfz33_7 := blk_frozen BK137.out 7; have hfz33_8 := blk_frozen BK137.out 8; have hfz33_9 := blk_frozen BK137.out 9; have hfz33_10 := blk_frozen BK137.out 10; have hfz33_11 := blk_frozen BK137.out 11; have hfz33_12 := blk_frozen BK137.out 12; have hfz33_13 := blk_frozen BK137.out 13) | ((with_reducible refine gate_callee (f := 36) rfl ?_); refine goesL_ (some 51) rfl rfl Try.func36 (by kernel_rfl) rfl #[.agg #[.slice A0_6 l0_6.length c0_6, .bool a0_7, .int .i64 a0_8, .slice A0_9 l0_9.length c0_9, .int .i64 a0_10, .int .i64 a0_11, .int .i64 a0_12, .slice A0_13 l0_13.length c0_13]] rfl (by (try simp only [List.map_toArray, List.map_cons, List.map_nil]); first | done | rfl | (simp only [List.length_drop, List.length_take]; rfl)) ?_; (with_reducible refine (spec_UpdateFault.calls kj17 _ _ l0_6 a0_7 a0_8 _ _ l0_9 a0_10 a0_11 a0_12 _ _ l0_13 t145 _ ?side1 ?side2 ?side3 ?side4 ?side5 ?side6 A30.out).mono ?_); (case side1 => repeat (first | exact (Kd.C_below HR0_6.out HB.out) | (with_reducible refine Kd.C_alloc ?_ _) | (with_reducible refine Kd.C_drewN ?_ _) | (with_reducible refine Kd.C_drew ?_))); (case side2 => exact HC0_6.out); (case side3 => repeat (first | exact (Kd.C_below HR0_9.out HB.out) | (with_reducible refine Kd.C_alloc ?_ _) | (with_reducible refine Kd.C_drewN ?_ _) | (with_reducible refine Kd.C_drew ?_))); (case side4 => exact HC0_9.out); (case side5 => repeat (first | exact (Kd.C_below HR0_13.out HB.out) | (with_reducible refine Kd.C_alloc ?_ _) | (with_reducible refine Kd.C_drewN ?_ _) | (with_reducible refine Kd.C_drew ?_))); (case side6 => exact HC0_13.out); rintro e w34 ⟨rfl, hb⟩; refine ⟨_, rfl, ?_⟩; have n0_ := Aside0.mk (blk_below (g := gb137) (o := .cells #[.int .i64 a0_0, .int .i64 a0_1, .int .i64 a0_2, .int .i64 a0_3, .int .i64 a0_4, .int .i64 a0_5, .slice A0_6 l0_6.length c0_6, .bool a0_7, .int .i64 a0_8, .slice A0_9 l0_9.length c0_9, .int .i64 a0_10, .int .i64 a0_11, .int .i64 a0_12, .slice A0_13 l0_13.length c0_13] 84 (0, 0)) (by (with_reducible repeat (first | refine blk_drewN ?_ _ | refine blk_drew ?_ | refine blk_alloc ?_ _)); exact BK137.out) hb); have n1_ := Aside0.mk (below_step (by repeat (first | (with_reducible first | exact HB.out | apply below_alloc | apply pw_below_drewN | apply below_drew1 | refine below_set ?_ GE137.out) | exact HB.out)) hb); clear BK137; clear HB; have BK137 := n0_; have HB := n1_; clear n0_ n1_; (try clear hb); (try clear hb2); (try clear hk); (try clear hi)))
                    go_ret
                    exact ⟨by first | rfl | (simp [errW_none, errW_some] <;> rfl) | (simp [*, errW_none, errW_some] <;> rfl), by repeat (first | (with_reducible first | exact HB.out | apply below_alloc | apply pw_below_drewN | apply below_drew1 | refine below_set ?_ GE137.out) | exact HB.out)⟩
                  · rw [if_neg c29] at H
                    have c29b0 : (a0_0 == 2) = false := beq_eq_false_iff_ne.mpr c29
                    have c29b1 : (a0_0 != 2) = true := bne_iff_ne.mpr c29
                    obtain rfl := Option.some.inj H
                    have hcz35_0 : wc.cell? ⟨gb137, 0, none⟩ = some (.int .i64 a0_0) := (blk_cell BK137.out 0).trans rfl
                    have hcz35_1 : wc.cell? ⟨gb137, 1, none⟩ = some (.int .i64 a0_1) := (blk_cell BK137.out 1).trans rfl
                    have hcz35_2 : wc.cell? ⟨gb137, 2, none⟩ = some (.int .i64 a0_2) := (blk_cell BK137.out 2).trans rfl
                    have hcz35_3 : wc.cell? ⟨gb137, 3, none⟩ = some (.int .i64 a0_3) := (blk_cell BK137.out 3).trans rfl
                    have hcz35_4 : wc.cell? ⟨gb137, 4, none⟩ = some (.int .i64 a0_4) := (blk_cell BK137.out 4).trans rfl
                    have hcz35_5 : wc.cell? ⟨gb137, 5, none⟩ = some (.int .i64 a0_5) := (blk_cell BK137.out 5).trans rfl
                    have hcz35_6 : wc.cell? ⟨gb137, 6, none⟩ = some (.slice A0_6 l0_6.length c0_6) := (blk_cell BK137.out 6).trans rfl
                    have hcz35_7 : wc.cell? ⟨gb137, 7, none⟩ = some (.bool a0_7) := (blk_cell BK137.out 7).trans rfl
                    have hcz35_8 : wc.cell? ⟨gb137, 8, none⟩ = some (.int .i64 a0_8) := (blk_cell BK137.out 8).trans rfl
                    have hcz35_9 : wc.cell? ⟨gb137, 9, none⟩ = some (.slice A0_9 l0_9.length c0_9) := (blk_cell BK137.out 9).trans rfl
                    have hcz35_10 : wc.cell? ⟨gb137, 10, none⟩ = some (.int .i64 a0_10) := (blk_cell BK137.out 10).trans rfl
                    have hcz35_11 : wc.cell? ⟨gb137, 11, none⟩ = some (.int .i64 a0_11) := (blk_cell BK137.out 11).trans rfl
                    have hcz35_12 : wc.cell? ⟨gb137, 12, none⟩ = some (.int .i64 a0_12) := (blk_cell BK137.out 12).trans rfl
                    have hcz35_13 : wc.cell? ⟨gb137, 13, none⟩ = some (.slice A0_13 l0_13.length c0_13) := (blk_cell BK137.out 13).trans rfl
                    have hfz35_0 := blk_frozen BK137.out 0
                    have hfz35_1 := blk_frozen BK137.out 1
                    have hfz35_2 := blk_frozen BK137.out 2
                    have hfz35_3 := blk_frozen BK137.out 3
                    have hfz35_4 := blk_frozen BK137.out 4
                    have hfz35_5 := blk_frozen BK137.out 5
                    have hfz35_6 := blk_frozen BK137.out 6
                    have hfz35_7 := blk_frozen BK137.out 7
                    have hfz35_8 := blk_frozen BK137.out 8
                    have hfz35_9 := blk_frozen BK137.out 9
                    have hfz35_10 := blk_frozen BK137.out 10
                    have hfz35_11 := blk_frozen BK137.out 11
                    have hfz35_12 := blk_frozen BK137.out 12
                    have hfz35_13 := blk_frozen BK137.out 13
                    go_wp2_with (first | ((with_reducible refine gate_callee (f := 104) rfl ?_); refine goesL_ (some 44) rfl rfl Try.func104 (by kernel_rfl) rfl #[.agg #[.int .i64 a0_0, .int .i64 a0_1, .int .i64 a0_2, .int .i64 a0_3, .int .i64 a0_4, .int .i64 a0_5, .slice A0_6 l0_6.length c0_6, .bool a0_7, .int .i64 a0_8, .slice A0_9 l0_9.length c0_9, .int .i64 a0_10, .int .i64 a0_11, .int .i64 a0_12, .slice A0_13 l0_13.length c0_13]] rfl (by (try simp only [List.map_toArray, List.map_cons, List.map_nil]); first | done | rfl | (simp only [List.length_drop, List.length_take]; rfl)) ?_; (with_reducible refine (spec_l4Bare.calls kj17 a0_0 a0_1 a0_2 a0_3 a0_4 a0_5 _ _ l0_6 a0_7 a0_8 _ _ l0_9 a0_10 a0_11 a0_12 _ _ l0_13 true _ ?side1 ?side2 ?side3 ?side4 ?side5 ?side6 A27.out).mono ?_); (case side1 => repeat (first | exact (Kd.C_below HR0_6.out HB.out) | (with_reducible refine Kd.C_alloc ?_ _) | (with_reducible refine Kd.C_drewN ?_ _) | (with_reducible refine Kd.C_drew ?_))); (case side2 => exact HC0_6.out); (case side3 => repeat (first | exact (Kd.C_below HR0_9.out HB.out) | (with_reducible refine Kd.C_alloc ?_ _) | (with_reducible refine Kd.C_drewN ?_ _) | (with_reducible refine Kd.C_drew ?_))); (case side4 => exact HC0_9.out); (case side5 => repeat (first | exact (Kd.C_below HR0_13.out HB.out) | (with_reducible refine Kd.C_alloc ?_ _) | (with_reducible refine Kd.C_drewN ?_ _) | (with_reducible refine Kd.C_drew ?_))); (case side6 => exact HC0_13.out); rintro e w36 ⟨rfl, hb⟩; refine ⟨_, rfl, ?_⟩; have n0_ := Aside0.mk (blk_below (g := gb137) (o := .cells #[.int .i64 a0_0, .int .i64 a0_1, .int .i64 a0_2, .int .i64 a0_3, .int .i64 a0_4, .int .i64 a0_5, .slice A0_6 l0_6.length c0_6, .bool a0_7, .int .i64 a0_8, .slice A0_9 l0_9.length c0_9, .int .i64 a0_10, .int .i64 a0_11, .int .i64 a0_12, .slice A0_13 l0_13.length c0_13] 84 (0, 0)) (by (with_reducible repeat (first | refine blk_drewN ?_ _ | refine blk_drew ?_ | refine blk_alloc ?_ _)); exact BK137.out) hb); have n1_ := Aside0.mk (below_step (by repeat (first | (with_reducible first | exact HB.out | apply below_alloc | apply pw_below_drewN | apply below_drew1 | refine below_set ?_ GE137.out) | exact HB.out)) hb); clear BK137; clear HB; have BK137 := n0_; have HB := n1_; clear n0_ n1_; (try clear hb); (try clear hb2); (try clear hk); (try clear hi); have hcz37_0 : w36.cell? ⟨gb137, 0, none⟩ = some (.int .i64 a0_0) := (blk_cell BK137.out 0).trans rfl; have hcz37_1 : w36.cell? ⟨gb137, 1, none⟩ = some (.int .i64 a0_1) := (blk_cell BK137.out 1).trans rfl; have hcz37_2 : w36.cell? ⟨gb137, 2, none⟩ = some (.int .i64 a0_2) := (blk_cell BK137.out 2).trans rfl; have hcz37_3 : w36.cell? ⟨gb137, 3, none⟩ = some (.int .i64 a0_3) := (blk_cell BK137.out 3).trans rfl; have hcz37_4 : w36.cell? ⟨gb137, 4, none⟩ = some (.int .i64 a0_4) := (blk_cell BK137.out 4).trans rfl; have hcz37_5 : w36.cell? ⟨gb137, 5, none⟩ = some (.int .i64 a0_5) := (blk_cell BK137.out 5).trans rfl; have hcz37_6 : w36.cell? ⟨gb137, 6, none⟩ = some (.slice A0_6 l0_6.length c0_6) := (blk_cell BK137.out 6).trans rfl; have hcz37_7 : w36.cell? ⟨gb137, 7, none⟩ = some (.bool a0_7) := (blk_cell BK137.out 7).trans rfl; have hcz37_8 : w36.cell? ⟨gb137, 8, none⟩ = some (.int .i64 a0_8) := (blk_cell BK137.out 8).trans rfl; have hcz37_9 : w36.cell? ⟨gb137, 9, none⟩ = some (.slice A0_9 l0_9.length c0_9) := (blk_cell BK137.out 9).trans rfl; have hcz37_10 : w36.cell? ⟨gb137, 10, none⟩ = some (.int .i64 a0_10) := (blk_cell BK137.out 10).trans rfl; have hcz37_11 : w36.cell? ⟨gb137, 11, none⟩ = some (.int .i64 a0_11) := (blk_cell BK137.out 11).trans rfl; have hcz37_12 : w36.cell? ⟨gb137, 12, none⟩ = some (.int .i64 a0_12) := (blk_cell BK137.out 12).trans rfl; have hcz37_13 : w36.cell? ⟨gb137, 13, none⟩ = some (.slice A0_13 l0_13.length c0_13) := (blk_cell BK137.out 13).trans rfl; have hfz37_0 := blk_frozen BK137.out 0; have hfz37_1 := blk_frozen BK137.out 1; have hfz37_2 := blk_frozen BK137.out 2; have hfz37_3 := blk_frozen BK137.out 3; have hfz37_4 := blk_frozen BK137.out 4; have hfz37_5 := blk_frozen BK137.out 5; have hfz37_6 := blk_frozen BK137.out 6; have hfz37_7 := blk_frozen BK137.out 7; have hfz37_8 := blk_frozen BK137.out 8; have hfz37_9 := blk_frozen BK137.out 9; have hfz37_10 := blk_frozen BK137.out 10; have hfz37_11 := blk_frozen BK137.out 11; have hfz37_12 := blk_frozen BK137.out 12; have hfz37_13 := blk_frozen BK137.out 13))
                    go_ret
                    exact ⟨by first | rfl | (simp [errW_none, errW_some] <;> rfl) | (simp [*, errW_none, errW_some] <;> rfl), by repeat (first | (with_reducible first | exact HB.out | apply below_alloc | apply pw_below_drewN | apply below_drew1 | refine below_set ?_ GE137.out) | exact HB.out)⟩
                · replace c28 := Bool.eq_false_iff.mpr c28
                  subst c28
                  have H1 : (some 1) = some r := by rw [if_neg (show ¬ (false = true) by decide)] at H; first | done | exact H
                  clear H
                  have H := H1
                  clear H1
                  obtain rfl := Option.some.inj H
                  have hcz38_0 : wc.cell? ⟨gb137, 0, none⟩ = some (.int .i64 a0_0) := (blk_cell BK137.out 0).trans rfl
                  have hcz38_1 : wc.cell? ⟨gb137, 1, none⟩ = some (.int .i64 a0_1) := (blk_cell BK137.out 1).trans rfl
                  have hcz38_2 : wc.cell? ⟨gb137, 2, none⟩ = some (.int .i64 a0_2) := (blk_cell BK137.out 2).trans rfl
                  have hcz38_3 : wc.cell? ⟨gb137, 3, none⟩ = some (.int .i64 a0_3) := (blk_cell BK137.out 3).trans rfl
                  have hcz38_4 : wc.cell? ⟨gb137, 4, none⟩ = some (.int .i64 a0_4) := (blk_cell BK137.out 4).trans rfl
                  have hcz38_5 : wc.cell? ⟨gb137, 5, none⟩ = some (.int .i64 a0_5) := (blk_cell BK137.out 5).trans rfl
                  have hcz38_6 : wc.cell? ⟨gb137, 6, none⟩ = some (.slice A0_6 l0_6.length c0_6) := (blk_cell BK137.out 6).trans rfl
                  have hcz38_7 : wc.cell? ⟨gb137, 7, none⟩ = some (.bool a0_7) := (blk_cell BK137.out 7).trans rfl
                  have hcz38_8 : wc.cell? ⟨gb137, 8, none⟩ = some (.int .i64 a0_8) := (blk_cell BK137.out 8).trans rfl
                  have hcz38_9 : wc.cell? ⟨gb137, 9, none⟩ = some (.slice A0_9 l0_9.length c0_9) := (blk_cell BK137.out 9).trans rfl
                  have hcz38_10 : wc.cell? ⟨gb137, 10, none⟩ = some (.int .i64 a0_10) := (blk_cell BK137.out 10).trans rfl
                  have hcz38_11 : wc.cell? ⟨gb137, 11, none⟩ = some (.int .i64 a0_11) := (blk_cell BK137.out 11).trans rfl
                  have hcz38_12 : wc.cell? ⟨gb137, 12, none⟩ = some (.int .i64 a0_12) := (blk_cell BK137.out 12).trans rfl
                  have hcz38_13 : wc.cell? ⟨gb137, 13, none⟩ = some (.slice A0_13 l0_13.length c0_13) := (blk_cell BK137.out 13).trans rfl
                  have hfz38_0 := blk_frozen BK137.out 0
                  have hfz38_1 := blk_frozen BK137.out 1
                  have hfz38_2 := blk_frozen BK137.out 2
                  have hfz38_3 := blk_frozen BK137.out 3
                  have hfz38_4 := blk_frozen BK137.out 4
                  have hfz38_5 := blk_frozen BK137.out 5
                  have hfz38_6 := blk_frozen BK137.out 6
                  have hfz38_7 := blk_frozen BK137.out 7
                  have hfz38_8 := blk_frozen BK137.out 8
                  have hfz38_9 := blk_frozen BK137.out 9
                  have hfz38_10 := blk_frozen BK137.out 10
                  have hfz38_11 := blk_frozen BK137.out 11
                  have hfz38_12 := blk_frozen BK137.out 12
                  have hfz38_13 := blk_frozen BK137.out 13
                  go_wp2_with (first | ((with_reducible refine gate_callee (f := 104) rfl ?_); refine goesL_ (some 44) rfl rfl Try.func104 (by kernel_rfl) rfl #[.agg #[.int .i64 a0_0, .int .i64 a0_1, .int .i64 a0_2, .int .i64 a0_3, .int .i64 a0_4, .int .i64 a0_5, .slice A0_6 l0_6.length c0_6, .bool a0_7, .int .i64 a0_8, .slice A0_9 l0_9.length c0_9, .int .i64 a0_10, .int .i64 a0_11, .int .i64 a0_12, .slice A0_13 l0_13.length c0_13]] rfl (by (try simp only [List.map_toArray, List.map_cons, List.map_nil]); first | done | rfl | (simp only [List.length_drop, List.length_take]; rfl)) ?_; (with_reducible refine (spec_l4Bare.calls kj17 a0_0 a0_1 a0_2 a0_3 a0_4 a0_5 _ _ l0_6 a0_7 a0_8 _ _ l0_9 a0_10 a0_11 a0_12 _ _ l0_13 false _ ?side1 ?side2 ?side3 ?side4 ?side5 ?side6 A27.out).mono ?_); (case side1 => repeat (first | exact (Kd.C_below HR0_6.out HB.out) | (with_reducible refine Kd.C_alloc ?_ _) | (with_reducible refine Kd.C_drewN ?_ _) | (with_reducible refine Kd.C_drew ?_))); (case side2 => exact HC0_6.out); (case side3 => repeat (first | exact (Kd.C_below HR0_9.out HB.out) | (with_reducible refine Kd.C_alloc ?_ _) | (with_reducible refine Kd.C_drewN ?_ _) | (with_reducible refine Kd.C_drew ?_))); (case side4 => exact HC0_9.out); (case side5 => repeat (first | exact (Kd.C_below HR0_13.out HB.out) | (with_reducible refine Kd.C_alloc ?_ _) | (with_reducible refine Kd.C_drewN ?_ _) | (with_reducible refine Kd.C_drew ?_))); (case side6 => exact HC0_13.out); rintro e w39 ⟨rfl, hb⟩; refine ⟨_, rfl, ?_⟩; have n0_ := Aside0.mk (blk_below (g := gb137) (o := .cells #[.int .i64 a0_0, .int .i64 a0_1, .int .i64 a0_2, .int .i64 a0_3, .int .i64 a0_4, .int .i64 a0_5, .slice A0_6 l0_6.length c0_6, .bool a0_7, .int .i64 a0_8, .slice A0_9 l0_9.length c0_9, .int .i64 a0_10, .int .i64 a0_11, .int .i64 a0_12, .slice A0_13 l0_13.length c0_13] 84 (0, 0)) (by (with_reducible repeat (first | refine blk_drewN ?_ _ | refine blk_drew ?_ | refine blk_alloc ?_ _)); exact BK137.out) hb); have n1_ := Aside0.mk (below_step (by repeat (first | (with_reducible first | exact HB.out | apply below_alloc | apply pw_below_drewN | apply below_drew1 | refine below_set ?_ GE137.out) | exact HB.out)) hb); clear BK137; clear HB; have BK137 := n0_; have HB := n1_; clear n0_ n1_; (try clear hb); (try clear hb2); (try clear hk); (try clear hi)))
                  go_ret
                  exact ⟨by first | rfl | (simp [errW_none, errW_some] <;> rfl) | (simp [*, errW_none, errW_some] <;> rfl), by repeat (first | (with_reducible first | exact HB.out | apply below_alloc | apply pw_below_drewN | apply below_drew1 | refine below_set ?_ GE137.out) | exact HB.out)⟩
  · replace c3 := Bool.eq_false_iff.mpr c3
    subst c3
    have H1 : (some 1) = some r := by rw [if_neg (show ¬ (false = true) by decide)] at H; first | done | exact H
    clear H
    have H := H1
    clear H1
    obtain rfl := Option.some.inj H
    go_enter Try.func41, Try.ntmps41
    go_wp2_with (first | ((with_reducible refine gate_dst (N := 1) rfl ?_); refine box_event ?hg (N := 1) ?hd (cs := #[.int .i64 a0_0, .int .i64 a0_1, .int .i64 a0_2, .int .i64 a0_3, .int .i64 a0_4, .int .i64 a0_5, .slice A0_6 l0_6.length c0_6, .bool a0_7, .int .i64 a0_8, .slice A0_9 l0_9.length c0_9, .int .i64 a0_10, .int .i64 a0_11, .int .i64 a0_12, .slice A0_13 l0_13.length c0_13]) (t := 84) ?hr ?_; (case hd => rfl); (case hg => rfl); (case hr => first | (go_simp; done) | (go_simp; rfl)); intro gb137 hg w40 hbox hb; have n0_ := Aside0.mk (below_step (by repeat (first | (with_reducible first | exact HB.out | apply below_alloc | apply pw_below_drewN | apply below_drew1) | exact HB.out)) hb); have n1_ := Aside0.mk (hbox); have n2_ := Aside0.mk ((by rw [hg]; exact (below_size (by repeat (first | (with_reducible first | exact HB.out | apply below_alloc | apply pw_below_drewN | apply below_drew1) | exact HB.out))) : w.heap.size ≤ gb137)); have n3_ := Aside0.mk ((by rw [hg]; exact (below_size (by repeat (first | (with_reducible first | exact HB.out | apply below_alloc | apply pw_below_drewN | apply below_drew1) | exact HB.out))) : w.heap.size ≤ gb137)); clear HB; have HB := n0_; have BK137 := n1_; have GW137 := n2_; have GE137 := n3_; clear n0_ n1_ n2_ n3_; clear hb hbox hg; have hcz41_0 : w40.cell? ⟨gb137, 0, none⟩ = some (.int .i64 a0_0) := (blk_cell BK137.out 0).trans rfl; have hcz41_1 : w40.cell? ⟨gb137, 1, none⟩ = some (.int .i64 a0_1) := (blk_cell BK137.out 1).trans rfl; have hcz41_2 : w40.cell? ⟨gb137, 2, none⟩ = some (.int .i64 a0_2) := (blk_cell BK137.out 2).trans rfl; have hcz41_3 : w40.cell? ⟨gb137, 3, none⟩ = some (.int .i64 a0_3) := (blk_cell BK137.out 3).trans rfl; have hcz41_4 : w40.cell? ⟨gb137, 4, none⟩ = some (.int .i64 a0_4) := (blk_cell BK137.out 4).trans rfl; have hcz41_5 : w40.cell? ⟨gb137, 5, none⟩ = some (.int .i64 a0_5) := (blk_cell BK137.out 5).trans rfl; have hcz41_6 : w40.cell? ⟨gb137, 6, none⟩ = some (.slice A0_6 l0_6.length c0_6) := (blk_cell BK137.out 6).trans rfl; have hcz41_7 : w40.cell? ⟨gb137, 7, none⟩ = some (.bool a0_7) := (blk_cell BK137.out 7).trans rfl; have hcz41_8 : w40.cell? ⟨gb137, 8, none⟩ = some (.int .i64 a0_8) := (blk_cell BK137.out 8).trans rfl; have hcz41_9 : w40.cell? ⟨gb137, 9, none⟩ = some (.slice A0_9 l0_9.length c0_9) := (blk_cell BK137.out 9).trans rfl; have hcz41_10 : w40.cell? ⟨gb137, 10, none⟩ = some (.int .i64 a0_10) := (blk_cell BK137.out 10).trans rfl; have hcz41_11 : w40.cell? ⟨gb137, 11, none⟩ = some (.int .i64 a0_11) := (blk_cell BK137.out 11).trans rfl; have hcz41_12 : w40.cell? ⟨gb137, 12, none⟩ = some (.int .i64 a0_12) := (blk_cell BK137.out 12).trans rfl; have hcz41_13 : w40.cell? ⟨gb137, 13, none⟩ = some (.slice A0_13 l0_13.length c0_13) := (blk_cell BK137.out 13).trans rfl; have hfz41_0 := blk_frozen BK137.out 0; have hfz41_1 := blk_frozen BK137.out 1; have hfz41_2 := blk_frozen BK137.out 2; have hfz41_3 := blk_frozen BK137.out 3; have hfz41_4 := blk_frozen BK137.out 4; have hfz41_5 := blk_frozen BK137.out 5; have hfz41_6 := blk_frozen BK137.out 6; have hfz41_7 := blk_frozen BK137.out 7; have hfz41_8 := blk_frozen BK137.out 8; have hfz41_9 := blk_frozen BK137.out 9; have hfz41_10 := blk_frozen BK137.out 10; have hfz41_11 := blk_frozen BK137.out 11; have hfz41_12 := blk_frozen BK137.out 12; have hfz41_13 := blk_frozen BK137.out 13) | ((with_reducible refine gate_callee (f := 75) rfl ?_); refine goesL_ (some 5) rfl rfl Try.func75 (by kernel_rfl) rfl #[.int .i64 a0_0, .int .i64 1, .int .i64 4] rfl (by (try simp only [List.map_toArray, List.map_cons, List.map_nil]); first | done | rfl | (simp only [List.length_drop, List.length_take]; rfl)) ?_; (with_reducible refine (spec_l1In.calls a0_0 1 4 false _ A2.out).mono ?_); rintro e w' ⟨rfl, ⟨nd, rfl⟩⟩; refine ⟨_, rfl, ?_⟩))
    go_ret
    exact ⟨by first | rfl | (simp [errW_none, errW_some] <;> rfl) | (simp [*, errW_none, errW_some] <;> rfl), by repeat (first | (with_reducible first | exact HB.out | apply below_alloc | apply pw_below_drewN | apply below_drew1 | refine below_set ?_ GE137.out) | exact HB.out)⟩

end Go.Proofs.Ytjbeehechclccad.PFnExactMessageFault
