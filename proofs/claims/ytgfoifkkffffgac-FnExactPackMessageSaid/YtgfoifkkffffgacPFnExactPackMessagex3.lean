-- Laid by a turned copy of the printer (wip/tools/patch_print.py)
import Derived.Test.YtgfoifkkffffgacPFnExactPackMessagex0
import Derived.Test.YtgfoifkkffffgacPFnExactPackMessagex1
import Derived.Test.YtgfoifkkffffgacPFnExactPackMessagex2
namespace Go.Proofs.Ytgfoifkkffffgac.PFnExactPackMessage
open Go.RowKit Go.Proofs.YtgfoifkkffffgacW.PrintWords Go.Proofs.YtgfoifkkffffgacW.PrintLast Go.Proofs.YtgfoifkkffffgacW.PrintMore
attribute [local go_sem] max2_int min2_int max_two min_two max_three min_three max_four min_four   -- for this text's walks alone
set_option linter.unusedVariables false
set_option linter.unusedSimpArgs false

/-! ### spec_UpdateFault: function 31 -/
mutual
def spec_UpdateFault.j0 : Nat → Bool → List (S91) → Bool → Int → List Int → Int → Int → Int → List (S91) → Option (Int)
 | 0, _, _, _, _, _, _, _, _, _ => none
 | k + 1, x14, x126000, x126001, x126002, x126003, x126004, x126005, x126006, x126007 => if x14 = true then (some 2) else ((spec_l2List.f k x126000).bind fun t126 => (if t126 = 0 then ((spec_l2List.f k x126007).bind fun t127 => (if t127 = 0 then (if x126001 = true then (spec_UpdateFault.j1 k ((x126007.length : Int) == 0) x126000 x126001 x126002 x126003 x126004 x126005 x126006 x126007) else (if (x126007.length : Int) > 0 then (spec_UpdateFault.j1 k true x126000 x126001 x126002 x126003 x126004 x126005 x126006 x126007) else ((spec_l3Zero.f x126002 x126003 x126004 x126005 x126006).bind fun t128 => (if t128 = true then (spec_UpdateFault.j1 k false x126000 x126001 x126002 x126003 x126004 x126005 x126006 x126007) else (spec_UpdateFault.j1 k true x126000 x126001 x126002 x126003 x126004 x126005 x126006 x126007))))) else (some t127))) else (some t126)))
def spec_UpdateFault.j1 : Nat → Bool → List (S91) → Bool → Int → List Int → Int → Int → Int → List (S91) → Option (Int)
 | 0, _, _, _, _, _, _, _, _, _ => none
 | k + 1, x51, x126000, x126001, x126002, x126003, x126004, x126005, x126006, x126007 => if x51 = true then (some 1) else (if x126001 = true then ((spec_AttrsFault.f k x126002 x126003 x126004 x126005 x126006).bind fun t129 => (some t129)) else (some 0))
end
def spec_UpdateFault.f (k : Nat) (l0_0 : List (S91)) (a0_1 : Bool) (a0_2 : Int) (l0_3 : List Int) (a0_4 : Int) (a0_5 : Int) (a0_6 : Int) (l0_7 : List (S91)) : Option (Int) := if (l0_0.length : Int) > 8 then (spec_UpdateFault.j0 k true l0_0 a0_1 a0_2 l0_3 a0_4 a0_5 a0_6 l0_7) else (spec_UpdateFault.j0 k (decide ((l0_7.length : Int) > 8)) l0_0 a0_1 a0_2 l0_3 a0_4 a0_5 a0_6 l0_7)
theorem spec_UpdateFault.mono_l : ∀ k, (∀ y0 y1 y2 y3 y4 y5 y6 y7 y8, LeO (spec_UpdateFault.j0 k y0 y1 y2 y3 y4 y5 y6 y7 y8) (spec_UpdateFault.j0 (k + 1) y0 y1 y2 y3 y4 y5 y6 y7 y8)) ∧ (∀ y0 y1 y2 y3 y4 y5 y6 y7 y8, LeO (spec_UpdateFault.j1 k y0 y1 y2 y3 y4 y5 y6 y7 y8) (spec_UpdateFault.j1 (k + 1) y0 y1 y2 y3 y4 y5 y6 y7 y8))
 | 0 => ⟨fun _ _ _ _ _ _ _ _ _ r h => by simp [spec_UpdateFault.j0] at h, fun _ _ _ _ _ _ _ _ _ r h => by simp [spec_UpdateFault.j1] at h⟩
 | k + 1 => by
  obtain ⟨ih0, ih1⟩ := spec_UpdateFault.mono_l k
  refine ⟨?_, ?_⟩
  ·
   intro y0 y1 y2 y3 y4 y5 y6 y7 y8
   unfold spec_UpdateFault.j0
   repeat' first
   | (with_reducible exact ih0 _ _ _ _ _ _ _ _ _)
   | (with_reducible exact ih1 _ _ _ _ _ _ _ _ _)
   | (with_reducible exact spec_AttrsFault.mono _ _ _ _ _ _)
   | (with_reducible exact spec_l2List.mono _ _)
   | (with_reducible exact LeO.refl _)
   | (with_reducible exact LeO.none _)
   | (with_reducible refine LeO.ite ?_ ?_)
   | (with_reducible refine LeO.bind ?_ (fun _ => ?_))
   | exact ih0 _ _ _ _ _ _ _ _ _
   | exact ih1 _ _ _ _ _ _ _ _ _
   | exact spec_AttrsFault.mono _ _ _ _ _ _
   | exact spec_l2List.mono _ _
   | exact LeO.none _
   | refine LeO.ite ?_ ?_
   | refine LeO.bind ?_ (fun _ => ?_)
  ·
   intro y0 y1 y2 y3 y4 y5 y6 y7 y8
   unfold spec_UpdateFault.j1
   repeat' first
   | (with_reducible exact ih0 _ _ _ _ _ _ _ _ _)
   | (with_reducible exact ih1 _ _ _ _ _ _ _ _ _)
   | (with_reducible exact spec_AttrsFault.mono _ _ _ _ _ _)
   | (with_reducible exact spec_l2List.mono _ _)
   | (with_reducible exact LeO.refl _)
   | (with_reducible exact LeO.none _)
   | (with_reducible refine LeO.ite ?_ ?_)
   | (with_reducible refine LeO.bind ?_ (fun _ => ?_))
   | exact ih0 _ _ _ _ _ _ _ _ _
   | exact ih1 _ _ _ _ _ _ _ _ _
   | exact spec_AttrsFault.mono _ _ _ _ _ _
   | exact spec_l2List.mono _ _
   | exact LeO.none _
   | refine LeO.ite ?_ ?_
   | refine LeO.bind ?_ (fun _ => ?_)
theorem spec_UpdateFault.mono : ∀ a0 a1 a2 a3 a4 a5 a6 a7 k, LeO (spec_UpdateFault.f k a0 a1 a2 a3 a4 a5 a6 a7) (spec_UpdateFault.f (k + 1) a0 a1 a2 a3 a4 a5 a6 a7) := by
 intro a0 a1 a2 a3 a4 a5 a6 a7 k
 obtain ⟨ih0, ih1⟩ := spec_UpdateFault.mono_l k
 unfold spec_UpdateFault.f
 repeat' first
   | (with_reducible exact ih0 _ _ _ _ _ _ _ _ _)
   | (with_reducible exact ih1 _ _ _ _ _ _ _ _ _)
   | (with_reducible exact spec_AttrsFault.mono _ _ _ _ _ _)
   | (with_reducible exact spec_l2List.mono _ _)
   | (with_reducible exact LeO.refl _)
   | (with_reducible exact LeO.none _)
   | (with_reducible refine LeO.ite ?_ ?_)
   | (with_reducible refine LeO.bind ?_ (fun _ => ?_))
   | exact ih0 _ _ _ _ _ _ _ _ _
   | exact ih1 _ _ _ _ _ _ _ _ _
   | exact spec_AttrsFault.mono _ _ _ _ _ _
   | exact spec_l2List.mono _ _
   | exact LeO.none _
   | refine LeO.ite ?_ ?_
   | refine LeO.bind ?_ (fun _ => ?_)
set_option maxHeartbeats 8000000 in
set_option maxRecDepth 100000 in
theorem spec_UpdateFault.calls (k : Nat) (A0_0 : Option Addr) (c0_0 : Nat) (l0_0 : List (S91)) (a0_1 : Bool) (a0_2 : Int) (A0_3 : Option Addr) (c0_3 : Nat) (l0_3 : List Int) (a0_4 : Int) (a0_5 : Int) (a0_6 : Int) (A0_7 : Option Addr) (c0_7 : Nat) (l0_7 : List (S91)) (r : Int) (w : World) (hr0_0 : Kd.C k91 w A0_0 l0_0.length l0_0) (hc0_0 : l0_0.length ≤ c0_0) (hr0_3 : Kd.C (Kd.int .i64) w A0_3 l0_3.length l0_3) (hc0_3 : l0_3.length ≤ c0_3) (hr0_7 : Kd.C k91 w A0_7 l0_7.length l0_7) (hc0_7 : l0_7.length ≤ c0_7) (h : spec_UpdateFault.f k l0_0 a0_1 a0_2 l0_3 a0_4 a0_5 a0_6 l0_7 = some r) :
  Calls Try.prog 31 #[.agg #[.slice A0_0 l0_0.length c0_0, .bool a0_1, .int .i64 a0_2, .slice A0_3 l0_3.length c0_3, .int .i64 a0_4, .int .i64 a0_5, .int .i64 a0_6, .slice A0_7 l0_7.length c0_7]] w fun e w' => e = .returned (.int .i64 r) ∧ Below w.heap.size w w' := by
 have hu38 := Try.underlying38
 have hu36 := Try.underlying36
 have HR0_0 := Aside0.mk hr0_0
 have HC0_0 := Aside0.mk hc0_0
 clear hr0_0 hc0_0
 have HR0_3 := Aside0.mk hr0_3
 have HC0_3 := Aside0.mk hc0_3
 clear hr0_3 hc0_3
 have HR0_7 := Aside0.mk hr0_7
 have HC0_7 := Aside0.mk hc0_7
 clear hr0_7 hc0_7
 have HB := Aside0.mk (Below.refl w.heap.size w)
 have H : (if (l0_0.length : Int) > 8 then (spec_UpdateFault.j0 k true l0_0 a0_1 a0_2 l0_3 a0_4 a0_5 a0_6 l0_7) else (spec_UpdateFault.j0 k (decide ((l0_7.length : Int) > 8)) l0_0 a0_1 a0_2 l0_3 a0_4 a0_5 a0_6 l0_7)) = some r := h
 clear h
 have HC2 := Aside0.mk H
 clear H
 go_enter Try.func31, Try.ntmps31
 go_upto_region 1 with (first | ((with_reducible refine gate_dst (N := 1) rfl ?_); (try (refine gate_guard (by rfl) ?_; dsimp only)); refine boxE #[.slice A0_0 l0_0.length c0_0, .bool a0_1, .int .i64 a0_2, .slice A0_3 l0_3.length c0_3, .int .i64 a0_4, .int .i64 a0_5, .int .i64 a0_6, .slice A0_7 l0_7.length c0_7] 38 (N := 1) rfl rfl ?_; intro gb125 hg w3 hbox hb; have BK125 := Aside0.mk hbox; have GW125 := gZ HB hg; have GE125 := gZ HB hg; replace HB := bS HB hb; clear hb hbox hg))
 (try simp only [Act.put, List.setIfInBounds_toArray, List.set_cons_zero, List.set_cons_succ])
 go_cut [14] (fun v14 wc => ∃ (kq : Nat) (x14_1 : Bool), v14 = .bool x14_1 ∧ Aside0 (spec_UpdateFault.j0 kq x14_1 l0_0 a0_1 a0_2 l0_3 a0_4 a0_5 a0_6 l0_7 = some r) ∧ Aside0 (kq ≤ k) ∧ Aside0 (wc.heap[gb125]? = some (.cells #[(.slice A0_0 l0_0.length c0_0), .bool a0_1, .int .i64 a0_2, (.slice A0_3 l0_3.length c0_3), .int .i64 a0_4, .int .i64 a0_5, .int .i64 a0_6, (.slice A0_7 l0_7.length c0_7)] 38 (0, 0))) ∧ Aside0 (Below w.heap.size w wc))
 case first =>
  have H := HC2.out
  clear HC2
  by_cases c4 : (l0_0.length : Int) > 8
  ·
   rw [if_pos c4] at H
   have c4b0 : decide (8 < (l0_0.length : Int)) = true := decide_eq_true c4
   have c4b1 : decide (8 < l0_0.length) = true := decide_eq_true (by omega)
   have c4e := eq_true c4
   clear c4
   (first | rw [c4b0] | (simp only [i64_w, i32_w]; rw [c4b0]) | skip)
   (try simp only [c4b0, c4b1]); (try (with_reducible refine iteP ?_; simp only [c4e, ↓reduceIte]))
   have H' := Aside0.mk H
   clear H
   have hz5 := cl8 BK125
   go_wp2
   first | go_meet | (refine Met.intro ?_; go_step; (repeat apply Exists.intro); refine ⟨?rel, ?eqq⟩; (case eqq => (try simp only [c4b0]); (try simp only [c4b1]); rfl))
   case rel => exact ⟨_, (true), (by first | rfl | (simp; done) | (simp [*]; done)), H', ⟨by first | omega | exact Nat.le_refl _⟩, ⟨by (with_reducible repeat (first | refine blk_drewN ?_ _ | refine blk_drew ?_ | refine blk_alloc ?_ _)); exact BK125.out⟩, ⟨bel HB⟩⟩
  ·
   rw [if_neg c4] at H
   have c4b0 : decide (8 < (l0_0.length : Int)) = false := decide_eq_false c4
   have c4b1 : decide (8 < l0_0.length) = false := decide_eq_false (by omega)
   have c4e := eq_false c4
   clear c4
   (first | rw [c4b0] | (simp only [i64_w, i32_w]; rw [c4b0]) | skip)
   (try simp only [c4b0, c4b1]); (try (with_reducible refine iteP ?_; simp only [c4e, ↓reduceIte]))
   have H' := Aside0.mk H
   clear H
   have hz6 := cl8 BK125
   go_wp2
   first | go_meet | (refine Met.intro ?_; go_step; (repeat apply Exists.intro); refine ⟨?rel, ?eqq⟩; (case eqq => (try simp only [c4b0]); (try simp only [c4b1]); rfl))
   case rel => exact ⟨_, (decide ((l0_7.length : Int) > 8)), (by first | rfl | (simp; done) | (simp [*]; done)), H', ⟨by first | omega | exact Nat.le_refl _⟩, ⟨by (with_reducible repeat (first | refine blk_drewN ?_ _ | refine blk_drew ?_ | refine blk_alloc ?_ _)); exact BK125.out⟩, ⟨bel HB⟩⟩
 case rest =>
  clear HC2
  try clear p2
  try clear c3
  try clear c4e
  try clear c4
  try clear c4b0
  try clear c4b1
  try clear hz5
  try clear hz6
  obtain ⟨kq, x14_1, rfl, HA, HJ1, BK125, HB⟩ := hcut
  cases kq with
  | zero => exact absurd HA.out (by simp [spec_UpdateFault.j0])
  | succ kj1 =>
   have H := HA.out
   clear HA
   simp only [spec_UpdateFault.j0] at H
   by_cases c7 : x14_1 = true
   ·
    subst c7
    have H1 : (some 2) = some r := by rw [if_pos rfl] at H; first | done | exact H
    clear H
    have H := H1
    clear H1
    obtain rfl := Option.some.inj H
    go_wp2
    go_ret
    exact ⟨by first | rfl | (simp [errW_none, errW_some] <;> rfl) | (simp [*, errW_none, errW_some] <;> rfl), bel HB⟩
   ·
    replace c7 := Bool.eq_false_iff.mpr c7
    subst c7
    have H1 : ((spec_l2List.f kj1 l0_0).bind fun t126 => (if t126 = 0 then ((spec_l2List.f kj1 l0_7).bind fun t127 => (if t127 = 0 then (if a0_1 = true then (spec_UpdateFault.j1 kj1 ((l0_7.length : Int) == 0) l0_0 a0_1 a0_2 l0_3 a0_4 a0_5 a0_6 l0_7) else (if (l0_7.length : Int) > 0 then (spec_UpdateFault.j1 kj1 true l0_0 a0_1 a0_2 l0_3 a0_4 a0_5 a0_6 l0_7) else ((spec_l3Zero.f a0_2 l0_3 a0_4 a0_5 a0_6).bind fun t128 => (if t128 = true then (spec_UpdateFault.j1 kj1 false l0_0 a0_1 a0_2 l0_3 a0_4 a0_5 a0_6 l0_7) else (spec_UpdateFault.j1 kj1 true l0_0 a0_1 a0_2 l0_3 a0_4 a0_5 a0_6 l0_7))))) else (some t127))) else (some t126))) = some r := by rw [if_neg (show ¬ (false = true) by decide)] at H; first | done | exact H
    clear H
    have H := H1
    clear H1
    replace H := Option.bind_eq_some_iff.mp H
    obtain ⟨t126, A80, H⟩ := H
    replace H : (if t126 = 0 then ((spec_l2List.f kj1 l0_7).bind fun t127 => (if t127 = 0 then (if a0_1 = true then (spec_UpdateFault.j1 kj1 ((l0_7.length : Int) == 0) l0_0 a0_1 a0_2 l0_3 a0_4 a0_5 a0_6 l0_7) else (if (l0_7.length : Int) > 0 then (spec_UpdateFault.j1 kj1 true l0_0 a0_1 a0_2 l0_3 a0_4 a0_5 a0_6 l0_7) else ((spec_l3Zero.f a0_2 l0_3 a0_4 a0_5 a0_6).bind fun t128 => (if t128 = true then (spec_UpdateFault.j1 kj1 false l0_0 a0_1 a0_2 l0_3 a0_4 a0_5 a0_6 l0_7) else (spec_UpdateFault.j1 kj1 true l0_0 a0_1 a0_2 l0_3 a0_4 a0_5 a0_6 l0_7))))) else (some t127))) else (some t126)) = some r := H
    have A8 := Aside0.mk A80
    clear A80
    have H' := Aside0.mk H
    clear H
    have hz9 := cl8 BK125
    repeat (first | ((with_reducible refine gate_callee (f := 77) rfl ?_); refine goA (some 17) rfl rfl Try.func77 rfl #[.slice A0_0 l0_0.length c0_0] rfl ?_; (with_reducible refine (spec_l2List.calls kj1 _ _ l0_0 t126 _ ?side1 ?side2 A8.out).mono ?_); (case side1 => exact mC HR0_0 HB); (case side2 => exact HC0_0.out); rintro e w10 ⟨rfl, hb⟩; refine ⟨_, rfl, ?_⟩; replace BK125 := bK BK125 hb; replace HB := bS HB hb; (try clear hb); (try clear hb2); (try clear hk); (try clear hi)) | go_values | go_skip | ((with_reducible refine gateG ?gw ?_); (case gw => rfl)) | refine wpList_skip (by rfl) ?_ | refine wp_cond_true rfl ?_ | refine wp_cond_false rfl ?_ | (with_reducible refine iteTr (by first | assumption | omega) ?_) | (with_reducible refine iteFl (by first | assumption | omega) ?_) | ((fail_if_success (with_reducible refine condP ?_)); (fail_if_success (with_reducible refine iteP ?_)); (fail_if_success (with_reducible refine grdP ?_)); go_step) | go_upon | (simp only [Int.not_lt, Int.not_le] at *; go_simp))
    have H := H'.out
    clear H'
    by_cases c11 : t126 = 0
    ·
     rw [if_pos c11] at H
     have c11b0 : (t126 == 0) = true := beq_iff_eq.mpr c11
     have c11b1 : (t126 != 0) = false := bne_eq_false_iff_eq.mpr c11
     have c11e := eq_true c11
     clear c11
     (first | rw [c11b0] | (simp only [i64_w, i32_w]; rw [c11b0]) | skip)
     (try simp only [c11b0, c11b1]); (try (with_reducible refine iteP ?_; simp only [c11e, ↓reduceIte]))
     replace H := Option.bind_eq_some_iff.mp H
     obtain ⟨t127, A120, H⟩ := H
     replace H : (if t127 = 0 then (if a0_1 = true then (spec_UpdateFault.j1 kj1 ((l0_7.length : Int) == 0) l0_0 a0_1 a0_2 l0_3 a0_4 a0_5 a0_6 l0_7) else (if (l0_7.length : Int) > 0 then (spec_UpdateFault.j1 kj1 true l0_0 a0_1 a0_2 l0_3 a0_4 a0_5 a0_6 l0_7) else ((spec_l3Zero.f a0_2 l0_3 a0_4 a0_5 a0_6).bind fun t128 => (if t128 = true then (spec_UpdateFault.j1 kj1 false l0_0 a0_1 a0_2 l0_3 a0_4 a0_5 a0_6 l0_7) else (spec_UpdateFault.j1 kj1 true l0_0 a0_1 a0_2 l0_3 a0_4 a0_5 a0_6 l0_7))))) else (some t127)) = some r := H
     have A12 := Aside0.mk A120
     clear A120
     have H' := Aside0.mk H
     clear H
     have hz13 := cl8 BK125
     repeat (first | ((with_reducible refine gate_callee (f := 77) rfl ?_); refine goA (some 23) rfl rfl Try.func77 rfl #[.slice A0_7 l0_7.length c0_7] rfl ?_; (with_reducible refine (spec_l2List.calls kj1 _ _ l0_7 t127 _ ?side1 ?side2 A12.out).mono ?_); (case side1 => exact mC HR0_7 HB); (case side2 => exact HC0_7.out); rintro e w14 ⟨rfl, hb⟩; refine ⟨_, rfl, ?_⟩; replace BK125 := bK BK125 hb; replace HB := bS HB hb; (try clear hb); (try clear hb2); (try clear hk); (try clear hi)) | go_values | go_skip | ((with_reducible refine gateG ?gw ?_); (case gw => rfl)) | refine wpList_skip (by rfl) ?_ | refine wp_cond_true rfl ?_ | refine wp_cond_false rfl ?_ | (with_reducible refine iteTr (by first | assumption | omega) ?_) | (with_reducible refine iteFl (by first | assumption | omega) ?_) | ((fail_if_success (with_reducible refine condP ?_)); (fail_if_success (with_reducible refine iteP ?_)); (fail_if_success (with_reducible refine grdP ?_)); go_step) | go_upon | (simp only [Int.not_lt, Int.not_le] at *; go_simp))
     have H := H'.out
     clear H'
     by_cases c15 : t127 = 0
     ·
      rw [if_pos c15] at H
      have c15b0 : (t127 == 0) = true := beq_iff_eq.mpr c15
      have c15b1 : (t127 != 0) = false := bne_eq_false_iff_eq.mpr c15
      have c15e := eq_true c15
      clear c15
      (first | rw [c15b0] | (simp only [i64_w, i32_w]; rw [c15b0]) | skip)
      (try simp only [c15b0, c15b1]); (try (with_reducible refine iteP ?_; simp only [c15e, ↓reduceIte]))
      have HC16 := Aside0.mk H
      clear H
      go_upto_region 9 with (fail)
      go_cut [51] (fun v51 wc => ∃ (kq : Nat) (x51_15 : Bool), v51 = .bool x51_15 ∧ Aside0 (spec_UpdateFault.j1 kq x51_15 l0_0 a0_1 a0_2 l0_3 a0_4 a0_5 a0_6 l0_7 = some r) ∧ Aside0 (kq ≤ kj1) ∧ Aside0 (wc.heap[gb125]? = some (.cells #[(.slice A0_0 l0_0.length c0_0), .bool a0_1, .int .i64 a0_2, (.slice A0_3 l0_3.length c0_3), .int .i64 a0_4, .int .i64 a0_5, .int .i64 a0_6, (.slice A0_7 l0_7.length c0_7)] 38 (0, 0))) ∧ Aside0 (Below w.heap.size w wc))
      case first =>
       have H := HC16.out
       clear HC16
       by_cases c17 : a0_1 = true
       ·
        subst c17
        have H1 : (spec_UpdateFault.j1 kj1 ((l0_7.length : Int) == 0) l0_0 true a0_2 l0_3 a0_4 a0_5 a0_6 l0_7) = some r := by rw [if_pos rfl] at H; first | done | exact H
        clear H
        have H := H1
        clear H1
        have H' := Aside0.mk H
        clear H
        have hz18 := cl8 BK125
        go_wp2
        first | go_meet | (refine Met.intro ?_; go_step; (repeat apply Exists.intro); refine ⟨?rel, ?eqq⟩; (case eqq => (try simp only [c11b0]); (try simp only [c15b0]); rfl))
        case rel => exact ⟨_, (((l0_7.length : Int) == 0)), (by first | rfl | (simp; done) | (simp [*]; done)), H', ⟨by have := HJ1.out; first | omega | exact Nat.le_refl _⟩, ⟨by (with_reducible repeat (first | refine blk_drewN ?_ _ | refine blk_drew ?_ | refine blk_alloc ?_ _)); exact BK125.out⟩, ⟨bel HB⟩⟩
       ·
        replace c17 := Bool.eq_false_iff.mpr c17
        subst c17
        have H1 : (if (l0_7.length : Int) > 0 then (spec_UpdateFault.j1 kj1 true l0_0 false a0_2 l0_3 a0_4 a0_5 a0_6 l0_7) else ((spec_l3Zero.f a0_2 l0_3 a0_4 a0_5 a0_6).bind fun t128 => (if t128 = true then (spec_UpdateFault.j1 kj1 false l0_0 false a0_2 l0_3 a0_4 a0_5 a0_6 l0_7) else (spec_UpdateFault.j1 kj1 true l0_0 false a0_2 l0_3 a0_4 a0_5 a0_6 l0_7)))) = some r := by rw [if_neg (show ¬ (false = true) by decide)] at H; first | done | exact H
        clear H
        have H := H1
        clear H1
        by_cases c19 : (l0_7.length : Int) > 0
        ·
         rw [if_pos c19] at H
         have c19b0 : decide (0 < (l0_7.length : Int)) = true := decide_eq_true c19
         have c19b1 : decide (0 < l0_7.length) = true := decide_eq_true (by omega)
         have c19e := eq_true c19
         clear c19
         (first | rw [c19b0] | (simp only [i64_w, i32_w]; rw [c19b0]) | skip)
         (try simp only [c19b0, c19b1]); (try (with_reducible refine iteP ?_; simp only [c19e, ↓reduceIte]))
         have H' := Aside0.mk H
         clear H
         have hz20 := cl8 BK125
         go_wp2
         first | go_meet | (refine Met.intro ?_; go_step; (repeat apply Exists.intro); refine ⟨?rel, ?eqq⟩; (case eqq => (try simp only [c11b0]); (try simp only [c15b0]); (try simp only [c19b0]); (try simp only [c19b1]); rfl))
         case rel => exact ⟨_, (true), (by first | rfl | (simp; done) | (simp [*]; done)), H', ⟨by have := HJ1.out; first | omega | exact Nat.le_refl _⟩, ⟨by (with_reducible repeat (first | refine blk_drewN ?_ _ | refine blk_drew ?_ | refine blk_alloc ?_ _)); exact BK125.out⟩, ⟨bel HB⟩⟩
        ·
         rw [if_neg c19] at H
         have c19b0 : decide (0 < (l0_7.length : Int)) = false := decide_eq_false c19
         have c19b1 : decide (0 < l0_7.length) = false := decide_eq_false (by omega)
         have c19e := eq_false c19
         clear c19
         (first | rw [c19b0] | (simp only [i64_w, i32_w]; rw [c19b0]) | skip)
         (try simp only [c19b0, c19b1]); (try (with_reducible refine iteP ?_; simp only [c19e, ↓reduceIte]))
         replace H := Option.bind_eq_some_iff.mp H
         obtain ⟨t128, A210, H⟩ := H
         replace H : (if t128 = true then (spec_UpdateFault.j1 kj1 false l0_0 false a0_2 l0_3 a0_4 a0_5 a0_6 l0_7) else (spec_UpdateFault.j1 kj1 true l0_0 false a0_2 l0_3 a0_4 a0_5 a0_6 l0_7)) = some r := H
         have A21 := Aside0.mk A210
         clear A210
         have H' := Aside0.mk H
         clear H
         have hz22 := cl8 BK125
         repeat (first | (go_at_call 78; (with_reducible refine (spec_l3Zero.calls a0_2 _ _ l0_3 a0_4 a0_5 a0_6 t128 _ ?side1 ?side2 A21.out).mono ?_); (case side1 => exact mC HR0_3 HB); (case side2 => exact HC0_3.out); rintro e w23 ⟨rfl, hb⟩; replace BK125 := bK BK125 hb; replace HB := bS HB hb; (try clear hb); (try clear hb2); (try clear hk); (try clear hi)) | go_values | go_skip | ((with_reducible refine gateG ?gw ?_); (case gw => rfl)) | refine wpList_skip (by rfl) ?_ | refine wp_cond_true rfl ?_ | refine wp_cond_false rfl ?_ | (with_reducible refine iteTr (by first | assumption | omega) ?_) | (with_reducible refine iteFl (by first | assumption | omega) ?_) | ((fail_if_success (with_reducible refine condP ?_)); (fail_if_success (with_reducible refine iteP ?_)); (fail_if_success (with_reducible refine grdP ?_)); go_step) | go_upon | (simp only [Int.not_lt, Int.not_le] at *; go_simp))
         have H := H'.out
         clear H'
         by_cases c24 : t128 = true
         ·
          subst c24
          have H1 : (spec_UpdateFault.j1 kj1 false l0_0 false a0_2 l0_3 a0_4 a0_5 a0_6 l0_7) = some r := by rw [if_pos rfl] at H; first | done | exact H
          clear H
          have H := H1
          clear H1
          have H' := Aside0.mk H
          clear H
          have hz25 := cl8 BK125
          go_wp2
          first | go_meet | (refine Met.intro ?_; go_step; (repeat apply Exists.intro); refine ⟨?rel, ?eqq⟩; (case eqq => (try simp only [c11b0]); (try simp only [c15b0]); (try simp only [c19b0]); (try simp only [c19b1]); rfl))
          case rel => exact ⟨_, (false), (by first | rfl | (simp; done) | (simp [*]; done)), H', ⟨by have := HJ1.out; first | omega | exact Nat.le_refl _⟩, ⟨by (with_reducible repeat (first | refine blk_drewN ?_ _ | refine blk_drew ?_ | refine blk_alloc ?_ _)); exact BK125.out⟩, ⟨bel HB⟩⟩
         ·
          replace c24 := Bool.eq_false_iff.mpr c24
          subst c24
          have H1 : (spec_UpdateFault.j1 kj1 true l0_0 false a0_2 l0_3 a0_4 a0_5 a0_6 l0_7) = some r := by rw [if_neg (show ¬ (false = true) by decide)] at H; first | done | exact H
          clear H
          have H := H1
          clear H1
          have H' := Aside0.mk H
          clear H
          go_wp2
          first | go_meet | (refine Met.intro ?_; go_step; (repeat apply Exists.intro); refine ⟨?rel, ?eqq⟩; (case eqq => (try simp only [c11b0]); (try simp only [c15b0]); (try simp only [c19b0]); (try simp only [c19b1]); rfl))
          case rel => exact ⟨_, (true), (by first | rfl | (simp; done) | (simp [*]; done)), H', ⟨by have := HJ1.out; first | omega | exact Nat.le_refl _⟩, ⟨by (with_reducible repeat (first | refine blk_drewN ?_ _ | refine blk_drew ?_ | refine blk_alloc ?_ _)); exact BK125.out⟩, ⟨bel HB⟩⟩
      case rest =>
       clear HC16
       try clear c1
       try clear c2
       try clear p2
       try clear c3
       try clear c4e
       try clear c4
       try clear c4b0
       try clear c4b1
       try clear c7
       try clear c11e
       try clear c11
       try clear c11b0
       try clear c11b1
       try clear c15e
       try clear c15
       try clear c15b0
       try clear c15b1
       try clear c17
       try clear c19e
       try clear c19
       try clear c19b0
       try clear c19b1
       try clear c24
       try clear hz13
       try clear hz18
       try clear hz20
       try clear hz22
       try clear hz25
       try clear hz5
       try clear hz6
       try clear hz9
       try clear p2
       obtain ⟨kq, x51_15, rfl, HA, HJ15, BK125, HB⟩ := hcut
       cases kq with
       | zero => exact absurd HA.out (by simp [spec_UpdateFault.j1])
       | succ kj15 =>
        have H := HA.out
        clear HA
        simp only [spec_UpdateFault.j1] at H
        by_cases c26 : x51_15 = true
        ·
         subst c26
         have H1 : (some 1) = some r := by rw [if_pos rfl] at H; first | done | exact H
         clear H
         have H := H1
         clear H1
         obtain rfl := Option.some.inj H
         go_wp2
         go_ret
         exact ⟨by first | rfl | (simp [errW_none, errW_some] <;> rfl) | (simp [*, errW_none, errW_some] <;> rfl), bel HB⟩
        ·
         replace c26 := Bool.eq_false_iff.mpr c26
         subst c26
         have H1 : (if a0_1 = true then ((spec_AttrsFault.f kj15 a0_2 l0_3 a0_4 a0_5 a0_6).bind fun t129 => (some t129)) else (some 0)) = some r := by rw [if_neg (show ¬ (false = true) by decide)] at H; first | done | exact H
         clear H
         have H := H1
         clear H1
         by_cases c27 : a0_1 = true
         ·
          subst c27
          have H1 : ((spec_AttrsFault.f kj15 a0_2 l0_3 a0_4 a0_5 a0_6).bind fun t129 => (some t129)) = some r := by rw [if_pos rfl] at H; first | done | exact H
          clear H
          have H := H1
          clear H1
          replace H := Option.bind_eq_some_iff.mp H
          obtain ⟨t129, A280, H⟩ := H
          replace H : (some t129) = some r := H
          have A28 := Aside0.mk A280
          clear A280
          obtain rfl := Option.some.inj H
          have hz29 := cl8 BK125
          go_wp2_with (first | ((with_reducible refine gate_callee (f := 79) rfl ?_); refine goA (some 56) rfl rfl Try.func79 rfl #[.agg #[.int .i64 a0_2, .slice A0_3 l0_3.length c0_3, .int .i64 a0_4, .int .i64 a0_5, .int .i64 a0_6]] rfl ?_; (with_reducible refine (spec_AttrsFault.calls kj15 a0_2 _ _ l0_3 a0_4 a0_5 a0_6 t129 _ ?side1 ?side2 A28.out).mono ?_); (case side1 => exact mC HR0_3 HB); (case side2 => exact HC0_3.out); rintro e w30 ⟨rfl, hb⟩; refine ⟨_, rfl, ?_⟩; replace BK125 := bK BK125 hb; replace HB := bS HB hb; (try clear hb); (try clear hb2); (try clear hk); (try clear hi)))
          go_ret
          exact ⟨by first | rfl | (simp [errW_none, errW_some] <;> rfl) | (simp [*, errW_none, errW_some] <;> rfl), bel HB⟩
         ·
          replace c27 := Bool.eq_false_iff.mpr c27
          subst c27
          have H1 : (some 0) = some r := by rw [if_neg (show ¬ (false = true) by decide)] at H; first | done | exact H
          clear H
          have H := H1
          clear H1
          obtain rfl := Option.some.inj H
          have hz31 := cl8 BK125
          go_wp2
          go_ret
          exact ⟨by first | rfl | (simp [errW_none, errW_some] <;> rfl) | (simp [*, errW_none, errW_some] <;> rfl), bel HB⟩
     ·
      rw [if_neg c15] at H
      have c15b0 : (t127 == 0) = false := beq_eq_false_iff_ne.mpr c15
      have c15b1 : (t127 != 0) = true := bne_iff_ne.mpr c15
      have c15e := eq_false c15
      (first | rw [c15b0] | (simp only [i64_w, i32_w]; rw [c15b0]) | skip)
      (try simp only [c15b0, c15b1]); (try (with_reducible refine iteP ?_; simp only [c15e, ↓reduceIte]))
      obtain rfl := Option.some.inj H
      go_wp2
      go_ret
      exact ⟨by first | rfl | (simp [errW_none, errW_some] <;> rfl) | (simp [*, errW_none, errW_some] <;> rfl), bel HB⟩
    ·
     rw [if_neg c11] at H
     have c11b0 : (t126 == 0) = false := beq_eq_false_iff_ne.mpr c11
     have c11b1 : (t126 != 0) = true := bne_iff_ne.mpr c11
     have c11e := eq_false c11
     (first | rw [c11b0] | (simp only [i64_w, i32_w]; rw [c11b0]) | skip)
     (try simp only [c11b0, c11b1]); (try (with_reducible refine iteP ?_; simp only [c11e, ↓reduceIte]))
     obtain rfl := Option.some.inj H
     go_wp2
     go_ret
     exact ⟨by first | rfl | (simp [errW_none, errW_some] <;> rfl) | (simp [*, errW_none, errW_some] <;> rfl), bel HB⟩

/-! ### spec_l4Hold: function 104 -/
def spec_l4Hold.f (a0 : Int) : Option (Bool) := if a0 = 0 then (some true) else ((spec_l1In.f a0 3 200).bind fun t130 => (some t130))
set_option maxHeartbeats 8000000 in
set_option maxRecDepth 100000 in
theorem spec_l4Hold.calls (a0 : Int) (r : Bool) (w : World) (h : spec_l4Hold.f a0 = some r) :
  Calls Try.prog 104 #[.int .i64 a0] w fun e w' => e = .returned (.bool r) ∧ Drawn0 w w' := by
 have H : (if a0 = 0 then (some true) else ((spec_l1In.f a0 3 200).bind fun t130 => (some t130))) = some r := h
 clear h
 by_cases c2 : a0 = 0
 ·
  rw [if_pos c2] at H
  have c2b0 : (a0 == 0) = true := beq_iff_eq.mpr c2
  have c2b1 : (a0 != 0) = false := bne_eq_false_iff_eq.mpr c2
  have c2e := eq_true c2
  clear c2
  obtain rfl := Option.some.inj H
  go_enter Try.func104, Try.ntmps104
  go_wp2
  go_ret
  exact ⟨by first | rfl | (simp; done) | (simp [*]; done), drw⟩
 ·
  rw [if_neg c2] at H
  have c2b0 : (a0 == 0) = false := beq_eq_false_iff_ne.mpr c2
  have c2b1 : (a0 != 0) = true := bne_iff_ne.mpr c2
  have c2e := eq_false c2
  replace H := Option.bind_eq_some_iff.mp H
  obtain ⟨t130, A30, H⟩ := H
  replace H : (some t130) = some r := H
  have A3 := Aside0.mk A30
  clear A30
  obtain rfl := Option.some.inj H
  go_enter Try.func104, Try.ntmps104
  go_wp2_with (first | (go_at_call 103; (with_reducible refine (spec_l1In.calls a0 3 200 t130 _ A3.out).mono ?_); rintro e w' ⟨rfl, ⟨nd, rfl⟩⟩))
  go_ret
  exact ⟨by first | rfl | (simp; done) | (simp [*]; done), drw⟩

/-! ### spec_l4Zero: function 146 -/
def spec_l4Zero.f (l0_0 : List (S91)) (a0_1 : Bool) (a0_2 : Int) (l0_3 : List Int) (a0_4 : Int) (a0_5 : Int) (a0_6 : Int) (l0_7 : List (S91)) : Option (Bool) := if (l0_0.length : Int) = 0 then (if (l0_7.length : Int) = 0 then (if a0_1 = true then (some false) else ((spec_l3Zero.f a0_2 l0_3 a0_4 a0_5 a0_6).bind fun t132 => (some t132))) else (some false)) else (some false)
set_option maxHeartbeats 8000000 in
set_option maxRecDepth 100000 in
theorem spec_l4Zero.calls (A0_0 : Option Addr) (c0_0 : Nat) (l0_0 : List (S91)) (a0_1 : Bool) (a0_2 : Int) (A0_3 : Option Addr) (c0_3 : Nat) (l0_3 : List Int) (a0_4 : Int) (a0_5 : Int) (a0_6 : Int) (A0_7 : Option Addr) (c0_7 : Nat) (l0_7 : List (S91)) (r : Bool) (w : World) (hr0_0 : Kd.C k91 w A0_0 l0_0.length l0_0) (hc0_0 : l0_0.length ≤ c0_0) (hr0_3 : Kd.C (Kd.int .i64) w A0_3 l0_3.length l0_3) (hc0_3 : l0_3.length ≤ c0_3) (hr0_7 : Kd.C k91 w A0_7 l0_7.length l0_7) (hc0_7 : l0_7.length ≤ c0_7) (h : spec_l4Zero.f l0_0 a0_1 a0_2 l0_3 a0_4 a0_5 a0_6 l0_7 = some r) :
  Calls Try.prog 146 #[.agg #[.slice A0_0 l0_0.length c0_0, .bool a0_1, .int .i64 a0_2, .slice A0_3 l0_3.length c0_3, .int .i64 a0_4, .int .i64 a0_5, .int .i64 a0_6, .slice A0_7 l0_7.length c0_7]] w fun e w' => e = .returned (.bool r) ∧ Below w.heap.size w w' := by
 have hu38 := Try.underlying38
 have hu36 := Try.underlying36
 have HR0_0 := Aside0.mk hr0_0
 have HC0_0 := Aside0.mk hc0_0
 clear hr0_0 hc0_0
 have HR0_3 := Aside0.mk hr0_3
 have HC0_3 := Aside0.mk hc0_3
 clear hr0_3 hc0_3
 have HR0_7 := Aside0.mk hr0_7
 have HC0_7 := Aside0.mk hc0_7
 clear hr0_7 hc0_7
 have HB := Aside0.mk (Below.refl w.heap.size w)
 have H : (if (l0_0.length : Int) = 0 then (if (l0_7.length : Int) = 0 then (if a0_1 = true then (some false) else ((spec_l3Zero.f a0_2 l0_3 a0_4 a0_5 a0_6).bind fun t132 => (some t132))) else (some false)) else (some false)) = some r := h
 clear h
 have H' := Aside0.mk H
 clear H
 go_enter Try.func146, Try.ntmps146
 repeat (first | ((with_reducible refine gate_dst (N := 1) rfl ?_); (try (refine gate_guard (by rfl) ?_; dsimp only)); refine boxE #[.slice A0_0 l0_0.length c0_0, .bool a0_1, .int .i64 a0_2, .slice A0_3 l0_3.length c0_3, .int .i64 a0_4, .int .i64 a0_5, .int .i64 a0_6, .slice A0_7 l0_7.length c0_7] 38 (N := 1) rfl rfl ?_; intro gb131 hg w2 hbox hb; have BK131 := Aside0.mk hbox; have GW131 := gZ HB hg; have GE131 := gZ HB hg; replace HB := bS HB hb; clear hb hbox hg; have hz3 := cl8 BK131) | go_values | go_skip | ((with_reducible refine gateG ?gw ?_); (case gw => rfl)) | refine wpList_skip (by rfl) ?_ | refine wp_cond_true rfl ?_ | refine wp_cond_false rfl ?_ | (with_reducible refine iteTr (by first | assumption | omega) ?_) | (with_reducible refine iteFl (by first | assumption | omega) ?_) | ((fail_if_success (with_reducible refine condP ?_)); (fail_if_success (with_reducible refine iteP ?_)); (fail_if_success (with_reducible refine grdP ?_)); go_step) | go_upon | (simp only [Int.not_lt, Int.not_le] at *; go_simp))
 have H := H'.out
 clear H'
 by_cases c4 : (l0_0.length : Int) = 0
 ·
  rw [if_pos c4] at H
  have c4b0 : ((l0_0.length : Int) == 0) = true := beq_iff_eq.mpr c4
  have c4b1 : ((l0_0.length : Int) != 0) = false := bne_eq_false_iff_eq.mpr c4
  have c4e := eq_true c4
  clear c4
  (first | rw [c4b0] | (simp only [i64_w, i32_w]; rw [c4b0]) | skip)
  (try simp only [c4b0, c4b1]); (try (with_reducible refine iteP ?_; simp only [c4e, ↓reduceIte]))
  by_cases c5 : (l0_7.length : Int) = 0
  ·
   rw [if_pos c5] at H
   have c5b0 : ((l0_7.length : Int) == 0) = true := beq_iff_eq.mpr c5
   have c5b1 : ((l0_7.length : Int) != 0) = false := bne_eq_false_iff_eq.mpr c5
   have c5e := eq_true c5
   clear c5
   by_cases c6 : a0_1 = true
   ·
    subst c6
    have H1 : (some false) = some r := by rw [if_pos rfl] at H; first | done | exact H
    clear H
    have H := H1
    clear H1
    obtain rfl := Option.some.inj H
    have hz7 := cl8 BK131
    go_wp2
    go_ret
    exact ⟨by first | rfl | (simp [errW_none, errW_some] <;> rfl) | (simp [*, errW_none, errW_some] <;> rfl), bel HB⟩
   ·
    replace c6 := Bool.eq_false_iff.mpr c6
    subst c6
    have H1 : ((spec_l3Zero.f a0_2 l0_3 a0_4 a0_5 a0_6).bind fun t132 => (some t132)) = some r := by rw [if_neg (show ¬ (false = true) by decide)] at H; first | done | exact H
    clear H
    have H := H1
    clear H1
    replace H := Option.bind_eq_some_iff.mp H
    obtain ⟨t132, A80, H⟩ := H
    replace H : (some t132) = some r := H
    have A8 := Aside0.mk A80
    clear A80
    obtain rfl := Option.some.inj H
    have hz9 := cl8 BK131
    go_wp2_with (first | (go_at_call 78; (with_reducible refine (spec_l3Zero.calls a0_2 _ _ l0_3 a0_4 a0_5 a0_6 t132 _ ?side1 ?side2 A8.out).mono ?_); (case side1 => exact mC HR0_3 HB); (case side2 => exact HC0_3.out); rintro e w10 ⟨rfl, hb⟩; replace BK131 := bK BK131 hb; replace HB := bS HB hb; (try clear hb); (try clear hb2); (try clear hk); (try clear hi)))
    go_ret
    exact ⟨by first | rfl | (simp [errW_none, errW_some] <;> rfl) | (simp [*, errW_none, errW_some] <;> rfl), bel HB⟩
  ·
   rw [if_neg c5] at H
   have c5b0 : ((l0_7.length : Int) == 0) = false := beq_eq_false_iff_ne.mpr c5
   have c5b1 : ((l0_7.length : Int) != 0) = true := bne_iff_ne.mpr c5
   have c5b2 : ¬ (l0_7 = []) := fun h_ => c5 (by rw [h_]; rfl)
   have c5e := eq_false c5
   obtain rfl := Option.some.inj H
   have hz11 := cl8 BK131
   go_wp2
   go_ret
   exact ⟨by first | rfl | (simp [errW_none, errW_some] <;> rfl) | (simp [*, errW_none, errW_some] <;> rfl), bel HB⟩
 ·
  rw [if_neg c4] at H
  have c4b0 : ((l0_0.length : Int) == 0) = false := beq_eq_false_iff_ne.mpr c4
  have c4b1 : ((l0_0.length : Int) != 0) = true := bne_iff_ne.mpr c4
  have c4b2 : ¬ (l0_0 = []) := fun h_ => c4 (by rw [h_]; rfl)
  have c4e := eq_false c4
  (first | rw [c4b0] | (simp only [i64_w, i32_w]; rw [c4b0]) | skip)
  (try simp only [c4b0, c4b1, c4b2]); (try (with_reducible refine iteP ?_; simp only [c4e, ↓reduceIte]))
  obtain rfl := Option.some.inj H
  go_wp2
  go_ret
  exact ⟨by first | rfl | (simp [errW_none, errW_some] <;> rfl) | (simp [*, errW_none, errW_some] <;> rfl), bel HB⟩

end Go.Proofs.Ytgfoifkkffffgac.PFnExactPackMessage
