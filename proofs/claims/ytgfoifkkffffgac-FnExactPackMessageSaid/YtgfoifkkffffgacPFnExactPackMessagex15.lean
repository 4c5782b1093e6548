-- Laid by a turned copy of the printer (wip/tools/patch_print.py)
import Derived.Test.YtgfoifkkffffgacPFnExactPackMessagex0
import Derived.Test.YtgfoifkkffffgacPFnExactPackMessagex14
namespace Go.Proofs.Ytgfoifkkffffgac.PFnExactPackMessage
open Go.RowKit Go.Proofs.YtgfoifkkffffgacW.PrintWords Go.Proofs.YtgfoifkkffffgacW.PrintLast Go.Proofs.YtgfoifkkffffgacW.PrintMore
attribute [local go_sem] max2_int min2_int max_two min_two max_three min_three max_four min_four   -- for this text's walks alone
set_option linter.unusedVariables false
set_option linter.unusedSimpArgs false

/-! ### impl_PackFrame: function 54 -/
def impl_PackFrame.f (a0_0 : Int) (l0_1 : List Int) : Option (Int × List Int) := (impl_FrameFault.f a0_0 l0_1).bind fun t420 => (if t420 = 0 then ((impl_packFrame.f a0_0 l0_1).bind fun t421 => (some (0, t421))) else (some (t420, ([] : List Int))))
set_option maxHeartbeats 8000000 in
set_option maxRecDepth 100000 in
theorem impl_PackFrame.calls (a0_0 : Int) (A0_1 : Option Addr) (c0_1 : Nat) (l0_1 : List Int) (r1 : Int) (r2 : List Int) (w : World) (hr0_1 : Kd.C (Kd.int .u8) w A0_1 l0_1.length l0_1) (hc0_1 : l0_1.length ≤ c0_1) (h : impl_PackFrame.f a0_0 l0_1 = some (r1, r2)) :
  Calls Try.prog 54 #[.agg #[.int .i64 a0_0, .slice A0_1 l0_1.length c0_1]] w fun e w' => ∃ v1_ : Value, e = .returned (.agg #[.int .i64 r1, v1_]) ∧ Kd.R (Kd.int .u8) 5 w' w.heap.size (fun _ => True) v1_ r2 ∧ Below w.heap.size w w' := by
 have hu66 := Try.underlying66
 have hu33 := Try.underlying33
 have HR0_1 := Aside0.mk hr0_1
 have HC0_1 := Aside0.mk hc0_1
 clear hr0_1 hc0_1
 have HB := Aside0.mk (Below.refl w.heap.size w)
 have H : ((impl_FrameFault.f a0_0 l0_1).bind fun t420 => (if t420 = 0 then ((impl_packFrame.f a0_0 l0_1).bind fun t421 => (some (0, t421))) else (some (t420, ([] : List Int))))) = some (r1, r2) := h
 clear h
 replace H := Option.bind_eq_some_iff.mp H
 obtain ⟨t420, A20, H⟩ := H
 replace H : (if t420 = 0 then ((impl_packFrame.f a0_0 l0_1).bind fun t421 => (some (0, t421))) else (some (t420, ([] : List Int)))) = some (r1, r2) := H
 have A2 := Aside0.mk A20
 clear A20
 have H' := Aside0.mk H
 clear H
 go_enter Try.func54, Try.ntmps54
 repeat (first | ((with_reducible refine gate_dst (N := 1) rfl ?_); refine boxE #[.int .i64 a0_0, .slice A0_1 l0_1.length c0_1] 66 (N := 1) rfl rfl ?_; intro gb418 hg w3 hbox hb; have BK418 := Aside0.mk hbox; have GW418 := gZ HB hg; have GE418 := gZ HB hg; replace HB := bS HB hb; clear hb hbox hg) | ((with_reducible refine gate_dst (N := 2) rfl ?_); refine boxE #[.int .i64 0, .slice none 0 0] 33 (N := 2) rfl rfl ?_; intro gb419 hg w4 hbox hb; have BK419 := Aside0.mk hbox; have GW419 := gZ HB hg; have GE419 := gZ HB hg; replace HB := bS HB hb; have NB418_419 := nL BK418 hg; have NB419_418 := nG BK418 hg; replace BK418 := bK BK418 hb; clear hb hbox hg; have hnb5 := NB418_419.out; have hnc5 := NB419_418.out; have hz6 := cl2 BK418) | ((with_reducible refine gate_callee (f := 87) rfl ?_); refine goA (some 5) rfl rfl Try.func87 rfl #[.agg #[.int .i64 a0_0, .slice A0_1 l0_1.length c0_1]] rfl ?_; (with_reducible refine (impl_FrameFault.calls a0_0 _ _ l0_1 t420 _ ?side1 ?side2 A2.out).mono ?_); (case side1 => exact mC HR0_1 HB); (case side2 => exact HC0_1.out); rintro e w7 ⟨rfl, hb⟩; refine ⟨_, rfl, ?_⟩; replace BK418 := bK BK418 hb; replace BK419 := bK BK419 hb; replace HB := bS HB hb; (try clear hb); (try clear hb2); (try clear hk); (try clear hi)) | go_values | go_skip | ((with_reducible refine gateG ?gw ?_); (case gw => rfl)) | refine wpList_skip (by rfl) ?_ | refine wp_cond_true rfl ?_ | refine wp_cond_false rfl ?_ | (with_reducible refine iteTr (by first | assumption | omega) ?_) | (with_reducible refine iteFl (by first | assumption | omega) ?_) | ((fail_if_success (with_reducible refine condP ?_)); (fail_if_success (with_reducible refine iteP ?_)); (fail_if_success (with_reducible refine grdP ?_)); go_step) | go_upon | (simp only [Int.not_lt, Int.not_le] at *; go_simp))
 have H := H'.out
 clear H'
 by_cases c8 : t420 = 0
 ·
  rw [if_pos c8] at H
  have c8b0 : (t420 == 0) = true := beq_iff_eq.mpr c8
  have c8b1 : (t420 != 0) = false := bne_eq_false_iff_eq.mpr c8
  have c8e := eq_true c8
  clear c8
  (first | rw [c8b0] | (simp only [i64_w, i32_w]; rw [c8b0]) | skip)
  (try simp only [c8b0, c8b1]); (try (with_reducible refine iteP ?_; simp only [c8e, ↓reduceIte]))
  replace H := Option.bind_eq_some_iff.mp H
  obtain ⟨t421, A90, H⟩ := H
  replace H : (some (0, t421)) = some (r1, r2) := H
  have A9 := Aside0.mk A90
  clear A90
  simp only [Option.some.injEq, Prod.mk.injEq] at H
  obtain ⟨rfl, rfl⟩ := H
  have hnb10 := NB418_419.out
  have hnc10 := NB419_418.out
  have hz11 := cl2 BK418
  go_wp2_with (first | ((with_reducible refine gate_callee (f := 113) rfl ?_); refine goA (some 11) rfl rfl Try.func113 rfl #[.agg #[.int .i64 a0_0, .slice A0_1 l0_1.length c0_1]] rfl ?_; (with_reducible refine (impl_packFrame.calls a0_0 _ _ l0_1 t421 _ ?side1 ?side2 A9.out).mono ?_); (case side1 => exact mC HR0_1 HB); (case side2 => exact HC0_1.out); rintro e w12 ⟨v422, rfl, ho0, hb⟩; refine ⟨_, rfl, ?_⟩; have HO423 := Aside0.mk (Kd.R_lower ho0 (below_size (bel HB))); replace BK418 := bK BK418 hb; replace BK419 := bK BK419 hb; replace HB := bS HB hb; (try clear hb); (try clear hb2); (try clear hk); (try clear hi); (try clear ho0); obtain ⟨Ao13, co13, eo13⟩ := Kd.R_slice HO423.out; subst eo13; have hz14 := cl2 BK419))
  refine bodyPost_ret (results_cell_row rfl _ _ gb419 33 #[.int .i64 0, .slice Ao13 t421.length co13] (0, 0) _ rfl (mP BK419) Try.underlying33 rfl (by kernel_rfl)) rfl ?_
  exact ⟨_, by first | rfl | (simp [errW_none, errW_some] <;> rfl) | (simp [*, errW_none, errW_some] <;> rfl), by (with_reducible repeat (first | apply Kd.R_alloc | apply Kd.R_drewN | apply Kd.R_drew)); exact Kd.R_mono (RF (RF (Kd.R_types HO423.out BK419.out (by decide)))) (fun _ hk => trivial), bel HB⟩
 ·
  rw [if_neg c8] at H
  have c8b0 : (t420 == 0) = false := beq_eq_false_iff_ne.mpr c8
  have c8b1 : (t420 != 0) = true := bne_iff_ne.mpr c8
  have c8e := eq_false c8
  (first | rw [c8b0] | (simp only [i64_w, i32_w]; rw [c8b0]) | skip)
  (try simp only [c8b0, c8b1]); (try (with_reducible refine iteP ?_; simp only [c8e, ↓reduceIte]))
  simp only [Option.some.injEq, Prod.mk.injEq] at H
  obtain ⟨rfl, rfl⟩ := H
  have hnb15 := NB419_418.out
  have hnc15 := NB418_419.out
  have hz16 := cl2 BK419
  go_wp2
  refine bodyPost_ret (results_cell_row rfl _ _ gb419 33 #[.int .i64 t420, .slice none 0 0] (0, 0) _ rfl (mP BK419) Try.underlying33 rfl (by kernel_rfl)) rfl ?_
  exact ⟨_, by first | rfl | (simp [errW_none, errW_some] <;> rfl) | (simp [*, errW_none, errW_some] <;> rfl), by first | exact Kd.R_nil _ _ _ _ _ | exact Kd.N_nil _ _ _ _ _ | exact Kd.V_nil _ _ _ _ _ | exact Kd.Q_nil _ _ _ _ _ | exact Kd.S_nil _ _ _ _ _, bel HB⟩

/-! ### impl_putPrefixes: function 130 -/
def impl_putPrefixes.l0 : Nat → List Int → List (S91) → Int → Int → Option (List Int)
 | 0, _, _, _, _ => none
 | k + 1, x0, x7, x8, x9 => if x9 < x8 then (if 0 ≤ x9 then (if x9 < (x7.length : Int) then ((impl_putTwo.f x0 ((rd_T91 x7 x9).f0)).bind fun t426 => ((some (([((rd_T91 x7 x9).f1) % 256] : List Int) : List Int)).bind fun y429 => (if t426.length + y429.length < 140737488355328 then (impl_putPrefixes.l0 k (t426 ++ y429) x7 x8 (wrap64 (x9 + 1))) else (none)))) else (none)) else (none)) else (some x0)
def impl_putPrefixes.f (k : Nat) (l0 : List Int) (l1 : List (S91)) : Option (List Int) := impl_putPrefixes.l0 k l0 l1 (l1.length : Int) 0
theorem impl_putPrefixes.mono_l : ∀ k, (∀ y0 y1 y2 y3, LeO (impl_putPrefixes.l0 k y0 y1 y2 y3) (impl_putPrefixes.l0 (k + 1) y0 y1 y2 y3))
 | 0 => fun _ _ _ _ r h => by simp [impl_putPrefixes.l0] at h
 | k + 1 => by
  have ih0 := impl_putPrefixes.mono_l k
  ·
   intro y0 y1 y2 y3
   unfold impl_putPrefixes.l0
   repeat' first
   | (with_reducible exact ih0 _ _ _ _)
   | (with_reducible exact LeO.refl _)
   | (with_reducible exact LeO.none _)
   | (with_reducible refine LeO.ite ?_ ?_)
   | (with_reducible refine LeO.bind ?_ (fun _ => ?_))
   | exact ih0 _ _ _ _
   | exact LeO.none _
   | refine LeO.ite ?_ ?_
   | refine LeO.bind ?_ (fun _ => ?_)
theorem impl_putPrefixes.mono : ∀ a0 a1 k, LeO (impl_putPrefixes.f k a0 a1) (impl_putPrefixes.f (k + 1) a0 a1) := by
 intro a0 a1 k
 have ih0 := impl_putPrefixes.mono_l k
 unfold impl_putPrefixes.f
 repeat' first
   | (with_reducible exact ih0 _ _ _ _)
   | (with_reducible exact LeO.refl _)
   | (with_reducible exact LeO.none _)
   | (with_reducible refine LeO.ite ?_ ?_)
   | (with_reducible refine LeO.bind ?_ (fun _ => ?_))
   | exact ih0 _ _ _ _
   | exact LeO.none _
   | refine LeO.ite ?_ ?_
   | refine LeO.bind ?_ (fun _ => ?_)
def impl_putPrefixes.T4 : Bool × List (List Nat × List Nat) := (true, [([], []), ([], []), ([1], [1]), ([0, 2], [0, 2]), ([], []), ([4], [4]), ([5], [5]), ([6], [6]), ([3, 7, 3], [3, 7]), ([8, 8, 0, 1, 2, 3, 4, 5, 6, 7, 8], [0, 8])])
def impl_putPrefixes.B4 : List Nat := [0, 0, 2, 7, 0, 16, 48, 112, 255, 511]
theorem impl_putPrefixes.tab4 : rtab .any (opsOf Try.f130 4) = impl_putPrefixes.T4 := by kernel_rfl
theorem impl_putPrefixes.bits4 : waitsOk impl_putPrefixes.T4.2 impl_putPrefixes.B4 = true := by kernel_rfl
set_option maxHeartbeats 8000000 in
set_option maxRecDepth 100000 in
theorem impl_putPrefixes.calls (k : Nat) (P0_ : Nat → Prop) (u9000_ : Value) (l0 : List Int) (A1 : Option Addr) (c1 : Nat) (l1 : List (S91)) (r : List Int) (w0 w : World) (hB : Below w0.heap.size w0 w) (ho0 : Kd.R (Kd.int .u8) 5 w w0.heap.size P0_ u9000_ l0) (hr1 : ∀ W_, Kept w W_ (fun k_ => P0_ k_) → Kd.C k91 W_ A1 l1.length l1) (hc1 : l1.length ≤ c1) (h : impl_putPrefixes.f k l0 l1 = some r) :
  Calls Try.prog 130 #[u9000_, .slice A1 l1.length c1] w fun e w' => ∃ v0_ : Value, e = .returned (v0_) ∧ Kd.R (Kd.int .u8) 5 w' w0.heap.size (fun k_ => (P0_ k_ ∨ w.heap.size ≤ k_)) v0_ r ∧ Below w0.heap.size w0 w' ∧ Kept w w' (fun k_ => P0_ k_) := by
 have hu91 := Try.underlying91
 have HO0 := Aside0.mk (show Kd.R (Kd.int .u8) 5 w w0.heap.size (fun k_ => (P0_ k_ ∨ w.heap.size ≤ k_)) u9000_ l0 from Kd.R_mono ho0 (fun k_ hk => (.inl hk)))
 have HR1 := Aside0.mk hr1
 have HC1 := Aside0.mk hc1
 clear hr1 hc1
 have HK := Aside0.mk (Kept.refl w (fun k_ => P0_ k_))
 have HW0 := Aside0.mk hB.size
 have HB := Aside0.mk hB
 clear hB
 have H : (impl_putPrefixes.l0 k l0 l1 (l1.length : Int) 0) = some r := h
 clear h
 have H' := Aside0.mk H
 clear H
 go_enter Try.func130, Try.ntmps130
 go_wp2
 go_loopg [0, 9] k (fun kq v0 v9 w' => ∃ (x0_1 : List Int) (x9_1 : Int), v9 = .int .i64 x9_1 ∧ Aside0 (impl_putPrefixes.l0 kq x0_1 l1 (l1.length : Int) x9_1 = some r) ∧ Aside0 (kq ≤ k) ∧ Aside0 (Kd.R (Kd.int .u8) 5 w' w0.heap.size (fun k_ => (P0_ k_ ∨ w.heap.size ≤ k_)) v0 x0_1) ∧ Aside0 (Kept w w' (fun k_ => P0_ k_)) ∧ Aside0 (Below w0.heap.size w0 w'))
 case atStart => exact ⟨(l0), (0), (by first | rfl | (simp; done) | (simp [*]; done)), H', ⟨Nat.le_refl _⟩, ⟨by (with_reducible repeat (first | apply Kd.R_alloc | apply Kd.R_drewN | apply Kd.R_drew)); exact HO0.out⟩, ⟨by repeat (first | (with_reducible first | exact HK.out | apply Kept.alloc | apply Kept.drewN | apply Kept.drew) | exact HK.out)⟩, ⟨bel HB⟩⟩
 case round =>
  clear H'
  try clear c1
  try clear p2
  obtain ⟨x0_1, x9_1, rfl, HA, HK1, HO_0, HK, HB⟩ := hrel
  cases gk with
  | zero => exact absurd HA.out (by simp [impl_putPrefixes.l0])
  | succ k1 =>
   have H := HA.out
   clear HA
   simp only [impl_putPrefixes.l0] at H
   by_cases c3 : x9_1 < (l1.length : Int)
   ·
    rw [if_pos c3] at H
    have c3b0 : decide (x9_1 < (l1.length : Int)) = true := decide_eq_true c3
    have c3e := eq_true c3
    clear c3
    by_cases c4 : 0 ≤ x9_1
    ·
     rw [if_pos c4] at H
     have c4b0 : decide (0 ≤ x9_1) = true := decide_eq_true c4
     have c4e := eq_true c4
     clear c4
     by_cases c5 : x9_1 < (l1.length : Int)
     ·
      rw [if_pos c5] at H
      have c5b0 : decide (x9_1 < (l1.length : Int)) = true := decide_eq_true c5
      have c5e := eq_true c5
      clear c5
      replace H := Option.bind_eq_some_iff.mp H
      obtain ⟨t426, A60, H⟩ := H
      replace H : ((some (([((rd_T91 l1 x9_1).f1) % 256] : List Int) : List Int)).bind fun y429 => (if t426.length + y429.length < 140737488355328 then (impl_putPrefixes.l0 k1 (t426 ++ y429) l1 (l1.length : Int) (wrap64 (x9_1 + 1))) else (none))) = some r := H
      have A6 := Aside0.mk A60
      clear A60
      obtain ⟨y429, hy429⟩ : ∃ y_ : List Int, y_ = (([((rd_T91 l1 x9_1).f1) % 256] : List Int)) := ⟨_, rfl⟩
      replace H : (if t426.length + y429.length < 140737488355328 then (impl_putPrefixes.l0 k1 (t426 ++ y429) l1 (l1.length : Int) (wrap64 (x9_1 + 1))) else (none)) = some r := by first | (rw [hy429]; with_reducible exact H) | (have H2_ := (Option.bind_some _ _).symm.trans H; rw [hy429]; with_reducible exact H2_) | (have H2_ := (Option.bind_some _ _).symm.trans H; with_reducible exact H2_) | with_reducible exact H | (rw [hy429]; exact H) | exact H
      have Ny429 := Aside0.mk hy429
      clear hy429
      by_cases c7 : t426.length + y429.length < 140737488355328
      ·
       rw [if_pos c7] at H
       have LMc7 := Aside0.mk c7
       clear c7
       obtain ⟨y432, hy432⟩ : ∃ y_ : List Int, y_ = (t426 ++ y429) := ⟨_, rfl⟩
       replace H : (impl_putPrefixes.l0 k1 y432 l1 (l1.length : Int) (wrap64 (x9_1 + 1))) = some r := by first | (rw [hy432]; with_reducible exact H) | (have H2_ := (Option.bind_some _ _).symm.trans H; rw [hy432]; with_reducible exact H2_) | (have H2_ := (Option.bind_some _ _).symm.trans H; with_reducible exact H2_) | with_reducible exact H | (rw [hy432]; exact H) | exact H
       have Ny432 := Aside0.mk hy432
       clear hy432
       have H' := Aside0.mk H
       clear H
       have p424 : 0 ≤ (x9_1 : Int) := of_decide_eq_true (by first | (with_reducible assumption) | assumption)
       have q424 : x9_1 < (l1.length : Int) := of_decide_eq_true (by first | (with_reducible assumption) | assumption)
       obtain ⟨ad424, e424, hx424_0, hx424_1⟩ := at_T91 (Kd.C_kept_now HR1.out HK.out) x9_1 p424 q424
       cases e424
       replace p424 := eq_true p424
       replace q424 := eq_true q424
       try go_wp2_with (first | ((with_reducible refine gate_dst (N := 6) rfl ?_); refine boxE #[.int .i64 0, .int .i64 0] 91 (N := 6) rfl rfl ?_; intro gb425 hg w8 hbox hb; replace HO_0 := Aside0.mk (Kd.R_below (mR HO_0) hb); have BK425 := Aside0.mk hbox; have GW425 := Aside0.mk ((by rw [hg]; exact (by first | exact HK.out.1 | exact (show Kept w _ (fun k_ => P0_ k_) from by repeat (first | (with_reducible first | exact HK.out | apply Kept.alloc | apply Kept.drewN | apply Kept.drew) | exact HK.out)).1) : w.heap.size ≤ gb425)); replace HK := Aside0.mk (Kept.below (S := (fun k_ => P0_ k_)) (by repeat (first | (with_reducible first | exact HK.out | apply Kept.alloc | apply Kept.drewN | apply Kept.drew) | exact HK.out)) hb); have GE425 := gZ HB hg; replace HB := bS HB hb; clear hb hbox hg; have hz9 := cl2 BK425; obtain ⟨Ao10, co10, eo10⟩ := Kd.R_slice HO_0.out; subst eo10))
       have n0_ : Aside0 (Kd.R (Kd.int .u8) 5 ((w8.setCell ⟨gb425, 0, none⟩ (.int .i64 ((rd_T91 l1 x9_1).f0))).setCell ⟨gb425, 1, none⟩ (.int .i64 ((rd_T91 l1 x9_1).f1))) w0.heap.size (fun k_ => (P0_ k_ ∨ w.heap.size ≤ k_)) (.slice Ao10 x0_1.length co10) x0_1) := ⟨by (with_reducible repeat (first | apply Kd.R_alloc | apply Kd.R_drewN | apply Kd.R_drew)); exact Kd.R_mono (RF (RF (Kd.R_types HO_0.out BK425.out (by decide)))) (fun _ hk => hk.1)⟩
       have n1_ : Aside0 (((w8.setCell ⟨gb425, 0, none⟩ (.int .i64 ((rd_T91 l1 x9_1).f0))).setCell ⟨gb425, 1, none⟩ (.int .i64 ((rd_T91 l1 x9_1).f1))).heap[gb425]? = some (.cells #[.int .i64 ((rd_T91 l1 x9_1).f0), .int .i64 ((rd_T91 l1 x9_1).f1)] 91 (0, 0))) := ⟨by (with_reducible repeat (first | refine blk_drewN ?_ _ | refine blk_drew ?_ | refine blk_alloc ?_ _)); refine blk_put (cs := #[.int .i64 ((rd_T91 l1 x9_1).f0), .int .i64 0]) ?_ 1 _ rfl; (with_reducible repeat (first | refine blk_drewN ?_ _ | refine blk_drew ?_ | refine blk_alloc ?_ _)); refine blk_put (cs := #[.int .i64 0, .int .i64 0]) ?_ 0 _ rfl; (with_reducible repeat (first | refine blk_drewN ?_ _ | refine blk_drew ?_ | refine blk_alloc ?_ _)); exact BK425.out⟩
       have n2_ : Aside0 (Kept w ((w8.setCell ⟨gb425, 0, none⟩ (.int .i64 ((rd_T91 l1 x9_1).f0))).setCell ⟨gb425, 1, none⟩ (.int .i64 ((rd_T91 l1 x9_1).f1))) (fun k_ => P0_ k_)) := ⟨by repeat (first | (with_reducible first | exact HK.out | apply Kept.alloc | apply Kept.drewN | apply Kept.drew | refine Kept.setCell ?_ (.inr GW425.out) _) | exact HK.out)⟩
       have n3_ : Aside0 (Below w0.heap.size w0 ((w8.setCell ⟨gb425, 0, none⟩ (.int .i64 ((rd_T91 l1 x9_1).f0))).setCell ⟨gb425, 1, none⟩ (.int .i64 ((rd_T91 l1 x9_1).f1)))) := ⟨bel HB⟩
       (try clear HO_0)
       (try clear BK425)
       (try clear HK)
       (try clear HB)
       generalize ((w8.setCell ⟨gb425, 0, none⟩ (.int .i64 ((rd_T91 l1 x9_1).f0))).setCell ⟨gb425, 1, none⟩ (.int .i64 ((rd_T91 l1 x9_1).f1))) = w11 at n0_ n1_ n2_ n3_ ⊢
       have HO_0 := n0_
       have BK425 := n1_
       have HK := n2_
       have HB := n3_
       clear n0_ n1_ n2_ n3_
       have n0_ := Aside0.mk (Kd.R_drew HO_0.out)
       have n1_ := Aside0.mk (blk_drew BK425.out)
       have n2_ := Aside0.mk (Kept.drew HK.out)
       have n3_ := Aside0.mk (below_drew1 HB.out)
       clear HO_0
       clear BK425
       clear HK
       clear HB
       have HO_0 := n0_
       have BK425 := n1_
       have HK := n2_
       have HB := n3_
       clear n0_ n1_ n2_ n3_
       refine start_ (n := 10) (S := fun w' => w'.cell? ⟨gb425, 0, none⟩ = some (.int .i64 ((rd_T91 l1 x9_1).f0)) ∧ w'.cell? ⟨gb425, 1, none⟩ = some (.int .i64 ((rd_T91 l1 x9_1).f1))) (ds := []) #[false, false, false, false, false, false, false, false, false, false] (by kernel_rfl) rfl rfl ⟨(blk_cell BK425.out 0).trans rfl, (blk_cell BK425.out 1).trans rfl⟩ (fun hHeld => ?_); refine with_tabW impl_putPrefixes.tab4 impl_putPrefixes.bits4 (fun HT_ HW_ => ?_)
       generalize w11.drew = w12 at HO_0 BK425 HK HB hHeld ⊢
       refine pure_ (i := 0) (N := some 13) (v := ?_) (a' := ?_) #[true, false, false, false, false, false, false, false, false, false] rfl rfl (any_of HT_.out (by kernel_rfl)) (fun _ _ _ h => h) (Or.inl ⟨by rfl, ?_⟩) ?_ ?_
       rotate_left
       ·
        intro w'
        go_simp
        with_reducible rfl
       rotate_left
       ·
        simp only [Act.put, List.setIfInBounds_toArray, List.set_cons_zero, List.set_cons_succ, i64_w, i32_w]
        rfl
       refine pure_ (i := 1) (N := some 14) (v := ?_) (a' := ?_) #[true, true, false, false, false, false, false, false, false, false] rfl rfl (any_of HT_.out (by kernel_rfl)) (fun _ _ _ h => h) (Or.inl ⟨by rfl, ?_⟩) ?_ ?_
       rotate_left
       ·
        intro w'
        go_simp
        with_reducible rfl
       rotate_left
       ·
        simp only [Act.put, List.setIfInBounds_toArray, List.set_cons_zero, List.set_cons_succ, i64_w, i32_w]
        rfl
       refine pure_ (i := 4) (N := some 17) (v := ?_) (a' := ?_) #[true, true, false, false, true, false, false, false, false, false] rfl rfl (any_of HT_.out (by kernel_rfl)) (fun _ _ _ h => h) (Or.inl ⟨by rfl, ?_⟩) ?_ ?_
       rotate_left
       ·
        intro w'
        go_simp
        with_reducible rfl
       rotate_left
       ·
        simp only [Act.put, List.setIfInBounds_toArray, List.set_cons_zero, List.set_cons_succ, i64_w, i32_w]
        rfl
       refine take_ (i := 2) (N := some 15) (v := ?_) (a' := ?_) #[true, true, true, false, true, false, false, false, false, false] rfl rfl (take_ofW HT_.out HW_.out (by kernel_rfl)) (fun _ _ _ h => h) (Or.inl ⟨by rfl, ?_⟩) hHeld ?_ ?_
       rotate_left
       ·
        rintro w' ⟨s0, s1⟩
        go_simp
        with_reducible rfl
       rotate_left
       ·
        simp only [Act.put, List.setIfInBounds_toArray, List.set_cons_zero, List.set_cons_succ, i64_w, i32_w]
        rfl
       refine take_ (i := 5) (N := some 18) (v := ?_) (a' := ?_) #[true, true, true, false, true, true, false, false, false, false] rfl rfl (take_ofW HT_.out HW_.out (by kernel_rfl)) (fun _ _ _ h => h) (Or.inl ⟨by rfl, ?_⟩) hHeld ?_ ?_
       rotate_left
       ·
        rintro w' ⟨s0, s1⟩
        go_simp
        with_reducible rfl
       rotate_left
       ·
        simp only [Act.put, List.setIfInBounds_toArray, List.set_cons_zero, List.set_cons_succ, i64_w, i32_w]
        rfl
       refine pure_ (i := 6) (N := some 19) (v := ?_) (a' := ?_) #[true, true, true, false, true, true, true, false, false, false] rfl rfl (any_of HT_.out (by kernel_rfl)) (fun _ _ _ h => h) (Or.inl ⟨by rfl, ?_⟩) ?_ ?_
       rotate_left
       ·
        intro w'
        go_simp
        with_reducible rfl
       rotate_left
       ·
        simp only [Act.put, List.setIfInBounds_toArray, List.set_cons_zero, List.set_cons_succ, i64_w, i32_w]
        rfl
       refine join_ (σ := Value × Value) 2 #[true, true, true, true, true, true, true, true, false, false] (fun s_ => [(16, s_.1), (20, s_.2)]) (fun s_ w' => (w'.cell? ⟨gb425, 0, none⟩ = some (.int .i64 ((rd_T91 l1 x9_1).f0)) ∧ w'.cell? ⟨gb425, 1, none⟩ = some (.int .i64 ((rd_T91 l1 x9_1).f1))) ∧ (Kd.R (Kd.int .u8) 5 w' w0.heap.size (fun k_ => (P0_ k_ ∨ w.heap.size ≤ k_) ∧ some k_ ≠ (s_.2 : Value).ownBlock) s_.1 t426) ∧ (Kd.R (Kd.int .u8) 5 w' w0.heap.size (fun k_ => (P0_ k_ ∨ w.heap.size ≤ k_) ∧ some k_ ≠ (s_.1 : Value).ownBlock) s_.2 y429) ∧ (w'.heap[gb425]? = some (.cells #[.int .i64 ((rd_T91 l1 x9_1).f0), .int .i64 ((rd_T91 l1 x9_1).f1)] 91 (0, 0))) ∧ (Kept w w' (fun k_ => P0_ k_)) ∧ (Below w0.heap.size w0 w')) ?_ ?_
       rotate_left
       ·
        intro hCont
        refine two_ (i := 3) (j := 7) (Ni := some 16) (Nj := some 20) #[true, true, true, true, true, true, true, false, false, false] #[true, true, true, false, true, true, true, true, false, false] rfl rfl rfl rfl (two_of HT_.out (by kernel_rfl)) (by decide) (by decide) (fun K hK => ?_) (fun K hK => ?_)
        ·
         skip
         refine goes_ Try.func114 (by kernel_rfl) rfl #[.slice Ao10 x0_1.length co10, .int .i64 ((rd_T91 l1 x9_1).f0)] (by rfl) rfl rfl (by (try simp only [List.map_toArray, List.map_cons, List.map_nil]); first | done | rfl | (simp only [List.length_drop, List.length_take]; rfl)) ?_
         with_reducible refine (impl_putTwo.calls (fun k_ => some k_ = (.slice Ao10 x0_1.length co10 : Value).ownBlock) (.slice Ao10 x0_1.length co10) x0_1 ((rd_T91 l1 x9_1).f0) t426 w0 _ ?side1 ?side2 A6.out).mono ?_
         (case side1 => exact bel HB)
         (case side2 => exact Kd.R_tight rfl HO_0.out)
         rintro e w13 ⟨v427, rfl, ho0, hb, hkp⟩
         refine ⟨_, rfl, ?_⟩
         have n0_ := Aside0.mk (blk_kept (mB BK425) hkp (fun hs_ => (fun e_ => (Kd.R_ne HO_0.out BK425.out (by decide)) e_) hs_))
         have n1_ := Aside0.mk (Kd.R_mono (ok' := fun k_ => (P0_ k_ ∨ w.heap.size ≤ k_)) ho0 (fun k_ hk_ => Or.elim hk_ (fun hs_ => (HO_0.out.1 k_ (hs_).symm)) (fun hn_ => (.inr (Nat.le_trans (by first | exact HK.out.1 | exact (show Kept w _ (fun k_ => P0_ k_) from by repeat (first | (with_reducible first | exact HK.out | apply Kept.alloc | apply Kept.drewN | apply Kept.drew | refine Kept.setCell ?_ (.inr GW425.out) _) | exact HK.out)).1) hn_)))))
         have n2_ := Aside0.mk (Kept.then_ (S := (fun k_ => P0_ k_)) (by repeat (first | (with_reducible first | exact HK.out | apply Kept.alloc | apply Kept.drewN | apply Kept.drew | refine Kept.setCell ?_ (.inr GW425.out) _) | exact HK.out)) hkp (fun k_ hs_ => (fun e_ => (HO_0.out.1 k_ e_.symm)) hs_))
         have n3_ := Aside0.mk (hb)
         clear BK425
         clear HK
         clear HB
         clear HO_0
         have BK425 := n0_
         have HO428 := n1_
         have HK := n2_
         have HB := n3_
         clear n0_ n1_ n2_ n3_
         (try clear hb)
         (try clear hkp)
         (try clear ho0)
         refine hK.out _ _ (ce2 BK425) (fun hHeld => ?_)
         clear hK K
         refine norm_ (a' := ?_) ?_ ?_
         rotate_left
         ·
          show Act.put _ (some 16) _ = _
          simp only [Act.put, List.setIfInBounds_toArray, List.set_cons_zero, List.set_cons_succ, i64_w, i32_w]
          rfl
         refine one_ (i := 7) (N := some 20) #[true, true, true, true, true, true, true, true, false, false] rfl rfl (one_of HT_.out (by kernel_rfl)) (by decide) (fun K hK => ?_)
         refine Kd.R_lit_step (Kd.int .u8) _ 5 ?hg (N := 20) ?hd (xs := ([((rd_T91 l1 x9_1).f1) % 256] : List Int)) (inner := [.int .u8 (((rd_T91 l1 x9_1).f1) % 256)]) (ok := fun _ => True) (okp := fun _ => True) ?hr ?hp (fun _ hk => hk) trivial (Below.refl _ _) (Nat.le_refl _) (by simp) ?_; (case hd => rfl); (case hg => rfl); (case hr => first | (go_simp; done) | (go_simp; rfl)); (case hp => exact (Reps.one (show Kd.M (Kd.int .u8) _ _ _ (((rd_T91 l1 x9_1).f1) % 256) [.int .u8 (((rd_T91 l1 x9_1).f1) % 256)] from rfl) (Reps.none _ _)))
         intro v430 w14 ho15 hb hg_ hnew_
         clear hg_ hnew_
         (first | rw [← Ny429.out] at ho15 | (simp only [Int.reduceToNat] at ho15; rw [← Ny429.out] at ho15))
         have n0_ := Aside0.mk (Kd.R_elder' (mR HO428) (Kd.R_base ho15) hb)
         have n1_ := Aside0.mk (Kd.R_lower (Kd.R_new' (Kd.R_newM (M := fun k_ => (P0_ k_ ∨ w.heap.size ≤ k_)) ho15 (by first | exact HK.out.1 | exact (show Kept w _ (fun k_ => P0_ k_) from by repeat (first | (with_reducible first | exact HK.out | apply Kept.alloc | apply Kept.drewN | apply Kept.drew | refine Kept.setCell ?_ (.inr GW425.out) _) | exact HK.out)).1) (fun k_ h_ => .inr h_)) (Kd.R_lt (mR HO428))) (below_size (bel HB)))
         have n2_ := bK BK425 hb
         have n3_ := Aside0.mk (Kept.below (S := (fun k_ => P0_ k_)) (by repeat (first | (with_reducible first | exact HK.out | apply Kept.alloc | apply Kept.drewN | apply Kept.drew | refine Kept.setCell ?_ (.inr GW425.out) _) | exact HK.out)) hb)
         have n4_ := bS HB hb
         clear HO428
         clear BK425
         clear HK
         clear HB
         have HO428 := n0_
         have HO431 := n1_
         have BK425 := n2_
         have HK := n3_
         have HB := n4_
         clear n0_ n1_ n2_ n3_ n4_
         clear hb ho15
         refine hK.out _ _ (ce2 BK425) (fun hHeld => ?_)
         clear hK K
         refine norm_ (a' := ?_) ?_ ?_
         rotate_left
         ·
          show Act.put _ (some 20) _ = _
          simp only [Act.put, List.setIfInBounds_toArray, List.set_cons_zero, List.set_cons_succ, i64_w, i32_w]
          rfl
         exact norm_ (by simp only [putAll, Act.put, List.setIfInBounds_toArray, List.set_cons_zero, List.set_cons_succ]) (hCont (v427, v430) _ ⟨hHeld, (mR HO428), (by (with_reducible repeat (first | apply Kd.R_alloc | apply Kd.R_drewN | apply Kd.R_drew)); exact Kd.R_mono HO431.out (fun _ hk => ⟨hk.1.1, hk.2⟩)), (mB BK425), (by repeat (first | (with_reducible first | exact HK.out | apply Kept.alloc | apply Kept.drewN | apply Kept.drew | refine Kept.setCell ?_ (.inr GW425.out) _) | exact HK.out)), (bel HB)⟩)
        ·
         skip
         refine Kd.R_lit_step (Kd.int .u8) _ 5 ?hg (N := 20) ?hd (xs := ([((rd_T91 l1 x9_1).f1) % 256] : List Int)) (inner := [.int .u8 (((rd_T91 l1 x9_1).f1) % 256)]) (ok := fun _ => True) (okp := fun _ => True) ?hr ?hp (fun _ hk => hk) trivial (Below.refl _ _) (Nat.le_refl _) (by simp) ?_; (case hd => rfl); (case hg => rfl); (case hr => first | (go_simp; done) | (go_simp; rfl)); (case hp => exact (Reps.one (show Kd.M (Kd.int .u8) _ _ _ (((rd_T91 l1 x9_1).f1) % 256) [.int .u8 (((rd_T91 l1 x9_1).f1) % 256)] from rfl) (Reps.none _ _)))
         intro v430 w13 ho14 hb hg_ hnew_
         clear hg_ hnew_
         (first | rw [← Ny429.out] at ho14 | (simp only [Int.reduceToNat] at ho14; rw [← Ny429.out] at ho14))
         have n0_ := Aside0.mk (Kd.R_elder' (mR HO_0) (Kd.R_base ho14) hb)
         have n1_ := Aside0.mk (Kd.R_lower (Kd.R_new' (Kd.R_newM (M := fun k_ => (P0_ k_ ∨ w.heap.size ≤ k_)) ho14 (by first | exact HK.out.1 | exact (show Kept w _ (fun k_ => P0_ k_) from by repeat (first | (with_reducible first | exact HK.out | apply Kept.alloc | apply Kept.drewN | apply Kept.drew | refine Kept.setCell ?_ (.inr GW425.out) _) | exact HK.out)).1) (fun k_ h_ => .inr h_)) (Kd.R_lt (mR HO_0))) (below_size (bel HB)))
         have n2_ := bK BK425 hb
         have n3_ := Aside0.mk (Kept.below (S := (fun k_ => P0_ k_)) (by repeat (first | (with_reducible first | exact HK.out | apply Kept.alloc | apply Kept.drewN | apply Kept.drew | refine Kept.setCell ?_ (.inr GW425.out) _) | exact HK.out)) hb)
         have n4_ := bS HB hb
         clear HO_0
         clear BK425
         clear HK
         clear HB
         have HO_0 := n0_
         have HO431 := n1_
         have BK425 := n2_
         have HK := n3_
         have HB := n4_
         clear n0_ n1_ n2_ n3_ n4_
         clear hb ho14
         refine hK.out _ _ (ce2 BK425) (fun hHeld => ?_)
         clear hK K
         refine norm_ (a' := ?_) ?_ ?_
         rotate_left
         ·
          show Act.put _ (some 20) _ = _
          simp only [Act.put, List.setIfInBounds_toArray, List.set_cons_zero, List.set_cons_succ, i64_w, i32_w]
          rfl
         refine one_ (i := 3) (N := some 16) #[true, true, true, true, true, true, true, true, false, false] rfl rfl (one_of HT_.out (by kernel_rfl)) (by decide) (fun K hK => ?_)
         refine goes_ Try.func114 (by kernel_rfl) rfl #[.slice Ao10 x0_1.length co10, .int .i64 ((rd_T91 l1 x9_1).f0)] (by rfl) rfl rfl (by (try simp only [List.map_toArray, List.map_cons, List.map_nil]); first | done | rfl | (simp only [List.length_drop, List.length_take]; rfl)) ?_
         with_reducible refine (impl_putTwo.calls (fun k_ => some k_ = (.slice Ao10 x0_1.length co10 : Value).ownBlock) (.slice Ao10 x0_1.length co10) x0_1 ((rd_T91 l1 x9_1).f0) t426 w0 _ ?side1 ?side2 A6.out).mono ?_
         (case side1 => exact bel HB)
         (case side2 => exact Kd.R_tight rfl HO_0.out)
         rintro e w15 ⟨v427, rfl, ho0, hb, hkp⟩
         refine ⟨_, rfl, ?_⟩
         have n0_ := Aside0.mk (blk_kept (mB BK425) hkp (fun hs_ => (fun e_ => (Kd.R_ne HO_0.out BK425.out (by decide)) e_) hs_))
         have n1_ := Aside0.mk (Kd.R_mono (ok' := fun k_ => (P0_ k_ ∨ w.heap.size ≤ k_) ∧ some k_ ≠ (v427 : Value).ownBlock) (Kd.R_keptB (HO431.out) hkp (fun k_ hk_ hs_ => (hk_.2) hs_)) (fun k_ hk_ => ⟨hk_.1.1.1, fun e_ => Or.elim (ho0.1 k_ e_.symm) (fun hs_ => hk_.2.1 hs_) (fun hn_ => Nat.not_le.2 hk_.2.2 hn_)⟩))
         have n2_ := Aside0.mk (Kd.R_mono (ok' := fun k_ => (P0_ k_ ∨ w.heap.size ≤ k_) ∧ some k_ ≠ (v430 : Value).ownBlock) ho0 (fun k_ hk_ => ⟨Or.elim hk_ (fun hs_ => (HO_0.out.1 k_ (hs_).symm).1) (fun hn_ => (.inr (Nat.le_trans (by first | exact HK.out.1 | exact (show Kept w _ (fun k_ => P0_ k_) from by repeat (first | (with_reducible first | exact HK.out | apply Kept.alloc | apply Kept.drewN | apply Kept.drew | refine Kept.setCell ?_ (.inr GW425.out) _) | exact HK.out)).1) hn_))), Or.elim hk_ (fun hs_ => fun e_ => (((HO431.out).1 k_ e_.symm).2) hs_) (fun hn_ => (Kd.fresh' (Kd.R_lt (mR HO431)) k_ hn_))⟩))
         have n3_ := Aside0.mk (Kept.then_ (S := (fun k_ => P0_ k_)) (by repeat (first | (with_reducible first | exact HK.out | apply Kept.alloc | apply Kept.drewN | apply Kept.drew | refine Kept.setCell ?_ (.inr GW425.out) _) | exact HK.out)) hkp (fun k_ hs_ => (fun e_ => (HO_0.out.1 k_ e_.symm).1) hs_))
         have n4_ := Aside0.mk (hb)
         clear BK425
         clear HO431
         clear HK
         clear HB
         clear HO_0
         have BK425 := n0_
         have HO431 := n1_
         have HO428 := n2_
         have HK := n3_
         have HB := n4_
         clear n0_ n1_ n2_ n3_ n4_
         (try clear hb)
         (try clear hkp)
         (try clear ho0)
         refine hK.out _ _ (ce2 BK425) (fun hHeld => ?_)
         clear hK K
         refine norm_ (a' := ?_) ?_ ?_
         rotate_left
         ·
          show Act.put _ (some 16) _ = _
          simp only [Act.put, List.setIfInBounds_toArray, List.set_cons_zero, List.set_cons_succ, i64_w, i32_w]
          rfl
         exact norm_ (by simp only [putAll, Act.put, List.setIfInBounds_toArray, List.set_cons_zero, List.set_cons_succ]) (hCont (v427, v430) _ ⟨hHeld, (mR HO428), (mR HO431), (mB BK425), (by repeat (first | (with_reducible first | exact HK.out | apply Kept.alloc | apply Kept.drewN | apply Kept.drew | refine Kept.setCell ?_ (.inr GW425.out) _) | exact HK.out)), (bel HB)⟩)
       rintro ⟨v427, v430⟩ w16 ⟨hS_, h0_, h1_, h2_, h3_, h4_⟩
       have n0_ : Aside0 (Kd.R (Kd.int .u8) 5 w16 w0.heap.size (fun k_ => (P0_ k_ ∨ w.heap.size ≤ k_) ∧ some k_ ≠ (v430 : Value).ownBlock) v427 t426) := ⟨h0_⟩
       have n1_ : Aside0 (Kd.R (Kd.int .u8) 5 w16 w0.heap.size (fun k_ => (P0_ k_ ∨ w.heap.size ≤ k_) ∧ some k_ ≠ (v427 : Value).ownBlock) v430 y429) := ⟨h1_⟩
       have n2_ : Aside0 (w16.heap[gb425]? = some (.cells #[.int .i64 ((rd_T91 l1 x9_1).f0), .int .i64 ((rd_T91 l1 x9_1).f1)] 91 (0, 0))) := ⟨h2_⟩
       have n3_ : Aside0 (Kept w w16 (fun k_ => P0_ k_)) := ⟨h3_⟩
       have n4_ : Aside0 (Below w0.heap.size w0 w16) := ⟨h4_⟩
       clear HO_0
       clear BK425
       clear HK
       clear HB
       clear h0_ h1_ h2_ h3_ h4_
       have HO428 := n0_
       have HO431 := n1_
       have BK425 := n2_
       have HK := n3_
       have HB := n4_
       clear n0_ n1_ n2_ n3_ n4_
       have hHeld : w16.cell? ⟨gb425, 0, none⟩ = some (.int .i64 ((rd_T91 l1 x9_1).f0)) ∧ w16.cell? ⟨gb425, 1, none⟩ = some (.int .i64 ((rd_T91 l1 x9_1).f1)) := hS_
       obtain ⟨Ao18, co18, eo18⟩ := Kd.R_slice HO431.out
       (first | subst eo18 | (injection eo18 with f1_ f2_ f3_; have f4_ := f1_.symm; have f5_ := f3_.symm; clear f1_ f2_ f3_; subst f4_; subst f5_))
       refine norm_ (a' := ?_) ?_ ?_
       rotate_left
       ·
        simp only [putAll, Act.put, List.setIfInBounds_toArray, List.set_cons_zero, List.set_cons_succ]
        rfl
       refine one_ (i := 8) (N := some 21) #[true, true, true, true, true, true, true, true, true, false] rfl rfl (one_of HT_.out (by kernel_rfl)) (by decide) (fun K hK => ?_)
       refine Kd.R_append_rows_step (Kd.int .u8) (w0 := w0) w0.heap.size (by rfl) (.tmp 16) (.tmp 20) 31 5 (.int .u8 0) 1 rfl Try.underlying31 info5 rfl (by decide) (by omega) v427 t426 y429 _ _ _ (fun k_ => (P0_ k_ ∨ w.heap.size ≤ k_) ∧ some k_ ≠ (.slice Ao18 y429.length co18 : Value).ownBlock) (fun _ => False) rfl rfl ?aO ?aR (fun _ _ h => h) (fun _ h => h.elim) ?aF ?aB ?aS ?aL ?_
       (case aR => repeat (first | exact (Kd.R_reads' HO431.out).2.2 | (with_reducible refine Kd.C_alloc ?_ _) | (with_reducible refine Kd.C_drewN ?_ _) | (with_reducible refine Kd.C_drew ?_)))
       (case aB => exact (bel HB))
       (case aF => exact (fun k_ hk => ⟨(.inr (Nat.le_trans (by first | exact HK.out.1 | exact (show Kept w _ (fun k_ => P0_ k_) from by repeat (first | (with_reducible first | exact HK.out | apply Kept.alloc | apply Kept.drewN | apply Kept.drew | refine Kept.setCell ?_ (.inr GW425.out) _) | exact HK.out)).1) hk)), Kd.fresh' (Kd.R_lt (mR HO431)) k_ hk⟩))
       (case aO => exact (mR HO428))
       (case aS => exact (below_size (bel HB)))
       (case aL => have := LMc7.out; omega)
       intro v433 w17 ho hb hg hat
       rw [← Ny432.out] at ho
       have n0_ := Aside0.mk (blk_grown (g := gb425) (o := .cells #[.int .i64 ((rd_T91 l1 x9_1).f0), .int .i64 ((rd_T91 l1 x9_1).f1)] 91 (0, 0)) (mB BK425) hg (Kd.R_ne HO428.out BK425.out (by decide)))
       have n1_ := Aside0.mk (Kd.R_after (ok := (fun k_ => (P0_ k_ ∨ w.heap.size ≤ k_))) (mR HO431) hg hat)
       have n2_ := Aside0.mk (hb)
       have n3_ := Aside0.mk (Kept.of_grown (S := (fun k_ => P0_ k_)) hg (by repeat (first | (with_reducible first | exact HK.out | apply Kept.alloc | apply Kept.drewN | apply Kept.drew | refine Kept.setCell ?_ (.inr GW425.out) _) | exact HK.out)) (fun k_ e_ => (HO428.out.1 k_ e_).1))
       have n4_ := Aside0.mk (ho)
       clear BK425
       clear HO431
       clear HB
       clear HK
       clear HO428
       have BK425 := n0_
       have HO431 := n1_
       have HB := n2_
       have HK := n3_
       have HO434 := n4_
       clear n0_ n1_ n2_ n3_ n4_
       clear ho hb hg hat
       refine hK.out _ _ (ce2 BK425) (fun hHeld => ?_)
       clear hK K
       refine norm_ (a' := ?_) ?_ ?_
       rotate_left
       ·
        show Act.put _ (some 21) _ = _
        simp only [Act.put, List.setIfInBounds_toArray, List.set_cons_zero, List.set_cons_succ, i64_w, i32_w]
        rfl
       refine pure_ (i := 9) (N := some 0) (v := ?_) (a' := ?_) #[true, true, true, true, true, true, true, true, true, true] rfl rfl (any_of HT_.out (by kernel_rfl)) (fun _ _ _ h => h) (Or.inl ⟨by rfl, ?_⟩) ?_ ?_
       rotate_left
       ·
        intro w'
        go_simp
        with_reducible rfl
       rotate_left
       ·
        simp only [Act.put, List.setIfInBounds_toArray, List.set_cons_zero, List.set_cons_succ, i64_w, i32_w]
        rfl
       refine done_ (done_of HT_.out (by kernel_rfl)) ?_
       try go_wp2
       go_roundg k1
       case measure => have := HK1.out; omega
       case rel => exact ⟨(y432), (wrap64 (x9_1 + 1)), (by first | rfl | (simp; done) | (simp [*]; done)), H', ⟨by have := HK1.out; omega⟩, ⟨by (with_reducible repeat (first | apply Kd.R_alloc | apply Kd.R_drewN | apply Kd.R_drew)); exact Kd.R_mono HO434.out (fun _ hk => hk.1)⟩, ⟨by repeat (first | (with_reducible first | exact HK.out | apply Kept.alloc | apply Kept.drewN | apply Kept.drew | refine Kept.setCell ?_ (.inr GW425.out) _) | exact HK.out)⟩, ⟨bel HB⟩⟩
      ·
       rw [if_neg c7] at H
       exact absurd H (by simp)
     ·
      rw [if_neg c5] at H
      exact absurd H (by simp)
    ·
     rw [if_neg c4] at H
     exact absurd H (by simp)
   ·
    rw [if_neg c3] at H
    have c3b0 : decide (x9_1 < (l1.length : Int)) = false := decide_eq_false c3
    have c3e := eq_false c3
    clear c3
    obtain rfl := Option.some.inj H
    go_wp2
    go_ret
    exact ⟨_, by first | rfl | (simp [errW_none, errW_some] <;> rfl) | (simp [*, errW_none, errW_some] <;> rfl), by (with_reducible repeat (first | apply Kd.R_alloc | apply Kd.R_drewN | apply Kd.R_drew)); exact HO_0.out, bel HB, by repeat (first | (with_reducible first | exact HK.out | apply Kept.alloc | apply Kept.drewN | apply Kept.drew) | exact HK.out)⟩

end Go.Proofs.Ytgfoifkkffffgac.PFnExactPackMessage
