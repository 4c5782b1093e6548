-- Laid by a turned copy of the printer (wip/tools/patch_print.py)
import Derived.Test.YtgfoifkkffffgaaPFnExactRiseNodex0
import Derived.Test.YtgfoifkkffffgaaPFnExactRiseNodex7
import Derived.Test.YtgfoifkkffffgaaPFnExactRiseNodex8
namespace Go.Proofs.Ytgfoifkkffffgaa.PFnExactRiseNode
open Go.RowKit Go.Proofs.YtgfoifkkffffgaaW.PrintWords Go.Proofs.YtgfoifkkffffgaaW.PrintLast Go.Proofs.YtgfoifkkffffgaaW.PrintMore
attribute [local go_sem] max2_int min2_int max_two min_two max_three min_three max_four min_four   -- for this text's walks alone
set_option linter.unusedVariables false
set_option linter.unusedSimpArgs false

/-! ### spec_l12Bad: function 40 -/
def spec_l12Bad.f (a0 : Int) : Option (Int × Int × Bool × Int × Int × (List (S51)) × Int × Int × Int × Int × (List (S53))) := some (a0, 0, false, 0, 0, ([] : List (S51)), 0, 0, 0, 0, ([] : List (S53)))
set_option maxHeartbeats 8000000 in
set_option maxRecDepth 100000 in
theorem spec_l12Bad.calls (a0 : Int) (r1 : Int) (r2 : Int) (r3 : Bool) (r4 : Int) (r5 : Int) (r6 : List (S51)) (r7 : Int) (r8 : Int) (r9 : Int) (r10 : Int) (r11 : List (S53)) (w : World) (h : spec_l12Bad.f a0 = some (r1, r2, r3, r4, r5, r6, r7, r8, r9, r10, r11)) :
  Calls Try.prog 40 #[.int .i64 a0] w fun e w' => ∃ v5_ v10_ : Value, e = .returned (.agg #[.int .i64 r1, .int .i64 r2, .bool r3, .int .i64 r4, .int .i64 r5, v5_, .int .i64 r7, .int .i64 r8, .int .i64 r9, .int .i64 r10, v10_]) ∧ Kd.S k51 51 w' w.heap.size (fun _ => True) v5_ r6 ∧ Kd.S k53 53 w' w.heap.size (fun _ => True) v10_ r11 ∧ Below w.heap.size w w' := by
 have hu35 := Try.underlying35
 have hu29 := Try.underlying29
 have HB := Aside0.mk (Below.refl w.heap.size w)
 have H : (some (a0, 0, false, 0, 0, ([] : List (S51)), 0, 0, 0, 0, ([] : List (S53)))) = some (r1, r2, r3, r4, r5, r6, r7, r8, r9, r10, r11) := h
 clear h
 simp only [Option.some.injEq, Prod.mk.injEq] at H
 obtain ⟨rfl, rfl, rfl, rfl, rfl, rfl, rfl, rfl, rfl, rfl, rfl⟩ := H
 go_enter Try.func40, Try.ntmps40
 go_wp2_with (first | ((with_reducible refine gate_dst (N := 2) rfl ?_); refine boxE #[.int .i64 0, .int .i64 0, .bool false, .int .i64 0, .int .i64 0, .slice none 0 0, .int .i64 0, .int .i64 0, .int .i64 0, .int .i64 0, .slice none 0 0] 35 (N := 2) rfl rfl ?_; intro gb225 hg w2 hbox hb; have BK225 := Aside0.mk hbox; have GW225 := gZ HB hg; have GE225 := gZ HB hg; replace HB := bS HB hb; clear hb hbox hg; have hz3 := cl11 BK225))
 refine bodyPost_ret (results_cell_row rfl _ _ gb225 35 #[.int .i64 a0, .int .i64 0, .bool false, .int .i64 0, .int .i64 0, .slice none 0 0, .int .i64 0, .int .i64 0, .int .i64 0, .int .i64 0, .slice none 0 0] (0, 0) _ rfl (mP BK225) Try.underlying35 rfl (by kernel_rfl)) rfl ?_
 exact ⟨_, _, by first | rfl | (simp [errW_none, errW_some] <;> rfl) | (simp [*, errW_none, errW_some] <;> rfl), by first | exact Kd.S_nil _ _ _ _ _ | exact Kd.N_nil _ _ _ _ _ | exact Kd.V_nil _ _ _ _ _ | exact Kd.Q_nil _ _ _ _ _ | exact Kd.R_nil _ _ _ _ _, by first | exact Kd.S_nil _ _ _ _ _ | exact Kd.N_nil _ _ _ _ _ | exact Kd.V_nil _ _ _ _ _ | exact Kd.Q_nil _ _ _ _ _ | exact Kd.R_nil _ _ _ _ _, bel HB⟩

/-! ### spec_l12CopyEntry: function 68 -/
def spec_l12CopyEntry.f (a0_0 : Int) (a0_1 : Int) (a0_2 : Int) (l0_3 : List Int) : Option (Int × Int × Int × List Int) := (some (([] : List Int) : List Int)).bind fun y228 => (if y228.length + l0_3.length < 140737488355328 then (some (a0_0, a0_1, a0_2, (y228 ++ l0_3))) else (none))
set_option maxHeartbeats 8000000 in
set_option maxRecDepth 100000 in
theorem spec_l12CopyEntry.calls (a0_0 : Int) (a0_1 : Int) (a0_2 : Int) (A0_3 : Option Addr) (c0_3 : Nat) (l0_3 : List Int) (r1 : Int) (r2 : Int) (r3 : Int) (r4 : List Int) (w : World) (hr0_3 : Kd.C (Kd.int .u8) w A0_3 l0_3.length l0_3) (hc0_3 : l0_3.length ≤ c0_3) (h : spec_l12CopyEntry.f a0_0 a0_1 a0_2 l0_3 = some (r1, r2, r3, r4)) :
  Calls Try.prog 68 #[.agg #[.int .i64 a0_0, .int .i64 a0_1, .int .i64 a0_2, .slice A0_3 l0_3.length c0_3]] w fun e w' => ∃ v3_ : Value, e = .returned (.agg #[.int .i64 r1, .int .i64 r2, .int .i64 r3, v3_]) ∧ Kd.R (Kd.int .u8) 5 w' w.heap.size (fun _ => True) v3_ r4 ∧ Below w.heap.size w w' := by
 have hu51 := Try.underlying51
 have hu49 := Try.underlying49
 have HR0_3 := Aside0.mk hr0_3
 have HC0_3 := Aside0.mk hc0_3
 clear hr0_3 hc0_3
 have HB := Aside0.mk (Below.refl w.heap.size w)
 have H : ((some (([] : List Int) : List Int)).bind fun y228 => (if y228.length + l0_3.length < 140737488355328 then (some (a0_0, a0_1, a0_2, (y228 ++ l0_3))) else (none))) = some (r1, r2, r3, r4) := h
 clear h
 obtain ⟨y228, hy228⟩ : ∃ y_ : List Int, y_ = (([] : List Int)) := ⟨_, rfl⟩
 replace H : (if y228.length + l0_3.length < 140737488355328 then (some (a0_0, a0_1, a0_2, (y228 ++ l0_3))) else (none)) = some (r1, r2, r3, r4) := by first | (rw [hy228]; with_reducible exact H) | (have H2_ := (Option.bind_some _ _).symm.trans H; rw [hy228]; with_reducible exact H2_) | (have H2_ := (Option.bind_some _ _).symm.trans H; with_reducible exact H2_) | with_reducible exact H | (rw [hy228]; exact H) | exact H
 have Ny228 := Aside0.mk hy228
 clear hy228
 by_cases c2 : y228.length + l0_3.length < 140737488355328
 ·
  rw [if_pos c2] at H
  have LMc2 := Aside0.mk c2
  clear c2
  obtain ⟨y231, hy231⟩ : ∃ y_ : List Int, y_ = (y228 ++ l0_3) := ⟨_, rfl⟩
  replace H : (some (a0_0, a0_1, a0_2, y231)) = some (r1, r2, r3, r4) := by first | (rw [hy231]; with_reducible exact H) | (have H2_ := (Option.bind_some _ _).symm.trans H; rw [hy231]; with_reducible exact H2_) | (have H2_ := (Option.bind_some _ _).symm.trans H; with_reducible exact H2_) | with_reducible exact H | (rw [hy231]; exact H) | exact H
  have Ny231 := Aside0.mk hy231
  clear hy231
  simp only [Option.some.injEq, Prod.mk.injEq] at H
  obtain ⟨rfl, rfl, rfl, rfl⟩ := H
  go_enter Try.func68, Try.ntmps68
  go_wp2_with (first | ((with_reducible refine gate_dst (N := 1) rfl ?_); refine boxE #[.int .i64 a0_0, .int .i64 a0_1, .int .i64 a0_2, .slice A0_3 l0_3.length c0_3] 51 (N := 1) rfl rfl ?_; intro gb226 hg w3 hbox hb; have BK226 := Aside0.mk hbox; have GW226 := gZ HB hg; have GE226 := gZ HB hg; replace HB := bS HB hb; clear hb hbox hg) | ((with_reducible refine gate_dst (N := 2) rfl ?_); refine boxE #[.int .i64 0, .int .i64 0, .int .i64 0, .slice none 0 0] 51 (N := 2) rfl rfl ?_; intro gb227 hg w4 hbox hb; have BK227 := Aside0.mk hbox; have GW227 := gZ HB hg; have GE227 := gZ HB hg; replace HB := bS HB hb; have NB226_227 := nL BK226 hg; have NB227_226 := nG BK226 hg; replace BK226 := bK BK226 hb; clear hb hbox hg) | ((with_reducible refine gate_dst (N := 3) rfl ?_); refine Kd.R_lit (Kd.int .u8) _ 5 ?hg (N := 3) ?hd (xs := ([] : List Int)) (inner := []) (ok := fun _ => True) (okp := fun _ => True) ?hr ?hp (fun _ hk => hk) trivial (Below.refl _ _) (Nat.le_refl _) (by simp) ?_; (case hd => rfl); (case hg => rfl); (case hr => first | (go_simp; done) | (go_simp; rfl)); (case hp => exact (Reps.none _ _)); intro v229 w5 ho6 hb hg_ hnew_; clear hg_ hnew_; (first | rw [← Ny228.out] at ho6 | (simp only [Int.reduceToNat] at ho6; rw [← Ny228.out] at ho6)); have HO230 := Aside0.mk (Kd.R_lower ho6 (below_size (bel HB))); replace BK226 := bK BK226 hb; replace BK227 := bK BK227 hb; replace HB := bS HB hb; clear hb ho6; have hnb7 := NB226_227.out; have hnc7 := NB227_226.out; have hz8 := cl4 BK226) | ((with_reducible refine gate_builtin (b := .append) (xs := #[.tmp 3, .tmp 6]) rfl ?_); at_builtin; refine Kd.R_append_rows (Kd.int .u8) (w0 := w) w.heap.size rfl (.tmp 3) (.tmp 6) 40 5 (.int .u8 0) 1 rfl Try.underlying40 info5 rfl (by decide) (by omega) v229 y228 l0_3 _ _ _ (fun _ => True) (fun _ => False) rfl rfl ?aO ?aR (fun _ _ h => h) (fun _ h => h.elim) ?aF ?aB ?aS ?aL ?_; (case aR => repeat (first | exact (Kd.C_below HR0_3.out HB.out) | (with_reducible refine Kd.C_alloc ?_ _) | (with_reducible refine Kd.C_drewN ?_ _) | (with_reducible refine Kd.C_drew ?_))); (case aB => exact (bel HB)); (case aF => exact (fun _ _ => trivial)); (case aO => exact (mR HO230)); (case aS => exact (below_size (bel HB))); (case aL => have := LMc2.out; omega); intro v232 w9 ho hb hg hat; rw [← Ny231.out] at ho; replace BK226 := Aside0.mk (blk_grown (g := gb226) (o := .cells #[.int .i64 a0_0, .int .i64 a0_1, .int .i64 a0_2, .slice A0_3 l0_3.length c0_3] 51 (0, 0)) (mB BK226) hg (Kd.R_ne HO230.out BK226.out (by decide))); replace BK227 := Aside0.mk (blk_grown (g := gb227) (o := .cells #[.int .i64 0, .int .i64 0, .int .i64 0, .slice none 0 0] 51 (0, 0)) (mB BK227) hg (Kd.R_ne HO230.out BK227.out (by decide))); replace HB := Aside0.mk hb; have HO233 := Aside0.mk ho; clear HO230; clear ho hb hg hat; obtain ⟨Ao10, co10, eo10⟩ := Kd.R_slice HO233.out; subst eo10; have hz11 := cl4 BK226; have hz12 := cl4 BK227))
  refine bodyPost_ret (results_cell_row rfl _ _ gb227 51 #[.int .i64 a0_0, .int .i64 a0_1, .int .i64 a0_2, .slice Ao10 y231.length co10] (0, 0) _ rfl (mP BK227) Try.underlying51 rfl (by kernel_rfl)) rfl ?_
  exact ⟨_, by first | rfl | (simp [errW_none, errW_some] <;> rfl) | (simp [*, errW_none, errW_some] <;> rfl), by (with_reducible repeat (first | apply Kd.R_alloc | apply Kd.R_drewN | apply Kd.R_drew)); exact Kd.R_mono (RF (RF (RF (RF (Kd.R_far (p := ⟨gb226, 3, none⟩) (Kd.R_types (Kd.R_types HO233.out BK226.out (by decide)) BK227.out (by decide)) (fun _ hk => hk.1.2) (.slice Ao10 y231.length co10)))))) (fun _ hk => trivial), bel HB⟩
 ·
  rw [if_neg c2] at H
  exact absurd H (by simp)

/-! ### spec_l12Copy: function 51 -/
def spec_l12Copy.l0 : Nat → List (S51) → Int → Int → Bool → Int → Int → List (S51) → Int → Int → Int → Int → Option (Int × Bool × Int × Int × (List (S51)) × Int × Int × Int × Int)
 | 0, _, _, _, _, _, _, _, _, _, _, _ => none
 | k + 1, x3, x4, x235000, x235001, x235002, x235003, x235004, x235005, x235006, x235007, x235008 => if x4 < (x235004.length : Int) then (if 0 ≤ x4 then ((spec_l12CopyEntry.f ((rd_T51 x235004 x4).f0) ((rd_T51 x235004 x4).f1.f0) ((rd_T51 x235004 x4).f1.f1) ((rd_T51 x235004 x4).f1.f2)).bind fun bt240 => (if x3.length < 2932031007402 then (spec_l12Copy.l0 k (x3 ++ [(⟨bt240.1, (⟨bt240.2.1, bt240.2.2.1, bt240.2.2.2⟩ : S49)⟩ : S51)]) (wrap64 (x4 + 1)) x235000 x235001 x235002 x235003 x235004 x235005 x235006 x235007 x235008) else (none))) else (none)) else (some (x235000, x235001, x235002, x235003, x3, x235005, x235006, x235007, x235008))
def spec_l12Copy.f (k : Nat) (a0_0 : Int) (a0_1 : Bool) (a0_2 : Int) (a0_3 : Int) (l0_4 : List (S51)) (a0_5 : Int) (a0_6 : Int) (a0_7 : Int) (a0_8 : Int) : Option (Int × Bool × Int × Int × (List (S51)) × Int × Int × Int × Int) := spec_l12Copy.l0 k (([] : List (S51))) 0 a0_0 a0_1 a0_2 a0_3 l0_4 a0_5 a0_6 a0_7 a0_8
theorem spec_l12Copy.mono_l : ∀ k, (∀ y0 y1 y2 y3 y4 y5 y6 y7 y8 y9 y10, LeO (spec_l12Copy.l0 k y0 y1 y2 y3 y4 y5 y6 y7 y8 y9 y10) (spec_l12Copy.l0 (k + 1) y0 y1 y2 y3 y4 y5 y6 y7 y8 y9 y10))
 | 0 => fun _ _ _ _ _ _ _ _ _ _ _ r h => by simp [spec_l12Copy.l0] at h
 | k + 1 => by
  have ih0 := spec_l12Copy.mono_l k
  ·
   intro y0 y1 y2 y3 y4 y5 y6 y7 y8 y9 y10
   unfold spec_l12Copy.l0
   repeat' first
   | (with_reducible exact ih0 _ _ _ _ _ _ _ _ _ _ _)
   | (with_reducible exact LeO.refl _)
   | (with_reducible exact LeO.none _)
   | (with_reducible refine LeO.ite ?_ ?_)
   | (with_reducible refine LeO.bind ?_ (fun _ => ?_))
   | exact ih0 _ _ _ _ _ _ _ _ _ _ _
   | exact LeO.none _
   | refine LeO.ite ?_ ?_
   | refine LeO.bind ?_ (fun _ => ?_)
theorem spec_l12Copy.mono : ∀ a0 a1 a2 a3 a4 a5 a6 a7 a8 k, LeO (spec_l12Copy.f k a0 a1 a2 a3 a4 a5 a6 a7 a8) (spec_l12Copy.f (k + 1) a0 a1 a2 a3 a4 a5 a6 a7 a8) := by
 intro a0 a1 a2 a3 a4 a5 a6 a7 a8 k
 have ih0 := spec_l12Copy.mono_l k
 unfold spec_l12Copy.f
 repeat' first
   | (with_reducible exact ih0 _ _ _ _ _ _ _ _ _ _ _)
   | (with_reducible exact LeO.refl _)
   | (with_reducible exact LeO.none _)
   | (with_reducible refine LeO.ite ?_ ?_)
   | (with_reducible refine LeO.bind ?_ (fun _ => ?_))
   | exact ih0 _ _ _ _ _ _ _ _ _ _ _
   | exact LeO.none _
   | refine LeO.ite ?_ ?_
   | refine LeO.bind ?_ (fun _ => ?_)
set_option maxHeartbeats 8000000 in
set_option maxRecDepth 100000 in
theorem spec_l12Copy.calls (k : Nat) (a0_0 : Int) (a0_1 : Bool) (a0_2 : Int) (a0_3 : Int) (A0_4 : Option Addr) (c0_4 : Nat) (l0_4 : List (S51)) (a0_5 : Int) (a0_6 : Int) (a0_7 : Int) (a0_8 : Int) (r1 : Int) (r2 : Bool) (r3 : Int) (r4 : Int) (r5 : List (S51)) (r6 : Int) (r7 : Int) (r8 : Int) (r9 : Int) (w : World) (hr0_4 : Kd.C k51 w A0_4 l0_4.length l0_4) (hc0_4 : l0_4.length ≤ c0_4) (h : spec_l12Copy.f k a0_0 a0_1 a0_2 a0_3 l0_4 a0_5 a0_6 a0_7 a0_8 = some (r1, r2, r3, r4, r5, r6, r7, r8, r9)) :
  Calls Try.prog 51 #[.agg #[.int .i64 a0_0, .bool a0_1, .int .i64 a0_2, .int .i64 a0_3, .slice A0_4 l0_4.length c0_4, .int .i64 a0_5, .int .i64 a0_6, .int .i64 a0_7, .int .i64 a0_8]] w fun e w' => ∃ v4_ : Value, e = .returned (.agg #[.int .i64 r1, .bool r2, .int .i64 r3, .int .i64 r4, v4_, .int .i64 r6, .int .i64 r7, .int .i64 r8, .int .i64 r9]) ∧ Kd.S k51 51 w' w.heap.size (fun _ => True) v4_ r5 ∧ Below w.heap.size w w' := by
 have hu29 := Try.underlying29
 have hu51 := Try.underlying51
 have hu49 := Try.underlying49
 have HR0_4 := Aside0.mk hr0_4
 have HC0_4 := Aside0.mk hc0_4
 clear hr0_4 hc0_4
 have HB := Aside0.mk (Below.refl w.heap.size w)
 have H : (spec_l12Copy.l0 k (([] : List (S51))) 0 a0_0 a0_1 a0_2 a0_3 l0_4 a0_5 a0_6 a0_7 a0_8) = some (r1, r2, r3, r4, r5, r6, r7, r8, r9) := h
 clear h
 obtain ⟨y236, hy236⟩ : ∃ y_ : List (S51), y_ = (([] : List (S51))) := ⟨_, rfl⟩
 replace H : (spec_l12Copy.l0 k y236 0 a0_0 a0_1 a0_2 a0_3 l0_4 a0_5 a0_6 a0_7 a0_8) = some (r1, r2, r3, r4, r5, r6, r7, r8, r9) := by first | (rw [hy236]; with_reducible exact H) | (have H2_ := (Option.bind_some _ _).symm.trans H; rw [hy236]; with_reducible exact H2_) | (have H2_ := (Option.bind_some _ _).symm.trans H; with_reducible exact H2_) | with_reducible exact H | (rw [hy236]; exact H) | exact H
 have Ny236 := Aside0.mk hy236
 clear hy236
 have H' := Aside0.mk H
 clear H
 go_enter Try.func51, Try.ntmps51
 go_wp2_with (first | ((with_reducible refine gate_dst (N := 1) rfl ?_); refine boxE #[.int .i64 a0_0, .bool a0_1, .int .i64 a0_2, .int .i64 a0_3, .slice A0_4 l0_4.length c0_4, .int .i64 a0_5, .int .i64 a0_6, .int .i64 a0_7, .int .i64 a0_8] 29 (N := 1) rfl rfl ?_; intro gb234 hg w2 hbox hb; have BK234 := Aside0.mk hbox; have GW234 := gZ HB hg; have GE234 := gZ HB hg; replace HB := bS HB hb; clear hb hbox hg) | ((with_reducible refine gate_dst (N := 2) rfl ?_); refine boxE #[.int .i64 0, .bool false, .int .i64 0, .int .i64 0, .slice none 0 0, .int .i64 0, .int .i64 0, .int .i64 0, .int .i64 0] 29 (N := 2) rfl rfl ?_; intro gb235 hg w3 hbox hb; have BK235 := Aside0.mk hbox; have GW235 := gZ HB hg; have GE235 := gZ HB hg; replace HB := bS HB hb; have NB234_235 := nL BK234 hg; have NB235_234 := nG BK234 hg; replace BK234 := bK BK234 hb; clear hb hbox hg) | ((with_reducible refine gate_dst (N := 5) rfl ?_); refine Kd.S_lit k51 _ 51 ?hg (N := 5) ?hd (xs := ([] : List (S51))) (inner := []) (ok := fun _ => True) (okp := fun _ => True) ?hr ?hp (fun _ hk => hk) trivial (Below.refl _ _) (Nat.le_refl _) (by simp) ?_; (case hd => rfl); (case hg => rfl); (case hr => first | (go_simp; done) | (go_simp; rfl)); (case hp => exact (Reps.none _ _)); intro v237 w4 ho5 hb hg_ hnew_; clear hg_ hnew_; (first | rw [← Ny236.out] at ho5 | (simp only [Int.reduceToNat] at ho5; rw [← Ny236.out] at ho5)); have HO238 := Aside0.mk (Kd.S_lower ho5 (below_size (bel HB))); replace BK234 := bK BK234 hb; replace BK235 := bK BK235 hb; replace HB := bS HB hb; clear hb ho5))
 go_loopg [3, 4] k (fun kq v3 v4 w' => ∃ (x3_1 : List (S51)) (x4_1 : Int), v4 = .int .i64 x4_1 ∧ Aside0 (spec_l12Copy.l0 kq x3_1 x4_1 a0_0 a0_1 a0_2 a0_3 l0_4 a0_5 a0_6 a0_7 a0_8 = some (r1, r2, r3, r4, r5, r6, r7, r8, r9)) ∧ Aside0 (kq ≤ k) ∧ Aside0 (Kd.S k51 51 w' w.heap.size (fun _ => True) v3 x3_1) ∧ Aside0 (w'.heap[gb234]? = some (.cells #[.int .i64 a0_0, .bool a0_1, .int .i64 a0_2, .int .i64 a0_3, (.slice A0_4 l0_4.length c0_4), .int .i64 a0_5, .int .i64 a0_6, .int .i64 a0_7, .int .i64 a0_8] 29 (0, 0))) ∧ Aside0 (w'.heap[gb235]? = some (.cells #[.int .i64 0, .bool false, .int .i64 0, .int .i64 0, (.slice none 0 0), .int .i64 0, .int .i64 0, .int .i64 0, .int .i64 0] 29 (0, 0))) ∧ Aside0 (Below w.heap.size w w'))
 case atStart => exact ⟨(y236), (0), (by first | rfl | (simp; done) | (simp [*]; done)), H', ⟨Nat.le_refl _⟩, ⟨by (with_reducible repeat (first | apply Kd.S_alloc | apply Kd.S_drewN | apply Kd.S_drew)); exact HO238.out⟩, ⟨by (with_reducible repeat (first | refine blk_drewN ?_ _ | refine blk_drew ?_ | refine blk_alloc ?_ _)); exact BK234.out⟩, ⟨by (with_reducible repeat (first | refine blk_drewN ?_ _ | refine blk_drew ?_ | refine blk_alloc ?_ _)); exact BK235.out⟩, ⟨bel HB⟩⟩
 case round =>
  clear H'
  try clear p2
  try clear c5
  obtain ⟨x3_1, x4_1, rfl, HA, HK1, HO_3, BK234, BK235, HB⟩ := hrel
  cases gk with
  | zero => exact absurd HA.out (by simp [spec_l12Copy.l0])
  | succ k1 =>
   have H := HA.out
   clear HA
   simp only [spec_l12Copy.l0] at H
   by_cases c6 : x4_1 < (l0_4.length : Int)
   ·
    rw [if_pos c6] at H
    have c6b0 : decide (x4_1 < (l0_4.length : Int)) = true := decide_eq_true c6
    clear c6
    by_cases c7 : 0 ≤ x4_1
    ·
     rw [if_pos c7] at H
     have c7b0 : decide (0 ≤ x4_1) = true := decide_eq_true c7
     clear c7
     replace H := Option.bind_eq_some_iff.mp H
     obtain ⟨⟨t240, t241, t242, t243⟩, A80, H⟩ := H
     replace H : (if x3_1.length < 2932031007402 then (spec_l12Copy.l0 k1 (x3_1 ++ [(⟨t240, (⟨t241, t242, t243⟩ : S49)⟩ : S51)]) (wrap64 (x4_1 + 1)) a0_0 a0_1 a0_2 a0_3 l0_4 a0_5 a0_6 a0_7 a0_8) else (none)) = some (r1, r2, r3, r4, r5, r6, r7, r8, r9) := H
     have A8 := Aside0.mk A80
     clear A80
     by_cases c9 : x3_1.length < 2932031007402
     ·
      rw [if_pos c9] at H
      have LMc9 := Aside0.mk c9
      clear c9
      obtain ⟨y246, hy246⟩ : ∃ y_ : List (S51), y_ = (x3_1 ++ [(⟨t240, (⟨t241, t242, t243⟩ : S49)⟩ : S51)]) := ⟨_, rfl⟩
      replace H : (spec_l12Copy.l0 k1 y246 (wrap64 (x4_1 + 1)) a0_0 a0_1 a0_2 a0_3 l0_4 a0_5 a0_6 a0_7 a0_8) = some (r1, r2, r3, r4, r5, r6, r7, r8, r9) := by first | (rw [hy246]; with_reducible exact H) | (have H2_ := (Option.bind_some _ _).symm.trans H; rw [hy246]; with_reducible exact H2_) | (have H2_ := (Option.bind_some _ _).symm.trans H; with_reducible exact H2_) | with_reducible exact H | (rw [hy246]; exact H) | exact H
      have Ny246 := Aside0.mk hy246
      clear hy246
      have H' := Aside0.mk H
      clear H
      have hnb10 := NB234_235.out
      have hnc10 := NB235_234.out
      have hz11 := cl9 BK234
      have p239 : 0 ≤ (x4_1 : Int) := of_decide_eq_true (by first | (with_reducible assumption) | assumption)
      have q239 : x4_1 < (l0_4.length : Int) := of_decide_eq_true (by first | (with_reducible assumption) | assumption)
      obtain ⟨ad239, A239_3, c239_3, e239, hx239_0, hx239_1, hx239_2, hx239_3, hl239_3, hi239_3⟩ := at_T51 HR0_4.out x4_1 p239 q239
      cases e239
      replace hx239_0 := (HB.out.cell (World.block_lt_of_cell? w _ hx239_0)).trans hx239_0
      replace hx239_1 := (HB.out.cell (World.block_lt_of_cell? w _ hx239_1)).trans hx239_1
      replace hx239_2 := (HB.out.cell (World.block_lt_of_cell? w _ hx239_2)).trans hx239_2
      replace hx239_3 := (HB.out.cell (World.block_lt_of_cell? w _ hx239_3)).trans hx239_3
      have HR239_3 := Aside0.mk hi239_3
      have HC239_3 := Aside0.mk hl239_3
      clear hi239_3 hl239_3
      replace p239 := eq_true p239
      replace q239 := eq_true q239
      go_wp2_with (first | ((with_reducible refine gate_callee (f := 68) rfl ?_); refine goA (some 19) rfl rfl Try.func68 rfl #[.agg #[.int .i64 ((rd_T51 l0_4 x4_1).f0), .int .i64 ((rd_T51 l0_4 x4_1).f1.f0), .int .i64 ((rd_T51 l0_4 x4_1).f1.f1), .slice A239_3 ((rd_T51 l0_4 x4_1).f1.f2).length c239_3]] rfl ?_; (with_reducible refine (spec_l12CopyEntry.calls ((rd_T51 l0_4 x4_1).f0) ((rd_T51 l0_4 x4_1).f1.f0) ((rd_T51 l0_4 x4_1).f1.f1) _ _ ((rd_T51 l0_4 x4_1).f1.f2) t240 t241 t242 t243 _ ?side1 ?side2 A8.out).mono ?_); (case side1 => exact mC HR239_3 HB); (case side2 => exact HC239_3.out); rintro e w12 ⟨v244, rfl, ho0, hb⟩; refine ⟨_, rfl, ?_⟩; replace HO_3 := Aside0.mk (Kd.S_elder' (mS HO_3) (Kd.R_base ho0) hb); have HO245 := Aside0.mk (Kd.R_lower ho0 (below_size (bel HB))); replace BK234 := bK BK234 hb; replace BK235 := bK BK235 hb; replace HB := bS HB hb; (try clear hb); (try clear hb2); (try clear hk); (try clear hi); (try clear ho0); obtain ⟨Ao14, co14, eo14⟩ := Kd.R_slice HO245.out; subst eo14) | ((with_reducible refine gate_builtin (b := .append) (xs := #[.tmp 13, .tmp 20]) rfl ?_); at_builtin; refine Kd.S_append k51 (w0 := w) w.heap.size rfl (.tmp 13) (.tmp 20) 27 51 (.agg #[(.int .i64 0), (.int .i64 0), (.int .i64 0), (.slice none 0 0)]) 48 rfl Try.underlying27 info51 rfl (by decide) (by omega) u3 x3_1 (⟨t240, (⟨t241, t242, t243⟩ : S49)⟩ : S51) [.int .i64 t240, .int .i64 t241, .int .i64 t242, .slice Ao14 t243.length co14] (fun _ => True) (fun k_ => some k_ = (.slice Ao14 t243.length co14 : Value).ownBlock) rfl rfl ?aP (fun k_ hk_ => ((Kd.R_mono (ok' := fun k_ => ((fun _ => True)) k_ ∧ some k_ ≠ (u3 : Value).ownBlock) (Kd.R_apart' (HO245.out) (Kd.S_typed HO_3.out) (by decide)) (fun k_ hk => ⟨trivial, hk.2⟩))).1 k_ hk_.symm) ?aF ?aO ?aB ?aS ?aL ?_; (case aP => exact k51_mkM _ _ _ (⟨t240, (⟨t241, t242, t243⟩ : S49)⟩ : S51) (Kd.R_mono (Kd.R_tight rfl (Kd.R_mono (ok' := fun k_ => ((fun _ => True)) k_ ∧ some k_ ≠ (u3 : Value).ownBlock) (Kd.R_apart' (HO245.out) (Kd.S_typed HO_3.out) (by decide)) (fun k_ hk => ⟨trivial, hk.2⟩))) (fun _ h_ => h_))); (case aB => exact (bel HB)); (case aF => exact (fun _ _ => trivial)); (case aO => exact (by (with_reducible repeat (first | apply Kd.S_alloc | apply Kd.S_drewN | apply Kd.S_drew)); exact Kd.S_mono HO_3.out (fun k_ hk => ⟨trivial, fun e_ => hk.2 e_⟩))); (case aS => exact (below_size (bel HB))); (case aL => have := LMc9.out; omega); intro v247 w13 ho hb hg hat; rw [← Ny246.out] at ho; replace BK234 := Aside0.mk (blk_grown (g := gb234) (o := .cells #[.int .i64 a0_0, .bool a0_1, .int .i64 a0_2, .int .i64 a0_3, .slice (some ad239) l0_4.length c0_4, .int .i64 a0_5, .int .i64 a0_6, .int .i64 a0_7, .int .i64 a0_8] 29 (0, 0)) (mB BK234) hg (Kd.S_ne HO_3.out BK234.out (by decide))); replace BK235 := Aside0.mk (blk_grown (g := gb235) (o := .cells #[.int .i64 0, .bool false, .int .i64 0, .int .i64 0, .slice none 0 0, .int .i64 0, .int .i64 0, .int .i64 0, .int .i64 0] 29 (0, 0)) (mB BK235) hg (Kd.S_ne HO_3.out BK235.out (by decide))); replace HB := Aside0.mk hb; have HO248 := Aside0.mk ho; clear HO_3 HO245; clear ho hb hg hat))
      go_roundg k1
      case measure => have := HK1.out; omega
      case rel => exact ⟨(y246), (wrap64 (x4_1 + 1)), (by first | rfl | (simp; done) | (simp [*]; done)), H', ⟨by have := HK1.out; omega⟩, ⟨by (with_reducible repeat (first | apply Kd.S_alloc | apply Kd.S_drewN | apply Kd.S_drew)); exact HO248.out⟩, ⟨by (with_reducible repeat (first | refine blk_drewN ?_ _ | refine blk_drew ?_ | refine blk_alloc ?_ _)); exact BK234.out⟩, ⟨by (with_reducible repeat (first | refine blk_drewN ?_ _ | refine blk_drew ?_ | refine blk_alloc ?_ _)); exact BK235.out⟩, ⟨bel HB⟩⟩
     ·
      rw [if_neg c9] at H
      exact absurd H (by simp)
    ·
     rw [if_neg c7] at H
     exact absurd H (by simp)
   ·
    rw [if_neg c6] at H
    have c6b0 : decide (x4_1 < (l0_4.length : Int)) = false := decide_eq_false c6
    clear c6
    simp only [Option.some.injEq, Prod.mk.injEq] at H
    obtain ⟨rfl, rfl, rfl, rfl, rfl, rfl, rfl, rfl, rfl⟩ := H
    have hnb15 := NB234_235.out
    have hnc15 := NB235_234.out
    have hz16 := cl9 BK234
    obtain ⟨Ao17, co17, eo17⟩ := Kd.S_slice HO_3.out
    subst eo17
    have hz18 := cl9 BK235
    go_wp2
    refine bodyPost_ret (results_cell_row rfl _ _ gb235 29 #[.int .i64 a0_0, .bool a0_1, .int .i64 a0_2, .int .i64 a0_3, .slice Ao17 x3_1.length co17, .int .i64 a0_5, .int .i64 a0_6, .int .i64 a0_7, .int .i64 a0_8] (0, 0) _ rfl (mP BK235) Try.underlying29 rfl (by kernel_rfl)) rfl ?_
    exact ⟨_, by first | rfl | (simp [errW_none, errW_some] <;> rfl) | (simp [*, errW_none, errW_some] <;> rfl), by (with_reducible repeat (first | apply Kd.S_alloc | apply Kd.S_drewN | apply Kd.S_drew)); exact Kd.S_mono (Kd.S_far (p := ⟨gb235, 8, none⟩) (Kd.S_far (p := ⟨gb235, 7, none⟩) (Kd.S_far (p := ⟨gb235, 6, none⟩) (Kd.S_far (p := ⟨gb235, 5, none⟩) (Kd.S_far (p := ⟨gb235, 4, none⟩) (Kd.S_far (p := ⟨gb235, 3, none⟩) (Kd.S_far (p := ⟨gb235, 2, none⟩) (Kd.S_far (p := ⟨gb235, 1, none⟩) (Kd.S_far (p := ⟨gb235, 0, none⟩) (Kd.S_far (p := ⟨gb234, 4, none⟩) (Kd.S_types (Kd.S_types HO_3.out BK234.out (by decide)) BK235.out (by decide)) (fun _ hk => hk.1.2) (.slice Ao17 x3_1.length co17)) (fun _ hk => hk.2) (.int .i64 a0_0)) (fun _ hk => hk.2) (.bool a0_1)) (fun _ hk => hk.2) (.int .i64 a0_2)) (fun _ hk => hk.2) (.int .i64 a0_3)) (fun _ hk => hk.2) (.slice Ao17 x3_1.length co17)) (fun _ hk => hk.2) (.int .i64 a0_5)) (fun _ hk => hk.2) (.int .i64 a0_6)) (fun _ hk => hk.2) (.int .i64 a0_7)) (fun _ hk => hk.2) (.int .i64 a0_8)) (fun _ hk => trivial), bel HB⟩

/-! ### spec_RiseNode: function 24 -/
def spec_RiseNode.f (k : Nat) (a0_0 : Int) (a0_1 : Bool) (a0_2 : Int) (a0_3 : Int) (l0_4 : List (S51)) (a0_5 : Int) (a0_6 : Int) (a0_7 : Int) (a0_8 : Int) : Option (Int × Int × Bool × Int × Int × (List (S51)) × Int × Int × Int × Int × (List (S53))) := (spec_l12Fault.f k a0_0 a0_1 a0_2 a0_3 l0_4 a0_5 a0_6 a0_7 a0_8).bind fun bt251 => (if bt251.1 = 0 then (if bt251.2.2.1 = true then ((spec_l12Bad.f 10).bind fun bt275 => (some (bt275.1, bt275.2.1, bt275.2.2.1, bt275.2.2.2.1, bt275.2.2.2.2.1, bt275.2.2.2.2.2.1, bt275.2.2.2.2.2.2.1, bt275.2.2.2.2.2.2.2.1, bt275.2.2.2.2.2.2.2.2.1, bt275.2.2.2.2.2.2.2.2.2.1, bt275.2.2.2.2.2.2.2.2.2.2))) else ((spec_l12Copy.f k bt251.2.1 bt251.2.2.1 bt251.2.2.2.1 bt251.2.2.2.2.1 l0_4 bt251.2.2.2.2.2.1 bt251.2.2.2.2.2.2.1 bt251.2.2.2.2.2.2.2.1 bt251.2.2.2.2.2.2.2.2).bind fun bt290 => (some (0, bt290.1, true, bt290.2.2.1, bt290.2.2.2.1, bt290.2.2.2.2.1, bt290.2.2.2.2.2.1, bt290.2.2.2.2.2.2.1, bt290.2.2.2.2.2.2.2.1, bt290.2.2.2.2.2.2.2.2, ([] : List (S53)))))) else ((spec_l12Bad.f bt251.1).bind fun bt260 => (some (bt260.1, bt260.2.1, bt260.2.2.1, bt260.2.2.2.1, bt260.2.2.2.2.1, bt260.2.2.2.2.2.1, bt260.2.2.2.2.2.2.1, bt260.2.2.2.2.2.2.2.1, bt260.2.2.2.2.2.2.2.2.1, bt260.2.2.2.2.2.2.2.2.2.1, bt260.2.2.2.2.2.2.2.2.2.2))))
theorem spec_RiseNode.mono : ∀ a0 a1 a2 a3 a4 a5 a6 a7 a8 k, LeO (spec_RiseNode.f k a0 a1 a2 a3 a4 a5 a6 a7 a8) (spec_RiseNode.f (k + 1) a0 a1 a2 a3 a4 a5 a6 a7 a8) := by
 intro a0 a1 a2 a3 a4 a5 a6 a7 a8 k
 unfold spec_RiseNode.f
 repeat' first
   | (with_reducible exact spec_l12Copy.mono _ _ _ _ _ _ _ _ _ _)
   | (with_reducible exact spec_l12Fault.mono _ _ _ _ _ _ _ _ _ _)
   | (with_reducible exact LeO.refl _)
   | (with_reducible exact LeO.none _)
   | (with_reducible refine LeO.ite ?_ ?_)
   | (with_reducible refine LeO.bind ?_ (fun _ => ?_))
   | exact spec_l12Copy.mono _ _ _ _ _ _ _ _ _ _
   | exact spec_l12Fault.mono _ _ _ _ _ _ _ _ _ _
   | exact LeO.none _
   | refine LeO.ite ?_ ?_
   | refine LeO.bind ?_ (fun _ => ?_)
set_option maxHeartbeats 8000000 in
set_option maxRecDepth 100000 in
theorem spec_RiseNode.calls (k : Nat) (a0_0 : Int) (a0_1 : Bool) (a0_2 : Int) (a0_3 : Int) (A0_4 : Option Addr) (c0_4 : Nat) (l0_4 : List (S51)) (a0_5 : Int) (a0_6 : Int) (a0_7 : Int) (a0_8 : Int) (r1 : Int) (r2 : Int) (r3 : Bool) (r4 : Int) (r5 : Int) (r6 : List (S51)) (r7 : Int) (r8 : Int) (r9 : Int) (r10 : Int) (r11 : List (S53)) (w : World) (hr0_4 : Kd.C k51 w A0_4 l0_4.length l0_4) (hc0_4 : l0_4.length ≤ c0_4) (h : spec_RiseNode.f k a0_0 a0_1 a0_2 a0_3 l0_4 a0_5 a0_6 a0_7 a0_8 = some (r1, r2, r3, r4, r5, r6, r7, r8, r9, r10, r11)) :
  Calls Try.prog 24 #[.agg #[.int .i64 a0_0, .bool a0_1, .int .i64 a0_2, .int .i64 a0_3, .slice A0_4 l0_4.length c0_4, .int .i64 a0_5, .int .i64 a0_6, .int .i64 a0_7, .int .i64 a0_8]] w fun e w' => ∃ v5_ v10_ : Value, e = .returned (.agg #[.int .i64 r1, .int .i64 r2, .bool r3, .int .i64 r4, .int .i64 r5, v5_, .int .i64 r7, .int .i64 r8, .int .i64 r9, .int .i64 r10, v10_]) ∧ Kd.S k51 51 w' w.heap.size (fun _ => True) v5_ r6 ∧ Kd.S k53 53 w' w.heap.size (fun _ => True) v10_ r11 ∧ Below w.heap.size w w' := by
 have hu29 := Try.underlying29
 have hu35 := Try.underlying35
 have HR0_4 := Aside0.mk hr0_4
 have HC0_4 := Aside0.mk hc0_4
 clear hr0_4 hc0_4
 have HB := Aside0.mk (Below.refl w.heap.size w)
 have H : ((spec_l12Fault.f k a0_0 a0_1 a0_2 a0_3 l0_4 a0_5 a0_6 a0_7 a0_8).bind fun bt251 => (if bt251.1 = 0 then (if bt251.2.2.1 = true then ((spec_l12Bad.f 10).bind fun bt275 => (some (bt275.1, bt275.2.1, bt275.2.2.1, bt275.2.2.2.1, bt275.2.2.2.2.1, bt275.2.2.2.2.2.1, bt275.2.2.2.2.2.2.1, bt275.2.2.2.2.2.2.2.1, bt275.2.2.2.2.2.2.2.2.1, bt275.2.2.2.2.2.2.2.2.2.1, bt275.2.2.2.2.2.2.2.2.2.2))) else ((spec_l12Copy.f k bt251.2.1 bt251.2.2.1 bt251.2.2.2.1 bt251.2.2.2.2.1 l0_4 bt251.2.2.2.2.2.1 bt251.2.2.2.2.2.2.1 bt251.2.2.2.2.2.2.2.1 bt251.2.2.2.2.2.2.2.2).bind fun bt290 => (some (0, bt290.1, true, bt290.2.2.1, bt290.2.2.2.1, bt290.2.2.2.2.1, bt290.2.2.2.2.2.1, bt290.2.2.2.2.2.2.1, bt290.2.2.2.2.2.2.2.1, bt290.2.2.2.2.2.2.2.2, ([] : List (S53)))))) else ((spec_l12Bad.f bt251.1).bind fun bt260 => (some (bt260.1, bt260.2.1, bt260.2.2.1, bt260.2.2.2.1, bt260.2.2.2.2.1, bt260.2.2.2.2.2.1, bt260.2.2.2.2.2.2.1, bt260.2.2.2.2.2.2.2.1, bt260.2.2.2.2.2.2.2.2.1, bt260.2.2.2.2.2.2.2.2.2.1, bt260.2.2.2.2.2.2.2.2.2.2))))) = some (r1, r2, r3, r4, r5, r6, r7, r8, r9, r10, r11) := h
 clear h
 replace H := Option.bind_eq_some_iff.mp H
 obtain ⟨⟨t251, t252, t253, t254, t255, t256, t257, t258, t259⟩, A20, H⟩ := H
 replace H : (if t251 = 0 then (if t253 = true then ((spec_l12Bad.f 10).bind fun bt275 => (some (bt275.1, bt275.2.1, bt275.2.2.1, bt275.2.2.2.1, bt275.2.2.2.2.1, bt275.2.2.2.2.2.1, bt275.2.2.2.2.2.2.1, bt275.2.2.2.2.2.2.2.1, bt275.2.2.2.2.2.2.2.2.1, bt275.2.2.2.2.2.2.2.2.2.1, bt275.2.2.2.2.2.2.2.2.2.2))) else ((spec_l12Copy.f k t252 t253 t254 t255 l0_4 t256 t257 t258 t259).bind fun bt290 => (some (0, bt290.1, true, bt290.2.2.1, bt290.2.2.2.1, bt290.2.2.2.2.1, bt290.2.2.2.2.2.1, bt290.2.2.2.2.2.2.1, bt290.2.2.2.2.2.2.2.1, bt290.2.2.2.2.2.2.2.2, ([] : List (S53)))))) else ((spec_l12Bad.f t251).bind fun bt260 => (some (bt260.1, bt260.2.1, bt260.2.2.1, bt260.2.2.2.1, bt260.2.2.2.2.1, bt260.2.2.2.2.2.1, bt260.2.2.2.2.2.2.1, bt260.2.2.2.2.2.2.2.1, bt260.2.2.2.2.2.2.2.2.1, bt260.2.2.2.2.2.2.2.2.2.1, bt260.2.2.2.2.2.2.2.2.2.2)))) = some (r1, r2, r3, r4, r5, r6, r7, r8, r9, r10, r11) := H
 have A2 := Aside0.mk A20
 clear A20
 by_cases c3 : t251 = 0
 ·
  rw [if_pos c3] at H
  have c3b0 : (t251 == 0) = true := beq_iff_eq.mpr c3
  have c3b1 : (t251 != 0) = false := bne_eq_false_iff_eq.mpr c3
  clear c3
  by_cases c4 : t253 = true
  ·
   subst c4
   have H1 : ((spec_l12Bad.f 10).bind fun bt275 => (some (bt275.1, bt275.2.1, bt275.2.2.1, bt275.2.2.2.1, bt275.2.2.2.2.1, bt275.2.2.2.2.2.1, bt275.2.2.2.2.2.2.1, bt275.2.2.2.2.2.2.2.1, bt275.2.2.2.2.2.2.2.2.1, bt275.2.2.2.2.2.2.2.2.2.1, bt275.2.2.2.2.2.2.2.2.2.2))) = some (r1, r2, r3, r4, r5, r6, r7, r8, r9, r10, r11) := by rw [if_pos rfl] at H; first | done | exact H
   clear H
   have H := H1
   clear H1
   replace H := Option.bind_eq_some_iff.mp H
   obtain ⟨⟨t275, t276, t277, t278, t279, t280, t283, t284, t285, t286, t287⟩, A50, H⟩ := H
   replace H : (some (t275, t276, t277, t278, t279, t280, t283, t284, t285, t286, t287)) = some (r1, r2, r3, r4, r5, r6, r7, r8, r9, r10, r11) := H
   have A5 := Aside0.mk A50
   clear A50
   simp only [Option.some.injEq, Prod.mk.injEq] at H
   obtain ⟨rfl, rfl, rfl, rfl, rfl, rfl, rfl, rfl, rfl, rfl, rfl⟩ := H
   go_enter Try.func24, Try.ntmps24
   go_wp2_with (first | ((with_reducible refine gate_dst (N := 1) rfl ?_); refine boxE #[.int .i64 a0_0, .bool a0_1, .int .i64 a0_2, .int .i64 a0_3, .slice A0_4 l0_4.length c0_4, .int .i64 a0_5, .int .i64 a0_6, .int .i64 a0_7, .int .i64 a0_8] 29 (N := 1) rfl rfl ?_; intro gb249 hg w6 hbox hb; have BK249 := Aside0.mk hbox; have GW249 := gZ HB hg; have GE249 := gZ HB hg; replace HB := bS HB hb; clear hb hbox hg) | ((with_reducible refine gate_dst (N := 2) rfl ?_); refine boxE #[.int .i64 0, .int .i64 0, .bool false, .int .i64 0, .int .i64 0, .slice none 0 0, .int .i64 0, .int .i64 0, .int .i64 0, .int .i64 0, .slice none 0 0] 35 (N := 2) rfl rfl ?_; intro gb250 hg w7 hbox hb; have BK250 := Aside0.mk hbox; have GW250 := gZ HB hg; have GE250 := gZ HB hg; replace HB := bS HB hb; have NB249_250 := nL BK249 hg; have NB250_249 := nG BK249 hg; replace BK249 := bK BK249 hb; clear hb hbox hg; have HI249 := Aside0.mk (show IsS29 w w7 gb249 a0_0 a0_1 a0_2 a0_3 l0_4 a0_5 a0_6 a0_7 a0_8 from ⟨_, _, (mB BK249), GE249.out, HR0_4.out, HC0_4.out⟩); clear BK249) | ((with_reducible refine gate_callee (f := 32) rfl ?_); refine goA (some 5) rfl rfl Try.func32 rfl #[.pointer (some ⟨gb249, 0, none⟩)] rfl ?_; (with_reducible refine (spec_l12Fault.calls k gb249 a0_0 a0_1 a0_2 a0_3 l0_4 a0_5 a0_6 a0_7 a0_8 t251 t252 true t254 t255 t256 t257 t258 t259 w _ ?side1 ?side2 A2.out).mono ?_); (case side1 => repeat (first | (with_reducible first | exact HI249.out | apply IsS29.alloc | apply IsS29.drewN | apply IsS29.drew | apply IsS29.set_0 | apply IsS29.set_1 | apply IsS29.set_2 | apply IsS29.set_3 | apply IsS29.set_5 | apply IsS29.set_6 | apply IsS29.set_7 | apply IsS29.set_8 | refine IsS29.far ?_ NB249_250.out _) | exact HI249.out)); (case side2 => repeat (first | (with_reducible first | exact HB.out | apply below_alloc | apply pw_below_drewN | apply below_drew1 | refine below_set ?_ (IsS29.ge HI249.out) | refine below_set ?_ GE250.out) | exact HB.out)); rintro e w8 ⟨rfl, hi, hb, hk⟩; refine ⟨_, rfl, ?_⟩; replace BK250 := Aside0.mk (KeepBut.blk hk (g' := gb250) (o := .cells #[.int .i64 0, .int .i64 0, .bool false, .int .i64 0, .int .i64 0, .slice none 0 0, .int .i64 0, .int .i64 0, .int .i64 0, .int .i64 0, .slice none 0 0] 35 (0, 0)) (mB BK250) NB250_249.out (by simp)); replace HB := Aside0.mk hb; replace HI249 := Aside0.mk hi; (try clear hb); (try clear hb2); (try clear hk); (try clear hi); obtain ⟨ASz9_4, cSz9_4, HGz9, hgz9, HSz9_4, HLz9_4⟩ := HI249.out; have hcz9_0 := cellS29_0 HGz9; have hcz9_1 := cellS29_1 HGz9; have hcz9_2 := cellS29_2 HGz9; have hcz9_3 := cellS29_3 HGz9; have hcz9_4 := cellS29_4 HGz9; have hcz9_5 := cellS29_5 HGz9; have hcz9_6 := cellS29_6 HGz9; have hcz9_7 := cellS29_7 HGz9; have hcz9_8 := cellS29_8 HGz9; have hfz9_0 := blk_frozen HGz9 0; have hfz9_1 := blk_frozen HGz9 1; have hfz9_2 := blk_frozen HGz9 2; have hfz9_3 := blk_frozen HGz9 3; have hfz9_5 := blk_frozen HGz9 5; have hfz9_6 := blk_frozen HGz9 6; have hfz9_7 := blk_frozen HGz9 7; have hfz9_8 := blk_frozen HGz9 8; clear HGz9 hgz9) | ((with_reducible refine gate_callee (f := 40) rfl ?_); refine goA (some 12) rfl rfl Try.func40 rfl #[.int .i64 10] rfl ?_; (with_reducible refine (spec_l12Bad.calls 10 t275 t276 t277 t278 t279 t280 t283 t284 t285 t286 t287 _ A5.out).mono ?_); rintro e w10 ⟨v281, v288, rfl, ho0, ho1, hb⟩; refine ⟨_, rfl, ?_⟩; have HO282 := Aside0.mk (Kd.S_lower ho0 (below_size (by repeat (first | (with_reducible first | exact HB.out | apply below_alloc | apply pw_below_drewN | apply below_drew1 | refine below_set ?_ (IsS29.ge HI249.out) | refine below_set ?_ GE250.out) | exact HB.out)))); have HO289 := Aside0.mk (Kd.S_lower ho1 (below_size (by repeat (first | (with_reducible first | exact HB.out | apply below_alloc | apply pw_below_drewN | apply below_drew1 | refine below_set ?_ (IsS29.ge HI249.out) | refine below_set ?_ GE250.out) | exact HB.out)))); replace BK250 := bK BK250 hb; replace HB := Aside0.mk (below_step (by repeat (first | (with_reducible first | exact HB.out | apply below_alloc | apply pw_below_drewN | apply below_drew1 | refine below_set ?_ (IsS29.ge HI249.out) | refine below_set ?_ GE250.out) | exact HB.out)) hb); replace HI249 := Aside0.mk (IsS29.below (by repeat (first | (with_reducible first | exact HI249.out | apply IsS29.alloc | apply IsS29.drewN | apply IsS29.drew | apply IsS29.set_0 | apply IsS29.set_1 | apply IsS29.set_2 | apply IsS29.set_3 | apply IsS29.set_5 | apply IsS29.set_6 | apply IsS29.set_7 | apply IsS29.set_8 | refine IsS29.far ?_ NB249_250.out _) | exact HI249.out)) hb); (try clear hb); (try clear hb2); (try clear hk); (try clear hi); (try clear ho0); (try clear ho1); have hnb11 := NB250_249.out; have hnc11 := NB249_250.out; have hz12 := cl11 BK250; obtain ⟨Ao13, co13, eo13⟩ := Kd.S_slice HO282.out; subst eo13; obtain ⟨Ao14, co14, eo14⟩ := Kd.S_slice HO289.out; subst eo14))
   refine bodyPost_ret (results_cell_row rfl _ _ gb250 35 #[.int .i64 t275, .int .i64 t276, .bool t277, .int .i64 t278, .int .i64 t279, .slice Ao13 t280.length co13, .int .i64 t283, .int .i64 t284, .int .i64 t285, .int .i64 t286, .slice Ao14 t287.length co14] (0, 0) _ rfl (mP BK250) Try.underlying35 rfl (by kernel_rfl)) rfl ?_
   exact ⟨_, _, by first | rfl | (simp [errW_none, errW_some] <;> rfl) | (simp [*, errW_none, errW_some] <;> rfl), by (with_reducible repeat (first | apply Kd.S_alloc | apply Kd.S_drewN | apply Kd.S_drew)); exact Kd.S_mono (Kd.S_far (p := ⟨gb250, 10, none⟩) (Kd.S_far (p := ⟨gb250, 9, none⟩) (Kd.S_far (p := ⟨gb250, 8, none⟩) (Kd.S_far (p := ⟨gb250, 7, none⟩) (Kd.S_far (p := ⟨gb250, 6, none⟩) (Kd.S_far (p := ⟨gb250, 5, none⟩) (Kd.S_far (p := ⟨gb250, 4, none⟩) (Kd.S_far (p := ⟨gb250, 3, none⟩) (Kd.S_far (p := ⟨gb250, 2, none⟩) (Kd.S_far (p := ⟨gb250, 1, none⟩) (Kd.S_far (p := ⟨gb250, 0, none⟩) (Kd.S_types HO282.out BK250.out (by decide)) (fun _ hk => hk.2) (.int .i64 t275)) (fun _ hk => hk.2) (.int .i64 t276)) (fun _ hk => hk.2) (.bool t277)) (fun _ hk => hk.2) (.int .i64 t278)) (fun _ hk => hk.2) (.int .i64 t279)) (fun _ hk => hk.2) (.slice Ao13 t280.length co13)) (fun _ hk => hk.2) (.int .i64 t283)) (fun _ hk => hk.2) (.int .i64 t284)) (fun _ hk => hk.2) (.int .i64 t285)) (fun _ hk => hk.2) (.int .i64 t286)) (fun _ hk => hk.2) (.slice Ao14 t287.length co14)) (fun _ hk => trivial), by (with_reducible repeat (first | apply Kd.S_alloc | apply Kd.S_drewN | apply Kd.S_drew)); exact Kd.S_mono (Kd.S_far (p := ⟨gb250, 10, none⟩) (Kd.S_far (p := ⟨gb250, 9, none⟩) (Kd.S_far (p := ⟨gb250, 8, none⟩) (Kd.S_far (p := ⟨gb250, 7, none⟩) (Kd.S_far (p := ⟨gb250, 6, none⟩) (Kd.S_far (p := ⟨gb250, 5, none⟩) (Kd.S_far (p := ⟨gb250, 4, none⟩) (Kd.S_far (p := ⟨gb250, 3, none⟩) (Kd.S_far (p := ⟨gb250, 2, none⟩) (Kd.S_far (p := ⟨gb250, 1, none⟩) (Kd.S_far (p := ⟨gb250, 0, none⟩) (Kd.S_types HO289.out BK250.out (by decide)) (fun _ hk => hk.2) (.int .i64 t275)) (fun _ hk => hk.2) (.int .i64 t276)) (fun _ hk => hk.2) (.bool t277)) (fun _ hk => hk.2) (.int .i64 t278)) (fun _ hk => hk.2) (.int .i64 t279)) (fun _ hk => hk.2) (.slice Ao13 t280.length co13)) (fun _ hk => hk.2) (.int .i64 t283)) (fun _ hk => hk.2) (.int .i64 t284)) (fun _ hk => hk.2) (.int .i64 t285)) (fun _ hk => hk.2) (.int .i64 t286)) (fun _ hk => hk.2) (.slice Ao14 t287.length co14)) (fun _ hk => trivial), by repeat (first | (with_reducible first | exact HB.out | apply below_alloc | apply pw_below_drewN | apply below_drew1 | refine below_set ?_ (IsS29.ge HI249.out) | refine below_set ?_ GE250.out) | exact HB.out)⟩
  ·
   replace c4 := Bool.eq_false_iff.mpr c4
   subst c4
   have H1 : ((spec_l12Copy.f k t252 false t254 t255 l0_4 t256 t257 t258 t259).bind fun bt290 => (some (0, bt290.1, true, bt290.2.2.1, bt290.2.2.2.1, bt290.2.2.2.2.1, bt290.2.2.2.2.2.1, bt290.2.2.2.2.2.2.1, bt290.2.2.2.2.2.2.2.1, bt290.2.2.2.2.2.2.2.2, ([] : List (S53))))) = some (r1, r2, r3, r4, r5, r6, r7, r8, r9, r10, r11) := by rw [if_neg (show ¬ (false = true) by decide)] at H; first | done | exact H
   clear H
   have H := H1
   clear H1
   replace H := Option.bind_eq_some_iff.mp H
   obtain ⟨⟨t290, t291, t292, t293, t294, t297, t298, t299, t300⟩, A150, H⟩ := H
   replace H : (some (0, t290, true, t292, t293, t294, t297, t298, t299, t300, ([] : List (S53)))) = some (r1, r2, r3, r4, r5, r6, r7, r8, r9, r10, r11) := H
   have A15 := Aside0.mk A150
   clear A150
   simp only [Option.some.injEq, Prod.mk.injEq] at H
   obtain ⟨rfl, rfl, rfl, rfl, rfl, rfl, rfl, rfl, rfl, rfl, rfl⟩ := H
   go_enter Try.func24, Try.ntmps24
   go_wp2_with (first | ((with_reducible refine gate_dst (N := 1) rfl ?_); refine boxE #[.int .i64 a0_0, .bool a0_1, .int .i64 a0_2, .int .i64 a0_3, .slice A0_4 l0_4.length c0_4, .int .i64 a0_5, .int .i64 a0_6, .int .i64 a0_7, .int .i64 a0_8] 29 (N := 1) rfl rfl ?_; intro gb249 hg w16 hbox hb; have BK249 := Aside0.mk hbox; have GW249 := gZ HB hg; have GE249 := gZ HB hg; replace HB := bS HB hb; clear hb hbox hg) | ((with_reducible refine gate_dst (N := 2) rfl ?_); refine boxE #[.int .i64 0, .int .i64 0, .bool false, .int .i64 0, .int .i64 0, .slice none 0 0, .int .i64 0, .int .i64 0, .int .i64 0, .int .i64 0, .slice none 0 0] 35 (N := 2) rfl rfl ?_; intro gb250 hg w17 hbox hb; have BK250 := Aside0.mk hbox; have GW250 := gZ HB hg; have GE250 := gZ HB hg; replace HB := bS HB hb; have NB249_250 := nL BK249 hg; have NB250_249 := nG BK249 hg; replace BK249 := bK BK249 hb; clear hb hbox hg; have HI249 := Aside0.mk (show IsS29 w w17 gb249 a0_0 a0_1 a0_2 a0_3 l0_4 a0_5 a0_6 a0_7 a0_8 from ⟨_, _, (mB BK249), GE249.out, HR0_4.out, HC0_4.out⟩); clear BK249) | ((with_reducible refine gate_callee (f := 32) rfl ?_); refine goA (some 5) rfl rfl Try.func32 rfl #[.pointer (some ⟨gb249, 0, none⟩)] rfl ?_; (with_reducible refine (spec_l12Fault.calls k gb249 a0_0 a0_1 a0_2 a0_3 l0_4 a0_5 a0_6 a0_7 a0_8 t251 t252 false t254 t255 t256 t257 t258 t259 w _ ?side1 ?side2 A2.out).mono ?_); (case side1 => repeat (first | (with_reducible first | exact HI249.out | apply IsS29.alloc | apply IsS29.drewN | apply IsS29.drew | apply IsS29.set_0 | apply IsS29.set_1 | apply IsS29.set_2 | apply IsS29.set_3 | apply IsS29.set_5 | apply IsS29.set_6 | apply IsS29.set_7 | apply IsS29.set_8 | refine IsS29.far ?_ NB249_250.out _) | exact HI249.out)); (case side2 => repeat (first | (with_reducible first | exact HB.out | apply below_alloc | apply pw_below_drewN | apply below_drew1 | refine below_set ?_ (IsS29.ge HI249.out) | refine below_set ?_ GE250.out) | exact HB.out)); rintro e w18 ⟨rfl, hi, hb, hk⟩; refine ⟨_, rfl, ?_⟩; replace BK250 := Aside0.mk (KeepBut.blk hk (g' := gb250) (o := .cells #[.int .i64 0, .int .i64 0, .bool false, .int .i64 0, .int .i64 0, .slice none 0 0, .int .i64 0, .int .i64 0, .int .i64 0, .int .i64 0, .slice none 0 0] 35 (0, 0)) (mB BK250) NB250_249.out (by simp)); replace HB := Aside0.mk hb; replace HI249 := Aside0.mk hi; (try clear hb); (try clear hb2); (try clear hk); (try clear hi); obtain ⟨ASz19_4, cSz19_4, HGz19, hgz19, HSz19_4, HLz19_4⟩ := HI249.out; have hcz19_0 := cellS29_0 HGz19; have hcz19_1 := cellS29_1 HGz19; have hcz19_2 := cellS29_2 HGz19; have hcz19_3 := cellS29_3 HGz19; have hcz19_4 := cellS29_4 HGz19; have hcz19_5 := cellS29_5 HGz19; have hcz19_6 := cellS29_6 HGz19; have hcz19_7 := cellS29_7 HGz19; have hcz19_8 := cellS29_8 HGz19; have hfz19_0 := blk_frozen HGz19 0; have hfz19_1 := blk_frozen HGz19 1; have hfz19_2 := blk_frozen HGz19 2; have hfz19_3 := blk_frozen HGz19 3; have hfz19_5 := blk_frozen HGz19 5; have hfz19_6 := blk_frozen HGz19 6; have hfz19_7 := blk_frozen HGz19 7; have hfz19_8 := blk_frozen HGz19 8; clear HGz19 hgz19) | ((with_reducible refine gate_callee (f := 51) rfl ?_); refine goA (some 14) rfl rfl Try.func51 rfl #[.agg #[.int .i64 t252, .bool false, .int .i64 t254, .int .i64 t255, .slice ASz19_4 l0_4.length cSz19_4, .int .i64 t256, .int .i64 t257, .int .i64 t258, .int .i64 t259]] rfl ?_; (with_reducible refine (spec_l12Copy.calls k t252 false t254 t255 _ _ l0_4 t256 t257 t258 t259 t290 t291 t292 t293 t294 t297 t298 t299 t300 _ ?side1 ?side2 A15.out).mono ?_); (case side1 => exact Kd.C_below HSz19_4 (by repeat (first | (with_reducible first | exact HB.out | apply below_alloc | apply pw_below_drewN | apply below_drew1 | refine below_set ?_ (IsS29.ge HI249.out) | refine below_set ?_ GE250.out) | exact HB.out))); (case side2 => exact HLz19_4); rintro e w20 ⟨v295, rfl, ho0, hb⟩; refine ⟨_, rfl, ?_⟩; have HO296 := Aside0.mk (Kd.S_lower ho0 (below_size (by repeat (first | (with_reducible first | exact HB.out | apply below_alloc | apply pw_below_drewN | apply below_drew1 | refine below_set ?_ (IsS29.ge HI249.out) | refine below_set ?_ GE250.out) | exact HB.out)))); replace BK250 := bK BK250 hb; replace HB := Aside0.mk (below_step (by repeat (first | (with_reducible first | exact HB.out | apply below_alloc | apply pw_below_drewN | apply below_drew1 | refine below_set ?_ (IsS29.ge HI249.out) | refine below_set ?_ GE250.out) | exact HB.out)) hb); replace HI249 := Aside0.mk (IsS29.below (by repeat (first | (with_reducible first | exact HI249.out | apply IsS29.alloc | apply IsS29.drewN | apply IsS29.drew | apply IsS29.set_0 | apply IsS29.set_1 | apply IsS29.set_2 | apply IsS29.set_3 | apply IsS29.set_5 | apply IsS29.set_6 | apply IsS29.set_7 | apply IsS29.set_8 | refine IsS29.far ?_ NB249_250.out _) | exact HI249.out)) hb); (try clear hb); (try clear hb2); (try clear hk); (try clear hi); (try clear ho0)) | ((with_reducible refine gate_dst (N := 4) rfl ?_); refine boxE #[.int .i64 0, .bool false, .int .i64 0, .int .i64 0, .slice none 0 0, .int .i64 0, .int .i64 0, .int .i64 0, .int .i64 0] 29 (N := 4) rfl rfl ?_; intro gb301 hg w21 hbox hb; replace HO296 := Aside0.mk (Kd.S_below (mS HO296) hb); have BK301 := Aside0.mk hbox; have GW301 := Aside0.mk ((by rw [hg]; exact (below_size (by repeat (first | (with_reducible first | exact HB.out | apply below_alloc | apply pw_below_drewN | apply below_drew1 | refine below_set ?_ (IsS29.ge HI249.out) | refine below_set ?_ GE250.out) | exact HB.out))) : w.heap.size ≤ gb301)); have GE301 := Aside0.mk ((by rw [hg]; exact (below_size (by repeat (first | (with_reducible first | exact HB.out | apply below_alloc | apply pw_below_drewN | apply below_drew1 | refine below_set ?_ (IsS29.ge HI249.out) | refine below_set ?_ GE250.out) | exact HB.out))) : w.heap.size ≤ gb301)); replace HB := Aside0.mk (below_step (by repeat (first | (with_reducible first | exact HB.out | apply below_alloc | apply pw_below_drewN | apply below_drew1 | refine below_set ?_ (IsS29.ge HI249.out) | refine below_set ?_ GE250.out) | exact HB.out)) hb); have NB250_301 := nL BK250 hg; have NB301_250 := nG BK250 hg; replace BK250 := bK BK250 hb; have NB249_301 := Aside0.mk ((by rw [hg]; exact Nat.ne_of_lt (IsS29.lt (show IsS29 w _ gb249 t252 false t254 t255 l0_4 t256 t257 t258 t259 from by repeat (first | (with_reducible first | exact HI249.out | apply IsS29.alloc | apply IsS29.drewN | apply IsS29.drew | apply IsS29.set_0 | apply IsS29.set_1 | apply IsS29.set_2 | apply IsS29.set_3 | apply IsS29.set_5 | apply IsS29.set_6 | apply IsS29.set_7 | apply IsS29.set_8 | refine IsS29.far ?_ NB249_250.out _) | exact HI249.out))) : gb249 ≠ gb301)); have NB301_249 := Aside0.mk ((by rw [hg]; exact Nat.ne_of_gt (IsS29.lt (show IsS29 w _ gb249 t252 false t254 t255 l0_4 t256 t257 t258 t259 from by repeat (first | (with_reducible first | exact HI249.out | apply IsS29.alloc | apply IsS29.drewN | apply IsS29.drew | apply IsS29.set_0 | apply IsS29.set_1 | apply IsS29.set_2 | apply IsS29.set_3 | apply IsS29.set_5 | apply IsS29.set_6 | apply IsS29.set_7 | apply IsS29.set_8 | refine IsS29.far ?_ NB249_250.out _) | exact HI249.out))) : gb301 ≠ gb249)); replace HI249 := Aside0.mk (IsS29.below (by repeat (first | (with_reducible first | exact HI249.out | apply IsS29.alloc | apply IsS29.drewN | apply IsS29.drew | apply IsS29.set_0 | apply IsS29.set_1 | apply IsS29.set_2 | apply IsS29.set_3 | apply IsS29.set_5 | apply IsS29.set_6 | apply IsS29.set_7 | apply IsS29.set_8 | refine IsS29.far ?_ NB249_250.out _) | exact HI249.out)) hb); clear hb hbox hg; have hnb22 := NB301_250.out; have hnc22 := NB250_301.out; have hnb23 := NB301_249.out; have hnc23 := NB249_301.out; have hz24 := cl9 BK301; obtain ⟨Ao25, co25, eo25⟩ := Kd.S_slice HO296.out; subst eo25) | ((with_reducible refine gate_store (t := 29) (p := 4) rfl ?_); refine store_event (t := 29) (p := 4) (v := ?vo_w26) (w1 := (((((((((w21.setCell ⟨gb301, 0, none⟩ (.int .i64 t290)).setCell ⟨gb301, 1, none⟩ (.bool t291)).setCell ⟨gb301, 2, none⟩ (.int .i64 t292)).setCell ⟨gb301, 3, none⟩ (.int .i64 t293)).setCell ⟨gb301, 4, none⟩ (.slice Ao25 t294.length co25)).setCell ⟨gb301, 5, none⟩ (.int .i64 t297)).setCell ⟨gb301, 6, none⟩ (.int .i64 t298)).setCell ⟨gb301, 7, none⟩ (.int .i64 t299)).setCell ⟨gb301, 8, none⟩ (.int .i64 t300))) ?hg ?ho ?hn ?hr ?_; (case ho => rfl); (case hg => rfl); (case hn => rfl); (case hr => first | (go_simp; done) | (go_simp; rfl)); intro w26 hw; have n0_ : Aside0 (Kd.S k51 51 w26 w.heap.size (fun _ => True) (.slice Ao25 t294.length co25) t294) := ⟨(by rw [hw]; exact (by (with_reducible repeat (first | apply Kd.S_alloc | apply Kd.S_drewN | apply Kd.S_drew)); exact Kd.S_mono (Kd.S_far (p := ⟨gb301, 8, none⟩) (Kd.S_far (p := ⟨gb301, 7, none⟩) (Kd.S_far (p := ⟨gb301, 6, none⟩) (Kd.S_far (p := ⟨gb301, 5, none⟩) (Kd.S_far (p := ⟨gb301, 4, none⟩) (Kd.S_far (p := ⟨gb301, 3, none⟩) (Kd.S_far (p := ⟨gb301, 2, none⟩) (Kd.S_far (p := ⟨gb301, 1, none⟩) (Kd.S_far (p := ⟨gb301, 0, none⟩) (Kd.S_types HO296.out BK301.out (by decide)) (fun _ hk => hk.2) (.int .i64 t290)) (fun _ hk => hk.2) (.bool t291)) (fun _ hk => hk.2) (.int .i64 t292)) (fun _ hk => hk.2) (.int .i64 t293)) (fun _ hk => hk.2) (.slice Ao25 t294.length co25)) (fun _ hk => hk.2) (.int .i64 t297)) (fun _ hk => hk.2) (.int .i64 t298)) (fun _ hk => hk.2) (.int .i64 t299)) (fun _ hk => hk.2) (.int .i64 t300)) (fun _ hk => trivial)))⟩; have n1_ : Aside0 (w26.heap[gb250]? = some (.cells #[.int .i64 0, .int .i64 0, .bool false, .int .i64 0, .int .i64 0, .slice none 0 0, .int .i64 0, .int .i64 0, .int .i64 0, .int .i64 0, .slice none 0 0] 35 (0, 0))) := ⟨(by rw [hw]; exact (mP BK250))⟩; have n2_ : Aside0 (w26.heap[gb301]? = some (.cells #[.int .i64 t290, .bool t291, .int .i64 t292, .int .i64 t293, .slice Ao25 t294.length co25, .int .i64 t297, .int .i64 t298, .int .i64 t299, .int .i64 t300] 29 (0, 0))) := ⟨(by rw [hw]; exact (mP BK301))⟩; have n3_ : Aside0 (IsS29 w w26 gb249 t252 false t254 t255 l0_4 t256 t257 t258 t259) := ⟨(by rw [hw]; exact (by repeat (first | (with_reducible first | exact HI249.out | apply IsS29.alloc | apply IsS29.drewN | apply IsS29.drew | apply IsS29.set_0 | apply IsS29.set_1 | apply IsS29.set_2 | apply IsS29.set_3 | apply IsS29.set_5 | apply IsS29.set_6 | apply IsS29.set_7 | apply IsS29.set_8 | refine IsS29.far ?_ NB249_250.out _ | refine IsS29.far ?_ NB249_301.out _) | exact HI249.out)))⟩; have n4_ : Aside0 (Below w.heap.size w w26) := ⟨(by rw [hw]; exact (by repeat (first | (with_reducible first | exact HB.out | apply below_alloc | apply pw_below_drewN | apply below_drew1 | refine below_set ?_ (IsS29.ge HI249.out) | refine below_set ?_ GE250.out | refine below_set ?_ GE301.out) | exact HB.out)))⟩; clear hw; clear HO296; clear BK250; clear BK301; clear HI249; clear HB; have HO296 := n0_; have BK250 := n1_; have BK301 := n2_; have HI249 := n3_; have HB := n4_; clear n0_ n1_ n2_ n3_ n4_; have hz27 := cl9 BK301; have hnb28 := NB250_249.out; have hnc28 := NB249_250.out; have hz29 := cl11 BK250))
   refine bodyPost_ret (results_cell_row rfl _ _ gb250 35 #[.int .i64 0, .int .i64 t290, .bool true, .int .i64 t292, .int .i64 t293, .slice Ao25 t294.length co25, .int .i64 t297, .int .i64 t298, .int .i64 t299, .int .i64 t300, .slice none 0 0] (0, 0) _ rfl (mP BK250) Try.underlying35 rfl (by kernel_rfl)) rfl ?_
   exact ⟨_, _, by first | rfl | (simp [errW_none, errW_some] <;> rfl) | (simp [*, errW_none, errW_some] <;> rfl), by (with_reducible repeat (first | apply Kd.S_alloc | apply Kd.S_drewN | apply Kd.S_drew)); exact Kd.S_mono (Kd.S_far (p := ⟨gb250, 10, none⟩) (Kd.S_far (p := ⟨gb250, 9, none⟩) (Kd.S_far (p := ⟨gb250, 8, none⟩) (Kd.S_far (p := ⟨gb250, 7, none⟩) (Kd.S_far (p := ⟨gb250, 6, none⟩) (Kd.S_far (p := ⟨gb250, 5, none⟩) (Kd.S_far (p := ⟨gb250, 4, none⟩) (Kd.S_far (p := ⟨gb250, 3, none⟩) (Kd.S_far (p := ⟨gb250, 2, none⟩) (Kd.S_far (p := ⟨gb250, 1, none⟩) (Kd.S_far (p := ⟨gb250, 0, none⟩) (Kd.S_far (p := ⟨gb301, 1, none⟩) (Kd.S_types (Kd.S_types HO296.out BK301.out (by decide)) BK250.out (by decide)) (fun _ hk => hk.1.2) (.bool true)) (fun _ hk => hk.2) (.int .i64 0)) (fun _ hk => hk.2) (.int .i64 t290)) (fun _ hk => hk.2) (.bool true)) (fun _ hk => hk.2) (.int .i64 t292)) (fun _ hk => hk.2) (.int .i64 t293)) (fun _ hk => hk.2) (.slice Ao25 t294.length co25)) (fun _ hk => hk.2) (.int .i64 t297)) (fun _ hk => hk.2) (.int .i64 t298)) (fun _ hk => hk.2) (.int .i64 t299)) (fun _ hk => hk.2) (.int .i64 t300)) (fun _ hk => hk.2) (.slice none 0 0)) (fun _ hk => trivial), by first | exact Kd.S_nil _ _ _ _ _ | exact Kd.N_nil _ _ _ _ _ | exact Kd.V_nil _ _ _ _ _ | exact Kd.Q_nil _ _ _ _ _ | exact Kd.R_nil _ _ _ _ _, by repeat (first | (with_reducible first | exact HB.out | apply below_alloc | apply pw_below_drewN | apply below_drew1 | refine below_set ?_ (IsS29.ge HI249.out) | refine below_set ?_ GE250.out | refine below_set ?_ GE301.out) | exact HB.out)⟩
 ·
  rw [if_neg c3] at H
  have c3b0 : (t251 == 0) = false := beq_eq_false_iff_ne.mpr c3
  have c3b1 : (t251 != 0) = true := bne_iff_ne.mpr c3
  replace H := Option.bind_eq_some_iff.mp H
  obtain ⟨⟨t260, t261, t262, t263, t264, t265, t268, t269, t270, t271, t272⟩, A300, H⟩ := H
  replace H : (some (t260, t261, t262, t263, t264, t265, t268, t269, t270, t271, t272)) = some (r1, r2, r3, r4, r5, r6, r7, r8, r9, r10, r11) := H
  have A30 := Aside0.mk A300
  clear A300
  simp only [Option.some.injEq, Prod.mk.injEq] at H
  obtain ⟨rfl, rfl, rfl, rfl, rfl, rfl, rfl, rfl, rfl, rfl, rfl⟩ := H
  go_enter Try.func24, Try.ntmps24
  go_wp2_with (first | ((with_reducible refine gate_dst (N := 1) rfl ?_); refine boxE #[.int .i64 a0_0, .bool a0_1, .int .i64 a0_2, .int .i64 a0_3, .slice A0_4 l0_4.length c0_4, .int .i64 a0_5, .int .i64 a0_6, .int .i64 a0_7, .int .i64 a0_8] 29 (N := 1) rfl rfl ?_; intro gb249 hg w31 hbox hb; have BK249 := Aside0.mk hbox; have GW249 := gZ HB hg; have GE249 := gZ HB hg; replace HB := bS HB hb; clear hb hbox hg) | ((with_reducible refine gate_dst (N := 2) rfl ?_); refine boxE #[.int .i64 0, .int .i64 0, .bool false, .int .i64 0, .int .i64 0, .slice none 0 0, .int .i64 0, .int .i64 0, .int .i64 0, .int .i64 0, .slice none 0 0] 35 (N := 2) rfl rfl ?_; intro gb250 hg w32 hbox hb; have BK250 := Aside0.mk hbox; have GW250 := gZ HB hg; have GE250 := gZ HB hg; replace HB := bS HB hb; have NB249_250 := nL BK249 hg; have NB250_249 := nG BK249 hg; replace BK249 := bK BK249 hb; clear hb hbox hg; have HI249 := Aside0.mk (show IsS29 w w32 gb249 a0_0 a0_1 a0_2 a0_3 l0_4 a0_5 a0_6 a0_7 a0_8 from ⟨_, _, (mB BK249), GE249.out, HR0_4.out, HC0_4.out⟩); clear BK249) | ((with_reducible refine gate_callee (f := 32) rfl ?_); refine goA (some 5) rfl rfl Try.func32 rfl #[.pointer (some ⟨gb249, 0, none⟩)] rfl ?_; (with_reducible refine (spec_l12Fault.calls k gb249 a0_0 a0_1 a0_2 a0_3 l0_4 a0_5 a0_6 a0_7 a0_8 t251 t252 t253 t254 t255 t256 t257 t258 t259 w _ ?side1 ?side2 A2.out).mono ?_); (case side1 => repeat (first | (with_reducible first | exact HI249.out | apply IsS29.alloc | apply IsS29.drewN | apply IsS29.drew | apply IsS29.set_0 | apply IsS29.set_1 | apply IsS29.set_2 | apply IsS29.set_3 | apply IsS29.set_5 | apply IsS29.set_6 | apply IsS29.set_7 | apply IsS29.set_8 | refine IsS29.far ?_ NB249_250.out _) | exact HI249.out)); (case side2 => repeat (first | (with_reducible first | exact HB.out | apply below_alloc | apply pw_below_drewN | apply below_drew1 | refine below_set ?_ (IsS29.ge HI249.out) | refine below_set ?_ GE250.out) | exact HB.out)); rintro e w33 ⟨rfl, hi, hb, hk⟩; refine ⟨_, rfl, ?_⟩; replace BK250 := Aside0.mk (KeepBut.blk hk (g' := gb250) (o := .cells #[.int .i64 0, .int .i64 0, .bool false, .int .i64 0, .int .i64 0, .slice none 0 0, .int .i64 0, .int .i64 0, .int .i64 0, .int .i64 0, .slice none 0 0] 35 (0, 0)) (mB BK250) NB250_249.out (by simp)); replace HB := Aside0.mk hb; replace HI249 := Aside0.mk hi; (try clear hb); (try clear hb2); (try clear hk); (try clear hi)) | ((with_reducible refine gate_callee (f := 40) rfl ?_); refine goA (some 9) rfl rfl Try.func40 rfl #[.int .i64 t251] rfl ?_; (with_reducible refine (spec_l12Bad.calls t251 t260 t261 t262 t263 t264 t265 t268 t269 t270 t271 t272 _ A30.out).mono ?_); rintro e w34 ⟨v266, v273, rfl, ho0, ho1, hb⟩; refine ⟨_, rfl, ?_⟩; have HO267 := Aside0.mk (Kd.S_lower ho0 (below_size (by repeat (first | (with_reducible first | exact HB.out | apply below_alloc | apply pw_below_drewN | apply below_drew1 | refine below_set ?_ (IsS29.ge HI249.out) | refine below_set ?_ GE250.out) | exact HB.out)))); have HO274 := Aside0.mk (Kd.S_lower ho1 (below_size (by repeat (first | (with_reducible first | exact HB.out | apply below_alloc | apply pw_below_drewN | apply below_drew1 | refine below_set ?_ (IsS29.ge HI249.out) | refine below_set ?_ GE250.out) | exact HB.out)))); replace BK250 := bK BK250 hb; replace HB := Aside0.mk (below_step (by repeat (first | (with_reducible first | exact HB.out | apply below_alloc | apply pw_below_drewN | apply below_drew1 | refine below_set ?_ (IsS29.ge HI249.out) | refine below_set ?_ GE250.out) | exact HB.out)) hb); replace HI249 := Aside0.mk (IsS29.below (by repeat (first | (with_reducible first | exact HI249.out | apply IsS29.alloc | apply IsS29.drewN | apply IsS29.drew | apply IsS29.set_0 | apply IsS29.set_1 | apply IsS29.set_2 | apply IsS29.set_3 | apply IsS29.set_5 | apply IsS29.set_6 | apply IsS29.set_7 | apply IsS29.set_8 | refine IsS29.far ?_ NB249_250.out _) | exact HI249.out)) hb); (try clear hb); (try clear hb2); (try clear hk); (try clear hi); (try clear ho0); (try clear ho1); have hnb35 := NB250_249.out; have hnc35 := NB249_250.out; have hz36 := cl11 BK250; obtain ⟨Ao37, co37, eo37⟩ := Kd.S_slice HO267.out; subst eo37; obtain ⟨Ao38, co38, eo38⟩ := Kd.S_slice HO274.out; subst eo38))
  refine bodyPost_ret (results_cell_row rfl _ _ gb250 35 #[.int .i64 t260, .int .i64 t261, .bool t262, .int .i64 t263, .int .i64 t264, .slice Ao37 t265.length co37, .int .i64 t268, .int .i64 t269, .int .i64 t270, .int .i64 t271, .slice Ao38 t272.length co38] (0, 0) _ rfl (mP BK250) Try.underlying35 rfl (by kernel_rfl)) rfl ?_
  exact ⟨_, _, by first | rfl | (simp [errW_none, errW_some] <;> rfl) | (simp [*, errW_none, errW_some] <;> rfl), by (with_reducible repeat (first | apply Kd.S_alloc | apply Kd.S_drewN | apply Kd.S_drew)); exact Kd.S_mono (Kd.S_far (p := ⟨gb250, 10, none⟩) (Kd.S_far (p := ⟨gb250, 9, none⟩) (Kd.S_far (p := ⟨gb250, 8, none⟩) (Kd.S_far (p := ⟨gb250, 7, none⟩) (Kd.S_far (p := ⟨gb250, 6, none⟩) (Kd.S_far (p := ⟨gb250, 5, none⟩) (Kd.S_far (p := ⟨gb250, 4, none⟩) (Kd.S_far (p := ⟨gb250, 3, none⟩) (Kd.S_far (p := ⟨gb250, 2, none⟩) (Kd.S_far (p := ⟨gb250, 1, none⟩) (Kd.S_far (p := ⟨gb250, 0, none⟩) (Kd.S_types HO267.out BK250.out (by decide)) (fun _ hk => hk.2) (.int .i64 t260)) (fun _ hk => hk.2) (.int .i64 t261)) (fun _ hk => hk.2) (.bool t262)) (fun _ hk => hk.2) (.int .i64 t263)) (fun _ hk => hk.2) (.int .i64 t264)) (fun _ hk => hk.2) (.slice Ao37 t265.length co37)) (fun _ hk => hk.2) (.int .i64 t268)) (fun _ hk => hk.2) (.int .i64 t269)) (fun _ hk => hk.2) (.int .i64 t270)) (fun _ hk => hk.2) (.int .i64 t271)) (fun _ hk => hk.2) (.slice Ao38 t272.length co38)) (fun _ hk => trivial), by (with_reducible repeat (first | apply Kd.S_alloc | apply Kd.S_drewN | apply Kd.S_drew)); exact Kd.S_mono (Kd.S_far (p := ⟨gb250, 10, none⟩) (Kd.S_far (p := ⟨gb250, 9, none⟩) (Kd.S_far (p := ⟨gb250, 8, none⟩) (Kd.S_far (p := ⟨gb250, 7, none⟩) (Kd.S_far (p := ⟨gb250, 6, none⟩) (Kd.S_far (p := ⟨gb250, 5, none⟩) (Kd.S_far (p := ⟨gb250, 4, none⟩) (Kd.S_far (p := ⟨gb250, 3, none⟩) (Kd.S_far (p := ⟨gb250, 2, none⟩) (Kd.S_far (p := ⟨gb250, 1, none⟩) (Kd.S_far (p := ⟨gb250, 0, none⟩) (Kd.S_types HO274.out BK250.out (by decide)) (fun _ hk => hk.2) (.int .i64 t260)) (fun _ hk => hk.2) (.int .i64 t261)) (fun _ hk => hk.2) (.bool t262)) (fun _ hk => hk.2) (.int .i64 t263)) (fun _ hk => hk.2) (.int .i64 t264)) (fun _ hk => hk.2) (.slice Ao37 t265.length co37)) (fun _ hk => hk.2) (.int .i64 t268)) (fun _ hk => hk.2) (.int .i64 t269)) (fun _ hk => hk.2) (.int .i64 t270)) (fun _ hk => hk.2) (.int .i64 t271)) (fun _ hk => hk.2) (.slice Ao38 t272.length co38)) (fun _ hk => trivial), by repeat (first | (with_reducible first | exact HB.out | apply below_alloc | apply pw_below_drewN | apply below_drew1 | refine below_set ?_ (IsS29.ge HI249.out) | refine below_set ?_ GE250.out) | exact HB.out)⟩

/-! ### impl_in: function 35 -/
def impl_in.f (a0 : Int) (a1 : Int) (a2 : Int) : Option (Bool) := if a0 ≥ a1 then (some (decide (a0 ≤ a2))) else (some false)
set_option maxHeartbeats 8000000 in
set_option maxRecDepth 100000 in
theorem impl_in.calls (a0 : Int) (a1 : Int) (a2 : Int) (r : Bool) (w : World) (h : impl_in.f a0 a1 a2 = some r) :
  Calls Try.prog 35 #[.int .i64 a0, .int .i64 a1, .int .i64 a2] w fun e w' => e = .returned (.bool r) ∧ Drawn0 w w' := by
 have H : (if a0 ≥ a1 then (some (decide (a0 ≤ a2))) else (some false)) = some r := h
 clear h
 by_cases c4 : a0 ≥ a1
 ·
  rw [if_pos c4] at H
  have c4b0 : decide (a1 ≤ a0) = true := decide_eq_true c4
  clear c4
  obtain rfl := Option.some.inj H
  go_enter Try.func35, Try.ntmps35
  go_wp2
  go_ret
  exact ⟨by first | rfl | (simp; done) | (simp [*]; done), drw⟩
 ·
  rw [if_neg c4] at H
  have c4b0 : decide (a1 ≤ a0) = false := decide_eq_false c4
  clear c4
  obtain rfl := Option.some.inj H
  go_enter Try.func35, Try.ntmps35
  go_wp2
  go_ret
  exact ⟨by first | rfl | (simp; done) | (simp [*]; done), drw⟩

/-! ### impl_isNode: function 34 -/
def impl_isNode.f (a0 : Int) : Option (Bool) := (impl_in.f a0 0 1).bind fun t302 => (some t302)
set_option maxHeartbeats 8000000 in
set_option maxRecDepth 100000 in
theorem impl_isNode.calls (a0 : Int) (r : Bool) (w : World) (h : impl_isNode.f a0 = some r) :
  Calls Try.prog 34 #[.int .i64 a0] w fun e w' => e = .returned (.bool r) ∧ Drawn0 w w' := by
 have H : ((impl_in.f a0 0 1).bind fun t302 => (some t302)) = some r := h
 clear h
 replace H := Option.bind_eq_some_iff.mp H
 obtain ⟨t302, A20, H⟩ := H
 replace H : (some t302) = some r := H
 have A2 := Aside0.mk A20
 clear A20
 obtain rfl := Option.some.inj H
 go_enter Try.func34, Try.ntmps34
 go_wp2_with (first | ((with_reducible refine gate_callee (f := 35) rfl ?_); refine goA (some 4) rfl rfl Try.func35 rfl #[.int .i64 a0, .int .i64 0, .int .i64 1] rfl ?_; (with_reducible refine (impl_in.calls a0 0 1 t302 _ A2.out).mono ?_); rintro e w' ⟨rfl, ⟨nd, rfl⟩⟩; refine ⟨_, rfl, ?_⟩))
 go_ret
 exact ⟨by first | rfl | (simp; done) | (simp [*]; done), drw⟩

/-! ### impl_isEpoch: function 48 -/
def impl_isEpoch.f (a0 : Int) : Option (Bool) := (impl_in.f a0 1 1000).bind fun t303 => (some t303)
set_option maxHeartbeats 8000000 in
set_option maxRecDepth 100000 in
theorem impl_isEpoch.calls (a0 : Int) (r : Bool) (w : World) (h : impl_isEpoch.f a0 = some r) :
  Calls Try.prog 48 #[.int .i64 a0] w fun e w' => e = .returned (.bool r) ∧ Drawn0 w w' := by
 have H : ((impl_in.f a0 1 1000).bind fun t303 => (some t303)) = some r := h
 clear h
 replace H := Option.bind_eq_some_iff.mp H
 obtain ⟨t303, A20, H⟩ := H
 replace H : (some t303) = some r := H
 have A2 := Aside0.mk A20
 clear A20
 obtain rfl := Option.some.inj H
 go_enter Try.func48, Try.ntmps48
 go_wp2_with (first | ((with_reducible refine gate_callee (f := 35) rfl ?_); refine goA (some 4) rfl rfl Try.func35 rfl #[.int .i64 a0, .int .i64 1, .int .i64 1000] rfl ?_; (with_reducible refine (impl_in.calls a0 1 1000 t303 _ A2.out).mono ?_); rintro e w' ⟨rfl, ⟨nd, rfl⟩⟩; refine ⟨_, rfl, ?_⟩))
 go_ret
 exact ⟨by first | rfl | (simp; done) | (simp [*]; done), drw⟩

/-! ### impl_isPeer: function 71 -/
def impl_isPeer.f (a0 : Int) : Option (Bool) := (impl_in.f a0 0 2).bind fun t304 => (some t304)
set_option maxHeartbeats 8000000 in
set_option maxRecDepth 100000 in
theorem impl_isPeer.calls (a0 : Int) (r : Bool) (w : World) (h : impl_isPeer.f a0 = some r) :
  Calls Try.prog 71 #[.int .i64 a0] w fun e w' => e = .returned (.bool r) ∧ Drawn0 w w' := by
 have H : ((impl_in.f a0 0 2).bind fun t304 => (some t304)) = some r := h
 clear h
 replace H := Option.bind_eq_some_iff.mp H
 obtain ⟨t304, A20, H⟩ := H
 replace H : (some t304) = some r := H
 have A2 := Aside0.mk A20
 clear A20
 obtain rfl := Option.some.inj H
 go_enter Try.func71, Try.ntmps71
 go_wp2_with (first | ((with_reducible refine gate_callee (f := 35) rfl ?_); refine goA (some 4) rfl rfl Try.func35 rfl #[.int .i64 a0, .int .i64 0, .int .i64 2] rfl ?_; (with_reducible refine (impl_in.calls a0 0 2 t304 _ A2.out).mono ?_); rintro e w' ⟨rfl, ⟨nd, rfl⟩⟩; refine ⟨_, rfl, ?_⟩))
 go_ret
 exact ⟨by first | rfl | (simp; done) | (simp [*]; done), drw⟩

/-! ### impl_EventFault: function 58 -/
def impl_EventFault.j0 : Nat → Bool → Int → Int → List Int → Option (Int)
 | 0, _, _, _, _ => none
 | k + 1, x8, x306000, x306001, x306002 => if x8 = true then (some 3) else (if ((x306000 == 2) != (decide ((x306002.length : Int) > 0))) = true then (some 1) else (if (x306002.length : Int) > 60 then (some 2) else (some 0)))
def impl_EventFault.f (k : Nat) (a0_0 : Int) (a0_1 : Int) (l0_2 : List Int) : Option (Int) := (impl_in.f a0_0 1 4).bind fun t306 => (if t306 = true then ((impl_isPeer.f a0_1).bind fun t307 => (if t307 = true then (if a0_0 = 3 then (impl_EventFault.j0 k (a0_1 != 0) a0_0 a0_1 l0_2) else (impl_EventFault.j0 k false a0_0 a0_1 l0_2)) else (impl_EventFault.j0 k true a0_0 a0_1 l0_2))) else (some 1))
theorem impl_EventFault.mono_l : ∀ k, (∀ y0 y1 y2 y3, LeO (impl_EventFault.j0 k y0 y1 y2 y3) (impl_EventFault.j0 (k + 1) y0 y1 y2 y3))
 | 0 => fun _ _ _ _ r h => by simp [impl_EventFault.j0] at h
 | k + 1 => by
  have ih0 := impl_EventFault.mono_l k
  ·
   intro y0 y1 y2 y3
   unfold impl_EventFault.j0
   repeat' first
   | (with_reducible exact ih0 _ _ _ _)
   | (with_reducible exact LeO.refl _)
   | (with_reducible exact LeO.none _)
   | (with_reducible refine LeO.ite ?_ ?_)
   | (with_reducible refine LeO.bind ?_ (fun _ => ?_))
   | exact ih0 _ _ _ _
   | exact LeO.none _
   | refine LeO.ite ?_ ?_
   | refine LeO.bind ?_ (fun _ => ?_)
theorem impl_EventFault.mono : ∀ a0 a1 a2 k, LeO (impl_EventFault.f k a0 a1 a2) (impl_EventFault.f (k + 1) a0 a1 a2) := by
 intro a0 a1 a2 k
 have ih0 := impl_EventFault.mono_l k
 unfold impl_EventFault.f
 repeat' first
   | (with_reducible exact ih0 _ _ _ _)
   | (with_reducible exact LeO.refl _)
   | (with_reducible exact LeO.none _)
   | (with_reducible refine LeO.ite ?_ ?_)
   | (with_reducible refine LeO.bind ?_ (fun _ => ?_))
   | exact ih0 _ _ _ _
   | exact LeO.none _
   | refine LeO.ite ?_ ?_
   | refine LeO.bind ?_ (fun _ => ?_)
set_option maxHeartbeats 8000000 in
set_option maxRecDepth 100000 in
theorem impl_EventFault.calls (k : Nat) (a0_0 : Int) (a0_1 : Int) (A0_2 : Option Addr) (c0_2 : Nat) (l0_2 : List Int) (r : Int) (w : World) (hr0_2 : Kd.C (Kd.int .u8) w A0_2 l0_2.length l0_2) (hc0_2 : l0_2.length ≤ c0_2) (h : impl_EventFault.f k a0_0 a0_1 l0_2 = some r) :
  Calls Try.prog 58 #[.agg #[.int .i64 a0_0, .int .i64 a0_1, .slice A0_2 l0_2.length c0_2]] w fun e w' => e = .returned (.int .i64 r) ∧ Below w.heap.size w w' := by
 have hu49 := Try.underlying49
 have HR0_2 := Aside0.mk hr0_2
 have HC0_2 := Aside0.mk hc0_2
 clear hr0_2 hc0_2
 have HB := Aside0.mk (Below.refl w.heap.size w)
 have H : ((impl_in.f a0_0 1 4).bind fun t306 => (if t306 = true then ((impl_isPeer.f a0_1).bind fun t307 => (if t307 = true then (if a0_0 = 3 then (impl_EventFault.j0 k (a0_1 != 0) a0_0 a0_1 l0_2) else (impl_EventFault.j0 k false a0_0 a0_1 l0_2)) else (impl_EventFault.j0 k true a0_0 a0_1 l0_2))) else (some 1))) = some r := h
 clear h
 replace H := Option.bind_eq_some_iff.mp H
 obtain ⟨t306, A20, H⟩ := H
 replace H : (if t306 = true then ((impl_isPeer.f a0_1).bind fun t307 => (if t307 = true then (if a0_0 = 3 then (impl_EventFault.j0 k (a0_1 != 0) a0_0 a0_1 l0_2) else (impl_EventFault.j0 k false a0_0 a0_1 l0_2)) else (impl_EventFault.j0 k true a0_0 a0_1 l0_2))) else (some 1)) = some r := H
 have A2 := Aside0.mk A20
 clear A20
 by_cases c3 : t306 = true
 ·
  subst c3
  have H1 : ((impl_isPeer.f a0_1).bind fun t307 => (if t307 = true then (if a0_0 = 3 then (impl_EventFault.j0 k (a0_1 != 0) a0_0 a0_1 l0_2) else (impl_EventFault.j0 k false a0_0 a0_1 l0_2)) else (impl_EventFault.j0 k true a0_0 a0_1 l0_2))) = some r := by rw [if_pos rfl] at H; first | done | exact H
  clear H
  have H := H1
  clear H1
  have HC4 := Aside0.mk H
  clear H
  go_enter Try.func58, Try.ntmps58
  go_upto_region 3 with (first | ((with_reducible refine gate_dst (N := 1) rfl ?_); refine boxE #[.int .i64 a0_0, .int .i64 a0_1, .slice A0_2 l0_2.length c0_2] 49 (N := 1) rfl rfl ?_; intro gb305 hg w5 hbox hb; have BK305 := Aside0.mk hbox; have GW305 := gZ HB hg; have GE305 := gZ HB hg; replace HB := bS HB hb; clear hb hbox hg; have hz6 := cl3 BK305) | ((with_reducible refine gate_callee (f := 35) rfl ?_); refine goA (some 6) rfl rfl Try.func35 rfl #[.int .i64 a0_0, .int .i64 1, .int .i64 4] rfl ?_; (with_reducible refine (impl_in.calls a0_0 1 4 true _ A2.out).mono ?_); rintro e w' ⟨rfl, ⟨nd, rfl⟩⟩; refine ⟨_, rfl, ?_⟩))
  (try simp only [Act.put, List.setIfInBounds_toArray, List.set_cons_zero, List.set_cons_succ])
  go_cut [8] (fun v8 wc => ∃ (kq : Nat) (x8_3 : Bool), v8 = .bool x8_3 ∧ Aside0 (impl_EventFault.j0 kq x8_3 a0_0 a0_1 l0_2 = some r) ∧ Aside0 (kq ≤ k) ∧ Aside0 (wc.heap[gb305]? = some (.cells #[.int .i64 a0_0, .int .i64 a0_1, (.slice A0_2 l0_2.length c0_2)] 49 (0, 0))) ∧ Aside0 (Below w.heap.size w wc))
  case first =>
   have H := HC4.out
   clear HC4
   replace H := Option.bind_eq_some_iff.mp H
   obtain ⟨t307, A70, H⟩ := H
   replace H : (if t307 = true then (if a0_0 = 3 then (impl_EventFault.j0 k (a0_1 != 0) a0_0 a0_1 l0_2) else (impl_EventFault.j0 k false a0_0 a0_1 l0_2)) else (impl_EventFault.j0 k true a0_0 a0_1 l0_2)) = some r := H
   have A7 := Aside0.mk A70
   clear A70
   by_cases c8 : t307 = true
   ·
    subst c8
    have H1 : (if a0_0 = 3 then (impl_EventFault.j0 k (a0_1 != 0) a0_0 a0_1 l0_2) else (impl_EventFault.j0 k false a0_0 a0_1 l0_2)) = some r := by rw [if_pos rfl] at H; first | done | exact H
    clear H
    have H := H1
    clear H1
    by_cases c9 : a0_0 = 3
    ·
     rw [if_pos c9] at H
     have c9b0 : (a0_0 == 3) = true := beq_iff_eq.mpr c9
     have c9b1 : (a0_0 != 3) = false := bne_eq_false_iff_eq.mpr c9
     clear c9
     (first | rw [c9b0] | (simp only [i64_w, i32_w]; rw [c9b0]) | skip)
     have H' := Aside0.mk H
     clear H
     have hz10 := cl3 BK305
     go_wp2_with (first | ((with_reducible refine gate_callee (f := 71) rfl ?_); refine goA (some 11) rfl rfl Try.func71 rfl #[.int .i64 a0_1] rfl ?_; (with_reducible refine (impl_isPeer.calls a0_1 true _ A7.out).mono ?_); rintro e w' ⟨rfl, ⟨nd, rfl⟩⟩; refine ⟨_, rfl, ?_⟩))
     first | go_meet | (refine Met.intro ?_; go_step; (repeat apply Exists.intro); refine ⟨?rel, ?eqq⟩; (case eqq => (try simp only [c9b0]); rfl))
     case rel => exact ⟨_, ((a0_1 != 0)), (by first | rfl | (simp; done) | (simp [*]; done)), H', ⟨by first | omega | exact Nat.le_refl _⟩, ⟨by (with_reducible repeat (first | refine blk_drewN ?_ _ | refine blk_drew ?_ | refine blk_alloc ?_ _)); exact BK305.out⟩, ⟨bel HB⟩⟩
    ·
     rw [if_neg c9] at H
     have c9b0 : (a0_0 == 3) = false := beq_eq_false_iff_ne.mpr c9
     have c9b1 : (a0_0 != 3) = true := bne_iff_ne.mpr c9
     (first | rw [c9b0] | (simp only [i64_w, i32_w]; rw [c9b0]) | skip)
     have H' := Aside0.mk H
     clear H
     have hz11 := cl3 BK305
     go_wp2_with (first | ((with_reducible refine gate_callee (f := 71) rfl ?_); refine goA (some 11) rfl rfl Try.func71 rfl #[.int .i64 a0_1] rfl ?_; (with_reducible refine (impl_isPeer.calls a0_1 true _ A7.out).mono ?_); rintro e w' ⟨rfl, ⟨nd, rfl⟩⟩; refine ⟨_, rfl, ?_⟩))
     first | go_meet | (refine Met.intro ?_; go_step; (repeat apply Exists.intro); refine ⟨?rel, ?eqq⟩; (case eqq => (try simp only [c9b0]); rfl))
     case rel => exact ⟨_, (false), (by first | rfl | (simp; done) | (simp [*]; done)), H', ⟨by first | omega | exact Nat.le_refl _⟩, ⟨by (with_reducible repeat (first | refine blk_drewN ?_ _ | refine blk_drew ?_ | refine blk_alloc ?_ _)); exact BK305.out⟩, ⟨bel HB⟩⟩
   ·
    replace c8 := Bool.eq_false_iff.mpr c8
    subst c8
    have H1 : (impl_EventFault.j0 k true a0_0 a0_1 l0_2) = some r := by rw [if_neg (show ¬ (false = true) by decide)] at H; first | done | exact H
    clear H
    have H := H1
    clear H1
    have H' := Aside0.mk H
    clear H
    have hz12 := cl3 BK305
    go_wp2_with (first | ((with_reducible refine gate_callee (f := 71) rfl ?_); refine goA (some 11) rfl rfl Try.func71 rfl #[.int .i64 a0_1] rfl ?_; (with_reducible refine (impl_isPeer.calls a0_1 false _ A7.out).mono ?_); rintro e w' ⟨rfl, ⟨nd, rfl⟩⟩; refine ⟨_, rfl, ?_⟩))
    go_meet
    case rel => exact ⟨_, (true), (by first | rfl | (simp; done) | (simp [*]; done)), H', ⟨by first | omega | exact Nat.le_refl _⟩, ⟨by (with_reducible repeat (first | refine blk_drewN ?_ _ | refine blk_drew ?_ | refine blk_alloc ?_ _)); exact BK305.out⟩, ⟨bel HB⟩⟩
  case rest =>
   clear HC4
   try clear p2
   try clear c3
   try clear c5
   try clear c7
   try clear c8
   try clear c9
   try clear c9b0
   try clear c9b1
   try clear hz10
   try clear hz11
   try clear hz12
   try clear hz6
   obtain ⟨kq, x8_3, rfl, HA, HJ3, BK305, HB⟩ := hcut
   cases kq with
   | zero => exact absurd HA.out (by simp [impl_EventFault.j0])
   | succ kj3 =>
    have H := HA.out
    clear HA
    simp only [impl_EventFault.j0] at H
    by_cases c13 : x8_3 = true
    ·
     subst c13
     have H1 : (some 3) = some r := by rw [if_pos rfl] at H; first | done | exact H
     clear H
     have H := H1
     clear H1
     obtain rfl := Option.some.inj H
     go_wp2
     go_ret
     exact ⟨by first | rfl | (simp [errW_none, errW_some] <;> rfl) | (simp [*, errW_none, errW_some] <;> rfl), bel HB⟩
    ·
     replace c13 := Bool.eq_false_iff.mpr c13
     subst c13
     have H1 : (if ((a0_0 == 2) != (decide ((l0_2.length : Int) > 0))) = true then (some 1) else (if (l0_2.length : Int) > 60 then (some 2) else (some 0))) = some r := by rw [if_neg (show ¬ (false = true) by decide)] at H; first | done | exact H
     clear H
     have H := H1
     clear H1
     by_cases c14 : ((a0_0 == 2) != (decide ((l0_2.length : Int) > 0))) = true
     ·
      rw [if_pos c14] at H
      have c14b0 : ((a0_0 == 2) != (decide ((l0_2.length : Int) > 0))) = true := c14
      (try (have c14b1 : (!((a0_0 == 2) == (decide (0 < l0_2.length)))) = true := by simpa using c14))
      (try (have c14b2 : ((a0_0 == 2) == (decide (0 < l0_2.length))) = false := by simpa using c14))
      (try (have c14b3 : decide ((a0_0 == 2) = (decide ((l0_2.length : Int) > 0))) = false := by simpa using c14))
      (try (have c14b4 : ((a0_0 == 2) == (decide ((l0_2.length : Int) > 0))) = false := by simpa using c14))
      (try (have c14b5 : ¬ ((a0_0 == 2) = (decide ((l0_2.length : Int) > 0))) := by simpa using c14))
      clear c14
      obtain rfl := Option.some.inj H
      have hz15 := cl3 BK305
      go_wp2
      go_ret
      exact ⟨by first | rfl | (simp [errW_none, errW_some] <;> rfl) | (simp [*, errW_none, errW_some] <;> rfl), bel HB⟩
     ·
      rw [if_neg c14] at H
      have c14b0 : ((a0_0 == 2) != (decide ((l0_2.length : Int) > 0))) = false := by simpa using c14
      (try (have c14b1 : (!((a0_0 == 2) == (decide (0 < l0_2.length)))) = false := by simpa using c14))
      (try (have c14b2 : ((a0_0 == 2) == (decide (0 < l0_2.length))) = true := by simpa using c14))
      (try (have c14b3 : decide ((a0_0 == 2) = (decide ((l0_2.length : Int) > 0))) = true := by simpa using c14))
      (try (have c14b4 : ((a0_0 == 2) == (decide ((l0_2.length : Int) > 0))) = true := by simpa using c14))
      clear c14
      by_cases c16 : (l0_2.length : Int) > 60
      ·
       rw [if_pos c16] at H
       have c16b0 : decide (60 < (l0_2.length : Int)) = true := decide_eq_true c16
       have c16b1 : decide (60 < l0_2.length) = true := decide_eq_true (by omega)
       clear c16
       obtain rfl := Option.some.inj H
       have hz17 := cl3 BK305
       go_wp2
       go_ret
       exact ⟨by first | rfl | (simp [errW_none, errW_some] <;> rfl) | (simp [*, errW_none, errW_some] <;> rfl), bel HB⟩
      ·
       rw [if_neg c16] at H
       have c16b0 : decide (60 < (l0_2.length : Int)) = false := decide_eq_false c16
       have c16b1 : decide (60 < l0_2.length) = false := decide_eq_false (by omega)
       clear c16
       obtain rfl := Option.some.inj H
       have hz18 := cl3 BK305
       go_wp2
       go_ret
       exact ⟨by first | rfl | (simp [errW_none, errW_some] <;> rfl) | (simp [*, errW_none, errW_some] <;> rfl), bel HB⟩
 ·
  replace c3 := Bool.eq_false_iff.mpr c3
  subst c3
  have H1 : (some 1) = some r := by rw [if_neg (show ¬ (false = true) by decide)] at H; first | done | exact H
  clear H
  have H := H1
  clear H1
  obtain rfl := Option.some.inj H
  go_enter Try.func58, Try.ntmps58
  go_wp2_with (first | ((with_reducible refine gate_dst (N := 1) rfl ?_); refine boxE #[.int .i64 a0_0, .int .i64 a0_1, .slice A0_2 l0_2.length c0_2] 49 (N := 1) rfl rfl ?_; intro gb305 hg w19 hbox hb; have BK305 := Aside0.mk hbox; have GW305 := gZ HB hg; have GE305 := gZ HB hg; replace HB := bS HB hb; clear hb hbox hg; have hz20 := cl3 BK305) | ((with_reducible refine gate_callee (f := 35) rfl ?_); refine goA (some 6) rfl rfl Try.func35 rfl #[.int .i64 a0_0, .int .i64 1, .int .i64 4] rfl ?_; (with_reducible refine (impl_in.calls a0_0 1 4 false _ A2.out).mono ?_); rintro e w' ⟨rfl, ⟨nd, rfl⟩⟩; refine ⟨_, rfl, ?_⟩))
  go_ret
  exact ⟨by first | rfl | (simp [errW_none, errW_some] <;> rfl) | (simp [*, errW_none, errW_some] <;> rfl), bel HB⟩

/-! ### impl_EntryFault: function 36 -/
def impl_EntryFault.f (k : Nat) (a0_0 : Int) (a0_1 : Int) (a0_2 : Int) (l0_3 : List Int) : Option (Int) := (impl_isEpoch.f a0_0).bind fun t309 => (if t309 = true then ((impl_EventFault.f k a0_1 a0_2 l0_3).bind fun t310 => (some t310)) else (some 3))
theorem impl_EntryFault.mono : ∀ a0 a1 a2 a3 k, LeO (impl_EntryFault.f k a0 a1 a2 a3) (impl_EntryFault.f (k + 1) a0 a1 a2 a3) := by
 intro a0 a1 a2 a3 k
 unfold impl_EntryFault.f
 repeat' first
   | (with_reducible exact impl_EventFault.mono _ _ _ _)
   | (with_reducible exact LeO.refl _)
   | (with_reducible exact LeO.none _)
   | (with_reducible refine LeO.ite ?_ ?_)
   | (with_reducible refine LeO.bind ?_ (fun _ => ?_))
   | exact impl_EventFault.mono _ _ _ _
   | exact LeO.none _
   | refine LeO.ite ?_ ?_
   | refine LeO.bind ?_ (fun _ => ?_)
set_option maxHeartbeats 8000000 in
set_option maxRecDepth 100000 in
theorem impl_EntryFault.calls (k : Nat) (a0_0 : Int) (a0_1 : Int) (a0_2 : Int) (A0_3 : Option Addr) (c0_3 : Nat) (l0_3 : List Int) (r : Int) (w : World) (hr0_3 : Kd.C (Kd.int .u8) w A0_3 l0_3.length l0_3) (hc0_3 : l0_3.length ≤ c0_3) (h : impl_EntryFault.f k a0_0 a0_1 a0_2 l0_3 = some r) :
  Calls Try.prog 36 #[.agg #[.int .i64 a0_0, .int .i64 a0_1, .int .i64 a0_2, .slice A0_3 l0_3.length c0_3]] w fun e w' => e = .returned (.int .i64 r) ∧ Below w.heap.size w w' := by
 have hu51 := Try.underlying51
 have hu49 := Try.underlying49
 have HR0_3 := Aside0.mk hr0_3
 have HC0_3 := Aside0.mk hc0_3
 clear hr0_3 hc0_3
 have HB := Aside0.mk (Below.refl w.heap.size w)
 have H : ((impl_isEpoch.f a0_0).bind fun t309 => (if t309 = true then ((impl_EventFault.f k a0_1 a0_2 l0_3).bind fun t310 => (some t310)) else (some 3))) = some r := h
 clear h
 replace H := Option.bind_eq_some_iff.mp H
 obtain ⟨t309, A20, H⟩ := H
 replace H : (if t309 = true then ((impl_EventFault.f k a0_1 a0_2 l0_3).bind fun t310 => (some t310)) else (some 3)) = some r := H
 have A2 := Aside0.mk A20
 clear A20
 by_cases c3 : t309 = true
 ·
  subst c3
  have H1 : ((impl_EventFault.f k a0_1 a0_2 l0_3).bind fun t310 => (some t310)) = some r := by rw [if_pos rfl] at H; first | done | exact H
  clear H
  have H := H1
  clear H1
  replace H := Option.bind_eq_some_iff.mp H
  obtain ⟨t310, A40, H⟩ := H
  replace H : (some t310) = some r := H
  have A4 := Aside0.mk A40
  clear A40
  obtain rfl := Option.some.inj H
  go_enter Try.func36, Try.ntmps36
  go_wp2_with (first | ((with_reducible refine gate_dst (N := 1) rfl ?_); refine boxE #[.int .i64 a0_0, .int .i64 a0_1, .int .i64 a0_2, .slice A0_3 l0_3.length c0_3] 51 (N := 1) rfl rfl ?_; intro gb308 hg w5 hbox hb; have BK308 := Aside0.mk hbox; have GW308 := gZ HB hg; have GE308 := gZ HB hg; replace HB := bS HB hb; clear hb hbox hg; have hz6 := cl4 BK308) | ((with_reducible refine gate_callee (f := 48) rfl ?_); refine goA (some 5) rfl rfl Try.func48 rfl #[.int .i64 a0_0] rfl ?_; (with_reducible refine (impl_isEpoch.calls a0_0 true _ A2.out).mono ?_); rintro e w' ⟨rfl, ⟨nd, rfl⟩⟩; refine ⟨_, rfl, ?_⟩) | ((with_reducible refine gate_callee (f := 58) rfl ?_); refine goA (some 9) rfl rfl Try.func58 rfl #[.agg #[.int .i64 a0_1, .int .i64 a0_2, .slice A0_3 l0_3.length c0_3]] rfl ?_; (with_reducible refine (impl_EventFault.calls k a0_1 a0_2 _ _ l0_3 t310 _ ?side1 ?side2 A4.out).mono ?_); (case side1 => repeat (first | exact (Kd.C_below HR0_3.out (bel HB)) | (with_reducible refine Kd.C_alloc ?_ _) | (with_reducible refine Kd.C_drewN ?_ _) | (with_reducible refine Kd.C_drew ?_))); (case side2 => exact HC0_3.out); rintro e w7 ⟨rfl, hb⟩; refine ⟨_, rfl, ?_⟩; replace BK308 := bK BK308 hb; replace HB := bS HB hb; (try clear hb); (try clear hb2); (try clear hk); (try clear hi)))
  go_ret
  exact ⟨by first | rfl | (simp [errW_none, errW_some] <;> rfl) | (simp [*, errW_none, errW_some] <;> rfl), bel HB⟩
 ·
  replace c3 := Bool.eq_false_iff.mpr c3
  subst c3
  have H1 : (some 3) = some r := by rw [if_neg (show ¬ (false = true) by decide)] at H; first | done | exact H
  clear H
  have H := H1
  clear H1
  obtain rfl := Option.some.inj H
  go_enter Try.func36, Try.ntmps36
  go_wp2_with (first | ((with_reducible refine gate_dst (N := 1) rfl ?_); refine boxE #[.int .i64 a0_0, .int .i64 a0_1, .int .i64 a0_2, .slice A0_3 l0_3.length c0_3] 51 (N := 1) rfl rfl ?_; intro gb308 hg w8 hbox hb; have BK308 := Aside0.mk hbox; have GW308 := gZ HB hg; have GE308 := gZ HB hg; replace HB := bS HB hb; clear hb hbox hg; have hz9 := cl4 BK308) | ((with_reducible refine gate_callee (f := 48) rfl ?_); refine goA (some 5) rfl rfl Try.func48 rfl #[.int .i64 a0_0] rfl ?_; (with_reducible refine (impl_isEpoch.calls a0_0 false _ A2.out).mono ?_); rintro e w' ⟨rfl, ⟨nd, rfl⟩⟩; refine ⟨_, rfl, ?_⟩))
  go_ret
  exact ⟨by first | rfl | (simp [errW_none, errW_some] <;> rfl) | (simp [*, errW_none, errW_some] <;> rfl), bel HB⟩

/-! ### impl_Entry_37: function 37 -/
def impl_Entry_37.f (l0 : List (S51)) : Option (Int) := some (l0.length : Int)
set_option maxHeartbeats 8000000 in
set_option maxRecDepth 100000 in
theorem impl_Entry_37.calls (A0 : Option Addr) (c0 : Nat) (l0 : List (S51)) (r : Int) (w : World) (hr0 : Kd.C k51 w A0 l0.length l0) (hc0 : l0.length ≤ c0) (h : impl_Entry_37.f l0 = some r) :
  Calls Try.prog 37 #[.slice A0 l0.length c0] w fun e w' => e = .returned (.int .i64 r) ∧ Drawn0 w w' := by
 have HR0 := Aside0.mk hr0
 have HC0 := Aside0.mk hc0
 clear hr0 hc0
 have H : (some (l0.length : Int)) = some r := h
 clear h
 obtain rfl := Option.some.inj H
 go_enter Try.func37, Try.ntmps37
 go_wp2
 go_ret
 exact ⟨by first | rfl | (simp; done) | (simp [*]; done), drw⟩

end Go.Proofs.Ytgfoifkkffffgaa.PFnExactRiseNode
