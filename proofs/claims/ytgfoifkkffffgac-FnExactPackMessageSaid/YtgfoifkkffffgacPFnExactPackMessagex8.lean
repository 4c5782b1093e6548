-- Laid by a turned copy of the printer (wip/tools/patch_print.py)
import Derived.Test.YtgfoifkkffffgacPFnExactPackMessagex0
import Derived.Test.YtgfoifkkffffgacPFnExactPackMessagex6
namespace Go.Proofs.Ytgfoifkkffffgac.PFnExactPackMessage
open Go.RowKit Go.Proofs.YtgfoifkkffffgacW.PrintWords Go.Proofs.YtgfoifkkffffgacW.PrintLast Go.Proofs.YtgfoifkkffffgacW.PrintMore
attribute [local go_sem] max2_int min2_int max_two min_two max_three min_three max_four min_four   -- for this text's walks alone
set_option linter.unusedVariables false
set_option linter.unusedSimpArgs false

/-! ### spec_l1Pack: function 107 -/
def spec_l1Pack.f (k : Nat) (a0_0 : Int) (l0_1 : List Int) : Option (List Int) := (some (([255, 255] : List Int) : List Int)).bind fun y217 => ((spec_l1Bytes.f k (wrap64 ((l0_1.length : Int) + 5)) 2).bind fun t220 => (if y217.length + t220.length < 140737488355328 then ((some (y217 ++ t220 : List Int)).bind fun y223 => (if y223.length < 140737488355328 then ((some (y223 ++ [(a0_0) % 256] : List Int)).bind fun y226 => (if y226.length + l0_1.length < 140737488355328 then (some (y226 ++ l0_1)) else (none))) else (none))) else (none)))
theorem spec_l1Pack.mono : ∀ a0 a1 k, LeO (spec_l1Pack.f k a0 a1) (spec_l1Pack.f (k + 1) a0 a1) := by
 intro a0 a1 k
 unfold spec_l1Pack.f
 repeat' first
   | (with_reducible exact spec_l1Bytes.mono _ _ _)
   | (with_reducible exact LeO.refl _)
   | (with_reducible exact LeO.none _)
   | (with_reducible refine LeO.ite ?_ ?_)
   | (with_reducible refine LeO.bind ?_ (fun _ => ?_))
   | exact spec_l1Bytes.mono _ _ _
   | exact LeO.none _
   | refine LeO.ite ?_ ?_
   | refine LeO.bind ?_ (fun _ => ?_)
def spec_l1Pack.T2 : Bool × List (List Nat × List Nat) := (true, [([], []), ([], []), ([1], [1]), ([2], [2]), ([3], [3]), ([0, 4], [0, 4]), ([], []), ([6], [6]), ([5, 7, 5], [5, 7]), ([8, 8, 0, 1, 2, 3, 4, 5, 6, 7, 8], [8])])
def spec_l1Pack.B2 : List Nat := [0, 0, 2, 6, 14, 31, 0, 64, 255, 511]
theorem spec_l1Pack.tab2 : rtab .any (opsOf Try.f107 2) = spec_l1Pack.T2 := by kernel_rfl
theorem spec_l1Pack.bits2 : waitsOk spec_l1Pack.T2.2 spec_l1Pack.B2 = true := by kernel_rfl
set_option maxHeartbeats 8000000 in
set_option maxRecDepth 100000 in
theorem spec_l1Pack.calls (k : Nat) (a0_0 : Int) (A0_1 : Option Addr) (c0_1 : Nat) (l0_1 : List Int) (r : List Int) (w : World) (hr0_1 : Kd.C (Kd.int .u8) w A0_1 l0_1.length l0_1) (hc0_1 : l0_1.length ≤ c0_1) (h : spec_l1Pack.f k a0_0 l0_1 = some r) :
  Calls Try.prog 107 #[.agg #[.int .i64 a0_0, .slice A0_1 l0_1.length c0_1]] w fun e w' => ∃ v0_ : Value, e = .returned (v0_) ∧ Kd.R (Kd.int .u8) 5 w' w.heap.size (fun _ => True) v0_ r ∧ Below w.heap.size w w' := by
 have hu66 := Try.underlying66
 have HR0_1 := Aside0.mk hr0_1
 have HC0_1 := Aside0.mk hc0_1
 clear hr0_1 hc0_1
 have HB := Aside0.mk (Below.refl w.heap.size w)
 have H : ((some (([255, 255] : List Int) : List Int)).bind fun y217 => ((spec_l1Bytes.f k (wrap64 ((l0_1.length : Int) + 5)) 2).bind fun t220 => (if y217.length + t220.length < 140737488355328 then ((some (y217 ++ t220 : List Int)).bind fun y223 => (if y223.length < 140737488355328 then ((some (y223 ++ [(a0_0) % 256] : List Int)).bind fun y226 => (if y226.length + l0_1.length < 140737488355328 then (some (y226 ++ l0_1)) else (none))) else (none))) else (none)))) = some r := h
 clear h
 obtain ⟨y217, hy217⟩ : ∃ y_ : List Int, y_ = (([255, 255] : List Int)) := ⟨_, rfl⟩
 replace H : ((spec_l1Bytes.f k (wrap64 ((l0_1.length : Int) + 5)) 2).bind fun t220 => (if y217.length + t220.length < 140737488355328 then ((some (y217 ++ t220 : List Int)).bind fun y223 => (if y223.length < 140737488355328 then ((some (y223 ++ [(a0_0) % 256] : List Int)).bind fun y226 => (if y226.length + l0_1.length < 140737488355328 then (some (y226 ++ l0_1)) else (none))) else (none))) else (none))) = some r := by first | (rw [hy217]; with_reducible exact H) | (have H2_ := (Option.bind_some _ _).symm.trans H; rw [hy217]; with_reducible exact H2_) | (have H2_ := (Option.bind_some _ _).symm.trans H; with_reducible exact H2_) | with_reducible exact H | (rw [hy217]; exact H) | exact H
 have Ny217 := Aside0.mk hy217
 clear hy217
 replace H := Option.bind_eq_some_iff.mp H
 obtain ⟨t220, A20, H⟩ := H
 replace H : (if y217.length + t220.length < 140737488355328 then ((some (y217 ++ t220 : List Int)).bind fun y223 => (if y223.length < 140737488355328 then ((some (y223 ++ [(a0_0) % 256] : List Int)).bind fun y226 => (if y226.length + l0_1.length < 140737488355328 then (some (y226 ++ l0_1)) else (none))) else (none))) else (none)) = some r := H
 have A2 := Aside0.mk A20
 clear A20
 by_cases c3 : y217.length + t220.length < 140737488355328
 ·
  rw [if_pos c3] at H
  have LMc3 := Aside0.mk c3
  clear c3
  obtain ⟨y223, hy223⟩ : ∃ y_ : List Int, y_ = (y217 ++ t220) := ⟨_, rfl⟩
  replace H : (if y223.length < 140737488355328 then ((some (y223 ++ [(a0_0) % 256] : List Int)).bind fun y226 => (if y226.length + l0_1.length < 140737488355328 then (some (y226 ++ l0_1)) else (none))) else (none)) = some r := by first | (rw [hy223]; with_reducible exact H) | (have H2_ := (Option.bind_some _ _).symm.trans H; rw [hy223]; with_reducible exact H2_) | (have H2_ := (Option.bind_some _ _).symm.trans H; with_reducible exact H2_) | with_reducible exact H | (rw [hy223]; exact H) | exact H
  have Ny223 := Aside0.mk hy223
  clear hy223
  by_cases c4 : y223.length < 140737488355328
  ·
   rw [if_pos c4] at H
   have LMc4 := Aside0.mk c4
   clear c4
   obtain ⟨y226, hy226⟩ : ∃ y_ : List Int, y_ = (y223 ++ [(a0_0) % 256]) := ⟨_, rfl⟩
   replace H : (if y226.length + l0_1.length < 140737488355328 then (some (y226 ++ l0_1)) else (none)) = some r := by first | (rw [hy226]; with_reducible exact H) | (have H2_ := (Option.bind_some _ _).symm.trans H; rw [hy226]; with_reducible exact H2_) | (have H2_ := (Option.bind_some _ _).symm.trans H; with_reducible exact H2_) | with_reducible exact H | (rw [hy226]; exact H) | exact H
   have Ny226 := Aside0.mk hy226
   clear hy226
   by_cases c5 : y226.length + l0_1.length < 140737488355328
   ·
    rw [if_pos c5] at H
    have LMc5 := Aside0.mk c5
    clear c5
    obtain ⟨y229, hy229⟩ : ∃ y_ : List Int, y_ = (y226 ++ l0_1) := ⟨_, rfl⟩
    replace H : (some y229) = some r := by first | (rw [hy229]; with_reducible exact H) | (have H2_ := (Option.bind_some _ _).symm.trans H; rw [hy229]; with_reducible exact H2_) | (have H2_ := (Option.bind_some _ _).symm.trans H; with_reducible exact H2_) | with_reducible exact H | (rw [hy229]; exact H) | exact H
    have Ny229 := Aside0.mk hy229
    clear hy229
    obtain rfl := Option.some.inj H
    go_enter Try.func107, Try.ntmps107
    try go_wp2_with (first | ((with_reducible refine gate_dst (N := 1) rfl ?_); refine boxE #[.int .i64 a0_0, .slice A0_1 l0_1.length c0_1] 66 (N := 1) rfl rfl ?_; intro gb216 hg w6 hbox hb; have BK216 := Aside0.mk hbox; have GW216 := gZ HB hg; have GE216 := gZ HB hg; replace HB := bS HB hb; clear hb hbox hg) | ((with_reducible refine gate_dst (N := 4) rfl ?_); refine Kd.R_lit (Kd.int .u8) _ 5 ?hg (N := 4) ?hd (xs := ([255, 255] : List Int)) (inner := [.int .u8 255, .int .u8 255]) (ok := fun _ => True) (okp := fun _ => True) ?hr ?hp (fun _ hk => hk) trivial (Below.refl _ _) (Nat.le_refl _) (by simp) ?_; (case hd => rfl); (case hg => rfl); (case hr => first | (go_simp; done) | (go_simp; rfl)); (case hp => exact (Reps.one (show Kd.M (Kd.int .u8) _ _ _ 255 [.int .u8 255] from rfl) (Reps.one (show Kd.M (Kd.int .u8) _ _ _ 255 [.int .u8 255] from rfl) (Reps.none _ _)))); intro v218 w7 ho8 hb hg_ hnew_; clear hg_ hnew_; (first | rw [← Ny217.out] at ho8 | (simp only [Int.reduceToNat] at ho8; rw [← Ny217.out] at ho8)); have HO219 := Aside0.mk (Kd.R_lower ho8 (below_size (bel HB))); replace BK216 := bK BK216 hb; replace HB := bS HB hb; clear hb ho8; have hz9 := cl2 BK216) | ((with_reducible refine gate_callee (f := 106) rfl ?_); refine goA (some 9) rfl rfl Try.func106 rfl #[.int .i64 (wrap64 ((l0_1.length : Int) + 5)), .int .i64 2] rfl ?_; (with_reducible refine (spec_l1Bytes.calls k (wrap64 ((l0_1.length : Int) + 5)) 2 t220 _ A2.out).mono ?_); rintro e w10 ⟨v221, rfl, ho0, hb⟩; refine ⟨_, rfl, ?_⟩; have HO222 := Aside0.mk (Kd.R_lower (Kd.R_new' ho0 (Kd.R_lt (mR HO219))) (below_size (bel HB))); replace HO219 := Aside0.mk (Kd.R_elder' (mR HO219) (Kd.R_base ho0) hb); replace BK216 := bK BK216 hb; replace HB := bS HB hb; (try clear hb); (try clear hb2); (try clear hk); (try clear hi); (try clear ho0); obtain ⟨Ao12, co12, eo12⟩ := Kd.R_slice HO222.out; subst eo12) | ((with_reducible refine gate_builtin (b := .append) (xs := #[.tmp 4, .tmp 9]) rfl ?_); at_builtin; refine Kd.R_append_rows (Kd.int .u8) (w0 := w) w.heap.size rfl (.tmp 4) (.tmp 9) 31 5 (.int .u8 0) 1 rfl Try.underlying31 info5 rfl (by decide) (by omega) v218 y217 t220 _ _ _ (fun k_ => some k_ ≠ (.slice Ao12 t220.length co12 : Value).ownBlock) (fun _ => False) rfl rfl ?aO ?aR (fun _ _ h => h) (fun _ h => h.elim) ?aF ?aB ?aS ?aL ?_; (case aR => repeat (first | exact (Kd.R_reads' HO222.out).2.2 | (with_reducible refine Kd.C_alloc ?_ _) | (with_reducible refine Kd.C_drewN ?_ _) | (with_reducible refine Kd.C_drew ?_))); (case aB => exact (bel HB)); (case aF => exact (fun k_ hk => Kd.fresh' (Kd.R_lt (mR HO222)) k_ hk)); (case aO => exact (by (with_reducible repeat (first | apply Kd.R_alloc | apply Kd.R_drewN | apply Kd.R_drew)); exact Kd.R_mono HO219.out (fun _ hk => hk.2))); (case aS => exact (below_size (bel HB))); (case aL => have := LMc3.out; omega); intro v224 w11 ho hb hg hat; rw [← Ny223.out] at ho; replace BK216 := Aside0.mk (blk_grown (g := gb216) (o := .cells #[.int .i64 a0_0, .slice A0_1 l0_1.length c0_1] 66 (0, 0)) (mB BK216) hg (Kd.R_ne HO219.out BK216.out (by decide))); replace HO222 := Aside0.mk (Kd.R_after (ok := (fun _ => True)) (mR HO222) hg hat); replace HB := Aside0.mk hb; have HO225 := Aside0.mk ho; clear HO219; clear ho hb hg hat))
    have n0_ := Aside0.mk (Kd.R_drew HO222.out)
    have n1_ := Aside0.mk (Kd.R_drew HO225.out)
    have n2_ := Aside0.mk (blk_drew BK216.out)
    have n3_ := Aside0.mk (below_drew1 HB.out)
    clear HO222
    clear HO225
    clear BK216
    clear HB
    have HO222 := n0_
    have HO225 := n1_
    have BK216 := n2_
    have HB := n3_
    clear n0_ n1_ n2_ n3_
    refine start_ (n := 10) (S := fun w' => w'.cell? ⟨gb216, 0, none⟩ = some (.int .i64 a0_0) ∧ w'.cell? ⟨gb216, 1, none⟩ = some (.slice A0_1 l0_1.length c0_1)) (ds := []) #[false, false, false, false, false, false, false, false, false, false] (by kernel_rfl) rfl rfl ⟨(blk_cell BK216.out 0).trans rfl, (blk_cell BK216.out 1).trans rfl⟩ (fun hHeld => ?_); refine with_tabW spec_l1Pack.tab2 spec_l1Pack.bits2 (fun HT_ HW_ => ?_)
    generalize w11.drew = w13 at HO222 HO225 BK216 HB hHeld ⊢
    refine pure_ (i := 0) (N := some 11) (v := ?_) (a' := ?_) #[true, false, false, false, false, false, false, false, false, false] rfl rfl (any_of HT_.out (by kernel_rfl)) (fun _ _ _ h => h) (Or.inl ⟨by rfl, ?_⟩) ?_ ?_
    rotate_left
    ·
     intro w'
     go_simp
     with_reducible rfl
    rotate_left
    ·
     simp only [Act.put, List.setIfInBounds_toArray, List.set_cons_zero, List.set_cons_succ, i64_w, i32_w]
     rfl
    refine pure_ (i := 1) (N := some 12) (v := ?_) (a' := ?_) #[true, true, false, false, false, false, false, false, false, false] rfl rfl (any_of HT_.out (by kernel_rfl)) (fun _ _ _ h => h) (Or.inl ⟨by rfl, ?_⟩) ?_ ?_
    rotate_left
    ·
     intro w'
     go_simp
     with_reducible rfl
    rotate_left
    ·
     simp only [Act.put, List.setIfInBounds_toArray, List.set_cons_zero, List.set_cons_succ, i64_w, i32_w]
     rfl
    refine pure_ (i := 6) (N := some 17) (v := ?_) (a' := ?_) #[true, true, false, false, false, false, true, false, false, false] rfl rfl (any_of HT_.out (by kernel_rfl)) (fun _ _ _ h => h) (Or.inl ⟨by rfl, ?_⟩) ?_ ?_
    rotate_left
    ·
     intro w'
     go_simp
     with_reducible rfl
    rotate_left
    ·
     simp only [Act.put, List.setIfInBounds_toArray, List.set_cons_zero, List.set_cons_succ, i64_w, i32_w]
     rfl
    refine take_ (i := 2) (N := some 13) (v := ?_) (a' := ?_) #[true, true, true, false, false, false, true, false, false, false] rfl rfl (take_ofW HT_.out HW_.out (by kernel_rfl)) (fun _ _ _ h => h) (Or.inl ⟨by rfl, ?_⟩) hHeld ?_ ?_
    rotate_left
    ·
     rintro w' ⟨s0, s1⟩
     go_simp
     with_reducible rfl
    rotate_left
    ·
     simp only [Act.put, List.setIfInBounds_toArray, List.set_cons_zero, List.set_cons_succ, i64_w, i32_w]
     rfl
    refine pure_ (i := 3) (N := some 14) (v := ?_) (a' := ?_) #[true, true, true, true, false, false, true, false, false, false] rfl rfl (any_of HT_.out (by kernel_rfl)) (fun _ _ _ h => h) (Or.inl ⟨by rfl, ?_⟩) ?_ ?_
    rotate_left
    ·
     intro w'
     go_simp
     with_reducible rfl
    rotate_left
    ·
     simp only [Act.put, List.setIfInBounds_toArray, List.set_cons_zero, List.set_cons_succ, i64_w, i32_w]
     rfl
    refine take_ (i := 7) (N := some 18) (v := ?_) (a' := ?_) #[true, true, true, true, false, false, true, true, false, false] rfl rfl (take_ofW HT_.out HW_.out (by kernel_rfl)) (fun _ _ _ h => h) (Or.inl ⟨by rfl, ?_⟩) hHeld ?_ ?_
    rotate_left
    ·
     rintro w' ⟨s0, s1⟩
     go_simp
     with_reducible rfl
    rotate_left
    ·
     simp only [Act.put, List.setIfInBounds_toArray, List.set_cons_zero, List.set_cons_succ, i64_w, i32_w]
     rfl
    refine one_ (i := 4) (N := some 15) #[true, true, true, true, true, false, true, true, false, false] rfl rfl (one_of HT_.out (by kernel_rfl)) (by decide) (fun K hK => ?_)
    refine value_ (w1 := ?_) (v := ?_) (by rfl) rfl ?_ ?_
    rotate_left 2
    ·
     go_simp
     constructor
     ·
      rfl
     ·
      rfl
    refine hK.out _ _ ⟨(blk_cell (blk_alloc BK216.out _) 0).trans rfl, (blk_cell (blk_alloc BK216.out _) 1).trans rfl⟩ (fun hHeld => ?_)
    clear hK K
    refine norm_ (a' := ?_) ?_ ?_
    rotate_left
    ·
     show Act.put _ (some 15) _ = _
     simp only [Act.put, List.setIfInBounds_toArray, List.set_cons_zero, List.set_cons_succ, i64_w, i32_w]
     rfl
    refine one_ (i := 5) (N := some 16) #[true, true, true, true, true, true, true, true, false, false] rfl rfl (one_of HT_.out (by kernel_rfl)) (by decide) (fun K hK => ?_)
    refine Kd.R_append_step (Kd.int .u8) (w0 := w) w.heap.size (by rfl) (.tmp 11) (.tmp 15) 31 5 (.int .u8 0) 1 rfl Try.underlying31 info5 rfl (by decide) (by omega) v224 y223 ((a0_0) % 256) [.int .u8 ((a0_0) % 256)] (fun k_ => some k_ ≠ (.slice Ao12 t220.length co12 : Value).ownBlock) (fun _ => False) rfl rfl ?aP (fun _ hk => hk.elim) ?aF ?aO ?aB ?aS ?aL ?_
    (case aP => exact rfl)
    (case aB => exact (bel HB))
    (case aF => exact (fun k_ hk => Kd.fresh' (Kd.R_lt (mR HO222)) k_ hk))
    (case aO => exact (mR HO225))
    (case aS => exact (below_size (bel HB)))
    (case aL => have := LMc4.out; omega)
    intro v227 w14 ho hb hg hat
    rw [← Ny226.out] at ho
    have n0_ := Aside0.mk (blk_grown (g := gb216) (o := .cells #[.int .i64 a0_0, .slice A0_1 l0_1.length c0_1] 66 (0, 0)) (mB BK216) hg (Kd.R_ne HO225.out BK216.out (by decide)))
    have n1_ := Aside0.mk (Kd.R_after (ok := (fun _ => True)) (mR HO222) hg hat)
    have n2_ := Aside0.mk (hb)
    have n3_ := Aside0.mk (ho)
    clear BK216
    clear HO222
    clear HB
    clear HO225
    have BK216 := n0_
    have HO222 := n1_
    have HB := n2_
    have HO228 := n3_
    clear n0_ n1_ n2_ n3_
    clear ho hb hg hat
    refine hK.out _ _ (ce2 BK216) (fun hHeld => ?_)
    clear hK K
    refine norm_ (a' := ?_) ?_ ?_
    rotate_left
    ·
     show Act.put _ (some 16) _ = _
     simp only [Act.put, List.setIfInBounds_toArray, List.set_cons_zero, List.set_cons_succ, i64_w, i32_w]
     rfl
    refine one_ (i := 8) (N := some 19) #[true, true, true, true, true, true, true, true, true, false] rfl rfl (one_of HT_.out (by kernel_rfl)) (by decide) (fun K hK => ?_)
    refine Kd.R_append_rows_step (Kd.int .u8) (w0 := w) w.heap.size (by rfl) (.tmp 16) (.tmp 18) 31 5 (.int .u8 0) 1 rfl Try.underlying31 info5 rfl (by decide) (by omega) v227 y226 l0_1 _ _ _ (fun k_ => some k_ ≠ (.slice Ao12 t220.length co12 : Value).ownBlock) (fun _ => False) rfl rfl ?aO ?aR (fun _ _ h => h) (fun _ h => h.elim) ?aF ?aB ?aS ?aL ?_
    (case aR => repeat (first | exact (Kd.C_below HR0_1.out HB.out) | (with_reducible refine Kd.C_alloc ?_ _) | (with_reducible refine Kd.C_drewN ?_ _) | (with_reducible refine Kd.C_drew ?_)))
    (case aB => exact (bel HB))
    (case aF => exact (fun k_ hk => Kd.fresh' (Kd.R_lt (mR HO222)) k_ hk))
    (case aO => exact (mR HO228))
    (case aS => exact (below_size (bel HB)))
    (case aL => have := LMc5.out; omega)
    intro v230 w15 ho hb hg hat
    rw [← Ny229.out] at ho
    have n0_ := Aside0.mk (blk_grown (g := gb216) (o := .cells #[.int .i64 a0_0, .slice A0_1 l0_1.length c0_1] 66 (0, 0)) (mB BK216) hg (Kd.R_ne HO228.out BK216.out (by decide)))
    have n1_ := Aside0.mk (Kd.R_after (ok := (fun _ => True)) (mR HO222) hg hat)
    have n2_ := Aside0.mk (hb)
    have n3_ := Aside0.mk (ho)
    clear BK216
    clear HO222
    clear HB
    clear HO228
    have BK216 := n0_
    have HO222 := n1_
    have HB := n2_
    have HO231 := n3_
    clear n0_ n1_ n2_ n3_
    clear ho hb hg hat
    refine hK.out _ _ (ce2 BK216) (fun hHeld => ?_)
    clear hK K
    refine norm_ (a' := ?_) ?_ ?_
    rotate_left
    ·
     show Act.put _ (some 19) _ = _
     simp only [Act.put, List.setIfInBounds_toArray, List.set_cons_zero, List.set_cons_succ, i64_w, i32_w]
     rfl
    refine pure_ (i := 9) (N := some 2) (v := ?_) (a' := ?_) #[true, true, true, true, true, true, true, true, true, true] rfl rfl (any_of HT_.out (by kernel_rfl)) (fun _ _ _ h => h) (Or.inl ⟨by rfl, ?_⟩) ?_ ?_
    rotate_left
    ·
     intro w'
     go_simp
     with_reducible rfl
    rotate_left
    ·
     simp only [Act.put, List.setIfInBounds_toArray, List.set_cons_zero, List.set_cons_succ, i64_w, i32_w]
     rfl
    refine done_ (done_of HT_.out (by kernel_rfl)) ?_
    try go_wp2
    go_ret
    exact ⟨_, by first | rfl | (simp [errW_none, errW_some] <;> rfl) | (simp [*, errW_none, errW_some] <;> rfl), by (with_reducible repeat (first | apply Kd.R_alloc | apply Kd.R_drewN | apply Kd.R_drew)); exact Kd.R_mono HO231.out (fun _ hk => trivial), bel HB⟩
   ·
    rw [if_neg c5] at H
    exact absurd H (by simp)
  ·
   rw [if_neg c4] at H
   exact absurd H (by simp)
 ·
  rw [if_neg c3] at H
  exact absurd H (by simp)

end Go.Proofs.Ytgfoifkkffffgac.PFnExactPackMessage
