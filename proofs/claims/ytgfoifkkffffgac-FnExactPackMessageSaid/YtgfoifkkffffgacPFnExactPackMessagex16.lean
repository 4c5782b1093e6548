-- Laid by a turned copy of the printer (wip/tools/patch_print.py)
import Derived.Test.YtgfoifkkffffgacPFnExactPackMessagex0
import Derived.Test.YtgfoifkkffffgacPFnExactPackMessagex14
import Derived.Test.YtgfoifkkffffgacPFnExactPackMessagex15
namespace Go.Proofs.Ytgfoifkkffffgac.PFnExactPackMessage
open Go.RowKit Go.Proofs.YtgfoifkkffffgacW.PrintWords Go.Proofs.YtgfoifkkffffgacW.PrintLast Go.Proofs.YtgfoifkkffffgacW.PrintMore
attribute [local go_sem] max2_int min2_int max_two min_two max_three min_three max_four min_four   -- for this text's walks alone
set_option linter.unusedVariables false
set_option linter.unusedSimpArgs false

/-! ### impl_packUpdate: function 72 -/
def impl_packUpdate.l0 : Nat → List Int → List Int → Int → Int → List (S91) → Bool → Int → List Int → Int → Int → Int → List (S91) → Option (List Int)
 | 0, _, _, _, _, _, _, _, _, _, _, _, _ => none
 | k + 1, x3, x28, x29, x30, x436000, x436001, x436002, x436003, x436004, x436005, x436006, x436007 => if x30 < x29 then (if 0 ≤ x30 then (if x30 < (x28.length : Int) then ((impl_putTwo.f x3 (rd x28 x30)).bind fun t446 => (impl_packUpdate.l0 k t446 x28 x29 (wrap64 (x30 + 1)) x436000 x436001 x436002 x436003 x436004 x436005 x436006 x436007)) else (none)) else (none)) else (if x3.length < 140737488355328 then ((impl_putTwo.f (x3 ++ [(x436002) % 256]) x436004).bind fun t452 => ((impl_putTwo.f t452 x436005).bind fun t455 => ((impl_putTwo.f t455 x436006).bind fun t458 => ((impl_putPrefixes.f k t458 x436007).bind fun t461 => (some t461))))) else (none))
def impl_packUpdate.f (k : Nat) (l0_0 : List (S91)) (a0_1 : Bool) (a0_2 : Int) (l0_3 : List Int) (a0_4 : Int) (a0_5 : Int) (a0_6 : Int) (l0_7 : List (S91)) : Option (List Int) := (impl_putPrefixes.f k (([((l0_0.length : Int)) % 256] : List Int)) l0_0).bind fun t439 => (if a0_1 = true then (if t439.length < 140737488355328 then (impl_packUpdate.l0 k (t439 ++ [((l0_3.length : Int)) % 256]) l0_3 (l0_3.length : Int) 0 l0_0 a0_1 a0_2 l0_3 a0_4 a0_5 a0_6 l0_7) else (none)) else (some t439))
theorem impl_packUpdate.mono_l : ∀ k, (∀ y0 y1 y2 y3 y4 y5 y6 y7 y8 y9 y10 y11, LeO (impl_packUpdate.l0 k y0 y1 y2 y3 y4 y5 y6 y7 y8 y9 y10 y11) (impl_packUpdate.l0 (k + 1) y0 y1 y2 y3 y4 y5 y6 y7 y8 y9 y10 y11))
 | 0 => fun _ _ _ _ _ _ _ _ _ _ _ _ r h => by simp [impl_packUpdate.l0] at h
 | k + 1 => by
  have ih0 := impl_packUpdate.mono_l k
  ·
   intro y0 y1 y2 y3 y4 y5 y6 y7 y8 y9 y10 y11
   unfold impl_packUpdate.l0
   repeat' first
   | (with_reducible exact ih0 _ _ _ _ _ _ _ _ _ _ _ _)
   | (with_reducible exact impl_putPrefixes.mono _ _ _)
   | (with_reducible exact LeO.refl _)
   | (with_reducible exact LeO.none _)
   | (with_reducible refine LeO.ite ?_ ?_)
   | (with_reducible refine LeO.bind ?_ (fun _ => ?_))
   | exact ih0 _ _ _ _ _ _ _ _ _ _ _ _
   | exact impl_putPrefixes.mono _ _ _
   | exact LeO.none _
   | refine LeO.ite ?_ ?_
   | refine LeO.bind ?_ (fun _ => ?_)
theorem impl_packUpdate.mono : ∀ a0 a1 a2 a3 a4 a5 a6 a7 k, LeO (impl_packUpdate.f k a0 a1 a2 a3 a4 a5 a6 a7) (impl_packUpdate.f (k + 1) a0 a1 a2 a3 a4 a5 a6 a7) := by
 intro a0 a1 a2 a3 a4 a5 a6 a7 k
 have ih0 := impl_packUpdate.mono_l k
 unfold impl_packUpdate.f
 repeat' first
   | (with_reducible exact ih0 _ _ _ _ _ _ _ _ _ _ _ _)
   | (with_reducible exact impl_putPrefixes.mono _ _ _)
   | (with_reducible exact LeO.refl _)
   | (with_reducible exact LeO.none _)
   | (with_reducible refine LeO.ite ?_ ?_)
   | (with_reducible refine LeO.bind ?_ (fun _ => ?_))
   | exact ih0 _ _ _ _ _ _ _ _ _ _ _ _
   | exact impl_putPrefixes.mono _ _ _
   | exact LeO.none _
   | refine LeO.ite ?_ ?_
   | refine LeO.bind ?_ (fun _ => ?_)
def impl_packUpdate.T11 : Bool × List (List Nat × List Nat) := (true, [([], []), ([], []), ([1], [1]), ([2], [2]), ([0, 3], [0, 3]), ([], []), ([5], [5]), ([6], [6]), ([4, 7, 4], [4, 7]), ([], []), ([9], [9]), ([10], [10]), ([8, 11, 8], [8, 11]), ([12, 12, 0, 1, 2, 3, 4, 5, 6, 7, 8, 9, 10, 11, 12], [0, 12])])
def impl_packUpdate.B11 : List Nat := [0, 0, 2, 6, 15, 0, 32, 96, 255, 0, 512, 1536, 4095, 8191]
theorem impl_packUpdate.tab11 : rtab .any (opsOf Try.f72 11) = impl_packUpdate.T11 := by kernel_rfl
theorem impl_packUpdate.bits11 : waitsOk impl_packUpdate.T11.2 impl_packUpdate.B11 = true := by kernel_rfl
set_option maxHeartbeats 8000000 in
set_option maxRecDepth 100000 in
theorem impl_packUpdate.calls (k : Nat) (A0_0 : Option Addr) (c0_0 : Nat) (l0_0 : List (S91)) (a0_1 : Bool) (a0_2 : Int) (A0_3 : Option Addr) (c0_3 : Nat) (l0_3 : List Int) (a0_4 : Int) (a0_5 : Int) (a0_6 : Int) (A0_7 : Option Addr) (c0_7 : Nat) (l0_7 : List (S91)) (r : List Int) (w : World) (hr0_0 : Kd.C k91 w A0_0 l0_0.length l0_0) (hc0_0 : l0_0.length ≤ c0_0) (hr0_3 : Kd.C (Kd.int .i64) w A0_3 l0_3.length l0_3) (hc0_3 : l0_3.length ≤ c0_3) (hr0_7 : Kd.C k91 w A0_7 l0_7.length l0_7) (hc0_7 : l0_7.length ≤ c0_7) (h : impl_packUpdate.f k l0_0 a0_1 a0_2 l0_3 a0_4 a0_5 a0_6 l0_7 = some r) :
  Calls Try.prog 72 #[.agg #[.slice A0_0 l0_0.length c0_0, .bool a0_1, .int .i64 a0_2, .slice A0_3 l0_3.length c0_3, .int .i64 a0_4, .int .i64 a0_5, .int .i64 a0_6, .slice A0_7 l0_7.length c0_7]] w fun e w' => ∃ v0_ : Value, e = .returned (v0_) ∧ Kd.R (Kd.int .u8) 5 w' w.heap.size (fun _ => True) v0_ r ∧ Below w.heap.size w w' := by
 have hu38 := Try.underlying38
 have HR0_0 := Aside0.mk hr0_0
 have HC0_0 := Aside0.mk hc0_0
 clear hr0_0 hc0_0
 have HR0_3 := Aside0.mk hr0_3
 have HC0_3 := Aside0.mk hc0_3
 clear hr0_3 hc0_3
 have HR0_7 := Aside0.mk hr0_7
 have HC0_7 := Aside0.mk hc0_7
 clear hr0_7 hc0_7
 have HB := Aside0.mk (Below.refl w.heap.size w)
 have H : ((impl_putPrefixes.f k (([((l0_0.length : Int)) % 256] : List Int)) l0_0).bind fun t439 => (if a0_1 = true then (if t439.length < 140737488355328 then (impl_packUpdate.l0 k (t439 ++ [((l0_3.length : Int)) % 256]) l0_3 (l0_3.length : Int) 0 l0_0 a0_1 a0_2 l0_3 a0_4 a0_5 a0_6 l0_7) else (none)) else (some t439))) = some r := h
 clear h
 obtain ⟨y436, hy436⟩ : ∃ y_ : List Int, y_ = (([((l0_0.length : Int)) % 256] : List Int)) := ⟨_, rfl⟩
 replace H : ((impl_putPrefixes.f k y436 l0_0).bind fun t439 => (if a0_1 = true then (if t439.length < 140737488355328 then (impl_packUpdate.l0 k (t439 ++ [((l0_3.length : Int)) % 256]) l0_3 (l0_3.length : Int) 0 l0_0 a0_1 a0_2 l0_3 a0_4 a0_5 a0_6 l0_7) else (none)) else (some t439))) = some r := by first | (rw [hy436]; with_reducible exact H) | (have H2_ := (Option.bind_some _ _).symm.trans H; rw [hy436]; with_reducible exact H2_) | (have H2_ := (Option.bind_some _ _).symm.trans H; with_reducible exact H2_) | with_reducible exact H | (rw [hy436]; exact H) | exact H
 have Ny436 := Aside0.mk hy436
 clear hy436
 replace H := Option.bind_eq_some_iff.mp H
 obtain ⟨t439, A20, H⟩ := H
 replace H : (if a0_1 = true then (if t439.length < 140737488355328 then (impl_packUpdate.l0 k (t439 ++ [((l0_3.length : Int)) % 256]) l0_3 (l0_3.length : Int) 0 l0_0 a0_1 a0_2 l0_3 a0_4 a0_5 a0_6 l0_7) else (none)) else (some t439)) = some r := H
 have A2 := Aside0.mk A20
 clear A20
 have H' := Aside0.mk H
 clear H
 go_enter Try.func72, Try.ntmps72
 repeat (first | ((with_reducible refine gate_dst (N := 1) rfl ?_); refine boxE #[.slice A0_0 l0_0.length c0_0, .bool a0_1, .int .i64 a0_2, .slice A0_3 l0_3.length c0_3, .int .i64 a0_4, .int .i64 a0_5, .int .i64 a0_6, .slice A0_7 l0_7.length c0_7] 38 (N := 1) rfl rfl ?_; intro gb435 hg w3 hbox hb; have BK435 := Aside0.mk hbox; have GW435 := gZ HB hg; have GE435 := gZ HB hg; replace HB := bS HB hb; clear hb hbox hg; have hz4 := cl8 BK435) | ((with_reducible refine gate_dst (N := 10) rfl ?_); refine Kd.R_lit (Kd.int .u8) _ 5 ?hg (N := 10) ?hd (xs := ([((l0_0.length : Int)) % 256] : List Int)) (inner := [.int .u8 (((l0_0.length : Int)) % 256)]) (ok := fun _ => True) (okp := fun _ => True) ?hr ?hp (fun _ hk => hk) trivial (Below.refl _ _) (Nat.le_refl _) (by simp) ?_; (case hd => rfl); (case hg => rfl); (case hr => first | (go_simp; done) | (go_simp; rfl)); (case hp => exact (Reps.one (show Kd.M (Kd.int .u8) _ _ _ (((l0_0.length : Int)) % 256) [.int .u8 (((l0_0.length : Int)) % 256)] from rfl) (Reps.none _ _))); intro v437 w5 ho6 hb hg_ hnew_; clear hg_ hnew_; (first | rw [← Ny436.out] at ho6 | (simp only [Int.reduceToNat] at ho6; rw [← Ny436.out] at ho6)); have HO438 := Aside0.mk (Kd.R_lower ho6 (below_size (bel HB))); replace BK435 := bK BK435 hb; replace HB := bS HB hb; clear hb ho6; have hz7 := cl8 BK435; obtain ⟨Ao8, co8, eo8⟩ := Kd.R_slice HO438.out; subst eo8) | ((with_reducible refine gate_callee (f := 130) rfl ?_); refine goA (some 13) rfl rfl Try.func130 rfl #[.slice Ao8 y436.length co8, .slice A0_0 l0_0.length c0_0] rfl ?_; (with_reducible refine (impl_putPrefixes.calls k (fun k_ => some k_ = (.slice Ao8 y436.length co8 : Value).ownBlock) (.slice Ao8 y436.length co8) y436 _ _ l0_0 t439 w _ ?side1 ?side2 ?side3 ?side4 A2.out).mono ?_); (case side1 => exact bel HB); (case side2 => exact Kd.R_tight rfl HO438.out); (case side3 => exact Kd.C_kept_came k91_heap HR0_0.out (bel HB) (fun k_ hs_ => (fun e_ => Kd.R_base HO438.out k_ e_.symm) hs_)); (case side4 => exact HC0_0.out); rintro e w9 ⟨v440, rfl, ho0, hb, hkp⟩; refine ⟨_, rfl, ?_⟩; replace BK435 := Aside0.mk (blk_kept (mB BK435) hkp (fun hs_ => (fun e_ => (Kd.R_ne HO438.out BK435.out (by decide)) e_) hs_)); have HO441 := Aside0.mk (Kd.R_mono (ok' := fun k_ => True) ho0 (fun k_ hk_ => trivial)); replace HB := Aside0.mk hb; clear HO438; (try clear hb); (try clear hkp); (try clear ho0); have hz10 := cl8 BK435) | go_values | go_skip | ((with_reducible refine gateG ?gw ?_); (case gw => rfl)) | refine wpList_skip (by rfl) ?_ | refine wp_cond_true rfl ?_ | refine wp_cond_false rfl ?_ | (with_reducible refine iteTr (by first | assumption | omega) ?_) | (with_reducible refine iteFl (by first | assumption | omega) ?_) | ((fail_if_success (with_reducible refine condP ?_)); (fail_if_success (with_reducible refine iteP ?_)); (fail_if_success (with_reducible refine grdP ?_)); go_step) | go_upon | (simp only [Int.not_lt, Int.not_le] at *; go_simp))
 have H := H'.out
 clear H'
 by_cases c11 : a0_1 = true
 ·
  subst c11
  have H1 : (if t439.length < 140737488355328 then (impl_packUpdate.l0 k (t439 ++ [((l0_3.length : Int)) % 256]) l0_3 (l0_3.length : Int) 0 l0_0 true a0_2 l0_3 a0_4 a0_5 a0_6 l0_7) else (none)) = some r := by rw [if_pos rfl] at H; first | done | exact H
  clear H
  have H := H1
  clear H1
  by_cases c12 : t439.length < 140737488355328
  ·
   rw [if_pos c12] at H
   have LMc12 := Aside0.mk c12
   clear c12
   obtain ⟨y442, hy442⟩ : ∃ y_ : List Int, y_ = (t439 ++ [((l0_3.length : Int)) % 256]) := ⟨_, rfl⟩
   replace H : (impl_packUpdate.l0 k y442 l0_3 (l0_3.length : Int) 0 l0_0 true a0_2 l0_3 a0_4 a0_5 a0_6 l0_7) = some r := by first | (rw [hy442]; with_reducible exact H) | (have H2_ := (Option.bind_some _ _).symm.trans H; rw [hy442]; with_reducible exact H2_) | (have H2_ := (Option.bind_some _ _).symm.trans H; with_reducible exact H2_) | with_reducible exact H | (rw [hy442]; exact H) | exact H
   have Ny442 := Aside0.mk hy442
   clear hy442
   have H' := Aside0.mk H
   clear H
   have hz13 := cl8 BK435
   go_wp2_with (first | ((with_reducible refine gate_builtin (b := .append) (xs := #[.tmp 18, .tmp 24]) rfl ?_); at_builtin; refine Kd.R_append (Kd.int .u8) (w0 := w) w.heap.size rfl (.tmp 18) (.tmp 24) 31 5 (.int .u8 0) 1 rfl Try.underlying31 info5 rfl (by decide) (by omega) v440 t439 (((l0_3.length : Int)) % 256) [.int .u8 (((l0_3.length : Int)) % 256)] (fun _ => True) (fun _ => False) rfl rfl ?aP (fun _ hk => hk.elim) ?aF ?aO ?aB ?aS ?aL ?_; (case aP => exact rfl); (case aB => exact (bel HB)); (case aF => exact (fun _ _ => trivial)); (case aO => exact (mR HO441)); (case aS => exact (below_size (bel HB))); (case aL => have := LMc12.out; omega); intro v443 w14 ho hb hg hat; rw [← Ny442.out] at ho; replace BK435 := Aside0.mk (blk_grown (g := gb435) (o := .cells #[.slice A0_0 l0_0.length c0_0, .bool true, .int .i64 a0_2, .slice A0_3 l0_3.length c0_3, .int .i64 a0_4, .int .i64 a0_5, .int .i64 a0_6, .slice A0_7 l0_7.length c0_7] 38 (0, 0)) (mB BK435) hg (Kd.R_ne HO441.out BK435.out (by decide))); replace HB := Aside0.mk hb; have HO444 := Aside0.mk ho; clear HO441; clear ho hb hg hat; have hz15 := cl8 BK435))
   go_loopg [3, 30] k (fun kq v3 v30 w' => ∃ (x3_1 : List Int) (x30_1 : Int), v30 = .int .i64 x30_1 ∧ Aside0 (impl_packUpdate.l0 kq x3_1 l0_3 (l0_3.length : Int) x30_1 l0_0 true a0_2 l0_3 a0_4 a0_5 a0_6 l0_7 = some r) ∧ Aside0 (kq ≤ k) ∧ Aside0 (Kd.R (Kd.int .u8) 5 w' w.heap.size (fun _ => True) v3 x3_1) ∧ Aside0 (w'.heap[gb435]? = some (.cells #[(.slice A0_0 l0_0.length c0_0), .bool true, .int .i64 a0_2, (.slice A0_3 l0_3.length c0_3), .int .i64 a0_4, .int .i64 a0_5, .int .i64 a0_6, (.slice A0_7 l0_7.length c0_7)] 38 (0, 0))) ∧ Aside0 (Below w.heap.size w w'))
   case atStart => exact ⟨(y442), (0), (by first | rfl | (simp; done) | (simp [*]; done)), H', ⟨Nat.le_refl _⟩, ⟨by (with_reducible repeat (first | apply Kd.R_alloc | apply Kd.R_drewN | apply Kd.R_drew)); exact HO444.out⟩, ⟨by (with_reducible repeat (first | refine blk_drewN ?_ _ | refine blk_drew ?_ | refine blk_alloc ?_ _)); exact BK435.out⟩, ⟨bel HB⟩⟩
   case round =>
    clear H'
    try clear c1
    try clear p2
    try clear c7
    try clear c11
    try clear c12
    try clear c13
    try clear hz10
    try clear hz13
    try clear hz15
    try clear hz4
    try clear hz7
    obtain ⟨x3_1, x30_1, rfl, HA, HK1, HO_3, BK435, HB⟩ := hrel
    cases gk with
    | zero => exact absurd HA.out (by simp [impl_packUpdate.l0])
    | succ k1 =>
     have H := HA.out
     clear HA
     simp only [impl_packUpdate.l0] at H
     by_cases c16 : x30_1 < (l0_3.length : Int)
     ·
      rw [if_pos c16] at H
      have c16b0 : decide (x30_1 < (l0_3.length : Int)) = true := decide_eq_true c16
      have c16e := eq_true c16
      clear c16
      (first | rw [c16b0] | (simp only [i64_w, i32_w]; rw [c16b0]) | skip)
      (try simp only [c16b0]); (try (with_reducible refine iteP ?_; simp only [c16e, ↓reduceIte]))
      by_cases c17 : 0 ≤ x30_1
      ·
       rw [if_pos c17] at H
       have c17b0 : decide (0 ≤ x30_1) = true := decide_eq_true c17
       have c17e := eq_true c17
       clear c17
       by_cases c18 : x30_1 < (l0_3.length : Int)
       ·
        rw [if_pos c18] at H
        have c18b0 : decide (x30_1 < (l0_3.length : Int)) = true := decide_eq_true c18
        have c18e := eq_true c18
        clear c18
        replace H := Option.bind_eq_some_iff.mp H
        obtain ⟨t446, A190, H⟩ := H
        replace H : (impl_packUpdate.l0 k1 t446 l0_3 (l0_3.length : Int) (wrap64 (x30_1 + 1)) l0_0 true a0_2 l0_3 a0_4 a0_5 a0_6 l0_7) = some r := H
        have A19 := Aside0.mk A190
        clear A190
        have H' := Aside0.mk H
        clear H
        have p445 : 0 ≤ (x30_1 : Int) := of_decide_eq_true (by first | (with_reducible assumption) | assumption)
        have q445 : x30_1 < (l0_3.length : Int) := of_decide_eq_true (by first | (with_reducible assumption) | assumption)
        obtain ⟨ad445, e445, hx445_0⟩ := Kd.at_int HR0_3.out x30_1 p445 q445
        cases e445
        replace hx445_0 := (HB.out.cell (World.block_lt_of_cell? w _ hx445_0)).trans hx445_0
        replace p445 := eq_true p445
        replace q445 := eq_true q445
        obtain ⟨Ao20, co20, eo20⟩ := Kd.R_slice HO_3.out
        subst eo20
        go_wp2_with (first | ((with_reducible refine gate_callee (f := 114) rfl ?_); refine goA (some 36) rfl rfl Try.func114 rfl #[.slice Ao20 x3_1.length co20, .int .i64 (rd l0_3 x30_1)] rfl ?_; (with_reducible refine (impl_putTwo.calls (fun k_ => some k_ = (.slice Ao20 x3_1.length co20 : Value).ownBlock) (.slice Ao20 x3_1.length co20) x3_1 (rd l0_3 x30_1) t446 w _ ?side1 ?side2 A19.out).mono ?_); (case side1 => exact bel HB); (case side2 => exact Kd.R_tight rfl HO_3.out); rintro e w21 ⟨v447, rfl, ho0, hb, hkp⟩; refine ⟨_, rfl, ?_⟩; replace BK435 := Aside0.mk (blk_kept (mB BK435) hkp (fun hs_ => (fun e_ => (Kd.R_ne HO_3.out BK435.out (by decide)) e_) hs_)); have HO448 := Aside0.mk (Kd.R_mono (ok' := fun k_ => True) ho0 (fun k_ hk_ => trivial)); replace HB := Aside0.mk hb; clear HO_3; (try clear hb); (try clear hkp); (try clear ho0)))
        go_roundg k1
        case measure => have := HK1.out; omega
        case rel => exact ⟨(t446), (wrap64 (x30_1 + 1)), (by first | rfl | (simp; done) | (simp [*]; done)), H', ⟨by have := HK1.out; omega⟩, ⟨by (with_reducible repeat (first | apply Kd.R_alloc | apply Kd.R_drewN | apply Kd.R_drew)); exact HO448.out⟩, ⟨by (with_reducible repeat (first | refine blk_drewN ?_ _ | refine blk_drew ?_ | refine blk_alloc ?_ _)); exact BK435.out⟩, ⟨bel HB⟩⟩
       ·
        rw [if_neg c18] at H
        exact absurd H (by simp)
      ·
       rw [if_neg c17] at H
       exact absurd H (by simp)
     ·
      rw [if_neg c16] at H
      have c16b0 : decide (x30_1 < (l0_3.length : Int)) = false := decide_eq_false c16
      have c16e := eq_false c16
      clear c16
      (first | rw [c16b0] | (simp only [i64_w, i32_w]; rw [c16b0]) | skip)
      (try simp only [c16b0]); (try (with_reducible refine iteP ?_; simp only [c16e, ↓reduceIte]))
      by_cases c22 : x3_1.length < 140737488355328
      ·
       rw [if_pos c22] at H
       have LMc22 := Aside0.mk c22
       clear c22
       obtain ⟨y449, hy449⟩ : ∃ y_ : List Int, y_ = (x3_1 ++ [(a0_2) % 256]) := ⟨_, rfl⟩
       replace H : ((impl_putTwo.f y449 a0_4).bind fun t452 => ((impl_putTwo.f t452 a0_5).bind fun t455 => ((impl_putTwo.f t455 a0_6).bind fun t458 => ((impl_putPrefixes.f k1 t458 l0_7).bind fun t461 => (some t461))))) = some r := by first | (rw [hy449]; with_reducible exact H) | (have H2_ := (Option.bind_some _ _).symm.trans H; rw [hy449]; with_reducible exact H2_) | (have H2_ := (Option.bind_some _ _).symm.trans H; with_reducible exact H2_) | with_reducible exact H | (rw [hy449]; exact H) | exact H
       have Ny449 := Aside0.mk hy449
       clear hy449
       replace H := Option.bind_eq_some_iff.mp H
       obtain ⟨t452, A230, H⟩ := H
       replace H : ((impl_putTwo.f t452 a0_5).bind fun t455 => ((impl_putTwo.f t455 a0_6).bind fun t458 => ((impl_putPrefixes.f k1 t458 l0_7).bind fun t461 => (some t461)))) = some r := H
       have A23 := Aside0.mk A230
       clear A230
       replace H := Option.bind_eq_some_iff.mp H
       obtain ⟨t455, A240, H⟩ := H
       replace H : ((impl_putTwo.f t455 a0_6).bind fun t458 => ((impl_putPrefixes.f k1 t458 l0_7).bind fun t461 => (some t461))) = some r := H
       have A24 := Aside0.mk A240
       clear A240
       replace H := Option.bind_eq_some_iff.mp H
       obtain ⟨t458, A250, H⟩ := H
       replace H : ((impl_putPrefixes.f k1 t458 l0_7).bind fun t461 => (some t461)) = some r := H
       have A25 := Aside0.mk A250
       clear A250
       replace H := Option.bind_eq_some_iff.mp H
       obtain ⟨t461, A260, H⟩ := H
       replace H : (some t461) = some r := H
       have A26 := Aside0.mk A260
       clear A260
       obtain rfl := Option.some.inj H
       have hz27 := cl8 BK435
       try go_wp2_with (first | ((with_reducible refine gate_builtin (b := .append) (xs := #[.tmp 38, .tmp 43]) rfl ?_); at_builtin; refine Kd.R_append (Kd.int .u8) (w0 := w) w.heap.size rfl (.tmp 38) (.tmp 43) 31 5 (.int .u8 0) 1 rfl Try.underlying31 info5 rfl (by decide) (by omega) u3 x3_1 ((a0_2) % 256) [.int .u8 ((a0_2) % 256)] (fun _ => True) (fun _ => False) rfl rfl ?aP (fun _ hk => hk.elim) ?aF ?aO ?aB ?aS ?aL ?_; (case aP => exact rfl); (case aB => exact (bel HB)); (case aF => exact (fun _ _ => trivial)); (case aO => exact (mR HO_3)); (case aS => exact (below_size (bel HB))); (case aL => have := LMc22.out; omega); intro v450 w28 ho hb hg hat; rw [← Ny449.out] at ho; replace BK435 := Aside0.mk (blk_grown (g := gb435) (o := .cells #[.slice A0_0 l0_0.length c0_0, .bool true, .int .i64 a0_2, .slice A0_3 l0_3.length c0_3, .int .i64 a0_4, .int .i64 a0_5, .int .i64 a0_6, .slice A0_7 l0_7.length c0_7] 38 (0, 0)) (mB BK435) hg (Kd.R_ne HO_3.out BK435.out (by decide))); replace HB := Aside0.mk hb; have HO451 := Aside0.mk ho; clear HO_3; clear ho hb hg hat))
       have n0_ := Aside0.mk (Kd.R_drew HO451.out)
       have n1_ := Aside0.mk (blk_drew BK435.out)
       have n2_ := Aside0.mk (below_drew1 HB.out)
       clear HO451
       clear BK435
       clear HB
       have HO451 := n0_
       have BK435 := n1_
       have HB := n2_
       clear n0_ n1_ n2_
       obtain ⟨Ao30, co30, eo30⟩ := Kd.R_slice HO451.out
       (first | subst eo30 | (injection eo30 with f1_ f2_ f3_; have f4_ := f1_.symm; have f5_ := f3_.symm; clear f1_ f2_ f3_; subst f4_; subst f5_))
       refine start_ (n := 14) (S := fun w' => w'.cell? ⟨gb435, 0, none⟩ = some (.slice A0_0 l0_0.length c0_0) ∧ w'.cell? ⟨gb435, 1, none⟩ = some (.bool true) ∧ w'.cell? ⟨gb435, 2, none⟩ = some (.int .i64 a0_2) ∧ w'.cell? ⟨gb435, 3, none⟩ = some (.slice A0_3 l0_3.length c0_3) ∧ w'.cell? ⟨gb435, 4, none⟩ = some (.int .i64 a0_4) ∧ w'.cell? ⟨gb435, 5, none⟩ = some (.int .i64 a0_5) ∧ w'.cell? ⟨gb435, 6, none⟩ = some (.int .i64 a0_6) ∧ w'.cell? ⟨gb435, 7, none⟩ = some (.slice A0_7 l0_7.length c0_7)) (ds := []) #[false, false, false, false, false, false, false, false, false, false, false, false, false, false] (by kernel_rfl) rfl rfl ⟨(blk_cell BK435.out 0).trans rfl, (blk_cell BK435.out 1).trans rfl, (blk_cell BK435.out 2).trans rfl, (blk_cell BK435.out 3).trans rfl, (blk_cell BK435.out 4).trans rfl, (blk_cell BK435.out 5).trans rfl, (blk_cell BK435.out 6).trans rfl, (blk_cell BK435.out 7).trans rfl⟩ (fun hHeld => ?_); refine with_tabW impl_packUpdate.tab11 impl_packUpdate.bits11 (fun HT_ HW_ => ?_)
       generalize w28.drew = w29 at HO451 BK435 HB hHeld ⊢
       refine pure_ (i := 0) (N := some 45) (v := ?_) (a' := ?_) #[true, false, false, false, false, false, false, false, false, false, false, false, false, false] rfl rfl (any_of HT_.out (by kernel_rfl)) (fun _ _ _ h => h) (Or.inl ⟨by rfl, ?_⟩) ?_ ?_
       rotate_left
       ·
        intro w'
        go_simp
        with_reducible rfl
       rotate_left
       ·
        simp only [Act.put, List.setIfInBounds_toArray, List.set_cons_zero, List.set_cons_succ, i64_w, i32_w]
        rfl
       refine pure_ (i := 1) (N := some 46) (v := ?_) (a' := ?_) #[true, true, false, false, false, false, false, false, false, false, false, false, false, false] rfl rfl (any_of HT_.out (by kernel_rfl)) (fun _ _ _ h => h) (Or.inl ⟨by rfl, ?_⟩) ?_ ?_
       rotate_left
       ·
        intro w'
        go_simp
        with_reducible rfl
       rotate_left
       ·
        simp only [Act.put, List.setIfInBounds_toArray, List.set_cons_zero, List.set_cons_succ, i64_w, i32_w]
        rfl
       refine pure_ (i := 2) (N := some 47) (v := ?_) (a' := ?_) #[true, true, true, false, false, false, false, false, false, false, false, false, false, false] rfl rfl (any_of HT_.out (by kernel_rfl)) (fun _ _ _ h => h) (Or.inl ⟨by rfl, ?_⟩) ?_ ?_
       rotate_left
       ·
        intro w'
        go_simp
        with_reducible rfl
       rotate_left
       ·
        simp only [Act.put, List.setIfInBounds_toArray, List.set_cons_zero, List.set_cons_succ, i64_w, i32_w]
        rfl
       refine pure_ (i := 5) (N := some 50) (v := ?_) (a' := ?_) #[true, true, true, false, false, true, false, false, false, false, false, false, false, false] rfl rfl (any_of HT_.out (by kernel_rfl)) (fun _ _ _ h => h) (Or.inl ⟨by rfl, ?_⟩) ?_ ?_
       rotate_left
       ·
        intro w'
        go_simp
        with_reducible rfl
       rotate_left
       ·
        simp only [Act.put, List.setIfInBounds_toArray, List.set_cons_zero, List.set_cons_succ, i64_w, i32_w]
        rfl
       refine pure_ (i := 6) (N := some 51) (v := ?_) (a' := ?_) #[true, true, true, false, false, true, true, false, false, false, false, false, false, false] rfl rfl (any_of HT_.out (by kernel_rfl)) (fun _ _ _ h => h) (Or.inl ⟨by rfl, ?_⟩) ?_ ?_
       rotate_left
       ·
        intro w'
        go_simp
        with_reducible rfl
       rotate_left
       ·
        simp only [Act.put, List.setIfInBounds_toArray, List.set_cons_zero, List.set_cons_succ, i64_w, i32_w]
        rfl
       refine pure_ (i := 9) (N := some 54) (v := ?_) (a' := ?_) #[true, true, true, false, false, true, true, false, false, true, false, false, false, false] rfl rfl (any_of HT_.out (by kernel_rfl)) (fun _ _ _ h => h) (Or.inl ⟨by rfl, ?_⟩) ?_ ?_
       rotate_left
       ·
        intro w'
        go_simp
        with_reducible rfl
       rotate_left
       ·
        simp only [Act.put, List.setIfInBounds_toArray, List.set_cons_zero, List.set_cons_succ, i64_w, i32_w]
        rfl
       refine pure_ (i := 10) (N := some 55) (v := ?_) (a' := ?_) #[true, true, true, false, false, true, true, false, false, true, true, false, false, false] rfl rfl (any_of HT_.out (by kernel_rfl)) (fun _ _ _ h => h) (Or.inl ⟨by rfl, ?_⟩) ?_ ?_
       rotate_left
       ·
        intro w'
        go_simp
        with_reducible rfl
       rotate_left
       ·
        simp only [Act.put, List.setIfInBounds_toArray, List.set_cons_zero, List.set_cons_succ, i64_w, i32_w]
        rfl
       refine take_ (i := 3) (N := some 48) (v := ?_) (a' := ?_) #[true, true, true, true, false, true, true, false, false, true, true, false, false, false] rfl rfl (take_ofW HT_.out HW_.out (by kernel_rfl)) (fun _ _ _ h => h) (Or.inl ⟨by rfl, ?_⟩) hHeld ?_ ?_
       rotate_left
       ·
        rintro w' ⟨s0, s1, s2, s3, s4, s5, s6, s7⟩
        go_simp
        with_reducible rfl
       rotate_left
       ·
        simp only [Act.put, List.setIfInBounds_toArray, List.set_cons_zero, List.set_cons_succ, i64_w, i32_w]
        rfl
       refine take_ (i := 7) (N := some 52) (v := ?_) (a' := ?_) #[true, true, true, true, false, true, true, true, false, true, true, false, false, false] rfl rfl (take_ofW HT_.out HW_.out (by kernel_rfl)) (fun _ _ _ h => h) (Or.inl ⟨by rfl, ?_⟩) hHeld ?_ ?_
       rotate_left
       ·
        rintro w' ⟨s0, s1, s2, s3, s4, s5, s6, s7⟩
        go_simp
        with_reducible rfl
       rotate_left
       ·
        simp only [Act.put, List.setIfInBounds_toArray, List.set_cons_zero, List.set_cons_succ, i64_w, i32_w]
        rfl
       refine take_ (i := 11) (N := some 56) (v := ?_) (a' := ?_) #[true, true, true, true, false, true, true, true, false, true, true, true, false, false] rfl rfl (take_ofW HT_.out HW_.out (by kernel_rfl)) (fun _ _ _ h => h) (Or.inl ⟨by rfl, ?_⟩) hHeld ?_ ?_
       rotate_left
       ·
        rintro w' ⟨s0, s1, s2, s3, s4, s5, s6, s7⟩
        go_simp
        with_reducible rfl
       rotate_left
       ·
        simp only [Act.put, List.setIfInBounds_toArray, List.set_cons_zero, List.set_cons_succ, i64_w, i32_w]
        rfl
       refine one_ (i := 4) (N := some 49) #[true, true, true, true, true, true, true, true, false, true, true, true, false, false] rfl rfl (one_of HT_.out (by kernel_rfl)) (by decide) (fun K hK => ?_)
       refine goes_ Try.func114 (by kernel_rfl) rfl #[.slice Ao30 y449.length co30, .int .i64 a0_4] (by rfl) rfl rfl (by (try simp only [List.map_toArray, List.map_cons, List.map_nil]); first | done | rfl | (simp only [List.length_drop, List.length_take]; rfl)) ?_
       with_reducible refine (impl_putTwo.calls (fun k_ => some k_ = (.slice Ao30 y449.length co30 : Value).ownBlock) (.slice Ao30 y449.length co30) y449 a0_4 t452 w _ ?side1 ?side2 A23.out).mono ?_
       (case side1 => exact bel HB)
       (case side2 => exact Kd.R_tight rfl HO451.out)
       rintro e w31 ⟨v453, rfl, ho0, hb, hkp⟩
       refine ⟨_, rfl, ?_⟩
       have n0_ := Aside0.mk (blk_kept (mB BK435) hkp (fun hs_ => (fun e_ => (Kd.R_ne HO451.out BK435.out (by decide)) e_) hs_))
       have n1_ := Aside0.mk (Kd.R_mono (ok' := fun k_ => True) ho0 (fun k_ hk_ => trivial))
       have n2_ := Aside0.mk (hb)
       clear BK435
       clear HB
       clear HO451
       have BK435 := n0_
       have HO454 := n1_
       have HB := n2_
       clear n0_ n1_ n2_
       (try clear hb)
       (try clear hkp)
       (try clear ho0)
       obtain ⟨Ao32, co32, eo32⟩ := Kd.R_slice HO454.out
       (first | subst eo32 | (injection eo32 with f1_ f2_ f3_; have f4_ := f1_.symm; have f5_ := f3_.symm; clear f1_ f2_ f3_; subst f4_; subst f5_))
       refine hK.out _ _ (ce8 BK435) (fun hHeld => ?_)
       clear hK K
       refine norm_ (a' := ?_) ?_ ?_
       rotate_left
       ·
        show Act.put _ (some 49) _ = _
        simp only [Act.put, List.setIfInBounds_toArray, List.set_cons_zero, List.set_cons_succ, i64_w, i32_w]
        rfl
       refine one_ (i := 8) (N := some 53) #[true, true, true, true, true, true, true, true, true, true, true, true, false, false] rfl rfl (one_of HT_.out (by kernel_rfl)) (by decide) (fun K hK => ?_)
       refine goes_ Try.func114 (by kernel_rfl) rfl #[.slice Ao32 t452.length co32, .int .i64 a0_5] (by rfl) rfl rfl (by (try simp only [List.map_toArray, List.map_cons, List.map_nil]); first | done | rfl | (simp only [List.length_drop, List.length_take]; rfl)) ?_
       with_reducible refine (impl_putTwo.calls (fun k_ => some k_ = (.slice Ao32 t452.length co32 : Value).ownBlock) (.slice Ao32 t452.length co32) t452 a0_5 t455 w _ ?side1 ?side2 A24.out).mono ?_
       (case side1 => exact bel HB)
       (case side2 => exact Kd.R_tight rfl HO454.out)
       rintro e w33 ⟨v456, rfl, ho0, hb, hkp⟩
       refine ⟨_, rfl, ?_⟩
       have n0_ := Aside0.mk (blk_kept (mB BK435) hkp (fun hs_ => (fun e_ => (Kd.R_ne HO454.out BK435.out (by decide)) e_) hs_))
       have n1_ := Aside0.mk (Kd.R_mono (ok' := fun k_ => True) ho0 (fun k_ hk_ => trivial))
       have n2_ := Aside0.mk (hb)
       clear BK435
       clear HB
       clear HO454
       have BK435 := n0_
       have HO457 := n1_
       have HB := n2_
       clear n0_ n1_ n2_
       (try clear hb)
       (try clear hkp)
       (try clear ho0)
       obtain ⟨Ao34, co34, eo34⟩ := Kd.R_slice HO457.out
       (first | subst eo34 | (injection eo34 with f1_ f2_ f3_; have f4_ := f1_.symm; have f5_ := f3_.symm; clear f1_ f2_ f3_; subst f4_; subst f5_))
       refine hK.out _ _ (ce8 BK435) (fun hHeld => ?_)
       clear hK K
       refine norm_ (a' := ?_) ?_ ?_
       rotate_left
       ·
        show Act.put _ (some 53) _ = _
        simp only [Act.put, List.setIfInBounds_toArray, List.set_cons_zero, List.set_cons_succ, i64_w, i32_w]
        rfl
       refine one_ (i := 12) (N := some 57) #[true, true, true, true, true, true, true, true, true, true, true, true, true, false] rfl rfl (one_of HT_.out (by kernel_rfl)) (by decide) (fun K hK => ?_)
       refine goes_ Try.func114 (by kernel_rfl) rfl #[.slice Ao34 t455.length co34, .int .i64 a0_6] (by rfl) rfl rfl (by (try simp only [List.map_toArray, List.map_cons, List.map_nil]); first | done | rfl | (simp only [List.length_drop, List.length_take]; rfl)) ?_
       with_reducible refine (impl_putTwo.calls (fun k_ => some k_ = (.slice Ao34 t455.length co34 : Value).ownBlock) (.slice Ao34 t455.length co34) t455 a0_6 t458 w _ ?side1 ?side2 A25.out).mono ?_
       (case side1 => exact bel HB)
       (case side2 => exact Kd.R_tight rfl HO457.out)
       rintro e w35 ⟨v459, rfl, ho0, hb, hkp⟩
       refine ⟨_, rfl, ?_⟩
       have n0_ := Aside0.mk (blk_kept (mB BK435) hkp (fun hs_ => (fun e_ => (Kd.R_ne HO457.out BK435.out (by decide)) e_) hs_))
       have n1_ := Aside0.mk (Kd.R_mono (ok' := fun k_ => True) ho0 (fun k_ hk_ => trivial))
       have n2_ := Aside0.mk (hb)
       clear BK435
       clear HB
       clear HO457
       have BK435 := n0_
       have HO460 := n1_
       have HB := n2_
       clear n0_ n1_ n2_
       (try clear hb)
       (try clear hkp)
       (try clear ho0)
       refine hK.out _ _ (ce8 BK435) (fun hHeld => ?_)
       clear hK K
       refine norm_ (a' := ?_) ?_ ?_
       rotate_left
       ·
        show Act.put _ (some 57) _ = _
        simp only [Act.put, List.setIfInBounds_toArray, List.set_cons_zero, List.set_cons_succ, i64_w, i32_w]
        rfl
       refine pure_ (i := 13) (N := some 3) (v := ?_) (a' := ?_) #[true, true, true, true, true, true, true, true, true, true, true, true, true, true] rfl rfl (any_of HT_.out (by kernel_rfl)) (fun _ _ _ h => h) (Or.inl ⟨by rfl, ?_⟩) ?_ ?_
       rotate_left
       ·
        intro w'
        go_simp
        with_reducible rfl
       rotate_left
       ·
        simp only [Act.put, List.setIfInBounds_toArray, List.set_cons_zero, List.set_cons_succ, i64_w, i32_w]
        rfl
       refine done_ (done_of HT_.out (by kernel_rfl)) ?_
       have hz36 := cl8 BK435
       obtain ⟨Ao37, co37, eo37⟩ := Kd.R_slice HO460.out
       subst eo37
       try go_wp2_with (first | ((with_reducible refine gate_callee (f := 130) rfl ?_); refine goA (some 61) rfl rfl Try.func130 rfl #[.slice Ao37 t458.length co37, .slice A0_7 l0_7.length c0_7] rfl ?_; (with_reducible refine (impl_putPrefixes.calls k1 (fun k_ => some k_ = (.slice Ao37 t458.length co37 : Value).ownBlock) (.slice Ao37 t458.length co37) t458 _ _ l0_7 t461 w _ ?side1 ?side2 ?side3 ?side4 A26.out).mono ?_); (case side1 => exact bel HB); (case side2 => exact Kd.R_tight rfl HO460.out); (case side3 => exact Kd.C_kept_came k91_heap HR0_7.out (bel HB) (fun k_ hs_ => (fun e_ => Kd.R_base HO460.out k_ e_.symm) hs_)); (case side4 => exact HC0_7.out); rintro e w38 ⟨v462, rfl, ho0, hb, hkp⟩; refine ⟨_, rfl, ?_⟩; replace BK435 := Aside0.mk (blk_kept (mB BK435) hkp (fun hs_ => (fun e_ => (Kd.R_ne HO460.out BK435.out (by decide)) e_) hs_)); have HO463 := Aside0.mk (Kd.R_mono (ok' := fun k_ => True) ho0 (fun k_ hk_ => trivial)); replace HB := Aside0.mk hb; clear HO460; (try clear hb); (try clear hkp); (try clear ho0)))
       go_ret
       exact ⟨_, by first | rfl | (simp [errW_none, errW_some] <;> rfl) | (simp [*, errW_none, errW_some] <;> rfl), by (with_reducible repeat (first | apply Kd.R_alloc | apply Kd.R_drewN | apply Kd.R_drew)); exact HO463.out, bel HB⟩
      ·
       rw [if_neg c22] at H
       exact absurd H (by simp)
  ·
   rw [if_neg c12] at H
   exact absurd H (by simp)
 ·
  replace c11 := Bool.eq_false_iff.mpr c11
  subst c11
  have H1 : (some t439) = some r := by rw [if_neg (show ¬ (false = true) by decide)] at H; first | done | exact H
  clear H
  have H := H1
  clear H1
  obtain rfl := Option.some.inj H
  go_wp2
  go_ret
  exact ⟨_, by first | rfl | (simp [errW_none, errW_some] <;> rfl) | (simp [*, errW_none, errW_some] <;> rfl), by (with_reducible repeat (first | apply Kd.R_alloc | apply Kd.R_drewN | apply Kd.R_drew)); exact HO441.out, bel HB⟩

end Go.Proofs.Ytgfoifkkffffgac.PFnExactPackMessage
