-- Laid by a turned copy of the printer (wip/tools/patch_print.py)
import Derived.Test.YtgfoifkkffffgacPFnExactPackMessagex0
import Derived.Test.YtgfoifkkffffgacPFnExactPackMessagex10
namespace Go.Proofs.Ytgfoifkkffffgac.PFnExactPackMessage
open Go.RowKit Go.Proofs.YtgfoifkkffffgacW.PrintWords Go.Proofs.YtgfoifkkffffgacW.PrintLast Go.Proofs.YtgfoifkkffffgacW.PrintMore
attribute [local go_sem] max2_int min2_int max_two min_two max_three min_three max_four min_four   -- for this text's walks alone
set_option linter.unusedVariables false
set_option linter.unusedSimpArgs false

/-! ### impl_Prefix_73: function 73 -/
mutual
def impl_Prefix_73.l0 : Nat → List (List (S91)) → Int → List (List (S91)) → Int → Int → Option ((List (S91)))
 | 0, _, _, _, _, _ => none
 | k + 1, x0, x3, x9, x10, x11 => if x11 < x10 then (if 0 ≤ x11 then (if x11 < (x9.length : Int) then (if (wrap64 (x3 + ((rd_L4 x9 x11).length : Int))) < 0 then (none) else (impl_Prefix_73.l0 k x0 (wrap64 (x3 + ((rd_L4 x9 x11).length : Int))) x9 x10 (wrap64 (x11 + 1)))) else (none)) else (none)) else ((impl_Prefix_131.f x3).bind fun t349 => (impl_Prefix_73.l1 k t349 x0 (x0.length : Int) 0))
def impl_Prefix_73.l1 : Nat → List (S91) → List (List (S91)) → Int → Int → Option ((List (S91)))
 | 0, _, _, _, _ => none
 | k + 1, x6, x25, x26, x27 => if x27 < x26 then (if 0 ≤ x27 then (if x27 < (x25.length : Int) then (if x6.length + (rd_L4 x25 x27).length < 8796093022208 then (impl_Prefix_73.l1 k (x6 ++ (rd_L4 x25 x27)) x25 x26 (wrap64 (x27 + 1))) else (none)) else (none)) else (none)) else (some x6)
end
def impl_Prefix_73.f (k : Nat) (l0 : List (List (S91))) : Option ((List (S91))) := impl_Prefix_73.l0 k l0 0 l0 (l0.length : Int) 0
theorem impl_Prefix_73.mono_l : ∀ k, (∀ y0 y1 y2 y3 y4, LeO (impl_Prefix_73.l0 k y0 y1 y2 y3 y4) (impl_Prefix_73.l0 (k + 1) y0 y1 y2 y3 y4)) ∧ (∀ y0 y1 y2 y3, LeO (impl_Prefix_73.l1 k y0 y1 y2 y3) (impl_Prefix_73.l1 (k + 1) y0 y1 y2 y3))
 | 0 => ⟨fun _ _ _ _ _ r h => by simp [impl_Prefix_73.l0] at h, fun _ _ _ _ r h => by simp [impl_Prefix_73.l1] at h⟩
 | k + 1 => by
  obtain ⟨ih0, ih1⟩ := impl_Prefix_73.mono_l k
  refine ⟨?_, ?_⟩
  ·
   intro y0 y1 y2 y3 y4
   unfold impl_Prefix_73.l0
   repeat' first
   | (with_reducible exact ih0 _ _ _ _ _)
   | (with_reducible exact ih1 _ _ _ _)
   | (with_reducible exact LeO.refl _)
   | (with_reducible exact LeO.none _)
   | (with_reducible refine LeO.ite ?_ ?_)
   | (with_reducible refine LeO.bind ?_ (fun _ => ?_))
   | exact ih0 _ _ _ _ _
   | exact ih1 _ _ _ _
   | exact LeO.none _
   | refine LeO.ite ?_ ?_
   | refine LeO.bind ?_ (fun _ => ?_)
  ·
   intro y0 y1 y2 y3
   unfold impl_Prefix_73.l1
   repeat' first
   | (with_reducible exact ih0 _ _ _ _ _)
   | (with_reducible exact ih1 _ _ _ _)
   | (with_reducible exact LeO.refl _)
   | (with_reducible exact LeO.none _)
   | (with_reducible refine LeO.ite ?_ ?_)
   | (with_reducible refine LeO.bind ?_ (fun _ => ?_))
   | exact ih0 _ _ _ _ _
   | exact ih1 _ _ _ _
   | exact LeO.none _
   | refine LeO.ite ?_ ?_
   | refine LeO.bind ?_ (fun _ => ?_)
theorem impl_Prefix_73.mono : ∀ a0 k, LeO (impl_Prefix_73.f k a0) (impl_Prefix_73.f (k + 1) a0) := by
 intro a0 k
 obtain ⟨ih0, ih1⟩ := impl_Prefix_73.mono_l k
 unfold impl_Prefix_73.f
 repeat' first
   | (with_reducible exact ih0 _ _ _ _ _)
   | (with_reducible exact ih1 _ _ _ _)
   | (with_reducible exact LeO.refl _)
   | (with_reducible exact LeO.none _)
   | (with_reducible refine LeO.ite ?_ ?_)
   | (with_reducible refine LeO.bind ?_ (fun _ => ?_))
   | exact ih0 _ _ _ _ _
   | exact ih1 _ _ _ _
   | exact LeO.none _
   | refine LeO.ite ?_ ?_
   | refine LeO.bind ?_ (fun _ => ?_)
set_option maxHeartbeats 8000000 in
set_option maxRecDepth 100000 in
theorem impl_Prefix_73.calls (k : Nat) (A0 : Option Addr) (c0 : Nat) (l0 : List (List (S91))) (r : List (S91)) (w : World) (hr0 : Kd.C (Kd.slice 91 k91) w A0 l0.length l0) (hc0 : l0.length ≤ c0) (h : impl_Prefix_73.f k l0 = some r) :
  Calls Try.prog 73 #[.slice A0 l0.length c0] w fun e w' => ∃ v0_ : Value, e = .returned (v0_) ∧ Kd.R k91 91 w' w.heap.size (fun _ => True) v0_ r ∧ Below w.heap.size w w' := by
 have HR0 := Aside0.mk hr0
 have HC0 := Aside0.mk hc0
 clear hr0 hc0
 have HB := Aside0.mk (Below.refl w.heap.size w)
 have H : (impl_Prefix_73.l0 k l0 0 l0 (l0.length : Int) 0) = some r := h
 clear h
 have H' := Aside0.mk H
 clear H
 go_enter Try.func73, Try.ntmps73
 go_wp2
 go_loopg [3, 11] k (fun kq v3 v11 w' => ∃ (x3_1 : Int) (x11_1 : Int), v3 = .int .i64 x3_1 ∧ v11 = .int .i64 x11_1 ∧ Aside0 (impl_Prefix_73.l0 kq l0 x3_1 l0 (l0.length : Int) x11_1 = some r) ∧ Aside0 (kq ≤ k) ∧ Aside0 (Below w.heap.size w w'))
 case atStart => exact ⟨(0), (0), (by first | rfl | (simp; done) | (simp [*]; done)), (by first | rfl | (simp; done) | (simp [*]; done)), H', ⟨Nat.le_refl _⟩, ⟨bel HB⟩⟩
 case round =>
  clear H'
  obtain ⟨x3_1, x11_1, rfl, rfl, HA, HK1, HB⟩ := hrel
  cases gk with
  | zero => exact absurd HA.out (by simp [impl_Prefix_73.l0])
  | succ k1 =>
   have H := HA.out
   clear HA
   simp only [impl_Prefix_73.l0] at H
   by_cases c2 : x11_1 < (l0.length : Int)
   ·
    rw [if_pos c2] at H
    have c2b0 : decide (x11_1 < (l0.length : Int)) = true := decide_eq_true c2
    have c2e := eq_true c2
    clear c2
    by_cases c3 : 0 ≤ x11_1
    ·
     rw [if_pos c3] at H
     have c3b0 : decide (0 ≤ x11_1) = true := decide_eq_true c3
     have c3e := eq_true c3
     clear c3
     by_cases c4 : x11_1 < (l0.length : Int)
     ·
      rw [if_pos c4] at H
      have c4b0 : decide (x11_1 < (l0.length : Int)) = true := decide_eq_true c4
      have c4e := eq_true c4
      clear c4
      by_cases c5 : (wrap64 (x3_1 + ((rd_L4 l0 x11_1).length : Int))) < 0
      ·
       rw [if_pos c5] at H
       exact absurd H (by simp)
      ·
       rw [if_neg c5] at H
       have c5b0 : decide ((wrap64 (x3_1 + ((rd_L4 l0 x11_1).length : Int))) < 0) = false := decide_eq_false c5
       have c5e := eq_false c5
       clear c5
       have H' := Aside0.mk H
       clear H
       have p348 : 0 ≤ (x11_1 : Int) := of_decide_eq_true (by first | (with_reducible assumption) | assumption)
       have q348 : x11_1 < (l0.length : Int) := of_decide_eq_true (by first | (with_reducible assumption) | assumption)
       obtain ⟨ad348, A348_0, c348_0, e348, hx348_0, hl348_0, hi348_0⟩ := at_L4 HR0.out x11_1 p348 q348
       cases e348
       replace hx348_0 := (HB.out.cell (World.block_lt_of_cell? w _ hx348_0)).trans hx348_0
       have HR348_0 := Aside0.mk hi348_0
       have HC348_0 := Aside0.mk hl348_0
       clear hi348_0 hl348_0
       replace p348 := eq_true p348
       replace q348 := eq_true q348
       go_wp2
       go_roundg k1
       case measure => have := HK1.out; omega
       case rel => exact ⟨(wrap64 (x3_1 + ((rd_L4 l0 x11_1).length : Int))), (wrap64 (x11_1 + 1)), (by first | rfl | (simp; done) | (simp [*]; done)), (by first | rfl | (simp; done) | (simp [*]; done)), H', ⟨by have := HK1.out; omega⟩, ⟨bel HB⟩⟩
     ·
      rw [if_neg c4] at H
      exact absurd H (by simp)
    ·
     rw [if_neg c3] at H
     exact absurd H (by simp)
   ·
    rw [if_neg c2] at H
    have c2b0 : decide (x11_1 < (l0.length : Int)) = false := decide_eq_false c2
    have c2e := eq_false c2
    clear c2
    replace H := Option.bind_eq_some_iff.mp H
    obtain ⟨t349, A60, H⟩ := H
    replace H : (impl_Prefix_73.l1 k1 t349 l0 (l0.length : Int) 0) = some r := H
    have A6 := Aside0.mk A60
    clear A60
    have H' := Aside0.mk H
    clear H
    go_wp2_with (first | ((with_reducible refine gate_callee (f := 131) rfl ?_); refine goA (some 24) rfl rfl Try.func131 rfl #[.slice none 0 0, .int .i64 x3_1] rfl ?_; (with_reducible refine (impl_Prefix_131.calls x3_1 t349 _ A6.out).mono ?_); rintro e w7 ⟨v350, rfl, ho0, hb⟩; refine ⟨_, rfl, ?_⟩; have HO351 := Aside0.mk (Kd.R_lower ho0 (below_size (bel HB))); replace HB := bS HB hb; (try clear hb); (try clear hb2); (try clear hk); (try clear hi); (try clear ho0)))
    go_loopg [6, 27] k1 (fun kq v6 v27 w' => ∃ (x6_2 : List (S91)) (x27_2 : Int), v27 = .int .i64 x27_2 ∧ Aside0 (impl_Prefix_73.l1 kq x6_2 l0 (l0.length : Int) x27_2 = some r) ∧ Aside0 (kq ≤ k1) ∧ Aside0 (Kd.R k91 91 w' w.heap.size (fun _ => True) v6 x6_2) ∧ Aside0 (Below w.heap.size w w'))
    case atStart => exact ⟨(t349), (0), (by first | rfl | (simp; done) | (simp [*]; done)), H', ⟨Nat.le_refl _⟩, ⟨by (with_reducible repeat (first | apply Kd.R_alloc | apply Kd.R_drewN | apply Kd.R_drew)); exact HO351.out⟩, ⟨bel HB⟩⟩
    case round =>
     clear H'
     try clear c1
     try clear c2e
     try clear c2
     try clear c2b0
     try clear p2
     try clear c3e
     try clear c3
     try clear c3b0
     try clear p3
     try clear q3
     try clear hx3
     try clear c4e
     try clear c4
     try clear c4b0
     try clear c5e
     try clear c5
     try clear c5b0
     try clear p6
     try clear c7
     try clear hx348_0
     try clear p348
     try clear q348
     obtain ⟨x6_2, x27_2, rfl, HA, HK2, HO_6, HB⟩ := hrel
     cases gk with
     | zero => exact absurd HA.out (by simp [impl_Prefix_73.l1])
     | succ k2 =>
      have H := HA.out
      clear HA
      simp only [impl_Prefix_73.l1] at H
      by_cases c8 : x27_2 < (l0.length : Int)
      ·
       rw [if_pos c8] at H
       have c8b0 : decide (x27_2 < (l0.length : Int)) = true := decide_eq_true c8
       have c8e := eq_true c8
       clear c8
       by_cases c9 : 0 ≤ x27_2
       ·
        rw [if_pos c9] at H
        have c9b0 : decide (0 ≤ x27_2) = true := decide_eq_true c9
        have c9e := eq_true c9
        clear c9
        by_cases c10 : x27_2 < (l0.length : Int)
        ·
         rw [if_pos c10] at H
         have c10b0 : decide (x27_2 < (l0.length : Int)) = true := decide_eq_true c10
         have c10e := eq_true c10
         clear c10
         by_cases c11 : x6_2.length + (rd_L4 l0 x27_2).length < 8796093022208
         ·
          rw [if_pos c11] at H
          have LMc11 := Aside0.mk c11
          clear c11
          obtain ⟨y353, hy353⟩ : ∃ y_ : List (S91), y_ = (x6_2 ++ (rd_L4 l0 x27_2)) := ⟨_, rfl⟩
          replace H : (impl_Prefix_73.l1 k2 y353 l0 (l0.length : Int) (wrap64 (x27_2 + 1))) = some r := by first | (rw [hy353]; with_reducible exact H) | (have H2_ := (Option.bind_some _ _).symm.trans H; rw [hy353]; with_reducible exact H2_) | (have H2_ := (Option.bind_some _ _).symm.trans H; with_reducible exact H2_) | with_reducible exact H | (rw [hy353]; exact H) | exact H
          have Ny353 := Aside0.mk hy353
          clear hy353
          have H' := Aside0.mk H
          clear H
          have p352 : 0 ≤ (x27_2 : Int) := of_decide_eq_true (by first | (with_reducible assumption) | assumption)
          have q352 : x27_2 < (l0.length : Int) := of_decide_eq_true (by first | (with_reducible assumption) | assumption)
          obtain ⟨ad352, A352_0, c352_0, e352, hx352_0, hl352_0, hi352_0⟩ := at_L4 HR0.out x27_2 p352 q352
          cases e352
          replace hx352_0 := (HB.out.cell (World.block_lt_of_cell? w _ hx352_0)).trans hx352_0
          have HR352_0 := Aside0.mk hi352_0
          have HC352_0 := Aside0.mk hl352_0
          clear hi352_0 hl352_0
          replace p352 := eq_true p352
          replace q352 := eq_true q352
          go_wp2_with (first | ((with_reducible refine gate_builtin (b := .append) (xs := #[.tmp 31, .tmp 32]) rfl ?_); at_builtin; refine Kd.R_append_rows k91 (w0 := w) w.heap.size rfl (.tmp 31) (.tmp 32) 35 91 (.agg #[(.int .i64 0), (.int .i64 0)]) 16 rfl Try.underlying35 info91 rfl (by decide) (by omega) u6 x6_2 (rd_L4 l0 x27_2) _ _ _ (fun _ => True) (fun _ => False) rfl rfl ?aO ?aR (fun _ _ h => h) (fun _ h => h.elim) ?aF ?aB ?aS ?aL ?_; (case aR => repeat (first | exact (Kd.C_below HR352_0.out HB.out) | (with_reducible refine Kd.C_alloc ?_ _) | (with_reducible refine Kd.C_drewN ?_ _) | (with_reducible refine Kd.C_drew ?_))); (case aB => exact (bel HB)); (case aF => exact (fun _ _ => trivial)); (case aO => exact (mR HO_6)); (case aS => exact (below_size (bel HB))); (case aL => have := LMc11.out; omega); intro v354 w12 ho hb hg hat; rw [← Ny353.out] at ho; replace HB := Aside0.mk hb; have HO355 := Aside0.mk ho; clear HO_6; clear ho hb hg hat))
          go_roundg k2
          case measure => have := HK1.out; have := HK2.out; omega
          case rel => exact ⟨(y353), (wrap64 (x27_2 + 1)), (by first | rfl | (simp; done) | (simp [*]; done)), H', ⟨by have := HK1.out; have := HK2.out; omega⟩, ⟨by (with_reducible repeat (first | apply Kd.R_alloc | apply Kd.R_drewN | apply Kd.R_drew)); exact HO355.out⟩, ⟨bel HB⟩⟩
         ·
          rw [if_neg c11] at H
          exact absurd H (by simp)
        ·
         rw [if_neg c10] at H
         exact absurd H (by simp)
       ·
        rw [if_neg c9] at H
        exact absurd H (by simp)
      ·
       rw [if_neg c8] at H
       have c8b0 : decide (x27_2 < (l0.length : Int)) = false := decide_eq_false c8
       have c8e := eq_false c8
       clear c8
       obtain rfl := Option.some.inj H
       go_wp2
       go_ret
       exact ⟨_, by first | rfl | (simp [errW_none, errW_some] <;> rfl) | (simp [*, errW_none, errW_some] <;> rfl), by (with_reducible repeat (first | apply Kd.R_alloc | apply Kd.R_drewN | apply Kd.R_drew)); exact HO_6.out, bel HB⟩

/-! ### impl_Attrs_isZero: function 74 -/
def impl_Attrs_isZero.f (a0_0 : Int) (l0_1 : List Int) (a0_2 : Int) (a0_3 : Int) (a0_4 : Int) : Option (Bool) := if a0_0 = 0 then (if (l0_1.length : Int) = 0 then (if a0_2 = 0 then (if a0_3 = 0 then (some (a0_4 == 0)) else (some false)) else (some false)) else (some false)) else (some false)
set_option maxHeartbeats 8000000 in
set_option maxRecDepth 100000 in
theorem impl_Attrs_isZero.calls (a0_0 : Int) (A0_1 : Option Addr) (c0_1 : Nat) (l0_1 : List Int) (a0_2 : Int) (a0_3 : Int) (a0_4 : Int) (r : Bool) (w : World) (hr0_1 : Kd.C (Kd.int .i64) w A0_1 l0_1.length l0_1) (hc0_1 : l0_1.length ≤ c0_1) (h : impl_Attrs_isZero.f a0_0 l0_1 a0_2 a0_3 a0_4 = some r) :
  Calls Try.prog 74 #[.agg #[.int .i64 a0_0, .slice A0_1 l0_1.length c0_1, .int .i64 a0_2, .int .i64 a0_3, .int .i64 a0_4]] w fun e w' => e = .returned (.bool r) ∧ Below w.heap.size w w' := by
 have hu36 := Try.underlying36
 have HR0_1 := Aside0.mk hr0_1
 have HC0_1 := Aside0.mk hc0_1
 clear hr0_1 hc0_1
 have HB := Aside0.mk (Below.refl w.heap.size w)
 have H : (if a0_0 = 0 then (if (l0_1.length : Int) = 0 then (if a0_2 = 0 then (if a0_3 = 0 then (some (a0_4 == 0)) else (some false)) else (some false)) else (some false)) else (some false)) = some r := h
 clear h
 have H' := Aside0.mk H
 clear H
 go_enter Try.func74, Try.ntmps74
 repeat (first | ((with_reducible refine gate_dst (N := 1) rfl ?_); (try (refine gate_guard (by rfl) ?_; dsimp only)); refine boxE #[.int .i64 a0_0, .slice A0_1 l0_1.length c0_1, .int .i64 a0_2, .int .i64 a0_3, .int .i64 a0_4] 36 (N := 1) rfl rfl ?_; intro gb356 hg w2 hbox hb; have BK356 := Aside0.mk hbox; have GW356 := gZ HB hg; have GE356 := gZ HB hg; replace HB := bS HB hb; clear hb hbox hg; have hz3 := cl5 BK356) | go_values | go_skip | ((with_reducible refine gateG ?gw ?_); (case gw => rfl)) | refine wpList_skip (by rfl) ?_ | refine wp_cond_true rfl ?_ | refine wp_cond_false rfl ?_ | (with_reducible refine iteTr (by first | assumption | omega) ?_) | (with_reducible refine iteFl (by first | assumption | omega) ?_) | ((fail_if_success (with_reducible refine condP ?_)); (fail_if_success (with_reducible refine iteP ?_)); (fail_if_success (with_reducible refine grdP ?_)); go_step) | go_upon | (simp only [Int.not_lt, Int.not_le] at *; go_simp))
 have H := H'.out
 clear H'
 by_cases c4 : a0_0 = 0
 ·
  rw [if_pos c4] at H
  have c4b0 : (a0_0 == 0) = true := beq_iff_eq.mpr c4
  have c4b1 : (a0_0 != 0) = false := bne_eq_false_iff_eq.mpr c4
  have c4e := eq_true c4
  clear c4
  (first | rw [c4b0] | (simp only [i64_w, i32_w]; rw [c4b0]) | skip)
  (try simp only [c4b0, c4b1]); (try (with_reducible refine iteP ?_; simp only [c4e, ↓reduceIte]))
  by_cases c5 : (l0_1.length : Int) = 0
  ·
   rw [if_pos c5] at H
   have c5b0 : ((l0_1.length : Int) == 0) = true := beq_iff_eq.mpr c5
   have c5b1 : ((l0_1.length : Int) != 0) = false := bne_eq_false_iff_eq.mpr c5
   have c5e := eq_true c5
   clear c5
   by_cases c6 : a0_2 = 0
   ·
    rw [if_pos c6] at H
    have c6b0 : (a0_2 == 0) = true := beq_iff_eq.mpr c6
    have c6b1 : (a0_2 != 0) = false := bne_eq_false_iff_eq.mpr c6
    have c6e := eq_true c6
    clear c6
    by_cases c7 : a0_3 = 0
    ·
     rw [if_pos c7] at H
     have c7b0 : (a0_3 == 0) = true := beq_iff_eq.mpr c7
     have c7b1 : (a0_3 != 0) = false := bne_eq_false_iff_eq.mpr c7
     have c7e := eq_true c7
     clear c7
     obtain rfl := Option.some.inj H
     have hz8 := cl5 BK356
     go_wp2
     go_ret
     exact ⟨by first | rfl | (simp [errW_none, errW_some] <;> rfl) | (simp [*, errW_none, errW_some] <;> rfl), bel HB⟩
    ·
     rw [if_neg c7] at H
     have c7b0 : (a0_3 == 0) = false := beq_eq_false_iff_ne.mpr c7
     have c7b1 : (a0_3 != 0) = true := bne_iff_ne.mpr c7
     have c7e := eq_false c7
     obtain rfl := Option.some.inj H
     have hz9 := cl5 BK356
     go_wp2
     go_ret
     exact ⟨by first | rfl | (simp [errW_none, errW_some] <;> rfl) | (simp [*, errW_none, errW_some] <;> rfl), bel HB⟩
   ·
    rw [if_neg c6] at H
    have c6b0 : (a0_2 == 0) = false := beq_eq_false_iff_ne.mpr c6
    have c6b1 : (a0_2 != 0) = true := bne_iff_ne.mpr c6
    have c6e := eq_false c6
    obtain rfl := Option.some.inj H
    have hz10 := cl5 BK356
    go_wp2
    go_ret
    exact ⟨by first | rfl | (simp [errW_none, errW_some] <;> rfl) | (simp [*, errW_none, errW_some] <;> rfl), bel HB⟩
  ·
   rw [if_neg c5] at H
   have c5b0 : ((l0_1.length : Int) == 0) = false := beq_eq_false_iff_ne.mpr c5
   have c5b1 : ((l0_1.length : Int) != 0) = true := bne_iff_ne.mpr c5
   have c5b2 : ¬ (l0_1 = []) := fun h_ => c5 (by rw [h_]; rfl)
   have c5e := eq_false c5
   obtain rfl := Option.some.inj H
   have hz11 := cl5 BK356
   go_wp2
   go_ret
   exact ⟨by first | rfl | (simp [errW_none, errW_some] <;> rfl) | (simp [*, errW_none, errW_some] <;> rfl), bel HB⟩
 ·
  rw [if_neg c4] at H
  have c4b0 : (a0_0 == 0) = false := beq_eq_false_iff_ne.mpr c4
  have c4b1 : (a0_0 != 0) = true := bne_iff_ne.mpr c4
  have c4e := eq_false c4
  (first | rw [c4b0] | (simp only [i64_w, i32_w]; rw [c4b0]) | skip)
  (try simp only [c4b0, c4b1]); (try (with_reducible refine iteP ?_; simp only [c4e, ↓reduceIte]))
  obtain rfl := Option.some.inj H
  go_wp2
  go_ret
  exact ⟨by first | rfl | (simp [errW_none, errW_some] <;> rfl) | (simp [*, errW_none, errW_some] <;> rfl), bel HB⟩

/-! ### impl_isTwo: function 133 -/
def impl_isTwo.f (a0 : Int) : Option (Bool) := (impl_in.f a0 0 65535).bind fun t357 => (some t357)
set_option maxHeartbeats 8000000 in
set_option maxRecDepth 100000 in
theorem impl_isTwo.calls (a0 : Int) (r : Bool) (w : World) (h : impl_isTwo.f a0 = some r) :
  Calls Try.prog 133 #[.int .i64 a0] w fun e w' => e = .returned (.bool r) ∧ Drawn0 w w' := by
 have H : ((impl_in.f a0 0 65535).bind fun t357 => (some t357)) = some r := h
 clear h
 replace H := Option.bind_eq_some_iff.mp H
 obtain ⟨t357, A20, H⟩ := H
 replace H : (some t357) = some r := H
 have A2 := Aside0.mk A20
 clear A20
 obtain rfl := Option.some.inj H
 go_enter Try.func133, Try.ntmps133
 go_wp2_with (first | ((with_reducible refine gate_callee (f := 110) rfl ?_); refine goA (some 4) rfl rfl Try.func110 rfl #[.int .i64 a0, .int .i64 0, .int .i64 65535] rfl ?_; (with_reducible refine (impl_in.calls a0 0 65535 t357 _ A2.out).mono ?_); rintro e w' ⟨rfl, ⟨nd, rfl⟩⟩; refine ⟨_, rfl, ?_⟩))
 go_ret
 exact ⟨by first | rfl | (simp; done) | (simp [*]; done), drw⟩

/-! ### impl_isSystem: function 111 -/
def impl_isSystem.f (a0 : Int) : Option (Bool) := (impl_in.f a0 1 65535).bind fun t358 => (some t358)
set_option maxHeartbeats 8000000 in
set_option maxRecDepth 100000 in
theorem impl_isSystem.calls (a0 : Int) (r : Bool) (w : World) (h : impl_isSystem.f a0 = some r) :
  Calls Try.prog 111 #[.int .i64 a0] w fun e w' => e = .returned (.bool r) ∧ Drawn0 w w' := by
 have H : ((impl_in.f a0 1 65535).bind fun t358 => (some t358)) = some r := h
 clear h
 replace H := Option.bind_eq_some_iff.mp H
 obtain ⟨t358, A20, H⟩ := H
 replace H : (some t358) = some r := H
 have A2 := Aside0.mk A20
 clear A20
 obtain rfl := Option.some.inj H
 go_enter Try.func111, Try.ntmps111
 go_wp2_with (first | ((with_reducible refine gate_callee (f := 110) rfl ?_); refine goA (some 4) rfl rfl Try.func110 rfl #[.int .i64 a0, .int .i64 1, .int .i64 65535] rfl ?_; (with_reducible refine (impl_in.calls a0 1 65535 t358 _ A2.out).mono ?_); rintro e w' ⟨rfl, ⟨nd, rfl⟩⟩; refine ⟨_, rfl, ?_⟩))
 go_ret
 exact ⟨by first | rfl | (simp; done) | (simp [*]; done), drw⟩

/-! ### impl_AttrsFault_1: function 135 -/
def impl_AttrsFault_1.f (a0 : Int) : Option (Bool) := (impl_isSystem.f a0).bind fun t359 => (some (!t359))
set_option maxHeartbeats 8000000 in
set_option maxRecDepth 100000 in
theorem impl_AttrsFault_1.calls (a0 : Int) (r : Bool) (w : World) (h : impl_AttrsFault_1.f a0 = some r) :
  Calls Try.prog 135 #[.int .i64 a0] w fun e w' => e = .returned (.bool r) ∧ Drawn0 w w' := by
 have H : ((impl_isSystem.f a0).bind fun t359 => (some (!t359))) = some r := h
 clear h
 replace H := Option.bind_eq_some_iff.mp H
 obtain ⟨t359, A20, H⟩ := H
 replace H : (some (!t359)) = some r := H
 have A2 := Aside0.mk A20
 clear A20
 obtain rfl := Option.some.inj H
 go_enter Try.func135, Try.ntmps135
 go_wp2_with (first | ((with_reducible refine gate_callee (f := 111) rfl ?_); refine goA (some 4) rfl rfl Try.func111 rfl #[.int .i64 a0] rfl ?_; (with_reducible refine (impl_isSystem.calls a0 t359 _ A2.out).mono ?_); rintro e w' ⟨rfl, ⟨nd, rfl⟩⟩; refine ⟨_, rfl, ?_⟩))
 go_ret
 exact ⟨by first | rfl | (simp; done) | (simp [*]; done), drw⟩

/-! ### slices_IndexFunc_int64_int64: function 151 -/
def slices_IndexFunc_int64_int64.l0 : Nat → List Int → Int → Int → Option (Int)
 | 0, _, _, _ => none
 | k + 1, x0, x7, x8 => if x8 < x7 then (if 0 ≤ x8 then (if x8 < (x0.length : Int) then ((impl_AttrsFault_1.f (rd x0 x8)).bind fun t361 => (if t361 = true then (some x8) else (slices_IndexFunc_int64_int64.l0 k x0 x7 (wrap64 (x8 + 1))))) else (none)) else (none)) else (some (-1))
def slices_IndexFunc_int64_int64.f (k : Nat) (l0 : List Int)  : Option (Int) := slices_IndexFunc_int64_int64.l0 k l0 (l0.length : Int) 0
theorem slices_IndexFunc_int64_int64.mono_l : ∀ k, (∀ y0 y1 y2, LeO (slices_IndexFunc_int64_int64.l0 k y0 y1 y2) (slices_IndexFunc_int64_int64.l0 (k + 1) y0 y1 y2))
 | 0 => fun _ _ _ r h => by simp [slices_IndexFunc_int64_int64.l0] at h
 | k + 1 => by
  have ih0 := slices_IndexFunc_int64_int64.mono_l k
  ·
   intro y0 y1 y2
   unfold slices_IndexFunc_int64_int64.l0
   repeat' first
   | (with_reducible exact ih0 _ _ _)
   | (with_reducible exact LeO.refl _)
   | (with_reducible exact LeO.none _)
   | (with_reducible refine LeO.ite ?_ ?_)
   | (with_reducible refine LeO.bind ?_ (fun _ => ?_))
   | exact ih0 _ _ _
   | exact LeO.none _
   | refine LeO.ite ?_ ?_
   | refine LeO.bind ?_ (fun _ => ?_)
theorem slices_IndexFunc_int64_int64.mono : ∀ a0 k, LeO (slices_IndexFunc_int64_int64.f k a0) (slices_IndexFunc_int64_int64.f (k + 1) a0) := by
 intro a0 k
 have ih0 := slices_IndexFunc_int64_int64.mono_l k
 unfold slices_IndexFunc_int64_int64.f
 repeat' first
   | (with_reducible exact ih0 _ _ _)
   | (with_reducible exact LeO.refl _)
   | (with_reducible exact LeO.none _)
   | (with_reducible refine LeO.ite ?_ ?_)
   | (with_reducible refine LeO.bind ?_ (fun _ => ?_))
   | exact ih0 _ _ _
   | exact LeO.none _
   | refine LeO.ite ?_ ?_
   | refine LeO.bind ?_ (fun _ => ?_)
set_option maxHeartbeats 8000000 in
set_option maxRecDepth 100000 in
theorem slices_IndexFunc_int64_int64.calls (k : Nat) (A0 : Option Addr) (c0 : Nat) (l0 : List Int)  (r : Int) (w : World) (hr0 : Kd.C (Kd.int .i64) w A0 l0.length l0) (hc0 : l0.length ≤ c0) (h : slices_IndexFunc_int64_int64.f k l0 = some r) :
  Calls Try.prog 151 #[.slice A0 l0.length c0, .func (.func 135) #[] #[]] w fun e w' => e = .returned (.int .i64 r) ∧ Drawn0 w w' := by
 have HR0 := Aside0.mk hr0
 have HC0 := Aside0.mk hc0
 clear hr0 hc0
 have H : (slices_IndexFunc_int64_int64.l0 k l0 (l0.length : Int) 0) = some r := h
 clear h
 have H' := Aside0.mk H
 clear H
 go_enter Try.func151, Try.ntmps151
 go_wp2
 go_loopg [8] k (fun kq v8 w' => ∃ (x8_1 : Int), v8 = .int .i64 x8_1 ∧ Aside0 (slices_IndexFunc_int64_int64.l0 kq l0 (l0.length : Int) x8_1 = some r) ∧ Aside0 (kq ≤ k) ∧ Drawn0 w w')
 case atStart => exact ⟨(0), (by first | rfl | (simp; done) | (simp [*]; done)), H', ⟨Nat.le_refl _⟩, drw⟩
 case round =>
  clear H'
  try clear c1
  try clear p2
  obtain ⟨x8_1, rfl, HA, HK1, ⟨m1, rfl⟩⟩ := hrel
  cases gk with
  | zero => exact absurd HA.out (by simp [slices_IndexFunc_int64_int64.l0])
  | succ k1 =>
   have H := HA.out
   clear HA
   simp only [slices_IndexFunc_int64_int64.l0] at H
   by_cases c3 : x8_1 < (l0.length : Int)
   ·
    rw [if_pos c3] at H
    have c3b0 : decide (x8_1 < (l0.length : Int)) = true := decide_eq_true c3
    have c3e := eq_true c3
    clear c3
    by_cases c4 : 0 ≤ x8_1
    ·
     rw [if_pos c4] at H
     have c4b0 : decide (0 ≤ x8_1) = true := decide_eq_true c4
     have c4e := eq_true c4
     clear c4
     by_cases c5 : x8_1 < (l0.length : Int)
     ·
      rw [if_pos c5] at H
      have c5b0 : decide (x8_1 < (l0.length : Int)) = true := decide_eq_true c5
      have c5e := eq_true c5
      clear c5
      replace H := Option.bind_eq_some_iff.mp H
      obtain ⟨t361, A60, H⟩ := H
      replace H : (if t361 = true then (some x8_1) else (slices_IndexFunc_int64_int64.l0 k1 l0 (l0.length : Int) (wrap64 (x8_1 + 1)))) = some r := H
      have A6 := Aside0.mk A60
      clear A60
      have H' := Aside0.mk H
      clear H
      have p360 : 0 ≤ (x8_1 : Int) := of_decide_eq_true (by first | (with_reducible assumption) | assumption)
      have q360 : x8_1 < (l0.length : Int) := of_decide_eq_true (by first | (with_reducible assumption) | assumption)
      obtain ⟨ad360, e360, hx360_0⟩ := Kd.at_int HR0.out x8_1 p360 q360
      cases e360
      replace p360 := eq_true p360
      replace q360 := eq_true q360
      repeat (first | (go_at_call 135; (with_reducible refine (impl_AttrsFault_1.calls (rd l0 x8_1) t361 _ A6.out).mono ?_); rintro e w' ⟨rfl, ⟨nd, rfl⟩⟩) | go_values | go_skip | ((with_reducible refine gateG ?gw ?_); (case gw => rfl)) | refine wpList_skip (by rfl) ?_ | refine wp_cond_true rfl ?_ | refine wp_cond_false rfl ?_ | (with_reducible refine iteTr (by first | assumption | omega) ?_) | (with_reducible refine iteFl (by first | assumption | omega) ?_) | ((fail_if_success (with_reducible refine condP ?_)); (fail_if_success (with_reducible refine iteP ?_)); (fail_if_success (with_reducible refine grdP ?_)); go_step) | go_upon | (simp only [Int.not_lt, Int.not_le] at *; go_simp))
      have H := H'.out
      clear H'
      by_cases c7 : t361 = true
      ·
       subst c7
       have H1 : (some x8_1) = some r := by rw [if_pos rfl] at H; first | done | exact H
       clear H
       have H := H1
       clear H1
       obtain rfl := Option.some.inj H
       go_wp2
       go_ret
       exact ⟨by first | rfl | (simp; done) | (simp [*]; done), drw⟩
      ·
       replace c7 := Bool.eq_false_iff.mpr c7
       subst c7
       have H1 : (slices_IndexFunc_int64_int64.l0 k1 l0 (l0.length : Int) (wrap64 (x8_1 + 1))) = some r := by rw [if_neg (show ¬ (false = true) by decide)] at H; first | done | exact H
       clear H
       have H := H1
       clear H1
       have H' := Aside0.mk H
       clear H
       go_wp2
       go_roundg k1
       case measure => have := HK1.out; omega
       case rel => exact ⟨(wrap64 (x8_1 + 1)), (by first | rfl | (simp; done) | (simp [*]; done)), H', ⟨by have := HK1.out; omega⟩, drw⟩
     ·
      rw [if_neg c5] at H
      exact absurd H (by simp)
    ·
     rw [if_neg c4] at H
     exact absurd H (by simp)
   ·
    rw [if_neg c3] at H
    have c3b0 : decide (x8_1 < (l0.length : Int)) = false := decide_eq_false c3
    have c3e := eq_false c3
    clear c3
    obtain rfl := Option.some.inj H
    go_wp2
    go_ret
    exact ⟨by first | rfl | (simp; done) | (simp [*]; done), drw⟩

/-! ### slices_ContainsFunc_int64_int64: function 134 -/
def slices_ContainsFunc_int64_int64.f (k : Nat) (l0 : List Int)  : Option (Bool) := (slices_IndexFunc_int64_int64.f k l0).bind fun t362 => (some (decide (t362 ≥ 0)))
theorem slices_ContainsFunc_int64_int64.mono : ∀ a0 k, LeO (slices_ContainsFunc_int64_int64.f k a0) (slices_ContainsFunc_int64_int64.f (k + 1) a0) := by
 intro a0 k
 unfold slices_ContainsFunc_int64_int64.f
 repeat' first
   | (with_reducible exact slices_IndexFunc_int64_int64.mono _ _)
   | (with_reducible exact LeO.refl _)
   | (with_reducible exact LeO.none _)
   | (with_reducible refine LeO.ite ?_ ?_)
   | (with_reducible refine LeO.bind ?_ (fun _ => ?_))
   | exact slices_IndexFunc_int64_int64.mono _ _
   | exact LeO.none _
   | refine LeO.ite ?_ ?_
   | refine LeO.bind ?_ (fun _ => ?_)
set_option maxHeartbeats 8000000 in
set_option maxRecDepth 100000 in
theorem slices_ContainsFunc_int64_int64.calls (k : Nat) (A0 : Option Addr) (c0 : Nat) (l0 : List Int)  (r : Bool) (w : World) (hr0 : Kd.C (Kd.int .i64) w A0 l0.length l0) (hc0 : l0.length ≤ c0) (h : slices_ContainsFunc_int64_int64.f k l0 = some r) :
  Calls Try.prog 134 #[.slice A0 l0.length c0, .func (.func 135) #[] #[]] w fun e w' => e = .returned (.bool r) ∧ Drawn0 w w' := by
 have HR0 := Aside0.mk hr0
 have HC0 := Aside0.mk hc0
 clear hr0 hc0
 have H : ((slices_IndexFunc_int64_int64.f k l0).bind fun t362 => (some (decide (t362 ≥ 0)))) = some r := h
 clear h
 replace H := Option.bind_eq_some_iff.mp H
 obtain ⟨t362, A30, H⟩ := H
 replace H : (some (decide (t362 ≥ 0))) = some r := H
 have A3 := Aside0.mk A30
 clear A30
 obtain rfl := Option.some.inj H
 go_enter Try.func134, Try.ntmps134
 go_wp2_with (first | ((with_reducible refine gate_callee (f := 151) rfl ?_); refine goA (some 7) rfl rfl Try.func151 rfl #[.slice A0 l0.length c0, .func (.func 135) #[] #[]] rfl ?_; (with_reducible refine (slices_IndexFunc_int64_int64.calls k _ _ l0 t362 _ ?side1 ?side2 A3.out).mono ?_); (case side1 => repeat (first | exact HR0.out | (with_reducible refine Kd.C_alloc ?_ _) | (with_reducible refine Kd.C_drewN ?_ _) | (with_reducible refine Kd.C_drew ?_))); (case side2 => exact HC0.out); rintro e w' ⟨rfl, ⟨nd, rfl⟩⟩; refine ⟨_, rfl, ?_⟩))
 go_ret
 exact ⟨by first | rfl | (simp; done) | (simp [*]; done), drw⟩

/-! ### impl_AttrsFault: function 75 -/
def impl_AttrsFault.j0 : Nat → Bool → Int → List Int → Int → Int → Int → Option (Int)
 | 0, _, _, _, _, _, _ => none
 | k + 1, x3, x364000, x364001, x364002, x364003, x364004 => if x3 = true then (some 3) else (if (x364001.length : Int) > 6 then (some 2) else ((slices_ContainsFunc_int64_int64.f k x364001).bind fun t368 => (if t368 = true then (some 3) else (some 0))))
def impl_AttrsFault.f (k : Nat) (a0_0 : Int) (l0_1 : List Int) (a0_2 : Int) (a0_3 : Int) (a0_4 : Int) : Option (Int) := (impl_in.f a0_0 0 2).bind fun t364 => (if t364 = true then ((impl_isAddr.f a0_2).bind fun t365 => (if t365 = true then ((impl_isTwo.f a0_3).bind fun t366 => (if t366 = true then ((impl_isTwo.f a0_4).bind fun t367 => (impl_AttrsFault.j0 k (!t367) a0_0 l0_1 a0_2 a0_3 a0_4)) else (impl_AttrsFault.j0 k true a0_0 l0_1 a0_2 a0_3 a0_4))) else (impl_AttrsFault.j0 k true a0_0 l0_1 a0_2 a0_3 a0_4))) else (impl_AttrsFault.j0 k true a0_0 l0_1 a0_2 a0_3 a0_4))
theorem impl_AttrsFault.mono_l : ∀ k, (∀ y0 y1 y2 y3 y4 y5, LeO (impl_AttrsFault.j0 k y0 y1 y2 y3 y4 y5) (impl_AttrsFault.j0 (k + 1) y0 y1 y2 y3 y4 y5))
 | 0 => fun _ _ _ _ _ _ r h => by simp [impl_AttrsFault.j0] at h
 | k + 1 => by
  have ih0 := impl_AttrsFault.mono_l k
  ·
   intro y0 y1 y2 y3 y4 y5
   unfold impl_AttrsFault.j0
   repeat' first
   | (with_reducible exact ih0 _ _ _ _ _ _)
   | (with_reducible exact slices_ContainsFunc_int64_int64.mono _ _)
   | (with_reducible exact LeO.refl _)
   | (with_reducible exact LeO.none _)
   | (with_reducible refine LeO.ite ?_ ?_)
   | (with_reducible refine LeO.bind ?_ (fun _ => ?_))
   | exact ih0 _ _ _ _ _ _
   | exact slices_ContainsFunc_int64_int64.mono _ _
   | exact LeO.none _
   | refine LeO.ite ?_ ?_
   | refine LeO.bind ?_ (fun _ => ?_)
theorem impl_AttrsFault.mono : ∀ a0 a1 a2 a3 a4 k, LeO (impl_AttrsFault.f k a0 a1 a2 a3 a4) (impl_AttrsFault.f (k + 1) a0 a1 a2 a3 a4) := by
 intro a0 a1 a2 a3 a4 k
 have ih0 := impl_AttrsFault.mono_l k
 unfold impl_AttrsFault.f
 repeat' first
   | (with_reducible exact ih0 _ _ _ _ _ _)
   | (with_reducible exact slices_ContainsFunc_int64_int64.mono _ _)
   | (with_reducible exact LeO.refl _)
   | (with_reducible exact LeO.none _)
   | (with_reducible refine LeO.ite ?_ ?_)
   | (with_reducible refine LeO.bind ?_ (fun _ => ?_))
   | exact ih0 _ _ _ _ _ _
   | exact slices_ContainsFunc_int64_int64.mono _ _
   | exact LeO.none _
   | refine LeO.ite ?_ ?_
   | refine LeO.bind ?_ (fun _ => ?_)
set_option maxHeartbeats 8000000 in
set_option maxRecDepth 100000 in
theorem impl_AttrsFault.calls (k : Nat) (a0_0 : Int) (A0_1 : Option Addr) (c0_1 : Nat) (l0_1 : List Int) (a0_2 : Int) (a0_3 : Int) (a0_4 : Int) (r : Int) (w : World) (hr0_1 : Kd.C (Kd.int .i64) w A0_1 l0_1.length l0_1) (hc0_1 : l0_1.length ≤ c0_1) (h : impl_AttrsFault.f k a0_0 l0_1 a0_2 a0_3 a0_4 = some r) :
  Calls Try.prog 75 #[.agg #[.int .i64 a0_0, .slice A0_1 l0_1.length c0_1, .int .i64 a0_2, .int .i64 a0_3, .int .i64 a0_4]] w fun e w' => e = .returned (.int .i64 r) ∧ Below w.heap.size w w' := by
 have hu36 := Try.underlying36
 have HR0_1 := Aside0.mk hr0_1
 have HC0_1 := Aside0.mk hc0_1
 clear hr0_1 hc0_1
 have HB := Aside0.mk (Below.refl w.heap.size w)
 have H : ((impl_in.f a0_0 0 2).bind fun t364 => (if t364 = true then ((impl_isAddr.f a0_2).bind fun t365 => (if t365 = true then ((impl_isTwo.f a0_3).bind fun t366 => (if t366 = true then ((impl_isTwo.f a0_4).bind fun t367 => (impl_AttrsFault.j0 k (!t367) a0_0 l0_1 a0_2 a0_3 a0_4)) else (impl_AttrsFault.j0 k true a0_0 l0_1 a0_2 a0_3 a0_4))) else (impl_AttrsFault.j0 k true a0_0 l0_1 a0_2 a0_3 a0_4))) else (impl_AttrsFault.j0 k true a0_0 l0_1 a0_2 a0_3 a0_4))) = some r := h
 clear h
 have HC2 := Aside0.mk H
 clear H
 go_enter Try.func75, Try.ntmps75
 go_upto_region 1 with (first | ((with_reducible refine gate_dst (N := 1) rfl ?_); refine boxE #[.int .i64 a0_0, .slice A0_1 l0_1.length c0_1, .int .i64 a0_2, .int .i64 a0_3, .int .i64 a0_4] 36 (N := 1) rfl rfl ?_; intro gb363 hg w3 hbox hb; have BK363 := Aside0.mk hbox; have GW363 := gZ HB hg; have GE363 := gZ HB hg; replace HB := bS HB hb; clear hb hbox hg))
 (try simp only [Act.put, List.setIfInBounds_toArray, List.set_cons_zero, List.set_cons_succ])
 go_cut [3] (fun v3 wc => ∃ (kq : Nat) (x3_1 : Bool), v3 = .bool x3_1 ∧ Aside0 (impl_AttrsFault.j0 kq x3_1 a0_0 l0_1 a0_2 a0_3 a0_4 = some r) ∧ Aside0 (kq ≤ k) ∧ Aside0 (wc.heap[gb363]? = some (.cells #[.int .i64 a0_0, (.slice A0_1 l0_1.length c0_1), .int .i64 a0_2, .int .i64 a0_3, .int .i64 a0_4] 36 (0, 0))) ∧ Aside0 (Below w.heap.size w wc))
 case first =>
  have H := HC2.out
  clear HC2
  replace H := Option.bind_eq_some_iff.mp H
  obtain ⟨t364, A40, H⟩ := H
  replace H : (if t364 = true then ((impl_isAddr.f a0_2).bind fun t365 => (if t365 = true then ((impl_isTwo.f a0_3).bind fun t366 => (if t366 = true then ((impl_isTwo.f a0_4).bind fun t367 => (impl_AttrsFault.j0 k (!t367) a0_0 l0_1 a0_2 a0_3 a0_4)) else (impl_AttrsFault.j0 k true a0_0 l0_1 a0_2 a0_3 a0_4))) else (impl_AttrsFault.j0 k true a0_0 l0_1 a0_2 a0_3 a0_4))) else (impl_AttrsFault.j0 k true a0_0 l0_1 a0_2 a0_3 a0_4)) = some r := H
  have A4 := Aside0.mk A40
  clear A40
  have H' := Aside0.mk H
  clear H
  have hz5 := cl5 BK363
  repeat (first | ((with_reducible refine gate_callee (f := 110) rfl ?_); refine goA (some 6) rfl rfl Try.func110 rfl #[.int .i64 a0_0, .int .i64 0, .int .i64 2] rfl ?_; (with_reducible refine (impl_in.calls a0_0 0 2 t364 _ A4.out).mono ?_); rintro e w' ⟨rfl, ⟨nd, rfl⟩⟩; refine ⟨_, rfl, ?_⟩) | go_values | go_skip | ((with_reducible refine gateG ?gw ?_); (case gw => rfl)) | refine wpList_skip (by rfl) ?_ | refine wp_cond_true rfl ?_ | refine wp_cond_false rfl ?_ | (with_reducible refine iteTr (by first | assumption | omega) ?_) | (with_reducible refine iteFl (by first | assumption | omega) ?_) | ((fail_if_success (with_reducible refine condP ?_)); (fail_if_success (with_reducible refine iteP ?_)); (fail_if_success (with_reducible refine grdP ?_)); go_step) | go_upon | (simp only [Int.not_lt, Int.not_le] at *; go_simp))
  have H := H'.out
  clear H'
  by_cases c6 : t364 = true
  ·
   subst c6
   have H1 : ((impl_isAddr.f a0_2).bind fun t365 => (if t365 = true then ((impl_isTwo.f a0_3).bind fun t366 => (if t366 = true then ((impl_isTwo.f a0_4).bind fun t367 => (impl_AttrsFault.j0 k (!t367) a0_0 l0_1 a0_2 a0_3 a0_4)) else (impl_AttrsFault.j0 k true a0_0 l0_1 a0_2 a0_3 a0_4))) else (impl_AttrsFault.j0 k true a0_0 l0_1 a0_2 a0_3 a0_4))) = some r := by rw [if_pos rfl] at H; first | done | exact H
   clear H
   have H := H1
   clear H1
   replace H := Option.bind_eq_some_iff.mp H
   obtain ⟨t365, A70, H⟩ := H
   replace H : (if t365 = true then ((impl_isTwo.f a0_3).bind fun t366 => (if t366 = true then ((impl_isTwo.f a0_4).bind fun t367 => (impl_AttrsFault.j0 k (!t367) a0_0 l0_1 a0_2 a0_3 a0_4)) else (impl_AttrsFault.j0 k true a0_0 l0_1 a0_2 a0_3 a0_4))) else (impl_AttrsFault.j0 k true a0_0 l0_1 a0_2 a0_3 a0_4)) = some r := H
   have A7 := Aside0.mk A70
   clear A70
   have H' := Aside0.mk H
   clear H
   have hz8 := cl5 BK363
   repeat (first | (go_at_call 132; (with_reducible refine (impl_isAddr.calls a0_2 t365 _ A7.out).mono ?_); rintro e w' ⟨rfl, ⟨nd, rfl⟩⟩) | go_values | go_skip | ((with_reducible refine gateG ?gw ?_); (case gw => rfl)) | refine wpList_skip (by rfl) ?_ | refine wp_cond_true rfl ?_ | refine wp_cond_false rfl ?_ | (with_reducible refine iteTr (by first | assumption | omega) ?_) | (with_reducible refine iteFl (by first | assumption | omega) ?_) | ((fail_if_success (with_reducible refine condP ?_)); (fail_if_success (with_reducible refine iteP ?_)); (fail_if_success (with_reducible refine grdP ?_)); go_step) | go_upon | (simp only [Int.not_lt, Int.not_le] at *; go_simp))
   have H := H'.out
   clear H'
   by_cases c9 : t365 = true
   ·
    subst c9
    have H1 : ((impl_isTwo.f a0_3).bind fun t366 => (if t366 = true then ((impl_isTwo.f a0_4).bind fun t367 => (impl_AttrsFault.j0 k (!t367) a0_0 l0_1 a0_2 a0_3 a0_4)) else (impl_AttrsFault.j0 k true a0_0 l0_1 a0_2 a0_3 a0_4))) = some r := by rw [if_pos rfl] at H; first | done | exact H
    clear H
    have H := H1
    clear H1
    replace H := Option.bind_eq_some_iff.mp H
    obtain ⟨t366, A100, H⟩ := H
    replace H : (if t366 = true then ((impl_isTwo.f a0_4).bind fun t367 => (impl_AttrsFault.j0 k (!t367) a0_0 l0_1 a0_2 a0_3 a0_4)) else (impl_AttrsFault.j0 k true a0_0 l0_1 a0_2 a0_3 a0_4)) = some r := H
    have A10 := Aside0.mk A100
    clear A100
    have H' := Aside0.mk H
    clear H
    have hz11 := cl5 BK363
    repeat (first | (go_at_call 133; (with_reducible refine (impl_isTwo.calls a0_3 t366 _ A10.out).mono ?_); rintro e w' ⟨rfl, ⟨nd, rfl⟩⟩) | go_values | go_skip | ((with_reducible refine gateG ?gw ?_); (case gw => rfl)) | refine wpList_skip (by rfl) ?_ | refine wp_cond_true rfl ?_ | refine wp_cond_false rfl ?_ | (with_reducible refine iteTr (by first | assumption | omega) ?_) | (with_reducible refine iteFl (by first | assumption | omega) ?_) | ((fail_if_success (with_reducible refine condP ?_)); (fail_if_success (with_reducible refine iteP ?_)); (fail_if_success (with_reducible refine grdP ?_)); go_step) | go_upon | (simp only [Int.not_lt, Int.not_le] at *; go_simp))
    have H := H'.out
    clear H'
    by_cases c12 : t366 = true
    ·
     subst c12
     have H1 : ((impl_isTwo.f a0_4).bind fun t367 => (impl_AttrsFault.j0 k (!t367) a0_0 l0_1 a0_2 a0_3 a0_4)) = some r := by rw [if_pos rfl] at H; first | done | exact H
     clear H
     have H := H1
     clear H1
     replace H := Option.bind_eq_some_iff.mp H
     obtain ⟨t367, A130, H⟩ := H
     replace H : (impl_AttrsFault.j0 k (!t367) a0_0 l0_1 a0_2 a0_3 a0_4) = some r := H
     have A13 := Aside0.mk A130
     clear A130
     have H' := Aside0.mk H
     clear H
     have hz14 := cl5 BK363
     go_wp2_with (first | (go_at_call 133; (with_reducible refine (impl_isTwo.calls a0_4 t367 _ A13.out).mono ?_); rintro e w' ⟨rfl, ⟨nd, rfl⟩⟩))
     go_meet
     case rel => exact ⟨_, (!t367), (by first | rfl | (simp; done) | (simp [*]; done)), H', ⟨by first | omega | exact Nat.le_refl _⟩, ⟨by (with_reducible repeat (first | refine blk_drewN ?_ _ | refine blk_drew ?_ | refine blk_alloc ?_ _)); exact BK363.out⟩, ⟨bel HB⟩⟩
    ·
     replace c12 := Bool.eq_false_iff.mpr c12
     subst c12
     have H1 : (impl_AttrsFault.j0 k true a0_0 l0_1 a0_2 a0_3 a0_4) = some r := by rw [if_neg (show ¬ (false = true) by decide)] at H; first | done | exact H
     clear H
     have H := H1
     clear H1
     have H' := Aside0.mk H
     clear H
     go_wp2
     go_meet
     case rel => exact ⟨_, (true), (by first | rfl | (simp; done) | (simp [*]; done)), H', ⟨by first | omega | exact Nat.le_refl _⟩, ⟨by (with_reducible repeat (first | refine blk_drewN ?_ _ | refine blk_drew ?_ | refine blk_alloc ?_ _)); exact BK363.out⟩, ⟨bel HB⟩⟩
   ·
    replace c9 := Bool.eq_false_iff.mpr c9
    subst c9
    have H1 : (impl_AttrsFault.j0 k true a0_0 l0_1 a0_2 a0_3 a0_4) = some r := by rw [if_neg (show ¬ (false = true) by decide)] at H; first | done | exact H
    clear H
    have H := H1
    clear H1
    have H' := Aside0.mk H
    clear H
    go_wp2
    go_meet
    case rel => exact ⟨_, (true), (by first | rfl | (simp; done) | (simp [*]; done)), H', ⟨by first | omega | exact Nat.le_refl _⟩, ⟨by (with_reducible repeat (first | refine blk_drewN ?_ _ | refine blk_drew ?_ | refine blk_alloc ?_ _)); exact BK363.out⟩, ⟨bel HB⟩⟩
  ·
   replace c6 := Bool.eq_false_iff.mpr c6
   subst c6
   have H1 : (impl_AttrsFault.j0 k true a0_0 l0_1 a0_2 a0_3 a0_4) = some r := by rw [if_neg (show ¬ (false = true) by decide)] at H; first | done | exact H
   clear H
   have H := H1
   clear H1
   have H' := Aside0.mk H
   clear H
   go_wp2
   go_meet
   case rel => exact ⟨_, (true), (by first | rfl | (simp; done) | (simp [*]; done)), H', ⟨by first | omega | exact Nat.le_refl _⟩, ⟨by (with_reducible repeat (first | refine blk_drewN ?_ _ | refine blk_drew ?_ | refine blk_alloc ?_ _)); exact BK363.out⟩, ⟨bel HB⟩⟩
 case rest =>
  clear HC2
  try clear c1
  try clear p2
  try clear c6
  try clear c7
  try clear c9
  try clear c11
  try clear c12
  try clear hz11
  try clear hz14
  try clear hz5
  try clear hz8
  obtain ⟨kq, x3_1, rfl, HA, HJ1, BK363, HB⟩ := hcut
  cases kq with
  | zero => exact absurd HA.out (by simp [impl_AttrsFault.j0])
  | succ kj1 =>
   have H := HA.out
   clear HA
   simp only [impl_AttrsFault.j0] at H
   by_cases c15 : x3_1 = true
   ·
    subst c15
    have H1 : (some 3) = some r := by rw [if_pos rfl] at H; first | done | exact H
    clear H
    have H := H1
    clear H1
    obtain rfl := Option.some.inj H
    go_wp2
    go_ret
    exact ⟨by first | rfl | (simp [errW_none, errW_some] <;> rfl) | (simp [*, errW_none, errW_some] <;> rfl), bel HB⟩
   ·
    replace c15 := Bool.eq_false_iff.mpr c15
    subst c15
    have H1 : (if (l0_1.length : Int) > 6 then (some 2) else ((slices_ContainsFunc_int64_int64.f kj1 l0_1).bind fun t368 => (if t368 = true then (some 3) else (some 0)))) = some r := by rw [if_neg (show ¬ (false = true) by decide)] at H; first | done | exact H
    clear H
    have H := H1
    clear H1
    by_cases c16 : (l0_1.length : Int) > 6
    ·
     rw [if_pos c16] at H
     have c16b0 : decide (6 < (l0_1.length : Int)) = true := decide_eq_true c16
     have c16b1 : decide (6 < l0_1.length) = true := decide_eq_true (by omega)
     have c16e := eq_true c16
     clear c16
     obtain rfl := Option.some.inj H
     have hz17 := cl5 BK363
     go_wp2
     go_ret
     exact ⟨by first | rfl | (simp [errW_none, errW_some] <;> rfl) | (simp [*, errW_none, errW_some] <;> rfl), bel HB⟩
    ·
     rw [if_neg c16] at H
     have c16b0 : decide (6 < (l0_1.length : Int)) = false := decide_eq_false c16
     have c16b1 : decide (6 < l0_1.length) = false := decide_eq_false (by omega)
     have c16e := eq_false c16
     clear c16
     replace H := Option.bind_eq_some_iff.mp H
     obtain ⟨t368, A180, H⟩ := H
     replace H : (if t368 = true then (some 3) else (some 0)) = some r := H
     have A18 := Aside0.mk A180
     clear A180
     have H' := Aside0.mk H
     clear H
     have hz19 := cl5 BK363
     repeat (first | ((with_reducible refine gate_callee (f := 134) rfl ?_); refine goA (some 34) rfl rfl Try.func134 rfl #[.slice A0_1 l0_1.length c0_1, .func (.func 135) #[] #[]] rfl ?_; (with_reducible refine (slices_ContainsFunc_int64_int64.calls kj1 _ _ l0_1 t368 _ ?side1 ?side2 A18.out).mono ?_); (case side1 => exact mC HR0_1 HB); (case side2 => exact HC0_1.out); rintro e w' ⟨rfl, ⟨nd, rfl⟩⟩; refine ⟨_, rfl, ?_⟩) | go_values | go_skip | ((with_reducible refine gateG ?gw ?_); (case gw => rfl)) | refine wpList_skip (by rfl) ?_ | refine wp_cond_true rfl ?_ | refine wp_cond_false rfl ?_ | (with_reducible refine iteTr (by first | assumption | omega) ?_) | (with_reducible refine iteFl (by first | assumption | omega) ?_) | ((fail_if_success (with_reducible refine condP ?_)); (fail_if_success (with_reducible refine iteP ?_)); (fail_if_success (with_reducible refine grdP ?_)); go_step) | go_upon | (simp only [Int.not_lt, Int.not_le] at *; go_simp))
     have H := H'.out
     clear H'
     by_cases c20 : t368 = true
     ·
      subst c20
      have H1 : (some 3) = some r := by rw [if_pos rfl] at H; first | done | exact H
      clear H
      have H := H1
      clear H1
      obtain rfl := Option.some.inj H
      go_wp2
      go_ret
      exact ⟨by first | rfl | (simp [errW_none, errW_some] <;> rfl) | (simp [*, errW_none, errW_some] <;> rfl), bel HB⟩
     ·
      replace c20 := Bool.eq_false_iff.mpr c20
      subst c20
      have H1 : (some 0) = some r := by rw [if_neg (show ¬ (false = true) by decide)] at H; first | done | exact H
      clear H
      have H := H1
      clear H1
      obtain rfl := Option.some.inj H
      go_wp2
      go_ret
      exact ⟨by first | rfl | (simp [errW_none, errW_some] <;> rfl) | (simp [*, errW_none, errW_some] <;> rfl), bel HB⟩

end Go.Proofs.Ytgfoifkkffffgac.PFnExactPackMessage
