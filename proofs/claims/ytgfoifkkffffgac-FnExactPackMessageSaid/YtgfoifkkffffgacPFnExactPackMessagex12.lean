-- Laid by a turned copy of the printer (wip/tools/patch_print.py)
import Derived.Test.YtgfoifkkffffgacPFnExactPackMessagex0
import Derived.Test.YtgfoifkkffffgacPFnExactPackMessagex10
import Derived.Test.YtgfoifkkffffgacPFnExactPackMessagex11
namespace Go.Proofs.Ytgfoifkkffffgac.PFnExactPackMessage
open Go.RowKit Go.Proofs.YtgfoifkkffffgacW.PrintWords Go.Proofs.YtgfoifkkffffgacW.PrintLast Go.Proofs.YtgfoifkkffffgacW.PrintMore
attribute [local go_sem] max2_int min2_int max_two min_two max_three min_three max_four min_four   -- for this text's walks alone
set_option linter.unusedVariables false
set_option linter.unusedSimpArgs false

/-! ### impl_UpdateFault: function 29 -/
mutual
def impl_UpdateFault.j0 : Nat → Bool → List (S91) → Bool → Int → List Int → Int → Int → Int → List (S91) → Option (Int)
 | 0, _, _, _, _, _, _, _, _, _ => none
 | k + 1, x13, x370000, x370001, x370002, x370003, x370004, x370005, x370006, x370007 => if x13 = true then (some 2) else ((impl_Prefix_73.f k (([x370000, x370007] : List (List (S91))))).bind fun t373 => ((impl_prefixesFault.f k t373).bind fun t376 => (if t376 = 0 then (if x370001 = true then (impl_UpdateFault.j1 k ((x370007.length : Int) == 0) x370000 x370001 x370002 x370003 x370004 x370005 x370006 x370007) else (if (x370007.length : Int) > 0 then (impl_UpdateFault.j1 k true x370000 x370001 x370002 x370003 x370004 x370005 x370006 x370007) else ((impl_Attrs_isZero.f x370002 x370003 x370004 x370005 x370006).bind fun t377 => (if t377 = true then (impl_UpdateFault.j1 k false x370000 x370001 x370002 x370003 x370004 x370005 x370006 x370007) else (impl_UpdateFault.j1 k true x370000 x370001 x370002 x370003 x370004 x370005 x370006 x370007))))) else (some t376))))
def impl_UpdateFault.j1 : Nat → Bool → List (S91) → Bool → Int → List Int → Int → Int → Int → List (S91) → Option (Int)
 | 0, _, _, _, _, _, _, _, _, _ => none
 | k + 1, x24, x370000, x370001, x370002, x370003, x370004, x370005, x370006, x370007 => if x24 = true then (some 1) else (if x370001 = true then ((impl_AttrsFault.f k x370002 x370003 x370004 x370005 x370006).bind fun t378 => (some t378)) else (some 0))
end
def impl_UpdateFault.f (k : Nat) (l0_0 : List (S91)) (a0_1 : Bool) (a0_2 : Int) (l0_3 : List Int) (a0_4 : Int) (a0_5 : Int) (a0_6 : Int) (l0_7 : List (S91)) : Option (Int) := if (l0_0.length : Int) > 8 then (impl_UpdateFault.j0 k true l0_0 a0_1 a0_2 l0_3 a0_4 a0_5 a0_6 l0_7) else (impl_UpdateFault.j0 k (decide ((l0_7.length : Int) > 8)) l0_0 a0_1 a0_2 l0_3 a0_4 a0_5 a0_6 l0_7)
theorem impl_UpdateFault.mono_l : ∀ k, (∀ y0 y1 y2 y3 y4 y5 y6 y7 y8, LeO (impl_UpdateFault.j0 k y0 y1 y2 y3 y4 y5 y6 y7 y8) (impl_UpdateFault.j0 (k + 1) y0 y1 y2 y3 y4 y5 y6 y7 y8)) ∧ (∀ y0 y1 y2 y3 y4 y5 y6 y7 y8, LeO (impl_UpdateFault.j1 k y0 y1 y2 y3 y4 y5 y6 y7 y8) (impl_UpdateFault.j1 (k + 1) y0 y1 y2 y3 y4 y5 y6 y7 y8))
 | 0 => ⟨fun _ _ _ _ _ _ _ _ _ r h => by simp [impl_UpdateFault.j0] at h, fun _ _ _ _ _ _ _ _ _ r h => by simp [impl_UpdateFault.j1] at h⟩
 | k + 1 => by
  obtain ⟨ih0, ih1⟩ := impl_UpdateFault.mono_l k
  refine ⟨?_, ?_⟩
  ·
   intro y0 y1 y2 y3 y4 y5 y6 y7 y8
   unfold impl_UpdateFault.j0
   repeat' first
   | (with_reducible exact ih0 _ _ _ _ _ _ _ _ _)
   | (with_reducible exact ih1 _ _ _ _ _ _ _ _ _)
   | (with_reducible exact impl_AttrsFault.mono _ _ _ _ _ _)
   | (with_reducible exact impl_Prefix_73.mono _ _)
   | (with_reducible exact impl_prefixesFault.mono _ _)
   | (with_reducible exact LeO.refl _)
   | (with_reducible exact LeO.none _)
   | (with_reducible refine LeO.ite ?_ ?_)
   | (with_reducible refine LeO.bind ?_ (fun _ => ?_))
   | exact ih0 _ _ _ _ _ _ _ _ _
   | exact ih1 _ _ _ _ _ _ _ _ _
   | exact impl_AttrsFault.mono _ _ _ _ _ _
   | exact impl_Prefix_73.mono _ _
   | exact impl_prefixesFault.mono _ _
   | exact LeO.none _
   | refine LeO.ite ?_ ?_
   | refine LeO.bind ?_ (fun _ => ?_)
  ·
   intro y0 y1 y2 y3 y4 y5 y6 y7 y8
   unfold impl_UpdateFault.j1
   repeat' first
   | (with_reducible exact ih0 _ _ _ _ _ _ _ _ _)
   | (with_reducible exact ih1 _ _ _ _ _ _ _ _ _)
   | (with_reducible exact impl_AttrsFault.mono _ _ _ _ _ _)
   | (with_reducible exact impl_Prefix_73.mono _ _)
   | (with_reducible exact impl_prefixesFault.mono _ _)
   | (with_reducible exact LeO.refl _)
   | (with_reducible exact LeO.none _)
   | (with_reducible refine LeO.ite ?_ ?_)
   | (with_reducible refine LeO.bind ?_ (fun _ => ?_))
   | exact ih0 _ _ _ _ _ _ _ _ _
   | exact ih1 _ _ _ _ _ _ _ _ _
   | exact impl_AttrsFault.mono _ _ _ _ _ _
   | exact impl_Prefix_73.mono _ _
   | exact impl_prefixesFault.mono _ _
   | exact LeO.none _
   | refine LeO.ite ?_ ?_
   | refine LeO.bind ?_ (fun _ => ?_)
theorem impl_UpdateFault.mono : ∀ a0 a1 a2 a3 a4 a5 a6 a7 k, LeO (impl_UpdateFault.f k a0 a1 a2 a3 a4 a5 a6 a7) (impl_UpdateFault.f (k + 1) a0 a1 a2 a3 a4 a5 a6 a7) := by
 intro a0 a1 a2 a3 a4 a5 a6 a7 k
 obtain ⟨ih0, ih1⟩ := impl_UpdateFault.mono_l k
 unfold impl_UpdateFault.f
 repeat' first
   | (with_reducible exact ih0 _ _ _ _ _ _ _ _ _)
   | (with_reducible exact ih1 _ _ _ _ _ _ _ _ _)
   | (with_reducible exact impl_AttrsFault.mono _ _ _ _ _ _)
   | (with_reducible exact impl_Prefix_73.mono _ _)
   | (with_reducible exact impl_prefixesFault.mono _ _)
   | (with_reducible exact LeO.refl _)
   | (with_reducible exact LeO.none _)
   | (with_reducible refine LeO.ite ?_ ?_)
   | (with_reducible refine LeO.bind ?_ (fun _ => ?_))
   | exact ih0 _ _ _ _ _ _ _ _ _
   | exact ih1 _ _ _ _ _ _ _ _ _
   | exact impl_AttrsFault.mono _ _ _ _ _ _
   | exact impl_Prefix_73.mono _ _
   | exact impl_prefixesFault.mono _ _
   | exact LeO.none _
   | refine LeO.ite ?_ ?_
   | refine LeO.bind ?_ (fun _ => ?_)
set_option maxHeartbeats 8000000 in
set_option maxRecDepth 100000 in
theorem impl_UpdateFault.calls (k : Nat) (P0_0_ : Nat → Prop) (A0_0 : Option Addr) (c0_0 : Nat) (l0_0 : List (S91)) (a0_1 : Bool) (a0_2 : Int) (A0_3 : Option Addr) (c0_3 : Nat) (l0_3 : List Int) (a0_4 : Int) (a0_5 : Int) (a0_6 : Int) (P0_7_ : Nat → Prop) (A0_7 : Option Addr) (c0_7 : Nat) (l0_7 : List (S91)) (r : Int) (w : World) (hs0_0 : Kd.V k91 91 w w.heap.size (fun k_ => P0_0_ k_) (.slice A0_0 l0_0.length c0_0) l0_0) (hr0_3 : Kd.C (Kd.int .i64) w A0_3 l0_3.length l0_3) (hc0_3 : l0_3.length ≤ c0_3) (hs0_7 : Kd.V k91 91 w w.heap.size (fun k_ => P0_7_ k_) (.slice A0_7 l0_7.length c0_7) l0_7) (h : impl_UpdateFault.f k l0_0 a0_1 a0_2 l0_3 a0_4 a0_5 a0_6 l0_7 = some r) :
  Calls Try.prog 29 #[.agg #[.slice A0_0 l0_0.length c0_0, .bool a0_1, .int .i64 a0_2, .slice A0_3 l0_3.length c0_3, .int .i64 a0_4, .int .i64 a0_5, .int .i64 a0_6, .slice A0_7 l0_7.length c0_7]] w fun e w' => e = .returned (.int .i64 r) ∧ Below w.heap.size w w' := by
 have hu38 := Try.underlying38
 have hu36 := Try.underlying36
 have HO0_0 := Aside0.mk (show Kd.V k91 91 w w.heap.size (fun k_ => ((P0_0_ k_ ∨ P0_7_ k_) ∨ w.heap.size ≤ k_)) (.slice A0_0 l0_0.length c0_0) l0_0 from Kd.V_mono hs0_0 (fun k_ hk => .inl (.inl hk)))
 have HR0_3 := Aside0.mk hr0_3
 have HC0_3 := Aside0.mk hc0_3
 clear hr0_3 hc0_3
 have HO0_7 := Aside0.mk (show Kd.V k91 91 w w.heap.size (fun k_ => ((P0_0_ k_ ∨ P0_7_ k_) ∨ w.heap.size ≤ k_)) (.slice A0_7 l0_7.length c0_7) l0_7 from Kd.V_mono hs0_7 (fun k_ hk => .inl (.inr hk)))
 have HB := Aside0.mk (Below.refl w.heap.size w)
 have H : (if (l0_0.length : Int) > 8 then (impl_UpdateFault.j0 k true l0_0 a0_1 a0_2 l0_3 a0_4 a0_5 a0_6 l0_7) else (impl_UpdateFault.j0 k (decide ((l0_7.length : Int) > 8)) l0_0 a0_1 a0_2 l0_3 a0_4 a0_5 a0_6 l0_7)) = some r := h
 clear h
 have HC2 := Aside0.mk H
 clear H
 go_enter Try.func29, Try.ntmps29
 go_upto_region 1 with (first | ((with_reducible refine gate_dst (N := 1) rfl ?_); (try (refine gate_guard (by rfl) ?_; dsimp only)); refine boxE #[.slice A0_0 l0_0.length c0_0, .bool a0_1, .int .i64 a0_2, .slice A0_3 l0_3.length c0_3, .int .i64 a0_4, .int .i64 a0_5, .int .i64 a0_6, .slice A0_7 l0_7.length c0_7] 38 (N := 1) rfl rfl ?_; intro gb369 hg w3 hbox hb; replace HO0_0 := Aside0.mk (Kd.V_below (Kd.V_elderB (mV HO0_0) gb369 (Nat.le_of_eq hg.symm)) hb); replace HO0_7 := Aside0.mk (Kd.V_below (Kd.V_elderB (mV HO0_7) gb369 (Nat.le_of_eq hg.symm)) hb); have BK369 := Aside0.mk hbox; have GW369 := gZ HB hg; have GE369 := gZ HB hg; replace HB := bS HB hb; clear hb hbox hg))
 (try simp only [Act.put, List.setIfInBounds_toArray, List.set_cons_zero, List.set_cons_succ])
 go_cut [13] (fun v13 wc => ∃ (kq : Nat) (x13_1 : Bool), v13 = .bool x13_1 ∧ Aside0 (impl_UpdateFault.j0 kq x13_1 l0_0 a0_1 a0_2 l0_3 a0_4 a0_5 a0_6 l0_7 = some r) ∧ Aside0 (kq ≤ k) ∧ Aside0 (Kd.V k91 91 wc w.heap.size (fun k_ => ((P0_0_ k_ ∨ P0_7_ k_) ∨ w.heap.size ≤ k_) ∧ k_ ≠ gb369) (.slice A0_0 l0_0.length c0_0) l0_0) ∧ Aside0 (Kd.V k91 91 wc w.heap.size (fun k_ => ((P0_0_ k_ ∨ P0_7_ k_) ∨ w.heap.size ≤ k_) ∧ k_ ≠ gb369) (.slice A0_7 l0_7.length c0_7) l0_7) ∧ Aside0 (wc.heap[gb369]? = some (.cells #[(.slice A0_0 l0_0.length c0_0), .bool a0_1, .int .i64 a0_2, (.slice A0_3 l0_3.length c0_3), .int .i64 a0_4, .int .i64 a0_5, .int .i64 a0_6, (.slice A0_7 l0_7.length c0_7)] 38 (0, 0))) ∧ Aside0 (Below w.heap.size w wc))
 case first =>
  have H := HC2.out
  clear HC2
  by_cases c4 : (l0_0.length : Int) > 8
  ·
   rw [if_pos c4] at H
   have c4b0 : decide (8 < (l0_0.length : Int)) = true := decide_eq_true c4
   have c4b1 : decide (8 < l0_0.length) = true := decide_eq_true (by omega)
   have c4e := eq_true c4
   clear c4
   (first | rw [c4b0] | (simp only [i64_w, i32_w]; rw [c4b0]) | skip)
   (try simp only [c4b0, c4b1]); (try (with_reducible refine iteP ?_; simp only [c4e, ↓reduceIte]))
   have H' := Aside0.mk H
   clear H
   have hz5 := cl8 BK369
   go_wp2
   first | go_meet | (refine Met.intro ?_; go_step; (repeat apply Exists.intro); refine ⟨?rel, ?eqq⟩; (case eqq => (try simp only [c4b0]); (try simp only [c4b1]); rfl))
   case rel => exact ⟨_, (true), (by first | rfl | (simp; done) | (simp [*]; done)), H', ⟨by first | omega | exact Nat.le_refl _⟩, ⟨by (with_reducible repeat (first | apply Kd.V_alloc | apply Kd.V_drewN | apply Kd.V_drew)); exact HO0_0.out⟩, ⟨by (with_reducible repeat (first | apply Kd.V_alloc | apply Kd.V_drewN | apply Kd.V_drew)); exact HO0_7.out⟩, ⟨by (with_reducible repeat (first | refine blk_drewN ?_ _ | refine blk_drew ?_ | refine blk_alloc ?_ _)); exact BK369.out⟩, ⟨bel HB⟩⟩
  ·
   rw [if_neg c4] at H
   have c4b0 : decide (8 < (l0_0.length : Int)) = false := decide_eq_false c4
   have c4b1 : decide (8 < l0_0.length) = false := decide_eq_false (by omega)
   have c4e := eq_false c4
   clear c4
   (first | rw [c4b0] | (simp only [i64_w, i32_w]; rw [c4b0]) | skip)
   (try simp only [c4b0, c4b1]); (try (with_reducible refine iteP ?_; simp only [c4e, ↓reduceIte]))
   have H' := Aside0.mk H
   clear H
   have hz6 := cl8 BK369
   go_wp2
   first | go_meet | (refine Met.intro ?_; go_step; (repeat apply Exists.intro); refine ⟨?rel, ?eqq⟩; (case eqq => (try simp only [c4b0]); (try simp only [c4b1]); rfl))
   case rel => exact ⟨_, (decide ((l0_7.length : Int) > 8)), (by first | rfl | (simp; done) | (simp [*]; done)), H', ⟨by first | omega | exact Nat.le_refl _⟩, ⟨by (with_reducible repeat (first | apply Kd.V_alloc | apply Kd.V_drewN | apply Kd.V_drew)); exact HO0_0.out⟩, ⟨by (with_reducible repeat (first | apply Kd.V_alloc | apply Kd.V_drewN | apply Kd.V_drew)); exact HO0_7.out⟩, ⟨by (with_reducible repeat (first | refine blk_drewN ?_ _ | refine blk_drew ?_ | refine blk_alloc ?_ _)); exact BK369.out⟩, ⟨bel HB⟩⟩
 case rest =>
  clear HC2
  try clear c2
  try clear p2
  try clear c4e
  try clear c4
  try clear c4b0
  try clear c4b1
  try clear hz5
  try clear hz6
  obtain ⟨kq, x13_1, rfl, HA, HJ1, HO_370000, HO_370007, BK369, HB⟩ := hcut
  cases kq with
  | zero => exact absurd HA.out (by simp [impl_UpdateFault.j0])
  | succ kj1 =>
   have H := HA.out
   clear HA
   simp only [impl_UpdateFault.j0] at H
   by_cases c7 : x13_1 = true
   ·
    subst c7
    have H1 : (some 2) = some r := by rw [if_pos rfl] at H; first | done | exact H
    clear H
    have H := H1
    clear H1
    obtain rfl := Option.some.inj H
    go_wp2
    go_ret
    exact ⟨by first | rfl | (simp [errW_none, errW_some] <;> rfl) | (simp [*, errW_none, errW_some] <;> rfl), bel HB⟩
   ·
    replace c7 := Bool.eq_false_iff.mpr c7
    subst c7
    have H1 : ((impl_Prefix_73.f kj1 (([l0_0, l0_7] : List (List (S91))))).bind fun t373 => ((impl_prefixesFault.f kj1 t373).bind fun t376 => (if t376 = 0 then (if a0_1 = true then (impl_UpdateFault.j1 kj1 ((l0_7.length : Int) == 0) l0_0 a0_1 a0_2 l0_3 a0_4 a0_5 a0_6 l0_7) else (if (l0_7.length : Int) > 0 then (impl_UpdateFault.j1 kj1 true l0_0 a0_1 a0_2 l0_3 a0_4 a0_5 a0_6 l0_7) else ((impl_Attrs_isZero.f a0_2 l0_3 a0_4 a0_5 a0_6).bind fun t377 => (if t377 = true then (impl_UpdateFault.j1 kj1 false l0_0 a0_1 a0_2 l0_3 a0_4 a0_5 a0_6 l0_7) else (impl_UpdateFault.j1 kj1 true l0_0 a0_1 a0_2 l0_3 a0_4 a0_5 a0_6 l0_7))))) else (some t376)))) = some r := by rw [if_neg (show ¬ (false = true) by decide)] at H; first | done | exact H
    clear H
    have H := H1
    clear H1
    obtain ⟨y370, hy370⟩ : ∃ y_ : List (List (S91)), y_ = (([l0_0, l0_7] : List (List (S91)))) := ⟨_, rfl⟩
    replace H : ((impl_Prefix_73.f kj1 y370).bind fun t373 => ((impl_prefixesFault.f kj1 t373).bind fun t376 => (if t376 = 0 then (if a0_1 = true then (impl_UpdateFault.j1 kj1 ((l0_7.length : Int) == 0) l0_0 a0_1 a0_2 l0_3 a0_4 a0_5 a0_6 l0_7) else (if (l0_7.length : Int) > 0 then (impl_UpdateFault.j1 kj1 true l0_0 a0_1 a0_2 l0_3 a0_4 a0_5 a0_6 l0_7) else ((impl_Attrs_isZero.f a0_2 l0_3 a0_4 a0_5 a0_6).bind fun t377 => (if t377 = true then (impl_UpdateFault.j1 kj1 false l0_0 a0_1 a0_2 l0_3 a0_4 a0_5 a0_6 l0_7) else (impl_UpdateFault.j1 kj1 true l0_0 a0_1 a0_2 l0_3 a0_4 a0_5 a0_6 l0_7))))) else (some t376)))) = some r := by first | (rw [hy370]; with_reducible exact H) | (have H2_ := (Option.bind_some _ _).symm.trans H; rw [hy370]; with_reducible exact H2_) | (have H2_ := (Option.bind_some _ _).symm.trans H; with_reducible exact H2_) | with_reducible exact H | (rw [hy370]; exact H) | exact H
    have Ny370 := Aside0.mk hy370
    clear hy370
    replace H := Option.bind_eq_some_iff.mp H
    obtain ⟨t373, A80, H⟩ := H
    replace H : ((impl_prefixesFault.f kj1 t373).bind fun t376 => (if t376 = 0 then (if a0_1 = true then (impl_UpdateFault.j1 kj1 ((l0_7.length : Int) == 0) l0_0 a0_1 a0_2 l0_3 a0_4 a0_5 a0_6 l0_7) else (if (l0_7.length : Int) > 0 then (impl_UpdateFault.j1 kj1 true l0_0 a0_1 a0_2 l0_3 a0_4 a0_5 a0_6 l0_7) else ((impl_Attrs_isZero.f a0_2 l0_3 a0_4 a0_5 a0_6).bind fun t377 => (if t377 = true then (impl_UpdateFault.j1 kj1 false l0_0 a0_1 a0_2 l0_3 a0_4 a0_5 a0_6 l0_7) else (impl_UpdateFault.j1 kj1 true l0_0 a0_1 a0_2 l0_3 a0_4 a0_5 a0_6 l0_7))))) else (some t376))) = some r := H
    have A8 := Aside0.mk A80
    clear A80
    replace H := Option.bind_eq_some_iff.mp H
    obtain ⟨t376, A90, H⟩ := H
    replace H : (if t376 = 0 then (if a0_1 = true then (impl_UpdateFault.j1 kj1 ((l0_7.length : Int) == 0) l0_0 a0_1 a0_2 l0_3 a0_4 a0_5 a0_6 l0_7) else (if (l0_7.length : Int) > 0 then (impl_UpdateFault.j1 kj1 true l0_0 a0_1 a0_2 l0_3 a0_4 a0_5 a0_6 l0_7) else ((impl_Attrs_isZero.f a0_2 l0_3 a0_4 a0_5 a0_6).bind fun t377 => (if t377 = true then (impl_UpdateFault.j1 kj1 false l0_0 a0_1 a0_2 l0_3 a0_4 a0_5 a0_6 l0_7) else (impl_UpdateFault.j1 kj1 true l0_0 a0_1 a0_2 l0_3 a0_4 a0_5 a0_6 l0_7))))) else (some t376)) = some r := H
    have A9 := Aside0.mk A90
    clear A90
    have H' := Aside0.mk H
    clear H
    have hz10 := cl8 BK369
    repeat (first | ((with_reducible refine gate_dst (N := 18) rfl ?_); (try (refine gate_guard (by rfl) ?_; dsimp only)); refine Kd.N_lit (Kd.slice 91 k91) _ 35 ?hg (N' := 18) ?hd (xs := ([l0_0, l0_7] : List (List (S91)))) (inner := [.slice A0_0 l0_0.length c0_0, .slice A0_7 l0_7.length c0_7]) (ok := (fun k_ => ((P0_0_ k_ ∨ P0_7_ k_) ∨ w.heap.size ≤ k_) ∧ k_ ≠ gb369)) (okp := (fun k_ => ((P0_0_ k_ ∨ P0_7_ k_) ∨ w.heap.size ≤ k_) ∧ k_ ≠ gb369)) ?hr ?hp (fun _ hk => hk) ((show ∀ k_, wc.heap.size ≤ k_ → (fun k_ => ((P0_0_ k_ ∨ P0_7_ k_) ∨ w.heap.size ≤ k_) ∧ k_ ≠ gb369) k_ from fun k_ hk => ⟨(.inr (Nat.le_trans (below_size (bel HB)) hk)), Kd.freshB (g := gb369) (o := .cells #[.slice A0_0 l0_0.length c0_0, .bool a0_1, .int .i64 a0_2, .slice A0_3 l0_3.length c0_3, .int .i64 a0_4, .int .i64 a0_5, .int .i64 a0_6, .slice A0_7 l0_7.length c0_7] 38 (0, 0)) (mB BK369) k_ hk⟩) _ (Nat.le_refl _)) (Below.refl _ _) (Nat.le_refl _) (by simp) ?_; (case hd => rfl); (case hg => rfl); (case hr => first | (go_simp; done) | (go_simp; rfl)); (case hp => exact (Reps.one (show Kd.FK (Kd.slice 91 k91) _ _ l0_0 [.slice A0_0 l0_0.length c0_0] from (Kd.FK_slice_mk (Kd.V_reads' (Kd.V_mono (ok' := (fun k_ => ((P0_0_ k_ ∨ P0_7_ k_) ∨ w.heap.size ≤ k_) ∧ k_ ≠ gb369)) (HO_370000.out) (fun k_ hk => ⟨hk.1, hk.2⟩))).2.1 (Kd.V_F (Kd.V_mono (ok' := (fun k_ => ((P0_0_ k_ ∨ P0_7_ k_) ∨ w.heap.size ≤ k_) ∧ k_ ≠ gb369)) (HO_370000.out) (fun k_ hk => ⟨hk.1, hk.2⟩))))) (Reps.one (show Kd.FK (Kd.slice 91 k91) _ _ l0_7 [.slice A0_7 l0_7.length c0_7] from (Kd.FK_slice_mk (Kd.V_reads' (Kd.V_mono (ok' := (fun k_ => ((P0_0_ k_ ∨ P0_7_ k_) ∨ w.heap.size ≤ k_) ∧ k_ ≠ gb369)) (HO_370007.out) (fun k_ hk => ⟨hk.1, hk.2⟩))).2.1 (Kd.V_F (Kd.V_mono (ok' := (fun k_ => ((P0_0_ k_ ∨ P0_7_ k_) ∨ w.heap.size ≤ k_) ∧ k_ ≠ gb369)) (HO_370007.out) (fun k_ hk => ⟨hk.1, hk.2⟩))))) (Reps.none _ _)))); intro v371 w11 ho12 hb hg_ hnew_; clear hg_ hnew_; (first | rw [← Ny370.out] at ho12 | (simp only [Int.reduceToNat] at ho12; rw [← Ny370.out] at ho12)); replace HO_370000 := Aside0.mk (Kd.V_elder' (mV HO_370000) (Kd.N_base ho12) hb); replace HO_370007 := Aside0.mk (Kd.V_elder' (mV HO_370007) (Kd.N_base ho12) hb); have HO372 := Aside0.mk (Kd.N_lower ho12 (below_size (bel HB))); replace BK369 := bK BK369 hb; replace HB := bS HB hb; clear hb ho12; obtain ⟨Ao13, co13, eo13⟩ := Kd.N_slice HO372.out; subst eo13) | ((with_reducible refine gate_callee (f := 73) rfl ?_); refine goA (some 19) rfl rfl Try.func73 rfl #[.slice Ao13 y370.length co13] rfl ?_; (with_reducible refine (impl_Prefix_73.calls kj1 _ _ y370 t373 _ ?side1 ?side2 A8.out).mono ?_); (case side1 => repeat (first | exact (Kd.N_reads' HO372.out).2.2 | (with_reducible refine Kd.C_alloc ?_ _) | (with_reducible refine Kd.C_drewN ?_ _) | (with_reducible refine Kd.C_drew ?_))); (case side2 => exact (Kd.N_reads' HO372.out).2.1); rintro e w14 ⟨v374, rfl, ho0, hb⟩; refine ⟨_, rfl, ?_⟩; replace HO_370000 := Aside0.mk (Kd.V_elder' (mV HO_370000) (Kd.R_base ho0) hb); replace HO_370007 := Aside0.mk (Kd.V_elder' (mV HO_370007) (Kd.R_base ho0) hb); replace HO372 := Aside0.mk (Kd.N_elder' (mN HO372) (Kd.R_base ho0) hb); have HO375 := Aside0.mk (Kd.R_lower (Kd.R_newM (M := fun k_ => (w.heap.size ≤ k_)) ho0 (below_size (bel HB)) (fun k_ h_ => h_)) (below_size (bel HB))); replace BK369 := bK BK369 hb; replace HB := bS HB hb; (try clear hb); (try clear hb2); (try clear hk); (try clear hi); (try clear ho0); obtain ⟨Ao15, co15, eo15⟩ := Kd.R_slice HO375.out; subst eo15) | ((with_reducible refine gate_callee (f := 64) rfl ?_); refine goA (some 20) rfl rfl Try.func64 rfl #[.slice Ao15 t373.length co15] rfl ?_; (with_reducible refine (impl_prefixesFault.calls kj1 _ _ t373 t376 _ ?side1 ?side2 A9.out).mono ?_); (case side1 => repeat (first | exact (Kd.R_reads' HO375.out).2.2 | (with_reducible refine Kd.C_alloc ?_ _) | (with_reducible refine Kd.C_drewN ?_ _) | (with_reducible refine Kd.C_drew ?_))); (case side2 => exact (Kd.R_reads' HO375.out).2.1); rintro e w16 ⟨rfl, hb⟩; refine ⟨_, rfl, ?_⟩; replace HO_370000 := Aside0.mk (Kd.V_below (mV HO_370000) hb); replace HO_370007 := Aside0.mk (Kd.V_below (mV HO_370007) hb); replace HO372 := Aside0.mk (Kd.N_below (mN HO372) hb); replace HO375 := Aside0.mk (Kd.R_below (mR HO375) hb); replace BK369 := bK BK369 hb; replace HB := bS HB hb; (try clear hb); (try clear hb2); (try clear hk); (try clear hi)) | go_values | go_skip | ((with_reducible refine gateG ?gw ?_); (case gw => rfl)) | refine wpList_skip (by rfl) ?_ | refine wp_cond_true rfl ?_ | refine wp_cond_false rfl ?_ | (with_reducible refine iteTr (by first | assumption | omega) ?_) | (with_reducible refine iteFl (by first | assumption | omega) ?_) | ((fail_if_success (with_reducible refine condP ?_)); (fail_if_success (with_reducible refine iteP ?_)); (fail_if_success (with_reducible refine grdP ?_)); go_step) | go_upon | (simp only [Int.not_lt, Int.not_le] at *; go_simp))
    have H := H'.out
    clear H'
    by_cases c17 : t376 = 0
    ·
     rw [if_pos c17] at H
     have c17b0 : (t376 == 0) = true := beq_iff_eq.mpr c17
     have c17b1 : (t376 != 0) = false := bne_eq_false_iff_eq.mpr c17
     have c17e := eq_true c17
     clear c17
     (first | rw [c17b0] | (simp only [i64_w, i32_w]; rw [c17b0]) | skip)
     (try simp only [c17b0, c17b1]); (try (with_reducible refine iteP ?_; simp only [c17e, ↓reduceIte]))
     have HC18 := Aside0.mk H
     clear H
     go_upto_region 6 with (fail)
     go_cut [24] (fun v24 wc => ∃ (kq : Nat) (x24_17 : Bool), v24 = .bool x24_17 ∧ Aside0 (impl_UpdateFault.j1 kq x24_17 l0_0 a0_1 a0_2 l0_3 a0_4 a0_5 a0_6 l0_7 = some r) ∧ Aside0 (kq ≤ kj1) ∧ Aside0 (Kd.V k91 91 wc w.heap.size (fun k_ => ((P0_0_ k_ ∨ P0_7_ k_) ∨ w.heap.size ≤ k_) ∧ k_ ≠ gb369) (.slice A0_0 l0_0.length c0_0) l0_0) ∧ Aside0 (Kd.V k91 91 wc w.heap.size (fun k_ => ((P0_0_ k_ ∨ P0_7_ k_) ∨ w.heap.size ≤ k_) ∧ k_ ≠ gb369) (.slice A0_7 l0_7.length c0_7) l0_7) ∧ Aside0 (wc.heap[gb369]? = some (.cells #[(.slice A0_0 l0_0.length c0_0), .bool a0_1, .int .i64 a0_2, (.slice A0_3 l0_3.length c0_3), .int .i64 a0_4, .int .i64 a0_5, .int .i64 a0_6, (.slice A0_7 l0_7.length c0_7)] 38 (0, 0))) ∧ Aside0 (Below w.heap.size w wc))
     case first =>
      have H := HC18.out
      clear HC18
      by_cases c19 : a0_1 = true
      ·
       subst c19
       have H1 : (impl_UpdateFault.j1 kj1 ((l0_7.length : Int) == 0) l0_0 true a0_2 l0_3 a0_4 a0_5 a0_6 l0_7) = some r := by rw [if_pos rfl] at H; first | done | exact H
       clear H
       have H := H1
       clear H1
       have H' := Aside0.mk H
       clear H
       have hz20 := cl8 BK369
       go_wp2
       first | go_meet | (refine Met.intro ?_; go_step; (repeat apply Exists.intro); refine ⟨?rel, ?eqq⟩; (case eqq => (try simp only [c17b0]); rfl))
       case rel => exact ⟨_, (((l0_7.length : Int) == 0)), (by first | rfl | (simp; done) | (simp [*]; done)), H', ⟨by have := HJ1.out; first | omega | exact Nat.le_refl _⟩, ⟨by (with_reducible repeat (first | apply Kd.V_alloc | apply Kd.V_drewN | apply Kd.V_drew)); exact Kd.V_mono HO_370000.out (fun _ hk => ⟨hk.1.1.1, hk.1.1.2⟩)⟩, ⟨by (with_reducible repeat (first | apply Kd.V_alloc | apply Kd.V_drewN | apply Kd.V_drew)); exact Kd.V_mono HO_370007.out (fun _ hk => ⟨hk.1.1.1, hk.1.1.2⟩)⟩, ⟨by (with_reducible repeat (first | refine blk_drewN ?_ _ | refine blk_drew ?_ | refine blk_alloc ?_ _)); exact BK369.out⟩, ⟨bel HB⟩⟩
      ·
       replace c19 := Bool.eq_false_iff.mpr c19
       subst c19
       have H1 : (if (l0_7.length : Int) > 0 then (impl_UpdateFault.j1 kj1 true l0_0 false a0_2 l0_3 a0_4 a0_5 a0_6 l0_7) else ((impl_Attrs_isZero.f a0_2 l0_3 a0_4 a0_5 a0_6).bind fun t377 => (if t377 = true then (impl_UpdateFault.j1 kj1 false l0_0 false a0_2 l0_3 a0_4 a0_5 a0_6 l0_7) else (impl_UpdateFault.j1 kj1 true l0_0 false a0_2 l0_3 a0_4 a0_5 a0_6 l0_7)))) = some r := by rw [if_neg (show ¬ (false = true) by decide)] at H; first | done | exact H
       clear H
       have H := H1
       clear H1
       by_cases c21 : (l0_7.length : Int) > 0
       ·
        rw [if_pos c21] at H
        have c21b0 : decide (0 < (l0_7.length : Int)) = true := decide_eq_true c21
        have c21b1 : decide (0 < l0_7.length) = true := decide_eq_true (by omega)
        have c21e := eq_true c21
        clear c21
        (first | rw [c21b0] | (simp only [i64_w, i32_w]; rw [c21b0]) | skip)
        (try simp only [c21b0, c21b1]); (try (with_reducible refine iteP ?_; simp only [c21e, ↓reduceIte]))
        have H' := Aside0.mk H
        clear H
        have hz22 := cl8 BK369
        go_wp2
        first | go_meet | (refine Met.intro ?_; go_step; (repeat apply Exists.intro); refine ⟨?rel, ?eqq⟩; (case eqq => (try simp only [c17b0]); (try simp only [c21b0]); (try simp only [c21b1]); rfl))
        case rel => exact ⟨_, (true), (by first | rfl | (simp; done) | (simp [*]; done)), H', ⟨by have := HJ1.out; first | omega | exact Nat.le_refl _⟩, ⟨by (with_reducible repeat (first | apply Kd.V_alloc | apply Kd.V_drewN | apply Kd.V_drew)); exact Kd.V_mono HO_370000.out (fun _ hk => ⟨hk.1.1.1, hk.1.1.2⟩)⟩, ⟨by (with_reducible repeat (first | apply Kd.V_alloc | apply Kd.V_drewN | apply Kd.V_drew)); exact Kd.V_mono HO_370007.out (fun _ hk => ⟨hk.1.1.1, hk.1.1.2⟩)⟩, ⟨by (with_reducible repeat (first | refine blk_drewN ?_ _ | refine blk_drew ?_ | refine blk_alloc ?_ _)); exact BK369.out⟩, ⟨bel HB⟩⟩
       ·
        rw [if_neg c21] at H
        have c21b0 : decide (0 < (l0_7.length : Int)) = false := decide_eq_false c21
        have c21b1 : decide (0 < l0_7.length) = false := decide_eq_false (by omega)
        have c21e := eq_false c21
        clear c21
        (first | rw [c21b0] | (simp only [i64_w, i32_w]; rw [c21b0]) | skip)
        (try simp only [c21b0, c21b1]); (try (with_reducible refine iteP ?_; simp only [c21e, ↓reduceIte]))
        replace H := Option.bind_eq_some_iff.mp H
        obtain ⟨t377, A230, H⟩ := H
        replace H : (if t377 = true then (impl_UpdateFault.j1 kj1 false l0_0 false a0_2 l0_3 a0_4 a0_5 a0_6 l0_7) else (impl_UpdateFault.j1 kj1 true l0_0 false a0_2 l0_3 a0_4 a0_5 a0_6 l0_7)) = some r := H
        have A23 := Aside0.mk A230
        clear A230
        have H' := Aside0.mk H
        clear H
        have hz24 := cl8 BK369
        repeat (first | (go_at_call 74; (with_reducible refine (impl_Attrs_isZero.calls a0_2 _ _ l0_3 a0_4 a0_5 a0_6 t377 _ ?side1 ?side2 A23.out).mono ?_); (case side1 => exact mC HR0_3 HB); (case side2 => exact HC0_3.out); rintro e w25 ⟨rfl, hb⟩; replace HO_370000 := Aside0.mk (Kd.V_below (mV HO_370000) hb); replace HO_370007 := Aside0.mk (Kd.V_below (mV HO_370007) hb); replace HO372 := Aside0.mk (Kd.N_below (mN HO372) hb); replace HO375 := Aside0.mk (Kd.R_below (mR HO375) hb); replace BK369 := bK BK369 hb; replace HB := bS HB hb; (try clear hb); (try clear hb2); (try clear hk); (try clear hi)) | go_values | go_skip | ((with_reducible refine gateG ?gw ?_); (case gw => rfl)) | refine wpList_skip (by rfl) ?_ | refine wp_cond_true rfl ?_ | refine wp_cond_false rfl ?_ | (with_reducible refine iteTr (by first | assumption | omega) ?_) | (with_reducible refine iteFl (by first | assumption | omega) ?_) | ((fail_if_success (with_reducible refine condP ?_)); (fail_if_success (with_reducible refine iteP ?_)); (fail_if_success (with_reducible refine grdP ?_)); go_step) | go_upon | (simp only [Int.not_lt, Int.not_le] at *; go_simp))
        have H := H'.out
        clear H'
        by_cases c26 : t377 = true
        ·
         subst c26
         have H1 : (impl_UpdateFault.j1 kj1 false l0_0 false a0_2 l0_3 a0_4 a0_5 a0_6 l0_7) = some r := by rw [if_pos rfl] at H; first | done | exact H
         clear H
         have H := H1
         clear H1
         have H' := Aside0.mk H
         clear H
         have hz27 := cl8 BK369
         go_wp2
         first | go_meet | (refine Met.intro ?_; go_step; (repeat apply Exists.intro); refine ⟨?rel, ?eqq⟩; (case eqq => (try simp only [c17b0]); (try simp only [c21b0]); (try simp only [c21b1]); rfl))
         case rel => exact ⟨_, (false), (by first | rfl | (simp; done) | (simp [*]; done)), H', ⟨by have := HJ1.out; first | omega | exact Nat.le_refl _⟩, ⟨by (with_reducible repeat (first | apply Kd.V_alloc | apply Kd.V_drewN | apply Kd.V_drew)); exact Kd.V_mono HO_370000.out (fun _ hk => ⟨hk.1.1.1, hk.1.1.2⟩)⟩, ⟨by (with_reducible repeat (first | apply Kd.V_alloc | apply Kd.V_drewN | apply Kd.V_drew)); exact Kd.V_mono HO_370007.out (fun _ hk => ⟨hk.1.1.1, hk.1.1.2⟩)⟩, ⟨by (with_reducible repeat (first | refine blk_drewN ?_ _ | refine blk_drew ?_ | refine blk_alloc ?_ _)); exact BK369.out⟩, ⟨bel HB⟩⟩
        ·
         replace c26 := Bool.eq_false_iff.mpr c26
         subst c26
         have H1 : (impl_UpdateFault.j1 kj1 true l0_0 false a0_2 l0_3 a0_4 a0_5 a0_6 l0_7) = some r := by rw [if_neg (show ¬ (false = true) by decide)] at H; first | done | exact H
         clear H
         have H := H1
         clear H1
         have H' := Aside0.mk H
         clear H
         go_wp2
         first | go_meet | (refine Met.intro ?_; go_step; (repeat apply Exists.intro); refine ⟨?rel, ?eqq⟩; (case eqq => (try simp only [c17b0]); (try simp only [c21b0]); (try simp only [c21b1]); rfl))
         case rel => exact ⟨_, (true), (by first | rfl | (simp; done) | (simp [*]; done)), H', ⟨by have := HJ1.out; first | omega | exact Nat.le_refl _⟩, ⟨by (with_reducible repeat (first | apply Kd.V_alloc | apply Kd.V_drewN | apply Kd.V_drew)); exact Kd.V_mono HO_370000.out (fun _ hk => ⟨hk.1.1.1, hk.1.1.2⟩)⟩, ⟨by (with_reducible repeat (first | apply Kd.V_alloc | apply Kd.V_drewN | apply Kd.V_drew)); exact Kd.V_mono HO_370007.out (fun _ hk => ⟨hk.1.1.1, hk.1.1.2⟩)⟩, ⟨by (with_reducible repeat (first | refine blk_drewN ?_ _ | refine blk_drew ?_ | refine blk_alloc ?_ _)); exact BK369.out⟩, ⟨bel HB⟩⟩
     case rest =>
      clear HC18
      try clear c1
      try clear c2
      try clear p2
      try clear c4e
      try clear c4
      try clear c4b0
      try clear c4b1
      try clear c6
      try clear c7
      try clear c17e
      try clear c17
      try clear c17b0
      try clear c17b1
      try clear c19
      try clear c21e
      try clear c21
      try clear c21b0
      try clear c21b1
      try clear c26
      try clear hz10
      try clear hz20
      try clear hz22
      try clear hz24
      try clear hz27
      try clear hz5
      try clear hz6
      try clear p2
      obtain ⟨kq, x24_17, rfl, HA, HJ17, HO_370000, HO_370007, BK369, HB⟩ := hcut
      cases kq with
      | zero => exact absurd HA.out (by simp [impl_UpdateFault.j1])
      | succ kj17 =>
       have H := HA.out
       clear HA
       simp only [impl_UpdateFault.j1] at H
       by_cases c28 : x24_17 = true
       ·
        subst c28
        have H1 : (some 1) = some r := by rw [if_pos rfl] at H; first | done | exact H
        clear H
        have H := H1
        clear H1
        obtain rfl := Option.some.inj H
        go_wp2
        go_ret
        exact ⟨by first | rfl | (simp [errW_none, errW_some] <;> rfl) | (simp [*, errW_none, errW_some] <;> rfl), bel HB⟩
       ·
        replace c28 := Bool.eq_false_iff.mpr c28
        subst c28
        have H1 : (if a0_1 = true then ((impl_AttrsFault.f kj17 a0_2 l0_3 a0_4 a0_5 a0_6).bind fun t378 => (some t378)) else (some 0)) = some r := by rw [if_neg (show ¬ (false = true) by decide)] at H; first | done | exact H
        clear H
        have H := H1
        clear H1
        by_cases c29 : a0_1 = true
        ·
         subst c29
         have H1 : ((impl_AttrsFault.f kj17 a0_2 l0_3 a0_4 a0_5 a0_6).bind fun t378 => (some t378)) = some r := by rw [if_pos rfl] at H; first | done | exact H
         clear H
         have H := H1
         clear H1
         replace H := Option.bind_eq_some_iff.mp H
         obtain ⟨t378, A300, H⟩ := H
         replace H : (some t378) = some r := H
         have A30 := Aside0.mk A300
         clear A300
         obtain rfl := Option.some.inj H
         have hz31 := cl8 BK369
         go_wp2_with (first | ((with_reducible refine gate_callee (f := 75) rfl ?_); refine goA (some 55) rfl rfl Try.func75 rfl #[.agg #[.int .i64 a0_2, .slice A0_3 l0_3.length c0_3, .int .i64 a0_4, .int .i64 a0_5, .int .i64 a0_6]] rfl ?_; (with_reducible refine (impl_AttrsFault.calls kj17 a0_2 _ _ l0_3 a0_4 a0_5 a0_6 t378 _ ?side1 ?side2 A30.out).mono ?_); (case side1 => exact mC HR0_3 HB); (case side2 => exact HC0_3.out); rintro e w32 ⟨rfl, hb⟩; refine ⟨_, rfl, ?_⟩; replace HO_370000 := Aside0.mk (Kd.V_below (mV HO_370000) hb); replace HO_370007 := Aside0.mk (Kd.V_below (mV HO_370007) hb); replace BK369 := bK BK369 hb; replace HB := bS HB hb; (try clear hb); (try clear hb2); (try clear hk); (try clear hi)))
         go_ret
         exact ⟨by first | rfl | (simp [errW_none, errW_some] <;> rfl) | (simp [*, errW_none, errW_some] <;> rfl), bel HB⟩
        ·
         replace c29 := Bool.eq_false_iff.mpr c29
         subst c29
         have H1 : (some 0) = some r := by rw [if_neg (show ¬ (false = true) by decide)] at H; first | done | exact H
         clear H
         have H := H1
         clear H1
         obtain rfl := Option.some.inj H
         have hz33 := cl8 BK369
         go_wp2
         go_ret
         exact ⟨by first | rfl | (simp [errW_none, errW_some] <;> rfl) | (simp [*, errW_none, errW_some] <;> rfl), bel HB⟩
    ·
     rw [if_neg c17] at H
     have c17b0 : (t376 == 0) = false := beq_eq_false_iff_ne.mpr c17
     have c17b1 : (t376 != 0) = true := bne_iff_ne.mpr c17
     have c17e := eq_false c17
     (first | rw [c17b0] | (simp only [i64_w, i32_w]; rw [c17b0]) | skip)
     (try simp only [c17b0, c17b1]); (try (with_reducible refine iteP ?_; simp only [c17e, ↓reduceIte]))
     obtain rfl := Option.some.inj H
     go_wp2
     go_ret
     exact ⟨by first | rfl | (simp [errW_none, errW_some] <;> rfl) | (simp [*, errW_none, errW_some] <;> rfl), bel HB⟩

/-! ### impl_isHold: function 90 -/
def impl_isHold.f (a0 : Int) : Option (Bool) := if a0 = 0 then (some true) else ((impl_in.f a0 3 200).bind fun t379 => (some t379))
set_option maxHeartbeats 8000000 in
set_option maxRecDepth 100000 in
theorem impl_isHold.calls (a0 : Int) (r : Bool) (w : World) (h : impl_isHold.f a0 = some r) :
  Calls Try.prog 90 #[.int .i64 a0] w fun e w' => e = .returned (.bool r) ∧ Drawn0 w w' := by
 have H : (if a0 = 0 then (some true) else ((impl_in.f a0 3 200).bind fun t379 => (some t379))) = some r := h
 clear h
 by_cases c2 : a0 = 0
 ·
  rw [if_pos c2] at H
  have c2b0 : (a0 == 0) = true := beq_iff_eq.mpr c2
  have c2b1 : (a0 != 0) = false := bne_eq_false_iff_eq.mpr c2
  have c2e := eq_true c2
  clear c2
  obtain rfl := Option.some.inj H
  go_enter Try.func90, Try.ntmps90
  go_wp2
  go_ret
  exact ⟨by first | rfl | (simp; done) | (simp [*]; done), drw⟩
 ·
  rw [if_neg c2] at H
  have c2b0 : (a0 == 0) = false := beq_eq_false_iff_ne.mpr c2
  have c2b1 : (a0 != 0) = true := bne_iff_ne.mpr c2
  have c2e := eq_false c2
  replace H := Option.bind_eq_some_iff.mp H
  obtain ⟨t379, A30, H⟩ := H
  replace H : (some t379) = some r := H
  have A3 := Aside0.mk A30
  clear A30
  obtain rfl := Option.some.inj H
  go_enter Try.func90, Try.ntmps90
  go_wp2_with (first | (go_at_call 110; (with_reducible refine (impl_in.calls a0 3 200 t379 _ A3.out).mono ?_); rintro e w' ⟨rfl, ⟨nd, rfl⟩⟩))
  go_ret
  exact ⟨by first | rfl | (simp; done) | (simp [*]; done), drw⟩

/-! ### impl_areReasons: function 91 -/
def impl_areReasons.f (a0 : Int) (a1 : Int) : Option (Bool) := (impl_in.f a0 1 6).bind fun t380 => (if t380 = true then ((impl_in.f a1 0 20).bind fun t381 => (some t381)) else (some false))
set_option maxHeartbeats 8000000 in
set_option maxRecDepth 100000 in
theorem impl_areReasons.calls (a0 : Int) (a1 : Int) (r : Bool) (w : World) (h : impl_areReasons.f a0 a1 = some r) :
  Calls Try.prog 91 #[.int .i64 a0, .int .i64 a1] w fun e w' => e = .returned (.bool r) ∧ Drawn0 w w' := by
 have H : ((impl_in.f a0 1 6).bind fun t380 => (if t380 = true then ((impl_in.f a1 0 20).bind fun t381 => (some t381)) else (some false))) = some r := h
 clear h
 replace H := Option.bind_eq_some_iff.mp H
 obtain ⟨t380, A30, H⟩ := H
 replace H : (if t380 = true then ((impl_in.f a1 0 20).bind fun t381 => (some t381)) else (some false)) = some r := H
 have A3 := Aside0.mk A30
 clear A30
 have H' := Aside0.mk H
 clear H
 go_enter Try.func91, Try.ntmps91
 repeat (first | ((with_reducible refine gate_callee (f := 110) rfl ?_); refine goA (some 6) rfl rfl Try.func110 rfl #[.int .i64 a0, .int .i64 1, .int .i64 6] rfl ?_; (with_reducible refine (impl_in.calls a0 1 6 t380 _ A3.out).mono ?_); rintro e w' ⟨rfl, ⟨nd, rfl⟩⟩; refine ⟨_, rfl, ?_⟩) | go_values | go_skip | ((with_reducible refine gateG ?gw ?_); (case gw => rfl)) | refine wpList_skip (by rfl) ?_ | refine wp_cond_true rfl ?_ | refine wp_cond_false rfl ?_ | (with_reducible refine iteTr (by first | assumption | omega) ?_) | (with_reducible refine iteFl (by first | assumption | omega) ?_) | ((fail_if_success (with_reducible refine condP ?_)); (fail_if_success (with_reducible refine iteP ?_)); (fail_if_success (with_reducible refine grdP ?_)); go_step) | go_upon | (simp only [Int.not_lt, Int.not_le] at *; go_simp))
 have H := H'.out
 clear H'
 by_cases c4 : t380 = true
 ·
  subst c4
  have H1 : ((impl_in.f a1 0 20).bind fun t381 => (some t381)) = some r := by rw [if_pos rfl] at H; first | done | exact H
  clear H
  have H := H1
  clear H1
  replace H := Option.bind_eq_some_iff.mp H
  obtain ⟨t381, A50, H⟩ := H
  replace H : (some t381) = some r := H
  have A5 := Aside0.mk A50
  clear A50
  obtain rfl := Option.some.inj H
  go_wp2_with (first | (go_at_call 110; (with_reducible refine (impl_in.calls a1 0 20 t381 _ A5.out).mono ?_); rintro e w' ⟨rfl, ⟨nd, rfl⟩⟩))
  go_ret
  exact ⟨by first | rfl | (simp; done) | (simp [*]; done), drw⟩
 ·
  replace c4 := Bool.eq_false_iff.mpr c4
  subst c4
  have H1 : (some false) = some r := by rw [if_neg (show ¬ (false = true) by decide)] at H; first | done | exact H
  clear H
  have H := H1
  clear H1
  obtain rfl := Option.some.inj H
  go_wp2
  go_ret
  exact ⟨by first | rfl | (simp; done) | (simp [*]; done), drw⟩

/-! ### impl_Update_isZero: function 112 -/
def impl_Update_isZero.f (l0_0 : List (S91)) (a0_1 : Bool) (a0_2 : Int) (l0_3 : List Int) (a0_4 : Int) (a0_5 : Int) (a0_6 : Int) (l0_7 : List (S91)) : Option (Bool) := if (l0_0.length : Int) = 0 then (if a0_1 = true then (some false) else ((impl_Attrs_isZero.f a0_2 l0_3 a0_4 a0_5 a0_6).bind fun t383 => (if t383 = true then (some ((l0_7.length : Int) == 0)) else (some false)))) else (some false)
set_option maxHeartbeats 8000000 in
set_option maxRecDepth 100000 in
theorem impl_Update_isZero.calls (A0_0 : Option Addr) (c0_0 : Nat) (l0_0 : List (S91)) (a0_1 : Bool) (a0_2 : Int) (A0_3 : Option Addr) (c0_3 : Nat) (l0_3 : List Int) (a0_4 : Int) (a0_5 : Int) (a0_6 : Int) (A0_7 : Option Addr) (c0_7 : Nat) (l0_7 : List (S91)) (r : Bool) (w : World) (hr0_0 : Kd.C k91 w A0_0 l0_0.length l0_0) (hc0_0 : l0_0.length ≤ c0_0) (hr0_3 : Kd.C (Kd.int .i64) w A0_3 l0_3.length l0_3) (hc0_3 : l0_3.length ≤ c0_3) (hr0_7 : Kd.C k91 w A0_7 l0_7.length l0_7) (hc0_7 : l0_7.length ≤ c0_7) (h : impl_Update_isZero.f l0_0 a0_1 a0_2 l0_3 a0_4 a0_5 a0_6 l0_7 = some r) :
  Calls Try.prog 112 #[.agg #[.slice A0_0 l0_0.length c0_0, .bool a0_1, .int .i64 a0_2, .slice A0_3 l0_3.length c0_3, .int .i64 a0_4, .int .i64 a0_5, .int .i64 a0_6, .slice A0_7 l0_7.length c0_7]] w fun e w' => e = .returned (.bool r) ∧ Below w.heap.size w w' := by
 have hu38 := Try.underlying38
 have hu36 := Try.underlying36
 have HR0_0 := Aside0.mk hr0_0
 have HC0_0 := Aside0.mk hc0_0
 clear hr0_0 hc0_0
 have HR0_3 := Aside0.mk hr0_3
 have HC0_3 := Aside0.mk hc0_3
 clear hr0_3 hc0_3
 have HR0_7 := Aside0.mk hr0_7
 have HC0_7 := Aside0.mk hc0_7
 clear hr0_7 hc0_7
 have HB := Aside0.mk (Below.refl w.heap.size w)
 have H : (if (l0_0.length : Int) = 0 then (if a0_1 = true then (some false) else ((impl_Attrs_isZero.f a0_2 l0_3 a0_4 a0_5 a0_6).bind fun t383 => (if t383 = true then (some ((l0_7.length : Int) == 0)) else (some false)))) else (some false)) = some r := h
 clear h
 have H' := Aside0.mk H
 clear H
 go_enter Try.func112, Try.ntmps112
 repeat (first | ((with_reducible refine gate_dst (N := 1) rfl ?_); (try (refine gate_guard (by rfl) ?_; dsimp only)); refine boxE #[.slice A0_0 l0_0.length c0_0, .bool a0_1, .int .i64 a0_2, .slice A0_3 l0_3.length c0_3, .int .i64 a0_4, .int .i64 a0_5, .int .i64 a0_6, .slice A0_7 l0_7.length c0_7] 38 (N := 1) rfl rfl ?_; intro gb382 hg w2 hbox hb; have BK382 := Aside0.mk hbox; have GW382 := gZ HB hg; have GE382 := gZ HB hg; replace HB := bS HB hb; clear hb hbox hg; have hz3 := cl8 BK382) | go_values | go_skip | ((with_reducible refine gateG ?gw ?_); (case gw => rfl)) | refine wpList_skip (by rfl) ?_ | refine wp_cond_true rfl ?_ | refine wp_cond_false rfl ?_ | (with_reducible refine iteTr (by first | assumption | omega) ?_) | (with_reducible refine iteFl (by first | assumption | omega) ?_) | ((fail_if_success (with_reducible refine condP ?_)); (fail_if_success (with_reducible refine iteP ?_)); (fail_if_success (with_reducible refine grdP ?_)); go_step) | go_upon | (simp only [Int.not_lt, Int.not_le] at *; go_simp))
 have H := H'.out
 clear H'
 by_cases c4 : (l0_0.length : Int) = 0
 ·
  rw [if_pos c4] at H
  have c4b0 : ((l0_0.length : Int) == 0) = true := beq_iff_eq.mpr c4
  have c4b1 : ((l0_0.length : Int) != 0) = false := bne_eq_false_iff_eq.mpr c4
  have c4e := eq_true c4
  clear c4
  (first | rw [c4b0] | (simp only [i64_w, i32_w]; rw [c4b0]) | skip)
  (try simp only [c4b0, c4b1]); (try (with_reducible refine iteP ?_; simp only [c4e, ↓reduceIte]))
  by_cases c5 : a0_1 = true
  ·
   subst c5
   have H1 : (some false) = some r := by rw [if_pos rfl] at H; first | done | exact H
   clear H
   have H := H1
   clear H1
   obtain rfl := Option.some.inj H
   have hz6 := cl8 BK382
   go_wp2
   go_ret
   exact ⟨by first | rfl | (simp [errW_none, errW_some] <;> rfl) | (simp [*, errW_none, errW_some] <;> rfl), bel HB⟩
  ·
   replace c5 := Bool.eq_false_iff.mpr c5
   subst c5
   have H1 : ((impl_Attrs_isZero.f a0_2 l0_3 a0_4 a0_5 a0_6).bind fun t383 => (if t383 = true then (some ((l0_7.length : Int) == 0)) else (some false))) = some r := by rw [if_neg (show ¬ (false = true) by decide)] at H; first | done | exact H
   clear H
   have H := H1
   clear H1
   replace H := Option.bind_eq_some_iff.mp H
   obtain ⟨t383, A70, H⟩ := H
   replace H : (if t383 = true then (some ((l0_7.length : Int) == 0)) else (some false)) = some r := H
   have A7 := Aside0.mk A70
   clear A70
   have H' := Aside0.mk H
   clear H
   have hz8 := cl8 BK382
   repeat (first | (go_at_call 74; (with_reducible refine (impl_Attrs_isZero.calls a0_2 _ _ l0_3 a0_4 a0_5 a0_6 t383 _ ?side1 ?side2 A7.out).mono ?_); (case side1 => exact mC HR0_3 HB); (case side2 => exact HC0_3.out); rintro e w9 ⟨rfl, hb⟩; replace BK382 := bK BK382 hb; replace HB := bS HB hb; (try clear hb); (try clear hb2); (try clear hk); (try clear hi)) | go_values | go_skip | ((with_reducible refine gateG ?gw ?_); (case gw => rfl)) | refine wpList_skip (by rfl) ?_ | refine wp_cond_true rfl ?_ | refine wp_cond_false rfl ?_ | (with_reducible refine iteTr (by first | assumption | omega) ?_) | (with_reducible refine iteFl (by first | assumption | omega) ?_) | ((fail_if_success (with_reducible refine condP ?_)); (fail_if_success (with_reducible refine iteP ?_)); (fail_if_success (with_reducible refine grdP ?_)); go_step) | go_upon | (simp only [Int.not_lt, Int.not_le] at *; go_simp))
   have H := H'.out
   clear H'
   by_cases c10 : t383 = true
   ·
    subst c10
    have H1 : (some ((l0_7.length : Int) == 0)) = some r := by rw [if_pos rfl] at H; first | done | exact H
    clear H
    have H := H1
    clear H1
    obtain rfl := Option.some.inj H
    have hz11 := cl8 BK382
    go_wp2
    go_ret
    exact ⟨by first | rfl | (simp [errW_none, errW_some] <;> rfl) | (simp [*, errW_none, errW_some] <;> rfl), bel HB⟩
   ·
    replace c10 := Bool.eq_false_iff.mpr c10
    subst c10
    have H1 : (some false) = some r := by rw [if_neg (show ¬ (false = true) by decide)] at H; first | done | exact H
    clear H
    have H := H1
    clear H1
    obtain rfl := Option.some.inj H
    go_wp2
    go_ret
    exact ⟨by first | rfl | (simp [errW_none, errW_some] <;> rfl) | (simp [*, errW_none, errW_some] <;> rfl), bel HB⟩
 ·
  rw [if_neg c4] at H
  have c4b0 : ((l0_0.length : Int) == 0) = false := beq_eq_false_iff_ne.mpr c4
  have c4b1 : ((l0_0.length : Int) != 0) = true := bne_iff_ne.mpr c4
  have c4b2 : ¬ (l0_0 = []) := fun h_ => c4 (by rw [h_]; rfl)
  have c4e := eq_false c4
  (first | rw [c4b0] | (simp only [i64_w, i32_w]; rw [c4b0]) | skip)
  (try simp only [c4b0, c4b1, c4b2]); (try (with_reducible refine iteP ?_; simp only [c4e, ↓reduceIte]))
  obtain rfl := Option.some.inj H
  go_wp2
  go_ret
  exact ⟨by first | rfl | (simp [errW_none, errW_some] <;> rfl) | (simp [*, errW_none, errW_some] <;> rfl), bel HB⟩

end Go.Proofs.Ytgfoifkkffffgac.PFnExactPackMessage
