-- Laid by a turned copy of the printer (wip/tools/patch_print.py)
import Derived.Test.YtgfoifkkffffgabPFnLeasesx0
namespace Go.Proofs.Ytgfoifkkffffgab.PFnLeases
open Go.RowKit Go.Proofs.YtgfoifkkffffgabW.PrintWords Go.Proofs.YtgfoifkkffffgabW.PrintLast Go.Proofs.YtgfoifkkffffgabW.PrintMore
attribute [local go_sem] max2_int min2_int max_two min_two max_three min_three max_four min_four   -- for this text's walks alone
set_option linter.unusedVariables false
set_option linter.unusedSimpArgs false

/-! ### laws_lwBig: function 26 -/
def laws_lwBig.f (l0 : List Int) : Option (Bool) := some (decide ((l0.length : Int) > 1048576))
set_option maxHeartbeats 8000000 in
set_option maxRecDepth 100000 in
theorem laws_lwBig.calls (A0 : Option Addr) (c0 : Nat) (l0 : List Int) (r : Bool) (w : World) (hr0 : Kd.C (Kd.int .u8) w A0 l0.length l0) (hc0 : l0.length ≤ c0) (h : laws_lwBig.f l0 = some r) :
  Calls Try.prog 26 #[.slice A0 l0.length c0] w fun e w' => e = .returned (.bool r) ∧ Drawn0 w w' := by
 have HR0 := Aside0.mk hr0
 have HC0 := Aside0.mk hc0
 clear hr0 hc0
 have H : (some (decide ((l0.length : Int) > 1048576))) = some r := h
 clear h
 obtain rfl := Option.some.inj H
 go_enter Try.func26, Try.ntmps26
 go_wp2
 go_ret
 exact ⟨by first | rfl | (simp; done) | (simp [*]; done), drw⟩

/-! ### impl_in: function 87 -/
def impl_in.f (a0 : Int) (a1 : Int) (a2 : Int) : Option (Bool) := if a0 ≥ a1 then (some (decide (a0 ≤ a2))) else (some false)
set_option maxHeartbeats 8000000 in
set_option maxRecDepth 100000 in
theorem impl_in.calls (a0 : Int) (a1 : Int) (a2 : Int) (r : Bool) (w : World) (h : impl_in.f a0 a1 a2 = some r) :
  Calls Try.prog 87 #[.int .i64 a0, .int .i64 a1, .int .i64 a2] w fun e w' => e = .returned (.bool r) ∧ Drawn0 w w' := by
 have H : (if a0 ≥ a1 then (some (decide (a0 ≤ a2))) else (some false)) = some r := h
 clear h
 by_cases c4 : a0 ≥ a1
 ·
  rw [if_pos c4] at H
  have c4b0 : decide (a1 ≤ a0) = true := decide_eq_true c4
  clear c4
  obtain rfl := Option.some.inj H
  go_enter Try.func87, Try.ntmps87
  go_wp2
  go_ret
  exact ⟨by first | rfl | (simp; done) | (simp [*]; done), drw⟩
 rw [if_neg c4] at H
 have c4b0 : decide (a1 ≤ a0) = false := decide_eq_false c4
 clear c4
 obtain rfl := Option.some.inj H
 go_enter Try.func87, Try.ntmps87
 go_wp2
 go_ret
 exact ⟨by first | rfl | (simp; done) | (simp [*]; done), drw⟩

/-! ### impl_ClockFault: function 42 -/
def impl_ClockFault.l0 : Nat → List Int → Int → Int → Int → List Int → Option (Int)
 | 0, _, _, _, _, _ => none
 | k + 1, x16, x17, x18, x102000, x102001 => if x18 < x17 then (if 0 ≤ x18 then (if x18 < (x16.length : Int) then ((impl_in.f (rd x16 x18) (mx (wrap64 (x102000 - 2)) 0) (wrap64 (x102000 + 2))).bind fun t104 => (if t104 = true then (impl_ClockFault.l0 k x16 x17 (wrap64 (x18 + 1)) x102000 x102001) else (some 3))) else (none)) else (none)) else (some 0)
def impl_ClockFault.f (k : Nat) (a0_0 : Int) (l0_1 : List Int) : Option (Int) := (impl_in.f a0_0 0 1000000000).bind fun t102 => (if t102 = true then (if (l0_1.length : Int) = 2 then (impl_ClockFault.l0 k l0_1 (l0_1.length : Int) 0 a0_0 l0_1) else (some 1)) else (some 3))
theorem impl_ClockFault.mono_l : ∀ k, (∀ y0 y1 y2 y3 y4, LeO (impl_ClockFault.l0 k y0 y1 y2 y3 y4) (impl_ClockFault.l0 (k + 1) y0 y1 y2 y3 y4))
 | 0 => fun _ _ _ _ _ r h => by simp [impl_ClockFault.l0] at h
 | k + 1 => by
  have ih0 := impl_ClockFault.mono_l k
  intro y0 y1 y2 y3 y4
  unfold impl_ClockFault.l0
  repeat' first
  | (with_reducible exact ih0 _ _ _ _ _)
  | (with_reducible exact LeO.refl _)
  | (with_reducible exact LeO.none _)
  | (with_reducible refine LeO.ite ?_ ?_)
  | (with_reducible refine LeO.bind ?_ (fun _ => ?_))
  | exact ih0 _ _ _ _ _
  | exact LeO.none _
  | refine LeO.ite ?_ ?_
  | refine LeO.bind ?_ (fun _ => ?_)
theorem impl_ClockFault.mono : ∀ a0 a1 k, LeO (impl_ClockFault.f k a0 a1) (impl_ClockFault.f (k + 1) a0 a1) := by
 intro a0 a1 k
 have ih0 := impl_ClockFault.mono_l k
 unfold impl_ClockFault.f
 repeat' first
   | (with_reducible exact ih0 _ _ _ _ _)
   | (with_reducible exact LeO.refl _)
   | (with_reducible exact LeO.none _)
   | (with_reducible refine LeO.ite ?_ ?_)
   | (with_reducible refine LeO.bind ?_ (fun _ => ?_))
   | exact ih0 _ _ _ _ _
   | exact LeO.none _
   | refine LeO.ite ?_ ?_
   | refine LeO.bind ?_ (fun _ => ?_)
set_option maxHeartbeats 8000000 in
set_option maxRecDepth 100000 in
theorem impl_ClockFault.calls (k : Nat) (a0_0 : Int) (A0_1 : Option Addr) (c0_1 : Nat) (l0_1 : List Int) (r : Int) (w : World) (hr0_1 : Kd.C (Kd.int .i64) w A0_1 l0_1.length l0_1) (hc0_1 : l0_1.length ≤ c0_1) (h : impl_ClockFault.f k a0_0 l0_1 = some r) :
  Calls Try.prog 42 #[.agg #[.int .i64 a0_0, .slice A0_1 l0_1.length c0_1]] w fun e w' => e = .returned (.int .i64 r) ∧ Below w.heap.size w w' := by
 have hu71 := Try.underlying71
 have HR0_1 := Aside0.mk hr0_1
 have HC0_1 := Aside0.mk hc0_1
 clear hr0_1 hc0_1
 have HB := am (Below.refl w.heap.size w)
 have H : ((impl_in.f a0_0 0 1000000000).bind fun t102 => (if t102 = true then (if (l0_1.length : Int) = 2 then (impl_ClockFault.l0 k l0_1 (l0_1.length : Int) 0 a0_0 l0_1) else (some 1)) else (some 3))) = some r := h
 clear h
 replace H := Option.bind_eq_some_iff.mp H
 obtain ⟨t102, A20, H⟩ := H
 replace H : (if t102 = true then (if (l0_1.length : Int) = 2 then (impl_ClockFault.l0 k l0_1 (l0_1.length : Int) 0 a0_0 l0_1) else (some 1)) else (some 3)) = some r := H
 have A2 := Aside0.mk A20
 clear A20
 by_cases c3 : t102 = true
 ·
  subst c3
  have H1 : (if (l0_1.length : Int) = 2 then (impl_ClockFault.l0 k l0_1 (l0_1.length : Int) 0 a0_0 l0_1) else (some 1)) = some r := by rw [if_pos rfl] at H; first | done | exact H
  clear H
  have H := H1
  clear H1
  by_cases c4 : (l0_1.length : Int) = 2
  ·
   rw [if_pos c4] at H
   have c4b0 : ((l0_1.length : Int) == 2) = true := beq_iff_eq.mpr c4
   have c4b1 : ((l0_1.length : Int) != 2) = false := bne_eq_false_iff_eq.mpr c4
   clear c4
   have H' := Aside0.mk H
   clear H
   go_enter Try.func42, Try.ntmps42
   go_wp2_with (first | ((with_reducible refine gate_dst (N := 1) rfl ?_); refine boxE #[.int .i64 a0_0, .slice A0_1 l0_1.length c0_1] 71 (N := 1) rfl rfl ?_; intro gb101 hg w5 hbox hb; have BK101 := Aside0.mk hbox; have GW101 := gZ HB hg; have GE101 := gZ HB hg; replace HB := bS HB hb; clear hb hbox hg; have hz6 := cl2 BK101) | ((with_reducible refine gate_callee (f := 87) rfl ?_); refine goA (some 8) rfl rfl Try.func87 rfl #[.int .i64 a0_0, .int .i64 0, .int .i64 1000000000] rfl ?_; (with_reducible refine (impl_in.calls a0_0 0 1000000000 true _ A2.out).mono ?_); rintro e w' ⟨rfl, ⟨nd, rfl⟩⟩; refine ⟨_, rfl, ?_⟩))
   go_loopg [18] k (fun kq v18 w' => ∃ (x18_1 : Int), v18 = .int .i64 x18_1 ∧ Aside0 (impl_ClockFault.l0 kq l0_1 (l0_1.length : Int) x18_1 a0_0 l0_1 = some r) ∧ Aside0 (kq ≤ k) ∧ Aside0 (w'.heap[gb101]? = some (.cells #[.int .i64 a0_0, (.slice A0_1 l0_1.length c0_1)] 71 (0, 0))) ∧ Aside0 (Below w.heap.size w w'))
   case atStart => exact ⟨(0), (by first | rfl | (simp; done) | (simp [*]; done)), H', ⟨Nat.le_refl _⟩, ⟨by (with_reducible repeat (first | refine blk_drewN ?_ _ | refine blk_drew ?_ | refine blk_alloc ?_ _)); exact BK101.out⟩, ⟨bel HB⟩⟩
   case round =>
    clear H'
    try clear p2
    try clear c3
    try clear c4
    try clear c4b0
    try clear c4b1
    try clear hz6
    obtain ⟨x18_1, rfl, HA, HK1, BK101, HB⟩ := hrel
    cases gk with
    | zero => exact absurd HA.out (by simp [impl_ClockFault.l0])
    | succ k1 =>
     have H := HA.out
     clear HA
     simp only [impl_ClockFault.l0] at H
     by_cases c7 : x18_1 < (l0_1.length : Int)
     ·
      rw [if_pos c7] at H
      have c7b0 : decide (x18_1 < (l0_1.length : Int)) = true := decide_eq_true c7
      clear c7
      by_cases c8 : 0 ≤ x18_1
      ·
       rw [if_pos c8] at H
       have c8b0 : decide (0 ≤ x18_1) = true := decide_eq_true c8
       clear c8
       by_cases c9 : x18_1 < (l0_1.length : Int)
       ·
        rw [if_pos c9] at H
        have c9b0 : decide (x18_1 < (l0_1.length : Int)) = true := decide_eq_true c9
        clear c9
        obtain ⟨ji10, hji10⟩ : ∃ j_ : Int, (mx (wrap64 (a0_0 - 2)) 0) = j_ := ⟨_, rfl⟩
        replace H : ((impl_in.f (rd l0_1 x18_1) (ji10) (wrap64 (a0_0 + 2))).bind fun t104 => (if t104 = true then (impl_ClockFault.l0 k1 l0_1 (l0_1.length : Int) (wrap64 (x18_1 + 1)) a0_0 l0_1) else (some 3))) = some r := by first | (rw [hji10] at H; exact H) | (simp only [hji10] at H ⊢; exact H)
        have hji10_ : (if (wrap64 (a0_0 - 2)) < 0 then 0 else (wrap64 (a0_0 - 2))) = ji10 := hji10
        replace H := Option.bind_eq_some_iff.mp H
        obtain ⟨t104, A110, H⟩ := H
        replace H : (if t104 = true then (impl_ClockFault.l0 k1 l0_1 (l0_1.length : Int) (wrap64 (x18_1 + 1)) a0_0 l0_1) else (some 3)) = some r := H
        have A11 := Aside0.mk A110
        clear A110
        by_cases c12 : t104 = true
        ·
         subst c12
         have H1 : (impl_ClockFault.l0 k1 l0_1 (l0_1.length : Int) (wrap64 (x18_1 + 1)) a0_0 l0_1) = some r := by rw [if_pos rfl] at H; first | done | exact H
         clear H
         have H := H1
         clear H1
         have H' := Aside0.mk H
         clear H
         have p103 : 0 ≤ (x18_1 : Int) := of_decide_eq_true (by first | (with_reducible assumption) | assumption)
         have q103 : x18_1 < (l0_1.length : Int) := of_decide_eq_true (by first | (with_reducible assumption) | assumption)
         obtain ⟨ad103, e103, hx103_0⟩ := Kd.at_int HR0_1.out x18_1 p103 q103
         cases e103
         replace hx103_0 := (HB.out.cell (World.block_lt_of_cell? w _ hx103_0)).trans hx103_0
         replace p103 := eq_true p103
         replace q103 := eq_true q103
         have hcz13_0 : wr.cell? ⟨gb101, 0, none⟩ = some (.int .i64 a0_0) := (blk_cell BK101.out 0).trans rfl
         have hcz13_1 : wr.cell? ⟨gb101, 1, none⟩ = some (.slice (some ad103) l0_1.length c0_1) := (blk_cell BK101.out 1).trans rfl
         have hfz13_0 := blk_frozen BK101.out 0
         have hfz13_1 := blk_frozen BK101.out 1
         go_wp2_with (first | ((with_reducible refine gate_callee (f := 87) rfl ?_); refine goesL_ (some 30) rfl rfl Try.func87 (by kernel_rfl) rfl #[.int .i64 (rd l0_1 x18_1), .int .i64 ji10, .int .i64 (wrap64 (a0_0 + 2))] rfl (by (try simp only [List.map_toArray, List.map_cons, List.map_nil]); first | done | (simp only [hji10]; rfl) | rfl | (simp only [List.length_drop, List.length_take]; rfl)) ?_; (with_reducible refine (impl_in.calls (rd l0_1 x18_1) ji10 (wrap64 (a0_0 + 2)) true _ A11.out).mono ?_); rintro e w' ⟨rfl, ⟨nd, rfl⟩⟩; refine ⟨_, rfl, ?_⟩))
         go_roundg k1
         case measure => have := HK1.out; omega
         case rel => exact ⟨(wrap64 (x18_1 + 1)), (by first | rfl | (simp; done) | (simp [*]; done)), H', ⟨by have := HK1.out; omega⟩, ⟨by (with_reducible repeat (first | refine blk_drewN ?_ _ | refine blk_drew ?_ | refine blk_alloc ?_ _)); exact BK101.out⟩, ⟨bel HB⟩⟩
        replace c12 := Bool.eq_false_iff.mpr c12
        subst c12
        have H1 : (some 3) = some r := by rw [if_neg (show ¬ (false = true) by decide)] at H; first | done | exact H
        clear H
        have H := H1
        clear H1
        obtain rfl := Option.some.inj H
        have p103 : 0 ≤ (x18_1 : Int) := of_decide_eq_true (by first | (with_reducible assumption) | assumption)
        have q103 : x18_1 < (l0_1.length : Int) := of_decide_eq_true (by first | (with_reducible assumption) | assumption)
        obtain ⟨ad103, e103, hx103_0⟩ := Kd.at_int HR0_1.out x18_1 p103 q103
        cases e103
        replace hx103_0 := (HB.out.cell (World.block_lt_of_cell? w _ hx103_0)).trans hx103_0
        replace p103 := eq_true p103
        replace q103 := eq_true q103
        have hcz14_0 : wr.cell? ⟨gb101, 0, none⟩ = some (.int .i64 a0_0) := (blk_cell BK101.out 0).trans rfl
        have hcz14_1 : wr.cell? ⟨gb101, 1, none⟩ = some (.slice (some ad103) l0_1.length c0_1) := (blk_cell BK101.out 1).trans rfl
        have hfz14_0 := blk_frozen BK101.out 0
        have hfz14_1 := blk_frozen BK101.out 1
        go_wp2_with (first | ((with_reducible refine gate_callee (f := 87) rfl ?_); refine goesL_ (some 30) rfl rfl Try.func87 (by kernel_rfl) rfl #[.int .i64 (rd l0_1 x18_1), .int .i64 ji10, .int .i64 (wrap64 (a0_0 + 2))] rfl (by (try simp only [List.map_toArray, List.map_cons, List.map_nil]); first | done | (simp only [hji10]; rfl) | rfl | (simp only [List.length_drop, List.length_take]; rfl)) ?_; (with_reducible refine (impl_in.calls (rd l0_1 x18_1) ji10 (wrap64 (a0_0 + 2)) false _ A11.out).mono ?_); rintro e w' ⟨rfl, ⟨nd, rfl⟩⟩; refine ⟨_, rfl, ?_⟩))
        go_ret
        exact ⟨by first | rfl | (simp [errW_none, errW_some] <;> rfl) | (simp only [← hji10]; first | rfl | (simp [errW_none, errW_some] <;> rfl)) | (simp [*, errW_none, errW_some] <;> rfl), bel HB⟩
       rw [if_neg c9] at H
       exact absurd H (by simp)
      rw [if_neg c8] at H
      exact absurd H (by simp)
     rw [if_neg c7] at H
     have c7b0 : decide (x18_1 < (l0_1.length : Int)) = false := decide_eq_false c7
     clear c7
     obtain rfl := Option.some.inj H
     go_wp2
     go_ret
     exact ⟨by first | rfl | (simp [errW_none, errW_some] <;> rfl) | (simp [*, errW_none, errW_some] <;> rfl), bel HB⟩
  rw [if_neg c4] at H
  have c4b0 : ((l0_1.length : Int) == 2) = false := beq_eq_false_iff_ne.mpr c4
  have c4b1 : ((l0_1.length : Int) != 2) = true := bne_iff_ne.mpr c4
  obtain rfl := Option.some.inj H
  go_enter Try.func42, Try.ntmps42
  go_wp2_with (first | ((with_reducible refine gate_dst (N := 1) rfl ?_); refine boxE #[.int .i64 a0_0, .slice A0_1 l0_1.length c0_1] 71 (N := 1) rfl rfl ?_; intro gb101 hg w15 hbox hb; have BK101 := Aside0.mk hbox; have GW101 := gZ HB hg; have GE101 := gZ HB hg; replace HB := bS HB hb; clear hb hbox hg; have hz16 := cl2 BK101) | ((with_reducible refine gate_callee (f := 87) rfl ?_); refine goA (some 8) rfl rfl Try.func87 rfl #[.int .i64 a0_0, .int .i64 0, .int .i64 1000000000] rfl ?_; (with_reducible refine (impl_in.calls a0_0 0 1000000000 true _ A2.out).mono ?_); rintro e w' ⟨rfl, ⟨nd, rfl⟩⟩; refine ⟨_, rfl, ?_⟩))
  go_ret
  exact ⟨by first | rfl | (simp [errW_none, errW_some] <;> rfl) | (simp [*, errW_none, errW_some] <;> rfl), bel HB⟩
 replace c3 := Bool.eq_false_iff.mpr c3
 subst c3
 have H1 : (some 3) = some r := by rw [if_neg (show ¬ (false = true) by decide)] at H; first | done | exact H
 clear H
 have H := H1
 clear H1
 obtain rfl := Option.some.inj H
 go_enter Try.func42, Try.ntmps42
 go_wp2_with (first | ((with_reducible refine gate_dst (N := 1) rfl ?_); refine boxE #[.int .i64 a0_0, .slice A0_1 l0_1.length c0_1] 71 (N := 1) rfl rfl ?_; intro gb101 hg w17 hbox hb; have BK101 := Aside0.mk hbox; have GW101 := gZ HB hg; have GE101 := gZ HB hg; replace HB := bS HB hb; clear hb hbox hg; have hz18 := cl2 BK101) | ((with_reducible refine gate_callee (f := 87) rfl ?_); refine goA (some 8) rfl rfl Try.func87 rfl #[.int .i64 a0_0, .int .i64 0, .int .i64 1000000000] rfl ?_; (with_reducible refine (impl_in.calls a0_0 0 1000000000 false _ A2.out).mono ?_); rintro e w' ⟨rfl, ⟨nd, rfl⟩⟩; refine ⟨_, rfl, ?_⟩))
 go_ret
 exact ⟨by first | rfl | (simp [errW_none, errW_some] <;> rfl) | (simp [*, errW_none, errW_some] <;> rfl), bel HB⟩

/-! ### impl_TickClock: function 40 -/
mutual
def impl_TickClock.j0 : Nat → Int → List Int → Bool → Int → List Int → Option (Int × Int × List Int)
 | 0, _, _, _, _, _ => none
 | k + 1, x1, x2, x18, x106000, x106001 => if x18 = true then (some (3, 0, ([] : List Int))) else (if (x2.length : Int) = 2 then (impl_TickClock.l0 k x2 (x2.length : Int) 0 x106000 x106001 (wrap64 (x106000 + x1)) ([] : List Int)) else (some (1, 0, ([] : List Int))))
def impl_TickClock.l0 : Nat → List Int → Int → Int → Int → List Int → Int → List Int → Option (Int × Int × List Int)
 | 0, _, _, _, _, _, _, _ => none
 | k + 1, x40, x41, x42, x106000, x106001, x110000, x110001 => if x42 < x41 then (if 0 ≤ x42 then (if x42 < (x40.length : Int) then ((impl_in.f (rd x40 x42) (-2) 2).bind fun t111 => (if t111 = true then (if x42 < (x106001.length : Int) then (if x110001.length < 17592186044416 then (impl_TickClock.l0 k x40 x41 (wrap64 (x42 + 1)) x106000 x106001 x110000 (x110001 ++ [mx (mx (rd x106001 x42) (wrap64 (x110000 + (rd x40 x42)))) 0])) else (none)) else (none)) else (some (3, 0, ([] : List Int))))) else (none)) else (none)) else (some (0, x110000, x110001))
end
def impl_TickClock.f (k : Nat) (a0_0 : Int) (l0_1 : List Int) (a1 : Int) (l2 : List Int) : Option (Int × Int × List Int) := (impl_ClockFault.f k a0_0 l0_1).bind fun t107 => (if t107 = 0 then ((impl_in.f a1 0 1000).bind fun t108 => (if t108 = true then (impl_TickClock.j0 k a1 l2 (decide ((wrap64 (a0_0 + a1)) > 1000000000)) a0_0 l0_1) else (impl_TickClock.j0 k a1 l2 true a0_0 l0_1))) else (some (t107, 0, ([] : List Int))))
theorem impl_TickClock.mono_l : ∀ k, (∀ y0 y1 y2 y3 y4, LeO (impl_TickClock.j0 k y0 y1 y2 y3 y4) (impl_TickClock.j0 (k + 1) y0 y1 y2 y3 y4)) ∧ (∀ y0 y1 y2 y3 y4 y5 y6, LeO (impl_TickClock.l0 k y0 y1 y2 y3 y4 y5 y6) (impl_TickClock.l0 (k + 1) y0 y1 y2 y3 y4 y5 y6))
 | 0 => ⟨fun _ _ _ _ _ r h => by simp [impl_TickClock.j0] at h, fun _ _ _ _ _ _ _ r h => by simp [impl_TickClock.l0] at h⟩
 | k + 1 => by
  obtain ⟨ih0, ih1⟩ := impl_TickClock.mono_l k
  refine ⟨?_, ?_⟩
  ·
   intro y0 y1 y2 y3 y4
   unfold impl_TickClock.j0
   repeat' first
   | (with_reducible exact ih0 _ _ _ _ _)
   | (with_reducible exact ih1 _ _ _ _ _ _ _)
   | (with_reducible exact impl_ClockFault.mono _ _ _)
   | (with_reducible exact LeO.refl _)
   | (with_reducible exact LeO.none _)
   | (with_reducible refine LeO.ite ?_ ?_)
   | (with_reducible refine LeO.bind ?_ (fun _ => ?_))
   | exact ih0 _ _ _ _ _
   | exact ih1 _ _ _ _ _ _ _
   | exact impl_ClockFault.mono _ _ _
   | exact LeO.none _
   | refine LeO.ite ?_ ?_
   | refine LeO.bind ?_ (fun _ => ?_)
  intro y0 y1 y2 y3 y4 y5 y6
  unfold impl_TickClock.l0
  repeat' first
  | (with_reducible exact ih0 _ _ _ _ _)
  | (with_reducible exact ih1 _ _ _ _ _ _ _)
  | (with_reducible exact impl_ClockFault.mono _ _ _)
  | (with_reducible exact LeO.refl _)
  | (with_reducible exact LeO.none _)
  | (with_reducible refine LeO.ite ?_ ?_)
  | (with_reducible refine LeO.bind ?_ (fun _ => ?_))
  | exact ih0 _ _ _ _ _
  | exact ih1 _ _ _ _ _ _ _
  | exact impl_ClockFault.mono _ _ _
  | exact LeO.none _
  | refine LeO.ite ?_ ?_
  | refine LeO.bind ?_ (fun _ => ?_)
theorem impl_TickClock.mono : ∀ a0 a1 a2 a3 k, LeO (impl_TickClock.f k a0 a1 a2 a3) (impl_TickClock.f (k + 1) a0 a1 a2 a3) := by
 intro a0 a1 a2 a3 k
 obtain ⟨ih0, ih1⟩ := impl_TickClock.mono_l k
 unfold impl_TickClock.f
 repeat' first
   | (with_reducible exact ih0 _ _ _ _ _)
   | (with_reducible exact ih1 _ _ _ _ _ _ _)
   | (with_reducible exact impl_ClockFault.mono _ _ _)
   | (with_reducible exact LeO.refl _)
   | (with_reducible exact LeO.none _)
   | (with_reducible refine LeO.ite ?_ ?_)
   | (with_reducible refine LeO.bind ?_ (fun _ => ?_))
   | exact ih0 _ _ _ _ _
   | exact ih1 _ _ _ _ _ _ _
   | exact impl_ClockFault.mono _ _ _
   | exact LeO.none _
   | refine LeO.ite ?_ ?_
   | refine LeO.bind ?_ (fun _ => ?_)
def impl_TickClock.T14 : Bool × List (List Nat × List Nat) := (true, [([], []), ([0], [0]), ([], []), ([2], [2]), ([], []), ([3, 4], [3, 4]), ([5], [5]), ([], []), ([7], [7]), ([], []), ([8, 9], [8, 9]), ([6, 10], [6, 10]), ([11], [11]), ([1, 12], [1, 12]), ([0, 1, 2, 3, 4, 5, 6, 7, 8, 9, 10, 11, 12, 13], []), ([14, 13, 13, 0, 1, 2, 3, 4, 5, 6, 7, 8, 9, 10, 11, 12, 13], [13, 14])])
def impl_TickClock.B14 : List Nat := [0, 1, 0, 4, 0, 28, 60, 0, 128, 0, 896, 2044, 4092, 8191, 16383, 32767]
theorem impl_TickClock.tab14 : rtab .any (opsOf Try.f40 14) = impl_TickClock.T14 := by kernel_rfl
theorem impl_TickClock.bits14 : waitsOk impl_TickClock.T14.2 impl_TickClock.B14 = true := by kernel_rfl
set_option maxHeartbeats 8000000 in
set_option maxRecDepth 100000 in
theorem impl_TickClock.calls (k : Nat) (a0_0 : Int) (A0_1 : Option Addr) (c0_1 : Nat) (l0_1 : List Int) (a1 : Int) (A2 : Option Addr) (c2 : Nat) (l2 : List Int) (r1 : Int) (r2 : Int) (r3 : List Int) (w : World) (hr0_1 : Kd.C (Kd.int .i64) w A0_1 l0_1.length l0_1) (hc0_1 : l0_1.length ≤ c0_1) (hr2 : Kd.C (Kd.int .i64) w A2 l2.length l2) (hc2 : l2.length ≤ c2) (h : impl_TickClock.f k a0_0 l0_1 a1 l2 = some (r1, r2, r3)) :
  Calls Try.prog 40 #[.agg #[.int .i64 a0_0, .slice A0_1 l0_1.length c0_1], .int .i64 a1, .slice A2 l2.length c2] w fun e w' => ∃ v2_ : Value, e = .returned (.agg #[.int .i64 r1, .int .i64 r2, v2_]) ∧ Kd.R (Kd.int .i64) 2 w' w.heap.size (fun _ => True) v2_ r3 ∧ Below w.heap.size w w' := by
 have hu71 := Try.underlying71
 have hu75 := Try.underlying75
 have HR0_1 := Aside0.mk hr0_1
 have HC0_1 := Aside0.mk hc0_1
 clear hr0_1 hc0_1
 have HR2 := Aside0.mk hr2
 have HC2 := Aside0.mk hc2
 clear hr2 hc2
 have HB := am (Below.refl w.heap.size w)
 have H : ((impl_ClockFault.f k a0_0 l0_1).bind fun t107 => (if t107 = 0 then ((impl_in.f a1 0 1000).bind fun t108 => (if t108 = true then (impl_TickClock.j0 k a1 l2 (decide ((wrap64 (a0_0 + a1)) > 1000000000)) a0_0 l0_1) else (impl_TickClock.j0 k a1 l2 true a0_0 l0_1))) else (some (t107, 0, ([] : List Int))))) = some (r1, r2, r3) := h
 clear h
 replace H := Option.bind_eq_some_iff.mp H
 obtain ⟨t107, A40, H⟩ := H
 replace H : (if t107 = 0 then ((impl_in.f a1 0 1000).bind fun t108 => (if t108 = true then (impl_TickClock.j0 k a1 l2 (decide ((wrap64 (a0_0 + a1)) > 1000000000)) a0_0 l0_1) else (impl_TickClock.j0 k a1 l2 true a0_0 l0_1))) else (some (t107, 0, ([] : List Int)))) = some (r1, r2, r3) := H
 have A4 := Aside0.mk A40
 clear A40
 by_cases c5 : t107 = 0
 ·
  rw [if_pos c5] at H
  have c5b0 : (t107 == 0) = true := beq_iff_eq.mpr c5
  have c5b1 : (t107 != 0) = false := bne_eq_false_iff_eq.mpr c5
  clear c5
  have HC6 := Aside0.mk H
  clear H
  go_enter Try.func40, Try.ntmps40
  go_upto_region 4 with (first | ((with_reducible refine gate_dst (N := 3) rfl ?_); refine boxE #[.int .i64 a0_0, .slice A0_1 l0_1.length c0_1] 71 (N := 3) rfl rfl ?_; intro gb105 hg w7 hbox hb; have BK105 := Aside0.mk hbox; have GW105 := gZ HB hg; have GE105 := gZ HB hg; replace HB := bS HB hb; clear hb hbox hg) | ((with_reducible refine gate_dst (N := 6) rfl ?_); refine boxE #[.int .i64 0, .int .i64 0, .slice none 0 0] 75 (N := 6) rfl rfl ?_; intro gb106 hg w8 hbox hb; have BK106 := Aside0.mk hbox; have GW106 := gZ HB hg; have GE106 := gZ HB hg; replace HB := bS HB hb; have NB105_106 := nL BK105 hg; have NB106_105 := nG BK105 hg; replace BK105 := bK BK105 hb; clear hb hbox hg; have hnb9 := NB105_106.out; have hnc9 := NB106_105.out; have hz10 := cl2 BK105) | ((with_reducible refine gate_callee (f := 42) rfl ?_); refine goA (some 12) rfl rfl Try.func42 rfl #[.agg #[.int .i64 a0_0, .slice A0_1 l0_1.length c0_1]] rfl ?_; (with_reducible refine (impl_ClockFault.calls k a0_0 _ _ l0_1 t107 _ ?side1 ?side2 A4.out).mono ?_); (case side1 => exact mC HR0_1 HB); (case side2 => exact HC0_1.out); rintro e w11 ⟨rfl, hb⟩; refine ⟨_, rfl, ?_⟩; replace BK105 := bK BK105 hb; replace BK106 := bK BK106 hb; replace HB := bS HB hb; (try clear hb); (try clear hb2); (try clear hk); (try clear hi)))
  (try simp only [Act.put, List.setIfInBounds_toArray, List.set_cons_zero, List.set_cons_succ])
  go_cut [18] (fun v18 wc => ∃ (kq : Nat) (x18_5 : Bool), v18 = .bool x18_5 ∧ Aside0 (impl_TickClock.j0 kq a1 l2 x18_5 a0_0 l0_1 = some (r1, r2, r3)) ∧ Aside0 (kq ≤ k) ∧ Aside0 (wc.heap[gb105]? = some (.cells #[.int .i64 a0_0, (.slice A0_1 l0_1.length c0_1)] 71 (0, 0))) ∧ Aside0 (wc.heap[gb106]? = some (.cells #[.int .i64 0, .int .i64 0, (.slice none 0 0)] 75 (0, 0))) ∧ Aside0 (Below w.heap.size w wc))
  case first =>
   have H := HC6.out
   clear HC6
   replace H := Option.bind_eq_some_iff.mp H
   obtain ⟨t108, A120, H⟩ := H
   replace H : (if t108 = true then (impl_TickClock.j0 k a1 l2 (decide ((wrap64 (a0_0 + a1)) > 1000000000)) a0_0 l0_1) else (impl_TickClock.j0 k a1 l2 true a0_0 l0_1)) = some (r1, r2, r3) := H
   have A12 := Aside0.mk A120
   clear A120
   by_cases c13 : t108 = true
   ·
    subst c13
    have H1 : (impl_TickClock.j0 k a1 l2 (decide ((wrap64 (a0_0 + a1)) > 1000000000)) a0_0 l0_1) = some (r1, r2, r3) := by rw [if_pos rfl] at H; first | done | exact H
    clear H
    have H := H1
    clear H1
    have H' := Aside0.mk H
    clear H
    go_wp2_with (first | ((with_reducible refine gate_callee (f := 87) rfl ?_); refine goA (some 20) rfl rfl Try.func87 rfl #[.int .i64 a1, .int .i64 0, .int .i64 1000] rfl ?_; (with_reducible refine (impl_in.calls a1 0 1000 true _ A12.out).mono ?_); rintro e w' ⟨rfl, ⟨nd, rfl⟩⟩; refine ⟨_, rfl, ?_⟩; have hnb14 := NB105_106.out; have hnc14 := NB106_105.out; have hz15 := cl2 BK105))
    first | go_meet | (refine Met.intro ?_; go_step; (repeat apply Exists.intro); refine ⟨?rel, ?eqq⟩; (case eqq => (try simp only [c5b0]); rfl))
    case rel => exact ⟨_, (decide ((wrap64 (a0_0 + a1)) > 1000000000)), (by first | rfl | (simp; done) | (simp [*]; done)), H', ⟨by first | omega | exact Nat.le_refl _⟩, ⟨by (with_reducible repeat (first | refine blk_drewN ?_ _ | refine blk_drew ?_ | refine blk_alloc ?_ _)); exact BK105.out⟩, ⟨by (with_reducible repeat (first | refine blk_drewN ?_ _ | refine blk_drew ?_ | refine blk_alloc ?_ _)); exact BK106.out⟩, ⟨bel HB⟩⟩
   replace c13 := Bool.eq_false_iff.mpr c13
   subst c13
   have H1 : (impl_TickClock.j0 k a1 l2 true a0_0 l0_1) = some (r1, r2, r3) := by rw [if_neg (show ¬ (false = true) by decide)] at H; first | done | exact H
   clear H
   have H := H1
   clear H1
   have H' := Aside0.mk H
   clear H
   go_wp2_with (first | ((with_reducible refine gate_callee (f := 87) rfl ?_); refine goA (some 20) rfl rfl Try.func87 rfl #[.int .i64 a1, .int .i64 0, .int .i64 1000] rfl ?_; (with_reducible refine (impl_in.calls a1 0 1000 false _ A12.out).mono ?_); rintro e w' ⟨rfl, ⟨nd, rfl⟩⟩; refine ⟨_, rfl, ?_⟩))
   first | go_meet | (refine Met.intro ?_; go_step; (repeat apply Exists.intro); refine ⟨?rel, ?eqq⟩; (case eqq => (try simp only [c5b0]); rfl))
   case rel => exact ⟨_, (true), (by first | rfl | (simp; done) | (simp [*]; done)), H', ⟨by first | omega | exact Nat.le_refl _⟩, ⟨by (with_reducible repeat (first | refine blk_drewN ?_ _ | refine blk_drew ?_ | refine blk_alloc ?_ _)); exact BK105.out⟩, ⟨by (with_reducible repeat (first | refine blk_drewN ?_ _ | refine blk_drew ?_ | refine blk_alloc ?_ _)); exact BK106.out⟩, ⟨bel HB⟩⟩
  case rest =>
   clear HC6
   try clear c1
   try clear c2
   try clear p2
   try clear c4
   try clear c5
   try clear c5b0
   try clear c5b1
   try clear p6
   try clear c8
   try clear c9
   try clear c13
   try clear c14
   try clear hz10
   try clear hz15
   obtain ⟨kq, x18_5, rfl, HA, HJ5, BK105, BK106, HB⟩ := hcut
   cases kq with
   | zero => exact absurd HA.out (by simp [impl_TickClock.j0])
   | succ kj5 =>
    have H := HA.out
    clear HA
    simp only [impl_TickClock.j0] at H
    by_cases c16 : x18_5 = true
    ·
     subst c16
     have H1 : (some (3, 0, ([] : List Int))) = some (r1, r2, r3) := by rw [if_pos rfl] at H; first | done | exact H
     clear H
     have H := H1
     clear H1
     simp only [Option.some.injEq, Prod.mk.injEq] at H
     obtain ⟨rfl, rfl, rfl⟩ := H
     have hnb17 := NB106_105.out
     have hnc17 := NB105_106.out
     have hz18 := cl3 BK106
     go_wp2
     refine bodyPost_ret (results_cell_row rfl _ _ gb106 75 #[.int .i64 3, .int .i64 0, .slice none 0 0] (0, 0) _ rfl (mP BK106) Try.underlying75 rfl (by kernel_rfl)) rfl ?_
     exact ⟨_, by first | rfl | (simp [errW_none, errW_some] <;> rfl) | (simp [*, errW_none, errW_some] <;> rfl), by first | exact Kd.R_nil _ _ _ _ _ | exact Kd.N_nil _ _ _ _ _ | exact Kd.V_nil _ _ _ _ _ | exact Kd.Q_nil _ _ _ _ _ | exact Kd.S_nil _ _ _ _ _, bel HB⟩
    replace c16 := Bool.eq_false_iff.mpr c16
    subst c16
    have H1 : (if (l2.length : Int) = 2 then (impl_TickClock.l0 kj5 l2 (l2.length : Int) 0 a0_0 l0_1 (wrap64 (a0_0 + a1)) ([] : List Int)) else (some (1, 0, ([] : List Int)))) = some (r1, r2, r3) := by rw [if_neg (show ¬ (false = true) by decide)] at H; first | done | exact H
    clear H
    have H := H1
    clear H1
    by_cases c19 : (l2.length : Int) = 2
    ·
     rw [if_pos c19] at H
     have c19b0 : ((l2.length : Int) == 2) = true := beq_iff_eq.mpr c19
     have c19b1 : ((l2.length : Int) != 2) = false := bne_eq_false_iff_eq.mpr c19
     clear c19
     have H' := Aside0.mk H
     clear H
     have hnb20 := NB105_106.out
     have hnc20 := NB106_105.out
     have hz21 := cl2 BK105
     go_wp2_with (first | ((with_reducible refine gate_dst (N := 8) rfl ?_); refine boxE #[.int .i64 0, .slice none 0 0] 71 (N := 8) rfl rfl ?_; intro gb109 hg w22 hbox hb; have BK109 := Aside0.mk hbox; have GW109 := gZ HB hg; have GE109 := gZ HB hg; replace HB := bS HB hb; have NB105_109 := nL BK105 hg; have NB109_105 := nG BK105 hg; replace BK105 := bK BK105 hb; have NB106_109 := nL BK106 hg; have NB109_106 := nG BK106 hg; replace BK106 := bK BK106 hb; clear hb hbox hg; have hnb23 := NB109_105.out; have hnc23 := NB105_109.out; have hnb24 := NB109_106.out; have hnc24 := NB106_109.out; have hz25 := cl2 BK109))
     go_loopg [42] kj5 (fun kq v42 w' => ∃ (x42_2 : Int) (x107000_2 : Int) (x107001_2 : Int) (x110001_2 : List Int) (u110001 : Value), v42 = .int .i64 x42_2 ∧ Aside0 (impl_TickClock.l0 kq l2 (l2.length : Int) x42_2 a0_0 l0_1 (wrap64 (a0_0 + a1)) x110001_2 = some (r1, r2, r3)) ∧ Aside0 (kq ≤ kj5) ∧ Aside0 (Kd.R (Kd.int .i64) 2 w' w.heap.size (fun _ => True) u110001 x110001_2) ∧ Aside0 (w'.heap[gb105]? = some (.cells #[.int .i64 a0_0, (.slice A0_1 l0_1.length c0_1)] 71 (0, 0))) ∧ Aside0 (w'.heap[gb106]? = some (.cells #[.int .i64 x107000_2, .int .i64 x107001_2, (.slice none 0 0)] 75 (0, 0))) ∧ Aside0 (w'.heap[gb109]? = some (.cells #[.int .i64 (wrap64 (a0_0 + a1)), u110001] 71 (0, 0))) ∧ Aside0 (Below w.heap.size w w'))
     case atStart => exact ⟨(0), (0), (0), (([] : List Int)), (.slice none 0 0), (by first | rfl | (simp; done) | (simp [*]; done)), H', ⟨Nat.le_refl _⟩, ⟨by first | exact Kd.R_nil _ _ _ _ _ | exact Kd.N_nil _ _ _ _ _ | exact Kd.V_nil _ _ _ _ _ | exact Kd.Q_nil _ _ _ _ _ | exact Kd.S_nil _ _ _ _ _⟩, ⟨by (with_reducible repeat (first | refine blk_drewN ?_ _ | refine blk_drew ?_ | refine blk_alloc ?_ _)); refine blk_far ?_ NB105_109.out _; (with_reducible repeat (first | refine blk_drewN ?_ _ | refine blk_drew ?_ | refine blk_alloc ?_ _)); refine blk_far ?_ NB105_109.out _; (with_reducible repeat (first | refine blk_drewN ?_ _ | refine blk_drew ?_ | refine blk_alloc ?_ _)); exact BK105.out⟩, ⟨by (with_reducible repeat (first | refine blk_drewN ?_ _ | refine blk_drew ?_ | refine blk_alloc ?_ _)); refine blk_far ?_ NB106_109.out _; (with_reducible repeat (first | refine blk_drewN ?_ _ | refine blk_drew ?_ | refine blk_alloc ?_ _)); refine blk_far ?_ NB106_109.out _; (with_reducible repeat (first | refine blk_drewN ?_ _ | refine blk_drew ?_ | refine blk_alloc ?_ _)); exact BK106.out⟩, ⟨by (with_reducible repeat (first | refine blk_drewN ?_ _ | refine blk_drew ?_ | refine blk_alloc ?_ _)); refine blk_put (cs := #[.int .i64 (wrap64 (a0_0 + a1)), .slice none 0 0]) ?_ 1 _ rfl; (with_reducible repeat (first | refine blk_drewN ?_ _ | refine blk_drew ?_ | refine blk_alloc ?_ _)); refine blk_put (cs := #[.int .i64 0, .slice none 0 0]) ?_ 0 _ rfl; (with_reducible repeat (first | refine blk_drewN ?_ _ | refine blk_drew ?_ | refine blk_alloc ?_ _)); exact BK109.out⟩, ⟨bel HB⟩⟩
     case round =>
      clear H'
      try clear c1
      try clear c2
      try clear p2
      try clear c4
      try clear c5
      try clear c5b0
      try clear c5b1
      try clear p6
      try clear c8
      try clear c9
      try clear c13
      try clear c14
      try clear c16
      try clear c17
      try clear c19
      try clear c19b0
      try clear c19b1
      try clear c20
      try clear c23
      try clear c24
      try clear hz10
      try clear hz15
      try clear hz18
      try clear hz21
      try clear hz25
      try clear p2
      try clear p6
      obtain ⟨x42_2, x107000_2, x107001_2, x110001_2, u110001, rfl, HA, HK2, HO_110001, BK105, BK106, BK109, HB⟩ := hrel
      cases gk with
      | zero => exact absurd HA.out (by simp [impl_TickClock.l0])
      | succ k2 =>
       have H := HA.out
       clear HA
       simp only [impl_TickClock.l0] at H
       by_cases c26 : x42_2 < (l2.length : Int)
       ·
        rw [if_pos c26] at H
        have c26b0 : decide (x42_2 < (l2.length : Int)) = true := decide_eq_true c26
        clear c26
        by_cases c27 : 0 ≤ x42_2
        ·
         rw [if_pos c27] at H
         have c27b0 : decide (0 ≤ x42_2) = true := decide_eq_true c27
         clear c27
         by_cases c28 : x42_2 < (l2.length : Int)
         ·
          rw [if_pos c28] at H
          have c28b0 : decide (x42_2 < (l2.length : Int)) = true := decide_eq_true c28
          clear c28
          replace H := Option.bind_eq_some_iff.mp H
          obtain ⟨t111, A290, H⟩ := H
          replace H : (if t111 = true then (if x42_2 < (l0_1.length : Int) then (if x110001_2.length < 17592186044416 then (impl_TickClock.l0 k2 l2 (l2.length : Int) (wrap64 (x42_2 + 1)) a0_0 l0_1 (wrap64 (a0_0 + a1)) (x110001_2 ++ [mx (mx (rd l0_1 x42_2) (wrap64 ((wrap64 (a0_0 + a1)) + (rd l2 x42_2)))) 0])) else (none)) else (none)) else (some (3, 0, ([] : List Int)))) = some (r1, r2, r3) := H
          have A29 := Aside0.mk A290
          clear A290
          by_cases c30 : t111 = true
          ·
           subst c30
           have H1 : (if x42_2 < (l0_1.length : Int) then (if x110001_2.length < 17592186044416 then (impl_TickClock.l0 k2 l2 (l2.length : Int) (wrap64 (x42_2 + 1)) a0_0 l0_1 (wrap64 (a0_0 + a1)) (x110001_2 ++ [mx (mx (rd l0_1 x42_2) (wrap64 ((wrap64 (a0_0 + a1)) + (rd l2 x42_2)))) 0])) else (none)) else (none)) = some (r1, r2, r3) := by rw [if_pos rfl] at H; first | done | exact H
           clear H
           have H := H1
           clear H1
           by_cases c31 : x42_2 < (l0_1.length : Int)
           ·
            rw [if_pos c31] at H
            have c31b0 : decide (x42_2 < (l0_1.length : Int)) = true := decide_eq_true c31
            clear c31
            obtain ⟨ji32, hji32⟩ : ∃ j_ : Int, (mx (rd l0_1 x42_2) (wrap64 ((wrap64 (a0_0 + a1)) + (rd l2 x42_2)))) = j_ := ⟨_, rfl⟩
            replace H : (if x110001_2.length < 17592186044416 then (impl_TickClock.l0 k2 l2 (l2.length : Int) (wrap64 (x42_2 + 1)) a0_0 l0_1 (wrap64 (a0_0 + a1)) (x110001_2 ++ [mx (ji32) 0])) else (none)) = some (r1, r2, r3) := by first | (rw [hji32] at H; exact H) | (simp only [hji32] at H ⊢; exact H)
            (try rw [hji32] at A29)
            have hji32_ : (if (rd l0_1 x42_2) < (wrap64 ((wrap64 (a0_0 + a1)) + (rd l2 x42_2))) then (wrap64 ((wrap64 (a0_0 + a1)) + (rd l2 x42_2))) else (rd l0_1 x42_2)) = ji32 := hji32
            obtain ⟨ji33, hji33⟩ : ∃ j_ : Int, (mx (ji32) 0) = j_ := ⟨_, rfl⟩
            replace H : (if x110001_2.length < 17592186044416 then (impl_TickClock.l0 k2 l2 (l2.length : Int) (wrap64 (x42_2 + 1)) a0_0 l0_1 (wrap64 (a0_0 + a1)) (x110001_2 ++ [ji33])) else (none)) = some (r1, r2, r3) := by first | (rw [hji33] at H; exact H) | (simp only [hji33] at H ⊢; exact H)
            (try rw [hji33] at A29)
            have hji33_ : (if (ji32) < 0 then 0 else (ji32)) = ji33 := hji33
            by_cases c34 : x110001_2.length < 17592186044416
            ·
             rw [if_pos c34] at H
             have LMc34 := Aside0.mk c34
             clear c34
             obtain ⟨y113, hy113⟩ : ∃ y_ : List Int, y_ = (x110001_2 ++ [ji33]) := ⟨_, rfl⟩
             replace H : (impl_TickClock.l0 k2 l2 (l2.length : Int) (wrap64 (x42_2 + 1)) a0_0 l0_1 (wrap64 (a0_0 + a1)) y113) = some (r1, r2, r3) := by first | (rw [hy113]; with_reducible exact H) | (have H2_ := (Option.bind_some _ _).symm.trans H; rw [hy113]; with_reducible exact H2_) | (have H2_ := (Option.bind_some _ _).symm.trans H; with_reducible exact H2_) | with_reducible exact H | (rw [hy113]; exact H) | exact H
             have Ny113 := Aside0.mk hy113
             clear hy113
             have H' := Aside0.mk H
             clear H
             have p110 : 0 ≤ (x42_2 : Int) := of_decide_eq_true (by first | (with_reducible assumption) | assumption)
             have q110 : x42_2 < (l2.length : Int) := of_decide_eq_true (by first | (with_reducible assumption) | assumption)
             obtain ⟨ad110, e110, hx110_0⟩ := Kd.at_int HR2.out x42_2 p110 q110
             cases e110
             replace hx110_0 := (HB.out.cell (World.block_lt_of_cell? w _ hx110_0)).trans hx110_0
             replace p110 := eq_true p110
             replace q110 := eq_true q110
             try go_wp2_with (first | ((with_reducible refine gate_callee (f := 87) rfl ?_); refine goA (some 48) rfl rfl Try.func87 rfl #[.int .i64 (rd l2 x42_2), .int .i64 (-2), .int .i64 2] rfl ?_; (with_reducible refine (impl_in.calls (rd l2 x42_2) (-2) 2 true _ A29.out).mono ?_); rintro e w' ⟨rfl, ⟨nd, rfl⟩⟩; refine ⟨_, rfl, ?_⟩; (try ((try simp only [World.drewN_drewN]); rw [drewN_self wr]; generalize hq_ : World.drewN wr _ = wr; replace HO_110001 := am (Kd.R_at hq_ HO_110001.out); replace BK105 := am (blk_at hq_ BK105.out); replace BK106 := am (blk_at hq_ BK106.out); replace BK109 := am (blk_at hq_ BK109.out); replace HB := am (below_at hq_ HB.out); clear hq_))))
             replace HO_110001 := am (Kd.R_drew HO_110001.out)
             replace BK105 := am (blk_drew BK105.out)
             replace BK106 := am (blk_drew BK106.out)
             replace BK109 := am (blk_drew BK109.out)
             replace HB := am (below_drew1 HB.out)
             have p112 : 0 ≤ (x42_2 : Int) := of_decide_eq_true (by first | (with_reducible assumption) | assumption)
             have q112 : x42_2 < (l0_1.length : Int) := of_decide_eq_true (by first | (with_reducible assumption) | assumption)
             obtain ⟨ad112, e112, hx112_0⟩ := Kd.at_int HR0_1.out x42_2 p112 q112
             have hw112_0 := hx112_0
             cases e112
             replace hx112_0 := (HB.out.cell (World.block_lt_of_cell? w _ hx112_0)).trans hx112_0
             replace p112 := eq_true p112
             replace q112 := eq_true q112
             refine start_ (n := 16) (S := fun w' => w'.cell? ⟨gb109, 0, none⟩ = some (.int .i64 (wrap64 (a0_0 + a1))) ∧ w'.cell? ⟨gb109, 1, none⟩ = some (u110001) ∧ w'.cell? ⟨gb105, 0, none⟩ = some (.int .i64 a0_0) ∧ w'.cell? ⟨gb105, 1, none⟩ = some (.slice (some ad112) l0_1.length c0_1) ∧ w'.cell? (ad112.add (x42_2).toNat) = some (.int .i64 (rd l0_1 x42_2))) (ds := [15]) #[false, false, false, false, false, false, false, false, false, false, false, false, false, false, false, false] (by kernel_rfl) rfl rfl ⟨(blk_cell BK109.out 0).trans rfl, (blk_cell BK109.out 1).trans rfl, (blk_cell BK105.out 0).trans rfl, (blk_cell BK105.out 1).trans rfl, ((HB.out.cell (World.block_lt_of_cell? w _ hw112_0)).trans hw112_0)⟩ (fun hHeld => ?_); refine with_tabW impl_TickClock.tab14 impl_TickClock.bits14 (fun HT_ HW_ => ?_)
             generalize wr.drew = w35 at HO_110001 BK105 BK106 BK109 HB hx112_0 hHeld ⊢
             refine pA 0 51 [1, 15] ?_
             refine pA 2 53 [1, 1, 1, 13] ?_
             refine pA 4 55 [1, 1, 1, 1, 1, 11] ?_
             refine pA 7 58 [1, 1, 1, 1, 1, 2, 1, 8] ?_
             refine pA 9 60 [1, 1, 1, 1, 1, 2, 1, 1, 1, 6] ?_
             refine tA 1 52 [3, 1, 1, 2, 1, 1, 1, 6] (hv := by rintro w' ⟨s0, s1, s2, s3, s4⟩; go_simp; with_reducible rfl) (h := ?_)
             refine tA 3 54 [5, 2, 1, 1, 1, 6] (hv := by rintro w' ⟨s0, s1, s2, s3, s4⟩; go_simp; with_reducible rfl) (h := ?_)
             refine pA 5 56 [6, 1, 1, 1, 1, 6] ?_
             refine tA 6 57 [8, 1, 1, 6] (hv := by rintro w' ⟨s0, s1, s2, s3, s4⟩; go_simp; with_reducible rfl) (h := ?_)
             refine tA 8 59 [10, 6] (hv := by rintro w' ⟨s0, s1, s2, s3, s4⟩; go_simp; with_reducible rfl) (h := ?_)
             refine pA 10 61 [11, 5] ?_
             refine pA 11 62 [12, 4] ?_
             refine one_ (i := 12) (N := some 63) (tr [13, 3]) rfl rfl (one_of HT_.out (by kernel_rfl)) (by decide) (fun K hK => ?_)
             refine value_ (w1 := ?_) (v := ?_) (by rfl) rfl ?_ ?_
             rotate_left 2
             ·
              go_simp
              constructor
              ·
               rfl
              rfl
             refine hK.out _ _ ⟨(blk_cell (blk_alloc BK109.out _) 0).trans rfl, (blk_cell (blk_alloc BK109.out _) 1).trans rfl, (blk_cell (blk_alloc BK105.out _) 0).trans rfl, (blk_cell (blk_alloc BK105.out _) 1).trans rfl, (World.cell?_alloc_lt _ _ _ (World.block_lt_of_cell? _ _ (((HB.out.cell (World.block_lt_of_cell? w _ hw112_0)).trans hw112_0)))).trans (((HB.out.cell (World.block_lt_of_cell? w _ hw112_0)).trans hw112_0))⟩ (fun hHeld => ?_)
             clear hK K
             refine norm_ (a' := ?_) ?_ ?_
             rotate_left
             ·
              show Act.put _ (some 63) _ = _
              simp only [Act.put, List.setIfInBounds_toArray, List.set_cons_zero, List.set_cons_succ, i64_w, i32_w]
              rfl
             refine one_ (i := 13) (N := some 64) (tr [14, 2]) rfl rfl (one_of HT_.out (by kernel_rfl)) (by decide) (fun K hK => ?_)
             refine Kd.R_append_step (Kd.int .i64) (w0 := w) w.heap.size (by rfl) (.tmp 52) (.tmp 63) 69 2 (.int .i64 0) 8 rfl Try.underlying69 info2 rfl (by decide) (by omega) u110001 x110001_2 ji33 [.int .i64 ji33] (fun _ => True) (fun _ => False) rfl rfl ?aP (fun _ hk => hk.elim) ?aF ?aO ?aB ?aS ?aL ?_
             (case aP => exact rfl)
             (case aB => exact (bel HB))
             (case aF => exact (fun _ _ => trivial))
             (case aO => exact (mR HO_110001))
             (case aS => exact (below_size (bel HB)))
             (case aL => have := LMc34.out; omega)
             intro v114 w36 ho hb hg hat
             rw [← Ny113.out] at ho
             replace BK105 := am (blk_grown (g := gb105) (o := .cells #[.int .i64 a0_0, .slice (some ad112) l0_1.length c0_1] 71 (0, 0)) (mB BK105) hg (Kd.R_ne HO_110001.out BK105.out (by decide)))
             replace BK106 := am (blk_grown (g := gb106) (o := .cells #[.int .i64 x107000_2, .int .i64 x107001_2, .slice none 0 0] 75 (0, 0)) (mB BK106) hg (Kd.R_ne HO_110001.out BK106.out (by decide)))
             replace BK109 := am (blk_grown (g := gb109) (o := .cells #[.int .i64 (wrap64 (a0_0 + a1)), u110001] 71 (0, 0)) (mB BK109) hg (Kd.R_ne HO_110001.out BK109.out (by decide)))
             replace HB := am (hb)
             have HO115 := am (ho)
             clear HO_110001
             clear ho hb hg hat
             obtain ⟨Ao37, co37, eo37⟩ := Kd.R_slice HO115.out
             (first | subst eo37 | (injection eo37 with f1_ f2_ f3_; have f4_ := f1_.symm; have f5_ := f3_.symm; clear f1_ f2_ f3_; subst f4_; subst f5_))
             refine hK.out _ _ ⟨(blk_cell BK109.out 0).trans rfl, (blk_cell BK109.out 1).trans rfl, (blk_cell BK105.out 0).trans rfl, (blk_cell BK105.out 1).trans rfl, ((HB.out.cell (World.block_lt_of_cell? w _ hw112_0)).trans hw112_0)⟩ (fun hHeld => ?_)
             clear hK K
             refine norm_ (a' := ?_) ?_ ?_
             rotate_left
             ·
              show Act.put _ (some 64) _ = _
              simp only [Act.put, List.setIfInBounds_toArray, List.set_cons_zero, List.set_cons_succ, i64_w, i32_w]
              rfl
             refine pA 14 65 [15, 1] ?_
             refine last_ (i := 15) (N := none) #[true, true, true, true, true, true, true, true, true, true, true, true, true, true, true, true] rfl rfl (one_of HT_.out (by kernel_rfl)) (by decide) (fun K hK => ?_)
             have hs38 : w36.cell? ⟨gb109, 1, none⟩ = some (u110001) := (blk_cell BK109.out 1).trans rfl
             have hfs38 := blk_frozen BK109.out 1
             have hns38_0 := NB105_109.out
             have hns38_1 := NB106_109.out
             have hms38_0 := NB109_105.out
             have hms38_1 := NB109_106.out
             refine skip_ (w1 := ?_) (by rfl) rfl ?_ ?_
             rotate_left
             ·
              go_simp
              rfl
             refine hK.out _ _ ?_
             clear hK K
             refine done_ (done_of HT_.out (by kernel_rfl)) ?_
             try go_wp2
             go_roundg k2
             case measure => have := HJ5.out; have := HK2.out; omega
             case rel => exact ⟨(wrap64 (x42_2 + 1)), (x107000_2), (x107001_2), (y113), (.slice Ao37 y113.length co37), (by first | rfl | (simp; done) | (simp [*]; done)), H', ⟨by have := HJ5.out; have := HK2.out; omega⟩, ⟨by (with_reducible repeat (first | apply Kd.R_alloc | apply Kd.R_drewN | apply Kd.R_drew)); exact Kd.R_mono (RF (Kd.R_types HO115.out BK109.out (by decide))) (fun _ hk => trivial)⟩, ⟨by (with_reducible repeat (first | refine blk_drewN ?_ _ | refine blk_drew ?_ | refine blk_alloc ?_ _)); refine blk_far ?_ NB105_109.out _; (with_reducible repeat (first | refine blk_drewN ?_ _ | refine blk_drew ?_ | refine blk_alloc ?_ _)); exact BK105.out⟩, ⟨by (with_reducible repeat (first | refine blk_drewN ?_ _ | refine blk_drew ?_ | refine blk_alloc ?_ _)); refine blk_far ?_ NB106_109.out _; (with_reducible repeat (first | refine blk_drewN ?_ _ | refine blk_drew ?_ | refine blk_alloc ?_ _)); exact BK106.out⟩, ⟨by (with_reducible repeat (first | refine blk_drewN ?_ _ | refine blk_drew ?_ | refine blk_alloc ?_ _)); refine blk_put (cs := #[.int .i64 (wrap64 (a0_0 + a1)), u110001]) ?_ 1 _ rfl; (with_reducible repeat (first | refine blk_drewN ?_ _ | refine blk_drew ?_ | refine blk_alloc ?_ _)); exact BK109.out⟩, ⟨bel HB⟩⟩
            rw [if_neg c34] at H
            exact absurd H (by simp)
           rw [if_neg c31] at H
           exact absurd H (by simp)
          replace c30 := Bool.eq_false_iff.mpr c30
          subst c30
          have H1 : (some (3, 0, ([] : List Int))) = some (r1, r2, r3) := by rw [if_neg (show ¬ (false = true) by decide)] at H; first | done | exact H
          clear H
          have H := H1
          clear H1
          simp only [Option.some.injEq, Prod.mk.injEq] at H
          obtain ⟨rfl, rfl, rfl⟩ := H
          have p110 : 0 ≤ (x42_2 : Int) := of_decide_eq_true (by first | (with_reducible assumption) | assumption)
          have q110 : x42_2 < (l2.length : Int) := of_decide_eq_true (by first | (with_reducible assumption) | assumption)
          obtain ⟨ad110, e110, hx110_0⟩ := Kd.at_int HR2.out x42_2 p110 q110
          cases e110
          replace hx110_0 := (HB.out.cell (World.block_lt_of_cell? w _ hx110_0)).trans hx110_0
          replace p110 := eq_true p110
          replace q110 := eq_true q110
          go_wp2_with (first | ((with_reducible refine gate_callee (f := 87) rfl ?_); refine goA (some 48) rfl rfl Try.func87 rfl #[.int .i64 (rd l2 x42_2), .int .i64 (-2), .int .i64 2] rfl ?_; (with_reducible refine (impl_in.calls (rd l2 x42_2) (-2) 2 false _ A29.out).mono ?_); rintro e w' ⟨rfl, ⟨nd, rfl⟩⟩; refine ⟨_, rfl, ?_⟩; (try ((try simp only [World.drewN_drewN]); rw [drewN_self wr]; generalize hq_ : World.drewN wr _ = wr; replace HO_110001 := am (Kd.R_at hq_ HO_110001.out); replace BK105 := am (blk_at hq_ BK105.out); replace BK106 := am (blk_at hq_ BK106.out); replace BK109 := am (blk_at hq_ BK109.out); replace HB := am (below_at hq_ HB.out); clear hq_)); have hnb39 := NB106_105.out; have hnc39 := NB105_106.out; have hnb40 := NB106_109.out; have hnc40 := NB109_106.out; have hz41 := cl3 BK106))
          refine bodyPost_ret (results_cell_row rfl _ _ gb106 75 #[.int .i64 3, .int .i64 0, .slice none 0 0] (0, 0) _ rfl (mP BK106) Try.underlying75 rfl (by kernel_rfl)) rfl ?_
          exact ⟨_, by first | rfl | (simp [errW_none, errW_some] <;> rfl) | (simp [*, errW_none, errW_some] <;> rfl), by first | exact Kd.R_nil _ _ _ _ _ | exact Kd.N_nil _ _ _ _ _ | exact Kd.V_nil _ _ _ _ _ | exact Kd.Q_nil _ _ _ _ _ | exact Kd.S_nil _ _ _ _ _, bel HB⟩
         rw [if_neg c28] at H
         exact absurd H (by simp)
        rw [if_neg c27] at H
        exact absurd H (by simp)
       rw [if_neg c26] at H
       have c26b0 : decide (x42_2 < (l2.length : Int)) = false := decide_eq_false c26
       clear c26
       simp only [Option.some.injEq, Prod.mk.injEq] at H
       obtain ⟨rfl, rfl, rfl⟩ := H
       have hnb42 := NB109_105.out
       have hnc42 := NB105_109.out
       have hnb43 := NB109_106.out
       have hnc43 := NB106_109.out
       have hz44 := cl2 BK109
       obtain ⟨Ao45, co45, eo45⟩ := Kd.R_slice HO_110001.out
       subst eo45
       have hnb46 := NB106_105.out
       have hnc46 := NB105_106.out
       have hz47 := cl3 BK106
       go_wp2
       refine bodyPost_ret (results_cell_row rfl _ _ gb106 75 #[.int .i64 0, .int .i64 (wrap64 (a0_0 + a1)), .slice Ao45 x110001_2.length co45] (0, 0) _ rfl (mP BK106) Try.underlying75 rfl (by kernel_rfl)) rfl ?_
       exact ⟨_, by first | rfl | (simp [errW_none, errW_some] <;> rfl) | (simp [*, errW_none, errW_some] <;> rfl), by (with_reducible repeat (first | apply Kd.R_alloc | apply Kd.R_drewN | apply Kd.R_drew)); exact Kd.R_mono (RF (RF (RF (Kd.R_types HO_110001.out BK106.out (by decide))))) (fun _ hk => trivial), bel HB⟩
    rw [if_neg c19] at H
    have c19b0 : ((l2.length : Int) == 2) = false := beq_eq_false_iff_ne.mpr c19
    have c19b1 : ((l2.length : Int) != 2) = true := bne_iff_ne.mpr c19
    simp only [Option.some.injEq, Prod.mk.injEq] at H
    obtain ⟨rfl, rfl, rfl⟩ := H
    have hnb48 := NB106_105.out
    have hnc48 := NB105_106.out
    have hz49 := cl3 BK106
    go_wp2
    refine bodyPost_ret (results_cell_row rfl _ _ gb106 75 #[.int .i64 1, .int .i64 0, .slice none 0 0] (0, 0) _ rfl (mP BK106) Try.underlying75 rfl (by kernel_rfl)) rfl ?_
    exact ⟨_, by first | rfl | (simp [errW_none, errW_some] <;> rfl) | (simp [*, errW_none, errW_some] <;> rfl), by first | exact Kd.R_nil _ _ _ _ _ | exact Kd.N_nil _ _ _ _ _ | exact Kd.V_nil _ _ _ _ _ | exact Kd.Q_nil _ _ _ _ _ | exact Kd.S_nil _ _ _ _ _, bel HB⟩
 rw [if_neg c5] at H
 have c5b0 : (t107 == 0) = false := beq_eq_false_iff_ne.mpr c5
 have c5b1 : (t107 != 0) = true := bne_iff_ne.mpr c5
 simp only [Option.some.injEq, Prod.mk.injEq] at H
 obtain ⟨rfl, rfl, rfl⟩ := H
 go_enter Try.func40, Try.ntmps40
 go_wp2_with (first | ((with_reducible refine gate_dst (N := 3) rfl ?_); refine boxE #[.int .i64 a0_0, .slice A0_1 l0_1.length c0_1] 71 (N := 3) rfl rfl ?_; intro gb105 hg w50 hbox hb; have BK105 := Aside0.mk hbox; have GW105 := gZ HB hg; have GE105 := gZ HB hg; replace HB := bS HB hb; clear hb hbox hg) | ((with_reducible refine gate_dst (N := 6) rfl ?_); refine boxE #[.int .i64 0, .int .i64 0, .slice none 0 0] 75 (N := 6) rfl rfl ?_; intro gb106 hg w51 hbox hb; have BK106 := Aside0.mk hbox; have GW106 := gZ HB hg; have GE106 := gZ HB hg; replace HB := bS HB hb; have NB105_106 := nL BK105 hg; have NB106_105 := nG BK105 hg; replace BK105 := bK BK105 hb; clear hb hbox hg; have hnb52 := NB105_106.out; have hnc52 := NB106_105.out; have hz53 := cl2 BK105) | ((with_reducible refine gate_callee (f := 42) rfl ?_); refine goA (some 12) rfl rfl Try.func42 rfl #[.agg #[.int .i64 a0_0, .slice A0_1 l0_1.length c0_1]] rfl ?_; (with_reducible refine (impl_ClockFault.calls k a0_0 _ _ l0_1 t107 _ ?side1 ?side2 A4.out).mono ?_); (case side1 => exact mC HR0_1 HB); (case side2 => exact HC0_1.out); rintro e w54 ⟨rfl, hb⟩; refine ⟨_, rfl, ?_⟩; replace BK105 := bK BK105 hb; replace BK106 := bK BK106 hb; replace HB := bS HB hb; (try clear hb); (try clear hb2); (try clear hk); (try clear hi); have hz55 := cl3 BK106))
 refine bodyPost_ret (results_cell_row rfl _ _ gb106 75 #[.int .i64 t107, .int .i64 0, .slice none 0 0] (0, 0) _ rfl (mP BK106) Try.underlying75 rfl (by kernel_rfl)) rfl ?_
 exact ⟨_, by first | rfl | (simp [errW_none, errW_some] <;> rfl) | (simp [*, errW_none, errW_some] <;> rfl), by first | exact Kd.R_nil _ _ _ _ _ | exact Kd.N_nil _ _ _ _ _ | exact Kd.V_nil _ _ _ _ _ | exact Kd.Q_nil _ _ _ _ _ | exact Kd.S_nil _ _ _ _ _, bel HB⟩

end Go.Proofs.Ytgfoifkkffffgab.PFnLeases
