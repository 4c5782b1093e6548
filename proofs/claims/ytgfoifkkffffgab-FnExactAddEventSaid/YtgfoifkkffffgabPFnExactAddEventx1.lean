-- Laid by a turned copy of the printer (wip/tools/patch_print.py)
import Derived.Test.YtgfoifkkffffgabPFnExactAddEventx0
namespace Go.Proofs.Ytgfoifkkffffgab.PFnExactAddEvent
open Go.RowKit Go.Proofs.YtgfoifkkffffgabW.PrintWords Go.Proofs.YtgfoifkkffffgabW.PrintLast Go.Proofs.YtgfoifkkffffgabW.PrintMore
attribute [local go_sem] max2_int min2_int max_two min_two max_three min_three max_four min_four   -- for this text's walks alone
set_option linter.unusedVariables false
set_option linter.unusedSimpArgs false

/-! ### laws_szByteS: function 52 -/
def laws_szByteS.f (l0 : List Int) (a1 : Int) : Option (Int) := if (wrap64 (a1 - (l0.length : Int))) < 0 then (some (-1)) else (some (wrap64 (a1 - (l0.length : Int))))
set_option maxHeartbeats 8000000 in
set_option maxRecDepth 100000 in
theorem laws_szByteS.calls (A0 : Option Addr) (c0 : Nat) (l0 : List Int) (a1 : Int) (r : Int) (w : World) (hr0 : Kd.C (Kd.int .u8) w A0 l0.length l0) (hc0 : l0.length ≤ c0) (h : laws_szByteS.f l0 a1 = some r) :
  Calls Try.prog 52 #[.slice A0 l0.length c0, .int .i64 a1] w fun e w' => e = .returned (.int .i64 r) ∧ Drawn0 w w' := by
 have HR0 := Aside0.mk hr0
 have HC0 := Aside0.mk hc0
 clear hr0 hc0
 have H : (if (wrap64 (a1 - (l0.length : Int))) < 0 then (some (-1)) else (some (wrap64 (a1 - (l0.length : Int))))) = some r := h
 clear h
 by_cases c3 : (wrap64 (a1 - (l0.length : Int))) < 0
 ·
  rw [if_pos c3] at H
  have c3b0 : decide ((wrap64 (a1 - (l0.length : Int))) < 0) = true := decide_eq_true c3
  clear c3
  obtain rfl := Option.some.inj H
  go_enter Try.func52, Try.ntmps52
  go_wp2
  go_ret
  exact ⟨by first | rfl | (simp; done) | (simp [*]; done), drw⟩
 rw [if_neg c3] at H
 have c3b0 : decide ((wrap64 (a1 - (l0.length : Int))) < 0) = false := decide_eq_false c3
 clear c3
 obtain rfl := Option.some.inj H
 go_enter Try.func52, Try.ntmps52
 go_wp2
 go_ret
 exact ⟨by first | rfl | (simp; done) | (simp [*]; done), drw⟩

/-! ### laws_szEvent: function 10 -/
def laws_szEvent.f (a0_0 : Int) (a0_1 : Int) (l0_2 : List Int) (a1 : Int) : Option (Int) := (laws_szByteS.f l0_2 a1).bind fun t102 => (if t102 < 0 then (some (-1)) else (some t102))
set_option maxHeartbeats 8000000 in
set_option maxRecDepth 100000 in
theorem laws_szEvent.calls (a0_0 : Int) (a0_1 : Int) (A0_2 : Option Addr) (c0_2 : Nat) (l0_2 : List Int) (a1 : Int) (r : Int) (w : World) (hr0_2 : Kd.C (Kd.int .u8) w A0_2 l0_2.length l0_2) (hc0_2 : l0_2.length ≤ c0_2) (h : laws_szEvent.f a0_0 a0_1 l0_2 a1 = some r) :
  Calls Try.prog 10 #[.agg #[.int .i64 a0_0, .int .i64 a0_1, .slice A0_2 l0_2.length c0_2], .int .i64 a1] w fun e w' => e = .returned (.int .i64 r) ∧ Below w.heap.size w w' := by
 have hu27 := Try.underlying27
 have HR0_2 := Aside0.mk hr0_2
 have HC0_2 := Aside0.mk hc0_2
 clear hr0_2 hc0_2
 have HB := am (Below.refl w.heap.size w)
 have H : ((laws_szByteS.f l0_2 a1).bind fun t102 => (if t102 < 0 then (some (-1)) else (some t102))) = some r := h
 clear h
 replace H := Option.bind_eq_some_iff.mp H
 obtain ⟨t102, A30, H⟩ := H
 replace H : (if t102 < 0 then (some (-1)) else (some t102)) = some r := H
 have A3 := Aside0.mk A30
 clear A30
 by_cases c4 : t102 < 0
 ·
  rw [if_pos c4] at H
  have c4b0 : decide (t102 < 0) = true := decide_eq_true c4
  clear c4
  obtain rfl := Option.some.inj H
  go_enter Try.func10, Try.ntmps10
  go_wp2_with (first | ((with_reducible refine gate_dst (N := 2) rfl ?_); refine boxE #[.int .i64 a0_0, .int .i64 a0_1, .slice A0_2 l0_2.length c0_2] 27 (N := 2) rfl rfl ?_; intro gb101 hg w5 hbox hb; have BK101 := Aside0.mk hbox; have GW101 := gZ HB hg; have GE101 := gZ HB hg; replace HB := bS HB hb; clear hb hbox hg; have hz6 := cl3 BK101) | ((with_reducible refine gate_callee (f := 52) rfl ?_); refine goA (some 8) rfl rfl Try.func52 rfl #[.slice A0_2 l0_2.length c0_2, .int .i64 a1] rfl ?_; (with_reducible refine (laws_szByteS.calls _ _ l0_2 a1 t102 _ ?side1 ?side2 A3.out).mono ?_); (case side1 => exact mC HR0_2 HB); (case side2 => exact HC0_2.out); rintro e w' ⟨rfl, ⟨nd, rfl⟩⟩; refine ⟨_, rfl, ?_⟩))
  go_ret
  exact ⟨by first | rfl | (simp [errW_none, errW_some] <;> rfl) | (simp [*, errW_none, errW_some] <;> rfl), bel HB⟩
 rw [if_neg c4] at H
 have c4b0 : decide (t102 < 0) = false := decide_eq_false c4
 clear c4
 obtain rfl := Option.some.inj H
 go_enter Try.func10, Try.ntmps10
 go_wp2_with (first | ((with_reducible refine gate_dst (N := 2) rfl ?_); refine boxE #[.int .i64 a0_0, .int .i64 a0_1, .slice A0_2 l0_2.length c0_2] 27 (N := 2) rfl rfl ?_; intro gb101 hg w7 hbox hb; have BK101 := Aside0.mk hbox; have GW101 := gZ HB hg; have GE101 := gZ HB hg; replace HB := bS HB hb; clear hb hbox hg; have hz8 := cl3 BK101) | ((with_reducible refine gate_callee (f := 52) rfl ?_); refine goA (some 8) rfl rfl Try.func52 rfl #[.slice A0_2 l0_2.length c0_2, .int .i64 a1] rfl ?_; (with_reducible refine (laws_szByteS.calls _ _ l0_2 a1 t102 _ ?side1 ?side2 A3.out).mono ?_); (case side1 => exact mC HR0_2 HB); (case side2 => exact HC0_2.out); rintro e w' ⟨rfl, ⟨nd, rfl⟩⟩; refine ⟨_, rfl, ?_⟩))
 go_ret
 exact ⟨by first | rfl | (simp [errW_none, errW_some] <;> rfl) | (simp [*, errW_none, errW_some] <;> rfl), bel HB⟩

/-! ### laws_szEntry: function 110 -/
def laws_szEntry.f (a0_0 : Int) (a0_1 : Int) (a0_2 : Int) (l0_3 : List Int) (a1 : Int) : Option (Int) := (laws_szEvent.f a0_1 a0_2 l0_3 a1).bind fun t104 => (if t104 < 0 then (some (-1)) else (some t104))
set_option maxHeartbeats 8000000 in
set_option maxRecDepth 100000 in
theorem laws_szEntry.calls (a0_0 : Int) (a0_1 : Int) (a0_2 : Int) (A0_3 : Option Addr) (c0_3 : Nat) (l0_3 : List Int) (a1 : Int) (r : Int) (w : World) (hr0_3 : Kd.C (Kd.int .u8) w A0_3 l0_3.length l0_3) (hc0_3 : l0_3.length ≤ c0_3) (h : laws_szEntry.f a0_0 a0_1 a0_2 l0_3 a1 = some r) :
  Calls Try.prog 110 #[.agg #[.int .i64 a0_0, .int .i64 a0_1, .int .i64 a0_2, .slice A0_3 l0_3.length c0_3], .int .i64 a1] w fun e w' => e = .returned (.int .i64 r) ∧ Below w.heap.size w w' := by
 have hu131 := Try.underlying131
 have hu27 := Try.underlying27
 have HR0_3 := Aside0.mk hr0_3
 have HC0_3 := Aside0.mk hc0_3
 clear hr0_3 hc0_3
 have HB := am (Below.refl w.heap.size w)
 have H : ((laws_szEvent.f a0_1 a0_2 l0_3 a1).bind fun t104 => (if t104 < 0 then (some (-1)) else (some t104))) = some r := h
 clear h
 replace H := Option.bind_eq_some_iff.mp H
 obtain ⟨t104, A30, H⟩ := H
 replace H : (if t104 < 0 then (some (-1)) else (some t104)) = some r := H
 have A3 := Aside0.mk A30
 clear A30
 by_cases c4 : t104 < 0
 ·
  rw [if_pos c4] at H
  have c4b0 : decide (t104 < 0) = true := decide_eq_true c4
  clear c4
  obtain rfl := Option.some.inj H
  go_enter Try.func110, Try.ntmps110
  go_wp2_with (first | ((with_reducible refine gate_dst (N := 2) rfl ?_); refine boxE #[.int .i64 a0_0, .int .i64 a0_1, .int .i64 a0_2, .slice A0_3 l0_3.length c0_3] 131 (N := 2) rfl rfl ?_; intro gb103 hg w5 hbox hb; have BK103 := Aside0.mk hbox; have GW103 := gZ HB hg; have GE103 := gZ HB hg; replace HB := bS HB hb; clear hb hbox hg; have hz6 := cl4 BK103) | ((with_reducible refine gate_callee (f := 10) rfl ?_); refine goA (some 8) rfl rfl Try.func10 rfl #[.agg #[.int .i64 a0_1, .int .i64 a0_2, .slice A0_3 l0_3.length c0_3], .int .i64 a1] rfl ?_; (with_reducible refine (laws_szEvent.calls a0_1 a0_2 _ _ l0_3 a1 t104 _ ?side1 ?side2 A3.out).mono ?_); (case side1 => exact mC HR0_3 HB); (case side2 => exact HC0_3.out); rintro e w7 ⟨rfl, hb⟩; refine ⟨_, rfl, ?_⟩; replace BK103 := bK BK103 hb; replace HB := bS HB hb; (try clear hb); (try clear hb2); (try clear hk); (try clear hi)))
  go_ret
  exact ⟨by first | rfl | (simp [errW_none, errW_some] <;> rfl) | (simp [*, errW_none, errW_some] <;> rfl), bel HB⟩
 rw [if_neg c4] at H
 have c4b0 : decide (t104 < 0) = false := decide_eq_false c4
 clear c4
 obtain rfl := Option.some.inj H
 go_enter Try.func110, Try.ntmps110
 go_wp2_with (first | ((with_reducible refine gate_dst (N := 2) rfl ?_); refine boxE #[.int .i64 a0_0, .int .i64 a0_1, .int .i64 a0_2, .slice A0_3 l0_3.length c0_3] 131 (N := 2) rfl rfl ?_; intro gb103 hg w8 hbox hb; have BK103 := Aside0.mk hbox; have GW103 := gZ HB hg; have GE103 := gZ HB hg; replace HB := bS HB hb; clear hb hbox hg; have hz9 := cl4 BK103) | ((with_reducible refine gate_callee (f := 10) rfl ?_); refine goA (some 8) rfl rfl Try.func10 rfl #[.agg #[.int .i64 a0_1, .int .i64 a0_2, .slice A0_3 l0_3.length c0_3], .int .i64 a1] rfl ?_; (with_reducible refine (laws_szEvent.calls a0_1 a0_2 _ _ l0_3 a1 t104 _ ?side1 ?side2 A3.out).mono ?_); (case side1 => exact mC HR0_3 HB); (case side2 => exact HC0_3.out); rintro e w10 ⟨rfl, hb⟩; refine ⟨_, rfl, ?_⟩; replace BK103 := bK BK103 hb; replace HB := bS HB hb; (try clear hb); (try clear hb2); (try clear hk); (try clear hi)))
 go_ret
 exact ⟨by first | rfl | (simp [errW_none, errW_some] <;> rfl) | (simp [*, errW_none, errW_some] <;> rfl), bel HB⟩

/-! ### laws_szEntryS: function 51 -/
def laws_szEntryS.l0 : Nat → List (S131) → Int → Int → Option (Int)
 | 0, _, _, _ => none
 | k + 1, x0, x1, x5 => if x5 < (x0.length : Int) then (if 0 ≤ x5 then ((laws_szEntry.f ((rd_T131 x0 x5).f0) ((rd_T131 x0 x5).f1.f0) ((rd_T131 x0 x5).f1.f1) ((rd_T131 x0 x5).f1.f2) x1).bind fun t106 => (if t106 < 0 then (some (-1)) else (laws_szEntryS.l0 k x0 t106 (wrap64 (x5 + 1))))) else (none)) else (some x1)
def laws_szEntryS.f (k : Nat) (l0 : List (S131)) (a1 : Int) : Option (Int) := if (wrap64 (a1 - (l0.length : Int))) < 0 then (some (-1)) else (laws_szEntryS.l0 k l0 (wrap64 (a1 - (l0.length : Int))) 0)
theorem laws_szEntryS.mono_l : ∀ k, (∀ y0 y1 y2, LeO (laws_szEntryS.l0 k y0 y1 y2) (laws_szEntryS.l0 (k + 1) y0 y1 y2))
 | 0 => fun _ _ _ r h => by simp [laws_szEntryS.l0] at h
 | k + 1 => by
  have ih0 := laws_szEntryS.mono_l k
  intro y0 y1 y2
  unfold laws_szEntryS.l0
  repeat' first
  | (with_reducible exact ih0 _ _ _)
  | (with_reducible exact LeO.refl _)
  | (with_reducible exact LeO.none _)
  | (with_reducible refine LeO.ite ?_ ?_)
  | (with_reducible refine LeO.bind ?_ (fun _ => ?_))
  | exact ih0 _ _ _
  | exact LeO.none _
  | refine LeO.ite ?_ ?_
  | refine LeO.bind ?_ (fun _ => ?_)
theorem laws_szEntryS.mono : ∀ a0 a1 k, LeO (laws_szEntryS.f k a0 a1) (laws_szEntryS.f (k + 1) a0 a1) := by
 intro a0 a1 k
 have ih0 := laws_szEntryS.mono_l k
 unfold laws_szEntryS.f
 repeat' first
   | (with_reducible exact ih0 _ _ _)
   | (with_reducible exact LeO.refl _)
   | (with_reducible exact LeO.none _)
   | (with_reducible refine LeO.ite ?_ ?_)
   | (with_reducible refine LeO.bind ?_ (fun _ => ?_))
   | exact ih0 _ _ _
   | exact LeO.none _
   | refine LeO.ite ?_ ?_
   | refine LeO.bind ?_ (fun _ => ?_)
set_option maxHeartbeats 8000000 in
set_option maxRecDepth 100000 in
theorem laws_szEntryS.calls (k : Nat) (A0 : Option Addr) (c0 : Nat) (l0 : List (S131)) (a1 : Int) (r : Int) (w : World) (hr0 : Kd.C k131 w A0 l0.length l0) (hc0 : l0.length ≤ c0) (h : laws_szEntryS.f k l0 a1 = some r) :
  Calls Try.prog 51 #[.slice A0 l0.length c0, .int .i64 a1] w fun e w' => e = .returned (.int .i64 r) ∧ Below w.heap.size w w' := by
 have hu131 := Try.underlying131
 have hu27 := Try.underlying27
 have HR0 := Aside0.mk hr0
 have HC0 := Aside0.mk hc0
 clear hr0 hc0
 have HB := am (Below.refl w.heap.size w)
 have H : (if (wrap64 (a1 - (l0.length : Int))) < 0 then (some (-1)) else (laws_szEntryS.l0 k l0 (wrap64 (a1 - (l0.length : Int))) 0)) = some r := h
 clear h
 by_cases c3 : (wrap64 (a1 - (l0.length : Int))) < 0
 ·
  rw [if_pos c3] at H
  have c3b0 : decide ((wrap64 (a1 - (l0.length : Int))) < 0) = true := decide_eq_true c3
  clear c3
  obtain rfl := Option.some.inj H
  go_enter Try.func51, Try.ntmps51
  go_wp2
  go_ret
  exact ⟨by first | rfl | (simp [errW_none, errW_some] <;> rfl) | (simp [*, errW_none, errW_some] <;> rfl), bel HB⟩
 rw [if_neg c3] at H
 have c3b0 : decide ((wrap64 (a1 - (l0.length : Int))) < 0) = false := decide_eq_false c3
 clear c3
 have H' := Aside0.mk H
 clear H
 go_enter Try.func51, Try.ntmps51
 go_wp2
 go_loopg [1, 5] k (fun kq v1 v5 w' => ∃ (x1_1 : Int) (x5_1 : Int), v1 = .int .i64 x1_1 ∧ v5 = .int .i64 x5_1 ∧ Aside0 (laws_szEntryS.l0 kq l0 x1_1 x5_1 = some r) ∧ Aside0 (kq ≤ k) ∧ Aside0 (Below w.heap.size w w'))
 case atStart => exact ⟨(wrap64 (a1 - (l0.length : Int))), (0), (by first | rfl | (simp; done) | (simp [*]; done)), (by first | rfl | (simp; done) | (simp [*]; done)), H', ⟨Nat.le_refl _⟩, ⟨bel HB⟩⟩
 case round =>
  clear H'
  try clear p2
  try clear c3
  try clear c3b0
  obtain ⟨x1_1, x5_1, rfl, rfl, HA, HK1, HB⟩ := hrel
  cases gk with
  | zero => exact absurd HA.out (by simp [laws_szEntryS.l0])
  | succ k1 =>
   have H := HA.out
   clear HA
   simp only [laws_szEntryS.l0] at H
   by_cases c4 : x5_1 < (l0.length : Int)
   ·
    rw [if_pos c4] at H
    have c4b0 : decide (x5_1 < (l0.length : Int)) = true := decide_eq_true c4
    clear c4
    by_cases c5 : 0 ≤ x5_1
    ·
     rw [if_pos c5] at H
     have c5b0 : decide (0 ≤ x5_1) = true := decide_eq_true c5
     clear c5
     replace H := Option.bind_eq_some_iff.mp H
     obtain ⟨t106, A60, H⟩ := H
     replace H : (if t106 < 0 then (some (-1)) else (laws_szEntryS.l0 k1 l0 t106 (wrap64 (x5_1 + 1)))) = some r := H
     have A6 := Aside0.mk A60
     clear A60
     by_cases c7 : t106 < 0
     ·
      rw [if_pos c7] at H
      have c7b0 : decide (t106 < 0) = true := decide_eq_true c7
      clear c7
      obtain rfl := Option.some.inj H
      have p105 : 0 ≤ (x5_1 : Int) := of_decide_eq_true (by first | (with_reducible assumption) | assumption)
      have q105 : x5_1 < (l0.length : Int) := of_decide_eq_true (by first | (with_reducible assumption) | assumption)
      obtain ⟨ad105, A105_3, c105_3, e105, hx105_0, hx105_1, hx105_2, hx105_3, hl105_3, hi105_3⟩ := at_T131 HR0.out x5_1 p105 q105
      cases e105
      replace hx105_0 := (HB.out.cell (World.block_lt_of_cell? w _ hx105_0)).trans hx105_0
      replace hx105_1 := (HB.out.cell (World.block_lt_of_cell? w _ hx105_1)).trans hx105_1
      replace hx105_2 := (HB.out.cell (World.block_lt_of_cell? w _ hx105_2)).trans hx105_2
      replace hx105_3 := (HB.out.cell (World.block_lt_of_cell? w _ hx105_3)).trans hx105_3
      have HR105_3 := Aside0.mk hi105_3
      have HC105_3 := Aside0.mk hl105_3
      clear hi105_3 hl105_3
      replace p105 := eq_true p105
      replace q105 := eq_true q105
      go_wp2_with (first | ((with_reducible refine gate_callee (f := 110) rfl ?_); refine goA (some 23) rfl rfl Try.func110 rfl #[.agg #[.int .i64 ((rd_T131 l0 x5_1).f0), .int .i64 ((rd_T131 l0 x5_1).f1.f0), .int .i64 ((rd_T131 l0 x5_1).f1.f1), .slice A105_3 ((rd_T131 l0 x5_1).f1.f2).length c105_3], .int .i64 x1_1] rfl ?_; (with_reducible refine (laws_szEntry.calls ((rd_T131 l0 x5_1).f0) ((rd_T131 l0 x5_1).f1.f0) ((rd_T131 l0 x5_1).f1.f1) _ _ ((rd_T131 l0 x5_1).f1.f2) x1_1 t106 _ ?side1 ?side2 A6.out).mono ?_); (case side1 => exact mC HR105_3 HB); (case side2 => exact HC105_3.out); rintro e w8 ⟨rfl, hb⟩; refine ⟨_, rfl, ?_⟩; replace HB := bS HB hb; (try clear hb); (try clear hb2); (try clear hk); (try clear hi)))
      go_ret
      exact ⟨by first | rfl | (simp [errW_none, errW_some] <;> rfl) | (simp [*, errW_none, errW_some] <;> rfl), bel HB⟩
     rw [if_neg c7] at H
     have c7b0 : decide (t106 < 0) = false := decide_eq_false c7
     clear c7
     have H' := Aside0.mk H
     clear H
     have p105 : 0 ≤ (x5_1 : Int) := of_decide_eq_true (by first | (with_reducible assumption) | assumption)
     have q105 : x5_1 < (l0.length : Int) := of_decide_eq_true (by first | (with_reducible assumption) | assumption)
     obtain ⟨ad105, A105_3, c105_3, e105, hx105_0, hx105_1, hx105_2, hx105_3, hl105_3, hi105_3⟩ := at_T131 HR0.out x5_1 p105 q105
     cases e105
     replace hx105_0 := (HB.out.cell (World.block_lt_of_cell? w _ hx105_0)).trans hx105_0
     replace hx105_1 := (HB.out.cell (World.block_lt_of_cell? w _ hx105_1)).trans hx105_1
     replace hx105_2 := (HB.out.cell (World.block_lt_of_cell? w _ hx105_2)).trans hx105_2
     replace hx105_3 := (HB.out.cell (World.block_lt_of_cell? w _ hx105_3)).trans hx105_3
     have HR105_3 := Aside0.mk hi105_3
     have HC105_3 := Aside0.mk hl105_3
     clear hi105_3 hl105_3
     replace p105 := eq_true p105
     replace q105 := eq_true q105
     go_wp2_with (first | ((with_reducible refine gate_callee (f := 110) rfl ?_); refine goA (some 23) rfl rfl Try.func110 rfl #[.agg #[.int .i64 ((rd_T131 l0 x5_1).f0), .int .i64 ((rd_T131 l0 x5_1).f1.f0), .int .i64 ((rd_T131 l0 x5_1).f1.f1), .slice A105_3 ((rd_T131 l0 x5_1).f1.f2).length c105_3], .int .i64 x1_1] rfl ?_; (with_reducible refine (laws_szEntry.calls ((rd_T131 l0 x5_1).f0) ((rd_T131 l0 x5_1).f1.f0) ((rd_T131 l0 x5_1).f1.f1) _ _ ((rd_T131 l0 x5_1).f1.f2) x1_1 t106 _ ?side1 ?side2 A6.out).mono ?_); (case side1 => exact mC HR105_3 HB); (case side2 => exact HC105_3.out); rintro e w9 ⟨rfl, hb⟩; refine ⟨_, rfl, ?_⟩; replace HB := bS HB hb; (try clear hb); (try clear hb2); (try clear hk); (try clear hi)))
     go_roundg k1
     case measure => have := HK1.out; omega
     case rel => exact ⟨(t106), (wrap64 (x5_1 + 1)), (by first | rfl | (simp; done) | (simp [*]; done)), (by first | rfl | (simp; done) | (simp [*]; done)), H', ⟨by have := HK1.out; omega⟩, ⟨bel HB⟩⟩
    rw [if_neg c5] at H
    exact absurd H (by simp)
   rw [if_neg c4] at H
   have c4b0 : decide (x5_1 < (l0.length : Int)) = false := decide_eq_false c4
   clear c4
   obtain rfl := Option.some.inj H
   go_wp2
   go_ret
   exact ⟨by first | rfl | (simp [errW_none, errW_some] <;> rfl) | (simp [*, errW_none, errW_some] <;> rfl), bel HB⟩

/-! ### laws_szNode: function 9 -/
def laws_szNode.f (k : Nat) (a0_0 : Int) (a0_1 : Bool) (a0_2 : Int) (a0_3 : Int) (l0_4 : List (S131)) (a0_5 : Int) (a0_6 : Int) (a0_7 : Int) (a0_8 : Int) (a1 : Int) : Option (Int) := (laws_szEntryS.f k l0_4 a1).bind fun t108 => (if t108 < 0 then (some (-1)) else (some t108))
theorem laws_szNode.mono : ∀ a0 a1 a2 a3 a4 a5 a6 a7 a8 a9 k, LeO (laws_szNode.f k a0 a1 a2 a3 a4 a5 a6 a7 a8 a9) (laws_szNode.f (k + 1) a0 a1 a2 a3 a4 a5 a6 a7 a8 a9) := by
 intro a0 a1 a2 a3 a4 a5 a6 a7 a8 a9 k
 unfold laws_szNode.f
 repeat' first
   | (with_reducible exact laws_szEntryS.mono _ _ _)
   | (with_reducible exact LeO.refl _)
   | (with_reducible exact LeO.none _)
   | (with_reducible refine LeO.ite ?_ ?_)
   | (with_reducible refine LeO.bind ?_ (fun _ => ?_))
   | exact laws_szEntryS.mono _ _ _
   | exact LeO.none _
   | refine LeO.ite ?_ ?_
   | refine LeO.bind ?_ (fun _ => ?_)
set_option maxHeartbeats 8000000 in
set_option maxRecDepth 100000 in
theorem laws_szNode.calls (k : Nat) (a0_0 : Int) (a0_1 : Bool) (a0_2 : Int) (a0_3 : Int) (A0_4 : Option Addr) (c0_4 : Nat) (l0_4 : List (S131)) (a0_5 : Int) (a0_6 : Int) (a0_7 : Int) (a0_8 : Int) (a1 : Int) (r : Int) (w : World) (hr0_4 : Kd.C k131 w A0_4 l0_4.length l0_4) (hc0_4 : l0_4.length ≤ c0_4) (h : laws_szNode.f k a0_0 a0_1 a0_2 a0_3 l0_4 a0_5 a0_6 a0_7 a0_8 a1 = some r) :
  Calls Try.prog 9 #[.agg #[.int .i64 a0_0, .bool a0_1, .int .i64 a0_2, .int .i64 a0_3, .slice A0_4 l0_4.length c0_4, .int .i64 a0_5, .int .i64 a0_6, .int .i64 a0_7, .int .i64 a0_8], .int .i64 a1] w fun e w' => e = .returned (.int .i64 r) ∧ Below w.heap.size w w' := by
 have hu24 := Try.underlying24
 have HR0_4 := Aside0.mk hr0_4
 have HC0_4 := Aside0.mk hc0_4
 clear hr0_4 hc0_4
 have HB := am (Below.refl w.heap.size w)
 have H : ((laws_szEntryS.f k l0_4 a1).bind fun t108 => (if t108 < 0 then (some (-1)) else (some t108))) = some r := h
 clear h
 replace H := Option.bind_eq_some_iff.mp H
 obtain ⟨t108, A30, H⟩ := H
 replace H : (if t108 < 0 then (some (-1)) else (some t108)) = some r := H
 have A3 := Aside0.mk A30
 clear A30
 by_cases c4 : t108 < 0
 ·
  rw [if_pos c4] at H
  have c4b0 : decide (t108 < 0) = true := decide_eq_true c4
  clear c4
  obtain rfl := Option.some.inj H
  go_enter Try.func9, Try.ntmps9
  go_wp2_with (first | ((with_reducible refine gate_dst (N := 2) rfl ?_); refine boxE #[.int .i64 a0_0, .bool a0_1, .int .i64 a0_2, .int .i64 a0_3, .slice A0_4 l0_4.length c0_4, .int .i64 a0_5, .int .i64 a0_6, .int .i64 a0_7, .int .i64 a0_8] 24 (N := 2) rfl rfl ?_; intro gb107 hg w5 hbox hb; have BK107 := Aside0.mk hbox; have GW107 := gZ HB hg; have GE107 := gZ HB hg; replace HB := bS HB hb; clear hb hbox hg; have hz6 := cl9 BK107) | ((with_reducible refine gate_callee (f := 51) rfl ?_); refine goA (some 8) rfl rfl Try.func51 rfl #[.slice A0_4 l0_4.length c0_4, .int .i64 a1] rfl ?_; (with_reducible refine (laws_szEntryS.calls k _ _ l0_4 a1 t108 _ ?side1 ?side2 A3.out).mono ?_); (case side1 => exact mC HR0_4 HB); (case side2 => exact HC0_4.out); rintro e w7 ⟨rfl, hb⟩; refine ⟨_, rfl, ?_⟩; replace BK107 := bK BK107 hb; replace HB := bS HB hb; (try clear hb); (try clear hb2); (try clear hk); (try clear hi)))
  go_ret
  exact ⟨by first | rfl | (simp [errW_none, errW_some] <;> rfl) | (simp [*, errW_none, errW_some] <;> rfl), bel HB⟩
 rw [if_neg c4] at H
 have c4b0 : decide (t108 < 0) = false := decide_eq_false c4
 clear c4
 obtain rfl := Option.some.inj H
 go_enter Try.func9, Try.ntmps9
 go_wp2_with (first | ((with_reducible refine gate_dst (N := 2) rfl ?_); refine boxE #[.int .i64 a0_0, .bool a0_1, .int .i64 a0_2, .int .i64 a0_3, .slice A0_4 l0_4.length c0_4, .int .i64 a0_5, .int .i64 a0_6, .int .i64 a0_7, .int .i64 a0_8] 24 (N := 2) rfl rfl ?_; intro gb107 hg w8 hbox hb; have BK107 := Aside0.mk hbox; have GW107 := gZ HB hg; have GE107 := gZ HB hg; replace HB := bS HB hb; clear hb hbox hg; have hz9 := cl9 BK107) | ((with_reducible refine gate_callee (f := 51) rfl ?_); refine goA (some 8) rfl rfl Try.func51 rfl #[.slice A0_4 l0_4.length c0_4, .int .i64 a1] rfl ?_; (with_reducible refine (laws_szEntryS.calls k _ _ l0_4 a1 t108 _ ?side1 ?side2 A3.out).mono ?_); (case side1 => exact mC HR0_4 HB); (case side2 => exact HC0_4.out); rintro e w10 ⟨rfl, hb⟩; refine ⟨_, rfl, ?_⟩; replace BK107 := bK BK107 hb; replace HB := bS HB hb; (try clear hb); (try clear hb2); (try clear hk); (try clear hi)))
 go_ret
 exact ⟨by first | rfl | (simp [errW_none, errW_some] <;> rfl) | (simp [*, errW_none, errW_some] <;> rfl), bel HB⟩

/-! ### spec_l1In: function 88 -/
def spec_l1In.f (a0 : Int) (a1 : Int) (a2 : Int) : Option (Bool) := if a0 ≥ a1 then (some (decide (a0 ≤ a2))) else (some false)
set_option maxHeartbeats 8000000 in
set_option maxRecDepth 100000 in
theorem spec_l1In.calls (a0 : Int) (a1 : Int) (a2 : Int) (r : Bool) (w : World) (h : spec_l1In.f a0 a1 a2 = some r) :
  Calls Try.prog 88 #[.int .i64 a0, .int .i64 a1, .int .i64 a2] w fun e w' => e = .returned (.bool r) ∧ Drawn0 w w' := by
 have H : (if a0 ≥ a1 then (some (decide (a0 ≤ a2))) else (some false)) = some r := h
 clear h
 by_cases c4 : a0 ≥ a1
 ·
  rw [if_pos c4] at H
  have c4b0 : decide (a1 ≤ a0) = true := decide_eq_true c4
  clear c4
  obtain rfl := Option.some.inj H
  go_enter Try.func88, Try.ntmps88
  go_wp2
  go_ret
  exact ⟨by first | rfl | (simp; done) | (simp [*]; done), drw⟩
 rw [if_neg c4] at H
 have c4b0 : decide (a1 ≤ a0) = false := decide_eq_false c4
 clear c4
 obtain rfl := Option.some.inj H
 go_enter Try.func88, Try.ntmps88
 go_wp2
 go_ret
 exact ⟨by first | rfl | (simp; done) | (simp [*]; done), drw⟩

/-! ### spec_l7Peer: function 111 -/
def spec_l7Peer.f (a0 : Int) : Option (Bool) := (spec_l1In.f a0 0 2).bind fun t109 => (some t109)
set_option maxHeartbeats 8000000 in
set_option maxRecDepth 100000 in
theorem spec_l7Peer.calls (a0 : Int) (r : Bool) (w : World) (h : spec_l7Peer.f a0 = some r) :
  Calls Try.prog 111 #[.int .i64 a0] w fun e w' => e = .returned (.bool r) ∧ Drawn0 w w' := by
 have H : ((spec_l1In.f a0 0 2).bind fun t109 => (some t109)) = some r := h
 clear h
 replace H := Option.bind_eq_some_iff.mp H
 obtain ⟨t109, A20, H⟩ := H
 replace H : (some t109) = some r := H
 have A2 := Aside0.mk A20
 clear A20
 obtain rfl := Option.some.inj H
 go_enter Try.func111, Try.ntmps111
 go_wp2_with (first | ((with_reducible refine gate_callee (f := 88) rfl ?_); refine goA (some 4) rfl rfl Try.func88 rfl #[.int .i64 a0, .int .i64 0, .int .i64 2] rfl ?_; (with_reducible refine (spec_l1In.calls a0 0 2 t109 _ A2.out).mono ?_); rintro e w' ⟨rfl, ⟨nd, rfl⟩⟩; refine ⟨_, rfl, ?_⟩))
 go_ret
 exact ⟨by first | rfl | (simp; done) | (simp [*]; done), drw⟩

/-! ### spec_EventFault: function 55 -/
def spec_EventFault.j0 : Nat → Bool → Int → Int → List Int → Option (Int)
 | 0, _, _, _, _ => none
 | k + 1, x20, x111000, x111001, x111002 => if x20 = true then (some 3) else (if ((decide ((x111002.length : Int) > 0)) != (x111000 == 2)) = true then (some 1) else (if (x111002.length : Int) > 60 then (some 2) else (some 0)))
def spec_EventFault.f (k : Nat) (a0_0 : Int) (a0_1 : Int) (l0_2 : List Int) : Option (Int) := (spec_l1In.f a0_0 1 4).bind fun t111 => (if t111 = true then ((spec_l7Peer.f a0_1).bind fun t112 => (if t112 = true then (if a0_0 = 3 then (spec_EventFault.j0 k (a0_1 != 0) a0_0 a0_1 l0_2) else (spec_EventFault.j0 k false a0_0 a0_1 l0_2)) else (spec_EventFault.j0 k true a0_0 a0_1 l0_2))) else (some 1))
theorem spec_EventFault.mono_l : ∀ k, (∀ y0 y1 y2 y3, LeO (spec_EventFault.j0 k y0 y1 y2 y3) (spec_EventFault.j0 (k + 1) y0 y1 y2 y3))
 | 0 => fun _ _ _ _ r h => by simp [spec_EventFault.j0] at h
 | k + 1 => by
  have ih0 := spec_EventFault.mono_l k
  intro y0 y1 y2 y3
  unfold spec_EventFault.j0
  repeat' first
  | (with_reducible exact ih0 _ _ _ _)
  | (with_reducible exact LeO.refl _)
  | (with_reducible exact LeO.none _)
  | (with_reducible refine LeO.ite ?_ ?_)
  | (with_reducible refine LeO.bind ?_ (fun _ => ?_))
  | exact ih0 _ _ _ _
  | exact LeO.none _
  | refine LeO.ite ?_ ?_
  | refine LeO.bind ?_ (fun _ => ?_)
theorem spec_EventFault.mono : ∀ a0 a1 a2 k, LeO (spec_EventFault.f k a0 a1 a2) (spec_EventFault.f (k + 1) a0 a1 a2) := by
 intro a0 a1 a2 k
 have ih0 := spec_EventFault.mono_l k
 unfold spec_EventFault.f
 repeat' first
   | (with_reducible exact ih0 _ _ _ _)
   | (with_reducible exact LeO.refl _)
   | (with_reducible exact LeO.none _)
   | (with_reducible refine LeO.ite ?_ ?_)
   | (with_reducible refine LeO.bind ?_ (fun _ => ?_))
   | exact ih0 _ _ _ _
   | exact LeO.none _
   | refine LeO.ite ?_ ?_
   | refine LeO.bind ?_ (fun _ => ?_)
set_option maxHeartbeats 8000000 in
set_option maxRecDepth 100000 in
theorem spec_EventFault.calls (k : Nat) (a0_0 : Int) (a0_1 : Int) (A0_2 : Option Addr) (c0_2 : Nat) (l0_2 : List Int) (r : Int) (w : World) (hr0_2 : Kd.C (Kd.int .u8) w A0_2 l0_2.length l0_2) (hc0_2 : l0_2.length ≤ c0_2) (h : spec_EventFault.f k a0_0 a0_1 l0_2 = some r) :
  Calls Try.prog 55 #[.agg #[.int .i64 a0_0, .int .i64 a0_1, .slice A0_2 l0_2.length c0_2]] w fun e w' => e = .returned (.int .i64 r) ∧ Below w.heap.size w w' := by
 have hu38 := Try.underlying38
 have HR0_2 := Aside0.mk hr0_2
 have HC0_2 := Aside0.mk hc0_2
 clear hr0_2 hc0_2
 have HB := am (Below.refl w.heap.size w)
 have H : ((spec_l1In.f a0_0 1 4).bind fun t111 => (if t111 = true then ((spec_l7Peer.f a0_1).bind fun t112 => (if t112 = true then (if a0_0 = 3 then (spec_EventFault.j0 k (a0_1 != 0) a0_0 a0_1 l0_2) else (spec_EventFault.j0 k false a0_0 a0_1 l0_2)) else (spec_EventFault.j0 k true a0_0 a0_1 l0_2))) else (some 1))) = some r := h
 clear h
 replace H := Option.bind_eq_some_iff.mp H
 obtain ⟨t111, A20, H⟩ := H
 replace H : (if t111 = true then ((spec_l7Peer.f a0_1).bind fun t112 => (if t112 = true then (if a0_0 = 3 then (spec_EventFault.j0 k (a0_1 != 0) a0_0 a0_1 l0_2) else (spec_EventFault.j0 k false a0_0 a0_1 l0_2)) else (spec_EventFault.j0 k true a0_0 a0_1 l0_2))) else (some 1)) = some r := H
 have A2 := Aside0.mk A20
 clear A20
 by_cases c3 : t111 = true
 ·
  subst c3
  have H1 : ((spec_l7Peer.f a0_1).bind fun t112 => (if t112 = true then (if a0_0 = 3 then (spec_EventFault.j0 k (a0_1 != 0) a0_0 a0_1 l0_2) else (spec_EventFault.j0 k false a0_0 a0_1 l0_2)) else (spec_EventFault.j0 k true a0_0 a0_1 l0_2))) = some r := by rw [if_pos rfl] at H; first | done | exact H
  clear H
  have H := H1
  clear H1
  have HC4 := Aside0.mk H
  clear H
  go_enter Try.func55, Try.ntmps55
  go_upto_region 3 with (first | ((with_reducible refine gate_dst (N := 1) rfl ?_); refine boxE #[.int .i64 a0_0, .int .i64 a0_1, .slice A0_2 l0_2.length c0_2] 38 (N := 1) rfl rfl ?_; intro gb110 hg w5 hbox hb; have BK110 := Aside0.mk hbox; have GW110 := gZ HB hg; have GE110 := gZ HB hg; replace HB := bS HB hb; clear hb hbox hg; have hz6 := cl3 BK110) | ((with_reducible refine gate_callee (f := 88) rfl ?_); refine goA (some 5) rfl rfl Try.func88 rfl #[.int .i64 a0_0, .int .i64 1, .int .i64 4] rfl ?_; (with_reducible refine (spec_l1In.calls a0_0 1 4 true _ A2.out).mono ?_); rintro e w' ⟨rfl, ⟨nd, rfl⟩⟩; refine ⟨_, rfl, ?_⟩))
  (try simp only [Act.put, List.setIfInBounds_toArray, List.set_cons_zero, List.set_cons_succ])
  go_cut [20] (fun v20 wc => ∃ (kq : Nat) (x20_3 : Bool), v20 = .bool x20_3 ∧ Aside0 (spec_EventFault.j0 kq x20_3 a0_0 a0_1 l0_2 = some r) ∧ Aside0 (kq ≤ k) ∧ Aside0 (wc.heap[gb110]? = some (.cells #[.int .i64 a0_0, .int .i64 a0_1, (.slice A0_2 l0_2.length c0_2)] 38 (0, 0))) ∧ Aside0 (Below w.heap.size w wc))
  case first =>
   have H := HC4.out
   clear HC4
   replace H := Option.bind_eq_some_iff.mp H
   obtain ⟨t112, A70, H⟩ := H
   replace H : (if t112 = true then (if a0_0 = 3 then (spec_EventFault.j0 k (a0_1 != 0) a0_0 a0_1 l0_2) else (spec_EventFault.j0 k false a0_0 a0_1 l0_2)) else (spec_EventFault.j0 k true a0_0 a0_1 l0_2)) = some r := H
   have A7 := Aside0.mk A70
   clear A70
   by_cases c8 : t112 = true
   ·
    subst c8
    have H1 : (if a0_0 = 3 then (spec_EventFault.j0 k (a0_1 != 0) a0_0 a0_1 l0_2) else (spec_EventFault.j0 k false a0_0 a0_1 l0_2)) = some r := by rw [if_pos rfl] at H; first | done | exact H
    clear H
    have H := H1
    clear H1
    by_cases c9 : a0_0 = 3
    ·
     rw [if_pos c9] at H
     have c9b0 : (a0_0 == 3) = true := beq_iff_eq.mpr c9
     have c9b1 : (a0_0 != 3) = false := bne_eq_false_iff_eq.mpr c9
     clear c9
     (first | rw [c9b0] | (simp only [i64_w, i32_w]; rw [c9b0]) | skip)
     have H' := Aside0.mk H
     clear H
     have hz10 := cl3 BK110
     go_wp2_with (first | ((with_reducible refine gate_callee (f := 111) rfl ?_); refine goA (some 9) rfl rfl Try.func111 rfl #[.int .i64 a0_1] rfl ?_; (with_reducible refine (spec_l7Peer.calls a0_1 true _ A7.out).mono ?_); rintro e w' ⟨rfl, ⟨nd, rfl⟩⟩; refine ⟨_, rfl, ?_⟩))
     first | go_meet | (refine Met.intro ?_; go_step; (repeat apply Exists.intro); refine ⟨?rel, ?eqq⟩; (case eqq => (try simp only [c9b0]); rfl))
     case rel => exact ⟨_, ((a0_1 != 0)), (by first | rfl | (simp; done) | (simp [*]; done)), H', ⟨by first | omega | exact Nat.le_refl _⟩, ⟨by (with_reducible repeat (first | refine blk_drewN ?_ _ | refine blk_drew ?_ | refine blk_alloc ?_ _)); exact BK110.out⟩, ⟨bel HB⟩⟩
    rw [if_neg c9] at H
    have c9b0 : (a0_0 == 3) = false := beq_eq_false_iff_ne.mpr c9
    have c9b1 : (a0_0 != 3) = true := bne_iff_ne.mpr c9
    (first | rw [c9b0] | (simp only [i64_w, i32_w]; rw [c9b0]) | skip)
    have H' := Aside0.mk H
    clear H
    have hz11 := cl3 BK110
    go_wp2_with (first | ((with_reducible refine gate_callee (f := 111) rfl ?_); refine goA (some 9) rfl rfl Try.func111 rfl #[.int .i64 a0_1] rfl ?_; (with_reducible refine (spec_l7Peer.calls a0_1 true _ A7.out).mono ?_); rintro e w' ⟨rfl, ⟨nd, rfl⟩⟩; refine ⟨_, rfl, ?_⟩))
    first | go_meet | (refine Met.intro ?_; go_step; (repeat apply Exists.intro); refine ⟨?rel, ?eqq⟩; (case eqq => (try simp only [c9b0]); rfl))
    case rel => exact ⟨_, (false), (by first | rfl | (simp; done) | (simp [*]; done)), H', ⟨by first | omega | exact Nat.le_refl _⟩, ⟨by (with_reducible repeat (first | refine blk_drewN ?_ _ | refine blk_drew ?_ | refine blk_alloc ?_ _)); exact BK110.out⟩, ⟨bel HB⟩⟩
   replace c8 := Bool.eq_false_iff.mpr c8
   subst c8
   have H1 : (spec_EventFault.j0 k true a0_0 a0_1 l0_2) = some r := by rw [if_neg (show ¬ (false = true) by decide)] at H; first | done | exact H
   clear H
   have H := H1
   clear H1
   have H' := Aside0.mk H
   clear H
   have hz12 := cl3 BK110
   go_wp2_with (first | ((with_reducible refine gate_callee (f := 111) rfl ?_); refine goA (some 9) rfl rfl Try.func111 rfl #[.int .i64 a0_1] rfl ?_; (with_reducible refine (spec_l7Peer.calls a0_1 false _ A7.out).mono ?_); rintro e w' ⟨rfl, ⟨nd, rfl⟩⟩; refine ⟨_, rfl, ?_⟩))
   go_meet
   case rel => exact ⟨_, (true), (by first | rfl | (simp; done) | (simp [*]; done)), H', ⟨by first | omega | exact Nat.le_refl _⟩, ⟨by (with_reducible repeat (first | refine blk_drewN ?_ _ | refine blk_drew ?_ | refine blk_alloc ?_ _)); exact BK110.out⟩, ⟨bel HB⟩⟩
  case rest =>
   clear HC4
   try clear c1
   try clear p2
   try clear c3
   try clear c5
   try clear c8
   try clear c9
   try clear c9b0
   try clear c9b1
   try clear c11
   try clear hz10
   try clear hz11
   try clear hz12
   try clear hz6
   obtain ⟨kq, x20_3, rfl, HA, HJ3, BK110, HB⟩ := hcut
   cases kq with
   | zero => exact absurd HA.out (by simp [spec_EventFault.j0])
   | succ kj3 =>
    have H := HA.out
    clear HA
    simp only [spec_EventFault.j0] at H
    by_cases c13 : x20_3 = true
    ·
     subst c13
     have H1 : (some 3) = some r := by rw [if_pos rfl] at H; first | done | exact H
     clear H
     have H := H1
     clear H1
     obtain rfl := Option.some.inj H
     go_wp2
     go_ret
     exact ⟨by first | rfl | (simp [errW_none, errW_some] <;> rfl) | (simp [*, errW_none, errW_some] <;> rfl), bel HB⟩
    replace c13 := Bool.eq_false_iff.mpr c13
    subst c13
    have H1 : (if ((decide ((l0_2.length : Int) > 0)) != (a0_0 == 2)) = true then (some 1) else (if (l0_2.length : Int) > 60 then (some 2) else (some 0))) = some r := by rw [if_neg (show ¬ (false = true) by decide)] at H; first | done | exact H
    clear H
    have H := H1
    clear H1
    by_cases c14 : ((decide ((l0_2.length : Int) > 0)) != (a0_0 == 2)) = true
    ·
     rw [if_pos c14] at H
     have c14b0 : ((decide ((l0_2.length : Int) > 0)) != (a0_0 == 2)) = true := c14
     (try (have c14b1 : (!((decide (0 < l0_2.length)) == (a0_0 == 2))) = true := by simpa using c14))
     (try (have c14b2 : ((decide (0 < l0_2.length)) == (a0_0 == 2)) = false := by simpa using c14))
     (try (have c14b3 : decide ((decide ((l0_2.length : Int) > 0)) = (a0_0 == 2)) = false := by simpa using c14))
     (try (have c14b4 : ((decide ((l0_2.length : Int) > 0)) == (a0_0 == 2)) = false := by simpa using c14))
     (try (have c14b5 : ¬ ((decide ((l0_2.length : Int) > 0)) = (a0_0 == 2)) := by simpa using c14))
     clear c14
     obtain rfl := Option.some.inj H
     have hz15 := cl3 BK110
     go_wp2
     go_ret
     exact ⟨by first | rfl | (simp [errW_none, errW_some] <;> rfl) | (simp [*, errW_none, errW_some] <;> rfl), bel HB⟩
    rw [if_neg c14] at H
    have c14b0 : ((decide ((l0_2.length : Int) > 0)) != (a0_0 == 2)) = false := by simpa using c14
    (try (have c14b1 : (!((decide (0 < l0_2.length)) == (a0_0 == 2))) = false := by simpa using c14))
    (try (have c14b2 : ((decide (0 < l0_2.length)) == (a0_0 == 2)) = true := by simpa using c14))
    (try (have c14b3 : decide ((decide ((l0_2.length : Int) > 0)) = (a0_0 == 2)) = true := by simpa using c14))
    (try (have c14b4 : ((decide ((l0_2.length : Int) > 0)) == (a0_0 == 2)) = true := by simpa using c14))
    clear c14
    by_cases c16 : (l0_2.length : Int) > 60
    ·
     rw [if_pos c16] at H
     have c16b0 : decide (60 < (l0_2.length : Int)) = true := decide_eq_true c16
     have c16b1 : decide (60 < l0_2.length) = true := decide_eq_true (by omega)
     clear c16
     obtain rfl := Option.some.inj H
     have hz17 := cl3 BK110
     go_wp2
     go_ret
     exact ⟨by first | rfl | (simp [errW_none, errW_some] <;> rfl) | (simp [*, errW_none, errW_some] <;> rfl), bel HB⟩
    rw [if_neg c16] at H
    have c16b0 : decide (60 < (l0_2.length : Int)) = false := decide_eq_false c16
    have c16b1 : decide (60 < l0_2.length) = false := decide_eq_false (by omega)
    clear c16
    obtain rfl := Option.some.inj H
    have hz18 := cl3 BK110
    go_wp2
    go_ret
    exact ⟨by first | rfl | (simp [errW_none, errW_some] <;> rfl) | (simp [*, errW_none, errW_some] <;> rfl), bel HB⟩
 replace c3 := Bool.eq_false_iff.mpr c3
 subst c3
 have H1 : (some 1) = some r := by rw [if_neg (show ¬ (false = true) by decide)] at H; first | done | exact H
 clear H
 have H := H1
 clear H1
 obtain rfl := Option.some.inj H
 go_enter Try.func55, Try.ntmps55
 go_wp2_with (first | ((with_reducible refine gate_dst (N := 1) rfl ?_); refine boxE #[.int .i64 a0_0, .int .i64 a0_1, .slice A0_2 l0_2.length c0_2] 38 (N := 1) rfl rfl ?_; intro gb110 hg w19 hbox hb; have BK110 := Aside0.mk hbox; have GW110 := gZ HB hg; have GE110 := gZ HB hg; replace HB := bS HB hb; clear hb hbox hg; have hz20 := cl3 BK110) | ((with_reducible refine gate_callee (f := 88) rfl ?_); refine goA (some 5) rfl rfl Try.func88 rfl #[.int .i64 a0_0, .int .i64 1, .int .i64 4] rfl ?_; (with_reducible refine (spec_l1In.calls a0_0 1 4 false _ A2.out).mono ?_); rintro e w' ⟨rfl, ⟨nd, rfl⟩⟩; refine ⟨_, rfl, ?_⟩))
 go_ret
 exact ⟨by first | rfl | (simp [errW_none, errW_some] <;> rfl) | (simp [*, errW_none, errW_some] <;> rfl), bel HB⟩

/-! ### spec_l10Epoch: function 124 -/
def spec_l10Epoch.f (a0 : Int) : Option (Bool) := (spec_l1In.f a0 1 1000).bind fun t113 => (some t113)
set_option maxHeartbeats 8000000 in
set_option maxRecDepth 100000 in
theorem spec_l10Epoch.calls (a0 : Int) (r : Bool) (w : World) (h : spec_l10Epoch.f a0 = some r) :
  Calls Try.prog 124 #[.int .i64 a0] w fun e w' => e = .returned (.bool r) ∧ Drawn0 w w' := by
 have H : ((spec_l1In.f a0 1 1000).bind fun t113 => (some t113)) = some r := h
 clear h
 replace H := Option.bind_eq_some_iff.mp H
 obtain ⟨t113, A20, H⟩ := H
 replace H : (some t113) = some r := H
 have A2 := Aside0.mk A20
 clear A20
 obtain rfl := Option.some.inj H
 go_enter Try.func124, Try.ntmps124
 go_wp2_with (first | ((with_reducible refine gate_callee (f := 88) rfl ?_); refine goA (some 4) rfl rfl Try.func88 rfl #[.int .i64 a0, .int .i64 1, .int .i64 1000] rfl ?_; (with_reducible refine (spec_l1In.calls a0 1 1000 t113 _ A2.out).mono ?_); rintro e w' ⟨rfl, ⟨nd, rfl⟩⟩; refine ⟨_, rfl, ?_⟩))
 go_ret
 exact ⟨by first | rfl | (simp; done) | (simp [*]; done), drw⟩

/-! ### spec_EntryFault: function 129 -/
def spec_EntryFault.f (k : Nat) (a0_0 : Int) (a0_1 : Int) (a0_2 : Int) (l0_3 : List Int) : Option (Int) := (spec_l10Epoch.f a0_0).bind fun t115 => (if t115 = true then ((spec_EventFault.f k a0_1 a0_2 l0_3).bind fun t116 => (some t116)) else (some 3))
theorem spec_EntryFault.mono : ∀ a0 a1 a2 a3 k, LeO (spec_EntryFault.f k a0 a1 a2 a3) (spec_EntryFault.f (k + 1) a0 a1 a2 a3) := by
 intro a0 a1 a2 a3 k
 unfold spec_EntryFault.f
 repeat' first
   | (with_reducible exact spec_EventFault.mono _ _ _ _)
   | (with_reducible exact LeO.refl _)
   | (with_reducible exact LeO.none _)
   | (with_reducible refine LeO.ite ?_ ?_)
   | (with_reducible refine LeO.bind ?_ (fun _ => ?_))
   | exact spec_EventFault.mono _ _ _ _
   | exact LeO.none _
   | refine LeO.ite ?_ ?_
   | refine LeO.bind ?_ (fun _ => ?_)
set_option maxHeartbeats 8000000 in
set_option maxRecDepth 100000 in
theorem spec_EntryFault.calls (k : Nat) (a0_0 : Int) (a0_1 : Int) (a0_2 : Int) (A0_3 : Option Addr) (c0_3 : Nat) (l0_3 : List Int) (r : Int) (w : World) (hr0_3 : Kd.C (Kd.int .u8) w A0_3 l0_3.length l0_3) (hc0_3 : l0_3.length ≤ c0_3) (h : spec_EntryFault.f k a0_0 a0_1 a0_2 l0_3 = some r) :
  Calls Try.prog 129 #[.agg #[.int .i64 a0_0, .int .i64 a0_1, .int .i64 a0_2, .slice A0_3 l0_3.length c0_3]] w fun e w' => e = .returned (.int .i64 r) ∧ Below w.heap.size w w' := by
 have hu55 := Try.underlying55
 have hu38 := Try.underlying38
 have HR0_3 := Aside0.mk hr0_3
 have HC0_3 := Aside0.mk hc0_3
 clear hr0_3 hc0_3
 have HB := am (Below.refl w.heap.size w)
 have H : ((spec_l10Epoch.f a0_0).bind fun t115 => (if t115 = true then ((spec_EventFault.f k a0_1 a0_2 l0_3).bind fun t116 => (some t116)) else (some 3))) = some r := h
 clear h
 replace H := Option.bind_eq_some_iff.mp H
 obtain ⟨t115, A20, H⟩ := H
 replace H : (if t115 = true then ((spec_EventFault.f k a0_1 a0_2 l0_3).bind fun t116 => (some t116)) else (some 3)) = some r := H
 have A2 := Aside0.mk A20
 clear A20
 by_cases c3 : t115 = true
 ·
  subst c3
  have H1 : ((spec_EventFault.f k a0_1 a0_2 l0_3).bind fun t116 => (some t116)) = some r := by rw [if_pos rfl] at H; first | done | exact H
  clear H
  have H := H1
  clear H1
  replace H := Option.bind_eq_some_iff.mp H
  obtain ⟨t116, A40, H⟩ := H
  replace H : (some t116) = some r := H
  have A4 := Aside0.mk A40
  clear A40
  obtain rfl := Option.some.inj H
  go_enter Try.func129, Try.ntmps129
  go_wp2_with (first | ((with_reducible refine gate_dst (N := 1) rfl ?_); refine boxE #[.int .i64 a0_0, .int .i64 a0_1, .int .i64 a0_2, .slice A0_3 l0_3.length c0_3] 55 (N := 1) rfl rfl ?_; intro gb114 hg w5 hbox hb; have BK114 := Aside0.mk hbox; have GW114 := gZ HB hg; have GE114 := gZ HB hg; replace HB := bS HB hb; clear hb hbox hg; have hz6 := cl4 BK114) | ((with_reducible refine gate_callee (f := 124) rfl ?_); refine goA (some 5) rfl rfl Try.func124 rfl #[.int .i64 a0_0] rfl ?_; (with_reducible refine (spec_l10Epoch.calls a0_0 true _ A2.out).mono ?_); rintro e w' ⟨rfl, ⟨nd, rfl⟩⟩; refine ⟨_, rfl, ?_⟩) | ((with_reducible refine gate_callee (f := 55) rfl ?_); refine goA (some 9) rfl rfl Try.func55 rfl #[.agg #[.int .i64 a0_1, .int .i64 a0_2, .slice A0_3 l0_3.length c0_3]] rfl ?_; (with_reducible refine (spec_EventFault.calls k a0_1 a0_2 _ _ l0_3 t116 _ ?side1 ?side2 A4.out).mono ?_); (case side1 => repeat (first | exact (Kd.C_below HR0_3.out (bel HB)) | (with_reducible refine Kd.C_alloc ?_ _) | (with_reducible refine Kd.C_drewN ?_ _) | (with_reducible refine Kd.C_drew ?_))); (case side2 => exact HC0_3.out); rintro e w7 ⟨rfl, hb⟩; refine ⟨_, rfl, ?_⟩; replace BK114 := bK BK114 hb; replace HB := bS HB hb; (try clear hb); (try clear hb2); (try clear hk); (try clear hi)))
  go_ret
  exact ⟨by first | rfl | (simp [errW_none, errW_some] <;> rfl) | (simp [*, errW_none, errW_some] <;> rfl), bel HB⟩
 replace c3 := Bool.eq_false_iff.mpr c3
 subst c3
 have H1 : (some 3) = some r := by rw [if_neg (show ¬ (false = true) by decide)] at H; first | done | exact H
 clear H
 have H := H1
 clear H1
 obtain rfl := Option.some.inj H
 go_enter Try.func129, Try.ntmps129
 go_wp2_with (first | ((with_reducible refine gate_dst (N := 1) rfl ?_); refine boxE #[.int .i64 a0_0, .int .i64 a0_1, .int .i64 a0_2, .slice A0_3 l0_3.length c0_3] 55 (N := 1) rfl rfl ?_; intro gb114 hg w8 hbox hb; have BK114 := Aside0.mk hbox; have GW114 := gZ HB hg; have GE114 := gZ HB hg; replace HB := bS HB hb; clear hb hbox hg; have hz9 := cl4 BK114) | ((with_reducible refine gate_callee (f := 124) rfl ?_); refine goA (some 5) rfl rfl Try.func124 rfl #[.int .i64 a0_0] rfl ?_; (with_reducible refine (spec_l10Epoch.calls a0_0 false _ A2.out).mono ?_); rintro e w' ⟨rfl, ⟨nd, rfl⟩⟩; refine ⟨_, rfl, ?_⟩))
 go_ret
 exact ⟨by first | rfl | (simp [errW_none, errW_some] <;> rfl) | (simp [*, errW_none, errW_some] <;> rfl), bel HB⟩

end Go.Proofs.Ytgfoifkkffffgab.PFnExactAddEvent
