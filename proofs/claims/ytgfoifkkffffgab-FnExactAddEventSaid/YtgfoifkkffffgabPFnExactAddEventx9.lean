-- Laid by a turned copy of the printer (wip/tools/patch_print.py)
import Derived.Test.YtgfoifkkffffgabPFnExactAddEventx0
namespace Go.Proofs.Ytgfoifkkffffgab.PFnExactAddEvent
open Go.RowKit Go.Proofs.YtgfoifkkffffgabW.PrintWords Go.Proofs.YtgfoifkkffffgabW.PrintLast Go.Proofs.YtgfoifkkffffgabW.PrintMore
attribute [local go_sem] max2_int min2_int max_two min_two max_three min_three max_four min_four   -- for this text's walks alone
set_option linter.unusedVariables false
set_option linter.unusedSimpArgs false

/-! ### laws_eqByteS: function 66 -/
def laws_eqByteS.l0 : Nat → List Int → List Int → Int → Option (Bool)
 | 0, _, _, _ => none
 | k + 1, x0, x1, x5 => if x5 < (x0.length : Int) then (if 0 ≤ x5 then (if x5 < (x1.length : Int) then (if (rd x0 x5) = (rd x1 x5) then (laws_eqByteS.l0 k x0 x1 (wrap64 (x5 + 1))) else (some false)) else (none)) else (none)) else (some true)
def laws_eqByteS.f (k : Nat) (l0 : List Int) (l1 : List Int) : Option (Bool) := if (l0.length : Int) = (l1.length : Int) then (laws_eqByteS.l0 k l0 l1 0) else (some false)
theorem laws_eqByteS.mono_l : ∀ k, (∀ y0 y1 y2, LeO (laws_eqByteS.l0 k y0 y1 y2) (laws_eqByteS.l0 (k + 1) y0 y1 y2))
 | 0 => fun _ _ _ r h => by simp [laws_eqByteS.l0] at h
 | k + 1 => by
  have ih0 := laws_eqByteS.mono_l k
  intro y0 y1 y2
  unfold laws_eqByteS.l0
  repeat' first
  | (with_reducible exact ih0 _ _ _)
  | (with_reducible exact LeO.refl _)
  | (with_reducible exact LeO.none _)
  | (with_reducible refine LeO.ite ?_ ?_)
  | (with_reducible refine LeO.bind ?_ (fun _ => ?_))
  | exact ih0 _ _ _
  | exact LeO.none _
  | refine LeO.ite ?_ ?_
  | refine LeO.bind ?_ (fun _ => ?_)
theorem laws_eqByteS.mono : ∀ a0 a1 k, LeO (laws_eqByteS.f k a0 a1) (laws_eqByteS.f (k + 1) a0 a1) := by
 intro a0 a1 k
 have ih0 := laws_eqByteS.mono_l k
 unfold laws_eqByteS.f
 repeat' first
   | (with_reducible exact ih0 _ _ _)
   | (with_reducible exact LeO.refl _)
   | (with_reducible exact LeO.none _)
   | (with_reducible refine LeO.ite ?_ ?_)
   | (with_reducible refine LeO.bind ?_ (fun _ => ?_))
   | exact ih0 _ _ _
   | exact LeO.none _
   | refine LeO.ite ?_ ?_
   | refine LeO.bind ?_ (fun _ => ?_)
set_option maxHeartbeats 8000000 in
set_option maxRecDepth 100000 in
theorem laws_eqByteS.calls (k : Nat) (A0 : Option Addr) (c0 : Nat) (l0 : List Int) (A1 : Option Addr) (c1 : Nat) (l1 : List Int) (r : Bool) (w : World) (hr0 : Kd.C (Kd.int .u8) w A0 l0.length l0) (hc0 : l0.length ≤ c0) (hr1 : Kd.C (Kd.int .u8) w A1 l1.length l1) (hc1 : l1.length ≤ c1) (h : laws_eqByteS.f k l0 l1 = some r) :
  Calls Try.prog 66 #[.slice A0 l0.length c0, .slice A1 l1.length c1] w fun e w' => e = .returned (.bool r) ∧ Drawn0 w w' := by
 have HR0 := Aside0.mk hr0
 have HC0 := Aside0.mk hc0
 clear hr0 hc0
 have HR1 := Aside0.mk hr1
 have HC1 := Aside0.mk hc1
 clear hr1 hc1
 have H : (if (l0.length : Int) = (l1.length : Int) then (laws_eqByteS.l0 k l0 l1 0) else (some false)) = some r := h
 clear h
 by_cases c3 : (l0.length : Int) = (l1.length : Int)
 ·
  rw [if_pos c3] at H
  have c3b0 : ((l0.length : Int) == (l1.length : Int)) = true := beq_iff_eq.mpr c3
  have c3b1 : ((l0.length : Int) != (l1.length : Int)) = false := bne_eq_false_iff_eq.mpr c3
  have c3b2 : (l0.length == l1.length) = true := by first | simpa using c3 | (simp at c3 ⊢; omega)
  clear c3
  have H' := Aside0.mk H
  clear H
  go_enter Try.func66, Try.ntmps66
  go_wp2
  repeat (go_quiet (fail); try go_wp2)
  go_loopg [5] k (fun kq v5 w' => ∃ (x5_1 : Int), v5 = .int .i64 x5_1 ∧ Aside0 (laws_eqByteS.l0 kq l0 l1 x5_1 = some r) ∧ Aside0 (kq ≤ k) ∧ Drawn0 w w')
  case atStart => exact ⟨(0), (by first | rfl | (simp; done) | (simp [*]; done)), H', ⟨Nat.le_refl _⟩, drw⟩
  case round =>
   clear H'
   try clear c1
   try clear p2
   try clear c3
   try clear c3b0
   try clear c3b1
   try clear c3b2
   obtain ⟨x5_1, rfl, HA, HK1, ⟨m1, rfl⟩⟩ := hrel
   cases gk with
   | zero => exact absurd HA.out (by simp [laws_eqByteS.l0])
   | succ k1 =>
    have H := HA.out
    clear HA
    simp only [laws_eqByteS.l0] at H
    by_cases c4 : x5_1 < (l0.length : Int)
    ·
     rw [if_pos c4] at H
     have c4b0 : decide (x5_1 < (l0.length : Int)) = true := decide_eq_true c4
     clear c4
     by_cases c5 : 0 ≤ x5_1
     ·
      rw [if_pos c5] at H
      have c5b0 : decide (0 ≤ x5_1) = true := decide_eq_true c5
      clear c5
      by_cases c6 : x5_1 < (l1.length : Int)
      ·
       rw [if_pos c6] at H
       have c6b0 : decide (x5_1 < (l1.length : Int)) = true := decide_eq_true c6
       clear c6
       by_cases c7 : (rd l0 x5_1) = (rd l1 x5_1)
       ·
        rw [if_pos c7] at H
        have c7b0 : ((rd l0 x5_1) == (rd l1 x5_1)) = true := beq_iff_eq.mpr c7
        have c7b1 : ((rd l0 x5_1) != (rd l1 x5_1)) = false := bne_eq_false_iff_eq.mpr c7
        clear c7
        have H' := Aside0.mk H
        clear H
        have p361 : 0 ≤ (x5_1 : Int) := of_decide_eq_true (by first | (with_reducible assumption) | assumption)
        have q361 : x5_1 < (l0.length : Int) := of_decide_eq_true (by first | (with_reducible assumption) | assumption)
        obtain ⟨ad361, e361, hx361_0⟩ := Kd.at_int HR0.out x5_1 p361 q361
        cases e361
        replace p361 := eq_true p361
        replace q361 := eq_true q361
        have p362 : 0 ≤ (x5_1 : Int) := of_decide_eq_true (by first | (with_reducible assumption) | assumption)
        have q362 : x5_1 < (l1.length : Int) := of_decide_eq_true (by first | (with_reducible assumption) | assumption)
        obtain ⟨ad362, e362, hx362_0⟩ := Kd.at_int HR1.out x5_1 p362 q362
        cases e362
        replace p362 := eq_true p362
        replace q362 := eq_true q362
        go_wp2
        repeat (go_quiet (fail); try go_wp2)
        go_roundg k1
        case measure => have := HK1.out; omega
        case rel => exact ⟨(wrap64 (x5_1 + 1)), (by first | rfl | (simp; done) | (simp [*]; done)), H', ⟨by have := HK1.out; omega⟩, drw⟩
       rw [if_neg c7] at H
       have c7b0 : ((rd l0 x5_1) == (rd l1 x5_1)) = false := beq_eq_false_iff_ne.mpr c7
       have c7b1 : ((rd l0 x5_1) != (rd l1 x5_1)) = true := bne_iff_ne.mpr c7
       obtain rfl := Option.some.inj H
       have p361 : 0 ≤ (x5_1 : Int) := of_decide_eq_true (by first | (with_reducible assumption) | assumption)
       have q361 : x5_1 < (l0.length : Int) := of_decide_eq_true (by first | (with_reducible assumption) | assumption)
       obtain ⟨ad361, e361, hx361_0⟩ := Kd.at_int HR0.out x5_1 p361 q361
       cases e361
       replace p361 := eq_true p361
       replace q361 := eq_true q361
       have p362 : 0 ≤ (x5_1 : Int) := of_decide_eq_true (by first | (with_reducible assumption) | assumption)
       have q362 : x5_1 < (l1.length : Int) := of_decide_eq_true (by first | (with_reducible assumption) | assumption)
       obtain ⟨ad362, e362, hx362_0⟩ := Kd.at_int HR1.out x5_1 p362 q362
       cases e362
       replace p362 := eq_true p362
       replace q362 := eq_true q362
       go_wp2
       repeat (go_quiet (fail); try go_wp2)
       go_ret
       exact ⟨by first | rfl | (simp; done) | (simp [*]; done), drw⟩
      rw [if_neg c6] at H
      exact absurd H (by simp)
     rw [if_neg c5] at H
     exact absurd H (by simp)
    rw [if_neg c4] at H
    have c4b0 : decide (x5_1 < (l0.length : Int)) = false := decide_eq_false c4
    clear c4
    obtain rfl := Option.some.inj H
    go_wp2
    repeat (go_quiet (fail); try go_wp2)
    go_ret
    exact ⟨by first | rfl | (simp; done) | (simp [*]; done), drw⟩
 rw [if_neg c3] at H
 have c3b0 : ((l0.length : Int) == (l1.length : Int)) = false := beq_eq_false_iff_ne.mpr c3
 have c3b1 : ((l0.length : Int) != (l1.length : Int)) = true := bne_iff_ne.mpr c3
 have c3b2 : (l0.length == l1.length) = false := by first | simpa using c3 | (simp at c3 ⊢; omega)
 obtain rfl := Option.some.inj H
 go_enter Try.func66, Try.ntmps66
 go_wp2
 repeat (go_quiet (fail); try go_wp2)
 go_ret
 exact ⟨by first | rfl | (simp; done) | (simp [*]; done), drw⟩

/-! ### laws_eqEvent: function 17 -/
def laws_eqEvent.f (k : Nat) (a0_0 : Int) (a0_1 : Int) (l0_2 : List Int) (a1_0 : Int) (a1_1 : Int) (l1_2 : List Int) : Option (Bool) := if a0_0 = a1_0 then (if a0_1 = a1_1 then ((laws_eqByteS.f k l0_2 l1_2).bind fun t365 => (if t365 = true then (some true) else (some false))) else (some false)) else (some false)
theorem laws_eqEvent.mono : ∀ a0 a1 a2 a3 a4 a5 k, LeO (laws_eqEvent.f k a0 a1 a2 a3 a4 a5) (laws_eqEvent.f (k + 1) a0 a1 a2 a3 a4 a5) := by
 intro a0 a1 a2 a3 a4 a5 k
 unfold laws_eqEvent.f
 repeat' first
   | (with_reducible exact laws_eqByteS.mono _ _ _)
   | (with_reducible exact LeO.refl _)
   | (with_reducible exact LeO.none _)
   | (with_reducible refine LeO.ite ?_ ?_)
   | (with_reducible refine LeO.bind ?_ (fun _ => ?_))
   | exact laws_eqByteS.mono _ _ _
   | exact LeO.none _
   | refine LeO.ite ?_ ?_
   | refine LeO.bind ?_ (fun _ => ?_)
set_option maxHeartbeats 8000000 in
set_option maxRecDepth 100000 in
theorem laws_eqEvent.calls (k : Nat) (a0_0 : Int) (a0_1 : Int) (A0_2 : Option Addr) (c0_2 : Nat) (l0_2 : List Int) (a1_0 : Int) (a1_1 : Int) (A1_2 : Option Addr) (c1_2 : Nat) (l1_2 : List Int) (r : Bool) (w : World) (hr0_2 : Kd.C (Kd.int .u8) w A0_2 l0_2.length l0_2) (hc0_2 : l0_2.length ≤ c0_2) (hr1_2 : Kd.C (Kd.int .u8) w A1_2 l1_2.length l1_2) (hc1_2 : l1_2.length ≤ c1_2) (h : laws_eqEvent.f k a0_0 a0_1 l0_2 a1_0 a1_1 l1_2 = some r) :
  Calls Try.prog 17 #[.agg #[.int .i64 a0_0, .int .i64 a0_1, .slice A0_2 l0_2.length c0_2], .agg #[.int .i64 a1_0, .int .i64 a1_1, .slice A1_2 l1_2.length c1_2]] w fun e w' => e = .returned (.bool r) ∧ Below w.heap.size w w' := by
 have hu38 := Try.underlying38
 have HR0_2 := Aside0.mk hr0_2
 have HC0_2 := Aside0.mk hc0_2
 clear hr0_2 hc0_2
 have HR1_2 := Aside0.mk hr1_2
 have HC1_2 := Aside0.mk hc1_2
 clear hr1_2 hc1_2
 have HB := am (Below.refl w.heap.size w)
 have H : (if a0_0 = a1_0 then (if a0_1 = a1_1 then ((laws_eqByteS.f k l0_2 l1_2).bind fun t365 => (if t365 = true then (some true) else (some false))) else (some false)) else (some false)) = some r := h
 clear h
 by_cases c3 : a0_0 = a1_0
 ·
  rw [if_pos c3] at H
  have c3b0 : (a0_0 == a1_0) = true := beq_iff_eq.mpr c3
  have c3b1 : (a0_0 != a1_0) = false := bne_eq_false_iff_eq.mpr c3
  clear c3
  by_cases c4 : a0_1 = a1_1
  ·
   rw [if_pos c4] at H
   have c4b0 : (a0_1 == a1_1) = true := beq_iff_eq.mpr c4
   have c4b1 : (a0_1 != a1_1) = false := bne_eq_false_iff_eq.mpr c4
   clear c4
   replace H := Option.bind_eq_some_iff.mp H
   obtain ⟨t365, A50, H⟩ := H
   replace H : (if t365 = true then (some true) else (some false)) = some r := H
   have A5 := Aside0.mk A50
   clear A50
   by_cases c6 : t365 = true
   ·
    subst c6
    have H1 : (some true) = some r := by rw [if_pos rfl] at H; first | done | exact H
    clear H
    have H := H1
    clear H1
    obtain rfl := Option.some.inj H
    go_enter Try.func17, Try.ntmps17
    go_wp2_with (first | ((with_reducible refine gate_dst (N := 2) rfl ?_); refine boxE #[.int .i64 a0_0, .int .i64 a0_1, .slice A0_2 l0_2.length c0_2] 38 (N := 2) rfl rfl ?_; intro gb363 hg w7 hbox hb; have BK363 := Aside0.mk hbox; have GW363 := gZ HB hg; have GE363 := gZ HB hg; replace HB := bS HB hb; clear hb hbox hg) | ((with_reducible refine gate_dst (N := 3) rfl ?_); refine boxE #[.int .i64 a1_0, .int .i64 a1_1, .slice A1_2 l1_2.length c1_2] 38 (N := 3) rfl rfl ?_; intro gb364 hg w8 hbox hb; have BK364 := Aside0.mk hbox; have GW364 := gZ HB hg; have GE364 := gZ HB hg; replace HB := bS HB hb; have NB363_364 := nL BK363 hg; have NB364_363 := nG BK363 hg; replace BK363 := bK BK363 hb; clear hb hbox hg; have hnb9 := NB363_364.out; have hnc9 := NB364_363.out; have hz10 := cl3 BK363; have hz11 := cl3 BK364) | ((with_reducible refine gate_callee (f := 66) rfl ?_); refine goA (some 19) rfl rfl Try.func66 rfl #[.slice A0_2 l0_2.length c0_2, .slice A1_2 l1_2.length c1_2] rfl ?_; (with_reducible refine (laws_eqByteS.calls k _ _ l0_2 _ _ l1_2 true _ ?side1 ?side2 ?side3 ?side4 A5.out).mono ?_); (case side1 => exact mC HR0_2 HB); (case side2 => exact HC0_2.out); (case side3 => exact mC HR1_2 HB); (case side4 => exact HC1_2.out); rintro e w' ⟨rfl, ⟨nd, rfl⟩⟩; refine ⟨_, rfl, ?_⟩))
    go_ret
    exact ⟨by first | rfl | (simp [errW_none, errW_some] <;> rfl) | (simp [*, errW_none, errW_some] <;> rfl), bel HB⟩
   replace c6 := Bool.eq_false_iff.mpr c6
   subst c6
   have H1 : (some false) = some r := by rw [if_neg (show ¬ (false = true) by decide)] at H; first | done | exact H
   clear H
   have H := H1
   clear H1
   obtain rfl := Option.some.inj H
   go_enter Try.func17, Try.ntmps17
   go_wp2_with (first | ((with_reducible refine gate_dst (N := 2) rfl ?_); refine boxE #[.int .i64 a0_0, .int .i64 a0_1, .slice A0_2 l0_2.length c0_2] 38 (N := 2) rfl rfl ?_; intro gb363 hg w12 hbox hb; have BK363 := Aside0.mk hbox; have GW363 := gZ HB hg; have GE363 := gZ HB hg; replace HB := bS HB hb; clear hb hbox hg) | ((with_reducible refine gate_dst (N := 3) rfl ?_); refine boxE #[.int .i64 a1_0, .int .i64 a1_1, .slice A1_2 l1_2.length c1_2] 38 (N := 3) rfl rfl ?_; intro gb364 hg w13 hbox hb; have BK364 := Aside0.mk hbox; have GW364 := gZ HB hg; have GE364 := gZ HB hg; replace HB := bS HB hb; have NB363_364 := nL BK363 hg; have NB364_363 := nG BK363 hg; replace BK363 := bK BK363 hb; clear hb hbox hg; have hnb14 := NB363_364.out; have hnc14 := NB364_363.out; have hz15 := cl3 BK363; have hz16 := cl3 BK364) | ((with_reducible refine gate_callee (f := 66) rfl ?_); refine goA (some 19) rfl rfl Try.func66 rfl #[.slice A0_2 l0_2.length c0_2, .slice A1_2 l1_2.length c1_2] rfl ?_; (with_reducible refine (laws_eqByteS.calls k _ _ l0_2 _ _ l1_2 false _ ?side1 ?side2 ?side3 ?side4 A5.out).mono ?_); (case side1 => exact mC HR0_2 HB); (case side2 => exact HC0_2.out); (case side3 => exact mC HR1_2 HB); (case side4 => exact HC1_2.out); rintro e w' ⟨rfl, ⟨nd, rfl⟩⟩; refine ⟨_, rfl, ?_⟩))
   go_ret
   exact ⟨by first | rfl | (simp [errW_none, errW_some] <;> rfl) | (simp [*, errW_none, errW_some] <;> rfl), bel HB⟩
  rw [if_neg c4] at H
  have c4b0 : (a0_1 == a1_1) = false := beq_eq_false_iff_ne.mpr c4
  have c4b1 : (a0_1 != a1_1) = true := bne_iff_ne.mpr c4
  obtain rfl := Option.some.inj H
  go_enter Try.func17, Try.ntmps17
  go_wp2_with (first | ((with_reducible refine gate_dst (N := 2) rfl ?_); refine boxE #[.int .i64 a0_0, .int .i64 a0_1, .slice A0_2 l0_2.length c0_2] 38 (N := 2) rfl rfl ?_; intro gb363 hg w17 hbox hb; have BK363 := Aside0.mk hbox; have GW363 := gZ HB hg; have GE363 := gZ HB hg; replace HB := bS HB hb; clear hb hbox hg) | ((with_reducible refine gate_dst (N := 3) rfl ?_); refine boxE #[.int .i64 a1_0, .int .i64 a1_1, .slice A1_2 l1_2.length c1_2] 38 (N := 3) rfl rfl ?_; intro gb364 hg w18 hbox hb; have BK364 := Aside0.mk hbox; have GW364 := gZ HB hg; have GE364 := gZ HB hg; replace HB := bS HB hb; have NB363_364 := nL BK363 hg; have NB364_363 := nG BK363 hg; replace BK363 := bK BK363 hb; clear hb hbox hg; have hnb19 := NB363_364.out; have hnc19 := NB364_363.out; have hz20 := cl3 BK363; have hz21 := cl3 BK364))
  go_ret
  exact ⟨by first | rfl | (simp [errW_none, errW_some] <;> rfl) | (simp [*, errW_none, errW_some] <;> rfl), bel HB⟩
 rw [if_neg c3] at H
 have c3b0 : (a0_0 == a1_0) = false := beq_eq_false_iff_ne.mpr c3
 have c3b1 : (a0_0 != a1_0) = true := bne_iff_ne.mpr c3
 obtain rfl := Option.some.inj H
 go_enter Try.func17, Try.ntmps17
 go_wp2_with (first | ((with_reducible refine gate_dst (N := 2) rfl ?_); refine boxE #[.int .i64 a0_0, .int .i64 a0_1, .slice A0_2 l0_2.length c0_2] 38 (N := 2) rfl rfl ?_; intro gb363 hg w22 hbox hb; have BK363 := Aside0.mk hbox; have GW363 := gZ HB hg; have GE363 := gZ HB hg; replace HB := bS HB hb; clear hb hbox hg) | ((with_reducible refine gate_dst (N := 3) rfl ?_); refine boxE #[.int .i64 a1_0, .int .i64 a1_1, .slice A1_2 l1_2.length c1_2] 38 (N := 3) rfl rfl ?_; intro gb364 hg w23 hbox hb; have BK364 := Aside0.mk hbox; have GW364 := gZ HB hg; have GE364 := gZ HB hg; replace HB := bS HB hb; have NB363_364 := nL BK363 hg; have NB364_363 := nG BK363 hg; replace BK363 := bK BK363 hb; clear hb hbox hg; have hnb24 := NB363_364.out; have hnc24 := NB364_363.out; have hz25 := cl3 BK363; have hz26 := cl3 BK364))
 go_ret
 exact ⟨by first | rfl | (simp [errW_none, errW_some] <;> rfl) | (simp [*, errW_none, errW_some] <;> rfl), bel HB⟩

/-! ### laws_eqEntry: function 115 -/
def laws_eqEntry.f (k : Nat) (a0_0 : Int) (a0_1 : Int) (a0_2 : Int) (l0_3 : List Int) (a1_0 : Int) (a1_1 : Int) (a1_2 : Int) (l1_3 : List Int) : Option (Bool) := if a0_0 = a1_0 then ((laws_eqEvent.f k a0_1 a0_2 l0_3 a1_1 a1_2 l1_3).bind fun t368 => (if t368 = true then (some true) else (some false))) else (some false)
theorem laws_eqEntry.mono : ∀ a0 a1 a2 a3 a4 a5 a6 a7 k, LeO (laws_eqEntry.f k a0 a1 a2 a3 a4 a5 a6 a7) (laws_eqEntry.f (k + 1) a0 a1 a2 a3 a4 a5 a6 a7) := by
 intro a0 a1 a2 a3 a4 a5 a6 a7 k
 unfold laws_eqEntry.f
 repeat' first
   | (with_reducible exact laws_eqEvent.mono _ _ _ _ _ _ _)
   | (with_reducible exact LeO.refl _)
   | (with_reducible exact LeO.none _)
   | (with_reducible refine LeO.ite ?_ ?_)
   | (with_reducible refine LeO.bind ?_ (fun _ => ?_))
   | exact laws_eqEvent.mono _ _ _ _ _ _ _
   | exact LeO.none _
   | refine LeO.ite ?_ ?_
   | refine LeO.bind ?_ (fun _ => ?_)
set_option maxHeartbeats 8000000 in
set_option maxRecDepth 100000 in
theorem laws_eqEntry.calls (k : Nat) (a0_0 : Int) (a0_1 : Int) (a0_2 : Int) (A0_3 : Option Addr) (c0_3 : Nat) (l0_3 : List Int) (a1_0 : Int) (a1_1 : Int) (a1_2 : Int) (A1_3 : Option Addr) (c1_3 : Nat) (l1_3 : List Int) (r : Bool) (w : World) (hr0_3 : Kd.C (Kd.int .u8) w A0_3 l0_3.length l0_3) (hc0_3 : l0_3.length ≤ c0_3) (hr1_3 : Kd.C (Kd.int .u8) w A1_3 l1_3.length l1_3) (hc1_3 : l1_3.length ≤ c1_3) (h : laws_eqEntry.f k a0_0 a0_1 a0_2 l0_3 a1_0 a1_1 a1_2 l1_3 = some r) :
  Calls Try.prog 115 #[.agg #[.int .i64 a0_0, .int .i64 a0_1, .int .i64 a0_2, .slice A0_3 l0_3.length c0_3], .agg #[.int .i64 a1_0, .int .i64 a1_1, .int .i64 a1_2, .slice A1_3 l1_3.length c1_3]] w fun e w' => e = .returned (.bool r) ∧ Below w.heap.size w w' := by
 have hu55 := Try.underlying55
 have hu38 := Try.underlying38
 have HR0_3 := Aside0.mk hr0_3
 have HC0_3 := Aside0.mk hc0_3
 clear hr0_3 hc0_3
 have HR1_3 := Aside0.mk hr1_3
 have HC1_3 := Aside0.mk hc1_3
 clear hr1_3 hc1_3
 have HB := am (Below.refl w.heap.size w)
 have H : (if a0_0 = a1_0 then ((laws_eqEvent.f k a0_1 a0_2 l0_3 a1_1 a1_2 l1_3).bind fun t368 => (if t368 = true then (some true) else (some false))) else (some false)) = some r := h
 clear h
 by_cases c3 : a0_0 = a1_0
 ·
  rw [if_pos c3] at H
  have c3b0 : (a0_0 == a1_0) = true := beq_iff_eq.mpr c3
  have c3b1 : (a0_0 != a1_0) = false := bne_eq_false_iff_eq.mpr c3
  clear c3
  replace H := Option.bind_eq_some_iff.mp H
  obtain ⟨t368, A40, H⟩ := H
  replace H : (if t368 = true then (some true) else (some false)) = some r := H
  have A4 := Aside0.mk A40
  clear A40
  by_cases c5 : t368 = true
  ·
   subst c5
   have H1 : (some true) = some r := by rw [if_pos rfl] at H; first | done | exact H
   clear H
   have H := H1
   clear H1
   obtain rfl := Option.some.inj H
   go_enter Try.func115, Try.ntmps115
   go_wp2_with (first | ((with_reducible refine gate_dst (N := 2) rfl ?_); refine boxE #[.int .i64 a0_0, .int .i64 a0_1, .int .i64 a0_2, .slice A0_3 l0_3.length c0_3] 55 (N := 2) rfl rfl ?_; intro gb366 hg w6 hbox hb; have BK366 := Aside0.mk hbox; have GW366 := gZ HB hg; have GE366 := gZ HB hg; replace HB := bS HB hb; clear hb hbox hg) | ((with_reducible refine gate_dst (N := 3) rfl ?_); refine boxE #[.int .i64 a1_0, .int .i64 a1_1, .int .i64 a1_2, .slice A1_3 l1_3.length c1_3] 55 (N := 3) rfl rfl ?_; intro gb367 hg w7 hbox hb; have BK367 := Aside0.mk hbox; have GW367 := gZ HB hg; have GE367 := gZ HB hg; replace HB := bS HB hb; have NB366_367 := nL BK366 hg; have NB367_366 := nG BK366 hg; replace BK366 := bK BK366 hb; clear hb hbox hg; have hnb8 := NB366_367.out; have hnc8 := NB367_366.out; have hz9 := cl4 BK366; have hz10 := cl4 BK367) | ((with_reducible refine gate_callee (f := 17) rfl ?_); refine goA (some 14) rfl rfl Try.func17 rfl #[.agg #[.int .i64 a0_1, .int .i64 a0_2, .slice A0_3 l0_3.length c0_3], .agg #[.int .i64 a1_1, .int .i64 a1_2, .slice A1_3 l1_3.length c1_3]] rfl ?_; (with_reducible refine (laws_eqEvent.calls k a0_1 a0_2 _ _ l0_3 a1_1 a1_2 _ _ l1_3 true _ ?side1 ?side2 ?side3 ?side4 A4.out).mono ?_); (case side1 => exact mC HR0_3 HB); (case side2 => exact HC0_3.out); (case side3 => exact mC HR1_3 HB); (case side4 => exact HC1_3.out); rintro e w11 ⟨rfl, hb⟩; refine ⟨_, rfl, ?_⟩; replace BK366 := bK BK366 hb; replace BK367 := bK BK367 hb; replace HB := bS HB hb; (try clear hb); (try clear hb2); (try clear hk); (try clear hi)))
   go_ret
   exact ⟨by first | rfl | (simp [errW_none, errW_some] <;> rfl) | (simp [*, errW_none, errW_some] <;> rfl), bel HB⟩
  replace c5 := Bool.eq_false_iff.mpr c5
  subst c5
  have H1 : (some false) = some r := by rw [if_neg (show ¬ (false = true) by decide)] at H; first | done | exact H
  clear H
  have H := H1
  clear H1
  obtain rfl := Option.some.inj H
  go_enter Try.func115, Try.ntmps115
  go_wp2_with (first | ((with_reducible refine gate_dst (N := 2) rfl ?_); refine boxE #[.int .i64 a0_0, .int .i64 a0_1, .int .i64 a0_2, .slice A0_3 l0_3.length c0_3] 55 (N := 2) rfl rfl ?_; intro gb366 hg w12 hbox hb; have BK366 := Aside0.mk hbox; have GW366 := gZ HB hg; have GE366 := gZ HB hg; replace HB := bS HB hb; clear hb hbox hg) | ((with_reducible refine gate_dst (N := 3) rfl ?_); refine boxE #[.int .i64 a1_0, .int .i64 a1_1, .int .i64 a1_2, .slice A1_3 l1_3.length c1_3] 55 (N := 3) rfl rfl ?_; intro gb367 hg w13 hbox hb; have BK367 := Aside0.mk hbox; have GW367 := gZ HB hg; have GE367 := gZ HB hg; replace HB := bS HB hb; have NB366_367 := nL BK366 hg; have NB367_366 := nG BK366 hg; replace BK366 := bK BK366 hb; clear hb hbox hg; have hnb14 := NB366_367.out; have hnc14 := NB367_366.out; have hz15 := cl4 BK366; have hz16 := cl4 BK367) | ((with_reducible refine gate_callee (f := 17) rfl ?_); refine goA (some 14) rfl rfl Try.func17 rfl #[.agg #[.int .i64 a0_1, .int .i64 a0_2, .slice A0_3 l0_3.length c0_3], .agg #[.int .i64 a1_1, .int .i64 a1_2, .slice A1_3 l1_3.length c1_3]] rfl ?_; (with_reducible refine (laws_eqEvent.calls k a0_1 a0_2 _ _ l0_3 a1_1 a1_2 _ _ l1_3 false _ ?side1 ?side2 ?side3 ?side4 A4.out).mono ?_); (case side1 => exact mC HR0_3 HB); (case side2 => exact HC0_3.out); (case side3 => exact mC HR1_3 HB); (case side4 => exact HC1_3.out); rintro e w17 ⟨rfl, hb⟩; refine ⟨_, rfl, ?_⟩; replace BK366 := bK BK366 hb; replace BK367 := bK BK367 hb; replace HB := bS HB hb; (try clear hb); (try clear hb2); (try clear hk); (try clear hi)))
  go_ret
  exact ⟨by first | rfl | (simp [errW_none, errW_some] <;> rfl) | (simp [*, errW_none, errW_some] <;> rfl), bel HB⟩
 rw [if_neg c3] at H
 have c3b0 : (a0_0 == a1_0) = false := beq_eq_false_iff_ne.mpr c3
 have c3b1 : (a0_0 != a1_0) = true := bne_iff_ne.mpr c3
 obtain rfl := Option.some.inj H
 go_enter Try.func115, Try.ntmps115
 go_wp2_with (first | ((with_reducible refine gate_dst (N := 2) rfl ?_); refine boxE #[.int .i64 a0_0, .int .i64 a0_1, .int .i64 a0_2, .slice A0_3 l0_3.length c0_3] 55 (N := 2) rfl rfl ?_; intro gb366 hg w18 hbox hb; have BK366 := Aside0.mk hbox; have GW366 := gZ HB hg; have GE366 := gZ HB hg; replace HB := bS HB hb; clear hb hbox hg) | ((with_reducible refine gate_dst (N := 3) rfl ?_); refine boxE #[.int .i64 a1_0, .int .i64 a1_1, .int .i64 a1_2, .slice A1_3 l1_3.length c1_3] 55 (N := 3) rfl rfl ?_; intro gb367 hg w19 hbox hb; have BK367 := Aside0.mk hbox; have GW367 := gZ HB hg; have GE367 := gZ HB hg; replace HB := bS HB hb; have NB366_367 := nL BK366 hg; have NB367_366 := nG BK366 hg; replace BK366 := bK BK366 hb; clear hb hbox hg; have hnb20 := NB366_367.out; have hnc20 := NB367_366.out; have hz21 := cl4 BK366; have hz22 := cl4 BK367))
 go_ret
 exact ⟨by first | rfl | (simp [errW_none, errW_some] <;> rfl) | (simp [*, errW_none, errW_some] <;> rfl), bel HB⟩

/-! ### laws_eqEntryS: function 65 -/
def laws_eqEntryS.l0 : Nat → List (S55) → List (S55) → Int → Option (Bool)
 | 0, _, _, _ => none
 | k + 1, x0, x1, x5 => if x5 < (x0.length : Int) then (if 0 ≤ x5 then (if x5 < (x1.length : Int) then ((laws_eqEntry.f k ((rd_T55 x0 x5).f0) ((rd_T55 x0 x5).f1.f0) ((rd_T55 x0 x5).f1.f1) ((rd_T55 x0 x5).f1.f2) ((rd_T55 x1 x5).f0) ((rd_T55 x1 x5).f1.f0) ((rd_T55 x1 x5).f1.f1) ((rd_T55 x1 x5).f1.f2)).bind fun t371 => (if t371 = true then (laws_eqEntryS.l0 k x0 x1 (wrap64 (x5 + 1))) else (some false))) else (none)) else (none)) else (some true)
def laws_eqEntryS.f (k : Nat) (l0 : List (S55)) (l1 : List (S55)) : Option (Bool) := if (l0.length : Int) = (l1.length : Int) then (laws_eqEntryS.l0 k l0 l1 0) else (some false)
theorem laws_eqEntryS.mono_l : ∀ k, (∀ y0 y1 y2, LeO (laws_eqEntryS.l0 k y0 y1 y2) (laws_eqEntryS.l0 (k + 1) y0 y1 y2))
 | 0 => fun _ _ _ r h => by simp [laws_eqEntryS.l0] at h
 | k + 1 => by
  have ih0 := laws_eqEntryS.mono_l k
  intro y0 y1 y2
  unfold laws_eqEntryS.l0
  repeat' first
  | (with_reducible exact ih0 _ _ _)
  | (with_reducible exact laws_eqEntry.mono _ _ _ _ _ _ _ _ _)
  | (with_reducible exact LeO.refl _)
  | (with_reducible exact LeO.none _)
  | (with_reducible refine LeO.ite ?_ ?_)
  | (with_reducible refine LeO.bind ?_ (fun _ => ?_))
  | exact ih0 _ _ _
  | exact laws_eqEntry.mono _ _ _ _ _ _ _ _ _
  | exact LeO.none _
  | refine LeO.ite ?_ ?_
  | refine LeO.bind ?_ (fun _ => ?_)
theorem laws_eqEntryS.mono : ∀ a0 a1 k, LeO (laws_eqEntryS.f k a0 a1) (laws_eqEntryS.f (k + 1) a0 a1) := by
 intro a0 a1 k
 have ih0 := laws_eqEntryS.mono_l k
 unfold laws_eqEntryS.f
 repeat' first
   | (with_reducible exact ih0 _ _ _)
   | (with_reducible exact laws_eqEntry.mono _ _ _ _ _ _ _ _ _)
   | (with_reducible exact LeO.refl _)
   | (with_reducible exact LeO.none _)
   | (with_reducible refine LeO.ite ?_ ?_)
   | (with_reducible refine LeO.bind ?_ (fun _ => ?_))
   | exact ih0 _ _ _
   | exact laws_eqEntry.mono _ _ _ _ _ _ _ _ _
   | exact LeO.none _
   | refine LeO.ite ?_ ?_
   | refine LeO.bind ?_ (fun _ => ?_)
def laws_eqEntryS.T6 : Bool × List (List Nat × List Nat) := (true, [([], []), ([], []), ([0, 1], [0, 1]), ([2], [2]), ([], []), ([], []), ([4, 5], [4, 5]), ([6], [6]), ([3, 7], [3, 7]), ([8], [8])])
def laws_eqEntryS.B6 : List Nat := [0, 0, 3, 7, 0, 0, 48, 112, 255, 511]
theorem laws_eqEntryS.tab6 : rtab .any (opsOf Try.f65 6) = laws_eqEntryS.T6 := by kernel_rfl
theorem laws_eqEntryS.bits6 : waitsOk laws_eqEntryS.T6.2 laws_eqEntryS.B6 = true := by kernel_rfl
set_option maxHeartbeats 8000000 in
set_option maxRecDepth 100000 in
theorem laws_eqEntryS.calls (k : Nat) (A0 : Option Addr) (c0 : Nat) (l0 : List (S55)) (A1 : Option Addr) (c1 : Nat) (l1 : List (S55)) (r : Bool) (w : World) (hr0 : Kd.C k55 w A0 l0.length l0) (hc0 : l0.length ≤ c0) (hr1 : Kd.C k55 w A1 l1.length l1) (hc1 : l1.length ≤ c1) (h : laws_eqEntryS.f k l0 l1 = some r) :
  Calls Try.prog 65 #[.slice A0 l0.length c0, .slice A1 l1.length c1] w fun e w' => e = .returned (.bool r) ∧ Below w.heap.size w w' := by
 have hu55 := Try.underlying55
 have hu38 := Try.underlying38
 have HR0 := Aside0.mk hr0
 have HC0 := Aside0.mk hc0
 clear hr0 hc0
 have HR1 := Aside0.mk hr1
 have HC1 := Aside0.mk hc1
 clear hr1 hc1
 have HB := am (Below.refl w.heap.size w)
 have H : (if (l0.length : Int) = (l1.length : Int) then (laws_eqEntryS.l0 k l0 l1 0) else (some false)) = some r := h
 clear h
 by_cases c3 : (l0.length : Int) = (l1.length : Int)
 ·
  rw [if_pos c3] at H
  have c3b0 : ((l0.length : Int) == (l1.length : Int)) = true := beq_iff_eq.mpr c3
  have c3b1 : ((l0.length : Int) != (l1.length : Int)) = false := bne_eq_false_iff_eq.mpr c3
  have c3b2 : (l0.length == l1.length) = true := by first | simpa using c3 | (simp at c3 ⊢; omega)
  clear c3
  have H' := Aside0.mk H
  clear H
  go_enter Try.func65, Try.ntmps65
  go_wp2
  go_loopg [5] k (fun kq v5 w' => ∃ (x5_1 : Int), v5 = .int .i64 x5_1 ∧ Aside0 (laws_eqEntryS.l0 kq l0 l1 x5_1 = some r) ∧ Aside0 (kq ≤ k) ∧ Aside0 (Below w.heap.size w w'))
  case atStart => exact ⟨(0), (by first | rfl | (simp; done) | (simp [*]; done)), H', ⟨Nat.le_refl _⟩, ⟨bel HB⟩⟩
  case round =>
   clear H'
   try clear c1
   try clear p2
   try clear c3
   try clear c3b0
   try clear c3b1
   try clear c3b2
   obtain ⟨x5_1, rfl, HA, HK1, HB⟩ := hrel
   cases gk with
   | zero => exact absurd HA.out (by simp [laws_eqEntryS.l0])
   | succ k1 =>
    have H := HA.out
    clear HA
    simp only [laws_eqEntryS.l0] at H
    by_cases c4 : x5_1 < (l0.length : Int)
    ·
     rw [if_pos c4] at H
     have c4b0 : decide (x5_1 < (l0.length : Int)) = true := decide_eq_true c4
     clear c4
     by_cases c5 : 0 ≤ x5_1
     ·
      rw [if_pos c5] at H
      have c5b0 : decide (0 ≤ x5_1) = true := decide_eq_true c5
      clear c5
      by_cases c6 : x5_1 < (l1.length : Int)
      ·
       rw [if_pos c6] at H
       have c6b0 : decide (x5_1 < (l1.length : Int)) = true := decide_eq_true c6
       clear c6
       replace H := Option.bind_eq_some_iff.mp H
       obtain ⟨t371, A70, H⟩ := H
       replace H : (if t371 = true then (laws_eqEntryS.l0 k1 l0 l1 (wrap64 (x5_1 + 1))) else (some false)) = some r := H
       have A7 := Aside0.mk A70
       clear A70
       by_cases c8 : t371 = true
       ·
        subst c8
        have H1 : (laws_eqEntryS.l0 k1 l0 l1 (wrap64 (x5_1 + 1))) = some r := by rw [if_pos rfl] at H; first | done | exact H
        clear H
        have H := H1
        clear H1
        have H' := Aside0.mk H
        clear H
        try go_wp2
        replace HB := am (below_drew1 HB.out)
        have p369 : 0 ≤ (x5_1 : Int) := of_decide_eq_true (by first | (with_reducible assumption) | assumption)
        have q369 : x5_1 < (l0.length : Int) := of_decide_eq_true (by first | (with_reducible assumption) | assumption)
        obtain ⟨ad369, A369_3, c369_3, e369, hx369_0, hx369_1, hx369_2, hx369_3, hl369_3, hi369_3⟩ := at_T55 HR0.out x5_1 p369 q369
        have hw369_3 := hx369_3
        have hw369_2 := hx369_2
        have hw369_1 := hx369_1
        have hw369_0 := hx369_0
        cases e369
        replace hx369_0 := (HB.out.cell (World.block_lt_of_cell? w _ hx369_0)).trans hx369_0
        replace hx369_1 := (HB.out.cell (World.block_lt_of_cell? w _ hx369_1)).trans hx369_1
        replace hx369_2 := (HB.out.cell (World.block_lt_of_cell? w _ hx369_2)).trans hx369_2
        replace hx369_3 := (HB.out.cell (World.block_lt_of_cell? w _ hx369_3)).trans hx369_3
        have HR369_3 := Aside0.mk hi369_3
        have HC369_3 := Aside0.mk hl369_3
        clear hi369_3 hl369_3
        replace p369 := eq_true p369
        replace q369 := eq_true q369
        have p370 : 0 ≤ (x5_1 : Int) := of_decide_eq_true (by first | (with_reducible assumption) | assumption)
        have q370 : x5_1 < (l1.length : Int) := of_decide_eq_true (by first | (with_reducible assumption) | assumption)
        obtain ⟨ad370, A370_3, c370_3, e370, hx370_0, hx370_1, hx370_2, hx370_3, hl370_3, hi370_3⟩ := at_T55 HR1.out x5_1 p370 q370
        have hw370_3 := hx370_3
        have hw370_2 := hx370_2
        have hw370_1 := hx370_1
        have hw370_0 := hx370_0
        cases e370
        replace hx370_0 := (HB.out.cell (World.block_lt_of_cell? w _ hx370_0)).trans hx370_0
        replace hx370_1 := (HB.out.cell (World.block_lt_of_cell? w _ hx370_1)).trans hx370_1
        replace hx370_2 := (HB.out.cell (World.block_lt_of_cell? w _ hx370_2)).trans hx370_2
        replace hx370_3 := (HB.out.cell (World.block_lt_of_cell? w _ hx370_3)).trans hx370_3
        have HR370_3 := Aside0.mk hi370_3
        have HC370_3 := Aside0.mk hl370_3
        clear hi370_3 hl370_3
        replace p370 := eq_true p370
        replace q370 := eq_true q370
        refine start_ (n := 10) (S := fun w' => w'.cell? (ad369.add ((x5_1).toNat * 4)) = some (.int .i64 ((rd_T55 l0 x5_1).f0)) ∧ w'.cell? ⟨(ad369.add ((x5_1).toNat * 4)).block, (ad369.add ((x5_1).toNat * 4)).off + 1, none⟩ = some (.int .i64 ((rd_T55 l0 x5_1).f1.f0)) ∧ w'.cell? ⟨(ad369.add ((x5_1).toNat * 4)).block, (ad369.add ((x5_1).toNat * 4)).off + 2, none⟩ = some (.int .i64 ((rd_T55 l0 x5_1).f1.f1)) ∧ w'.cell? ⟨(ad369.add ((x5_1).toNat * 4)).block, (ad369.add ((x5_1).toNat * 4)).off + 3, none⟩ = some (.slice A369_3 ((rd_T55 l0 x5_1).f1.f2).length c369_3) ∧ w'.cell? (ad370.add ((x5_1).toNat * 4)) = some (.int .i64 ((rd_T55 l1 x5_1).f0)) ∧ w'.cell? ⟨(ad370.add ((x5_1).toNat * 4)).block, (ad370.add ((x5_1).toNat * 4)).off + 1, none⟩ = some (.int .i64 ((rd_T55 l1 x5_1).f1.f0)) ∧ w'.cell? ⟨(ad370.add ((x5_1).toNat * 4)).block, (ad370.add ((x5_1).toNat * 4)).off + 2, none⟩ = some (.int .i64 ((rd_T55 l1 x5_1).f1.f1)) ∧ w'.cell? ⟨(ad370.add ((x5_1).toNat * 4)).block, (ad370.add ((x5_1).toNat * 4)).off + 3, none⟩ = some (.slice A370_3 ((rd_T55 l1 x5_1).f1.f2).length c370_3)) (ds := []) #[false, false, false, false, false, false, false, false, false, false] (by kernel_rfl) rfl rfl ⟨((HB.out.cell (World.block_lt_of_cell? w _ hw369_0)).trans hw369_0), ((HB.out.cell (World.block_lt_of_cell? w _ hw369_1)).trans hw369_1), ((HB.out.cell (World.block_lt_of_cell? w _ hw369_2)).trans hw369_2), ((HB.out.cell (World.block_lt_of_cell? w _ hw369_3)).trans hw369_3), ((HB.out.cell (World.block_lt_of_cell? w _ hw370_0)).trans hw370_0), ((HB.out.cell (World.block_lt_of_cell? w _ hw370_1)).trans hw370_1), ((HB.out.cell (World.block_lt_of_cell? w _ hw370_2)).trans hw370_2), ((HB.out.cell (World.block_lt_of_cell? w _ hw370_3)).trans hw370_3)⟩ (fun hHeld => ?_); refine with_tabW laws_eqEntryS.tab6 laws_eqEntryS.bits6 (fun HT_ HW_ => ?_)
        generalize wr.drew = w9 at HB HR369_3 HR370_3 hx369_0 hx369_1 hx369_2 hx369_3 hx370_0 hx370_1 hx370_2 hx370_3 hHeld ⊢
        refine pA 0 17 [1, 9] ?_
        refine pA 1 18 [2, 8] ?_
        refine pA 2 19 [3, 7] ?_
        refine pA 4 21 [3, 1, 1, 5] ?_
        refine pA 5 22 [3, 1, 2, 4] ?_
        refine pA 6 23 [3, 1, 3, 3] ?_
        refine tA 3 20 [7, 3] (hv := by rintro w' ⟨s0, s1, s2, s3, s4, s5, s6, s7⟩; go_simp; with_reducible rfl) (h := ?_)
        refine tA 7 24 [8, 2] (hv := by rintro w' ⟨s0, s1, s2, s3, s4, s5, s6, s7⟩; go_simp; with_reducible rfl) (h := ?_)
        refine one_ (i := 8) (N := some 25) #[true, true, true, true, true, true, true, true, true, false] rfl rfl (one_of HT_.out (by kernel_rfl)) (by decide) (fun K hK => ?_)
        refine goes_ Try.func115 (by kernel_rfl) rfl #[.agg #[.int .i64 ((rd_T55 l0 x5_1).f0), .int .i64 ((rd_T55 l0 x5_1).f1.f0), .int .i64 ((rd_T55 l0 x5_1).f1.f1), .slice A369_3 ((rd_T55 l0 x5_1).f1.f2).length c369_3], .agg #[.int .i64 ((rd_T55 l1 x5_1).f0), .int .i64 ((rd_T55 l1 x5_1).f1.f0), .int .i64 ((rd_T55 l1 x5_1).f1.f1), .slice A370_3 ((rd_T55 l1 x5_1).f1.f2).length c370_3]] (by rfl) rfl rfl (by (try simp only [List.map_toArray, List.map_cons, List.map_nil]); first | done | rfl | (simp only [List.length_drop, List.length_take]; rfl)) ?_
        with_reducible refine (laws_eqEntry.calls k1 ((rd_T55 l0 x5_1).f0) ((rd_T55 l0 x5_1).f1.f0) ((rd_T55 l0 x5_1).f1.f1) _ _ ((rd_T55 l0 x5_1).f1.f2) ((rd_T55 l1 x5_1).f0) ((rd_T55 l1 x5_1).f1.f0) ((rd_T55 l1 x5_1).f1.f1) _ _ ((rd_T55 l1 x5_1).f1.f2) true _ ?side1 ?side2 ?side3 ?side4 A7.out).mono ?_
        (case side1 => exact mC HR369_3 HB)
        (case side2 => exact HC369_3.out)
        (case side3 => exact mC HR370_3 HB)
        (case side4 => exact HC370_3.out)
        rintro e w10 ⟨rfl, hb⟩
        refine ⟨_, rfl, ?_⟩
        replace HB := bS HB hb
        (try clear hb)
        (try clear hb2)
        (try clear hk)
        (try clear hi)
        refine hK.out _ _ ⟨((HB.out.cell (World.block_lt_of_cell? w _ hw369_0)).trans hw369_0), ((HB.out.cell (World.block_lt_of_cell? w _ hw369_1)).trans hw369_1), ((HB.out.cell (World.block_lt_of_cell? w _ hw369_2)).trans hw369_2), ((HB.out.cell (World.block_lt_of_cell? w _ hw369_3)).trans hw369_3), ((HB.out.cell (World.block_lt_of_cell? w _ hw370_0)).trans hw370_0), ((HB.out.cell (World.block_lt_of_cell? w _ hw370_1)).trans hw370_1), ((HB.out.cell (World.block_lt_of_cell? w _ hw370_2)).trans hw370_2), ((HB.out.cell (World.block_lt_of_cell? w _ hw370_3)).trans hw370_3)⟩ (fun hHeld => ?_)
        clear hK K
        refine norm_ (a' := ?_) ?_ ?_
        rotate_left
        ·
         show Act.put _ (some 25) _ = _
         simp only [Act.put, List.setIfInBounds_toArray, List.set_cons_zero, List.set_cons_succ, i64_w, i32_w]
         rfl
        refine pA 9 26 [10] ?_
        refine done_ (done_of HT_.out (by kernel_rfl)) ?_
        try go_wp2
        go_roundg k1
        case measure => have := HK1.out; omega
        case rel => exact ⟨(wrap64 (x5_1 + 1)), (by first | rfl | (simp; done) | (simp [*]; done)), H', ⟨by have := HK1.out; omega⟩, ⟨bel HB⟩⟩
       replace c8 := Bool.eq_false_iff.mpr c8
       subst c8
       have H1 : (some false) = some r := by rw [if_neg (show ¬ (false = true) by decide)] at H; first | done | exact H
       clear H
       have H := H1
       clear H1
       obtain rfl := Option.some.inj H
       try go_wp2
       replace HB := am (below_drew1 HB.out)
       have p369 : 0 ≤ (x5_1 : Int) := of_decide_eq_true (by first | (with_reducible assumption) | assumption)
       have q369 : x5_1 < (l0.length : Int) := of_decide_eq_true (by first | (with_reducible assumption) | assumption)
       obtain ⟨ad369, A369_3, c369_3, e369, hx369_0, hx369_1, hx369_2, hx369_3, hl369_3, hi369_3⟩ := at_T55 HR0.out x5_1 p369 q369
       have hw369_3 := hx369_3
       have hw369_2 := hx369_2
       have hw369_1 := hx369_1
       have hw369_0 := hx369_0
       cases e369
       replace hx369_0 := (HB.out.cell (World.block_lt_of_cell? w _ hx369_0)).trans hx369_0
       replace hx369_1 := (HB.out.cell (World.block_lt_of_cell? w _ hx369_1)).trans hx369_1
       replace hx369_2 := (HB.out.cell (World.block_lt_of_cell? w _ hx369_2)).trans hx369_2
       replace hx369_3 := (HB.out.cell (World.block_lt_of_cell? w _ hx369_3)).trans hx369_3
       have HR369_3 := Aside0.mk hi369_3
       have HC369_3 := Aside0.mk hl369_3
       clear hi369_3 hl369_3
       replace p369 := eq_true p369
       replace q369 := eq_true q369
       have p370 : 0 ≤ (x5_1 : Int) := of_decide_eq_true (by first | (with_reducible assumption) | assumption)
       have q370 : x5_1 < (l1.length : Int) := of_decide_eq_true (by first | (with_reducible assumption) | assumption)
       obtain ⟨ad370, A370_3, c370_3, e370, hx370_0, hx370_1, hx370_2, hx370_3, hl370_3, hi370_3⟩ := at_T55 HR1.out x5_1 p370 q370
       have hw370_3 := hx370_3
       have hw370_2 := hx370_2
       have hw370_1 := hx370_1
       have hw370_0 := hx370_0
       cases e370
       replace hx370_0 := (HB.out.cell (World.block_lt_of_cell? w _ hx370_0)).trans hx370_0
       replace hx370_1 := (HB.out.cell (World.block_lt_of_cell? w _ hx370_1)).trans hx370_1
       replace hx370_2 := (HB.out.cell (World.block_lt_of_cell? w _ hx370_2)).trans hx370_2
       replace hx370_3 := (HB.out.cell (World.block_lt_of_cell? w _ hx370_3)).trans hx370_3
       have HR370_3 := Aside0.mk hi370_3
       have HC370_3 := Aside0.mk hl370_3
       clear hi370_3 hl370_3
       replace p370 := eq_true p370
       replace q370 := eq_true q370
       refine start_ (n := 10) (S := fun w' => w'.cell? (ad369.add ((x5_1).toNat * 4)) = some (.int .i64 ((rd_T55 l0 x5_1).f0)) ∧ w'.cell? ⟨(ad369.add ((x5_1).toNat * 4)).block, (ad369.add ((x5_1).toNat * 4)).off + 1, none⟩ = some (.int .i64 ((rd_T55 l0 x5_1).f1.f0)) ∧ w'.cell? ⟨(ad369.add ((x5_1).toNat * 4)).block, (ad369.add ((x5_1).toNat * 4)).off + 2, none⟩ = some (.int .i64 ((rd_T55 l0 x5_1).f1.f1)) ∧ w'.cell? ⟨(ad369.add ((x5_1).toNat * 4)).block, (ad369.add ((x5_1).toNat * 4)).off + 3, none⟩ = some (.slice A369_3 ((rd_T55 l0 x5_1).f1.f2).length c369_3) ∧ w'.cell? (ad370.add ((x5_1).toNat * 4)) = some (.int .i64 ((rd_T55 l1 x5_1).f0)) ∧ w'.cell? ⟨(ad370.add ((x5_1).toNat * 4)).block, (ad370.add ((x5_1).toNat * 4)).off + 1, none⟩ = some (.int .i64 ((rd_T55 l1 x5_1).f1.f0)) ∧ w'.cell? ⟨(ad370.add ((x5_1).toNat * 4)).block, (ad370.add ((x5_1).toNat * 4)).off + 2, none⟩ = some (.int .i64 ((rd_T55 l1 x5_1).f1.f1)) ∧ w'.cell? ⟨(ad370.add ((x5_1).toNat * 4)).block, (ad370.add ((x5_1).toNat * 4)).off + 3, none⟩ = some (.slice A370_3 ((rd_T55 l1 x5_1).f1.f2).length c370_3)) (ds := []) #[false, false, false, false, false, false, false, false, false, false] (by kernel_rfl) rfl rfl ⟨((HB.out.cell (World.block_lt_of_cell? w _ hw369_0)).trans hw369_0), ((HB.out.cell (World.block_lt_of_cell? w _ hw369_1)).trans hw369_1), ((HB.out.cell (World.block_lt_of_cell? w _ hw369_2)).trans hw369_2), ((HB.out.cell (World.block_lt_of_cell? w _ hw369_3)).trans hw369_3), ((HB.out.cell (World.block_lt_of_cell? w _ hw370_0)).trans hw370_0), ((HB.out.cell (World.block_lt_of_cell? w _ hw370_1)).trans hw370_1), ((HB.out.cell (World.block_lt_of_cell? w _ hw370_2)).trans hw370_2), ((HB.out.cell (World.block_lt_of_cell? w _ hw370_3)).trans hw370_3)⟩ (fun hHeld => ?_); refine with_tabW laws_eqEntryS.tab6 laws_eqEntryS.bits6 (fun HT_ HW_ => ?_)
       generalize wr.drew = w11 at HB HR369_3 HR370_3 hx369_0 hx369_1 hx369_2 hx369_3 hx370_0 hx370_1 hx370_2 hx370_3 hHeld ⊢
       refine pA 0 17 [1, 9] ?_
       refine pA 1 18 [2, 8] ?_
       refine pA 2 19 [3, 7] ?_
       refine pA 4 21 [3, 1, 1, 5] ?_
       refine pA 5 22 [3, 1, 2, 4] ?_
       refine pA 6 23 [3, 1, 3, 3] ?_
       refine tA 3 20 [7, 3] (hv := by rintro w' ⟨s0, s1, s2, s3, s4, s5, s6, s7⟩; go_simp; with_reducible rfl) (h := ?_)
       refine tA 7 24 [8, 2] (hv := by rintro w' ⟨s0, s1, s2, s3, s4, s5, s6, s7⟩; go_simp; with_reducible rfl) (h := ?_)
       refine one_ (i := 8) (N := some 25) #[true, true, true, true, true, true, true, true, true, false] rfl rfl (one_of HT_.out (by kernel_rfl)) (by decide) (fun K hK => ?_)
       refine goes_ Try.func115 (by kernel_rfl) rfl #[.agg #[.int .i64 ((rd_T55 l0 x5_1).f0), .int .i64 ((rd_T55 l0 x5_1).f1.f0), .int .i64 ((rd_T55 l0 x5_1).f1.f1), .slice A369_3 ((rd_T55 l0 x5_1).f1.f2).length c369_3], .agg #[.int .i64 ((rd_T55 l1 x5_1).f0), .int .i64 ((rd_T55 l1 x5_1).f1.f0), .int .i64 ((rd_T55 l1 x5_1).f1.f1), .slice A370_3 ((rd_T55 l1 x5_1).f1.f2).length c370_3]] (by rfl) rfl rfl (by (try simp only [List.map_toArray, List.map_cons, List.map_nil]); first | done | rfl | (simp only [List.length_drop, List.length_take]; rfl)) ?_
       with_reducible refine (laws_eqEntry.calls k1 ((rd_T55 l0 x5_1).f0) ((rd_T55 l0 x5_1).f1.f0) ((rd_T55 l0 x5_1).f1.f1) _ _ ((rd_T55 l0 x5_1).f1.f2) ((rd_T55 l1 x5_1).f0) ((rd_T55 l1 x5_1).f1.f0) ((rd_T55 l1 x5_1).f1.f1) _ _ ((rd_T55 l1 x5_1).f1.f2) false _ ?side1 ?side2 ?side3 ?side4 A7.out).mono ?_
       (case side1 => exact mC HR369_3 HB)
       (case side2 => exact HC369_3.out)
       (case side3 => exact mC HR370_3 HB)
       (case side4 => exact HC370_3.out)
       rintro e w12 ⟨rfl, hb⟩
       refine ⟨_, rfl, ?_⟩
       replace HB := bS HB hb
       (try clear hb)
       (try clear hb2)
       (try clear hk)
       (try clear hi)
       refine hK.out _ _ ⟨((HB.out.cell (World.block_lt_of_cell? w _ hw369_0)).trans hw369_0), ((HB.out.cell (World.block_lt_of_cell? w _ hw369_1)).trans hw369_1), ((HB.out.cell (World.block_lt_of_cell? w _ hw369_2)).trans hw369_2), ((HB.out.cell (World.block_lt_of_cell? w _ hw369_3)).trans hw369_3), ((HB.out.cell (World.block_lt_of_cell? w _ hw370_0)).trans hw370_0), ((HB.out.cell (World.block_lt_of_cell? w _ hw370_1)).trans hw370_1), ((HB.out.cell (World.block_lt_of_cell? w _ hw370_2)).trans hw370_2), ((HB.out.cell (World.block_lt_of_cell? w _ hw370_3)).trans hw370_3)⟩ (fun hHeld => ?_)
       clear hK K
       refine norm_ (a' := ?_) ?_ ?_
       rotate_left
       ·
        show Act.put _ (some 25) _ = _
        simp only [Act.put, List.setIfInBounds_toArray, List.set_cons_zero, List.set_cons_succ, i64_w, i32_w]
        rfl
       refine pA 9 26 [10] ?_
       refine done_ (done_of HT_.out (by kernel_rfl)) ?_
       try go_wp2
       go_ret
       exact ⟨by first | rfl | (simp [errW_none, errW_some] <;> rfl) | (simp [*, errW_none, errW_some] <;> rfl), bel HB⟩
      rw [if_neg c6] at H
      exact absurd H (by simp)
     rw [if_neg c5] at H
     exact absurd H (by simp)
    rw [if_neg c4] at H
    have c4b0 : decide (x5_1 < (l0.length : Int)) = false := decide_eq_false c4
    clear c4
    obtain rfl := Option.some.inj H
    go_wp2
    go_ret
    exact ⟨by first | rfl | (simp [errW_none, errW_some] <;> rfl) | (simp [*, errW_none, errW_some] <;> rfl), bel HB⟩
 rw [if_neg c3] at H
 have c3b0 : ((l0.length : Int) == (l1.length : Int)) = false := beq_eq_false_iff_ne.mpr c3
 have c3b1 : ((l0.length : Int) != (l1.length : Int)) = true := bne_iff_ne.mpr c3
 have c3b2 : (l0.length == l1.length) = false := by first | simpa using c3 | (simp at c3 ⊢; omega)
 obtain rfl := Option.some.inj H
 go_enter Try.func65, Try.ntmps65
 go_wp2
 go_ret
 exact ⟨by first | rfl | (simp [errW_none, errW_some] <;> rfl) | (simp [*, errW_none, errW_some] <;> rfl), bel HB⟩

/-! ### laws_eqNode: function 16 -/
def laws_eqNode.f (k : Nat) (a0_0 : Int) (a0_1 : Bool) (a0_2 : Int) (a0_3 : Int) (l0_4 : List (S55)) (a0_5 : Int) (a0_6 : Int) (a0_7 : Int) (a0_8 : Int) (a1_0 : Int) (a1_1 : Bool) (a1_2 : Int) (a1_3 : Int) (l1_4 : List (S55)) (a1_5 : Int) (a1_6 : Int) (a1_7 : Int) (a1_8 : Int) : Option (Bool) := if a0_0 = a1_0 then (if (a0_1 != a1_1) = true then (some false) else (if a0_2 = a1_2 then (if a0_3 = a1_3 then ((laws_eqEntryS.f k l0_4 l1_4).bind fun t374 => (if t374 = true then (if a0_5 = a1_5 then (if a0_6 = a1_6 then (if a0_7 = a1_7 then (if a0_8 = a1_8 then (some true) else (some false)) else (some false)) else (some false)) else (some false)) else (some false))) else (some false)) else (some false))) else (some false)
theorem laws_eqNode.mono : ∀ a0 a1 a2 a3 a4 a5 a6 a7 a8 a9 a10 a11 a12 a13 a14 a15 a16 a17 k, LeO (laws_eqNode.f k a0 a1 a2 a3 a4 a5 a6 a7 a8 a9 a10 a11 a12 a13 a14 a15 a16 a17) (laws_eqNode.f (k + 1) a0 a1 a2 a3 a4 a5 a6 a7 a8 a9 a10 a11 a12 a13 a14 a15 a16 a17) := by
 intro a0 a1 a2 a3 a4 a5 a6 a7 a8 a9 a10 a11 a12 a13 a14 a15 a16 a17 k
 unfold laws_eqNode.f
 repeat' first
   | (with_reducible exact laws_eqEntryS.mono _ _ _)
   | (with_reducible exact LeO.refl _)
   | (with_reducible exact LeO.none _)
   | (with_reducible refine LeO.ite ?_ ?_)
   | (with_reducible refine LeO.bind ?_ (fun _ => ?_))
   | exact laws_eqEntryS.mono _ _ _
   | exact LeO.none _
   | refine LeO.ite ?_ ?_
   | refine LeO.bind ?_ (fun _ => ?_)
set_option maxHeartbeats 8000000 in
set_option maxRecDepth 100000 in
theorem laws_eqNode.calls (k : Nat) (a0_0 : Int) (a0_1 : Bool) (a0_2 : Int) (a0_3 : Int) (A0_4 : Option Addr) (c0_4 : Nat) (l0_4 : List (S55)) (a0_5 : Int) (a0_6 : Int) (a0_7 : Int) (a0_8 : Int) (a1_0 : Int) (a1_1 : Bool) (a1_2 : Int) (a1_3 : Int) (A1_4 : Option Addr) (c1_4 : Nat) (l1_4 : List (S55)) (a1_5 : Int) (a1_6 : Int) (a1_7 : Int) (a1_8 : Int) (r : Bool) (w : World) (hr0_4 : Kd.C k55 w A0_4 l0_4.length l0_4) (hc0_4 : l0_4.length ≤ c0_4) (hr1_4 : Kd.C k55 w A1_4 l1_4.length l1_4) (hc1_4 : l1_4.length ≤ c1_4) (h : laws_eqNode.f k a0_0 a0_1 a0_2 a0_3 l0_4 a0_5 a0_6 a0_7 a0_8 a1_0 a1_1 a1_2 a1_3 l1_4 a1_5 a1_6 a1_7 a1_8 = some r) :
  Calls Try.prog 16 #[.agg #[.int .i64 a0_0, .bool a0_1, .int .i64 a0_2, .int .i64 a0_3, .slice A0_4 l0_4.length c0_4, .int .i64 a0_5, .int .i64 a0_6, .int .i64 a0_7, .int .i64 a0_8], .agg #[.int .i64 a1_0, .bool a1_1, .int .i64 a1_2, .int .i64 a1_3, .slice A1_4 l1_4.length c1_4, .int .i64 a1_5, .int .i64 a1_6, .int .i64 a1_7, .int .i64 a1_8]] w fun e w' => e = .returned (.bool r) ∧ Below w.heap.size w w' := by
 have hu32 := Try.underlying32
 have HR0_4 := Aside0.mk hr0_4
 have HC0_4 := Aside0.mk hc0_4
 clear hr0_4 hc0_4
 have HR1_4 := Aside0.mk hr1_4
 have HC1_4 := Aside0.mk hc1_4
 clear hr1_4 hc1_4
 have HB := am (Below.refl w.heap.size w)
 have H : (if a0_0 = a1_0 then (if (a0_1 != a1_1) = true then (some false) else (if a0_2 = a1_2 then (if a0_3 = a1_3 then ((laws_eqEntryS.f k l0_4 l1_4).bind fun t374 => (if t374 = true then (if a0_5 = a1_5 then (if a0_6 = a1_6 then (if a0_7 = a1_7 then (if a0_8 = a1_8 then (some true) else (some false)) else (some false)) else (some false)) else (some false)) else (some false))) else (some false)) else (some false))) else (some false)) = some r := h
 clear h
 by_cases c3 : a0_0 = a1_0
 ·
  rw [if_pos c3] at H
  have c3b0 : (a0_0 == a1_0) = true := beq_iff_eq.mpr c3
  have c3b1 : (a0_0 != a1_0) = false := bne_eq_false_iff_eq.mpr c3
  clear c3
  by_cases c4 : (a0_1 != a1_1) = true
  ·
   rw [if_pos c4] at H
   have c4b0 : (a0_1 != a1_1) = true := c4
   (try (have c4b1 : decide (a0_1 = a1_1) = false := by simpa using c4))
   (try (have c4b2 : (a0_1 == a1_1) = false := by simpa using c4))
   (try (have c4b3 : ¬ (a0_1 = a1_1) := by simpa using c4))
   clear c4
   obtain rfl := Option.some.inj H
   go_enter Try.func16, Try.ntmps16
   go_wp2_with (first | ((with_reducible refine gate_dst (N := 2) rfl ?_); refine boxE #[.int .i64 a0_0, .bool a0_1, .int .i64 a0_2, .int .i64 a0_3, .slice A0_4 l0_4.length c0_4, .int .i64 a0_5, .int .i64 a0_6, .int .i64 a0_7, .int .i64 a0_8] 32 (N := 2) rfl rfl ?_; intro gb372 hg w5 hbox hb; have BK372 := Aside0.mk hbox; have GW372 := gZ HB hg; have GE372 := gZ HB hg; replace HB := bS HB hb; clear hb hbox hg) | ((with_reducible refine gate_dst (N := 3) rfl ?_); refine boxE #[.int .i64 a1_0, .bool a1_1, .int .i64 a1_2, .int .i64 a1_3, .slice A1_4 l1_4.length c1_4, .int .i64 a1_5, .int .i64 a1_6, .int .i64 a1_7, .int .i64 a1_8] 32 (N := 3) rfl rfl ?_; intro gb373 hg w6 hbox hb; have BK373 := Aside0.mk hbox; have GW373 := gZ HB hg; have GE373 := gZ HB hg; replace HB := bS HB hb; have NB372_373 := nL BK372 hg; have NB373_372 := nG BK372 hg; replace BK372 := bK BK372 hb; clear hb hbox hg; have hnb7 := NB372_373.out; have hnc7 := NB373_372.out; have hz8 := cl9 BK372; have hz9 := cl9 BK373))
   go_ret
   exact ⟨by first | rfl | (simp [errW_none, errW_some] <;> rfl) | (simp [*, errW_none, errW_some] <;> rfl), bel HB⟩
  rw [if_neg c4] at H
  have c4b0 : (a0_1 != a1_1) = false := by simpa using c4
  (try (have c4b1 : decide (a0_1 = a1_1) = true := by simpa using c4))
  (try (have c4b2 : (a0_1 == a1_1) = true := by simpa using c4))
  clear c4
  by_cases c10 : a0_2 = a1_2
  ·
   rw [if_pos c10] at H
   have c10b0 : (a0_2 == a1_2) = true := beq_iff_eq.mpr c10
   have c10b1 : (a0_2 != a1_2) = false := bne_eq_false_iff_eq.mpr c10
   clear c10
   by_cases c11 : a0_3 = a1_3
   ·
    rw [if_pos c11] at H
    have c11b0 : (a0_3 == a1_3) = true := beq_iff_eq.mpr c11
    have c11b1 : (a0_3 != a1_3) = false := bne_eq_false_iff_eq.mpr c11
    clear c11
    replace H := Option.bind_eq_some_iff.mp H
    obtain ⟨t374, A120, H⟩ := H
    replace H : (if t374 = true then (if a0_5 = a1_5 then (if a0_6 = a1_6 then (if a0_7 = a1_7 then (if a0_8 = a1_8 then (some true) else (some false)) else (some false)) else (some false)) else (some false)) else (some false)) = some r := H
    have A12 := Aside0.mk A120
    clear A120
    by_cases c13 : t374 = true
    ·
     subst c13
     have H1 : (if a0_5 = a1_5 then (if a0_6 = a1_6 then (if a0_7 = a1_7 then (if a0_8 = a1_8 then (some true) else (some false)) else (some false)) else (some false)) else (some false)) = some r := by rw [if_pos rfl] at H; first | done | exact H
     clear H
     have H := H1
     clear H1
     by_cases c14 : a0_5 = a1_5
     ·
      rw [if_pos c14] at H
      have c14b0 : (a0_5 == a1_5) = true := beq_iff_eq.mpr c14
      have c14b1 : (a0_5 != a1_5) = false := bne_eq_false_iff_eq.mpr c14
      clear c14
      by_cases c15 : a0_6 = a1_6
      ·
       rw [if_pos c15] at H
       have c15b0 : (a0_6 == a1_6) = true := beq_iff_eq.mpr c15
       have c15b1 : (a0_6 != a1_6) = false := bne_eq_false_iff_eq.mpr c15
       clear c15
       by_cases c16 : a0_7 = a1_7
       ·
        rw [if_pos c16] at H
        have c16b0 : (a0_7 == a1_7) = true := beq_iff_eq.mpr c16
        have c16b1 : (a0_7 != a1_7) = false := bne_eq_false_iff_eq.mpr c16
        clear c16
        by_cases c17 : a0_8 = a1_8
        ·
         rw [if_pos c17] at H
         have c17b0 : (a0_8 == a1_8) = true := beq_iff_eq.mpr c17
         have c17b1 : (a0_8 != a1_8) = false := bne_eq_false_iff_eq.mpr c17
         clear c17
         obtain rfl := Option.some.inj H
         go_enter Try.func16, Try.ntmps16
         go_wp2_with (first | ((with_reducible refine gate_dst (N := 2) rfl ?_); refine boxE #[.int .i64 a0_0, .bool a0_1, .int .i64 a0_2, .int .i64 a0_3, .slice A0_4 l0_4.length c0_4, .int .i64 a0_5, .int .i64 a0_6, .int .i64 a0_7, .int .i64 a0_8] 32 (N := 2) rfl rfl ?_; intro gb372 hg w18 hbox hb; have BK372 := Aside0.mk hbox; have GW372 := gZ HB hg; have GE372 := gZ HB hg; replace HB := bS HB hb; clear hb hbox hg) | ((with_reducible refine gate_dst (N := 3) rfl ?_); refine boxE #[.int .i64 a1_0, .bool a1_1, .int .i64 a1_2, .int .i64 a1_3, .slice A1_4 l1_4.length c1_4, .int .i64 a1_5, .int .i64 a1_6, .int .i64 a1_7, .int .i64 a1_8] 32 (N := 3) rfl rfl ?_; intro gb373 hg w19 hbox hb; have BK373 := Aside0.mk hbox; have GW373 := gZ HB hg; have GE373 := gZ HB hg; replace HB := bS HB hb; have NB372_373 := nL BK372 hg; have NB373_372 := nG BK372 hg; replace BK372 := bK BK372 hb; clear hb hbox hg; have hnb20 := NB372_373.out; have hnc20 := NB373_372.out; have hz21 := cl9 BK372; have hz22 := cl9 BK373) | ((with_reducible refine gate_callee (f := 65) rfl ?_); refine goA (some 29) rfl rfl Try.func65 rfl #[.slice A0_4 l0_4.length c0_4, .slice A1_4 l1_4.length c1_4] rfl ?_; (with_reducible refine (laws_eqEntryS.calls k _ _ l0_4 _ _ l1_4 true _ ?side1 ?side2 ?side3 ?side4 A12.out).mono ?_); (case side1 => exact mC HR0_4 HB); (case side2 => exact HC0_4.out); (case side3 => exact mC HR1_4 HB); (case side4 => exact HC1_4.out); rintro e w23 ⟨rfl, hb⟩; refine ⟨_, rfl, ?_⟩; replace BK372 := bK BK372 hb; replace BK373 := bK BK373 hb; replace HB := bS HB hb; (try clear hb); (try clear hb2); (try clear hk); (try clear hi); have hz24 := cl9 BK372; have hz25 := cl9 BK373))
         go_ret
         exact ⟨by first | rfl | (simp [errW_none, errW_some] <;> rfl) | (simp [*, errW_none, errW_some] <;> rfl), bel HB⟩
        rw [if_neg c17] at H
        have c17b0 : (a0_8 == a1_8) = false := beq_eq_false_iff_ne.mpr c17
        have c17b1 : (a0_8 != a1_8) = true := bne_iff_ne.mpr c17
        obtain rfl := Option.some.inj H
        go_enter Try.func16, Try.ntmps16
        go_wp2_with (first | ((with_reducible refine gate_dst (N := 2) rfl ?_); refine boxE #[.int .i64 a0_0, .bool a0_1, .int .i64 a0_2, .int .i64 a0_3, .slice A0_4 l0_4.length c0_4, .int .i64 a0_5, .int .i64 a0_6, .int .i64 a0_7, .int .i64 a0_8] 32 (N := 2) rfl rfl ?_; intro gb372 hg w26 hbox hb; have BK372 := Aside0.mk hbox; have GW372 := gZ HB hg; have GE372 := gZ HB hg; replace HB := bS HB hb; clear hb hbox hg) | ((with_reducible refine gate_dst (N := 3) rfl ?_); refine boxE #[.int .i64 a1_0, .bool a1_1, .int .i64 a1_2, .int .i64 a1_3, .slice A1_4 l1_4.length c1_4, .int .i64 a1_5, .int .i64 a1_6, .int .i64 a1_7, .int .i64 a1_8] 32 (N := 3) rfl rfl ?_; intro gb373 hg w27 hbox hb; have BK373 := Aside0.mk hbox; have GW373 := gZ HB hg; have GE373 := gZ HB hg; replace HB := bS HB hb; have NB372_373 := nL BK372 hg; have NB373_372 := nG BK372 hg; replace BK372 := bK BK372 hb; clear hb hbox hg; have hnb28 := NB372_373.out; have hnc28 := NB373_372.out; have hz29 := cl9 BK372; have hz30 := cl9 BK373) | ((with_reducible refine gate_callee (f := 65) rfl ?_); refine goA (some 29) rfl rfl Try.func65 rfl #[.slice A0_4 l0_4.length c0_4, .slice A1_4 l1_4.length c1_4] rfl ?_; (with_reducible refine (laws_eqEntryS.calls k _ _ l0_4 _ _ l1_4 true _ ?side1 ?side2 ?side3 ?side4 A12.out).mono ?_); (case side1 => exact mC HR0_4 HB); (case side2 => exact HC0_4.out); (case side3 => exact mC HR1_4 HB); (case side4 => exact HC1_4.out); rintro e w31 ⟨rfl, hb⟩; refine ⟨_, rfl, ?_⟩; replace BK372 := bK BK372 hb; replace BK373 := bK BK373 hb; replace HB := bS HB hb; (try clear hb); (try clear hb2); (try clear hk); (try clear hi); have hz32 := cl9 BK372; have hz33 := cl9 BK373))
        go_ret
        exact ⟨by first | rfl | (simp [errW_none, errW_some] <;> rfl) | (simp [*, errW_none, errW_some] <;> rfl), bel HB⟩
       rw [if_neg c16] at H
       have c16b0 : (a0_7 == a1_7) = false := beq_eq_false_iff_ne.mpr c16
       have c16b1 : (a0_7 != a1_7) = true := bne_iff_ne.mpr c16
       obtain rfl := Option.some.inj H
       go_enter Try.func16, Try.ntmps16
       go_wp2_with (first | ((with_reducible refine gate_dst (N := 2) rfl ?_); refine boxE #[.int .i64 a0_0, .bool a0_1, .int .i64 a0_2, .int .i64 a0_3, .slice A0_4 l0_4.length c0_4, .int .i64 a0_5, .int .i64 a0_6, .int .i64 a0_7, .int .i64 a0_8] 32 (N := 2) rfl rfl ?_; intro gb372 hg w34 hbox hb; have BK372 := Aside0.mk hbox; have GW372 := gZ HB hg; have GE372 := gZ HB hg; replace HB := bS HB hb; clear hb hbox hg) | ((with_reducible refine gate_dst (N := 3) rfl ?_); refine boxE #[.int .i64 a1_0, .bool a1_1, .int .i64 a1_2, .int .i64 a1_3, .slice A1_4 l1_4.length c1_4, .int .i64 a1_5, .int .i64 a1_6, .int .i64 a1_7, .int .i64 a1_8] 32 (N := 3) rfl rfl ?_; intro gb373 hg w35 hbox hb; have BK373 := Aside0.mk hbox; have GW373 := gZ HB hg; have GE373 := gZ HB hg; replace HB := bS HB hb; have NB372_373 := nL BK372 hg; have NB373_372 := nG BK372 hg; replace BK372 := bK BK372 hb; clear hb hbox hg; have hnb36 := NB372_373.out; have hnc36 := NB373_372.out; have hz37 := cl9 BK372; have hz38 := cl9 BK373) | ((with_reducible refine gate_callee (f := 65) rfl ?_); refine goA (some 29) rfl rfl Try.func65 rfl #[.slice A0_4 l0_4.length c0_4, .slice A1_4 l1_4.length c1_4] rfl ?_; (with_reducible refine (laws_eqEntryS.calls k _ _ l0_4 _ _ l1_4 true _ ?side1 ?side2 ?side3 ?side4 A12.out).mono ?_); (case side1 => exact mC HR0_4 HB); (case side2 => exact HC0_4.out); (case side3 => exact mC HR1_4 HB); (case side4 => exact HC1_4.out); rintro e w39 ⟨rfl, hb⟩; refine ⟨_, rfl, ?_⟩; replace BK372 := bK BK372 hb; replace BK373 := bK BK373 hb; replace HB := bS HB hb; (try clear hb); (try clear hb2); (try clear hk); (try clear hi); have hz40 := cl9 BK372; have hz41 := cl9 BK373))
       go_ret
       exact ⟨by first | rfl | (simp [errW_none, errW_some] <;> rfl) | (simp [*, errW_none, errW_some] <;> rfl), bel HB⟩
      rw [if_neg c15] at H
      have c15b0 : (a0_6 == a1_6) = false := beq_eq_false_iff_ne.mpr c15
      have c15b1 : (a0_6 != a1_6) = true := bne_iff_ne.mpr c15
      obtain rfl := Option.some.inj H
      go_enter Try.func16, Try.ntmps16
      go_wp2_with (first | ((with_reducible refine gate_dst (N := 2) rfl ?_); refine boxE #[.int .i64 a0_0, .bool a0_1, .int .i64 a0_2, .int .i64 a0_3, .slice A0_4 l0_4.length c0_4, .int .i64 a0_5, .int .i64 a0_6, .int .i64 a0_7, .int .i64 a0_8] 32 (N := 2) rfl rfl ?_; intro gb372 hg w42 hbox hb; have BK372 := Aside0.mk hbox; have GW372 := gZ HB hg; have GE372 := gZ HB hg; replace HB := bS HB hb; clear hb hbox hg) | ((with_reducible refine gate_dst (N := 3) rfl ?_); refine boxE #[.int .i64 a1_0, .bool a1_1, .int .i64 a1_2, .int .i64 a1_3, .slice A1_4 l1_4.length c1_4, .int .i64 a1_5, .int .i64 a1_6, .int .i64 a1_7, .int .i64 a1_8] 32 (N := 3) rfl rfl ?_; intro gb373 hg w43 hbox hb; have BK373 := Aside0.mk hbox; have GW373 := gZ HB hg; have GE373 := gZ HB hg; replace HB := bS HB hb; have NB372_373 := nL BK372 hg; have NB373_372 := nG BK372 hg; replace BK372 := bK BK372 hb; clear hb hbox hg; have hnb44 := NB372_373.out; have hnc44 := NB373_372.out; have hz45 := cl9 BK372; have hz46 := cl9 BK373) | ((with_reducible refine gate_callee (f := 65) rfl ?_); refine goA (some 29) rfl rfl Try.func65 rfl #[.slice A0_4 l0_4.length c0_4, .slice A1_4 l1_4.length c1_4] rfl ?_; (with_reducible refine (laws_eqEntryS.calls k _ _ l0_4 _ _ l1_4 true _ ?side1 ?side2 ?side3 ?side4 A12.out).mono ?_); (case side1 => exact mC HR0_4 HB); (case side2 => exact HC0_4.out); (case side3 => exact mC HR1_4 HB); (case side4 => exact HC1_4.out); rintro e w47 ⟨rfl, hb⟩; refine ⟨_, rfl, ?_⟩; replace BK372 := bK BK372 hb; replace BK373 := bK BK373 hb; replace HB := bS HB hb; (try clear hb); (try clear hb2); (try clear hk); (try clear hi); have hz48 := cl9 BK372; have hz49 := cl9 BK373))
      go_ret
      exact ⟨by first | rfl | (simp [errW_none, errW_some] <;> rfl) | (simp [*, errW_none, errW_some] <;> rfl), bel HB⟩
     rw [if_neg c14] at H
     have c14b0 : (a0_5 == a1_5) = false := beq_eq_false_iff_ne.mpr c14
     have c14b1 : (a0_5 != a1_5) = true := bne_iff_ne.mpr c14
     obtain rfl := Option.some.inj H
     go_enter Try.func16, Try.ntmps16
     go_wp2_with (first | ((with_reducible refine gate_dst (N := 2) rfl ?_); refine boxE #[.int .i64 a0_0, .bool a0_1, .int .i64 a0_2, .int .i64 a0_3, .slice A0_4 l0_4.length c0_4, .int .i64 a0_5, .int .i64 a0_6, .int .i64 a0_7, .int .i64 a0_8] 32 (N := 2) rfl rfl ?_; intro gb372 hg w50 hbox hb; have BK372 := Aside0.mk hbox; have GW372 := gZ HB hg; have GE372 := gZ HB hg; replace HB := bS HB hb; clear hb hbox hg) | ((with_reducible refine gate_dst (N := 3) rfl ?_); refine boxE #[.int .i64 a1_0, .bool a1_1, .int .i64 a1_2, .int .i64 a1_3, .slice A1_4 l1_4.length c1_4, .int .i64 a1_5, .int .i64 a1_6, .int .i64 a1_7, .int .i64 a1_8] 32 (N := 3) rfl rfl ?_; intro gb373 hg w51 hbox hb; have BK373 := Aside0.mk hbox; have GW373 := gZ HB hg; have GE373 := gZ HB hg; replace HB := bS HB hb; have NB372_373 := nL BK372 hg; have NB373_372 := nG BK372 hg; replace BK372 := bK BK372 hb; clear hb hbox hg; have hnb52 := NB372_373.out; have hnc52 := NB373_372.out; have hz53 := cl9 BK372; have hz54 := cl9 BK373) | ((with_reducible refine gate_callee (f := 65) rfl ?_); refine goA (some 29) rfl rfl Try.func65 rfl #[.slice A0_4 l0_4.length c0_4, .slice A1_4 l1_4.length c1_4] rfl ?_; (with_reducible refine (laws_eqEntryS.calls k _ _ l0_4 _ _ l1_4 true _ ?side1 ?side2 ?side3 ?side4 A12.out).mono ?_); (case side1 => exact mC HR0_4 HB); (case side2 => exact HC0_4.out); (case side3 => exact mC HR1_4 HB); (case side4 => exact HC1_4.out); rintro e w55 ⟨rfl, hb⟩; refine ⟨_, rfl, ?_⟩; replace BK372 := bK BK372 hb; replace BK373 := bK BK373 hb; replace HB := bS HB hb; (try clear hb); (try clear hb2); (try clear hk); (try clear hi); have hz56 := cl9 BK372; have hz57 := cl9 BK373))
     go_ret
     exact ⟨by first | rfl | (simp [errW_none, errW_some] <;> rfl) | (simp [*, errW_none, errW_some] <;> rfl), bel HB⟩
    replace c13 := Bool.eq_false_iff.mpr c13
    subst c13
    have H1 : (some false) = some r := by rw [if_neg (show ¬ (false = true) by decide)] at H; first | done | exact H
    clear H
    have H := H1
    clear H1
    obtain rfl := Option.some.inj H
    go_enter Try.func16, Try.ntmps16
    go_wp2_with (first | ((with_reducible refine gate_dst (N := 2) rfl ?_); refine boxE #[.int .i64 a0_0, .bool a0_1, .int .i64 a0_2, .int .i64 a0_3, .slice A0_4 l0_4.length c0_4, .int .i64 a0_5, .int .i64 a0_6, .int .i64 a0_7, .int .i64 a0_8] 32 (N := 2) rfl rfl ?_; intro gb372 hg w58 hbox hb; have BK372 := Aside0.mk hbox; have GW372 := gZ HB hg; have GE372 := gZ HB hg; replace HB := bS HB hb; clear hb hbox hg) | ((with_reducible refine gate_dst (N := 3) rfl ?_); refine boxE #[.int .i64 a1_0, .bool a1_1, .int .i64 a1_2, .int .i64 a1_3, .slice A1_4 l1_4.length c1_4, .int .i64 a1_5, .int .i64 a1_6, .int .i64 a1_7, .int .i64 a1_8] 32 (N := 3) rfl rfl ?_; intro gb373 hg w59 hbox hb; have BK373 := Aside0.mk hbox; have GW373 := gZ HB hg; have GE373 := gZ HB hg; replace HB := bS HB hb; have NB372_373 := nL BK372 hg; have NB373_372 := nG BK372 hg; replace BK372 := bK BK372 hb; clear hb hbox hg; have hnb60 := NB372_373.out; have hnc60 := NB373_372.out; have hz61 := cl9 BK372; have hz62 := cl9 BK373) | ((with_reducible refine gate_callee (f := 65) rfl ?_); refine goA (some 29) rfl rfl Try.func65 rfl #[.slice A0_4 l0_4.length c0_4, .slice A1_4 l1_4.length c1_4] rfl ?_; (with_reducible refine (laws_eqEntryS.calls k _ _ l0_4 _ _ l1_4 false _ ?side1 ?side2 ?side3 ?side4 A12.out).mono ?_); (case side1 => exact mC HR0_4 HB); (case side2 => exact HC0_4.out); (case side3 => exact mC HR1_4 HB); (case side4 => exact HC1_4.out); rintro e w63 ⟨rfl, hb⟩; refine ⟨_, rfl, ?_⟩; replace BK372 := bK BK372 hb; replace BK373 := bK BK373 hb; replace HB := bS HB hb; (try clear hb); (try clear hb2); (try clear hk); (try clear hi)))
    go_ret
    exact ⟨by first | rfl | (simp [errW_none, errW_some] <;> rfl) | (simp [*, errW_none, errW_some] <;> rfl), bel HB⟩
   rw [if_neg c11] at H
   have c11b0 : (a0_3 == a1_3) = false := beq_eq_false_iff_ne.mpr c11
   have c11b1 : (a0_3 != a1_3) = true := bne_iff_ne.mpr c11
   obtain rfl := Option.some.inj H
   go_enter Try.func16, Try.ntmps16
   go_wp2_with (first | ((with_reducible refine gate_dst (N := 2) rfl ?_); refine boxE #[.int .i64 a0_0, .bool a0_1, .int .i64 a0_2, .int .i64 a0_3, .slice A0_4 l0_4.length c0_4, .int .i64 a0_5, .int .i64 a0_6, .int .i64 a0_7, .int .i64 a0_8] 32 (N := 2) rfl rfl ?_; intro gb372 hg w64 hbox hb; have BK372 := Aside0.mk hbox; have GW372 := gZ HB hg; have GE372 := gZ HB hg; replace HB := bS HB hb; clear hb hbox hg) | ((with_reducible refine gate_dst (N := 3) rfl ?_); refine boxE #[.int .i64 a1_0, .bool a1_1, .int .i64 a1_2, .int .i64 a1_3, .slice A1_4 l1_4.length c1_4, .int .i64 a1_5, .int .i64 a1_6, .int .i64 a1_7, .int .i64 a1_8] 32 (N := 3) rfl rfl ?_; intro gb373 hg w65 hbox hb; have BK373 := Aside0.mk hbox; have GW373 := gZ HB hg; have GE373 := gZ HB hg; replace HB := bS HB hb; have NB372_373 := nL BK372 hg; have NB373_372 := nG BK372 hg; replace BK372 := bK BK372 hb; clear hb hbox hg; have hnb66 := NB372_373.out; have hnc66 := NB373_372.out; have hz67 := cl9 BK372; have hz68 := cl9 BK373))
   go_ret
   exact ⟨by first | rfl | (simp [errW_none, errW_some] <;> rfl) | (simp [*, errW_none, errW_some] <;> rfl), bel HB⟩
  rw [if_neg c10] at H
  have c10b0 : (a0_2 == a1_2) = false := beq_eq_false_iff_ne.mpr c10
  have c10b1 : (a0_2 != a1_2) = true := bne_iff_ne.mpr c10
  obtain rfl := Option.some.inj H
  go_enter Try.func16, Try.ntmps16
  go_wp2_with (first | ((with_reducible refine gate_dst (N := 2) rfl ?_); refine boxE #[.int .i64 a0_0, .bool a0_1, .int .i64 a0_2, .int .i64 a0_3, .slice A0_4 l0_4.length c0_4, .int .i64 a0_5, .int .i64 a0_6, .int .i64 a0_7, .int .i64 a0_8] 32 (N := 2) rfl rfl ?_; intro gb372 hg w69 hbox hb; have BK372 := Aside0.mk hbox; have GW372 := gZ HB hg; have GE372 := gZ HB hg; replace HB := bS HB hb; clear hb hbox hg) | ((with_reducible refine gate_dst (N := 3) rfl ?_); refine boxE #[.int .i64 a1_0, .bool a1_1, .int .i64 a1_2, .int .i64 a1_3, .slice A1_4 l1_4.length c1_4, .int .i64 a1_5, .int .i64 a1_6, .int .i64 a1_7, .int .i64 a1_8] 32 (N := 3) rfl rfl ?_; intro gb373 hg w70 hbox hb; have BK373 := Aside0.mk hbox; have GW373 := gZ HB hg; have GE373 := gZ HB hg; replace HB := bS HB hb; have NB372_373 := nL BK372 hg; have NB373_372 := nG BK372 hg; replace BK372 := bK BK372 hb; clear hb hbox hg; have hnb71 := NB372_373.out; have hnc71 := NB373_372.out; have hz72 := cl9 BK372; have hz73 := cl9 BK373))
  go_ret
  exact ⟨by first | rfl | (simp [errW_none, errW_some] <;> rfl) | (simp [*, errW_none, errW_some] <;> rfl), bel HB⟩
 rw [if_neg c3] at H
 have c3b0 : (a0_0 == a1_0) = false := beq_eq_false_iff_ne.mpr c3
 have c3b1 : (a0_0 != a1_0) = true := bne_iff_ne.mpr c3
 obtain rfl := Option.some.inj H
 go_enter Try.func16, Try.ntmps16
 go_wp2_with (first | ((with_reducible refine gate_dst (N := 2) rfl ?_); refine boxE #[.int .i64 a0_0, .bool a0_1, .int .i64 a0_2, .int .i64 a0_3, .slice A0_4 l0_4.length c0_4, .int .i64 a0_5, .int .i64 a0_6, .int .i64 a0_7, .int .i64 a0_8] 32 (N := 2) rfl rfl ?_; intro gb372 hg w74 hbox hb; have BK372 := Aside0.mk hbox; have GW372 := gZ HB hg; have GE372 := gZ HB hg; replace HB := bS HB hb; clear hb hbox hg) | ((with_reducible refine gate_dst (N := 3) rfl ?_); refine boxE #[.int .i64 a1_0, .bool a1_1, .int .i64 a1_2, .int .i64 a1_3, .slice A1_4 l1_4.length c1_4, .int .i64 a1_5, .int .i64 a1_6, .int .i64 a1_7, .int .i64 a1_8] 32 (N := 3) rfl rfl ?_; intro gb373 hg w75 hbox hb; have BK373 := Aside0.mk hbox; have GW373 := gZ HB hg; have GE373 := gZ HB hg; replace HB := bS HB hb; have NB372_373 := nL BK372 hg; have NB373_372 := nG BK372 hg; replace BK372 := bK BK372 hb; clear hb hbox hg; have hnb76 := NB372_373.out; have hnc76 := NB373_372.out; have hz77 := cl9 BK372; have hz78 := cl9 BK373))
 go_ret
 exact ⟨by first | rfl | (simp [errW_none, errW_some] <;> rfl) | (simp [*, errW_none, errW_some] <;> rfl), bel HB⟩

end Go.Proofs.Ytgfoifkkffffgab.PFnExactAddEvent
