-- Laid by a turned copy of the printer (wip/tools/patch_print.py)
import Derived.Test.YtgfoifkkffffgabPFnLeasesx0
import Derived.Test.YtgfoifkkffffgabPFnLeasesx1
namespace Go.Proofs.Ytgfoifkkffffgab.PFnLeases
open Go.RowKit Go.Proofs.YtgfoifkkffffgabW.PrintWords Go.Proofs.YtgfoifkkffffgabW.PrintLast Go.Proofs.YtgfoifkkffffgabW.PrintMore
attribute [local go_sem] max2_int min2_int max_two min_two max_three min_three max_four min_four   -- for this text's walks alone
set_option linter.unusedVariables false
set_option linter.unusedSimpArgs false

/-! ### laws_lwAt: function 41 -/
def laws_lwAt.f (l0 : List Int) (a1 : Int) (a2 : Int) : Option (Int) := if a2 ≤ 1 then (some 0) else (if (l0.length : Int) = 0 then (if a2 = 0 then (none) else (some (Int.tmod (wrap64 (a1 * 7)) a2))) else (if 0 ≤ (Int.tmod a1 (l0.length : Int)) then (if (Int.tmod a1 (l0.length : Int)) < (l0.length : Int) then (if a2 > 200 then (if 0 ≤ (Int.tmod (wrap64 (a1 + 1)) (l0.length : Int)) then (if (Int.tmod (wrap64 (a1 + 1)) (l0.length : Int)) < (l0.length : Int) then (if a2 = 0 then (none) else (some (Int.tmod (wrap64 ((wrap64 ((wrap64 ((wrap64 (rd l0 (Int.tmod a1 (l0.length : Int)))) + (wrap64 ((wrap64 (Int.tdiv a1 (l0.length : Int))) * 3)))) * 251)) + (wrap64 (rd l0 (Int.tmod (wrap64 (a1 + 1)) (l0.length : Int)))))) a2))) else (none)) else (none)) else (if a2 = 0 then (none) else (some (Int.tmod (wrap64 ((wrap64 (rd l0 (Int.tmod a1 (l0.length : Int)))) + (wrap64 ((wrap64 (Int.tdiv a1 (l0.length : Int))) * 3)))) a2)))) else (none)) else (none)))
set_option maxHeartbeats 8000000 in
set_option maxRecDepth 100000 in
theorem laws_lwAt.calls (A0 : Option Addr) (c0 : Nat) (l0 : List Int) (a1 : Int) (a2 : Int) (r : Int) (w : World) (hr0 : Kd.C (Kd.int .u8) w A0 l0.length l0) (hc0 : l0.length ≤ c0) (h : laws_lwAt.f l0 a1 a2 = some r) :
  Calls Try.prog 41 #[.slice A0 l0.length c0, .int .i64 a1, .int .i64 a2] w fun e w' => e = .returned (.int .i64 r) ∧ Drawn0 w w' := by
 have HR0 := Aside0.mk hr0
 have HC0 := Aside0.mk hc0
 clear hr0 hc0
 have H : (if a2 ≤ 1 then (some 0) else (if (l0.length : Int) = 0 then (if a2 = 0 then (none) else (some (Int.tmod (wrap64 (a1 * 7)) a2))) else (if 0 ≤ (Int.tmod a1 (l0.length : Int)) then (if (Int.tmod a1 (l0.length : Int)) < (l0.length : Int) then (if a2 > 200 then (if 0 ≤ (Int.tmod (wrap64 (a1 + 1)) (l0.length : Int)) then (if (Int.tmod (wrap64 (a1 + 1)) (l0.length : Int)) < (l0.length : Int) then (if a2 = 0 then (none) else (some (Int.tmod (wrap64 ((wrap64 ((wrap64 ((wrap64 (rd l0 (Int.tmod a1 (l0.length : Int)))) + (wrap64 ((wrap64 (Int.tdiv a1 (l0.length : Int))) * 3)))) * 251)) + (wrap64 (rd l0 (Int.tmod (wrap64 (a1 + 1)) (l0.length : Int)))))) a2))) else (none)) else (none)) else (if a2 = 0 then (none) else (some (Int.tmod (wrap64 ((wrap64 (rd l0 (Int.tmod a1 (l0.length : Int)))) + (wrap64 ((wrap64 (Int.tdiv a1 (l0.length : Int))) * 3)))) a2)))) else (none)) else (none)))) = some r := h
 clear h
 by_cases c4 : a2 ≤ 1
 ·
  rw [if_pos c4] at H
  have c4b0 : decide (a2 ≤ 1) = true := decide_eq_true c4
  clear c4
  obtain rfl := Option.some.inj H
  go_enter Try.func41, Try.ntmps41
  go_wp2
  repeat (go_quiet (fail); try go_wp2)
  go_ret
  exact ⟨by first | rfl | (simp; done) | (simp [*]; done), drw⟩
 rw [if_neg c4] at H
 have c4b0 : decide (a2 ≤ 1) = false := decide_eq_false c4
 clear c4
 by_cases c5 : (l0.length : Int) = 0
 ·
  rw [if_pos c5] at H
  have c5b0 : ((l0.length : Int) == 0) = true := beq_iff_eq.mpr c5
  have c5b1 : ((l0.length : Int) != 0) = false := bne_eq_false_iff_eq.mpr c5
  clear c5
  by_cases c6 : a2 = 0
  ·
   rw [if_pos c6] at H
   exact absurd H (by simp)
  rw [if_neg c6] at H
  have c6b0 : (a2 == 0) = false := beq_eq_false_iff_ne.mpr c6
  have c6b1 : (a2 != 0) = true := bne_iff_ne.mpr c6
  obtain rfl := Option.some.inj H
  go_enter Try.func41, Try.ntmps41
  go_wp2
  repeat (go_quiet (fail); try go_wp2)
  go_ret
  exact ⟨by first | rfl | (simp; done) | (simp [*]; done), drw⟩
 rw [if_neg c5] at H
 have c5b0 : ((l0.length : Int) == 0) = false := beq_eq_false_iff_ne.mpr c5
 have c5b1 : ((l0.length : Int) != 0) = true := bne_iff_ne.mpr c5
 have c5b2 : ¬ (l0 = []) := fun h_ => c5 (by rw [h_]; rfl)
 obtain ⟨ji7, hji7⟩ : ∃ j_ : Int, (Int.tmod a1 (l0.length : Int)) = j_ := ⟨_, rfl⟩
 replace H : (if 0 ≤ (ji7) then (if (ji7) < (l0.length : Int) then (if a2 > 200 then (if 0 ≤ (Int.tmod (wrap64 (a1 + 1)) (l0.length : Int)) then (if (Int.tmod (wrap64 (a1 + 1)) (l0.length : Int)) < (l0.length : Int) then (if a2 = 0 then (none) else (some (Int.tmod (wrap64 ((wrap64 ((wrap64 ((wrap64 (rd l0 (ji7))) + (wrap64 ((wrap64 (Int.tdiv a1 (l0.length : Int))) * 3)))) * 251)) + (wrap64 (rd l0 (Int.tmod (wrap64 (a1 + 1)) (l0.length : Int)))))) a2))) else (none)) else (none)) else (if a2 = 0 then (none) else (some (Int.tmod (wrap64 ((wrap64 (rd l0 (ji7))) + (wrap64 ((wrap64 (Int.tdiv a1 (l0.length : Int))) * 3)))) a2)))) else (none)) else (none)) = some r := by first | (rw [hji7] at H; exact H) | (simp only [hji7] at H ⊢; exact H)
 by_cases c8 : 0 ≤ (ji7)
 ·
  rw [if_pos c8] at H
  have c8b0 : decide (0 ≤ (ji7)) = true := decide_eq_true c8
  clear c8
  by_cases c9 : (ji7) < (l0.length : Int)
  ·
   rw [if_pos c9] at H
   have c9b0 : decide ((ji7) < (l0.length : Int)) = true := decide_eq_true c9
   clear c9
   by_cases c10 : a2 > 200
   ·
    rw [if_pos c10] at H
    have c10b0 : decide (200 < a2) = true := decide_eq_true c10
    clear c10
    obtain ⟨ji11, hji11⟩ : ∃ j_ : Int, (Int.tmod (wrap64 (a1 + 1)) (l0.length : Int)) = j_ := ⟨_, rfl⟩
    replace H : (if 0 ≤ (ji11) then (if (ji11) < (l0.length : Int) then (if a2 = 0 then (none) else (some (Int.tmod (wrap64 ((wrap64 ((wrap64 ((wrap64 (rd l0 (ji7))) + (wrap64 ((wrap64 (Int.tdiv a1 (l0.length : Int))) * 3)))) * 251)) + (wrap64 (rd l0 (ji11))))) a2))) else (none)) else (none)) = some r := by first | (rw [hji11] at H; exact H) | (simp only [hji11] at H ⊢; exact H)
    by_cases c12 : 0 ≤ (ji11)
    ·
     rw [if_pos c12] at H
     have c12b0 : decide (0 ≤ (ji11)) = true := decide_eq_true c12
     clear c12
     by_cases c13 : (ji11) < (l0.length : Int)
     ·
      rw [if_pos c13] at H
      have c13b0 : decide ((ji11) < (l0.length : Int)) = true := decide_eq_true c13
      clear c13
      by_cases c14 : a2 = 0
      ·
       rw [if_pos c14] at H
       exact absurd H (by simp)
      rw [if_neg c14] at H
      have c14b0 : (a2 == 0) = false := beq_eq_false_iff_ne.mpr c14
      have c14b1 : (a2 != 0) = true := bne_iff_ne.mpr c14
      obtain rfl := Option.some.inj H
      have p116 : 0 ≤ ((ji7) : Int) := of_decide_eq_true (by first | (with_reducible assumption) | assumption)
      have q116 : (ji7) < (l0.length : Int) := of_decide_eq_true (by first | (with_reducible assumption) | assumption)
      obtain ⟨ad116, e116, hx116_0⟩ := Kd.at_int HR0.out (ji7) p116 q116
      cases e116
      replace p116 := eq_true p116
      replace q116 := eq_true q116
      have p117 : 0 ≤ ((ji11) : Int) := of_decide_eq_true (by first | (with_reducible assumption) | assumption)
      have q117 : (ji11) < (l0.length : Int) := of_decide_eq_true (by first | (with_reducible assumption) | assumption)
      obtain ⟨ad117, e117, hx117_0⟩ := Kd.at_int HR0.out (ji11) p117 q117
      obtain rfl : ad116 = ad117 := (by injection e117)
      replace p117 := eq_true p117
      replace q117 := eq_true q117
      go_enter Try.func41, Try.ntmps41
      go_wp2
      repeat (go_quiet (fail); try go_wp2)
      go_ret
      exact ⟨by first | rfl | (simp; done) | (simp only [← hji7, ← hji11] <;> (first | rfl | simp)) | (simp [*]; done), drw⟩
     rw [if_neg c13] at H
     exact absurd H (by simp)
    rw [if_neg c12] at H
    exact absurd H (by simp)
   rw [if_neg c10] at H
   have c10b0 : decide (200 < a2) = false := decide_eq_false c10
   clear c10
   by_cases c15 : a2 = 0
   ·
    rw [if_pos c15] at H
    exact absurd H (by simp)
   rw [if_neg c15] at H
   have c15b0 : (a2 == 0) = false := beq_eq_false_iff_ne.mpr c15
   have c15b1 : (a2 != 0) = true := bne_iff_ne.mpr c15
   obtain rfl := Option.some.inj H
   have p116 : 0 ≤ ((ji7) : Int) := of_decide_eq_true (by first | (with_reducible assumption) | assumption)
   have q116 : (ji7) < (l0.length : Int) := of_decide_eq_true (by first | (with_reducible assumption) | assumption)
   obtain ⟨ad116, e116, hx116_0⟩ := Kd.at_int HR0.out (ji7) p116 q116
   cases e116
   replace p116 := eq_true p116
   replace q116 := eq_true q116
   go_enter Try.func41, Try.ntmps41
   go_wp2
   repeat (go_quiet (fail); try go_wp2)
   go_ret
   exact ⟨by first | rfl | (simp; done) | (simp only [← hji7] <;> (first | rfl | simp)) | (simp [*]; done), drw⟩
  rw [if_neg c9] at H
  exact absurd H (by simp)
 rw [if_neg c8] at H
 exact absurd H (by simp)

/-! ### impl_isNode: function 89 -/
def impl_isNode.f (a0 : Int) : Option (Bool) := (impl_in.f a0 0 1).bind fun t118 => (some t118)
set_option maxHeartbeats 8000000 in
set_option maxRecDepth 100000 in
theorem impl_isNode.calls (a0 : Int) (r : Bool) (w : World) (h : impl_isNode.f a0 = some r) :
  Calls Try.prog 89 #[.int .i64 a0] w fun e w' => e = .returned (.bool r) ∧ Drawn0 w w' := by
 have H : ((impl_in.f a0 0 1).bind fun t118 => (some t118)) = some r := h
 clear h
 replace H := Option.bind_eq_some_iff.mp H
 obtain ⟨t118, A20, H⟩ := H
 replace H : (some t118) = some r := H
 have A2 := Aside0.mk A20
 clear A20
 obtain rfl := Option.some.inj H
 go_enter Try.func89, Try.ntmps89
 go_wp2_with (first | ((with_reducible refine gate_callee (f := 87) rfl ?_); refine goA (some 4) rfl rfl Try.func87 rfl #[.int .i64 a0, .int .i64 0, .int .i64 1] rfl ?_; (with_reducible refine (impl_in.calls a0 0 1 t118 _ A2.out).mono ?_); rintro e w' ⟨rfl, ⟨nd, rfl⟩⟩; refine ⟨_, rfl, ?_⟩))
 go_ret
 exact ⟨by first | rfl | (simp; done) | (simp [*]; done), drw⟩

/-! ### impl_isSeen: function 104 -/
def impl_isSeen.f (a0 : Int) : Option (Bool) := (impl_in.f a0 0 1000000002).bind fun t119 => (some t119)
set_option maxHeartbeats 8000000 in
set_option maxRecDepth 100000 in
theorem impl_isSeen.calls (a0 : Int) (r : Bool) (w : World) (h : impl_isSeen.f a0 = some r) :
  Calls Try.prog 104 #[.int .i64 a0] w fun e w' => e = .returned (.bool r) ∧ Drawn0 w w' := by
 have H : ((impl_in.f a0 0 1000000002).bind fun t119 => (some t119)) = some r := h
 clear h
 replace H := Option.bind_eq_some_iff.mp H
 obtain ⟨t119, A20, H⟩ := H
 replace H : (some t119) = some r := H
 have A2 := Aside0.mk A20
 clear A20
 obtain rfl := Option.some.inj H
 go_enter Try.func104, Try.ntmps104
 go_wp2_with (first | ((with_reducible refine gate_callee (f := 87) rfl ?_); refine goA (some 4) rfl rfl Try.func87 rfl #[.int .i64 a0, .int .i64 0, .int .i64 1000000002] rfl ?_; (with_reducible refine (impl_in.calls a0 0 1000000002 t119 _ A2.out).mono ?_); rintro e w' ⟨rfl, ⟨nd, rfl⟩⟩; refine ⟨_, rfl, ?_⟩))
 go_ret
 exact ⟨by first | rfl | (simp; done) | (simp [*]; done), drw⟩

/-! ### impl_isEpoch: function 105 -/
def impl_isEpoch.f (a0 : Int) : Option (Bool) := (impl_in.f a0 1 1000).bind fun t120 => (some t120)
set_option maxHeartbeats 8000000 in
set_option maxRecDepth 100000 in
theorem impl_isEpoch.calls (a0 : Int) (r : Bool) (w : World) (h : impl_isEpoch.f a0 = some r) :
  Calls Try.prog 105 #[.int .i64 a0] w fun e w' => e = .returned (.bool r) ∧ Drawn0 w w' := by
 have H : ((impl_in.f a0 1 1000).bind fun t120 => (some t120)) = some r := h
 clear h
 replace H := Option.bind_eq_some_iff.mp H
 obtain ⟨t120, A20, H⟩ := H
 replace H : (some t120) = some r := H
 have A2 := Aside0.mk A20
 clear A20
 obtain rfl := Option.some.inj H
 go_enter Try.func105, Try.ntmps105
 go_wp2_with (first | ((with_reducible refine gate_callee (f := 87) rfl ?_); refine goA (some 4) rfl rfl Try.func87 rfl #[.int .i64 a0, .int .i64 1, .int .i64 1000] rfl ?_; (with_reducible refine (impl_in.calls a0 1 1000 t120 _ A2.out).mono ?_); rintro e w' ⟨rfl, ⟨nd, rfl⟩⟩; refine ⟨_, rfl, ?_⟩))
 go_ret
 exact ⟨by first | rfl | (simp; done) | (simp [*]; done), drw⟩

/-! ### impl_LeaseFault: function 47 -/
def impl_LeaseFault.f (a0_0 : Int) (a0_1 : Int) (a0_2 : Int) (a0_3 : Int) : Option (Int) := (impl_isNode.f a0_0).bind fun t122 => (if t122 = true then ((impl_isEpoch.f a0_1).bind fun t123 => (if t123 = true then ((impl_isSeen.f a0_2).bind fun t124 => (if t124 = true then ((impl_isSeen.f a0_3).bind fun t125 => (if t125 = true then (some 0) else (some 3))) else (some 3))) else (some 3))) else (some 3))
set_option maxHeartbeats 8000000 in
set_option maxRecDepth 100000 in
theorem impl_LeaseFault.calls (a0_0 : Int) (a0_1 : Int) (a0_2 : Int) (a0_3 : Int) (r : Int) (w : World) (h : impl_LeaseFault.f a0_0 a0_1 a0_2 a0_3 = some r) :
  Calls Try.prog 47 #[.agg #[.int .i64 a0_0, .int .i64 a0_1, .int .i64 a0_2, .int .i64 a0_3]] w fun e w' => e = .returned (.int .i64 r) ∧ Below w.heap.size w w' := by
 have hu73 := Try.underlying73
 have HB := am (Below.refl w.heap.size w)
 have H : ((impl_isNode.f a0_0).bind fun t122 => (if t122 = true then ((impl_isEpoch.f a0_1).bind fun t123 => (if t123 = true then ((impl_isSeen.f a0_2).bind fun t124 => (if t124 = true then ((impl_isSeen.f a0_3).bind fun t125 => (if t125 = true then (some 0) else (some 3))) else (some 3))) else (some 3))) else (some 3))) = some r := h
 clear h
 replace H := Option.bind_eq_some_iff.mp H
 obtain ⟨t122, A20, H⟩ := H
 replace H : (if t122 = true then ((impl_isEpoch.f a0_1).bind fun t123 => (if t123 = true then ((impl_isSeen.f a0_2).bind fun t124 => (if t124 = true then ((impl_isSeen.f a0_3).bind fun t125 => (if t125 = true then (some 0) else (some 3))) else (some 3))) else (some 3))) else (some 3)) = some r := H
 have A2 := Aside0.mk A20
 clear A20
 by_cases c3 : t122 = true
 ·
  subst c3
  have H1 : ((impl_isEpoch.f a0_1).bind fun t123 => (if t123 = true then ((impl_isSeen.f a0_2).bind fun t124 => (if t124 = true then ((impl_isSeen.f a0_3).bind fun t125 => (if t125 = true then (some 0) else (some 3))) else (some 3))) else (some 3))) = some r := by rw [if_pos rfl] at H; first | done | exact H
  clear H
  have H := H1
  clear H1
  replace H := Option.bind_eq_some_iff.mp H
  obtain ⟨t123, A40, H⟩ := H
  replace H : (if t123 = true then ((impl_isSeen.f a0_2).bind fun t124 => (if t124 = true then ((impl_isSeen.f a0_3).bind fun t125 => (if t125 = true then (some 0) else (some 3))) else (some 3))) else (some 3)) = some r := H
  have A4 := Aside0.mk A40
  clear A40
  by_cases c5 : t123 = true
  ·
   subst c5
   have H1 : ((impl_isSeen.f a0_2).bind fun t124 => (if t124 = true then ((impl_isSeen.f a0_3).bind fun t125 => (if t125 = true then (some 0) else (some 3))) else (some 3))) = some r := by rw [if_pos rfl] at H; first | done | exact H
   clear H
   have H := H1
   clear H1
   replace H := Option.bind_eq_some_iff.mp H
   obtain ⟨t124, A60, H⟩ := H
   replace H : (if t124 = true then ((impl_isSeen.f a0_3).bind fun t125 => (if t125 = true then (some 0) else (some 3))) else (some 3)) = some r := H
   have A6 := Aside0.mk A60
   clear A60
   by_cases c7 : t124 = true
   ·
    subst c7
    have H1 : ((impl_isSeen.f a0_3).bind fun t125 => (if t125 = true then (some 0) else (some 3))) = some r := by rw [if_pos rfl] at H; first | done | exact H
    clear H
    have H := H1
    clear H1
    replace H := Option.bind_eq_some_iff.mp H
    obtain ⟨t125, A80, H⟩ := H
    replace H : (if t125 = true then (some 0) else (some 3)) = some r := H
    have A8 := Aside0.mk A80
    clear A80
    by_cases c9 : t125 = true
    ·
     subst c9
     have H1 : (some 0) = some r := by rw [if_pos rfl] at H; first | done | exact H
     clear H
     have H := H1
     clear H1
     obtain rfl := Option.some.inj H
     go_enter Try.func47, Try.ntmps47
     go_wp2_with (first | ((with_reducible refine gate_dst (N := 1) rfl ?_); refine boxE #[.int .i64 a0_0, .int .i64 a0_1, .int .i64 a0_2, .int .i64 a0_3] 73 (N := 1) rfl rfl ?_; intro gb121 hg w10 hbox hb; have BK121 := Aside0.mk hbox; have GW121 := gZ HB hg; have GE121 := gZ HB hg; replace HB := bS HB hb; clear hb hbox hg; have hz11 := cl4 BK121) | ((with_reducible refine gate_callee (f := 89) rfl ?_); refine goA (some 5) rfl rfl Try.func89 rfl #[.int .i64 a0_0] rfl ?_; (with_reducible refine (impl_isNode.calls a0_0 true _ A2.out).mono ?_); rintro e w' ⟨rfl, ⟨nd, rfl⟩⟩; refine ⟨_, rfl, ?_⟩) | (go_at_call 105; (with_reducible refine (impl_isEpoch.calls a0_1 true _ A4.out).mono ?_); rintro e w' ⟨rfl, ⟨nd, rfl⟩⟩) | (go_at_call 104; (with_reducible refine (impl_isSeen.calls a0_2 true _ A6.out).mono ?_); rintro e w' ⟨rfl, ⟨nd, rfl⟩⟩) | (go_at_call 104; (with_reducible refine (impl_isSeen.calls a0_3 true _ A8.out).mono ?_); rintro e w' ⟨rfl, ⟨nd, rfl⟩⟩))
     go_ret
     exact ⟨by first | rfl | (simp [errW_none, errW_some] <;> rfl) | (simp [*, errW_none, errW_some] <;> rfl), bel HB⟩
    replace c9 := Bool.eq_false_iff.mpr c9
    subst c9
    have H1 : (some 3) = some r := by rw [if_neg (show ¬ (false = true) by decide)] at H; first | done | exact H
    clear H
    have H := H1
    clear H1
    obtain rfl := Option.some.inj H
    go_enter Try.func47, Try.ntmps47
    go_wp2_with (first | ((with_reducible refine gate_dst (N := 1) rfl ?_); refine boxE #[.int .i64 a0_0, .int .i64 a0_1, .int .i64 a0_2, .int .i64 a0_3] 73 (N := 1) rfl rfl ?_; intro gb121 hg w12 hbox hb; have BK121 := Aside0.mk hbox; have GW121 := gZ HB hg; have GE121 := gZ HB hg; replace HB := bS HB hb; clear hb hbox hg; have hz13 := cl4 BK121) | ((with_reducible refine gate_callee (f := 89) rfl ?_); refine goA (some 5) rfl rfl Try.func89 rfl #[.int .i64 a0_0] rfl ?_; (with_reducible refine (impl_isNode.calls a0_0 true _ A2.out).mono ?_); rintro e w' ⟨rfl, ⟨nd, rfl⟩⟩; refine ⟨_, rfl, ?_⟩) | (go_at_call 105; (with_reducible refine (impl_isEpoch.calls a0_1 true _ A4.out).mono ?_); rintro e w' ⟨rfl, ⟨nd, rfl⟩⟩) | (go_at_call 104; (with_reducible refine (impl_isSeen.calls a0_2 true _ A6.out).mono ?_); rintro e w' ⟨rfl, ⟨nd, rfl⟩⟩) | (go_at_call 104; (with_reducible refine (impl_isSeen.calls a0_3 false _ A8.out).mono ?_); rintro e w' ⟨rfl, ⟨nd, rfl⟩⟩))
    go_ret
    exact ⟨by first | rfl | (simp [errW_none, errW_some] <;> rfl) | (simp [*, errW_none, errW_some] <;> rfl), bel HB⟩
   replace c7 := Bool.eq_false_iff.mpr c7
   subst c7
   have H1 : (some 3) = some r := by rw [if_neg (show ¬ (false = true) by decide)] at H; first | done | exact H
   clear H
   have H := H1
   clear H1
   obtain rfl := Option.some.inj H
   go_enter Try.func47, Try.ntmps47
   go_wp2_with (first | ((with_reducible refine gate_dst (N := 1) rfl ?_); refine boxE #[.int .i64 a0_0, .int .i64 a0_1, .int .i64 a0_2, .int .i64 a0_3] 73 (N := 1) rfl rfl ?_; intro gb121 hg w14 hbox hb; have BK121 := Aside0.mk hbox; have GW121 := gZ HB hg; have GE121 := gZ HB hg; replace HB := bS HB hb; clear hb hbox hg; have hz15 := cl4 BK121) | ((with_reducible refine gate_callee (f := 89) rfl ?_); refine goA (some 5) rfl rfl Try.func89 rfl #[.int .i64 a0_0] rfl ?_; (with_reducible refine (impl_isNode.calls a0_0 true _ A2.out).mono ?_); rintro e w' ⟨rfl, ⟨nd, rfl⟩⟩; refine ⟨_, rfl, ?_⟩) | (go_at_call 105; (with_reducible refine (impl_isEpoch.calls a0_1 true _ A4.out).mono ?_); rintro e w' ⟨rfl, ⟨nd, rfl⟩⟩) | (go_at_call 104; (with_reducible refine (impl_isSeen.calls a0_2 false _ A6.out).mono ?_); rintro e w' ⟨rfl, ⟨nd, rfl⟩⟩))
   go_ret
   exact ⟨by first | rfl | (simp [errW_none, errW_some] <;> rfl) | (simp [*, errW_none, errW_some] <;> rfl), bel HB⟩
  replace c5 := Bool.eq_false_iff.mpr c5
  subst c5
  have H1 : (some 3) = some r := by rw [if_neg (show ¬ (false = true) by decide)] at H; first | done | exact H
  clear H
  have H := H1
  clear H1
  obtain rfl := Option.some.inj H
  go_enter Try.func47, Try.ntmps47
  go_wp2_with (first | ((with_reducible refine gate_dst (N := 1) rfl ?_); refine boxE #[.int .i64 a0_0, .int .i64 a0_1, .int .i64 a0_2, .int .i64 a0_3] 73 (N := 1) rfl rfl ?_; intro gb121 hg w16 hbox hb; have BK121 := Aside0.mk hbox; have GW121 := gZ HB hg; have GE121 := gZ HB hg; replace HB := bS HB hb; clear hb hbox hg; have hz17 := cl4 BK121) | ((with_reducible refine gate_callee (f := 89) rfl ?_); refine goA (some 5) rfl rfl Try.func89 rfl #[.int .i64 a0_0] rfl ?_; (with_reducible refine (impl_isNode.calls a0_0 true _ A2.out).mono ?_); rintro e w' ⟨rfl, ⟨nd, rfl⟩⟩; refine ⟨_, rfl, ?_⟩) | (go_at_call 105; (with_reducible refine (impl_isEpoch.calls a0_1 false _ A4.out).mono ?_); rintro e w' ⟨rfl, ⟨nd, rfl⟩⟩))
  go_ret
  exact ⟨by first | rfl | (simp [errW_none, errW_some] <;> rfl) | (simp [*, errW_none, errW_some] <;> rfl), bel HB⟩
 replace c3 := Bool.eq_false_iff.mpr c3
 subst c3
 have H1 : (some 3) = some r := by rw [if_neg (show ¬ (false = true) by decide)] at H; first | done | exact H
 clear H
 have H := H1
 clear H1
 obtain rfl := Option.some.inj H
 go_enter Try.func47, Try.ntmps47
 go_wp2_with (first | ((with_reducible refine gate_dst (N := 1) rfl ?_); refine boxE #[.int .i64 a0_0, .int .i64 a0_1, .int .i64 a0_2, .int .i64 a0_3] 73 (N := 1) rfl rfl ?_; intro gb121 hg w18 hbox hb; have BK121 := Aside0.mk hbox; have GW121 := gZ HB hg; have GE121 := gZ HB hg; replace HB := bS HB hb; clear hb hbox hg; have hz19 := cl4 BK121) | ((with_reducible refine gate_callee (f := 89) rfl ?_); refine goA (some 5) rfl rfl Try.func89 rfl #[.int .i64 a0_0] rfl ?_; (with_reducible refine (impl_isNode.calls a0_0 false _ A2.out).mono ?_); rintro e w' ⟨rfl, ⟨nd, rfl⟩⟩; refine ⟨_, rfl, ?_⟩))
 go_ret
 exact ⟨by first | rfl | (simp [errW_none, errW_some] <;> rfl) | (simp [*, errW_none, errW_some] <;> rfl), bel HB⟩

/-! ### impl_MayLead: function 43 -/
def impl_MayLead.f (a0_0 : Int) (a0_1 : Int) (a0_2 : Int) (a0_3 : Int) (a1 : Int) : Option (Bool) := (impl_LeaseFault.f a0_0 a0_1 a0_2 a0_3).bind fun t127 => (if t127 = 0 then ((impl_isSeen.f a1).bind fun t128 => (if t128 = true then (some (decide (a1 < (wrap64 ((wrap64 (a0_2 + 10)) - 4))))) else (some false))) else (some false))
set_option maxHeartbeats 8000000 in
set_option maxRecDepth 100000 in
theorem impl_MayLead.calls (a0_0 : Int) (a0_1 : Int) (a0_2 : Int) (a0_3 : Int) (a1 : Int) (r : Bool) (w : World) (h : impl_MayLead.f a0_0 a0_1 a0_2 a0_3 a1 = some r) :
  Calls Try.prog 43 #[.agg #[.int .i64 a0_0, .int .i64 a0_1, .int .i64 a0_2, .int .i64 a0_3], .int .i64 a1] w fun e w' => e = .returned (.bool r) ∧ Below w.heap.size w w' := by
 have hu73 := Try.underlying73
 have HB := am (Below.refl w.heap.size w)
 have H : ((impl_LeaseFault.f a0_0 a0_1 a0_2 a0_3).bind fun t127 => (if t127 = 0 then ((impl_isSeen.f a1).bind fun t128 => (if t128 = true then (some (decide (a1 < (wrap64 ((wrap64 (a0_2 + 10)) - 4))))) else (some false))) else (some false))) = some r := h
 clear h
 replace H := Option.bind_eq_some_iff.mp H
 obtain ⟨t127, A30, H⟩ := H
 replace H : (if t127 = 0 then ((impl_isSeen.f a1).bind fun t128 => (if t128 = true then (some (decide (a1 < (wrap64 ((wrap64 (a0_2 + 10)) - 4))))) else (some false))) else (some false)) = some r := H
 have A3 := Aside0.mk A30
 clear A30
 by_cases c4 : t127 = 0
 ·
  rw [if_pos c4] at H
  have c4b0 : (t127 == 0) = true := beq_iff_eq.mpr c4
  have c4b1 : (t127 != 0) = false := bne_eq_false_iff_eq.mpr c4
  clear c4
  replace H := Option.bind_eq_some_iff.mp H
  obtain ⟨t128, A50, H⟩ := H
  replace H : (if t128 = true then (some (decide (a1 < (wrap64 ((wrap64 (a0_2 + 10)) - 4))))) else (some false)) = some r := H
  have A5 := Aside0.mk A50
  clear A50
  by_cases c6 : t128 = true
  ·
   subst c6
   have H1 : (some (decide (a1 < (wrap64 ((wrap64 (a0_2 + 10)) - 4))))) = some r := by rw [if_pos rfl] at H; first | done | exact H
   clear H
   have H := H1
   clear H1
   obtain rfl := Option.some.inj H
   go_enter Try.func43, Try.ntmps43
   go_wp2_with (first | ((with_reducible refine gate_dst (N := 2) rfl ?_); refine boxE #[.int .i64 a0_0, .int .i64 a0_1, .int .i64 a0_2, .int .i64 a0_3] 73 (N := 2) rfl rfl ?_; intro gb126 hg w7 hbox hb; have BK126 := Aside0.mk hbox; have GW126 := gZ HB hg; have GE126 := gZ HB hg; replace HB := bS HB hb; clear hb hbox hg; have hz8 := cl4 BK126) | ((with_reducible refine gate_callee (f := 47) rfl ?_); refine goA (some 6) rfl rfl Try.func47 rfl #[.agg #[.int .i64 a0_0, .int .i64 a0_1, .int .i64 a0_2, .int .i64 a0_3]] rfl ?_; (with_reducible refine (impl_LeaseFault.calls a0_0 a0_1 a0_2 a0_3 t127 _ A3.out).mono ?_); rintro e w9 ⟨rfl, hb⟩; refine ⟨_, rfl, ?_⟩; replace BK126 := bK BK126 hb; replace HB := bS HB hb; (try clear hb); (try clear hb2); (try clear hk); (try clear hi)) | (go_at_call 104; (with_reducible refine (impl_isSeen.calls a1 true _ A5.out).mono ?_); rintro e w' ⟨rfl, ⟨nd, rfl⟩⟩; have hz10 := cl4 BK126))
   go_ret
   exact ⟨by first | rfl | (simp [errW_none, errW_some] <;> rfl) | (simp [*, errW_none, errW_some] <;> rfl), bel HB⟩
  replace c6 := Bool.eq_false_iff.mpr c6
  subst c6
  have H1 : (some false) = some r := by rw [if_neg (show ¬ (false = true) by decide)] at H; first | done | exact H
  clear H
  have H := H1
  clear H1
  obtain rfl := Option.some.inj H
  go_enter Try.func43, Try.ntmps43
  go_wp2_with (first | ((with_reducible refine gate_dst (N := 2) rfl ?_); refine boxE #[.int .i64 a0_0, .int .i64 a0_1, .int .i64 a0_2, .int .i64 a0_3] 73 (N := 2) rfl rfl ?_; intro gb126 hg w11 hbox hb; have BK126 := Aside0.mk hbox; have GW126 := gZ HB hg; have GE126 := gZ HB hg; replace HB := bS HB hb; clear hb hbox hg; have hz12 := cl4 BK126) | ((with_reducible refine gate_callee (f := 47) rfl ?_); refine goA (some 6) rfl rfl Try.func47 rfl #[.agg #[.int .i64 a0_0, .int .i64 a0_1, .int .i64 a0_2, .int .i64 a0_3]] rfl ?_; (with_reducible refine (impl_LeaseFault.calls a0_0 a0_1 a0_2 a0_3 t127 _ A3.out).mono ?_); rintro e w13 ⟨rfl, hb⟩; refine ⟨_, rfl, ?_⟩; replace BK126 := bK BK126 hb; replace HB := bS HB hb; (try clear hb); (try clear hb2); (try clear hk); (try clear hi)) | (go_at_call 104; (with_reducible refine (impl_isSeen.calls a1 false _ A5.out).mono ?_); rintro e w' ⟨rfl, ⟨nd, rfl⟩⟩))
  go_ret
  exact ⟨by first | rfl | (simp [errW_none, errW_some] <;> rfl) | (simp [*, errW_none, errW_some] <;> rfl), bel HB⟩
 rw [if_neg c4] at H
 have c4b0 : (t127 == 0) = false := beq_eq_false_iff_ne.mpr c4
 have c4b1 : (t127 != 0) = true := bne_iff_ne.mpr c4
 obtain rfl := Option.some.inj H
 go_enter Try.func43, Try.ntmps43
 go_wp2_with (first | ((with_reducible refine gate_dst (N := 2) rfl ?_); refine boxE #[.int .i64 a0_0, .int .i64 a0_1, .int .i64 a0_2, .int .i64 a0_3] 73 (N := 2) rfl rfl ?_; intro gb126 hg w14 hbox hb; have BK126 := Aside0.mk hbox; have GW126 := gZ HB hg; have GE126 := gZ HB hg; replace HB := bS HB hb; clear hb hbox hg; have hz15 := cl4 BK126) | ((with_reducible refine gate_callee (f := 47) rfl ?_); refine goA (some 6) rfl rfl Try.func47 rfl #[.agg #[.int .i64 a0_0, .int .i64 a0_1, .int .i64 a0_2, .int .i64 a0_3]] rfl ?_; (with_reducible refine (impl_LeaseFault.calls a0_0 a0_1 a0_2 a0_3 t127 _ A3.out).mono ?_); rintro e w16 ⟨rfl, hb⟩; refine ⟨_, rfl, ?_⟩; replace BK126 := bK BK126 hb; replace HB := bS HB hb; (try clear hb); (try clear hb2); (try clear hk); (try clear hi)))
 go_ret
 exact ⟨by first | rfl | (simp [errW_none, errW_some] <;> rfl) | (simp [*, errW_none, errW_some] <;> rfl), bel HB⟩

/-! ### impl_MayTake: function 44 -/
def impl_MayTake.f (a0_0 : Int) (a0_1 : Int) (a0_2 : Int) (a0_3 : Int) (a1 : Int) : Option (Bool) := (impl_LeaseFault.f a0_0 a0_1 a0_2 a0_3).bind fun t130 => (if t130 = 0 then ((impl_isSeen.f a1).bind fun t131 => (if t131 = true then (some (decide (a1 ≥ (wrap64 ((wrap64 (a0_3 + 10)) + 4))))) else (some false))) else (some false))
set_option maxHeartbeats 8000000 in
set_option maxRecDepth 100000 in
theorem impl_MayTake.calls (a0_0 : Int) (a0_1 : Int) (a0_2 : Int) (a0_3 : Int) (a1 : Int) (r : Bool) (w : World) (h : impl_MayTake.f a0_0 a0_1 a0_2 a0_3 a1 = some r) :
  Calls Try.prog 44 #[.agg #[.int .i64 a0_0, .int .i64 a0_1, .int .i64 a0_2, .int .i64 a0_3], .int .i64 a1] w fun e w' => e = .returned (.bool r) ∧ Below w.heap.size w w' := by
 have hu73 := Try.underlying73
 have HB := am (Below.refl w.heap.size w)
 have H : ((impl_LeaseFault.f a0_0 a0_1 a0_2 a0_3).bind fun t130 => (if t130 = 0 then ((impl_isSeen.f a1).bind fun t131 => (if t131 = true then (some (decide (a1 ≥ (wrap64 ((wrap64 (a0_3 + 10)) + 4))))) else (some false))) else (some false))) = some r := h
 clear h
 replace H := Option.bind_eq_some_iff.mp H
 obtain ⟨t130, A30, H⟩ := H
 replace H : (if t130 = 0 then ((impl_isSeen.f a1).bind fun t131 => (if t131 = true then (some (decide (a1 ≥ (wrap64 ((wrap64 (a0_3 + 10)) + 4))))) else (some false))) else (some false)) = some r := H
 have A3 := Aside0.mk A30
 clear A30
 by_cases c4 : t130 = 0
 ·
  rw [if_pos c4] at H
  have c4b0 : (t130 == 0) = true := beq_iff_eq.mpr c4
  have c4b1 : (t130 != 0) = false := bne_eq_false_iff_eq.mpr c4
  clear c4
  replace H := Option.bind_eq_some_iff.mp H
  obtain ⟨t131, A50, H⟩ := H
  replace H : (if t131 = true then (some (decide (a1 ≥ (wrap64 ((wrap64 (a0_3 + 10)) + 4))))) else (some false)) = some r := H
  have A5 := Aside0.mk A50
  clear A50
  by_cases c6 : t131 = true
  ·
   subst c6
   have H1 : (some (decide (a1 ≥ (wrap64 ((wrap64 (a0_3 + 10)) + 4))))) = some r := by rw [if_pos rfl] at H; first | done | exact H
   clear H
   have H := H1
   clear H1
   obtain rfl := Option.some.inj H
   go_enter Try.func44, Try.ntmps44
   go_wp2_with (first | ((with_reducible refine gate_dst (N := 2) rfl ?_); refine boxE #[.int .i64 a0_0, .int .i64 a0_1, .int .i64 a0_2, .int .i64 a0_3] 73 (N := 2) rfl rfl ?_; intro gb129 hg w7 hbox hb; have BK129 := Aside0.mk hbox; have GW129 := gZ HB hg; have GE129 := gZ HB hg; replace HB := bS HB hb; clear hb hbox hg; have hz8 := cl4 BK129) | ((with_reducible refine gate_callee (f := 47) rfl ?_); refine goA (some 6) rfl rfl Try.func47 rfl #[.agg #[.int .i64 a0_0, .int .i64 a0_1, .int .i64 a0_2, .int .i64 a0_3]] rfl ?_; (with_reducible refine (impl_LeaseFault.calls a0_0 a0_1 a0_2 a0_3 t130 _ A3.out).mono ?_); rintro e w9 ⟨rfl, hb⟩; refine ⟨_, rfl, ?_⟩; replace BK129 := bK BK129 hb; replace HB := bS HB hb; (try clear hb); (try clear hb2); (try clear hk); (try clear hi)) | (go_at_call 104; (with_reducible refine (impl_isSeen.calls a1 true _ A5.out).mono ?_); rintro e w' ⟨rfl, ⟨nd, rfl⟩⟩; have hz10 := cl4 BK129))
   go_ret
   exact ⟨by first | rfl | (simp [errW_none, errW_some] <;> rfl) | (simp [*, errW_none, errW_some] <;> rfl), bel HB⟩
  replace c6 := Bool.eq_false_iff.mpr c6
  subst c6
  have H1 : (some false) = some r := by rw [if_neg (show ¬ (false = true) by decide)] at H; first | done | exact H
  clear H
  have H := H1
  clear H1
  obtain rfl := Option.some.inj H
  go_enter Try.func44, Try.ntmps44
  go_wp2_with (first | ((with_reducible refine gate_dst (N := 2) rfl ?_); refine boxE #[.int .i64 a0_0, .int .i64 a0_1, .int .i64 a0_2, .int .i64 a0_3] 73 (N := 2) rfl rfl ?_; intro gb129 hg w11 hbox hb; have BK129 := Aside0.mk hbox; have GW129 := gZ HB hg; have GE129 := gZ HB hg; replace HB := bS HB hb; clear hb hbox hg; have hz12 := cl4 BK129) | ((with_reducible refine gate_callee (f := 47) rfl ?_); refine goA (some 6) rfl rfl Try.func47 rfl #[.agg #[.int .i64 a0_0, .int .i64 a0_1, .int .i64 a0_2, .int .i64 a0_3]] rfl ?_; (with_reducible refine (impl_LeaseFault.calls a0_0 a0_1 a0_2 a0_3 t130 _ A3.out).mono ?_); rintro e w13 ⟨rfl, hb⟩; refine ⟨_, rfl, ?_⟩; replace BK129 := bK BK129 hb; replace HB := bS HB hb; (try clear hb); (try clear hb2); (try clear hk); (try clear hi)) | (go_at_call 104; (with_reducible refine (impl_isSeen.calls a1 false _ A5.out).mono ?_); rintro e w' ⟨rfl, ⟨nd, rfl⟩⟩))
  go_ret
  exact ⟨by first | rfl | (simp [errW_none, errW_some] <;> rfl) | (simp [*, errW_none, errW_some] <;> rfl), bel HB⟩
 rw [if_neg c4] at H
 have c4b0 : (t130 == 0) = false := beq_eq_false_iff_ne.mpr c4
 have c4b1 : (t130 != 0) = true := bne_iff_ne.mpr c4
 obtain rfl := Option.some.inj H
 go_enter Try.func44, Try.ntmps44
 go_wp2_with (first | ((with_reducible refine gate_dst (N := 2) rfl ?_); refine boxE #[.int .i64 a0_0, .int .i64 a0_1, .int .i64 a0_2, .int .i64 a0_3] 73 (N := 2) rfl rfl ?_; intro gb129 hg w14 hbox hb; have BK129 := Aside0.mk hbox; have GW129 := gZ HB hg; have GE129 := gZ HB hg; replace HB := bS HB hb; clear hb hbox hg; have hz15 := cl4 BK129) | ((with_reducible refine gate_callee (f := 47) rfl ?_); refine goA (some 6) rfl rfl Try.func47 rfl #[.agg #[.int .i64 a0_0, .int .i64 a0_1, .int .i64 a0_2, .int .i64 a0_3]] rfl ?_; (with_reducible refine (impl_LeaseFault.calls a0_0 a0_1 a0_2 a0_3 t130 _ A3.out).mono ?_); rintro e w16 ⟨rfl, hb⟩; refine ⟨_, rfl, ?_⟩; replace BK129 := bK BK129 hb; replace HB := bS HB hb; (try clear hb); (try clear hb2); (try clear hk); (try clear hi)))
 go_ret
 exact ⟨by first | rfl | (simp [errW_none, errW_some] <;> rfl) | (simp [*, errW_none, errW_some] <;> rfl), bel HB⟩

/-! ### impl_GrantLease: function 45 -/
def impl_GrantLease.j0 : Nat → Int → Int → Bool → Int → Int → Int → Int → Option (Int × Int × Int × Int × Int)
 | 0, _, _, _, _, _, _, _ => none
 | k + 1, x1, x2, x15, x133000, x133001, x133002, x133003 => if x15 = true then (some (3, 0, 0, 0, 0)) else (if x1 < x133002 then (some (9, 0, 0, 0, 0)) else (if x2 < x133003 then (some (9, 0, 0, 0, 0)) else (some (0, x133000, x133001, x1, x2))))
def impl_GrantLease.f (k : Nat) (a0_0 : Int) (a0_1 : Int) (a0_2 : Int) (a0_3 : Int) (a1 : Int) (a2 : Int) : Option (Int × Int × Int × Int × Int) := (impl_LeaseFault.f a0_0 a0_1 a0_2 a0_3).bind fun t134 => (if t134 = 0 then ((impl_isSeen.f a1).bind fun t135 => (if t135 = true then ((impl_isSeen.f a2).bind fun t136 => (impl_GrantLease.j0 k a1 a2 (!t136) a0_0 a0_1 a0_2 a0_3)) else (impl_GrantLease.j0 k a1 a2 true a0_0 a0_1 a0_2 a0_3))) else (some (t134, 0, 0, 0, 0)))
theorem impl_GrantLease.mono_l : ∀ k, (∀ y0 y1 y2 y3 y4 y5 y6, LeO (impl_GrantLease.j0 k y0 y1 y2 y3 y4 y5 y6) (impl_GrantLease.j0 (k + 1) y0 y1 y2 y3 y4 y5 y6))
 | 0 => fun _ _ _ _ _ _ _ r h => by simp [impl_GrantLease.j0] at h
 | k + 1 => by
  have ih0 := impl_GrantLease.mono_l k
  intro y0 y1 y2 y3 y4 y5 y6
  unfold impl_GrantLease.j0
  repeat' first
  | (with_reducible exact ih0 _ _ _ _ _ _ _)
  | (with_reducible exact LeO.refl _)
  | (with_reducible exact LeO.none _)
  | (with_reducible refine LeO.ite ?_ ?_)
  | (with_reducible refine LeO.bind ?_ (fun _ => ?_))
  | exact ih0 _ _ _ _ _ _ _
  | exact LeO.none _
  | refine LeO.ite ?_ ?_
  | refine LeO.bind ?_ (fun _ => ?_)
theorem impl_GrantLease.mono : ∀ a0 a1 a2 a3 a4 a5 k, LeO (impl_GrantLease.f k a0 a1 a2 a3 a4 a5) (impl_GrantLease.f (k + 1) a0 a1 a2 a3 a4 a5) := by
 intro a0 a1 a2 a3 a4 a5 k
 have ih0 := impl_GrantLease.mono_l k
 unfold impl_GrantLease.f
 repeat' first
   | (with_reducible exact ih0 _ _ _ _ _ _ _)
   | (with_reducible exact LeO.refl _)
   | (with_reducible exact LeO.none _)
   | (with_reducible refine LeO.ite ?_ ?_)
   | (with_reducible refine LeO.bind ?_ (fun _ => ?_))
   | exact ih0 _ _ _ _ _ _ _
   | exact LeO.none _
   | refine LeO.ite ?_ ?_
   | refine LeO.bind ?_ (fun _ => ?_)
set_option maxHeartbeats 8000000 in
set_option maxRecDepth 100000 in
theorem impl_GrantLease.calls (k : Nat) (a0_0 : Int) (a0_1 : Int) (a0_2 : Int) (a0_3 : Int) (a1 : Int) (a2 : Int) (r1 : Int) (r2 : Int) (r3 : Int) (r4 : Int) (r5 : Int) (w : World) (h : impl_GrantLease.f k a0_0 a0_1 a0_2 a0_3 a1 a2 = some (r1, r2, r3, r4, r5)) :
  Calls Try.prog 45 #[.agg #[.int .i64 a0_0, .int .i64 a0_1, .int .i64 a0_2, .int .i64 a0_3], .int .i64 a1, .int .i64 a2] w fun e w' => e = .returned (.agg #[.int .i64 r1, .int .i64 r2, .int .i64 r3, .int .i64 r4, .int .i64 r5]) ∧ Below w.heap.size w w' := by
 have hu73 := Try.underlying73
 have hu81 := Try.underlying81
 have HB := am (Below.refl w.heap.size w)
 have H : ((impl_LeaseFault.f a0_0 a0_1 a0_2 a0_3).bind fun t134 => (if t134 = 0 then ((impl_isSeen.f a1).bind fun t135 => (if t135 = true then ((impl_isSeen.f a2).bind fun t136 => (impl_GrantLease.j0 k a1 a2 (!t136) a0_0 a0_1 a0_2 a0_3)) else (impl_GrantLease.j0 k a1 a2 true a0_0 a0_1 a0_2 a0_3))) else (some (t134, 0, 0, 0, 0)))) = some (r1, r2, r3, r4, r5) := h
 clear h
 replace H := Option.bind_eq_some_iff.mp H
 obtain ⟨t134, A40, H⟩ := H
 replace H : (if t134 = 0 then ((impl_isSeen.f a1).bind fun t135 => (if t135 = true then ((impl_isSeen.f a2).bind fun t136 => (impl_GrantLease.j0 k a1 a2 (!t136) a0_0 a0_1 a0_2 a0_3)) else (impl_GrantLease.j0 k a1 a2 true a0_0 a0_1 a0_2 a0_3))) else (some (t134, 0, 0, 0, 0))) = some (r1, r2, r3, r4, r5) := H
 have A4 := Aside0.mk A40
 clear A40
 by_cases c5 : t134 = 0
 ·
  rw [if_pos c5] at H
  have c5b0 : (t134 == 0) = true := beq_iff_eq.mpr c5
  have c5b1 : (t134 != 0) = false := bne_eq_false_iff_eq.mpr c5
  clear c5
  have HC6 := Aside0.mk H
  clear H
  go_enter Try.func45, Try.ntmps45
  go_upto_region 4 with (first | ((with_reducible refine gate_dst (N := 3) rfl ?_); refine boxE #[.int .i64 a0_0, .int .i64 a0_1, .int .i64 a0_2, .int .i64 a0_3] 73 (N := 3) rfl rfl ?_; intro gb132 hg w7 hbox hb; have BK132 := Aside0.mk hbox; have GW132 := gZ HB hg; have GE132 := gZ HB hg; replace HB := bS HB hb; clear hb hbox hg) | ((with_reducible refine gate_dst (N := 6) rfl ?_); refine boxE #[.int .i64 0, .int .i64 0, .int .i64 0, .int .i64 0, .int .i64 0] 81 (N := 6) rfl rfl ?_; intro gb133 hg w8 hbox hb; have BK133 := Aside0.mk hbox; have GW133 := gZ HB hg; have GE133 := gZ HB hg; replace HB := bS HB hb; have NB132_133 := nL BK132 hg; have NB133_132 := nG BK132 hg; replace BK132 := bK BK132 hb; clear hb hbox hg; have hnb9 := NB132_133.out; have hnc9 := NB133_132.out; have hz10 := cl4 BK132) | ((with_reducible refine gate_callee (f := 47) rfl ?_); refine goA (some 9) rfl rfl Try.func47 rfl #[.agg #[.int .i64 a0_0, .int .i64 a0_1, .int .i64 a0_2, .int .i64 a0_3]] rfl ?_; (with_reducible refine (impl_LeaseFault.calls a0_0 a0_1 a0_2 a0_3 t134 _ A4.out).mono ?_); rintro e w11 ⟨rfl, hb⟩; refine ⟨_, rfl, ?_⟩; replace BK132 := bK BK132 hb; replace BK133 := bK BK133 hb; replace HB := bS HB hb; (try clear hb); (try clear hb2); (try clear hk); (try clear hi)))
  (try simp only [Act.put, List.setIfInBounds_toArray, List.set_cons_zero, List.set_cons_succ])
  go_cut [15] (fun v15 wc => ∃ (kq : Nat) (x15_5 : Bool), v15 = .bool x15_5 ∧ Aside0 (impl_GrantLease.j0 kq a1 a2 x15_5 a0_0 a0_1 a0_2 a0_3 = some (r1, r2, r3, r4, r5)) ∧ Aside0 (kq ≤ k) ∧ Aside0 (wc.heap[gb132]? = some (.cells #[.int .i64 a0_0, .int .i64 a0_1, .int .i64 a0_2, .int .i64 a0_3] 73 (0, 0))) ∧ Aside0 (wc.heap[gb133]? = some (.cells #[.int .i64 0, .int .i64 0, .int .i64 0, .int .i64 0, .int .i64 0] 81 (0, 0))) ∧ Aside0 (Below w.heap.size w wc))
  case first =>
   have H := HC6.out
   clear HC6
   replace H := Option.bind_eq_some_iff.mp H
   obtain ⟨t135, A120, H⟩ := H
   replace H : (if t135 = true then ((impl_isSeen.f a2).bind fun t136 => (impl_GrantLease.j0 k a1 a2 (!t136) a0_0 a0_1 a0_2 a0_3)) else (impl_GrantLease.j0 k a1 a2 true a0_0 a0_1 a0_2 a0_3)) = some (r1, r2, r3, r4, r5) := H
   have A12 := Aside0.mk A120
   clear A120
   by_cases c13 : t135 = true
   ·
    subst c13
    have H1 : ((impl_isSeen.f a2).bind fun t136 => (impl_GrantLease.j0 k a1 a2 (!t136) a0_0 a0_1 a0_2 a0_3)) = some (r1, r2, r3, r4, r5) := by rw [if_pos rfl] at H; first | done | exact H
    clear H
    have H := H1
    clear H1
    replace H := Option.bind_eq_some_iff.mp H
    obtain ⟨t136, A140, H⟩ := H
    replace H : (impl_GrantLease.j0 k a1 a2 (!t136) a0_0 a0_1 a0_2 a0_3) = some (r1, r2, r3, r4, r5) := H
    have A14 := Aside0.mk A140
    clear A140
    have H' := Aside0.mk H
    clear H
    go_wp2_with (first | ((with_reducible refine gate_callee (f := 104) rfl ?_); refine goA (some 17) rfl rfl Try.func104 rfl #[.int .i64 a1] rfl ?_; (with_reducible refine (impl_isSeen.calls a1 true _ A12.out).mono ?_); rintro e w' ⟨rfl, ⟨nd, rfl⟩⟩; refine ⟨_, rfl, ?_⟩) | (go_at_call 104; (with_reducible refine (impl_isSeen.calls a2 t136 _ A14.out).mono ?_); rintro e w' ⟨rfl, ⟨nd, rfl⟩⟩))
    first | go_meet | (refine Met.intro ?_; go_step; (repeat apply Exists.intro); refine ⟨?rel, ?eqq⟩; (case eqq => (try simp only [c5b0]); rfl))
    case rel => exact ⟨_, (!t136), (by first | rfl | (simp; done) | (simp [*]; done)), H', ⟨by first | omega | exact Nat.le_refl _⟩, ⟨by (with_reducible repeat (first | refine blk_drewN ?_ _ | refine blk_drew ?_ | refine blk_alloc ?_ _)); exact BK132.out⟩, ⟨by (with_reducible repeat (first | refine blk_drewN ?_ _ | refine blk_drew ?_ | refine blk_alloc ?_ _)); exact BK133.out⟩, ⟨bel HB⟩⟩
   replace c13 := Bool.eq_false_iff.mpr c13
   subst c13
   have H1 : (impl_GrantLease.j0 k a1 a2 true a0_0 a0_1 a0_2 a0_3) = some (r1, r2, r3, r4, r5) := by rw [if_neg (show ¬ (false = true) by decide)] at H; first | done | exact H
   clear H
   have H := H1
   clear H1
   have H' := Aside0.mk H
   clear H
   go_wp2_with (first | ((with_reducible refine gate_callee (f := 104) rfl ?_); refine goA (some 17) rfl rfl Try.func104 rfl #[.int .i64 a1] rfl ?_; (with_reducible refine (impl_isSeen.calls a1 false _ A12.out).mono ?_); rintro e w' ⟨rfl, ⟨nd, rfl⟩⟩; refine ⟨_, rfl, ?_⟩))
   first | go_meet | (refine Met.intro ?_; go_step; (repeat apply Exists.intro); refine ⟨?rel, ?eqq⟩; (case eqq => (try simp only [c5b0]); rfl))
   case rel => exact ⟨_, (true), (by first | rfl | (simp; done) | (simp [*]; done)), H', ⟨by first | omega | exact Nat.le_refl _⟩, ⟨by (with_reducible repeat (first | refine blk_drewN ?_ _ | refine blk_drew ?_ | refine blk_alloc ?_ _)); exact BK132.out⟩, ⟨by (with_reducible repeat (first | refine blk_drewN ?_ _ | refine blk_drew ?_ | refine blk_alloc ?_ _)); exact BK133.out⟩, ⟨bel HB⟩⟩
  case rest =>
   clear HC6
   try clear c1
   try clear p2
   try clear c4
   try clear c5
   try clear c5b0
   try clear c5b1
   try clear c9
   try clear c10
   try clear c13
   try clear hz10
   obtain ⟨kq, x15_5, rfl, HA, HJ5, BK132, BK133, HB⟩ := hcut
   cases kq with
   | zero => exact absurd HA.out (by simp [impl_GrantLease.j0])
   | succ kj5 =>
    have H := HA.out
    clear HA
    simp only [impl_GrantLease.j0] at H
    by_cases c15 : x15_5 = true
    ·
     subst c15
     have H1 : (some (3, 0, 0, 0, 0)) = some (r1, r2, r3, r4, r5) := by rw [if_pos rfl] at H; first | done | exact H
     clear H
     have H := H1
     clear H1
     simp only [Option.some.injEq, Prod.mk.injEq] at H
     obtain ⟨rfl, rfl, rfl, rfl, rfl⟩ := H
     have hnb16 := NB133_132.out
     have hnc16 := NB132_133.out
     have hz17 := cl5 BK133
     go_wp2
     refine bodyPost_ret (results_cell_row rfl _ _ gb133 81 #[.int .i64 3, .int .i64 0, .int .i64 0, .int .i64 0, .int .i64 0] (0, 0) _ rfl (mP BK133) Try.underlying81 rfl (by kernel_rfl)) rfl ?_
     exact ⟨by first | rfl | (simp [errW_none, errW_some] <;> rfl) | (simp [*, errW_none, errW_some] <;> rfl), bel HB⟩
    replace c15 := Bool.eq_false_iff.mpr c15
    subst c15
    have H1 : (if a1 < a0_2 then (some (9, 0, 0, 0, 0)) else (if a2 < a0_3 then (some (9, 0, 0, 0, 0)) else (some (0, a0_0, a0_1, a1, a2)))) = some (r1, r2, r3, r4, r5) := by rw [if_neg (show ¬ (false = true) by decide)] at H; first | done | exact H
    clear H
    have H := H1
    clear H1
    by_cases c18 : a1 < a0_2
    ·
     rw [if_pos c18] at H
     have c18b0 : decide (a1 < a0_2) = true := decide_eq_true c18
     clear c18
     simp only [Option.some.injEq, Prod.mk.injEq] at H
     obtain ⟨rfl, rfl, rfl, rfl, rfl⟩ := H
     have hnb19 := NB132_133.out
     have hnc19 := NB133_132.out
     have hz20 := cl4 BK132
     have hz21 := cl5 BK133
     go_wp2
     refine bodyPost_ret (results_cell_row rfl _ _ gb133 81 #[.int .i64 9, .int .i64 0, .int .i64 0, .int .i64 0, .int .i64 0] (0, 0) _ rfl (mP BK133) Try.underlying81 rfl (by kernel_rfl)) rfl ?_
     exact ⟨by first | rfl | (simp [errW_none, errW_some] <;> rfl) | (simp [*, errW_none, errW_some] <;> rfl), bel HB⟩
    rw [if_neg c18] at H
    have c18b0 : decide (a1 < a0_2) = false := decide_eq_false c18
    clear c18
    by_cases c22 : a2 < a0_3
    ·
     rw [if_pos c22] at H
     have c22b0 : decide (a2 < a0_3) = true := decide_eq_true c22
     clear c22
     simp only [Option.some.injEq, Prod.mk.injEq] at H
     obtain ⟨rfl, rfl, rfl, rfl, rfl⟩ := H
     have hnb23 := NB132_133.out
     have hnc23 := NB133_132.out
     have hz24 := cl4 BK132
     have hz25 := cl5 BK133
     go_wp2
     refine bodyPost_ret (results_cell_row rfl _ _ gb133 81 #[.int .i64 9, .int .i64 0, .int .i64 0, .int .i64 0, .int .i64 0] (0, 0) _ rfl (mP BK133) Try.underlying81 rfl (by kernel_rfl)) rfl ?_
     exact ⟨by first | rfl | (simp [errW_none, errW_some] <;> rfl) | (simp [*, errW_none, errW_some] <;> rfl), bel HB⟩
    rw [if_neg c22] at H
    have c22b0 : decide (a2 < a0_3) = false := decide_eq_false c22
    clear c22
    simp only [Option.some.injEq, Prod.mk.injEq] at H
    obtain ⟨rfl, rfl, rfl, rfl, rfl⟩ := H
    have hnb26 := NB132_133.out
    have hnc26 := NB133_132.out
    have hz27 := cl4 BK132
    have hz28 := cl5 BK133
    go_wp2
    refine bodyPost_ret (results_cell_row rfl _ _ gb133 81 #[.int .i64 0, .int .i64 a0_0, .int .i64 a0_1, .int .i64 a1, .int .i64 a2] (0, 0) _ rfl (mP BK133) Try.underlying81 rfl (by kernel_rfl)) rfl ?_
    exact ⟨by first | rfl | (simp [errW_none, errW_some] <;> rfl) | (simp [*, errW_none, errW_some] <;> rfl), bel HB⟩
 rw [if_neg c5] at H
 have c5b0 : (t134 == 0) = false := beq_eq_false_iff_ne.mpr c5
 have c5b1 : (t134 != 0) = true := bne_iff_ne.mpr c5
 simp only [Option.some.injEq, Prod.mk.injEq] at H
 obtain ⟨rfl, rfl, rfl, rfl, rfl⟩ := H
 go_enter Try.func45, Try.ntmps45
 go_wp2_with (first | ((with_reducible refine gate_dst (N := 3) rfl ?_); refine boxE #[.int .i64 a0_0, .int .i64 a0_1, .int .i64 a0_2, .int .i64 a0_3] 73 (N := 3) rfl rfl ?_; intro gb132 hg w29 hbox hb; have BK132 := Aside0.mk hbox; have GW132 := gZ HB hg; have GE132 := gZ HB hg; replace HB := bS HB hb; clear hb hbox hg) | ((with_reducible refine gate_dst (N := 6) rfl ?_); refine boxE #[.int .i64 0, .int .i64 0, .int .i64 0, .int .i64 0, .int .i64 0] 81 (N := 6) rfl rfl ?_; intro gb133 hg w30 hbox hb; have BK133 := Aside0.mk hbox; have GW133 := gZ HB hg; have GE133 := gZ HB hg; replace HB := bS HB hb; have NB132_133 := nL BK132 hg; have NB133_132 := nG BK132 hg; replace BK132 := bK BK132 hb; clear hb hbox hg; have hnb31 := NB132_133.out; have hnc31 := NB133_132.out; have hz32 := cl4 BK132) | ((with_reducible refine gate_callee (f := 47) rfl ?_); refine goA (some 9) rfl rfl Try.func47 rfl #[.agg #[.int .i64 a0_0, .int .i64 a0_1, .int .i64 a0_2, .int .i64 a0_3]] rfl ?_; (with_reducible refine (impl_LeaseFault.calls a0_0 a0_1 a0_2 a0_3 t134 _ A4.out).mono ?_); rintro e w33 ⟨rfl, hb⟩; refine ⟨_, rfl, ?_⟩; replace BK132 := bK BK132 hb; replace BK133 := bK BK133 hb; replace HB := bS HB hb; (try clear hb); (try clear hb2); (try clear hk); (try clear hi); have hz34 := cl5 BK133))
 refine bodyPost_ret (results_cell_row rfl _ _ gb133 81 #[.int .i64 t134, .int .i64 0, .int .i64 0, .int .i64 0, .int .i64 0] (0, 0) _ rfl (mP BK133) Try.underlying81 rfl (by kernel_rfl)) rfl ?_
 exact ⟨by first | rfl | (simp [errW_none, errW_some] <;> rfl) | (simp [*, errW_none, errW_some] <;> rfl), bel HB⟩

/-! ### impl_TakeLease: function 46 -/
def impl_TakeLease.f (a0_0 : Int) (a0_1 : Int) (a0_2 : Int) (a0_3 : Int) (a1 : Int) : Option (Int × Int × Int × Int × Int) := (impl_LeaseFault.f a0_0 a0_1 a0_2 a0_3).bind fun t139 => (if t139 = 0 then ((impl_MayTake.f a0_0 a0_1 a0_2 a0_3 a1).bind fun t140 => (if t140 = true then (if a0_1 = 1000 then (some (3, 0, 0, 0, 0)) else (some (0, wrap64 (1 - a0_0), wrap64 (a0_1 + 1), a1, a1))) else (some (8, 0, 0, 0, 0)))) else (some (t139, 0, 0, 0, 0)))
set_option maxHeartbeats 8000000 in
set_option maxRecDepth 100000 in
theorem impl_TakeLease.calls (a0_0 : Int) (a0_1 : Int) (a0_2 : Int) (a0_3 : Int) (a1 : Int) (r1 : Int) (r2 : Int) (r3 : Int) (r4 : Int) (r5 : Int) (w : World) (h : impl_TakeLease.f a0_0 a0_1 a0_2 a0_3 a1 = some (r1, r2, r3, r4, r5)) :
  Calls Try.prog 46 #[.agg #[.int .i64 a0_0, .int .i64 a0_1, .int .i64 a0_2, .int .i64 a0_3], .int .i64 a1] w fun e w' => e = .returned (.agg #[.int .i64 r1, .int .i64 r2, .int .i64 r3, .int .i64 r4, .int .i64 r5]) ∧ Below w.heap.size w w' := by
 have hu73 := Try.underlying73
 have hu81 := Try.underlying81
 have HB := am (Below.refl w.heap.size w)
 have H : ((impl_LeaseFault.f a0_0 a0_1 a0_2 a0_3).bind fun t139 => (if t139 = 0 then ((impl_MayTake.f a0_0 a0_1 a0_2 a0_3 a1).bind fun t140 => (if t140 = true then (if a0_1 = 1000 then (some (3, 0, 0, 0, 0)) else (some (0, wrap64 (1 - a0_0), wrap64 (a0_1 + 1), a1, a1))) else (some (8, 0, 0, 0, 0)))) else (some (t139, 0, 0, 0, 0)))) = some (r1, r2, r3, r4, r5) := h
 clear h
 replace H := Option.bind_eq_some_iff.mp H
 obtain ⟨t139, A30, H⟩ := H
 replace H : (if t139 = 0 then ((impl_MayTake.f a0_0 a0_1 a0_2 a0_3 a1).bind fun t140 => (if t140 = true then (if a0_1 = 1000 then (some (3, 0, 0, 0, 0)) else (some (0, wrap64 (1 - a0_0), wrap64 (a0_1 + 1), a1, a1))) else (some (8, 0, 0, 0, 0)))) else (some (t139, 0, 0, 0, 0))) = some (r1, r2, r3, r4, r5) := H
 have A3 := Aside0.mk A30
 clear A30
 by_cases c4 : t139 = 0
 ·
  rw [if_pos c4] at H
  have c4b0 : (t139 == 0) = true := beq_iff_eq.mpr c4
  have c4b1 : (t139 != 0) = false := bne_eq_false_iff_eq.mpr c4
  clear c4
  replace H := Option.bind_eq_some_iff.mp H
  obtain ⟨t140, A50, H⟩ := H
  replace H : (if t140 = true then (if a0_1 = 1000 then (some (3, 0, 0, 0, 0)) else (some (0, wrap64 (1 - a0_0), wrap64 (a0_1 + 1), a1, a1))) else (some (8, 0, 0, 0, 0))) = some (r1, r2, r3, r4, r5) := H
  have A5 := Aside0.mk A50
  clear A50
  by_cases c6 : t140 = true
  ·
   subst c6
   have H1 : (if a0_1 = 1000 then (some (3, 0, 0, 0, 0)) else (some (0, wrap64 (1 - a0_0), wrap64 (a0_1 + 1), a1, a1))) = some (r1, r2, r3, r4, r5) := by rw [if_pos rfl] at H; first | done | exact H
   clear H
   have H := H1
   clear H1
   by_cases c7 : a0_1 = 1000
   ·
    rw [if_pos c7] at H
    have c7b0 : (a0_1 == 1000) = true := beq_iff_eq.mpr c7
    have c7b1 : (a0_1 != 1000) = false := bne_eq_false_iff_eq.mpr c7
    clear c7
    simp only [Option.some.injEq, Prod.mk.injEq] at H
    obtain ⟨rfl, rfl, rfl, rfl, rfl⟩ := H
    go_enter Try.func46, Try.ntmps46
    go_wp2_with (first | ((with_reducible refine gate_dst (N := 2) rfl ?_); refine boxE #[.int .i64 a0_0, .int .i64 a0_1, .int .i64 a0_2, .int .i64 a0_3] 73 (N := 2) rfl rfl ?_; intro gb137 hg w8 hbox hb; have BK137 := Aside0.mk hbox; have GW137 := gZ HB hg; have GE137 := gZ HB hg; replace HB := bS HB hb; clear hb hbox hg) | ((with_reducible refine gate_dst (N := 4) rfl ?_); refine boxE #[.int .i64 0, .int .i64 0, .int .i64 0, .int .i64 0, .int .i64 0] 81 (N := 4) rfl rfl ?_; intro gb138 hg w9 hbox hb; have BK138 := Aside0.mk hbox; have GW138 := gZ HB hg; have GE138 := gZ HB hg; replace HB := bS HB hb; have NB137_138 := nL BK137 hg; have NB138_137 := nG BK137 hg; replace BK137 := bK BK137 hb; clear hb hbox hg; have hnb10 := NB137_138.out; have hnc10 := NB138_137.out; have hz11 := cl4 BK137) | ((with_reducible refine gate_callee (f := 47) rfl ?_); refine goA (some 7) rfl rfl Try.func47 rfl #[.agg #[.int .i64 a0_0, .int .i64 a0_1, .int .i64 a0_2, .int .i64 a0_3]] rfl ?_; (with_reducible refine (impl_LeaseFault.calls a0_0 a0_1 a0_2 a0_3 t139 _ A3.out).mono ?_); rintro e w12 ⟨rfl, hb⟩; refine ⟨_, rfl, ?_⟩; replace BK137 := bK BK137 hb; replace BK138 := bK BK138 hb; replace HB := bS HB hb; (try clear hb); (try clear hb2); (try clear hk); (try clear hi); have hz13 := cl4 BK137) | ((with_reducible refine gate_callee (f := 44) rfl ?_); refine goA (some 16) rfl rfl Try.func44 rfl #[.agg #[.int .i64 a0_0, .int .i64 a0_1, .int .i64 a0_2, .int .i64 a0_3], .int .i64 a1] rfl ?_; (with_reducible refine (impl_MayTake.calls a0_0 a0_1 a0_2 a0_3 a1 true _ A5.out).mono ?_); rintro e w14 ⟨rfl, hb⟩; refine ⟨_, rfl, ?_⟩; replace BK137 := bK BK137 hb; replace BK138 := bK BK138 hb; replace HB := bS HB hb; (try clear hb); (try clear hb2); (try clear hk); (try clear hi); have hz15 := cl4 BK137; have hz16 := cl5 BK138))
    refine bodyPost_ret (results_cell_row rfl _ _ gb138 81 #[.int .i64 3, .int .i64 0, .int .i64 0, .int .i64 0, .int .i64 0] (0, 0) _ rfl (mP BK138) Try.underlying81 rfl (by kernel_rfl)) rfl ?_
    exact ⟨by first | rfl | (simp [errW_none, errW_some] <;> rfl) | (simp [*, errW_none, errW_some] <;> rfl), bel HB⟩
   rw [if_neg c7] at H
   have c7b0 : (a0_1 == 1000) = false := beq_eq_false_iff_ne.mpr c7
   have c7b1 : (a0_1 != 1000) = true := bne_iff_ne.mpr c7
   simp only [Option.some.injEq, Prod.mk.injEq] at H
   obtain ⟨rfl, rfl, rfl, rfl, rfl⟩ := H
   go_enter Try.func46, Try.ntmps46
   go_wp2_with (first | ((with_reducible refine gate_dst (N := 2) rfl ?_); refine boxE #[.int .i64 a0_0, .int .i64 a0_1, .int .i64 a0_2, .int .i64 a0_3] 73 (N := 2) rfl rfl ?_; intro gb137 hg w17 hbox hb; have BK137 := Aside0.mk hbox; have GW137 := gZ HB hg; have GE137 := gZ HB hg; replace HB := bS HB hb; clear hb hbox hg) | ((with_reducible refine gate_dst (N := 4) rfl ?_); refine boxE #[.int .i64 0, .int .i64 0, .int .i64 0, .int .i64 0, .int .i64 0] 81 (N := 4) rfl rfl ?_; intro gb138 hg w18 hbox hb; have BK138 := Aside0.mk hbox; have GW138 := gZ HB hg; have GE138 := gZ HB hg; replace HB := bS HB hb; have NB137_138 := nL BK137 hg; have NB138_137 := nG BK137 hg; replace BK137 := bK BK137 hb; clear hb hbox hg; have hnb19 := NB137_138.out; have hnc19 := NB138_137.out; have hz20 := cl4 BK137) | ((with_reducible refine gate_callee (f := 47) rfl ?_); refine goA (some 7) rfl rfl Try.func47 rfl #[.agg #[.int .i64 a0_0, .int .i64 a0_1, .int .i64 a0_2, .int .i64 a0_3]] rfl ?_; (with_reducible refine (impl_LeaseFault.calls a0_0 a0_1 a0_2 a0_3 t139 _ A3.out).mono ?_); rintro e w21 ⟨rfl, hb⟩; refine ⟨_, rfl, ?_⟩; replace BK137 := bK BK137 hb; replace BK138 := bK BK138 hb; replace HB := bS HB hb; (try clear hb); (try clear hb2); (try clear hk); (try clear hi); have hz22 := cl4 BK137) | ((with_reducible refine gate_callee (f := 44) rfl ?_); refine goA (some 16) rfl rfl Try.func44 rfl #[.agg #[.int .i64 a0_0, .int .i64 a0_1, .int .i64 a0_2, .int .i64 a0_3], .int .i64 a1] rfl ?_; (with_reducible refine (impl_MayTake.calls a0_0 a0_1 a0_2 a0_3 a1 true _ A5.out).mono ?_); rintro e w23 ⟨rfl, hb⟩; refine ⟨_, rfl, ?_⟩; replace BK137 := bK BK137 hb; replace BK138 := bK BK138 hb; replace HB := bS HB hb; (try clear hb); (try clear hb2); (try clear hk); (try clear hi); have hz24 := cl4 BK137; have hz25 := cl5 BK138))
   refine bodyPost_ret (results_cell_row rfl _ _ gb138 81 #[.int .i64 0, .int .i64 (wrap64 (1 - a0_0)), .int .i64 (wrap64 (a0_1 + 1)), .int .i64 a1, .int .i64 a1] (0, 0) _ rfl (mP BK138) Try.underlying81 rfl (by kernel_rfl)) rfl ?_
   exact ⟨by first | rfl | (simp [errW_none, errW_some] <;> rfl) | (simp [*, errW_none, errW_some] <;> rfl), bel HB⟩
  replace c6 := Bool.eq_false_iff.mpr c6
  subst c6
  have H1 : (some (8, 0, 0, 0, 0)) = some (r1, r2, r3, r4, r5) := by rw [if_neg (show ¬ (false = true) by decide)] at H; first | done | exact H
  clear H
  have H := H1
  clear H1
  simp only [Option.some.injEq, Prod.mk.injEq] at H
  obtain ⟨rfl, rfl, rfl, rfl, rfl⟩ := H
  go_enter Try.func46, Try.ntmps46
  go_wp2_with (first | ((with_reducible refine gate_dst (N := 2) rfl ?_); refine boxE #[.int .i64 a0_0, .int .i64 a0_1, .int .i64 a0_2, .int .i64 a0_3] 73 (N := 2) rfl rfl ?_; intro gb137 hg w26 hbox hb; have BK137 := Aside0.mk hbox; have GW137 := gZ HB hg; have GE137 := gZ HB hg; replace HB := bS HB hb; clear hb hbox hg) | ((with_reducible refine gate_dst (N := 4) rfl ?_); refine boxE #[.int .i64 0, .int .i64 0, .int .i64 0, .int .i64 0, .int .i64 0] 81 (N := 4) rfl rfl ?_; intro gb138 hg w27 hbox hb; have BK138 := Aside0.mk hbox; have GW138 := gZ HB hg; have GE138 := gZ HB hg; replace HB := bS HB hb; have NB137_138 := nL BK137 hg; have NB138_137 := nG BK137 hg; replace BK137 := bK BK137 hb; clear hb hbox hg; have hnb28 := NB137_138.out; have hnc28 := NB138_137.out; have hz29 := cl4 BK137) | ((with_reducible refine gate_callee (f := 47) rfl ?_); refine goA (some 7) rfl rfl Try.func47 rfl #[.agg #[.int .i64 a0_0, .int .i64 a0_1, .int .i64 a0_2, .int .i64 a0_3]] rfl ?_; (with_reducible refine (impl_LeaseFault.calls a0_0 a0_1 a0_2 a0_3 t139 _ A3.out).mono ?_); rintro e w30 ⟨rfl, hb⟩; refine ⟨_, rfl, ?_⟩; replace BK137 := bK BK137 hb; replace BK138 := bK BK138 hb; replace HB := bS HB hb; (try clear hb); (try clear hb2); (try clear hk); (try clear hi); have hz31 := cl4 BK137) | ((with_reducible refine gate_callee (f := 44) rfl ?_); refine goA (some 16) rfl rfl Try.func44 rfl #[.agg #[.int .i64 a0_0, .int .i64 a0_1, .int .i64 a0_2, .int .i64 a0_3], .int .i64 a1] rfl ?_; (with_reducible refine (impl_MayTake.calls a0_0 a0_1 a0_2 a0_3 a1 false _ A5.out).mono ?_); rintro e w32 ⟨rfl, hb⟩; refine ⟨_, rfl, ?_⟩; replace BK137 := bK BK137 hb; replace BK138 := bK BK138 hb; replace HB := bS HB hb; (try clear hb); (try clear hb2); (try clear hk); (try clear hi); have hz33 := cl5 BK138))
  refine bodyPost_ret (results_cell_row rfl _ _ gb138 81 #[.int .i64 8, .int .i64 0, .int .i64 0, .int .i64 0, .int .i64 0] (0, 0) _ rfl (mP BK138) Try.underlying81 rfl (by kernel_rfl)) rfl ?_
  exact ⟨by first | rfl | (simp [errW_none, errW_some] <;> rfl) | (simp [*, errW_none, errW_some] <;> rfl), bel HB⟩
 rw [if_neg c4] at H
 have c4b0 : (t139 == 0) = false := beq_eq_false_iff_ne.mpr c4
 have c4b1 : (t139 != 0) = true := bne_iff_ne.mpr c4
 simp only [Option.some.injEq, Prod.mk.injEq] at H
 obtain ⟨rfl, rfl, rfl, rfl, rfl⟩ := H
 go_enter Try.func46, Try.ntmps46
 go_wp2_with (first | ((with_reducible refine gate_dst (N := 2) rfl ?_); refine boxE #[.int .i64 a0_0, .int .i64 a0_1, .int .i64 a0_2, .int .i64 a0_3] 73 (N := 2) rfl rfl ?_; intro gb137 hg w34 hbox hb; have BK137 := Aside0.mk hbox; have GW137 := gZ HB hg; have GE137 := gZ HB hg; replace HB := bS HB hb; clear hb hbox hg) | ((with_reducible refine gate_dst (N := 4) rfl ?_); refine boxE #[.int .i64 0, .int .i64 0, .int .i64 0, .int .i64 0, .int .i64 0] 81 (N := 4) rfl rfl ?_; intro gb138 hg w35 hbox hb; have BK138 := Aside0.mk hbox; have GW138 := gZ HB hg; have GE138 := gZ HB hg; replace HB := bS HB hb; have NB137_138 := nL BK137 hg; have NB138_137 := nG BK137 hg; replace BK137 := bK BK137 hb; clear hb hbox hg; have hnb36 := NB137_138.out; have hnc36 := NB138_137.out; have hz37 := cl4 BK137) | ((with_reducible refine gate_callee (f := 47) rfl ?_); refine goA (some 7) rfl rfl Try.func47 rfl #[.agg #[.int .i64 a0_0, .int .i64 a0_1, .int .i64 a0_2, .int .i64 a0_3]] rfl ?_; (with_reducible refine (impl_LeaseFault.calls a0_0 a0_1 a0_2 a0_3 t139 _ A3.out).mono ?_); rintro e w38 ⟨rfl, hb⟩; refine ⟨_, rfl, ?_⟩; replace BK137 := bK BK137 hb; replace BK138 := bK BK138 hb; replace HB := bS HB hb; (try clear hb); (try clear hb2); (try clear hk); (try clear hi); have hz39 := cl5 BK138))
 refine bodyPost_ret (results_cell_row rfl _ _ gb138 81 #[.int .i64 t139, .int .i64 0, .int .i64 0, .int .i64 0, .int .i64 0] (0, 0) _ rfl (mP BK138) Try.underlying81 rfl (by kernel_rfl)) rfl ?_
 exact ⟨by first | rfl | (simp [errW_none, errW_some] <;> rfl) | (simp [*, errW_none, errW_some] <;> rfl), bel HB⟩

/-- A state of type 136 at block g of W; what its slices lead to came in by w0. -/
def IsS136 (w0 W : World) (g : Nat) (f0 : List Int) (f1 : Int) : Prop := ∃ A0 c0, W.heap[g]? = some (.cells #[.slice A0 f0.length c0, .int .i64 f1] 136 (0, 0)) ∧ w0.heap.size ≤ g ∧ Kd.C (Kd.int .u8) w0 A0 f0.length f0
theorem IsS136.grown {w0 W : World} {g : Nat} {f0 : List Int} {f1 : Int} {W1 : World} {row : Option Nat} (h : IsS136 w0 W g f0 f1) (hw : W.grownBy W1 row) (hne : some g ≠ row) : IsS136 w0 W1 g f0 f1 := by
 obtain ⟨A0, c0, hb, hg, hr0⟩ := h
 exact ⟨A0, c0, blk_grown hb hw hne, hg, hr0⟩
theorem IsS136.own_neN {w0 W : World} {g : Nat} {f0 : List Int} {f1 : Int} {α : Type} {d : Kd α} {e : Nat} {base : Nat} {ok : Nat → Prop} {v : Value} {xs : List α} (h : IsS136 w0 W g f0 f1) (ho : Kd.N d e W base ok v xs) (ht : e ≠ 136) : some g ≠ v.ownBlock := by
 obtain ⟨A0, c0, hb, hg, hr0⟩ := h
 exact Kd.N_ne ho hb ht
theorem IsS136.fresh {w0 W : World} {g : Nat} {f0 : List Int} {f1 : Int} (h : IsS136 w0 W g f0 f1) : ∀ k, W.heap.size ≤ k → k ≠ g := by
 obtain ⟨A0, c0, hb, hg, hr0⟩ := h
 exact Kd.freshB hb
theorem IsS136.kept {w0 W : World} {g : Nat} {f0 : List Int} {f1 : Int} {W1 : World} {S : Nat → Prop} (h : IsS136 w0 W g f0 f1) (hk : Kept W W1 S) (hne : ¬ S g) : IsS136 w0 W1 g f0 f1 := by
 obtain ⟨A0, c0, hb, hg, hr0⟩ := h
 exact ⟨A0, c0, blk_kept hb hk hne, hg, hr0⟩
theorem IsS136.below {w0 W : World} {g : Nat} {f0 : List Int} {f1 : Int} {W1 : World} (h : IsS136 w0 W g f0 f1) (hw : Below W.heap.size W W1) : IsS136 w0 W1 g f0 f1 := h.grown (grown_of_below hw none) (by simp)
theorem IsS136.alloc {w0 W : World} {g : Nat} {f0 : List Int} {f1 : Int} (h : IsS136 w0 W g f0 f1) (o : Obj) : IsS136 w0 (W.alloc o) g f0 f1 := h.below (below_alloc (Below.refl _ _) o)
theorem IsS136.drewN {w0 W : World} {g : Nat} {f0 : List Int} {f1 : Int} (h : IsS136 w0 W g f0 f1) (m : Nat) : IsS136 w0 (W.drewN m) g f0 f1 := h
theorem IsS136.drew {w0 W : World} {g : Nat} {f0 : List Int} {f1 : Int} (h : IsS136 w0 W g f0 f1) : IsS136 w0 W.drew g f0 f1 := h
theorem IsS136.at_ {w0 W : World} {g : Nat} {f0 : List Int} {f1 : Int} {w' : World} {m : Nat} (hq : W.drewN m = w') (h : IsS136 w0 W g f0 f1) : IsS136 w0 w' g f0 f1 := by subst hq; exact IsS136.drewN h m
theorem IsS136.apart {w0 W : World} {g : Nat} {f0 : List Int} {f1 : Int} {α : Type} {d : Kd α} {e : Nat} {base : Nat} {ok : Nat → Prop} {v : Value} {xs : List α} (h : IsS136 w0 W g f0 f1) (ho : d.R e W base ok v xs) (ht : ∀ q, q ∈ e :: d.E → q ≠ 136) : d.R e W base (fun k => ok k ∧ k ≠ g) v xs := by
 obtain ⟨A0, c0, hb, hg, hr0⟩ := h
 exact Kd.R_types ho hb ht
theorem IsS136.own_ne {w0 W : World} {g : Nat} {f0 : List Int} {f1 : Int} {α : Type} {d : Kd α} {e : Nat} {base : Nat} {ok : Nat → Prop} {v : Value} {xs : List α} (h : IsS136 w0 W g f0 f1) (ho : d.R e W base ok v xs) (ht : e ≠ 136) : some g ≠ v.ownBlock := by
 obtain ⟨A0, c0, hb, hg, hr0⟩ := h
 exact Kd.R_ne ho hb ht
theorem IsS136.apartQ {w0 W : World} {g : Nat} {f0 : List Int} {f1 : Int} {α : Type} {d : Kd α} {e : Nat} {base : Nat} {ok : Nat → Prop} {v : Value} {xs : List α} (h : IsS136 w0 W g f0 f1) (ho : d.Q e W base ok v xs) (ht : ∀ q, q ∈ e :: d.E → q ≠ 136) : d.Q e W base (fun k => ok k ∧ k ≠ g) v xs := by
 obtain ⟨A0, c0, hb, hg, hr0⟩ := h
 exact Kd.Q_types ho hb ht
theorem IsS136.own_neQ {w0 W : World} {g : Nat} {f0 : List Int} {f1 : Int} {α : Type} {d : Kd α} {e : Nat} {base : Nat} {ok : Nat → Prop} {v : Value} {xs : List α} (h : IsS136 w0 W g f0 f1) (ho : d.Q e W base ok v xs) (ht : e ≠ 136) : some g ≠ v.ownBlock := by
 obtain ⟨A0, c0, hb, hg, hr0⟩ := h
 exact Kd.Q_ne ho hb ht
theorem IsS136.apartS {w0 W : World} {g : Nat} {f0 : List Int} {f1 : Int} {α : Type} {d : Kd α} {e : Nat} {base : Nat} {ok : Nat → Prop} {v : Value} {xs : List α} (h : IsS136 w0 W g f0 f1) (ho : d.S e W base ok v xs) (ht : ∀ q, q ∈ e :: d.E → q ≠ 136) : d.S e W base (fun k => ok k ∧ k ≠ g) v xs := by
 obtain ⟨A0, c0, hb, hg, hr0⟩ := h
 exact Kd.S_types ho hb ht
theorem IsS136.own_neS {w0 W : World} {g : Nat} {f0 : List Int} {f1 : Int} {α : Type} {d : Kd α} {e : Nat} {base : Nat} {ok : Nat → Prop} {v : Value} {xs : List α} (h : IsS136 w0 W g f0 f1) (ho : d.S e W base ok v xs) (ht : e ≠ 136) : some g ≠ v.ownBlock := by
 obtain ⟨A0, c0, hb, hg, hr0⟩ := h
 exact Kd.S_ne ho hb ht
theorem IsS136.lt {w0 W : World} {g : Nat} {f0 : List Int} {f1 : Int} (h : IsS136 w0 W g f0 f1) : g < W.heap.size := by
 obtain ⟨A0, c0, hb, hg, hr0⟩ := h
 exact blk_lt hb
theorem IsS136.ge {w0 W : World} {g : Nat} {f0 : List Int} {f1 : Int} (h : IsS136 w0 W g f0 f1) : w0.heap.size ≤ g := by
 obtain ⟨A0, c0, hb, hg, hr0⟩ := h
 exact hg
theorem IsS136.ne_blk {w0 W : World} {g : Nat} {f0 : List Int} {f1 : Int} {a : Nat} {cs : Array Value} {t : TypeId} {fr : Nat × Nat} (h : IsS136 w0 W g f0 f1) (hb2 : W.heap[a]? = some (.cells cs t fr)) (ht : t ≠ 136) : g ≠ a := by
 obtain ⟨A0, c0, hb, hg, hr0⟩ := h
 rintro rfl
 rw [hb] at hb2
 injection hb2 with hb2
 injection hb2 with _ ht2
 exact ht ht2.symm
theorem IsS136.far {w0 W : World} {g : Nat} {f0 : List Int} {f1 : Int} {p : Addr} (h : IsS136 w0 W g f0 f1) (hne : g ≠ p.block) (u : Value) : IsS136 w0 (W.setCell p u) g f0 f1 := by
 obtain ⟨A0, c0, hb, hg, hr0⟩ := h
 exact ⟨A0, c0, blk_far hb hne u, hg, hr0⟩
theorem cellS136_0 {W : World} {g : Nat} {A0 : Option Addr} {c0 : Nat} {f0 : List Int} {f1 : Int} (h : W.heap[g]? = some (.cells #[.slice A0 f0.length c0, .int .i64 f1] 136 (0, 0))) : W.cell? ⟨g, 0, none⟩ = some (.slice A0 f0.length c0) := (blk_cell h 0).trans rfl
theorem cellS136_1 {W : World} {g : Nat} {A0 : Option Addr} {c0 : Nat} {f0 : List Int} {f1 : Int} (h : W.heap[g]? = some (.cells #[.slice A0 f0.length c0, .int .i64 f1] 136 (0, 0))) : W.cell? ⟨g, 1, none⟩ = some (.int .i64 f1) := (blk_cell h 1).trans rfl
theorem IsS136.set_1 {w0 W : World} {g : Nat} {f0 : List Int} {f1 : Int} (h : IsS136 w0 W g f0 f1) (x : Int) : IsS136 w0 (W.setCell ⟨g, 1, none⟩ (.int .i64 x)) g f0 x := by
 obtain ⟨A0, c0, hb, hg, hr0⟩ := h
 exact ⟨A0, c0, by simpa using blk_set hb 1 (.int .i64 x), hg, hr0⟩
theorem IsS136.new (w0 W : World) (A0 : Option Addr) (c0 : Nat) (f0 : List Int) (f1 : Int) (hB : Below w0.heap.size w0 W) (hr0 : Kd.C (Kd.int .u8) w0 A0 f0.length f0) : IsS136 w0 (W.alloc (.cells #[.slice A0 f0.length c0, .int .i64 f1] 136)) W.heap.size f0 f1 := ⟨A0, c0, by simpa using heap_alloc_new W _, hB.size, hr0⟩

/-! ### spec_l1Source: function 82 -/
def spec_l1Source.f (l0 : List Int) : Option (List Int × Int) := some (l0, 0)
set_option maxHeartbeats 8000000 in
set_option maxRecDepth 100000 in
theorem spec_l1Source.calls (A0 : Option Addr) (c0 : Nat) (l0 : List Int) (r1 : List Int) (r2 : Int) (w0 w : World) (hB : Below w0.heap.size w0 w) (hr0 : Kd.C (Kd.int .u8) w0 A0 l0.length l0) (hc0 : l0.length ≤ c0) (h : spec_l1Source.f l0 = some (r1, r2)) :
  Calls Try.prog 82 #[.slice A0 l0.length c0] w fun e w' => ∃ g_ : Nat, e = .returned (.pointer (some ⟨g_, 0, none⟩)) ∧ IsS136 w0 w' g_ r1 r2 ∧ Below w0.heap.size w0 w' ∧ Below w.heap.size w w' := by
 have hu136 := Try.underlying136
 have HR0 := Aside0.mk hr0
 have HC0 := Aside0.mk hc0
 clear hr0 hc0
 have HBW := am (Below.refl w.heap.size w)
 have HW0 := Aside0.mk hB.size
 have HB := Aside0.mk hB
 clear hB
 have H : (some (l0, 0)) = some (r1, r2) := h
 clear h
 simp only [Option.some.injEq, Prod.mk.injEq] at H
 obtain ⟨rfl, rfl⟩ := H
 go_enter Try.func82, Try.ntmps82
 go_wp2_with (first | ((with_reducible refine gate_dst (N := 5) rfl ?_); refine boxE #[.slice A0 l0.length c0, .int .i64 0] 136 (N := 5) rfl rfl ?_; intro gb141 hg w2 hbox hb; replace HB := bS HB hb; have BK141 := Aside0.mk hbox; have GW141 := gZ HBW hg; have GE141 := am ((Nat.le_trans HW0.out (by rw [hg]; exact (below_size (bel HBW)) : w.heap.size ≤ gb141) : w0.heap.size ≤ gb141)); replace HBW := am (below_step HBW.out hb); clear hb hbox hg))
 go_ret
 exact ⟨_, rfl, (show IsS136 w0 _ gb141 l0 0 from ⟨_, _, by (with_reducible repeat (first | refine blk_drewN ?_ _ | refine blk_drew ?_ | refine blk_alloc ?_ _)); exact BK141.out, GE141.out, HR0.out⟩), bel HB, bel HBW⟩

end Go.Proofs.Ytgfoifkkffffgab.PFnLeases
