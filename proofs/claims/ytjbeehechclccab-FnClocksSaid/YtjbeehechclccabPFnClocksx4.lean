-- Laid by a turned copy of the printer (wip/tools/patch_print.py)
import Derived.Test.YtjbeehechclccabPFnClocksx0
import Derived.Test.YtjbeehechclccabPFnClocksx2
import Derived.Test.YtjbeehechclccabPFnClocksx3
namespace Go.Proofs.Ytjbeehechclccab.PFnClocks
open Go.RowKit Go.Proofs.YtjbeehechclccabW.PrintWords Go.Proofs.YtjbeehechclccabW.PrintLast Go.Proofs.YtjbeehechclccabW.PrintMore
attribute [local go_sem] max2_int min2_int max_two min_two max_three min_three max_four min_four   -- for this text's walks alone
set_option linter.unusedVariables false
set_option linter.unusedSimpArgs false

/-! ### spec_DrawTickClock: function 21 -/
def spec_DrawTickClock.f (l0 : List Int) : Option (Int × List Int × Int × List Int) := (spec_l1Source.f l0).bind fun bt172 => ((spec_l13Clock.f bt172.1 bt172.2).bind fun bt175 => ((spec_l1Next.f bt172.1 bt175.2.2 5).bind fun bt181 => ((spec_l1Next.f bt172.1 bt181.2 5).bind fun bt183 => ((some (([wrap64 (bt181.1 - 2), wrap64 (bt183.1 - 2)] : List Int) : List Int)).bind fun y185 => ((spec_l1Next.f bt172.1 bt183.2 12).bind fun bt188 => (if bt188.1 = 0 then ((spec_l1Pick.f bt172.1 bt188.2 (([(-3), 3] : List Int))).bind fun bt193 => (if 1 < (y185.length : Int) then ((spec_l1Next.f bt172.1 bt193.2 9).bind fun bt196 => ((spec_l1Next.f bt172.1 bt196.2 9).bind fun bt198 => ((spec_l1Pick.f bt172.1 bt198.2 (([bt196.1, bt198.1, 1000, 1001, (-1)] : List Int))).bind fun bt203 => (some (bt175.1, bt175.2.1, bt203.1, (y185.set (1 : Int).toNat bt193.1)))))) else (none))) else (if bt188.1 = 1 then (if y185.length < 17592186044416 then ((spec_l1Next.f bt172.1 bt188.2 9).bind fun bt208 => ((spec_l1Next.f bt172.1 bt208.2 9).bind fun bt210 => ((spec_l1Pick.f bt172.1 bt210.2 (([bt208.1, bt210.1, 1000, 1001, (-1)] : List Int))).bind fun bt215 => (some (bt175.1, bt175.2.1, bt215.1, (y185 ++ [0])))))) else (none)) else ((spec_l1Next.f bt172.1 bt188.2 9).bind fun bt217 => ((spec_l1Next.f bt172.1 bt217.2 9).bind fun bt219 => ((spec_l1Pick.f bt172.1 bt219.2 (([bt217.1, bt219.1, 1000, 1001, (-1)] : List Int))).bind fun bt224 => (some (bt175.1, bt175.2.1, bt224.1, y185))))))))))))
def spec_DrawTickClock.T9 : Bool × List (List Nat × List Nat) := (true, [([], []), ([], []), ([], []), ([2], [2]), ([], []), ([4, 3], [4]), ([3, 5], [3, 5]), ([1, 6, 5], [1, 6]), ([], []), ([0, 7, 0], [0]), ([7, 9, 0, 1, 2, 3, 4, 5, 6, 7, 9], [7]), ([8, 10, 0, 1, 2, 3, 4, 5, 6, 7, 8, 9, 10], [8])])
def spec_DrawTickClock.B9 : List Nat := [0, 0, 0, 4, 0, 28, 60, 126, 0, 255, 767, 2047]
theorem spec_DrawTickClock.tab9 : rtab .any (opsOf Try.f21 9) = spec_DrawTickClock.T9 := by kernel_rfl
theorem spec_DrawTickClock.bits9 : waitsOk spec_DrawTickClock.T9.2 spec_DrawTickClock.B9 = true := by kernel_rfl
set_option maxHeartbeats 8000000 in
set_option maxRecDepth 100000 in
theorem spec_DrawTickClock.calls (A0 : Option Addr) (c0 : Nat) (l0 : List Int) (r1 : Int) (r2 : List Int) (r3 : Int) (r4 : List Int) (w : World) (hr0 : Kd.C (Kd.int .u8) w A0 l0.length l0) (hc0 : l0.length ≤ c0) (h : spec_DrawTickClock.f l0 = some (r1, r2, r3, r4)) :
    Calls Try.prog 21 #[.slice A0 l0.length c0] w fun e w' => ∃ v1_ v3_ : Value, e = .returned (.tuple #[.agg #[.int .i64 r1, v1_], .int .i64 r3, v3_]) ∧ Kd.Q (Kd.int .i64) 2 w' w.heap.size (fun k_ => some k_ ≠ (v3_ : Value).ownBlock) v1_ r2 ∧ Kd.R (Kd.int .i64) 2 w' w.heap.size (fun k_ => some k_ ≠ (v1_ : Value).ownBlock) v3_ r4 ∧ Below w.heap.size w w' := by
  have hu26 := Try.underlying26
  have HR0 := Aside0.mk hr0
  have HC0 := Aside0.mk hc0
  clear hr0 hc0
  have HB := Aside0.mk (Below.refl w.heap.size w)
  have H : ((spec_l1Source.f l0).bind fun bt172 => ((spec_l13Clock.f bt172.1 bt172.2).bind fun bt175 => ((spec_l1Next.f bt172.1 bt175.2.2 5).bind fun bt181 => ((spec_l1Next.f bt172.1 bt181.2 5).bind fun bt183 => ((some (([wrap64 (bt181.1 - 2), wrap64 (bt183.1 - 2)] : List Int) : List Int)).bind fun y185 => ((spec_l1Next.f bt172.1 bt183.2 12).bind fun bt188 => (if bt188.1 = 0 then ((spec_l1Pick.f bt172.1 bt188.2 (([(-3), 3] : List Int))).bind fun bt193 => (if 1 < (y185.length : Int) then ((spec_l1Next.f bt172.1 bt193.2 9).bind fun bt196 => ((spec_l1Next.f bt172.1 bt196.2 9).bind fun bt198 => ((spec_l1Pick.f bt172.1 bt198.2 (([bt196.1, bt198.1, 1000, 1001, (-1)] : List Int))).bind fun bt203 => (some (bt175.1, bt175.2.1, bt203.1, (y185.set (1 : Int).toNat bt193.1)))))) else (none))) else (if bt188.1 = 1 then (if y185.length < 17592186044416 then ((spec_l1Next.f bt172.1 bt188.2 9).bind fun bt208 => ((spec_l1Next.f bt172.1 bt208.2 9).bind fun bt210 => ((spec_l1Pick.f bt172.1 bt210.2 (([bt208.1, bt210.1, 1000, 1001, (-1)] : List Int))).bind fun bt215 => (some (bt175.1, bt175.2.1, bt215.1, (y185 ++ [0])))))) else (none)) else ((spec_l1Next.f bt172.1 bt188.2 9).bind fun bt217 => ((spec_l1Next.f bt172.1 bt217.2 9).bind fun bt219 => ((spec_l1Pick.f bt172.1 bt219.2 (([bt217.1, bt219.1, 1000, 1001, (-1)] : List Int))).bind fun bt224 => (some (bt175.1, bt175.2.1, bt224.1, y185))))))))))))) = some (r1, r2, r3, r4) := h
  clear h
  replace H := Option.bind_eq_some_iff.mp H
  obtain ⟨⟨t172, t173⟩, A20, H⟩ := H
  replace H : ((spec_l13Clock.f t172 t173).bind fun bt175 => ((spec_l1Next.f t172 bt175.2.2 5).bind fun bt181 => ((spec_l1Next.f t172 bt181.2 5).bind fun bt183 => ((some (([wrap64 (bt181.1 - 2), wrap64 (bt183.1 - 2)] : List Int) : List Int)).bind fun y185 => ((spec_l1Next.f t172 bt183.2 12).bind fun bt188 => (if bt188.1 = 0 then ((spec_l1Pick.f t172 bt188.2 (([(-3), 3] : List Int))).bind fun bt193 => (if 1 < (y185.length : Int) then ((spec_l1Next.f t172 bt193.2 9).bind fun bt196 => ((spec_l1Next.f t172 bt196.2 9).bind fun bt198 => ((spec_l1Pick.f t172 bt198.2 (([bt196.1, bt198.1, 1000, 1001, (-1)] : List Int))).bind fun bt203 => (some (bt175.1, bt175.2.1, bt203.1, (y185.set (1 : Int).toNat bt193.1)))))) else (none))) else (if bt188.1 = 1 then (if y185.length < 17592186044416 then ((spec_l1Next.f t172 bt188.2 9).bind fun bt208 => ((spec_l1Next.f t172 bt208.2 9).bind fun bt210 => ((spec_l1Pick.f t172 bt210.2 (([bt208.1, bt210.1, 1000, 1001, (-1)] : List Int))).bind fun bt215 => (some (bt175.1, bt175.2.1, bt215.1, (y185 ++ [0])))))) else (none)) else ((spec_l1Next.f t172 bt188.2 9).bind fun bt217 => ((spec_l1Next.f t172 bt217.2 9).bind fun bt219 => ((spec_l1Pick.f t172 bt219.2 (([bt217.1, bt219.1, 1000, 1001, (-1)] : List Int))).bind fun bt224 => (some (bt175.1, bt175.2.1, bt224.1, y185)))))))))))) = some (r1, r2, r3, r4) := H
  have A2 := Aside0.mk A20
  clear A20
  replace H := Option.bind_eq_some_iff.mp H
  obtain ⟨⟨t175, t176, t179⟩, A30, H⟩ := H
  replace H : ((spec_l1Next.f t172 t179 5).bind fun bt181 => ((spec_l1Next.f t172 bt181.2 5).bind fun bt183 => ((some (([wrap64 (bt181.1 - 2), wrap64 (bt183.1 - 2)] : List Int) : List Int)).bind fun y185 => ((spec_l1Next.f t172 bt183.2 12).bind fun bt188 => (if bt188.1 = 0 then ((spec_l1Pick.f t172 bt188.2 (([(-3), 3] : List Int))).bind fun bt193 => (if 1 < (y185.length : Int) then ((spec_l1Next.f t172 bt193.2 9).bind fun bt196 => ((spec_l1Next.f t172 bt196.2 9).bind fun bt198 => ((spec_l1Pick.f t172 bt198.2 (([bt196.1, bt198.1, 1000, 1001, (-1)] : List Int))).bind fun bt203 => (some (t175, t176, bt203.1, (y185.set (1 : Int).toNat bt193.1)))))) else (none))) else (if bt188.1 = 1 then (if y185.length < 17592186044416 then ((spec_l1Next.f t172 bt188.2 9).bind fun bt208 => ((spec_l1Next.f t172 bt208.2 9).bind fun bt210 => ((spec_l1Pick.f t172 bt210.2 (([bt208.1, bt210.1, 1000, 1001, (-1)] : List Int))).bind fun bt215 => (some (t175, t176, bt215.1, (y185 ++ [0])))))) else (none)) else ((spec_l1Next.f t172 bt188.2 9).bind fun bt217 => ((spec_l1Next.f t172 bt217.2 9).bind fun bt219 => ((spec_l1Pick.f t172 bt219.2 (([bt217.1, bt219.1, 1000, 1001, (-1)] : List Int))).bind fun bt224 => (some (t175, t176, bt224.1, y185))))))))))) = some (r1, r2, r3, r4) := H
  have A3 := Aside0.mk A30
  clear A30
  replace H := Option.bind_eq_some_iff.mp H
  obtain ⟨⟨t181, t182⟩, A40, H⟩ := H
  replace H : ((spec_l1Next.f t172 t182 5).bind fun bt183 => ((some (([wrap64 (t181 - 2), wrap64 (bt183.1 - 2)] : List Int) : List Int)).bind fun y185 => ((spec_l1Next.f t172 bt183.2 12).bind fun bt188 => (if bt188.1 = 0 then ((spec_l1Pick.f t172 bt188.2 (([(-3), 3] : List Int))).bind fun bt193 => (if 1 < (y185.length : Int) then ((spec_l1Next.f t172 bt193.2 9).bind fun bt196 => ((spec_l1Next.f t172 bt196.2 9).bind fun bt198 => ((spec_l1Pick.f t172 bt198.2 (([bt196.1, bt198.1, 1000, 1001, (-1)] : List Int))).bind fun bt203 => (some (t175, t176, bt203.1, (y185.set (1 : Int).toNat bt193.1)))))) else (none))) else (if bt188.1 = 1 then (if y185.length < 17592186044416 then ((spec_l1Next.f t172 bt188.2 9).bind fun bt208 => ((spec_l1Next.f t172 bt208.2 9).bind fun bt210 => ((spec_l1Pick.f t172 bt210.2 (([bt208.1, bt210.1, 1000, 1001, (-1)] : List Int))).bind fun bt215 => (some (t175, t176, bt215.1, (y185 ++ [0])))))) else (none)) else ((spec_l1Next.f t172 bt188.2 9).bind fun bt217 => ((spec_l1Next.f t172 bt217.2 9).bind fun bt219 => ((spec_l1Pick.f t172 bt219.2 (([bt217.1, bt219.1, 1000, 1001, (-1)] : List Int))).bind fun bt224 => (some (t175, t176, bt224.1, y185)))))))))) = some (r1, r2, r3, r4) := H
  have A4 := Aside0.mk A40
  clear A40
  replace H := Option.bind_eq_some_iff.mp H
  obtain ⟨⟨t183, t184⟩, A50, H⟩ := H
  replace H : ((some (([wrap64 (t181 - 2), wrap64 (t183 - 2)] : List Int) : List Int)).bind fun y185 => ((spec_l1Next.f t172 t184 12).bind fun bt188 => (if bt188.1 = 0 then ((spec_l1Pick.f t172 bt188.2 (([(-3), 3] : List Int))).bind fun bt193 => (if 1 < (y185.length : Int) then ((spec_l1Next.f t172 bt193.2 9).bind fun bt196 => ((spec_l1Next.f t172 bt196.2 9).bind fun bt198 => ((spec_l1Pick.f t172 bt198.2 (([bt196.1, bt198.1, 1000, 1001, (-1)] : List Int))).bind fun bt203 => (some (t175, t176, bt203.1, (y185.set (1 : Int).toNat bt193.1)))))) else (none))) else (if bt188.1 = 1 then (if y185.length < 17592186044416 then ((spec_l1Next.f t172 bt188.2 9).bind fun bt208 => ((spec_l1Next.f t172 bt208.2 9).bind fun bt210 => ((spec_l1Pick.f t172 bt210.2 (([bt208.1, bt210.1, 1000, 1001, (-1)] : List Int))).bind fun bt215 => (some (t175, t176, bt215.1, (y185 ++ [0])))))) else (none)) else ((spec_l1Next.f t172 bt188.2 9).bind fun bt217 => ((spec_l1Next.f t172 bt217.2 9).bind fun bt219 => ((spec_l1Pick.f t172 bt219.2 (([bt217.1, bt219.1, 1000, 1001, (-1)] : List Int))).bind fun bt224 => (some (t175, t176, bt224.1, y185))))))))) = some (r1, r2, r3, r4) := H
  have A5 := Aside0.mk A50
  clear A50
  obtain ⟨y185, hy185⟩ : ∃ y_ : List Int, y_ = (([wrap64 (t181 - 2), wrap64 (t183 - 2)] : List Int)) := ⟨_, rfl⟩
  replace H : ((spec_l1Next.f t172 t184 12).bind fun bt188 => (if bt188.1 = 0 then ((spec_l1Pick.f t172 bt188.2 (([(-3), 3] : List Int))).bind fun bt193 => (if 1 < (y185.length : Int) then ((spec_l1Next.f t172 bt193.2 9).bind fun bt196 => ((spec_l1Next.f t172 bt196.2 9).bind fun bt198 => ((spec_l1Pick.f t172 bt198.2 (([bt196.1, bt198.1, 1000, 1001, (-1)] : List Int))).bind fun bt203 => (some (t175, t176, bt203.1, (y185.set (1 : Int).toNat bt193.1)))))) else (none))) else (if bt188.1 = 1 then (if y185.length < 17592186044416 then ((spec_l1Next.f t172 bt188.2 9).bind fun bt208 => ((spec_l1Next.f t172 bt208.2 9).bind fun bt210 => ((spec_l1Pick.f t172 bt210.2 (([bt208.1, bt210.1, 1000, 1001, (-1)] : List Int))).bind fun bt215 => (some (t175, t176, bt215.1, (y185 ++ [0])))))) else (none)) else ((spec_l1Next.f t172 bt188.2 9).bind fun bt217 => ((spec_l1Next.f t172 bt217.2 9).bind fun bt219 => ((spec_l1Pick.f t172 bt219.2 (([bt217.1, bt219.1, 1000, 1001, (-1)] : List Int))).bind fun bt224 => (some (t175, t176, bt224.1, y185)))))))) = some (r1, r2, r3, r4) := by first | (rw [hy185]; with_reducible exact H) | (have H2_ := (Option.bind_some _ _).symm.trans H; rw [hy185]; with_reducible exact H2_) | (have H2_ := (Option.bind_some _ _).symm.trans H; with_reducible exact H2_) | with_reducible exact H | (rw [hy185]; exact H) | exact H
  have Ny185 := Aside0.mk hy185
  clear hy185
  replace H := Option.bind_eq_some_iff.mp H
  obtain ⟨⟨t188, t189⟩, A60, H⟩ := H
  replace H : (if t188 = 0 then ((spec_l1Pick.f t172 t189 (([(-3), 3] : List Int))).bind fun bt193 => (if 1 < (y185.length : Int) then ((spec_l1Next.f t172 bt193.2 9).bind fun bt196 => ((spec_l1Next.f t172 bt196.2 9).bind fun bt198 => ((spec_l1Pick.f t172 bt198.2 (([bt196.1, bt198.1, 1000, 1001, (-1)] : List Int))).bind fun bt203 => (some (t175, t176, bt203.1, (y185.set (1 : Int).toNat bt193.1)))))) else (none))) else (if t188 = 1 then (if y185.length < 17592186044416 then ((spec_l1Next.f t172 t189 9).bind fun bt208 => ((spec_l1Next.f t172 bt208.2 9).bind fun bt210 => ((spec_l1Pick.f t172 bt210.2 (([bt208.1, bt210.1, 1000, 1001, (-1)] : List Int))).bind fun bt215 => (some (t175, t176, bt215.1, (y185 ++ [0])))))) else (none)) else ((spec_l1Next.f t172 t189 9).bind fun bt217 => ((spec_l1Next.f t172 bt217.2 9).bind fun bt219 => ((spec_l1Pick.f t172 bt219.2 (([bt217.1, bt219.1, 1000, 1001, (-1)] : List Int))).bind fun bt224 => (some (t175, t176, bt224.1, y185))))))) = some (r1, r2, r3, r4) := H
  have A6 := Aside0.mk A60
  clear A60
  by_cases c7 : t188 = 0
  · rw [if_pos c7] at H
    have c7b0 : (t188 == 0) = true := beq_iff_eq.mpr c7
    have c7b1 : (t188 != 0) = false := bne_eq_false_iff_eq.mpr c7
    clear c7
    obtain ⟨y190, hy190⟩ : ∃ y_ : List Int, y_ = (([(-3), 3] : List Int)) := ⟨_, rfl⟩
    replace H : ((spec_l1Pick.f t172 t189 y190).bind fun bt193 => (if 1 < (y185.length : Int) then ((spec_l1Next.f t172 bt193.2 9).bind fun bt196 => ((spec_l1Next.f t172 bt196.2 9).bind fun bt198 => ((spec_l1Pick.f t172 bt198.2 (([bt196.1, bt198.1, 1000, 1001, (-1)] : List Int))).bind fun bt203 => (some (t175, t176, bt203.1, (y185.set (1 : Int).toNat bt193.1)))))) else (none))) = some (r1, r2, r3, r4) := by first | (rw [hy190]; with_reducible exact H) | (have H2_ := (Option.bind_some _ _).symm.trans H; rw [hy190]; with_reducible exact H2_) | (have H2_ := (Option.bind_some _ _).symm.trans H; with_reducible exact H2_) | with_reducible exact H | (rw [hy190]; exact H) | exact H
    have Ny190 := Aside0.mk hy190
    clear hy190
    replace H := Option.bind_eq_some_iff.mp H
    obtain ⟨⟨t193, t194⟩, A80, H⟩ := H
    replace H : (if 1 < (y185.length : Int) then ((spec_l1Next.f t172 t194 9).bind fun bt196 => ((spec_l1Next.f t172 bt196.2 9).bind fun bt198 => ((spec_l1Pick.f t172 bt198.2 (([bt196.1, bt198.1, 1000, 1001, (-1)] : List Int))).bind fun bt203 => (some (t175, t176, bt203.1, (y185.set (1 : Int).toNat t193)))))) else (none)) = some (r1, r2, r3, r4) := H
    have A8 := Aside0.mk A80
    clear A80
    by_cases c9 : 1 < (y185.length : Int)
    · rw [if_pos c9] at H
      have c9b0 : decide (1 < (y185.length : Int)) = true := decide_eq_true c9
      have c9b1 : decide (1 < y185.length) = true := decide_eq_true (by omega)
      clear c9
      obtain ⟨y195, hy195⟩ : ∃ y_ : List Int, y_ = (y185.set (1 : Int).toNat t193) := ⟨_, rfl⟩
      replace H : ((spec_l1Next.f t172 t194 9).bind fun bt196 => ((spec_l1Next.f t172 bt196.2 9).bind fun bt198 => ((spec_l1Pick.f t172 bt198.2 (([bt196.1, bt198.1, 1000, 1001, (-1)] : List Int))).bind fun bt203 => (some (t175, t176, bt203.1, y195))))) = some (r1, r2, r3, r4) := by first | (rw [hy195]; with_reducible exact H) | (have H2_ := (Option.bind_some _ _).symm.trans H; rw [hy195]; with_reducible exact H2_) | (have H2_ := (Option.bind_some _ _).symm.trans H; with_reducible exact H2_) | with_reducible exact H | (rw [hy195]; exact H) | exact H
      have Ny195 := Aside0.mk hy195
      clear hy195
      replace H := Option.bind_eq_some_iff.mp H
      obtain ⟨⟨t196, t197⟩, A110, H⟩ := H
      replace H : ((spec_l1Next.f t172 t197 9).bind fun bt198 => ((spec_l1Pick.f t172 bt198.2 (([t196, bt198.1, 1000, 1001, (-1)] : List Int))).bind fun bt203 => (some (t175, t176, bt203.1, y195)))) = some (r1, r2, r3, r4) := H
      have A11 := Aside0.mk A110
      clear A110
      replace H := Option.bind_eq_some_iff.mp H
      obtain ⟨⟨t198, t199⟩, A120, H⟩ := H
      replace H : ((spec_l1Pick.f t172 t199 (([t196, t198, 1000, 1001, (-1)] : List Int))).bind fun bt203 => (some (t175, t176, bt203.1, y195))) = some (r1, r2, r3, r4) := H
      have A12 := Aside0.mk A120
      clear A120
      obtain ⟨y200, hy200⟩ : ∃ y_ : List Int, y_ = (([t196, t198, 1000, 1001, (-1)] : List Int)) := ⟨_, rfl⟩
      replace H : ((spec_l1Pick.f t172 t199 y200).bind fun bt203 => (some (t175, t176, bt203.1, y195))) = some (r1, r2, r3, r4) := by first | (rw [hy200]; with_reducible exact H) | (have H2_ := (Option.bind_some _ _).symm.trans H; rw [hy200]; with_reducible exact H2_) | (have H2_ := (Option.bind_some _ _).symm.trans H; with_reducible exact H2_) | with_reducible exact H | (rw [hy200]; exact H) | exact H
      have Ny200 := Aside0.mk hy200
      clear hy200
      replace H := Option.bind_eq_some_iff.mp H
      obtain ⟨⟨t203, t204⟩, A130, H⟩ := H
      replace H : (some (t175, t176, t203, y195)) = some (r1, r2, r3, r4) := H
      have A13 := Aside0.mk A130
      clear A130
      simp only [Option.some.injEq, Prod.mk.injEq] at H
      obtain ⟨rfl, rfl, rfl, rfl⟩ := H
      go_enter Try.func21, Try.ntmps21
      try go_wp2_with (first | ((with_reducible refine gate_dst (N := 2) rfl ?_); refine box_event ?hg (N := 2) ?hd (cs := #[.int .i64 0, .slice none 0 0]) (t := 26) ?hr ?_; (case hd => rfl); (case hg => rfl); (case hr => first | (go_simp; done) | (go_simp; rfl)); intro gb171 hg w14 hbox hb; have n0_ := Aside0.mk (below_step (by repeat (first | (with_reducible first | exact HB.out | apply below_alloc | apply pw_below_drewN | apply below_drew1) | exact HB.out)) hb); have n1_ := Aside0.mk (hbox); have n2_ := Aside0.mk ((by rw [hg]; exact (below_size (by repeat (first | (with_reducible first | exact HB.out | apply below_alloc | apply pw_below_drewN | apply below_drew1) | exact HB.out))) : w.heap.size ≤ gb171)); have n3_ := Aside0.mk ((by rw [hg]; exact (below_size (by repeat (first | (with_reducible first | exact HB.out | apply below_alloc | apply pw_below_drewN | apply below_drew1) | exact HB.out))) : w.heap.size ≤ gb171)); clear HB; have HB := n0_; have BK171 := n1_; have GW171 := n2_; have GE171 := n3_; clear n0_ n1_ n2_ n3_; clear hb hbox hg) | ((with_reducible refine gate_callee (f := 58) rfl ?_); refine goesL_ (some 9) rfl rfl Try.func58 (by kernel_rfl) rfl #[.slice A0 l0.length c0] rfl (by (try simp only [List.map_toArray, List.map_cons, List.map_nil]); first | done | rfl | (simp only [List.length_drop, List.length_take]; rfl)) ?_; (with_reducible refine (spec_l1Source.calls _ _ l0 t172 t173 w _ ?side1 ?side2 ?side3 A2.out).mono ?_); (case side1 => repeat (first | (with_reducible first | exact HB.out | apply below_alloc | apply pw_below_drewN | apply below_drew1 | refine below_set ?_ GE171.out) | exact HB.out)); (case side2 => exact HR0.out); (case side3 => exact HC0.out); rintro e w15 ⟨g174, rfl, hi, hb, hb2⟩; refine ⟨_, rfl, ?_⟩; have n0_ := Aside0.mk (blk_below (g := gb171) (o := .cells #[.int .i64 0, .slice none 0 0] 26 (0, 0)) (by (with_reducible repeat (first | refine blk_drewN ?_ _ | refine blk_drew ?_ | refine blk_alloc ?_ _)); exact BK171.out) hb2); have n1_ := Aside0.mk (hb); have n2_ := Aside0.mk (hi); have n3_ := Aside0.mk (IsS104.ne_blk hi (blk_below (g := gb171) (o := .cells #[.int .i64 0, .slice none 0 0] 26 (0, 0)) (by (with_reducible repeat (first | refine blk_drewN ?_ _ | refine blk_drew ?_ | refine blk_alloc ?_ _)); exact BK171.out) hb2) (by decide)); have n4_ := Aside0.mk (Ne.symm (IsS104.ne_blk hi (blk_below (g := gb171) (o := .cells #[.int .i64 0, .slice none 0 0] 26 (0, 0)) (by (with_reducible repeat (first | refine blk_drewN ?_ _ | refine blk_drew ?_ | refine blk_alloc ?_ _)); exact BK171.out) hb2) (by decide))); clear BK171; clear HB; have BK171 := n0_; have HB := n1_; have HI174 := n2_; have NB174_171 := n3_; have NB171_174 := n4_; clear n0_ n1_ n2_ n3_ n4_; (try clear hb); (try clear hb2); (try clear hk); (try clear hi)) | ((with_reducible refine gate_callee (f := 59) rfl ?_); refine goesL_ (some 11) rfl rfl Try.func59 (by kernel_rfl) rfl #[.pointer (some ⟨g174, 0, none⟩)] rfl (by (try simp only [List.map_toArray, List.map_cons, List.map_nil]); first | done | rfl | (simp only [List.length_drop, List.length_take]; rfl)) ?_; (with_reducible refine (spec_l13Clock.calls g174 t172 t173 t175 t176 t179 w _ ?side1 ?side2 A3.out).mono ?_); (case side1 => repeat (first | (with_reducible first | exact HI174.out | apply IsS104.alloc | apply IsS104.drewN | apply IsS104.drew | apply IsS104.set_1 | refine IsS104.far ?_ NB174_171.out _) | exact HI174.out)); (case side2 => repeat (first | (with_reducible first | exact HB.out | apply below_alloc | apply pw_below_drewN | apply below_drew1 | refine below_set ?_ (IsS104.ge HI174.out) | refine below_set ?_ GE171.out) | exact HB.out)); rintro e w16 ⟨v177, rfl, ho0, hi, hb, hk⟩; refine ⟨_, rfl, ?_⟩; have n0_ := Aside0.mk (KeepBut.blk hk (g' := gb171) (o := .cells #[.int .i64 0, .slice none 0 0] 26 (0, 0)) (by (with_reducible repeat (first | refine blk_drewN ?_ _ | refine blk_drew ?_ | refine blk_alloc ?_ _)); exact BK171.out) NB171_174.out (by simp)); have n1_ := Aside0.mk (Kd.Q_lower ho0 (below_size (by repeat (first | (with_reducible first | exact HB.out | apply below_alloc | apply pw_below_drewN | apply below_drew1 | refine below_set ?_ (IsS104.ge HI174.out) | refine below_set ?_ GE171.out) | exact HB.out)))); have n2_ := Aside0.mk (hb); have n3_ := Aside0.mk (hi); clear BK171; clear HB; clear HI174; have BK171 := n0_; have HO178 := n1_; have HB := n2_; have HI174 := n3_; clear n0_ n1_ n2_ n3_; (try clear hb); (try clear hb2); (try clear hk); (try clear hi); (try clear ho0)) | ((with_reducible refine gate_dst (N := 6) rfl ?_); refine box_event ?hg (N := 6) ?hd (cs := #[.int .i64 0, .slice none 0 0]) (t := 26) ?hr ?_; (case hd => rfl); (case hg => rfl); (case hr => first | (go_simp; done) | (go_simp; rfl)); intro gb180 hg w17 hbox hb; have n0_ := Aside0.mk (Kd.Q_below (by (with_reducible repeat (first | apply Kd.Q_alloc | apply Kd.Q_drewN | apply Kd.Q_drew)); exact HO178.out) hb); have n1_ := Aside0.mk (blk_below (g := gb171) (o := .cells #[.int .i64 0, .slice none 0 0] 26 (0, 0)) (by (with_reducible repeat (first | refine blk_drewN ?_ _ | refine blk_drew ?_ | refine blk_alloc ?_ _)); exact BK171.out) hb); have n2_ := Aside0.mk (IsS104.below (by repeat (first | (with_reducible first | exact HI174.out | apply IsS104.alloc | apply IsS104.drewN | apply IsS104.drew | apply IsS104.set_1 | refine IsS104.far ?_ NB174_171.out _) | exact HI174.out)) hb); have n3_ := Aside0.mk (below_step (by repeat (first | (with_reducible first | exact HB.out | apply below_alloc | apply pw_below_drewN | apply below_drew1 | refine below_set ?_ (IsS104.ge HI174.out) | refine below_set ?_ GE171.out) | exact HB.out)) hb); have n4_ := Aside0.mk (hbox); have n5_ := Aside0.mk ((by rw [hg]; exact (below_size (by repeat (first | (with_reducible first | exact HB.out | apply below_alloc | apply pw_below_drewN | apply below_drew1 | refine below_set ?_ (IsS104.ge HI174.out) | refine below_set ?_ GE171.out) | exact HB.out))) : w.heap.size ≤ gb180)); have n6_ := Aside0.mk ((by rw [hg]; exact (below_size (by repeat (first | (with_reducible first | exact HB.out | apply below_alloc | apply pw_below_drewN | apply below_drew1 | refine below_set ?_ (IsS104.ge HI174.out) | refine below_set ?_ GE171.out) | exact HB.out))) : w.heap.size ≤ gb180)); have n7_ := Aside0.mk ((by rw [hg]; exact Nat.ne_of_lt (blk_lt (g := gb171) (o := .cells #[.int .i64 0, .slice none 0 0] 26 (0, 0)) (by (with_reducible repeat (first | refine blk_drewN ?_ _ | refine blk_drew ?_ | refine blk_alloc ?_ _)); exact BK171.out)) : gb171 ≠ gb180)); have n8_ := Aside0.mk ((by rw [hg]; exact Nat.ne_of_gt (blk_lt (g := gb171) (o := .cells #[.int .i64 0, .slice none 0 0] 26 (0, 0)) (by (with_reducible repeat (first | refine blk_drewN ?_ _ | refine blk_drew ?_ | refine blk_alloc ?_ _)); exact BK171.out)) : gb180 ≠ gb171)); have n9_ := Aside0.mk ((by rw [hg]; exact Nat.ne_of_lt (IsS104.lt (show IsS104 w _ g174 t172 t179 from by repeat (first | (with_reducible first | exact HI174.out | apply IsS104.alloc | apply IsS104.drewN | apply IsS104.drew | apply IsS104.set_1 | refine IsS104.far ?_ NB174_171.out _) | exact HI174.out))) : g174 ≠ gb180)); have n10_ := Aside0.mk ((by rw [hg]; exact Nat.ne_of_gt (IsS104.lt (show IsS104 w _ g174 t172 t179 from by repeat (first | (with_reducible first | exact HI174.out | apply IsS104.alloc | apply IsS104.drewN | apply IsS104.drew | apply IsS104.set_1 | refine IsS104.far ?_ NB174_171.out _) | exact HI174.out))) : gb180 ≠ g174)); clear HO178; clear BK171; clear HI174; clear HB; have HO178 := n0_; have BK171 := n1_; have HI174 := n2_; have HB := n3_; have BK180 := n4_; have GW180 := n5_; have GE180 := n6_; have NB171_180 := n7_; have NB180_171 := n8_; have NB174_180 := n9_; have NB180_174 := n10_; clear n0_ n1_ n2_ n3_ n4_ n5_ n6_ n7_ n8_ n9_ n10_; clear hb hbox hg; have hnb18 := NB180_171.out; have hnc18 := NB171_180.out; have hnb19 := NB180_174.out; have hnc19 := NB174_180.out; have hcz20_0 : w17.cell? ⟨gb180, 0, none⟩ = some (.int .i64 0) := (blk_cell BK180.out 0).trans rfl; have hcz20_1 : w17.cell? ⟨gb180, 1, none⟩ = some (.slice none 0 0) := (blk_cell BK180.out 1).trans rfl; have hfz20_0 := blk_frozen BK180.out 0; have hfz20_1 := blk_frozen BK180.out 1; obtain ⟨Ao21, co21, eo21, _⟩ := Kd.Q_slice HO178.out; subst eo21) | ((with_reducible refine gate_callee (f := 60) rfl ?_); refine goesL_ (some 13) rfl rfl Try.func60 (by kernel_rfl) rfl #[.pointer (some ⟨g174, 0, none⟩), .int .i64 5] rfl (by (try simp only [List.map_toArray, List.map_cons, List.map_nil]); first | done | rfl | (simp only [List.length_drop, List.length_take]; rfl)) ?_; (with_reducible refine (spec_l1Next.calls g174 t172 t179 5 t181 t182 w _ ?side1 ?side2 A4.out).mono ?_); (case side1 => repeat (first | (with_reducible first | exact HI174.out | apply IsS104.alloc | apply IsS104.drewN | apply IsS104.drew | apply IsS104.set_1 | refine IsS104.far ?_ NB174_171.out _ | refine IsS104.far ?_ NB174_180.out _) | exact HI174.out)); (case side2 => repeat (first | (with_reducible first | exact HB.out | apply below_alloc | apply pw_below_drewN | apply below_drew1 | refine below_set ?_ (IsS104.ge HI174.out) | refine below_set ?_ GE171.out | refine below_set ?_ GE180.out) | exact HB.out)); rintro e w22 ⟨rfl, hi, hb, hk⟩; refine ⟨_, rfl, ?_⟩; have n0_ := Aside0.mk (KeepBut.blk hk (g' := gb171) (o := .cells #[.int .i64 0, .slice none 0 0] 26 (0, 0)) (by (with_reducible repeat (first | refine blk_drewN ?_ _ | refine blk_drew ?_ | refine blk_alloc ?_ _)); refine blk_far ?_ NB171_180.out _; (with_reducible repeat (first | refine blk_drewN ?_ _ | refine blk_drew ?_ | refine blk_alloc ?_ _)); refine blk_far ?_ NB171_180.out _; (with_reducible repeat (first | refine blk_drewN ?_ _ | refine blk_drew ?_ | refine blk_alloc ?_ _)); exact BK171.out) NB171_174.out (by simp)); have n1_ := Aside0.mk (Kd.Q_mono (Kd.Q_keep (IsS104.apartQ (show IsS104 w _ g174 t172 t179 from by repeat (first | (with_reducible first | exact HI174.out | apply IsS104.alloc | apply IsS104.drewN | apply IsS104.drew | apply IsS104.set_1 | refine IsS104.far ?_ NB174_171.out _ | refine IsS104.far ?_ NB174_180.out _) | exact HI174.out)) (by (with_reducible repeat (first | apply Kd.Q_alloc | apply Kd.Q_drewN | apply Kd.Q_drew)); exact (Kd.Q_mono (Kd.Q_far (p := ⟨gb180, 1, none⟩) (Kd.Q_far (p := ⟨gb180, 0, none⟩) (Kd.Q_types HO178.out BK180.out (by decide)) (fun _ hk => hk.2) (.int .i64 t175)) (fun _ hk => hk.2) (.slice Ao21 t176.length co21)) (fun _ h_ => h_.1))) (by decide)) hk (fun _ h => h.2)) (fun _ h => h.1)); have n2_ := Aside0.mk (KeepBut.blk hk (g' := gb180) (o := .cells #[.int .i64 t175, .slice Ao21 t176.length co21] 26 (0, 0)) (by (with_reducible repeat (first | refine blk_drewN ?_ _ | refine blk_drew ?_ | refine blk_alloc ?_ _)); refine blk_put (cs := #[.int .i64 t175, .slice none 0 0]) ?_ 1 _ rfl; (with_reducible repeat (first | refine blk_drewN ?_ _ | refine blk_drew ?_ | refine blk_alloc ?_ _)); refine blk_put (cs := #[.int .i64 0, .slice none 0 0]) ?_ 0 _ rfl; (with_reducible repeat (first | refine blk_drewN ?_ _ | refine blk_drew ?_ | refine blk_alloc ?_ _)); exact BK180.out) NB180_174.out (by simp)); have n3_ := Aside0.mk (hb); have n4_ := Aside0.mk (hi); clear BK171; clear HO178; clear BK180; clear HB; clear HI174; have BK171 := n0_; have HO178 := n1_; have BK180 := n2_; have HB := n3_; have HI174 := n4_; clear n0_ n1_ n2_ n3_ n4_; (try clear hb); (try clear hb2); (try clear hk); (try clear hi)) | ((with_reducible refine gate_callee (f := 60) rfl ?_); refine goesL_ (some 16) rfl rfl Try.func60 (by kernel_rfl) rfl #[.pointer (some ⟨g174, 0, none⟩), .int .i64 5] rfl (by (try simp only [List.map_toArray, List.map_cons, List.map_nil]); first | done | rfl | (simp only [List.length_drop, List.length_take]; rfl)) ?_; (with_reducible refine (spec_l1Next.calls g174 t172 t182 5 t183 t184 w _ ?side1 ?side2 A5.out).mono ?_); (case side1 => repeat (first | (with_reducible first | exact HI174.out | apply IsS104.alloc | apply IsS104.drewN | apply IsS104.drew | apply IsS104.set_1 | refine IsS104.far ?_ NB174_171.out _ | refine IsS104.far ?_ NB174_180.out _) | exact HI174.out)); (case side2 => repeat (first | (with_reducible first | exact HB.out | apply below_alloc | apply pw_below_drewN | apply below_drew1 | refine below_set ?_ (IsS104.ge HI174.out) | refine below_set ?_ GE171.out | refine below_set ?_ GE180.out) | exact HB.out)); rintro e w23 ⟨rfl, hi, hb, hk⟩; refine ⟨_, rfl, ?_⟩; have n0_ := Aside0.mk (KeepBut.blk hk (g' := gb171) (o := .cells #[.int .i64 0, .slice none 0 0] 26 (0, 0)) (by (with_reducible repeat (first | refine blk_drewN ?_ _ | refine blk_drew ?_ | refine blk_alloc ?_ _)); exact BK171.out) NB171_174.out (by simp)); have n1_ := Aside0.mk (Kd.Q_mono (Kd.Q_keep (IsS104.apartQ (show IsS104 w _ g174 t172 t182 from by repeat (first | (with_reducible first | exact HI174.out | apply IsS104.alloc | apply IsS104.drewN | apply IsS104.drew | apply IsS104.set_1 | refine IsS104.far ?_ NB174_171.out _ | refine IsS104.far ?_ NB174_180.out _) | exact HI174.out)) (by (with_reducible repeat (first | apply Kd.Q_alloc | apply Kd.Q_drewN | apply Kd.Q_drew)); exact HO178.out) (by decide)) hk (fun _ h => h.2)) (fun _ h => h.1)); have n2_ := Aside0.mk (KeepBut.blk hk (g' := gb180) (o := .cells #[.int .i64 t175, .slice Ao21 t176.length co21] 26 (0, 0)) (by (with_reducible repeat (first | refine blk_drewN ?_ _ | refine blk_drew ?_ | refine blk_alloc ?_ _)); exact BK180.out) NB180_174.out (by simp)); have n3_ := Aside0.mk (hb); have n4_ := Aside0.mk (hi); clear BK171; clear HO178; clear BK180; clear HB; clear HI174; have BK171 := n0_; have HO178 := n1_; have BK180 := n2_; have HB := n3_; have HI174 := n4_; clear n0_ n1_ n2_ n3_ n4_; (try clear hb); (try clear hb2); (try clear hk); (try clear hi)) | ((with_reducible refine gate_dst (N := 18) rfl ?_); refine Kd.R_lit (Kd.int .i64) _ 2 ?hg (N := 18) ?hd (xs := ([wrap64 (t181 - 2), wrap64 (t183 - 2)] : List Int)) (inner := [.int .i64 (wrap64 (t181 - 2)), .int .i64 (wrap64 (t183 - 2))]) (ok := fun _ => True) (okp := fun _ => True) ?hr ?hp (fun _ hk => hk) trivial (Below.refl _ _) (Nat.le_refl _) (by simp) ?_; (case hd => rfl); (case hg => rfl); (case hr => first | (go_simp; done) | (go_simp; rfl)); (case hp => exact (Reps.one (show Kd.M (Kd.int .i64) _ _ _ (wrap64 (t181 - 2)) [.int .i64 (wrap64 (t181 - 2))] from rfl) (Reps.one (show Kd.M (Kd.int .i64) _ _ _ (wrap64 (t183 - 2)) [.int .i64 (wrap64 (t183 - 2))] from rfl) (Reps.none _ _)))); intro v186 w24 ho25 hb hg_ hnew_; clear hg_ hnew_; (first | rw [← Ny185.out] at ho25 | (simp only [Int.reduceToNat] at ho25; rw [← Ny185.out] at ho25)); have n0_ := Aside0.mk (Kd.Q_elder' (by (with_reducible repeat (first | apply Kd.Q_alloc | apply Kd.Q_drewN | apply Kd.Q_drew)); exact HO178.out) (Kd.R_base ho25) hb); have n1_ := Aside0.mk (Kd.R_lower (Kd.R_new' ho25 (Kd.Q_lt (by (with_reducible repeat (first | apply Kd.Q_alloc | apply Kd.Q_drewN | apply Kd.Q_drew)); exact HO178.out))) (below_size (by repeat (first | (with_reducible first | exact HB.out | apply below_alloc | apply pw_below_drewN | apply below_drew1 | refine below_set ?_ (IsS104.ge HI174.out) | refine below_set ?_ GE171.out | refine below_set ?_ GE180.out) | exact HB.out)))); have n2_ := Aside0.mk (blk_below (g := gb171) (o := .cells #[.int .i64 0, .slice none 0 0] 26 (0, 0)) (by (with_reducible repeat (first | refine blk_drewN ?_ _ | refine blk_drew ?_ | refine blk_alloc ?_ _)); exact BK171.out) hb); have n3_ := Aside0.mk (IsS104.below (by repeat (first | (with_reducible first | exact HI174.out | apply IsS104.alloc | apply IsS104.drewN | apply IsS104.drew | apply IsS104.set_1 | refine IsS104.far ?_ NB174_171.out _ | refine IsS104.far ?_ NB174_180.out _) | exact HI174.out)) hb); have n4_ := Aside0.mk (blk_below (g := gb180) (o := .cells #[.int .i64 t175, .slice Ao21 t176.length co21] 26 (0, 0)) (by (with_reducible repeat (first | refine blk_drewN ?_ _ | refine blk_drew ?_ | refine blk_alloc ?_ _)); exact BK180.out) hb); have n5_ := Aside0.mk (below_step (by repeat (first | (with_reducible first | exact HB.out | apply below_alloc | apply pw_below_drewN | apply below_drew1 | refine below_set ?_ (IsS104.ge HI174.out) | refine below_set ?_ GE171.out | refine below_set ?_ GE180.out) | exact HB.out)) hb); clear HO178; clear BK171; clear HI174; clear BK180; clear HB; have HO178 := n0_; have HO187 := n1_; have BK171 := n2_; have HI174 := n3_; have BK180 := n4_; have HB := n5_; clear n0_ n1_ n2_ n3_ n4_ n5_; clear hb ho25) | ((with_reducible refine gate_callee (f := 60) rfl ?_); refine goesL_ (some 20) rfl rfl Try.func60 (by kernel_rfl) rfl #[.pointer (some ⟨g174, 0, none⟩), .int .i64 12] rfl (by (try simp only [List.map_toArray, List.map_cons, List.map_nil]); first | done | rfl | (simp only [List.length_drop, List.length_take]; rfl)) ?_; (with_reducible refine (spec_l1Next.calls g174 t172 t184 12 t188 t189 w _ ?side1 ?side2 A6.out).mono ?_); (case side1 => repeat (first | (with_reducible first | exact HI174.out | apply IsS104.alloc | apply IsS104.drewN | apply IsS104.drew | apply IsS104.set_1 | refine IsS104.far ?_ NB174_171.out _ | refine IsS104.far ?_ NB174_180.out _) | exact HI174.out)); (case side2 => repeat (first | (with_reducible first | exact HB.out | apply below_alloc | apply pw_below_drewN | apply below_drew1 | refine below_set ?_ (IsS104.ge HI174.out) | refine below_set ?_ GE171.out | refine below_set ?_ GE180.out) | exact HB.out)); rintro e w26 ⟨rfl, hi, hb, hk⟩; refine ⟨_, rfl, ?_⟩; have n0_ := Aside0.mk (KeepBut.blk hk (g' := gb171) (o := .cells #[.int .i64 0, .slice none 0 0] 26 (0, 0)) (by (with_reducible repeat (first | refine blk_drewN ?_ _ | refine blk_drew ?_ | refine blk_alloc ?_ _)); exact BK171.out) NB171_174.out (by simp)); have n1_ := Aside0.mk (Kd.Q_mono (Kd.Q_keep (IsS104.apartQ (show IsS104 w _ g174 t172 t184 from by repeat (first | (with_reducible first | exact HI174.out | apply IsS104.alloc | apply IsS104.drewN | apply IsS104.drew | apply IsS104.set_1 | refine IsS104.far ?_ NB174_171.out _ | refine IsS104.far ?_ NB174_180.out _) | exact HI174.out)) (by (with_reducible repeat (first | apply Kd.Q_alloc | apply Kd.Q_drewN | apply Kd.Q_drew)); exact HO178.out) (by decide)) hk (fun _ h => h.2)) (fun _ h => h.1)); have n2_ := Aside0.mk (KeepBut.blk hk (g' := gb180) (o := .cells #[.int .i64 t175, .slice Ao21 t176.length co21] 26 (0, 0)) (by (with_reducible repeat (first | refine blk_drewN ?_ _ | refine blk_drew ?_ | refine blk_alloc ?_ _)); exact BK180.out) NB180_174.out (by simp)); have n3_ := Aside0.mk (Kd.R_mono (Kd.R_keep (IsS104.apart (show IsS104 w _ g174 t172 t184 from by repeat (first | (with_reducible first | exact HI174.out | apply IsS104.alloc | apply IsS104.drewN | apply IsS104.drew | apply IsS104.set_1 | refine IsS104.far ?_ NB174_171.out _ | refine IsS104.far ?_ NB174_180.out _) | exact HI174.out)) (by (with_reducible repeat (first | apply Kd.R_alloc | apply Kd.R_drewN | apply Kd.R_drew)); exact HO187.out) (by decide)) hk (fun _ h => h.2)) (fun _ h => h.1)); have n4_ := Aside0.mk (hb); have n5_ := Aside0.mk (hi); clear BK171; clear HO178; clear BK180; clear HO187; clear HB; clear HI174; have BK171 := n0_; have HO178 := n1_; have BK180 := n2_; have HO187 := n3_; have HB := n4_; have HI174 := n5_; clear n0_ n1_ n2_ n3_ n4_ n5_; (try clear hb); (try clear hb2); (try clear hk); (try clear hi)) | ((with_reducible refine gate_dst (N := 25) rfl ?_); refine Kd.R_lit (Kd.int .i64) _ 2 ?hg (N := 25) ?hd (xs := ([(-3), 3] : List Int)) (inner := [.int .i64 (-3), .int .i64 3]) (ok := fun _ => True) (okp := fun _ => True) ?hr ?hp (fun _ hk => hk) trivial (Below.refl _ _) (Nat.le_refl _) (by simp) ?_; (case hd => rfl); (case hg => rfl); (case hr => first | (go_simp; done) | (go_simp; rfl)); (case hp => exact (Reps.one (show Kd.M (Kd.int .i64) _ _ _ (-3) [.int .i64 (-3)] from rfl) (Reps.one (show Kd.M (Kd.int .i64) _ _ _ 3 [.int .i64 3] from rfl) (Reps.none _ _)))); intro v191 w27 ho28 hb hg_ hnew_; clear hg_ hnew_; (first | rw [← Ny190.out] at ho28 | (simp only [Int.reduceToNat] at ho28; rw [← Ny190.out] at ho28)); have n0_ := Aside0.mk (Kd.Q_elder' (by (with_reducible repeat (first | apply Kd.Q_alloc | apply Kd.Q_drewN | apply Kd.Q_drew)); exact HO178.out) (Kd.R_base ho28) hb); have n1_ := Aside0.mk (Kd.R_elder' (by (with_reducible repeat (first | apply Kd.R_alloc | apply Kd.R_drewN | apply Kd.R_drew)); exact HO187.out) (Kd.R_base ho28) hb); have n2_ := Aside0.mk (Kd.R_lower (Kd.R_new' (Kd.R_new' ho28 (Kd.Q_lt (by (with_reducible repeat (first | apply Kd.Q_alloc | apply Kd.Q_drewN | apply Kd.Q_drew)); exact HO178.out))) (Kd.R_lt (by (with_reducible repeat (first | apply Kd.R_alloc | apply Kd.R_drewN | apply Kd.R_drew)); exact HO187.out))) (below_size (by repeat (first | (with_reducible first | exact HB.out | apply below_alloc | apply pw_below_drewN | apply below_drew1 | refine below_set ?_ (IsS104.ge HI174.out) | refine below_set ?_ GE171.out | refine below_set ?_ GE180.out) | exact HB.out)))); have n3_ := Aside0.mk (blk_below (g := gb171) (o := .cells #[.int .i64 0, .slice none 0 0] 26 (0, 0)) (by (with_reducible repeat (first | refine blk_drewN ?_ _ | refine blk_drew ?_ | refine blk_alloc ?_ _)); exact BK171.out) hb); have n4_ := Aside0.mk (IsS104.below (by repeat (first | (with_reducible first | exact HI174.out | apply IsS104.alloc | apply IsS104.drewN | apply IsS104.drew | apply IsS104.set_1 | refine IsS104.far ?_ NB174_171.out _ | refine IsS104.far ?_ NB174_180.out _) | exact HI174.out)) hb); have n5_ := Aside0.mk (blk_below (g := gb180) (o := .cells #[.int .i64 t175, .slice Ao21 t176.length co21] 26 (0, 0)) (by (with_reducible repeat (first | refine blk_drewN ?_ _ | refine blk_drew ?_ | refine blk_alloc ?_ _)); exact BK180.out) hb); have n6_ := Aside0.mk (below_step (by repeat (first | (with_reducible first | exact HB.out | apply below_alloc | apply pw_below_drewN | apply below_drew1 | refine below_set ?_ (IsS104.ge HI174.out) | refine below_set ?_ GE171.out | refine below_set ?_ GE180.out) | exact HB.out)) hb); clear HO178; clear HO187; clear BK171; clear HI174; clear BK180; clear HB; have HO178 := n0_; have HO187 := n1_; have HO192 := n2_; have BK171 := n3_; have HI174 := n4_; have BK180 := n5_; have HB := n6_; clear n0_ n1_ n2_ n3_ n4_ n5_ n6_; clear hb ho28; obtain ⟨Ao29, co29, eo29⟩ := Kd.R_slice HO192.out; subst eo29) | ((with_reducible refine gate_callee (f := 61) rfl ?_); refine goesL_ (some 26) rfl rfl Try.func61 (by kernel_rfl) rfl #[.pointer (some ⟨g174, 0, none⟩), .slice Ao29 y190.length co29] rfl (by (try simp only [List.map_toArray, List.map_cons, List.map_nil]); first | done | rfl | (simp only [List.length_drop, List.length_take]; rfl)) ?_; (with_reducible refine (spec_l1Pick.calls g174 t172 t189 _ _ y190 t193 t194 w _ ?side1 ?side2 ?side3 ?side4 ?side5 A8.out).mono ?_); (case side1 => repeat (first | (with_reducible first | exact HI174.out | apply IsS104.alloc | apply IsS104.drewN | apply IsS104.drew | apply IsS104.set_1 | refine IsS104.far ?_ NB174_171.out _ | refine IsS104.far ?_ NB174_180.out _) | exact HI174.out)); (case side2 => repeat (first | (with_reducible first | exact HB.out | apply below_alloc | apply pw_below_drewN | apply below_drew1 | refine below_set ?_ (IsS104.ge HI174.out) | refine below_set ?_ GE171.out | refine below_set ?_ GE180.out) | exact HB.out)); (case side3 => repeat (first | exact (Kd.R_reads' HO192.out).2.2 | (with_reducible refine Kd.C_alloc ?_ _) | (with_reducible refine Kd.C_drewN ?_ _) | (with_reducible refine Kd.C_drew ?_))); (case side4 => exact (Kd.R_reads' HO192.out).2.1); (case side5 => exact far_slice (IsS104.own_ne HI174.out HO192.out (by decide))); rintro e w30 ⟨rfl, hi, hb, hk⟩; refine ⟨_, rfl, ?_⟩; have n0_ := Aside0.mk (KeepBut.blk hk (g' := gb171) (o := .cells #[.int .i64 0, .slice none 0 0] 26 (0, 0)) (by (with_reducible repeat (first | refine blk_drewN ?_ _ | refine blk_drew ?_ | refine blk_alloc ?_ _)); exact BK171.out) NB171_174.out (by simp)); have n1_ := Aside0.mk (Kd.Q_mono (Kd.Q_keep (IsS104.apartQ (show IsS104 w _ g174 t172 t189 from by repeat (first | (with_reducible first | exact HI174.out | apply IsS104.alloc | apply IsS104.drewN | apply IsS104.drew | apply IsS104.set_1 | refine IsS104.far ?_ NB174_171.out _ | refine IsS104.far ?_ NB174_180.out _) | exact HI174.out)) (by (with_reducible repeat (first | apply Kd.Q_alloc | apply Kd.Q_drewN | apply Kd.Q_drew)); exact HO178.out) (by decide)) hk (fun _ h => h.2)) (fun _ h => h.1)); have n2_ := Aside0.mk (KeepBut.blk hk (g' := gb180) (o := .cells #[.int .i64 t175, .slice Ao21 t176.length co21] 26 (0, 0)) (by (with_reducible repeat (first | refine blk_drewN ?_ _ | refine blk_drew ?_ | refine blk_alloc ?_ _)); exact BK180.out) NB180_174.out (by simp)); have n3_ := Aside0.mk (Kd.R_mono (Kd.R_keep (IsS104.apart (show IsS104 w _ g174 t172 t189 from by repeat (first | (with_reducible first | exact HI174.out | apply IsS104.alloc | apply IsS104.drewN | apply IsS104.drew | apply IsS104.set_1 | refine IsS104.far ?_ NB174_171.out _ | refine IsS104.far ?_ NB174_180.out _) | exact HI174.out)) (by (with_reducible repeat (first | apply Kd.R_alloc | apply Kd.R_drewN | apply Kd.R_drew)); exact HO187.out) (by decide)) hk (fun _ h => h.2)) (fun _ h => h.1)); have n4_ := Aside0.mk (Kd.R_mono (Kd.R_keep (IsS104.apart (show IsS104 w _ g174 t172 t189 from by repeat (first | (with_reducible first | exact HI174.out | apply IsS104.alloc | apply IsS104.drewN | apply IsS104.drew | apply IsS104.set_1 | refine IsS104.far ?_ NB174_171.out _ | refine IsS104.far ?_ NB174_180.out _) | exact HI174.out)) (by (with_reducible repeat (first | apply Kd.R_alloc | apply Kd.R_drewN | apply Kd.R_drew)); exact HO192.out) (by decide)) hk (fun _ h => h.2)) (fun _ h => h.1)); have n5_ := Aside0.mk (hb); have n6_ := Aside0.mk (hi); clear BK171; clear HO178; clear BK180; clear HO187; clear HO192; clear HB; clear HI174; have BK171 := n0_; have HO178 := n1_; have BK180 := n2_; have HO187 := n3_; have HO192 := n4_; have HB := n5_; have HI174 := n6_; clear n0_ n1_ n2_ n3_ n4_ n5_ n6_; (try clear hb); (try clear hb2); (try clear hk); (try clear hi); have p10 : 0 ≤ (1 : Int) := (by omega); have q10 : (1 : Int) < ((y185.length : Int) : Int) := of_decide_eq_true (by first | (with_reducible assumption) | assumption); have qi10 : (1 < y185.length) = True := eq_true (by omega); obtain ⟨go10, co10, eo10, gb10, gl10, cl10, HG10⟩ := Kd.R_form HO187.out (by omega); (first | cases eo10 | (injection eo10 with ea_ en_ ec_; (first | subst ea_ | (injection ea_ with ea_; subst ea_)); subst ec_; clear en_)); have GB10 := Aside0.mk gb10; have GG10 := Aside0.mk HG10; clear gb10 gl10 HG10; obtain ⟨hx10_0, hf10_0⟩ := Kd.R_celln 0 HO187.out (1 : Int) p10 q10; (try rw [show ((1 : Int)).toNat = 1 from rfl] at hx10_0); (try simp only [Nat.reduceMul, Nat.zero_mul, Nat.zero_add, Nat.reduceAdd] at hx10_0); (try rw [show ((1 : Int)).toNat = 1 from rfl] at hf10_0); (try simp only [Nat.reduceMul, Nat.zero_mul, Nat.zero_add, Nat.reduceAdd] at hf10_0); replace p10 := eq_true p10; replace q10 := eq_true q10; have n_ := Aside0.mk (Kd.R_mono (ok' := (fun k_ => some k_ ≠ (.slice Ao21 t176.length co21 : Value).ownBlock ∧ some k_ ≠ (.slice Ao29 y190.length co29 : Value).ownBlock)) HO187.out (fun k_ hk => ⟨hk.1.2, hk.2⟩)); clear HO187; have HO187 := n_; clear n_; obtain ⟨hy31_, hz31_⟩ := Kd.R_celln 0 HO187.out (1 : Int) (by omega) (of_decide_eq_true (by first | (with_reducible assumption) | assumption)); (try simp only [Int.reduceToNat, Int.toNat_zero, Int.toNat_ofNat, Nat.reduceMul, Nat.zero_mul, Nat.zero_add] at hy31_ hz31_); (try rw [show ((1 : Int)).toNat = 1 from rfl] at hy31_); (try rw [show ((1 : Int)).toNat = 1 from rfl] at hz31_); have HP31 := Kd.R_putg HO187.out (1 : Int) t193) | ((with_reducible refine gate_store (t := 2) (p := 27) rfl ?_); refine store_event (t := 2) (p := 27) (v := ?vo_w32) (w1 := (w30.setCell ⟨go10, (1 : Int).toNat, none⟩ (.int .i64 t193))) ?hg ?ho ?hn ?hr ?_; (case ho => rfl); (case hg => rfl); (case hn => rfl); (case hr => first | (go_simp; done) | (go_simp; rfl)); intro w32 hw; have hg : w30.grownBy w32 (some go10) := (by rw [hw]; exact HP31.2); have hp_ : Kd.R (Kd.int .i64) 2 w32 w.heap.size (fun k_ => some k_ ≠ (.slice Ao21 t176.length co21 : Value).ownBlock ∧ some k_ ≠ (.slice Ao29 y190.length co29 : Value).ownBlock) (.slice (some ⟨go10, 0, none⟩) y185.length co10) y195 := (by rw [hw, Ny195.out]; exact HP31.1); clear HP31; have n0_ := Aside0.mk (blk_grown (g := gb171) (o := .cells #[.int .i64 0, .slice none 0 0] 26 (0, 0)) (by (with_reducible repeat (first | refine blk_drewN ?_ _ | refine blk_drew ?_ | refine blk_alloc ?_ _)); exact BK171.out) hg (Kd.R_ne HO187.out BK171.out (by decide))); have n1_ := Aside0.mk (IsS104.grown (by repeat (first | (with_reducible first | exact HI174.out | apply IsS104.alloc | apply IsS104.drewN | apply IsS104.drew | apply IsS104.set_1 | refine IsS104.far ?_ NB174_171.out _ | refine IsS104.far ?_ NB174_180.out _) | exact HI174.out)) hg (IsS104.own_ne HI174.out HO187.out (by decide))); have n2_ := Aside0.mk (Kd.Q_after (v := (.slice (some ⟨go10, 0, none⟩) y185.length co10)) (v1 := (.slice (some ⟨go10, 0, none⟩) y185.length co10)) (ok := (fun k_ => some k_ ≠ (.slice Ao29 y190.length co29 : Value).ownBlock)) (by (with_reducible repeat (first | apply Kd.Q_alloc | apply Kd.Q_drewN | apply Kd.Q_drew)); exact Kd.Q_mono HO178.out (fun _ hk => ⟨hk.2, hk.1.2⟩)) hg (.inl rfl)); have n3_ := Aside0.mk (blk_grown (g := gb180) (o := .cells #[.int .i64 t175, .slice Ao21 t176.length co21] 26 (0, 0)) (by (with_reducible repeat (first | refine blk_drewN ?_ _ | refine blk_drew ?_ | refine blk_alloc ?_ _)); exact BK180.out) hg (Kd.R_ne HO187.out BK180.out (by decide))); have n4_ := Aside0.mk (hp_); have n5_ := Aside0.mk (Kd.R_after (v := (.slice (some ⟨go10, 0, none⟩) y185.length co10)) (v1 := (.slice (some ⟨go10, 0, none⟩) y185.length co10)) (ok := (fun k_ => some k_ ≠ (.slice Ao21 t176.length co21 : Value).ownBlock)) (by (with_reducible repeat (first | apply Kd.R_alloc | apply Kd.R_drewN | apply Kd.R_drew)); exact Kd.R_mono HO192.out (fun _ hk => ⟨hk.1.2, hk.2⟩)) hg (.inl rfl)); have n6_ := Aside0.mk ((by rw [hw]; exact below_set (HB.out) GB10.out : Below w.heap.size w w32)); clear BK171; clear HI174; clear HO178; clear BK180; clear HO187; clear HO192; clear HB; have BK171 := n0_; have HI174 := n1_; have HO178 := n2_; have BK180 := n3_; have HO187 := n4_; have HO192 := n5_; have HB := n6_; clear n0_ n1_ n2_ n3_ n4_ n5_ n6_; clear hg hw hp_))
      have n0_ := Aside0.mk (Kd.Q_drew HO178.out)
      have n1_ := Aside0.mk (Kd.R_drew HO187.out)
      have n2_ := Aside0.mk (Kd.R_drew HO192.out)
      have n3_ := Aside0.mk (blk_drew BK171.out)
      have n4_ := Aside0.mk (blk_drew BK180.out)
      have n5_ := Aside0.mk (IsS104.drew HI174.out)
      have n6_ := Aside0.mk (below_drew1 HB.out)
      clear HO178
      clear HO187
      clear HO192
      clear BK171
      clear BK180
      clear HI174
      clear HB
      have HO178 := n0_
      have HO187 := n1_
      have HO192 := n2_
      have BK171 := n3_
      have BK180 := n4_
      have HI174 := n5_
      have HB := n6_
      clear n0_ n1_ n2_ n3_ n4_ n5_ n6_
      refine start_ (n := 12) (S := fun w' => w'.cell? ⟨gb180, 0, none⟩ = some (.int .i64 t175) ∧ w'.cell? ⟨gb180, 1, none⟩ = some (.slice Ao21 t176.length co21)) (ds := []) #[false, false, false, false, false, false, false, false, false, false, false, false] (by kernel_rfl) rfl rfl ⟨(blk_cell BK180.out 0).trans rfl, (blk_cell BK180.out 1).trans rfl⟩ (fun hHeld => ?_); refine with_tabW spec_DrawTickClock.tab9 spec_DrawTickClock.bits9 (fun HT_ HW_ => ?_)
      generalize w32.drew = w33 at HO178 HO187 HO192 BK171 BK180 HI174 HB hHeld ⊢
      refine pure_ (i := 1) (N := some 34) (v := ?_) (a' := ?_) #[false, true, false, false, false, false, false, false, false, false, false, false] rfl rfl (any_of HT_.out (by kernel_rfl)) (fun _ _ _ h => h) (Or.inl ⟨by rfl, ?_⟩) ?_ ?_
      rotate_left
      · intro w'
        go_simp
        with_reducible rfl
      rotate_left
      · simp only [Act.put, List.setIfInBounds_toArray, List.set_cons_zero, List.set_cons_succ, i64_w, i32_w]
        rfl
      refine pure_ (i := 2) (N := some 35) (v := ?_) (a' := ?_) #[false, true, true, false, false, false, false, false, false, false, false, false] rfl rfl (any_of HT_.out (by kernel_rfl)) (fun _ _ _ h => h) (Or.inl ⟨by rfl, ?_⟩) ?_ ?_
      rotate_left
      · intro w'
        go_simp
        with_reducible rfl
      rotate_left
      · simp only [Act.put, List.setIfInBounds_toArray, List.set_cons_zero, List.set_cons_succ, i64_w, i32_w]
        rfl
      refine pure_ (i := 4) (N := some 37) (v := ?_) (a' := ?_) #[false, true, true, false, true, false, false, false, false, false, false, false] rfl rfl (any_of HT_.out (by kernel_rfl)) (fun _ _ _ h => h) (Or.inl ⟨by rfl, ?_⟩) ?_ ?_
      rotate_left
      · intro w'
        go_simp
        with_reducible rfl
      rotate_left
      · simp only [Act.put, List.setIfInBounds_toArray, List.set_cons_zero, List.set_cons_succ, i64_w, i32_w]
        rfl
      refine pure_ (i := 8) (N := some 41) (v := ?_) (a' := ?_) #[false, true, true, false, true, false, false, false, true, false, false, false] rfl rfl (any_of HT_.out (by kernel_rfl)) (fun _ _ _ h => h) (Or.inl ⟨by rfl, ?_⟩) ?_ ?_
      rotate_left
      · intro w'
        go_simp
        with_reducible rfl
      rotate_left
      · simp only [Act.put, List.setIfInBounds_toArray, List.set_cons_zero, List.set_cons_succ, i64_w, i32_w]
        rfl
      refine take_ (i := 0) (N := some 33) (v := ?_) (a' := ?_) #[true, true, true, false, true, false, false, false, true, false, false, false] rfl rfl (take_ofW HT_.out HW_.out (by kernel_rfl)) (fun _ _ _ h => h) (Or.inl ⟨by rfl, ?_⟩) hHeld ?_ ?_
      rotate_left
      · rintro w' ⟨s0, s1⟩
        go_simp
        with_reducible rfl
      rotate_left
      · simp only [Act.put, List.setIfInBounds_toArray, List.set_cons_zero, List.set_cons_succ, i64_w, i32_w]
        rfl
      refine one_ (i := 3) (N := some 36) #[true, true, true, true, true, false, false, false, true, false, false, false] rfl rfl (one_of HT_.out (by kernel_rfl)) (by decide) (fun K hK => ?_)
      refine goes_ Try.func60 (by kernel_rfl) rfl #[.pointer (some ⟨g174, 0, none⟩), .int .i64 9] (by rfl) rfl rfl (by (try simp only [List.map_toArray, List.map_cons, List.map_nil]); first | done | rfl | (simp only [List.length_drop, List.length_take]; rfl)) ?_
      with_reducible refine (spec_l1Next.calls g174 t172 t194 9 t196 t197 w _ ?side1 ?side2 A11.out).mono ?_
      (case side1 => repeat (first | (with_reducible first | exact HI174.out | apply IsS104.alloc | apply IsS104.drewN | apply IsS104.drew | apply IsS104.set_1 | refine IsS104.far ?_ NB174_171.out _ | refine IsS104.far ?_ NB174_180.out _) | exact HI174.out))
      (case side2 => repeat (first | (with_reducible first | exact HB.out | apply below_alloc | apply pw_below_drewN | apply below_drew1 | refine below_set ?_ (IsS104.ge HI174.out) | refine below_set ?_ GE171.out | refine below_set ?_ GE180.out) | exact HB.out))
      rintro e w34 ⟨rfl, hi, hb, hk⟩
      refine ⟨_, rfl, ?_⟩
      have n0_ := Aside0.mk (KeepBut.blk hk (g' := gb171) (o := .cells #[.int .i64 0, .slice none 0 0] 26 (0, 0)) (by (with_reducible repeat (first | refine blk_drewN ?_ _ | refine blk_drew ?_ | refine blk_alloc ?_ _)); exact BK171.out) NB171_174.out (by simp))
      have n1_ := Aside0.mk (Kd.Q_mono (Kd.Q_keep (IsS104.apartQ (show IsS104 w _ g174 t172 t194 from by repeat (first | (with_reducible first | exact HI174.out | apply IsS104.alloc | apply IsS104.drewN | apply IsS104.drew | apply IsS104.set_1 | refine IsS104.far ?_ NB174_171.out _ | refine IsS104.far ?_ NB174_180.out _) | exact HI174.out)) (by (with_reducible repeat (first | apply Kd.Q_alloc | apply Kd.Q_drewN | apply Kd.Q_drew)); exact HO178.out) (by decide)) hk (fun _ h => h.2)) (fun _ h => h.1))
      have n2_ := Aside0.mk (KeepBut.blk hk (g' := gb180) (o := .cells #[.int .i64 t175, .slice Ao21 t176.length co21] 26 (0, 0)) (by (with_reducible repeat (first | refine blk_drewN ?_ _ | refine blk_drew ?_ | refine blk_alloc ?_ _)); exact BK180.out) NB180_174.out (by simp))
      have n3_ := Aside0.mk (Kd.R_mono (Kd.R_keep (IsS104.apart (show IsS104 w _ g174 t172 t194 from by repeat (first | (with_reducible first | exact HI174.out | apply IsS104.alloc | apply IsS104.drewN | apply IsS104.drew | apply IsS104.set_1 | refine IsS104.far ?_ NB174_171.out _ | refine IsS104.far ?_ NB174_180.out _) | exact HI174.out)) (by (with_reducible repeat (first | apply Kd.R_alloc | apply Kd.R_drewN | apply Kd.R_drew)); exact HO187.out) (by decide)) hk (fun _ h => h.2)) (fun _ h => h.1))
      have n4_ := Aside0.mk (Kd.R_mono (Kd.R_keep (IsS104.apart (show IsS104 w _ g174 t172 t194 from by repeat (first | (with_reducible first | exact HI174.out | apply IsS104.alloc | apply IsS104.drewN | apply IsS104.drew | apply IsS104.set_1 | refine IsS104.far ?_ NB174_171.out _ | refine IsS104.far ?_ NB174_180.out _) | exact HI174.out)) (by (with_reducible repeat (first | apply Kd.R_alloc | apply Kd.R_drewN | apply Kd.R_drew)); exact HO192.out) (by decide)) hk (fun _ h => h.2)) (fun _ h => h.1))
      have n5_ := Aside0.mk (hb)
      have n6_ := Aside0.mk (hi)
      clear BK171
      clear HO178
      clear BK180
      clear HO187
      clear HO192
      clear HB
      clear HI174
      have BK171 := n0_
      have HO178 := n1_
      have BK180 := n2_
      have HO187 := n3_
      have HO192 := n4_
      have HB := n5_
      have HI174 := n6_
      clear n0_ n1_ n2_ n3_ n4_ n5_ n6_
      (try clear hb)
      (try clear hb2)
      (try clear hk)
      (try clear hi)
      refine hK.out _ _ ⟨(blk_cell BK180.out 0).trans rfl, (blk_cell BK180.out 1).trans rfl⟩ (fun hHeld => ?_)
      clear hK K
      refine norm_ (a' := ?_) ?_ ?_
      rotate_left
      · show Act.put _ (some 36) _ = _
        simp only [Act.put, List.setIfInBounds_toArray, List.set_cons_zero, List.set_cons_succ, i64_w, i32_w]
        rfl
      refine one_ (i := 5) (N := some 38) #[true, true, true, true, true, true, false, false, true, false, false, false] rfl rfl (one_of HT_.out (by kernel_rfl)) (by decide) (fun K hK => ?_)
      refine goes_ Try.func60 (by kernel_rfl) rfl #[.pointer (some ⟨g174, 0, none⟩), .int .i64 9] (by rfl) rfl rfl (by (try simp only [List.map_toArray, List.map_cons, List.map_nil]); first | done | rfl | (simp only [List.length_drop, List.length_take]; rfl)) ?_
      with_reducible refine (spec_l1Next.calls g174 t172 t197 9 t198 t199 w _ ?side1 ?side2 A12.out).mono ?_
      (case side1 => repeat (first | (with_reducible first | exact HI174.out | apply IsS104.alloc | apply IsS104.drewN | apply IsS104.drew | apply IsS104.set_1 | refine IsS104.far ?_ NB174_171.out _ | refine IsS104.far ?_ NB174_180.out _) | exact HI174.out))
      (case side2 => repeat (first | (with_reducible first | exact HB.out | apply below_alloc | apply pw_below_drewN | apply below_drew1 | refine below_set ?_ (IsS104.ge HI174.out) | refine below_set ?_ GE171.out | refine below_set ?_ GE180.out) | exact HB.out))
      rintro e w35 ⟨rfl, hi, hb, hk⟩
      refine ⟨_, rfl, ?_⟩
      have n0_ := Aside0.mk (KeepBut.blk hk (g' := gb171) (o := .cells #[.int .i64 0, .slice none 0 0] 26 (0, 0)) (by (with_reducible repeat (first | refine blk_drewN ?_ _ | refine blk_drew ?_ | refine blk_alloc ?_ _)); exact BK171.out) NB171_174.out (by simp))
      have n1_ := Aside0.mk (Kd.Q_mono (Kd.Q_keep (IsS104.apartQ (show IsS104 w _ g174 t172 t197 from by repeat (first | (with_reducible first | exact HI174.out | apply IsS104.alloc | apply IsS104.drewN | apply IsS104.drew | apply IsS104.set_1 | refine IsS104.far ?_ NB174_171.out _ | refine IsS104.far ?_ NB174_180.out _) | exact HI174.out)) (by (with_reducible repeat (first | apply Kd.Q_alloc | apply Kd.Q_drewN | apply Kd.Q_drew)); exact HO178.out) (by decide)) hk (fun _ h => h.2)) (fun _ h => h.1))
      have n2_ := Aside0.mk (KeepBut.blk hk (g' := gb180) (o := .cells #[.int .i64 t175, .slice Ao21 t176.length co21] 26 (0, 0)) (by (with_reducible repeat (first | refine blk_drewN ?_ _ | refine blk_drew ?_ | refine blk_alloc ?_ _)); exact BK180.out) NB180_174.out (by simp))
      have n3_ := Aside0.mk (Kd.R_mono (Kd.R_keep (IsS104.apart (show IsS104 w _ g174 t172 t197 from by repeat (first | (with_reducible first | exact HI174.out | apply IsS104.alloc | apply IsS104.drewN | apply IsS104.drew | apply IsS104.set_1 | refine IsS104.far ?_ NB174_171.out _ | refine IsS104.far ?_ NB174_180.out _) | exact HI174.out)) (by (with_reducible repeat (first | apply Kd.R_alloc | apply Kd.R_drewN | apply Kd.R_drew)); exact HO187.out) (by decide)) hk (fun _ h => h.2)) (fun _ h => h.1))
      have n4_ := Aside0.mk (Kd.R_mono (Kd.R_keep (IsS104.apart (show IsS104 w _ g174 t172 t197 from by repeat (first | (with_reducible first | exact HI174.out | apply IsS104.alloc | apply IsS104.drewN | apply IsS104.drew | apply IsS104.set_1 | refine IsS104.far ?_ NB174_171.out _ | refine IsS104.far ?_ NB174_180.out _) | exact HI174.out)) (by (with_reducible repeat (first | apply Kd.R_alloc | apply Kd.R_drewN | apply Kd.R_drew)); exact HO192.out) (by decide)) hk (fun _ h => h.2)) (fun _ h => h.1))
      have n5_ := Aside0.mk (hb)
      have n6_ := Aside0.mk (hi)
      clear BK171
      clear HO178
      clear BK180
      clear HO187
      clear HO192
      clear HB
      clear HI174
      have BK171 := n0_
      have HO178 := n1_
      have BK180 := n2_
      have HO187 := n3_
      have HO192 := n4_
      have HB := n5_
      have HI174 := n6_
      clear n0_ n1_ n2_ n3_ n4_ n5_ n6_
      (try clear hb)
      (try clear hb2)
      (try clear hk)
      (try clear hi)
      refine hK.out _ _ ⟨(blk_cell BK180.out 0).trans rfl, (blk_cell BK180.out 1).trans rfl⟩ (fun hHeld => ?_)
      clear hK K
      refine norm_ (a' := ?_) ?_ ?_
      rotate_left
      · show Act.put _ (some 38) _ = _
        simp only [Act.put, List.setIfInBounds_toArray, List.set_cons_zero, List.set_cons_succ, i64_w, i32_w]
        rfl
      refine one_ (i := 6) (N := some 39) #[true, true, true, true, true, true, true, false, true, false, false, false] rfl rfl (one_of HT_.out (by kernel_rfl)) (by decide) (fun K hK => ?_)
      refine Kd.R_lit_step (Kd.int .i64) _ 2 ?hg (N := 39) ?hd (xs := ([t196, t198, 1000, 1001, (-1)] : List Int)) (inner := [.int .i64 t196, .int .i64 t198, .int .i64 1000, .int .i64 1001, .int .i64 (-1)]) (ok := fun _ => True) (okp := fun _ => True) ?hr ?hp (fun _ hk => hk) trivial (Below.refl _ _) (Nat.le_refl _) (by simp) ?_; (case hd => rfl); (case hg => rfl); (case hr => first | (go_simp; done) | (go_simp; rfl)); (case hp => exact (Reps.one (show Kd.M (Kd.int .i64) _ _ _ t196 [.int .i64 t196] from rfl) (Reps.one (show Kd.M (Kd.int .i64) _ _ _ t198 [.int .i64 t198] from rfl) (Reps.one (show Kd.M (Kd.int .i64) _ _ _ 1000 [.int .i64 1000] from rfl) (Reps.one (show Kd.M (Kd.int .i64) _ _ _ 1001 [.int .i64 1001] from rfl) (Reps.one (show Kd.M (Kd.int .i64) _ _ _ (-1) [.int .i64 (-1)] from rfl) (Reps.none _ _)))))))
      intro v201 w36 ho37 hb hg_ hnew_
      clear hg_ hnew_
      (first | rw [← Ny200.out] at ho37 | (simp only [Int.reduceToNat] at ho37; rw [← Ny200.out] at ho37))
      have n0_ := Aside0.mk (Kd.Q_elder' (by (with_reducible repeat (first | apply Kd.Q_alloc | apply Kd.Q_drewN | apply Kd.Q_drew)); exact HO178.out) (Kd.R_base ho37) hb)
      have n1_ := Aside0.mk (Kd.R_elder' (by (with_reducible repeat (first | apply Kd.R_alloc | apply Kd.R_drewN | apply Kd.R_drew)); exact HO187.out) (Kd.R_base ho37) hb)
      have n2_ := Aside0.mk (Kd.R_elder' (by (with_reducible repeat (first | apply Kd.R_alloc | apply Kd.R_drewN | apply Kd.R_drew)); exact HO192.out) (Kd.R_base ho37) hb)
      have n3_ := Aside0.mk (Kd.R_lower (Kd.R_new' (Kd.R_new' (Kd.R_new' ho37 (Kd.Q_lt (by (with_reducible repeat (first | apply Kd.Q_alloc | apply Kd.Q_drewN | apply Kd.Q_drew)); exact HO178.out))) (Kd.R_lt (by (with_reducible repeat (first | apply Kd.R_alloc | apply Kd.R_drewN | apply Kd.R_drew)); exact HO187.out))) (Kd.R_lt (by (with_reducible repeat (first | apply Kd.R_alloc | apply Kd.R_drewN | apply Kd.R_drew)); exact HO192.out))) (below_size (by repeat (first | (with_reducible first | exact HB.out | apply below_alloc | apply pw_below_drewN | apply below_drew1 | refine below_set ?_ (IsS104.ge HI174.out) | refine below_set ?_ GE171.out | refine below_set ?_ GE180.out) | exact HB.out))))
      have n4_ := Aside0.mk (blk_below (g := gb171) (o := .cells #[.int .i64 0, .slice none 0 0] 26 (0, 0)) (by (with_reducible repeat (first | refine blk_drewN ?_ _ | refine blk_drew ?_ | refine blk_alloc ?_ _)); exact BK171.out) hb)
      have n5_ := Aside0.mk (IsS104.below (by repeat (first | (with_reducible first | exact HI174.out | apply IsS104.alloc | apply IsS104.drewN | apply IsS104.drew | apply IsS104.set_1 | refine IsS104.far ?_ NB174_171.out _ | refine IsS104.far ?_ NB174_180.out _) | exact HI174.out)) hb)
      have n6_ := Aside0.mk (blk_below (g := gb180) (o := .cells #[.int .i64 t175, .slice Ao21 t176.length co21] 26 (0, 0)) (by (with_reducible repeat (first | refine blk_drewN ?_ _ | refine blk_drew ?_ | refine blk_alloc ?_ _)); exact BK180.out) hb)
      have n7_ := Aside0.mk (below_step (by repeat (first | (with_reducible first | exact HB.out | apply below_alloc | apply pw_below_drewN | apply below_drew1 | refine below_set ?_ (IsS104.ge HI174.out) | refine below_set ?_ GE171.out | refine below_set ?_ GE180.out) | exact HB.out)) hb)
      clear HO178
      clear HO187
      clear HO192
      clear BK171
      clear HI174
      clear BK180
      clear HB
      have HO178 := n0_
      have HO187 := n1_
      have HO192 := n2_
      have HO202 := n3_
      have BK171 := n4_
      have HI174 := n5_
      have BK180 := n6_
      have HB := n7_
      clear n0_ n1_ n2_ n3_ n4_ n5_ n6_ n7_
      clear hb ho37
      obtain ⟨Ao38, co38, eo38⟩ := Kd.R_slice HO202.out
      (first | subst eo38 | (injection eo38 with f1_ f2_ f3_; have f4_ := f1_.symm; have f5_ := f3_.symm; clear f1_ f2_ f3_; subst f4_; subst f5_))
      refine hK.out _ _ ⟨(blk_cell BK180.out 0).trans rfl, (blk_cell BK180.out 1).trans rfl⟩ (fun hHeld => ?_)
      clear hK K
      refine norm_ (a' := ?_) ?_ ?_
      rotate_left
      · show Act.put _ (some 39) _ = _
        simp only [Act.put, List.setIfInBounds_toArray, List.set_cons_zero, List.set_cons_succ, i64_w, i32_w]
        rfl
      refine one_ (i := 7) (N := some 40) #[true, true, true, true, true, true, true, true, true, false, false, false] rfl rfl (one_of HT_.out (by kernel_rfl)) (by decide) (fun K hK => ?_)
      refine goes_ Try.func61 (by kernel_rfl) rfl #[.pointer (some ⟨g174, 0, none⟩), .slice Ao38 y200.length co38] (by rfl) rfl rfl (by (try simp only [List.map_toArray, List.map_cons, List.map_nil]); first | done | rfl | (simp only [List.length_drop, List.length_take]; rfl)) ?_
      with_reducible refine (spec_l1Pick.calls g174 t172 t199 _ _ y200 t203 t204 w _ ?side1 ?side2 ?side3 ?side4 ?side5 A13.out).mono ?_
      (case side1 => repeat (first | (with_reducible first | exact HI174.out | apply IsS104.alloc | apply IsS104.drewN | apply IsS104.drew | apply IsS104.set_1 | refine IsS104.far ?_ NB174_171.out _ | refine IsS104.far ?_ NB174_180.out _) | exact HI174.out))
      (case side2 => repeat (first | (with_reducible first | exact HB.out | apply below_alloc | apply pw_below_drewN | apply below_drew1 | refine below_set ?_ (IsS104.ge HI174.out) | refine below_set ?_ GE171.out | refine below_set ?_ GE180.out) | exact HB.out))
      (case side3 => repeat (first | exact (Kd.R_reads' HO202.out).2.2 | (with_reducible refine Kd.C_alloc ?_ _) | (with_reducible refine Kd.C_drewN ?_ _) | (with_reducible refine Kd.C_drew ?_)))
      (case side4 => exact (Kd.R_reads' HO202.out).2.1)
      (case side5 => exact far_slice (IsS104.own_ne HI174.out HO202.out (by decide)))
      rintro e w39 ⟨rfl, hi, hb, hk⟩
      refine ⟨_, rfl, ?_⟩
      have n0_ := Aside0.mk (KeepBut.blk hk (g' := gb171) (o := .cells #[.int .i64 0, .slice none 0 0] 26 (0, 0)) (by (with_reducible repeat (first | refine blk_drewN ?_ _ | refine blk_drew ?_ | refine blk_alloc ?_ _)); exact BK171.out) NB171_174.out (by simp))
      have n1_ := Aside0.mk (Kd.Q_mono (Kd.Q_keep (IsS104.apartQ (show IsS104 w _ g174 t172 t199 from by repeat (first | (with_reducible first | exact HI174.out | apply IsS104.alloc | apply IsS104.drewN | apply IsS104.drew | apply IsS104.set_1 | refine IsS104.far ?_ NB174_171.out _ | refine IsS104.far ?_ NB174_180.out _) | exact HI174.out)) (by (with_reducible repeat (first | apply Kd.Q_alloc | apply Kd.Q_drewN | apply Kd.Q_drew)); exact HO178.out) (by decide)) hk (fun _ h => h.2)) (fun _ h => h.1))
      have n2_ := Aside0.mk (KeepBut.blk hk (g' := gb180) (o := .cells #[.int .i64 t175, .slice Ao21 t176.length co21] 26 (0, 0)) (by (with_reducible repeat (first | refine blk_drewN ?_ _ | refine blk_drew ?_ | refine blk_alloc ?_ _)); exact BK180.out) NB180_174.out (by simp))
      have n3_ := Aside0.mk (Kd.R_mono (Kd.R_keep (IsS104.apart (show IsS104 w _ g174 t172 t199 from by repeat (first | (with_reducible first | exact HI174.out | apply IsS104.alloc | apply IsS104.drewN | apply IsS104.drew | apply IsS104.set_1 | refine IsS104.far ?_ NB174_171.out _ | refine IsS104.far ?_ NB174_180.out _) | exact HI174.out)) (by (with_reducible repeat (first | apply Kd.R_alloc | apply Kd.R_drewN | apply Kd.R_drew)); exact HO187.out) (by decide)) hk (fun _ h => h.2)) (fun _ h => h.1))
      have n4_ := Aside0.mk (Kd.R_mono (Kd.R_keep (IsS104.apart (show IsS104 w _ g174 t172 t199 from by repeat (first | (with_reducible first | exact HI174.out | apply IsS104.alloc | apply IsS104.drewN | apply IsS104.drew | apply IsS104.set_1 | refine IsS104.far ?_ NB174_171.out _ | refine IsS104.far ?_ NB174_180.out _) | exact HI174.out)) (by (with_reducible repeat (first | apply Kd.R_alloc | apply Kd.R_drewN | apply Kd.R_drew)); exact HO192.out) (by decide)) hk (fun _ h => h.2)) (fun _ h => h.1))
      have n5_ := Aside0.mk (Kd.R_mono (Kd.R_keep (IsS104.apart (show IsS104 w _ g174 t172 t199 from by repeat (first | (with_reducible first | exact HI174.out | apply IsS104.alloc | apply IsS104.drewN | apply IsS104.drew | apply IsS104.set_1 | refine IsS104.far ?_ NB174_171.out _ | refine IsS104.far ?_ NB174_180.out _) | exact HI174.out)) (by (with_reducible repeat (first | apply Kd.R_alloc | apply Kd.R_drewN | apply Kd.R_drew)); exact HO202.out) (by decide)) hk (fun _ h => h.2)) (fun _ h => h.1))
      have n6_ := Aside0.mk (hb)
      have n7_ := Aside0.mk (hi)
      clear BK171
      clear HO178
      clear BK180
      clear HO187
      clear HO192
      clear HO202
      clear HB
      clear HI174
      have BK171 := n0_
      have HO178 := n1_
      have BK180 := n2_
      have HO187 := n3_
      have HO192 := n4_
      have HO202 := n5_
      have HB := n6_
      have HI174 := n7_
      clear n0_ n1_ n2_ n3_ n4_ n5_ n6_ n7_
      (try clear hb)
      (try clear hb2)
      (try clear hk)
      (try clear hi)
      refine hK.out _ _ ⟨(blk_cell BK180.out 0).trans rfl, (blk_cell BK180.out 1).trans rfl⟩ (fun hHeld => ?_)
      clear hK K
      refine norm_ (a' := ?_) ?_ ?_
      rotate_left
      · show Act.put _ (some 40) _ = _
        simp only [Act.put, List.setIfInBounds_toArray, List.set_cons_zero, List.set_cons_succ, i64_w, i32_w]
        rfl
      refine one_ (i := 9) (N := none) #[true, true, true, true, true, true, true, true, true, true, false, false] rfl rfl (one_of HT_.out (by kernel_rfl)) (by decide) (fun K hK => ?_)
      have hs40 : w39.cell? ⟨gb171, 0, none⟩ = some (.int .i64 0) := (blk_cell BK171.out 0).trans rfl
      have hfs40 := blk_frozen BK171.out 0
      have hns40_1 := NB180_171.out
      have hms40_1 := NB171_180.out
      have hs41 : w39.cell? ⟨gb171, 1, none⟩ = some (.slice none 0 0) := (blk_cell BK171.out 1).trans rfl
      have hfs41 := blk_frozen BK171.out 1
      have hns41_1 := NB180_171.out
      have hms41_1 := NB171_180.out
      refine skip_ (w1 := ?_) (by rfl) rfl ?_ ?_
      rotate_left
      · go_simp
        rfl
      refine hK.out _ _ ⟨((cell_far (p := ⟨gb171, _, none⟩) NB180_171.out _).trans (((cell_far (p := ⟨gb171, _, none⟩) NB180_171.out _).trans (hHeld.1)))), ((cell_far (p := ⟨gb171, _, none⟩) NB180_171.out _).trans (((cell_far (p := ⟨gb171, _, none⟩) NB180_171.out _).trans (hHeld.2))))⟩ (fun hHeld => ?_)
      clear hK K
      refine pure_ (i := 10) (N := some 3) (v := ?_) (a' := ?_) #[true, true, true, true, true, true, true, true, true, true, true, false] rfl rfl (any_of HT_.out (by kernel_rfl)) (fun _ _ _ h => h) (Or.inl ⟨by rfl, ?_⟩) ?_ ?_
      rotate_left
      · intro w'
        go_simp
        with_reducible rfl
      rotate_left
      · simp only [Act.put, List.setIfInBounds_toArray, List.set_cons_zero, List.set_cons_succ, i64_w, i32_w]
        rfl
      refine pure_ (i := 11) (N := some 4) (v := ?_) (a' := ?_) #[true, true, true, true, true, true, true, true, true, true, true, true] rfl rfl (any_of HT_.out (by kernel_rfl)) (fun _ _ _ h => h) (Or.inl ⟨by rfl, ?_⟩) ?_ ?_
      rotate_left
      · intro w'
        go_simp
        with_reducible rfl
      rotate_left
      · simp only [Act.put, List.setIfInBounds_toArray, List.set_cons_zero, List.set_cons_succ, i64_w, i32_w]
        rfl
      refine done_ (done_of HT_.out (by kernel_rfl)) ?_
      try go_wp2
      refine bodyPost_ret (results_ctt rfl _ _ gb171 26 #[.int .i64 t175, .slice Ao21 t176.length co21] (0, 0) _ rfl (by (with_reducible repeat (first | refine blk_drewN ?_ _ | refine blk_drew ?_ | refine blk_alloc ?_ _)); refine blk_put (cs := #[.int .i64 t175, .slice none 0 0]) ?_ 1 _ rfl; (with_reducible repeat (first | refine blk_drewN ?_ _ | refine blk_drew ?_ | refine blk_alloc ?_ _)); refine blk_put (cs := #[.int .i64 0, .slice none 0 0]) ?_ 0 _ rfl; (with_reducible repeat (first | refine blk_drewN ?_ _ | refine blk_drew ?_ | refine blk_alloc ?_ _)); exact BK171.out) Try.underlying26 rfl (by kernel_rfl)) rfl ?_
      exact ⟨_, _, by first | rfl | (simp [errW_none, errW_some] <;> rfl) | (simp [*, errW_none, errW_some] <;> rfl), by (with_reducible repeat (first | apply Kd.Q_alloc | apply Kd.Q_drewN | apply Kd.Q_drew)); exact Kd.Q_mono (Kd.Q_far (p := ⟨gb171, 1, none⟩) (Kd.Q_far (p := ⟨gb171, 0, none⟩) (Kd.Q_types HO178.out BK171.out (by decide)) (fun _ hk => hk.2) (.int .i64 t175)) (fun _ hk => hk.2) (.slice Ao21 t176.length co21)) (fun _ hk => hk.1.1.2), by (with_reducible repeat (first | apply Kd.R_alloc | apply Kd.R_drewN | apply Kd.R_drew)); exact Kd.R_mono (Kd.R_far (p := ⟨gb171, 1, none⟩) (Kd.R_far (p := ⟨gb171, 0, none⟩) (Kd.R_types HO187.out BK171.out (by decide)) (fun _ hk => hk.2) (.int .i64 t175)) (fun _ hk => hk.2) (.slice Ao21 t176.length co21)) (fun _ hk => hk.1.1.1), by repeat (first | (with_reducible first | exact HB.out | apply below_alloc | apply pw_below_drewN | apply below_drew1 | refine below_set ?_ (IsS104.ge HI174.out) | refine below_set ?_ GE171.out | refine below_set ?_ GE180.out) | exact HB.out)⟩
    · rw [if_neg c9] at H
      exact absurd H (by simp)
  · rw [if_neg c7] at H
    have c7b0 : (t188 == 0) = false := beq_eq_false_iff_ne.mpr c7
    have c7b1 : (t188 != 0) = true := bne_iff_ne.mpr c7
    by_cases c42 : t188 = 1
    · rw [if_pos c42] at H
      have c42b0 : (t188 == 1) = true := beq_iff_eq.mpr c42
      have c42b1 : (t188 != 1) = false := bne_eq_false_iff_eq.mpr c42
      clear c42
      by_cases c43 : y185.length < 17592186044416
      · rw [if_pos c43] at H
        have LMc43 := Aside0.mk c43
        clear c43
        obtain ⟨y205, hy205⟩ : ∃ y_ : List Int, y_ = (y185 ++ [0]) := ⟨_, rfl⟩
        replace H : ((spec_l1Next.f t172 t189 9).bind fun bt208 => ((spec_l1Next.f t172 bt208.2 9).bind fun bt210 => ((spec_l1Pick.f t172 bt210.2 (([bt208.1, bt210.1, 1000, 1001, (-1)] : List Int))).bind fun bt215 => (some (t175, t176, bt215.1, y205))))) = some (r1, r2, r3, r4) := by first | (rw [hy205]; with_reducible exact H) | (have H2_ := (Option.bind_some _ _).symm.trans H; rw [hy205]; with_reducible exact H2_) | (have H2_ := (Option.bind_some _ _).symm.trans H; with_reducible exact H2_) | with_reducible exact H | (rw [hy205]; exact H) | exact H
        have Ny205 := Aside0.mk hy205
        clear hy205
        replace H := Option.bind_eq_some_iff.mp H
        obtain ⟨⟨t208, t209⟩, A440, H⟩ := H
        replace H : ((spec_l1Next.f t172 t209 9).bind fun bt210 => ((spec_l1Pick.f t172 bt210.2 (([t208, bt210.1, 1000, 1001, (-1)] : List Int))).bind fun bt215 => (some (t175, t176, bt215.1, y205)))) = some (r1, r2, r3, r4) := H
        have A44 := Aside0.mk A440
        clear A440
        replace H := Option.bind_eq_some_iff.mp H
        obtain ⟨⟨t210, t211⟩, A450, H⟩ := H
        replace H : ((spec_l1Pick.f t172 t211 (([t208, t210, 1000, 1001, (-1)] : List Int))).bind fun bt215 => (some (t175, t176, bt215.1, y205))) = some (r1, r2, r3, r4) := H
        have A45 := Aside0.mk A450
        clear A450
        obtain ⟨y212, hy212⟩ : ∃ y_ : List Int, y_ = (([t208, t210, 1000, 1001, (-1)] : List Int)) := ⟨_, rfl⟩
        replace H : ((spec_l1Pick.f t172 t211 y212).bind fun bt215 => (some (t175, t176, bt215.1, y205))) = some (r1, r2, r3, r4) := by first | (rw [hy212]; with_reducible exact H) | (have H2_ := (Option.bind_some _ _).symm.trans H; rw [hy212]; with_reducible exact H2_) | (have H2_ := (Option.bind_some _ _).symm.trans H; with_reducible exact H2_) | with_reducible exact H | (rw [hy212]; exact H) | exact H
        have Ny212 := Aside0.mk hy212
        clear hy212
        replace H := Option.bind_eq_some_iff.mp H
        obtain ⟨⟨t215, t216⟩, A460, H⟩ := H
        replace H : (some (t175, t176, t215, y205)) = some (r1, r2, r3, r4) := H
        have A46 := Aside0.mk A460
        clear A460
        simp only [Option.some.injEq, Prod.mk.injEq] at H
        obtain ⟨rfl, rfl, rfl, rfl⟩ := H
        go_enter Try.func21, Try.ntmps21
        try go_wp2_with (first | ((with_reducible refine gate_dst (N := 2) rfl ?_); refine box_event ?hg (N := 2) ?hd (cs := #[.int .i64 0, .slice none 0 0]) (t := 26) ?hr ?_; (case hd => rfl); (case hg => rfl); (case hr => first | (go_simp; done) | (go_simp; rfl)); intro gb171 hg w47 hbox hb; have n0_ := Aside0.mk (below_step (by repeat (first | (with_reducible first | exact HB.out | apply below_alloc | apply pw_below_drewN | apply below_drew1) | exact HB.out)) hb); have n1_ := Aside0.mk (hbox); have n2_ := Aside0.mk ((by rw [hg]; exact (below_size (by repeat (first | (with_reducible first | exact HB.out | apply below_alloc | apply pw_below_drewN | apply below_drew1) | exact HB.out))) : w.heap.size ≤ gb171)); have n3_ := Aside0.mk ((by rw [hg]; exact (below_size (by repeat (first | (with_reducible first | exact HB.out | apply below_alloc | apply pw_below_drewN | apply below_drew1) | exact HB.out))) : w.heap.size ≤ gb171)); clear HB; have HB := n0_; have BK171 := n1_; have GW171 := n2_; have GE171 := n3_; clear n0_ n1_ n2_ n3_; clear hb hbox hg) | ((with_reducible refine gate_callee (f := 58) rfl ?_); refine goesL_ (some 9) rfl rfl Try.func58 (by kernel_rfl) rfl #[.slice A0 l0.length c0] rfl (by (try simp only [List.map_toArray, List.map_cons, List.map_nil]); first | done | rfl | (simp only [List.length_drop, List.length_take]; rfl)) ?_; (with_reducible refine (spec_l1Source.calls _ _ l0 t172 t173 w _ ?side1 ?side2 ?side3 A2.out).mono ?_); (case side1 => repeat (first | (with_reducible first | exact HB.out | apply below_alloc | apply pw_below_drewN | apply below_drew1 | refine below_set ?_ GE171.out) | exact HB.out)); (case side2 => exact HR0.out); (case side3 => exact HC0.out); rintro e w48 ⟨g174, rfl, hi, hb, hb2⟩; refine ⟨_, rfl, ?_⟩; have n0_ := Aside0.mk (blk_below (g := gb171) (o := .cells #[.int .i64 0, .slice none 0 0] 26 (0, 0)) (by (with_reducible repeat (first | refine blk_drewN ?_ _ | refine blk_drew ?_ | refine blk_alloc ?_ _)); exact BK171.out) hb2); have n1_ := Aside0.mk (hb); have n2_ := Aside0.mk (hi); have n3_ := Aside0.mk (IsS104.ne_blk hi (blk_below (g := gb171) (o := .cells #[.int .i64 0, .slice none 0 0] 26 (0, 0)) (by (with_reducible repeat (first | refine blk_drewN ?_ _ | refine blk_drew ?_ | refine blk_alloc ?_ _)); exact BK171.out) hb2) (by decide)); have n4_ := Aside0.mk (Ne.symm (IsS104.ne_blk hi (blk_below (g := gb171) (o := .cells #[.int .i64 0, .slice none 0 0] 26 (0, 0)) (by (with_reducible repeat (first | refine blk_drewN ?_ _ | refine blk_drew ?_ | refine blk_alloc ?_ _)); exact BK171.out) hb2) (by decide))); clear BK171; clear HB; have BK171 := n0_; have HB := n1_; have HI174 := n2_; have NB174_171 := n3_; have NB171_174 := n4_; clear n0_ n1_ n2_ n3_ n4_; (try clear hb); (try clear hb2); (try clear hk); (try clear hi)) | ((with_reducible refine gate_callee (f := 59) rfl ?_); refine goesL_ (some 11) rfl rfl Try.func59 (by kernel_rfl) rfl #[.pointer (some ⟨g174, 0, none⟩)] rfl (by (try simp only [List.map_toArray, List.map_cons, List.map_nil]); first | done | rfl | (simp only [List.length_drop, List.length_take]; rfl)) ?_; (with_reducible refine (spec_l13Clock.calls g174 t172 t173 t175 t176 t179 w _ ?side1 ?side2 A3.out).mono ?_); (case side1 => repeat (first | (with_reducible first | exact HI174.out | apply IsS104.alloc | apply IsS104.drewN | apply IsS104.drew | apply IsS104.set_1 | refine IsS104.far ?_ NB174_171.out _) | exact HI174.out)); (case side2 => repeat (first | (with_reducible first | exact HB.out | apply below_alloc | apply pw_below_drewN | apply below_drew1 | refine below_set ?_ (IsS104.ge HI174.out) | refine below_set ?_ GE171.out) | exact HB.out)); rintro e w49 ⟨v177, rfl, ho0, hi, hb, hk⟩; refine ⟨_, rfl, ?_⟩; have n0_ := Aside0.mk (KeepBut.blk hk (g' := gb171) (o := .cells #[.int .i64 0, .slice none 0 0] 26 (0, 0)) (by (with_reducible repeat (first | refine blk_drewN ?_ _ | refine blk_drew ?_ | refine blk_alloc ?_ _)); exact BK171.out) NB171_174.out (by simp)); have n1_ := Aside0.mk (Kd.Q_lower ho0 (below_size (by repeat (first | (with_reducible first | exact HB.out | apply below_alloc | apply pw_below_drewN | apply below_drew1 | refine below_set ?_ (IsS104.ge HI174.out) | refine below_set ?_ GE171.out) | exact HB.out)))); have n2_ := Aside0.mk (hb); have n3_ := Aside0.mk (hi); clear BK171; clear HB; clear HI174; have BK171 := n0_; have HO178 := n1_; have HB := n2_; have HI174 := n3_; clear n0_ n1_ n2_ n3_; (try clear hb); (try clear hb2); (try clear hk); (try clear hi); (try clear ho0)) | ((with_reducible refine gate_dst (N := 6) rfl ?_); refine box_event ?hg (N := 6) ?hd (cs := #[.int .i64 0, .slice none 0 0]) (t := 26) ?hr ?_; (case hd => rfl); (case hg => rfl); (case hr => first | (go_simp; done) | (go_simp; rfl)); intro gb180 hg w50 hbox hb; have n0_ := Aside0.mk (Kd.Q_below (by (with_reducible repeat (first | apply Kd.Q_alloc | apply Kd.Q_drewN | apply Kd.Q_drew)); exact HO178.out) hb); have n1_ := Aside0.mk (blk_below (g := gb171) (o := .cells #[.int .i64 0, .slice none 0 0] 26 (0, 0)) (by (with_reducible repeat (first | refine blk_drewN ?_ _ | refine blk_drew ?_ | refine blk_alloc ?_ _)); exact BK171.out) hb); have n2_ := Aside0.mk (IsS104.below (by repeat (first | (with_reducible first | exact HI174.out | apply IsS104.alloc | apply IsS104.drewN | apply IsS104.drew | apply IsS104.set_1 | refine IsS104.far ?_ NB174_171.out _) | exact HI174.out)) hb); have n3_ := Aside0.mk (below_step (by repeat (first | (with_reducible first | exact HB.out | apply below_alloc | apply pw_below_drewN | apply below_drew1 | refine below_set ?_ (IsS104.ge HI174.out) | refine below_set ?_ GE171.out) | exact HB.out)) hb); have n4_ := Aside0.mk (hbox); have n5_ := Aside0.mk ((by rw [hg]; exact (below_size (by repeat (first | (with_reducible first | exact HB.out | apply below_alloc | apply pw_below_drewN | apply below_drew1 | refine below_set ?_ (IsS104.ge HI174.out) | refine below_set ?_ GE171.out) | exact HB.out))) : w.heap.size ≤ gb180)); have n6_ := Aside0.mk ((by rw [hg]; exact (below_size (by repeat (first | (with_reducible first | exact HB.out | apply below_alloc | apply pw_below_drewN | apply below_drew1 | refine below_set ?_ (IsS104.ge HI174.out) | refine below_set ?_ GE171.out) | exact HB.out))) : w.heap.size ≤ gb180)); have n7_ := Aside0.mk ((by rw [hg]; exact Nat.ne_of_lt (blk_lt (g := gb171) (o := .cells #[.int .i64 0, .slice none 0 0] 26 (0, 0)) (by (with_reducible repeat (first | refine blk_drewN ?_ _ | refine blk_drew ?_ | refine blk_alloc ?_ _)); exact BK171.out)) : gb171 ≠ gb180)); have n8_ := Aside0.mk ((by rw [hg]; exact Nat.ne_of_gt (blk_lt (g := gb171) (o := .cells #[.int .i64 0, .slice none 0 0] 26 (0, 0)) (by (with_reducible repeat (first | refine blk_drewN ?_ _ | refine blk_drew ?_ | refine blk_alloc ?_ _)); exact BK171.out)) : gb180 ≠ gb171)); have n9_ := Aside0.mk ((by rw [hg]; exact Nat.ne_of_lt (IsS104.lt (show IsS104 w _ g174 t172 t179 from by repeat (first | (with_reducible first | exact HI174.out | apply IsS104.alloc | apply IsS104.drewN | apply IsS104.drew | apply IsS104.set_1 | refine IsS104.far ?_ NB174_171.out _) | exact HI174.out))) : g174 ≠ gb180)); have n10_ := Aside0.mk ((by rw [hg]; exact Nat.ne_of_gt (IsS104.lt (show IsS104 w _ g174 t172 t179 from by repeat (first | (with_reducible first | exact HI174.out | apply IsS104.alloc | apply IsS104.drewN | apply IsS104.drew | apply IsS104.set_1 | refine IsS104.far ?_ NB174_171.out _) | exact HI174.out))) : gb180 ≠ g174)); clear HO178; clear BK171; clear HI174; clear HB; have HO178 := n0_; have BK171 := n1_; have HI174 := n2_; have HB := n3_; have BK180 := n4_; have GW180 := n5_; have GE180 := n6_; have NB171_180 := n7_; have NB180_171 := n8_; have NB174_180 := n9_; have NB180_174 := n10_; clear n0_ n1_ n2_ n3_ n4_ n5_ n6_ n7_ n8_ n9_ n10_; clear hb hbox hg; have hnb51 := NB180_171.out; have hnc51 := NB171_180.out; have hnb52 := NB180_174.out; have hnc52 := NB174_180.out; have hcz53_0 : w50.cell? ⟨gb180, 0, none⟩ = some (.int .i64 0) := (blk_cell BK180.out 0).trans rfl; have hcz53_1 : w50.cell? ⟨gb180, 1, none⟩ = some (.slice none 0 0) := (blk_cell BK180.out 1).trans rfl; have hfz53_0 := blk_frozen BK180.out 0; have hfz53_1 := blk_frozen BK180.out 1; obtain ⟨Ao54, co54, eo54, _⟩ := Kd.Q_slice HO178.out; subst eo54) | ((with_reducible refine gate_callee (f := 60) rfl ?_); refine goesL_ (some 13) rfl rfl Try.func60 (by kernel_rfl) rfl #[.pointer (some ⟨g174, 0, none⟩), .int .i64 5] rfl (by (try simp only [List.map_toArray, List.map_cons, List.map_nil]); first | done | rfl | (simp only [List.length_drop, List.length_take]; rfl)) ?_; (with_reducible refine (spec_l1Next.calls g174 t172 t179 5 t181 t182 w _ ?side1 ?side2 A4.out).mono ?_); (case side1 => repeat (first | (with_reducible first | exact HI174.out | apply IsS104.alloc | apply IsS104.drewN | apply IsS104.drew | apply IsS104.set_1 | refine IsS104.far ?_ NB174_171.out _ | refine IsS104.far ?_ NB174_180.out _) | exact HI174.out)); (case side2 => repeat (first | (with_reducible first | exact HB.out | apply below_alloc | apply pw_below_drewN | apply below_drew1 | refine below_set ?_ (IsS104.ge HI174.out) | refine below_set ?_ GE171.out | refine below_set ?_ GE180.out) | exact HB.out)); rintro e w55 ⟨rfl, hi, hb, hk⟩; refine ⟨_, rfl, ?_⟩; have n0_ := Aside0.mk (KeepBut.blk hk (g' := gb171) (o := .cells #[.int .i64 0, .slice none 0 0] 26 (0, 0)) (by (with_reducible repeat (first | refine blk_drewN ?_ _ | refine blk_drew ?_ | refine blk_alloc ?_ _)); refine blk_far ?_ NB171_180.out _; (with_reducible repeat (first | refine blk_drewN ?_ _ | refine blk_drew ?_ | refine blk_alloc ?_ _)); refine blk_far ?_ NB171_180.out _; (with_reducible repeat (first | refine blk_drewN ?_ _ | refine blk_drew ?_ | refine blk_alloc ?_ _)); exact BK171.out) NB171_174.out (by simp)); have n1_ := Aside0.mk (Kd.Q_mono (Kd.Q_keep (IsS104.apartQ (show IsS104 w _ g174 t172 t179 from by repeat (first | (with_reducible first | exact HI174.out | apply IsS104.alloc | apply IsS104.drewN | apply IsS104.drew | apply IsS104.set_1 | refine IsS104.far ?_ NB174_171.out _ | refine IsS104.far ?_ NB174_180.out _) | exact HI174.out)) (by (with_reducible repeat (first | apply Kd.Q_alloc | apply Kd.Q_drewN | apply Kd.Q_drew)); exact (Kd.Q_mono (Kd.Q_far (p := ⟨gb180, 1, none⟩) (Kd.Q_far (p := ⟨gb180, 0, none⟩) (Kd.Q_types HO178.out BK180.out (by decide)) (fun _ hk => hk.2) (.int .i64 t175)) (fun _ hk => hk.2) (.slice Ao54 t176.length co54)) (fun _ h_ => h_.1))) (by decide)) hk (fun _ h => h.2)) (fun _ h => h.1)); have n2_ := Aside0.mk (KeepBut.blk hk (g' := gb180) (o := .cells #[.int .i64 t175, .slice Ao54 t176.length co54] 26 (0, 0)) (by (with_reducible repeat (first | refine blk_drewN ?_ _ | refine blk_drew ?_ | refine blk_alloc ?_ _)); refine blk_put (cs := #[.int .i64 t175, .slice none 0 0]) ?_ 1 _ rfl; (with_reducible repeat (first | refine blk_drewN ?_ _ | refine blk_drew ?_ | refine blk_alloc ?_ _)); refine blk_put (cs := #[.int .i64 0, .slice none 0 0]) ?_ 0 _ rfl; (with_reducible repeat (first | refine blk_drewN ?_ _ | refine blk_drew ?_ | refine blk_alloc ?_ _)); exact BK180.out) NB180_174.out (by simp)); have n3_ := Aside0.mk (hb); have n4_ := Aside0.mk (hi); clear BK171; clear HO178; clear BK180; clear HB; clear HI174; have BK171 := n0_; have HO178 := n1_; have BK180 := n2_; have HB := n3_; have HI174 := n4_; clear n0_ n1_ n2_ n3_ n4_; (try clear hb); (try clear hb2); (try clear hk); (try clear hi)) | ((with_reducible refine gate_callee (f := 60) rfl ?_); refine goesL_ (some 16) rfl rfl Try.func60 (by kernel_rfl) rfl #[.pointer (some ⟨g174, 0, none⟩), .int .i64 5] rfl (by (try simp only [List.map_toArray, List.map_cons, List.map_nil]); first | done | rfl | (simp only [List.length_drop, List.length_take]; rfl)) ?_; (with_reducible refine (spec_l1Next.calls g174 t172 t182 5 t183 t184 w _ ?side1 ?side2 A5.out).mono ?_); (case side1 => repeat (first | (with_reducible first | exact HI174.out | apply IsS104.alloc | apply IsS104.drewN | apply IsS104.drew | apply IsS104.set_1 | refine IsS104.far ?_ NB174_171.out _ | refine IsS104.far ?_ NB174_180.out _) | exact HI174.out)); (case side2 => repeat (first | (with_reducible first | exact HB.out | apply below_alloc | apply pw_below_drewN | apply below_drew1 | refine below_set ?_ (IsS104.ge HI174.out) | refine below_set ?_ GE171.out | refine below_set ?_ GE180.out) | exact HB.out)); rintro e w56 ⟨rfl, hi, hb, hk⟩; refine ⟨_, rfl, ?_⟩; have n0_ := Aside0.mk (KeepBut.blk hk (g' := gb171) (o := .cells #[.int .i64 0, .slice none 0 0] 26 (0, 0)) (by (with_reducible repeat (first | refine blk_drewN ?_ _ | refine blk_drew ?_ | refine blk_alloc ?_ _)); exact BK171.out) NB171_174.out (by simp)); have n1_ := Aside0.mk (Kd.Q_mono (Kd.Q_keep (IsS104.apartQ (show IsS104 w _ g174 t172 t182 from by repeat (first | (with_reducible first | exact HI174.out | apply IsS104.alloc | apply IsS104.drewN | apply IsS104.drew | apply IsS104.set_1 | refine IsS104.far ?_ NB174_171.out _ | refine IsS104.far ?_ NB174_180.out _) | exact HI174.out)) (by (with_reducible repeat (first | apply Kd.Q_alloc | apply Kd.Q_drewN | apply Kd.Q_drew)); exact HO178.out) (by decide)) hk (fun _ h => h.2)) (fun _ h => h.1)); have n2_ := Aside0.mk (KeepBut.blk hk (g' := gb180) (o := .cells #[.int .i64 t175, .slice Ao54 t176.length co54] 26 (0, 0)) (by (with_reducible repeat (first | refine blk_drewN ?_ _ | refine blk_drew ?_ | refine blk_alloc ?_ _)); exact BK180.out) NB180_174.out (by simp)); have n3_ := Aside0.mk (hb); have n4_ := Aside0.mk (hi); clear BK171; clear HO178; clear BK180; clear HB; clear HI174; have BK171 := n0_; have HO178 := n1_; have BK180 := n2_; have HB := n3_; have HI174 := n4_; clear n0_ n1_ n2_ n3_ n4_; (try clear hb); (try clear hb2); (try clear hk); (try clear hi)) | ((with_reducible refine gate_dst (N := 18) rfl ?_); refine Kd.R_lit (Kd.int .i64) _ 2 ?hg (N := 18) ?hd (xs := ([wrap64 (t181 - 2), wrap64 (t183 - 2)] : List Int)) (inner := [.int .i64 (wrap64 (t181 - 2)), .int .i64 (wrap64 (t183 - 2))]) (ok := fun _ => True) (okp := fun _ => True) ?hr ?hp (fun _ hk => hk) trivial (Below.refl _ _) (Nat.le_refl _) (by simp) ?_; (case hd => rfl); (case hg => rfl); (case hr => first | (go_simp; done) | (go_simp; rfl)); (case hp => exact (Reps.one (show Kd.M (Kd.int .i64) _ _ _ (wrap64 (t181 - 2)) [.int .i64 (wrap64 (t181 - 2))] from rfl) (Reps.one (show Kd.M (Kd.int .i64) _ _ _ (wrap64 (t183 - 2)) [.int .i64 (wrap64 (t183 - 2))] from rfl) (Reps.none _ _)))); intro v186 w57 ho58 hb hg_ hnew_; clear hg_ hnew_; (first | rw [← Ny185.out] at ho58 | (simp only [Int.reduceToNat] at ho58; rw [← Ny185.out] at ho58)); have n0_ := Aside0.mk (Kd.Q_elder' (by (with_reducible repeat (first | apply Kd.Q_alloc | apply Kd.Q_drewN | apply Kd.Q_drew)); exact HO178.out) (Kd.R_base ho58) hb); have n1_ := Aside0.mk (Kd.R_lower (Kd.R_new' ho58 (Kd.Q_lt (by (with_reducible repeat (first | apply Kd.Q_alloc | apply Kd.Q_drewN | apply Kd.Q_drew)); exact HO178.out))) (below_size (by repeat (first | (with_reducible first | exact HB.out | apply below_alloc | apply pw_below_drewN | apply below_drew1 | refine below_set ?_ (IsS104.ge HI174.out) | refine below_set ?_ GE171.out | refine below_set ?_ GE180.out) | exact HB.out)))); have n2_ := Aside0.mk (blk_below (g := gb171) (o := .cells #[.int .i64 0, .slice none 0 0] 26 (0, 0)) (by (with_reducible repeat (first | refine blk_drewN ?_ _ | refine blk_drew ?_ | refine blk_alloc ?_ _)); exact BK171.out) hb); have n3_ := Aside0.mk (IsS104.below (by repeat (first | (with_reducible first | exact HI174.out | apply IsS104.alloc | apply IsS104.drewN | apply IsS104.drew | apply IsS104.set_1 | refine IsS104.far ?_ NB174_171.out _ | refine IsS104.far ?_ NB174_180.out _) | exact HI174.out)) hb); have n4_ := Aside0.mk (blk_below (g := gb180) (o := .cells #[.int .i64 t175, .slice Ao54 t176.length co54] 26 (0, 0)) (by (with_reducible repeat (first | refine blk_drewN ?_ _ | refine blk_drew ?_ | refine blk_alloc ?_ _)); exact BK180.out) hb); have n5_ := Aside0.mk (below_step (by repeat (first | (with_reducible first | exact HB.out | apply below_alloc | apply pw_below_drewN | apply below_drew1 | refine below_set ?_ (IsS104.ge HI174.out) | refine below_set ?_ GE171.out | refine below_set ?_ GE180.out) | exact HB.out)) hb); clear HO178; clear BK171; clear HI174; clear BK180; clear HB; have HO178 := n0_; have HO187 := n1_; have BK171 := n2_; have HI174 := n3_; have BK180 := n4_; have HB := n5_; clear n0_ n1_ n2_ n3_ n4_ n5_; clear hb ho58) | ((with_reducible refine gate_callee (f := 60) rfl ?_); refine goesL_ (some 20) rfl rfl Try.func60 (by kernel_rfl) rfl #[.pointer (some ⟨g174, 0, none⟩), .int .i64 12] rfl (by (try simp only [List.map_toArray, List.map_cons, List.map_nil]); first | done | rfl | (simp only [List.length_drop, List.length_take]; rfl)) ?_; (with_reducible refine (spec_l1Next.calls g174 t172 t184 12 t188 t189 w _ ?side1 ?side2 A6.out).mono ?_); (case side1 => repeat (first | (with_reducible first | exact HI174.out | apply IsS104.alloc | apply IsS104.drewN | apply IsS104.drew | apply IsS104.set_1 | refine IsS104.far ?_ NB174_171.out _ | refine IsS104.far ?_ NB174_180.out _) | exact HI174.out)); (case side2 => repeat (first | (with_reducible first | exact HB.out | apply below_alloc | apply pw_below_drewN | apply below_drew1 | refine below_set ?_ (IsS104.ge HI174.out) | refine below_set ?_ GE171.out | refine below_set ?_ GE180.out) | exact HB.out)); rintro e w59 ⟨rfl, hi, hb, hk⟩; refine ⟨_, rfl, ?_⟩; have n0_ := Aside0.mk (KeepBut.blk hk (g' := gb171) (o := .cells #[.int .i64 0, .slice none 0 0] 26 (0, 0)) (by (with_reducible repeat (first | refine blk_drewN ?_ _ | refine blk_drew ?_ | refine blk_alloc ?_ _)); exact BK171.out) NB171_174.out (by simp)); have n1_ := Aside0.mk (Kd.Q_mono (Kd.Q_keep (IsS104.apartQ (show IsS104 w _ g174 t172 t184 from by repeat (first | (with_reducible first | exact HI174.out | apply IsS104.alloc | apply IsS104.drewN | apply IsS104.drew | apply IsS104.set_1 | refine IsS104.far ?_ NB174_171.out _ | refine IsS104.far ?_ NB174_180.out _) | exact HI174.out)) (by (with_reducible repeat (first | apply Kd.Q_alloc | apply Kd.Q_drewN | apply Kd.Q_drew)); exact HO178.out) (by decide)) hk (fun _ h => h.2)) (fun _ h => h.1)); have n2_ := Aside0.mk (KeepBut.blk hk (g' := gb180) (o := .cells #[.int .i64 t175, .slice Ao54 t176.length co54] 26 (0, 0)) (by (with_reducible repeat (first | refine blk_drewN ?_ _ | refine blk_drew ?_ | refine blk_alloc ?_ _)); exact BK180.out) NB180_174.out (by simp)); have n3_ := Aside0.mk (Kd.R_mono (Kd.R_keep (IsS104.apart (show IsS104 w _ g174 t172 t184 from by repeat (first | (with_reducible first | exact HI174.out | apply IsS104.alloc | apply IsS104.drewN | apply IsS104.drew | apply IsS104.set_1 | refine IsS104.far ?_ NB174_171.out _ | refine IsS104.far ?_ NB174_180.out _) | exact HI174.out)) (by (with_reducible repeat (first | apply Kd.R_alloc | apply Kd.R_drewN | apply Kd.R_drew)); exact HO187.out) (by decide)) hk (fun _ h => h.2)) (fun _ h => h.1)); have n4_ := Aside0.mk (hb); have n5_ := Aside0.mk (hi); clear BK171; clear HO178; clear BK180; clear HO187; clear HB; clear HI174; have BK171 := n0_; have HO178 := n1_; have BK180 := n2_; have HO187 := n3_; have HB := n4_; have HI174 := n5_; clear n0_ n1_ n2_ n3_ n4_ n5_; (try clear hb); (try clear hb2); (try clear hk); (try clear hi)) | ((with_reducible refine gate_builtin (b := .append) (xs := #[.tmp 30, .tmp 31]) rfl ?_); at_builtin; refine Kd.R_append (Kd.int .i64) (w0 := w) w.heap.size rfl (.tmp 30) (.tmp 31) 24 2 (.int .i64 0) 8 rfl Try.underlying24 info2 rfl (by decide) (by omega) v186 y185 0 [.int .i64 0] (fun k_ => some k_ ≠ (.slice Ao54 t176.length co54 : Value).ownBlock) (fun _ => False) rfl rfl ?aP (fun _ hk => hk.elim) ?aF ?aO ?aB ?aS ?aL ?_; (case aP => exact rfl); (case aB => exact (by repeat (first | (with_reducible first | exact HB.out | apply below_alloc | apply pw_below_drewN | apply below_drew1 | refine below_set ?_ (IsS104.ge HI174.out) | refine below_set ?_ GE171.out | refine below_set ?_ GE180.out) | exact HB.out))); (case aF => exact (fun k_ hk => Kd.fresh' (Kd.Q_lt (by (with_reducible repeat (first | apply Kd.Q_alloc | apply Kd.Q_drewN | apply Kd.Q_drew)); exact HO178.out)) k_ hk)); (case aO => exact (by (with_reducible repeat (first | apply Kd.R_alloc | apply Kd.R_drewN | apply Kd.R_drew)); exact Kd.R_mono HO187.out (fun _ hk => hk.2))); (case aS => exact (below_size (by repeat (first | (with_reducible first | exact HB.out | apply below_alloc | apply pw_below_drewN | apply below_drew1 | refine below_set ?_ (IsS104.ge HI174.out) | refine below_set ?_ GE171.out | refine below_set ?_ GE180.out) | exact HB.out)))); (case aL => have := LMc43.out; omega); intro v206 w60 ho hb hg hat; rw [← Ny205.out] at ho; have n0_ := Aside0.mk (blk_grown (g := gb171) (o := .cells #[.int .i64 0, .slice none 0 0] 26 (0, 0)) (by (with_reducible repeat (first | refine blk_drewN ?_ _ | refine blk_drew ?_ | refine blk_alloc ?_ _)); exact BK171.out) hg (Kd.R_ne HO187.out BK171.out (by decide))); have n1_ := Aside0.mk (IsS104.grown (by repeat (first | (with_reducible first | exact HI174.out | apply IsS104.alloc | apply IsS104.drewN | apply IsS104.drew | apply IsS104.set_1 | refine IsS104.far ?_ NB174_171.out _ | refine IsS104.far ?_ NB174_180.out _) | exact HI174.out)) hg (IsS104.own_ne HI174.out HO187.out (by decide))); have n2_ := Aside0.mk (Kd.Q_after (ok := (fun _ => True)) (by (with_reducible repeat (first | apply Kd.Q_alloc | apply Kd.Q_drewN | apply Kd.Q_drew)); exact HO178.out) hg hat); have n3_ := Aside0.mk (blk_grown (g := gb180) (o := .cells #[.int .i64 t175, .slice Ao54 t176.length co54] 26 (0, 0)) (by (with_reducible repeat (first | refine blk_drewN ?_ _ | refine blk_drew ?_ | refine blk_alloc ?_ _)); exact BK180.out) hg (Kd.R_ne HO187.out BK180.out (by decide))); have n4_ := Aside0.mk (hb); have n5_ := Aside0.mk (ho); clear BK171; clear HI174; clear HO178; clear BK180; clear HB; clear HO187; have BK171 := n0_; have HI174 := n1_; have HO178 := n2_; have BK180 := n3_; have HB := n4_; have HO207 := n5_; clear n0_ n1_ n2_ n3_ n4_ n5_; clear ho hb hg hat))
        have n0_ := Aside0.mk (Kd.Q_drew HO178.out)
        have n1_ := Aside0.mk (Kd.R_drew HO207.out)
        have n2_ := Aside0.mk (blk_drew BK171.out)
        have n3_ := Aside0.mk (blk_drew BK180.out)
        have n4_ := Aside0.mk (IsS104.drew HI174.out)
        have n5_ := Aside0.mk (below_drew1 HB.out)
        clear HO178
        clear HO207
        clear BK171
        clear BK180
        clear HI174
        clear HB
        have HO178 := n0_
        have HO207 := n1_
        have BK171 := n2_
        have BK180 := n3_
        have HI174 := n4_
        have HB := n5_
        clear n0_ n1_ n2_ n3_ n4_ n5_
        refine start_ (n := 12) (S := fun w' => w'.cell? ⟨gb180, 0, none⟩ = some (.int .i64 t175) ∧ w'.cell? ⟨gb180, 1, none⟩ = some (.slice Ao54 t176.length co54)) (ds := []) #[false, false, false, false, false, false, false, false, false, false, false, false] (by kernel_rfl) rfl rfl ⟨(blk_cell BK180.out 0).trans rfl, (blk_cell BK180.out 1).trans rfl⟩ (fun hHeld => ?_); refine with_tabW spec_DrawTickClock.tab9 spec_DrawTickClock.bits9 (fun HT_ HW_ => ?_)
        generalize w60.drew = w61 at HO178 HO207 BK171 BK180 HI174 HB hHeld ⊢
        refine pure_ (i := 1) (N := some 34) (v := ?_) (a' := ?_) #[false, true, false, false, false, false, false, false, false, false, false, false] rfl rfl (any_of HT_.out (by kernel_rfl)) (fun _ _ _ h => h) (Or.inl ⟨by rfl, ?_⟩) ?_ ?_
        rotate_left
        · intro w'
          go_simp
          with_reducible rfl
        rotate_left
        · simp only [Act.put, List.setIfInBounds_toArray, List.set_cons_zero, List.set_cons_succ, i64_w, i32_w]
          rfl
        refine pure_ (i := 2) (N := some 35) (v := ?_) (a' := ?_) #[false, true, true, false, false, false, false, false, false, false, false, false] rfl rfl (any_of HT_.out (by kernel_rfl)) (fun _ _ _ h => h) (Or.inl ⟨by rfl, ?_⟩) ?_ ?_
        rotate_left
        · intro w'
          go_simp
          with_reducible rfl
        rotate_left
        · simp only [Act.put, List.setIfInBounds_toArray, List.set_cons_zero, List.set_cons_succ, i64_w, i32_w]
          rfl
        refine pure_ (i := 4) (N := some 37) (v := ?_) (a' := ?_) #[false, true, true, false, true, false, false, false, false, false, false, false] rfl rfl (any_of HT_.out (by kernel_rfl)) (fun _ _ _ h => h) (Or.inl ⟨by rfl, ?_⟩) ?_ ?_
        rotate_left
        · intro w'
          go_simp
          with_reducible rfl
        rotate_left
        · simp only [Act.put, List.setIfInBounds_toArray, List.set_cons_zero, List.set_cons_succ, i64_w, i32_w]
          rfl
        refine pure_ (i := 8) (N := some 41) (v := ?_) (a' := ?_) #[false, true, true, false, true, false, false, false, true, false, false, false] rfl rfl (any_of HT_.out (by kernel_rfl)) (fun _ _ _ h => h) (Or.inl ⟨by rfl, ?_⟩) ?_ ?_
        rotate_left
        · intro w'
          go_simp
          with_reducible rfl
        rotate_left
        · simp only [Act.put, List.setIfInBounds_toArray, List.set_cons_zero, List.set_cons_succ, i64_w, i32_w]
          rfl
        refine take_ (i := 0) (N := some 33) (v := ?_) (a' := ?_) #[true, true, true, false, true, false, false, false, true, false, false, false] rfl rfl (take_ofW HT_.out HW_.out (by kernel_rfl)) (fun _ _ _ h => h) (Or.inl ⟨by rfl, ?_⟩) hHeld ?_ ?_
        rotate_left
        · rintro w' ⟨s0, s1⟩
          go_simp
          with_reducible rfl
        rotate_left
        · simp only [Act.put, List.setIfInBounds_toArray, List.set_cons_zero, List.set_cons_succ, i64_w, i32_w]
          rfl
        refine one_ (i := 3) (N := some 36) #[true, true, true, true, true, false, false, false, true, false, false, false] rfl rfl (one_of HT_.out (by kernel_rfl)) (by decide) (fun K hK => ?_)
        refine goes_ Try.func60 (by kernel_rfl) rfl #[.pointer (some ⟨g174, 0, none⟩), .int .i64 9] (by rfl) rfl rfl (by (try simp only [List.map_toArray, List.map_cons, List.map_nil]); first | done | rfl | (simp only [List.length_drop, List.length_take]; rfl)) ?_
        with_reducible refine (spec_l1Next.calls g174 t172 t189 9 t208 t209 w _ ?side1 ?side2 A44.out).mono ?_
        (case side1 => repeat (first | (with_reducible first | exact HI174.out | apply IsS104.alloc | apply IsS104.drewN | apply IsS104.drew | apply IsS104.set_1 | refine IsS104.far ?_ NB174_171.out _ | refine IsS104.far ?_ NB174_180.out _) | exact HI174.out))
        (case side2 => repeat (first | (with_reducible first | exact HB.out | apply below_alloc | apply pw_below_drewN | apply below_drew1 | refine below_set ?_ (IsS104.ge HI174.out) | refine below_set ?_ GE171.out | refine below_set ?_ GE180.out) | exact HB.out))
        rintro e w62 ⟨rfl, hi, hb, hk⟩
        refine ⟨_, rfl, ?_⟩
        have n0_ := Aside0.mk (KeepBut.blk hk (g' := gb171) (o := .cells #[.int .i64 0, .slice none 0 0] 26 (0, 0)) (by (with_reducible repeat (first | refine blk_drewN ?_ _ | refine blk_drew ?_ | refine blk_alloc ?_ _)); exact BK171.out) NB171_174.out (by simp))
        have n1_ := Aside0.mk (Kd.Q_mono (Kd.Q_keep (IsS104.apartQ (show IsS104 w _ g174 t172 t189 from by repeat (first | (with_reducible first | exact HI174.out | apply IsS104.alloc | apply IsS104.drewN | apply IsS104.drew | apply IsS104.set_1 | refine IsS104.far ?_ NB174_171.out _ | refine IsS104.far ?_ NB174_180.out _) | exact HI174.out)) (by (with_reducible repeat (first | apply Kd.Q_alloc | apply Kd.Q_drewN | apply Kd.Q_drew)); exact HO178.out) (by decide)) hk (fun _ h => h.2)) (fun _ h => h.1))
        have n2_ := Aside0.mk (KeepBut.blk hk (g' := gb180) (o := .cells #[.int .i64 t175, .slice Ao54 t176.length co54] 26 (0, 0)) (by (with_reducible repeat (first | refine blk_drewN ?_ _ | refine blk_drew ?_ | refine blk_alloc ?_ _)); exact BK180.out) NB180_174.out (by simp))
        have n3_ := Aside0.mk (Kd.R_mono (Kd.R_keep (IsS104.apart (show IsS104 w _ g174 t172 t189 from by repeat (first | (with_reducible first | exact HI174.out | apply IsS104.alloc | apply IsS104.drewN | apply IsS104.drew | apply IsS104.set_1 | refine IsS104.far ?_ NB174_171.out _ | refine IsS104.far ?_ NB174_180.out _) | exact HI174.out)) (by (with_reducible repeat (first | apply Kd.R_alloc | apply Kd.R_drewN | apply Kd.R_drew)); exact HO207.out) (by decide)) hk (fun _ h => h.2)) (fun _ h => h.1))
        have n4_ := Aside0.mk (hb)
        have n5_ := Aside0.mk (hi)
        clear BK171
        clear HO178
        clear BK180
        clear HO207
        clear HB
        clear HI174
        have BK171 := n0_
        have HO178 := n1_
        have BK180 := n2_
        have HO207 := n3_
        have HB := n4_
        have HI174 := n5_
        clear n0_ n1_ n2_ n3_ n4_ n5_
        (try clear hb)
        (try clear hb2)
        (try clear hk)
        (try clear hi)
        refine hK.out _ _ ⟨(blk_cell BK180.out 0).trans rfl, (blk_cell BK180.out 1).trans rfl⟩ (fun hHeld => ?_)
        clear hK K
        refine norm_ (a' := ?_) ?_ ?_
        rotate_left
        · show Act.put _ (some 36) _ = _
          simp only [Act.put, List.setIfInBounds_toArray, List.set_cons_zero, List.set_cons_succ, i64_w, i32_w]
          rfl
        refine one_ (i := 5) (N := some 38) #[true, true, true, true, true, true, false, false, true, false, false, false] rfl rfl (one_of HT_.out (by kernel_rfl)) (by decide) (fun K hK => ?_)
        refine goes_ Try.func60 (by kernel_rfl) rfl #[.pointer (some ⟨g174, 0, none⟩), .int .i64 9] (by rfl) rfl rfl (by (try simp only [List.map_toArray, List.map_cons, List.map_nil]); first | done | rfl | (simp only [List.length_drop, List.length_take]; rfl)) ?_
        with_reducible refine (spec_l1Next.calls g174 t172 t209 9 t210 t211 w _ ?side1 ?side2 A45.out).mono ?_
        (case side1 => repeat (first | (with_reducible first | exact HI174.out | apply IsS104.alloc | apply IsS104.drewN | apply IsS104.drew | apply IsS104.set_1 | refine IsS104.far ?_ NB174_171.out _ | refine IsS104.far ?_ NB174_180.out _) | exact HI174.out))
        (case side2 => repeat (first | (with_reducible first | exact HB.out | apply below_alloc | apply pw_below_drewN | apply below_drew1 | refine below_set ?_ (IsS104.ge HI174.out) | refine below_set ?_ GE171.out | refine below_set ?_ GE180.out) | exact HB.out))
        rintro e w63 ⟨rfl, hi, hb, hk⟩
        refine ⟨_, rfl, ?_⟩
        have n0_ := Aside0.mk (KeepBut.blk hk (g' := gb171) (o := .cells #[.int .i64 0, .slice none 0 0] 26 (0, 0)) (by (with_reducible repeat (first | refine blk_drewN ?_ _ | refine blk_drew ?_ | refine blk_alloc ?_ _)); exact BK171.out) NB171_174.out (by simp))
        have n1_ := Aside0.mk (Kd.Q_mono (Kd.Q_keep (IsS104.apartQ (show IsS104 w _ g174 t172 t209 from by repeat (first | (with_reducible first | exact HI174.out | apply IsS104.alloc | apply IsS104.drewN | apply IsS104.drew | apply IsS104.set_1 | refine IsS104.far ?_ NB174_171.out _ | refine IsS104.far ?_ NB174_180.out _) | exact HI174.out)) (by (with_reducible repeat (first | apply Kd.Q_alloc | apply Kd.Q_drewN | apply Kd.Q_drew)); exact HO178.out) (by decide)) hk (fun _ h => h.2)) (fun _ h => h.1))
        have n2_ := Aside0.mk (KeepBut.blk hk (g' := gb180) (o := .cells #[.int .i64 t175, .slice Ao54 t176.length co54] 26 (0, 0)) (by (with_reducible repeat (first | refine blk_drewN ?_ _ | refine blk_drew ?_ | refine blk_alloc ?_ _)); exact BK180.out) NB180_174.out (by simp))
        have n3_ := Aside0.mk (Kd.R_mono (Kd.R_keep (IsS104.apart (show IsS104 w _ g174 t172 t209 from by repeat (first | (with_reducible first | exact HI174.out | apply IsS104.alloc | apply IsS104.drewN | apply IsS104.drew | apply IsS104.set_1 | refine IsS104.far ?_ NB174_171.out _ | refine IsS104.far ?_ NB174_180.out _) | exact HI174.out)) (by (with_reducible repeat (first | apply Kd.R_alloc | apply Kd.R_drewN | apply Kd.R_drew)); exact HO207.out) (by decide)) hk (fun _ h => h.2)) (fun _ h => h.1))
        have n4_ := Aside0.mk (hb)
        have n5_ := Aside0.mk (hi)
        clear BK171
        clear HO178
        clear BK180
        clear HO207
        clear HB
        clear HI174
        have BK171 := n0_
        have HO178 := n1_
        have BK180 := n2_
        have HO207 := n3_
        have HB := n4_
        have HI174 := n5_
        clear n0_ n1_ n2_ n3_ n4_ n5_
        (try clear hb)
        (try clear hb2)
        (try clear hk)
        (try clear hi)
        refine hK.out _ _ ⟨(blk_cell BK180.out 0).trans rfl, (blk_cell BK180.out 1).trans rfl⟩ (fun hHeld => ?_)
        clear hK K
        refine norm_ (a' := ?_) ?_ ?_
        rotate_left
        · show Act.put _ (some 38) _ = _
          simp only [Act.put, List.setIfInBounds_toArray, List.set_cons_zero, List.set_cons_succ, i64_w, i32_w]
          rfl
        refine one_ (i := 6) (N := some 39) #[true, true, true, true, true, true, true, false, true, false, false, false] rfl rfl (one_of HT_.out (by kernel_rfl)) (by decide) (fun K hK => ?_)
        refine Kd.R_lit_step (Kd.int .i64) _ 2 ?hg (N := 39) ?hd (xs := ([t208, t210, 1000, 1001, (-1)] : List Int)) (inner := [.int .i64 t208, .int .i64 t210, .int .i64 1000, .int .i64 1001, .int .i64 (-1)]) (ok := fun _ => True) (okp := fun _ => True) ?hr ?hp (fun _ hk => hk) trivial (Below.refl _ _) (Nat.le_refl _) (by simp) ?_; (case hd => rfl); (case hg => rfl); (case hr => first | (go_simp; done) | (go_simp; rfl)); (case hp => exact (Reps.one (show Kd.M (Kd.int .i64) _ _ _ t208 [.int .i64 t208] from rfl) (Reps.one (show Kd.M (Kd.int .i64) _ _ _ t210 [.int .i64 t210] from rfl) (Reps.one (show Kd.M (Kd.int .i64) _ _ _ 1000 [.int .i64 1000] from rfl) (Reps.one (show Kd.M (Kd.int .i64) _ _ _ 1001 [.int .i64 1001] from rfl) (Reps.one (show Kd.M (Kd.int .i64) _ _ _ (-1) [.int .i64 (-1)] from rfl) (Reps.none _ _)))))))
        intro v213 w64 ho65 hb hg_ hnew_
        clear hg_ hnew_
        (first | rw [← Ny212.out] at ho65 | (simp only [Int.reduceToNat] at ho65; rw [← Ny212.out] at ho65))
        have n0_ := Aside0.mk (Kd.Q_elder' (by (with_reducible repeat (first | apply Kd.Q_alloc | apply Kd.Q_drewN | apply Kd.Q_drew)); exact HO178.out) (Kd.R_base ho65) hb)
        have n1_ := Aside0.mk (Kd.R_elder' (by (with_reducible repeat (first | apply Kd.R_alloc | apply Kd.R_drewN | apply Kd.R_drew)); exact HO207.out) (Kd.R_base ho65) hb)
        have n2_ := Aside0.mk (Kd.R_lower (Kd.R_new' (Kd.R_new' ho65 (Kd.Q_lt (by (with_reducible repeat (first | apply Kd.Q_alloc | apply Kd.Q_drewN | apply Kd.Q_drew)); exact HO178.out))) (Kd.R_lt (by (with_reducible repeat (first | apply Kd.R_alloc | apply Kd.R_drewN | apply Kd.R_drew)); exact HO207.out))) (below_size (by repeat (first | (with_reducible first | exact HB.out | apply below_alloc | apply pw_below_drewN | apply below_drew1 | refine below_set ?_ (IsS104.ge HI174.out) | refine below_set ?_ GE171.out | refine below_set ?_ GE180.out) | exact HB.out))))
        have n3_ := Aside0.mk (blk_below (g := gb171) (o := .cells #[.int .i64 0, .slice none 0 0] 26 (0, 0)) (by (with_reducible repeat (first | refine blk_drewN ?_ _ | refine blk_drew ?_ | refine blk_alloc ?_ _)); exact BK171.out) hb)
        have n4_ := Aside0.mk (IsS104.below (by repeat (first | (with_reducible first | exact HI174.out | apply IsS104.alloc | apply IsS104.drewN | apply IsS104.drew | apply IsS104.set_1 | refine IsS104.far ?_ NB174_171.out _ | refine IsS104.far ?_ NB174_180.out _) | exact HI174.out)) hb)
        have n5_ := Aside0.mk (blk_below (g := gb180) (o := .cells #[.int .i64 t175, .slice Ao54 t176.length co54] 26 (0, 0)) (by (with_reducible repeat (first | refine blk_drewN ?_ _ | refine blk_drew ?_ | refine blk_alloc ?_ _)); exact BK180.out) hb)
        have n6_ := Aside0.mk (below_step (by repeat (first | (with_reducible first | exact HB.out | apply below_alloc | apply pw_below_drewN | apply below_drew1 | refine below_set ?_ (IsS104.ge HI174.out) | refine below_set ?_ GE171.out | refine below_set ?_ GE180.out) | exact HB.out)) hb)
        clear HO178
        clear HO207
        clear BK171
        clear HI174
        clear BK180
        clear HB
        have HO178 := n0_
        have HO207 := n1_
        have HO214 := n2_
        have BK171 := n3_
        have HI174 := n4_
        have BK180 := n5_
        have HB := n6_
        clear n0_ n1_ n2_ n3_ n4_ n5_ n6_
        clear hb ho65
        obtain ⟨Ao66, co66, eo66⟩ := Kd.R_slice HO214.out
        (first | subst eo66 | (injection eo66 with f1_ f2_ f3_; have f4_ := f1_.symm; have f5_ := f3_.symm; clear f1_ f2_ f3_; subst f4_; subst f5_))
        refine hK.out _ _ ⟨(blk_cell BK180.out 0).trans rfl, (blk_cell BK180.out 1).trans rfl⟩ (fun hHeld => ?_)
        clear hK K
        refine norm_ (a' := ?_) ?_ ?_
        rotate_left
        · show Act.put _ (some 39) _ = _
          simp only [Act.put, List.setIfInBounds_toArray, List.set_cons_zero, List.set_cons_succ, i64_w, i32_w]
          rfl
        refine one_ (i := 7) (N := some 40) #[true, true, true, true, true, true, true, true, true, false, false, false] rfl rfl (one_of HT_.out (by kernel_rfl)) (by decide) (fun K hK => ?_)
        refine goes_ Try.func61 (by kernel_rfl) rfl #[.pointer (some ⟨g174, 0, none⟩), .slice Ao66 y212.length co66] (by rfl) rfl rfl (by (try simp only [List.map_toArray, List.map_cons, List.map_nil]); first | done | rfl | (simp only [List.length_drop, List.length_take]; rfl)) ?_
        with_reducible refine (spec_l1Pick.calls g174 t172 t211 _ _ y212 t215 t216 w _ ?side1 ?side2 ?side3 ?side4 ?side5 A46.out).mono ?_
        (case side1 => repeat (first | (with_reducible first | exact HI174.out | apply IsS104.alloc | apply IsS104.drewN | apply IsS104.drew | apply IsS104.set_1 | refine IsS104.far ?_ NB174_171.out _ | refine IsS104.far ?_ NB174_180.out _) | exact HI174.out))
        (case side2 => repeat (first | (with_reducible first | exact HB.out | apply below_alloc | apply pw_below_drewN | apply below_drew1 | refine below_set ?_ (IsS104.ge HI174.out) | refine below_set ?_ GE171.out | refine below_set ?_ GE180.out) | exact HB.out))
        (case side3 => repeat (first | exact (Kd.R_reads' HO214.out).2.2 | (with_reducible refine Kd.C_alloc ?_ _) | (with_reducible refine Kd.C_drewN ?_ _) | (with_reducible refine Kd.C_drew ?_)))
        (case side4 => exact (Kd.R_reads' HO214.out).2.1)
        (case side5 => exact far_slice (IsS104.own_ne HI174.out HO214.out (by decide)))
        rintro e w67 ⟨rfl, hi, hb, hk⟩
        refine ⟨_, rfl, ?_⟩
        have n0_ := Aside0.mk (KeepBut.blk hk (g' := gb171) (o := .cells #[.int .i64 0, .slice none 0 0] 26 (0, 0)) (by (with_reducible repeat (first | refine blk_drewN ?_ _ | refine blk_drew ?_ | refine blk_alloc ?_ _)); exact BK171.out) NB171_174.out (by simp))
        have n1_ := Aside0.mk (Kd.Q_mono (Kd.Q_keep (IsS104.apartQ (show IsS104 w _ g174 t172 t211 from by repeat (first | (with_reducible first | exact HI174.out | apply IsS104.alloc | apply IsS104.drewN | apply IsS104.drew | apply IsS104.set_1 | refine IsS104.far ?_ NB174_171.out _ | refine IsS104.far ?_ NB174_180.out _) | exact HI174.out)) (by (with_reducible repeat (first | apply Kd.Q_alloc | apply Kd.Q_drewN | apply Kd.Q_drew)); exact HO178.out) (by decide)) hk (fun _ h => h.2)) (fun _ h => h.1))
        have n2_ := Aside0.mk (KeepBut.blk hk (g' := gb180) (o := .cells #[.int .i64 t175, .slice Ao54 t176.length co54] 26 (0, 0)) (by (with_reducible repeat (first | refine blk_drewN ?_ _ | refine blk_drew ?_ | refine blk_alloc ?_ _)); exact BK180.out) NB180_174.out (by simp))
        have n3_ := Aside0.mk (Kd.R_mono (Kd.R_keep (IsS104.apart (show IsS104 w _ g174 t172 t211 from by repeat (first | (with_reducible first | exact HI174.out | apply IsS104.alloc | apply IsS104.drewN | apply IsS104.drew | apply IsS104.set_1 | refine IsS104.far ?_ NB174_171.out _ | refine IsS104.far ?_ NB174_180.out _) | exact HI174.out)) (by (with_reducible repeat (first | apply Kd.R_alloc | apply Kd.R_drewN | apply Kd.R_drew)); exact HO207.out) (by decide)) hk (fun _ h => h.2)) (fun _ h => h.1))
        have n4_ := Aside0.mk (Kd.R_mono (Kd.R_keep (IsS104.apart (show IsS104 w _ g174 t172 t211 from by repeat (first | (with_reducible first | exact HI174.out | apply IsS104.alloc | apply IsS104.drewN | apply IsS104.drew | apply IsS104.set_1 | refine IsS104.far ?_ NB174_171.out _ | refine IsS104.far ?_ NB174_180.out _) | exact HI174.out)) (by (with_reducible repeat (first | apply Kd.R_alloc | apply Kd.R_drewN | apply Kd.R_drew)); exact HO214.out) (by decide)) hk (fun _ h => h.2)) (fun _ h => h.1))
        have n5_ := Aside0.mk (hb)
        have n6_ := Aside0.mk (hi)
        clear BK171
        clear HO178
        clear BK180
        clear HO207
        clear HO214
        clear HB
        clear HI174
        have BK171 := n0_
        have HO178 := n1_
        have BK180 := n2_
        have HO207 := n3_
        have HO214 := n4_
        have HB := n5_
        have HI174 := n6_
        clear n0_ n1_ n2_ n3_ n4_ n5_ n6_
        (try clear hb)
        (try clear hb2)
        (try clear hk)
        (try clear hi)
        refine hK.out _ _ ⟨(blk_cell BK180.out 0).trans rfl, (blk_cell BK180.out 1).trans rfl⟩ (fun hHeld => ?_)
        clear hK K
        refine norm_ (a' := ?_) ?_ ?_
        rotate_left
        · show Act.put _ (some 40) _ = _
          simp only [Act.put, List.setIfInBounds_toArray, List.set_cons_zero, List.set_cons_succ, i64_w, i32_w]
          rfl
        refine one_ (i := 9) (N := none) #[true, true, true, true, true, true, true, true, true, true, false, false] rfl rfl (one_of HT_.out (by kernel_rfl)) (by decide) (fun K hK => ?_)
        have hs68 : w67.cell? ⟨gb171, 0, none⟩ = some (.int .i64 0) := (blk_cell BK171.out 0).trans rfl
        have hfs68 := blk_frozen BK171.out 0
        have hns68_1 := NB180_171.out
        have hms68_1 := NB171_180.out
        have hs69 : w67.cell? ⟨gb171, 1, none⟩ = some (.slice none 0 0) := (blk_cell BK171.out 1).trans rfl
        have hfs69 := blk_frozen BK171.out 1
        have hns69_1 := NB180_171.out
        have hms69_1 := NB171_180.out
        refine skip_ (w1 := ?_) (by rfl) rfl ?_ ?_
        rotate_left
        · go_simp
          rfl
        refine hK.out _ _ ⟨((cell_far (p := ⟨gb171, _, none⟩) NB180_171.out _).trans (((cell_far (p := ⟨gb171, _, none⟩) NB180_171.out _).trans (hHeld.1)))), ((cell_far (p := ⟨gb171, _, none⟩) NB180_171.out _).trans (((cell_far (p := ⟨gb171, _, none⟩) NB180_171.out _).trans (hHeld.2))))⟩ (fun hHeld => ?_)
        clear hK K
        refine pure_ (i := 10) (N := some 3) (v := ?_) (a' := ?_) #[true, true, true, true, true, true, true, true, true, true, true, false] rfl rfl (any_of HT_.out (by kernel_rfl)) (fun _ _ _ h => h) (Or.inl ⟨by rfl, ?_⟩) ?_ ?_
        rotate_left
        · intro w'
          go_simp
          with_reducible rfl
        rotate_left
        · simp only [Act.put, List.setIfInBounds_toArray, List.set_cons_zero, List.set_cons_succ, i64_w, i32_w]
          rfl
        refine pure_ (i := 11) (N := some 4) (v := ?_) (a' := ?_) #[true, true, true, true, true, true, true, true, true, true, true, true] rfl rfl (any_of HT_.out (by kernel_rfl)) (fun _ _ _ h => h) (Or.inl ⟨by rfl, ?_⟩) ?_ ?_
        rotate_left
        · intro w'
          go_simp
          with_reducible rfl
        rotate_left
        · simp only [Act.put, List.setIfInBounds_toArray, List.set_cons_zero, List.set_cons_succ, i64_w, i32_w]
          rfl
        refine done_ (done_of HT_.out (by kernel_rfl)) ?_
        try go_wp2
        refine bodyPost_ret (results_ctt rfl _ _ gb171 26 #[.int .i64 t175, .slice Ao54 t176.length co54] (0, 0) _ rfl (by (with_reducible repeat (first | refine blk_drewN ?_ _ | refine blk_drew ?_ | refine blk_alloc ?_ _)); refine blk_put (cs := #[.int .i64 t175, .slice none 0 0]) ?_ 1 _ rfl; (with_reducible repeat (first | refine blk_drewN ?_ _ | refine blk_drew ?_ | refine blk_alloc ?_ _)); refine blk_put (cs := #[.int .i64 0, .slice none 0 0]) ?_ 0 _ rfl; (with_reducible repeat (first | refine blk_drewN ?_ _ | refine blk_drew ?_ | refine blk_alloc ?_ _)); exact BK171.out) Try.underlying26 rfl (by kernel_rfl)) rfl ?_
        exact ⟨_, _, by first | rfl | (simp [errW_none, errW_some] <;> rfl) | (simp [*, errW_none, errW_some] <;> rfl), by (with_reducible repeat (first | apply Kd.Q_alloc | apply Kd.Q_drewN | apply Kd.Q_drew)); exact Kd.Q_mono (Kd.Q_far (p := ⟨gb171, 1, none⟩) (Kd.Q_far (p := ⟨gb171, 0, none⟩) (Kd.Q_types HO178.out BK171.out (by decide)) (fun _ hk => hk.2) (.int .i64 t175)) (fun _ hk => hk.2) (.slice Ao54 t176.length co54)) (fun _ hk => hk.1.1.2), by (with_reducible repeat (first | apply Kd.R_alloc | apply Kd.R_drewN | apply Kd.R_drew)); exact Kd.R_mono (Kd.R_far (p := ⟨gb171, 1, none⟩) (Kd.R_far (p := ⟨gb171, 0, none⟩) (Kd.R_types HO207.out BK171.out (by decide)) (fun _ hk => hk.2) (.int .i64 t175)) (fun _ hk => hk.2) (.slice Ao54 t176.length co54)) (fun _ hk => hk.1.1), by repeat (first | (with_reducible first | exact HB.out | apply below_alloc | apply pw_below_drewN | apply below_drew1 | refine below_set ?_ (IsS104.ge HI174.out) | refine below_set ?_ GE171.out | refine below_set ?_ GE180.out) | exact HB.out)⟩
      · rw [if_neg c43] at H
        exact absurd H (by simp)
    · rw [if_neg c42] at H
      have c42b0 : (t188 == 1) = false := beq_eq_false_iff_ne.mpr c42
      have c42b1 : (t188 != 1) = true := bne_iff_ne.mpr c42
      replace H := Option.bind_eq_some_iff.mp H
      obtain ⟨⟨t217, t218⟩, A700, H⟩ := H
      replace H : ((spec_l1Next.f t172 t218 9).bind fun bt219 => ((spec_l1Pick.f t172 bt219.2 (([t217, bt219.1, 1000, 1001, (-1)] : List Int))).bind fun bt224 => (some (t175, t176, bt224.1, y185)))) = some (r1, r2, r3, r4) := H
      have A70 := Aside0.mk A700
      clear A700
      replace H := Option.bind_eq_some_iff.mp H
      obtain ⟨⟨t219, t220⟩, A710, H⟩ := H
      replace H : ((spec_l1Pick.f t172 t220 (([t217, t219, 1000, 1001, (-1)] : List Int))).bind fun bt224 => (some (t175, t176, bt224.1, y185))) = some (r1, r2, r3, r4) := H
      have A71 := Aside0.mk A710
      clear A710
      obtain ⟨y221, hy221⟩ : ∃ y_ : List Int, y_ = (([t217, t219, 1000, 1001, (-1)] : List Int)) := ⟨_, rfl⟩
      replace H : ((spec_l1Pick.f t172 t220 y221).bind fun bt224 => (some (t175, t176, bt224.1, y185))) = some (r1, r2, r3, r4) := by first | (rw [hy221]; with_reducible exact H) | (have H2_ := (Option.bind_some _ _).symm.trans H; rw [hy221]; with_reducible exact H2_) | (have H2_ := (Option.bind_some _ _).symm.trans H; with_reducible exact H2_) | with_reducible exact H | (rw [hy221]; exact H) | exact H
      have Ny221 := Aside0.mk hy221
      clear hy221
      replace H := Option.bind_eq_some_iff.mp H
      obtain ⟨⟨t224, t225⟩, A720, H⟩ := H
      replace H : (some (t175, t176, t224, y185)) = some (r1, r2, r3, r4) := H
      have A72 := Aside0.mk A720
      clear A720
      simp only [Option.some.injEq, Prod.mk.injEq] at H
      obtain ⟨rfl, rfl, rfl, rfl⟩ := H
      go_enter Try.func21, Try.ntmps21
      try go_wp2_with (first | ((with_reducible refine gate_dst (N := 2) rfl ?_); refine box_event ?hg (N := 2) ?hd (cs := #[.int .i64 0, .slice none 0 0]) (t := 26) ?hr ?_; (case hd => rfl); (case hg => rfl); (case hr => first | (go_simp; done) | (go_simp; rfl)); intro gb171 hg w73 hbox hb; have n0_ := Aside0.mk (below_step (by repeat (first | (with_reducible first | exact HB.out | apply below_alloc | apply pw_below_drewN | apply below_drew1) | exact HB.out)) hb); have n1_ := Aside0.mk (hbox); have n2_ := Aside0.mk ((by rw [hg]; exact (below_size (by repeat (first | (with_reducible first | exact HB.out | apply below_alloc | apply pw_below_drewN | apply below_drew1) | exact HB.out))) : w.heap.size ≤ gb171)); have n3_ := Aside0.mk ((by rw [hg]; exact (below_size (by repeat (first | (with_reducible first | exact HB.out | apply below_alloc | apply pw_below_drewN | apply below_drew1) | exact HB.out))) : w.heap.size ≤ gb171)); clear HB; have HB := n0_; have BK171 := n1_; have GW171 := n2_; have GE171 := n3_; clear n0_ n1_ n2_ n3_; clear hb hbox hg) | ((with_reducible refine gate_callee (f := 58) rfl ?_); refine goesL_ (some 9) rfl rfl Try.func58 (by kernel_rfl) rfl #[.slice A0 l0.length c0] rfl (by (try simp only [List.map_toArray, List.map_cons, List.map_nil]); first | done | rfl | (simp only [List.length_drop, List.length_take]; rfl)) ?_; (with_reducible refine (spec_l1Source.calls _ _ l0 t172 t173 w _ ?side1 ?side2 ?side3 A2.out).mono ?_); (case side1 => repeat (first | (with_reducible first | exact HB.out | apply below_alloc | apply pw_below_drewN | apply below_drew1 | refine below_set ?_ GE171.out) | exact HB.out)); (case side2 => exact HR0.out); (case side3 => exact HC0.out); rintro e w74 ⟨g174, rfl, hi, hb, hb2⟩; refine ⟨_, rfl, ?_⟩; have n0_ := Aside0.mk (blk_below (g := gb171) (o := .cells #[.int .i64 0, .slice none 0 0] 26 (0, 0)) (by (with_reducible repeat (first | refine blk_drewN ?_ _ | refine blk_drew ?_ | refine blk_alloc ?_ _)); exact BK171.out) hb2); have n1_ := Aside0.mk (hb); have n2_ := Aside0.mk (hi); have n3_ := Aside0.mk (IsS104.ne_blk hi (blk_below (g := gb171) (o := .cells #[.int .i64 0, .slice none 0 0] 26 (0, 0)) (by (with_reducible repeat (first | refine blk_drewN ?_ _ | refine blk_drew ?_ | refine blk_alloc ?_ _)); exact BK171.out) hb2) (by decide)); have n4_ := Aside0.mk (Ne.symm (IsS104.ne_blk hi (blk_below (g := gb171) (o := .cells #[.int .i64 0, .slice none 0 0] 26 (0, 0)) (by (with_reducible repeat (first | refine blk_drewN ?_ _ | refine blk_drew ?_ | refine blk_alloc ?_ _)); exact BK171.out) hb2) (by decide))); clear BK171; clear HB; have BK171 := n0_; have HB := n1_; have HI174 := n2_; have NB174_171 := n3_; have NB171_174 := n4_; clear n0_ n1_ n2_ n3_ n4_; (try clear hb); (try clear hb2); (try clear hk); (try clear hi)) | ((with_reducible refine gate_callee (f := 59) rfl ?_); refine goesL_ (some 11) rfl rfl Try.func59 (by kernel_rfl) rfl #[.pointer (some ⟨g174, 0, none⟩)] rfl (by (try simp only [List.map_toArray, List.map_cons, List.map_nil]); first | done | rfl | (simp only [List.length_drop, List.length_take]; rfl)) ?_; (with_reducible refine (spec_l13Clock.calls g174 t172 t173 t175 t176 t179 w _ ?side1 ?side2 A3.out).mono ?_); (case side1 => repeat (first | (with_reducible first | exact HI174.out | apply IsS104.alloc | apply IsS104.drewN | apply IsS104.drew | apply IsS104.set_1 | refine IsS104.far ?_ NB174_171.out _) | exact HI174.out)); (case side2 => repeat (first | (with_reducible first | exact HB.out | apply below_alloc | apply pw_below_drewN | apply below_drew1 | refine below_set ?_ (IsS104.ge HI174.out) | refine below_set ?_ GE171.out) | exact HB.out)); rintro e w75 ⟨v177, rfl, ho0, hi, hb, hk⟩; refine ⟨_, rfl, ?_⟩; have n0_ := Aside0.mk (KeepBut.blk hk (g' := gb171) (o := .cells #[.int .i64 0, .slice none 0 0] 26 (0, 0)) (by (with_reducible repeat (first | refine blk_drewN ?_ _ | refine blk_drew ?_ | refine blk_alloc ?_ _)); exact BK171.out) NB171_174.out (by simp)); have n1_ := Aside0.mk (Kd.Q_lower ho0 (below_size (by repeat (first | (with_reducible first | exact HB.out | apply below_alloc | apply pw_below_drewN | apply below_drew1 | refine below_set ?_ (IsS104.ge HI174.out) | refine below_set ?_ GE171.out) | exact HB.out)))); have n2_ := Aside0.mk (hb); have n3_ := Aside0.mk (hi); clear BK171; clear HB; clear HI174; have BK171 := n0_; have HO178 := n1_; have HB := n2_; have HI174 := n3_; clear n0_ n1_ n2_ n3_; (try clear hb); (try clear hb2); (try clear hk); (try clear hi); (try clear ho0)) | ((with_reducible refine gate_dst (N := 6) rfl ?_); refine box_event ?hg (N := 6) ?hd (cs := #[.int .i64 0, .slice none 0 0]) (t := 26) ?hr ?_; (case hd => rfl); (case hg => rfl); (case hr => first | (go_simp; done) | (go_simp; rfl)); intro gb180 hg w76 hbox hb; have n0_ := Aside0.mk (Kd.Q_below (by (with_reducible repeat (first | apply Kd.Q_alloc | apply Kd.Q_drewN | apply Kd.Q_drew)); exact HO178.out) hb); have n1_ := Aside0.mk (blk_below (g := gb171) (o := .cells #[.int .i64 0, .slice none 0 0] 26 (0, 0)) (by (with_reducible repeat (first | refine blk_drewN ?_ _ | refine blk_drew ?_ | refine blk_alloc ?_ _)); exact BK171.out) hb); have n2_ := Aside0.mk (IsS104.below (by repeat (first | (with_reducible first | exact HI174.out | apply IsS104.alloc | apply IsS104.drewN | apply IsS104.drew | apply IsS104.set_1 | refine IsS104.far ?_ NB174_171.out _) | exact HI174.out)) hb); have n3_ := Aside0.mk (below_step (by repeat (first | (with_reducible first | exact HB.out | apply below_alloc | apply pw_below_drewN | apply below_drew1 | refine below_set ?_ (IsS104.ge HI174.out) | refine below_set ?_ GE171.out) | exact HB.out)) hb); have n4_ := Aside0.mk (hbox); have n5_ := Aside0.mk ((by rw [hg]; exact (below_size (by repeat (first | (with_reducible first | exact HB.out | apply below_alloc | apply pw_below_drewN | apply below_drew1 | refine below_set ?_ (IsS104.ge HI174.out) | refine below_set ?_ GE171.out) | exact HB.out))) : w.heap.size ≤ gb180)); have n6_ := Aside0.mk ((by rw [hg]; exact (below_size (by repeat (first | (with_reducible first | exact HB.out | apply below_alloc | apply pw_below_drewN | apply below_drew1 | refine below_set ?_ (IsS104.ge HI174.out) | refine below_set ?_ GE171.out) | exact HB.out))) : w.heap.size ≤ gb180)); have n7_ := Aside0.mk ((by rw [hg]; exact Nat.ne_of_lt (blk_lt (g := gb171) (o := .cells #[.int .i64 0, .slice none 0 0] 26 (0, 0)) (by (with_reducible repeat (first | refine blk_drewN ?_ _ | refine blk_drew ?_ | refine blk_alloc ?_ _)); exact BK171.out)) : gb171 ≠ gb180)); have n8_ := Aside0.mk ((by rw [hg]; exact Nat.ne_of_gt (blk_lt (g := gb171) (o := .cells #[.int .i64 0, .slice none 0 0] 26 (0, 0)) (by (with_reducible repeat (first | refine blk_drewN ?_ _ | refine blk_drew ?_ | refine blk_alloc ?_ _)); exact BK171.out)) : gb180 ≠ gb171)); have n9_ := Aside0.mk ((by rw [hg]; exact Nat.ne_of_lt (IsS104.lt (show IsS104 w _ g174 t172 t179 from by repeat (first | (with_reducible first | exact HI174.out | apply IsS104.alloc | apply IsS104.drewN | apply IsS104.drew | apply IsS104.set_1 | refine IsS104.far ?_ NB174_171.out _) | exact HI174.out))) : g174 ≠ gb180)); have n10_ := Aside0.mk ((by rw [hg]; exact Nat.ne_of_gt (IsS104.lt (show IsS104 w _ g174 t172 t179 from by repeat (first | (with_reducible first | exact HI174.out | apply IsS104.alloc | apply IsS104.drewN | apply IsS104.drew | apply IsS104.set_1 | refine IsS104.far ?_ NB174_171.out _) | exact HI174.out))) : gb180 ≠ g174)); clear HO178; clear BK171; clear HI174; clear HB; have HO178 := n0_; have BK171 := n1_; have HI174 := n2_; have HB := n3_; have BK180 := n4_; have GW180 := n5_; have GE180 := n6_; have NB171_180 := n7_; have NB180_171 := n8_; have NB174_180 := n9_; have NB180_174 := n10_; clear n0_ n1_ n2_ n3_ n4_ n5_ n6_ n7_ n8_ n9_ n10_; clear hb hbox hg; have hnb77 := NB180_171.out; have hnc77 := NB171_180.out; have hnb78 := NB180_174.out; have hnc78 := NB174_180.out; have hcz79_0 : w76.cell? ⟨gb180, 0, none⟩ = some (.int .i64 0) := (blk_cell BK180.out 0).trans rfl; have hcz79_1 : w76.cell? ⟨gb180, 1, none⟩ = some (.slice none 0 0) := (blk_cell BK180.out 1).trans rfl; have hfz79_0 := blk_frozen BK180.out 0; have hfz79_1 := blk_frozen BK180.out 1; obtain ⟨Ao80, co80, eo80, _⟩ := Kd.Q_slice HO178.out; subst eo80) | ((with_reducible refine gate_callee (f := 60) rfl ?_); refine goesL_ (some 13) rfl rfl Try.func60 (by kernel_rfl) rfl #[.pointer (some ⟨g174, 0, none⟩), .int .i64 5] rfl (by (try simp only [List.map_toArray, List.map_cons, List.map_nil]); first | done | rfl | (simp only [List.length_drop, List.length_take]; rfl)) ?_; (with_reducible refine (spec_l1Next.calls g174 t172 t179 5 t181 t182 w _ ?side1 ?side2 A4.out).mono ?_); (case side1 => repeat (first | (with_reducible first | exact HI174.out | apply IsS104.alloc | apply IsS104.drewN | apply IsS104.drew | apply IsS104.set_1 | refine IsS104.far ?_ NB174_171.out _ | refine IsS104.far ?_ NB174_180.out _) | exact HI174.out)); (case side2 => repeat (first | (with_reducible first | exact HB.out | apply below_alloc | apply pw_below_drewN | apply below_drew1 | refine below_set ?_ (IsS104.ge HI174.out) | refine below_set ?_ GE171.out | refine below_set ?_ GE180.out) | exact HB.out)); rintro e w81 ⟨rfl, hi, hb, hk⟩; refine ⟨_, rfl, ?_⟩; have n0_ := Aside0.mk (KeepBut.blk hk (g' := gb171) (o := .cells #[.int .i64 0, .slice none 0 0] 26 (0, 0)) (by (with_reducible repeat (first | refine blk_drewN ?_ _ | refine blk_drew ?_ | refine blk_alloc ?_ _)); refine blk_far ?_ NB171_180.out _; (with_reducible repeat (first | refine blk_drewN ?_ _ | refine blk_drew ?_ | refine blk_alloc ?_ _)); refine blk_far ?_ NB171_180.out _; (with_reducible repeat (first | refine blk_drewN ?_ _ | refine blk_drew ?_ | refine blk_alloc ?_ _)); exact BK171.out) NB171_174.out (by simp)); have n1_ := Aside0.mk (Kd.Q_mono (Kd.Q_keep (IsS104.apartQ (show IsS104 w _ g174 t172 t179 from by repeat (first | (with_reducible first | exact HI174.out | apply IsS104.alloc | apply IsS104.drewN | apply IsS104.drew | apply IsS104.set_1 | refine IsS104.far ?_ NB174_171.out _ | refine IsS104.far ?_ NB174_180.out _) | exact HI174.out)) (by (with_reducible repeat (first | apply Kd.Q_alloc | apply Kd.Q_drewN | apply Kd.Q_drew)); exact (Kd.Q_mono (Kd.Q_far (p := ⟨gb180, 1, none⟩) (Kd.Q_far (p := ⟨gb180, 0, none⟩) (Kd.Q_types HO178.out BK180.out (by decide)) (fun _ hk => hk.2) (.int .i64 t175)) (fun _ hk => hk.2) (.slice Ao80 t176.length co80)) (fun _ h_ => h_.1))) (by decide)) hk (fun _ h => h.2)) (fun _ h => h.1)); have n2_ := Aside0.mk (KeepBut.blk hk (g' := gb180) (o := .cells #[.int .i64 t175, .slice Ao80 t176.length co80] 26 (0, 0)) (by (with_reducible repeat (first | refine blk_drewN ?_ _ | refine blk_drew ?_ | refine blk_alloc ?_ _)); refine blk_put (cs := #[.int .i64 t175, .slice none 0 0]) ?_ 1 _ rfl; (with_reducible repeat (first | refine blk_drewN ?_ _ | refine blk_drew ?_ | refine blk_alloc ?_ _)); refine blk_put (cs := #[.int .i64 0, .slice none 0 0]) ?_ 0 _ rfl; (with_reducible repeat (first | refine blk_drewN ?_ _ | refine blk_drew ?_ | refine blk_alloc ?_ _)); exact BK180.out) NB180_174.out (by simp)); have n3_ := Aside0.mk (hb); have n4_ := Aside0.mk (hi); clear BK171; clear HO178; clear BK180; clear HB; clear HI174; have BK171 := n0_; have HO178 := n1_; have BK180 := n2_; have HB := n3_; have HI174 := n4_; clear n0_ n1_ n2_ n3_ n4_; (try clear hb); (try clear hb2); (try clear hk); (try clear hi)) | ((with_reducible refine gate_callee (f := 60) rfl ?_); refine goesL_ (some 16) rfl rfl Try.func60 (by kernel_rfl) rfl #[.pointer (some ⟨g174, 0, none⟩), .int .i64 5] rfl (by (try simp only [List.map_toArray, List.map_cons, List.map_nil]); first | done | rfl | (simp only [List.length_drop, List.length_take]; rfl)) ?_; (with_reducible refine (spec_l1Next.calls g174 t172 t182 5 t183 t184 w _ ?side1 ?side2 A5.out).mono ?_); (case side1 => repeat (first | (with_reducible first | exact HI174.out | apply IsS104.alloc | apply IsS104.drewN | apply IsS104.drew | apply IsS104.set_1 | refine IsS104.far ?_ NB174_171.out _ | refine IsS104.far ?_ NB174_180.out _) | exact HI174.out)); (case side2 => repeat (first | (with_reducible first | exact HB.out | apply below_alloc | apply pw_below_drewN | apply below_drew1 | refine below_set ?_ (IsS104.ge HI174.out) | refine below_set ?_ GE171.out | refine below_set ?_ GE180.out) | exact HB.out)); rintro e w82 ⟨rfl, hi, hb, hk⟩; refine ⟨_, rfl, ?_⟩; have n0_ := Aside0.mk (KeepBut.blk hk (g' := gb171) (o := .cells #[.int .i64 0, .slice none 0 0] 26 (0, 0)) (by (with_reducible repeat (first | refine blk_drewN ?_ _ | refine blk_drew ?_ | refine blk_alloc ?_ _)); exact BK171.out) NB171_174.out (by simp)); have n1_ := Aside0.mk (Kd.Q_mono (Kd.Q_keep (IsS104.apartQ (show IsS104 w _ g174 t172 t182 from by repeat (first | (with_reducible first | exact HI174.out | apply IsS104.alloc | apply IsS104.drewN | apply IsS104.drew | apply IsS104.set_1 | refine IsS104.far ?_ NB174_171.out _ | refine IsS104.far ?_ NB174_180.out _) | exact HI174.out)) (by (with_reducible repeat (first | apply Kd.Q_alloc | apply Kd.Q_drewN | apply Kd.Q_drew)); exact HO178.out) (by decide)) hk (fun _ h => h.2)) (fun _ h => h.1)); have n2_ := Aside0.mk (KeepBut.blk hk (g' := gb180) (o := .cells #[.int .i64 t175, .slice Ao80 t176.length co80] 26 (0, 0)) (by (with_reducible repeat (first | refine blk_drewN ?_ _ | refine blk_drew ?_ | refine blk_alloc ?_ _)); exact BK180.out) NB180_174.out (by simp)); have n3_ := Aside0.mk (hb); have n4_ := Aside0.mk (hi); clear BK171; clear HO178; clear BK180; clear HB; clear HI174; have BK171 := n0_; have HO178 := n1_; have BK180 := n2_; have HB := n3_; have HI174 := n4_; clear n0_ n1_ n2_ n3_ n4_; (try clear hb); (try clear hb2); (try clear hk); (try clear hi)) | ((with_reducible refine gate_dst (N := 18) rfl ?_); refine Kd.R_lit (Kd.int .i64) _ 2 ?hg (N := 18) ?hd (xs := ([wrap64 (t181 - 2), wrap64 (t183 - 2)] : List Int)) (inner := [.int .i64 (wrap64 (t181 - 2)), .int .i64 (wrap64 (t183 - 2))]) (ok := fun _ => True) (okp := fun _ => True) ?hr ?hp (fun _ hk => hk) trivial (Below.refl _ _) (Nat.le_refl _) (by simp) ?_; (case hd => rfl); (case hg => rfl); (case hr => first | (go_simp; done) | (go_simp; rfl)); (case hp => exact (Reps.one (show Kd.M (Kd.int .i64) _ _ _ (wrap64 (t181 - 2)) [.int .i64 (wrap64 (t181 - 2))] from rfl) (Reps.one (show Kd.M (Kd.int .i64) _ _ _ (wrap64 (t183 - 2)) [.int .i64 (wrap64 (t183 - 2))] from rfl) (Reps.none _ _)))); intro v186 w83 ho84 hb hg_ hnew_; clear hg_ hnew_; (first | rw [← Ny185.out] at ho84 | (simp only [Int.reduceToNat] at ho84; rw [← Ny185.out] at ho84)); have n0_ := Aside0.mk (Kd.Q_elder' (by (with_reducible repeat (first | apply Kd.Q_alloc | apply Kd.Q_drewN | apply Kd.Q_drew)); exact HO178.out) (Kd.R_base ho84) hb); have n1_ := Aside0.mk (Kd.R_lower (Kd.R_new' ho84 (Kd.Q_lt (by (with_reducible repeat (first | apply Kd.Q_alloc | apply Kd.Q_drewN | apply Kd.Q_drew)); exact HO178.out))) (below_size (by repeat (first | (with_reducible first | exact HB.out | apply below_alloc | apply pw_below_drewN | apply below_drew1 | refine below_set ?_ (IsS104.ge HI174.out) | refine below_set ?_ GE171.out | refine below_set ?_ GE180.out) | exact HB.out)))); have n2_ := Aside0.mk (blk_below (g := gb171) (o := .cells #[.int .i64 0, .slice none 0 0] 26 (0, 0)) (by (with_reducible repeat (first | refine blk_drewN ?_ _ | refine blk_drew ?_ | refine blk_alloc ?_ _)); exact BK171.out) hb); have n3_ := Aside0.mk (IsS104.below (by repeat (first | (with_reducible first | exact HI174.out | apply IsS104.alloc | apply IsS104.drewN | apply IsS104.drew | apply IsS104.set_1 | refine IsS104.far ?_ NB174_171.out _ | refine IsS104.far ?_ NB174_180.out _) | exact HI174.out)) hb); have n4_ := Aside0.mk (blk_below (g := gb180) (o := .cells #[.int .i64 t175, .slice Ao80 t176.length co80] 26 (0, 0)) (by (with_reducible repeat (first | refine blk_drewN ?_ _ | refine blk_drew ?_ | refine blk_alloc ?_ _)); exact BK180.out) hb); have n5_ := Aside0.mk (below_step (by repeat (first | (with_reducible first | exact HB.out | apply below_alloc | apply pw_below_drewN | apply below_drew1 | refine below_set ?_ (IsS104.ge HI174.out) | refine below_set ?_ GE171.out | refine below_set ?_ GE180.out) | exact HB.out)) hb); clear HO178; clear BK171; clear HI174; clear BK180; clear HB; have HO178 := n0_; have HO187 := n1_; have BK171 := n2_; have HI174 := n3_; have BK180 := n4_; have HB := n5_; clear n0_ n1_ n2_ n3_ n4_ n5_; clear hb ho84) | ((with_reducible refine gate_callee (f := 60) rfl ?_); refine goesL_ (some 20) rfl rfl Try.func60 (by kernel_rfl) rfl #[.pointer (some ⟨g174, 0, none⟩), .int .i64 12] rfl (by (try simp only [List.map_toArray, List.map_cons, List.map_nil]); first | done | rfl | (simp only [List.length_drop, List.length_take]; rfl)) ?_; (with_reducible refine (spec_l1Next.calls g174 t172 t184 12 t188 t189 w _ ?side1 ?side2 A6.out).mono ?_); (case side1 => repeat (first | (with_reducible first | exact HI174.out | apply IsS104.alloc | apply IsS104.drewN | apply IsS104.drew | apply IsS104.set_1 | refine IsS104.far ?_ NB174_171.out _ | refine IsS104.far ?_ NB174_180.out _) | exact HI174.out)); (case side2 => repeat (first | (with_reducible first | exact HB.out | apply below_alloc | apply pw_below_drewN | apply below_drew1 | refine below_set ?_ (IsS104.ge HI174.out) | refine below_set ?_ GE171.out | refine below_set ?_ GE180.out) | exact HB.out)); rintro e w85 ⟨rfl, hi, hb, hk⟩; refine ⟨_, rfl, ?_⟩; have n0_ := Aside0.mk (KeepBut.blk hk (g' := gb171) (o := .cells #[.int .i64 0, .slice none 0 0] 26 (0, 0)) (by (with_reducible repeat (first | refine blk_drewN ?_ _ | refine blk_drew ?_ | refine blk_alloc ?_ _)); exact BK171.out) NB171_174.out (by simp)); have n1_ := Aside0.mk (Kd.Q_mono (Kd.Q_keep (IsS104.apartQ (show IsS104 w _ g174 t172 t184 from by repeat (first | (with_reducible first | exact HI174.out | apply IsS104.alloc | apply IsS104.drewN | apply IsS104.drew | apply IsS104.set_1 | refine IsS104.far ?_ NB174_171.out _ | refine IsS104.far ?_ NB174_180.out _) | exact HI174.out)) (by (with_reducible repeat (first | apply Kd.Q_alloc | apply Kd.Q_drewN | apply Kd.Q_drew)); exact HO178.out) (by decide)) hk (fun _ h => h.2)) (fun _ h => h.1)); have n2_ := Aside0.mk (KeepBut.blk hk (g' := gb180) (o := .cells #[.int .i64 t175, .slice Ao80 t176.length co80] 26 (0, 0)) (by (with_reducible repeat (first | refine blk_drewN ?_ _ | refine blk_drew ?_ | refine blk_alloc ?_ _)); exact BK180.out) NB180_174.out (by simp)); have n3_ := Aside0.mk (Kd.R_mono (Kd.R_keep (IsS104.apart (show IsS104 w _ g174 t172 t184 from by repeat (first | (with_reducible first | exact HI174.out | apply IsS104.alloc | apply IsS104.drewN | apply IsS104.drew | apply IsS104.set_1 | refine IsS104.far ?_ NB174_171.out _ | refine IsS104.far ?_ NB174_180.out _) | exact HI174.out)) (by (with_reducible repeat (first | apply Kd.R_alloc | apply Kd.R_drewN | apply Kd.R_drew)); exact HO187.out) (by decide)) hk (fun _ h => h.2)) (fun _ h => h.1)); have n4_ := Aside0.mk (hb); have n5_ := Aside0.mk (hi); clear BK171; clear HO178; clear BK180; clear HO187; clear HB; clear HI174; have BK171 := n0_; have HO178 := n1_; have BK180 := n2_; have HO187 := n3_; have HB := n4_; have HI174 := n5_; clear n0_ n1_ n2_ n3_ n4_ n5_; (try clear hb); (try clear hb2); (try clear hk); (try clear hi)))
      have n0_ := Aside0.mk (Kd.Q_drew HO178.out)
      have n1_ := Aside0.mk (Kd.R_drew HO187.out)
      have n2_ := Aside0.mk (blk_drew BK171.out)
      have n3_ := Aside0.mk (blk_drew BK180.out)
      have n4_ := Aside0.mk (IsS104.drew HI174.out)
      have n5_ := Aside0.mk (below_drew1 HB.out)
      clear HO178
      clear HO187
      clear BK171
      clear BK180
      clear HI174
      clear HB
      have HO178 := n0_
      have HO187 := n1_
      have BK171 := n2_
      have BK180 := n3_
      have HI174 := n4_
      have HB := n5_
      clear n0_ n1_ n2_ n3_ n4_ n5_
      refine start_ (n := 12) (S := fun w' => w'.cell? ⟨gb180, 0, none⟩ = some (.int .i64 t175) ∧ w'.cell? ⟨gb180, 1, none⟩ = some (.slice Ao80 t176.length co80)) (ds := []) #[false, false, false, false, false, false, false, false, false, false, false, false] (by kernel_rfl) rfl rfl ⟨(blk_cell BK180.out 0).trans rfl, (blk_cell BK180.out 1).trans rfl⟩ (fun hHeld => ?_); refine with_tabW spec_DrawTickClock.tab9 spec_DrawTickClock.bits9 (fun HT_ HW_ => ?_)
      generalize w85.drew = w86 at HO178 HO187 BK171 BK180 HI174 HB hHeld ⊢
      refine pure_ (i := 1) (N := some 34) (v := ?_) (a' := ?_) #[false, true, false, false, false, false, false, false, false, false, false, false] rfl rfl (any_of HT_.out (by kernel_rfl)) (fun _ _ _ h => h) (Or.inl ⟨by rfl, ?_⟩) ?_ ?_
      rotate_left
      · intro w'
        go_simp
        with_reducible rfl
      rotate_left
      · simp only [Act.put, List.setIfInBounds_toArray, List.set_cons_zero, List.set_cons_succ, i64_w, i32_w]
        rfl
      refine pure_ (i := 2) (N := some 35) (v := ?_) (a' := ?_) #[false, true, true, false, false, false, false, false, false, false, false, false] rfl rfl (any_of HT_.out (by kernel_rfl)) (fun _ _ _ h => h) (Or.inl ⟨by rfl, ?_⟩) ?_ ?_
      rotate_left
      · intro w'
        go_simp
        with_reducible rfl
      rotate_left
      · simp only [Act.put, List.setIfInBounds_toArray, List.set_cons_zero, List.set_cons_succ, i64_w, i32_w]
        rfl
      refine pure_ (i := 4) (N := some 37) (v := ?_) (a' := ?_) #[false, true, true, false, true, false, false, false, false, false, false, false] rfl rfl (any_of HT_.out (by kernel_rfl)) (fun _ _ _ h => h) (Or.inl ⟨by rfl, ?_⟩) ?_ ?_
      rotate_left
      · intro w'
        go_simp
        with_reducible rfl
      rotate_left
      · simp only [Act.put, List.setIfInBounds_toArray, List.set_cons_zero, List.set_cons_succ, i64_w, i32_w]
        rfl
      refine pure_ (i := 8) (N := some 41) (v := ?_) (a' := ?_) #[false, true, true, false, true, false, false, false, true, false, false, false] rfl rfl (any_of HT_.out (by kernel_rfl)) (fun _ _ _ h => h) (Or.inl ⟨by rfl, ?_⟩) ?_ ?_
      rotate_left
      · intro w'
        go_simp
        with_reducible rfl
      rotate_left
      · simp only [Act.put, List.setIfInBounds_toArray, List.set_cons_zero, List.set_cons_succ, i64_w, i32_w]
        rfl
      refine take_ (i := 0) (N := some 33) (v := ?_) (a' := ?_) #[true, true, true, false, true, false, false, false, true, false, false, false] rfl rfl (take_ofW HT_.out HW_.out (by kernel_rfl)) (fun _ _ _ h => h) (Or.inl ⟨by rfl, ?_⟩) hHeld ?_ ?_
      rotate_left
      · rintro w' ⟨s0, s1⟩
        go_simp
        with_reducible rfl
      rotate_left
      · simp only [Act.put, List.setIfInBounds_toArray, List.set_cons_zero, List.set_cons_succ, i64_w, i32_w]
        rfl
      refine one_ (i := 3) (N := some 36) #[true, true, true, true, true, false, false, false, true, false, false, false] rfl rfl (one_of HT_.out (by kernel_rfl)) (by decide) (fun K hK => ?_)
      refine goes_ Try.func60 (by kernel_rfl) rfl #[.pointer (some ⟨g174, 0, none⟩), .int .i64 9] (by rfl) rfl rfl (by (try simp only [List.map_toArray, List.map_cons, List.map_nil]); first | done | rfl | (simp only [List.length_drop, List.length_take]; rfl)) ?_
      with_reducible refine (spec_l1Next.calls g174 t172 t189 9 t217 t218 w _ ?side1 ?side2 A70.out).mono ?_
      (case side1 => repeat (first | (with_reducible first | exact HI174.out | apply IsS104.alloc | apply IsS104.drewN | apply IsS104.drew | apply IsS104.set_1 | refine IsS104.far ?_ NB174_171.out _ | refine IsS104.far ?_ NB174_180.out _) | exact HI174.out))
      (case side2 => repeat (first | (with_reducible first | exact HB.out | apply below_alloc | apply pw_below_drewN | apply below_drew1 | refine below_set ?_ (IsS104.ge HI174.out) | refine below_set ?_ GE171.out | refine below_set ?_ GE180.out) | exact HB.out))
      rintro e w87 ⟨rfl, hi, hb, hk⟩
      refine ⟨_, rfl, ?_⟩
      have n0_ := Aside0.mk (KeepBut.blk hk (g' := gb171) (o := .cells #[.int .i64 0, .slice none 0 0] 26 (0, 0)) (by (with_reducible repeat (first | refine blk_drewN ?_ _ | refine blk_drew ?_ | refine blk_alloc ?_ _)); exact BK171.out) NB171_174.out (by simp))
      have n1_ := Aside0.mk (Kd.Q_mono (Kd.Q_keep (IsS104.apartQ (show IsS104 w _ g174 t172 t189 from by repeat (first | (with_reducible first | exact HI174.out | apply IsS104.alloc | apply IsS104.drewN | apply IsS104.drew | apply IsS104.set_1 | refine IsS104.far ?_ NB174_171.out _ | refine IsS104.far ?_ NB174_180.out _) | exact HI174.out)) (by (with_reducible repeat (first | apply Kd.Q_alloc | apply Kd.Q_drewN | apply Kd.Q_drew)); exact HO178.out) (by decide)) hk (fun _ h => h.2)) (fun _ h => h.1))
      have n2_ := Aside0.mk (KeepBut.blk hk (g' := gb180) (o := .cells #[.int .i64 t175, .slice Ao80 t176.length co80] 26 (0, 0)) (by (with_reducible repeat (first | refine blk_drewN ?_ _ | refine blk_drew ?_ | refine blk_alloc ?_ _)); exact BK180.out) NB180_174.out (by simp))
      have n3_ := Aside0.mk (Kd.R_mono (Kd.R_keep (IsS104.apart (show IsS104 w _ g174 t172 t189 from by repeat (first | (with_reducible first | exact HI174.out | apply IsS104.alloc | apply IsS104.drewN | apply IsS104.drew | apply IsS104.set_1 | refine IsS104.far ?_ NB174_171.out _ | refine IsS104.far ?_ NB174_180.out _) | exact HI174.out)) (by (with_reducible repeat (first | apply Kd.R_alloc | apply Kd.R_drewN | apply Kd.R_drew)); exact HO187.out) (by decide)) hk (fun _ h => h.2)) (fun _ h => h.1))
      have n4_ := Aside0.mk (hb)
      have n5_ := Aside0.mk (hi)
      clear BK171
      clear HO178
      clear BK180
      clear HO187
      clear HB
      clear HI174
      have BK171 := n0_
      have HO178 := n1_
      have BK180 := n2_
      have HO187 := n3_
      have HB := n4_
      have HI174 := n5_
      clear n0_ n1_ n2_ n3_ n4_ n5_
      (try clear hb)
      (try clear hb2)
      (try clear hk)
      (try clear hi)
      refine hK.out _ _ ⟨(blk_cell BK180.out 0).trans rfl, (blk_cell BK180.out 1).trans rfl⟩ (fun hHeld => ?_)
      clear hK K
      refine norm_ (a' := ?_) ?_ ?_
      rotate_left
      · show Act.put _ (some 36) _ = _
        simp only [Act.put, List.setIfInBounds_toArray, List.set_cons_zero, List.set_cons_succ, i64_w, i32_w]
        rfl
      refine one_ (i := 5) (N := some 38) #[true, true, true, true, true, true, false, false, true, false, false, false] rfl rfl (one_of HT_.out (by kernel_rfl)) (by decide) (fun K hK => ?_)
      refine goes_ Try.func60 (by kernel_rfl) rfl #[.pointer (some ⟨g174, 0, none⟩), .int .i64 9] (by rfl) rfl rfl (by (try simp only [List.map_toArray, List.map_cons, List.map_nil]); first | done | rfl | (simp only [List.length_drop, List.length_take]; rfl)) ?_
      with_reducible refine (spec_l1Next.calls g174 t172 t218 9 t219 t220 w _ ?side1 ?side2 A71.out).mono ?_
      (case side1 => repeat (first | (with_reducible first | exact HI174.out | apply IsS104.alloc | apply IsS104.drewN | apply IsS104.drew | apply IsS104.set_1 | refine IsS104.far ?_ NB174_171.out _ | refine IsS104.far ?_ NB174_180.out _) | exact HI174.out))
      (case side2 => repeat (first | (with_reducible first | exact HB.out | apply below_alloc | apply pw_below_drewN | apply below_drew1 | refine below_set ?_ (IsS104.ge HI174.out) | refine below_set ?_ GE171.out | refine below_set ?_ GE180.out) | exact HB.out))
      rintro e w88 ⟨rfl, hi, hb, hk⟩
      refine ⟨_, rfl, ?_⟩
      have n0_ := Aside0.mk (KeepBut.blk hk (g' := gb171) (o := .cells #[.int .i64 0, .slice none 0 0] 26 (0, 0)) (by (with_reducible repeat (first | refine blk_drewN ?_ _ | refine blk_drew ?_ | refine blk_alloc ?_ _)); exact BK171.out) NB171_174.out (by simp))
      have n1_ := Aside0.mk (Kd.Q_mono (Kd.Q_keep (IsS104.apartQ (show IsS104 w _ g174 t172 t218 from by repeat (first | (with_reducible first | exact HI174.out | apply IsS104.alloc | apply IsS104.drewN | apply IsS104.drew | apply IsS104.set_1 | refine IsS104.far ?_ NB174_171.out _ | refine IsS104.far ?_ NB174_180.out _) | exact HI174.out)) (by (with_reducible repeat (first | apply Kd.Q_alloc | apply Kd.Q_drewN | apply Kd.Q_drew)); exact HO178.out) (by decide)) hk (fun _ h => h.2)) (fun _ h => h.1))
      have n2_ := Aside0.mk (KeepBut.blk hk (g' := gb180) (o := .cells #[.int .i64 t175, .slice Ao80 t176.length co80] 26 (0, 0)) (by (with_reducible repeat (first | refine blk_drewN ?_ _ | refine blk_drew ?_ | refine blk_alloc ?_ _)); exact BK180.out) NB180_174.out (by simp))
      have n3_ := Aside0.mk (Kd.R_mono (Kd.R_keep (IsS104.apart (show IsS104 w _ g174 t172 t218 from by repeat (first | (with_reducible first | exact HI174.out | apply IsS104.alloc | apply IsS104.drewN | apply IsS104.drew | apply IsS104.set_1 | refine IsS104.far ?_ NB174_171.out _ | refine IsS104.far ?_ NB174_180.out _) | exact HI174.out)) (by (with_reducible repeat (first | apply Kd.R_alloc | apply Kd.R_drewN | apply Kd.R_drew)); exact HO187.out) (by decide)) hk (fun _ h => h.2)) (fun _ h => h.1))
      have n4_ := Aside0.mk (hb)
      have n5_ := Aside0.mk (hi)
      clear BK171
      clear HO178
      clear BK180
      clear HO187
      clear HB
      clear HI174
      have BK171 := n0_
      have HO178 := n1_
      have BK180 := n2_
      have HO187 := n3_
      have HB := n4_
      have HI174 := n5_
      clear n0_ n1_ n2_ n3_ n4_ n5_
      (try clear hb)
      (try clear hb2)
      (try clear hk)
      (try clear hi)
      refine hK.out _ _ ⟨(blk_cell BK180.out 0).trans rfl, (blk_cell BK180.out 1).trans rfl⟩ (fun hHeld => ?_)
      clear hK K
      refine norm_ (a' := ?_) ?_ ?_
      rotate_left
      · show Act.put _ (some 38) _ = _
        simp only [Act.put, List.setIfInBounds_toArray, List.set_cons_zero, List.set_cons_succ, i64_w, i32_w]
        rfl
      refine one_ (i := 6) (N := some 39) #[true, true, true, true, true, true, true, false, true, false, false, false] rfl rfl (one_of HT_.out (by kernel_rfl)) (by decide) (fun K hK => ?_)
      refine Kd.R_lit_step (Kd.int .i64) _ 2 ?hg (N := 39) ?hd (xs := ([t217, t219, 1000, 1001, (-1)] : List Int)) (inner := [.int .i64 t217, .int .i64 t219, .int .i64 1000, .int .i64 1001, .int .i64 (-1)]) (ok := fun _ => True) (okp := fun _ => True) ?hr ?hp (fun _ hk => hk) trivial (Below.refl _ _) (Nat.le_refl _) (by simp) ?_; (case hd => rfl); (case hg => rfl); (case hr => first | (go_simp; done) | (go_simp; rfl)); (case hp => exact (Reps.one (show Kd.M (Kd.int .i64) _ _ _ t217 [.int .i64 t217] from rfl) (Reps.one (show Kd.M (Kd.int .i64) _ _ _ t219 [.int .i64 t219] from rfl) (Reps.one (show Kd.M (Kd.int .i64) _ _ _ 1000 [.int .i64 1000] from rfl) (Reps.one (show Kd.M (Kd.int .i64) _ _ _ 1001 [.int .i64 1001] from rfl) (Reps.one (show Kd.M (Kd.int .i64) _ _ _ (-1) [.int .i64 (-1)] from rfl) (Reps.none _ _)))))))
      intro v222 w89 ho90 hb hg_ hnew_
      clear hg_ hnew_
      (first | rw [← Ny221.out] at ho90 | (simp only [Int.reduceToNat] at ho90; rw [← Ny221.out] at ho90))
      have n0_ := Aside0.mk (Kd.Q_elder' (by (with_reducible repeat (first | apply Kd.Q_alloc | apply Kd.Q_drewN | apply Kd.Q_drew)); exact HO178.out) (Kd.R_base ho90) hb)
      have n1_ := Aside0.mk (Kd.R_elder' (by (with_reducible repeat (first | apply Kd.R_alloc | apply Kd.R_drewN | apply Kd.R_drew)); exact HO187.out) (Kd.R_base ho90) hb)
      have n2_ := Aside0.mk (Kd.R_lower (Kd.R_new' (Kd.R_new' ho90 (Kd.Q_lt (by (with_reducible repeat (first | apply Kd.Q_alloc | apply Kd.Q_drewN | apply Kd.Q_drew)); exact HO178.out))) (Kd.R_lt (by (with_reducible repeat (first | apply Kd.R_alloc | apply Kd.R_drewN | apply Kd.R_drew)); exact HO187.out))) (below_size (by repeat (first | (with_reducible first | exact HB.out | apply below_alloc | apply pw_below_drewN | apply below_drew1 | refine below_set ?_ (IsS104.ge HI174.out) | refine below_set ?_ GE171.out | refine below_set ?_ GE180.out) | exact HB.out))))
      have n3_ := Aside0.mk (blk_below (g := gb171) (o := .cells #[.int .i64 0, .slice none 0 0] 26 (0, 0)) (by (with_reducible repeat (first | refine blk_drewN ?_ _ | refine blk_drew ?_ | refine blk_alloc ?_ _)); exact BK171.out) hb)
      have n4_ := Aside0.mk (IsS104.below (by repeat (first | (with_reducible first | exact HI174.out | apply IsS104.alloc | apply IsS104.drewN | apply IsS104.drew | apply IsS104.set_1 | refine IsS104.far ?_ NB174_171.out _ | refine IsS104.far ?_ NB174_180.out _) | exact HI174.out)) hb)
      have n5_ := Aside0.mk (blk_below (g := gb180) (o := .cells #[.int .i64 t175, .slice Ao80 t176.length co80] 26 (0, 0)) (by (with_reducible repeat (first | refine blk_drewN ?_ _ | refine blk_drew ?_ | refine blk_alloc ?_ _)); exact BK180.out) hb)
      have n6_ := Aside0.mk (below_step (by repeat (first | (with_reducible first | exact HB.out | apply below_alloc | apply pw_below_drewN | apply below_drew1 | refine below_set ?_ (IsS104.ge HI174.out) | refine below_set ?_ GE171.out | refine below_set ?_ GE180.out) | exact HB.out)) hb)
      clear HO178
      clear HO187
      clear BK171
      clear HI174
      clear BK180
      clear HB
      have HO178 := n0_
      have HO187 := n1_
      have HO223 := n2_
      have BK171 := n3_
      have HI174 := n4_
      have BK180 := n5_
      have HB := n6_
      clear n0_ n1_ n2_ n3_ n4_ n5_ n6_
      clear hb ho90
      obtain ⟨Ao91, co91, eo91⟩ := Kd.R_slice HO223.out
      (first | subst eo91 | (injection eo91 with f1_ f2_ f3_; have f4_ := f1_.symm; have f5_ := f3_.symm; clear f1_ f2_ f3_; subst f4_; subst f5_))
      refine hK.out _ _ ⟨(blk_cell BK180.out 0).trans rfl, (blk_cell BK180.out 1).trans rfl⟩ (fun hHeld => ?_)
      clear hK K
      refine norm_ (a' := ?_) ?_ ?_
      rotate_left
      · show Act.put _ (some 39) _ = _
        simp only [Act.put, List.setIfInBounds_toArray, List.set_cons_zero, List.set_cons_succ, i64_w, i32_w]
        rfl
      refine one_ (i := 7) (N := some 40) #[true, true, true, true, true, true, true, true, true, false, false, false] rfl rfl (one_of HT_.out (by kernel_rfl)) (by decide) (fun K hK => ?_)
      refine goes_ Try.func61 (by kernel_rfl) rfl #[.pointer (some ⟨g174, 0, none⟩), .slice Ao91 y221.length co91] (by rfl) rfl rfl (by (try simp only [List.map_toArray, List.map_cons, List.map_nil]); first | done | rfl | (simp only [List.length_drop, List.length_take]; rfl)) ?_
      with_reducible refine (spec_l1Pick.calls g174 t172 t220 _ _ y221 t224 t225 w _ ?side1 ?side2 ?side3 ?side4 ?side5 A72.out).mono ?_
      (case side1 => repeat (first | (with_reducible first | exact HI174.out | apply IsS104.alloc | apply IsS104.drewN | apply IsS104.drew | apply IsS104.set_1 | refine IsS104.far ?_ NB174_171.out _ | refine IsS104.far ?_ NB174_180.out _) | exact HI174.out))
      (case side2 => repeat (first | (with_reducible first | exact HB.out | apply below_alloc | apply pw_below_drewN | apply below_drew1 | refine below_set ?_ (IsS104.ge HI174.out) | refine below_set ?_ GE171.out | refine below_set ?_ GE180.out) | exact HB.out))
      (case side3 => repeat (first | exact (Kd.R_reads' HO223.out).2.2 | (with_reducible refine Kd.C_alloc ?_ _) | (with_reducible refine Kd.C_drewN ?_ _) | (with_reducible refine Kd.C_drew ?_)))
      (case side4 => exact (Kd.R_reads' HO223.out).2.1)
      (case side5 => exact far_slice (IsS104.own_ne HI174.out HO223.out (by decide)))
      rintro e w92 ⟨rfl, hi, hb, hk⟩
      refine ⟨_, rfl, ?_⟩
      have n0_ := Aside0.mk (KeepBut.blk hk (g' := gb171) (o := .cells #[.int .i64 0, .slice none 0 0] 26 (0, 0)) (by (with_reducible repeat (first | refine blk_drewN ?_ _ | refine blk_drew ?_ | refine blk_alloc ?_ _)); exact BK171.out) NB171_174.out (by simp))
      have n1_ := Aside0.mk (Kd.Q_mono (Kd.Q_keep (IsS104.apartQ (show IsS104 w _ g174 t172 t220 from by repeat (first | (with_reducible first | exact HI174.out | apply IsS104.alloc | apply IsS104.drewN | apply IsS104.drew | apply IsS104.set_1 | refine IsS104.far ?_ NB174_171.out _ | refine IsS104.far ?_ NB174_180.out _) | exact HI174.out)) (by (with_reducible repeat (first | apply Kd.Q_alloc | apply Kd.Q_drewN | apply Kd.Q_drew)); exact HO178.out) (by decide)) hk (fun _ h => h.2)) (fun _ h => h.1))
      have n2_ := Aside0.mk (KeepBut.blk hk (g' := gb180) (o := .cells #[.int .i64 t175, .slice Ao80 t176.length co80] 26 (0, 0)) (by (with_reducible repeat (first | refine blk_drewN ?_ _ | refine blk_drew ?_ | refine blk_alloc ?_ _)); exact BK180.out) NB180_174.out (by simp))
      have n3_ := Aside0.mk (Kd.R_mono (Kd.R_keep (IsS104.apart (show IsS104 w _ g174 t172 t220 from by repeat (first | (with_reducible first | exact HI174.out | apply IsS104.alloc | apply IsS104.drewN | apply IsS104.drew | apply IsS104.set_1 | refine IsS104.far ?_ NB174_171.out _ | refine IsS104.far ?_ NB174_180.out _) | exact HI174.out)) (by (with_reducible repeat (first | apply Kd.R_alloc | apply Kd.R_drewN | apply Kd.R_drew)); exact HO187.out) (by decide)) hk (fun _ h => h.2)) (fun _ h => h.1))
      have n4_ := Aside0.mk (Kd.R_mono (Kd.R_keep (IsS104.apart (show IsS104 w _ g174 t172 t220 from by repeat (first | (with_reducible first | exact HI174.out | apply IsS104.alloc | apply IsS104.drewN | apply IsS104.drew | apply IsS104.set_1 | refine IsS104.far ?_ NB174_171.out _ | refine IsS104.far ?_ NB174_180.out _) | exact HI174.out)) (by (with_reducible repeat (first | apply Kd.R_alloc | apply Kd.R_drewN | apply Kd.R_drew)); exact HO223.out) (by decide)) hk (fun _ h => h.2)) (fun _ h => h.1))
      have n5_ := Aside0.mk (hb)
      have n6_ := Aside0.mk (hi)
      clear BK171
      clear HO178
      clear BK180
      clear HO187
      clear HO223
      clear HB
      clear HI174
      have BK171 := n0_
      have HO178 := n1_
      have BK180 := n2_
      have HO187 := n3_
      have HO223 := n4_
      have HB := n5_
      have HI174 := n6_
      clear n0_ n1_ n2_ n3_ n4_ n5_ n6_
      (try clear hb)
      (try clear hb2)
      (try clear hk)
      (try clear hi)
      refine hK.out _ _ ⟨(blk_cell BK180.out 0).trans rfl, (blk_cell BK180.out 1).trans rfl⟩ (fun hHeld => ?_)
      clear hK K
      refine norm_ (a' := ?_) ?_ ?_
      rotate_left
      · show Act.put _ (some 40) _ = _
        simp only [Act.put, List.setIfInBounds_toArray, List.set_cons_zero, List.set_cons_succ, i64_w, i32_w]
        rfl
      refine one_ (i := 9) (N := none) #[true, true, true, true, true, true, true, true, true, true, false, false] rfl rfl (one_of HT_.out (by kernel_rfl)) (by decide) (fun K hK => ?_)
      have hs93 : w92.cell? ⟨gb171, 0, none⟩ = some (.int .i64 0) := (blk_cell BK171.out 0).trans rfl
      have hfs93 := blk_frozen BK171.out 0
      have hns93_1 := NB180_171.out
      have hms93_1 := NB171_180.out
      have hs94 : w92.cell? ⟨gb171, 1, none⟩ = some (.slice none 0 0) := (blk_cell BK171.out 1).trans rfl
      have hfs94 := blk_frozen BK171.out 1
      have hns94_1 := NB180_171.out
      have hms94_1 := NB171_180.out
      refine skip_ (w1 := ?_) (by rfl) rfl ?_ ?_
      rotate_left
      · go_simp
        rfl
      refine hK.out _ _ ⟨((cell_far (p := ⟨gb171, _, none⟩) NB180_171.out _).trans (((cell_far (p := ⟨gb171, _, none⟩) NB180_171.out _).trans (hHeld.1)))), ((cell_far (p := ⟨gb171, _, none⟩) NB180_171.out _).trans (((cell_far (p := ⟨gb171, _, none⟩) NB180_171.out _).trans (hHeld.2))))⟩ (fun hHeld => ?_)
      clear hK K
      refine pure_ (i := 10) (N := some 3) (v := ?_) (a' := ?_) #[true, true, true, true, true, true, true, true, true, true, true, false] rfl rfl (any_of HT_.out (by kernel_rfl)) (fun _ _ _ h => h) (Or.inl ⟨by rfl, ?_⟩) ?_ ?_
      rotate_left
      · intro w'
        go_simp
        with_reducible rfl
      rotate_left
      · simp only [Act.put, List.setIfInBounds_toArray, List.set_cons_zero, List.set_cons_succ, i64_w, i32_w]
        rfl
      refine pure_ (i := 11) (N := some 4) (v := ?_) (a' := ?_) #[true, true, true, true, true, true, true, true, true, true, true, true] rfl rfl (any_of HT_.out (by kernel_rfl)) (fun _ _ _ h => h) (Or.inl ⟨by rfl, ?_⟩) ?_ ?_
      rotate_left
      · intro w'
        go_simp
        with_reducible rfl
      rotate_left
      · simp only [Act.put, List.setIfInBounds_toArray, List.set_cons_zero, List.set_cons_succ, i64_w, i32_w]
        rfl
      refine done_ (done_of HT_.out (by kernel_rfl)) ?_
      try go_wp2
      refine bodyPost_ret (results_ctt rfl _ _ gb171 26 #[.int .i64 t175, .slice Ao80 t176.length co80] (0, 0) _ rfl (by (with_reducible repeat (first | refine blk_drewN ?_ _ | refine blk_drew ?_ | refine blk_alloc ?_ _)); refine blk_put (cs := #[.int .i64 t175, .slice none 0 0]) ?_ 1 _ rfl; (with_reducible repeat (first | refine blk_drewN ?_ _ | refine blk_drew ?_ | refine blk_alloc ?_ _)); refine blk_put (cs := #[.int .i64 0, .slice none 0 0]) ?_ 0 _ rfl; (with_reducible repeat (first | refine blk_drewN ?_ _ | refine blk_drew ?_ | refine blk_alloc ?_ _)); exact BK171.out) Try.underlying26 rfl (by kernel_rfl)) rfl ?_
      exact ⟨_, _, by first | rfl | (simp [errW_none, errW_some] <;> rfl) | (simp [*, errW_none, errW_some] <;> rfl), by (with_reducible repeat (first | apply Kd.Q_alloc | apply Kd.Q_drewN | apply Kd.Q_drew)); exact Kd.Q_mono (Kd.Q_far (p := ⟨gb171, 1, none⟩) (Kd.Q_far (p := ⟨gb171, 0, none⟩) (Kd.Q_types HO178.out BK171.out (by decide)) (fun _ hk => hk.2) (.int .i64 t175)) (fun _ hk => hk.2) (.slice Ao80 t176.length co80)) (fun _ hk => hk.1.1.2), by (with_reducible repeat (first | apply Kd.R_alloc | apply Kd.R_drewN | apply Kd.R_drew)); exact Kd.R_mono (Kd.R_far (p := ⟨gb171, 1, none⟩) (Kd.R_far (p := ⟨gb171, 0, none⟩) (Kd.R_types HO187.out BK171.out (by decide)) (fun _ hk => hk.2) (.int .i64 t175)) (fun _ hk => hk.2) (.slice Ao80 t176.length co80)) (fun _ hk => hk.1.1.2), by repeat (first | (with_reducible first | exact HB.out | apply below_alloc | apply pw_below_drewN | apply below_drew1 | refine below_set ?_ (IsS104.ge HI174.out) | refine below_set ?_ GE171.out | refine below_set ?_ GE180.out) | exact HB.out)⟩

end Go.Proofs.Ytjbeehechclccab.PFnClocks
