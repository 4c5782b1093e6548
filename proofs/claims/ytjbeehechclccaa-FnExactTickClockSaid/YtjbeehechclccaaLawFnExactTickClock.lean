/- The row of the law FnExactTickClock: for every input it returns true and leaves its arguments as they were. Out of the printed walk and the pure statement; no condition beside the row's own. -/
import Derived.Test.YtjbeehechclccaaRows
import Derived.Test.YtjbeehechclccaaRFnExactTickClock
import Derived.Test.YtjbeehechclccaaPFnExactTickClockx5
import Derived.Test.YtjbeehechclccaaPureFnExactTickClock
import Derived.WalkKit
import Derived.ProofKit
import Derived.OpenShut
import Derived.ShutString
import Derived.ChangeOld
import Derived.Below
import Derived.SizedLaws
import Derived.Carry
import Derived.RowKit
namespace Go.Proofs.Ytjbeehechclccaa.fnExactTickClock
open Go.ChangeShapes Go.WideShapes Go.ChangeAt Go.RowKit Go.Proofs.Ytjbeehechclccaa Go.Proofs.YtjbeehechclccaaW.PrintWords Go.Proofs.Ytjbeehechclccaa.PFnExactTickClock
set_option linter.unusedVariables false
theorem own : ownKnob Try.prog.godebug = none := by kernel_rfl
theorem laidOut : laidOutB Try.prog = true := by kernel_rfl
set_option maxRecDepth 100000 in
set_option maxHeartbeats 1000000 in
theorem lifted (os : Os) (started : os.Started) (H : Type) (enc : TypeId × Value → H) :
    ReturnsInHanded {} Try.checked os 4 .any (Rows.fnExactTickClockSpec.pre6 enc Try.prog Try.f4 Rows.fnExactTickClockRow.domain false) (Rows.fnExactTickClockSpec.post enc Try.prog Try.f4 false true false false) := by
  refine returnsInHanded_of_change_sized (C := Try.checked) own started (by kernel_rfl) Try.func4
    (ChangeSpec.witness6 (enc := enc) (C := Try.checked) false ⟨#[], #[.agg #[.int .i64 0, .slice none 0 0], .int .i64 0, .slice none 0 0], []⟩ 8 (by kernel_rfl) (by kernel_rfl) (by kernel_rfl) (by kernel_rfl)) ?_
  intro W base args ds gs before hval0 hW hcnd hsz0 _
  have hval : ∀ (j : Nat) t v, Try.f4.params[j]? = some t → args[j]? = some v → Value.okWide Try.prog W .any base t v := hval0
  have hW' := hW
  obtain ⟨p, q, hA0, hV, rfl, hfz, hnd⟩ := hW
  have hA : DataW.TrodAll enc Try.prog W 0 (fun _ => true) true Try.f4.params.toList args.toList ds p := hA0
  rw [Try.params4] at hA hval
  obtain ⟨v0, vs0, d0, ds0, p0, q0, hargs, rfl, rfl, h0, r0⟩ := trodAll_cons hA
  obtain ⟨v1, vs1, d1, ds1, p1, q1, rfl, rfl, rfl, h1, r1⟩ := trodAll_cons r0
  obtain ⟨v2, vs2, d2, ds2, p2, q2, rfl, rfl, rfl, h2, r2⟩ := trodAll_cons r1
  obtain ⟨rfl, rfl, rfl⟩ := trodAll_nil r2
  obtain rfl : args = #[v0, v1, v2] := by cases args; simp_all
  obtain ⟨rfl, rfl⟩ := trodVars_none hV
  have k0 := h0
  have lt0 : ∀ x ∈ p0, x.block < W.heap.size := by obtain ⟨m, hm⟩ := k0; exact DataW.trod_lt m _ _ _ hm
  obtain ⟨cs0, rfl, _⟩ := okWide_struct Try.underlying33 (hval 0 33 v0 rfl rfl)
  obtain ⟨x0, hK0, w0⟩ := Rdr.rd_arg (P := Try.prog) (d := (Kd.pair (Kd.int .i64) (Kd.slice 2 (Kd.int .i64)))) (Rdr.rd_struct Try.underlying33 (by kernel_rfl) (Rdr.rdf_cons (Rdr.rd_int Try.underlying2 (by kernel_rfl)) rfl (Rdr.rdf_one (Rdr.rd_slice Try.underlying31 (by kernel_rfl) (Rdr.rd_int Try.underlying2 (by kernel_rfl))) rfl))) h0
  obtain ⟨a0_0, a0_1⟩ := x0
  obtain ⟨_, _, hcs0, rfl, ⟨A0_1, c0_1, rfl, hl0_1, hr0_1⟩⟩ := hK0
  obtain rfl : cs0 = #[.int .i64 a0_0, .slice A0_1 a0_1.length c0_1] := by cases cs0; simpa [Value.cells] using hcs0
  obtain ⟨w0_0, w0_1⟩ := w0
  obtain ⟨a1, rfl, rfl, rfl, w1⟩ := open_int Try.underlying2 (hval 1 2 v1 rfl rfl) h1
  have k2 := h2
  have lt2 : ∀ x ∈ p2, x.block < W.heap.size := by obtain ⟨m, hm⟩ := k2; exact DataW.trod_lt m _ _ _ hm
  obtain ⟨B2, len2, cap2, rfl⟩ := okWide_slice Try.underlying31 (hval 2 31 v2 rfl rfl)
  obtain ⟨a2, hK2, w2⟩ := Rdr.rd_arg (P := Try.prog) (d := (Kd.slice 2 (Kd.int .i64))) (Rdr.rd_slice Try.underlying31 (by kernel_rfl) (Rdr.rd_int Try.underlying2 (by kernel_rfl))) h2
  obtain ⟨A2, c2, hcs2, hl2, hr2⟩ := hK2
  simp [Value.cells] at hcs2
  obtain ⟨rfl, rfl, rfl⟩ := hcs2
  clear hA0 hval0 hsz0
  obtain ⟨k, hP⟩ := Pure.FnExactTickClock a0_0 a0_1 a1 a2 w0_0 w0_1 w1 w2
  refine (laws_FnExactTickClock.calls k a0_0 _ _ a0_1 a1 _ _ a2 W hr0_1 hl0_1 hr2 hl2 hP).mono fun e W' ⟨he, bel0⟩ => ?_
  have bel : Below W.heap.size W W' := by first | exact bel0 | exact bel0.below
  subst he
  exact ⟨_, rfl, _, _, _, [], _, [], hW', trodAll_mk1 (shut_bool Try.underlying4 _), (trodAll_cons_mk (Below.trod laidOut (by kernel_rfl) (of_decide_eq_true (by kernel_rfl)) k0 bel lt0) (trodAll_cons_mk (shut_int Try.underlying2 w1) (trodAll_cons_mk (Below.trod laidOut (by kernel_rfl) (of_decide_eq_true (by kernel_rfl)) k2 bel lt2) trodAll_mk0))), rfl, bel.frame _, fun h => by cases h⟩
theorem over : Rows.fnExactTickClockRow.holds Try.pinned (OpenSpec.ofChange Rows.fnExactTickClockSpec) :=
  OpenClaim.holds_of_wide 4 Try.f4 rfl rfl rfl rfl rfl rfl rfl ⟨rfl, rfl, rfl, rfl, rfl⟩ rfl rfl rfl rfl rfl (by kernel_rfl) Try.func4 (by kernel_rfl)
    (of_decide_eq_true (by kernel_rfl)) (by unfold Func.isWrapper; first | (rw [if_pos (by decide +kernel)]; kernel_rfl) | (rw [if_neg (by decide +kernel)]; exact ⟨rfl, rfl⟩))
    (fun os started H enc _ => lifted os started H enc)
theorem proved : Rows.FnExactTickClockSaid := over
#print axioms proved
end Go.Proofs.Ytjbeehechclccaa.fnExactTickClock
namespace Go.Proofs.Ytjbeehechclccaa
/-- The row, under a short name, for the claim. -/
theorem fnExactTickClock_holds : Rows.FnExactTickClockSaid := fnExactTickClock.proved
end Go.Proofs.Ytjbeehechclccaa
