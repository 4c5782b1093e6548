/- The row of the law FnLeases: for every input it returns true and leaves its arguments as they were. Out of the printed walk and the pure statement; no condition beside the row's own. -/
import Derived.Test.YtgfoifkkffffgabRows
import Derived.Test.YtgfoifkkffffgabRFnLeases
import Derived.Test.YtgfoifkkffffgabPFnLeasesx6
import Derived.Test.YtgfoifkkffffgabPureFnLeases
import Derived.WalkKit
import Derived.ProofKit
import Derived.OpenShut
import Derived.ShutString
import Derived.ChangeOld
import Derived.Below
import Derived.SizedLaws
import Derived.Carry
import Derived.RowKit
namespace Go.Proofs.Ytgfoifkkffffgab.fnLeases
open Go.ChangeShapes Go.WideShapes Go.ChangeAt Go.RowKit Go.Proofs.Ytgfoifkkffffgab Go.Proofs.YtgfoifkkffffgabW.PrintWords Go.Proofs.Ytgfoifkkffffgab.PFnLeases
set_option linter.unusedVariables false
theorem own : ownKnob Try.prog.godebug = none := by kernel_rfl
theorem laidOut : laidOutB Try.prog = true := by kernel_rfl
set_option maxRecDepth 100000 in
set_option maxHeartbeats 1000000 in
theorem lifted (os : Os) (started : os.Started) (H : Type) (enc : TypeId × Value → H) :
    ReturnsInHanded {} Try.checked os 8 .any (Rows.fnLeasesSpec.pre6 enc Try.prog Try.f8 Rows.fnLeasesRow.domain false) (Rows.fnLeasesSpec.post enc Try.prog Try.f8 false true false false) := by
  refine returnsInHanded_of_change_sized (C := Try.checked) own started (by kernel_rfl) Try.func8
    (ChangeSpec.witness6 (enc := enc) (C := Try.checked) false ⟨#[], #[.slice none 0 0], []⟩ 8 (by kernel_rfl) (by kernel_rfl) (by kernel_rfl) (by kernel_rfl)) ?_
  intro W base args ds gs before hval0 hW hcnd hsz0 _
  have hval : ∀ (j : Nat) t v, Try.f8.params[j]? = some t → args[j]? = some v → Value.okWide Try.prog W .any base t v := hval0
  have hW' := hW
  obtain ⟨p, q, hA0, hV, rfl, hfz, hnd⟩ := hW
  have hA : DataW.TrodAll enc Try.prog W 0 (fun _ => true) true Try.f8.params.toList args.toList ds p := hA0
  rw [Try.params8] at hA hval
  obtain ⟨v0, vs0, d0, ds0, p0, q0, hargs, rfl, rfl, h0, r0⟩ := trodAll_cons hA
  obtain ⟨rfl, rfl, rfl⟩ := trodAll_nil r0
  obtain rfl : args = #[v0] := by cases args; simp_all
  obtain ⟨rfl, rfl⟩ := trodVars_none hV
  have k0 := h0
  have lt0 : ∀ x ∈ p0, x.block < W.heap.size := by obtain ⟨m, hm⟩ := k0; exact DataW.trod_lt m _ _ _ hm
  obtain ⟨B0, len0, cap0, rfl⟩ := okWide_slice Try.underlying25 (hval 0 25 v0 rfl rfl)
  obtain ⟨a0, hK0, w0⟩ := Rdr.rd_arg (P := Try.prog) (d := (Kd.slice 5 (Kd.int .u8))) (Rdr.rd_slice Try.underlying25 (by kernel_rfl) (Rdr.rd_int Try.underlying5 (by kernel_rfl))) h0
  obtain ⟨A0, c0, hcs0, hl0, hr0⟩ := hK0
  simp [Value.cells] at hcs0
  obtain ⟨rfl, rfl, rfl⟩ := hcs0
  clear hA0 hval0 hsz0
  obtain ⟨k, hP⟩ := Pure.FnLeases a0 w0
  refine (laws_FnLeases.calls k _ _ a0 W hr0 hl0 hP).mono fun e W' ⟨he, bel0⟩ => ?_
  have bel : Below W.heap.size W W' := by first | exact bel0 | exact bel0.below
  subst he
  exact ⟨_, rfl, _, _, _, [], _, [], hW', trodAll_mk1 (shut_bool Try.underlying4 _), (trodAll_cons_mk (Below.trod laidOut (by kernel_rfl) (of_decide_eq_true (by kernel_rfl)) k0 bel lt0) trodAll_mk0), rfl, bel.frame _, fun h => by cases h⟩
theorem over : Rows.fnLeasesRow.holds Try.pinned (OpenSpec.ofChange Rows.fnLeasesSpec) :=
  OpenClaim.holds_of_wide 8 Try.f8 rfl rfl rfl rfl rfl rfl rfl ⟨rfl, rfl, rfl, rfl, rfl⟩ rfl rfl rfl rfl rfl (by kernel_rfl) Try.func8 (by kernel_rfl)
    (of_decide_eq_true (by kernel_rfl)) (by unfold Func.isWrapper; first | (rw [if_pos (by decide +kernel)]; kernel_rfl) | (rw [if_neg (by decide +kernel)]; exact ⟨rfl, rfl⟩))
    (fun os started H enc _ => lifted os started H enc)
theorem proved : Rows.FnLeasesSaid := over
#print axioms proved
end Go.Proofs.Ytgfoifkkffffgab.fnLeases
namespace Go.Proofs.Ytgfoifkkffffgab
/-- The row, under a short name, for the claim. -/
theorem fnLeases_holds : Rows.FnLeasesSaid := fnLeases.proved
end Go.Proofs.Ytgfoifkkffffgab
