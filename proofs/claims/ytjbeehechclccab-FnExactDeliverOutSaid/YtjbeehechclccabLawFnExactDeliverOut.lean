/- The row of the law FnExactDeliverOut: for every input it returns true and leaves its arguments as they were. Out of the printed walk and the pure statement; no condition beside the row's own. -/
import Derived.Test.YtjbeehechclccabRows
import Derived.Test.YtjbeehechclccabRFnExactDeliverOut
import Derived.Test.YtjbeehechclccabPFnExactDeliverOutx8
import Derived.Test.YtjbeehechclccabPureFnExactDeliverOut
import Derived.WalkKit
import Derived.ProofKit
import Derived.OpenShut
import Derived.ShutString
import Derived.ChangeOld
import Derived.Below
import Derived.SizedLaws
import Derived.Carry
import Derived.RowKit
namespace Go.Proofs.Ytjbeehechclccab.fnExactDeliverOut
open Go.ChangeShapes Go.WideShapes Go.ChangeAt Go.RowKit Go.Proofs.Ytjbeehechclccab Go.Proofs.YtjbeehechclccabW.PrintWords Go.Proofs.Ytjbeehechclccab.PFnExactDeliverOut
set_option linter.unusedVariables false
theorem own : ownKnob Try.prog.godebug = none := by kernel_rfl
theorem laidOut : laidOutB Try.prog = true := by kernel_rfl
set_option maxRecDepth 100000 in
set_option maxHeartbeats 1000000 in
theorem lifted (os : Os) (started : os.Started) (H : Type) (enc : TypeId × Value → H) :
    ReturnsInHanded {} Try.checked os 7 .any (Rows.fnExactDeliverOutSpec.pre6 enc Try.prog Try.f7 Rows.fnExactDeliverOutRow.domain false) (Rows.fnExactDeliverOutSpec.post enc Try.prog Try.f7 false true false false) := by
  refine returnsInHanded_of_change_sized (C := Try.checked) own started (by kernel_rfl) Try.func7
    (ChangeSpec.witness6 (enc := enc) (C := Try.checked) false ⟨#[], #[.agg #[.int .i64 0, .slice none 0 0, .int .i64 0, .slice none 0 0], .int .i64 0, .int .i64 0, .slice none 0 0], []⟩ 8 (by kernel_rfl) (by kernel_rfl) (by kernel_rfl) (by kernel_rfl)) ?_
  intro W base args ds gs before hval0 hW hcnd hsz0 _
  have hval : ∀ (j : Nat) t v, Try.f7.params[j]? = some t → args[j]? = some v → Value.okWide Try.prog W .any base t v := hval0
  have hW' := hW
  obtain ⟨p, q, hA0, hV, rfl, hfz, hnd⟩ := hW
  have hA : DataW.TrodAll enc Try.prog W 0 (fun _ => true) true Try.f7.params.toList args.toList ds p := hA0
  rw [Try.params7] at hA hval
  obtain ⟨v0, vs0, d0, ds0, p0, q0, hargs, rfl, rfl, h0, r0⟩ := trodAll_cons hA
  obtain ⟨v1, vs1, d1, ds1, p1, q1, rfl, rfl, rfl, h1, r1⟩ := trodAll_cons r0
  obtain ⟨v2, vs2, d2, ds2, p2, q2, rfl, rfl, rfl, h2, r2⟩ := trodAll_cons r1
  obtain ⟨v3, vs3, d3, ds3, p3, q3, rfl, rfl, rfl, h3, r3⟩ := trodAll_cons r2
  obtain ⟨rfl, rfl, rfl⟩ := trodAll_nil r3
  obtain rfl : args = #[v0, v1, v2, v3] := by cases args; simp_all
  obtain ⟨rfl, rfl⟩ := trodVars_none hV
  have k0 := h0
  have lt0 : ∀ x ∈ p0, x.block < W.heap.size := by obtain ⟨m, hm⟩ := k0; exact DataW.trod_lt m _ _ _ hm
  obtain ⟨cs0, rfl, _⟩ := okWide_struct Try.underlying60 (hval 0 60 v0 rfl rfl)
  obtain ⟨x0, hK0, w0⟩ := Rdr.rd_arg (P := Try.prog) (d := (Kd.pair (Kd.int .i64) (Kd.pair (Kd.slice 5 (Kd.int .u8)) (Kd.pair (Kd.int .i64) (Kd.slice 5 (Kd.int .u8)))))) (Rdr.rd_struct Try.underlying60 (by kernel_rfl) (Rdr.rdf_cons (Rdr.rd_int Try.underlying2 (by kernel_rfl)) rfl (Rdr.rdf_cons (Rdr.rd_slice Try.underlying22 (by kernel_rfl) (Rdr.rd_int Try.underlying5 (by kernel_rfl))) rfl (Rdr.rdf_cons (Rdr.rd_int Try.underlying2 (by kernel_rfl)) rfl (Rdr.rdf_one (Rdr.rd_slice Try.underlying22 (by kernel_rfl) (Rdr.rd_int Try.underlying5 (by kernel_rfl))) rfl))))) h0
  obtain ⟨a0_0, a0_1, a0_2, a0_3⟩ := x0
  obtain ⟨_, _, hcs0, rfl, ⟨_, _, rfl, ⟨A0_1, c0_1, rfl, hl0_1, hr0_1⟩, ⟨_, _, rfl, rfl, ⟨A0_3, c0_3, rfl, hl0_3, hr0_3⟩⟩⟩⟩ := hK0
  obtain rfl : cs0 = #[.int .i64 a0_0, .slice A0_1 a0_1.length c0_1, .int .i64 a0_2, .slice A0_3 a0_3.length c0_3] := by cases cs0; simpa [Value.cells] using hcs0
  obtain ⟨w0_0, w0_1, w0_2, w0_3⟩ := w0
  obtain ⟨a1, rfl, rfl, rfl, w1⟩ := open_int Try.underlying2 (hval 1 2 v1 rfl rfl) h1
  obtain ⟨a2, rfl, rfl, rfl, w2⟩ := open_int Try.underlying2 (hval 2 2 v2 rfl rfl) h2
  have k3 := h3
  have lt3 : ∀ x ∈ p3, x.block < W.heap.size := by obtain ⟨m, hm⟩ := k3; exact DataW.trod_lt m _ _ _ hm
  obtain ⟨B3, len3, cap3, rfl⟩ := okWide_slice Try.underlying22 (hval 3 22 v3 rfl rfl)
  obtain ⟨a3, hK3, w3⟩ := Rdr.rd_arg (P := Try.prog) (d := (Kd.slice 5 (Kd.int .u8))) (Rdr.rd_slice Try.underlying22 (by kernel_rfl) (Rdr.rd_int Try.underlying5 (by kernel_rfl))) h3
  obtain ⟨A3, c3, hcs3, hl3, hr3⟩ := hK3
  simp [Value.cells] at hcs3
  obtain ⟨rfl, rfl, rfl⟩ := hcs3
  clear hA0 hval0 hsz0
  obtain ⟨k, hP⟩ := Pure.FnExactDeliverOut a0_0 a0_1 a0_2 a0_3 a1 a2 a3 w0_0 w0_1 w0_2 w0_3 w1 w2 w3
  refine (laws_FnExactDeliverOut.calls k a0_0 _ _ a0_1 a0_2 _ _ a0_3 a1 a2 _ _ a3 W hr0_1 hl0_1 hr0_3 hl0_3 hr3 hl3 hP).mono fun e W' ⟨he, bel0⟩ => ?_
  have bel : Below W.heap.size W W' := by first | exact bel0 | exact bel0.below
  subst he
  exact ⟨_, rfl, _, _, _, [], _, [], hW', trodAll_mk1 (shut_bool Try.underlying4 _), (trodAll_cons_mk (Below.trod laidOut (by kernel_rfl) (of_decide_eq_true (by kernel_rfl)) k0 bel lt0) (trodAll_cons_mk (shut_int Try.underlying2 w1) (trodAll_cons_mk (shut_int Try.underlying2 w2) (trodAll_cons_mk (Below.trod laidOut (by kernel_rfl) (of_decide_eq_true (by kernel_rfl)) k3 bel lt3) trodAll_mk0)))), rfl, bel.frame _, fun h => by cases h⟩
theorem over : Rows.fnExactDeliverOutRow.holds Try.pinned (OpenSpec.ofChange Rows.fnExactDeliverOutSpec) :=
  OpenClaim.holds_of_wide 7 Try.f7 rfl rfl rfl rfl rfl rfl rfl ⟨rfl, rfl, rfl, rfl, rfl⟩ rfl rfl rfl rfl rfl (by kernel_rfl) Try.func7 (by kernel_rfl)
    (of_decide_eq_true (by kernel_rfl)) (by unfold Func.isWrapper; first | (rw [if_pos (by decide +kernel)]; kernel_rfl) | (rw [if_neg (by decide +kernel)]; exact ⟨rfl, rfl⟩))
    (fun os started H enc _ => lifted os started H enc)
theorem proved : Rows.FnExactDeliverOutSaid := over
#print axioms proved
end Go.Proofs.Ytjbeehechclccab.fnExactDeliverOut
namespace Go.Proofs.Ytjbeehechclccab
/-- The row, under a short name, for the claim. -/
theorem fnExactDeliverOut_holds : Rows.FnExactDeliverOutSaid := fnExactDeliverOut.proved
end Go.Proofs.Ytjbeehechclccab
