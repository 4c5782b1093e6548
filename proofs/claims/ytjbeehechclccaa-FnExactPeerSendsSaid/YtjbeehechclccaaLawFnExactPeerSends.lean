/- The row of the law FnExactPeerSends: for every input it returns true and leaves its arguments as they were. Out of the printed walk and the pure statement; no condition beside the row's own. -/
import Derived.Test.YtjbeehechclccaaRows
import Derived.Test.YtjbeehechclccaaRFnExactPeerSends
import Derived.Test.YtjbeehechclccaaPFnExactPeerSendsx5
import Derived.Test.YtjbeehechclccaaPureFnExactPeerSends
import Derived.WalkKit
import Derived.ProofKit
import Derived.OpenShut
import Derived.ShutString
import Derived.ChangeOld
import Derived.Below
import Derived.SizedLaws
import Derived.Carry
import Derived.RowKit
namespace Go.Proofs.Ytjbeehechclccaa.fnExactPeerSends
open Go.ChangeShapes Go.WideShapes Go.ChangeAt Go.RowKit Go.Proofs.Ytjbeehechclccaa Go.Proofs.YtjbeehechclccaaW.PrintWords Go.Proofs.Ytjbeehechclccaa.PFnExactPeerSends
set_option linter.unusedVariables false
theorem own : ownKnob Try.prog.godebug = none := by kernel_rfl
theorem laidOut : laidOutB Try.prog = true := by kernel_rfl
set_option maxRecDepth 100000 in
set_option maxHeartbeats 1000000 in
theorem lifted (os : Os) (started : os.Started) (H : Type) (enc : TypeId × Value → H) :
    ReturnsInHanded {} Try.checked os 6 .any (Rows.fnExactPeerSendsSpec.pre6 enc Try.prog Try.f6 Rows.fnExactPeerSendsRow.domain false) (Rows.fnExactPeerSendsSpec.post enc Try.prog Try.f6 false true false false) := by
  refine returnsInHanded_of_change_sized (C := Try.checked) own started (by kernel_rfl) Try.func6
    (ChangeSpec.witness6 (enc := enc) (C := Try.checked) false ⟨#[], #[.agg #[.int .i64 0, .slice none 0 0, .int .i64 0, .slice none 0 0], .slice none 0 0], []⟩ 8 (by kernel_rfl) (by kernel_rfl) (by kernel_rfl) (by kernel_rfl)) ?_
  intro W base args ds gs before hval0 hW hcnd hsz0 _
  have hval : ∀ (j : Nat) t v, Try.f6.params[j]? = some t → args[j]? = some v → Value.okWide Try.prog W .any base t v := hval0
  have hW' := hW
  obtain ⟨p, q, hA0, hV, rfl, hfz, hnd⟩ := hW
  have hA : DataW.TrodAll enc Try.prog W 0 (fun _ => true) true Try.f6.params.toList args.toList ds p := hA0
  rw [Try.params6] at hA hval
  obtain ⟨v0, vs0, d0, ds0, p0, q0, hargs, rfl, rfl, h0, r0⟩ := trodAll_cons hA
  obtain ⟨v1, vs1, d1, ds1, p1, q1, rfl, rfl, rfl, h1, r1⟩ := trodAll_cons r0
  obtain ⟨rfl, rfl, rfl⟩ := trodAll_nil r1
  obtain rfl : args = #[v0, v1] := by cases args; simp_all
  obtain ⟨rfl, rfl⟩ := trodVars_none hV
  have k0 := h0
  have lt0 : ∀ x ∈ p0, x.block < W.heap.size := by obtain ⟨m, hm⟩ := k0; exact DataW.trod_lt m _ _ _ hm
  obtain ⟨cs0, rfl, _⟩ := okWide_struct Try.underlying50 (hval 0 50 v0 rfl rfl)
  obtain ⟨x0, hK0, w0⟩ := Rdr.rd_arg (P := Try.prog) (d := (Kd.pair (Kd.int .i64) (Kd.pair (Kd.slice 5 (Kd.int .u8)) (Kd.pair (Kd.int .i64) (Kd.slice 5 (Kd.int .u8)))))) (Rdr.rd_struct Try.underlying50 (by kernel_rfl) (Rdr.rdf_cons (Rdr.rd_int Try.underlying2 (by kernel_rfl)) rfl (Rdr.rdf_cons (Rdr.rd_slice Try.underlying48 (by kernel_rfl) (Rdr.rd_int Try.underlying5 (by kernel_rfl))) rfl (Rdr.rdf_cons (Rdr.rd_int Try.underlying2 (by kernel_rfl)) rfl (Rdr.rdf_one (Rdr.rd_slice Try.underlying48 (by kernel_rfl) (Rdr.rd_int Try.underlying5 (by kernel_rfl))) rfl))))) h0
  obtain ⟨a0_0, a0_1, a0_2, a0_3⟩ := x0
  obtain ⟨_, _, hcs0, rfl, ⟨_, _, rfl, ⟨A0_1, c0_1, rfl, hl0_1, hr0_1⟩, ⟨_, _, rfl, rfl, ⟨A0_3, c0_3, rfl, hl0_3, hr0_3⟩⟩⟩⟩ := hK0
  obtain rfl : cs0 = #[.int .i64 a0_0, .slice A0_1 a0_1.length c0_1, .int .i64 a0_2, .slice A0_3 a0_3.length c0_3] := by cases cs0; simpa [Value.cells] using hcs0
  obtain ⟨w0_0, w0_1, w0_2, w0_3⟩ := w0
  have k1 := h1
  have lt1 : ∀ x ∈ p1, x.block < W.heap.size := by obtain ⟨m, hm⟩ := k1; exact DataW.trod_lt m _ _ _ hm
  obtain ⟨B1, len1, cap1, rfl⟩ := okWide_slice Try.underlying48 (hval 1 48 v1 rfl rfl)
  obtain ⟨a1, hK1, w1⟩ := Rdr.rd_arg (P := Try.prog) (d := (Kd.slice 5 (Kd.int .u8))) (Rdr.rd_slice Try.underlying48 (by kernel_rfl) (Rdr.rd_int Try.underlying5 (by kernel_rfl))) h1
  obtain ⟨A1, c1, hcs1, hl1, hr1⟩ := hK1
  simp [Value.cells] at hcs1
  obtain ⟨rfl, rfl, rfl⟩ := hcs1
  clear hA0 hval0 hsz0
  obtain ⟨k, hP⟩ := Pure.FnExactPeerSends a0_0 a0_1 a0_2 a0_3 a1 w0_0 w0_1 w0_2 w0_3 w1
  refine (laws_FnExactPeerSends.calls k a0_0 _ _ a0_1 a0_2 _ _ a0_3 _ _ a1 W hr0_1 hl0_1 hr0_3 hl0_3 hr1 hl1 hP).mono fun e W' ⟨he, bel0⟩ => ?_
  have bel : Below W.heap.size W W' := by first | exact bel0 | exact bel0.below
  subst he
  exact ⟨_, rfl, _, _, _, [], _, [], hW', trodAll_mk1 (shut_bool Try.underlying4 _), (trodAll_cons_mk (Below.trod laidOut (by kernel_rfl) (of_decide_eq_true (by kernel_rfl)) k0 bel lt0) (trodAll_cons_mk (Below.trod laidOut (by kernel_rfl) (of_decide_eq_true (by kernel_rfl)) k1 bel lt1) trodAll_mk0)), rfl, bel.frame _, fun h => by cases h⟩
theorem over : Rows.fnExactPeerSendsRow.holds Try.pinned (OpenSpec.ofChange Rows.fnExactPeerSendsSpec) :=
  OpenClaim.holds_of_wide 6 Try.f6 rfl rfl rfl rfl rfl rfl rfl ⟨rfl, rfl, rfl, rfl, rfl⟩ rfl rfl rfl rfl rfl (by kernel_rfl) Try.func6 (by kernel_rfl)
    (of_decide_eq_true (by kernel_rfl)) (by unfold Func.isWrapper; first | (rw [if_pos (by decide +kernel)]; kernel_rfl) | (rw [if_neg (by decide +kernel)]; exact ⟨rfl, rfl⟩))
    (fun os started H enc _ => lifted os started H enc)
theorem proved : Rows.FnExactPeerSendsSaid := over
#print axioms proved
end Go.Proofs.Ytjbeehechclccaa.fnExactPeerSends
namespace Go.Proofs.Ytjbeehechclccaa
/-- The row, under a short name, for the claim. -/
theorem fnExactPeerSends_holds : Rows.FnExactPeerSendsSaid := fnExactPeerSends.proved
end Go.Proofs.Ytjbeehechclccaa
