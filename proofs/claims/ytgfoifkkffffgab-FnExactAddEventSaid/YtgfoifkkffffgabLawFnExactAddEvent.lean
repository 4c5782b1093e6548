/- The row of the law FnExactAddEvent: for every input it returns true and leaves its arguments as they were. Out of the printed walk and the pure statement; no condition beside the row's own. -/
import Derived.Test.YtgfoifkkffffgabRows
import Derived.Test.YtgfoifkkffffgabRFnExactAddEvent
import Derived.Test.YtgfoifkkffffgabPFnExactAddEventx90
import Derived.Test.YtgfoifkkffffgabPureFnExactAddEvent
import Derived.WalkKit
import Derived.ProofKit
import Derived.OpenShut
import Derived.ShutString
import Derived.ChangeOld
import Derived.Below
import Derived.SizedLaws
import Derived.Carry
import Derived.RowKit
namespace Go.Proofs.Ytgfoifkkffffgab.fnExactAddEvent
open Go.ChangeShapes Go.WideShapes Go.ChangeAt Go.RowKit Go.Proofs.Ytgfoifkkffffgab Go.Proofs.YtgfoifkkffffgabW.PrintWords Go.Proofs.Ytgfoifkkffffgab.PFnExactAddEvent
set_option linter.unusedVariables false
theorem own : ownKnob Try.prog.godebug = none := by kernel_rfl
theorem laidOut : laidOutB Try.prog = true := by kernel_rfl
set_option maxRecDepth 100000 in
set_option maxHeartbeats 1000000 in
theorem lifted (os : Os) (started : os.Started) (H : Type) (enc : TypeId × Value → H) :
    ReturnsInHanded {} Try.checked os 3 .any (Rows.fnExactAddEventSpec.pre6 enc Try.prog Try.f3 Rows.fnExactAddEventRow.domain false) (Rows.fnExactAddEventSpec.post enc Try.prog Try.f3 false true false false) := by
  refine returnsInHanded_of_change_sized (C := Try.checked) own started (by kernel_rfl) Try.func3
    (ChangeSpec.witness6 (enc := enc) (C := Try.checked) false ⟨#[], #[.agg #[.int .i64 0, .bool false, .int .i64 0, .int .i64 0, .slice none 0 0, .int .i64 0, .int .i64 0, .int .i64 0, .int .i64 0], .agg #[.int .i64 0, .int .i64 0, .slice none 0 0]], []⟩ 8 (by kernel_rfl) (by kernel_rfl) (by kernel_rfl) (by kernel_rfl)) ?_
  intro W base args ds gs before hval0 hW hcnd hsz0 _
  have hval : ∀ (j : Nat) t v, Try.f3.params[j]? = some t → args[j]? = some v → Value.okWide Try.prog W .any base t v := hval0
  have hW' := hW
  obtain ⟨p, q, hA0, hV, rfl, hfz, hnd⟩ := hW
  have hA : DataW.TrodAll enc Try.prog W 0 (fun _ => true) true Try.f3.params.toList args.toList ds p := hA0
  rw [Try.params3] at hA hval
  obtain ⟨v0, vs0, d0, ds0, p0, q0, hargs, rfl, rfl, h0, r0⟩ := trodAll_cons hA
  obtain ⟨v1, vs1, d1, ds1, p1, q1, rfl, rfl, rfl, h1, r1⟩ := trodAll_cons r0
  obtain ⟨rfl, rfl, rfl⟩ := trodAll_nil r1
  obtain rfl : args = #[v0, v1] := by cases args; simp_all
  obtain ⟨rfl, rfl⟩ := trodVars_none hV
  have k0 := h0
  have lt0 : ∀ x ∈ p0, x.block < W.heap.size := by obtain ⟨m, hm⟩ := k0; exact DataW.trod_lt m _ _ _ hm
  obtain ⟨cs0, rfl, _⟩ := okWide_struct Try.underlying24 (hval 0 24 v0 rfl rfl)
  obtain ⟨x0, hK0, w0⟩ := Rdr.rd_arg (P := Try.prog) (d := (Kd.pair (Kd.int .i64) (Kd.pair Kd.bool (Kd.pair (Kd.int .i64) (Kd.pair (Kd.int .i64) (Kd.pair (Kd.slice 131 k131) (Kd.pair (Kd.int .i64) (Kd.pair (Kd.int .i64) (Kd.pair (Kd.int .i64) (Kd.int .i64)))))))))) (Rdr.rd_struct Try.underlying24 (by kernel_rfl) (Rdr.rdf_cons (Rdr.rd_int Try.underlying2 (by kernel_rfl)) rfl (Rdr.rdf_cons (Rdr.rd_bool Try.underlying4 (by kernel_rfl)) rfl (Rdr.rdf_cons (Rdr.rd_int Try.underlying2 (by kernel_rfl)) rfl (Rdr.rdf_cons (Rdr.rd_int Try.underlying2 (by kernel_rfl)) rfl (Rdr.rdf_cons (Rdr.rd_slice Try.underlying22 (by kernel_rfl) (Rdr.rd_iso (fun x : S131 => (x.f0, x.f1)) (fun p => ⟨p.1, p.2⟩) (fun _ => rfl) (Rdr.rd_struct Try.underlying131 (by kernel_rfl) (Rdr.rdf_cons (Rdr.rd_int Try.underlying2 (by kernel_rfl)) rfl (Rdr.rdf_one (Rdr.rd_iso (fun x : S27 => (x.f0, x.f1, x.f2)) (fun p => ⟨p.1, p.2.1, p.2.2⟩) (fun _ => rfl) (Rdr.rd_struct Try.underlying27 (by kernel_rfl) (Rdr.rdf_cons (Rdr.rd_int Try.underlying2 (by kernel_rfl)) rfl (Rdr.rdf_cons (Rdr.rd_int Try.underlying2 (by kernel_rfl)) rfl (Rdr.rdf_one (Rdr.rd_slice Try.underlying25 (by kernel_rfl) (Rdr.rd_int Try.underlying5 (by kernel_rfl))) rfl))))) rfl))))) rfl (Rdr.rdf_cons (Rdr.rd_int Try.underlying2 (by kernel_rfl)) rfl (Rdr.rdf_cons (Rdr.rd_int Try.underlying2 (by kernel_rfl)) rfl (Rdr.rdf_cons (Rdr.rd_int Try.underlying2 (by kernel_rfl)) rfl (Rdr.rdf_one (Rdr.rd_int Try.underlying2 (by kernel_rfl)) rfl)))))))))) h0
  obtain ⟨a0_0, a0_1, a0_2, a0_3, a0_4, a0_5, a0_6, a0_7, a0_8⟩ := x0
  obtain ⟨_, _, hcs0, rfl, ⟨_, _, rfl, rfl, ⟨_, _, rfl, rfl, ⟨_, _, rfl, rfl, ⟨_, _, rfl, ⟨A0_4, c0_4, rfl, hl0_4, hr0_4⟩, ⟨_, _, rfl, rfl, ⟨_, _, rfl, rfl, ⟨_, _, rfl, rfl, rfl⟩⟩⟩⟩⟩⟩⟩⟩ := hK0
  obtain rfl : cs0 = #[.int .i64 a0_0, .bool a0_1, .int .i64 a0_2, .int .i64 a0_3, .slice A0_4 a0_4.length c0_4, .int .i64 a0_5, .int .i64 a0_6, .int .i64 a0_7, .int .i64 a0_8] := by cases cs0; simpa [Value.cells] using hcs0
  obtain ⟨w0_0, _, w0_2, w0_3, w0_4, w0_5, w0_6, w0_7, w0_8⟩ := w0
  have k1 := h1
  have lt1 : ∀ x ∈ p1, x.block < W.heap.size := by obtain ⟨m, hm⟩ := k1; exact DataW.trod_lt m _ _ _ hm
  obtain ⟨cs1, rfl, _⟩ := okWide_struct Try.underlying27 (hval 1 27 v1 rfl rfl)
  obtain ⟨x1, hK1, w1⟩ := Rdr.rd_arg (P := Try.prog) (d := (Kd.pair (Kd.int .i64) (Kd.pair (Kd.int .i64) (Kd.slice 5 (Kd.int .u8))))) (Rdr.rd_struct Try.underlying27 (by kernel_rfl) (Rdr.rdf_cons (Rdr.rd_int Try.underlying2 (by kernel_rfl)) rfl (Rdr.rdf_cons (Rdr.rd_int Try.underlying2 (by kernel_rfl)) rfl (Rdr.rdf_one (Rdr.rd_slice Try.underlying25 (by kernel_rfl) (Rdr.rd_int Try.underlying5 (by kernel_rfl))) rfl)))) h1
  obtain ⟨a1_0, a1_1, a1_2⟩ := x1
  obtain ⟨_, _, hcs1, rfl, ⟨_, _, rfl, rfl, ⟨A1_2, c1_2, rfl, hl1_2, hr1_2⟩⟩⟩ := hK1
  obtain rfl : cs1 = #[.int .i64 a1_0, .int .i64 a1_1, .slice A1_2 a1_2.length c1_2] := by cases cs1; simpa [Value.cells] using hcs1
  obtain ⟨w1_0, w1_1, w1_2⟩ := w1
  clear hA0 hval0 hsz0
  obtain ⟨k, hP⟩ := Pure.FnExactAddEvent a0_0 a0_1 a0_2 a0_3 a0_4 a0_5 a0_6 a0_7 a0_8 a1_0 a1_1 a1_2 w0_0 w0_2 w0_3 w0_4 w0_5 w0_6 w0_7 w0_8 w1_0 w1_1 w1_2
  refine (laws_FnExactAddEvent.calls k a0_0 a0_1 a0_2 a0_3 _ _ a0_4 a0_5 a0_6 a0_7 a0_8 a1_0 a1_1 _ _ a1_2 W hr0_4 hl0_4 hr1_2 hl1_2 hP).mono fun e W' ⟨he, bel0⟩ => ?_
  have bel : Below W.heap.size W W' := by first | exact bel0 | exact bel0.below
  subst he
  exact ⟨_, rfl, _, _, _, [], _, [], hW', trodAll_mk1 (shut_bool Try.underlying4 _), (trodAll_cons_mk (Below.trod laidOut (by kernel_rfl) (of_decide_eq_true (by kernel_rfl)) k0 bel lt0) (trodAll_cons_mk (Below.trod laidOut (by kernel_rfl) (of_decide_eq_true (by kernel_rfl)) k1 bel lt1) trodAll_mk0)), rfl, bel.frame _, fun h => by cases h⟩
theorem over : Rows.fnExactAddEventRow.holds Try.pinned (OpenSpec.ofChange Rows.fnExactAddEventSpec) :=
  OpenClaim.holds_of_wide 3 Try.f3 rfl rfl rfl rfl rfl rfl rfl ⟨rfl, rfl, rfl, rfl, rfl⟩ rfl rfl rfl rfl rfl (by kernel_rfl) Try.func3 (by kernel_rfl)
    (of_decide_eq_true (by kernel_rfl)) (by unfold Func.isWrapper; first | (rw [if_pos (by decide +kernel)]; kernel_rfl) | (rw [if_neg (by decide +kernel)]; exact ⟨rfl, rfl⟩))
    (fun os started H enc _ => lifted os started H enc)
theorem proved : Rows.FnExactAddEventSaid := over
#print axioms proved
end Go.Proofs.Ytgfoifkkffffgab.fnExactAddEvent
namespace Go.Proofs.Ytgfoifkkffffgab
/-- The row, under a short name, for the claim. -/
theorem fnExactAddEvent_holds : Rows.FnExactAddEventSaid := fnExactAddEvent.proved
end Go.Proofs.Ytgfoifkkffffgab
