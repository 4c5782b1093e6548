/-
  No cell of these rows narrows 'for every input' (looked for: loops, veiled, ifaces, maps, wideKeys, modest, calm, conditions, laid).
  DERIVED. THE GIVEN ROWS OF THIS SEAT. 6 by the template 'for every input the law returns true; each argument reads behind the call as it read before'; 0 by the template 'total and deterministic' (their statements: YtkeehgbjegdocaaTotals.lean).
  GIVEN WITH THE SEED: the statements are not yours to turn. If you find one false, say at which input.
  Laid BY PROGRAM, IN A SANDBOX (cutbox-rows.mjs): the forced cells as the released guide's own fill.sh prints them over the translation b51445bf315d162f… (all of the seat's roots in one cut). By AI agents, Wed Nov 11 2026. No macro, syntax, notation, axiom, sorry.
-/
import Derived.Test.YtkeehgbjegdocaaChecked
import GoSem.Claim
import GoSem.ClaimJoined
import GoSem.ClaimMapViews
import Derived.JoinedTies
import Derived.KernelRfl
namespace Go.Proofs.Ytkeehgbjegdocaa
/- THE CELL 'sum', in the pinned program and in every row, IS THE sha256 OF THE DUMP (.gsa) THAT YtkeehgbjegdocaaProg.lean LOADS. Nothing in Lean hashes anything: it is a label: what it is worth is what the hold of that sum in a sandbox is worth. -/
noncomputable def Try.pinned : Pinned := { name := "ytkeehgbjegdocaa", sum := "b51445bf315d162fead3df969b24d85f7351dee268e9788b33e97f8414e4479c", checked := Try.checked }
namespace Rows
def none {H : Type} : Left H := { results := [], args := [] }

/-- 'laws.FnExactLeaseFault': WHATEVER THE INPUT: true; the input reads as it did. -/
def fnExactLeaseFaultSpec : ChangeSpec := { name := "fnExactLeaseFault", fn := fun _ => fun
  | [d] => { results := [.lit (.bool true)], args := [d] }
  | _ => none }
def fnExactLeaseFaultRow : OpenClaim := { program := "ytkeehgbjegdocaa", sum := "b51445bf315d162fead3df969b24d85f7351dee268e9788b33e97f8414e4479c", func := "loop.example/g00263/laws.FnExactLeaseFault", spec := "fnExactLeaseFault", apart := false }
def FnExactLeaseFaultSaid : Prop := fnExactLeaseFaultRow.holds Try.pinned (OpenSpec.ofChange fnExactLeaseFaultSpec)

/-- ITS FALSE NEIGHBOUR: 'it returns false'. Refute it at one input. -/
def fnExactLeaseFaultWrong : ChangeSpec := { name := "fnExactLeaseFault", fn := fun _ => fun
  | [d] => { results := [.lit (.bool false)], args := [d] }
  | _ => none }
def FnExactLeaseFaultWrongFalsely : Prop := fnExactLeaseFaultRow.holds Try.pinned (OpenSpec.ofChange fnExactLeaseFaultWrong)

/-- 'laws.FnExactMayLead': WHATEVER THE INPUT: true; the input reads as it did. -/
def fnExactMayLeadSpec : ChangeSpec := { name := "fnExactMayLead", fn := fun _ => fun
  | [d1, d2] => { results := [.lit (.bool true)], args := [d1, d2] }
  | _ => none }
def fnExactMayLeadRow : OpenClaim := { program := "ytkeehgbjegdocaa", sum := "b51445bf315d162fead3df969b24d85f7351dee268e9788b33e97f8414e4479c", func := "loop.example/g00263/laws.FnExactMayLead", spec := "fnExactMayLead", apart := false }
def FnExactMayLeadSaid : Prop := fnExactMayLeadRow.holds Try.pinned (OpenSpec.ofChange fnExactMayLeadSpec)

/-- ITS FALSE NEIGHBOUR: 'it returns false'. Refute it at one input. -/
def fnExactMayLeadWrong : ChangeSpec := { name := "fnExactMayLead", fn := fun _ => fun
  | [d1, d2] => { results := [.lit (.bool false)], args := [d1, d2] }
  | _ => none }
def FnExactMayLeadWrongFalsely : Prop := fnExactMayLeadRow.holds Try.pinned (OpenSpec.ofChange fnExactMayLeadWrong)

/-- 'laws.FnExactMayTake': WHATEVER THE INPUT: true; the input reads as it did. -/
def fnExactMayTakeSpec : ChangeSpec := { name := "fnExactMayTake", fn := fun _ => fun
  | [d1, d2] => { results := [.lit (.bool true)], args := [d1, d2] }
  | _ => none }
def fnExactMayTakeRow : OpenClaim := { program := "ytkeehgbjegdocaa", sum := "b51445bf315d162fead3df969b24d85f7351dee268e9788b33e97f8414e4479c", func := "loop.example/g00263/laws.FnExactMayTake", spec := "fnExactMayTake", apart := false }
def FnExactMayTakeSaid : Prop := fnExactMayTakeRow.holds Try.pinned (OpenSpec.ofChange fnExactMayTakeSpec)

/-- ITS FALSE NEIGHBOUR: 'it returns false'. Refute it at one input. -/
def fnExactMayTakeWrong : ChangeSpec := { name := "fnExactMayTake", fn := fun _ => fun
  | [d1, d2] => { results := [.lit (.bool false)], args := [d1, d2] }
  | _ => none }
def FnExactMayTakeWrongFalsely : Prop := fnExactMayTakeRow.holds Try.pinned (OpenSpec.ofChange fnExactMayTakeWrong)

/-- 'laws.FnExactClockFault': WHATEVER THE INPUT: true; the input reads as it did. -/
def fnExactClockFaultSpec : ChangeSpec := { name := "fnExactClockFault", fn := fun _ => fun
  | [d] => { results := [.lit (.bool true)], args := [d] }
  | _ => none }
def fnExactClockFaultRow : OpenClaim := { program := "ytkeehgbjegdocaa", sum := "b51445bf315d162fead3df969b24d85f7351dee268e9788b33e97f8414e4479c", func := "loop.example/g00263/laws.FnExactClockFault", spec := "fnExactClockFault", apart := false }
def FnExactClockFaultSaid : Prop := fnExactClockFaultRow.holds Try.pinned (OpenSpec.ofChange fnExactClockFaultSpec)

/-- ITS FALSE NEIGHBOUR: 'it returns false'. Refute it at one input. -/
def fnExactClockFaultWrong : ChangeSpec := { name := "fnExactClockFault", fn := fun _ => fun
  | [d] => { results := [.lit (.bool false)], args := [d] }
  | _ => none }
def FnExactClockFaultWrongFalsely : Prop := fnExactClockFaultRow.holds Try.pinned (OpenSpec.ofChange fnExactClockFaultWrong)

/-- 'laws.FnExactGrantLease': WHATEVER THE INPUT: true; the input reads as it did. -/
def fnExactGrantLeaseSpec : ChangeSpec := { name := "fnExactGrantLease", fn := fun _ => fun
  | [d1, d2, d3] => { results := [.lit (.bool true)], args := [d1, d2, d3] }
  | _ => none }
def fnExactGrantLeaseRow : OpenClaim := { program := "ytkeehgbjegdocaa", sum := "b51445bf315d162fead3df969b24d85f7351dee268e9788b33e97f8414e4479c", func := "loop.example/g00263/laws.FnExactGrantLease", spec := "fnExactGrantLease", apart := false }
def FnExactGrantLeaseSaid : Prop := fnExactGrantLeaseRow.holds Try.pinned (OpenSpec.ofChange fnExactGrantLeaseSpec)

/-- ITS FALSE NEIGHBOUR: 'it returns false'. Refute it at one input. -/
def fnExactGrantLeaseWrong : ChangeSpec := { name := "fnExactGrantLease", fn := fun _ => fun
  | [d1, d2, d3] => { results := [.lit (.bool false)], args := [d1, d2, d3] }
  | _ => none }
def FnExactGrantLeaseWrongFalsely : Prop := fnExactGrantLeaseRow.holds Try.pinned (OpenSpec.ofChange fnExactGrantLeaseWrong)

/-- 'laws.FnExactWireFault': WHATEVER THE INPUT: true; the input reads as it did. -/
def fnExactWireFaultSpec : ChangeSpec := { name := "fnExactWireFault", fn := fun _ => fun
  | [d] => { results := [.lit (.bool true)], args := [d] }
  | _ => none }
def fnExactWireFaultRow : OpenClaim := { program := "ytkeehgbjegdocaa", sum := "b51445bf315d162fead3df969b24d85f7351dee268e9788b33e97f8414e4479c", func := "loop.example/g00263/laws.FnExactWireFault", spec := "fnExactWireFault", apart := false }
def FnExactWireFaultSaid : Prop := fnExactWireFaultRow.holds Try.pinned (OpenSpec.ofChange fnExactWireFaultSpec)

/-- ITS FALSE NEIGHBOUR: 'it returns false'. Refute it at one input. -/
def fnExactWireFaultWrong : ChangeSpec := { name := "fnExactWireFault", fn := fun _ => fun
  | [d] => { results := [.lit (.bool false)], args := [d] }
  | _ => none }
def FnExactWireFaultWrongFalsely : Prop := fnExactWireFaultRow.holds Try.pinned (OpenSpec.ofChange fnExactWireFaultWrong)

/- THE SECOND FORM. 'bulk': how many values and letters a reading holds, each counted each time it is reached (what is shared counts as often as it is met; a slice's spare places count too). A statement '..UptoSaid' is the law's where the arguments, and the package variables that the reading takes, are together of bulk at most 1048576: NARROWER than '..Said'. Prove '..Said' where nothing that the law and all that it calls make is longer than what came in: it says more and counts as full. Else prove '..UptoSaid'. A law counts once. -/
mutual
def uptoBulk {H : Type} : DataW H → Nat
  | .lit (.string bytes) => bytes.length + 1
  | .lit _ => 1
  | .nil => 1
  | .ptr d => uptoBulk d + 1
  | .slice elems spare => uptoBulkAll elems + uptoBulkAll spare + 1
  | .agg parts => uptoBulkAll parts + 1
  | .iface _ d => uptoBulk d + 1
  | .map entries => uptoBulkEntries entries + 1
  | .held _ => 1
def uptoBulkAll {H : Type} : List (DataW H) → Nat
  | [] => 0
  | d :: r => uptoBulk d + uptoBulkAll r
def uptoBulkEntries {H : Type} : List (Lit × DataW H) → Nat
  | [] => 0
  | x :: r => uptoBulkEntry x + uptoBulkEntries r
def uptoBulkEntry {H : Type} : Lit × DataW H → Nat
  | (.string bytes, d) => bytes.length + uptoBulk d + 1
  | (_, d) => uptoBulk d + 1
 end
def uptoSmall : (H : Type) → List (DataW H) → Bool := fun _ ds => decide (uptoBulkAll ds ≤ 1048576)
def OpenSpec.upto (s : _root_.Go.ChangeSpec) : _root_.Go.OpenSpec := { _root_.Go.OpenSpec.ofChange s with cond := some uptoSmall }

/-- 'laws.FnExactLeaseFault', WHERE WHAT IT READS IS OF BULK AT MOST 1048576: true; the input reads as it did. -/
def fnExactLeaseFaultUptoRow : OpenClaim := { program := "ytkeehgbjegdocaa", sum := "b51445bf315d162fead3df969b24d85f7351dee268e9788b33e97f8414e4479c", func := "loop.example/g00263/laws.FnExactLeaseFault", spec := "fnExactLeaseFault", apart := false, narrowed := true }
def FnExactLeaseFaultUptoSaid : Prop := fnExactLeaseFaultUptoRow.holds Try.pinned (OpenSpec.upto fnExactLeaseFaultSpec)

/-- 'laws.FnExactMayLead', WHERE WHAT IT READS IS OF BULK AT MOST 1048576: true; the input reads as it did. -/
def fnExactMayLeadUptoRow : OpenClaim := { program := "ytkeehgbjegdocaa", sum := "b51445bf315d162fead3df969b24d85f7351dee268e9788b33e97f8414e4479c", func := "loop.example/g00263/laws.FnExactMayLead", spec := "fnExactMayLead", apart := false, narrowed := true }
def FnExactMayLeadUptoSaid : Prop := fnExactMayLeadUptoRow.holds Try.pinned (OpenSpec.upto fnExactMayLeadSpec)

/-- 'laws.FnExactMayTake', WHERE WHAT IT READS IS OF BULK AT MOST 1048576: true; the input reads as it did. -/
def fnExactMayTakeUptoRow : OpenClaim := { program := "ytkeehgbjegdocaa", sum := "b51445bf315d162fead3df969b24d85f7351dee268e9788b33e97f8414e4479c", func := "loop.example/g00263/laws.FnExactMayTake", spec := "fnExactMayTake", apart := false, narrowed := true }
def FnExactMayTakeUptoSaid : Prop := fnExactMayTakeUptoRow.holds Try.pinned (OpenSpec.upto fnExactMayTakeSpec)

/-- 'laws.FnExactClockFault', WHERE WHAT IT READS IS OF BULK AT MOST 1048576: true; the input reads as it did. -/
def fnExactClockFaultUptoRow : OpenClaim := { program := "ytkeehgbjegdocaa", sum := "b51445bf315d162fead3df969b24d85f7351dee268e9788b33e97f8414e4479c", func := "loop.example/g00263/laws.FnExactClockFault", spec := "fnExactClockFault", apart := false, narrowed := true }
def FnExactClockFaultUptoSaid : Prop := fnExactClockFaultUptoRow.holds Try.pinned (OpenSpec.upto fnExactClockFaultSpec)

/-- 'laws.FnExactGrantLease', WHERE WHAT IT READS IS OF BULK AT MOST 1048576: true; the input reads as it did. -/
def fnExactGrantLeaseUptoRow : OpenClaim := { program := "ytkeehgbjegdocaa", sum := "b51445bf315d162fead3df969b24d85f7351dee268e9788b33e97f8414e4479c", func := "loop.example/g00263/laws.FnExactGrantLease", spec := "fnExactGrantLease", apart := false, narrowed := true }
def FnExactGrantLeaseUptoSaid : Prop := fnExactGrantLeaseUptoRow.holds Try.pinned (OpenSpec.upto fnExactGrantLeaseSpec)

/-- 'laws.FnExactWireFault', WHERE WHAT IT READS IS OF BULK AT MOST 1048576: true; the input reads as it did. -/
def fnExactWireFaultUptoRow : OpenClaim := { program := "ytkeehgbjegdocaa", sum := "b51445bf315d162fead3df969b24d85f7351dee268e9788b33e97f8414e4479c", func := "loop.example/g00263/laws.FnExactWireFault", spec := "fnExactWireFault", apart := false, narrowed := true }
def FnExactWireFaultUptoSaid : Prop := fnExactWireFaultUptoRow.holds Try.pinned (OpenSpec.upto fnExactWireFaultSpec)

end Rows
end Go.Proofs.Ytkeehgbjegdocaa
