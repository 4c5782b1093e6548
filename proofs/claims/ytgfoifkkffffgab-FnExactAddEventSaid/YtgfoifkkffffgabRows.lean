/-
  No cell of these rows narrows 'for every input' (looked for: loops, veiled, ifaces, maps, wideKeys, modest, calm, conditions, laid).
  DERIVED. THE GIVEN ROWS OF THIS SEAT. 6 by the template 'for every input the law returns true; each argument reads behind the call as it read before'; 0 by the template 'total and deterministic' (their statements: YtgfoifkkffffgabTotals.lean).
  GIVEN WITH THE SEED: the statements are not yours to turn. If you find one false, say at which input.
  Laid BY PROGRAM, IN A SANDBOX (cutbox-rows.mjs): the forced cells as the released guide's own fill.sh prints them over the translation 5e811e0db133c511… (all of the seat's roots in one cut). By AI agents, Wed Nov 11 2026. No macro, syntax, notation, axiom, sorry.
-/
import Derived.Test.YtgfoifkkffffgabChecked
import GoSem.Claim
import GoSem.ClaimJoined
import GoSem.ClaimMapViews
import Derived.JoinedTies
import Derived.KernelRfl
namespace Go.Proofs.Ytgfoifkkffffgab
/- THE CELL 'sum', in the pinned program and in every row, IS THE sha256 OF THE DUMP (.gsa) THAT YtgfoifkkffffgabProg.lean LOADS. Nothing in Lean hashes anything: it is a label: what it is worth is what the hold of that sum in a sandbox is worth. -/
noncomputable def Try.pinned : Pinned := { name := "ytgfoifkkffffgab", sum := "5e811e0db133c51161ee0097d44fd45f7c997c83b6a45076fc202016361c48e5", checked := Try.checked }
namespace Rows
def none {H : Type} : Left H := { results := [], args := [] }

/-- 'laws.FnExactAddEvent': WHATEVER THE INPUT: true; the input reads as it did. -/
def fnExactAddEventSpec : ChangeSpec := { name := "fnExactAddEvent", fn := fun _ => fun
  | [d1, d2] => { results := [.lit (.bool true)], args := [d1, d2] }
  | _ => none }
def fnExactAddEventRow : OpenClaim := { program := "ytgfoifkkffffgab", sum := "5e811e0db133c51161ee0097d44fd45f7c997c83b6a45076fc202016361c48e5", func := "loop.example/g00263/laws.FnExactAddEvent", spec := "fnExactAddEvent", apart := false }
def FnExactAddEventSaid : Prop := fnExactAddEventRow.holds Try.pinned (OpenSpec.ofChange fnExactAddEventSpec)

/-- ITS FALSE NEIGHBOUR: 'it returns false'. Refute it at one input. -/
def fnExactAddEventWrong : ChangeSpec := { name := "fnExactAddEvent", fn := fun _ => fun
  | [d1, d2] => { results := [.lit (.bool false)], args := [d1, d2] }
  | _ => none }
def FnExactAddEventWrongFalsely : Prop := fnExactAddEventRow.holds Try.pinned (OpenSpec.ofChange fnExactAddEventWrong)

/-- 'laws.FnExactSpreadNode': WHATEVER THE INPUT: true; the input reads as it did. -/
def fnExactSpreadNodeSpec : ChangeSpec := { name := "fnExactSpreadNode", fn := fun _ => fun
  | [d] => { results := [.lit (.bool true)], args := [d] }
  | _ => none }
def fnExactSpreadNodeRow : OpenClaim := { program := "ytgfoifkkffffgab", sum := "5e811e0db133c51161ee0097d44fd45f7c997c83b6a45076fc202016361c48e5", func := "loop.example/g00263/laws.FnExactSpreadNode", spec := "fnExactSpreadNode", apart := false }
def FnExactSpreadNodeSaid : Prop := fnExactSpreadNodeRow.holds Try.pinned (OpenSpec.ofChange fnExactSpreadNodeSpec)

/-- ITS FALSE NEIGHBOUR: 'it returns false'. Refute it at one input. -/
def fnExactSpreadNodeWrong : ChangeSpec := { name := "fnExactSpreadNode", fn := fun _ => fun
  | [d] => { results := [.lit (.bool false)], args := [d] }
  | _ => none }
def FnExactSpreadNodeWrongFalsely : Prop := fnExactSpreadNodeRow.holds Try.pinned (OpenSpec.ofChange fnExactSpreadNodeWrong)

/-- 'laws.FnExactSyncNode': WHATEVER THE INPUT: true; the input reads as it did. -/
def fnExactSyncNodeSpec : ChangeSpec := { name := "fnExactSyncNode", fn := fun _ => fun
  | [d] => { results := [.lit (.bool true)], args := [d] }
  | _ => none }
def fnExactSyncNodeRow : OpenClaim := { program := "ytgfoifkkffffgab", sum := "5e811e0db133c51161ee0097d44fd45f7c997c83b6a45076fc202016361c48e5", func := "loop.example/g00263/laws.FnExactSyncNode", spec := "fnExactSyncNode", apart := false }
def FnExactSyncNodeSaid : Prop := fnExactSyncNodeRow.holds Try.pinned (OpenSpec.ofChange fnExactSyncNodeSpec)

/-- ITS FALSE NEIGHBOUR: 'it returns false'. Refute it at one input. -/
def fnExactSyncNodeWrong : ChangeSpec := { name := "fnExactSyncNode", fn := fun _ => fun
  | [d] => { results := [.lit (.bool false)], args := [d] }
  | _ => none }
def FnExactSyncNodeWrongFalsely : Prop := fnExactSyncNodeRow.holds Try.pinned (OpenSpec.ofChange fnExactSyncNodeWrong)

/-- 'laws.FnCrashes': WHATEVER THE INPUT: true; the input reads as it did. -/
def fnCrashesSpec : ChangeSpec := { name := "fnCrashes", fn := fun _ => fun
  | [d] => { results := [.lit (.bool true)], args := [d] }
  | _ => none }
def fnCrashesRow : OpenClaim := { program := "ytgfoifkkffffgab", sum := "5e811e0db133c51161ee0097d44fd45f7c997c83b6a45076fc202016361c48e5", func := "loop.example/g00263/laws.FnCrashes", spec := "fnCrashes", apart := false }
def FnCrashesSaid : Prop := fnCrashesRow.holds Try.pinned (OpenSpec.ofChange fnCrashesSpec)

/-- ITS FALSE NEIGHBOUR: 'it returns false'. Refute it at one input. -/
def fnCrashesWrong : ChangeSpec := { name := "fnCrashes", fn := fun _ => fun
  | [d] => { results := [.lit (.bool false)], args := [d] }
  | _ => none }
def FnCrashesWrongFalsely : Prop := fnCrashesRow.holds Try.pinned (OpenSpec.ofChange fnCrashesWrong)

/-- 'laws.FnWires': WHATEVER THE INPUT: true; the input reads as it did. -/
def fnWiresSpec : ChangeSpec := { name := "fnWires", fn := fun _ => fun
  | [d] => { results := [.lit (.bool true)], args := [d] }
  | _ => none }
def fnWiresRow : OpenClaim := { program := "ytgfoifkkffffgab", sum := "5e811e0db133c51161ee0097d44fd45f7c997c83b6a45076fc202016361c48e5", func := "loop.example/g00263/laws.FnWires", spec := "fnWires", apart := false }
def FnWiresSaid : Prop := fnWiresRow.holds Try.pinned (OpenSpec.ofChange fnWiresSpec)

/-- ITS FALSE NEIGHBOUR: 'it returns false'. Refute it at one input. -/
def fnWiresWrong : ChangeSpec := { name := "fnWires", fn := fun _ => fun
  | [d] => { results := [.lit (.bool false)], args := [d] }
  | _ => none }
def FnWiresWrongFalsely : Prop := fnWiresRow.holds Try.pinned (OpenSpec.ofChange fnWiresWrong)

/-- 'laws.FnLeases': WHATEVER THE INPUT: true; the input reads as it did. -/
def fnLeasesSpec : ChangeSpec := { name := "fnLeases", fn := fun _ => fun
  | [d] => { results := [.lit (.bool true)], args := [d] }
  | _ => none }
def fnLeasesRow : OpenClaim := { program := "ytgfoifkkffffgab", sum := "5e811e0db133c51161ee0097d44fd45f7c997c83b6a45076fc202016361c48e5", func := "loop.example/g00263/laws.FnLeases", spec := "fnLeases", apart := false }
def FnLeasesSaid : Prop := fnLeasesRow.holds Try.pinned (OpenSpec.ofChange fnLeasesSpec)

/-- ITS FALSE NEIGHBOUR: 'it returns false'. Refute it at one input. -/
def fnLeasesWrong : ChangeSpec := { name := "fnLeases", fn := fun _ => fun
  | [d] => { results := [.lit (.bool false)], args := [d] }
  | _ => none }
def FnLeasesWrongFalsely : Prop := fnLeasesRow.holds Try.pinned (OpenSpec.ofChange fnLeasesWrong)

/- THE SECOND FORM. 'bulk': how many values and letters a reading holds, each counted each time it is reached (what is shared counts as often as it is met; a slice's spare places count too). A statement '..UptoSaid' is the law's where the arguments, and the package variables that the reading takes, are together of bulk at most 1048576: NARROWER than '..Said'. Prove '..Said' where nothing that the law and all that it calls make is longer than what came in: it says more and counts as full. Else prove '..UptoSaid'. A law counts once. -/
mutual
def uptoBulk {H : Type} : DataW H → Nat
  | .lit (.string bytes) => bytes.length + 1
  | .lit _ => 1
  | .nil => 1
  | .ptr d => uptoBulk d + 1
  | .slice elems spare => uptoBulkAll elems + uptoBulkAll spare + 1
  | .agg parts => uptoBulkAll parts + 1
  | .iface _ d => uptoBulk d + 1
  | .map entries => uptoBulkEntries entries + 1
  | .held _ => 1
def uptoBulkAll {H : Type} : List (DataW H) → Nat
  | [] => 0
  | d :: r => uptoBulk d + uptoBulkAll r
def uptoBulkEntries {H : Type} : List (Lit × DataW H) → Nat
  | [] => 0
  | x :: r => uptoBulkEntry x + uptoBulkEntries r
def uptoBulkEntry {H : Type} : Lit × DataW H → Nat
  | (.string bytes, d) => bytes.length + uptoBulk d + 1
  | (_, d) => uptoBulk d + 1
 end
def uptoSmall : (H : Type) → List (DataW H) → Bool := fun _ ds => decide (uptoBulkAll ds ≤ 1048576)
def OpenSpec.upto (s : _root_.Go.ChangeSpec) : _root_.Go.OpenSpec := { _root_.Go.OpenSpec.ofChange s with cond := some uptoSmall }

/-- 'laws.FnExactAddEvent', WHERE WHAT IT READS IS OF BULK AT MOST 1048576: true; the input reads as it did. -/
def fnExactAddEventUptoRow : OpenClaim := { program := "ytgfoifkkffffgab", sum := "5e811e0db133c51161ee0097d44fd45f7c997c83b6a45076fc202016361c48e5", func := "loop.example/g00263/laws.FnExactAddEvent", spec := "fnExactAddEvent", apart := false, narrowed := true }
def FnExactAddEventUptoSaid : Prop := fnExactAddEventUptoRow.holds Try.pinned (OpenSpec.upto fnExactAddEventSpec)

/-- 'laws.FnExactSpreadNode', WHERE WHAT IT READS IS OF BULK AT MOST 1048576: true; the input reads as it did. -/
def fnExactSpreadNodeUptoRow : OpenClaim := { program := "ytgfoifkkffffgab", sum := "5e811e0db133c51161ee0097d44fd45f7c997c83b6a45076fc202016361c48e5", func := "loop.example/g00263/laws.FnExactSpreadNode", spec := "fnExactSpreadNode", apart := false, narrowed := true }
def FnExactSpreadNodeUptoSaid : Prop := fnExactSpreadNodeUptoRow.holds Try.pinned (OpenSpec.upto fnExactSpreadNodeSpec)

/-- 'laws.FnExactSyncNode', WHERE WHAT IT READS IS OF BULK AT MOST 1048576: true; the input reads as it did. -/
def fnExactSyncNodeUptoRow : OpenClaim := { program := "ytgfoifkkffffgab", sum := "5e811e0db133c51161ee0097d44fd45f7c997c83b6a45076fc202016361c48e5", func := "loop.example/g00263/laws.FnExactSyncNode", spec := "fnExactSyncNode", apart := false, narrowed := true }
def FnExactSyncNodeUptoSaid : Prop := fnExactSyncNodeUptoRow.holds Try.pinned (OpenSpec.upto fnExactSyncNodeSpec)

/-- 'laws.FnCrashes', WHERE WHAT IT READS IS OF BULK AT MOST 1048576: true; the input reads as it did. -/
def fnCrashesUptoRow : OpenClaim := { program := "ytgfoifkkffffgab", sum := "5e811e0db133c51161ee0097d44fd45f7c997c83b6a45076fc202016361c48e5", func := "loop.example/g00263/laws.FnCrashes", spec := "fnCrashes", apart := false, narrowed := true }
def FnCrashesUptoSaid : Prop := fnCrashesUptoRow.holds Try.pinned (OpenSpec.upto fnCrashesSpec)

/-- 'laws.FnWires', WHERE WHAT IT READS IS OF BULK AT MOST 1048576: true; the input reads as it did. -/
def fnWiresUptoRow : OpenClaim := { program := "ytgfoifkkffffgab", sum := "5e811e0db133c51161ee0097d44fd45f7c997c83b6a45076fc202016361c48e5", func := "loop.example/g00263/laws.FnWires", spec := "fnWires", apart := false, narrowed := true }
def FnWiresUptoSaid : Prop := fnWiresUptoRow.holds Try.pinned (OpenSpec.upto fnWiresSpec)

/-- 'laws.FnLeases', WHERE WHAT IT READS IS OF BULK AT MOST 1048576: true; the input reads as it did. -/
def fnLeasesUptoRow : OpenClaim := { program := "ytgfoifkkffffgab", sum := "5e811e0db133c51161ee0097d44fd45f7c997c83b6a45076fc202016361c48e5", func := "loop.example/g00263/laws.FnLeases", spec := "fnLeases", apart := false, narrowed := true }
def FnLeasesUptoSaid : Prop := fnLeasesUptoRow.holds Try.pinned (OpenSpec.upto fnLeasesSpec)

end Rows
end Go.Proofs.Ytgfoifkkffffgab
