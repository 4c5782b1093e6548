/-
  No cell of these rows narrows 'for every input' (looked for: loops, veiled, ifaces, maps, wideKeys, modest, calm, conditions, laid).
  DERIVED. THE GIVEN ROWS OF THIS SEAT. 6 by the template 'for every input the law returns true; each argument reads behind the call as it read before'; 0 by the template 'total and deterministic' (their statements: YtjbeehechclccadTotals.lean).
  GIVEN WITH THE SEED: the statements are not yours to turn. If you find one false, say at which input.
  Laid BY PROGRAM, IN A SANDBOX (cutbox-rows.mjs): the forced cells as the released guide's own fill.sh prints them over the translation ad6fd674114df5e5… (all of the seat's roots in one cut). By AI agents, Wed Nov 11 2026. No macro, syntax, notation, axiom, sorry.
-/
import Derived.Test.YtjbeehechclccadChecked
import GoSem.Claim
import GoSem.ClaimJoined
import GoSem.ClaimMapViews
import Derived.JoinedTies
import Derived.KernelRfl
namespace Go.Proofs.Ytjbeehechclccad
/- THE CELL 'sum', in the pinned program and in every row, IS THE sha256 OF THE DUMP (.gsa) THAT YtjbeehechclccadProg.lean LOADS. Nothing in Lean hashes anything: it is a label: what it is worth is what the hold of that sum in a sandbox is worth. -/
noncomputable def Try.pinned : Pinned := { name := "ytjbeehechclccad", sum := "ad6fd674114df5e568ec630194c48ac3ef3a38d6d0b13e71e66fdc516c649264", checked := Try.checked }
namespace Rows
def none {H : Type} : Left H := { results := [], args := [] }

/-- 'laws.FnExactSpreadNode': WHATEVER THE INPUT: true; the input reads as it did. -/
def fnExactSpreadNodeSpec : ChangeSpec := { name := "fnExactSpreadNode", fn := fun _ => fun
  | [d] => { results := [.lit (.bool true)], args := [d] }
  | _ => none }
def fnExactSpreadNodeRow : OpenClaim := { program := "ytjbeehechclccad", sum := "ad6fd674114df5e568ec630194c48ac3ef3a38d6d0b13e71e66fdc516c649264", func := "loop.example/g00263/laws.FnExactSpreadNode", spec := "fnExactSpreadNode", apart := false }
def FnExactSpreadNodeSaid : Prop := fnExactSpreadNodeRow.holds Try.pinned (OpenSpec.ofChange fnExactSpreadNodeSpec)

/-- ITS FALSE NEIGHBOUR: 'it returns false'. Refute it at one input. -/
def fnExactSpreadNodeWrong : ChangeSpec := { name := "fnExactSpreadNode", fn := fun _ => fun
  | [d] => { results := [.lit (.bool false)], args := [d] }
  | _ => none }
def FnExactSpreadNodeWrongFalsely : Prop := fnExactSpreadNodeRow.holds Try.pinned (OpenSpec.ofChange fnExactSpreadNodeWrong)

/-- 'laws.FnExactSyncNode': WHATEVER THE INPUT: true; the input reads as it did. -/
def fnExactSyncNodeSpec : ChangeSpec := { name := "fnExactSyncNode", fn := fun _ => fun
  | [d] => { results := [.lit (.bool true)], args := [d] }
  | _ => none }
def fnExactSyncNodeRow : OpenClaim := { program := "ytjbeehechclccad", sum := "ad6fd674114df5e568ec630194c48ac3ef3a38d6d0b13e71e66fdc516c649264", func := "loop.example/g00263/laws.FnExactSyncNode", spec := "fnExactSyncNode", apart := false }
def FnExactSyncNodeSaid : Prop := fnExactSyncNodeRow.holds Try.pinned (OpenSpec.ofChange fnExactSyncNodeSpec)

/-- ITS FALSE NEIGHBOUR: 'it returns false'. Refute it at one input. -/
def fnExactSyncNodeWrong : ChangeSpec := { name := "fnExactSyncNode", fn := fun _ => fun
  | [d] => { results := [.lit (.bool false)], args := [d] }
  | _ => none }
def FnExactSyncNodeWrongFalsely : Prop := fnExactSyncNodeRow.holds Try.pinned (OpenSpec.ofChange fnExactSyncNodeWrong)

/-- 'laws.FnCrashes': WHATEVER THE INPUT: true; the input reads as it did. -/
def fnCrashesSpec : ChangeSpec := { name := "fnCrashes", fn := fun _ => fun
  | [d] => { results := [.lit (.bool true)], args := [d] }
  | _ => none }
def fnCrashesRow : OpenClaim := { program := "ytjbeehechclccad", sum := "ad6fd674114df5e568ec630194c48ac3ef3a38d6d0b13e71e66fdc516c649264", func := "loop.example/g00263/laws.FnCrashes", spec := "fnCrashes", apart := false }
def FnCrashesSaid : Prop := fnCrashesRow.holds Try.pinned (OpenSpec.ofChange fnCrashesSpec)

/-- ITS FALSE NEIGHBOUR: 'it returns false'. Refute it at one input. -/
def fnCrashesWrong : ChangeSpec := { name := "fnCrashes", fn := fun _ => fun
  | [d] => { results := [.lit (.bool false)], args := [d] }
  | _ => none }
def FnCrashesWrongFalsely : Prop := fnCrashesRow.holds Try.pinned (OpenSpec.ofChange fnCrashesWrong)

/-- 'laws.FnJournals': WHATEVER THE INPUT: true; the input reads as it did. -/
def fnJournalsSpec : ChangeSpec := { name := "fnJournals", fn := fun _ => fun
  | [d] => { results := [.lit (.bool true)], args := [d] }
  | _ => none }
def fnJournalsRow : OpenClaim := { program := "ytjbeehechclccad", sum := "ad6fd674114df5e568ec630194c48ac3ef3a38d6d0b13e71e66fdc516c649264", func := "loop.example/g00263/laws.FnJournals", spec := "fnJournals", apart := false }
def FnJournalsSaid : Prop := fnJournalsRow.holds Try.pinned (OpenSpec.ofChange fnJournalsSpec)

/-- ITS FALSE NEIGHBOUR: 'it returns false'. Refute it at one input. -/
def fnJournalsWrong : ChangeSpec := { name := "fnJournals", fn := fun _ => fun
  | [d] => { results := [.lit (.bool false)], args := [d] }
  | _ => none }
def FnJournalsWrongFalsely : Prop := fnJournalsRow.holds Try.pinned (OpenSpec.ofChange fnJournalsWrong)

/-- 'laws.FnExactUpdateFault': WHATEVER THE INPUT: true; the input reads as it did. -/
def fnExactUpdateFaultSpec : ChangeSpec := { name := "fnExactUpdateFault", fn := fun _ => fun
  | [d] => { results := [.lit (.bool true)], args := [d] }
  | _ => none }
def fnExactUpdateFaultRow : OpenClaim := { program := "ytjbeehechclccad", sum := "ad6fd674114df5e568ec630194c48ac3ef3a38d6d0b13e71e66fdc516c649264", func := "loop.example/g00263/laws.FnExactUpdateFault", spec := "fnExactUpdateFault", unfollowed := true, recurses := true, apart := false }
def FnExactUpdateFaultSaid : Prop := fnExactUpdateFaultRow.holds Try.pinned (OpenSpec.ofChange fnExactUpdateFaultSpec)

/-- ITS FALSE NEIGHBOUR: 'it returns false'. Refute it at one input. -/
def fnExactUpdateFaultWrong : ChangeSpec := { name := "fnExactUpdateFault", fn := fun _ => fun
  | [d] => { results := [.lit (.bool false)], args := [d] }
  | _ => none }
def FnExactUpdateFaultWrongFalsely : Prop := fnExactUpdateFaultRow.holds Try.pinned (OpenSpec.ofChange fnExactUpdateFaultWrong)

/-- 'laws.FnExactMessageFault': WHATEVER THE INPUT: true; the input reads as it did. -/
def fnExactMessageFaultSpec : ChangeSpec := { name := "fnExactMessageFault", fn := fun _ => fun
  | [d] => { results := [.lit (.bool true)], args := [d] }
  | _ => none }
def fnExactMessageFaultRow : OpenClaim := { program := "ytjbeehechclccad", sum := "ad6fd674114df5e568ec630194c48ac3ef3a38d6d0b13e71e66fdc516c649264", func := "loop.example/g00263/laws.FnExactMessageFault", spec := "fnExactMessageFault", unfollowed := true, recurses := true, apart := false }
def FnExactMessageFaultSaid : Prop := fnExactMessageFaultRow.holds Try.pinned (OpenSpec.ofChange fnExactMessageFaultSpec)

/-- ITS FALSE NEIGHBOUR: 'it returns false'. Refute it at one input. -/
def fnExactMessageFaultWrong : ChangeSpec := { name := "fnExactMessageFault", fn := fun _ => fun
  | [d] => { results := [.lit (.bool false)], args := [d] }
  | _ => none }
def FnExactMessageFaultWrongFalsely : Prop := fnExactMessageFaultRow.holds Try.pinned (OpenSpec.ofChange fnExactMessageFaultWrong)

/- THE SECOND FORM. 'bulk': how many values and letters a reading holds, each counted each time it is reached (what is shared counts as often as it is met; a slice's spare places count too). A statement '..UptoSaid' is the law's where the arguments, and the package variables that the reading takes, are together of bulk at most 1048576: NARROWER than '..Said'. Prove '..Said' where nothing that the law and all that it calls make is longer than what came in: it says more and counts as full. Else prove '..UptoSaid'. A law counts once. -/
mutual
def uptoBulk {H : Type} : DataW H → Nat
  | .lit (.string bytes) => bytes.length + 1
  | .lit _ => 1
  | .nil => 1
  | .ptr d => uptoBulk d + 1
  | .slice elems spare => uptoBulkAll elems + uptoBulkAll spare + 1
  | .agg parts => uptoBulkAll parts + 1
  | .iface _ d => uptoBulk d + 1
  | .map entries => uptoBulkEntries entries + 1
  | .held _ => 1
def uptoBulkAll {H : Type} : List (DataW H) → Nat
  | [] => 0
  | d :: r => uptoBulk d + uptoBulkAll r
def uptoBulkEntries {H : Type} : List (Lit × DataW H) → Nat
  | [] => 0
  | x :: r => uptoBulkEntry x + uptoBulkEntries r
def uptoBulkEntry {H : Type} : Lit × DataW H → Nat
  | (.string bytes, d) => bytes.length + uptoBulk d + 1
  | (_, d) => uptoBulk d + 1
 end
def uptoSmall : (H : Type) → List (DataW H) → Bool := fun _ ds => decide (uptoBulkAll ds ≤ 1048576)
def OpenSpec.upto (s : _root_.Go.ChangeSpec) : _root_.Go.OpenSpec := { _root_.Go.OpenSpec.ofChange s with cond := some uptoSmall }

/-- 'laws.FnExactSpreadNode', WHERE WHAT IT READS IS OF BULK AT MOST 1048576: true; the input reads as it did. -/
def fnExactSpreadNodeUptoRow : OpenClaim := { program := "ytjbeehechclccad", sum := "ad6fd674114df5e568ec630194c48ac3ef3a38d6d0b13e71e66fdc516c649264", func := "loop.example/g00263/laws.FnExactSpreadNode", spec := "fnExactSpreadNode", apart := false, narrowed := true }
def FnExactSpreadNodeUptoSaid : Prop := fnExactSpreadNodeUptoRow.holds Try.pinned (OpenSpec.upto fnExactSpreadNodeSpec)

/-- 'laws.FnExactSyncNode', WHERE WHAT IT READS IS OF BULK AT MOST 1048576: true; the input reads as it did. -/
def fnExactSyncNodeUptoRow : OpenClaim := { program := "ytjbeehechclccad", sum := "ad6fd674114df5e568ec630194c48ac3ef3a38d6d0b13e71e66fdc516c649264", func := "loop.example/g00263/laws.FnExactSyncNode", spec := "fnExactSyncNode", apart := false, narrowed := true }
def FnExactSyncNodeUptoSaid : Prop := fnExactSyncNodeUptoRow.holds Try.pinned (OpenSpec.upto fnExactSyncNodeSpec)

/-- 'laws.FnCrashes', WHERE WHAT IT READS IS OF BULK AT MOST 1048576: true; the input reads as it did. -/
def fnCrashesUptoRow : OpenClaim := { program := "ytjbeehechclccad", sum := "ad6fd674114df5e568ec630194c48ac3ef3a38d6d0b13e71e66fdc516c649264", func := "loop.example/g00263/laws.FnCrashes", spec := "fnCrashes", apart := false, narrowed := true }
def FnCrashesUptoSaid : Prop := fnCrashesUptoRow.holds Try.pinned (OpenSpec.upto fnCrashesSpec)

/-- 'laws.FnJournals', WHERE WHAT IT READS IS OF BULK AT MOST 1048576: true; the input reads as it did. -/
def fnJournalsUptoRow : OpenClaim := { program := "ytjbeehechclccad", sum := "ad6fd674114df5e568ec630194c48ac3ef3a38d6d0b13e71e66fdc516c649264", func := "loop.example/g00263/laws.FnJournals", spec := "fnJournals", apart := false, narrowed := true }
def FnJournalsUptoSaid : Prop := fnJournalsUptoRow.holds Try.pinned (OpenSpec.upto fnJournalsSpec)

/-- 'laws.FnExactUpdateFault', WHERE WHAT IT READS IS OF BULK AT MOST 1048576: true; the input reads as it did. -/
def fnExactUpdateFaultUptoRow : OpenClaim := { program := "ytjbeehechclccad", sum := "ad6fd674114df5e568ec630194c48ac3ef3a38d6d0b13e71e66fdc516c649264", func := "loop.example/g00263/laws.FnExactUpdateFault", spec := "fnExactUpdateFault", unfollowed := true, recurses := true, apart := false, narrowed := true }
def FnExactUpdateFaultUptoSaid : Prop := fnExactUpdateFaultUptoRow.holds Try.pinned (OpenSpec.upto fnExactUpdateFaultSpec)

/-- 'laws.FnExactMessageFault', WHERE WHAT IT READS IS OF BULK AT MOST 1048576: true; the input reads as it did. -/
def fnExactMessageFaultUptoRow : OpenClaim := { program := "ytjbeehechclccad", sum := "ad6fd674114df5e568ec630194c48ac3ef3a38d6d0b13e71e66fdc516c649264", func := "loop.example/g00263/laws.FnExactMessageFault", spec := "fnExactMessageFault", unfollowed := true, recurses := true, apart := false, narrowed := true }
def FnExactMessageFaultUptoSaid : Prop := fnExactMessageFaultUptoRow.holds Try.pinned (OpenSpec.upto fnExactMessageFaultSpec)

end Rows
end Go.Proofs.Ytjbeehechclccad
