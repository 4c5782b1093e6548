/-
  No cell of these rows narrows 'for every input' (looked for: loops, veiled, ifaces, maps, wideKeys, modest, calm, conditions, laid).
  DERIVED. THE GIVEN ROWS OF THIS SEAT. 6 by the template 'for every input the law returns true; each argument reads behind the call as it read before'; 0 by the template 'total and deterministic' (their statements: YtgfoifkkffffgaaTotals.lean).
  GIVEN WITH THE SEED: the statements are not yours to turn. If you find one false, say at which input.
  Laid BY PROGRAM, IN A SANDBOX (cutbox-rows.mjs): the forced cells as the released guide's own fill.sh prints them over the translation f1243a4f60d9d253… (all of the seat's roots in one cut). By AI agents, Wed Nov 11 2026. No macro, syntax, notation, axiom, sorry.
-/
import Derived.Test.YtgfoifkkffffgaaChecked
import GoSem.Claim
import GoSem.ClaimJoined
import GoSem.ClaimMapViews
import Derived.JoinedTies
import Derived.KernelRfl
namespace Go.Proofs.Ytgfoifkkffffgaa
/- THE CELL 'sum', in the pinned program and in every row, IS THE sha256 OF THE DUMP (.gsa) THAT YtgfoifkkffffgaaProg.lean LOADS. Nothing in Lean hashes anything: it is a label: what it is worth is what the hold of that sum in a sandbox is worth. -/
noncomputable def Try.pinned : Pinned := { name := "ytgfoifkkffffgaa", sum := "f1243a4f60d9d2534f38e263c722bd5a8b75507854087e4a248a873c00c1e256", checked := Try.checked }
namespace Rows
def none {H : Type} : Left H := { results := [], args := [] }

/-- 'laws.FnExactNodeFault': WHATEVER THE INPUT: true; the input reads as it did. -/
def fnExactNodeFaultSpec : ChangeSpec := { name := "fnExactNodeFault", fn := fun _ => fun
  | [d] => { results := [.lit (.bool true)], args := [d] }
  | _ => none }
def fnExactNodeFaultRow : OpenClaim := { program := "ytgfoifkkffffgaa", sum := "f1243a4f60d9d2534f38e263c722bd5a8b75507854087e4a248a873c00c1e256", func := "loop.example/g00263/laws.FnExactNodeFault", spec := "fnExactNodeFault", apart := false }
def FnExactNodeFaultSaid : Prop := fnExactNodeFaultRow.holds Try.pinned (OpenSpec.ofChange fnExactNodeFaultSpec)

/-- ITS FALSE NEIGHBOUR: 'it returns false'. Refute it at one input. -/
def fnExactNodeFaultWrong : ChangeSpec := { name := "fnExactNodeFault", fn := fun _ => fun
  | [d] => { results := [.lit (.bool false)], args := [d] }
  | _ => none }
def FnExactNodeFaultWrongFalsely : Prop := fnExactNodeFaultRow.holds Try.pinned (OpenSpec.ofChange fnExactNodeFaultWrong)

/-- 'laws.FnExactNewNode': WHATEVER THE INPUT: true; the input reads as it did. -/
def fnExactNewNodeSpec : ChangeSpec := { name := "fnExactNewNode", fn := fun _ => fun
  | [d] => { results := [.lit (.bool true)], args := [d] }
  | _ => none }
def fnExactNewNodeRow : OpenClaim := { program := "ytgfoifkkffffgaa", sum := "f1243a4f60d9d2534f38e263c722bd5a8b75507854087e4a248a873c00c1e256", func := "loop.example/g00263/laws.FnExactNewNode", spec := "fnExactNewNode", apart := false }
def FnExactNewNodeSaid : Prop := fnExactNewNodeRow.holds Try.pinned (OpenSpec.ofChange fnExactNewNodeSpec)

/-- ITS FALSE NEIGHBOUR: 'it returns false'. Refute it at one input. -/
def fnExactNewNodeWrong : ChangeSpec := { name := "fnExactNewNode", fn := fun _ => fun
  | [d] => { results := [.lit (.bool false)], args := [d] }
  | _ => none }
def FnExactNewNodeWrongFalsely : Prop := fnExactNewNodeRow.holds Try.pinned (OpenSpec.ofChange fnExactNewNodeWrong)

/-- 'laws.FnExactMailFault': WHATEVER THE INPUT: true; the input reads as it did. -/
def fnExactMailFaultSpec : ChangeSpec := { name := "fnExactMailFault", fn := fun _ => fun
  | [d1, d2] => { results := [.lit (.bool true)], args := [d1, d2] }
  | _ => none }
def fnExactMailFaultRow : OpenClaim := { program := "ytgfoifkkffffgaa", sum := "f1243a4f60d9d2534f38e263c722bd5a8b75507854087e4a248a873c00c1e256", func := "loop.example/g00263/laws.FnExactMailFault", spec := "fnExactMailFault", apart := false }
def FnExactMailFaultSaid : Prop := fnExactMailFaultRow.holds Try.pinned (OpenSpec.ofChange fnExactMailFaultSpec)

/-- ITS FALSE NEIGHBOUR: 'it returns false'. Refute it at one input. -/
def fnExactMailFaultWrong : ChangeSpec := { name := "fnExactMailFault", fn := fun _ => fun
  | [d1, d2] => { results := [.lit (.bool false)], args := [d1, d2] }
  | _ => none }
def FnExactMailFaultWrongFalsely : Prop := fnExactMailFaultRow.holds Try.pinned (OpenSpec.ofChange fnExactMailFaultWrong)

/-- 'laws.FnExactRiseNode': WHATEVER THE INPUT: true; the input reads as it did. -/
def fnExactRiseNodeSpec : ChangeSpec := { name := "fnExactRiseNode", fn := fun _ => fun
  | [d] => { results := [.lit (.bool true)], args := [d] }
  | _ => none }
def fnExactRiseNodeRow : OpenClaim := { program := "ytgfoifkkffffgaa", sum := "f1243a4f60d9d2534f38e263c722bd5a8b75507854087e4a248a873c00c1e256", func := "loop.example/g00263/laws.FnExactRiseNode", spec := "fnExactRiseNode", apart := false }
def FnExactRiseNodeSaid : Prop := fnExactRiseNodeRow.holds Try.pinned (OpenSpec.ofChange fnExactRiseNodeSpec)

/-- ITS FALSE NEIGHBOUR: 'it returns false'. Refute it at one input. -/
def fnExactRiseNodeWrong : ChangeSpec := { name := "fnExactRiseNode", fn := fun _ => fun
  | [d] => { results := [.lit (.bool false)], args := [d] }
  | _ => none }
def FnExactRiseNodeWrongFalsely : Prop := fnExactRiseNodeRow.holds Try.pinned (OpenSpec.ofChange fnExactRiseNodeWrong)

/-- 'laws.FnExactCrashNode': WHATEVER THE INPUT: true; the input reads as it did. -/
def fnExactCrashNodeSpec : ChangeSpec := { name := "fnExactCrashNode", fn := fun _ => fun
  | [d1, d2] => { results := [.lit (.bool true)], args := [d1, d2] }
  | _ => none }
def fnExactCrashNodeRow : OpenClaim := { program := "ytgfoifkkffffgaa", sum := "f1243a4f60d9d2534f38e263c722bd5a8b75507854087e4a248a873c00c1e256", func := "loop.example/g00263/laws.FnExactCrashNode", spec := "fnExactCrashNode", apart := false }
def FnExactCrashNodeSaid : Prop := fnExactCrashNodeRow.holds Try.pinned (OpenSpec.ofChange fnExactCrashNodeSpec)

/-- ITS FALSE NEIGHBOUR: 'it returns false'. Refute it at one input. -/
def fnExactCrashNodeWrong : ChangeSpec := { name := "fnExactCrashNode", fn := fun _ => fun
  | [d1, d2] => { results := [.lit (.bool false)], args := [d1, d2] }
  | _ => none }
def FnExactCrashNodeWrongFalsely : Prop := fnExactCrashNodeRow.holds Try.pinned (OpenSpec.ofChange fnExactCrashNodeWrong)

/-- 'laws.FnExactLeadNode': WHATEVER THE INPUT: true; the input reads as it did. -/
def fnExactLeadNodeSpec : ChangeSpec := { name := "fnExactLeadNode", fn := fun _ => fun
  | [d1, d2] => { results := [.lit (.bool true)], args := [d1, d2] }
  | _ => none }
def fnExactLeadNodeRow : OpenClaim := { program := "ytgfoifkkffffgaa", sum := "f1243a4f60d9d2534f38e263c722bd5a8b75507854087e4a248a873c00c1e256", func := "loop.example/g00263/laws.FnExactLeadNode", spec := "fnExactLeadNode", apart := false }
def FnExactLeadNodeSaid : Prop := fnExactLeadNodeRow.holds Try.pinned (OpenSpec.ofChange fnExactLeadNodeSpec)

/-- ITS FALSE NEIGHBOUR: 'it returns false'. Refute it at one input. -/
def fnExactLeadNodeWrong : ChangeSpec := { name := "fnExactLeadNode", fn := fun _ => fun
  | [d1, d2] => { results := [.lit (.bool false)], args := [d1, d2] }
  | _ => none }
def FnExactLeadNodeWrongFalsely : Prop := fnExactLeadNodeRow.holds Try.pinned (OpenSpec.ofChange fnExactLeadNodeWrong)

/- THE SECOND FORM. 'bulk': how many values and letters a reading holds, each counted each time it is reached (what is shared counts as often as it is met; a slice's spare places count too). A statement '..UptoSaid' is the law's where the arguments, and the package variables that the reading takes, are together of bulk at most 1048576: NARROWER than '..Said'. Prove '..Said' where nothing that the law and all that it calls make is longer than what came in: it says more and counts as full. Else prove '..UptoSaid'. A law counts once. -/
mutual
def uptoBulk {H : Type} : DataW H → Nat
  | .lit (.string bytes) => bytes.length + 1
  | .lit _ => 1
  | .nil => 1
  | .ptr d => uptoBulk d + 1
  | .slice elems spare => uptoBulkAll elems + uptoBulkAll spare + 1
  | .agg parts => uptoBulkAll parts + 1
  | .iface _ d => uptoBulk d + 1
  | .map entries => uptoBulkEntries entries + 1
  | .held _ => 1
def uptoBulkAll {H : Type} : List (DataW H) → Nat
  | [] => 0
  | d :: r => uptoBulk d + uptoBulkAll r
def uptoBulkEntries {H : Type} : List (Lit × DataW H) → Nat
  | [] => 0
  | x :: r => uptoBulkEntry x + uptoBulkEntries r
def uptoBulkEntry {H : Type} : Lit × DataW H → Nat
  | (.string bytes, d) => bytes.length + uptoBulk d + 1
  | (_, d) => uptoBulk d + 1
 end
def uptoSmall : (H : Type) → List (DataW H) → Bool := fun _ ds => decide (uptoBulkAll ds ≤ 1048576)
def OpenSpec.upto (s : _root_.Go.ChangeSpec) : _root_.Go.OpenSpec := { _root_.Go.OpenSpec.ofChange s with cond := some uptoSmall }

/-- 'laws.FnExactNodeFault', WHERE WHAT IT READS IS OF BULK AT MOST 1048576: true; the input reads as it did. -/
def fnExactNodeFaultUptoRow : OpenClaim := { program := "ytgfoifkkffffgaa", sum := "f1243a4f60d9d2534f38e263c722bd5a8b75507854087e4a248a873c00c1e256", func := "loop.example/g00263/laws.FnExactNodeFault", spec := "fnExactNodeFault", apart := false, narrowed := true }
def FnExactNodeFaultUptoSaid : Prop := fnExactNodeFaultUptoRow.holds Try.pinned (OpenSpec.upto fnExactNodeFaultSpec)

/-- 'laws.FnExactNewNode', WHERE WHAT IT READS IS OF BULK AT MOST 1048576: true; the input reads as it did. -/
def fnExactNewNodeUptoRow : OpenClaim := { program := "ytgfoifkkffffgaa", sum := "f1243a4f60d9d2534f38e263c722bd5a8b75507854087e4a248a873c00c1e256", func := "loop.example/g00263/laws.FnExactNewNode", spec := "fnExactNewNode", apart := false, narrowed := true }
def FnExactNewNodeUptoSaid : Prop := fnExactNewNodeUptoRow.holds Try.pinned (OpenSpec.upto fnExactNewNodeSpec)

/-- 'laws.FnExactMailFault', WHERE WHAT IT READS IS OF BULK AT MOST 1048576: true; the input reads as it did. -/
def fnExactMailFaultUptoRow : OpenClaim := { program := "ytgfoifkkffffgaa", sum := "f1243a4f60d9d2534f38e263c722bd5a8b75507854087e4a248a873c00c1e256", func := "loop.example/g00263/laws.FnExactMailFault", spec := "fnExactMailFault", apart := false, narrowed := true }
def FnExactMailFaultUptoSaid : Prop := fnExactMailFaultUptoRow.holds Try.pinned (OpenSpec.upto fnExactMailFaultSpec)

/-- 'laws.FnExactRiseNode', WHERE WHAT IT READS IS OF BULK AT MOST 1048576: true; the input reads as it did. -/
def fnExactRiseNodeUptoRow : OpenClaim := { program := "ytgfoifkkffffgaa", sum := "f1243a4f60d9d2534f38e263c722bd5a8b75507854087e4a248a873c00c1e256", func := "loop.example/g00263/laws.FnExactRiseNode", spec := "fnExactRiseNode", apart := false, narrowed := true }
def FnExactRiseNodeUptoSaid : Prop := fnExactRiseNodeUptoRow.holds Try.pinned (OpenSpec.upto fnExactRiseNodeSpec)

/-- 'laws.FnExactCrashNode', WHERE WHAT IT READS IS OF BULK AT MOST 1048576: true; the input reads as it did. -/
def fnExactCrashNodeUptoRow : OpenClaim := { program := "ytgfoifkkffffgaa", sum := "f1243a4f60d9d2534f38e263c722bd5a8b75507854087e4a248a873c00c1e256", func := "loop.example/g00263/laws.FnExactCrashNode", spec := "fnExactCrashNode", apart := false, narrowed := true }
def FnExactCrashNodeUptoSaid : Prop := fnExactCrashNodeUptoRow.holds Try.pinned (OpenSpec.upto fnExactCrashNodeSpec)

/-- 'laws.FnExactLeadNode', WHERE WHAT IT READS IS OF BULK AT MOST 1048576: true; the input reads as it did. -/
def fnExactLeadNodeUptoRow : OpenClaim := { program := "ytgfoifkkffffgaa", sum := "f1243a4f60d9d2534f38e263c722bd5a8b75507854087e4a248a873c00c1e256", func := "loop.example/g00263/laws.FnExactLeadNode", spec := "fnExactLeadNode", apart := false, narrowed := true }
def FnExactLeadNodeUptoSaid : Prop := fnExactLeadNodeUptoRow.holds Try.pinned (OpenSpec.upto fnExactLeadNodeSpec)

end Rows
end Go.Proofs.Ytgfoifkkffffgaa
