/-
  No cell of these rows narrows 'for every input' (looked for: loops, veiled, ifaces, maps, wideKeys, modest, calm, conditions, laid).
  DERIVED. THE GIVEN ROWS OF THIS SEAT. 6 by the template 'for every input the law returns true; each argument reads behind the call as it read before'; 0 by the template 'total and deterministic' (their statements: YtjbeehechclccaaTotals.lean).
  GIVEN WITH THE SEED: the statements are not yours to turn. If you find one false, say at which input.
  Laid BY PROGRAM, IN A SANDBOX (cutbox-rows.mjs): the forced cells as the released guide's own fill.sh prints them over the translation 953b9a4a72bb2ec4… (all of the seat's roots in one cut). By AI agents, Wed Nov 11 2026. No macro, syntax, notation, axiom, sorry.
-/
import Derived.Test.YtjbeehechclccaaChecked
import GoSem.Claim
import GoSem.ClaimJoined
import GoSem.ClaimMapViews
import Derived.JoinedTies
import Derived.KernelRfl
namespace Go.Proofs.Ytjbeehechclccaa
/- THE CELL 'sum', in the pinned program and in every row, IS THE sha256 OF THE DUMP (.gsa) THAT YtjbeehechclccaaProg.lean LOADS. Nothing in Lean hashes anything: it is a label: what it is worth is what the hold of that sum in a sandbox is worth. -/
noncomputable def Try.pinned : Pinned := { name := "ytjbeehechclccaa", sum := "953b9a4a72bb2ec493c3b8051915f593928714268260165e2db1a57b897aecba", checked := Try.checked }
namespace Rows
def none {H : Type} : Left H := { results := [], args := [] }

/-- 'laws.FnExactTakeLease': WHATEVER THE INPUT: true; the input reads as it did. -/
def fnExactTakeLeaseSpec : ChangeSpec := { name := "fnExactTakeLease", fn := fun _ => fun
  | [d1, d2] => { results := [.lit (.bool true)], args := [d1, d2] }
  | _ => none }
def fnExactTakeLeaseRow : OpenClaim := { program := "ytjbeehechclccaa", sum := "953b9a4a72bb2ec493c3b8051915f593928714268260165e2db1a57b897aecba", func := "loop.example/g00263/laws.FnExactTakeLease", spec := "fnExactTakeLease", apart := false }
def FnExactTakeLeaseSaid : Prop := fnExactTakeLeaseRow.holds Try.pinned (OpenSpec.ofChange fnExactTakeLeaseSpec)

/-- ITS FALSE NEIGHBOUR: 'it returns false'. Refute it at one input. -/
def fnExactTakeLeaseWrong : ChangeSpec := { name := "fnExactTakeLease", fn := fun _ => fun
  | [d1, d2] => { results := [.lit (.bool false)], args := [d1, d2] }
  | _ => none }
def FnExactTakeLeaseWrongFalsely : Prop := fnExactTakeLeaseRow.holds Try.pinned (OpenSpec.ofChange fnExactTakeLeaseWrong)

/-- 'laws.FnExactTickClock': WHATEVER THE INPUT: true; the input reads as it did. -/
def fnExactTickClockSpec : ChangeSpec := { name := "fnExactTickClock", fn := fun _ => fun
  | [d1, d2, d3] => { results := [.lit (.bool true)], args := [d1, d2, d3] }
  | _ => none }
def fnExactTickClockRow : OpenClaim := { program := "ytjbeehechclccaa", sum := "953b9a4a72bb2ec493c3b8051915f593928714268260165e2db1a57b897aecba", func := "loop.example/g00263/laws.FnExactTickClock", spec := "fnExactTickClock", apart := false }
def FnExactTickClockSaid : Prop := fnExactTickClockRow.holds Try.pinned (OpenSpec.ofChange fnExactTickClockSpec)

/-- ITS FALSE NEIGHBOUR: 'it returns false'. Refute it at one input. -/
def fnExactTickClockWrong : ChangeSpec := { name := "fnExactTickClock", fn := fun _ => fun
  | [d1, d2, d3] => { results := [.lit (.bool false)], args := [d1, d2, d3] }
  | _ => none }
def FnExactTickClockWrongFalsely : Prop := fnExactTickClockRow.holds Try.pinned (OpenSpec.ofChange fnExactTickClockWrong)

/-- 'laws.FnExactFenceWire': WHATEVER THE INPUT: true; the input reads as it did. -/
def fnExactFenceWireSpec : ChangeSpec := { name := "fnExactFenceWire", fn := fun _ => fun
  | [d1, d2] => { results := [.lit (.bool true)], args := [d1, d2] }
  | _ => none }
def fnExactFenceWireRow : OpenClaim := { program := "ytjbeehechclccaa", sum := "953b9a4a72bb2ec493c3b8051915f593928714268260165e2db1a57b897aecba", func := "loop.example/g00263/laws.FnExactFenceWire", spec := "fnExactFenceWire", apart := false }
def FnExactFenceWireSaid : Prop := fnExactFenceWireRow.holds Try.pinned (OpenSpec.ofChange fnExactFenceWireSpec)

/-- ITS FALSE NEIGHBOUR: 'it returns false'. Refute it at one input. -/
def fnExactFenceWireWrong : ChangeSpec := { name := "fnExactFenceWire", fn := fun _ => fun
  | [d1, d2] => { results := [.lit (.bool false)], args := [d1, d2] }
  | _ => none }
def FnExactFenceWireWrongFalsely : Prop := fnExactFenceWireRow.holds Try.pinned (OpenSpec.ofChange fnExactFenceWireWrong)

/-- 'laws.FnExactPeerSends': WHATEVER THE INPUT: true; the input reads as it did. -/
def fnExactPeerSendsSpec : ChangeSpec := { name := "fnExactPeerSends", fn := fun _ => fun
  | [d1, d2] => { results := [.lit (.bool true)], args := [d1, d2] }
  | _ => none }
def fnExactPeerSendsRow : OpenClaim := { program := "ytjbeehechclccaa", sum := "953b9a4a72bb2ec493c3b8051915f593928714268260165e2db1a57b897aecba", func := "loop.example/g00263/laws.FnExactPeerSends", spec := "fnExactPeerSends", apart := false }
def FnExactPeerSendsSaid : Prop := fnExactPeerSendsRow.holds Try.pinned (OpenSpec.ofChange fnExactPeerSendsSpec)

/-- ITS FALSE NEIGHBOUR: 'it returns false'. Refute it at one input. -/
def fnExactPeerSendsWrong : ChangeSpec := { name := "fnExactPeerSends", fn := fun _ => fun
  | [d1, d2] => { results := [.lit (.bool false)], args := [d1, d2] }
  | _ => none }
def FnExactPeerSendsWrongFalsely : Prop := fnExactPeerSendsRow.holds Try.pinned (OpenSpec.ofChange fnExactPeerSendsWrong)

/-- 'laws.FnExactAckInput': WHATEVER THE INPUT: true; the input reads as it did. -/
def fnExactAckInputSpec : ChangeSpec := { name := "fnExactAckInput", fn := fun _ => fun
  | [d1, d2, d3] => { results := [.lit (.bool true)], args := [d1, d2, d3] }
  | _ => none }
def fnExactAckInputRow : OpenClaim := { program := "ytjbeehechclccaa", sum := "953b9a4a72bb2ec493c3b8051915f593928714268260165e2db1a57b897aecba", func := "loop.example/g00263/laws.FnExactAckInput", spec := "fnExactAckInput", apart := false }
def FnExactAckInputSaid : Prop := fnExactAckInputRow.holds Try.pinned (OpenSpec.ofChange fnExactAckInputSpec)

/-- ITS FALSE NEIGHBOUR: 'it returns false'. Refute it at one input. -/
def fnExactAckInputWrong : ChangeSpec := { name := "fnExactAckInput", fn := fun _ => fun
  | [d1, d2, d3] => { results := [.lit (.bool false)], args := [d1, d2, d3] }
  | _ => none }
def FnExactAckInputWrongFalsely : Prop := fnExactAckInputRow.holds Try.pinned (OpenSpec.ofChange fnExactAckInputWrong)

/-- 'laws.FnExactTakeInput': WHATEVER THE INPUT: true; the input reads as it did. -/
def fnExactTakeInputSpec : ChangeSpec := { name := "fnExactTakeInput", fn := fun _ => fun
  | [d1, d2, d3, d4] => { results := [.lit (.bool true)], args := [d1, d2, d3, d4] }
  | _ => none }
def fnExactTakeInputRow : OpenClaim := { program := "ytjbeehechclccaa", sum := "953b9a4a72bb2ec493c3b8051915f593928714268260165e2db1a57b897aecba", func := "loop.example/g00263/laws.FnExactTakeInput", spec := "fnExactTakeInput", apart := false }
def FnExactTakeInputSaid : Prop := fnExactTakeInputRow.holds Try.pinned (OpenSpec.ofChange fnExactTakeInputSpec)

/-- ITS FALSE NEIGHBOUR: 'it returns false'. Refute it at one input. -/
def fnExactTakeInputWrong : ChangeSpec := { name := "fnExactTakeInput", fn := fun _ => fun
  | [d1, d2, d3, d4] => { results := [.lit (.bool false)], args := [d1, d2, d3, d4] }
  | _ => none }
def FnExactTakeInputWrongFalsely : Prop := fnExactTakeInputRow.holds Try.pinned (OpenSpec.ofChange fnExactTakeInputWrong)

/- THE SECOND FORM. 'bulk': how many values and letters a reading holds, each counted each time it is reached (what is shared counts as often as it is met; a slice's spare places count too). A statement '..UptoSaid' is the law's where the arguments, and the package variables that the reading takes, are together of bulk at most 1048576: NARROWER than '..Said'. Prove '..Said' where nothing that the law and all that it calls make is longer than what came in: it says more and counts as full. Else prove '..UptoSaid'. A law counts once. -/
mutual
def uptoBulk {H : Type} : DataW H → Nat
  | .lit (.string bytes) => bytes.length + 1
  | .lit _ => 1
  | .nil => 1
  | .ptr d => uptoBulk d + 1
  | .slice elems spare => uptoBulkAll elems + uptoBulkAll spare + 1
  | .agg parts => uptoBulkAll parts + 1
  | .iface _ d => uptoBulk d + 1
  | .map entries => uptoBulkEntries entries + 1
  | .held _ => 1
def uptoBulkAll {H : Type} : List (DataW H) → Nat
  | [] => 0
  | d :: r => uptoBulk d + uptoBulkAll r
def uptoBulkEntries {H : Type} : List (Lit × DataW H) → Nat
  | [] => 0
  | x :: r => uptoBulkEntry x + uptoBulkEntries r
def uptoBulkEntry {H : Type} : Lit × DataW H → Nat
  | (.string bytes, d) => bytes.length + uptoBulk d + 1
  | (_, d) => uptoBulk d + 1
 end
def uptoSmall : (H : Type) → List (DataW H) → Bool := fun _ ds => decide (uptoBulkAll ds ≤ 1048576)
def OpenSpec.upto (s : _root_.Go.ChangeSpec) : _root_.Go.OpenSpec := { _root_.Go.OpenSpec.ofChange s with cond := some uptoSmall }

/-- 'laws.FnExactTakeLease', WHERE WHAT IT READS IS OF BULK AT MOST 1048576: true; the input reads as it did. -/
def fnExactTakeLeaseUptoRow : OpenClaim := { program := "ytjbeehechclccaa", sum := "953b9a4a72bb2ec493c3b8051915f593928714268260165e2db1a57b897aecba", func := "loop.example/g00263/laws.FnExactTakeLease", spec := "fnExactTakeLease", apart := false, narrowed := true }
def FnExactTakeLeaseUptoSaid : Prop := fnExactTakeLeaseUptoRow.holds Try.pinned (OpenSpec.upto fnExactTakeLeaseSpec)

/-- 'laws.FnExactTickClock', WHERE WHAT IT READS IS OF BULK AT MOST 1048576: true; the input reads as it did. -/
def fnExactTickClockUptoRow : OpenClaim := { program := "ytjbeehechclccaa", sum := "953b9a4a72bb2ec493c3b8051915f593928714268260165e2db1a57b897aecba", func := "loop.example/g00263/laws.FnExactTickClock", spec := "fnExactTickClock", apart := false, narrowed := true }
def FnExactTickClockUptoSaid : Prop := fnExactTickClockUptoRow.holds Try.pinned (OpenSpec.upto fnExactTickClockSpec)

/-- 'laws.FnExactFenceWire', WHERE WHAT IT READS IS OF BULK AT MOST 1048576: true; the input reads as it did. -/
def fnExactFenceWireUptoRow : OpenClaim := { program := "ytjbeehechclccaa", sum := "953b9a4a72bb2ec493c3b8051915f593928714268260165e2db1a57b897aecba", func := "loop.example/g00263/laws.FnExactFenceWire", spec := "fnExactFenceWire", apart := false, narrowed := true }
def FnExactFenceWireUptoSaid : Prop := fnExactFenceWireUptoRow.holds Try.pinned (OpenSpec.upto fnExactFenceWireSpec)

/-- 'laws.FnExactPeerSends', WHERE WHAT IT READS IS OF BULK AT MOST 1048576: true; the input reads as it did. -/
def fnExactPeerSendsUptoRow : OpenClaim := { program := "ytjbeehechclccaa", sum := "953b9a4a72bb2ec493c3b8051915f593928714268260165e2db1a57b897aecba", func := "loop.example/g00263/laws.FnExactPeerSends", spec := "fnExactPeerSends", apart := false, narrowed := true }
def FnExactPeerSendsUptoSaid : Prop := fnExactPeerSendsUptoRow.holds Try.pinned (OpenSpec.upto fnExactPeerSendsSpec)

/-- 'laws.FnExactAckInput', WHERE WHAT IT READS IS OF BULK AT MOST 1048576: true; the input reads as it did. -/
def fnExactAckInputUptoRow : OpenClaim := { program := "ytjbeehechclccaa", sum := "953b9a4a72bb2ec493c3b8051915f593928714268260165e2db1a57b897aecba", func := "loop.example/g00263/laws.FnExactAckInput", spec := "fnExactAckInput", apart := false, narrowed := true }
def FnExactAckInputUptoSaid : Prop := fnExactAckInputUptoRow.holds Try.pinned (OpenSpec.upto fnExactAckInputSpec)

/-- 'laws.FnExactTakeInput', WHERE WHAT IT READS IS OF BULK AT MOST 1048576: true; the input reads as it did. -/
def fnExactTakeInputUptoRow : OpenClaim := { program := "ytjbeehechclccaa", sum := "953b9a4a72bb2ec493c3b8051915f593928714268260165e2db1a57b897aecba", func := "loop.example/g00263/laws.FnExactTakeInput", spec := "fnExactTakeInput", apart := false, narrowed := true }
def FnExactTakeInputUptoSaid : Prop := fnExactTakeInputUptoRow.holds Try.pinned (OpenSpec.upto fnExactTakeInputSpec)

end Rows
end Go.Proofs.Ytjbeehechclccaa
