/-
  No cell of these rows narrows 'for every input' (looked for: loops, veiled, ifaces, maps, wideKeys, modest, calm, conditions, laid).
  DERIVED. THE GIVEN ROWS OF THIS SEAT. 6 by the template 'for every input the law returns true; each argument reads behind the call as it read before'; 0 by the template 'total and deterministic' (their statements: YtgfoifkkffffgacTotals.lean).
  GIVEN WITH THE SEED: the statements are not yours to turn. If you find one false, say at which input.
  Laid BY PROGRAM, IN A SANDBOX (cutbox-rows.mjs): the forced cells as the released guide's own fill.sh prints them over the translation a0bdf9f94f74933e… (all of the seat's roots in one cut). By AI agents, Wed Nov 11 2026. No macro, syntax, notation, axiom, sorry.
-/
import Derived.Test.YtgfoifkkffffgacChecked
import GoSem.Claim
import GoSem.ClaimJoined
import GoSem.ClaimMapViews
import Derived.JoinedTies
import Derived.KernelRfl
namespace Go.Proofs.Ytgfoifkkffffgac
/- THE CELL 'sum', in the pinned program and in every row, IS THE sha256 OF THE DUMP (.gsa) THAT YtgfoifkkffffgacProg.lean LOADS. Nothing in Lean hashes anything: it is a label: what it is worth is what the hold of that sum in a sandbox is worth. -/
noncomputable def Try.pinned : Pinned := { name := "ytgfoifkkffffgac", sum := "a0bdf9f94f74933e4ead2ab7a131a3fc04be2b51b4ee99a76c2ab7db532f190f", checked := Try.checked }
namespace Rows
def none {H : Type} : Left H := { results := [], args := [] }

/-- 'laws.FnExactPackMessage': WHATEVER THE INPUT: true; the input reads as it did. -/
def fnExactPackMessageSpec : ChangeSpec := { name := "fnExactPackMessage", fn := fun _ => fun
  | [d] => { results := [.lit (.bool true)], args := [d] }
  | _ => none }
def fnExactPackMessageRow : OpenClaim := { program := "ytgfoifkkffffgac", sum := "a0bdf9f94f74933e4ead2ab7a131a3fc04be2b51b4ee99a76c2ab7db532f190f", func := "loop.example/g00263/laws.FnExactPackMessage", spec := "fnExactPackMessage", unfollowed := true, recurses := true, apart := false }
def FnExactPackMessageSaid : Prop := fnExactPackMessageRow.holds Try.pinned (OpenSpec.ofChange fnExactPackMessageSpec)

/-- ITS FALSE NEIGHBOUR: 'it returns false'. Refute it at one input. -/
def fnExactPackMessageWrong : ChangeSpec := { name := "fnExactPackMessage", fn := fun _ => fun
  | [d] => { results := [.lit (.bool false)], args := [d] }
  | _ => none }
def FnExactPackMessageWrongFalsely : Prop := fnExactPackMessageRow.holds Try.pinned (OpenSpec.ofChange fnExactPackMessageWrong)

/-- 'laws.FnExactParseUpdate': WHATEVER THE INPUT: true; the input reads as it did. -/
def fnExactParseUpdateSpec : ChangeSpec := { name := "fnExactParseUpdate", fn := fun _ => fun
  | [d] => { results := [.lit (.bool true)], args := [d] }
  | _ => none }
def fnExactParseUpdateRow : OpenClaim := { program := "ytgfoifkkffffgac", sum := "a0bdf9f94f74933e4ead2ab7a131a3fc04be2b51b4ee99a76c2ab7db532f190f", func := "loop.example/g00263/laws.FnExactParseUpdate", spec := "fnExactParseUpdate", unfollowed := true, recurses := true, apart := false }
def FnExactParseUpdateSaid : Prop := fnExactParseUpdateRow.holds Try.pinned (OpenSpec.ofChange fnExactParseUpdateSpec)

/-- ITS FALSE NEIGHBOUR: 'it returns false'. Refute it at one input. -/
def fnExactParseUpdateWrong : ChangeSpec := { name := "fnExactParseUpdate", fn := fun _ => fun
  | [d] => { results := [.lit (.bool false)], args := [d] }
  | _ => none }
def FnExactParseUpdateWrongFalsely : Prop := fnExactParseUpdateRow.holds Try.pinned (OpenSpec.ofChange fnExactParseUpdateWrong)

/-- 'laws.FnUpdates': WHATEVER THE INPUT: true; the input reads as it did. -/
def fnUpdatesSpec : ChangeSpec := { name := "fnUpdates", fn := fun _ => fun
  | [d] => { results := [.lit (.bool true)], args := [d] }
  | _ => none }
def fnUpdatesRow : OpenClaim := { program := "ytgfoifkkffffgac", sum := "a0bdf9f94f74933e4ead2ab7a131a3fc04be2b51b4ee99a76c2ab7db532f190f", func := "loop.example/g00263/laws.FnUpdates", spec := "fnUpdates", unfollowed := true, recurses := true, apart := false }
def FnUpdatesSaid : Prop := fnUpdatesRow.holds Try.pinned (OpenSpec.ofChange fnUpdatesSpec)

/-- ITS FALSE NEIGHBOUR: 'it returns false'. Refute it at one input. -/
def fnUpdatesWrong : ChangeSpec := { name := "fnUpdates", fn := fun _ => fun
  | [d] => { results := [.lit (.bool false)], args := [d] }
  | _ => none }
def FnUpdatesWrongFalsely : Prop := fnUpdatesRow.holds Try.pinned (OpenSpec.ofChange fnUpdatesWrong)

/-- 'laws.FnExactParseMessage': WHATEVER THE INPUT: true; the input reads as it did. -/
def fnExactParseMessageSpec : ChangeSpec := { name := "fnExactParseMessage", fn := fun _ => fun
  | [d] => { results := [.lit (.bool true)], args := [d] }
  | _ => none }
def fnExactParseMessageRow : OpenClaim := { program := "ytgfoifkkffffgac", sum := "a0bdf9f94f74933e4ead2ab7a131a3fc04be2b51b4ee99a76c2ab7db532f190f", func := "loop.example/g00263/laws.FnExactParseMessage", spec := "fnExactParseMessage", unfollowed := true, recurses := true, apart := false }
def FnExactParseMessageSaid : Prop := fnExactParseMessageRow.holds Try.pinned (OpenSpec.ofChange fnExactParseMessageSpec)

/-- ITS FALSE NEIGHBOUR: 'it returns false'. Refute it at one input. -/
def fnExactParseMessageWrong : ChangeSpec := { name := "fnExactParseMessage", fn := fun _ => fun
  | [d] => { results := [.lit (.bool false)], args := [d] }
  | _ => none }
def FnExactParseMessageWrongFalsely : Prop := fnExactParseMessageRow.holds Try.pinned (OpenSpec.ofChange fnExactParseMessageWrong)

/-- 'laws.FnExactReadMessages': WHATEVER THE INPUT: true; the input reads as it did. -/
def fnExactReadMessagesSpec : ChangeSpec := { name := "fnExactReadMessages", fn := fun _ => fun
  | [d] => { results := [.lit (.bool true)], args := [d] }
  | _ => none }
def fnExactReadMessagesRow : OpenClaim := { program := "ytgfoifkkffffgac", sum := "a0bdf9f94f74933e4ead2ab7a131a3fc04be2b51b4ee99a76c2ab7db532f190f", func := "loop.example/g00263/laws.FnExactReadMessages", spec := "fnExactReadMessages", unfollowed := true, recurses := true, apart := false }
def FnExactReadMessagesSaid : Prop := fnExactReadMessagesRow.holds Try.pinned (OpenSpec.ofChange fnExactReadMessagesSpec)

/-- ITS FALSE NEIGHBOUR: 'it returns false'. Refute it at one input. -/
def fnExactReadMessagesWrong : ChangeSpec := { name := "fnExactReadMessages", fn := fun _ => fun
  | [d] => { results := [.lit (.bool false)], args := [d] }
  | _ => none }
def FnExactReadMessagesWrongFalsely : Prop := fnExactReadMessagesRow.holds Try.pinned (OpenSpec.ofChange fnExactReadMessagesWrong)

/-- 'laws.FnStreams': WHATEVER THE INPUT: true; the input reads as it did. -/
def fnStreamsSpec : ChangeSpec := { name := "fnStreams", fn := fun _ => fun
  | [d] => { results := [.lit (.bool true)], args := [d] }
  | _ => none }
def fnStreamsRow : OpenClaim := { program := "ytgfoifkkffffgac", sum := "a0bdf9f94f74933e4ead2ab7a131a3fc04be2b51b4ee99a76c2ab7db532f190f", func := "loop.example/g00263/laws.FnStreams", spec := "fnStreams", unfollowed := true, recurses := true, apart := false }
def FnStreamsSaid : Prop := fnStreamsRow.holds Try.pinned (OpenSpec.ofChange fnStreamsSpec)

/-- ITS FALSE NEIGHBOUR: 'it returns false'. Refute it at one input. -/
def fnStreamsWrong : ChangeSpec := { name := "fnStreams", fn := fun _ => fun
  | [d] => { results := [.lit (.bool false)], args := [d] }
  | _ => none }
def FnStreamsWrongFalsely : Prop := fnStreamsRow.holds Try.pinned (OpenSpec.ofChange fnStreamsWrong)

/- THE SECOND FORM. 'bulk': how many values and letters a reading holds, each counted each time it is reached (what is shared counts as often as it is met; a slice's spare places count too). A statement '..UptoSaid' is the law's where the arguments, and the package variables that the reading takes, are together of bulk at most 1048576: NARROWER than '..Said'. Prove '..Said' where nothing that the law and all that it calls make is longer than what came in: it says more and counts as full. Else prove '..UptoSaid'. A law counts once. -/
mutual
def uptoBulk {H : Type} : DataW H → Nat
  | .lit (.string bytes) => bytes.length + 1
  | .lit _ => 1
  | .nil => 1
  | .ptr d => uptoBulk d + 1
  | .slice elems spare => uptoBulkAll elems + uptoBulkAll spare + 1
  | .agg parts => uptoBulkAll parts + 1
  | .iface _ d => uptoBulk d + 1
  | .map entries => uptoBulkEntries entries + 1
  | .held _ => 1
def uptoBulkAll {H : Type} : List (DataW H) → Nat
  | [] => 0
  | d :: r => uptoBulk d + uptoBulkAll r
def uptoBulkEntries {H : Type} : List (Lit × DataW H) → Nat
  | [] => 0
  | x :: r => uptoBulkEntry x + uptoBulkEntries r
def uptoBulkEntry {H : Type} : Lit × DataW H → Nat
  | (.string bytes, d) => bytes.length + uptoBulk d + 1
  | (_, d) => uptoBulk d + 1
 end
def uptoSmall : (H : Type) → List (DataW H) → Bool := fun _ ds => decide (uptoBulkAll ds ≤ 1048576)
def OpenSpec.upto (s : _root_.Go.ChangeSpec) : _root_.Go.OpenSpec := { _root_.Go.OpenSpec.ofChange s with cond := some uptoSmall }

/-- 'laws.FnExactPackMessage', WHERE WHAT IT READS IS OF BULK AT MOST 1048576: true; the input reads as it did. -/
def fnExactPackMessageUptoRow : OpenClaim := { program := "ytgfoifkkffffgac", sum := "a0bdf9f94f74933e4ead2ab7a131a3fc04be2b51b4ee99a76c2ab7db532f190f", func := "loop.example/g00263/laws.FnExactPackMessage", spec := "fnExactPackMessage", unfollowed := true, recurses := true, apart := false, narrowed := true }
def FnExactPackMessageUptoSaid : Prop := fnExactPackMessageUptoRow.holds Try.pinned (OpenSpec.upto fnExactPackMessageSpec)

/-- 'laws.FnExactParseUpdate', WHERE WHAT IT READS IS OF BULK AT MOST 1048576: true; the input reads as it did. -/
def fnExactParseUpdateUptoRow : OpenClaim := { program := "ytgfoifkkffffgac", sum := "a0bdf9f94f74933e4ead2ab7a131a3fc04be2b51b4ee99a76c2ab7db532f190f", func := "loop.example/g00263/laws.FnExactParseUpdate", spec := "fnExactParseUpdate", unfollowed := true, recurses := true, apart := false, narrowed := true }
def FnExactParseUpdateUptoSaid : Prop := fnExactParseUpdateUptoRow.holds Try.pinned (OpenSpec.upto fnExactParseUpdateSpec)

/-- 'laws.FnUpdates', WHERE WHAT IT READS IS OF BULK AT MOST 1048576: true; the input reads as it did. -/
def fnUpdatesUptoRow : OpenClaim := { program := "ytgfoifkkffffgac", sum := "a0bdf9f94f74933e4ead2ab7a131a3fc04be2b51b4ee99a76c2ab7db532f190f", func := "loop.example/g00263/laws.FnUpdates", spec := "fnUpdates", unfollowed := true, recurses := true, apart := false, narrowed := true }
def FnUpdatesUptoSaid : Prop := fnUpdatesUptoRow.holds Try.pinned (OpenSpec.upto fnUpdatesSpec)

/-- 'laws.FnExactParseMessage', WHERE WHAT IT READS IS OF BULK AT MOST 1048576: true; the input reads as it did. -/
def fnExactParseMessageUptoRow : OpenClaim := { program := "ytgfoifkkffffgac", sum := "a0bdf9f94f74933e4ead2ab7a131a3fc04be2b51b4ee99a76c2ab7db532f190f", func := "loop.example/g00263/laws.FnExactParseMessage", spec := "fnExactParseMessage", unfollowed := true, recurses := true, apart := false, narrowed := true }
def FnExactParseMessageUptoSaid : Prop := fnExactParseMessageUptoRow.holds Try.pinned (OpenSpec.upto fnExactParseMessageSpec)

/-- 'laws.FnExactReadMessages', WHERE WHAT IT READS IS OF BULK AT MOST 1048576: true; the input reads as it did. -/
def fnExactReadMessagesUptoRow : OpenClaim := { program := "ytgfoifkkffffgac", sum := "a0bdf9f94f74933e4ead2ab7a131a3fc04be2b51b4ee99a76c2ab7db532f190f", func := "loop.example/g00263/laws.FnExactReadMessages", spec := "fnExactReadMessages", unfollowed := true, recurses := true, apart := false, narrowed := true }
def FnExactReadMessagesUptoSaid : Prop := fnExactReadMessagesUptoRow.holds Try.pinned (OpenSpec.upto fnExactReadMessagesSpec)

/-- 'laws.FnStreams', WHERE WHAT IT READS IS OF BULK AT MOST 1048576: true; the input reads as it did. -/
def fnStreamsUptoRow : OpenClaim := { program := "ytgfoifkkffffgac", sum := "a0bdf9f94f74933e4ead2ab7a131a3fc04be2b51b4ee99a76c2ab7db532f190f", func := "loop.example/g00263/laws.FnStreams", spec := "fnStreams", unfollowed := true, recurses := true, apart := false, narrowed := true }
def FnStreamsUptoSaid : Prop := fnStreamsUptoRow.holds Try.pinned (OpenSpec.upto fnStreamsSpec)

end Rows
end Go.Proofs.Ytgfoifkkffffgac
