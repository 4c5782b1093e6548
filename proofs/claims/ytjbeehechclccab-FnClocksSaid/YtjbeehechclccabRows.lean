/-
  No cell of these rows narrows 'for every input' (looked for: loops, veiled, ifaces, maps, wideKeys, modest, calm, conditions, laid).
  DERIVED. THE GIVEN ROWS OF THIS SEAT. 6 by the template 'for every input the law returns true; each argument reads behind the call as it read before'; 0 by the template 'total and deterministic' (their statements: YtjbeehechclccabTotals.lean).
  GIVEN WITH THE SEED: the statements are not yours to turn. If you find one false, say at which input.
  Laid BY PROGRAM, IN A SANDBOX (cutbox-rows.mjs): the forced cells as the released guide's own fill.sh prints them over the translation b25ddf664810c30b… (all of the seat's roots in one cut). By AI agents, Wed Nov 11 2026. No macro, syntax, notation, axiom, sorry.
-/
import Derived.Test.YtjbeehechclccabChecked
import GoSem.Claim
import GoSem.ClaimJoined
import GoSem.ClaimMapViews
import Derived.JoinedTies
import Derived.KernelRfl
namespace Go.Proofs.Ytjbeehechclccab
/- THE CELL 'sum', in the pinned program and in every row, IS THE sha256 OF THE DUMP (.gsa) THAT YtjbeehechclccabProg.lean LOADS. Nothing in Lean hashes anything: it is a label: what it is worth is what the hold of that sum in a sandbox is worth. -/
noncomputable def Try.pinned : Pinned := { name := "ytjbeehechclccab", sum := "b25ddf664810c30b06dee71fcf73337298aacc3a82dd8b9dc552555a13137cd1", checked := Try.checked }
namespace Rows
def none {H : Type} : Left H := { results := [], args := [] }

/-- 'laws.FnLeases': WHATEVER THE INPUT: true; the input reads as it did. -/
def fnLeasesSpec : ChangeSpec := { name := "fnLeases", fn := fun _ => fun
  | [d] => { results := [.lit (.bool true)], args := [d] }
  | _ => none }
def fnLeasesRow : OpenClaim := { program := "ytjbeehechclccab", sum := "b25ddf664810c30b06dee71fcf73337298aacc3a82dd8b9dc552555a13137cd1", func := "loop.example/g00263/laws.FnLeases", spec := "fnLeases", apart := false }
def FnLeasesSaid : Prop := fnLeasesRow.holds Try.pinned (OpenSpec.ofChange fnLeasesSpec)

/-- ITS FALSE NEIGHBOUR: 'it returns false'. Refute it at one input. -/
def fnLeasesWrong : ChangeSpec := { name := "fnLeases", fn := fun _ => fun
  | [d] => { results := [.lit (.bool false)], args := [d] }
  | _ => none }
def FnLeasesWrongFalsely : Prop := fnLeasesRow.holds Try.pinned (OpenSpec.ofChange fnLeasesWrong)

/-- 'laws.FnClocks': WHATEVER THE INPUT: true; the input reads as it did. -/
def fnClocksSpec : ChangeSpec := { name := "fnClocks", fn := fun _ => fun
  | [d] => { results := [.lit (.bool true)], args := [d] }
  | _ => none }
def fnClocksRow : OpenClaim := { program := "ytjbeehechclccab", sum := "b25ddf664810c30b06dee71fcf73337298aacc3a82dd8b9dc552555a13137cd1", func := "loop.example/g00263/laws.FnClocks", spec := "fnClocks", apart := false }
def FnClocksSaid : Prop := fnClocksRow.holds Try.pinned (OpenSpec.ofChange fnClocksSpec)

/-- ITS FALSE NEIGHBOUR: 'it returns false'. Refute it at one input. -/
def fnClocksWrong : ChangeSpec := { name := "fnClocks", fn := fun _ => fun
  | [d] => { results := [.lit (.bool false)], args := [d] }
  | _ => none }
def FnClocksWrongFalsely : Prop := fnClocksRow.holds Try.pinned (OpenSpec.ofChange fnClocksWrong)

/-- 'laws.FnFences': WHATEVER THE INPUT: true; the input reads as it did. -/
def fnFencesSpec : ChangeSpec := { name := "fnFences", fn := fun _ => fun
  | [d] => { results := [.lit (.bool true)], args := [d] }
  | _ => none }
def fnFencesRow : OpenClaim := { program := "ytjbeehechclccab", sum := "b25ddf664810c30b06dee71fcf73337298aacc3a82dd8b9dc552555a13137cd1", func := "loop.example/g00263/laws.FnFences", spec := "fnFences", apart := false }
def FnFencesSaid : Prop := fnFencesRow.holds Try.pinned (OpenSpec.ofChange fnFencesSpec)

/-- ITS FALSE NEIGHBOUR: 'it returns false'. Refute it at one input. -/
def fnFencesWrong : ChangeSpec := { name := "fnFences", fn := fun _ => fun
  | [d] => { results := [.lit (.bool false)], args := [d] }
  | _ => none }
def FnFencesWrongFalsely : Prop := fnFencesRow.holds Try.pinned (OpenSpec.ofChange fnFencesWrong)

/-- 'laws.FnWires': WHATEVER THE INPUT: true; the input reads as it did. -/
def fnWiresSpec : ChangeSpec := { name := "fnWires", fn := fun _ => fun
  | [d] => { results := [.lit (.bool true)], args := [d] }
  | _ => none }
def fnWiresRow : OpenClaim := { program := "ytjbeehechclccab", sum := "b25ddf664810c30b06dee71fcf73337298aacc3a82dd8b9dc552555a13137cd1", func := "loop.example/g00263/laws.FnWires", spec := "fnWires", apart := false }
def FnWiresSaid : Prop := fnWiresRow.holds Try.pinned (OpenSpec.ofChange fnWiresSpec)

/-- ITS FALSE NEIGHBOUR: 'it returns false'. Refute it at one input. -/
def fnWiresWrong : ChangeSpec := { name := "fnWires", fn := fun _ => fun
  | [d] => { results := [.lit (.bool false)], args := [d] }
  | _ => none }
def FnWiresWrongFalsely : Prop := fnWiresRow.holds Try.pinned (OpenSpec.ofChange fnWiresWrong)

/-- 'laws.FnExactDeliverOut': WHATEVER THE INPUT: true; the input reads as it did. -/
def fnExactDeliverOutSpec : ChangeSpec := { name := "fnExactDeliverOut", fn := fun _ => fun
  | [d1, d2, d3, d4] => { results := [.lit (.bool true)], args := [d1, d2, d3, d4] }
  | _ => none }
def fnExactDeliverOutRow : OpenClaim := { program := "ytjbeehechclccab", sum := "b25ddf664810c30b06dee71fcf73337298aacc3a82dd8b9dc552555a13137cd1", func := "loop.example/g00263/laws.FnExactDeliverOut", spec := "fnExactDeliverOut", apart := false }
def FnExactDeliverOutSaid : Prop := fnExactDeliverOutRow.holds Try.pinned (OpenSpec.ofChange fnExactDeliverOutSpec)

/-- ITS FALSE NEIGHBOUR: 'it returns false'. Refute it at one input. -/
def fnExactDeliverOutWrong : ChangeSpec := { name := "fnExactDeliverOut", fn := fun _ => fun
  | [d1, d2, d3, d4] => { results := [.lit (.bool false)], args := [d1, d2, d3, d4] }
  | _ => none }
def FnExactDeliverOutWrongFalsely : Prop := fnExactDeliverOutRow.holds Try.pinned (OpenSpec.ofChange fnExactDeliverOutWrong)

/-- 'laws.FnExactNewNode': WHATEVER THE INPUT: true; the input reads as it did. -/
def fnExactNewNodeSpec : ChangeSpec := { name := "fnExactNewNode", fn := fun _ => fun
  | [d] => { results := [.lit (.bool true)], args := [d] }
  | _ => none }
def fnExactNewNodeRow : OpenClaim := { program := "ytjbeehechclccab", sum := "b25ddf664810c30b06dee71fcf73337298aacc3a82dd8b9dc552555a13137cd1", func := "loop.example/g00263/laws.FnExactNewNode", spec := "fnExactNewNode", apart := false }
def FnExactNewNodeSaid : Prop := fnExactNewNodeRow.holds Try.pinned (OpenSpec.ofChange fnExactNewNodeSpec)

/-- ITS FALSE NEIGHBOUR: 'it returns false'. Refute it at one input. -/
def fnExactNewNodeWrong : ChangeSpec := { name := "fnExactNewNode", fn := fun _ => fun
  | [d] => { results := [.lit (.bool false)], args := [d] }
  | _ => none }
def FnExactNewNodeWrongFalsely : Prop := fnExactNewNodeRow.holds Try.pinned (OpenSpec.ofChange fnExactNewNodeWrong)

/- THE SECOND FORM. 'bulk': how many values and letters a reading holds, each counted each time it is reached (what is shared counts as often as it is met; a slice's spare places count too). A statement '..UptoSaid' is the law's where the arguments, and the package variables that the reading takes, are together of bulk at most 1048576: NARROWER than '..Said'. Prove '..Said' where nothing that the law and all that it calls make is longer than what came in: it says more and counts as full. Else prove '..UptoSaid'. A law counts once. -/
mutual
def uptoBulk {H : Type} : DataW H → Nat
  | .lit (.string bytes) => bytes.length + 1
  | .lit _ => 1
  | .nil => 1
  | .ptr d => uptoBulk d + 1
  | .slice elems spare => uptoBulkAll elems + uptoBulkAll spare + 1
  | .agg parts => uptoBulkAll parts + 1
  | .iface _ d => uptoBulk d + 1
  | .map entries => uptoBulkEntries entries + 1
  | .held _ => 1
def uptoBulkAll {H : Type} : List (DataW H) → Nat
  | [] => 0
  | d :: r => uptoBulk d + uptoBulkAll r
def uptoBulkEntries {H : Type} : List (Lit × DataW H) → Nat
  | [] => 0
  | x :: r => uptoBulkEntry x + uptoBulkEntries r
def uptoBulkEntry {H : Type} : Lit × DataW H → Nat
  | (.string bytes, d) => bytes.length + uptoBulk d + 1
  | (_, d) => uptoBulk d + 1
 end
def uptoSmall : (H : Type) → List (DataW H) → Bool := fun _ ds => decide (uptoBulkAll ds ≤ 1048576)
def OpenSpec.upto (s : _root_.Go.ChangeSpec) : _root_.Go.OpenSpec := { _root_.Go.OpenSpec.ofChange s with cond := some uptoSmall }

/-- 'laws.FnLeases', WHERE WHAT IT READS IS OF BULK AT MOST 1048576: true; the input reads as it did. -/
def fnLeasesUptoRow : OpenClaim := { program := "ytjbeehechclccab", sum := "b25ddf664810c30b06dee71fcf73337298aacc3a82dd8b9dc552555a13137cd1", func := "loop.example/g00263/laws.FnLeases", spec := "fnLeases", apart := false, narrowed := true }
def FnLeasesUptoSaid : Prop := fnLeasesUptoRow.holds Try.pinned (OpenSpec.upto fnLeasesSpec)

/-- 'laws.FnClocks', WHERE WHAT IT READS IS OF BULK AT MOST 1048576: true; the input reads as it did. -/
def fnClocksUptoRow : OpenClaim := { program := "ytjbeehechclccab", sum := "b25ddf664810c30b06dee71fcf73337298aacc3a82dd8b9dc552555a13137cd1", func := "loop.example/g00263/laws.FnClocks", spec := "fnClocks", apart := false, narrowed := true }
def FnClocksUptoSaid : Prop := fnClocksUptoRow.holds Try.pinned (OpenSpec.upto fnClocksSpec)

/-- 'laws.FnFences', WHERE WHAT IT READS IS OF BULK AT MOST 1048576: true; the input reads as it did. -/
def fnFencesUptoRow : OpenClaim := { program := "ytjbeehechclccab", sum := "b25ddf664810c30b06dee71fcf73337298aacc3a82dd8b9dc552555a13137cd1", func := "loop.example/g00263/laws.FnFences", spec := "fnFences", apart := false, narrowed := true }
def FnFencesUptoSaid : Prop := fnFencesUptoRow.holds Try.pinned (OpenSpec.upto fnFencesSpec)

/-- 'laws.FnWires', WHERE WHAT IT READS IS OF BULK AT MOST 1048576: true; the input reads as it did. -/
def fnWiresUptoRow : OpenClaim := { program := "ytjbeehechclccab", sum := "b25ddf664810c30b06dee71fcf73337298aacc3a82dd8b9dc552555a13137cd1", func := "loop.example/g00263/laws.FnWires", spec := "fnWires", apart := false, narrowed := true }
def FnWiresUptoSaid : Prop := fnWiresUptoRow.holds Try.pinned (OpenSpec.upto fnWiresSpec)

/-- 'laws.FnExactDeliverOut', WHERE WHAT IT READS IS OF BULK AT MOST 1048576: true; the input reads as it did. -/
def fnExactDeliverOutUptoRow : OpenClaim := { program := "ytjbeehechclccab", sum := "b25ddf664810c30b06dee71fcf73337298aacc3a82dd8b9dc552555a13137cd1", func := "loop.example/g00263/laws.FnExactDeliverOut", spec := "fnExactDeliverOut", apart := false, narrowed := true }
def FnExactDeliverOutUptoSaid : Prop := fnExactDeliverOutUptoRow.holds Try.pinned (OpenSpec.upto fnExactDeliverOutSpec)

/-- 'laws.FnExactNewNode', WHERE WHAT IT READS IS OF BULK AT MOST 1048576: true; the input reads as it did. -/
def fnExactNewNodeUptoRow : OpenClaim := { program := "ytjbeehechclccab", sum := "b25ddf664810c30b06dee71fcf73337298aacc3a82dd8b9dc552555a13137cd1", func := "loop.example/g00263/laws.FnExactNewNode", spec := "fnExactNewNode", apart := false, narrowed := true }
def FnExactNewNodeUptoSaid : Prop := fnExactNewNodeUptoRow.holds Try.pinned (OpenSpec.upto fnExactNewNodeSpec)

end Rows
end Go.Proofs.Ytjbeehechclccab
