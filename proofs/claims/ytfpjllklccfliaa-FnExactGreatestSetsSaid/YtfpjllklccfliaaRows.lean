/-
  No cell of these rows narrows 'for every input' (looked for: loops, veiled, ifaces, maps, wideKeys, modest, calm, conditions, laid).
  DERIVED. THE GIVEN ROWS OF THIS SEAT. 6 by the template 'for every input the law returns true; each argument reads behind the call as it read before'; 0 by the template 'total and deterministic' (their statements: YtfpjllklccfliaaTotals.lean).
  GIVEN WITH THE SEED: the statements are not yours to turn. If you find one false, say at which input.
  Laid BY PROGRAM, IN A SANDBOX (cutbox-rows.mjs): the forced cells as the released guide's own fill.sh prints them over the translation c4fde7343144a87f… (all of the seat's roots in one cut). By AI agents, Wed Nov 11 2026. No macro, syntax, notation, axiom, sorry.
-/
import Derived.Test.YtfpjllklccfliaaChecked
import GoSem.Claim
import GoSem.ClaimJoined
import GoSem.ClaimMapViews
import Derived.JoinedTies
import Derived.KernelRfl
namespace Go.Proofs.Ytfpjllklccfliaa
/- THE CELL 'sum', in the pinned program and in every row, IS THE sha256 OF THE DUMP (.gsa) THAT YtfpjllklccfliaaProg.lean LOADS. Nothing in Lean hashes anything: it is a label: what it is worth is what the hold of that sum in a sandbox is worth. -/
noncomputable def Try.pinned : Pinned := { name := "ytfpjllklccfliaa", sum := "c4fde7343144a87fea41aad0e01b9fd6709e76b1a9ef1c0dd533f03007fc391a", checked := Try.checked }
namespace Rows
def none {H : Type} : Left H := { results := [], args := [] }

/-- 'laws.FnExactGreatestSets': WHATEVER THE INPUT: true; the input reads as it did. -/
def fnExactGreatestSetsSpec : ChangeSpec := { name := "fnExactGreatestSets", fn := fun _ => fun
  | [d] => { results := [.lit (.bool true)], args := [d] }
  | _ => none }
def fnExactGreatestSetsRow : OpenClaim := { program := "ytfpjllklccfliaa", sum := "c4fde7343144a87fea41aad0e01b9fd6709e76b1a9ef1c0dd533f03007fc391a", func := "loop.example/g03015/laws.FnExactGreatestSets", spec := "fnExactGreatestSets", unfollowed := true, recurses := true, apart := false }
def FnExactGreatestSetsSaid : Prop := fnExactGreatestSetsRow.holds Try.pinned (OpenSpec.ofChange fnExactGreatestSetsSpec)

/-- ITS FALSE NEIGHBOUR: 'it returns false'. Refute it at one input. -/
def fnExactGreatestSetsWrong : ChangeSpec := { name := "fnExactGreatestSets", fn := fun _ => fun
  | [d] => { results := [.lit (.bool false)], args := [d] }
  | _ => none }
def FnExactGreatestSetsWrongFalsely : Prop := fnExactGreatestSetsRow.holds Try.pinned (OpenSpec.ofChange fnExactGreatestSetsWrong)

/-- 'laws.FnExactLabelsOf': WHATEVER THE INPUT: true; the input reads as it did. -/
def fnExactLabelsOfSpec : ChangeSpec := { name := "fnExactLabelsOf", fn := fun _ => fun
  | [d] => { results := [.lit (.bool true)], args := [d] }
  | _ => none }
def fnExactLabelsOfRow : OpenClaim := { program := "ytfpjllklccfliaa", sum := "c4fde7343144a87fea41aad0e01b9fd6709e76b1a9ef1c0dd533f03007fc391a", func := "loop.example/g03015/laws.FnExactLabelsOf", spec := "fnExactLabelsOf", apart := false }
def FnExactLabelsOfSaid : Prop := fnExactLabelsOfRow.holds Try.pinned (OpenSpec.ofChange fnExactLabelsOfSpec)

/-- ITS FALSE NEIGHBOUR: 'it returns false'. Refute it at one input. -/
def fnExactLabelsOfWrong : ChangeSpec := { name := "fnExactLabelsOf", fn := fun _ => fun
  | [d] => { results := [.lit (.bool false)], args := [d] }
  | _ => none }
def FnExactLabelsOfWrongFalsely : Prop := fnExactLabelsOfRow.holds Try.pinned (OpenSpec.ofChange fnExactLabelsOfWrong)

/-- 'laws.FnExactIsFoundation': WHATEVER THE INPUT: true; the input reads as it did. -/
def fnExactIsFoundationSpec : ChangeSpec := { name := "fnExactIsFoundation", fn := fun _ => fun
  | [d1, d2, d3] => { results := [.lit (.bool true)], args := [d1, d2, d3] }
  | _ => none }
def fnExactIsFoundationRow : OpenClaim := { program := "ytfpjllklccfliaa", sum := "c4fde7343144a87fea41aad0e01b9fd6709e76b1a9ef1c0dd533f03007fc391a", func := "loop.example/g03015/laws.FnExactIsFoundation", spec := "fnExactIsFoundation", apart := false }
def FnExactIsFoundationSaid : Prop := fnExactIsFoundationRow.holds Try.pinned (OpenSpec.ofChange fnExactIsFoundationSpec)

/-- ITS FALSE NEIGHBOUR: 'it returns false'. Refute it at one input. -/
def fnExactIsFoundationWrong : ChangeSpec := { name := "fnExactIsFoundation", fn := fun _ => fun
  | [d1, d2, d3] => { results := [.lit (.bool false)], args := [d1, d2, d3] }
  | _ => none }
def FnExactIsFoundationWrongFalsely : Prop := fnExactIsFoundationRow.holds Try.pinned (OpenSpec.ofChange fnExactIsFoundationWrong)

/-- 'laws.FnExactFoundationOf': WHATEVER THE INPUT: true; the input reads as it did. -/
def fnExactFoundationOfSpec : ChangeSpec := { name := "fnExactFoundationOf", fn := fun _ => fun
  | [d1, d2] => { results := [.lit (.bool true)], args := [d1, d2] }
  | _ => none }
def fnExactFoundationOfRow : OpenClaim := { program := "ytfpjllklccfliaa", sum := "c4fde7343144a87fea41aad0e01b9fd6709e76b1a9ef1c0dd533f03007fc391a", func := "loop.example/g03015/laws.FnExactFoundationOf", spec := "fnExactFoundationOf", recurses := true, apart := false }
def FnExactFoundationOfSaid : Prop := fnExactFoundationOfRow.holds Try.pinned (OpenSpec.ofChange fnExactFoundationOfSpec)

/-- ITS FALSE NEIGHBOUR: 'it returns false'. Refute it at one input. -/
def fnExactFoundationOfWrong : ChangeSpec := { name := "fnExactFoundationOf", fn := fun _ => fun
  | [d1, d2] => { results := [.lit (.bool false)], args := [d1, d2] }
  | _ => none }
def FnExactFoundationOfWrongFalsely : Prop := fnExactFoundationOfRow.holds Try.pinned (OpenSpec.ofChange fnExactFoundationOfWrong)

/-- 'laws.FnExactClashesOf': WHATEVER THE INPUT: true; the input reads as it did. -/
def fnExactClashesOfSpec : ChangeSpec := { name := "fnExactClashesOf", fn := fun _ => fun
  | [d1, d2] => { results := [.lit (.bool true)], args := [d1, d2] }
  | _ => none }
def fnExactClashesOfRow : OpenClaim := { program := "ytfpjllklccfliaa", sum := "c4fde7343144a87fea41aad0e01b9fd6709e76b1a9ef1c0dd533f03007fc391a", func := "loop.example/g03015/laws.FnExactClashesOf", spec := "fnExactClashesOf", apart := false }
def FnExactClashesOfSaid : Prop := fnExactClashesOfRow.holds Try.pinned (OpenSpec.ofChange fnExactClashesOfSpec)

/-- ITS FALSE NEIGHBOUR: 'it returns false'. Refute it at one input. -/
def fnExactClashesOfWrong : ChangeSpec := { name := "fnExactClashesOf", fn := fun _ => fun
  | [d1, d2] => { results := [.lit (.bool false)], args := [d1, d2] }
  | _ => none }
def FnExactClashesOfWrongFalsely : Prop := fnExactClashesOfRow.holds Try.pinned (OpenSpec.ofChange fnExactClashesOfWrong)

/-- 'laws.FnExactConsequencesOf': WHATEVER THE INPUT: true; the input reads as it did. -/
def fnExactConsequencesOfSpec : ChangeSpec := { name := "fnExactConsequencesOf", fn := fun _ => fun
  | [d1, d2] => { results := [.lit (.bool true)], args := [d1, d2] }
  | _ => none }
def fnExactConsequencesOfRow : OpenClaim := { program := "ytfpjllklccfliaa", sum := "c4fde7343144a87fea41aad0e01b9fd6709e76b1a9ef1c0dd533f03007fc391a", func := "loop.example/g03015/laws.FnExactConsequencesOf", spec := "fnExactConsequencesOf", apart := false }
def FnExactConsequencesOfSaid : Prop := fnExactConsequencesOfRow.holds Try.pinned (OpenSpec.ofChange fnExactConsequencesOfSpec)

/-- ITS FALSE NEIGHBOUR: 'it returns false'. Refute it at one input. -/
def fnExactConsequencesOfWrong : ChangeSpec := { name := "fnExactConsequencesOf", fn := fun _ => fun
  | [d1, d2] => { results := [.lit (.bool false)], args := [d1, d2] }
  | _ => none }
def FnExactConsequencesOfWrongFalsely : Prop := fnExactConsequencesOfRow.holds Try.pinned (OpenSpec.ofChange fnExactConsequencesOfWrong)

/- THE SECOND FORM. 'bulk': how many values and letters a reading holds, each counted each time it is reached (what is shared counts as often as it is met; a slice's spare places count too). A statement '..UptoSaid' is the law's where the arguments, and the package variables that the reading takes, are together of bulk at most 1048576: NARROWER than '..Said'. Prove '..Said' where nothing that the law and all that it calls make is longer than what came in: it says more and counts as full. Else prove '..UptoSaid'. A law counts once. -/
mutual
def uptoBulk {H : Type} : DataW H → Nat
  | .lit (.string bytes) => bytes.length + 1
  | .lit _ => 1
  | .nil => 1
  | .ptr d => uptoBulk d + 1
  | .slice elems spare => uptoBulkAll elems + uptoBulkAll spare + 1
  | .agg parts => uptoBulkAll parts + 1
  | .iface _ d => uptoBulk d + 1
  | .map entries => uptoBulkEntries entries + 1
  | .held _ => 1
def uptoBulkAll {H : Type} : List (DataW H) → Nat
  | [] => 0
  | d :: r => uptoBulk d + uptoBulkAll r
def uptoBulkEntries {H : Type} : List (Lit × DataW H) → Nat
  | [] => 0
  | x :: r => uptoBulkEntry x + uptoBulkEntries r
def uptoBulkEntry {H : Type} : Lit × DataW H → Nat
  | (.string bytes, d) => bytes.length + uptoBulk d + 1
  | (_, d) => uptoBulk d + 1
 end
def uptoSmall : (H : Type) → List (DataW H) → Bool := fun _ ds => decide (uptoBulkAll ds ≤ 1048576)
def OpenSpec.upto (s : _root_.Go.ChangeSpec) : _root_.Go.OpenSpec := { _root_.Go.OpenSpec.ofChange s with cond := some uptoSmall }

/-- 'laws.FnExactGreatestSets', WHERE WHAT IT READS IS OF BULK AT MOST 1048576: true; the input reads as it did. -/
def fnExactGreatestSetsUptoRow : OpenClaim := { program := "ytfpjllklccfliaa", sum := "c4fde7343144a87fea41aad0e01b9fd6709e76b1a9ef1c0dd533f03007fc391a", func := "loop.example/g03015/laws.FnExactGreatestSets", spec := "fnExactGreatestSets", unfollowed := true, recurses := true, apart := false, narrowed := true }
def FnExactGreatestSetsUptoSaid : Prop := fnExactGreatestSetsUptoRow.holds Try.pinned (OpenSpec.upto fnExactGreatestSetsSpec)

/-- 'laws.FnExactLabelsOf', WHERE WHAT IT READS IS OF BULK AT MOST 1048576: true; the input reads as it did. -/
def fnExactLabelsOfUptoRow : OpenClaim := { program := "ytfpjllklccfliaa", sum := "c4fde7343144a87fea41aad0e01b9fd6709e76b1a9ef1c0dd533f03007fc391a", func := "loop.example/g03015/laws.FnExactLabelsOf", spec := "fnExactLabelsOf", apart := false, narrowed := true }
def FnExactLabelsOfUptoSaid : Prop := fnExactLabelsOfUptoRow.holds Try.pinned (OpenSpec.upto fnExactLabelsOfSpec)

/-- 'laws.FnExactIsFoundation', WHERE WHAT IT READS IS OF BULK AT MOST 1048576: true; the input reads as it did. -/
def fnExactIsFoundationUptoRow : OpenClaim := { program := "ytfpjllklccfliaa", sum := "c4fde7343144a87fea41aad0e01b9fd6709e76b1a9ef1c0dd533f03007fc391a", func := "loop.example/g03015/laws.FnExactIsFoundation", spec := "fnExactIsFoundation", apart := false, narrowed := true }
def FnExactIsFoundationUptoSaid : Prop := fnExactIsFoundationUptoRow.holds Try.pinned (OpenSpec.upto fnExactIsFoundationSpec)

/-- 'laws.FnExactFoundationOf', WHERE WHAT IT READS IS OF BULK AT MOST 1048576: true; the input reads as it did. -/
def fnExactFoundationOfUptoRow : OpenClaim := { program := "ytfpjllklccfliaa", sum := "c4fde7343144a87fea41aad0e01b9fd6709e76b1a9ef1c0dd533f03007fc391a", func := "loop.example/g03015/laws.FnExactFoundationOf", spec := "fnExactFoundationOf", recurses := true, apart := false, narrowed := true }
def FnExactFoundationOfUptoSaid : Prop := fnExactFoundationOfUptoRow.holds Try.pinned (OpenSpec.upto fnExactFoundationOfSpec)

/-- 'laws.FnExactClashesOf', WHERE WHAT IT READS IS OF BULK AT MOST 1048576: true; the input reads as it did. -/
def fnExactClashesOfUptoRow : OpenClaim := { program := "ytfpjllklccfliaa", sum := "c4fde7343144a87fea41aad0e01b9fd6709e76b1a9ef1c0dd533f03007fc391a", func := "loop.example/g03015/laws.FnExactClashesOf", spec := "fnExactClashesOf", apart := false, narrowed := true }
def FnExactClashesOfUptoSaid : Prop := fnExactClashesOfUptoRow.holds Try.pinned (OpenSpec.upto fnExactClashesOfSpec)

/-- 'laws.FnExactConsequencesOf', WHERE WHAT IT READS IS OF BULK AT MOST 1048576: true; the input reads as it did. -/
def fnExactConsequencesOfUptoRow : OpenClaim := { program := "ytfpjllklccfliaa", sum := "c4fde7343144a87fea41aad0e01b9fd6709e76b1a9ef1c0dd533f03007fc391a", func := "loop.example/g03015/laws.FnExactConsequencesOf", spec := "fnExactConsequencesOf", apart := false, narrowed := true }
def FnExactConsequencesOfUptoSaid : Prop := fnExactConsequencesOfUptoRow.holds Try.pinned (OpenSpec.upto fnExactConsequencesOfSpec)

end Rows
end Go.Proofs.Ytfpjllklccfliaa
