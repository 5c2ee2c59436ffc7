/-
  No cell of these rows narrows 'for every input' (looked for: loops, veiled, ifaces, maps, wideKeys, modest, calm, conditions, laid).
  DERIVED. THE GIVEN ROWS OF THIS SEAT. 7 by the template 'for every input the law returns true; each argument reads behind the call as it read before'; 0 by the template 'total and deterministic' (their statements: YtagkjljaemfieaaTotals.lean).
  GIVEN WITH THE SEED: the statements are not yours to turn. If you find one false, say at which input.
  Laid BY PROGRAM, IN A SANDBOX (cutbox-rows.mjs): the forced cells as the released guide's own fill.sh prints them over the translation 586fe2b403d7a275… (all of the seat's roots in one cut). By AI agents, Wed Nov 11 2026. No macro, syntax, notation, axiom, sorry.
-/
import Derived.Test.YtagkjljaemfieaaChecked
import GoSem.Claim
import GoSem.ClaimJoined
import GoSem.ClaimMapViews
import Derived.JoinedTies
import Derived.KernelRfl
namespace Go.Proofs.Ytagkjljaemfieaa
/- THE CELL 'sum', in the pinned program and in every row, IS THE sha256 OF THE DUMP (.gsa) THAT YtagkjljaemfieaaProg.lean LOADS. Nothing in Lean hashes anything: it is a label: what it is worth is what the hold of that sum in a sandbox is worth. -/
noncomputable def Try.pinned : Pinned := { name := "ytagkjljaemfieaa", sum := "586fe2b403d7a275b51e14c762c65b4effcf4a52c484cf628ef9db513993f65e", checked := Try.checked }
namespace Rows
def none {H : Type} : Left H := { results := [], args := [] }

/-- 'laws.FnExactIsPart': WHATEVER THE INPUT: true; the input reads as it did. -/
def fnExactIsPartSpec : ChangeSpec := { name := "fnExactIsPart", fn := fun _ => fun
  | [d1, d2] => { results := [.lit (.bool true)], args := [d1, d2] }
  | _ => none }
def fnExactIsPartRow : OpenClaim := { program := "ytagkjljaemfieaa", sum := "586fe2b403d7a275b51e14c762c65b4effcf4a52c484cf628ef9db513993f65e", func := "loop.example/g03015/laws.FnExactIsPart", spec := "fnExactIsPart", apart := false }
def FnExactIsPartSaid : Prop := fnExactIsPartRow.holds Try.pinned (OpenSpec.ofChange fnExactIsPartSpec)

/-- ITS FALSE NEIGHBOUR: 'it returns false'. Refute it at one input. -/
def fnExactIsPartWrong : ChangeSpec := { name := "fnExactIsPart", fn := fun _ => fun
  | [d1, d2] => { results := [.lit (.bool false)], args := [d1, d2] }
  | _ => none }
def FnExactIsPartWrongFalsely : Prop := fnExactIsPartRow.holds Try.pinned (OpenSpec.ofChange fnExactIsPartWrong)

/-- 'laws.FnExactIsPremise': WHATEVER THE INPUT: true; the input reads as it did. -/
def fnExactIsPremiseSpec : ChangeSpec := { name := "fnExactIsPremise", fn := fun _ => fun
  | [d] => { results := [.lit (.bool true)], args := [d] }
  | _ => none }
def fnExactIsPremiseRow : OpenClaim := { program := "ytagkjljaemfieaa", sum := "586fe2b403d7a275b51e14c762c65b4effcf4a52c484cf628ef9db513993f65e", func := "loop.example/g03015/laws.FnExactIsPremise", spec := "fnExactIsPremise", apart := false }
def FnExactIsPremiseSaid : Prop := fnExactIsPremiseRow.holds Try.pinned (OpenSpec.ofChange fnExactIsPremiseSpec)

/-- ITS FALSE NEIGHBOUR: 'it returns false'. Refute it at one input. -/
def fnExactIsPremiseWrong : ChangeSpec := { name := "fnExactIsPremise", fn := fun _ => fun
  | [d] => { results := [.lit (.bool false)], args := [d] }
  | _ => none }
def FnExactIsPremiseWrongFalsely : Prop := fnExactIsPremiseRow.holds Try.pinned (OpenSpec.ofChange fnExactIsPremiseWrong)

/-- 'laws.FnExactIsBeliefs': WHATEVER THE INPUT: true; the input reads as it did. -/
def fnExactIsBeliefsSpec : ChangeSpec := { name := "fnExactIsBeliefs", fn := fun _ => fun
  | [d] => { results := [.lit (.bool true)], args := [d] }
  | _ => none }
def fnExactIsBeliefsRow : OpenClaim := { program := "ytagkjljaemfieaa", sum := "586fe2b403d7a275b51e14c762c65b4effcf4a52c484cf628ef9db513993f65e", func := "loop.example/g03015/laws.FnExactIsBeliefs", spec := "fnExactIsBeliefs", apart := false }
def FnExactIsBeliefsSaid : Prop := fnExactIsBeliefsRow.holds Try.pinned (OpenSpec.ofChange fnExactIsBeliefsSpec)

/-- ITS FALSE NEIGHBOUR: 'it returns false'. Refute it at one input. -/
def fnExactIsBeliefsWrong : ChangeSpec := { name := "fnExactIsBeliefs", fn := fun _ => fun
  | [d] => { results := [.lit (.bool false)], args := [d] }
  | _ => none }
def FnExactIsBeliefsWrongFalsely : Prop := fnExactIsBeliefsRow.holds Try.pinned (OpenSpec.ofChange fnExactIsBeliefsWrong)

/-- 'laws.FnExactIsEvent': WHATEVER THE INPUT: true; the input reads as it did. -/
def fnExactIsEventSpec : ChangeSpec := { name := "fnExactIsEvent", fn := fun _ => fun
  | [d] => { results := [.lit (.bool true)], args := [d] }
  | _ => none }
def fnExactIsEventRow : OpenClaim := { program := "ytagkjljaemfieaa", sum := "586fe2b403d7a275b51e14c762c65b4effcf4a52c484cf628ef9db513993f65e", func := "loop.example/g03015/laws.FnExactIsEvent", spec := "fnExactIsEvent", apart := false }
def FnExactIsEventSaid : Prop := fnExactIsEventRow.holds Try.pinned (OpenSpec.ofChange fnExactIsEventSpec)

/-- ITS FALSE NEIGHBOUR: 'it returns false'. Refute it at one input. -/
def fnExactIsEventWrong : ChangeSpec := { name := "fnExactIsEvent", fn := fun _ => fun
  | [d] => { results := [.lit (.bool false)], args := [d] }
  | _ => none }
def FnExactIsEventWrongFalsely : Prop := fnExactIsEventRow.holds Try.pinned (OpenSpec.ofChange fnExactIsEventWrong)

/-- 'laws.FnExactPremisesOf': WHATEVER THE INPUT: true; the input reads as it did. -/
def fnExactPremisesOfSpec : ChangeSpec := { name := "fnExactPremisesOf", fn := fun _ => fun
  | [d] => { results := [.lit (.bool true)], args := [d] }
  | _ => none }
def fnExactPremisesOfRow : OpenClaim := { program := "ytagkjljaemfieaa", sum := "586fe2b403d7a275b51e14c762c65b4effcf4a52c484cf628ef9db513993f65e", func := "loop.example/g03015/laws.FnExactPremisesOf", spec := "fnExactPremisesOf", apart := false }
def FnExactPremisesOfSaid : Prop := fnExactPremisesOfRow.holds Try.pinned (OpenSpec.ofChange fnExactPremisesOfSpec)

/-- ITS FALSE NEIGHBOUR: 'it returns false'. Refute it at one input. -/
def fnExactPremisesOfWrong : ChangeSpec := { name := "fnExactPremisesOf", fn := fun _ => fun
  | [d] => { results := [.lit (.bool false)], args := [d] }
  | _ => none }
def FnExactPremisesOfWrongFalsely : Prop := fnExactPremisesOfRow.holds Try.pinned (OpenSpec.ofChange fnExactPremisesOfWrong)

/-- 'laws.FnExactDependsOn': WHATEVER THE INPUT: true; the input reads as it did. -/
def fnExactDependsOnSpec : ChangeSpec := { name := "fnExactDependsOn", fn := fun _ => fun
  | [d1, d2, d3] => { results := [.lit (.bool true)], args := [d1, d2, d3] }
  | _ => none }
def fnExactDependsOnRow : OpenClaim := { program := "ytagkjljaemfieaa", sum := "586fe2b403d7a275b51e14c762c65b4effcf4a52c484cf628ef9db513993f65e", func := "loop.example/g03015/laws.FnExactDependsOn", spec := "fnExactDependsOn", apart := false }
def FnExactDependsOnSaid : Prop := fnExactDependsOnRow.holds Try.pinned (OpenSpec.ofChange fnExactDependsOnSpec)

/-- ITS FALSE NEIGHBOUR: 'it returns false'. Refute it at one input. -/
def fnExactDependsOnWrong : ChangeSpec := { name := "fnExactDependsOn", fn := fun _ => fun
  | [d1, d2, d3] => { results := [.lit (.bool false)], args := [d1, d2, d3] }
  | _ => none }
def FnExactDependsOnWrongFalsely : Prop := fnExactDependsOnRow.holds Try.pinned (OpenSpec.ofChange fnExactDependsOnWrong)

/-- 'laws.FnExactIsFrame': WHATEVER THE INPUT: true; the input reads as it did. -/
def fnExactIsFrameSpec : ChangeSpec := { name := "fnExactIsFrame", fn := fun _ => fun
  | [d] => { results := [.lit (.bool true)], args := [d] }
  | _ => none }
def fnExactIsFrameRow : OpenClaim := { program := "ytagkjljaemfieaa", sum := "586fe2b403d7a275b51e14c762c65b4effcf4a52c484cf628ef9db513993f65e", func := "loop.example/g03015/laws.FnExactIsFrame", spec := "fnExactIsFrame", apart := false }
def FnExactIsFrameSaid : Prop := fnExactIsFrameRow.holds Try.pinned (OpenSpec.ofChange fnExactIsFrameSpec)

/-- ITS FALSE NEIGHBOUR: 'it returns false'. Refute it at one input. -/
def fnExactIsFrameWrong : ChangeSpec := { name := "fnExactIsFrame", fn := fun _ => fun
  | [d] => { results := [.lit (.bool false)], args := [d] }
  | _ => none }
def FnExactIsFrameWrongFalsely : Prop := fnExactIsFrameRow.holds Try.pinned (OpenSpec.ofChange fnExactIsFrameWrong)

/- THE SECOND FORM. 'bulk': how many values and letters a reading holds, each counted each time it is reached (what is shared counts as often as it is met; a slice's spare places count too). A statement '..UptoSaid' is the law's where the arguments, and the package variables that the reading takes, are together of bulk at most 1048576: NARROWER than '..Said'. Prove '..Said' where nothing that the law and all that it calls make is longer than what came in: it says more and counts as full. Else prove '..UptoSaid'. A law counts once. -/
mutual
def uptoBulk {H : Type} : DataW H → Nat
  | .lit (.string bytes) => bytes.length + 1
  | .lit _ => 1
  | .nil => 1
  | .ptr d => uptoBulk d + 1
  | .slice elems spare => uptoBulkAll elems + uptoBulkAll spare + 1
  | .agg parts => uptoBulkAll parts + 1
  | .iface _ d => uptoBulk d + 1
  | .map entries => uptoBulkEntries entries + 1
  | .held _ => 1
def uptoBulkAll {H : Type} : List (DataW H) → Nat
  | [] => 0
  | d :: r => uptoBulk d + uptoBulkAll r
def uptoBulkEntries {H : Type} : List (Lit × DataW H) → Nat
  | [] => 0
  | x :: r => uptoBulkEntry x + uptoBulkEntries r
def uptoBulkEntry {H : Type} : Lit × DataW H → Nat
  | (.string bytes, d) => bytes.length + uptoBulk d + 1
  | (_, d) => uptoBulk d + 1
 end
def uptoSmall : (H : Type) → List (DataW H) → Bool := fun _ ds => decide (uptoBulkAll ds ≤ 1048576)
def OpenSpec.upto (s : _root_.Go.ChangeSpec) : _root_.Go.OpenSpec := { _root_.Go.OpenSpec.ofChange s with cond := some uptoSmall }

/-- 'laws.FnExactIsPart', WHERE WHAT IT READS IS OF BULK AT MOST 1048576: true; the input reads as it did. -/
def fnExactIsPartUptoRow : OpenClaim := { program := "ytagkjljaemfieaa", sum := "586fe2b403d7a275b51e14c762c65b4effcf4a52c484cf628ef9db513993f65e", func := "loop.example/g03015/laws.FnExactIsPart", spec := "fnExactIsPart", apart := false, narrowed := true }
def FnExactIsPartUptoSaid : Prop := fnExactIsPartUptoRow.holds Try.pinned (OpenSpec.upto fnExactIsPartSpec)

/-- 'laws.FnExactIsPremise', WHERE WHAT IT READS IS OF BULK AT MOST 1048576: true; the input reads as it did. -/
def fnExactIsPremiseUptoRow : OpenClaim := { program := "ytagkjljaemfieaa", sum := "586fe2b403d7a275b51e14c762c65b4effcf4a52c484cf628ef9db513993f65e", func := "loop.example/g03015/laws.FnExactIsPremise", spec := "fnExactIsPremise", apart := false, narrowed := true }
def FnExactIsPremiseUptoSaid : Prop := fnExactIsPremiseUptoRow.holds Try.pinned (OpenSpec.upto fnExactIsPremiseSpec)

/-- 'laws.FnExactIsBeliefs', WHERE WHAT IT READS IS OF BULK AT MOST 1048576: true; the input reads as it did. -/
def fnExactIsBeliefsUptoRow : OpenClaim := { program := "ytagkjljaemfieaa", sum := "586fe2b403d7a275b51e14c762c65b4effcf4a52c484cf628ef9db513993f65e", func := "loop.example/g03015/laws.FnExactIsBeliefs", spec := "fnExactIsBeliefs", apart := false, narrowed := true }
def FnExactIsBeliefsUptoSaid : Prop := fnExactIsBeliefsUptoRow.holds Try.pinned (OpenSpec.upto fnExactIsBeliefsSpec)

/-- 'laws.FnExactIsEvent', WHERE WHAT IT READS IS OF BULK AT MOST 1048576: true; the input reads as it did. -/
def fnExactIsEventUptoRow : OpenClaim := { program := "ytagkjljaemfieaa", sum := "586fe2b403d7a275b51e14c762c65b4effcf4a52c484cf628ef9db513993f65e", func := "loop.example/g03015/laws.FnExactIsEvent", spec := "fnExactIsEvent", apart := false, narrowed := true }
def FnExactIsEventUptoSaid : Prop := fnExactIsEventUptoRow.holds Try.pinned (OpenSpec.upto fnExactIsEventSpec)

/-- 'laws.FnExactPremisesOf', WHERE WHAT IT READS IS OF BULK AT MOST 1048576: true; the input reads as it did. -/
def fnExactPremisesOfUptoRow : OpenClaim := { program := "ytagkjljaemfieaa", sum := "586fe2b403d7a275b51e14c762c65b4effcf4a52c484cf628ef9db513993f65e", func := "loop.example/g03015/laws.FnExactPremisesOf", spec := "fnExactPremisesOf", apart := false, narrowed := true }
def FnExactPremisesOfUptoSaid : Prop := fnExactPremisesOfUptoRow.holds Try.pinned (OpenSpec.upto fnExactPremisesOfSpec)

/-- 'laws.FnExactDependsOn', WHERE WHAT IT READS IS OF BULK AT MOST 1048576: true; the input reads as it did. -/
def fnExactDependsOnUptoRow : OpenClaim := { program := "ytagkjljaemfieaa", sum := "586fe2b403d7a275b51e14c762c65b4effcf4a52c484cf628ef9db513993f65e", func := "loop.example/g03015/laws.FnExactDependsOn", spec := "fnExactDependsOn", apart := false, narrowed := true }
def FnExactDependsOnUptoSaid : Prop := fnExactDependsOnUptoRow.holds Try.pinned (OpenSpec.upto fnExactDependsOnSpec)

/-- 'laws.FnExactIsFrame', WHERE WHAT IT READS IS OF BULK AT MOST 1048576: true; the input reads as it did. -/
def fnExactIsFrameUptoRow : OpenClaim := { program := "ytagkjljaemfieaa", sum := "586fe2b403d7a275b51e14c762c65b4effcf4a52c484cf628ef9db513993f65e", func := "loop.example/g03015/laws.FnExactIsFrame", spec := "fnExactIsFrame", apart := false, narrowed := true }
def FnExactIsFrameUptoSaid : Prop := fnExactIsFrameUptoRow.holds Try.pinned (OpenSpec.upto fnExactIsFrameSpec)

end Rows
end Go.Proofs.Ytagkjljaemfieaa
