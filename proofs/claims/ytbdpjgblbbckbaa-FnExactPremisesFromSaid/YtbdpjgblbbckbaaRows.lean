/-
  No cell of these rows narrows 'for every input' (looked for: loops, veiled, ifaces, maps, wideKeys, modest, calm, conditions, laid).
  DERIVED. THE GIVEN ROWS OF THIS SEAT. 6 by the template 'for every input the law returns true; each argument reads behind the call as it read before'; 0 by the template 'total and deterministic' (their statements: YtbdpjgblbbckbaaTotals.lean).
  GIVEN WITH THE SEED: the statements are not yours to turn. If you find one false, say at which input.
  Laid BY PROGRAM, IN A SANDBOX (cutbox-rows.mjs): the forced cells as the released guide's own fill.sh prints them over the translation 062571e70845a4de… (all of the seat's roots in one cut). By AI agents, Wed Nov 11 2026. No macro, syntax, notation, axiom, sorry.
-/
import Derived.Test.YtbdpjgblbbckbaaChecked
import GoSem.Claim
import GoSem.ClaimJoined
import GoSem.ClaimMapViews
import Derived.JoinedTies
import Derived.KernelRfl
namespace Go.Proofs.Ytbdpjgblbbckbaa
/- THE CELL 'sum', in the pinned program and in every row, IS THE sha256 OF THE DUMP (.gsa) THAT YtbdpjgblbbckbaaProg.lean LOADS. Nothing in Lean hashes anything: it is a label: what it is worth is what the hold of that sum in a sandbox is worth. -/
noncomputable def Try.pinned : Pinned := { name := "ytbdpjgblbbckbaa", sum := "062571e70845a4defca599b42132c3aff80da14563202ad0695b3f5ca02a5a6e", checked := Try.checked }
namespace Rows
def none {H : Type} : Left H := { results := [], args := [] }

/-- 'laws.FnExactPremisesFrom': WHATEVER THE INPUT: true; the input reads as it did. -/
def fnExactPremisesFromSpec : ChangeSpec := { name := "fnExactPremisesFrom", fn := fun _ => fun
  | [d] => { results := [.lit (.bool true)], args := [d] }
  | _ => none }
def fnExactPremisesFromRow : OpenClaim := { program := "ytbdpjgblbbckbaa", sum := "062571e70845a4defca599b42132c3aff80da14563202ad0695b3f5ca02a5a6e", func := "loop.example/g03015/laws.FnExactPremisesFrom", spec := "fnExactPremisesFrom", apart := false }
def FnExactPremisesFromSaid : Prop := fnExactPremisesFromRow.holds Try.pinned (OpenSpec.ofChange fnExactPremisesFromSpec)

/-- ITS FALSE NEIGHBOUR: 'it returns false'. Refute it at one input. -/
def fnExactPremisesFromWrong : ChangeSpec := { name := "fnExactPremisesFrom", fn := fun _ => fun
  | [d] => { results := [.lit (.bool false)], args := [d] }
  | _ => none }
def FnExactPremisesFromWrongFalsely : Prop := fnExactPremisesFromRow.holds Try.pinned (OpenSpec.ofChange fnExactPremisesFromWrong)

/-- 'laws.FnExactIsConsistent': WHATEVER THE INPUT: true; the input reads as it did. -/
def fnExactIsConsistentSpec : ChangeSpec := { name := "fnExactIsConsistent", fn := fun _ => fun
  | [d1, d2] => { results := [.lit (.bool true)], args := [d1, d2] }
  | _ => none }
def fnExactIsConsistentRow : OpenClaim := { program := "ytbdpjgblbbckbaa", sum := "062571e70845a4defca599b42132c3aff80da14563202ad0695b3f5ca02a5a6e", func := "loop.example/g03015/laws.FnExactIsConsistent", spec := "fnExactIsConsistent", apart := false }
def FnExactIsConsistentSaid : Prop := fnExactIsConsistentRow.holds Try.pinned (OpenSpec.ofChange fnExactIsConsistentSpec)

/-- ITS FALSE NEIGHBOUR: 'it returns false'. Refute it at one input. -/
def fnExactIsConsistentWrong : ChangeSpec := { name := "fnExactIsConsistent", fn := fun _ => fun
  | [d1, d2] => { results := [.lit (.bool false)], args := [d1, d2] }
  | _ => none }
def FnExactIsConsistentWrongFalsely : Prop := fnExactIsConsistentRow.holds Try.pinned (OpenSpec.ofChange fnExactIsConsistentWrong)

/-- 'laws.FnExactNodesUnder': WHATEVER THE INPUT: true; the input reads as it did. -/
def fnExactNodesUnderSpec : ChangeSpec := { name := "fnExactNodesUnder", fn := fun _ => fun
  | [d1, d2] => { results := [.lit (.bool true)], args := [d1, d2] }
  | _ => none }
def fnExactNodesUnderRow : OpenClaim := { program := "ytbdpjgblbbckbaa", sum := "062571e70845a4defca599b42132c3aff80da14563202ad0695b3f5ca02a5a6e", func := "loop.example/g03015/laws.FnExactNodesUnder", spec := "fnExactNodesUnder", apart := false }
def FnExactNodesUnderSaid : Prop := fnExactNodesUnderRow.holds Try.pinned (OpenSpec.ofChange fnExactNodesUnderSpec)

/-- ITS FALSE NEIGHBOUR: 'it returns false'. Refute it at one input. -/
def fnExactNodesUnderWrong : ChangeSpec := { name := "fnExactNodesUnder", fn := fun _ => fun
  | [d1, d2] => { results := [.lit (.bool false)], args := [d1, d2] }
  | _ => none }
def FnExactNodesUnderWrongFalsely : Prop := fnExactNodesUnderRow.holds Try.pinned (OpenSpec.ofChange fnExactNodesUnderWrong)

/-- 'laws.FnExactSupportOf': WHATEVER THE INPUT: true; the input reads as it did. -/
def fnExactSupportOfSpec : ChangeSpec := { name := "fnExactSupportOf", fn := fun _ => fun
  | [d1, d2] => { results := [.lit (.bool true)], args := [d1, d2] }
  | _ => none }
def fnExactSupportOfRow : OpenClaim := { program := "ytbdpjgblbbckbaa", sum := "062571e70845a4defca599b42132c3aff80da14563202ad0695b3f5ca02a5a6e", func := "loop.example/g03015/laws.FnExactSupportOf", spec := "fnExactSupportOf", apart := false }
def FnExactSupportOfSaid : Prop := fnExactSupportOfRow.holds Try.pinned (OpenSpec.ofChange fnExactSupportOfSpec)

/-- ITS FALSE NEIGHBOUR: 'it returns false'. Refute it at one input. -/
def fnExactSupportOfWrong : ChangeSpec := { name := "fnExactSupportOf", fn := fun _ => fun
  | [d1, d2] => { results := [.lit (.bool false)], args := [d1, d2] }
  | _ => none }
def FnExactSupportOfWrongFalsely : Prop := fnExactSupportOfRow.holds Try.pinned (OpenSpec.ofChange fnExactSupportOfWrong)

/-- 'laws.FnExactRoundsOf': WHATEVER THE INPUT: true; the input reads as it did. -/
def fnExactRoundsOfSpec : ChangeSpec := { name := "fnExactRoundsOf", fn := fun _ => fun
  | [d] => { results := [.lit (.bool true)], args := [d] }
  | _ => none }
def fnExactRoundsOfRow : OpenClaim := { program := "ytbdpjgblbbckbaa", sum := "062571e70845a4defca599b42132c3aff80da14563202ad0695b3f5ca02a5a6e", func := "loop.example/g03015/laws.FnExactRoundsOf", spec := "fnExactRoundsOf", apart := false }
def FnExactRoundsOfSaid : Prop := fnExactRoundsOfRow.holds Try.pinned (OpenSpec.ofChange fnExactRoundsOfSpec)

/-- ITS FALSE NEIGHBOUR: 'it returns false'. Refute it at one input. -/
def fnExactRoundsOfWrong : ChangeSpec := { name := "fnExactRoundsOf", fn := fun _ => fun
  | [d] => { results := [.lit (.bool false)], args := [d] }
  | _ => none }
def FnExactRoundsOfWrongFalsely : Prop := fnExactRoundsOfRow.holds Try.pinned (OpenSpec.ofChange fnExactRoundsOfWrong)

/-- 'laws.FnExactHoldsUnder': WHATEVER THE INPUT: true; the input reads as it did. -/
def fnExactHoldsUnderSpec : ChangeSpec := { name := "fnExactHoldsUnder", fn := fun _ => fun
  | [d1, d2, d3] => { results := [.lit (.bool true)], args := [d1, d2, d3] }
  | _ => none }
def fnExactHoldsUnderRow : OpenClaim := { program := "ytbdpjgblbbckbaa", sum := "062571e70845a4defca599b42132c3aff80da14563202ad0695b3f5ca02a5a6e", func := "loop.example/g03015/laws.FnExactHoldsUnder", spec := "fnExactHoldsUnder", apart := false }
def FnExactHoldsUnderSaid : Prop := fnExactHoldsUnderRow.holds Try.pinned (OpenSpec.ofChange fnExactHoldsUnderSpec)

/-- ITS FALSE NEIGHBOUR: 'it returns false'. Refute it at one input. -/
def fnExactHoldsUnderWrong : ChangeSpec := { name := "fnExactHoldsUnder", fn := fun _ => fun
  | [d1, d2, d3] => { results := [.lit (.bool false)], args := [d1, d2, d3] }
  | _ => none }
def FnExactHoldsUnderWrongFalsely : Prop := fnExactHoldsUnderRow.holds Try.pinned (OpenSpec.ofChange fnExactHoldsUnderWrong)

/- THE SECOND FORM. 'bulk': how many values and letters a reading holds, each counted each time it is reached (what is shared counts as often as it is met; a slice's spare places count too). A statement '..UptoSaid' is the law's where the arguments, and the package variables that the reading takes, are together of bulk at most 1048576: NARROWER than '..Said'. Prove '..Said' where nothing that the law and all that it calls make is longer than what came in: it says more and counts as full. Else prove '..UptoSaid'. A law counts once. -/
mutual
def uptoBulk {H : Type} : DataW H → Nat
  | .lit (.string bytes) => bytes.length + 1
  | .lit _ => 1
  | .nil => 1
  | .ptr d => uptoBulk d + 1
  | .slice elems spare => uptoBulkAll elems + uptoBulkAll spare + 1
  | .agg parts => uptoBulkAll parts + 1
  | .iface _ d => uptoBulk d + 1
  | .map entries => uptoBulkEntries entries + 1
  | .held _ => 1
def uptoBulkAll {H : Type} : List (DataW H) → Nat
  | [] => 0
  | d :: r => uptoBulk d + uptoBulkAll r
def uptoBulkEntries {H : Type} : List (Lit × DataW H) → Nat
  | [] => 0
  | x :: r => uptoBulkEntry x + uptoBulkEntries r
def uptoBulkEntry {H : Type} : Lit × DataW H → Nat
  | (.string bytes, d) => bytes.length + uptoBulk d + 1
  | (_, d) => uptoBulk d + 1
 end
def uptoSmall : (H : Type) → List (DataW H) → Bool := fun _ ds => decide (uptoBulkAll ds ≤ 1048576)
def OpenSpec.upto (s : _root_.Go.ChangeSpec) : _root_.Go.OpenSpec := { _root_.Go.OpenSpec.ofChange s with cond := some uptoSmall }

/-- 'laws.FnExactPremisesFrom', WHERE WHAT IT READS IS OF BULK AT MOST 1048576: true; the input reads as it did. -/
def fnExactPremisesFromUptoRow : OpenClaim := { program := "ytbdpjgblbbckbaa", sum := "062571e70845a4defca599b42132c3aff80da14563202ad0695b3f5ca02a5a6e", func := "loop.example/g03015/laws.FnExactPremisesFrom", spec := "fnExactPremisesFrom", apart := false, narrowed := true }
def FnExactPremisesFromUptoSaid : Prop := fnExactPremisesFromUptoRow.holds Try.pinned (OpenSpec.upto fnExactPremisesFromSpec)

/-- 'laws.FnExactIsConsistent', WHERE WHAT IT READS IS OF BULK AT MOST 1048576: true; the input reads as it did. -/
def fnExactIsConsistentUptoRow : OpenClaim := { program := "ytbdpjgblbbckbaa", sum := "062571e70845a4defca599b42132c3aff80da14563202ad0695b3f5ca02a5a6e", func := "loop.example/g03015/laws.FnExactIsConsistent", spec := "fnExactIsConsistent", apart := false, narrowed := true }
def FnExactIsConsistentUptoSaid : Prop := fnExactIsConsistentUptoRow.holds Try.pinned (OpenSpec.upto fnExactIsConsistentSpec)

/-- 'laws.FnExactNodesUnder', WHERE WHAT IT READS IS OF BULK AT MOST 1048576: true; the input reads as it did. -/
def fnExactNodesUnderUptoRow : OpenClaim := { program := "ytbdpjgblbbckbaa", sum := "062571e70845a4defca599b42132c3aff80da14563202ad0695b3f5ca02a5a6e", func := "loop.example/g03015/laws.FnExactNodesUnder", spec := "fnExactNodesUnder", apart := false, narrowed := true }
def FnExactNodesUnderUptoSaid : Prop := fnExactNodesUnderUptoRow.holds Try.pinned (OpenSpec.upto fnExactNodesUnderSpec)

/-- 'laws.FnExactSupportOf', WHERE WHAT IT READS IS OF BULK AT MOST 1048576: true; the input reads as it did. -/
def fnExactSupportOfUptoRow : OpenClaim := { program := "ytbdpjgblbbckbaa", sum := "062571e70845a4defca599b42132c3aff80da14563202ad0695b3f5ca02a5a6e", func := "loop.example/g03015/laws.FnExactSupportOf", spec := "fnExactSupportOf", apart := false, narrowed := true }
def FnExactSupportOfUptoSaid : Prop := fnExactSupportOfUptoRow.holds Try.pinned (OpenSpec.upto fnExactSupportOfSpec)

/-- 'laws.FnExactRoundsOf', WHERE WHAT IT READS IS OF BULK AT MOST 1048576: true; the input reads as it did. -/
def fnExactRoundsOfUptoRow : OpenClaim := { program := "ytbdpjgblbbckbaa", sum := "062571e70845a4defca599b42132c3aff80da14563202ad0695b3f5ca02a5a6e", func := "loop.example/g03015/laws.FnExactRoundsOf", spec := "fnExactRoundsOf", apart := false, narrowed := true }
def FnExactRoundsOfUptoSaid : Prop := fnExactRoundsOfUptoRow.holds Try.pinned (OpenSpec.upto fnExactRoundsOfSpec)

/-- 'laws.FnExactHoldsUnder', WHERE WHAT IT READS IS OF BULK AT MOST 1048576: true; the input reads as it did. -/
def fnExactHoldsUnderUptoRow : OpenClaim := { program := "ytbdpjgblbbckbaa", sum := "062571e70845a4defca599b42132c3aff80da14563202ad0695b3f5ca02a5a6e", func := "loop.example/g03015/laws.FnExactHoldsUnder", spec := "fnExactHoldsUnder", apart := false, narrowed := true }
def FnExactHoldsUnderUptoSaid : Prop := fnExactHoldsUnderUptoRow.holds Try.pinned (OpenSpec.upto fnExactHoldsUnderSpec)

end Rows
end Go.Proofs.Ytbdpjgblbbckbaa
