/-
  No cell of these rows narrows 'for every input' (looked for: loops, veiled, ifaces, maps, wideKeys, modest, calm, conditions, laid).
  DERIVED. THE GIVEN ROWS OF THIS SEAT. 5 by the template 'for every input the law returns true; each argument reads behind the call as it read before'; 0 by the template 'total and deterministic' (their statements: YtmfpedmchhfpfaaTotals.lean).
  GIVEN WITH THE SEED: the statements are not yours to turn. If you find one false, say at which input.
  Laid BY PROGRAM, IN A SANDBOX (cutbox-rows.mjs): the forced cells as the released guide's own fill.sh prints them over the translation 3f6c6e2d95c410eb… (all of the seat's roots in one cut). By AI agents, Wed Nov 11 2026. No macro, syntax, notation, axiom, sorry.
-/
import Derived.Test.YtmfpedmchhfpfaaChecked
import GoSem.Claim
import GoSem.ClaimJoined
import GoSem.ClaimMapViews
import Derived.JoinedTies
import Derived.KernelRfl
namespace Go.Proofs.Ytmfpedmchhfpfaa
/- THE CELL 'sum', in the pinned program and in every row, IS THE sha256 OF THE DUMP (.gsa) THAT YtmfpedmchhfpfaaProg.lean LOADS. Nothing in Lean hashes anything: it is a label: what it is worth is what the hold of that sum in a sandbox is worth. -/
noncomputable def Try.pinned : Pinned := { name := "ytmfpedmchhfpfaa", sum := "3f6c6e2d95c410ebb17791924f3e33cba0c83431a2d34e7194c0be740be8b637", checked := Try.checked }
namespace Rows
def none {H : Type} : Left H := { results := [], args := [] }

/-- 'laws.FnStrata': WHATEVER THE INPUT: true; the input reads as it did. -/
def fnStrataSpec : ChangeSpec := { name := "fnStrata", fn := fun _ => fun
  | [d] => { results := [.lit (.bool true)], args := [d] }
  | _ => none }
def fnStrataRow : OpenClaim := { program := "ytmfpedmchhfpfaa", sum := "3f6c6e2d95c410ebb17791924f3e33cba0c83431a2d34e7194c0be740be8b637", func := "loop.example/g03015/laws.FnStrata", spec := "fnStrata", apart := false }
def FnStrataSaid : Prop := fnStrataRow.holds Try.pinned (OpenSpec.ofChange fnStrataSpec)

/-- ITS FALSE NEIGHBOUR: 'it returns false'. Refute it at one input. -/
def fnStrataWrong : ChangeSpec := { name := "fnStrata", fn := fun _ => fun
  | [d] => { results := [.lit (.bool false)], args := [d] }
  | _ => none }
def FnStrataWrongFalsely : Prop := fnStrataRow.holds Try.pinned (OpenSpec.ofChange fnStrataWrong)

/-- 'laws.FnOneLabel': WHATEVER THE INPUT: true; the input reads as it did. -/
def fnOneLabelSpec : ChangeSpec := { name := "fnOneLabel", fn := fun _ => fun
  | [d] => { results := [.lit (.bool true)], args := [d] }
  | _ => none }
def fnOneLabelRow : OpenClaim := { program := "ytmfpedmchhfpfaa", sum := "3f6c6e2d95c410ebb17791924f3e33cba0c83431a2d34e7194c0be740be8b637", func := "loop.example/g03015/laws.FnOneLabel", spec := "fnOneLabel", apart := false }
def FnOneLabelSaid : Prop := fnOneLabelRow.holds Try.pinned (OpenSpec.ofChange fnOneLabelSpec)

/-- ITS FALSE NEIGHBOUR: 'it returns false'. Refute it at one input. -/
def fnOneLabelWrong : ChangeSpec := { name := "fnOneLabel", fn := fun _ => fun
  | [d] => { results := [.lit (.bool false)], args := [d] }
  | _ => none }
def FnOneLabelWrongFalsely : Prop := fnOneLabelRow.holds Try.pinned (OpenSpec.ofChange fnOneLabelWrong)

/-- 'laws.FnBelieved': WHATEVER THE INPUT: true; the input reads as it did. -/
def fnBelievedSpec : ChangeSpec := { name := "fnBelieved", fn := fun _ => fun
  | [d] => { results := [.lit (.bool true)], args := [d] }
  | _ => none }
def fnBelievedRow : OpenClaim := { program := "ytmfpedmchhfpfaa", sum := "3f6c6e2d95c410ebb17791924f3e33cba0c83431a2d34e7194c0be740be8b637", func := "loop.example/g03015/laws.FnBelieved", spec := "fnBelieved", apart := false }
def FnBelievedSaid : Prop := fnBelievedRow.holds Try.pinned (OpenSpec.ofChange fnBelievedSpec)

/-- ITS FALSE NEIGHBOUR: 'it returns false'. Refute it at one input. -/
def fnBelievedWrong : ChangeSpec := { name := "fnBelieved", fn := fun _ => fun
  | [d] => { results := [.lit (.bool false)], args := [d] }
  | _ => none }
def FnBelievedWrongFalsely : Prop := fnBelievedRow.holds Try.pinned (OpenSpec.ofChange fnBelievedWrong)

/-- 'laws.FnWithdrawn': WHATEVER THE INPUT: true; the input reads as it did. -/
def fnWithdrawnSpec : ChangeSpec := { name := "fnWithdrawn", fn := fun _ => fun
  | [d] => { results := [.lit (.bool true)], args := [d] }
  | _ => none }
def fnWithdrawnRow : OpenClaim := { program := "ytmfpedmchhfpfaa", sum := "3f6c6e2d95c410ebb17791924f3e33cba0c83431a2d34e7194c0be740be8b637", func := "loop.example/g03015/laws.FnWithdrawn", spec := "fnWithdrawn", apart := false }
def FnWithdrawnSaid : Prop := fnWithdrawnRow.holds Try.pinned (OpenSpec.ofChange fnWithdrawnSpec)

/-- ITS FALSE NEIGHBOUR: 'it returns false'. Refute it at one input. -/
def fnWithdrawnWrong : ChangeSpec := { name := "fnWithdrawn", fn := fun _ => fun
  | [d] => { results := [.lit (.bool false)], args := [d] }
  | _ => none }
def FnWithdrawnWrongFalsely : Prop := fnWithdrawnRow.holds Try.pinned (OpenSpec.ofChange fnWithdrawnWrong)

/-- 'laws.FnFounded': WHATEVER THE INPUT: true; the input reads as it did. -/
def fnFoundedSpec : ChangeSpec := { name := "fnFounded", fn := fun _ => fun
  | [d] => { results := [.lit (.bool true)], args := [d] }
  | _ => none }
def fnFoundedRow : OpenClaim := { program := "ytmfpedmchhfpfaa", sum := "3f6c6e2d95c410ebb17791924f3e33cba0c83431a2d34e7194c0be740be8b637", func := "loop.example/g03015/laws.FnFounded", spec := "fnFounded", recurses := true, apart := false }
def FnFoundedSaid : Prop := fnFoundedRow.holds Try.pinned (OpenSpec.ofChange fnFoundedSpec)

/-- ITS FALSE NEIGHBOUR: 'it returns false'. Refute it at one input. -/
def fnFoundedWrong : ChangeSpec := { name := "fnFounded", fn := fun _ => fun
  | [d] => { results := [.lit (.bool false)], args := [d] }
  | _ => none }
def FnFoundedWrongFalsely : Prop := fnFoundedRow.holds Try.pinned (OpenSpec.ofChange fnFoundedWrong)

/- THE SECOND FORM. 'bulk': how many values and letters a reading holds, each counted each time it is reached (what is shared counts as often as it is met; a slice's spare places count too). A statement '..UptoSaid' is the law's where the arguments, and the package variables that the reading takes, are together of bulk at most 1048576: NARROWER than '..Said'. Prove '..Said' where nothing that the law and all that it calls make is longer than what came in: it says more and counts as full. Else prove '..UptoSaid'. A law counts once. -/
mutual
def uptoBulk {H : Type} : DataW H → Nat
  | .lit (.string bytes) => bytes.length + 1
  | .lit _ => 1
  | .nil => 1
  | .ptr d => uptoBulk d + 1
  | .slice elems spare => uptoBulkAll elems + uptoBulkAll spare + 1
  | .agg parts => uptoBulkAll parts + 1
  | .iface _ d => uptoBulk d + 1
  | .map entries => uptoBulkEntries entries + 1
  | .held _ => 1
def uptoBulkAll {H : Type} : List (DataW H) → Nat
  | [] => 0
  | d :: r => uptoBulk d + uptoBulkAll r
def uptoBulkEntries {H : Type} : List (Lit × DataW H) → Nat
  | [] => 0
  | x :: r => uptoBulkEntry x + uptoBulkEntries r
def uptoBulkEntry {H : Type} : Lit × DataW H → Nat
  | (.string bytes, d) => bytes.length + uptoBulk d + 1
  | (_, d) => uptoBulk d + 1
 end
def uptoSmall : (H : Type) → List (DataW H) → Bool := fun _ ds => decide (uptoBulkAll ds ≤ 1048576)
def OpenSpec.upto (s : _root_.Go.ChangeSpec) : _root_.Go.OpenSpec := { _root_.Go.OpenSpec.ofChange s with cond := some uptoSmall }

/-- 'laws.FnStrata', WHERE WHAT IT READS IS OF BULK AT MOST 1048576: true; the input reads as it did. -/
def fnStrataUptoRow : OpenClaim := { program := "ytmfpedmchhfpfaa", sum := "3f6c6e2d95c410ebb17791924f3e33cba0c83431a2d34e7194c0be740be8b637", func := "loop.example/g03015/laws.FnStrata", spec := "fnStrata", apart := false, narrowed := true }
def FnStrataUptoSaid : Prop := fnStrataUptoRow.holds Try.pinned (OpenSpec.upto fnStrataSpec)

/-- 'laws.FnOneLabel', WHERE WHAT IT READS IS OF BULK AT MOST 1048576: true; the input reads as it did. -/
def fnOneLabelUptoRow : OpenClaim := { program := "ytmfpedmchhfpfaa", sum := "3f6c6e2d95c410ebb17791924f3e33cba0c83431a2d34e7194c0be740be8b637", func := "loop.example/g03015/laws.FnOneLabel", spec := "fnOneLabel", apart := false, narrowed := true }
def FnOneLabelUptoSaid : Prop := fnOneLabelUptoRow.holds Try.pinned (OpenSpec.upto fnOneLabelSpec)

/-- 'laws.FnBelieved', WHERE WHAT IT READS IS OF BULK AT MOST 1048576: true; the input reads as it did. -/
def fnBelievedUptoRow : OpenClaim := { program := "ytmfpedmchhfpfaa", sum := "3f6c6e2d95c410ebb17791924f3e33cba0c83431a2d34e7194c0be740be8b637", func := "loop.example/g03015/laws.FnBelieved", spec := "fnBelieved", apart := false, narrowed := true }
def FnBelievedUptoSaid : Prop := fnBelievedUptoRow.holds Try.pinned (OpenSpec.upto fnBelievedSpec)

/-- 'laws.FnWithdrawn', WHERE WHAT IT READS IS OF BULK AT MOST 1048576: true; the input reads as it did. -/
def fnWithdrawnUptoRow : OpenClaim := { program := "ytmfpedmchhfpfaa", sum := "3f6c6e2d95c410ebb17791924f3e33cba0c83431a2d34e7194c0be740be8b637", func := "loop.example/g03015/laws.FnWithdrawn", spec := "fnWithdrawn", apart := false, narrowed := true }
def FnWithdrawnUptoSaid : Prop := fnWithdrawnUptoRow.holds Try.pinned (OpenSpec.upto fnWithdrawnSpec)

/-- 'laws.FnFounded', WHERE WHAT IT READS IS OF BULK AT MOST 1048576: true; the input reads as it did. -/
def fnFoundedUptoRow : OpenClaim := { program := "ytmfpedmchhfpfaa", sum := "3f6c6e2d95c410ebb17791924f3e33cba0c83431a2d34e7194c0be740be8b637", func := "loop.example/g03015/laws.FnFounded", spec := "fnFounded", recurses := true, apart := false, narrowed := true }
def FnFoundedUptoSaid : Prop := fnFoundedUptoRow.holds Try.pinned (OpenSpec.upto fnFoundedSpec)

end Rows
end Go.Proofs.Ytmfpedmchhfpfaa
