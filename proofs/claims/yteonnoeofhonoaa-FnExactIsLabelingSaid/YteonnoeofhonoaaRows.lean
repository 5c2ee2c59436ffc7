/-
  No cell of these rows narrows 'for every input' (looked for: loops, veiled, ifaces, maps, wideKeys, modest, calm, conditions, laid).
  DERIVED. THE GIVEN ROWS OF THIS SEAT. 6 by the template 'for every input the law returns true; each argument reads behind the call as it read before'; 0 by the template 'total and deterministic' (their statements: YteonnoeofhonoaaTotals.lean).
  GIVEN WITH THE SEED: the statements are not yours to turn. If you find one false, say at which input.
  Laid BY PROGRAM, IN A SANDBOX (cutbox-rows.mjs): the forced cells as the released guide's own fill.sh prints them over the translation b8a986bd0e99989a… (all of the seat's roots in one cut). By AI agents, Wed Nov 11 2026. No macro, syntax, notation, axiom, sorry.
-/
import Derived.Test.YteonnoeofhonoaaChecked
import GoSem.Claim
import GoSem.ClaimJoined
import GoSem.ClaimMapViews
import Derived.JoinedTies
import Derived.KernelRfl
namespace Go.Proofs.Yteonnoeofhonoaa
/- THE CELL 'sum', in the pinned program and in every row, IS THE sha256 OF THE DUMP (.gsa) THAT YteonnoeofhonoaaProg.lean LOADS. Nothing in Lean hashes anything: it is a label: what it is worth is what the hold of that sum in a sandbox is worth. -/
noncomputable def Try.pinned : Pinned := { name := "yteonnoeofhonoaa", sum := "b8a986bd0e99989a09866835b858f4c3692b2883543e95ae8a7e116b942ef0c6", checked := Try.checked }
namespace Rows
def none {H : Type} : Left H := { results := [], args := [] }

/-- 'laws.FnExactDropReasons': WHATEVER THE INPUT: true; the input reads as it did. -/
def fnExactDropReasonsSpec : ChangeSpec := { name := "fnExactDropReasons", fn := fun _ => fun
  | [d1, d2] => { results := [.lit (.bool true)], args := [d1, d2] }
  | _ => none }
def fnExactDropReasonsRow : OpenClaim := { program := "yteonnoeofhonoaa", sum := "b8a986bd0e99989a09866835b858f4c3692b2883543e95ae8a7e116b942ef0c6", func := "loop.example/g03015/laws.FnExactDropReasons", spec := "fnExactDropReasons", apart := false }
def FnExactDropReasonsSaid : Prop := fnExactDropReasonsRow.holds Try.pinned (OpenSpec.ofChange fnExactDropReasonsSpec)

/-- ITS FALSE NEIGHBOUR: 'it returns false'. Refute it at one input. -/
def fnExactDropReasonsWrong : ChangeSpec := { name := "fnExactDropReasons", fn := fun _ => fun
  | [d1, d2] => { results := [.lit (.bool false)], args := [d1, d2] }
  | _ => none }
def FnExactDropReasonsWrongFalsely : Prop := fnExactDropReasonsRow.holds Try.pinned (OpenSpec.ofChange fnExactDropReasonsWrong)

/-- 'laws.FnExactIsStratified': WHATEVER THE INPUT: true; the input reads as it did. -/
def fnExactIsStratifiedSpec : ChangeSpec := { name := "fnExactIsStratified", fn := fun _ => fun
  | [d] => { results := [.lit (.bool true)], args := [d] }
  | _ => none }
def fnExactIsStratifiedRow : OpenClaim := { program := "yteonnoeofhonoaa", sum := "b8a986bd0e99989a09866835b858f4c3692b2883543e95ae8a7e116b942ef0c6", func := "loop.example/g03015/laws.FnExactIsStratified", spec := "fnExactIsStratified", apart := false }
def FnExactIsStratifiedSaid : Prop := fnExactIsStratifiedRow.holds Try.pinned (OpenSpec.ofChange fnExactIsStratifiedSpec)

/-- ITS FALSE NEIGHBOUR: 'it returns false'. Refute it at one input. -/
def fnExactIsStratifiedWrong : ChangeSpec := { name := "fnExactIsStratified", fn := fun _ => fun
  | [d] => { results := [.lit (.bool false)], args := [d] }
  | _ => none }
def FnExactIsStratifiedWrongFalsely : Prop := fnExactIsStratifiedRow.holds Try.pinned (OpenSpec.ofChange fnExactIsStratifiedWrong)

/-- 'laws.FnExactAddReason': WHATEVER THE INPUT: true; the input reads as it did. -/
def fnExactAddReasonSpec : ChangeSpec := { name := "fnExactAddReason", fn := fun _ => fun
  | [d1, d2] => { results := [.lit (.bool true)], args := [d1, d2] }
  | _ => none }
def fnExactAddReasonRow : OpenClaim := { program := "yteonnoeofhonoaa", sum := "b8a986bd0e99989a09866835b858f4c3692b2883543e95ae8a7e116b942ef0c6", func := "loop.example/g03015/laws.FnExactAddReason", spec := "fnExactAddReason", apart := false }
def FnExactAddReasonSaid : Prop := fnExactAddReasonRow.holds Try.pinned (OpenSpec.ofChange fnExactAddReasonSpec)

/-- ITS FALSE NEIGHBOUR: 'it returns false'. Refute it at one input. -/
def fnExactAddReasonWrong : ChangeSpec := { name := "fnExactAddReason", fn := fun _ => fun
  | [d1, d2] => { results := [.lit (.bool false)], args := [d1, d2] }
  | _ => none }
def FnExactAddReasonWrongFalsely : Prop := fnExactAddReasonRow.holds Try.pinned (OpenSpec.ofChange fnExactAddReasonWrong)

/-- 'laws.FnExactIsCase': WHATEVER THE INPUT: true; the input reads as it did. -/
def fnExactIsCaseSpec : ChangeSpec := { name := "fnExactIsCase", fn := fun _ => fun
  | [d1, d2, d3] => { results := [.lit (.bool true)], args := [d1, d2, d3] }
  | _ => none }
def fnExactIsCaseRow : OpenClaim := { program := "yteonnoeofhonoaa", sum := "b8a986bd0e99989a09866835b858f4c3692b2883543e95ae8a7e116b942ef0c6", func := "loop.example/g03015/laws.FnExactIsCase", spec := "fnExactIsCase", apart := false }
def FnExactIsCaseSaid : Prop := fnExactIsCaseRow.holds Try.pinned (OpenSpec.ofChange fnExactIsCaseSpec)

/-- ITS FALSE NEIGHBOUR: 'it returns false'. Refute it at one input. -/
def fnExactIsCaseWrong : ChangeSpec := { name := "fnExactIsCase", fn := fun _ => fun
  | [d1, d2, d3] => { results := [.lit (.bool false)], args := [d1, d2, d3] }
  | _ => none }
def FnExactIsCaseWrongFalsely : Prop := fnExactIsCaseRow.holds Try.pinned (OpenSpec.ofChange fnExactIsCaseWrong)

/-- 'laws.FnExactIsLabeling': WHATEVER THE INPUT: true; the input reads as it did. -/
def fnExactIsLabelingSpec : ChangeSpec := { name := "fnExactIsLabeling", fn := fun _ => fun
  | [d1, d2] => { results := [.lit (.bool true)], args := [d1, d2] }
  | _ => none }
def fnExactIsLabelingRow : OpenClaim := { program := "yteonnoeofhonoaa", sum := "b8a986bd0e99989a09866835b858f4c3692b2883543e95ae8a7e116b942ef0c6", func := "loop.example/g03015/laws.FnExactIsLabeling", spec := "fnExactIsLabeling", apart := false }
def FnExactIsLabelingSaid : Prop := fnExactIsLabelingRow.holds Try.pinned (OpenSpec.ofChange fnExactIsLabelingSpec)

/-- ITS FALSE NEIGHBOUR: 'it returns false'. Refute it at one input. -/
def fnExactIsLabelingWrong : ChangeSpec := { name := "fnExactIsLabeling", fn := fun _ => fun
  | [d1, d2] => { results := [.lit (.bool false)], args := [d1, d2] }
  | _ => none }
def FnExactIsLabelingWrongFalsely : Prop := fnExactIsLabelingRow.holds Try.pinned (OpenSpec.ofChange fnExactIsLabelingWrong)

/-- 'laws.FnExactStrataOf': WHATEVER THE INPUT: true; the input reads as it did. -/
def fnExactStrataOfSpec : ChangeSpec := { name := "fnExactStrataOf", fn := fun _ => fun
  | [d] => { results := [.lit (.bool true)], args := [d] }
  | _ => none }
def fnExactStrataOfRow : OpenClaim := { program := "yteonnoeofhonoaa", sum := "b8a986bd0e99989a09866835b858f4c3692b2883543e95ae8a7e116b942ef0c6", func := "loop.example/g03015/laws.FnExactStrataOf", spec := "fnExactStrataOf", apart := false }
def FnExactStrataOfSaid : Prop := fnExactStrataOfRow.holds Try.pinned (OpenSpec.ofChange fnExactStrataOfSpec)

/-- ITS FALSE NEIGHBOUR: 'it returns false'. Refute it at one input. -/
def fnExactStrataOfWrong : ChangeSpec := { name := "fnExactStrataOf", fn := fun _ => fun
  | [d] => { results := [.lit (.bool false)], args := [d] }
  | _ => none }
def FnExactStrataOfWrongFalsely : Prop := fnExactStrataOfRow.holds Try.pinned (OpenSpec.ofChange fnExactStrataOfWrong)

/- THE SECOND FORM. 'bulk': how many values and letters a reading holds, each counted each time it is reached (what is shared counts as often as it is met; a slice's spare places count too). A statement '..UptoSaid' is the law's where the arguments, and the package variables that the reading takes, are together of bulk at most 1048576: NARROWER than '..Said'. Prove '..Said' where nothing that the law and all that it calls make is longer than what came in: it says more and counts as full. Else prove '..UptoSaid'. A law counts once. -/
mutual
def uptoBulk {H : Type} : DataW H → Nat
  | .lit (.string bytes) => bytes.length + 1
  | .lit _ => 1
  | .nil => 1
  | .ptr d => uptoBulk d + 1
  | .slice elems spare => uptoBulkAll elems + uptoBulkAll spare + 1
  | .agg parts => uptoBulkAll parts + 1
  | .iface _ d => uptoBulk d + 1
  | .map entries => uptoBulkEntries entries + 1
  | .held _ => 1
def uptoBulkAll {H : Type} : List (DataW H) → Nat
  | [] => 0
  | d :: r => uptoBulk d + uptoBulkAll r
def uptoBulkEntries {H : Type} : List (Lit × DataW H) → Nat
  | [] => 0
  | x :: r => uptoBulkEntry x + uptoBulkEntries r
def uptoBulkEntry {H : Type} : Lit × DataW H → Nat
  | (.string bytes, d) => bytes.length + uptoBulk d + 1
  | (_, d) => uptoBulk d + 1
 end
def uptoSmall : (H : Type) → List (DataW H) → Bool := fun _ ds => decide (uptoBulkAll ds ≤ 1048576)
def OpenSpec.upto (s : _root_.Go.ChangeSpec) : _root_.Go.OpenSpec := { _root_.Go.OpenSpec.ofChange s with cond := some uptoSmall }

/-- 'laws.FnExactDropReasons', WHERE WHAT IT READS IS OF BULK AT MOST 1048576: true; the input reads as it did. -/
def fnExactDropReasonsUptoRow : OpenClaim := { program := "yteonnoeofhonoaa", sum := "b8a986bd0e99989a09866835b858f4c3692b2883543e95ae8a7e116b942ef0c6", func := "loop.example/g03015/laws.FnExactDropReasons", spec := "fnExactDropReasons", apart := false, narrowed := true }
def FnExactDropReasonsUptoSaid : Prop := fnExactDropReasonsUptoRow.holds Try.pinned (OpenSpec.upto fnExactDropReasonsSpec)

/-- 'laws.FnExactIsStratified', WHERE WHAT IT READS IS OF BULK AT MOST 1048576: true; the input reads as it did. -/
def fnExactIsStratifiedUptoRow : OpenClaim := { program := "yteonnoeofhonoaa", sum := "b8a986bd0e99989a09866835b858f4c3692b2883543e95ae8a7e116b942ef0c6", func := "loop.example/g03015/laws.FnExactIsStratified", spec := "fnExactIsStratified", apart := false, narrowed := true }
def FnExactIsStratifiedUptoSaid : Prop := fnExactIsStratifiedUptoRow.holds Try.pinned (OpenSpec.upto fnExactIsStratifiedSpec)

/-- 'laws.FnExactAddReason', WHERE WHAT IT READS IS OF BULK AT MOST 1048576: true; the input reads as it did. -/
def fnExactAddReasonUptoRow : OpenClaim := { program := "yteonnoeofhonoaa", sum := "b8a986bd0e99989a09866835b858f4c3692b2883543e95ae8a7e116b942ef0c6", func := "loop.example/g03015/laws.FnExactAddReason", spec := "fnExactAddReason", apart := false, narrowed := true }
def FnExactAddReasonUptoSaid : Prop := fnExactAddReasonUptoRow.holds Try.pinned (OpenSpec.upto fnExactAddReasonSpec)

/-- 'laws.FnExactIsCase', WHERE WHAT IT READS IS OF BULK AT MOST 1048576: true; the input reads as it did. -/
def fnExactIsCaseUptoRow : OpenClaim := { program := "yteonnoeofhonoaa", sum := "b8a986bd0e99989a09866835b858f4c3692b2883543e95ae8a7e116b942ef0c6", func := "loop.example/g03015/laws.FnExactIsCase", spec := "fnExactIsCase", apart := false, narrowed := true }
def FnExactIsCaseUptoSaid : Prop := fnExactIsCaseUptoRow.holds Try.pinned (OpenSpec.upto fnExactIsCaseSpec)

/-- 'laws.FnExactIsLabeling', WHERE WHAT IT READS IS OF BULK AT MOST 1048576: true; the input reads as it did. -/
def fnExactIsLabelingUptoRow : OpenClaim := { program := "yteonnoeofhonoaa", sum := "b8a986bd0e99989a09866835b858f4c3692b2883543e95ae8a7e116b942ef0c6", func := "loop.example/g03015/laws.FnExactIsLabeling", spec := "fnExactIsLabeling", apart := false, narrowed := true }
def FnExactIsLabelingUptoSaid : Prop := fnExactIsLabelingUptoRow.holds Try.pinned (OpenSpec.upto fnExactIsLabelingSpec)

/-- 'laws.FnExactStrataOf', WHERE WHAT IT READS IS OF BULK AT MOST 1048576: true; the input reads as it did. -/
def fnExactStrataOfUptoRow : OpenClaim := { program := "yteonnoeofhonoaa", sum := "b8a986bd0e99989a09866835b858f4c3692b2883543e95ae8a7e116b942ef0c6", func := "loop.example/g03015/laws.FnExactStrataOf", spec := "fnExactStrataOf", apart := false, narrowed := true }
def FnExactStrataOfUptoSaid : Prop := fnExactStrataOfUptoRow.holds Try.pinned (OpenSpec.upto fnExactStrataOfSpec)

end Rows
end Go.Proofs.Yteonnoeofhonoaa
