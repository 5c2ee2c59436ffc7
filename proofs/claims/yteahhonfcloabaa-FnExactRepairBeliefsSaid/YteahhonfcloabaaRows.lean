/-
  No cell of these rows narrows 'for every input' (looked for: loops, veiled, ifaces, maps, wideKeys, modest, calm, conditions, laid).
  DERIVED. THE GIVEN ROWS OF THIS SEAT. 6 by the template 'for every input the law returns true; each argument reads behind the call as it read before'; 0 by the template 'total and deterministic' (their statements: YteahhonfcloabaaTotals.lean).
  GIVEN WITH THE SEED: the statements are not yours to turn. If you find one false, say at which input.
  Laid BY PROGRAM, IN A SANDBOX (cutbox-rows.mjs): the forced cells as the released guide's own fill.sh prints them over the translation d75f001549859bf3… (all of the seat's roots in one cut). By AI agents, Wed Nov 11 2026. No macro, syntax, notation, axiom, sorry.
-/
import Derived.Test.YteahhonfcloabaaChecked
import GoSem.Claim
import GoSem.ClaimJoined
import GoSem.ClaimMapViews
import Derived.JoinedTies
import Derived.KernelRfl
namespace Go.Proofs.Yteahhonfcloabaa
/- THE CELL 'sum', in the pinned program and in every row, IS THE sha256 OF THE DUMP (.gsa) THAT YteahhonfcloabaaProg.lean LOADS. Nothing in Lean hashes anything: it is a label: what it is worth is what the hold of that sum in a sandbox is worth. -/
noncomputable def Try.pinned : Pinned := { name := "yteahhonfcloabaa", sum := "d75f001549859bf328d3d4abf35e327dd5cfa148e3f54c0e517a2672e71346bc", checked := Try.checked }
namespace Rows
def none {H : Type} : Left H := { results := [], args := [] }

/-- 'laws.FnExactCulpritsOf': WHATEVER THE INPUT: true; the input reads as it did. -/
def fnExactCulpritsOfSpec : ChangeSpec := { name := "fnExactCulpritsOf", fn := fun _ => fun
  | [d1, d2, d3] => { results := [.lit (.bool true)], args := [d1, d2, d3] }
  | _ => none }
def fnExactCulpritsOfRow : OpenClaim := { program := "yteahhonfcloabaa", sum := "d75f001549859bf328d3d4abf35e327dd5cfa148e3f54c0e517a2672e71346bc", func := "loop.example/g03015/laws.FnExactCulpritsOf", spec := "fnExactCulpritsOf", recurses := true, apart := false }
def FnExactCulpritsOfSaid : Prop := fnExactCulpritsOfRow.holds Try.pinned (OpenSpec.ofChange fnExactCulpritsOfSpec)

/-- ITS FALSE NEIGHBOUR: 'it returns false'. Refute it at one input. -/
def fnExactCulpritsOfWrong : ChangeSpec := { name := "fnExactCulpritsOf", fn := fun _ => fun
  | [d1, d2, d3] => { results := [.lit (.bool false)], args := [d1, d2, d3] }
  | _ => none }
def FnExactCulpritsOfWrongFalsely : Prop := fnExactCulpritsOfRow.holds Try.pinned (OpenSpec.ofChange fnExactCulpritsOfWrong)

/-- 'laws.FnExactIsRepair': WHATEVER THE INPUT: true; the input reads as it did. -/
def fnExactIsRepairSpec : ChangeSpec := { name := "fnExactIsRepair", fn := fun _ => fun
  | [d1, d2, d3, d4] => { results := [.lit (.bool true)], args := [d1, d2, d3, d4] }
  | _ => none }
def fnExactIsRepairRow : OpenClaim := { program := "yteahhonfcloabaa", sum := "d75f001549859bf328d3d4abf35e327dd5cfa148e3f54c0e517a2672e71346bc", func := "loop.example/g03015/laws.FnExactIsRepair", spec := "fnExactIsRepair", apart := false }
def FnExactIsRepairSaid : Prop := fnExactIsRepairRow.holds Try.pinned (OpenSpec.ofChange fnExactIsRepairSpec)

/-- ITS FALSE NEIGHBOUR: 'it returns false'. Refute it at one input. -/
def fnExactIsRepairWrong : ChangeSpec := { name := "fnExactIsRepair", fn := fun _ => fun
  | [d1, d2, d3, d4] => { results := [.lit (.bool false)], args := [d1, d2, d3, d4] }
  | _ => none }
def FnExactIsRepairWrongFalsely : Prop := fnExactIsRepairRow.holds Try.pinned (OpenSpec.ofChange fnExactIsRepairWrong)

/-- 'laws.FnExactFirstRepair': WHATEVER THE INPUT: true; the input reads as it did. -/
def fnExactFirstRepairSpec : ChangeSpec := { name := "fnExactFirstRepair", fn := fun _ => fun
  | [d1, d2, d3] => { results := [.lit (.bool true)], args := [d1, d2, d3] }
  | _ => none }
def fnExactFirstRepairRow : OpenClaim := { program := "yteahhonfcloabaa", sum := "d75f001549859bf328d3d4abf35e327dd5cfa148e3f54c0e517a2672e71346bc", func := "loop.example/g03015/laws.FnExactFirstRepair", spec := "fnExactFirstRepair", inPlace := ["internal/reflectlite.ValueOf", "internal/reflectlite.Swapper", "(internal/reflectlite.Value).Len"], unfollowed := true, recurses := true, apart := false }
def FnExactFirstRepairSaid : Prop := fnExactFirstRepairRow.holds Try.pinned (OpenSpec.ofChange fnExactFirstRepairSpec)

/-- ITS FALSE NEIGHBOUR: 'it returns false'. Refute it at one input. -/
def fnExactFirstRepairWrong : ChangeSpec := { name := "fnExactFirstRepair", fn := fun _ => fun
  | [d1, d2, d3] => { results := [.lit (.bool false)], args := [d1, d2, d3] }
  | _ => none }
def FnExactFirstRepairWrongFalsely : Prop := fnExactFirstRepairRow.holds Try.pinned (OpenSpec.ofChange fnExactFirstRepairWrong)

/-- 'laws.FnExactBlamedOf': WHATEVER THE INPUT: true; the input reads as it did. -/
def fnExactBlamedOfSpec : ChangeSpec := { name := "fnExactBlamedOf", fn := fun _ => fun
  | [d1, d2, d3] => { results := [.lit (.bool true)], args := [d1, d2, d3] }
  | _ => none }
def fnExactBlamedOfRow : OpenClaim := { program := "yteahhonfcloabaa", sum := "d75f001549859bf328d3d4abf35e327dd5cfa148e3f54c0e517a2672e71346bc", func := "loop.example/g03015/laws.FnExactBlamedOf", spec := "fnExactBlamedOf", inPlace := ["internal/reflectlite.ValueOf", "internal/reflectlite.Swapper", "(internal/reflectlite.Value).Len"], unfollowed := true, recurses := true, apart := false }
def FnExactBlamedOfSaid : Prop := fnExactBlamedOfRow.holds Try.pinned (OpenSpec.ofChange fnExactBlamedOfSpec)

/-- ITS FALSE NEIGHBOUR: 'it returns false'. Refute it at one input. -/
def fnExactBlamedOfWrong : ChangeSpec := { name := "fnExactBlamedOf", fn := fun _ => fun
  | [d1, d2, d3] => { results := [.lit (.bool false)], args := [d1, d2, d3] }
  | _ => none }
def FnExactBlamedOfWrongFalsely : Prop := fnExactBlamedOfRow.holds Try.pinned (OpenSpec.ofChange fnExactBlamedOfWrong)

/-- 'laws.FnExactLeastRepairs': WHATEVER THE INPUT: true; the input reads as it did. -/
def fnExactLeastRepairsSpec : ChangeSpec := { name := "fnExactLeastRepairs", fn := fun _ => fun
  | [d1, d2, d3] => { results := [.lit (.bool true)], args := [d1, d2, d3] }
  | _ => none }
def fnExactLeastRepairsRow : OpenClaim := { program := "yteahhonfcloabaa", sum := "d75f001549859bf328d3d4abf35e327dd5cfa148e3f54c0e517a2672e71346bc", func := "loop.example/g03015/laws.FnExactLeastRepairs", spec := "fnExactLeastRepairs", inPlace := ["internal/reflectlite.ValueOf", "internal/reflectlite.Swapper", "(internal/reflectlite.Value).Len"], unfollowed := true, recurses := true, apart := false }
def FnExactLeastRepairsSaid : Prop := fnExactLeastRepairsRow.holds Try.pinned (OpenSpec.ofChange fnExactLeastRepairsSpec)

/-- ITS FALSE NEIGHBOUR: 'it returns false'. Refute it at one input. -/
def fnExactLeastRepairsWrong : ChangeSpec := { name := "fnExactLeastRepairs", fn := fun _ => fun
  | [d1, d2, d3] => { results := [.lit (.bool false)], args := [d1, d2, d3] }
  | _ => none }
def FnExactLeastRepairsWrongFalsely : Prop := fnExactLeastRepairsRow.holds Try.pinned (OpenSpec.ofChange fnExactLeastRepairsWrong)

/-- 'laws.FnExactRepairBeliefs': WHATEVER THE INPUT: true; the input reads as it did. -/
def fnExactRepairBeliefsSpec : ChangeSpec := { name := "fnExactRepairBeliefs", fn := fun _ => fun
  | [d1, d2, d3] => { results := [.lit (.bool true)], args := [d1, d2, d3] }
  | _ => none }
def fnExactRepairBeliefsRow : OpenClaim := { program := "yteahhonfcloabaa", sum := "d75f001549859bf328d3d4abf35e327dd5cfa148e3f54c0e517a2672e71346bc", func := "loop.example/g03015/laws.FnExactRepairBeliefs", spec := "fnExactRepairBeliefs", inPlace := ["internal/reflectlite.ValueOf", "internal/reflectlite.Swapper", "(internal/reflectlite.Value).Len"], unfollowed := true, recurses := true, apart := false }
def FnExactRepairBeliefsSaid : Prop := fnExactRepairBeliefsRow.holds Try.pinned (OpenSpec.ofChange fnExactRepairBeliefsSpec)

/-- ITS FALSE NEIGHBOUR: 'it returns false'. Refute it at one input. -/
def fnExactRepairBeliefsWrong : ChangeSpec := { name := "fnExactRepairBeliefs", fn := fun _ => fun
  | [d1, d2, d3] => { results := [.lit (.bool false)], args := [d1, d2, d3] }
  | _ => none }
def FnExactRepairBeliefsWrongFalsely : Prop := fnExactRepairBeliefsRow.holds Try.pinned (OpenSpec.ofChange fnExactRepairBeliefsWrong)

/- THE SECOND FORM. 'bulk': how many values and letters a reading holds, each counted each time it is reached (what is shared counts as often as it is met; a slice's spare places count too). A statement '..UptoSaid' is the law's where the arguments, and the package variables that the reading takes, are together of bulk at most 1048576: NARROWER than '..Said'. Prove '..Said' where nothing that the law and all that it calls make is longer than what came in: it says more and counts as full. Else prove '..UptoSaid'. A law counts once. -/
mutual
def uptoBulk {H : Type} : DataW H → Nat
  | .lit (.string bytes) => bytes.length + 1
  | .lit _ => 1
  | .nil => 1
  | .ptr d => uptoBulk d + 1
  | .slice elems spare => uptoBulkAll elems + uptoBulkAll spare + 1
  | .agg parts => uptoBulkAll parts + 1
  | .iface _ d => uptoBulk d + 1
  | .map entries => uptoBulkEntries entries + 1
  | .held _ => 1
def uptoBulkAll {H : Type} : List (DataW H) → Nat
  | [] => 0
  | d :: r => uptoBulk d + uptoBulkAll r
def uptoBulkEntries {H : Type} : List (Lit × DataW H) → Nat
  | [] => 0
  | x :: r => uptoBulkEntry x + uptoBulkEntries r
def uptoBulkEntry {H : Type} : Lit × DataW H → Nat
  | (.string bytes, d) => bytes.length + uptoBulk d + 1
  | (_, d) => uptoBulk d + 1
 end
def uptoSmall : (H : Type) → List (DataW H) → Bool := fun _ ds => decide (uptoBulkAll ds ≤ 1048576)
def OpenSpec.upto (s : _root_.Go.ChangeSpec) : _root_.Go.OpenSpec := { _root_.Go.OpenSpec.ofChange s with cond := some uptoSmall }

/-- 'laws.FnExactCulpritsOf', WHERE WHAT IT READS IS OF BULK AT MOST 1048576: true; the input reads as it did. -/
def fnExactCulpritsOfUptoRow : OpenClaim := { program := "yteahhonfcloabaa", sum := "d75f001549859bf328d3d4abf35e327dd5cfa148e3f54c0e517a2672e71346bc", func := "loop.example/g03015/laws.FnExactCulpritsOf", spec := "fnExactCulpritsOf", recurses := true, apart := false, narrowed := true }
def FnExactCulpritsOfUptoSaid : Prop := fnExactCulpritsOfUptoRow.holds Try.pinned (OpenSpec.upto fnExactCulpritsOfSpec)

/-- 'laws.FnExactIsRepair', WHERE WHAT IT READS IS OF BULK AT MOST 1048576: true; the input reads as it did. -/
def fnExactIsRepairUptoRow : OpenClaim := { program := "yteahhonfcloabaa", sum := "d75f001549859bf328d3d4abf35e327dd5cfa148e3f54c0e517a2672e71346bc", func := "loop.example/g03015/laws.FnExactIsRepair", spec := "fnExactIsRepair", apart := false, narrowed := true }
def FnExactIsRepairUptoSaid : Prop := fnExactIsRepairUptoRow.holds Try.pinned (OpenSpec.upto fnExactIsRepairSpec)

/-- 'laws.FnExactFirstRepair', WHERE WHAT IT READS IS OF BULK AT MOST 1048576: true; the input reads as it did. -/
def fnExactFirstRepairUptoRow : OpenClaim := { program := "yteahhonfcloabaa", sum := "d75f001549859bf328d3d4abf35e327dd5cfa148e3f54c0e517a2672e71346bc", func := "loop.example/g03015/laws.FnExactFirstRepair", spec := "fnExactFirstRepair", inPlace := ["internal/reflectlite.ValueOf", "internal/reflectlite.Swapper", "(internal/reflectlite.Value).Len"], unfollowed := true, recurses := true, apart := false, narrowed := true }
def FnExactFirstRepairUptoSaid : Prop := fnExactFirstRepairUptoRow.holds Try.pinned (OpenSpec.upto fnExactFirstRepairSpec)

/-- 'laws.FnExactBlamedOf', WHERE WHAT IT READS IS OF BULK AT MOST 1048576: true; the input reads as it did. -/
def fnExactBlamedOfUptoRow : OpenClaim := { program := "yteahhonfcloabaa", sum := "d75f001549859bf328d3d4abf35e327dd5cfa148e3f54c0e517a2672e71346bc", func := "loop.example/g03015/laws.FnExactBlamedOf", spec := "fnExactBlamedOf", inPlace := ["internal/reflectlite.ValueOf", "internal/reflectlite.Swapper", "(internal/reflectlite.Value).Len"], unfollowed := true, recurses := true, apart := false, narrowed := true }
def FnExactBlamedOfUptoSaid : Prop := fnExactBlamedOfUptoRow.holds Try.pinned (OpenSpec.upto fnExactBlamedOfSpec)

/-- 'laws.FnExactLeastRepairs', WHERE WHAT IT READS IS OF BULK AT MOST 1048576: true; the input reads as it did. -/
def fnExactLeastRepairsUptoRow : OpenClaim := { program := "yteahhonfcloabaa", sum := "d75f001549859bf328d3d4abf35e327dd5cfa148e3f54c0e517a2672e71346bc", func := "loop.example/g03015/laws.FnExactLeastRepairs", spec := "fnExactLeastRepairs", inPlace := ["internal/reflectlite.ValueOf", "internal/reflectlite.Swapper", "(internal/reflectlite.Value).Len"], unfollowed := true, recurses := true, apart := false, narrowed := true }
def FnExactLeastRepairsUptoSaid : Prop := fnExactLeastRepairsUptoRow.holds Try.pinned (OpenSpec.upto fnExactLeastRepairsSpec)

/-- 'laws.FnExactRepairBeliefs', WHERE WHAT IT READS IS OF BULK AT MOST 1048576: true; the input reads as it did. -/
def fnExactRepairBeliefsUptoRow : OpenClaim := { program := "yteahhonfcloabaa", sum := "d75f001549859bf328d3d4abf35e327dd5cfa148e3f54c0e517a2672e71346bc", func := "loop.example/g03015/laws.FnExactRepairBeliefs", spec := "fnExactRepairBeliefs", inPlace := ["internal/reflectlite.ValueOf", "internal/reflectlite.Swapper", "(internal/reflectlite.Value).Len"], unfollowed := true, recurses := true, apart := false, narrowed := true }
def FnExactRepairBeliefsUptoSaid : Prop := fnExactRepairBeliefsUptoRow.holds Try.pinned (OpenSpec.upto fnExactRepairBeliefsSpec)

end Rows
end Go.Proofs.Yteahhonfcloabaa
