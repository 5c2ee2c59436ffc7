/-
  No cell of these rows narrows 'for every input' (looked for: loops, veiled, ifaces, maps, wideKeys, modest, calm, conditions, laid).
  DERIVED. THE GIVEN ROWS OF THIS SEAT. 3 by the template 'for every input the law returns true; each argument reads behind the call as it read before'; 0 by the template 'total and deterministic' (their statements: YtkdghbglefhcjaaTotals.lean).
  GIVEN WITH THE SEED: the statements are not yours to turn. If you find one false, say at which input.
  Laid BY PROGRAM, IN A SANDBOX (cutbox-rows.mjs): the forced cells as the released guide's own fill.sh prints them over the translation ee57b0e7bcab62ab… (all of the seat's roots in one cut). By AI agents, Wed Nov 11 2026. No macro, syntax, notation, axiom, sorry.
-/
import Derived.Test.YtkdghbglefhcjaaChecked
import GoSem.Claim
import GoSem.ClaimJoined
import GoSem.ClaimMapViews
import Derived.JoinedTies
import Derived.KernelRfl
namespace Go.Proofs.Ytkdghbglefhcjaa
/- THE CELL 'sum', in the pinned program and in every row, IS THE sha256 OF THE DUMP (.gsa) THAT YtkdghbglefhcjaaProg.lean LOADS. Nothing in Lean hashes anything: it is a label: what it is worth is what the hold of that sum in a sandbox is worth. -/
noncomputable def Try.pinned : Pinned := { name := "ytkdghbglefhcjaa", sum := "ee57b0e7bcab62abbb8c40141f2992a5bd9d830b0acdb256ebc59fbdbaa7698e", checked := Try.checked }
namespace Rows
def none {H : Type} : Left H := { results := [], args := [] }

/-- 'laws.FnCulprits': WHATEVER THE INPUT: true; the input reads as it did. -/
def fnCulpritsSpec : ChangeSpec := { name := "fnCulprits", fn := fun _ => fun
  | [d] => { results := [.lit (.bool true)], args := [d] }
  | _ => none }
def fnCulpritsRow : OpenClaim := { program := "ytkdghbglefhcjaa", sum := "ee57b0e7bcab62abbb8c40141f2992a5bd9d830b0acdb256ebc59fbdbaa7698e", func := "loop.example/g03015/laws.FnCulprits", spec := "fnCulprits", recurses := true, apart := false }
def FnCulpritsSaid : Prop := fnCulpritsRow.holds Try.pinned (OpenSpec.ofChange fnCulpritsSpec)

/-- ITS FALSE NEIGHBOUR: 'it returns false'. Refute it at one input. -/
def fnCulpritsWrong : ChangeSpec := { name := "fnCulprits", fn := fun _ => fun
  | [d] => { results := [.lit (.bool false)], args := [d] }
  | _ => none }
def FnCulpritsWrongFalsely : Prop := fnCulpritsRow.holds Try.pinned (OpenSpec.ofChange fnCulpritsWrong)

/-- 'laws.FnNoClash': WHATEVER THE INPUT: true; the input reads as it did. -/
def fnNoClashSpec : ChangeSpec := { name := "fnNoClash", fn := fun _ => fun
  | [d] => { results := [.lit (.bool true)], args := [d] }
  | _ => none }
def fnNoClashRow : OpenClaim := { program := "ytkdghbglefhcjaa", sum := "ee57b0e7bcab62abbb8c40141f2992a5bd9d830b0acdb256ebc59fbdbaa7698e", func := "loop.example/g03015/laws.FnNoClash", spec := "fnNoClash", inPlace := ["internal/reflectlite.ValueOf", "internal/reflectlite.Swapper", "(internal/reflectlite.Value).Len"], unfollowed := true, recurses := true, apart := false }
def FnNoClashSaid : Prop := fnNoClashRow.holds Try.pinned (OpenSpec.ofChange fnNoClashSpec)

/-- ITS FALSE NEIGHBOUR: 'it returns false'. Refute it at one input. -/
def fnNoClashWrong : ChangeSpec := { name := "fnNoClash", fn := fun _ => fun
  | [d] => { results := [.lit (.bool false)], args := [d] }
  | _ => none }
def FnNoClashWrongFalsely : Prop := fnNoClashRow.holds Try.pinned (OpenSpec.ofChange fnNoClashWrong)

/-- 'laws.FnRepaired': WHATEVER THE INPUT: true; the input reads as it did. -/
def fnRepairedSpec : ChangeSpec := { name := "fnRepaired", fn := fun _ => fun
  | [d] => { results := [.lit (.bool true)], args := [d] }
  | _ => none }
def fnRepairedRow : OpenClaim := { program := "ytkdghbglefhcjaa", sum := "ee57b0e7bcab62abbb8c40141f2992a5bd9d830b0acdb256ebc59fbdbaa7698e", func := "loop.example/g03015/laws.FnRepaired", spec := "fnRepaired", inPlace := ["internal/reflectlite.ValueOf", "internal/reflectlite.Swapper", "(internal/reflectlite.Value).Len"], unfollowed := true, recurses := true, apart := false }
def FnRepairedSaid : Prop := fnRepairedRow.holds Try.pinned (OpenSpec.ofChange fnRepairedSpec)

/-- ITS FALSE NEIGHBOUR: 'it returns false'. Refute it at one input. -/
def fnRepairedWrong : ChangeSpec := { name := "fnRepaired", fn := fun _ => fun
  | [d] => { results := [.lit (.bool false)], args := [d] }
  | _ => none }
def FnRepairedWrongFalsely : Prop := fnRepairedRow.holds Try.pinned (OpenSpec.ofChange fnRepairedWrong)

/- THE SECOND FORM. 'bulk': how many values and letters a reading holds, each counted each time it is reached (what is shared counts as often as it is met; a slice's spare places count too). A statement '..UptoSaid' is the law's where the arguments, and the package variables that the reading takes, are together of bulk at most 1048576: NARROWER than '..Said'. Prove '..Said' where nothing that the law and all that it calls make is longer than what came in: it says more and counts as full. Else prove '..UptoSaid'. A law counts once. -/
mutual
def uptoBulk {H : Type} : DataW H → Nat
  | .lit (.string bytes) => bytes.length + 1
  | .lit _ => 1
  | .nil => 1
  | .ptr d => uptoBulk d + 1
  | .slice elems spare => uptoBulkAll elems + uptoBulkAll spare + 1
  | .agg parts => uptoBulkAll parts + 1
  | .iface _ d => uptoBulk d + 1
  | .map entries => uptoBulkEntries entries + 1
  | .held _ => 1
def uptoBulkAll {H : Type} : List (DataW H) → Nat
  | [] => 0
  | d :: r => uptoBulk d + uptoBulkAll r
def uptoBulkEntries {H : Type} : List (Lit × DataW H) → Nat
  | [] => 0
  | x :: r => uptoBulkEntry x + uptoBulkEntries r
def uptoBulkEntry {H : Type} : Lit × DataW H → Nat
  | (.string bytes, d) => bytes.length + uptoBulk d + 1
  | (_, d) => uptoBulk d + 1
 end
def uptoSmall : (H : Type) → List (DataW H) → Bool := fun _ ds => decide (uptoBulkAll ds ≤ 1048576)
def OpenSpec.upto (s : _root_.Go.ChangeSpec) : _root_.Go.OpenSpec := { _root_.Go.OpenSpec.ofChange s with cond := some uptoSmall }

/-- 'laws.FnCulprits', WHERE WHAT IT READS IS OF BULK AT MOST 1048576: true; the input reads as it did. -/
def fnCulpritsUptoRow : OpenClaim := { program := "ytkdghbglefhcjaa", sum := "ee57b0e7bcab62abbb8c40141f2992a5bd9d830b0acdb256ebc59fbdbaa7698e", func := "loop.example/g03015/laws.FnCulprits", spec := "fnCulprits", recurses := true, apart := false, narrowed := true }
def FnCulpritsUptoSaid : Prop := fnCulpritsUptoRow.holds Try.pinned (OpenSpec.upto fnCulpritsSpec)

/-- 'laws.FnNoClash', WHERE WHAT IT READS IS OF BULK AT MOST 1048576: true; the input reads as it did. -/
def fnNoClashUptoRow : OpenClaim := { program := "ytkdghbglefhcjaa", sum := "ee57b0e7bcab62abbb8c40141f2992a5bd9d830b0acdb256ebc59fbdbaa7698e", func := "loop.example/g03015/laws.FnNoClash", spec := "fnNoClash", inPlace := ["internal/reflectlite.ValueOf", "internal/reflectlite.Swapper", "(internal/reflectlite.Value).Len"], unfollowed := true, recurses := true, apart := false, narrowed := true }
def FnNoClashUptoSaid : Prop := fnNoClashUptoRow.holds Try.pinned (OpenSpec.upto fnNoClashSpec)

/-- 'laws.FnRepaired', WHERE WHAT IT READS IS OF BULK AT MOST 1048576: true; the input reads as it did. -/
def fnRepairedUptoRow : OpenClaim := { program := "ytkdghbglefhcjaa", sum := "ee57b0e7bcab62abbb8c40141f2992a5bd9d830b0acdb256ebc59fbdbaa7698e", func := "loop.example/g03015/laws.FnRepaired", spec := "fnRepaired", inPlace := ["internal/reflectlite.ValueOf", "internal/reflectlite.Swapper", "(internal/reflectlite.Value).Len"], unfollowed := true, recurses := true, apart := false, narrowed := true }
def FnRepairedUptoSaid : Prop := fnRepairedUptoRow.holds Try.pinned (OpenSpec.upto fnRepairedSpec)

end Rows
end Go.Proofs.Ytkdghbglefhcjaa
