/-
  No cell of these rows narrows 'for every input' (looked for: loops, veiled, ifaces, maps, wideKeys, modest, calm, conditions, laid).
  DERIVED. THE GIVEN ROWS OF THIS SEAT. 3 by the template 'for every input the law returns true; each argument reads behind the call as it read before'; 0 by the template 'total and deterministic' (their statements: YtamkdpknhaninaaTotals.lean).
  GIVEN WITH THE SEED: the statements are not yours to turn. If you find one false, say at which input.
  Laid BY PROGRAM, IN A SANDBOX (cutbox-rows.mjs): the forced cells as the released guide's own fill.sh prints them over the translation 09f2df932b02afb7… (all of the seat's roots in one cut). By AI agents, Wed Nov 11 2026. No macro, syntax, notation, axiom, sorry.
-/
import Derived.Test.YtamkdpknhaninaaChecked
import GoSem.Claim
import GoSem.ClaimJoined
import GoSem.ClaimMapViews
import Derived.JoinedTies
import Derived.KernelRfl
namespace Go.Proofs.Ytamkdpknhaninaa
/- THE CELL 'sum', in the pinned program and in every row, IS THE sha256 OF THE DUMP (.gsa) THAT YtamkdpknhaninaaProg.lean LOADS. Nothing in Lean hashes anything: it is a label: what it is worth is what the hold of that sum in a sandbox is worth. -/
noncomputable def Try.pinned : Pinned := { name := "ytamkdpknhaninaa", sum := "09f2df932b02afb7a2557c5da21b506bfd3062bebf38c19174d95aa0823d04bc", checked := Try.checked }
namespace Rows
def none {H : Type} : Left H := { results := [], args := [] }

/-- 'laws.FnExactIsEvent': WHATEVER THE INPUT: true; the input reads as it did. -/
def fnExactIsEventSpec : ChangeSpec := { name := "fnExactIsEvent", fn := fun _ => fun
  | [d] => { results := [.lit (.bool true)], args := [d] }
  | _ => none }
def fnExactIsEventRow : OpenClaim := { program := "ytamkdpknhaninaa", sum := "09f2df932b02afb7a2557c5da21b506bfd3062bebf38c19174d95aa0823d04bc", func := "loop.example/g03015/laws.FnExactIsEvent", spec := "fnExactIsEvent", apart := false }
def FnExactIsEventSaid : Prop := fnExactIsEventRow.holds Try.pinned (OpenSpec.ofChange fnExactIsEventSpec)

/-- ITS FALSE NEIGHBOUR: 'it returns false'. Refute it at one input. -/
def fnExactIsEventWrong : ChangeSpec := { name := "fnExactIsEvent", fn := fun _ => fun
  | [d] => { results := [.lit (.bool false)], args := [d] }
  | _ => none }
def FnExactIsEventWrongFalsely : Prop := fnExactIsEventRow.holds Try.pinned (OpenSpec.ofChange fnExactIsEventWrong)

/-- 'laws.FnExactFormatEvent': WHATEVER THE INPUT: true; the input reads as it did. -/
def fnExactFormatEventSpec : ChangeSpec := { name := "fnExactFormatEvent", fn := fun _ => fun
  | [d] => { results := [.lit (.bool true)], args := [d] }
  | _ => none }
def fnExactFormatEventRow : OpenClaim := { program := "ytamkdpknhaninaa", sum := "09f2df932b02afb7a2557c5da21b506bfd3062bebf38c19174d95aa0823d04bc", func := "loop.example/g03015/laws.FnExactFormatEvent", spec := "fnExactFormatEvent", inPlace := ["internal/abi.NoEscape", "internal/bytealg.MakeNoZero"], apart := false }
def FnExactFormatEventSaid : Prop := fnExactFormatEventRow.holds Try.pinned (OpenSpec.ofChange fnExactFormatEventSpec)

/-- ITS FALSE NEIGHBOUR: 'it returns false'. Refute it at one input. -/
def fnExactFormatEventWrong : ChangeSpec := { name := "fnExactFormatEvent", fn := fun _ => fun
  | [d] => { results := [.lit (.bool false)], args := [d] }
  | _ => none }
def FnExactFormatEventWrongFalsely : Prop := fnExactFormatEventRow.holds Try.pinned (OpenSpec.ofChange fnExactFormatEventWrong)

/-- 'laws.FnExactSameEngine': WHATEVER THE INPUT: true; the input reads as it did. -/
def fnExactSameEngineSpec : ChangeSpec := { name := "fnExactSameEngine", fn := fun _ => fun
  | [d1, d2] => { results := [.lit (.bool true)], args := [d1, d2] }
  | _ => none }
def fnExactSameEngineRow : OpenClaim := { program := "ytamkdpknhaninaa", sum := "09f2df932b02afb7a2557c5da21b506bfd3062bebf38c19174d95aa0823d04bc", func := "loop.example/g03015/laws.FnExactSameEngine", spec := "fnExactSameEngine", apart := false }
def FnExactSameEngineSaid : Prop := fnExactSameEngineRow.holds Try.pinned (OpenSpec.ofChange fnExactSameEngineSpec)

/-- ITS FALSE NEIGHBOUR: 'it returns false'. Refute it at one input. -/
def fnExactSameEngineWrong : ChangeSpec := { name := "fnExactSameEngine", fn := fun _ => fun
  | [d1, d2] => { results := [.lit (.bool false)], args := [d1, d2] }
  | _ => none }
def FnExactSameEngineWrongFalsely : Prop := fnExactSameEngineRow.holds Try.pinned (OpenSpec.ofChange fnExactSameEngineWrong)

/- THE SECOND FORM. 'bulk': how many values and letters a reading holds, each counted each time it is reached (what is shared counts as often as it is met; a slice's spare places count too). A statement '..UptoSaid' is the law's where the arguments, and the package variables that the reading takes, are together of bulk at most 1048576: NARROWER than '..Said'. Prove '..Said' where nothing that the law and all that it calls make is longer than what came in: it says more and counts as full. Else prove '..UptoSaid'. A law counts once. -/
mutual
def uptoBulk {H : Type} : DataW H → Nat
  | .lit (.string bytes) => bytes.length + 1
  | .lit _ => 1
  | .nil => 1
  | .ptr d => uptoBulk d + 1
  | .slice elems spare => uptoBulkAll elems + uptoBulkAll spare + 1
  | .agg parts => uptoBulkAll parts + 1
  | .iface _ d => uptoBulk d + 1
  | .map entries => uptoBulkEntries entries + 1
  | .held _ => 1
def uptoBulkAll {H : Type} : List (DataW H) → Nat
  | [] => 0
  | d :: r => uptoBulk d + uptoBulkAll r
def uptoBulkEntries {H : Type} : List (Lit × DataW H) → Nat
  | [] => 0
  | x :: r => uptoBulkEntry x + uptoBulkEntries r
def uptoBulkEntry {H : Type} : Lit × DataW H → Nat
  | (.string bytes, d) => bytes.length + uptoBulk d + 1
  | (_, d) => uptoBulk d + 1
 end
def uptoSmall : (H : Type) → List (DataW H) → Bool := fun _ ds => decide (uptoBulkAll ds ≤ 1048576)
def OpenSpec.upto (s : _root_.Go.ChangeSpec) : _root_.Go.OpenSpec := { _root_.Go.OpenSpec.ofChange s with cond := some uptoSmall }

/-- 'laws.FnExactIsEvent', WHERE WHAT IT READS IS OF BULK AT MOST 1048576: true; the input reads as it did. -/
def fnExactIsEventUptoRow : OpenClaim := { program := "ytamkdpknhaninaa", sum := "09f2df932b02afb7a2557c5da21b506bfd3062bebf38c19174d95aa0823d04bc", func := "loop.example/g03015/laws.FnExactIsEvent", spec := "fnExactIsEvent", apart := false, narrowed := true }
def FnExactIsEventUptoSaid : Prop := fnExactIsEventUptoRow.holds Try.pinned (OpenSpec.upto fnExactIsEventSpec)

/-- 'laws.FnExactFormatEvent', WHERE WHAT IT READS IS OF BULK AT MOST 1048576: true; the input reads as it did. -/
def fnExactFormatEventUptoRow : OpenClaim := { program := "ytamkdpknhaninaa", sum := "09f2df932b02afb7a2557c5da21b506bfd3062bebf38c19174d95aa0823d04bc", func := "loop.example/g03015/laws.FnExactFormatEvent", spec := "fnExactFormatEvent", inPlace := ["internal/abi.NoEscape", "internal/bytealg.MakeNoZero"], apart := false, narrowed := true }
def FnExactFormatEventUptoSaid : Prop := fnExactFormatEventUptoRow.holds Try.pinned (OpenSpec.upto fnExactFormatEventSpec)

/-- 'laws.FnExactSameEngine', WHERE WHAT IT READS IS OF BULK AT MOST 1048576: true; the input reads as it did. -/
def fnExactSameEngineUptoRow : OpenClaim := { program := "ytamkdpknhaninaa", sum := "09f2df932b02afb7a2557c5da21b506bfd3062bebf38c19174d95aa0823d04bc", func := "loop.example/g03015/laws.FnExactSameEngine", spec := "fnExactSameEngine", apart := false, narrowed := true }
def FnExactSameEngineUptoSaid : Prop := fnExactSameEngineUptoRow.holds Try.pinned (OpenSpec.upto fnExactSameEngineSpec)

end Rows
end Go.Proofs.Ytamkdpknhaninaa
