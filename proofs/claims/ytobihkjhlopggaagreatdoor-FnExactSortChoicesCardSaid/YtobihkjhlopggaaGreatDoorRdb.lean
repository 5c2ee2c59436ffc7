/-
  How the arguments of the laws read.
  Conditions: none.
-/
import Derived.Test.YtobihkjhlopggaaGreatDoorRow
import Derived.Test.YtobihkjhlopggaaGreatDoorTypes
namespace Go.Sy
open Go Go.Proofs Go.ChangeShapes Go.WideShapes Go.ChangeAt Go.RowKit Go.Deep
theorem laidOut : laidOutB Tryz.prog = true := by kernel_rfl
theorem len_1 {α : Type} {l : List α} (h : l.length = 1) : ∃ a, l = [a] := List.length_eq_one_iff.1 h
def structOf (P : Program) (t : Nat) : Option Nat := match P.underlying t with | some (.struct _) => some (P.cellsOf t) | _ => none
def fieldOf (P : Program) (t i : Nat) : Option (Nat × Nat × Nat) := match P.underlying t with | some (.struct fs) => (fs[i]?).map (fun f => (f.type, f.offset, P.cellsOf f.type)) | _ => none
theorem trod_fields {H : Type} {enc : TypeId × Value → H} {P : Program} {w : World} {base : Nat} {spare : Nat → Bool} {held : Bool} {fuel t k : Nat} {cs : List Value} {x : DataW H × List MemPlace} (hk : structOf P t = some k) (h : DataW.trod enc P w base spare held fuel t cs = some x) :
  cs.length = k ∧ ∀ i ft off sz, fieldOf P t i = some (ft, off, sz) → ∃ n y, DataW.trod enc P w base spare held n ft ((cs.drop off).take sz) = some y := by
 unfold structOf at hk
 split at hk
 ·rename_i fs hu;simp only [Option.some.injEq] at hk;obtain ⟨xs, n, _, _, hlen, hxl, hf⟩ := DataW.trod_struct hu h;refine ⟨hlen.trans hk, fun i ft off sz hi => ?_⟩;unfold fieldOf at hi;rw [hu] at hi;simp only [Option.map_eq_some_iff, Prod.mk.injEq] at hi;obtain ⟨f, hfi, rfl, rfl, rfl⟩ := hi;have hlt : i < xs.length := by rw [hxl]; exact (Array.getElem?_eq_some_iff.1 hfi).1
  exact ⟨n, xs[i], (hf i f hfi).trans (List.getElem?_eq_getElem hlt)⟩
 ·cases hk
def fieldsOf (P : Program) (t : Nat) : Array Field := match P.underlying t with | some (.struct fs) => fs | _ => #[]
def fieldAt (P : Program) (t i : Nat) : Field := (fieldsOf P t).getD i default
instance : Dk Go.Sy.Fact := ⟨fun r => Dk.ok r.Rel ∧ Dk.ok r.Args⟩
instance : Dk Go.Sy.Pattern := ⟨fun r => Dk.ok r.Rel ∧ Dk.ok r.Args⟩
instance : Dk Go.Sy.Pair := ⟨fun r => Dk.ok r.Var ∧ Dk.ok r.Value⟩
instance : Dk Go.Sy.Event := ⟨fun r => Dk.ok r.Kind ∧ Dk.ok r.Rule ∧ Dk.ok r.Fact⟩
instance : Dk Go.Sy.Cond := ⟨fun r => Dk.ok r.Kind ∧ Dk.ok r.Pattern ∧ Dk.ok r.Left ∧ Dk.ok r.Right⟩
instance : Dk Go.Sy.Action := ⟨fun r => Dk.ok r.Kind ∧ Dk.ok r.Pattern⟩
instance : Dk Go.Sy.Rule := ⟨fun r => Dk.ok r.Name ∧ Dk.ok r.Priority ∧ Dk.ok r.If ∧ Dk.ok r.Then⟩
instance : Dk Go.Sy.Stamp := ⟨fun r => Dk.ok r.Fact ∧ Dk.ok r.Time⟩
instance : Dk Go.Sy.Firing := ⟨fun r => Dk.ok r.Rule ∧ Dk.ok r.Times⟩
instance : Dk Go.Sy.Engine := ⟨fun r => Dk.ok r.Rules ∧ Dk.ok r.Memory ∧ Dk.ok r.Clock ∧ Dk.ok r.Fired ∧ Dk.ok r.Halted ∧ Dk.ok r.Log⟩
instance : Dk Go.Sy.Match := ⟨fun r => Dk.ok r.Rule ∧ Dk.ok r.Facts ∧ Dk.ok r.Binding⟩
instance : Dk Go.Sy.Choice := ⟨fun r => Dk.ok r.Match ∧ Dk.ok r.Priority ∧ Dk.ok r.Times ∧ Dk.ok r.Specific ∧ Dk.ok r.Order⟩
theorem rdb9 : Rdb Tryz.prog 9 ByteArray := rdb_string (by kernel_rfl)
theorem rdb105 : Rdb Tryz.prog 105 (List ByteArray) := rdb_list (α := ByteArray) (e := 9) (by kernel_rfl) (by kernel_rfl) rdb9
theorem rdb107 : Rdb Tryz.prog 107 Go.Sy.Fact := by
 intro H enc w base spare held fuel cs x h;obtain ⟨hlen, hf⟩ := trod_fields (k := 2) (by kernel_rfl) h
 match cs, hlen with
 | [c0, c1], _ =>
  obtain ⟨n0, y0, g0⟩ := hf 0 9 0 1 (by kernel_rfl);obtain ⟨a0, r0, o0⟩ := rdb9 H enc w base spare held n0 _ _ g0;obtain ⟨n1, y1, g1⟩ := hf 1 105 1 1 (by kernel_rfl);obtain ⟨a1, r1, o1⟩ := rdb105 H enc w base spare held n1 _ _ g1;exact ⟨⟨a0, a1⟩, ⟨[c0], [c1], rfl, r0, r1⟩, ⟨o0, o1⟩⟩
theorem rdb204 : Rdb Tryz.prog 204 Go.Sy.Pair := by
 intro H enc w base spare held fuel cs x h;obtain ⟨hlen, hf⟩ := trod_fields (k := 2) (by kernel_rfl) h
 match cs, hlen with
 | [c0, c1], _ =>
  obtain ⟨n0, y0, g0⟩ := hf 0 9 0 1 (by kernel_rfl);obtain ⟨a0, r0, o0⟩ := rdb9 H enc w base spare held n0 _ _ g0;obtain ⟨n1, y1, g1⟩ := hf 1 9 1 1 (by kernel_rfl);obtain ⟨a1, r1, o1⟩ := rdb9 H enc w base spare held n1 _ _ g1;exact ⟨⟨a0, a1⟩, ⟨[c0], [c1], rfl, r0, r1⟩, ⟨o0, o1⟩⟩
theorem rdb3 : Rdb Tryz.prog 3 Int := rdb_int (by kernel_rfl)
theorem rdb26 : Rdb Tryz.prog 26 (List Int) := rdb_list (α := Int) (e := 3) (by kernel_rfl) (by kernel_rfl) rdb3
theorem rdb22 : Rdb Tryz.prog 22 (List Fact) := rdb_list (α := Fact) (e := 107) (by kernel_rfl) (by kernel_rfl) rdb107
theorem rdb23 : Rdb Tryz.prog 23 (List Pair) := rdb_list (α := Pair) (e := 204) (by kernel_rfl) (by kernel_rfl) rdb204
theorem rdb25 : Rdb Tryz.prog 25 Go.Sy.Match := by
 intro H enc w base spare held fuel cs x h;obtain ⟨hlen, hf⟩ := trod_fields (k := 3) (by kernel_rfl) h
 match cs, hlen with
 | [c0, c1, c2], _ =>
  obtain ⟨n0, y0, g0⟩ := hf 0 9 0 1 (by kernel_rfl);obtain ⟨a0, r0, o0⟩ := rdb9 H enc w base spare held n0 _ _ g0;obtain ⟨n1, y1, g1⟩ := hf 1 22 1 1 (by kernel_rfl);obtain ⟨a1, r1, o1⟩ := rdb22 H enc w base spare held n1 _ _ g1;obtain ⟨n2, y2, g2⟩ := hf 2 23 2 1 (by kernel_rfl);obtain ⟨a2, r2, o2⟩ := rdb23 H enc w base spare held n2 _ _ g2;exact ⟨⟨a0, a1, a2⟩, ⟨[c0], [c1, c2], rfl, r0, ⟨[c1], [c2], rfl, r1, r2⟩⟩, ⟨o0, o1, o2⟩⟩
theorem rdb28 : Rdb Tryz.prog 28 Go.Sy.Choice := by
 intro H enc w base spare held fuel cs x h;obtain ⟨hlen, hf⟩ := trod_fields (k := 7) (by kernel_rfl) h
 match cs, hlen with
 | [c0, c1, c2, c3, c4, c5, c6], _ =>
  obtain ⟨n0, y0, g0⟩ := hf 0 25 0 3 (by kernel_rfl);obtain ⟨a0, r0, o0⟩ := rdb25 H enc w base spare held n0 _ _ g0;obtain ⟨n1, y1, g1⟩ := hf 1 3 3 1 (by kernel_rfl);obtain ⟨a1, r1, o1⟩ := rdb3 H enc w base spare held n1 _ _ g1;obtain ⟨n2, y2, g2⟩ := hf 2 26 4 1 (by kernel_rfl);obtain ⟨a2, r2, o2⟩ := rdb26 H enc w base spare held n2 _ _ g2;obtain ⟨n3, y3, g3⟩ := hf 3 3 5 1 (by kernel_rfl);obtain ⟨a3, r3, o3⟩ := rdb3 H enc w base spare held n3 _ _ g3;obtain ⟨n4, y4, g4⟩ := hf 4 3 6 1 (by kernel_rfl);obtain ⟨a4, r4, o4⟩ := rdb3 H enc w base spare held n4 _ _ g4;exact ⟨⟨a0, a1, a2, a3, a4⟩, ⟨[c0, c1, c2], [c3, c4, c5, c6], rfl, r0, ⟨[c3], [c4, c5, c6], rfl, r1, ⟨[c4], [c5, c6], rfl, r2, ⟨[c5], [c6], rfl, r3, r4⟩⟩⟩⟩, ⟨o0, o1, o2, o3, o4⟩⟩
theorem rdb40 : Rdb Tryz.prog 40 (List Choice) := rdb_list (α := Choice) (e := 28) (by kernel_rfl) (by kernel_rfl) rdb28
end Go.Sy
