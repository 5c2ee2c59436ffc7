/-
  How the arguments of the laws read.
  Conditions: none.
-/
import Derived.Test.YtobihkjhlopggaaGreatDoorRow
import Derived.Test.YtobihkjhlopggaaGreatDoorTypes
namespace Go.Sy
open Go Go.Proofs Go.ChangeShapes Go.WideShapes Go.ChangeAt Go.RowKit Go.Deep
theorem laidOut : laidOutB Tryz.prog = true := by kernel_rfl
theorem len_3 {α : Type} {l : List α} (h : l.length = 3) : ∃ a b c, l = [a, b, c] := by
 match l, h with
 | [a, b, c], _ => exact ⟨a, b, c, rfl⟩
def structOf (P : Program) (t : Nat) : Option Nat := match P.underlying t with | some (.struct _) => some (P.cellsOf t) | _ => none
def fieldOf (P : Program) (t i : Nat) : Option (Nat × Nat × Nat) := match P.underlying t with | some (.struct fs) => (fs[i]?).map (fun f => (f.type, f.offset, P.cellsOf f.type)) | _ => none
theorem trod_fields {H : Type} {enc : TypeId × Value → H} {P : Program} {w : World} {base : Nat} {spare : Nat → Bool} {held : Bool} {fuel t k : Nat} {cs : List Value} {x : DataW H × List MemPlace} (hk : structOf P t = some k) (h : DataW.trod enc P w base spare held fuel t cs = some x) :
  cs.length = k ∧ ∀ i ft off sz, fieldOf P t i = some (ft, off, sz) → ∃ n y, DataW.trod enc P w base spare held n ft ((cs.drop off).take sz) = some y := by
 unfold structOf at hk
 split at hk
 ·rename_i fs hu;simp only [Option.some.injEq] at hk;obtain ⟨xs, n, _, _, hlen, hxl, hf⟩ := DataW.trod_struct hu h;refine ⟨hlen.trans hk, fun i ft off sz hi => ?_⟩;unfold fieldOf at hi;rw [hu] at hi;simp only [Option.map_eq_some_iff, Prod.mk.injEq] at hi;obtain ⟨f, hfi, rfl, rfl, rfl⟩ := hi;have hlt : i < xs.length := by rw [hxl]; exact (Array.getElem?_eq_some_iff.1 hfi).1
  exact ⟨n, xs[i], (hf i f hfi).trans (List.getElem?_eq_getElem hlt)⟩
 ·cases hk
def fieldsOf (P : Program) (t : Nat) : Array Field := match P.underlying t with | some (.struct fs) => fs | _ => #[]
def fieldAt (P : Program) (t i : Nat) : Field := (fieldsOf P t).getD i default
instance : Dk Go.Sy.Fact := ⟨fun r => Dk.ok r.Rel ∧ Dk.ok r.Args⟩
instance : Dk Go.Sy.Pattern := ⟨fun r => Dk.ok r.Rel ∧ Dk.ok r.Args⟩
instance : Dk Go.Sy.Pair := ⟨fun r => Dk.ok r.Var ∧ Dk.ok r.Value⟩
instance : Dk Go.Sy.Event := ⟨fun r => Dk.ok r.Kind ∧ Dk.ok r.Rule ∧ Dk.ok r.Fact⟩
instance : Dk Go.Sy.Cond := ⟨fun r => Dk.ok r.Kind ∧ Dk.ok r.Pattern ∧ Dk.ok r.Left ∧ Dk.ok r.Right⟩
instance : Dk Go.Sy.Action := ⟨fun r => Dk.ok r.Kind ∧ Dk.ok r.Pattern⟩
instance : Dk Go.Sy.Rule := ⟨fun r => Dk.ok r.Name ∧ Dk.ok r.Priority ∧ Dk.ok r.If ∧ Dk.ok r.Then⟩
instance : Dk Go.Sy.Stamp := ⟨fun r => Dk.ok r.Fact ∧ Dk.ok r.Time⟩
instance : Dk Go.Sy.Firing := ⟨fun r => Dk.ok r.Rule ∧ Dk.ok r.Times⟩
instance : Dk Go.Sy.Engine := ⟨fun r => Dk.ok r.Rules ∧ Dk.ok r.Memory ∧ Dk.ok r.Clock ∧ Dk.ok r.Fired ∧ Dk.ok r.Halted ∧ Dk.ok r.Log⟩
instance : Dk Go.Sy.Match := ⟨fun r => Dk.ok r.Rule ∧ Dk.ok r.Facts ∧ Dk.ok r.Binding⟩
instance : Dk Go.Sy.Choice := ⟨fun r => Dk.ok r.Match ∧ Dk.ok r.Priority ∧ Dk.ok r.Times ∧ Dk.ok r.Specific ∧ Dk.ok r.Order⟩
theorem rdb9 : Rdb Tryz.prog 9 ByteArray := rdb_string (by kernel_rfl)
theorem rdb105 : Rdb Tryz.prog 105 (List ByteArray) := rdb_list (α := ByteArray) (e := 9) (by kernel_rfl) (by kernel_rfl) rdb9
theorem rdb107 : Rdb Tryz.prog 107 Go.Sy.Fact := by
 intro H enc w base spare held fuel cs x h;obtain ⟨hlen, hf⟩ := trod_fields (k := 2) (by kernel_rfl) h
 match cs, hlen with
 | [c0, c1], _ =>
  obtain ⟨n0, y0, g0⟩ := hf 0 9 0 1 (by kernel_rfl);obtain ⟨a0, r0, o0⟩ := rdb9 H enc w base spare held n0 _ _ g0;obtain ⟨n1, y1, g1⟩ := hf 1 105 1 1 (by kernel_rfl);obtain ⟨a1, r1, o1⟩ := rdb105 H enc w base spare held n1 _ _ g1;exact ⟨⟨a0, a1⟩, ⟨[c0], [c1], rfl, r0, r1⟩, ⟨o0, o1⟩⟩
theorem rdb222 : Rdb Tryz.prog 222 Go.Sy.Pattern := by
 intro H enc w base spare held fuel cs x h;obtain ⟨hlen, hf⟩ := trod_fields (k := 2) (by kernel_rfl) h
 match cs, hlen with
 | [c0, c1], _ =>
  obtain ⟨n0, y0, g0⟩ := hf 0 9 0 1 (by kernel_rfl);obtain ⟨a0, r0, o0⟩ := rdb9 H enc w base spare held n0 _ _ g0;obtain ⟨n1, y1, g1⟩ := hf 1 105 1 1 (by kernel_rfl);obtain ⟨a1, r1, o1⟩ := rdb105 H enc w base spare held n1 _ _ g1;exact ⟨⟨a0, a1⟩, ⟨[c0], [c1], rfl, r0, r1⟩, ⟨o0, o1⟩⟩
theorem rdb3 : Rdb Tryz.prog 3 Int := rdb_int (by kernel_rfl)
theorem rdb224 : Rdb Tryz.prog 224 Go.Sy.Cond := by
 intro H enc w base spare held fuel cs x h;obtain ⟨hlen, hf⟩ := trod_fields (k := 5) (by kernel_rfl) h
 match cs, hlen with
 | [c0, c1, c2, c3, c4], _ =>
  obtain ⟨n0, y0, g0⟩ := hf 0 3 0 1 (by kernel_rfl);obtain ⟨a0, r0, o0⟩ := rdb3 H enc w base spare held n0 _ _ g0;obtain ⟨n1, y1, g1⟩ := hf 1 222 1 2 (by kernel_rfl);obtain ⟨a1, r1, o1⟩ := rdb222 H enc w base spare held n1 _ _ g1;obtain ⟨n2, y2, g2⟩ := hf 2 9 3 1 (by kernel_rfl);obtain ⟨a2, r2, o2⟩ := rdb9 H enc w base spare held n2 _ _ g2;obtain ⟨n3, y3, g3⟩ := hf 3 9 4 1 (by kernel_rfl);obtain ⟨a3, r3, o3⟩ := rdb9 H enc w base spare held n3 _ _ g3;exact ⟨⟨a0, a1, a2, a3⟩, ⟨[c0], [c1, c2, c3, c4], rfl, r0, ⟨[c1, c2], [c3, c4], rfl, r1, ⟨[c3], [c4], rfl, r2, r3⟩⟩⟩, ⟨o0, o1, o2, o3⟩⟩
theorem rdb227 : Rdb Tryz.prog 227 Go.Sy.Action := by
 intro H enc w base spare held fuel cs x h;obtain ⟨hlen, hf⟩ := trod_fields (k := 3) (by kernel_rfl) h
 match cs, hlen with
 | [c0, c1, c2], _ =>
  obtain ⟨n0, y0, g0⟩ := hf 0 3 0 1 (by kernel_rfl);obtain ⟨a0, r0, o0⟩ := rdb3 H enc w base spare held n0 _ _ g0;obtain ⟨n1, y1, g1⟩ := hf 1 222 1 2 (by kernel_rfl);obtain ⟨a1, r1, o1⟩ := rdb222 H enc w base spare held n1 _ _ g1;exact ⟨⟨a0, a1⟩, ⟨[c0], [c1, c2], rfl, r0, r1⟩, ⟨o0, o1⟩⟩
theorem rdb100 : Rdb Tryz.prog 100 (List Cond) := rdb_list (α := Cond) (e := 224) (by kernel_rfl) (by kernel_rfl) rdb224
theorem rdb101 : Rdb Tryz.prog 101 (List Action) := rdb_list (α := Action) (e := 227) (by kernel_rfl) (by kernel_rfl) rdb227
theorem rdb103 : Rdb Tryz.prog 103 Go.Sy.Rule := by
 intro H enc w base spare held fuel cs x h;obtain ⟨hlen, hf⟩ := trod_fields (k := 4) (by kernel_rfl) h
 match cs, hlen with
 | [c0, c1, c2, c3], _ =>
  obtain ⟨n0, y0, g0⟩ := hf 0 9 0 1 (by kernel_rfl);obtain ⟨a0, r0, o0⟩ := rdb9 H enc w base spare held n0 _ _ g0;obtain ⟨n1, y1, g1⟩ := hf 1 3 1 1 (by kernel_rfl);obtain ⟨a1, r1, o1⟩ := rdb3 H enc w base spare held n1 _ _ g1;obtain ⟨n2, y2, g2⟩ := hf 2 100 2 1 (by kernel_rfl);obtain ⟨a2, r2, o2⟩ := rdb100 H enc w base spare held n2 _ _ g2;obtain ⟨n3, y3, g3⟩ := hf 3 101 3 1 (by kernel_rfl);obtain ⟨a3, r3, o3⟩ := rdb101 H enc w base spare held n3 _ _ g3;exact ⟨⟨a0, a1, a2, a3⟩, ⟨[c0], [c1, c2, c3], rfl, r0, ⟨[c1], [c2, c3], rfl, r1, ⟨[c2], [c3], rfl, r2, r3⟩⟩⟩, ⟨o0, o1, o2, o3⟩⟩
theorem rdb109 : Rdb Tryz.prog 109 Go.Sy.Stamp := by
 intro H enc w base spare held fuel cs x h;obtain ⟨hlen, hf⟩ := trod_fields (k := 3) (by kernel_rfl) h
 match cs, hlen with
 | [c0, c1, c2], _ =>
  obtain ⟨n0, y0, g0⟩ := hf 0 107 0 2 (by kernel_rfl);obtain ⟨a0, r0, o0⟩ := rdb107 H enc w base spare held n0 _ _ g0;obtain ⟨n1, y1, g1⟩ := hf 1 3 2 1 (by kernel_rfl);obtain ⟨a1, r1, o1⟩ := rdb3 H enc w base spare held n1 _ _ g1;exact ⟨⟨a0, a1⟩, ⟨[c0, c1], [c2], rfl, r0, r1⟩, ⟨o0, o1⟩⟩
theorem rdb26 : Rdb Tryz.prog 26 (List Int) := rdb_list (α := Int) (e := 3) (by kernel_rfl) (by kernel_rfl) rdb3
theorem rdb112 : Rdb Tryz.prog 112 Go.Sy.Firing := by
 intro H enc w base spare held fuel cs x h;obtain ⟨hlen, hf⟩ := trod_fields (k := 2) (by kernel_rfl) h
 match cs, hlen with
 | [c0, c1], _ =>
  obtain ⟨n0, y0, g0⟩ := hf 0 9 0 1 (by kernel_rfl);obtain ⟨a0, r0, o0⟩ := rdb9 H enc w base spare held n0 _ _ g0;obtain ⟨n1, y1, g1⟩ := hf 1 26 1 1 (by kernel_rfl);obtain ⟨a1, r1, o1⟩ := rdb26 H enc w base spare held n1 _ _ g1;exact ⟨⟨a0, a1⟩, ⟨[c0], [c1], rfl, r0, r1⟩, ⟨o0, o1⟩⟩
theorem rdb48 : Rdb Tryz.prog 48 (List Rule) := rdb_list (α := Rule) (e := 103) (by kernel_rfl) (by kernel_rfl) rdb103
theorem rdb49 : Rdb Tryz.prog 49 (List Stamp) := rdb_list (α := Stamp) (e := 109) (by kernel_rfl) (by kernel_rfl) rdb109
theorem rdb50 : Rdb Tryz.prog 50 (List Firing) := rdb_list (α := Firing) (e := 112) (by kernel_rfl) (by kernel_rfl) rdb112
end Go.Sy
