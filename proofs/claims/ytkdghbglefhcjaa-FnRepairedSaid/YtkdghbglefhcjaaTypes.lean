/-
  How the data lie in memory.
  Conditions: none.
-/
import Derived.Test.YtkdghbglefhcjaaCur
import Derived.Test.YtkdghbglefhcjaaData
namespace Go.Sy
open Go Go.RowKit

instance : Tid Int := ⟨3⟩

instance : Tid Bool := ⟨4⟩

instance : Tid (List Int) := ⟨27⟩

instance : Tid (List Bool) := ⟨63⟩

instance : Tid ByteArray := ⟨9⟩

instance : Tid (List ByteArray) := ⟨0⟩

instance : Tid UInt8 := ⟨5⟩

instance : Tid Reason := ⟨31⟩

abbrev Reason.tup (r : Go.Sy.Reason) : Int × (List Int) × (List Int) := (r.For, r.In, r.Out)

instance : Gd Go.Sy.Reason := Gd.via Reason.tup

instance : Tid Beliefs := ⟨26⟩

abbrev Beliefs.tup (r : Go.Sy.Beliefs) : Int × (List Reason) := (r.Nodes, r.Reasons)

instance : Gd Go.Sy.Beliefs := Gd.via Beliefs.tup

theorem open_Reason {w : World} {cs : List Value} {r : Go.Sy.Reason} (h : Gd.rd w cs r) : ∃ v1, ∃ v2, cs = [.int .i64 r.For, v1, v2] ∧ Gd.rd w [v1] r.In ∧ Gd.rd w [v2] r.Out := by
  obtain ⟨c0, d0, e0, h0, k0⟩ := h
  obtain ⟨c1, d1, e1, h1, k1⟩ := k0
  obtain rfl : c0 = [.int .i64 r.For] := h0
  obtain ⟨v1, rfl⟩ := rd_cell h1
  obtain ⟨v2, rfl⟩ := rd_cell k1
  exact ⟨v1, v2, by rw [e0, e1]; rfl, h1, k1⟩

theorem shape_Reason {w : World} {cs : List Value} {r : Go.Sy.Reason} (h : Gd.rd w cs r) : ∃ v1, ∃ v2, cs = [.int .i64 r.For, v1, v2] ∧ v1.oneCell' = true ∧ v2.oneCell' = true := by
  obtain ⟨v1, v2, e, g1, g2⟩ := open_Reason h
  exact ⟨v1, v2, e, one_rd g1, one_rd g2⟩

theorem mk_Reason {w : World} {v1 : Value} {v2 : Value} (r : Go.Sy.Reason) (hv1 : Gd.rd w [v1] r.In) (hv2 : Gd.rd w [v2] r.Out) : Gd.rd w [.int .i64 r.For, v1, v2] r := ⟨[.int .i64 r.For], ([v1] ++ [v2]), rfl, rfl, ⟨[v1], [v2], rfl, hv1, hv2⟩⟩

theorem pk_Reason {N : Nat} {w0 : World} {H : List Chunk} {L : Fm} {K : Act → World → Prop} {v1 v2 : Value} {r : Go.Sy.Reason} (k : D N w0 (ov [.int .i64 r.For, v1, v2] r :: H) L K) : D N w0 (ov [v1] r.In :: ov [v2] r.Out :: H) L K := by
  intro a w hf h
  refine k a w hf (St.conv (h.star) ?_)
  intro fp hfp
  obtain ⟨fv1, fv2, rfl, hv1, hv2⟩ := hfp
  exact ⟨([] ++ (fv1 ++ fv2)), ⟨[.int .i64 r.For], ([v1] ++ [v2]), [], (fv1 ++ fv2), rfl, rfl, ⟨rfl, rfl⟩, ⟨[v1], [v2], fv1, fv2, rfl, rfl, hv1, hv2⟩⟩, by simp⟩

def z0_Reason : Go.Sy.Reason := ⟨0, [], []⟩

theorem zz_Reason (w : World) : Gd.ow w [.int .i64 0, .slice none 0 0, .slice none 0 0] z0_Reason [] := ⟨[.int .i64 0], ([.slice none 0 0] ++ [.slice none 0 0]), [], [], rfl, rfl, ⟨rfl, rfl⟩, ⟨[.slice none 0 0], [.slice none 0 0], [], [], rfl, rfl, ow_nil, ow_nil⟩⟩

theorem open_Beliefs {w : World} {cs : List Value} {r : Go.Sy.Beliefs} (h : Gd.rd w cs r) : ∃ v1, cs = [.int .i64 r.Nodes, v1] ∧ Gd.rd w [v1] r.Reasons := by
  obtain ⟨c0, d0, e0, h0, k0⟩ := h
  obtain rfl : c0 = [.int .i64 r.Nodes] := h0
  obtain ⟨v1, rfl⟩ := rd_cell k0
  exact ⟨v1, by rw [e0]; rfl, k0⟩

theorem shape_Beliefs {w : World} {cs : List Value} {r : Go.Sy.Beliefs} (h : Gd.rd w cs r) : ∃ v1, cs = [.int .i64 r.Nodes, v1] ∧ v1.oneCell' = true := by
  obtain ⟨v1, e, g1⟩ := open_Beliefs h
  exact ⟨v1, e, one_rd g1⟩

theorem mk_Beliefs {w : World} {v1 : Value} (r : Go.Sy.Beliefs) (hv1 : Gd.rd w [v1] r.Reasons) : Gd.rd w [.int .i64 r.Nodes, v1] r := ⟨[.int .i64 r.Nodes], [v1], rfl, rfl, hv1⟩

theorem pk_Beliefs {N : Nat} {w0 : World} {H : List Chunk} {L : Fm} {K : Act → World → Prop} {v1 : Value} {r : Go.Sy.Beliefs} (k : D N w0 (ov [.int .i64 r.Nodes, v1] r :: H) L K) : D N w0 (ov [v1] r.Reasons :: H) L K := by
  intro a w hf h
  refine k a w hf (St.conv (h) ?_)
  intro fv1 hv1
  exact ⟨([] ++ fv1), ⟨[.int .i64 r.Nodes], [v1], [], fv1, rfl, rfl, ⟨rfl, rfl⟩, hv1⟩, by simp⟩

def z0_Beliefs : Go.Sy.Beliefs := ⟨0, []⟩

theorem zz_Beliefs (w : World) : Gd.ow w [.int .i64 0, .slice none 0 0] z0_Beliefs [] := ⟨[.int .i64 0], [.slice none 0 0], [], [], rfl, rfl, ⟨rfl, rfl⟩, ow_nil⟩

end Go.Sy
