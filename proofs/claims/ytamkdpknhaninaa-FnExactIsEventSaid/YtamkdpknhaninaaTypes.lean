/-
  How the data lie in memory.
  Conditions: none.
-/
import Derived.Test.YtamkdpknhaninaaStr
import Derived.Test.YtamkdpknhaninaaData
namespace Go.Sy
open Go Go.RowKit

instance : Tid Int := ⟨3⟩

instance : Tid Bool := ⟨4⟩

instance : Tid (List Int) := ⟨69⟩

instance : Tid (List Bool) := ⟨0⟩

instance : Tid ByteArray := ⟨9⟩

instance : Tid (List ByteArray) := ⟨22⟩

instance : Tid Fact := ⟨29⟩

abbrev Fact.tup (r : Go.Sy.Fact) : ByteArray × (List ByteArray) := (r.Rel, r.Args)

instance : Gd Go.Sy.Fact := Gd.via Fact.tup

instance : Tid Event := ⟨31⟩

abbrev Event.tup (r : Go.Sy.Event) : Int × ByteArray × Go.Sy.Fact := (r.Kind, r.Rule, r.Fact)

instance : Gd Go.Sy.Event := Gd.via Event.tup

theorem open_Fact {w : World} {cs : List Value} {r : Go.Sy.Fact} (h : Gd.rd w cs r) : ∃ v1, cs = [.string r.Rel, v1] ∧ Gd.rd w [v1] r.Args := by
  obtain ⟨c0, d0, e0, h0, k0⟩ := h
  obtain rfl : c0 = [.string r.Rel] := h0
  obtain ⟨v1, rfl⟩ := rd_cell k0
  exact ⟨v1, by rw [e0]; rfl, k0⟩

theorem shape_Fact {w : World} {cs : List Value} {r : Go.Sy.Fact} (h : Gd.rd w cs r) : ∃ v1, cs = [.string r.Rel, v1] ∧ v1.oneCell' = true := by
  obtain ⟨v1, e, g1⟩ := open_Fact h
  exact ⟨v1, e, one_rd g1⟩

theorem pk_Fact {N : Nat} {w0 : World} {H : List Chunk} {L : Fm} {K : Act → World → Prop} {v1 : Value} {r : Go.Sy.Fact} (k : D N w0 (ov [.string r.Rel, v1] r :: H) L K) : D N w0 (ov [v1] r.Args :: H) L K := by
  intro a w hf h
  refine k a w hf (St.conv (h) ?_)
  intro fv1 hv1
  exact ⟨([] ++ fv1), ⟨[.string r.Rel], [v1], [], fv1, rfl, rfl, ⟨rfl, rfl⟩, hv1⟩, by simp⟩

def z0_Fact : Go.Sy.Fact := ⟨⟨#[]⟩, []⟩

theorem zz_Fact (w : World) : Gd.ow w [.string ⟨#[]⟩, .slice none 0 0] z0_Fact [] := ⟨[.string ⟨#[]⟩], [.slice none 0 0], [], [], rfl, rfl, ⟨rfl, rfl⟩, ow_nil⟩

theorem open_Event {w : World} {cs : List Value} {r : Go.Sy.Event} (h : Gd.rd w cs r) : ∃ v1, cs = [.int .i64 r.Kind, .string r.Rule, .string r.Fact.Rel, v1] ∧ Gd.rd w [v1] r.Fact.Args := by
  obtain ⟨c0, d0, e0, h0, k0⟩ := h
  obtain ⟨c1, d1, e1, h1, k1⟩ := k0
  obtain rfl : c0 = [.int .i64 r.Kind] := h0
  obtain rfl : c1 = [.string r.Rule] := h1
  obtain ⟨v1, rfl, gv1⟩ := open_Fact k1
  exact ⟨v1, by rw [e0, e1]; rfl, gv1⟩

theorem shape_Event {w : World} {cs : List Value} {r : Go.Sy.Event} (h : Gd.rd w cs r) : ∃ v1, cs = [.int .i64 r.Kind, .string r.Rule, .string r.Fact.Rel, v1] ∧ v1.oneCell' = true := by
  obtain ⟨v1, e, g1⟩ := open_Event h
  exact ⟨v1, e, one_rd g1⟩

theorem sub_Event_Fact {w : World} {v1 : Value} {r : Go.Sy.Event} (h : Gd.rd w [.int .i64 r.Kind, .string r.Rule, .string r.Fact.Rel, v1] r) : Gd.rd w [.string r.Fact.Rel, v1] r.Fact := by
  obtain ⟨c0, d0, e0, h0, k0⟩ := h
  obtain rfl : c0 = [.int .i64 r.Kind] := h0
  simp only [List.cons_append, List.nil_append, List.cons.injEq, true_and] at e0
  subst e0
  obtain ⟨c1, d1, e1, h1, k1⟩ := k0
  obtain rfl : c1 = [.string r.Rule] := h1
  simp only [List.cons_append, List.nil_append, List.cons.injEq, true_and] at e1
  subst e1
  exact k1

theorem pk_Event {N : Nat} {w0 : World} {H : List Chunk} {L : Fm} {K : Act → World → Prop} {v1 : Value} {r : Go.Sy.Event} (k : D N w0 (ov [.int .i64 r.Kind, .string r.Rule, .string r.Fact.Rel, v1] r :: H) L K) : D N w0 (ov [v1] r.Fact.Args :: H) L K := by
  intro a w hf h
  refine k a w hf (St.conv (h) ?_)
  intro fv1 hv1
  exact ⟨([] ++ ([] ++ ([] ++ fv1))), ⟨[.int .i64 r.Kind], ([.string r.Rule] ++ ([.string r.Fact.Rel] ++ [v1])), [], ([] ++ ([] ++ fv1)), rfl, rfl, ⟨rfl, rfl⟩, ⟨[.string r.Rule], ([.string r.Fact.Rel] ++ [v1]), [], ([] ++ fv1), rfl, rfl, ⟨rfl, rfl⟩, ⟨[.string r.Fact.Rel], [v1], [], fv1, rfl, rfl, ⟨rfl, rfl⟩, hv1⟩⟩⟩, by simp⟩

def z0_Event : Go.Sy.Event := ⟨0, ⟨#[]⟩, ⟨⟨#[]⟩, []⟩⟩

theorem zz_Event (w : World) : Gd.ow w [.int .i64 0, .string ⟨#[]⟩, .string ⟨#[]⟩, .slice none 0 0] z0_Event [] := ⟨[.int .i64 0], ([.string ⟨#[]⟩] ++ ([.string ⟨#[]⟩] ++ [.slice none 0 0])), [], [], rfl, rfl, ⟨rfl, rfl⟩, ⟨[.string ⟨#[]⟩], ([.string ⟨#[]⟩] ++ [.slice none 0 0]), [], [], rfl, rfl, ⟨rfl, rfl⟩, ⟨[.string ⟨#[]⟩], [.slice none 0 0], [], [], rfl, rfl, ⟨rfl, rfl⟩, ow_nil⟩⟩⟩

end Go.Sy
