/-
  How the data lie in memory.
  Conditions: none.
-/
import Derived.Test.YtkbiaedfnpbpfaaGreatDoorOwn2
import Derived.Test.YtkbiaedfnpbpfaaGreatDoorData
namespace Go.Sy
open Go Go.RowKit
instance : Tid Int := ⟨3⟩
instance : Tid Bool := ⟨4⟩
instance : Tid (List Int) := ⟨35⟩
instance : Tid (List Bool) := ⟨0⟩
instance : Tid ByteArray := ⟨9⟩
instance : Tid (List ByteArray) := ⟨58⟩
instance : Tid Fact := ⟨70⟩
abbrev Fact.tup (r : Go.Sy.Fact) : ByteArray × (List ByteArray) := (r.Rel, r.Args)
instance : Gd Go.Sy.Fact := Gd.via Fact.tup
instance : Tid Pattern := ⟨145⟩
abbrev Pattern.tup (r : Go.Sy.Pattern) : ByteArray × (List ByteArray) := (r.Rel, r.Args)
instance : Gd Go.Sy.Pattern := Gd.via Pattern.tup
instance : Tid Pair := ⟨151⟩
abbrev Pair.tup (r : Go.Sy.Pair) : ByteArray × ByteArray := (r.Var, r.Value)
instance : Gd Go.Sy.Pair := Gd.via Pair.tup
instance : Tid Event := ⟨171⟩
abbrev Event.tup (r : Go.Sy.Event) : Int × ByteArray × Go.Sy.Fact := (r.Kind, r.Rule, r.Fact)
instance : Gd Go.Sy.Event := Gd.via Event.tup
instance : Tid Cond := ⟨147⟩
abbrev Cond.tup (r : Go.Sy.Cond) : Int × Go.Sy.Pattern × ByteArray × ByteArray := (r.Kind, r.Pattern, r.Left, r.Right)
instance : Gd Go.Sy.Cond := Gd.via Cond.tup
instance : Tid Action := ⟨159⟩
abbrev Action.tup (r : Go.Sy.Action) : Int × Go.Sy.Pattern := (r.Kind, r.Pattern)
instance : Gd Go.Sy.Action := Gd.via Action.tup
instance : Tid Rule := ⟨96⟩
abbrev Rule.tup (r : Go.Sy.Rule) : ByteArray × Int × (List Cond) × (List Action) := (r.Name, r.Priority, r.If, r.Then)
instance : Gd Go.Sy.Rule := Gd.via Rule.tup
instance : Tid Stamp := ⟨100⟩
abbrev Stamp.tup (r : Go.Sy.Stamp) : Go.Sy.Fact × Int := (r.Fact, r.Time)
instance : Gd Go.Sy.Stamp := Gd.via Stamp.tup
instance : Tid Firing := ⟨168⟩
abbrev Firing.tup (r : Go.Sy.Firing) : ByteArray × (List Int) := (r.Rule, r.Times)
instance : Gd Go.Sy.Firing := Gd.via Firing.tup
instance : Tid Engine := ⟨66⟩
abbrev Engine.tup (r : Go.Sy.Engine) : (List Rule) × (List Stamp) × Int × (List Firing) × Bool × (List Event) := (r.Rules, r.Memory, r.Clock, r.Fired, r.Halted, r.Log)
instance : Gd Go.Sy.Engine := Gd.via Engine.tup
instance : Tid Match := ⟨34⟩
abbrev Match.tup (r : Go.Sy.Match) : ByteArray × (List Fact) × (List Pair) := (r.Rule, r.Facts, r.Binding)
instance : Gd Go.Sy.Match := Gd.via Match.tup
instance : Tid Choice := ⟨37⟩
abbrev Choice.tup (r : Go.Sy.Choice) : Go.Sy.Match × Int × (List Int) × Int × Int := (r.Match, r.Priority, r.Times, r.Specific, r.Order)
instance : Gd Go.Sy.Choice := Gd.via Choice.tup
theorem open_Fact {w : World} {cs : List Value} {r : Go.Sy.Fact} (h : Gd.rd w cs r) : ∃ v1, cs = [.string r.Rel, v1] ∧ Gd.rd w [v1] r.Args := by
  obtain ⟨c0, d0, e0, h0, k0⟩ := h
  obtain rfl : c0 = [.string r.Rel] := h0
  obtain ⟨v1, rfl⟩ := rd_cell k0
  exact ⟨v1, by rw [e0]; rfl, k0⟩
theorem shape_Fact {w : World} {cs : List Value} {r : Go.Sy.Fact} (h : Gd.rd w cs r) : ∃ v1, cs = [.string r.Rel, v1] ∧ v1.oneCell' = true := by
  obtain ⟨v1, e, g1⟩ := open_Fact h
  exact ⟨v1, e, one_rd g1⟩
theorem pk_Fact {N : Nat} {w0 : World} {H : List Chunk} {L : Fm} {K : Act → World → Prop} {v1 : Value} {r : Go.Sy.Fact} (k : D N w0 (ov [.string r.Rel, v1] r :: H) L K) : D N w0 (ov [v1] r.Args :: H) L K := by
  intro a w hf h
  refine k a w hf (St.conv (h) ?_)
  intro fv1 hv1
  exact ⟨([] ++ fv1), ⟨[.string r.Rel], [v1], [], fv1, rfl, rfl, ⟨rfl, rfl⟩, hv1⟩, by simp⟩
theorem open_Pattern {w : World} {cs : List Value} {r : Go.Sy.Pattern} (h : Gd.rd w cs r) : ∃ v1, cs = [.string r.Rel, v1] ∧ Gd.rd w [v1] r.Args := by
  obtain ⟨c0, d0, e0, h0, k0⟩ := h
  obtain rfl : c0 = [.string r.Rel] := h0
  obtain ⟨v1, rfl⟩ := rd_cell k0
  exact ⟨v1, by rw [e0]; rfl, k0⟩
theorem shape_Pattern {w : World} {cs : List Value} {r : Go.Sy.Pattern} (h : Gd.rd w cs r) : ∃ v1, cs = [.string r.Rel, v1] ∧ v1.oneCell' = true := by
  obtain ⟨v1, e, g1⟩ := open_Pattern h
  exact ⟨v1, e, one_rd g1⟩
theorem pk_Pattern {N : Nat} {w0 : World} {H : List Chunk} {L : Fm} {K : Act → World → Prop} {v1 : Value} {r : Go.Sy.Pattern} (k : D N w0 (ov [.string r.Rel, v1] r :: H) L K) : D N w0 (ov [v1] r.Args :: H) L K := by
  intro a w hf h
  refine k a w hf (St.conv (h) ?_)
  intro fv1 hv1
  exact ⟨([] ++ fv1), ⟨[.string r.Rel], [v1], [], fv1, rfl, rfl, ⟨rfl, rfl⟩, hv1⟩, by simp⟩
theorem open_Event {w : World} {cs : List Value} {r : Go.Sy.Event} (h : Gd.rd w cs r) : ∃ v1, cs = [.int .i64 r.Kind, .string r.Rule, .string r.Fact.Rel, v1] ∧ Gd.rd w [v1] r.Fact.Args := by
  obtain ⟨c0, d0, e0, h0, k0⟩ := h
  obtain ⟨c1, d1, e1, h1, k1⟩ := k0
  obtain rfl : c0 = [.int .i64 r.Kind] := h0
  obtain rfl : c1 = [.string r.Rule] := h1
  obtain ⟨v1, rfl, gv1⟩ := open_Fact k1
  exact ⟨v1, by rw [e0, e1]; rfl, gv1⟩
theorem shape_Event {w : World} {cs : List Value} {r : Go.Sy.Event} (h : Gd.rd w cs r) : ∃ v1, cs = [.int .i64 r.Kind, .string r.Rule, .string r.Fact.Rel, v1] ∧ v1.oneCell' = true := by
  obtain ⟨v1, e, g1⟩ := open_Event h
  exact ⟨v1, e, one_rd g1⟩
theorem sub_Event_Fact {w : World} {v1 : Value} {r : Go.Sy.Event} (h : Gd.rd w [.int .i64 r.Kind, .string r.Rule, .string r.Fact.Rel, v1] r) : Gd.rd w [.string r.Fact.Rel, v1] r.Fact := by
  obtain ⟨c0, d0, e0, h0, k0⟩ := h
  obtain rfl : c0 = [.int .i64 r.Kind] := h0
  simp only [List.cons_append, List.nil_append, List.cons.injEq, true_and] at e0
  subst e0
  obtain ⟨c1, d1, e1, h1, k1⟩ := k0
  obtain rfl : c1 = [.string r.Rule] := h1
  simp only [List.cons_append, List.nil_append, List.cons.injEq, true_and] at e1
  subst e1
  exact k1
theorem pk_Event {N : Nat} {w0 : World} {H : List Chunk} {L : Fm} {K : Act → World → Prop} {v1 : Value} {r : Go.Sy.Event} (k : D N w0 (ov [.int .i64 r.Kind, .string r.Rule, .string r.Fact.Rel, v1] r :: H) L K) : D N w0 (ov [v1] r.Fact.Args :: H) L K := by
  intro a w hf h
  refine k a w hf (St.conv (h) ?_)
  intro fv1 hv1
  exact ⟨([] ++ ([] ++ ([] ++ fv1))), ⟨[.int .i64 r.Kind], ([.string r.Rule] ++ ([.string r.Fact.Rel] ++ [v1])), [], ([] ++ ([] ++ fv1)), rfl, rfl, ⟨rfl, rfl⟩, ⟨[.string r.Rule], ([.string r.Fact.Rel] ++ [v1]), [], ([] ++ fv1), rfl, rfl, ⟨rfl, rfl⟩, ⟨[.string r.Fact.Rel], [v1], [], fv1, rfl, rfl, ⟨rfl, rfl⟩, hv1⟩⟩⟩, by simp⟩
def z0_Event : Go.Sy.Event := ⟨0, ⟨#[]⟩, ⟨⟨#[]⟩, []⟩⟩
theorem zz_Event (w : World) : Gd.ow w [.int .i64 0, .string ⟨#[]⟩, .string ⟨#[]⟩, .slice none 0 0] z0_Event [] := ⟨[.int .i64 0], ([.string ⟨#[]⟩] ++ ([.string ⟨#[]⟩] ++ [.slice none 0 0])), [], [], rfl, rfl, ⟨rfl, rfl⟩, ⟨[.string ⟨#[]⟩], ([.string ⟨#[]⟩] ++ [.slice none 0 0]), [], [], rfl, rfl, ⟨rfl, rfl⟩, ⟨[.string ⟨#[]⟩], [.slice none 0 0], [], [], rfl, rfl, ⟨rfl, rfl⟩, ow_nil⟩⟩⟩
theorem open_Cond {w : World} {cs : List Value} {r : Go.Sy.Cond} (h : Gd.rd w cs r) : ∃ v1, cs = [.int .i64 r.Kind, .string r.Pattern.Rel, v1, .string r.Left, .string r.Right] ∧ Gd.rd w [v1] r.Pattern.Args := by
  obtain ⟨c0, d0, e0, h0, k0⟩ := h
  obtain ⟨c1, d1, e1, h1, k1⟩ := k0
  obtain ⟨c2, d2, e2, h2, k2⟩ := k1
  obtain rfl : c0 = [.int .i64 r.Kind] := h0
  obtain ⟨v1, rfl, gv1⟩ := open_Pattern h1
  obtain rfl : c2 = [.string r.Left] := h2
  obtain rfl : d2 = [.string r.Right] := k2
  exact ⟨v1, by rw [e0, e1, e2]; rfl, gv1⟩
theorem shape_Cond {w : World} {cs : List Value} {r : Go.Sy.Cond} (h : Gd.rd w cs r) : ∃ v1, cs = [.int .i64 r.Kind, .string r.Pattern.Rel, v1, .string r.Left, .string r.Right] ∧ v1.oneCell' = true := by
  obtain ⟨v1, e, g1⟩ := open_Cond h
  exact ⟨v1, e, one_rd g1⟩
theorem sub_Cond_Pattern {w : World} {v1 : Value} {r : Go.Sy.Cond} (h : Gd.rd w [.int .i64 r.Kind, .string r.Pattern.Rel, v1, .string r.Left, .string r.Right] r) : Gd.rd w [.string r.Pattern.Rel, v1] r.Pattern := by
  obtain ⟨c0, d0, e0, h0, k0⟩ := h
  obtain rfl : c0 = [.int .i64 r.Kind] := h0
  simp only [List.cons_append, List.nil_append, List.cons.injEq, true_and] at e0
  subst e0
  obtain ⟨c1, d1, e1, h1, k1⟩ := k0
  have hl : c1.length = 2 := Gd.rd_len h1
  have key : c1 = [.string r.Pattern.Rel, v1] := by
    have e2 := congrArg (List.take 2) e1
    have e3 : (c1 ++ d1).take 2 = c1 := by rw [← hl]; exact List.take_left
    rw [e3] at e2
    exact e2.symm
  rw [← key]; exact h1
theorem pk_Cond {N : Nat} {w0 : World} {H : List Chunk} {L : Fm} {K : Act → World → Prop} {v1 : Value} {r : Go.Sy.Cond} (k : D N w0 (ov [.int .i64 r.Kind, .string r.Pattern.Rel, v1, .string r.Left, .string r.Right] r :: H) L K) : D N w0 (ov [v1] r.Pattern.Args :: H) L K := by
  intro a w hf h
  refine k a w hf (St.conv (h) ?_)
  intro fv1 hv1
  exact ⟨([] ++ (([] ++ fv1) ++ ([] ++ []))), ⟨[.int .i64 r.Kind], (([.string r.Pattern.Rel] ++ [v1]) ++ ([.string r.Left] ++ [.string r.Right])), [], (([] ++ fv1) ++ ([] ++ [])), rfl, rfl, ⟨rfl, rfl⟩, ⟨([.string r.Pattern.Rel] ++ [v1]), ([.string r.Left] ++ [.string r.Right]), ([] ++ fv1), ([] ++ []), rfl, rfl, ⟨[.string r.Pattern.Rel], [v1], [], fv1, rfl, rfl, ⟨rfl, rfl⟩, hv1⟩, ⟨[.string r.Left], [.string r.Right], [], [], rfl, rfl, ⟨rfl, rfl⟩, ⟨rfl, rfl⟩⟩⟩⟩, by simp⟩
def z0_Cond : Go.Sy.Cond := ⟨0, ⟨⟨#[]⟩, []⟩, ⟨#[]⟩, ⟨#[]⟩⟩
theorem zz_Cond (w : World) : Gd.ow w [.int .i64 0, .string ⟨#[]⟩, .slice none 0 0, .string ⟨#[]⟩, .string ⟨#[]⟩] z0_Cond [] := ⟨[.int .i64 0], (([.string ⟨#[]⟩] ++ [.slice none 0 0]) ++ ([.string ⟨#[]⟩] ++ [.string ⟨#[]⟩])), [], [], rfl, rfl, ⟨rfl, rfl⟩, ⟨([.string ⟨#[]⟩] ++ [.slice none 0 0]), ([.string ⟨#[]⟩] ++ [.string ⟨#[]⟩]), [], [], rfl, rfl, ⟨[.string ⟨#[]⟩], [.slice none 0 0], [], [], rfl, rfl, ⟨rfl, rfl⟩, ow_nil⟩, ⟨[.string ⟨#[]⟩], [.string ⟨#[]⟩], [], [], rfl, rfl, ⟨rfl, rfl⟩, ⟨rfl, rfl⟩⟩⟩⟩
theorem open_Action {w : World} {cs : List Value} {r : Go.Sy.Action} (h : Gd.rd w cs r) : ∃ v1, cs = [.int .i64 r.Kind, .string r.Pattern.Rel, v1] ∧ Gd.rd w [v1] r.Pattern.Args := by
  obtain ⟨c0, d0, e0, h0, k0⟩ := h
  obtain rfl : c0 = [.int .i64 r.Kind] := h0
  obtain ⟨v1, rfl, gv1⟩ := open_Pattern k0
  exact ⟨v1, by rw [e0]; rfl, gv1⟩
theorem shape_Action {w : World} {cs : List Value} {r : Go.Sy.Action} (h : Gd.rd w cs r) : ∃ v1, cs = [.int .i64 r.Kind, .string r.Pattern.Rel, v1] ∧ v1.oneCell' = true := by
  obtain ⟨v1, e, g1⟩ := open_Action h
  exact ⟨v1, e, one_rd g1⟩
theorem sub_Action_Pattern {w : World} {v1 : Value} {r : Go.Sy.Action} (h : Gd.rd w [.int .i64 r.Kind, .string r.Pattern.Rel, v1] r) : Gd.rd w [.string r.Pattern.Rel, v1] r.Pattern := by
  obtain ⟨c0, d0, e0, h0, k0⟩ := h
  obtain rfl : c0 = [.int .i64 r.Kind] := h0
  simp only [List.cons_append, List.nil_append, List.cons.injEq, true_and] at e0
  subst e0
  exact k0
theorem pk_Action {N : Nat} {w0 : World} {H : List Chunk} {L : Fm} {K : Act → World → Prop} {v1 : Value} {r : Go.Sy.Action} (k : D N w0 (ov [.int .i64 r.Kind, .string r.Pattern.Rel, v1] r :: H) L K) : D N w0 (ov [v1] r.Pattern.Args :: H) L K := by
  intro a w hf h
  refine k a w hf (St.conv (h) ?_)
  intro fv1 hv1
  exact ⟨([] ++ ([] ++ fv1)), ⟨[.int .i64 r.Kind], ([.string r.Pattern.Rel] ++ [v1]), [], ([] ++ fv1), rfl, rfl, ⟨rfl, rfl⟩, ⟨[.string r.Pattern.Rel], [v1], [], fv1, rfl, rfl, ⟨rfl, rfl⟩, hv1⟩⟩, by simp⟩
def z0_Action : Go.Sy.Action := ⟨0, ⟨⟨#[]⟩, []⟩⟩
theorem zz_Action (w : World) : Gd.ow w [.int .i64 0, .string ⟨#[]⟩, .slice none 0 0] z0_Action [] := ⟨[.int .i64 0], ([.string ⟨#[]⟩] ++ [.slice none 0 0]), [], [], rfl, rfl, ⟨rfl, rfl⟩, ⟨[.string ⟨#[]⟩], [.slice none 0 0], [], [], rfl, rfl, ⟨rfl, rfl⟩, ow_nil⟩⟩
theorem open_Rule {w : World} {cs : List Value} {r : Go.Sy.Rule} (h : Gd.rd w cs r) : ∃ v1, ∃ v2, cs = [.string r.Name, .int .i64 r.Priority, v1, v2] ∧ Gd.rd w [v1] r.If ∧ Gd.rd w [v2] r.Then := by
  obtain ⟨c0, d0, e0, h0, k0⟩ := h
  obtain ⟨c1, d1, e1, h1, k1⟩ := k0
  obtain ⟨c2, d2, e2, h2, k2⟩ := k1
  obtain rfl : c0 = [.string r.Name] := h0
  obtain rfl : c1 = [.int .i64 r.Priority] := h1
  obtain ⟨v1, rfl⟩ := rd_cell h2
  obtain ⟨v2, rfl⟩ := rd_cell k2
  exact ⟨v1, v2, by rw [e0, e1, e2]; rfl, h2, k2⟩
theorem shape_Rule {w : World} {cs : List Value} {r : Go.Sy.Rule} (h : Gd.rd w cs r) : ∃ v1, ∃ v2, cs = [.string r.Name, .int .i64 r.Priority, v1, v2] ∧ v1.oneCell' = true ∧ v2.oneCell' = true := by
  obtain ⟨v1, v2, e, g1, g2⟩ := open_Rule h
  exact ⟨v1, v2, e, one_rd g1, one_rd g2⟩
theorem pk_Rule {N : Nat} {w0 : World} {H : List Chunk} {L : Fm} {K : Act → World → Prop} {v1 v2 : Value} {r : Go.Sy.Rule} (k : D N w0 (ov [.string r.Name, .int .i64 r.Priority, v1, v2] r :: H) L K) : D N w0 (ov [v1] r.If :: ov [v2] r.Then :: H) L K := by
  intro a w hf h
  refine k a w hf (St.conv (h.star) ?_)
  intro fp hfp
  obtain ⟨fv1, fv2, rfl, hv1, hv2⟩ := hfp
  exact ⟨([] ++ ([] ++ (fv1 ++ fv2))), ⟨[.string r.Name], ([.int .i64 r.Priority] ++ ([v1] ++ [v2])), [], ([] ++ (fv1 ++ fv2)), rfl, rfl, ⟨rfl, rfl⟩, ⟨[.int .i64 r.Priority], ([v1] ++ [v2]), [], (fv1 ++ fv2), rfl, rfl, ⟨rfl, rfl⟩, ⟨[v1], [v2], fv1, fv2, rfl, rfl, hv1, hv2⟩⟩⟩, by simp⟩
def z0_Rule : Go.Sy.Rule := ⟨⟨#[]⟩, 0, [], []⟩
theorem zz_Rule (w : World) : Gd.ow w [.string ⟨#[]⟩, .int .i64 0, .slice none 0 0, .slice none 0 0] z0_Rule [] := ⟨[.string ⟨#[]⟩], ([.int .i64 0] ++ ([.slice none 0 0] ++ [.slice none 0 0])), [], [], rfl, rfl, ⟨rfl, rfl⟩, ⟨[.int .i64 0], ([.slice none 0 0] ++ [.slice none 0 0]), [], [], rfl, rfl, ⟨rfl, rfl⟩, ⟨[.slice none 0 0], [.slice none 0 0], [], [], rfl, rfl, ow_nil, ow_nil⟩⟩⟩
theorem open_Stamp {w : World} {cs : List Value} {r : Go.Sy.Stamp} (h : Gd.rd w cs r) : ∃ v1, cs = [.string r.Fact.Rel, v1, .int .i64 r.Time] ∧ Gd.rd w [v1] r.Fact.Args := by
  obtain ⟨c0, d0, e0, h0, k0⟩ := h
  obtain ⟨v1, rfl, gv1⟩ := open_Fact h0
  obtain rfl : d0 = [.int .i64 r.Time] := k0
  exact ⟨v1, by rw [e0]; rfl, gv1⟩
theorem shape_Stamp {w : World} {cs : List Value} {r : Go.Sy.Stamp} (h : Gd.rd w cs r) : ∃ v1, cs = [.string r.Fact.Rel, v1, .int .i64 r.Time] ∧ v1.oneCell' = true := by
  obtain ⟨v1, e, g1⟩ := open_Stamp h
  exact ⟨v1, e, one_rd g1⟩
theorem sub_Stamp_Fact {w : World} {v1 : Value} {r : Go.Sy.Stamp} (h : Gd.rd w [.string r.Fact.Rel, v1, .int .i64 r.Time] r) : Gd.rd w [.string r.Fact.Rel, v1] r.Fact := by
  obtain ⟨c0, d0, e0, h0, k0⟩ := h
  have hl : c0.length = 2 := Gd.rd_len h0
  have key : c0 = [.string r.Fact.Rel, v1] := by
    have e2 := congrArg (List.take 2) e0
    have e3 : (c0 ++ d0).take 2 = c0 := by rw [← hl]; exact List.take_left
    rw [e3] at e2
    exact e2.symm
  rw [← key]; exact h0
theorem pk_Stamp {N : Nat} {w0 : World} {H : List Chunk} {L : Fm} {K : Act → World → Prop} {v1 : Value} {r : Go.Sy.Stamp} (k : D N w0 (ov [.string r.Fact.Rel, v1, .int .i64 r.Time] r :: H) L K) : D N w0 (ov [v1] r.Fact.Args :: H) L K := by
  intro a w hf h
  refine k a w hf (St.conv (h) ?_)
  intro fv1 hv1
  exact ⟨(([] ++ fv1) ++ []), ⟨([.string r.Fact.Rel] ++ [v1]), [.int .i64 r.Time], ([] ++ fv1), [], rfl, rfl, ⟨[.string r.Fact.Rel], [v1], [], fv1, rfl, rfl, ⟨rfl, rfl⟩, hv1⟩, ⟨rfl, rfl⟩⟩, by simp⟩
def z0_Stamp : Go.Sy.Stamp := ⟨⟨⟨#[]⟩, []⟩, 0⟩
theorem zz_Stamp (w : World) : Gd.ow w [.string ⟨#[]⟩, .slice none 0 0, .int .i64 0] z0_Stamp [] := ⟨([.string ⟨#[]⟩] ++ [.slice none 0 0]), [.int .i64 0], [], [], rfl, rfl, ⟨[.string ⟨#[]⟩], [.slice none 0 0], [], [], rfl, rfl, ⟨rfl, rfl⟩, ow_nil⟩, ⟨rfl, rfl⟩⟩
theorem open_Firing {w : World} {cs : List Value} {r : Go.Sy.Firing} (h : Gd.rd w cs r) : ∃ v1, cs = [.string r.Rule, v1] ∧ Gd.rd w [v1] r.Times := by
  obtain ⟨c0, d0, e0, h0, k0⟩ := h
  obtain rfl : c0 = [.string r.Rule] := h0
  obtain ⟨v1, rfl⟩ := rd_cell k0
  exact ⟨v1, by rw [e0]; rfl, k0⟩
theorem shape_Firing {w : World} {cs : List Value} {r : Go.Sy.Firing} (h : Gd.rd w cs r) : ∃ v1, cs = [.string r.Rule, v1] ∧ v1.oneCell' = true := by
  obtain ⟨v1, e, g1⟩ := open_Firing h
  exact ⟨v1, e, one_rd g1⟩
theorem pk_Firing {N : Nat} {w0 : World} {H : List Chunk} {L : Fm} {K : Act → World → Prop} {v1 : Value} {r : Go.Sy.Firing} (k : D N w0 (ov [.string r.Rule, v1] r :: H) L K) : D N w0 (ov [v1] r.Times :: H) L K := by
  intro a w hf h
  refine k a w hf (St.conv (h) ?_)
  intro fv1 hv1
  exact ⟨([] ++ fv1), ⟨[.string r.Rule], [v1], [], fv1, rfl, rfl, ⟨rfl, rfl⟩, hv1⟩, by simp⟩
def z0_Firing : Go.Sy.Firing := ⟨⟨#[]⟩, []⟩
theorem zz_Firing (w : World) : Gd.ow w [.string ⟨#[]⟩, .slice none 0 0] z0_Firing [] := ⟨[.string ⟨#[]⟩], [.slice none 0 0], [], [], rfl, rfl, ⟨rfl, rfl⟩, ow_nil⟩
theorem open_Engine {w : World} {cs : List Value} {r : Go.Sy.Engine} (h : Gd.rd w cs r) : ∃ v1, ∃ v2, ∃ v3, ∃ v4, cs = [v1, v2, .int .i64 r.Clock, v3, .bool r.Halted, v4] ∧ Gd.rd w [v1] r.Rules ∧ Gd.rd w [v2] r.Memory ∧ Gd.rd w [v3] r.Fired ∧ Gd.rd w [v4] r.Log := by
  obtain ⟨c0, d0, e0, h0, k0⟩ := h
  obtain ⟨c1, d1, e1, h1, k1⟩ := k0
  obtain ⟨c2, d2, e2, h2, k2⟩ := k1
  obtain ⟨c3, d3, e3, h3, k3⟩ := k2
  obtain ⟨c4, d4, e4, h4, k4⟩ := k3
  obtain ⟨v1, rfl⟩ := rd_cell h0
  obtain ⟨v2, rfl⟩ := rd_cell h1
  obtain rfl : c2 = [.int .i64 r.Clock] := h2
  obtain ⟨v3, rfl⟩ := rd_cell h3
  obtain rfl : c4 = [.bool r.Halted] := h4
  obtain ⟨v4, rfl⟩ := rd_cell k4
  exact ⟨v1, v2, v3, v4, by rw [e0, e1, e2, e3, e4]; rfl, h0, h1, h3, k4⟩
theorem shape_Engine {w : World} {cs : List Value} {r : Go.Sy.Engine} (h : Gd.rd w cs r) : ∃ v1, ∃ v2, ∃ v3, ∃ v4, cs = [v1, v2, .int .i64 r.Clock, v3, .bool r.Halted, v4] ∧ v1.oneCell' = true ∧ v2.oneCell' = true ∧ v3.oneCell' = true ∧ v4.oneCell' = true := by
  obtain ⟨v1, v2, v3, v4, e, g1, g2, g3, g4⟩ := open_Engine h
  exact ⟨v1, v2, v3, v4, e, one_rd g1, one_rd g2, one_rd g3, one_rd g4⟩
theorem pk_Engine {N : Nat} {w0 : World} {H : List Chunk} {L : Fm} {K : Act → World → Prop} {v1 v2 v3 v4 : Value} {r : Go.Sy.Engine} (k : D N w0 (ov [v1, v2, .int .i64 r.Clock, v3, .bool r.Halted, v4] r :: H) L K) : D N w0 (ov [v1] r.Rules :: ov [v2] r.Memory :: ov [v3] r.Fired :: ov [v4] r.Log :: H) L K := by
  intro a w hf h
  refine k a w hf (St.conv (h.star.star.star) ?_)
  intro fp hfp
  obtain ⟨qv4, fv4, rfl, rv4, hv4⟩ := hfp
  obtain ⟨qv3, fv3, rfl, rv3, hv3⟩ := rv4
  obtain ⟨fv1, fv2, rfl, hv1, hv2⟩ := rv3
  exact ⟨(fv1 ++ (fv2 ++ ([] ++ (fv3 ++ ([] ++ fv4))))), ⟨[v1], ([v2] ++ ([.int .i64 r.Clock] ++ ([v3] ++ ([.bool r.Halted] ++ [v4])))), fv1, (fv2 ++ ([] ++ (fv3 ++ ([] ++ fv4)))), rfl, rfl, hv1, ⟨[v2], ([.int .i64 r.Clock] ++ ([v3] ++ ([.bool r.Halted] ++ [v4]))), fv2, ([] ++ (fv3 ++ ([] ++ fv4))), rfl, rfl, hv2, ⟨[.int .i64 r.Clock], ([v3] ++ ([.bool r.Halted] ++ [v4])), [], (fv3 ++ ([] ++ fv4)), rfl, rfl, ⟨rfl, rfl⟩, ⟨[v3], ([.bool r.Halted] ++ [v4]), fv3, ([] ++ fv4), rfl, rfl, hv3, ⟨[.bool r.Halted], [v4], [], fv4, rfl, rfl, ⟨rfl, rfl⟩, hv4⟩⟩⟩⟩⟩, by simp⟩
theorem open_Match {w : World} {cs : List Value} {r : Go.Sy.Match} (h : Gd.rd w cs r) : ∃ v1, ∃ v2, cs = [.string r.Rule, v1, v2] ∧ Gd.rd w [v1] r.Facts ∧ Gd.rd w [v2] r.Binding := by
  obtain ⟨c0, d0, e0, h0, k0⟩ := h
  obtain ⟨c1, d1, e1, h1, k1⟩ := k0
  obtain rfl : c0 = [.string r.Rule] := h0
  obtain ⟨v1, rfl⟩ := rd_cell h1
  obtain ⟨v2, rfl⟩ := rd_cell k1
  exact ⟨v1, v2, by rw [e0, e1]; rfl, h1, k1⟩
theorem open_Choice {w : World} {cs : List Value} {r : Go.Sy.Choice} (h : Gd.rd w cs r) : ∃ v1, ∃ v2, ∃ v3, cs = [.string r.Match.Rule, v1, v2, .int .i64 r.Priority, v3, .int .i64 r.Specific, .int .i64 r.Order] ∧ Gd.rd w [v1] r.Match.Facts ∧ Gd.rd w [v2] r.Match.Binding ∧ Gd.rd w [v3] r.Times := by
  obtain ⟨c0, d0, e0, h0, k0⟩ := h
  obtain ⟨c1, d1, e1, h1, k1⟩ := k0
  obtain ⟨c2, d2, e2, h2, k2⟩ := k1
  obtain ⟨c3, d3, e3, h3, k3⟩ := k2
  obtain ⟨v1, v2, rfl, gv1, gv2⟩ := open_Match h0
  obtain rfl : c1 = [.int .i64 r.Priority] := h1
  obtain ⟨v3, rfl⟩ := rd_cell h2
  obtain rfl : c3 = [.int .i64 r.Specific] := h3
  obtain rfl : d3 = [.int .i64 r.Order] := k3
  exact ⟨v1, v2, v3, by rw [e0, e1, e2, e3]; rfl, gv1, gv2, h2⟩
theorem sub_Choice_Match {w : World} {v1 v2 v3 : Value} {r : Go.Sy.Choice} (h : Gd.rd w [.string r.Match.Rule, v1, v2, .int .i64 r.Priority, v3, .int .i64 r.Specific, .int .i64 r.Order] r) : Gd.rd w [.string r.Match.Rule, v1, v2] r.Match := by
  obtain ⟨c0, d0, e0, h0, k0⟩ := h
  have hl : c0.length = 3 := Gd.rd_len h0
  have key : c0 = [.string r.Match.Rule, v1, v2] := by
    have e2 := congrArg (List.take 3) e0
    have e3 : (c0 ++ d0).take 3 = c0 := by rw [← hl]; exact List.take_left
    rw [e3] at e2
    exact e2.symm
  rw [← key]; exact h0
theorem mk_Choice {w : World} {v1 : Value} {v2 : Value} {v3 : Value} (r : Go.Sy.Choice) (hv1 : Gd.rd w [v1] r.Match.Facts) (hv2 : Gd.rd w [v2] r.Match.Binding) (hv3 : Gd.rd w [v3] r.Times) : Gd.rd w [.string r.Match.Rule, v1, v2, .int .i64 r.Priority, v3, .int .i64 r.Specific, .int .i64 r.Order] r := ⟨([.string r.Match.Rule] ++ ([v1] ++ [v2])), ([.int .i64 r.Priority] ++ ([v3] ++ ([.int .i64 r.Specific] ++ [.int .i64 r.Order]))), rfl, ⟨[.string r.Match.Rule], ([v1] ++ [v2]), rfl, rfl, ⟨[v1], [v2], rfl, hv1, hv2⟩⟩, ⟨[.int .i64 r.Priority], ([v3] ++ ([.int .i64 r.Specific] ++ [.int .i64 r.Order])), rfl, rfl, ⟨[v3], ([.int .i64 r.Specific] ++ [.int .i64 r.Order]), rfl, hv3, ⟨[.int .i64 r.Specific], [.int .i64 r.Order], rfl, rfl, rfl⟩⟩⟩⟩
end Go.Sy
