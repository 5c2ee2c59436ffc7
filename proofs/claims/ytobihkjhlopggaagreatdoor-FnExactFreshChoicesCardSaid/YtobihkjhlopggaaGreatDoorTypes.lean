/-
  How the data lie in memory.
  Conditions: none.
-/
import Derived.Test.YtobihkjhlopggaaGreatDoorOwn2
import Derived.Test.YtobihkjhlopggaaGreatDoorData
namespace Go.Sy
open Go Go.RowKit
instance : Tid Int := ⟨3⟩
instance : Tid Bool := ⟨4⟩
instance : Tid (List Int) := ⟨26⟩
instance : Tid (List Bool) := ⟨0⟩
instance : Tid ByteArray := ⟨9⟩
instance : Tid (List ByteArray) := ⟨105⟩
instance : Tid Fact := ⟨124⟩
abbrev Fact.tup (r : Go.Sy.Fact) : ByteArray × (List ByteArray) := (r.Rel, r.Args)
instance : Gd Go.Sy.Fact := Gd.via Fact.tup
instance : Tid Pattern := ⟨188⟩
abbrev Pattern.tup (r : Go.Sy.Pattern) : ByteArray × (List ByteArray) := (r.Rel, r.Args)
instance : Gd Go.Sy.Pattern := Gd.via Pattern.tup
instance : Tid Pair := ⟨168⟩
abbrev Pair.tup (r : Go.Sy.Pair) : ByteArray × ByteArray := (r.Var, r.Value)
instance : Gd Go.Sy.Pair := Gd.via Pair.tup
instance : Tid Event := ⟨200⟩
abbrev Event.tup (r : Go.Sy.Event) : Int × ByteArray × Go.Sy.Fact := (r.Kind, r.Rule, r.Fact)
instance : Gd Go.Sy.Event := Gd.via Event.tup
instance : Tid Cond := ⟨190⟩
abbrev Cond.tup (r : Go.Sy.Cond) : Int × Go.Sy.Pattern × ByteArray × ByteArray := (r.Kind, r.Pattern, r.Left, r.Right)
instance : Gd Go.Sy.Cond := Gd.via Cond.tup
instance : Tid Action := ⟨192⟩
abbrev Action.tup (r : Go.Sy.Action) : Int × Go.Sy.Pattern := (r.Kind, r.Pattern)
instance : Gd Go.Sy.Action := Gd.via Action.tup
instance : Tid Rule := ⟨122⟩
abbrev Rule.tup (r : Go.Sy.Rule) : ByteArray × Int × (List Cond) × (List Action) := (r.Name, r.Priority, r.If, r.Then)
instance : Gd Go.Sy.Rule := Gd.via Rule.tup
instance : Tid Stamp := ⟨126⟩
abbrev Stamp.tup (r : Go.Sy.Stamp) : Go.Sy.Fact × Int := (r.Fact, r.Time)
instance : Gd Go.Sy.Stamp := Gd.via Stamp.tup
instance : Tid Firing := ⟨128⟩
abbrev Firing.tup (r : Go.Sy.Firing) : ByteArray × (List Int) := (r.Rule, r.Times)
instance : Gd Go.Sy.Firing := Gd.via Firing.tup
instance : Tid Engine := ⟨75⟩
abbrev Engine.tup (r : Go.Sy.Engine) : (List Rule) × (List Stamp) × Int × (List Firing) × Bool × (List Event) := (r.Rules, r.Memory, r.Clock, r.Fired, r.Halted, r.Log)
instance : Gd Go.Sy.Engine := Gd.via Engine.tup
instance : Tid Match := ⟨34⟩
abbrev Match.tup (r : Go.Sy.Match) : ByteArray × (List Fact) × (List Pair) := (r.Rule, r.Facts, r.Binding)
instance : Gd Go.Sy.Match := Gd.via Match.tup
instance : Tid Token := ⟨88⟩
abbrev Token.tup (r : Go.Sy.Token) : (List Fact) × (List Pair) := (r.Facts, r.Binding)
instance : Gd Go.Sy.Token := Gd.via Token.tup
instance : Tid Choice := ⟨36⟩
abbrev Choice.tup (r : Go.Sy.Choice) : Go.Sy.Match × Int × (List Int) × Int × Int := (r.Match, r.Priority, r.Times, r.Specific, r.Order)
instance : Gd Go.Sy.Choice := Gd.via Choice.tup
theorem open_Fact {w : World} {cs : List Value} {r : Go.Sy.Fact} (h : Gd.rd w cs r) : ∃ v1, cs = [.string r.Rel, v1] ∧ Gd.rd w [v1] r.Args := by
 obtain ⟨c0, d0, e0, h0, k0⟩ := h;obtain rfl : c0 = [.string r.Rel] := h0;obtain ⟨v1, rfl⟩ := rd_cell k0;exact ⟨v1, by rw [e0]; rfl, k0⟩
theorem shape_Fact {w : World} {cs : List Value} {r : Go.Sy.Fact} (h : Gd.rd w cs r) : ∃ v1, cs = [.string r.Rel, v1] ∧ v1.oneCell' = true := by
 obtain ⟨v1, e, g1⟩ := open_Fact h;exact ⟨v1, e, one_rd g1⟩
theorem pk_Fact {N : Nat} {w0 : World} {H : List Chunk} {L : Fm} {K : Act → World → Prop} {v1 : Value} {r : Go.Sy.Fact} (k : D N w0 (ov [.string r.Rel, v1] r :: H) L K) : D N w0 (ov [v1] r.Args :: H) L K := by
 intro a w hf h;refine k a w hf (St.conv (h) ?_);intro fv1 hv1;exact ⟨([] ++ fv1), ⟨[.string r.Rel], [v1], [], fv1, rfl, rfl, ⟨rfl, rfl⟩, hv1⟩, by simp⟩
theorem open_Pattern {w : World} {cs : List Value} {r : Go.Sy.Pattern} (h : Gd.rd w cs r) : ∃ v1, cs = [.string r.Rel, v1] ∧ Gd.rd w [v1] r.Args := by
 obtain ⟨c0, d0, e0, h0, k0⟩ := h;obtain rfl : c0 = [.string r.Rel] := h0;obtain ⟨v1, rfl⟩ := rd_cell k0;exact ⟨v1, by rw [e0]; rfl, k0⟩
theorem shape_Pattern {w : World} {cs : List Value} {r : Go.Sy.Pattern} (h : Gd.rd w cs r) : ∃ v1, cs = [.string r.Rel, v1] ∧ v1.oneCell' = true := by
 obtain ⟨v1, e, g1⟩ := open_Pattern h;exact ⟨v1, e, one_rd g1⟩
theorem pk_Pattern {N : Nat} {w0 : World} {H : List Chunk} {L : Fm} {K : Act → World → Prop} {v1 : Value} {r : Go.Sy.Pattern} (k : D N w0 (ov [.string r.Rel, v1] r :: H) L K) : D N w0 (ov [v1] r.Args :: H) L K := by
 intro a w hf h;refine k a w hf (St.conv (h) ?_);intro fv1 hv1;exact ⟨([] ++ fv1), ⟨[.string r.Rel], [v1], [], fv1, rfl, rfl, ⟨rfl, rfl⟩, hv1⟩, by simp⟩
theorem open_Pair {w : World} {cs : List Value} {r : Go.Sy.Pair} (h : Gd.rd w cs r) : cs = [.string r.Var, .string r.Value] := by
 obtain ⟨c0, d0, e0, h0, k0⟩ := h;obtain rfl : c0 = [.string r.Var] := h0;obtain rfl : d0 = [.string r.Value] := k0;exact (by rw [e0]; rfl)
theorem shape_Pair {w : World} {cs : List Value} {r : Go.Sy.Pair} (h : Gd.rd w cs r) : cs = [.string r.Var, .string r.Value] := open_Pair h
theorem pk_Pair {N : Nat} {w0 : World} {H : List Chunk} {L : Fm} {K : Act → World → Prop} {r : Go.Sy.Pair} (k : D N w0 (ov [.string r.Var, .string r.Value] r :: H) L K) : D N w0 H L K := fun a w hf h => k a w hf (h.nul (c := ov [.string r.Var, .string r.Value] r) ⟨[.string r.Var], [.string r.Value], [], [], rfl, rfl, ⟨rfl, rfl⟩, ⟨rfl, rfl⟩⟩)
theorem open_Cond {w : World} {cs : List Value} {r : Go.Sy.Cond} (h : Gd.rd w cs r) : ∃ v1, cs = [.int .i64 r.Kind, .string r.Pattern.Rel, v1, .string r.Left, .string r.Right] ∧ Gd.rd w [v1] r.Pattern.Args := by
 obtain ⟨c0, d0, e0, h0, k0⟩ := h;obtain ⟨c1, d1, e1, h1, k1⟩ := k0;obtain ⟨c2, d2, e2, h2, k2⟩ := k1;obtain rfl : c0 = [.int .i64 r.Kind] := h0;obtain ⟨v1, rfl, gv1⟩ := open_Pattern h1;obtain rfl : c2 = [.string r.Left] := h2;obtain rfl : d2 = [.string r.Right] := k2;exact ⟨v1, by rw [e0, e1, e2]; rfl, gv1⟩
theorem shape_Cond {w : World} {cs : List Value} {r : Go.Sy.Cond} (h : Gd.rd w cs r) : ∃ v1, cs = [.int .i64 r.Kind, .string r.Pattern.Rel, v1, .string r.Left, .string r.Right] ∧ v1.oneCell' = true := by
 obtain ⟨v1, e, g1⟩ := open_Cond h;exact ⟨v1, e, one_rd g1⟩
theorem sub_Cond_Pattern {w : World} {v1 : Value} {r : Go.Sy.Cond} (h : Gd.rd w [.int .i64 r.Kind, .string r.Pattern.Rel, v1, .string r.Left, .string r.Right] r) : Gd.rd w [.string r.Pattern.Rel, v1] r.Pattern := by
 obtain ⟨c0, d0, e0, h0, k0⟩ := h;obtain rfl : c0 = [.int .i64 r.Kind] := h0;simp only [List.cons_append, List.nil_append, List.cons.injEq, true_and] at e0;subst e0;obtain ⟨c1, d1, e1, h1, k1⟩ := k0;have hl : c1.length = 2 := Gd.rd_len h1;have key : c1 = [.string r.Pattern.Rel, v1] := by
  have e2 := congrArg (List.take 2) e1;have e3 : (c1 ++ d1).take 2 = c1 := by rw [← hl]; exact List.take_left
  rw [e3] at e2;exact e2.symm
 rw [← key]; exact h1
theorem pk_Cond {N : Nat} {w0 : World} {H : List Chunk} {L : Fm} {K : Act → World → Prop} {v1 : Value} {r : Go.Sy.Cond} (k : D N w0 (ov [.int .i64 r.Kind, .string r.Pattern.Rel, v1, .string r.Left, .string r.Right] r :: H) L K) : D N w0 (ov [v1] r.Pattern.Args :: H) L K := by
 intro a w hf h;refine k a w hf (St.conv (h) ?_);intro fv1 hv1;exact ⟨([] ++ (([] ++ fv1) ++ ([] ++ []))), ⟨[.int .i64 r.Kind], (([.string r.Pattern.Rel] ++ [v1]) ++ ([.string r.Left] ++ [.string r.Right])), [], (([] ++ fv1) ++ ([] ++ [])), rfl, rfl, ⟨rfl, rfl⟩, ⟨([.string r.Pattern.Rel] ++ [v1]), ([.string r.Left] ++ [.string r.Right]), ([] ++ fv1), ([] ++ []), rfl, rfl, ⟨[.string r.Pattern.Rel], [v1], [], fv1, rfl, rfl, ⟨rfl, rfl⟩, hv1⟩, ⟨[.string r.Left], [.string r.Right], [], [], rfl, rfl, ⟨rfl, rfl⟩, ⟨rfl, rfl⟩⟩⟩⟩, by simp⟩
def z0_Cond : Go.Sy.Cond := ⟨0, ⟨⟨#[]⟩, []⟩, ⟨#[]⟩, ⟨#[]⟩⟩
theorem zz_Cond (w : World) : Gd.ow w [.int .i64 0, .string ⟨#[]⟩, .slice none 0 0, .string ⟨#[]⟩, .string ⟨#[]⟩] z0_Cond [] := ⟨[.int .i64 0], (([.string ⟨#[]⟩] ++ [.slice none 0 0]) ++ ([.string ⟨#[]⟩] ++ [.string ⟨#[]⟩])), [], [], rfl, rfl, ⟨rfl, rfl⟩, ⟨([.string ⟨#[]⟩] ++ [.slice none 0 0]), ([.string ⟨#[]⟩] ++ [.string ⟨#[]⟩]), [], [], rfl, rfl, ⟨[.string ⟨#[]⟩], [.slice none 0 0], [], [], rfl, rfl, ⟨rfl, rfl⟩, ow_nil⟩, ⟨[.string ⟨#[]⟩], [.string ⟨#[]⟩], [], [], rfl, rfl, ⟨rfl, rfl⟩, ⟨rfl, rfl⟩⟩⟩⟩
theorem open_Action {w : World} {cs : List Value} {r : Go.Sy.Action} (h : Gd.rd w cs r) : ∃ v1, cs = [.int .i64 r.Kind, .string r.Pattern.Rel, v1] ∧ Gd.rd w [v1] r.Pattern.Args := by
 obtain ⟨c0, d0, e0, h0, k0⟩ := h;obtain rfl : c0 = [.int .i64 r.Kind] := h0;obtain ⟨v1, rfl, gv1⟩ := open_Pattern k0;exact ⟨v1, by rw [e0]; rfl, gv1⟩
theorem shape_Action {w : World} {cs : List Value} {r : Go.Sy.Action} (h : Gd.rd w cs r) : ∃ v1, cs = [.int .i64 r.Kind, .string r.Pattern.Rel, v1] ∧ v1.oneCell' = true := by
 obtain ⟨v1, e, g1⟩ := open_Action h;exact ⟨v1, e, one_rd g1⟩
theorem sub_Action_Pattern {w : World} {v1 : Value} {r : Go.Sy.Action} (h : Gd.rd w [.int .i64 r.Kind, .string r.Pattern.Rel, v1] r) : Gd.rd w [.string r.Pattern.Rel, v1] r.Pattern := by
 obtain ⟨c0, d0, e0, h0, k0⟩ := h;obtain rfl : c0 = [.int .i64 r.Kind] := h0;simp only [List.cons_append, List.nil_append, List.cons.injEq, true_and] at e0;subst e0;exact k0
theorem pk_Action {N : Nat} {w0 : World} {H : List Chunk} {L : Fm} {K : Act → World → Prop} {v1 : Value} {r : Go.Sy.Action} (k : D N w0 (ov [.int .i64 r.Kind, .string r.Pattern.Rel, v1] r :: H) L K) : D N w0 (ov [v1] r.Pattern.Args :: H) L K := by
 intro a w hf h;refine k a w hf (St.conv (h) ?_);intro fv1 hv1;exact ⟨([] ++ ([] ++ fv1)), ⟨[.int .i64 r.Kind], ([.string r.Pattern.Rel] ++ [v1]), [], ([] ++ fv1), rfl, rfl, ⟨rfl, rfl⟩, ⟨[.string r.Pattern.Rel], [v1], [], fv1, rfl, rfl, ⟨rfl, rfl⟩, hv1⟩⟩, by simp⟩
def z0_Action : Go.Sy.Action := ⟨0, ⟨⟨#[]⟩, []⟩⟩
theorem zz_Action (w : World) : Gd.ow w [.int .i64 0, .string ⟨#[]⟩, .slice none 0 0] z0_Action [] := ⟨[.int .i64 0], ([.string ⟨#[]⟩] ++ [.slice none 0 0]), [], [], rfl, rfl, ⟨rfl, rfl⟩, ⟨[.string ⟨#[]⟩], [.slice none 0 0], [], [], rfl, rfl, ⟨rfl, rfl⟩, ow_nil⟩⟩
theorem open_Rule {w : World} {cs : List Value} {r : Go.Sy.Rule} (h : Gd.rd w cs r) : ∃ v1, ∃ v2, cs = [.string r.Name, .int .i64 r.Priority, v1, v2] ∧ Gd.rd w [v1] r.If ∧ Gd.rd w [v2] r.Then := by
 obtain ⟨c0, d0, e0, h0, k0⟩ := h;obtain ⟨c1, d1, e1, h1, k1⟩ := k0;obtain ⟨c2, d2, e2, h2, k2⟩ := k1;obtain rfl : c0 = [.string r.Name] := h0;obtain rfl : c1 = [.int .i64 r.Priority] := h1;obtain ⟨v1, rfl⟩ := rd_cell h2;obtain ⟨v2, rfl⟩ := rd_cell k2;exact ⟨v1, v2, by rw [e0, e1, e2]; rfl, h2, k2⟩
theorem shape_Rule {w : World} {cs : List Value} {r : Go.Sy.Rule} (h : Gd.rd w cs r) : ∃ v1, ∃ v2, cs = [.string r.Name, .int .i64 r.Priority, v1, v2] ∧ v1.oneCell' = true ∧ v2.oneCell' = true := by
 obtain ⟨v1, v2, e, g1, g2⟩ := open_Rule h;exact ⟨v1, v2, e, one_rd g1, one_rd g2⟩
theorem pk_Rule {N : Nat} {w0 : World} {H : List Chunk} {L : Fm} {K : Act → World → Prop} {v1 v2 : Value} {r : Go.Sy.Rule} (k : D N w0 (ov [.string r.Name, .int .i64 r.Priority, v1, v2] r :: H) L K) : D N w0 (ov [v1] r.If :: ov [v2] r.Then :: H) L K := by
 intro a w hf h;refine k a w hf (St.conv (h.star) ?_);intro fp hfp;obtain ⟨fv1, fv2, rfl, hv1, hv2⟩ := hfp;exact ⟨([] ++ ([] ++ (fv1 ++ fv2))), ⟨[.string r.Name], ([.int .i64 r.Priority] ++ ([v1] ++ [v2])), [], ([] ++ (fv1 ++ fv2)), rfl, rfl, ⟨rfl, rfl⟩, ⟨[.int .i64 r.Priority], ([v1] ++ [v2]), [], (fv1 ++ fv2), rfl, rfl, ⟨rfl, rfl⟩, ⟨[v1], [v2], fv1, fv2, rfl, rfl, hv1, hv2⟩⟩⟩, by simp⟩
def z0_Rule : Go.Sy.Rule := ⟨⟨#[]⟩, 0, [], []⟩
theorem zz_Rule (w : World) : Gd.ow w [.string ⟨#[]⟩, .int .i64 0, .slice none 0 0, .slice none 0 0] z0_Rule [] := ⟨[.string ⟨#[]⟩], ([.int .i64 0] ++ ([.slice none 0 0] ++ [.slice none 0 0])), [], [], rfl, rfl, ⟨rfl, rfl⟩, ⟨[.int .i64 0], ([.slice none 0 0] ++ [.slice none 0 0]), [], [], rfl, rfl, ⟨rfl, rfl⟩, ⟨[.slice none 0 0], [.slice none 0 0], [], [], rfl, rfl, ow_nil, ow_nil⟩⟩⟩
theorem open_Stamp {w : World} {cs : List Value} {r : Go.Sy.Stamp} (h : Gd.rd w cs r) : ∃ v1, cs = [.string r.Fact.Rel, v1, .int .i64 r.Time] ∧ Gd.rd w [v1] r.Fact.Args := by
 obtain ⟨c0, d0, e0, h0, k0⟩ := h;obtain ⟨v1, rfl, gv1⟩ := open_Fact h0;obtain rfl : d0 = [.int .i64 r.Time] := k0;exact ⟨v1, by rw [e0]; rfl, gv1⟩
theorem shape_Stamp {w : World} {cs : List Value} {r : Go.Sy.Stamp} (h : Gd.rd w cs r) : ∃ v1, cs = [.string r.Fact.Rel, v1, .int .i64 r.Time] ∧ v1.oneCell' = true := by
 obtain ⟨v1, e, g1⟩ := open_Stamp h;exact ⟨v1, e, one_rd g1⟩
theorem sub_Stamp_Fact {w : World} {v1 : Value} {r : Go.Sy.Stamp} (h : Gd.rd w [.string r.Fact.Rel, v1, .int .i64 r.Time] r) : Gd.rd w [.string r.Fact.Rel, v1] r.Fact := by
 obtain ⟨c0, d0, e0, h0, k0⟩ := h;have hl : c0.length = 2 := Gd.rd_len h0;have key : c0 = [.string r.Fact.Rel, v1] := by
  have e2 := congrArg (List.take 2) e0;have e3 : (c0 ++ d0).take 2 = c0 := by rw [← hl]; exact List.take_left
  rw [e3] at e2;exact e2.symm
 rw [← key]; exact h0
theorem pk_Stamp {N : Nat} {w0 : World} {H : List Chunk} {L : Fm} {K : Act → World → Prop} {v1 : Value} {r : Go.Sy.Stamp} (k : D N w0 (ov [.string r.Fact.Rel, v1, .int .i64 r.Time] r :: H) L K) : D N w0 (ov [v1] r.Fact.Args :: H) L K := by
 intro a w hf h;refine k a w hf (St.conv (h) ?_);intro fv1 hv1;exact ⟨(([] ++ fv1) ++ []), ⟨([.string r.Fact.Rel] ++ [v1]), [.int .i64 r.Time], ([] ++ fv1), [], rfl, rfl, ⟨[.string r.Fact.Rel], [v1], [], fv1, rfl, rfl, ⟨rfl, rfl⟩, hv1⟩, ⟨rfl, rfl⟩⟩, by simp⟩
def z0_Stamp : Go.Sy.Stamp := ⟨⟨⟨#[]⟩, []⟩, 0⟩
theorem zz_Stamp (w : World) : Gd.ow w [.string ⟨#[]⟩, .slice none 0 0, .int .i64 0] z0_Stamp [] := ⟨([.string ⟨#[]⟩] ++ [.slice none 0 0]), [.int .i64 0], [], [], rfl, rfl, ⟨[.string ⟨#[]⟩], [.slice none 0 0], [], [], rfl, rfl, ⟨rfl, rfl⟩, ow_nil⟩, ⟨rfl, rfl⟩⟩
theorem open_Firing {w : World} {cs : List Value} {r : Go.Sy.Firing} (h : Gd.rd w cs r) : ∃ v1, cs = [.string r.Rule, v1] ∧ Gd.rd w [v1] r.Times := by
 obtain ⟨c0, d0, e0, h0, k0⟩ := h;obtain rfl : c0 = [.string r.Rule] := h0;obtain ⟨v1, rfl⟩ := rd_cell k0;exact ⟨v1, by rw [e0]; rfl, k0⟩
theorem shape_Firing {w : World} {cs : List Value} {r : Go.Sy.Firing} (h : Gd.rd w cs r) : ∃ v1, cs = [.string r.Rule, v1] ∧ v1.oneCell' = true := by
 obtain ⟨v1, e, g1⟩ := open_Firing h;exact ⟨v1, e, one_rd g1⟩
theorem pk_Firing {N : Nat} {w0 : World} {H : List Chunk} {L : Fm} {K : Act → World → Prop} {v1 : Value} {r : Go.Sy.Firing} (k : D N w0 (ov [.string r.Rule, v1] r :: H) L K) : D N w0 (ov [v1] r.Times :: H) L K := by
 intro a w hf h;refine k a w hf (St.conv (h) ?_);intro fv1 hv1;exact ⟨([] ++ fv1), ⟨[.string r.Rule], [v1], [], fv1, rfl, rfl, ⟨rfl, rfl⟩, hv1⟩, by simp⟩
def z0_Firing : Go.Sy.Firing := ⟨⟨#[]⟩, []⟩
theorem zz_Firing (w : World) : Gd.ow w [.string ⟨#[]⟩, .slice none 0 0] z0_Firing [] := ⟨[.string ⟨#[]⟩], [.slice none 0 0], [], [], rfl, rfl, ⟨rfl, rfl⟩, ow_nil⟩
theorem open_Match {w : World} {cs : List Value} {r : Go.Sy.Match} (h : Gd.rd w cs r) : ∃ v1, ∃ v2, cs = [.string r.Rule, v1, v2] ∧ Gd.rd w [v1] r.Facts ∧ Gd.rd w [v2] r.Binding := by
 obtain ⟨c0, d0, e0, h0, k0⟩ := h;obtain ⟨c1, d1, e1, h1, k1⟩ := k0;obtain rfl : c0 = [.string r.Rule] := h0;obtain ⟨v1, rfl⟩ := rd_cell h1;obtain ⟨v2, rfl⟩ := rd_cell k1;exact ⟨v1, v2, by rw [e0, e1]; rfl, h1, k1⟩
theorem shape_Match {w : World} {cs : List Value} {r : Go.Sy.Match} (h : Gd.rd w cs r) : ∃ v1, ∃ v2, cs = [.string r.Rule, v1, v2] ∧ v1.oneCell' = true ∧ v2.oneCell' = true := by
 obtain ⟨v1, v2, e, g1, g2⟩ := open_Match h;exact ⟨v1, v2, e, one_rd g1, one_rd g2⟩
theorem mk_Match {w : World} {v1 : Value} {v2 : Value} (r : Go.Sy.Match) (hv1 : Gd.rd w [v1] r.Facts) (hv2 : Gd.rd w [v2] r.Binding) : Gd.rd w [.string r.Rule, v1, v2] r := ⟨[.string r.Rule], ([v1] ++ [v2]), rfl, rfl, ⟨[v1], [v2], rfl, hv1, hv2⟩⟩
theorem pk_Match {N : Nat} {w0 : World} {H : List Chunk} {L : Fm} {K : Act → World → Prop} {v1 v2 : Value} {r : Go.Sy.Match} (k : D N w0 (ov [.string r.Rule, v1, v2] r :: H) L K) : D N w0 (ov [v1] r.Facts :: ov [v2] r.Binding :: H) L K := by
 intro a w hf h;refine k a w hf (St.conv (h.star) ?_);intro fp hfp;obtain ⟨fv1, fv2, rfl, hv1, hv2⟩ := hfp;exact ⟨([] ++ (fv1 ++ fv2)), ⟨[.string r.Rule], ([v1] ++ [v2]), [], (fv1 ++ fv2), rfl, rfl, ⟨rfl, rfl⟩, ⟨[v1], [v2], fv1, fv2, rfl, rfl, hv1, hv2⟩⟩, by simp⟩
theorem open_Token {w : World} {cs : List Value} {r : Go.Sy.Token} (h : Gd.rd w cs r) : ∃ v1, ∃ v2, cs = [v1, v2] ∧ Gd.rd w [v1] r.Facts ∧ Gd.rd w [v2] r.Binding := by
 obtain ⟨c0, d0, e0, h0, k0⟩ := h;obtain ⟨v1, rfl⟩ := rd_cell h0;obtain ⟨v2, rfl⟩ := rd_cell k0;exact ⟨v1, v2, by rw [e0]; rfl, h0, k0⟩
theorem shape_Token {w : World} {cs : List Value} {r : Go.Sy.Token} (h : Gd.rd w cs r) : ∃ v1, ∃ v2, cs = [v1, v2] ∧ v1.oneCell' = true ∧ v2.oneCell' = true := by
 obtain ⟨v1, v2, e, g1, g2⟩ := open_Token h;exact ⟨v1, v2, e, one_rd g1, one_rd g2⟩
theorem mk_Token {w : World} {v1 : Value} {v2 : Value} (r : Go.Sy.Token) (hv1 : Gd.rd w [v1] r.Facts) (hv2 : Gd.rd w [v2] r.Binding) : Gd.rd w [v1, v2] r := ⟨[v1], [v2], rfl, hv1, hv2⟩
theorem pk_Token {N : Nat} {w0 : World} {H : List Chunk} {L : Fm} {K : Act → World → Prop} {v1 v2 : Value} {r : Go.Sy.Token} (k : D N w0 (ov [v1, v2] r :: H) L K) : D N w0 (ov [v1] r.Facts :: ov [v2] r.Binding :: H) L K := by
 intro a w hf h;refine k a w hf (St.conv (h.star) ?_);intro fp hfp;obtain ⟨fv1, fv2, rfl, hv1, hv2⟩ := hfp;exact ⟨(fv1 ++ fv2), ⟨[v1], [v2], fv1, fv2, rfl, rfl, hv1, hv2⟩, by simp⟩
theorem open_Choice {w : World} {cs : List Value} {r : Go.Sy.Choice} (h : Gd.rd w cs r) : ∃ v1, ∃ v2, ∃ v3, cs = [.string r.Match.Rule, v1, v2, .int .i64 r.Priority, v3, .int .i64 r.Specific, .int .i64 r.Order] ∧ Gd.rd w [v1] r.Match.Facts ∧ Gd.rd w [v2] r.Match.Binding ∧ Gd.rd w [v3] r.Times := by
 obtain ⟨c0, d0, e0, h0, k0⟩ := h;obtain ⟨c1, d1, e1, h1, k1⟩ := k0;obtain ⟨c2, d2, e2, h2, k2⟩ := k1;obtain ⟨c3, d3, e3, h3, k3⟩ := k2;obtain ⟨v1, v2, rfl, gv1, gv2⟩ := open_Match h0;obtain rfl : c1 = [.int .i64 r.Priority] := h1;obtain ⟨v3, rfl⟩ := rd_cell h2;obtain rfl : c3 = [.int .i64 r.Specific] := h3;obtain rfl : d3 = [.int .i64 r.Order] := k3;exact ⟨v1, v2, v3, by rw [e0, e1, e2, e3]; rfl, gv1, gv2, h2⟩
theorem shape_Choice {w : World} {cs : List Value} {r : Go.Sy.Choice} (h : Gd.rd w cs r) : ∃ v1, ∃ v2, ∃ v3, cs = [.string r.Match.Rule, v1, v2, .int .i64 r.Priority, v3, .int .i64 r.Specific, .int .i64 r.Order] ∧ v1.oneCell' = true ∧ v2.oneCell' = true ∧ v3.oneCell' = true := by
 obtain ⟨v1, v2, v3, e, g1, g2, g3⟩ := open_Choice h;exact ⟨v1, v2, v3, e, one_rd g1, one_rd g2, one_rd g3⟩
theorem sub_Choice_Match {w : World} {v1 v2 v3 : Value} {r : Go.Sy.Choice} (h : Gd.rd w [.string r.Match.Rule, v1, v2, .int .i64 r.Priority, v3, .int .i64 r.Specific, .int .i64 r.Order] r) : Gd.rd w [.string r.Match.Rule, v1, v2] r.Match := by
 obtain ⟨c0, d0, e0, h0, k0⟩ := h;have hl : c0.length = 3 := Gd.rd_len h0;have key : c0 = [.string r.Match.Rule, v1, v2] := by
  have e2 := congrArg (List.take 3) e0;have e3 : (c0 ++ d0).take 3 = c0 := by rw [← hl]; exact List.take_left
  rw [e3] at e2;exact e2.symm
 rw [← key]; exact h0
theorem pk_Choice {N : Nat} {w0 : World} {H : List Chunk} {L : Fm} {K : Act → World → Prop} {v1 v2 v3 : Value} {r : Go.Sy.Choice} (k : D N w0 (ov [.string r.Match.Rule, v1, v2, .int .i64 r.Priority, v3, .int .i64 r.Specific, .int .i64 r.Order] r :: H) L K) : D N w0 (ov [v1] r.Match.Facts :: ov [v2] r.Match.Binding :: ov [v3] r.Times :: H) L K := by
 intro a w hf h;refine k a w hf (St.conv (h.star.star) ?_);intro fp hfp;obtain ⟨qv3, fv3, rfl, rv3, hv3⟩ := hfp;obtain ⟨fv1, fv2, rfl, hv1, hv2⟩ := rv3;exact ⟨(([] ++ (fv1 ++ fv2)) ++ ([] ++ (fv3 ++ ([] ++ [])))), ⟨([.string r.Match.Rule] ++ ([v1] ++ [v2])), ([.int .i64 r.Priority] ++ ([v3] ++ ([.int .i64 r.Specific] ++ [.int .i64 r.Order]))), ([] ++ (fv1 ++ fv2)), ([] ++ (fv3 ++ ([] ++ []))), rfl, rfl, ⟨[.string r.Match.Rule], ([v1] ++ [v2]), [], (fv1 ++ fv2), rfl, rfl, ⟨rfl, rfl⟩, ⟨[v1], [v2], fv1, fv2, rfl, rfl, hv1, hv2⟩⟩, ⟨[.int .i64 r.Priority], ([v3] ++ ([.int .i64 r.Specific] ++ [.int .i64 r.Order])), [], (fv3 ++ ([] ++ [])), rfl, rfl, ⟨rfl, rfl⟩, ⟨[v3], ([.int .i64 r.Specific] ++ [.int .i64 r.Order]), fv3, ([] ++ []), rfl, rfl, hv3, ⟨[.int .i64 r.Specific], [.int .i64 r.Order], [], [], rfl, rfl, ⟨rfl, rfl⟩, ⟨rfl, rfl⟩⟩⟩⟩⟩, by simp⟩
end Go.Sy
