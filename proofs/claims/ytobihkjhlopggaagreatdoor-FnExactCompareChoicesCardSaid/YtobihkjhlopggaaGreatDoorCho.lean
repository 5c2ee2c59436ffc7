/-
  Times of facts, choices: what they are; marks in matches and choices.
  Conditions: those that each theorem states.
-/
import Derived.Test.YtobihkjhlopggaaGreatDoorRul
import Derived.Test.YtobihkjhlopggaaGreatDoorNum
import Derived.Test.YtobihkjhlopggaaGreatDoorApm
import Derived.Test.YtobihkjhlopggaaGreatDoorTypes
namespace Go.Sy
open Go
instance : Flt Pair := ⟨fun h => by
  obtain ⟨c1, c2, e, h1, h2⟩ := h
  exact ⟨c1, c2, [], [], e, rfl, ⟨h1, rfl⟩, ⟨h2, rfl⟩⟩⟩
def szPair (p : Pair) : Nat := p.Var.size + p.Value.size
def okPair (p : Pair) : Prop := okS p.Var ∧ okS p.Value
def szMatch (m : Match) : Nat := m.Rule.size + szL szFa m.Facts + szL szPair m.Binding
def okMatch (m : Match) : Prop := okS m.Rule ∧ okL okFa m.Facts ∧ okL okPair m.Binding
def szChoice (c : Choice) : Nat := szMatch c.Match + c.Times.length
def okChoice (c : Choice) : Prop := okMatch c.Match ∧ okI c.Priority ∧ okL okI c.Times ∧ okI c.Specific ∧ okI c.Order
/-! ### the first one of a list -/
/-! ### times -/
/-! ### how specific a rule is -/
/-! ### choices -/
/-! ### marks -/
end Go.Sy
namespace Go.Sy
open Go
/-! ### what PutFact and TakeFact give -/
/-! ### how much is marked -/
end Go.Sy
