/-
  Times of facts, choices: what they are; marks in matches and choices.
  Conditions: those that each theorem states.
-/
import Derived.Test.YtobihkjhlopggaaGreatDoorRul
import Derived.Test.YtobihkjhlopggaaGreatDoorNum
import Derived.Test.YtobihkjhlopggaaGreatDoorApm
import Derived.Test.YtobihkjhlopggaaGreatDoorTypes
namespace Go.Sy
open Go
instance : Flt Pair := ⟨fun h => by
 obtain ⟨c1, c2, e, h1, h2⟩ := h;exact ⟨c1, c2, [], [], e, rfl, ⟨h1, rfl⟩, ⟨h2, rfl⟩⟩⟩
def szPair (p : Pair) : Nat := p.Var.size + p.Value.size
def okPair (p : Pair) : Prop := okS p.Var ∧ okS p.Value
def szMatch (m : Match) : Nat := m.Rule.size + szL szFa m.Facts + szL szPair m.Binding
def okMatch (m : Match) : Prop := okS m.Rule ∧ okL okFa m.Facts ∧ okL okPair m.Binding
def szChoice (c : Choice) : Nat := szMatch c.Match + c.Times.length
def okChoice (c : Choice) : Prop := okMatch c.Match ∧ okI c.Priority ∧ okL okI c.Times ∧ okI c.Specific ∧ okI c.Order
def fFa (k : Int) (f : Fact) : Fact := ⟨markS k, mkSs (k + 1) f.Args⟩
def cFa (f : Fact) : Nat := 1 + f.Args.length
theorem cFa_f (k : Int) (x : Fact) : cFa (fFa k x) = cFa x := by simp [cFa, fFa, mapS_len]
theorem fFa_f (k : Int) (x : Fact) : fFa k (fFa k x) = fFa k x := by simp only [fFa, mkS_idem]
abbrev mkFa (k : Int) (l : List Fact) : List Fact := mapS fFa cFa k l
def fPa (k : Int) (_ : Pair) : Pair := ⟨markS k, markS (k + 1)⟩
def cPa (_ : Pair) : Nat := 2
theorem cPa_f (k : Int) (x : Pair) : cPa (fPa k x) = cPa x := rfl
theorem fPa_f (k : Int) (x : Pair) : fPa k (fPa k x) = fPa k x := rfl
abbrev mkPa (k : Int) (l : List Pair) : List Pair := mapS fPa cPa k l
theorem cFa_sum (l : List Fact) : sumC cFa l ≤ 4 * szL szFa l := by
 have := sum_le (c := cFa) (d := szFa) (m := 1) (fun x => by unfold cFa szFa szSs; omega) l;unfold szL; omega
theorem cPa_sum (l : List Pair) : sumC cPa l ≤ 4 * szL szPair l := by
 have := sum_le (c := cPa) (d := szPair) (m := 2) (fun x => by unfold cPa; omega) l;unfold szL; omega
end Go.Sy
namespace Go.Sy
open Go
end Go.Sy
