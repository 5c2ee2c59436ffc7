/-
  Engines and their parts: sizes and bounds.
  Conditions: none.
-/
import Derived.Test.YtobihkjhlopggaaGreatDoorEv
namespace Go.Sy
def szL {α : Type} (c : α → Nat) (l : List α) : Nat := l.length + sumC c l
def okL {α : Type} (p : α → Prop) (l : List α) : Prop := ∀ x ∈ l, p x
theorem sumC_mem {α : Type} {c : α → Nat} {l : List α} {x : α} (h : x ∈ l) : c x ≤ sumC c l := sum_le_of_mem (List.mem_map_of_mem h)
def szPattern (p : Pattern) : Nat := p.Rel.size + szSs p.Args
def okPattern (p : Pattern) : Prop := okS p.Rel ∧ okSs p.Args
def szCond (x : Cond) : Nat := szPattern x.Pattern + x.Left.size + x.Right.size
def okCond (x : Cond) : Prop := okI x.Kind ∧ okPattern x.Pattern ∧ okS x.Left ∧ okS x.Right
def szAction (x : Action) : Nat := szPattern x.Pattern
def okAction (x : Action) : Prop := okI x.Kind ∧ okPattern x.Pattern
def szRule (r : Rule) : Nat := r.Name.size + szL szCond r.If + szL szAction r.Then
def okRule (r : Rule) : Prop := okS r.Name ∧ okI r.Priority ∧ okL okCond r.If ∧ okL okAction r.Then
def szStamp (s : Stamp) : Nat := szFa s.Fact
def okStamp (s : Stamp) : Prop := okFa s.Fact ∧ okI s.Time
def szFiring (f : Firing) : Nat := f.Rule.size + f.Times.length
def okFiring (f : Firing) : Prop := okS f.Rule ∧ okL okI f.Times
end Go.Sy
