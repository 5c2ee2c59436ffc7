/-
  Atoms, names, facts, events: what is valid.
  Conditions: none.
-/
import Derived.Test.YtobihkjhlopggaaGreatDoorBase
import Derived.Test.YtobihkjhlopggaaGreatDoorOwn2
namespace Go.Sy
def okS (s : ByteArray) : Prop := s.size ≤ 9223372036854775807
def okI (n : Int) : Prop := -9223372036854775808 ≤ n ∧ n ≤ 9223372036854775807
def okSs (l : List ByteArray) : Prop := ∀ x ∈ l, okS x
def okFa (f : Fact) : Prop := okS f.Rel ∧ okSs f.Args
def szSs (l : List ByteArray) : Nat := l.length + (l.map (·.size)).sum
def szFa (f : Fact) : Nat := f.Rel.size + szSs f.Args
theorem sums_take {l : List ByteArray} {k : Nat} {r : ByteArray} (h : l[k]? = some r) : ((l.take (k + 1)).map (·.size)).sum = ((l.take k).map (·.size)).sum + r.size := by
 rw [take_snoc h]; simp
theorem sums_take_le (l : List ByteArray) (k : Nat) : ((l.take k).map (·.size)).sum ≤ (l.map (·.size)).sum := by
 have : (l.map (·.size)).sum = ((l.take k).map (·.size)).sum + ((l.drop k).map (·.size)).sum := by
  rw [← List.sum_append, ← List.map_append, List.take_append_drop]
 omega
end Go.Sy
