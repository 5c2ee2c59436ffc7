/-
  Engines and their parts: sizes and bounds.
  Conditions: none.
-/
import Derived.Test.YtobihkjhlopggaaGreatDoorEv
namespace Go.Sy
def szL {α : Type} (c : α → Nat) (l : List α) : Nat := l.length + sumC c l
def okL {α : Type} (p : α → Prop) (l : List α) : Prop := ∀ x ∈ l, p x
theorem sumC_mem {α : Type} {c : α → Nat} {l : List α} {x : α} (h : x ∈ l) : c x ≤ sumC c l := sum_le_of_mem (List.mem_map_of_mem h)
end Go.Sy
