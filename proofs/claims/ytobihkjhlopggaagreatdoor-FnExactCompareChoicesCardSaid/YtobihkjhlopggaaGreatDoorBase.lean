/-
  Plain facts on lists and numbers that the walks lean on.
  Conditions: none.
-/
import Derived.Test.YtobihkjhlopggaaGreatDoorData
namespace Go.Sy
/-- what is left of a budget -/
def szm (n : Nat) (left : Int) : Int := if left < n then -1 else left - n
theorem szm_neg {n : Nat} {left : Int} (h : left < n) : szm n left = -1 := by unfold szm; rw [if_pos h]
theorem szm_pos {n : Nat} {left : Int} (h : ¬ left < n) : szm n left = left - n := by unfold szm; rw [if_neg h]
/-- a list that is copied into a made one, after k elements -/
def cp {α : Type} (l : List α) (z : α) (k : Nat) : List α := l.take k ++ List.replicate (l.length - k) z
theorem cp_zero {α : Type} (l : List α) (z : α) : List.replicate l.length z = cp l z 0 := by simp [cp]
theorem cp_len {α : Type} (l : List α) (z : α) (k : Nat) (h : k ≤ l.length) : (cp l z k).length = l.length := by simp [cp]; omega
theorem cp_set {α : Type} {l : List α} {z x : α} {k : Nat} (h : l[k]? = some x) : (cp l z k).set k x = cp l z (k + 1) := by
  have hk : k < l.length := (List.getElem?_eq_some_iff.1 h).1
  unfold cp
  have h1 : l.length - k = (l.length - (k + 1)) + 1 := by omega
  rw [List.set_append_right _ _ (by simp; omega)]
  simp only [List.length_take]
  rw [show k - min k l.length = 0 by omega, h1, List.replicate_succ, List.set_cons_zero, List.take_succ_eq_append_getElem hk]
  have hx : l[k] = x := by rw [List.getElem?_eq_getElem hk] at h; simpa using h
  simp [hx]
theorem cp_done {α : Type} {l : List α} {z : α} {k : Nat} (h : l.length ≤ k) : cp l z k = l := by
  unfold cp
  rw [List.take_of_length_le h, show l.length - k = 0 by omega]
  simp
theorem take_snoc {α : Type} {l : List α} {k : Nat} {x : α} (h : l[k]? = some x) : l.take (k + 1) = l.take k ++ [x] := by
  have hk : k < l.length := (List.getElem?_eq_some_iff.1 h).1
  rw [List.take_succ_eq_append_getElem hk]
  rw [List.getElem?_eq_getElem hk] at h
  simp only [Option.some.injEq] at h
  rw [h]
theorem mem_idx {α : Type} {l : List α} {k : Nat} {x : α} (h : l[k]? = some x) : x ∈ l := List.mem_of_getElem? h
/-- two lists, element by element -/
theorem eq_of_idx {α : Type} {a b : List α} (hl : a.length = b.length) (h : ∀ i, i < a.length → a[i]? = b[i]?) : a = b := by
  apply List.ext_getElem?
  intro i
  by_cases hi : i < a.length
  · exact h i hi
  · rw [List.getElem?_eq_none (by omega), List.getElem?_eq_none (by omega)]
theorem idx_step {α : Type} {a b : List α} {k : Nat} {x y : α} (h : ∀ i, i < k → a[i]? = b[i]?) (hx : a[k]? = some x) (hy : b[k]? = some y) (e : x = y) : ∀ i, i < k + 1 → a[i]? = b[i]? := by
  intro i hi
  by_cases hk : i = k
  · subst hk; rw [hx, hy, e]
  · exact h i (by omega)
theorem forall_step {p : Nat → Prop} {k : Nat} (h : ∀ i, i < k → p i) (hk : p k) : ∀ i, i < k + 1 → p i := by
  intro i hi
  by_cases e : i = k
  · subst e; exact hk
  · exact h i (by omega)
/-! numbering in a row -/
def mapS {α : Type} (f : Int → α → α) (c : α → Nat) : Int → List α → List α
  | _, [] => []
  | k, x :: l => f k x :: mapS f c (k + c x) l
def sumC {α : Type} (c : α → Nat) (l : List α) : Nat := (l.map c).sum
section
variable {α : Type} {f : Int → α → α} {c : α → Nat} {k : Int} {l : List α} {i : Nat} {x : α}
theorem sumC_snoc : sumC c (l ++ [x]) = sumC c l + c x := by simp [sumC]
theorem sumC_take (hx : l[i]? = some x) : sumC c (l.take (i + 1)) = sumC c (l.take i) + c x := by rw [take_snoc hx, sumC_snoc]
theorem sumC_take_le (l : List α) (c : α → Nat) (i : Nat) : sumC c (l.take i) ≤ sumC c l := by
  have : sumC c l = sumC c (l.take i) + sumC c (l.drop i) := by unfold sumC; rw [← List.sum_append, ← List.map_append, List.take_append_drop]
  omega
end
def fI (k : Int) (_ : Int) : Int := k
def cI (_ : Int) : Nat := 1
abbrev mkI (k : Int) (l : List Int) : List Int := mapS fI cI k l
def fR (k : Int) (r : Reason) : Reason := ⟨k, mkI (k + 1) r.In, mkI (k + 1 + r.In.length) r.Out⟩
/-! sizes -/
theorem sum_le_of_mem {l : List Nat} {n : Nat} (h : n ∈ l) : n ≤ l.sum := by
  induction l with
  | nil => cases h
  | cons x l ih =>
    simp only [List.sum_cons]
    rcases List.mem_cons.1 h with e | h
    · omega
    · have := ih h; omega
/-! ascending lists of nodes -/
def inR (x lo hi : Int) : Bool := decide (lo ≤ x) && decide (x ≤ hi)
/- Indices of the elements with a property. -/
/- Marks. -/
theorem szm_val {n : Nat} {left : Int} (h : ¬ szm n left < 0) : szm n left = left - n ∧ (n : Int) ≤ left := by
  unfold szm at *
  split at * <;> omega
end Go.Sy
