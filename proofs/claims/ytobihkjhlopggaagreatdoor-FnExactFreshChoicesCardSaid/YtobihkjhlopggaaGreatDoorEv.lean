/-
  Atoms, names, facts, events: what is valid.
  Conditions: none.
-/
import Derived.Test.YtobihkjhlopggaaGreatDoorBase
import Derived.Test.YtobihkjhlopggaaGreatDoorOwn2
namespace Go.Sy
def okCh (b : Int) : Bool := inR b 97 122 || inR b 48 57
def isAtomB (s : ByteArray) : Bool := decide (1 ≤ s.size) && decide (s.size ≤ 8) && (List.range s.size).all (fun k => okCh (sB s k))
theorem okCh_t {b : Int} (h : (97 ≤ b ∧ b ≤ 122) ∨ (48 ≤ b ∧ b ≤ 57)) : okCh b = true := by
 unfold okCh inR
 rcases h with h | h <;> simp [h.1, h.2]
theorem okCh_f {b : Int} (h : ¬ ((97 ≤ b ∧ b ≤ 122) ∨ (48 ≤ b ∧ b ≤ 57))) : okCh b = false := by
 unfold okCh inR;rw [Bool.eq_false_iff];simp only [ne_eq, Bool.or_eq_true, Bool.and_eq_true, decide_eq_true_eq];exact h
theorem atom_n1 {s : ByteArray} (h : ¬ (1 ≤ s.size ∧ s.size ≤ 8)) : false = isAtomB s := by
 unfold isAtomB;have : (decide (1 ≤ s.size) && decide (s.size ≤ 8)) = false := by
  rw [Bool.eq_false_iff]; simpa using h
 rw [this]; rfl
theorem atom_n2 {s : ByteArray} {k : Nat} (hk : k < s.size) (h : okCh (sB s k) = false) : false = isAtomB s := by
 unfold isAtomB;have : (List.range s.size).all (fun k => okCh (sB s k)) = false := by
  rw [List.all_eq_false];exact ⟨k, by simpa using hk, by simp [h]⟩
 rw [this]; simp
theorem atom_y {s : ByteArray} (h : 1 ≤ s.size ∧ s.size ≤ 8) (hi : ∀ i, i < s.size → okCh (sB s i) = true) : true = isAtomB s := by
 unfold isAtomB;have : (List.range s.size).all (fun k => okCh (sB s k)) = true := by
  rw [List.all_eq_true];intro i h2;exact hi i (by simpa using h2)
 rw [this, decide_eq_true h.1, decide_eq_true h.2]; rfl
theorem atom_w {s : ByteArray} (hi : ∀ i, i < s.size → okCh (sB s i) = true) : inR (s.size : Int) 1 8 = isAtomB s := by
 by_cases h : 1 ≤ s.size ∧ s.size ≤ 8
 ·rw [← atom_y h hi];unfold inR;rw [decide_eq_true (by omega), decide_eq_true (by omega)]; rfl
 ·rw [← atom_n1 h];unfold inR;rw [Bool.eq_false_iff];simp only [ne_eq, Bool.and_eq_true, decide_eq_true_eq];omega
theorem atom_sz {s : ByteArray} (h : isAtomB s = true) : 1 ≤ s.size ∧ s.size ≤ 8 := by
 simp only [isAtomB, Bool.and_eq_true, decide_eq_true_eq] at h;exact h.1
theorem atom_ch {s : ByteArray} (h : isAtomB s = true) {k : Nat} (hk : k < s.size) : okCh (sB s k) = true := by
 simp only [isAtomB, Bool.and_eq_true, List.all_eq_true] at h;exact h.2 k (by simpa using hk)
def isNameB (s : ByteArray) : Bool := isAtomB s && decide (97 ≤ sB s 0)
theorem name_w {s : ByteArray} (h : isAtomB s = true) : inR (sB s 0) 97 122 = decide (97 ≤ sB s 0) := by
 have h1 := atom_ch h (k := 0) (by have := atom_sz h; omega);unfold okCh inR at *;rw [Bool.eq_iff_iff];simp only [Bool.or_eq_true, Bool.and_eq_true, decide_eq_true_eq] at *;omega
def isFactB (f : Fact) : Bool := isNameB f.Rel && decide (f.Args.length ≤ 3) && f.Args.all isAtomB
def okS (s : ByteArray) : Prop := s.size ≤ 9223372036854775807
def okI (n : Int) : Prop := -9223372036854775808 ≤ n ∧ n ≤ 9223372036854775807
def okSs (l : List ByteArray) : Prop := ∀ x ∈ l, okS x
def okFa (f : Fact) : Prop := okS f.Rel ∧ okSs f.Args
def szSs (l : List ByteArray) : Nat := l.length + (l.map (·.size)).sum
def szFa (f : Fact) : Nat := f.Rel.size + szSs f.Args
theorem sums_take {l : List ByteArray} {k : Nat} {r : ByteArray} (h : l[k]? = some r) : ((l.take (k + 1)).map (·.size)).sum = ((l.take k).map (·.size)).sum + r.size := by
 rw [take_snoc h]; simp
theorem sums_take_le (l : List ByteArray) (k : Nat) : ((l.take k).map (·.size)).sum ≤ (l.map (·.size)).sum := by
 have : (l.map (·.size)).sum = ((l.take k).map (·.size)).sum + ((l.drop k).map (·.size)).sum := by
  rw [← List.sum_append, ← List.map_append, List.take_append_drop]
 omega
end Go.Sy
