/-
  Plain facts on lists and numbers that the walks lean on.
  Conditions: none.
-/
import Derived.Test.YtobihkjhlopggaaGreatDoorData
namespace Go.Sy
def szm (n : Nat) (left : Int) : Int := if left < n then -1 else left - n
theorem szm_neg {n : Nat} {left : Int} (h : left < n) : szm n left = -1 := by unfold szm; rw [if_pos h]
theorem szm_pos {n : Nat} {left : Int} (h : ¬ left < n) : szm n left = left - n := by unfold szm; rw [if_neg h]
def cp {α : Type} (l : List α) (z : α) (k : Nat) : List α := l.take k ++ List.replicate (l.length - k) z
theorem cp_zero {α : Type} (l : List α) (z : α) : List.replicate l.length z = cp l z 0 := by simp [cp]
theorem cp_len {α : Type} (l : List α) (z : α) (k : Nat) (h : k ≤ l.length) : (cp l z k).length = l.length := by simp [cp]; omega
theorem cp_set {α : Type} {l : List α} {z x : α} {k : Nat} (h : l[k]? = some x) : (cp l z k).set k x = cp l z (k + 1) := by
 have hk : k < l.length := (List.getElem?_eq_some_iff.1 h).1;unfold cp;have h1 : l.length - k = (l.length - (k + 1)) + 1 := by omega
 rw [List.set_append_right _ _ (by simp; omega)];simp only [List.length_take];rw [show k - min k l.length = 0 by omega, h1, List.replicate_succ, List.set_cons_zero, List.take_succ_eq_append_getElem hk];have hx : l[k] = x := by rw [List.getElem?_eq_getElem hk] at h; simpa using h
 simp [hx]
theorem cp_done {α : Type} {l : List α} {z : α} {k : Nat} (h : l.length ≤ k) : cp l z k = l := by
 unfold cp;rw [List.take_of_length_le h, show l.length - k = 0 by omega];simp
theorem take_snoc {α : Type} {l : List α} {k : Nat} {x : α} (h : l[k]? = some x) : l.take (k + 1) = l.take k ++ [x] := by
 have hk : k < l.length := (List.getElem?_eq_some_iff.1 h).1;rw [List.take_succ_eq_append_getElem hk];rw [List.getElem?_eq_getElem hk] at h;simp only [Option.some.injEq] at h;rw [h]
theorem mem_idx {α : Type} {l : List α} {k : Nat} {x : α} (h : l[k]? = some x) : x ∈ l := List.mem_of_getElem? h
theorem eq_of_idx {α : Type} {a b : List α} (hl : a.length = b.length) (h : ∀ i, i < a.length → a[i]? = b[i]?) : a = b := by
 apply List.ext_getElem?
 intro i
 by_cases hi : i < a.length
 ·exact h i hi
 ·rw [List.getElem?_eq_none (by omega), List.getElem?_eq_none (by omega)]
theorem idx_step {α : Type} {a b : List α} {k : Nat} {x y : α} (h : ∀ i, i < k → a[i]? = b[i]?) (hx : a[k]? = some x) (hy : b[k]? = some y) (e : x = y) : ∀ i, i < k + 1 → a[i]? = b[i]? := by
 intro i hi
 by_cases hk : i = k
 ·subst hk; rw [hx, hy, e]
 ·exact h i (by omega)
theorem forall_step {p : Nat → Prop} {k : Nat} (h : ∀ i, i < k → p i) (hk : p k) : ∀ i, i < k + 1 → p i := by
 intro i hi
 by_cases e : i = k
 ·subst e; exact hk
 ·exact h i (by omega)
def mapS {α : Type} (f : Int → α → α) (c : α → Nat) : Int → List α → List α
 | _, [] => []
 | k, x :: l => f k x :: mapS f c (k + c x) l
def sumC {α : Type} (c : α → Nat) (l : List α) : Nat := (l.map c).sum
def mapAt {α : Type} (f : Int → α → α) (c : α → Nat) (k : Int) (l : List α) (i : Nat) : List α := mapS f c k (l.take i) ++ l.drop i
section
variable {α : Type} {f : Int → α → α} {c : α → Nat} {k : Int} {l : List α} {i : Nat} {x : α}
theorem mapS_len : ∀ {l : List α} {k : Int}, (mapS f c k l).length = l.length
 | [], _ => rfl
 | _ :: l, _ => by simp [mapS, mapS_len (l := l)]
theorem sumC_snoc : sumC c (l ++ [x]) = sumC c l + c x := by simp [sumC]
theorem mapS_snoc : ∀ {l : List α} {k : Int}, mapS f c k (l ++ [x]) = mapS f c k l ++ [f (k + sumC c l) x]
 | [], k => by simp [mapS, sumC]
 | y :: l, k => by
  simp only [List.cons_append, mapS, mapS_snoc (l := l)];have : k + (c y : Int) + (sumC c l : Nat) = k + (sumC c (y :: l) : Nat) := by simp [sumC]; omega
  rw [this]
theorem mapAt_zero : mapAt f c k l 0 = l := by simp [mapAt, mapS]
theorem mapAt_len (h : i ≤ l.length) : (mapAt f c k l i).length = l.length := by simp [mapAt, mapS_len]; omega
theorem mapAt_get (h : i ≤ l.length) : (mapAt f c k l i)[i]? = l[i]? := by
 unfold mapAt;rw [List.getElem?_append_right (by simp [mapS_len]; omega), List.getElem?_drop]
 congr 1
 simp [mapS_len]; omega
theorem mapAt_set (h : i ≤ l.length) (hx : (mapAt f c k l i)[i]? = some x) : (mapAt f c k l i).set i (f (k + sumC c (l.take i)) x) = mapAt f c k l (i + 1) := by
 rw [mapAt_get h] at hx;have hlt : i < l.length := (List.getElem?_eq_some_iff.1 hx).1;unfold mapAt;rw [List.set_append_right _ _ (by simp [mapS_len]; omega)];have e0 : i - (mapS f c k (l.take i)).length = 0 := by simp [mapS_len]; omega
 rw [e0, List.drop_eq_getElem_cons hlt, List.set_cons_zero, take_snoc hx, mapS_snoc];simp
theorem sumC_take (hx : l[i]? = some x) : sumC c (l.take (i + 1)) = sumC c (l.take i) + c x := by rw [take_snoc hx, sumC_snoc]
theorem sumC_take_le (l : List α) (c : α → Nat) (i : Nat) : sumC c (l.take i) ≤ sumC c l := by
 have : sumC c l = sumC c (l.take i) + sumC c (l.drop i) := by unfold sumC; rw [← List.sum_append, ← List.map_append, List.take_append_drop]
 omega
theorem mapAt_done (h : l.length ≤ i) : mapAt f c k l i = mapS f c k l := by
 unfold mapAt;rw [List.take_of_length_le h, List.drop_eq_nil_of_le h]; simp
theorem mapS_get : ∀ {l : List α} {k : Int} {i : Nat} {x : α}, l[i]? = some x → (mapS f c k l)[i]? = some (f (k + sumC c (l.take i)) x)
 | [], _, _, _, h => by simp at h
 | y :: l, k, 0, x, h => by
  simp only [List.getElem?_cons_zero, Option.some.injEq] at h;subst h;simp [mapS, sumC]
 | y :: l, k, i + 1, x, h => by
  simp only [List.getElem?_cons_succ] at h;simp only [mapS, List.getElem?_cons_succ, List.take_succ_cons];rw [mapS_get h];have : k + (c y : Int) + (sumC c (l.take i) : Nat) = k + (sumC c (y :: l.take i) : Nat) := by simp [sumC]; omega
  rw [this]
theorem mapS_idem (hf : ∀ k x, f k (f k x) = f k x) (hc : ∀ k x, c (f k x) = c x) : ∀ (l : List α) (k : Int), mapS f c k (mapS f c k l) = mapS f c k l
 | [], _ => rfl
 | x :: l, k => by simp only [mapS, hf, hc]; rw [mapS_idem hf hc l]
theorem sumC_mapS (hc : ∀ k x, c (f k x) = c x) : ∀ (l : List α) (k : Int), sumC c (mapS f c k l) = sumC c l
 | [], _ => rfl
 | x :: l, k => by
  have := sumC_mapS hc l (k + c x);simp only [sumC, mapS, List.map_cons, List.sum_cons, hc] at this ⊢;omega
theorem mapS_fix {l : List α} {k : Int} {i : Nat} {x : α} (h : l = mapS f c k l) (hx : l[i]? = some x) : x = f (k + sumC c (l.take i)) x := by
 have := mapS_get (f := f) (c := c) (k := k) hx;rw [← h, hx] at this;simpa using this
end
def fI (k : Int) (_ : Int) : Int := k
def cI (_ : Int) : Nat := 1
abbrev mkI (k : Int) (l : List Int) : List Int := mapS fI cI k l
theorem sumI (l : List Int) : sumC cI l = l.length := by
 induction l with
 | nil => rfl
 | cons x l ih => simp only [sumC, List.map_cons, List.sum_cons, cI, List.length_cons] at ih ⊢; omega
def fR (k : Int) (r : Reason) : Reason := ⟨k, mkI (k + 1) r.In, mkI (k + 1 + r.In.length) r.Out⟩
theorem sum_le_of_mem {l : List Nat} {n : Nat} (h : n ∈ l) : n ≤ l.sum := by
 induction l with
 | nil => cases h
 | cons x l ih =>
  simp only [List.sum_cons]
  rcases List.mem_cons.1 h with e | h
  ·omega
  ·have := ih h; omega
def inR (x lo hi : Int) : Bool := decide (lo ≤ x) && decide (x ≤ hi)
theorem all_of_idx {α : Type} {l : List α} {p : α → Bool} (h : ∀ i, i < l.length → ∀ x, l[i]? = some x → p x = true) : l.all p = true := by
 rw [List.all_eq_true];intro x hx;obtain ⟨i, hi⟩ := List.getElem?_of_mem hx;exact h i (List.getElem?_eq_some_iff.1 hi).1 x hi
theorem all_bad {α : Type} {l : List α} {p : α → Bool} {k : Nat} {x : α} (h : l[k]? = some x) (hx : p x = false) : l.all p = false := by
 rw [List.all_eq_false];exact ⟨x, List.mem_of_getElem? h, by simp [hx]⟩
/- Indices of the elements with a property. -/
/- Marks. -/
theorem mkI_set {a : List Int} {k kk : Int} {i : Nat} (h : i < a.length) (hk : kk = k + i) : (mapAt fI cI k a i).set i kk = mapAt fI cI k a (i + 1) := by
 have hx : a[i]? = some a[i] := by simp [h]
 rw [← mapAt_set (f := fI) (c := cI) (k := k) (Nat.le_of_lt h) (by rw [mapAt_get (Nat.le_of_lt h)]; exact hx)];simp only [fI, sumI, List.length_take, Nat.min_eq_left (Nat.le_of_lt h), hk]
theorem mkI_fix {a : List Int} {k x : Int} {i : Nat} (h : a = mkI k a) (hx : a[i]? = some x) : x = k + i := by
 have := mapS_fix h hx;simp only [fI, sumI, List.length_take, Nat.min_eq_left (Nat.le_of_lt (List.getElem?_eq_some_iff.1 hx).1)] at this;exact this
theorem mkI_idem (k : Int) (l : List Int) : mkI k l = mkI k (mkI k l) := (mapS_idem (f := fI) (c := cI) (fun _ _ => rfl) (fun _ _ => rfl) l k).symm
theorem szm_val {n : Nat} {left : Int} (h : ¬ szm n left < 0) : szm n left = left - n ∧ (n : Int) ≤ left := by
 unfold szm at *
 split at * <;> omega
end Go.Sy
