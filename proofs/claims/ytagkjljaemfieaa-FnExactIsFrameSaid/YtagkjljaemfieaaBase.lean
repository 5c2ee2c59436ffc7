/-
  Plain facts on lists and numbers that the walks lean on.
  Conditions: none.
-/
import Derived.Test.YtagkjljaemfieaaData
namespace Go.Sy

/-- what is left of a budget -/
def szm (n : Nat) (left : Int) : Int := if left < n then -1 else left - n

theorem szm_neg {n : Nat} {left : Int} (h : left < n) : szm n left = -1 := by unfold szm; rw [if_pos h]
theorem szm_pos {n : Nat} {left : Int} (h : ¬ left < n) : szm n left = left - n := by unfold szm; rw [if_neg h]
theorem szm_le {n : Nat} {left : Int} (h : 0 ≤ szm n left) : (n : Int) ≤ left := by
  unfold szm at h; split at h <;> omega

/-- a list that is copied into a made one, after k elements -/
def cp {α : Type} (l : List α) (z : α) (k : Nat) : List α := l.take k ++ List.replicate (l.length - k) z
theorem cp_zero {α : Type} (l : List α) (z : α) : List.replicate l.length z = cp l z 0 := by simp [cp]
theorem cp_len {α : Type} (l : List α) (z : α) (k : Nat) (h : k ≤ l.length) : (cp l z k).length = l.length := by simp [cp]; omega
theorem cp_set {α : Type} {l : List α} {z x : α} {k : Nat} (h : l[k]? = some x) : (cp l z k).set k x = cp l z (k + 1) := by
  have hk : k < l.length := (List.getElem?_eq_some_iff.1 h).1
  unfold cp
  have h1 : l.length - k = (l.length - (k + 1)) + 1 := by omega
  rw [List.set_append_right _ _ (by simp; omega)]
  simp only [List.length_take]
  rw [show k - min k l.length = 0 by omega, h1, List.replicate_succ, List.set_cons_zero, List.take_succ_eq_append_getElem hk]
  have hx : l[k] = x := by rw [List.getElem?_eq_getElem hk] at h; simpa using h
  simp [hx]
theorem cp_done {α : Type} {l : List α} {z : α} {k : Nat} (h : l.length ≤ k) : cp l z k = l := by
  unfold cp
  rw [List.take_of_length_le h, show l.length - k = 0 by omega]
  simp

theorem take_snoc {α : Type} {l : List α} {k : Nat} {x : α} (h : l[k]? = some x) : l.take (k + 1) = l.take k ++ [x] := by
  have hk : k < l.length := (List.getElem?_eq_some_iff.1 h).1
  rw [List.take_succ_eq_append_getElem hk]
  rw [List.getElem?_eq_getElem hk] at h
  simp only [Option.some.injEq] at h
  rw [h]
theorem mem_idx {α : Type} {l : List α} {k : Nat} {x : α} (h : l[k]? = some x) : x ∈ l := List.mem_of_getElem? h

/-- two lists, element by element -/
theorem eq_of_idx {α : Type} {a b : List α} (hl : a.length = b.length) (h : ∀ i, i < a.length → a[i]? = b[i]?) : a = b := by
  apply List.ext_getElem?
  intro i
  by_cases hi : i < a.length
  · exact h i hi
  · rw [List.getElem?_eq_none (by omega), List.getElem?_eq_none (by omega)]
theorem idx_step {α : Type} {a b : List α} {k : Nat} {x y : α} (h : ∀ i, i < k → a[i]? = b[i]?) (hx : a[k]? = some x) (hy : b[k]? = some y) (e : x = y) : ∀ i, i < k + 1 → a[i]? = b[i]? := by
  intro i hi
  by_cases hk : i = k
  · subst hk; rw [hx, hy, e]
  · exact h i (by omega)

theorem forall_step {p : Nat → Prop} {k : Nat} (h : ∀ i, i < k → p i) (hk : p k) : ∀ i, i < k + 1 → p i := by
  intro i hi
  by_cases e : i = k
  · subst e; exact hk
  · exact h i (by omega)

/-! sizes -/
def szR (r : Reason) : Nat := r.In.length + r.Out.length
def szRs (l : List Reason) : Nat := l.length + (l.map szR).sum
def szB (b : Beliefs) : Nat := szRs b.Reasons
def szF (f : Frame) : Nat := szB f.Beliefs + f.Assumed.length + f.Bad.length

theorem sum_le_of_mem {l : List Nat} {n : Nat} (h : n ∈ l) : n ≤ l.sum := by
  induction l with
  | nil => cases h
  | cons x l ih =>
    simp only [List.sum_cons]
    rcases List.mem_cons.1 h with e | h
    · omega
    · have := ih h; omega
theorem szR_le {l : List Reason} {r : Reason} (h : r ∈ l) : szR r ≤ (l.map szR).sum := sum_le_of_mem (List.mem_map_of_mem h)
theorem sum_take {l : List Reason} {k : Nat} {r : Reason} (h : l[k]? = some r) : ((l.take (k + 1)).map szR).sum = ((l.take k).map szR).sum + szR r := by
  rw [take_snoc h]; simp
theorem sum_take_le (l : List Reason) (k : Nat) : ((l.take k).map szR).sum ≤ (l.map szR).sum := by
  have : (l.map szR).sum = ((l.take k).map szR).sum + ((l.drop k).map szR).sum := by
    rw [← List.sum_append, ← List.map_append, List.take_append_drop]
  omega

/-! ascending lists of nodes -/
def ascAt (l : List Int) (n : Int) (k : Nat) : Bool :=
  match l[k]? with
  | none => false
  | some x => !(decide (x < 0)) && !(decide (n ≤ x)) && (k == 0 || match l[k - 1]? with | none => false | some y => !(decide (x ≤ y)))
def asc (l : List Int) (n : Int) : Bool := (List.range l.length).all (ascAt l n)
theorem asc_bad {l : List Int} {n : Int} {k : Nat} (h : k < l.length) (hk : ascAt l n k = false) : asc l n = false := by
  unfold asc
  rw [List.all_eq_false]
  exact ⟨k, by simpa using h, by simp [hk]⟩
theorem asc_all {l : List Int} {n : Int} (h : ∀ i, i < l.length → ascAt l n i = true) : asc l n = true := by
  unfold asc
  rw [List.all_eq_true]
  intro i hi
  exact h i (by simpa using hi)

/-- the reference's form: the bound is one less, and may wrap -/
def ascAtW (l : List Int) (n : Int) (k : Nat) : Bool :=
  match l[k]? with
  | none => false
  | some x => (decide (0 ≤ x) && decide (x ≤ wr (n - 1))) && (k == 0 || match l[k - 1]? with | none => false | some y => !(decide (x ≤ y)))
def ascW (l : List Int) (n : Int) : Bool := (List.range l.length).all (ascAtW l n)
theorem ascW_bad {l : List Int} {n : Int} {k : Nat} (h : k < l.length) (hk : ascAtW l n k = false) : ascW l n = false := by
  unfold ascW
  rw [List.all_eq_false]
  exact ⟨k, by simpa using h, by simp [hk]⟩
theorem ascW_all {l : List Int} {n : Int} (h : ∀ i, i < l.length → ascAtW l n i = true) : ascW l n = true := by
  unfold ascW
  rw [List.all_eq_true]
  intro i hi
  exact h i (by simpa using hi)
theorem ascAtW_eq {l : List Int} {n : Int} (h : -9223372036854775808 < n ∧ n ≤ 9223372036854775807) (k : Nat) : ascAtW l n k = ascAt l n k := by
  unfold ascAtW ascAt
  rw [wr_in (by omega)]
  cases l[k]? with
  | none => rfl
  | some x =>
    simp only
    have e : (decide (0 ≤ x) && decide (x ≤ n - 1)) = (!(decide (x < 0)) && !(decide (n ≤ x))) := by
      rw [Bool.eq_iff_iff]; simp; omega
    rw [e]
theorem ascW_eq {l : List Int} {n : Int} (h : -9223372036854775808 < n ∧ n ≤ 9223372036854775807) : ascW l n = asc l n := by
  unfold ascW asc
  congr 1
  funext k
  exact ascAtW_eq h k

def inR (x lo hi : Int) : Bool := decide (lo ≤ x) && decide (x ≤ hi)

def isReason (r : Reason) (n : Int) : Bool := decide (0 ≤ r.For) && decide (r.For < n) && asc r.In n && asc r.Out n
def isBeliefs (b : Beliefs) : Bool := decide (0 ≤ b.Nodes) && decide (b.Nodes ≤ 24) && decide (b.Reasons.length ≤ 60) && b.Reasons.all (fun r => isReason r b.Nodes)

def isReasonW (r : Reason) (n : Int) : Bool := inR r.For 0 (wr (n - 1)) && ascW r.In n && ascW r.Out n
def isBeliefsW (b : Beliefs) : Bool := b.Reasons.all (fun r => isReasonW r b.Nodes) && (inR b.Nodes 0 24 && decide (b.Reasons.length ≤ 60))
theorem isReasonW_eq {r : Reason} {n : Int} (h : -9223372036854775808 < n ∧ n ≤ 9223372036854775807) : isReasonW r n = isReason r n := by
  unfold isReasonW isReason inR
  rw [ascW_eq h, ascW_eq h, wr_in (by omega)]
  have e : (decide (0 ≤ r.For) && decide (r.For ≤ n - 1)) = (decide (0 ≤ r.For) && decide (r.For < n)) := by
    rw [Bool.eq_iff_iff]; simp; omega
  rw [e]
theorem isBeliefsW_eq (b : Beliefs) : isBeliefsW b = isBeliefs b := by
  unfold isBeliefsW isBeliefs inR
  by_cases h : 0 ≤ b.Nodes ∧ b.Nodes ≤ 24
  · have e : (fun r => isReasonW r b.Nodes) = (fun r => isReason r b.Nodes) := by funext r; exact isReasonW_eq (by omega)
    rw [e]
    simp [h.1, h.2, Bool.and_comm]
  · have : (decide (0 ≤ b.Nodes) && decide (b.Nodes ≤ 24)) = false := by
      rw [Bool.eq_false_iff]; simpa using h
    rw [this]; simp

theorem all_of_idx {α : Type} {l : List α} {p : α → Bool} (h : ∀ i, i < l.length → ∀ x, l[i]? = some x → p x = true) : l.all p = true := by
  rw [List.all_eq_true]
  intro x hx
  obtain ⟨i, hi⟩ := List.getElem?_of_mem hx
  exact h i (List.getElem?_eq_some_iff.1 hi).1 x hi
theorem all_bad {α : Type} {l : List α} {p : α → Bool} {k : Nat} {x : α} (h : l[k]? = some x) (hx : p x = false) : l.all p = false := by
  rw [List.all_eq_false]
  exact ⟨x, List.mem_of_getElem? h, by simp [hx]⟩
def isPremise (r : Reason) : Bool := decide (r.In.length = 0) && decide (r.Out.length = 0)

def noOut (r : Reason) : Bool := decide (r.Out.length = 0)
theorem noOut_t {r : Reason} (h : r.Out.length = 0) : noOut r = true := decide_eq_true h
theorem noOut_f {r : Reason} (h : ¬ r.Out.length = 0) : noOut r = false := decide_eq_false h
def isFrame (f : Frame) : Bool := isBeliefs f.Beliefs && decide (f.Assumed.length ≤ 6) && asc f.Assumed f.Beliefs.Nodes && asc f.Bad f.Beliefs.Nodes && f.Beliefs.Reasons.all noOut
def isFrameW (f : Frame) : Bool := f.Beliefs.Reasons.all noOut && (isBeliefsW f.Beliefs && ascW f.Assumed f.Beliefs.Nodes && decide (f.Assumed.length ≤ 6) && ascW f.Bad f.Beliefs.Nodes)
theorem isBeliefs_nodes {b : Beliefs} (h : isBeliefs b = true) : 0 ≤ b.Nodes ∧ b.Nodes ≤ 24 := by
  simp only [isBeliefs, Bool.and_eq_true, decide_eq_true_eq] at h
  exact ⟨h.1.1.1, h.1.1.2⟩
theorem isFrameW_eq (f : Frame) : isFrameW f = isFrame f := by
  unfold isFrameW isFrame
  rw [isBeliefsW_eq]
  cases h : isBeliefs f.Beliefs with
  | false => simp
  | true =>
    have hn := isBeliefs_nodes h
    rw [ascW_eq (by omega), ascW_eq (by omega)]
    cases f.Beliefs.Reasons.all noOut <;> cases decide (f.Assumed.length ≤ 6) <;> cases asc f.Assumed f.Beliefs.Nodes <;> cases asc f.Bad f.Beliefs.Nodes <;> rfl
theorem all_bad_f {α : Type} {l : List α} {p : α → Bool} {k : Nat} {x : α} {y : Bool} (h : l[k]? = some x) (hx : p x = false) : false = (y && l.all p) := by
  rw [all_bad h hx]; simp

theorem isB_hd {b : Beliefs} (h : ¬ (0 ≤ b.Nodes ∧ b.Nodes ≤ 24 ∧ b.Reasons.length ≤ 60)) : false = isBeliefs b := by
  symm
  rw [Bool.eq_false_iff]
  intro e
  simp only [isBeliefs, Bool.and_eq_true, decide_eq_true_eq] at e
  exact h ⟨e.1.1.1, e.1.1.2, e.1.2⟩
theorem isB_bad {b : Beliefs} {k : Nat} {r : Reason} (h : b.Reasons[k]? = some r) (hr : isReason r b.Nodes = false) : false = isBeliefs b := by
  unfold isBeliefs
  rw [all_bad (p := fun r => isReason r b.Nodes) h hr]
  simp
theorem isB_ok {b : Beliefs} (h : 0 ≤ b.Nodes ∧ b.Nodes ≤ 24 ∧ b.Reasons.length ≤ 60) (hi : ∀ i, i < b.Reasons.length → ∀ r, b.Reasons[i]? = some r → isReason r b.Nodes = true) : true = isBeliefs b := by
  unfold isBeliefs
  rw [all_of_idx (p := fun r => isReason r b.Nodes) hi]
  simp [h.1, h.2.1, h.2.2]
theorem isBW_bad {b : Beliefs} {k : Nat} {r : Reason} (h : b.Reasons[k]? = some r) (hr : isReasonW r b.Nodes = false) : false = isBeliefsW b := by
  unfold isBeliefsW
  rw [all_bad (p := fun r => isReasonW r b.Nodes) h hr]
  rfl
theorem isBW_ok {b : Beliefs} {x : Bool} (hi : ∀ i, i < b.Reasons.length → ∀ r, b.Reasons[i]? = some r → isReasonW r b.Nodes = true) (hx : x = (inR b.Nodes 0 24 && decide (b.Reasons.length ≤ 60))) : x = isBeliefsW b := by
  unfold isBeliefsW
  rw [all_of_idx (p := fun r => isReasonW r b.Nodes) hi, hx]
  rfl
end Go.Sy
