/-
  Lists with some elements left out; beliefs with reasons added or dropped.
  Conditions: none.
-/
import Derived.Test.YtkdghbglefhcjaaGraph
namespace Go.Sy

/-- the first k elements, without those whose places p refuses -/
def keepT {α : Type} (p : Nat → Bool) (l : List α) (k : Nat) : List α := ((List.range k).filter p).filterMap (fun i => l[i]?)
def keep {α : Type} (p : Nat → Bool) (l : List α) : List α := keepT p l l.length
section
variable {α : Type} {p : Nat → Bool} {l : List α} {k : Nat} {x : α}
theorem keepT_zero : keepT p l 0 = [] := rfl
theorem keepT_t (hx : l[k]? = some x) (hp : p k = true) : keepT p l k ++ [x] = keepT p l (k + 1) := by
  unfold keepT
  rw [List.range_succ, List.filter_append, List.filterMap_append]
  simp [hp, hx]
theorem keepT_f (hp : p k = false) : keepT p l k = keepT p l (k + 1) := by
  unfold keepT
  rw [List.range_succ, List.filter_append, List.filterMap_append]
  simp [hp]
theorem keepT_len (p : Nat → Bool) (l : List α) (k : Nat) : (keepT p l k).length ≤ k := by
  unfold keepT
  refine Nat.le_trans (List.length_filterMap_le _ _) (Nat.le_trans (List.length_filter_le _ _) ?_)
  simp
theorem keepT_done (h : l.length ≤ k) (hk : k ≤ l.length) : keepT p l k = keep p l := by
  have : k = l.length := by omega
  subst this; rfl
theorem keep_mem (h : x ∈ keep p l) : x ∈ l := by
  unfold keep keepT at h
  rw [List.mem_filterMap] at h
  obtain ⟨i, _, hi⟩ := h
  exact List.mem_of_getElem? hi
theorem keep_len (p : Nat → Bool) (l : List α) : (keep p l).length ≤ l.length := keepT_len p l l.length
theorem keepT_cons (p : Nat → Bool) (x : α) (l : List α) (k : Nat) : keepT p (x :: l) (k + 1) = (if p 0 then [x] else []) ++ keepT (fun i => p (i + 1)) l k := by
  unfold keepT
  rw [List.range_succ_eq_map, List.filter_cons]
  have : (List.filter p (List.map Nat.succ (List.range k))).filterMap (fun i => (x :: l)[i]?) = ((List.range k).filter (fun i => p (i + 1))).filterMap (fun i => l[i]?) := by
    rw [List.filter_map, List.filterMap_map]
    rfl
  split
  · rename_i h
    simp [this, h]
  · rename_i h
    simp [this, h]
theorem keep_cons (p : Nat → Bool) (x : α) (l : List α) : keep p (x :: l) = (if p 0 then [x] else []) ++ keep (fun i => p (i + 1)) l := keepT_cons p x l l.length
theorem keep_sub (l : List α) (p : Nat → Bool) : List.Sublist (keep p l) l := by
  induction l generalizing p with
  | nil => exact List.nil_sublist _
  | cons x l ih =>
    rw [keep_cons]
    split
    · exact (ih _).cons_cons x
    · exact (ih _).cons x
end
theorem sumC_sub {α : Type} {c : α → Nat} {a b : List α} (h : List.Sublist a b) : sumC c a ≤ sumC c b := by
  induction h with
  | slnil => exact Nat.le_refl _
  | cons x _ ih => simp only [sumC, List.map_cons, List.sum_cons] at ih ⊢; omega
  | cons_cons x _ ih => simp only [sumC, List.map_cons, List.sum_cons] at ih ⊢; omega

theorem has_n {l : List Int} {n : Int} (h : ∀ i, i < l.length → l[i]? ≠ some n) : false = l.contains n := by
  symm
  rw [Bool.eq_false_iff]
  intro hc
  obtain ⟨i, hi⟩ := List.getElem?_of_mem (List.contains_iff_mem.1 hc)
  exact h i (List.getElem?_eq_some_iff.1 hi).1 hi
theorem has_y {l : List Int} {n x : Int} {i : Nat} (h : l[i]? = some x) (e : x = n) : true = l.contains n := by
  subst e
  symm
  rw [List.contains_iff_mem]
  exact List.mem_of_getElem? h

def notIn (l : List Int) (i : Nat) : Bool := !(l.contains (i : Int))
def dropR (b : Beliefs) (l : List Int) : Beliefs := ⟨b.Nodes, keep (notIn l) b.Reasons⟩
theorem notIn_t {l : List Int} {i : Nat} (h : l.contains (i : Int) = false) : notIn l i = true := by unfold notIn; rw [h]; rfl
theorem notIn_f {l : List Int} {i : Nat} (h : l.contains (i : Int) = true) : notIn l i = false := by unfold notIn; rw [h]; rfl
theorem sumR_keep (p : Nat → Bool) (l : List Reason) : sumC cR (keep p l) ≤ sumC cR l := sumC_sub (keep_sub l p)
theorem sumB_drop (b : Beliefs) (l : List Int) : sumC cR (dropR b l).Reasons ≤ sumC cR b.Reasons := sumR_keep _ _

def addB (b : Beliefs) (r : Reason) : Beliefs := ⟨b.Nodes, b.Reasons ++ [r]⟩
def addOk (b : Beliefs) (r : Reason) : Bool := isBeliefs b && isBeliefs (addB b r)
def addR (b : Beliefs) (r : Reason) : Beliefs := if addOk b r then addB b r else b
theorem addR_t {b : Beliefs} {r : Reason} (h1 : isBeliefs b = true) (h2 : isBeliefs (addB b r) = true) : addB b r = addR b r ∧ true = addOk b r := by
  have : addOk b r = true := by simp [addOk, h1, h2]
  simp [addR, this]
theorem addR_f1 {b : Beliefs} {r : Reason} (h1 : isBeliefs b = false) : b = addR b r ∧ false = addOk b r := by
  have : addOk b r = false := by simp [addOk, h1]
  simp [addR, this]
theorem addR_f2 {b : Beliefs} {r : Reason} (h1 : isBeliefs (addB b r) = false) : b = addR b r ∧ false = addOk b r := by
  have : addOk b r = false := by simp [addOk, h1]
  simp [addR, this]
theorem sumB_add (b : Beliefs) (r : Reason) : sumC cR (addR b r).Reasons ≤ sumC cR b.Reasons + cR r := by
  unfold addR
  split
  · simp [addB, sumC_snoc]
  · omega
end Go.Sy
