/-
  Plain facts on lists and numbers that the walks lean on.
  Conditions: none.
-/
import Derived.Test.YtkbiaedfnpbpfaaGreatDoorData
namespace Go.Sy

/-- what is left of a budget -/
def szm (n : Nat) (left : Int) : Int := if left < n then -1 else left - n

theorem szm_neg {n : Nat} {left : Int} (h : left < n) : szm n left = -1 := by unfold szm; rw [if_pos h]
theorem szm_pos {n : Nat} {left : Int} (h : ¬ left < n) : szm n left = left - n := by unfold szm; rw [if_neg h]
theorem szm_le {n : Nat} {left : Int} (h : 0 ≤ szm n left) : (n : Int) ≤ left := by
  unfold szm at h; split at h <;> omega

/-- a list that is copied into a made one, after k elements -/
def cp {α : Type} (l : List α) (z : α) (k : Nat) : List α := l.take k ++ List.replicate (l.length - k) z
theorem cp_zero {α : Type} (l : List α) (z : α) : List.replicate l.length z = cp l z 0 := by simp [cp]
theorem cp_len {α : Type} (l : List α) (z : α) (k : Nat) (h : k ≤ l.length) : (cp l z k).length = l.length := by simp [cp]; omega
theorem cp_set {α : Type} {l : List α} {z x : α} {k : Nat} (h : l[k]? = some x) : (cp l z k).set k x = cp l z (k + 1) := by
  have hk : k < l.length := (List.getElem?_eq_some_iff.1 h).1
  unfold cp
  have h1 : l.length - k = (l.length - (k + 1)) + 1 := by omega
  rw [List.set_append_right _ _ (by simp; omega)]
  simp only [List.length_take]
  rw [show k - min k l.length = 0 by omega, h1, List.replicate_succ, List.set_cons_zero, List.take_succ_eq_append_getElem hk]
  have hx : l[k] = x := by rw [List.getElem?_eq_getElem hk] at h; simpa using h
  simp [hx]
theorem cp_done {α : Type} {l : List α} {z : α} {k : Nat} (h : l.length ≤ k) : cp l z k = l := by
  unfold cp
  rw [List.take_of_length_le h, show l.length - k = 0 by omega]
  simp

theorem take_snoc {α : Type} {l : List α} {k : Nat} {x : α} (h : l[k]? = some x) : l.take (k + 1) = l.take k ++ [x] := by
  have hk : k < l.length := (List.getElem?_eq_some_iff.1 h).1
  rw [List.take_succ_eq_append_getElem hk]
  rw [List.getElem?_eq_getElem hk] at h
  simp only [Option.some.injEq] at h
  rw [h]
theorem mem_idx {α : Type} {l : List α} {k : Nat} {x : α} (h : l[k]? = some x) : x ∈ l := List.mem_of_getElem? h

/-- two lists, element by element -/
theorem eq_of_idx {α : Type} {a b : List α} (hl : a.length = b.length) (h : ∀ i, i < a.length → a[i]? = b[i]?) : a = b := by
  apply List.ext_getElem?
  intro i
  by_cases hi : i < a.length
  · exact h i hi
  · rw [List.getElem?_eq_none (by omega), List.getElem?_eq_none (by omega)]
theorem idx_step {α : Type} {a b : List α} {k : Nat} {x y : α} (h : ∀ i, i < k → a[i]? = b[i]?) (hx : a[k]? = some x) (hy : b[k]? = some y) (e : x = y) : ∀ i, i < k + 1 → a[i]? = b[i]? := by
  intro i hi
  by_cases hk : i = k
  · subst hk; rw [hx, hy, e]
  · exact h i (by omega)

theorem forall_step {p : Nat → Prop} {k : Nat} (h : ∀ i, i < k → p i) (hk : p k) : ∀ i, i < k + 1 → p i := by
  intro i hi
  by_cases e : i = k
  · subst e; exact hk
  · exact h i (by omega)

/-! numbering in a row -/
def mapS {α : Type} (f : Int → α → α) (c : α → Nat) : Int → List α → List α
  | _, [] => []
  | k, x :: l => f k x :: mapS f c (k + c x) l
def sumC {α : Type} (c : α → Nat) (l : List α) : Nat := (l.map c).sum
def mapAt {α : Type} (f : Int → α → α) (c : α → Nat) (k : Int) (l : List α) (i : Nat) : List α := mapS f c k (l.take i) ++ l.drop i

section
variable {α : Type} {f : Int → α → α} {c : α → Nat} {k : Int} {l : List α} {i : Nat} {x : α}
theorem mapS_len : ∀ {l : List α} {k : Int}, (mapS f c k l).length = l.length
  | [], _ => rfl
  | _ :: l, _ => by simp [mapS, mapS_len (l := l)]
theorem sumC_snoc : sumC c (l ++ [x]) = sumC c l + c x := by simp [sumC]
theorem mapS_snoc : ∀ {l : List α} {k : Int}, mapS f c k (l ++ [x]) = mapS f c k l ++ [f (k + sumC c l) x]
  | [], k => by simp [mapS, sumC]
  | y :: l, k => by
    simp only [List.cons_append, mapS, mapS_snoc (l := l)]
    have : k + (c y : Int) + (sumC c l : Nat) = k + (sumC c (y :: l) : Nat) := by simp [sumC]; omega
    rw [this]
theorem mapAt_zero : mapAt f c k l 0 = l := by simp [mapAt, mapS]
theorem mapAt_len (h : i ≤ l.length) : (mapAt f c k l i).length = l.length := by simp [mapAt, mapS_len]; omega
theorem mapAt_get (h : i ≤ l.length) : (mapAt f c k l i)[i]? = l[i]? := by
  unfold mapAt
  rw [List.getElem?_append_right (by simp [mapS_len]; omega), List.getElem?_drop]
  congr 1
  simp [mapS_len]; omega
theorem mapAt_set (h : i ≤ l.length) (hx : (mapAt f c k l i)[i]? = some x) : (mapAt f c k l i).set i (f (k + sumC c (l.take i)) x) = mapAt f c k l (i + 1) := by
  rw [mapAt_get h] at hx
  have hlt : i < l.length := (List.getElem?_eq_some_iff.1 hx).1
  unfold mapAt
  rw [List.set_append_right _ _ (by simp [mapS_len]; omega)]
  have e0 : i - (mapS f c k (l.take i)).length = 0 := by simp [mapS_len]; omega
  rw [e0, List.drop_eq_getElem_cons hlt, List.set_cons_zero, take_snoc hx, mapS_snoc]
  simp
theorem sumC_take (hx : l[i]? = some x) : sumC c (l.take (i + 1)) = sumC c (l.take i) + c x := by rw [take_snoc hx, sumC_snoc]
theorem sumC_take_le (l : List α) (c : α → Nat) (i : Nat) : sumC c (l.take i) ≤ sumC c l := by
  have : sumC c l = sumC c (l.take i) + sumC c (l.drop i) := by unfold sumC; rw [← List.sum_append, ← List.map_append, List.take_append_drop]
  omega
theorem mapAt_done (h : l.length ≤ i) : mapAt f c k l i = mapS f c k l := by
  unfold mapAt
  rw [List.take_of_length_le h, List.drop_eq_nil_of_le h]; simp
theorem mapS_get : ∀ {l : List α} {k : Int} {i : Nat} {x : α}, l[i]? = some x → (mapS f c k l)[i]? = some (f (k + sumC c (l.take i)) x)
  | [], _, _, _, h => by simp at h
  | y :: l, k, 0, x, h => by
    simp only [List.getElem?_cons_zero, Option.some.injEq] at h
    subst h
    simp [mapS, sumC]
  | y :: l, k, i + 1, x, h => by
    simp only [List.getElem?_cons_succ] at h
    simp only [mapS, List.getElem?_cons_succ, List.take_succ_cons]
    rw [mapS_get h]
    have : k + (c y : Int) + (sumC c (l.take i) : Nat) = k + (sumC c (y :: l.take i) : Nat) := by simp [sumC]; omega
    rw [this]
theorem mapS_idem (hf : ∀ k x, f k (f k x) = f k x) (hc : ∀ k x, c (f k x) = c x) : ∀ (l : List α) (k : Int), mapS f c k (mapS f c k l) = mapS f c k l
  | [], _ => rfl
  | x :: l, k => by simp only [mapS, hf, hc]; rw [mapS_idem hf hc l]
theorem sumC_mapS (hc : ∀ k x, c (f k x) = c x) : ∀ (l : List α) (k : Int), sumC c (mapS f c k l) = sumC c l
  | [], _ => rfl
  | x :: l, k => by
    have := sumC_mapS hc l (k + c x)
    simp only [sumC, mapS, List.map_cons, List.sum_cons, hc] at this ⊢
    omega
theorem mapS_fix {l : List α} {k : Int} {i : Nat} {x : α} (h : l = mapS f c k l) (hx : l[i]? = some x) : x = f (k + sumC c (l.take i)) x := by
  have := mapS_get (f := f) (c := c) (k := k) hx
  rw [← h, hx] at this
  simpa using this
end

def fI (k : Int) (_ : Int) : Int := k
def cI (_ : Int) : Nat := 1
abbrev mkI (k : Int) (l : List Int) : List Int := mapS fI cI k l
theorem sumI (l : List Int) : sumC cI l = l.length := by
  induction l with
  | nil => rfl
  | cons x l ih => simp only [sumC, List.map_cons, List.sum_cons, cI, List.length_cons] at ih ⊢; omega
def fR (k : Int) (r : Reason) : Reason := ⟨k, mkI (k + 1) r.In, mkI (k + 1 + r.In.length) r.Out⟩
def cR (r : Reason) : Nat := 1 + r.In.length + r.Out.length
abbrev mkRs (k : Int) (l : List Reason) : List Reason := mapS fR cR k l
def mkB (k : Int) (b : Beliefs) : Beliefs := ⟨b.Nodes, mkRs k b.Reasons⟩
theorem cR_f (k : Int) (r : Reason) : cR (fR k r) = cR r := by simp [cR, fR, mapS_len]

/-! sizes -/
def szR (r : Reason) : Nat := r.In.length + r.Out.length
def szRs (l : List Reason) : Nat := l.length + (l.map szR).sum
theorem sumR_le (l : List Reason) : sumC cR l ≤ szRs l := by
  unfold szRs
  induction l with
  | nil => simp [sumC]
  | cons x l ih => simp only [sumC, List.map_cons, List.sum_cons, cR, szR, List.length_cons] at ih ⊢; omega
theorem cR_le {l : List Reason} {r : Reason} (h : r ∈ l) : cR r ≤ sumC cR l := by
  unfold sumC
  induction l with
  | nil => cases h
  | cons x l ih =>
    simp only [List.map_cons, List.sum_cons]
    rcases List.mem_cons.1 h with e | h
    · subst e; omega
    · have := ih h; omega
def szB (b : Beliefs) : Nat := szRs b.Reasons
def szF (f : Frame) : Nat := szB f.Beliefs + f.Assumed.length + f.Bad.length

theorem sum_le_of_mem {l : List Nat} {n : Nat} (h : n ∈ l) : n ≤ l.sum := by
  induction l with
  | nil => cases h
  | cons x l ih =>
    simp only [List.sum_cons]
    rcases List.mem_cons.1 h with e | h
    · omega
    · have := ih h; omega
theorem szR_le {l : List Reason} {r : Reason} (h : r ∈ l) : szR r ≤ (l.map szR).sum := sum_le_of_mem (List.mem_map_of_mem h)
theorem sum_take {l : List Reason} {k : Nat} {r : Reason} (h : l[k]? = some r) : ((l.take (k + 1)).map szR).sum = ((l.take k).map szR).sum + szR r := by
  rw [take_snoc h]; simp
theorem sum_take_le (l : List Reason) (k : Nat) : ((l.take k).map szR).sum ≤ (l.map szR).sum := by
  have : (l.map szR).sum = ((l.take k).map szR).sum + ((l.drop k).map szR).sum := by
    rw [← List.sum_append, ← List.map_append, List.take_append_drop]
  omega

/-! ascending lists of nodes -/
def ascAt (l : List Int) (n : Int) (k : Nat) : Bool :=
  match l[k]? with
  | none => false
  | some x => !(decide (x < 0)) && !(decide (n ≤ x)) && (k == 0 || match l[k - 1]? with | none => false | some y => !(decide (x ≤ y)))
def asc (l : List Int) (n : Int) : Bool := (List.range l.length).all (ascAt l n)
theorem asc_bad {l : List Int} {n : Int} {k : Nat} (h : k < l.length) (hk : ascAt l n k = false) : asc l n = false := by
  unfold asc
  rw [List.all_eq_false]
  exact ⟨k, by simpa using h, by simp [hk]⟩
theorem asc_all {l : List Int} {n : Int} (h : ∀ i, i < l.length → ascAt l n i = true) : asc l n = true := by
  unfold asc
  rw [List.all_eq_true]
  intro i hi
  exact h i (by simpa using hi)

/-- the reference's form: the bound is one less, and may wrap -/
def ascAtW (l : List Int) (n : Int) (k : Nat) : Bool :=
  match l[k]? with
  | none => false
  | some x => (decide (0 ≤ x) && decide (x ≤ wr (n - 1))) && (k == 0 || match l[k - 1]? with | none => false | some y => !(decide (x ≤ y)))
def ascW (l : List Int) (n : Int) : Bool := (List.range l.length).all (ascAtW l n)
theorem ascW_bad {l : List Int} {n : Int} {k : Nat} (h : k < l.length) (hk : ascAtW l n k = false) : ascW l n = false := by
  unfold ascW
  rw [List.all_eq_false]
  exact ⟨k, by simpa using h, by simp [hk]⟩
theorem ascW_all {l : List Int} {n : Int} (h : ∀ i, i < l.length → ascAtW l n i = true) : ascW l n = true := by
  unfold ascW
  rw [List.all_eq_true]
  intro i hi
  exact h i (by simpa using hi)
theorem ascAtW_eq {l : List Int} {n : Int} (h : -9223372036854775808 < n ∧ n ≤ 9223372036854775807) (k : Nat) : ascAtW l n k = ascAt l n k := by
  unfold ascAtW ascAt
  rw [wr_in (by omega)]
  cases l[k]? with
  | none => rfl
  | some x =>
    simp only
    have e : (decide (0 ≤ x) && decide (x ≤ n - 1)) = (!(decide (x < 0)) && !(decide (n ≤ x))) := by
      rw [Bool.eq_iff_iff]; simp; omega
    rw [e]
theorem ascW_eq {l : List Int} {n : Int} (h : -9223372036854775808 < n ∧ n ≤ 9223372036854775807) : ascW l n = asc l n := by
  unfold ascW asc
  congr 1
  funext k
  exact ascAtW_eq h k

def inR (x lo hi : Int) : Bool := decide (lo ≤ x) && decide (x ≤ hi)

def isReason (r : Reason) (n : Int) : Bool := decide (0 ≤ r.For) && decide (r.For < n) && asc r.In n && asc r.Out n
def isBeliefs (b : Beliefs) : Bool := decide (0 ≤ b.Nodes) && decide (b.Nodes ≤ 24) && decide (b.Reasons.length ≤ 60) && b.Reasons.all (fun r => isReason r b.Nodes)

def isReasonW (r : Reason) (n : Int) : Bool := inR r.For 0 (wr (n - 1)) && ascW r.In n && ascW r.Out n
def isBeliefsW (b : Beliefs) : Bool := b.Reasons.all (fun r => isReasonW r b.Nodes) && (inR b.Nodes 0 24 && decide (b.Reasons.length ≤ 60))
theorem isReasonW_eq {r : Reason} {n : Int} (h : -9223372036854775808 < n ∧ n ≤ 9223372036854775807) : isReasonW r n = isReason r n := by
  unfold isReasonW isReason inR
  rw [ascW_eq h, ascW_eq h, wr_in (by omega)]
  have e : (decide (0 ≤ r.For) && decide (r.For ≤ n - 1)) = (decide (0 ≤ r.For) && decide (r.For < n)) := by
    rw [Bool.eq_iff_iff]; simp; omega
  rw [e]
theorem isBeliefsW_eq (b : Beliefs) : isBeliefsW b = isBeliefs b := by
  unfold isBeliefsW isBeliefs inR
  by_cases h : 0 ≤ b.Nodes ∧ b.Nodes ≤ 24
  · have e : (fun r => isReasonW r b.Nodes) = (fun r => isReason r b.Nodes) := by funext r; exact isReasonW_eq (by omega)
    rw [e]
    simp [h.1, h.2, Bool.and_comm]
  · have : (decide (0 ≤ b.Nodes) && decide (b.Nodes ≤ 24)) = false := by
      rw [Bool.eq_false_iff]; simpa using h
    rw [this]; simp

theorem all_of_idx {α : Type} {l : List α} {p : α → Bool} (h : ∀ i, i < l.length → ∀ x, l[i]? = some x → p x = true) : l.all p = true := by
  rw [List.all_eq_true]
  intro x hx
  obtain ⟨i, hi⟩ := List.getElem?_of_mem hx
  exact h i (List.getElem?_eq_some_iff.1 hi).1 x hi
theorem all_bad {α : Type} {l : List α} {p : α → Bool} {k : Nat} {x : α} (h : l[k]? = some x) (hx : p x = false) : l.all p = false := by
  rw [List.all_eq_false]
  exact ⟨x, List.mem_of_getElem? h, by simp [hx]⟩
def isPremise (r : Reason) : Bool := decide (r.In.length = 0) && decide (r.Out.length = 0)

def noOut (r : Reason) : Bool := decide (r.Out.length = 0)
theorem noOut_t {r : Reason} (h : r.Out.length = 0) : noOut r = true := decide_eq_true h
theorem noOut_f {r : Reason} (h : ¬ r.Out.length = 0) : noOut r = false := decide_eq_false h
def isFrame (f : Frame) : Bool := isBeliefs f.Beliefs && decide (f.Assumed.length ≤ 6) && asc f.Assumed f.Beliefs.Nodes && asc f.Bad f.Beliefs.Nodes && f.Beliefs.Reasons.all noOut
def isFrameW (f : Frame) : Bool := f.Beliefs.Reasons.all noOut && (isBeliefs f.Beliefs && ascW f.Assumed f.Beliefs.Nodes && decide (f.Assumed.length ≤ 6) && ascW f.Bad f.Beliefs.Nodes)
theorem isBeliefs_nodes {b : Beliefs} (h : isBeliefs b = true) : 0 ≤ b.Nodes ∧ b.Nodes ≤ 24 := by
  simp only [isBeliefs, Bool.and_eq_true, decide_eq_true_eq] at h
  exact ⟨h.1.1.1, h.1.1.2⟩
theorem isFrameW_eq (f : Frame) : isFrameW f = isFrame f := by
  unfold isFrameW isFrame
  cases h : isBeliefs f.Beliefs with
  | false => simp
  | true =>
    have hn := isBeliefs_nodes h
    rw [ascW_eq (by omega), ascW_eq (by omega)]
    cases f.Beliefs.Reasons.all noOut <;> cases decide (f.Assumed.length ≤ 6) <;> cases asc f.Assumed f.Beliefs.Nodes <;> cases asc f.Bad f.Beliefs.Nodes <;> rfl
theorem all_bad_f {α : Type} {l : List α} {p : α → Bool} {k : Nat} {x : α} {y : Bool} (h : l[k]? = some x) (hx : p x = false) : false = (y && l.all p) := by
  rw [all_bad h hx]; simp

theorem isB_hd {b : Beliefs} (h : ¬ (0 ≤ b.Nodes ∧ b.Nodes ≤ 24 ∧ b.Reasons.length ≤ 60)) : false = isBeliefs b := by
  symm
  rw [Bool.eq_false_iff]
  intro e
  simp only [isBeliefs, Bool.and_eq_true, decide_eq_true_eq] at e
  exact h ⟨e.1.1.1, e.1.1.2, e.1.2⟩
theorem isB_bad {b : Beliefs} {k : Nat} {r : Reason} (h : b.Reasons[k]? = some r) (hr : isReason r b.Nodes = false) : false = isBeliefs b := by
  unfold isBeliefs
  rw [all_bad (p := fun r => isReason r b.Nodes) h hr]
  simp
theorem isB_ok {b : Beliefs} (h : 0 ≤ b.Nodes ∧ b.Nodes ≤ 24 ∧ b.Reasons.length ≤ 60) (hi : ∀ i, i < b.Reasons.length → ∀ r, b.Reasons[i]? = some r → isReason r b.Nodes = true) : true = isBeliefs b := by
  unfold isBeliefs
  rw [all_of_idx (p := fun r => isReason r b.Nodes) hi]
  simp [h.1, h.2.1, h.2.2]
theorem isBW_bad {b : Beliefs} {k : Nat} {r : Reason} (h : b.Reasons[k]? = some r) (hr : isReasonW r b.Nodes = false) : false = isBeliefsW b := by
  unfold isBeliefsW
  rw [all_bad (p := fun r => isReasonW r b.Nodes) h hr]
  rfl
theorem isBW_ok {b : Beliefs} {x : Bool} (hi : ∀ i, i < b.Reasons.length → ∀ r, b.Reasons[i]? = some r → isReasonW r b.Nodes = true) (hx : x = (inR b.Nodes 0 24 && decide (b.Reasons.length ≤ 60))) : x = isBeliefsW b := by
  unfold isBeliefsW
  rw [all_of_idx (p := fun r => isReasonW r b.Nodes) hi, hx]
  rfl

/- Indices of the elements with a property. -/
def idxT {α : Type} (p : α → Bool) (l : List α) (n : Nat) : List Int := ((List.range n).filter (fun i => match l[i]? with | some x => p x | none => false)).map (fun (i : Nat) => (i : Int))
def idxs {α : Type} (p : α → Bool) (l : List α) : List Int := idxT p l l.length
theorem idxT_zero {α : Type} (p : α → Bool) (l : List α) : idxT p l 0 = [] := rfl
theorem idxT_t {α : Type} {p : α → Bool} {l : List α} {n : Nat} {x : α} (h : l[n]? = some x) (hp : p x = true) : idxT p l n ++ [(n : Int)] = idxT p l (n + 1) := by
  unfold idxT
  rw [List.range_succ, List.filter_append, List.map_append]
  simp [h, hp]
theorem idxT_f {α : Type} {p : α → Bool} {l : List α} {n : Nat} {x : α} (h : l[n]? = some x) (hp : p x = false) : idxT p l n = idxT p l (n + 1) := by
  unfold idxT
  rw [List.range_succ, List.filter_append, List.map_append]
  simp [h, hp]
theorem idxT_len {α : Type} (p : α → Bool) (l : List α) (n : Nat) : (idxT p l n).length ≤ n := by
  unfold idxT
  rw [List.length_map]
  exact Nat.le_trans (List.length_filter_le _ _) (by rw [List.length_range]; exact Nat.le_refl n)
theorem idxs_len {α : Type} (p : α → Bool) (l : List α) : (idxs p l).length ≤ l.length := idxT_len p l l.length
theorem idxT_done {α : Type} {p : α → Bool} {l : List α} {n : Nat} (h : n = l.length) : idxT p l n = idxs p l := by subst h; rfl
/- Marks. -/
theorem mkI_set {a : List Int} {k kk : Int} {i : Nat} (h : i < a.length) (hk : kk = k + i) : (mapAt fI cI k a i).set i kk = mapAt fI cI k a (i + 1) := by
  have hx : a[i]? = some a[i] := by simp [h]
  rw [← mapAt_set (f := fI) (c := cI) (k := k) (Nat.le_of_lt h) (by rw [mapAt_get (Nat.le_of_lt h)]; exact hx)]
  simp only [fI, sumI, List.length_take, Nat.min_eq_left (Nat.le_of_lt h), hk]
theorem mkI_fix {a : List Int} {k x : Int} {i : Nat} (h : a = mkI k a) (hx : a[i]? = some x) : x = k + i := by
  have := mapS_fix h hx
  simp only [fI, sumI, List.length_take, Nat.min_eq_left (Nat.le_of_lt (List.getElem?_eq_some_iff.1 hx).1)] at this
  exact this
theorem mkR_set {a : List Reason} {k kk : Int} {i : Nat} {x r : Reason} (h : i ≤ a.length) (hx : (mapAt fR cR k a i)[i]? = some x) (hk : kk = k + sumC cR (a.take i)) (hr : r = fR kk x) : (mapAt fR cR k a i).set i r = mapAt fR cR k a (i + 1) := by
  rw [hr, hk]
  exact mapAt_set h hx
theorem mkR_step {a : List Reason} {k kk : Int} {i : Nat} {x : Reason} (h : i ≤ a.length) (hx : (mapAt fR cR k a i)[i]? = some x) (hk : kk = k + sumC cR (a.take i)) : kk + 1 + x.In.length + x.Out.length = k + sumC cR (a.take (i + 1)) ∧ sumC cR (a.take (i + 1)) ≤ sumC cR a := by
  rw [mapAt_get h] at hx
  refine ⟨?_, sumC_take_le a cR (i + 1)⟩
  rw [sumC_take hx, hk]
  simp only [cR]
  omega
theorem mkRs_fix {a : List Reason} {k : Int} {i : Nat} {x : Reason} (h : a = mkRs k a) (hx : a[i]? = some x) : x = fR (k + sumC cR (a.take i)) x := mapS_fix h hx
theorem mkI_idem (k : Int) (l : List Int) : mkI k l = mkI k (mkI k l) := (mapS_idem (f := fI) (c := cI) (fun _ _ => rfl) (fun _ _ => rfl) l k).symm
theorem fR_idem (k : Int) (r : Reason) : fR k (fR k r) = fR k r := by
  simp only [fR, mapS_len]
  rw [← mkI_idem, ← mkI_idem]
theorem mkRs_idem (k : Int) (l : List Reason) : mkRs k l = mkRs k (mkRs k l) := (mapS_idem fR_idem cR_f l k).symm
theorem mkB_idem (k : Int) (b : Beliefs) : mkB k b = mkB k (mkB k b) := by
  simp only [mkB]
  rw [← mkRs_idem]
theorem sumR_mk (k : Int) (l : List Reason) : sumC cR (mkRs k l) = sumC cR l := sumC_mapS cR_f l k
theorem sumB_mk (k : Int) (b : Beliefs) : sumC cR (mkB k b).Reasons = sumC cR b.Reasons := sumC_mapS cR_f b.Reasons k
theorem szB_len (b : Beliefs) : b.Reasons.length ≤ szB b := by unfold szB szRs; omega
theorem szB_sum (b : Beliefs) : sumC cR b.Reasons ≤ szB b := by have := sumR_le b.Reasons; unfold szB; omega
theorem heldR_step {a : List Reason} {k kk : Int} {i : Nat} {x : Reason} (hx : a[i]? = some x) (hk : kk = k + sumC cR (a.take i)) : kk + 1 + x.In.length + x.Out.length = k + sumC cR (a.take (i + 1)) ∧ sumC cR (a.take (i + 1)) ≤ sumC cR a := by
  refine ⟨?_, sumC_take_le a cR (i + 1)⟩
  rw [sumC_take hx, hk]
  simp only [cR]
  omega
def mkR (k : Int) (r : Reason) : Reason := ⟨r.For, mkI k r.In, mkI (k + r.In.length) r.Out⟩
def cM (r : Reason) : Nat := r.In.length + r.Out.length
theorem szm_val {n : Nat} {left : Int} (h : ¬ szm n left < 0) : szm n left = left - n ∧ (n : Int) ≤ left := by
  unfold szm at *
  split at * <;> omega
end Go.Sy
