/-
  What stays true of fewer reasons; bad nodes that are in; consequences.
  Conditions: none.
-/
import Derived.Test.YtkdghbglefhcjaaSupp
namespace Go.Sy

/-! ### marks of bools -/
def fBo (k : Int) (_ : Bool) : Bool := (Int.tmod k 3 == 0)
def cBo (_ : Bool) : Nat := 1
abbrev mkBo (k : Int) (l : List Bool) : List Bool := mapS fBo cBo k l
theorem sumBo (l : List Bool) : sumC cBo l = l.length := by
  induction l with
  | nil => rfl
  | cons x l ih => simp only [sumC, List.map_cons, List.sum_cons, cBo, List.length_cons] at ih ⊢; omega
theorem mkBo_set {a : List Bool} {k kk : Int} {i : Nat} (h : i < a.length) (hk : kk = k + i) : (mapAt fBo cBo k a i).set i (Int.tmod kk 3 == 0) = mapAt fBo cBo k a (i + 1) := by
  have hx : a[i]? = some a[i] := by simp [h]
  rw [← mapAt_set (f := fBo) (c := cBo) (k := k) (Nat.le_of_lt h) (by rw [mapAt_get (Nat.le_of_lt h)]; exact hx)]
  simp only [fBo, sumBo, List.length_take, Nat.min_eq_left (Nat.le_of_lt h), hk]
theorem mkBo_fix {a : List Bool} {k : Int} {x : Bool} {i : Nat} (h : a = mkBo k a) (hx : a[i]? = some x) : x = (Int.tmod (k + i) 3 == 0) := by
  have := mapS_fix h hx
  simp only [fBo, sumBo, List.length_take, Nat.min_eq_left (Nat.le_of_lt (List.getElem?_eq_some_iff.1 hx).1)] at this
  exact this
theorem mkBo_idem (k : Int) (l : List Bool) : mkBo k l = mkBo k (mkBo k l) := (mapS_idem (f := fBo) (c := cBo) (fun _ _ => rfl) (fun _ _ => rfl) l k).symm

/-! ### fewer reasons -/
def Sub (c b : Beliefs) : Prop := c.Nodes = b.Nodes ∧ c.Reasons.length ≤ b.Reasons.length ∧ ∀ r ∈ c.Reasons, r ∈ b.Reasons
theorem dropR_sub (b : Beliefs) (l : List Int) : Sub (dropR b l) b := ⟨rfl, keep_len _ _, fun _ h => keep_mem h⟩
theorem Sub.ok {c b : Beliefs} (h : Sub c b) (ho : okB b = true) : okB c = true := by
  simp only [okB, Bool.and_eq_true, List.all_eq_true] at ho ⊢
  rw [h.1]
  exact ⟨ho.1, fun r hr => ho.2 r (h.2.2 r hr)⟩
theorem Sub.isB {c b : Beliefs} (h : Sub c b) (ho : isBeliefs b = true) : isBeliefs c = true := by
  simp only [isBeliefs, Bool.and_eq_true, List.all_eq_true, decide_eq_true_eq] at ho ⊢
  rw [h.1]
  exact ⟨⟨ho.1.1, Nat.le_trans h.2.1 ho.1.2⟩, fun r hr => ho.2 r (h.2.2 r hr)⟩
theorem Sub.sol {c b : Beliefs} (h : Sub c b) (hs : HasSol b) : HasSol c := by
  obtain ⟨s, h1, h2⟩ := hs
  exact ⟨s, ⟨h1.1, fun r hr => h1.2 r (h.2.2 r hr)⟩, fun x hx => by rw [h.1] at hx ⊢; exact h2 x hx⟩
theorem Sub.edge {c b : Beliefs} (h : Sub c b) {x y : Nat} (he : edge c x y = true) : edge b x y = true := by
  unfold Sy.edge at he ⊢
  rw [List.any_eq_true] at he ⊢
  obtain ⟨r, hr, he⟩ := he
  exact ⟨r, h.2.2 r hr, he⟩
theorem Sub.dep {c b : Beliefs} (h : Sub c b) {x y : Nat} (hd : dep c x y = true) : dep b x y = true := by
  rw [dep_iff] at hd ⊢
  unfold Dep at hd ⊢
  induction hd with
  | single e => exact .single (h.edge e)
  | tail _ e ih => exact .tail ih (h.edge e)
theorem Sub.strat {c b : Beliefs} (h : Sub c b) (hs : isStrat b = true) : isStrat c = true := by
  have hb := h.isB (strat_b hs)
  simp only [isStrat, Bool.and_eq_true, List.all_eq_true] at hs ⊢
  refine ⟨hb, fun r hr => ?_⟩
  have h1 := hs.2 r (h.2.2 r hr)
  simp only [stR, List.all_eq_true, stY, Bool.not_eq_true', Bool.or_eq_false_iff] at h1 ⊢
  intro y hy
  refine ⟨(h1 y hy).1, ?_⟩
  rw [Bool.eq_false_iff]
  intro e
  have := h.dep e
  rw [(h1 y hy).2] at this
  cases this

/-! ### filters -/
def filtT {α : Type} (p : α → Bool) (l : List α) (k : Nat) : List α := (l.take k).filter p
theorem filtT_t {α : Type} {p : α → Bool} {l : List α} {k : Nat} {x : α} (h : l[k]? = some x) (hp : p x = true) : filtT p l k ++ [x] = filtT p l (k + 1) := by
  unfold filtT
  rw [take_snoc h, List.filter_append]
  simp [hp]
theorem filtT_f {α : Type} {p : α → Bool} {l : List α} {k : Nat} {x : α} (h : l[k]? = some x) (hp : p x = false) : filtT p l k = filtT p l (k + 1) := by
  unfold filtT
  rw [take_snoc h, List.filter_append]
  simp [hp]
theorem filtT_len {α : Type} (p : α → Bool) (l : List α) (k : Nat) : (filtT p l k).length ≤ k := by
  unfold filtT
  exact Nat.le_trans (List.length_filter_le _ _) (by rw [List.length_take]; omega)
theorem filtT_done {α : Type} {p : α → Bool} {l : List α} {k : Nat} (h : l.length ≤ k) : filtT p l k = l.filter p := by
  unfold filtT
  rw [List.take_of_length_le h]

def inL (l : List Bool) (x : Int) : Bool := decide (0 ≤ x) && (l[x.toNat]?).getD false
theorem inL_of {l : List Bool} {x : Int} {v : Bool} (h0 : 0 ≤ x) (h : l[x.toNat]? = some v) : inL l x = v := by
  unfold inL
  rw [h, decide_eq_true h0]; rfl
theorem inL_out {l : List Bool} {x : Int} (h : inR x 0 ((l.length : Int) - 1) = false) : inL l x = false := by
  have := inR_f h
  unfold inL
  by_cases h0 : 0 ≤ x
  · rw [List.getElem?_eq_none (by omega)]; simp
  · rw [decide_eq_false h0]; rfl
noncomputable def badL (b : Beliefs) (bad : List Int) : List Int := bad.filter (fun x => lbs b x.toNat)
theorem badL_len (b : Beliefs) (bad : List Int) : (badL b bad).length ≤ bad.length := List.length_filter_le _ _
theorem badL_eq {b : Beliefs} {bad : List Int} (hs : isStrat b = true) (ha : asc bad b.Nodes = true) : bad.filter (inL (labelsOf b)) = badL b bad := by
  unfold badL
  apply List.filter_congr
  intro x hx
  have := asc_m ha hx
  rw [labelsOf_t hs]
  exact inL_of this.1 (vec_get (by omega))
theorem case_s {b : Beliefs} {bad free : List Int} (h : isCase b bad free = true) : isStrat b = true := by
  simp only [isCase, Bool.and_eq_true] at h
  exact h.1.1.1.1
theorem case_a {b : Beliefs} {bad free : List Int} (h : isCase b bad free = true) : asc bad b.Nodes = true := by
  simp only [isCase, Bool.and_eq_true] at h
  exact h.1.1.1.2
theorem case_fl {b : Beliefs} {bad free : List Int} (h : isCase b bad free = true) : free.length ≤ 8 := by
  simp only [isCase, Bool.and_eq_true, decide_eq_true_eq] at h
  exact h.1.1.2
theorem case_fa {b : Beliefs} {bad free : List Int} (h : isCase b bad free = true) : asc free b.Reasons.length = true := by
  simp only [isCase, Bool.and_eq_true] at h
  exact h.1.2
theorem case_bl {b : Beliefs} {bad free : List Int} (h : isCase b bad free = true) : bad.length ≤ 24 := by
  have h1 := asc_len (case_a h)
  have h2 := isBeliefs_nodes (strat_b (case_s h))
  omega
noncomputable def clashes (b : Beliefs) (bad : List Int) : List Int := if isCase b bad [] then badL b bad else []
theorem clashes_f {b : Beliefs} {bad : List Int} (h : isCase b bad [] = false) : [] = clashes b bad := by unfold clashes; rw [h]; rfl
theorem clashes_t {b : Beliefs} {bad : List Int} (h : isCase b bad [] = true) : badL b bad = clashes b bad := by unfold clashes; rw [if_pos h]
theorem clashes_w {b : Beliefs} {bad : List Int} (h : isCase b bad [] = true) : bad.filter (inL (labelsOf b)) = clashes b bad := by rw [badL_eq (case_s h) (case_a h), clashes_t h]
theorem clashes_len (b : Beliefs) (bad : List Int) : (clashes b bad).length ≤ 24 := by
  cases h : isCase b bad [] with
  | false => rw [← clashes_f h]; simp
  | true =>
    rw [← clashes_t h]
    exact Nat.le_trans (badL_len _ _) (case_bl h)

/-! ### consequences -/
noncomputable def dif (b c : Beliefs) (x : Nat) : Bool := !(lbs b x == lbs c x)
noncomputable def conseq (b : Beliefs) (k : Int) : List Int := if isStrat b then fidx (dif b (dropR b [k])) b.Nodes.toNat else []
theorem conseq_f {b : Beliefs} {k : Int} (h : isStrat b = false) : [] = conseq b k := by unfold conseq; rw [h]; rfl
theorem conseq_t {b : Beliefs} {k : Int} (h : isStrat b = true) : fidx (dif b (dropR b [k])) b.Nodes.toNat = conseq b k := by unfold conseq; rw [if_pos h]
theorem conseq_len (b : Beliefs) (k : Int) : (conseq b k).length ≤ 24 := by
  cases h : isStrat b with
  | false => rw [← conseq_f h]; simp
  | true =>
    rw [← conseq_t h]
    have := isBeliefs_nodes (strat_b h)
    exact Nat.le_trans (fidx_len _ _) (by omega)
def atB (l : List Bool) (x : Nat) : Bool := (l[x]?).getD false
theorem atB_of {l : List Bool} {x : Nat} {v : Bool} (h : l[x]? = some v) : atB l x = v := by simp [atB, h]
def difL (x y : List Bool) (i : Nat) : Bool := !(atB x i == atB y i)
theorem difL_of {x y : List Bool} {i : Nat} {u v c : Bool} (hu : x[i]? = some u) (hv : y[i]? = some v) (h : (!(u == v)) = c) : difL x y i = c := by
  unfold difL
  rw [atB_of hu, atB_of hv]; exact h
theorem conseq_w {b : Beliefs} {k : Int} {i : Nat} (hi : ¬ (i < (labelsOf b).length ∧ i < (labelsOf (dropR b [k])).length)) (hi2 : i ≤ (labelsOf b).length) (hi3 : i ≤ (labelsOf (dropR b [k])).length) : fidx (difL (labelsOf b) (labelsOf (dropR b [k]))) i = conseq b k := by
  cases h : isStrat b with
  | false =>
    have e := labelsOf_f h
    rw [← e] at hi2
    have : i = 0 := by simpa using hi2
    subst this
    rw [← conseq_f h]; rfl
  | true =>
    have hd := (dropR_sub b [k]).strat h
    simp only [labelsOf_t h, labelsOf_t hd] at hi hi2 hi3 ⊢
    rw [vec_len, vec_len] at hi
    rw [vec_len] at hi2 hi3
    have en : (dropR b [k]).Nodes = b.Nodes := rfl
    rw [en] at hi hi3 ⊢
    have : i = b.Nodes.toNat := by omega
    subst this
    rw [← conseq_t h]
    refine fidx_congr fun x hx => ?_
    unfold difL dif
    rw [atB_of (vec_get hx), atB_of (vec_get hx)]
end Go.Sy
