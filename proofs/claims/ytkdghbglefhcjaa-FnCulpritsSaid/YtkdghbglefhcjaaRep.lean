/-
  Repairs; what makes a foundation.
  Conditions: none.
-/
import Derived.Test.YtkdghbglefhcjaaFound
namespace Go.Sy

/-! ### ascending parts of a list -/
def repAt (l free : List Int) (k : Nat) : Bool :=
  match l[k]? with
  | none => false
  | some x => free.contains x && (k == 0 || match l[k - 1]? with | none => false | some y => decide (y < x))
theorem repAt_t0 {l free : List Int} {x : Int} {k : Nat} (hx : l[k]? = some x) (hc : free.contains x = true) (h : k = 0) : repAt l free k = true := by
  unfold repAt; rw [hx]; simp only [hc, h]; rfl
theorem repAt_t1 {l free : List Int} {x y : Int} {k : Nat} (hx : l[k]? = some x) (hc : free.contains x = true) (hy : l[k - 1]? = some y) (h : y < x) : repAt l free k = true := by
  unfold repAt; rw [hx, hy]; simp only [hc, decide_eq_true h, Bool.or_true, Bool.and_self]
theorem repAt_f1 {l free : List Int} {x : Int} {k : Nat} (hx : l[k]? = some x) (hc : free.contains x = false) : repAt l free k = false := by
  unfold repAt; rw [hx]; simp only [hc, Bool.false_and]
theorem repAt_f2 {l free : List Int} {x y : Int} {k : Nat} (hx : l[k]? = some x) (hk : 0 < k) (hy : l[k - 1]? = some y) (h : ¬ y < x) : repAt l free k = false := by
  unfold repAt; rw [hx, hy]
  have : (k == 0) = false := by rw [beq_eq_false_iff_ne]; omega
  simp only [this, decide_eq_false h, Bool.or_self, Bool.and_false]
theorem repAt_iff {l free : List Int} {n : Int} (hf : asc free n = true) {k : Nat} (hk : k < l.length) : repAt l free k = (ascAt l n k && (match l[k]? with | some x => free.contains x | none => false)) := by
  obtain ⟨x, hx⟩ := some_of_lt hk
  unfold repAt ascAt
  rw [hx]
  simp only
  cases hc : free.contains x with
  | false => simp
  | true =>
    have := asc_m hf (List.contains_iff_mem.1 hc)
    have e1 : (!decide (x < 0)) = true := by simp; omega
    have e2 : (!decide (n ≤ x)) = true := by simp; omega
    rw [e1, e2]
    simp only [Bool.true_and, Bool.and_true]
    congr 1
    cases l[k - 1]? with
    | none => rfl
    | some y =>
      simp only
      rw [Bool.eq_iff_iff]
      simp
theorem rep_all {l free : List Int} {n : Int} (hf : asc free n = true) : (asc l n && l.all (fun x => free.contains x)) = true ↔ ∀ i, i < l.length → repAt l free i = true := by
  rw [Bool.and_eq_true]
  unfold asc
  rw [List.all_eq_true, List.all_eq_true]
  constructor
  · rintro ⟨h1, h2⟩ i hi
    rw [repAt_iff hf hi, h1 i (by simpa using hi)]
    obtain ⟨x, hx⟩ := some_of_lt hi
    rw [hx]
    simpa using h2 x (List.mem_of_getElem? hx)
  · intro h
    refine ⟨fun i hi => ?_, fun x hx => ?_⟩
    · have := h i (by simpa using hi)
      rw [repAt_iff hf (by simpa using hi), Bool.and_eq_true] at this
      exact this.1
    · obtain ⟨i, hi⟩ := List.getElem?_of_mem hx
      have := h i (lt_of_some hi)
      rw [repAt_iff hf (lt_of_some hi), Bool.and_eq_true, hi] at this
      exact this.2
noncomputable def isRep (b : Beliefs) (bad free l : List Int) : Bool := isCase b bad free && (asc l b.Reasons.length && l.all (fun x => free.contains x)) && decide ((badL (dropR b l) bad).length = 0)
theorem rep_n1 {b : Beliefs} {bad free l : List Int} (h : isCase b bad free = false) : false = isRep b bad free l := by simp [isRep, h]
theorem rep_n2 {b : Beliefs} {bad free l : List Int} (h : isCase b bad free = true) {k : Nat} (hk : k < l.length) (hr : repAt l free k = false) : false = isRep b bad free l := by
  have : (asc l (b.Reasons.length : Int) && l.all (fun x => free.contains x)) = false := by
    rw [Bool.eq_false_iff]
    intro e
    have := (rep_all (case_fa h)).1 e k hk
    rw [hr] at this
    cases this
  unfold isRep
  rw [this]; simp
theorem rep_n3 {b : Beliefs} {bad free l : List Int} (h : asc l (b.Reasons.length : Int) = false) : false = isRep b bad free l := by simp [isRep, h]
theorem rep_n4 {b : Beliefs} {bad free l : List Int} (h : l.all (fun x => free.contains x) = false) : false = isRep b bad free l := by
  unfold isRep
  rw [h]; simp
theorem rep_y {b : Beliefs} {bad free l : List Int} (h : isCase b bad free = true) (hi : ∀ i, i < l.length → repAt l free i = true) : (((badL (dropR b l) bad).length : Int) == 0) = isRep b bad free l := by
  unfold isRep
  rw [h, (rep_all (case_fa h)).2 hi, Bool.eq_iff_iff]
  simp
theorem rep_y2 {b : Beliefs} {bad free l : List Int} (h : isCase b bad free = true) (h1 : asc l (b.Reasons.length : Int) = true) (h2 : l.all (fun x => free.contains x) = true) : (((bad.filter (inL (labelsOf (dropR b l)))).length : Int) == 0) = isRep b bad free l := by
  unfold isRep
  have ha : asc bad b.Nodes = true := case_a h
  have ha : asc bad (dropR b l).Nodes = true := ha
  rw [h, h1, h2, badL_eq ((dropR_sub b l).strat (case_s h)) ha, Bool.eq_iff_iff]
  simp

/-! ### culprits -/
noncomputable def inF (b : Beliefs) (x : Int) (k : Int) : Bool := (foundOf b x).contains k
noncomputable def culps (b : Beliefs) (x : Int) (free : List Int) : List Int := free.filter (inF b x)
theorem culps_len (b : Beliefs) (x : Int) (free : List Int) : (culps b x free).length ≤ free.length := List.length_filter_le _ _

/-! ### foundations that are given -/
def rsAt (b : Beliefs) (s : Int) : Reason := (b.Reasons[s.toNat]?).getD default
theorem rsAt_of {b : Beliefs} {s : Int} {r : Reason} (h : b.Reasons[s.toNat]? = some r) : rsAt b s = r := by simp [rsAt, h]
def hvT (b : Beliefs) (l : List Int) (k : Nat) (y : Nat) : Bool := (l.take k).any (fun s => (rsAt b s).For.toNat == y)
theorem hvT_step {b : Beliefs} {l : List Int} {k : Nat} {s : Int} {r : Reason} (hs : l[k]? = some s) (hr : b.Reasons[s.toNat]? = some r) : upd (hvT b l k) r.For.toNat true = hvT b l (k + 1) := by
  funext y
  unfold upd hvT
  rw [take_snoc hs, List.any_append]
  simp only [List.any_cons, List.any_nil, Bool.or_false, rsAt_of hr]
  by_cases e : y = r.For.toNat
  · rw [if_pos e, e]; simp
  · rw [if_neg e]
    have : (r.For.toNat == y) = false := by rw [beq_eq_false_iff_ne]; exact fun h => e h.symm
    rw [this, Bool.or_false]
noncomputable def fOk (b : Beliefs) (l : List Int) (k : Nat) : Bool := match l[k]? with
  | none => false
  | some s => (rsAt b s).In.all (fun y => hvT b l k y.toNat) && (rsAt b s).Out.all (fun y => !(lbs b y.toNat))
def ixOk (b : Beliefs) (s : Int) : Bool := decide (0 ≤ s) && decide (s < b.Reasons.length)
noncomputable def isFnd (b : Beliefs) (x : Int) (l : List Int) : Bool := isStrat b && decide (0 < l.length) && (l.all (ixOk b) && (List.range l.length).all (fOk b l)) && decide ((rsAt b ((l[l.length - 1]?).getD 0)).For = x)
theorem fnd_n1 {b : Beliefs} {x : Int} {l : List Int} (h : isStrat b = false) : false = isFnd b x l := by simp [isFnd, h]
theorem fnd_n2 {b : Beliefs} {x : Int} {l : List Int} (h : l.length = 0) : false = isFnd b x l := by simp [isFnd, h]
theorem fnd_n3 {b : Beliefs} {x s : Int} {l : List Int} {k : Nat} (hs : l[k]? = some s) (h : ¬ (0 ≤ s ∧ s < b.Reasons.length)) : false = isFnd b x l := by
  have : ixOk b s = false := by
    unfold ixOk
    rw [Bool.eq_false_iff]
    simp only [ne_eq, Bool.and_eq_true, decide_eq_true_eq]
    exact h
  unfold isFnd
  rw [all_bad (p := ixOk b) hs this]; simp
theorem fnd_n4 {b : Beliefs} {x s : Int} {l : List Int} {k : Nat} (hs : l[k]? = some s) (h : fOk b l k = false) : false = isFnd b x l := by
  have : (List.range l.length).all (fOk b l) = false := by
    rw [List.all_eq_false]
    exact ⟨k, by simpa using lt_of_some hs, by simp [h]⟩
  unfold isFnd
  rw [this]; simp
theorem fOk_in {b : Beliefs} {l : List Int} {k j : Nat} {s y : Int} {r : Reason} (hs : l[k]? = some s) (hr : b.Reasons[s.toNat]? = some r) (hy : r.In[j]? = some y) (h : hvT b l k y.toNat = false) : fOk b l k = false := by
  unfold fOk
  rw [hs]
  simp only [rsAt_of hr]
  rw [all_bad (p := fun y => hvT b l k y.toNat) hy h]; rfl
theorem fOk_out {b : Beliefs} {l : List Int} {k j : Nat} {s y : Int} {r : Reason} (hs : l[k]? = some s) (hr : b.Reasons[s.toNat]? = some r) (hy : r.Out[j]? = some y) (h : lbs b y.toNat = true) : fOk b l k = false := by
  unfold fOk
  rw [hs]
  simp only [rsAt_of hr]
  rw [all_bad (p := fun y => !(lbs b y.toNat)) hy (by simp [h])]; simp
theorem fOk_t {b : Beliefs} {l : List Int} {k : Nat} {s : Int} {r : Reason} (hs : l[k]? = some s) (hr : b.Reasons[s.toNat]? = some r) (h1 : ∀ i, i < r.In.length → ∀ y, r.In[i]? = some y → hvT b l k y.toNat = true) (h2 : ∀ i, i < r.Out.length → ∀ y, r.Out[i]? = some y → (!(lbs b y.toNat)) = true) : fOk b l k = true := by
  unfold fOk
  rw [hs]
  simp only [rsAt_of hr]
  rw [all_of_idx (α := Int) (l := r.In) (p := fun y => hvT b l k y.toNat) h1, all_of_idx (α := Int) (l := r.Out) (p := fun y => !(lbs b y.toNat)) h2]; rfl
theorem fnd_y {b : Beliefs} {x s : Int} {l : List Int} {r : Reason} (h0 : isStrat b = true) (h1 : 0 < l.length) (h2 : ∀ i, i < l.length → ∀ s, l[i]? = some s → 0 ≤ s ∧ s < b.Reasons.length) (h3 : ∀ i, i < l.length → fOk b l i = true) (hs : l[l.length - 1]? = some s) (hr : b.Reasons[s.toNat]? = some r) : (r.For == x) = isFnd b x l := by
  have e1 : l.all (ixOk b) = true := all_of_idx (fun i hi s hs => by
    have := h2 i hi s hs
    unfold ixOk
    simp [this.1, this.2])
  have e2 : (List.range l.length).all (fOk b l) = true := by
    rw [List.all_eq_true]
    intro i hi
    exact h3 i (by simpa using hi)
  unfold isFnd
  rw [h0, e1, e2, decide_eq_true h1, hs, Option.getD_some, rsAt_of hr, Bool.eq_iff_iff]
  simp
theorem all_hv {b : Beliefs} {l : List Int} {k n : Nat} {r : Reason} (ha : asc r.In (n : Int) = true) (h : r.In.all (lI (vec n (hvT b l k))) = true) : ∀ i, i < r.In.length → ∀ y, r.In[i]? = some y → hvT b l k y.toNat = true := fun _ _ y hy => all_vec ha h y (List.mem_of_getElem? hy)
theorem not_hv {b : Beliefs} {l : List Int} {k n : Nat} {s : Int} {r : Reason} (hs : l[k]? = some s) (hr : b.Reasons[s.toNat]? = some r) (ha : asc r.In (n : Int) = true) (h : r.In.all (lI (vec n (hvT b l k))) = false) : fOk b l k = false := by
  rw [List.all_eq_false] at h
  obtain ⟨y, hy, hn⟩ := h
  obtain ⟨j, hj⟩ := List.getElem?_of_mem hy
  refine fOk_in hs hr hj ?_
  have h2 := asc_m ha hy
  unfold lI at hn
  rw [atB_of (vec_get (by omega))] at hn
  simpa using hn
theorem labelsOf_n {b : Beliefs} (h : isStrat b = true) : (labelsOf b).length = b.Nodes.toNat := by rw [labelsOf_t h, vec_len]
theorem labelsOf_at {b : Beliefs} (h : isStrat b = true) {k : Nat} {v : Bool} (hv : (labelsOf b)[k]? = some v) : lbs b k = v := by
  have hk := lt_of_some hv
  rw [labelsOf_n h] at hk
  rw [labelsOf_t h, vec_get hk] at hv
  simpa using hv
end Go.Sy
