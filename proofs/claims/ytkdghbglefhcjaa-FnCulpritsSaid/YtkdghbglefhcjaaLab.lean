/-
  Labellings.
  Conditions: none.
-/
import Derived.Test.YtkdghbglefhcjaaBad
namespace Go.Sy

def lI (l : List Bool) (y : Int) : Bool := atB l y.toNat
def lO (l : List Bool) (y : Int) : Bool := !(atB l y.toNat)
def holdsL (r : Reason) (l : List Bool) : Bool := r.In.all (lI l) && r.Out.all (lO l)
theorem lI_of {l : List Bool} {y : Int} {v : Bool} (h : l[y.toNat]? = some v) : lI l y = v := atB_of h
theorem lO_of {l : List Bool} {y : Int} {v : Bool} (h : l[y.toNat]? = some v) : lO l y = !v := by unfold lO; rw [atB_of h]
theorem holds_in {r : Reason} {l : List Bool} {k : Nat} {y : Int} (hy : r.In[k]? = some y) (h : lI l y = false) : false = holdsL r l := by unfold holdsL; rw [all_bad (p := lI l) hy h]; rfl
theorem holds_out {r : Reason} {l : List Bool} {k : Nat} {y : Int} (hy : r.Out[k]? = some y) (h : lO l y = false) : false = holdsL r l := by unfold holdsL; rw [all_bad (p := lO l) hy h]; simp
theorem holds_y {r : Reason} {l : List Bool} (h1 : ∀ i, i < r.In.length → ∀ y, r.In[i]? = some y → lI l y = true) (h2 : ∀ i, i < r.Out.length → ∀ y, r.Out[i]? = some y → lO l y = true) : true = holdsL r l := by
  unfold holdsL
  rw [all_of_idx h1, all_of_idx h2]; rfl

inductive Pl (b : Beliefs) (l : List Bool) : Nat → Prop
  | mk (r : Reason) : r ∈ b.Reasons → holdsL r l = true → (∀ y ∈ r.In, Pl b l y.toNat) → Pl b l r.For.toNat
def LabA (b : Beliefs) (l : List Bool) : Prop := ∀ r ∈ b.Reasons, holdsL r l = true → atB l r.For.toNat = true
noncomputable def dcd (p : Prop) : Bool := @decide p (Classical.propDecidable p)
theorem dcd_t {p : Prop} (h : p) : dcd p = true := @decide_eq_true p (Classical.propDecidable p) h
theorem dcd_f {p : Prop} (h : ¬ p) : dcd p = false := @decide_eq_false p (Classical.propDecidable p) h
theorem dcd_iff {p : Prop} : dcd p = true ↔ p := @decide_eq_true_iff p (Classical.propDecidable p)
noncomputable def isLab (b : Beliefs) (l : List Bool) : Bool := isBeliefs b && decide ((l.length : Int) = b.Nodes) && dcd (LabA b l) && dcd (∀ x : Nat, (x : Int) < b.Nodes → atB l x = true → Pl b l x)
theorem lab_n1 {b : Beliefs} {l : List Bool} (h : isBeliefs b = false) : false = isLab b l := by simp [isLab, h]
theorem lab_n2 {b : Beliefs} {l : List Bool} (h : (l.length : Int) ≠ b.Nodes) : false = isLab b l := by simp [isLab, h]
theorem lab_n3 {b : Beliefs} {l : List Bool} {k : Nat} {r : Reason} (hr : b.Reasons[k]? = some r) (h : holdsL r l = true) {v : Bool} (hv : l[r.For.toNat]? = some v) (h2 : v = false) : false = isLab b l := by
  have : ¬ LabA b l := fun ha => by
    have := ha r (List.mem_of_getElem? hr) h
    rw [atB_of hv, h2] at this
    cases this
  simp [isLab, dcd_f this]
theorem lab_n4 {b : Beliefs} {l : List Bool} {x : Nat} (hx : (x : Int) < b.Nodes) (h : atB l x = true) (hp : ¬ Pl b l x) : false = isLab b l := by
  have : ¬ ∀ x : Nat, (x : Int) < b.Nodes → atB l x = true → Pl b l x := fun ha => hp (ha x hx h)
  simp only [isLab, dcd_f this, Bool.and_false]
theorem lab_y {b : Beliefs} {l : List Bool} (h1 : isBeliefs b = true) (h2 : (l.length : Int) = b.Nodes) (h3 : LabA b l) (h4 : ∀ x : Nat, (x : Int) < b.Nodes → atB l x = true → Pl b l x) : true = isLab b l := by
  simp only [isLab, h1, decide_eq_true h2, dcd_t h3, dcd_t h4, Bool.and_self]

def LabS (b : Beliefs) (l : List Bool) (g : Nat → Bool) : Prop := ∀ x, g x = true → Pl b l x
def LabR (l : List Bool) (g g2 : Nat → Bool) (r : Reason) : Prop := holdsL r l = true → (∀ y ∈ r.In, g y.toNat = true) → g2 r.For.toNat = true
def LabC (b : Beliefs) (l : List Bool) (g : Nat → Bool) : Prop := ∀ r ∈ b.Reasons, LabR l g g r
theorem LabC.all {b : Beliefs} {l : List Bool} {g : Nat → Bool} (h : LabC b l g) : ∀ x, Pl b l x → g x = true := by
  intro x hx
  induction hx with
  | mk r hr hh _ ih => exact h r hr hh ih
theorem LabS.zero (b : Beliefs) (l : List Bool) : LabS b l (fun _ => false) := fun x h => by cases h
theorem LabS.set {b : Beliefs} {l : List Bool} {g : Nat → Bool} (h : LabS b l g) {x : Nat} {v : Bool} (hv : v = true → Pl b l x) : LabS b l (upd g x v) := by
  intro y hy
  unfold upd at hy
  split at hy
  · rename_i e; subst e; exact hv hy
  · exact h y hy
theorem all_vec {n : Nat} {g : Nat → Bool} {l : List Int} (ha : asc l (n : Int) = true) (h : l.all (lI (vec n g)) = true) : ∀ y ∈ l, g y.toNat = true := by
  intro y hy
  rw [List.all_eq_true] at h
  have := h y hy
  have h2 := asc_m ha hy
  unfold lI at this
  rwa [atB_of (vec_get (by omega))] at this
theorem not_all_vec {n : Nat} {g : Nat → Bool} {l : List Int} (ha : asc l (n : Int) = true) (h : l.all (lI (vec n g)) = false) : ¬ ∀ y ∈ l, g y.toNat = true := by
  intro hall
  rw [List.all_eq_false] at h
  obtain ⟨y, hy, h⟩ := h
  apply h
  have h2 := asc_m ha hy
  unfold lI
  rw [atB_of (vec_get (by omega))]
  exact hall y hy
theorem Pl.of {b : Beliefs} {l : List Bool} {g : Nat → Bool} {n k : Nat} {r : Reason} (hs : LabS b l g) (hr : b.Reasons[k]? = some r) (hh : holdsL r l = true) (ha : asc r.In (n : Int) = true) (hi : r.In.all (lI (vec n g)) = true) : Pl b l r.For.toNat :=
  .mk r (List.mem_of_getElem? hr) hh (fun y hy => hs _ (all_vec ha hi y hy))

def LabE (b : Beliefs) (l : List Bool) (g g2 : Nat → Bool) (more : Bool) (k n : Nat) : Prop :=
  cnt n g ≤ cnt n g2 ∧ (more = true → cnt n g + 1 ≤ cnt n g2) ∧ (more = false → g2 = g ∧ ∀ i r, i < k → b.Reasons[i]? = some r → LabR l g g r)
theorem LabE.zero (b : Beliefs) (l : List Bool) (g : Nat → Bool) (n : Nat) : LabE b l g g false 0 n := ⟨Nat.le_refl _, (fun h => by simp at h), fun _ => ⟨rfl, fun i r hi => absurd hi (Nat.not_lt_zero i)⟩⟩
theorem LabE.up {b : Beliefs} {l : List Bool} {g g2 : Nat → Bool} {more : Bool} {k n x : Nat} (h : LabE b l g g2 more k n) (hx : x < n) (h1 : g2 x = false) (m : Nat) : LabE b l g (upd g2 x true) true m n := by
  have e := cnt_upd hx h1
  exact ⟨by have := h.1; omega, (fun _ => by have := h.1; omega), (fun e => by simp at e)⟩
theorem LabE.keep {b : Beliefs} {l : List Bool} {g g2 : Nat → Bool} {more : Bool} {k n : Nat} {r : Reason} (h : LabE b l g g2 more k n) (hr : b.Reasons[k]? = some r) (hk : LabR l g2 g2 r) : LabE b l g g2 more (k + 1) n := by
  refine ⟨h.1, h.2.1, fun e => ?_⟩
  obtain ⟨e2, h3⟩ := h.2.2 e
  refine ⟨e2, fun i r' hi hr' => ?_⟩
  by_cases hik : i = k
  · subst hik
    rw [hr] at hr'
    simp only [Option.some.injEq] at hr'
    subst hr'
    rw [← e2]; exact hk
  · exact h3 i r' (by omega) hr'
theorem LabE.clo {b : Beliefs} {l : List Bool} {g g2 : Nat → Bool} {more : Bool} {k n : Nat} (h : LabE b l g g2 more k n) (hk : b.Reasons.length ≤ k) : more = false → LabC b l g2 := by
  intro e r hr
  obtain ⟨e2, h3⟩ := h.2.2 e
  obtain ⟨i, hi⟩ := List.getElem?_of_mem hr
  rw [e2]
  exact h3 i r (by have := lt_of_some hi; omega) hi
theorem labR_1 {b : Beliefs} {l : List Bool} {g : Nat → Bool} {k : Nat} {r : Reason} {v : Bool} (ha : LabA b l) (hr : b.Reasons[k]? = some r) (hv : l[r.For.toNat]? = some v) (h : v = false) : LabR l g g r := fun hh _ => by
  have := ha r (List.mem_of_getElem? hr) hh
  rw [atB_of hv, h] at this
  cases this
theorem labR_2 {l : List Bool} {g : Nat → Bool} {r : Reason} (h : g r.For.toNat = true) : LabR l g g r := fun _ _ => h
theorem labR_3 {l : List Bool} {g g2 : Nat → Bool} {r : Reason} (h : holdsL r l = false) : LabR l g g2 r := fun hh => by rw [h] at hh; cases hh
theorem labR_4 {l : List Bool} {g g2 : Nat → Bool} {r : Reason} {n : Nat} (ha : asc r.In (n : Int) = true) (h : r.In.all (lI (vec n g)) = false) : LabR l g g2 r := fun _ hi => absurd hi (not_all_vec ha h)
theorem labA_of {b : Beliefs} {l : List Bool} (h : ∀ i, i < b.Reasons.length → ∀ r, b.Reasons[i]? = some r → holdsL r l = true → atB l r.For.toNat = true) : LabA b l := fun r hr hh => by
  obtain ⟨i, hi⟩ := List.getElem?_of_mem hr
  exact h i (lt_of_some hi) r hi hh
theorem pl_l {b : Beliefs} {l : List Bool} {x : Nat} (ha : LabA b l) (h : Pl b l x) : atB l x = true := by
  cases h with
  | mk r hr hh _ => exact ha r hr hh

/-! the reference's passes -/
def LabI (b : Beliefs) (l : List Bool) (g g2 : Nat → Bool) (k : Nat) : Prop := (∀ x, g x = true → g2 x = true) ∧ (∀ i r, i < k → b.Reasons[i]? = some r → LabR l g g2 r) ∧ (∀ i r, i < k → b.Reasons[i]? = some r → holdsL r l = true → atB l r.For.toNat = true)
theorem LabI.zero (b : Beliefs) (l : List Bool) (g : Nat → Bool) : LabI b l g g 0 := ⟨fun _ h => h, (fun i r hi => absurd hi (Nat.not_lt_zero i)), (fun i r hi => absurd hi (Nat.not_lt_zero i))⟩
theorem LabI.next {b : Beliefs} {l : List Bool} {g g2 : Nat → Bool} {k n : Nat} {r : Reason} {fine v : Bool} (h : LabI b l g g2 k) (hr : b.Reasons[k]? = some r) (ha : asc r.In (n : Int) = true) (hf : fine = (holdsL r l && (r.In.take r.In.length).all (lI (vec n g2)))) (hv : v = (g2 r.For.toNat || fine)) (hA : holdsL r l = true → atB l r.For.toNat = true) : LabI b l g (upd g2 r.For.toNat v) (k + 1) := by
  rw [List.take_length] at hf
  have mono : ∀ x, g2 x = true → upd g2 r.For.toNat v x = true := fun x hx => by
    unfold upd
    split
    · rename_i e; subst e; rw [hv, hx]; rfl
    · exact hx
  refine ⟨fun x hx => mono x (h.1 x hx), fun i r' hi hr' => ?_, fun i r' hi hr' => ?_⟩
  · by_cases e : i = k
    · subst e
      rw [hr] at hr'
      simp only [Option.some.injEq] at hr'
      subst hr'
      intro hh hin
      rw [upd_self, hv, hf, hh]
      cases hx : r.In.all (lI (vec n g2)) with
      | true => simp
      | false => exact absurd (fun y hy => h.1 _ (hin y hy)) (not_all_vec ha hx)
    · intro hh hin
      exact mono _ (h.2.1 i r' (by omega) hr' hh hin)
  · by_cases e : i = k
    · subst e
      rw [hr] at hr'
      simp only [Option.some.injEq] at hr'
      subst hr'
      exact hA
    · exact h.2.2 i r' (by omega) hr'
theorem lab_pass {b : Beliefs} {n : Nat} (hn : b.Nodes = n) (ho : okB b = true) {l : List Bool} {g g2 : Nat → Bool} (hs2 : LabS b l g2) (h : LabI b l g g2 b.Reasons.length) {q : Nat} (hq : q ≤ cnt n g ∨ LabC b l g) : q + 1 ≤ cnt n g2 ∨ LabC b l g2 := by
  by_cases hc : LabC b l g
  · right
    have e : g2 = g := by
      funext x
      cases hx : g x with
      | true => exact h.1 x hx
      | false =>
        cases hx2 : g2 x with
        | false => rfl
        | true => rw [hc.all x (hs2 x hx2)] at hx; cases hx
    rw [e]; exact hc
  · left
    have hq : q ≤ cnt n g := hq.resolve_right hc
    have ⟨r, hr, hno⟩ : ∃ r ∈ b.Reasons, ¬ LabR l g g r := Classical.byContradiction fun hno => hc fun r hr => Classical.byContradiction fun h2 => hno ⟨r, hr, h2⟩
    obtain ⟨i, hi⟩ := List.getElem?_of_mem hr
    have hF := isR_for (okB_m ho hr)
    have h1 : holdsL r l = true := Classical.byContradiction fun e => hno (fun e2 => absurd e2 e)
    have h2 : ∀ y ∈ r.In, g y.toNat = true := Classical.byContradiction fun e => hno (fun _ e2 => absurd e2 e)
    have h3 : g r.For.toNat = false := by
      cases hx : g r.For.toNat with
      | false => rfl
      | true => exact absurd (fun _ _ => hx) hno
    have := cnt_lt (n := n) (y := r.For.toNat) (f := g) (g := g2) (fun x _ hx => h.1 x hx) (by omega) h3 (h.2.1 i r (lt_of_some hi) hi h1 h2)
    omega
theorem fine_step {r : Reason} {l : List Bool} {g : Nat → Bool} {n m : Nat} {y : Int} {fine v : Bool} (hf : fine = (holdsL r l && (r.In.take m).all (lI (vec n g)))) (hy : r.In[m]? = some y) (h0 : 0 ≤ y ∧ y < n) (hv : v = (fine && g y.toNat)) : v = (holdsL r l && (r.In.take (m + 1)).all (lI (vec n g))) := by
  rw [take_snoc hy, List.all_append, hv, hf]
  simp only [List.all_cons, List.all_nil, Bool.and_true, lI]
  rw [atB_of (vec_get (by omega)), Bool.and_assoc]
end Go.Sy
