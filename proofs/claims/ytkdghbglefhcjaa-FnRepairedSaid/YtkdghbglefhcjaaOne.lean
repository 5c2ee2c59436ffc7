/-
  Stratified beliefs have exactly one labelling.
  Conditions: none.
-/
import Derived.Test.YtkdghbglefhcjaaDraw
namespace Go.Sy

theorem atB_vec {n x : Nat} {g : Nat → Bool} (h : x < n) : atB (vec n g) x = g x := atB_of (vec_get h)
theorem holdsL_iff {r : Reason} {l : List Bool} : holdsL r l = true ↔ (∀ y ∈ r.In, atB l y.toNat = true) ∧ ∀ y ∈ r.Out, atB l y.toNat = false := by
  simp [holdsL, lI, lO, List.all_eq_true]
theorem isLab_iff {b : Beliefs} {l : List Bool} (hb : isBeliefs b = true) : isLab b l = true ↔ (l.length : Int) = b.Nodes ∧ LabA b l ∧ ∀ x : Nat, (x : Int) < b.Nodes → atB l x = true → Pl b l x := by
  simp only [isLab, hb, Bool.true_and, Bool.and_eq_true, decide_eq_true_eq, dcd_iff, and_assoc]
theorem lab_le {b : Beliefs} {s : Nat → Int} {l m : List Bool} (ho : okB b = true) (hs : Sol b s) (ha : LabA b m) {k : Int} (hag : ∀ x : Nat, (x : Int) < b.Nodes → s x < k → atB l x = atB m x) {x : Nat} (h : Pl b l x) : s x ≤ k → atB m x = true := by
  induction h with
  | mk r hr hh _ ih =>
    intro hk
    refine ha r hr (holdsL_iff.2 ⟨fun y hy => ih y hy ?_, fun y hy => ?_⟩)
    · have := (hs.2 r hr).1 y hy
      omega
    · have h1 := (hs.2 r hr).2 y hy
      have h2 := asc_m (isR_out (okB_m ho hr)) hy
      rw [← hag y.toNat (by omega) (by omega)]
      exact (holdsL_iff.1 hh).2 y hy
theorem lab_uniq {b : Beliefs} {l m : List Bool} (hb : isBeliefs b = true) (hh : HasSol b) (h1 : isLab b l = true) (h2 : isLab b m = true) : l = m := by
  obtain ⟨s, hs, _⟩ := hh
  have ho := isB_ok2 hb
  rw [isLab_iff hb] at h1 h2
  obtain ⟨e1, a1, p1⟩ := h1
  obtain ⟨e2, a2, p2⟩ := h2
  have key : ∀ (k : Nat) (x : Nat), (x : Int) < b.Nodes → s x < k → atB l x = atB m x := by
    intro k
    induction k with
    | zero => intro x _ h; have := hs.1 x; omega
    | succ k ih =>
      intro x hx h
      rw [Bool.eq_iff_iff]
      refine ⟨fun h3 => lab_le ho hs a2 ih (p1 x hx h3) (by omega), fun h3 => lab_le ho hs a1 (fun x hx h => (ih x hx h).symm) (p2 x hx h3) (by omega)⟩
  refine List.ext_getElem (by omega) (fun i hi1 hi2 => ?_)
  have h3 := key ((s i).toNat + 1) i (by omega) (by have := hs.1 i; omega)
  rw [atB_of (List.getElem?_eq_getElem hi1), atB_of (List.getElem?_eq_getElem hi2)] at h3
  exact h3
theorem lab_has {b : Beliefs} (h : isStrat b = true) : isLab b (labelsOf b) = true := by
  have hb := strat_b h
  have ho := isB_ok2 hb
  have hbn := okB_nodes ho
  have hf := rnds_facts ho (strat_has h)
  rw [labelsOf_t h, isLab_iff hb]
  have at_ : ∀ y : Int, 0 ≤ y → y < b.Nodes → atB (vec b.Nodes.toNat (lbs b)) y.toNat = lbs b y.toNat := fun y h0 h1 => atB_vec (by omega)
  have hl : ∀ x, lbs b x = decide (0 ≤ rnds b x) := fun x => rfl
  have hlt : ∀ x : Nat, (x : Int) < b.Nodes → x < b.Nodes.toNat := fun x hx => by omega
  have key : ∀ (m : Nat) (x : Nat), 0 ≤ rnds b x → rnds b x < m → Pl b (vec b.Nodes.toNat (lbs b)) x := by
    intro m
    induction m with
    | zero => intro x h1 h2; omega
    | succ m ih =>
      intro x h1 h2
      obtain ⟨r, hr, e, hsp⟩ := hf.f3 x h1
      rw [supG_iff] at hsp
      have hR := okB_m ho hr
      have : x = r.For.toNat := by omega
      rw [this]
      refine .mk r hr (holdsL_iff.2 ⟨fun y hy => ?_, fun y hy => ?_⟩) (fun y hy => ?_)
      · have h3 := asc_m (isR_in hR) hy
        rw [at_ y h3.1 h3.2, hl]
        exact decide_eq_true (hsp.1 y hy).1
      · have h3 := asc_m (isR_out hR) hy
        rw [at_ y h3.1 h3.2, hl]
        exact decide_eq_false (by have := hsp.2 y hy; omega)
      · have := hsp.1 y hy
        exact ih _ this.1 (by omega)
  refine ⟨by rw [vec_len]; omega, fun r hr hh => ?_, fun x hx h1 => ?_⟩
  · have hR := okB_m ho hr
    have hF := isR_for hR
    rw [holdsL_iff] at hh
    rw [at_ _ hF.1 hF.2, hl]
    refine decide_eq_true (hf.f4 r hr ⟨fun y hy => ?_, fun y hy => ?_⟩)
    · have h3 := asc_m (isR_in hR) hy
      have h4 := hh.1 y hy
      rw [at_ y h3.1 h3.2, hl] at h4
      exact of_decide_eq_true h4
    · have h3 := asc_m (isR_out hR) hy
      have h4 := hh.2 y hy
      rw [at_ y h3.1 h3.2, hl] at h4
      have := of_decide_eq_false h4
      omega
  · rw [atB_vec (hlt x hx), hl] at h1
    have h2 := of_decide_eq_true h1
    exact key ((rnds b x).toNat + 1) x h2 (by omega)
theorem one_lab {b : Beliefs} (h : isStrat b = true) (l : List Bool) : isLab b l = decide (l = labelsOf b) := by
  rw [Bool.eq_iff_iff, decide_eq_true_iff]
  constructor
  · intro h1
    exact lab_uniq (strat_b h) (strat_has h) h1 (lab_has h)
  · intro e
    rw [e]; exact lab_has h
theorem vec_val {α : Type} {n x : Nat} {g : Nat → α} {z : α} (h : (vec n g)[x]? = some z) : z = g x := by
  have hx : x < n := by
    have := (List.getElem?_eq_some_iff.1 h).1
    rwa [vec_len] at this
  rw [vec_get hx] at h
  exact (Option.some.inj h).symm
theorem strO_at {b : Beliefs} (h : isStrat b = true) {x : Nat} {z : Int} (hz : (strataOf b)[x]? = some z) : z = strat b x := by
  rw [strataOf_t h] at hz; exact vec_val hz
theorem strO_len {b : Beliefs} (h : isStrat b = true) : (strataOf b).length = b.Nodes.toNat := by rw [strataOf_t h, vec_len]
theorem rdO_at {b : Beliefs} (h : isStrat b = true) {x : Nat} {z : Int} (hz : (roundsOf b)[x]? = some z) : z = rnds b x := by
  rw [roundsOf_t h] at hz; exact vec_val hz
end Go.Sy
