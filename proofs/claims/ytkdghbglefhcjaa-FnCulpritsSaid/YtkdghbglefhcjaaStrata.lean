/-
  Strata: the least solution of what the reasons ask for.
  Conditions: none.
-/
import Derived.Test.YtkdghbglefhcjaaKeep
namespace Go.Sy

/-! ### counting -/
theorem cnt_mono {n : Nat} {f g : Nat → Bool} (h : ∀ x, x < n → f x = true → g x = true) : cnt n f ≤ cnt n g := by
  unfold cnt
  apply List.countP_mono_left
  intro x hx
  exact h x (by simpa using hx)
theorem cnt_lt {n y : Nat} {f g : Nat → Bool} (h : ∀ x, x < n → f x = true → g x = true) (hy : y < n) (h1 : f y = false) (h2 : g y = true) : cnt n f + 1 ≤ cnt n g := by
  rw [← cnt_upd hy h1]
  apply cnt_mono
  intro x hx hf
  unfold upd at hf
  split at hf
  · rename_i e; rw [e]; exact h2
  · exact h x hx hf
theorem cnt_pos {n y : Nat} {g : Nat → Bool} (hy : y < n) (h : g y = true) : 1 ≤ cnt n g := by
  have := cnt_lt (f := fun _ => false) (g := g) (fun x _ e => by cases e) hy rfl h
  rw [cnt_zero] at this
  omega
theorem cnt_all {n : Nat} {g : Nat → Bool} (h : ∀ x, x < n → g x = true) : cnt n g = n := by
  unfold cnt
  have := (List.countP_eq_length (p := g) (l := List.range n)).2 (fun x hx => h x (by simpa using hx))
  simpa using this
theorem all_of_cnt {n : Nat} {g : Nat → Bool} (h : n ≤ cnt n g) : ∀ x, x < n → g x = true := by
  intro x hx
  cases hg : g x with
  | true => rfl
  | false =>
    have := cnt_lt (f := g) (g := fun _ => true) (fun _ _ _ => rfl) hx hg rfl
    have h2 := cnt_le n (fun _ => true)
    omega

/-! ### valid reasons over few nodes -/
def okB (b : Beliefs) : Bool := decide (0 ≤ b.Nodes) && decide (b.Nodes ≤ 24) && b.Reasons.all (fun r => isReason r b.Nodes)
theorem isB_ok2 {b : Beliefs} (h : isBeliefs b = true) : okB b = true := by
  simp only [isBeliefs, Bool.and_eq_true] at h
  simp only [okB, Bool.and_eq_true]
  exact ⟨h.1.1, h.2⟩
theorem okB_nodes {b : Beliefs} (h : okB b = true) : 0 ≤ b.Nodes ∧ b.Nodes ≤ 24 := by
  simp only [okB, Bool.and_eq_true, decide_eq_true_eq] at h
  exact h.1
theorem okB_m {b : Beliefs} (h : okB b = true) {r : Reason} (hr : r ∈ b.Reasons) : isReason r b.Nodes = true := by
  simp only [okB, Bool.and_eq_true, List.all_eq_true] at h
  exact h.2 r hr
theorem okB_r {b : Beliefs} (h : okB b = true) {k : Nat} {r : Reason} (hr : b.Reasons[k]? = some r) : isReason r b.Nodes = true := okB_m h (List.mem_of_getElem? hr)
theorem asc_m {l : List Int} {n : Int} (h : asc l n = true) {y : Int} (hy : y ∈ l) : 0 ≤ y ∧ y < n := by
  obtain ⟨j, hj⟩ := List.getElem?_of_mem hy
  exact asc_at h hj

/-! ### solutions -/
def SolR (r : Reason) (s : Nat → Int) : Prop := (∀ y ∈ r.In, s y.toNat ≤ s r.For.toNat) ∧ (∀ y ∈ r.Out, s y.toNat + 1 ≤ s r.For.toNat)
def Sol (b : Beliefs) (s : Nat → Int) : Prop := (∀ x, 0 ≤ s x) ∧ ∀ r ∈ b.Reasons, SolR r s
def HasSol (b : Beliefs) : Prop := ∃ s, Sol b s ∧ ∀ x : Nat, (x : Int) < b.Nodes → s x < b.Nodes

theorem exists_least {p : Nat → Prop} (h : ∃ k, p k) : ∃ k, p k ∧ ∀ j, p j → k ≤ j := by
  obtain ⟨k, hk⟩ := h
  induction k using Nat.strongRecOn with
  | _ k ih =>
    by_cases h : ∃ j, j < k ∧ p j
    · obtain ⟨j, hj, hp⟩ := h
      exact ih j hj hp
    · refine ⟨k, hk, fun j hj => ?_⟩
      by_cases e : k ≤ j
      · exact e
      · exact absurd ⟨j, by omega, hj⟩ h
open Classical in
noncomputable def leastN (p : Nat → Prop) : Nat := if h : ∃ k, p k then Classical.choose (exists_least h) else 0
theorem leastN_spec {p : Nat → Prop} (h : ∃ k, p k) : p (leastN p) ∧ ∀ j, p j → leastN p ≤ j := by
  unfold leastN
  rw [dif_pos h]
  exact Classical.choose_spec (exists_least h)

noncomputable def strat (b : Beliefs) (x : Nat) : Int := (leastN (fun k => ∃ s, Sol b s ∧ s x = (k : Int)) : Nat)
theorem strat_le {b : Beliefs} {s : Nat → Int} (h : Sol b s) (x : Nat) : strat b x ≤ s x := by
  have hp : ∃ s', Sol b s' ∧ s' x = (((s x).toNat : Nat) : Int) := ⟨s, h, by have := h.1 x; omega⟩
  have := (leastN_spec (p := fun k => ∃ s, Sol b s ∧ s x = (k : Int)) ⟨(s x).toNat, hp⟩).2 (s x).toNat hp
  have h0 := h.1 x
  unfold strat
  omega
theorem strat_at {b : Beliefs} (h : HasSol b) (x : Nat) : ∃ s, Sol b s ∧ s x = strat b x := by
  obtain ⟨s, hs, _⟩ := h
  exact (leastN_spec (p := fun k => ∃ s, Sol b s ∧ s x = (k : Int)) ⟨(s x).toNat, s, hs, by have := hs.1 x; omega⟩).1
theorem strat_nn (b : Beliefs) (x : Nat) : 0 ≤ strat b x := by unfold strat; omega
theorem strat_sol {b : Beliefs} (h : HasSol b) : Sol b (strat b) := by
  refine ⟨strat_nn b, fun r hr => ?_⟩
  obtain ⟨s, hs, he⟩ := strat_at h r.For.toNat
  have h1 := hs.2 r hr
  refine ⟨fun y hy => ?_, fun y hy => ?_⟩
  · have := strat_le hs y.toNat
    have := h1.1 y hy
    omega
  · have := strat_le hs y.toNat
    have := h1.2 y hy
    omega
theorem strat_lt {b : Beliefs} (h : HasSol b) {x : Nat} (hx : (x : Int) < b.Nodes) : strat b x < b.Nodes := by
  obtain ⟨s, hs, hb⟩ := h
  have := strat_le hs x
  have := hb x hx
  omega

/-! ### stratified beliefs have a solution -/
noncomputable def rk (b : Beliefs) (n : Nat) (x : Nat) : Nat := cnt n (fun y => decide (y = x) || dep b x y)
theorem edge_m {b : Beliefs} {r : Reason} {y : Int} (hr : r ∈ b.Reasons) (h0 : 0 ≤ r.For) (hy : y ∈ r.In ∨ y ∈ r.Out) (h1 : 0 ≤ y) : edge b r.For.toNat y.toNat = true := by
  unfold edge
  rw [List.any_eq_true]
  refine ⟨r, hr, ?_⟩
  have e1 : ((r.For.toNat : Nat) : Int) = r.For := by omega
  have e2 : ((y.toNat : Nat) : Int) = y := by omega
  simp only [rE, e1, e2, Bool.and_eq_true, Bool.or_eq_true, List.contains_iff_mem, beq_self_eq_true, true_and]
  exact hy
theorem rk_le {b : Beliefs} {n x y : Nat} (he : edge b x y = true) : rk b n y ≤ rk b n x := by
  apply cnt_mono
  intro z _ hz
  simp only [Bool.or_eq_true, decide_eq_true_eq] at hz ⊢
  right
  rw [dep_iff] at hz ⊢
  rcases hz with e | hz
  · subst e; exact .single he
  · exact Relation.TransGen.trans (.single he) hz
theorem rk_lt {b : Beliefs} {n x y : Nat} (hx : x < n) (he : edge b x y = true) (hne : y ≠ x) (hnd : dep b y x = false) : rk b n y + 1 ≤ rk b n x := by
  unfold rk
  refine cnt_lt (y := x) (fun z _ hz => ?_) hx ?_ (by simp)
  · simp only [Bool.or_eq_true, decide_eq_true_eq] at hz ⊢
    right
    rw [dep_iff] at hz ⊢
    rcases hz with e | hz
    · subst e; exact .single he
    · exact Relation.TransGen.trans (.single he) hz
  · rw [hnd, Bool.or_false, decide_eq_false_iff_not]
    exact fun e => hne e.symm
theorem strat_has {b : Beliefs} (h : isStrat b = true) : HasSol b := by
  have hb := strat_b h
  have hn := isBeliefs_nodes hb
  have hall : ∀ r ∈ b.Reasons, stR b r = true := by
    simp only [isStrat, Bool.and_eq_true, List.all_eq_true] at h
    exact h.2
  refine ⟨fun x => ((rk b b.Nodes.toNat x - 1 : Nat) : Int), ⟨fun x => Int.natCast_nonneg _, fun r hr => ?_⟩, fun x hx => ?_⟩
  · have hv := okB_m (isB_ok2 hb) hr
    have hF := isR_for hv
    refine ⟨fun y hy => ?_, fun y hy => ?_⟩
    · have hy0 := asc_m (isR_in hv) hy
      have := rk_le (n := b.Nodes.toNat) (edge_m hr hF.1 (.inl hy) hy0.1)
      simp only
      omega
    · have hy0 := asc_m (isR_out hv) hy
      have hs := hall r hr
      simp only [stR, List.all_eq_true] at hs
      have hs := hs y hy
      simp only [stY, Bool.not_eq_true', Bool.or_eq_false_iff, beq_eq_false_iff_ne] at hs
      have := rk_lt (n := b.Nodes.toNat) (by omega) (edge_m hr hF.1 (.inr hy) hy0.1) (by have := hs.1; omega) hs.2
      have h1 : 1 ≤ rk b b.Nodes.toNat y.toNat := cnt_pos (y := y.toNat) (by omega) (by simp)
      simp only
      omega
  · have := cnt_le b.Nodes.toNat (fun y => decide (y = x) || dep b x y)
    have e : rk b b.Nodes.toNat x = cnt b.Nodes.toNat (fun y => decide (y = x) || dep b x y) := rfl
    simp only
    omega

/-! ### the two loops -/
def StG (b : Beliefs) (g : Nat → Int) : Prop := ∀ x, 0 ≤ g x ∧ g x ≤ strat b x
theorem StG.zero (b : Beliefs) : StG b (fun _ => 0) := fun x => ⟨Int.le_refl _, strat_nn b x⟩
theorem StG.set {b : Beliefs} {g : Nat → Int} {x : Nat} {v : Int} (h : StG b g) (h0 : 0 ≤ v) (h1 : v ≤ strat b x) : StG b (upd g x v) := by
  intro y
  unfold upd
  split
  · rename_i e; subst e; exact ⟨h0, h1⟩
  · exact h y
theorem StG.in {b : Beliefs} (hs : HasSol b) {g : Nat → Int} (h : StG b g) {r : Reason} {y : Int} {k : Nat} (hr : r ∈ b.Reasons) (hy : r.In[k]? = some y) : g y.toNat ≤ strat b r.For.toNat := by
  have := ((strat_sol hs).2 r hr).1 y (List.mem_of_getElem? hy)
  have := (h y.toNat).2
  omega
theorem StG.out {b : Beliefs} (hs : HasSol b) {g : Nat → Int} (h : StG b g) {r : Reason} {y : Int} {k : Nat} (hr : r ∈ b.Reasons) (hy : r.Out[k]? = some y) : g y.toNat + 1 ≤ strat b r.For.toNat := by
  have := ((strat_sol hs).2 r hr).2 y (List.mem_of_getElem? hy)
  have := (h y.toNat).2
  omega
theorem StG.lt {b : Beliefs} (hs : HasSol b) {g : Nat → Int} (h : StG b g) {x : Nat} (hx : (x : Int) < b.Nodes) : 0 ≤ g x ∧ g x < b.Nodes := by
  have := strat_lt hs hx
  have := h x
  omega

def gap (n : Nat) (s g : Nat → Int) : Nat := ((List.range n).map (fun x => (s x - g x).toNat)).sum
theorem sum_le_map {l : List Nat} {f g : Nat → Nat} (h : ∀ x ∈ l, f x ≤ g x) : (l.map f).sum ≤ (l.map g).sum := by
  induction l with
  | nil => simp
  | cons a l ih =>
    have h1 := h a (by simp)
    have h2 := ih (fun x hx => h x (by simp [hx]))
    simp only [List.map_cons, List.sum_cons]
    omega
theorem sum_lt_map {l : List Nat} {f g : Nat → Nat} {y : Nat} (h : ∀ x ∈ l, f x ≤ g x) (hy : y ∈ l) (hlt : f y < g y) : (l.map f).sum < (l.map g).sum := by
  induction l with
  | nil => cases hy
  | cons a l ih =>
    have h1 := h a (by simp)
    have h2 := sum_le_map (f := f) (g := g) (l := l) (fun x hx => h x (by simp [hx]))
    simp only [List.map_cons, List.sum_cons]
    rcases List.mem_cons.1 hy with e | hy
    · subst e; omega
    · have := ih (fun x hx => h x (by simp [hx])) hy
      omega
theorem gap_upd {n x : Nat} {s g : Nat → Int} {v : Int} (hx : x < n) (h1 : g x < v) (h2 : v ≤ s x) : gap n s (upd g x v) + 1 ≤ gap n s g := by
  unfold gap
  refine sum_lt_map (y := x) (fun z _ => ?_) (by simpa using hx) ?_
  · unfold upd
    split
    · rename_i e; subst e; omega
    · omega
  · rw [upd_self]; omega

def PassE (b : Beliefs) (g g2 : Nat → Int) (more : Bool) (k : Nat) (n : Nat) : Prop :=
  gap n (strat b) g2 ≤ gap n (strat b) g ∧ (more = true → gap n (strat b) g2 + 1 ≤ gap n (strat b) g) ∧ (more = false → g2 = g ∧ ∀ i r, i < k → b.Reasons[i]? = some r → SolR r g)
theorem PassE.zero (b : Beliefs) (g : Nat → Int) (n : Nat) : PassE b g g false 0 n := ⟨Nat.le_refl _, (fun h => by simp at h), fun _ => ⟨rfl, fun i r hi => absurd hi (Nat.not_lt_zero i)⟩⟩
theorem PassE.up {b : Beliefs} {g g2 : Nat → Int} {more : Bool} {k n x : Nat} {v : Int} (h : PassE b g g2 more k n) (hx : x < n) (h1 : g2 x < v) (h2 : v ≤ strat b x) (m : Nat) : PassE b g (upd g2 x v) true m n := by
  have := gap_upd hx h1 h2
  refine ⟨by have := h.1; omega, fun _ => by have := h.1; omega, fun e => by cases e⟩
theorem PassE.keep {b : Beliefs} {g g2 : Nat → Int} {more : Bool} {k n : Nat} {r : Reason} {v : Int} (h : PassE b g g2 more k n) (hr : b.Reasons[k]? = some r) (hv : v ≤ g2 r.For.toNat) (hi : ∀ i, i < r.In.length → ∀ y, r.In[i]? = some y → g2 y.toNat ≤ v) (ho : ∀ i, i < r.Out.length → ∀ y, r.Out[i]? = some y → g2 y.toNat + 1 ≤ v) : PassE b g g2 more (k + 1) n := by
  refine ⟨h.1, h.2.1, fun e => ?_⟩
  obtain ⟨e2, h3⟩ := h.2.2 e
  refine ⟨e2, fun i r' hi' hr' => ?_⟩
  by_cases hk : i = k
  · subst hk
    rw [hr] at hr'
    simp only [Option.some.injEq] at hr'
    subst hr'
    rw [← e2]
    refine ⟨fun y hy => ?_, fun y hy => ?_⟩
    · obtain ⟨j, hj⟩ := List.getElem?_of_mem hy
      have := hi j (lt_of_some hj) y hj
      omega
    · obtain ⟨j, hj⟩ := List.getElem?_of_mem hy
      have := ho j (lt_of_some hj) y hj
      omega
  · exact h3 i r' (by omega) hr'
theorem PassE.sol {b : Beliefs} {g g2 : Nat → Int} {more : Bool} {k n : Nat} (h : PassE b g g2 more k n) (hk : b.Reasons.length ≤ k) (hg : StG b g2) : more = false → Sol b g2 := by
  intro e
  obtain ⟨e2, h3⟩ := h.2.2 e
  refine ⟨fun x => (hg x).1, fun r hr => ?_⟩
  obtain ⟨i, hi⟩ := List.getElem?_of_mem hr
  rw [e2]
  exact h3 i r (by have := lt_of_some hi; omega) hi
theorem strata_done {b : Beliefs} {g : Nat → Int} {n : Nat} (hg : StG b g) (h : Sol b g) : vec n g = vec n (strat b) := vec_congr fun x _ => by
  have := strat_le h x
  have := (hg x).2
  omega

/-! ### the reference's passes -/
def PassI (b : Beliefs) (g g2 : Nat → Int) (k : Nat) : Prop := (∀ x, g x ≤ g2 x) ∧ ∀ i r, i < k → b.Reasons[i]? = some r → (∀ y ∈ r.In, g y.toNat ≤ g2 r.For.toNat) ∧ (∀ y ∈ r.Out, g y.toNat + 1 ≤ g2 r.For.toNat)
theorem PassI.zero (b : Beliefs) (g : Nat → Int) : PassI b g g 0 := ⟨fun _ => Int.le_refl _, fun i r hi => by omega⟩
theorem PassI.up {b : Beliefs} {g g2 : Nat → Int} {k x : Nat} {v : Int} (h : PassI b g g2 k) (hv : g2 x ≤ v) : PassI b g (upd g2 x v) k := by
  have key : ∀ z, g2 z ≤ upd g2 x v z := fun z => by
    unfold upd
    split
    · rename_i e; subst e; exact hv
    · exact Int.le_refl _
  refine ⟨fun z => Int.le_trans (h.1 z) (key z), fun i r hi hr => ?_⟩
  obtain ⟨h1, h2⟩ := h.2 i r hi hr
  exact ⟨fun y hy => Int.le_trans (h1 y hy) (key _), fun y hy => Int.le_trans (h2 y hy) (key _)⟩
theorem PassI.next {b : Beliefs} {g g2 : Nat → Int} {k : Nat} {r : Reason} (h : PassI b g g2 k) (hr : b.Reasons[k]? = some r) (hi : ∀ i, i < r.In.length → ∀ y, r.In[i]? = some y → g y.toNat ≤ g2 r.For.toNat) (ho : ∀ i, i < r.Out.length → ∀ y, r.Out[i]? = some y → g y.toNat + 1 ≤ g2 r.For.toNat) : PassI b g g2 (k + 1) := by
  refine ⟨h.1, fun i r' hi' hr' => ?_⟩
  by_cases hk : i = k
  · subst hk
    rw [hr] at hr'
    simp only [Option.some.injEq] at hr'
    subst hr'
    refine ⟨fun y hy => ?_, fun y hy => ?_⟩
    · obtain ⟨j, hj⟩ := List.getElem?_of_mem hy
      exact hi j (lt_of_some hj) y hj
    · obtain ⟨j, hj⟩ := List.getElem?_of_mem hy
      exact ho j (lt_of_some hj) y hj
  · exact h.2 i r' (by omega) hr'
noncomputable def fin (n : Nat) (b : Beliefs) (g : Nat → Int) : Nat := cnt n (fun x => decide (g x = strat b x))
theorem pass_fin {b : Beliefs} {n : Nat} (hn : b.Nodes = n) (ho : okB b = true) (hs : HasSol b) {g g2 : Nat → Int} (hg : StG b g) (hg2 : StG b g2) (h : PassI b g g2 b.Reasons.length) {k : Nat} (hk : k ≤ fin n b g ∨ n ≤ fin n b g) : k + 1 ≤ fin n b g2 ∨ n ≤ fin n b g2 := by
  have mono : ∀ x, x < n → decide (g x = strat b x) = true → decide (g2 x = strat b x) = true := fun x _ hx => by
    simp only [decide_eq_true_eq] at hx ⊢
    have := h.1 x
    have := (hg2 x).2
    omega
  by_cases hall : n ≤ fin n b g
  · right
    exact Nat.le_trans hall (cnt_mono mono)
  · have hk : k ≤ fin n b g := hk.resolve_right hall
    left
    have ⟨x, hx, h1, h2⟩ : ∃ x, x < n ∧ g x ≠ strat b x ∧ g2 x = strat b x := by
      refine Classical.byContradiction fun hno => hall ?_
      have hno : ∀ x, x < n → g x ≠ strat b x → g2 x ≠ strat b x := fun x hx h1 h2 => hno ⟨x, hx, h1, h2⟩
      unfold fin
      rw [cnt_all]
      · exact Nat.le_refl _
      · intro x hx
        rw [decide_eq_true_eq]
        refine Classical.byContradiction fun hne => ?_
        have hsol : Sol b (fun x => if g x = strat b x then strat b x else strat b x - 1) := by
          refine ⟨fun x => ?_, fun r hr => ?_⟩
          · simp only
            have := hg x
            split <;> omega
          · obtain ⟨i, hi⟩ := List.getElem?_of_mem hr
            have hp := h.2 i r (lt_of_some hi) hi
            have hF := isR_for (okB_m ho hr)
            have hss := (strat_sol hs).2 r hr
            have hu : g r.For.toNat ≠ strat b r.For.toNat → g2 r.For.toNat ≤ strat b r.For.toNat - 1 := fun e => by
              have := hno r.For.toNat (by omega) e
              have := (hg2 r.For.toNat).2
              omega
            refine ⟨fun y hy => ?_, fun y hy => ?_⟩
            · have h1 := hp.1 y hy
              have h2 := hss.1 y hy
              simp only
              by_cases e1 : g r.For.toNat = strat b r.For.toNat
              · rw [if_pos e1]
                split <;> omega
              · rw [if_neg e1]
                have := hu e1
                split <;> omega
            · have h1 := hp.2 y hy
              have h2 := hss.2 y hy
              simp only
              by_cases e1 : g r.For.toNat = strat b r.For.toNat
              · rw [if_pos e1]
                split <;> omega
              · rw [if_neg e1]
                have := hu e1
                split <;> omega
        have := strat_le hsol x
        simp only [if_neg hne] at this
        omega
    have := cnt_lt (n := n) (y := x) (f := fun x => decide (g x = strat b x)) (g := fun x => decide (g2 x = strat b x)) mono hx (by simpa using h1) (by simpa using h2)
    unfold fin at hk ⊢
    omega
theorem fin_done {b : Beliefs} {n : Nat} {g : Nat → Int} (h : n ≤ fin n b g) : vec n g = vec n (strat b) := vec_congr fun x hx => by
  have := all_of_cnt h x hx
  simpa using this
noncomputable def strataOf (b : Beliefs) : List Int := if isStrat b then vec b.Nodes.toNat (strat b) else []
theorem strataOf_t {b : Beliefs} (h : isStrat b = true) : strataOf b = vec b.Nodes.toNat (strat b) := by unfold strataOf; rw [if_pos h]
theorem strataOf_f {b : Beliefs} (h : isStrat b = false) : [] = strataOf b := by unfold strataOf; rw [h]; rfl
theorem strataOf_len {b : Beliefs} : (strataOf b).length ≤ 24 := by
  cases h : isStrat b with
  | false => rw [← strataOf_f h]; simp
  | true =>
    rw [strataOf_t h, vec_len]
    have := isBeliefs_nodes (strat_b h)
    omega
end Go.Sy
