/-
  Plain facts behind the law FnFounded, and on drawn beliefs of any kind.
  Conditions: those that each theorem states.
-/
import Derived.Test.YtkdghbglefhcjaaLw2
import Derived.Test.YtkdghbglefhcjaaGraph
namespace Go.Sy
/-! ### sizes -/
theorem szRs_app (a b : List Reason) : szRs (a ++ b) = szRs a + szRs b := by unfold szRs; simp; omega
theorem szRs_take (a : List Reason) (k : Nat) : szRs (a.take k) ≤ szRs a := by
  have h := szRs_app (a.take k) (a.drop k)
  rw [List.take_append_drop] at h
  omega
theorem szRs_rep (k : Nat) : szRs (List.replicate k (⟨0, [], []⟩ : Reason)) = k := by
  unfold szRs
  simp [szR]
theorem any_a {b : Beliefs} (h : drawn b 6 true) (n : Int) : szB ⟨n, b.Reasons⟩ ≤ 2000 := by
  have := drawn_szs h (by omega)
  show szRs b.Reasons ≤ 2000
  omega
theorem any_b {b : Beliefs} (h : drawn b 6 true) (n x y z : Int) : szB ⟨n, b.Reasons ++ [⟨x, [y, z], []⟩]⟩ ≤ 2000 := by
  have := drawn_szs h (by omega)
  show szRs (b.Reasons ++ _) ≤ 2000
  rw [szRs_app]
  have e : szRs [(⟨x, [y, z], []⟩ : Reason)] = 3 := rfl
  omega
theorem any_c {b : Beliefs} (h : drawn b 6 true) (n : Int) {k : Nat} (hk : k ≤ 60) (j : Nat) : szB ⟨n, (b.Reasons ++ List.replicate k (⟨0, [], []⟩ : Reason)).take j⟩ ≤ 2000 := by
  have := drawn_szs h (by omega)
  show szRs _ ≤ 2000
  refine Nat.le_trans (szRs_take _ _) ?_
  rw [szRs_app, szRs_rep]
  omega
theorem any_d {b : Beliefs} (h : drawn b 6 true) : szB b ≤ 2000 := by
  have := drawn_sz h (by omega)
  omega
/-! ### whatever has a foundation is in -/
theorem hvT_iff {b : Beliefs} {l : List Int} {k y : Nat} : hvT b l k y = true ↔ ∃ j s, j < k ∧ l[j]? = some s ∧ (rsAt b s).For.toNat = y := by
  unfold hvT
  rw [List.any_eq_true]
  constructor
  · rintro ⟨s, hs, e⟩
    obtain ⟨j, hj⟩ := List.getElem?_of_mem hs
    rw [List.getElem?_take] at hj
    split at hj
    · exact ⟨j, s, by assumption, hj, by simpa using e⟩
    · cases hj
  · rintro ⟨j, s, hj, hs, e⟩
    exact ⟨s, List.mem_of_getElem? (i := j) (by rw [List.getElem?_take, if_pos hj]; exact hs), by simpa using e⟩
theorem rs_mem {b : Beliefs} {s : Int} (h : 0 ≤ s ∧ s < b.Reasons.length) : ∃ r, b.Reasons[s.toNat]? = some r ∧ rsAt b s = r := by
  obtain ⟨r, hr⟩ := some_of_lt (l := b.Reasons) (i := s.toNat) (by omega)
  exact ⟨r, hr, rsAt_of hr⟩
theorem fnd_all {b : Beliefs} (hst : isStrat b = true) {l : List Int} (hix : ∀ s ∈ l, 0 ≤ s ∧ s < b.Reasons.length) (hok : ∀ k, k < l.length → fOk b l k = true) : ∀ (n k : Nat) (s : Int), k < n → l[k]? = some s → lbs b (rsAt b s).For.toNat = true := by
  intro n
  induction n with
  | zero => intro k s h; omega
  | succ n ih =>
    intro k s hk hs
    have h1 := hok k (lt_of_some hs)
    unfold fOk at h1
    rw [hs] at h1
    simp only [Bool.and_eq_true, List.all_eq_true] at h1
    obtain ⟨r, hr, e⟩ := rs_mem (hix s (List.mem_of_getElem? hs))
    rw [e] at h1 ⊢
    refine decide_eq_true ((rnds_facts (isB_ok2 (strat_b hst)) (strat_has hst)).f4 r (List.mem_of_getElem? hr) ⟨fun y hy => ?_, fun y hy => ?_⟩)
    · obtain ⟨j, s', hj, hs', e'⟩ := hvT_iff.1 (h1.1 y hy)
      have := ih j s' (by omega) hs'
      rw [e'] at this
      exact of_decide_eq_true this
    · have h2 := h1.2 y hy
      simp only [Bool.not_eq_true'] at h2
      have := of_decide_eq_false h2
      omega
theorem fo_in {b : Beliefs} {x : Int} {l : List Int} (h : isFnd b x l = true) : isStrat b = true ∧ 0 ≤ x ∧ x < b.Nodes ∧ lbs b x.toNat = true := by
  unfold isFnd at h
  simp only [Bool.and_eq_true, decide_eq_true_eq, List.all_eq_true, List.mem_range] at h
  obtain ⟨⟨⟨hst, hl⟩, hix, hok⟩, hx⟩ := h
  have hix' : ∀ s ∈ l, 0 ≤ s ∧ s < b.Reasons.length := fun s hs => by
    have := hix s hs
    unfold ixOk at this
    simpa using this
  obtain ⟨s, hs⟩ := some_of_lt (l := l) (i := l.length - 1) (by omega)
  have h1 := fnd_all hst hix' hok l.length (l.length - 1) s (by omega) hs
  rw [hs] at hx
  simp only [Option.getD_some] at hx
  rw [hx] at h1
  obtain ⟨r, hr, e⟩ := rs_mem (hix' s (List.mem_of_getElem? hs))
  have hF := isR_for (isB_r (strat_b hst) hr)
  rw [e] at hx
  exact ⟨hst, by omega, by omega, h1⟩
/-! ### what is in has a foundation -/
theorem hvT_pre {b : Beliefs} {a e : List Int} {k y : Nat} (hk : k ≤ a.length) : hvT b (a ++ e) k y = hvT b a k y := by
  unfold hvT
  rw [List.take_append_of_le_length hk]
theorem fOk_pre {b : Beliefs} {a e : List Int} {k : Nat} (hk : k < a.length) : fOk b (a ++ e) k = fOk b a k := by
  unfold fOk
  rw [List.getElem?_append_left hk]
  cases a[k]? with
  | none => rfl
  | some s => simp only [hvT_pre (Nat.le_of_lt hk)]
def WFa (b : Beliefs) (a : List Int) : Prop := ∀ k, k < a.length → fOk b a k = true
theorem fnd_grow {b : Beliefs} (hst : isStrat b = true) : ∀ (f : Nat) (x : Int) (acc : List Int), 0 ≤ x → x < b.Nodes → rnds b x.toNat < (f : Int) → WFa b acc →
    (∃ e, fndG b (suppOf b) f x acc = acc ++ e) ∧ WFa b (fndG b (suppOf b) f x acc) ∧ (0 ≤ rnds b x.toNat → 0 ≤ suppOf b x ∧ suppOf b x ∈ fndG b (suppOf b) f x acc) := by
  intro f
  induction f with
  | zero =>
    intro x acc h0 h1 hf hw
    exact ⟨⟨[], by simp [fndG]⟩, hw, fun h => by omega⟩
  | succ f ih =>
    intro x acc h0 h1 hf hw
    have hb := strat_b hst
    have ho := isB_ok2 hb
    have hbn := okB_nodes ho
    obtain ⟨x', rfl⟩ : ∃ x' : Nat, x = (x' : Int) := ⟨x.toNat, by omega⟩
    have hrl : (roundsOf b)[x']? = some (rnds b x') := by rw [roundsOf_t hst]; exact vec_get (by omega)
    have hsup := lw_sup hst h1 hrl
    have ex : ((x' : Int)).toNat = x' := by omega
    rw [ex] at hf ⊢
    unfold fndG
    by_cases hc : suppOf b x' < 0 ∨ acc.contains (suppOf b x') = true
    · rw [if_pos hc]
      refine ⟨⟨[], by simp⟩, hw, fun h => ?_⟩
      have h2 := hsup.2 h
      rcases hc with hc | hc
      · omega
      · exact ⟨h2, List.contains_iff_mem.1 hc⟩
    · rw [if_neg hc]
      have hs0 : 0 ≤ suppOf b x' := by
        refine Classical.byContradiction fun h => hc (.inl (by omega))
      have hlt := lw_supr hst hs0
      obtain ⟨r, hr, hre⟩ := rs_mem ⟨hs0, hlt⟩
      have hfor := lw_supf hs0 hr
      have hR := isB_r hb hr
      have hin : inOf b (suppOf b x') = r.In := by unfold inOf; rw [hr]
      rw [hin]
      have hval : ∀ y ∈ r.In, 0 ≤ y ∧ y < b.Nodes ∧ 0 ≤ rnds b y.toNat ∧ rnds b y.toNat < (f : Int) := fun y hy => by
        have h2 := asc_m (isR_in hR) hy
        have h3 := hasFor_in hfor hy
        have e1 : atZ (roundsOf b) y.toNat = rnds b y.toNat := by rw [roundsOf_t hst]; exact atZ_vec (by omega)
        have e2 : atZ (roundsOf b) x' = rnds b x' := atZ_of hrl
        rw [e1, ex, e2] at h3
        refine ⟨h2.1, h2.2, h3.1, ?_⟩
        omega
      have fold : ∀ (l : List Int) (a : List Int), (∀ y ∈ l, y ∈ r.In) → WFa b a → (∃ e, l.foldl (fun a y => fndG b (suppOf b) f y a) a = a ++ e) ∧ WFa b (l.foldl (fun a y => fndG b (suppOf b) f y a) a) ∧ ∀ y ∈ l, 0 ≤ suppOf b y ∧ suppOf b y ∈ l.foldl (fun a y => fndG b (suppOf b) f y a) a := by
        intro l
        induction l with
        | nil => exact fun a _ ha => ⟨⟨[], by simp⟩, ha, fun y hy => by cases hy⟩
        | cons z l ihl =>
          intro a hl ha
          obtain ⟨hz0, hz1, hz2, hz3⟩ := hval z (hl z (by simp))
          obtain ⟨⟨e1, he1⟩, hw1, hm1⟩ := ih z a hz0 hz1 hz3 ha
          obtain ⟨⟨e2, he2⟩, hw2, hm2⟩ := ihl _ (fun y hy => hl y (by simp [hy])) hw1
          simp only [List.foldl_cons]
          refine ⟨⟨e1 ++ e2, by rw [he2, he1, List.append_assoc]⟩, hw2, fun y hy => ?_⟩
          rcases List.mem_cons.1 hy with rfl | hy
          · have := hm1 hz2
            refine ⟨this.1, ?_⟩
            rw [he2]
            exact List.mem_append_left _ this.2
          · exact hm2 y hy
      obtain ⟨⟨e, he⟩, hw2, hm⟩ := fold r.In acc (fun _ h => h) hw
      generalize r.In.foldl (fun a y => fndG b (suppOf b) f y a) acc = a2 at he hw2 hm
      refine ⟨⟨e ++ [suppOf b x'], by rw [he, List.append_assoc]⟩, fun k hk => ?_, fun _ => ⟨hs0, by simp⟩⟩
      rcases Nat.lt_or_ge k a2.length with h | h
      · rw [fOk_pre h]; exact hw2 k h
      · have hk2 : k = a2.length := by simp at hk; omega
        subst hk2
        unfold fOk
        rw [List.getElem?_append_right (Nat.le_refl _)]
        simp only [Nat.sub_self, List.getElem?_cons_zero, Bool.and_eq_true, List.all_eq_true, hre]
        refine ⟨fun y hy => ?_, fun y hy => ?_⟩
        · rw [hvT_pre (Nat.le_refl _), hvT_iff]
          obtain ⟨hy0, hy1, hy2, hy3⟩ := hval y hy
          obtain ⟨hs1, hm1⟩ := hm y hy
          obtain ⟨j, hj⟩ := List.getElem?_of_mem hm1
          obtain ⟨y', rfl⟩ : ∃ y' : Nat, y = (y' : Int) := ⟨y.toNat, by omega⟩
          have hlt1 := lw_supr hst hs1
          obtain ⟨r1, hr1, hre1⟩ := rs_mem ⟨hs1, hlt1⟩
          have hf1 := hasFor_for (lw_supf hs1 hr1)
          exact ⟨j, _, lt_of_some hj, hj, by rw [hre1, hf1]⟩
        · unfold hasFor supL at hfor
          simp only [Bool.and_eq_true, List.all_eq_true] at hfor
          have h2 := hfor.2.2 y hy
          unfold nonL at h2
          have h3 := asc_m (isR_out hR) hy
          have e1 : atZ (roundsOf b) y.toNat = rnds b y.toNat := by rw [roundsOf_t hst]; exact atZ_vec (by omega)
          rw [e1] at h2
          have h4 := of_decide_eq_true h2
          have : lbs b y.toNat = false := decide_eq_false (by omega)
          rw [this]; rfl
theorem fo_len {b : Beliefs} (hst : isStrat b = true) {x : Nat} (hx : (x : Int) < b.Nodes) : decide (0 < (foundOf b x).length) = lbs b x := by
  have hbn := okB_nodes (isB_ok2 (strat_b hst))
  have hrl : (roundsOf b)[x]? = some (rnds b x) := by rw [roundsOf_t hst]; exact vec_get (by omega)
  have hsup := lw_sup hst hx hrl
  by_cases h : 0 ≤ rnds b x
  · have h2 := hsup.2 h
    have h3 := rnds_25 (isB_ok2 (strat_b hst)) (strat_has hst) x
    rw [atZ_vec (by omega)] at h3
    have := (fnd_grow hst 25 x [] (by omega) hx (by simpa using h3) (fun k hk => by simp at hk)).2.2 (by simpa using h)
    have hm := this.2
    have e : lbs b x = true := decide_eq_true h
    rw [e]
    refine decide_eq_true ?_
    show 0 < (foundOf b x).length
    unfold foundOf
    exact List.length_pos_of_mem hm
  · have e : lbs b x = false := decide_eq_false h
    rw [e]
    refine decide_eq_false ?_
    have hn : suppOf b x < 0 := by
      refine Classical.byContradiction fun hh => h (hsup.1 (by omega))
    unfold foundOf
    rw [← fnd_stop (.inl hn)]
    simp
theorem fo_is {b : Beliefs} (hst : isStrat b = true) {x : Nat} (hx : (x : Int) < b.Nodes) : isFnd b x (foundOf b x) = lbs b x := by
  have hbn := okB_nodes (isB_ok2 (strat_b hst))
  have hlen := fo_len hst hx
  have hrl : (roundsOf b)[x]? = some (rnds b x) := by rw [roundsOf_t hst]; exact vec_get (by omega)
  have hsup := lw_sup hst hx hrl
  by_cases h : 0 ≤ rnds b x
  · have e : lbs b x = true := decide_eq_true h
    rw [e] at hlen ⊢
    have hl := of_decide_eq_true hlen
    have h3 := rnds_25 (isB_ok2 (strat_b hst)) (strat_has hst) x
    rw [atZ_vec (by omega)] at h3
    have hg := fnd_grow hst 25 x [] (by omega) hx (by simpa using h3) (fun k hk => by simp at hk)
    have hgood := found_good b x
    have hs0 := hsup.2 h
    have hlast : ∃ a, foundOf b x = a ++ [suppOf b x] := by
      unfold foundOf fndG
      rw [if_neg (by rintro (h1 | h1); (· omega); (· simp at h1))]
      exact ⟨_, rfl⟩
    have hr0 := rs_mem (b := b) (s := suppOf b x) ⟨hs0, lw_supr hst hs0⟩
    obtain ⟨r, hr, hre⟩ := hr0
    have hF := hasFor_for (lw_supf hs0 hr)
    unfold isFnd
    simp only [Bool.and_eq_true, decide_eq_true_eq, List.all_eq_true, List.mem_range]
    refine ⟨⟨⟨hst, hl⟩, fun s hs => ?_, fun k hk => hg.2.1 k hk⟩, ?_⟩
    · have := hgood.2 s hs
      unfold ixOk
      simp only [Bool.and_eq_true, decide_eq_true_eq]
      exact this
    · obtain ⟨a, ha⟩ := hlast
      rw [ha]
      simp only [List.length_append, List.length_cons, List.length_nil]
      rw [List.getElem?_append_right (by omega), show a.length + (0 + 1) - 1 - a.length = 0 from by omega]
      simp only [List.getElem?_cons_zero, Option.getD_some]
      rw [hre, hF]
  · have e : lbs b x = false := decide_eq_false h
    rw [e] at hlen ⊢
    have := of_decide_eq_false hlen
    exact (fnd_n2 (by omega)).symm
theorem lab_at {b : Beliefs} (hst : isStrat b = true) {x : Nat} {v : Bool} (h : (labelsOf b)[x]? = some v) : v = lbs b x := by
  rw [labelsOf_t hst] at h
  exact vec_val h
theorem lab_len {b : Beliefs} (hst : isStrat b = true) : (labelsOf b).length = b.Nodes.toNat := by rw [labelsOf_t hst, vec_len]
end Go.Sy
