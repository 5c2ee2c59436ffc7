/-
  Least repairs: what they are, and what the laws on repairs ask.
  Conditions: those that each theorem states.
-/
import Derived.Test.YtkdghbglefhcjaaRp
import Derived.Test.YtkdghbglefhcjaaCas
namespace Go.Sy
open Go
theorem bitS_nat' {t i : Nat} (ht : t < 9223372036854775808) : bitS (t : Int) i = t.testBit i := by
  by_cases hi : i < 64
  · exact bitS_nat ht hi
  · have e0 : t.testBit i = false := by
      apply Nat.testBit_lt_two_pow
      exact Nat.lt_of_lt_of_le ht (Nat.le_trans (by decide : 9223372036854775808 ≤ 2 ^ 64) (Nat.pow_le_pow_right (by omega) (by omega)))
    have e1 : shrZ (t : Int) i = 0 := by
      unfold shrZ
      rw [Nat.min_eq_right (by omega)]
      have : ((t : Int)) / ((2 : Int) ^ 64) = ((t / 2 ^ 64 : Nat) : Int) := by simp
      rw [this, Nat.div_eq_of_lt (by omega)]; rfl
    unfold bitS
    rw [e0, e1]; rfl
theorem chs_cons (a : Int) (l : List Int) {s : Nat} (hs : s < 9223372036854775808) : chs (a :: l) (s : Int) = (if s.testBit 0 then [a] else []) ++ chs l ((s / 2 : Nat) : Int) := by
  unfold chs
  rw [keep_cons, bitS_nat' hs]
  congr 2
  funext i
  rw [bitS_nat' hs, bitS_nat' (by omega), Nat.testBit_succ]
theorem sub_mask {x l : List Int} (h : List.Sublist x l) : l.length ≤ 60 → ∃ t : Nat, t < 2 ^ l.length ∧ chs l (t : Int) = x := by
  induction h with
  | slnil => exact fun _ => ⟨0, by simp, rfl⟩
  | cons a h ih =>
    rename_i l1 l2
    intro hl
    simp only [List.length_cons] at hl
    obtain ⟨t, ht, e⟩ := ih (by omega)
    have hb : 2 ^ l2.length ≤ 2 ^ 60 := Nat.pow_le_pow_right (by omega) (by omega)
    refine ⟨2 * t, by rw [List.length_cons, Nat.pow_succ]; omega, ?_⟩
    rw [chs_cons a l2 (by omega)]
    have h0 : (2 * t).testBit 0 = false := by simp
    have h1 : 2 * t / 2 = t := by omega
    rw [h0, h1, e]; rfl
  | cons_cons a h ih =>
    rename_i l1 l2
    intro hl
    simp only [List.length_cons] at hl
    obtain ⟨t, ht, e⟩ := ih (by omega)
    have hb : 2 ^ l2.length ≤ 2 ^ 60 := Nat.pow_le_pow_right (by omega) (by omega)
    refine ⟨2 * t + 1, by rw [List.length_cons, Nat.pow_succ]; omega, ?_⟩
    rw [chs_cons a l2 (by omega)]
    have h0 : (2 * t + 1).testBit 0 = true := by simp
    have h1 : (2 * t + 1) / 2 = t := by omega
    rw [h0, h1, e]; rfl
section
variable {b : Beliefs} {bad free x : List Int}
theorem mem_sets (hc : isCase b bad free = true) {s : Nat} : (s : Int) ∈ setsR b bad free ↔ s < 2 ^ free.length ∧ okS b bad free (s : Int) = true := by
  unfold setsR fidZ
  rw [fidx_mem, shl_two (case_fl hc)]
  constructor
  · rintro ⟨y, h1, h2, h3⟩
    obtain rfl : s = y := by omega
    exact ⟨h1, h2⟩
  · rintro ⟨h1, h2⟩
    exact ⟨s, h1, h2, rfl⟩
theorem mem_least (hc : isCase b bad free = true) : x ∈ leastR b bad free ↔ ∃ s : Nat, s < 2 ^ free.length ∧ okS b bad free (s : Int) = true ∧ lsB (setsR b bad free) (s : Int) = true ∧ x = chs free (s : Int) := by
  rw [← leastR_t hc, (sortR_perm _).mem_iff]
  unfold leastU
  rw [List.mem_map]
  constructor
  · rintro ⟨z, hz, rfl⟩
    rw [List.mem_filter] at hz
    obtain ⟨s, _, rfl⟩ := fidZ_at hz.1
    have := (mem_sets hc).1 hz.1
    exact ⟨s, this.1, this.2, hz.2, rfl⟩
  · rintro ⟨s, h1, h2, h3, rfl⟩
    exact ⟨(s : Int), List.mem_filter.2 ⟨(mem_sets hc).2 ⟨h1, h2⟩, h3⟩, rfl⟩
theorem chs_sub (free : List Int) (s : Int) : List.Sublist (chs free s) free := keep_sub free _
theorem okS_iff {s : Int} : okS b bad free s = true ↔ badL (dropR b (chs free s)) bad = [] := by
  unfold okS
  rw [beq_iff_eq]
  constructor
  · intro h; exact List.eq_nil_of_length_eq_zero (by omega)
  · intro h; rw [h]; rfl
theorem rep_of (hc : isCase b bad free = true) (hs : List.Sublist x free) (h : badL (dropR b x) bad = []) : isRep b bad free x = true := by
  have h1 : asc x (b.Reasons.length : Int) = true := asc_sub (case_fa hc) hs
  have h2 : x.all (fun z => free.contains z) = true := List.all_eq_true.2 fun z hz => List.contains_iff_mem.2 (hs.subset hz)
  unfold isRep
  rw [hc, h1, h2, h]
  rfl
theorem least_rep (hc : isCase b bad free = true) (h : x ∈ leastR b bad free) : isRep b bad free x = true := by
  obtain ⟨s, _, h2, _, rfl⟩ := (mem_least hc).1 h
  exact rep_of hc (chs_sub _ _) (okS_iff.1 h2)
theorem least_sub (hc : isCase b bad free = true) (h : x ∈ leastR b bad free) : List.Sublist x free := by
  obtain ⟨s, _, _, _, rfl⟩ := (mem_least hc).1 h
  exact chs_sub _ _
theorem least_none {y : List Int} (hc : isCase b bad free = true) (h : x ∈ leastR b bad free) (hy : List.Sublist y x) (hl : y.length < x.length) : isRep b bad free y = false := by
  rw [Bool.eq_false_iff]
  intro hr
  have hbad := rep_bad hr
  have hfl := case_fl hc
  have hnd := asl_nd (asc_asl (case_fa hc))
  obtain ⟨s, h1, h2, h3, rfl⟩ := (mem_least hc).1 h
  obtain ⟨t, ht, e⟩ := sub_mask (hy.trans (chs_sub _ _)) (by omega)
  subst e
  have hts : (t : Int) ∈ setsR b bad free := (mem_sets hc).2 ⟨ht, okS_iff.2 hbad⟩
  have hp : prt (chs free (t : Int)) (chs free (s : Int)) = true := prt_iff.2 fun z hz => hy.subset hz
  rw [prt_bits hnd (by omega) h1 ht] at hp
  have := List.all_eq_true.1 h3 _ hts
  unfold lsO at this
  rw [hp] at this
  simp only [Bool.not_true, Bool.or_false, beq_iff_eq] at this
  have e : t = s := by omega
  subst e
  omega
theorem del_sub (x : List Int) (k : Nat) : List.Sublist (x.take k ++ x.drop (k + 1)) x := by
  rw [← List.eraseIdx_eq_take_drop_succ]; exact List.eraseIdx_sublist x k
theorem least_del {k : Nat} (hc : isCase b bad free = true) (h : x ∈ leastR b bad free) (hk : k < x.length) : isRep b bad free (x.take k ++ x.drop (k + 1)) = false :=
  least_none hc h (del_sub x k) (by rw [List.length_append, List.length_take, List.length_drop]; omega)
theorem least_fst {x0 : List Int} {i : Nat} (h0 : (leastR b bad free)[0]? = some x0) (hi : (leastR b bad free)[i]? = some x) : x0.length ≤ x.length := by
  cases e : isCase b bad free with
  | false => rw [← leastR_f e] at h0; simp at h0
  | true =>
    rw [← leastR_t e] at h0 hi
    by_cases hz : i = 0
    · subst hz
      rw [h0] at hi
      cases hi; omega
    · have hp := sortR_pw (leastU b bad free)
      rw [List.pairwise_iff_getElem] at hp
      obtain ⟨l0, g0⟩ := List.getElem?_eq_some_iff.1 h0
      obtain ⟨l1, g1⟩ := List.getElem?_eq_some_iff.1 hi
      have := hp 0 i l0 l1 (by omega)
      rw [g0, g1] at this
      unfold ltL at this
      split at this
      · omega
      · simp only [decide_eq_false_iff_not] at this; omega
theorem dropR_nil (b : Beliefs) : dropR b [] = b := by
  unfold dropR
  have : notIn [] = fun _ => true := by funext i; rfl
  rw [this, keep_all (fun _ _ => rfl)]
theorem case_none (hc : isCase b bad free = true) : isCase b bad [] = true := by
  have h1 := case_s hc
  have h2 : asc bad b.Nodes = true := case_a hc
  unfold isCase
  rw [h1, h2]; rfl
theorem none_rep (hc : isCase b bad free = true) : isRep b bad free [] = decide (clashes b bad = []) := by
  rw [← clashes_t (case_none hc), Bool.eq_iff_iff, decide_eq_true_eq]
  constructor
  · intro h
    have := rep_bad h
    rwa [dropR_nil] at this
  · intro h
    exact rep_of hc (List.nil_sublist _) (by rw [dropR_nil]; exact h)
theorem none_yes (hc : isCase b bad free = true) (h : clashes b bad = []) : leastR b bad free = [[]] := by
  have hr : isRep b bad free [] = true := by rw [none_rep hc, h]; rfl
  have hall : ∀ x ∈ leastR b bad free, x = [] := fun x hx => by
    cases x with
    | nil => rfl
    | cons a l =>
      have := least_none hc hx (List.nil_sublist _) (by simp)
      rw [hr] at this; cases this
  have hmem : [] ∈ leastR b bad free := by
    rw [mem_least hc]
    have hbad : badL (dropR b []) bad = [] := rep_bad hr
    have hfl := case_fl hc
    obtain ⟨t, ht, e⟩ := sub_mask (List.nil_sublist free) (by omega)
    refine ⟨t, ht, okS_iff.2 (by rw [e]; exact hbad), ?_, e.symm⟩
    unfold lsB
    rw [List.all_eq_true]
    intro s hs
    obtain ⟨u, _, rfl⟩ := fidZ_at hs
    have hu := ((mem_sets hc).1 hs).1
    have hnd := asl_nd (asc_asl (case_fa hc))
    unfold lsO
    cases hp : (andZ (u : Int) (t : Int) == (u : Int)) with
    | false => simp
    | true =>
      rw [← prt_bits hnd (by omega) ht hu, e, prt_iff] at hp
      have hz : chs free (u : Int) = [] := by
        cases hcu : chs free (u : Int) with
        | nil => rfl
        | cons a l => have := hp a (by rw [hcu]; simp); cases this
      have : u = t := chs_inj hnd (by omega) hu ht (by rw [hz, e])
      rw [this]; simp
  have hnd2 : (leastR b bad free).Nodup := by
    rw [← leastR_t hc, (sortR_perm _).nodup_iff]
    unfold leastU
    have hnd := asl_nd (asc_asl (case_fa hc))
    have hfl := case_fl hc
    rw [List.Nodup, List.pairwise_map]
    refine List.Pairwise.imp_of_mem (fun {a c} ha hc2 (hne : a ≠ c) e => ?_) ((fidZ_nd _ _ : (setsR b bad free).Nodup).filter _)
    obtain ⟨s, _, rfl⟩ := fidZ_at (List.mem_filter.1 ha).1
    obtain ⟨t, _, rfl⟩ := fidZ_at (List.mem_filter.1 hc2).1
    exact hne (by rw [chs_inj hnd (by omega) ((mem_sets hc).1 (List.mem_filter.1 ha).1).1 ((mem_sets hc).1 (List.mem_filter.1 hc2).1).1 e])
  cases hl : leastR b bad free with
  | nil => rw [hl] at hmem; cases hmem
  | cons y l =>
    rw [hl] at hall hnd2
    have hy := hall y (by simp)
    subst hy
    cases l with
    | nil => rfl
    | cons z l =>
      have hz := hall z (by simp)
      subst hz
      simp at hnd2
theorem none_no (hc : isCase b bad free = true) (h : clashes b bad ≠ []) {x0 : List Int} {i : Nat} (hx : (leastR b bad free)[i]? = some x0) : x0 ≠ [] := by
  intro e
  subst e
  have := least_rep hc (List.mem_of_getElem? hx)
  rw [none_rep hc, decide_eq_true_eq] at this
  exact h this
theorem none_blm (hc : isCase b bad free = true) (h : clashes b bad = []) : blamedR b bad free = [] := by
  unfold blamedR
  rw [List.filter_eq_nil_iff]
  intro z _
  unfold blm
  rw [none_yes hc h]
  simp
theorem rep_clash (hc : isCase b bad free = true) (h : hasR b bad free = true) : clashes (repB b bad free) bad = [] := by
  rw [← repB_t h]
  cases e : isCase (dropR b (fstR b bad free)) bad [] with
  | false => exact (clashes_f e).symm
  | true =>
    rw [← clashes_t e]
    have hm : fstR b bad free ∈ leastR b bad free := by
      unfold hasR at h
      rw [decide_eq_true_eq] at h
      unfold fstR
      cases hl : leastR b bad free with
      | nil => rw [hl] at h; simp at h
      | cons y l => simp
    exact rep_bad (least_rep hc hm)
theorem blamed_part (b : Beliefs) (bad free : List Int) : (blamedR b bad free).all (fun x => free.contains x) = true :=
  List.all_eq_true.2 fun z hz => List.contains_iff_mem.2 (List.mem_filter.1 hz).1
theorem hasR_len : hasR b bad free = decide ((0 : Int) < ((leastR b bad free).length : Nat)) := by
  unfold hasR
  rw [Bool.eq_iff_iff, decide_eq_true_eq, decide_eq_true_eq]
  omega
theorem fst_0 {x0 : List Int} (h : (leastR b bad free)[0]? = some x0) : fstR b bad free = x0 := (fst_y h).symm
theorem nc_cases (hc : isCase b bad free = true) : (clashes b bad = [] ∧ ((((clashes b bad).length : Nat) : Int) == 0) = true ∧ isRep b bad free [] = true ∧ leastR b bad free = [[]] ∧ blamedR b bad free = []) ∨
    (clashes b bad ≠ [] ∧ ((((clashes b bad).length : Nat) : Int) == 0) = false ∧ isRep b bad free [] = false ∧ ∀ x0, (leastR b bad free)[0]? = some x0 → ((x0.length : Nat) : Int) ≠ 0) := by
  by_cases h : clashes b bad = []
  · refine .inl ⟨h, by rw [h]; rfl, by rw [none_rep hc, h]; rfl, none_yes hc h, none_blm hc h⟩
  · refine .inr ⟨h, ?_, by rw [none_rep hc]; simpa using h, fun x0 hx e => ?_⟩
    · rw [Bool.eq_false_iff]
      intro e
      have e2 : (((clashes b bad).length : Nat) : Int) = 0 := by simpa using e
      exact h (List.eq_nil_of_length_eq_zero (by omega))
    · exact none_no hc h hx (List.eq_nil_of_length_eq_zero (by omega))
end
end Go.Sy
