/-
  Drawn cases; plain facts behind the law FnCulprits.
  Conditions: those that each theorem states.
-/
import Derived.Test.YtkdghbglefhcjaaLw4
import Derived.Test.YtkdghbglefhcjaaSlc
namespace Go.Sy
open Go Go.RowKit
section
variable {P : Program} {N : Nat} {w0 : World} {H : List Chunk} {L : Fm} {Q : Exit → Act → World → Prop} {o : Oper} {d : Nat} {K : Act → World → Prop}
theorem ccR3 {α β γ : Type} [Gd α] [Gd β] [Gd γ] {c : Chunk} {φ : α → β → γ → Prop} {f : Nat} {as : List Operand} {vs : List Value} {tys : Array TypeId} (hb : hasBody P f = true)
    (ho : o.op = .call ⟨.value (.func f), as.toArray, tys⟩) (ha : evs L as = some vs) (hd : o.dst = some d) (hN : Nat.blt d N = true)
    (hc : ∀ w, St w0 (c :: H) w → Calls P f vs.toArray w (fun e w' => ∃ (x : α) (y : β) (z : γ) (c1 c2 c3 : List Value), φ x y z ∧ e = .returned (.tuple #[Gd.vl α c1, Gd.vl β c2, Gd.vl γ c3]) ∧ St w0 (ov c1 x :: ov c2 y :: ov c3 z :: c :: H) w'))
    (k : ∀ x y z c1 c2 c3, φ x y z → D N w0 (ov c1 x :: ov c2 y :: ov c3 z :: c :: H) ((d, .tuple #[Gd.vl α c1, Gd.vl β c2, Gd.vl γ c3]) :: L) K) : D N w0 (c :: H) L (fun a w => o.wp P a w K Q) :=
  D_call (σ := (α × β × γ) × (List Value × List Value × List Value)) (val := fun s => .tuple #[Gd.vl α s.2.1, Gd.vl β s.2.2.1, Gd.vl γ s.2.2.2]) (H' := fun s => ov s.2.1 s.1.1 :: ov s.2.2.1 s.1.2.1 :: ov s.2.2.2 s.1.2.2 :: c :: H) (J := fun s => φ s.1.1 s.1.2.1 s.1.2.2) hb ho ha hd hN
    (fun w hs => (hc w hs).mono fun _ _ ⟨x, y, z, c1, c2, c3, hp, he, hst⟩ => ⟨((x, y, z), (c1, c2, c3)), he, hp, hst⟩) (fun s hs => k s.1.1 s.1.2.1 s.1.2.2 s.2.1 s.2.2.1 s.2.2.2 hs)
end
theorem asc_pw {l : List Int} {n : Int} : asc l n = true ↔ (∀ x ∈ l, 0 ≤ x ∧ x < n) ∧ l.Pairwise (· < ·) := by
  constructor
  · intro h
    refine ⟨fun x hx => asc_m h hx, ?_⟩
    rw [List.pairwise_iff_getElem]
    intro i j hi hj hij
    have key : ∀ d, ∀ (h : i + d + 1 < l.length), l[i]'hi < l[i + d + 1]'h := by
      intro d
      induction d with
      | zero => intro hh; exact asc_lt h (List.getElem?_eq_getElem hi) (List.getElem?_eq_getElem hh)
      | succ d ih =>
        intro hh
        have h1 := ih (by omega)
        have h2 : l[i + d + 1]'(by omega) < l[i + (d + 1) + 1]'hh := asc_lt h (j := i + d + 1) (List.getElem?_eq_getElem (by omega)) (List.getElem?_eq_getElem hh)
        exact Int.lt_trans h1 h2
    have := key (j - i - 1) (by omega)
    have e : i + (j - i - 1) + 1 = j := by omega
    simpa [e] using this
  · rintro ⟨h1, h2⟩
    rw [asc_iff]
    intro k x hx
    refine ⟨(h1 x (List.mem_of_getElem? hx)).1, (h1 x (List.mem_of_getElem? hx)).2, fun y hk hy => ?_⟩
    rw [List.pairwise_iff_getElem] at h2
    obtain ⟨h3, rfl⟩ := List.getElem?_eq_some_iff.1 hx
    obtain ⟨h4, rfl⟩ := List.getElem?_eq_some_iff.1 hy
    exact h2 (k - 1) k h4 h3 (by omega)
theorem asc_sub {l p : List Int} {n : Int} (h : asc p n = true) (hs : List.Sublist l p) : asc l n = true := by
  rw [asc_pw] at h ⊢
  exact ⟨fun x hx => h.1 x (hs.subset hx), h.2.sublist hs⟩
theorem idxs_asc {α : Type} (p : α → Bool) (l : List α) : asc (idxs p l) l.length = true := by
  rw [asc_pw]
  constructor
  · intro x hx
    unfold idxs idxT at hx
    obtain ⟨i, hi, rfl⟩ := List.mem_map.1 hx
    have := List.mem_range.1 (List.mem_filter.1 hi).1
    omega
  · unfold idxs idxT
    rw [List.pairwise_map]
    refine List.Pairwise.imp (fun {a b} (h : a < b) => by omega) ((List.pairwise_lt_range (n := l.length)).filter _)
theorem idxs_at {α : Type} {p : α → Bool} {l : List α} {y : Int} (h : y ∈ idxs p l) : ∃ x, l[y.toNat]? = some x ∧ p x = true := by
  unfold idxs idxT at h
  obtain ⟨i, hi, rfl⟩ := List.mem_map.1 h
  have h2 := (List.mem_filter.1 hi).2
  split at h2
  · rename_i x hx
    exact ⟨x, by simpa using hx, h2⟩
  · cases h2
theorem sub_no {l p : List Int} {k : Nat} (h : List.Sublist l (p.take k)) : List.Sublist l (p.take (k + 1)) := h.trans (List.take_sublist_take_left (by omega))
theorem sub_yes {l p : List Int} {k : Nat} {x : Int} (h : List.Sublist l (p.take k)) (hx : p[k]? = some x) : List.Sublist (l ++ [x]) (p.take (k + 1)) := by
  rw [take_snoc hx]
  exact List.Sublist.append h (List.Sublist.refl _)
theorem dc_case {b : Beliefs} {bad free : List Int} {k : Nat} (hst : isStrat b = true) (hb : asc bad b.Nodes = true) (hs : List.Sublist free ((idxs isPremise b.Reasons).take k)) (hl : (free.length : Int) ≤ 6) : isCase b bad free = true := by
  have hs2 : List.Sublist free (idxs isPremise b.Reasons) := hs.trans (List.take_sublist _ _)
  have h4 := asc_sub (idxs_asc isPremise b.Reasons) hs2
  unfold isCase
  simp only [Bool.and_eq_true, hst, hb, h4, decide_eq_true_eq, List.all_eq_true]
  refine ⟨⟨⟨⟨trivial, trivial⟩, by omega⟩, trivial⟩, fun x hx => ?_⟩
  obtain ⟨r, hr, hp⟩ := idxs_at (hs2.subset hx)
  rw [premAt_of hr]; exact hp
/-! ### repairs where no absence is a reason -/
theorem keep_at {α : Type} {p : Nat → Bool} {l : List α} {i : Nat} {x : α} (hi : l[i]? = some x) (hp : p i = true) : x ∈ keep p l := by
  unfold keep keepT
  rw [List.mem_filterMap]
  exact ⟨i, List.mem_filter.2 ⟨by rw [List.mem_range]; exact lt_of_some hi, hp⟩, hi⟩
theorem keep_iff {α : Type} {p : Nat → Bool} {l : List α} {x : α} : x ∈ keep p l ↔ ∃ i : Nat, l[i]? = some x ∧ p i = true := by
  constructor
  · intro h
    unfold keep keepT at h
    rw [List.mem_filterMap] at h
    obtain ⟨i, h1, h2⟩ := h
    exact ⟨i, h2, (List.mem_filter.1 h1).2⟩
  · rintro ⟨i, h1, h2⟩
    exact keep_at h1 h2
section
variable {b : Beliefs} {bad free l : List Int}
theorem rep_case (h : isRep b bad free l = true) : isCase b bad free = true := by
  unfold isRep at h
  simp only [Bool.and_eq_true] at h
  exact h.1.1
theorem rep_sub (h : isRep b bad free l = true) : ∀ x ∈ l, x ∈ free := by
  unfold isRep at h
  simp only [Bool.and_eq_true, List.all_eq_true] at h
  exact fun x hx => List.contains_iff_mem.1 (h.1.2.2 x hx)
theorem rep_bad (h : isRep b bad free l = true) : badL (dropR b l) bad = [] := by
  unfold isRep at h
  simp only [Bool.and_eq_true, decide_eq_true_eq] at h
  exact List.eq_nil_of_length_eq_zero h.2
theorem nout (hno : ∀ i, i < b.Reasons.length → ∀ r, b.Reasons[i]? = some r → r.Out = []) : ∀ r ∈ b.Reasons, r.Out = [] := fun r hr => by
  obtain ⟨i, hi⟩ := List.getElem?_of_mem hr
  exact hno i (lt_of_some hi) r hi
theorem badL_nil {c : Beliefs} : badL c bad = [] ↔ ∀ x ∈ bad, lbs c x.toNat = false := by
  unfold badL
  rw [List.filter_eq_nil_iff]
  constructor
  · intro h x hx
    simpa using h x hx
  · intro h x hx
    simp [h x hx]
theorem rep_more (hno : ∀ r ∈ b.Reasons, r.Out = []) (h : isRep b bad free l = true) : isRep b bad free free = true := by
  have hc := rep_case h
  have hs := case_s hc
  have hsub := rep_sub h
  have hbad := rep_bad h
  rw [badL_nil] at hbad
  have hA := (dropR_sub b l).strat hs
  have hB := (dropR_sub b free).strat hs
  have h2 : badL (dropR b free) bad = [] := by
    rw [badL_nil]
    intro x hx
    cases he : lbs (dropR b free) x.toNat with
    | false => rfl
    | true =>
      rw [lbs_dv (isB_ok2 (strat_b hB)) (strat_has hB) (fun r hr => hno r (keep_mem hr))] at he
      have h3 : Dv (dropR b l) x.toNat := dv_sub (fun r hr => by
        obtain ⟨i, h1, h2⟩ := keep_iff.1 (show r ∈ keep (notIn free) b.Reasons from hr)
        refine keep_at h1 ?_
        unfold notIn at h2 ⊢
        simp only [Bool.not_eq_true'] at h2 ⊢
        rw [Bool.eq_false_iff] at h2 ⊢
        exact fun h4 => h2 (List.contains_iff_mem.2 (hsub _ (List.contains_iff_mem.1 h4)))) he
      rw [← lbs_dv (isB_ok2 (strat_b hA)) (strat_has hA) (fun r hr => hno r (keep_mem hr)), hbad x hx] at h3
      cases h3
  unfold isRep
  simp only [Bool.and_eq_true, hc, h2, List.length_nil, decide_eq_true_eq, List.all_eq_true, case_fa hc, true_and, and_true]
  exact fun x hx => List.contains_iff_mem.2 hx
theorem fnd_dv {c : Beliefs} {x : Int} {F : List Int} (h : isFnd b x F = true) (hk : ∀ s ∈ F, ∀ r, b.Reasons[s.toNat]? = some r → r ∈ c.Reasons) : Dv c x.toNat := by
  unfold isFnd at h
  simp only [Bool.and_eq_true, decide_eq_true_eq, List.all_eq_true, List.mem_range] at h
  obtain ⟨⟨⟨hst, hl⟩, hix, hok⟩, hx⟩ := h
  have hix' : ∀ s ∈ F, 0 ≤ s ∧ s < b.Reasons.length := fun s hs => by
    have := hix s hs
    unfold ixOk at this
    simpa using this
  have all : ∀ (n k : Nat) (s : Int), k < n → F[k]? = some s → Dv c (rsAt b s).For.toNat := by
    intro n
    induction n with
    | zero => intro k s h; omega
    | succ n ih =>
      intro k s hkn hs
      have h1 := hok k (lt_of_some hs)
      unfold fOk at h1
      rw [hs] at h1
      simp only [Bool.and_eq_true, List.all_eq_true] at h1
      obtain ⟨r, hr, e⟩ := rs_mem (hix' s (List.mem_of_getElem? hs))
      rw [e] at h1 ⊢
      refine .mk r (hk s (List.mem_of_getElem? hs) r hr) (fun y hy => ?_)
      obtain ⟨j, s', hj, hs', e'⟩ := hvT_iff.1 (h1.1 y hy)
      have := ih j s' (by omega) hs'
      rw [e'] at this
      exact this
  obtain ⟨s, hs⟩ := some_of_lt (l := F) (i := F.length - 1) (by omega)
  have h1 := all F.length (F.length - 1) s (by omega) hs
  rw [hs] at hx
  simp only [Option.getD_some] at hx
  rw [hx] at h1
  exact h1
theorem culp_has (hno : ∀ r ∈ b.Reasons, r.Out = []) (h : isRep b bad free l = true) {j : Nat} {y : Int} (hy : (clashes b bad)[j]? = some y) : ∃ s ∈ culps b y free, s ∈ l := by
  have hc := rep_case h
  have hs := case_s hc
  have hbn := okB_nodes (isB_ok2 (strat_b hs))
  have hm := List.mem_of_getElem? hy
  have hcl : y ∈ badL b bad := by
    unfold clashes at hm
    split at hm
    · exact hm
    · cases hm
  unfold badL at hcl
  rw [List.mem_filter] at hcl
  have hyr := asc_m (case_a hc) hcl.1
  obtain ⟨y', rfl⟩ : ∃ y' : Nat, y = (y' : Int) := ⟨y.toNat, by omega⟩
  have hf := fo_is hs hyr.2
  have e0 : ((y' : Int)).toNat = y' := by omega
  rw [e0] at hcl
  rw [hcl.2] at hf
  refine Classical.byContradiction fun hn => ?_
  have hA := (dropR_sub b l).strat hs
  have hd : Dv (dropR b l) ((y' : Int)).toNat := fnd_dv hf (fun s hsF r hr => by
    refine keep_at hr ?_
    unfold notIn
    simp only [Bool.not_eq_true']
    rw [Bool.eq_false_iff]
    intro h4
    have h5 := List.contains_iff_mem.1 h4
    have hsr := (found_good b y').2 s hsF
    have e : ((s.toNat : Nat) : Int) = s := by omega
    rw [e] at h5
    refine hn ⟨s, ?_, h5⟩
    unfold culps
    rw [List.mem_filter]
    exact ⟨rep_sub h s h5, List.contains_iff_mem.2 hsF⟩)
  rw [← lbs_dv (isB_ok2 (strat_b hA)) (strat_has hA) (fun r hr => hno r (keep_mem hr))] at hd
  have hb := badL_nil.1 (rep_bad h) (y' : Int) hcl.1
  rw [hd] at hb
  cases hb
end
theorem fnd_t {p : Int → Bool} {l : List Int} {k : Nat} {x : Int} {f : Bool} (hf : f = (l.take k).any p) (hx : l[k]? = some x) : (f || p x) = (l.take (k + 1)).any p := by
  rw [take_snoc hx, List.any_append, hf]; simp
theorem fnd_m {p : Int → Bool} {l : List Int} {k : Nat} {f : Bool} (hf : f = (l.take k).any p) (h : f = true) (hk : k < l.length) : true = (l.take (k + 1)).any p := by
  obtain ⟨x, hx⟩ := some_of_lt hk
  rw [← fnd_t hf hx, h]; rfl
theorem fnd_n {p : Int → Bool} {l : List Int} {k : Nat} {x : Int} {f : Bool} (hf : f = (l.take k).any p) (h : f = false) (hx : l[k]? = some x) : p x = (l.take (k + 1)).any p := by
  rw [← fnd_t hf hx, h]; rfl
theorem any_has {l c : List Int} {k : Nat} (hk : c.length ≤ k) (h : ∃ s ∈ c, s ∈ l) : (c.take k).any (fun s => l.contains s) = true := by
  rw [List.take_of_length_le hk, List.any_eq_true]
  obtain ⟨s, h1, h2⟩ := h
  exact ⟨s, h1, List.contains_iff_mem.2 h2⟩
theorem noou {l : List Reason} {k : Nat} {q : Reason} (h : ∀ i, i < k → ∀ r, l[i]? = some r → r.Out = []) (hr : l[k]? = some q) (h0 : ¬ (0 : Int) < ((q.Out.length : Nat) : Int)) : ∀ i, i < k + 1 → ∀ r, l[i]? = some r → r.Out = [] := outs_f h hr (decide_eq_false h0)
end Go.Sy
