/-
  Plain facts behind the laws FnBelieved and FnWithdrawn.
  Conditions: those that each theorem states.
-/
import Derived.Test.YtkdghbglefhcjaaLw1
namespace Go.Sy
def atC (code : List UInt8) (i : Int) : Int := match code[i.toNat]? with | some b => (b.toNat : Int) | none => 0
theorem atC_of {code : List UInt8} {i : Int} {b : UInt8} (h : code[i.toNat]? = some b) : (b.toNat : Int) = atC code i := by unfold atC; rw [h]
theorem atC_no {code : List UInt8} {i : Int} (h : (code.length : Int) ≤ i) : 0 = atC code i := by
  unfold atC
  rw [List.getElem?_eq_none (by omega)]
theorem atC_rng (code : List UInt8) (i : Int) : 0 ≤ atC code i ∧ atC code i ≤ 255 := by
  unfold atC
  split
  · rename_i b _
    have := b.toNat_lt
    omega
  · omega
theorem sum_bound {l : List Nat} {m : Nat} (h : ∀ x ∈ l, x ≤ m) : l.sum ≤ l.length * m := by
  induction l with
  | nil => simp
  | cons x l ih =>
    have h1 := h x (by simp)
    have h2 := ih (fun y hy => h y (by simp [hy]))
    simp only [List.sum_cons, List.length_cons, Nat.add_mul]
    omega
theorem drawn_r {b : Beliefs} {m : Int} {o : Bool} (h : drawn b m o) (hm : m ≤ 12) {r : Reason} (hr : r ∈ b.Reasons) : szR r ≤ 24 := by
  obtain ⟨h0, h1, h2, h3, h4⟩ := h
  have hR := h2 r hr
  have ha := asc_len (isR_in hR)
  have hb := asc_len (isR_out hR)
  unfold szR
  omega
theorem drawn_szs {b : Beliefs} {m : Int} {o : Bool} (h : drawn b m o) (hm : m ≤ 12) : szRs b.Reasons ≤ 700 := by
  have h1 : (b.Reasons.map szR).sum ≤ (b.Reasons.map szR).length * 24 := sum_bound (fun x hx => by
    obtain ⟨r, hr, rfl⟩ := List.mem_map.1 hx
    exact drawn_r h hm hr)
  rw [List.length_map] at h1
  have h2 := h.2.2.2.1
  unfold szRs
  omega
theorem drawn_sz {b : Beliefs} {m : Int} {o : Bool} (h : drawn b m o) (hm : m ≤ 12) : szB b ≤ 700 := drawn_szs h hm
section
variable {b : Beliefs} {x : Int}
abbrev prm (x : Int) : Reason := ⟨x, [], []⟩
theorem bel_is (hst : isStrat b = true) (hl : (b.Reasons.length : Int) ≠ 60) (hx : 0 ≤ x ∧ x < b.Nodes) : isBeliefs (addB b (prm x)) = true := by
  have h := strat_b hst
  have hlen := isB_len h
  unfold isBeliefs at h ⊢
  simp only [Bool.and_eq_true, decide_eq_true_eq, List.all_eq_true] at h ⊢
  refine ⟨⟨h.1.1, ?_⟩, ?_⟩
  · show (b.Reasons ++ [prm x]).length ≤ 60
    simp
    omega
  · intro r hr
    rcases List.mem_append.1 hr with hr | hr
    · exact h.2 r hr
    · rw [List.mem_singleton] at hr
      subst hr
      show isReason (prm x) b.Nodes = true
      unfold isReason
      rw [decide_eq_true hx.1, decide_eq_true hx.2]
      rfl
theorem bel_eq (hst : isStrat b = true) (hl : (b.Reasons.length : Int) ≠ 60) (hx : 0 ≤ x ∧ x < b.Nodes) : addR b (prm x) = addB b (prm x) := (addR_t (strat_b hst) (bel_is hst hl hx)).1.symm
theorem bel_ok (hst : isStrat b = true) (hl : (b.Reasons.length : Int) ≠ 60) (hx : 0 ≤ x ∧ x < b.Nodes) : addOk b (prm x) = true := (addR_t (strat_b hst) (bel_is hst hl hx)).2.symm
theorem bel_edge (b : Beliefs) (x : Int) : edge (addB b (prm x)) = edge b := by
  funext u v
  unfold edge
  show (b.Reasons ++ [prm x]).any _ = _
  rw [List.any_append]
  simp [rE]
theorem bel_dep (b : Beliefs) (x : Int) : dep (addB b (prm x)) = dep b := by
  funext u v
  unfold dep Dep
  rw [bel_edge]
theorem bel_strat (hst : isStrat b = true) (hl : (b.Reasons.length : Int) ≠ 60) (hx : 0 ≤ x ∧ x < b.Nodes) : isStrat (addB b (prm x)) = true := by
  have h := hst
  unfold isStrat at h ⊢
  rw [Bool.and_eq_true] at h ⊢
  refine ⟨bel_is hst hl hx, ?_⟩
  show (b.Reasons ++ [prm x]).all _ = true
  rw [List.all_append, Bool.and_eq_true]
  have e : stR (addB b (prm x)) = stR b := by
    funext r
    unfold stR
    have : stY (addB b (prm x)) r = stY b r := by
      funext y
      unfold stY
      rw [bel_dep]
    rw [this]
  rw [e]
  exact ⟨h.2, by simp [stR]⟩
theorem bel_len (hst : isStrat b = true) (hl : (b.Reasons.length : Int) ≠ 60) (hx : 0 ≤ x ∧ x < b.Nodes) : (labelsOf (addB b (prm x))).length = (labelsOf b).length := by
  rw [labelsOf_t hst, labelsOf_t (bel_strat hst hl hx), vec_len, vec_len]; rfl
theorem bel_lab (hst : isStrat b = true) (hl : (b.Reasons.length : Int) ≠ 60) (hx : 0 ≤ x ∧ x < b.Nodes) {v : Bool} (hv : (labelsOf (addB b (prm x)))[x.toNat]? = some v) : v = true := by
  have h := lab_has (bel_strat hst hl hx)
  rw [isLab_iff (bel_is hst hl hx)] at h
  have := h.2.1 (prm x) (by show _ ∈ b.Reasons ++ [prm x]; simp) rfl
  rw [atB_of hv] at this
  exact this
theorem pl_add {l : List Bool} {r0 : Reason} {n : Nat} (h : Pl b l n) : Pl (addB b r0) l n := by
  induction h with
  | mk r hr hh _ ih => exact .mk r (by show _ ∈ b.Reasons ++ [r0]; simp [hr]) hh ih
theorem bel_same (hst : isStrat b = true) (hl : (b.Reasons.length : Int) ≠ 60) (hx : 0 ≤ x ∧ x < b.Nodes) {v : Bool} (hv : (labelsOf b)[x.toNat]? = some v) (h : v = true) : labelsOf (addB b (prm x)) = labelsOf b := by
  have h1 := lab_has hst
  rw [isLab_iff (strat_b hst)] at h1
  have h2 : isLab (addB b (prm x)) (labelsOf b) = true := by
    rw [isLab_iff (bel_is hst hl hx)]
    refine ⟨h1.1, fun r hr hh => ?_, fun n hn ha => pl_add (h1.2.2 n hn ha)⟩
    rcases List.mem_append.1 (show r ∈ b.Reasons ++ [prm x] from hr) with hr | hr
    · exact h1.2.1 r hr hh
    · rw [List.mem_singleton] at hr
      subst hr
      show atB (labelsOf b) x.toNat = true
      rw [atB_of hv, h]
  rw [one_lab (bel_strat hst hl hx)] at h2
  exact (of_decide_eq_true h2).symm
theorem keep_all {α : Type} {p : Nat → Bool} : ∀ {l : List α}, (∀ i, i < l.length → p i = true) → keep p l = l := by
  intro l
  induction l generalizing p with
  | nil => intro _; rfl
  | cons y l ih =>
    intro h
    rw [keep_cons, if_pos (h 0 (by simp)), ih (fun i hi => h (i + 1) (by simp; omega))]
    rfl
theorem keep_snoc {α : Type} {p : Nat → Bool} {l : List α} {y : α} (h : ∀ i, i < l.length → p i = true) (h2 : p l.length = false) : keep p (l ++ [y]) = l := by
  have e : keep p (l ++ [y]) = keepT p (l ++ [y]) (l.length + 1) := by unfold keep; simp
  rw [e, ← keepT_f h2]
  have e2 : keepT p (l ++ [y]) l.length = keepT p l l.length := by
    have fm : ∀ (q : List Nat) (f g : Nat → Option α), (∀ i ∈ q, f i = g i) → q.filterMap f = q.filterMap g := fun q f g hq => by
      induction q with
      | nil => rfl
      | cons i q ih => rw [List.filterMap_cons, List.filterMap_cons, hq i (by simp), ih (fun j hj => hq j (by simp [hj]))]
    unfold keepT
    refine fm _ _ _ (fun i hi => ?_)
    have := (List.mem_filter.1 hi).1
    rw [List.mem_range] at this
    exact List.getElem?_append_left this
  rw [e2]
  exact keep_all h
theorem bel_drop (b : Beliefs) (r : Reason) : dropR (addB b r) [(b.Reasons.length : Int)] = b := by
  unfold dropR
  show (⟨b.Nodes, keep _ (b.Reasons ++ [r])⟩ : Beliefs) = b
  rw [keep_snoc (fun i hi => notIn_t (by simp; omega)) (notIn_f (by simp))]
theorem bel_sz {m : Nat} (h : szB b ≤ m) : szB (addB b (prm x)) ≤ m + 1 := by
  unfold szB szRs at h ⊢
  show (b.Reasons ++ [prm x]).length + ((b.Reasons ++ [prm x]).map szR).sum ≤ m + 1
  simp [szR]
  have e : (List.map (fun r : Reason => r.In.length + r.Out.length) b.Reasons) = b.Reasons.map szR := rfl
  first | omega | (rw [e]; omega)
end

/-! ### a reason is withdrawn -/
section
variable {b : Beliefs} {k y : Int} {r : Reason}
theorem drop_out (h : ¬ (0 ≤ k ∧ k < b.Reasons.length)) : dropR b [k] = b := by
  unfold dropR
  rw [keep_all (fun i hi => notIn_t (by simp; omega))]
theorem cons_st (h : 0 < (conseq b k).length) : isStrat b = true := by
  cases hs : isStrat b with
  | true => rfl
  | false => rw [← conseq_f hs] at h; simp at h
theorem cons_k (h : 0 < (conseq b k).length) : 0 ≤ k ∧ k < b.Reasons.length := by
  refine Classical.byContradiction fun hn => ?_
  have hs := cons_st h
  rw [← conseq_t hs, drop_out hn] at h
  have : fidx (dif b b) b.Nodes.toNat = [] := by
    unfold fidx
    rw [List.map_eq_nil_iff, List.filter_eq_nil_iff]
    intro i _
    simp [dif]
  rw [this] at h
  simp at h
theorem cons_mem {j : Nat} (hy : (conseq b k)[j]? = some y) : isStrat b = true ∧ 0 ≤ y ∧ y < b.Nodes ∧ dif b (dropR b [k]) y.toNat = true := by
  have hs := cons_st (b := b) (k := k) (by have := lt_of_some hy; omega)
  have hm := List.mem_of_getElem? hy
  rw [← conseq_t hs, fidx_mem] at hm
  obtain ⟨n, h1, h2, rfl⟩ := hm
  have := isBeliefs_nodes (strat_b hs)
  exact ⟨hs, by omega, by omega, by simpa using h2⟩
/-- nodes whose dependencies keep all their reasons have the same label -/
theorem lab_leS {b c : Beliefs} {S : Nat → Prop} {s : Nat → Int} {l m : List Bool} (ho : okB b = true) (hs : Sol b s)
    (hcl : ∀ r ∈ b.Reasons, S r.For.toNat → r ∈ c.Reasons ∧ (∀ y ∈ r.In, S y.toNat) ∧ ∀ y ∈ r.Out, S y.toNat)
    (ha : LabA c m) {k : Int} (hag : ∀ x : Nat, (x : Int) < b.Nodes → S x → s x < k → atB l x = atB m x) {x : Nat} (h : Pl b l x) : S x → s x ≤ k → atB m x = true := by
  induction h with
  | mk r hr hh _ ih =>
    intro hS hk
    obtain ⟨hc, hi, hou⟩ := hcl r hr hS
    refine ha r hc (holdsL_iff.2 ⟨fun y hy => ih y hy (hi y hy) ?_, fun y hy => ?_⟩)
    · have := (hs.2 r hr).1 y hy
      omega
    · have h1 := (hs.2 r hr).2 y hy
      have h2 := asc_m (isR_out (okB_m ho hr)) hy
      rw [← hag y.toNat (by omega) (hou y hy) (by omega)]
      exact (holdsL_iff.1 hh).2 y hy
theorem lab_eqS {b c : Beliefs} {S : Nat → Prop} (hb : isStrat b = true) (hc : isStrat c = true) (hn : b.Nodes = c.Nodes) (hsub : ∀ r ∈ c.Reasons, r ∈ b.Reasons)
    (hcl : ∀ r ∈ b.Reasons, S r.For.toNat → r ∈ c.Reasons ∧ (∀ y ∈ r.In, S y.toNat) ∧ ∀ y ∈ r.Out, S y.toNat) : ∀ x : Nat, (x : Int) < b.Nodes → S x → lbs b x = lbs c x := by
  obtain ⟨s, hs, _⟩ := strat_has hb
  have hob := isB_ok2 (strat_b hb)
  have hoc := isB_ok2 (strat_b hc)
  have h1 := lab_has hb
  have h2 := lab_has hc
  rw [isLab_iff (strat_b hb)] at h1
  rw [isLab_iff (strat_b hc)] at h2
  have hsc : Sol c s := ⟨hs.1, fun r hr => hs.2 r (hsub r hr)⟩
  have hcl' : ∀ r ∈ c.Reasons, S r.For.toNat → r ∈ b.Reasons ∧ (∀ y ∈ r.In, S y.toNat) ∧ ∀ y ∈ r.Out, S y.toNat := fun r hr hS => ⟨hsub r hr, (hcl r (hsub r hr) hS).2⟩
  have key : ∀ (k : Nat) (x : Nat), (x : Int) < b.Nodes → S x → s x < k → atB (labelsOf b) x = atB (labelsOf c) x := by
    intro k
    induction k with
    | zero => intro x _ _ h; have := hs.1 x; omega
    | succ k ih =>
      intro x hx hS h
      rw [Bool.eq_iff_iff]
      refine ⟨fun h3 => lab_leS hob hs hcl h2.2.1 ih (h1.2.2 x hx h3) hS (by omega), fun h3 => lab_leS hoc hsc hcl' h1.2.1 (fun x hx hS h => (ih x (by omega) hS h).symm) (h2.2.2 x (by omega) h3) hS (by omega)⟩
  intro x hx hS
  have h3 := key ((s x).toNat + 1) x hx hS (by have := hs.1 x; omega)
  have hbn := okB_nodes hob
  rw [labelsOf_t hb, labelsOf_t hc, atB_vec (by omega), atB_vec (by omega)] at h3
  exact h3
theorem drop_keep {b : Beliefs} {k : Int} {r q : Reason} (hk : 0 ≤ k) (hr : b.Reasons[k.toNat]? = some r) (hq : q ∈ b.Reasons) (hne : q.For ≠ r.For) : q ∈ (dropR b [k]).Reasons := by
  obtain ⟨i, hi⟩ := List.getElem?_of_mem hq
  show q ∈ keep (notIn [k]) b.Reasons
  unfold keep keepT
  rw [List.mem_filterMap]
  refine ⟨i, List.mem_filter.2 ⟨by rw [List.mem_range]; exact lt_of_some hi, notIn_t ?_⟩, hi⟩
  simp only [List.contains_cons, List.contains_nil, Bool.or_false, beq_eq_false_iff_ne, ne_eq]
  intro e
  have : k.toNat = i := by omega
  rw [this, hi] at hr
  cases hr
  exact hne rfl
theorem cons_dep {j : Nat} (hy : (conseq b k)[j]? = some y) (hr : b.Reasons[k.toNat]? = some r) : y = r.For ∨ depOn b y r.For = true := by
  obtain ⟨hs, h0, h1, hd⟩ := cons_mem hy
  have hk := cons_k (b := b) (k := k) (by have := lt_of_some hy; omega)
  have hb := strat_b hs
  have hF := isR_for (isB_r hb hr)
  refine Classical.byContradiction fun hn => ?_
  have hn1 : y ≠ r.For := fun e => hn (.inl e)
  have hn2 : ¬ Dep b y.toNat r.For.toNat := fun e => hn (.inr (by rw [← depOn_y hb ⟨h0, h1, hF.1, hF.2⟩, dep_iff]; exact e))
  have hc : isStrat (dropR b [k]) = true := (dropR_sub b [k]).strat hs
  have := lab_eqS (b := b) (c := dropR b [k]) (S := fun x => x ≠ r.For.toNat ∧ ¬ Dep b x r.For.toNat) hs hc rfl (fun q hq => keep_mem hq) (fun q hq hS => by
    have hQ := okB_m (isB_ok2 hb) hq
    have hQF := isR_for hQ
    have hal : ∀ z, (z ∈ q.In ∨ z ∈ q.Out) → z.toNat ≠ r.For.toNat ∧ ¬ Dep b z.toNat r.For.toNat := fun z hz => by
      have hzr : 0 ≤ z := by
        rcases hz with hz | hz
        · exact (asc_m (isR_in hQ) hz).1
        · exact (asc_m (isR_out hQ) hz).1
      have he := edge_m hq hQF.1 hz hzr
      refine ⟨fun e => hS.2 ?_, fun e => hS.2 ?_⟩
      · rw [← e]; exact .single he
      · exact Relation.TransGen.trans (.single he) e
    refine ⟨drop_keep hk.1 hr hq (fun e => hS.1 (by rw [e])), fun z hz => hal z (.inl hz), fun z hz => hal z (.inr hz)⟩) y.toNat (by omega) ⟨by omega, hn2⟩
  unfold dif at hd
  rw [this] at hd
  simp at hd
theorem dv_sub {b c : Beliefs} (h : ∀ r ∈ c.Reasons, r ∈ b.Reasons) {x : Nat} (hd : Dv c x) : Dv b x := by
  induction hd with
  | mk r hr _ ih => exact .mk r (h r hr) ih
theorem cons_no {j : Nat} (hy : (conseq b k)[j]? = some y) (hno : ∀ r ∈ b.Reasons, r.Out = []) : lbs b y.toNat = true := by
  obtain ⟨hs, h0, h1, hd⟩ := cons_mem hy
  have hc : isStrat (dropR b [k]) = true := (dropR_sub b [k]).strat hs
  cases hl : lbs b y.toNat with
  | true => rfl
  | false =>
    exfalso
    unfold dif at hd
    rw [hl] at hd
    have h2 : lbs (dropR b [k]) y.toNat = true := by simpa using hd
    rw [lbs_dv (isB_ok2 (strat_b hc)) (strat_has hc) (fun q hq => hno q (keep_mem hq))] at h2
    have h3 := dv_sub (b := b) (fun q hq => keep_mem hq) h2
    rw [← lbs_dv (isB_ok2 (strat_b hs)) (strat_has hs) hno, hl] at h3
    cases h3
end
end Go.Sy
