/-
  Frames: sets of assumptions, and what is in under them.
  Conditions: none.
-/
import Derived.Test.YtkdghbglefhcjaaFacts
import Derived.Test.YtkdghbglefhcjaaTup
namespace Go.Sy

def bitS (set : Int) (i : Nat) : Bool := (andZ (shrZ set i) 1 == 1)
def chs (l : List Int) (set : Int) : List Int := keep (bitS set) l
def chsT (l : List Int) (set : Int) (k : Nat) : List Int := keepT (bitS set) l k
theorem shl_small {k : Nat} (h : k ≤ 8) : shlZ 1 k = 2 ^ k := by
  unfold shlZ
  have : k = 0 ∨ k = 1 ∨ k = 2 ∨ k = 3 ∨ k = 4 ∨ k = 5 ∨ k = 6 ∨ k = 7 ∨ k = 8 := by omega
  rcases this with h | h | h | h | h | h | h | h | h <;> subst h <;> rfl
theorem shl_rng {k : Nat} (h : k ≤ 8) : 1 ≤ shlZ 1 k ∧ shlZ 1 k ≤ 256 := by
  have : k = 0 ∨ k = 1 ∨ k = 2 ∨ k = 3 ∨ k = 4 ∨ k = 5 ∨ k = 6 ∨ k = 7 ∨ k = 8 := by omega
  rw [shl_small h]
  rcases this with h | h | h | h | h | h | h | h | h <;> subst h <;> decide
def isSetB (f : Frame) (set : Int) : Bool := decide (0 ≤ set) && decide (set < shlZ 1 f.Assumed.length)
theorem frame_b {f : Frame} (h : isFrame f = true) : isBeliefs f.Beliefs = true := by
  simp only [isFrame, Bool.and_eq_true] at h
  exact h.1.1.1.1
theorem frame_al {f : Frame} (h : isFrame f = true) : f.Assumed.length ≤ 6 := by
  simp only [isFrame, Bool.and_eq_true, decide_eq_true_eq] at h
  exact h.1.1.1.2
theorem frame_a {f : Frame} (h : isFrame f = true) : asc f.Assumed f.Beliefs.Nodes = true := by
  simp only [isFrame, Bool.and_eq_true, decide_eq_true_eq] at h
  exact h.1.1.2
theorem frame_bad {f : Frame} (h : isFrame f = true) : asc f.Bad f.Beliefs.Nodes = true := by
  simp only [isFrame, Bool.and_eq_true, decide_eq_true_eq] at h
  exact h.1.2
theorem frame_no {f : Frame} (h : isFrame f = true) {r : Reason} (hr : r ∈ f.Beliefs.Reasons) : r.Out = [] := by
  simp only [isFrame, Bool.and_eq_true, List.all_eq_true] at h
  have := h.2 r hr
  simpa [noOut] using this
theorem isSet_in {f : Frame} {set : Int} : inR set 0 (shlZ 1 f.Assumed.length - 1) = isSetB f set := by
  unfold inR isSetB
  rw [Bool.eq_iff_iff]
  simp only [Bool.and_eq_true, decide_eq_true_eq]
  omega
theorem frame_w {f : Frame} (h : isFrameW f = true) : isFrame f = true := by rw [← isFrameW_eq]; exact h

def prem (x : Int) : Reason := ⟨x, [], []⟩
def undT (f : Frame) (set : Int) (k : Nat) : List Reason := f.Beliefs.Reasons ++ ((chs f.Assumed set).take k).map prem
def undB (f : Frame) (set : Int) : Beliefs := ⟨f.Beliefs.Nodes, f.Beliefs.Reasons ++ (chs f.Assumed set).map prem⟩
theorem undT_zero (f : Frame) (set : Int) : f.Beliefs.Reasons = undT f set 0 := by simp [undT]
theorem undT_step {f : Frame} {set x : Int} {k : Nat} (h : (chs f.Assumed set)[k]? = some x) : undT f set k ++ [⟨x, [], []⟩] = undT f set (k + 1) := by
  unfold undT
  rw [take_snoc h, List.map_append, ← List.append_assoc]; rfl
theorem undT_done {f : Frame} {set : Int} {k : Nat} (h : (chs f.Assumed set).length ≤ k) : (⟨f.Beliefs.Nodes, undT f set k⟩ : Beliefs) = undB f set := by
  unfold undT undB
  rw [List.take_of_length_le h]
theorem undT_len (f : Frame) (set : Int) (k : Nat) : (undT f set k).length ≤ f.Beliefs.Reasons.length + f.Assumed.length := by
  unfold undT
  rw [List.length_append, List.length_map, List.length_take]
  have : (chs f.Assumed set).length ≤ f.Assumed.length := keep_len _ _
  omega
theorem undB_len {f : Frame} {set : Int} (h : isFrame f = true) : (undB f set).Reasons.length ≤ 66 := by
  have h1 : (chs f.Assumed set).length ≤ f.Assumed.length := keep_len _ _
  have h2 := frame_al h
  have h3 := isB_len (frame_b h)
  show (f.Beliefs.Reasons ++ (chs f.Assumed set).map prem).length ≤ 66
  rw [List.length_append, List.length_map]
  omega
theorem undB_mem {f : Frame} {set : Int} {r : Reason} (hr : r ∈ (undB f set).Reasons) : r ∈ f.Beliefs.Reasons ∨ ∃ x ∈ chs f.Assumed set, r = prem x := by
  rcases List.mem_append.1 hr with h | h
  · exact .inl h
  · obtain ⟨x, hx, e⟩ := List.mem_map.1 h
    exact .inr ⟨x, hx, e.symm⟩
theorem chs_rng {f : Frame} {set x : Int} (h : isFrame f = true) (hx : x ∈ chs f.Assumed set) : 0 ≤ x ∧ x < f.Beliefs.Nodes := asc_m (frame_a h) (keep_mem hx)
theorem asc_nil (n : Int) : asc [] n = true := rfl
theorem undB_ok {f : Frame} {set : Int} (h : isFrame f = true) : okB (undB f set) = true := by
  have hb := isB_ok2 (frame_b h)
  simp only [okB, Bool.and_eq_true, List.all_eq_true] at hb ⊢
  refine ⟨hb.1, fun r hr => ?_⟩
  rcases undB_mem hr with h1 | ⟨x, hx, e⟩
  · exact hb.2 r h1
  · subst e
    have := chs_rng h hx
    show isReason (prem x) f.Beliefs.Nodes = true
    simp [isReason, prem, asc_nil, this.1, this.2]
theorem undB_no {f : Frame} {set : Int} (h : isFrame f = true) : ∀ r ∈ (undB f set).Reasons, r.Out = [] := fun r hr => by
  rcases undB_mem hr with h1 | ⟨x, _, e⟩
  · exact frame_no h h1
  · subst e; rfl
theorem noOut_sol {b : Beliefs} (ho : okB b = true) (h : ∀ r ∈ b.Reasons, r.Out = []) : HasSol b := by
  refine ⟨fun _ => 0, ⟨fun _ => Int.le_refl _, fun r hr => ⟨fun _ _ => Int.le_refl _, fun y hy => by rw [h r hr] at hy; cases hy⟩⟩, fun x hx => ?_⟩
  have := okB_nodes ho
  show (0 : Int) < b.Nodes
  omega
theorem undB_sol {f : Frame} {set : Int} (h : isFrame f = true) : HasSol (undB f set) := noOut_sol (undB_ok h) (undB_no h)
noncomputable def unds (f : Frame) (set : Int) : List Bool := vec f.Beliefs.Nodes.toNat (lbs (undB f set))

/-! the reference's way -/
def DvS (f : Frame) (set : Int) (g : Nat → Bool) : Prop := ∀ x, g x = true → Dv (undB f set) x
def DvB (f : Frame) (set : Int) (g : Nat → Bool) : Prop := ∀ x ∈ chs f.Assumed set, g x.toNat = true
def DvC (f : Frame) (g : Nat → Bool) : Prop := ∀ r ∈ f.Beliefs.Reasons, (∀ y ∈ r.In, g y.toNat = true) → g r.For.toNat = true
theorem DvC.all {f : Frame} {set : Int} {g : Nat → Bool} (hc : DvC f g) (hb : DvB f set g) : ∀ x, Dv (undB f set) x → g x = true := by
  intro x hx
  induction hx with
  | mk r hr _ ih =>
    rcases undB_mem hr with h1 | ⟨x, hx, e⟩
    · exact hc r h1 ih
    · subst e; exact hb x hx
theorem dv_base {f : Frame} {set x : Int} (hx : x ∈ chs f.Assumed set) : Dv (undB f set) x.toNat := by
  have := Dv.mk (b := undB f set) (prem x) (List.mem_append_right _ (List.mem_map.2 ⟨x, hx, rfl⟩)) (fun y hy => by cases hy)
  exact this
theorem DvS.set {f : Frame} {set : Int} {g : Nat → Bool} (h : DvS f set g) {x : Nat} {v : Bool} (hv : v = true → Dv (undB f set) x) : DvS f set (upd g x v) := by
  intro y hy
  unfold upd at hy
  split at hy
  · rename_i e; subst e; exact hv hy
  · exact h y hy
/-- the assumptions of a set, one after another -/
def DvA (f : Frame) (set : Int) (g : Nat → Bool) (k : Nat) : Prop := ∀ x ∈ chsT f.Assumed set k, g x.toNat = true
theorem chsT_mem {l : List Int} {set x : Int} {k : Nat} (hx : x ∈ chsT l set k) (hk : k ≤ l.length) : x ∈ chs l set := by
  unfold chsT keepT at hx
  unfold chs keep keepT
  rw [List.mem_filterMap] at hx ⊢
  obtain ⟨i, hi, e⟩ := hx
  rw [List.mem_filter, List.mem_range] at hi
  exact ⟨i, by rw [List.mem_filter, List.mem_range]; exact ⟨by omega, hi.2⟩, e⟩
theorem DvA.on {f : Frame} {set : Int} {g : Nat → Bool} {k : Nat} {x : Int} (h : DvA f set g k) (hx : f.Assumed[k]? = some x) : DvA f set (upd g x.toNat true) (k + 1) := by
  intro y hy
  unfold upd
  by_cases e : y.toNat = x.toNat
  · rw [if_pos e]
  · rw [if_neg e]
    unfold chsT at hy
    cases hb : bitS set k with
    | true =>
      rw [← keepT_t hx hb] at hy
      rcases List.mem_append.1 hy with h1 | h1
      · exact h y h1
      · rw [List.mem_singleton] at h1
        subst h1
        exact absurd rfl e
    | false => rw [← keepT_f hb] at hy; exact h y hy
theorem DvA.off {f : Frame} {set : Int} {g : Nat → Bool} {k : Nat} (h : DvA f set g k) (hb : bitS set k = false) : DvA f set g (k + 1) := by
  intro y hy
  unfold chsT at hy
  rw [← keepT_f hb] at hy
  exact h y hy
theorem chs_at {l : List Int} {set x : Int} {k : Nat} (hx : l[k]? = some x) (hb : bitS set k = true) : x ∈ chs l set := by
  have h1 : x ∈ chsT l set (k + 1) := by
    unfold chsT
    rw [← keepT_t hx hb]
    exact List.mem_append_right _ (List.mem_singleton.2 rfl)
  exact chsT_mem h1 (lt_of_some hx)
def DvI (f : Frame) (g g2 : Nat → Bool) (k : Nat) : Prop := (∀ x, g x = true → g2 x = true) ∧ ∀ i r, i < k → f.Beliefs.Reasons[i]? = some r → (∀ y ∈ r.In, g y.toNat = true) → g2 r.For.toNat = true
theorem DvI.zero (f : Frame) (g : Nat → Bool) : DvI f g g 0 := ⟨fun _ h => h, fun i r hi => absurd hi (Nat.not_lt_zero i)⟩
theorem DvI.next {f : Frame} {g g2 : Nat → Bool} {k n : Nat} {r : Reason} {fine v : Bool} (h : DvI f g g2 k) (hr : f.Beliefs.Reasons[k]? = some r) (ha : asc r.In (n : Int) = true) (hf : fine = (r.In.take r.In.length).all (lI (vec n g2))) (hv : v = (g2 r.For.toNat || fine)) : DvI f g (upd g2 r.For.toNat v) (k + 1) := by
  rw [List.take_length] at hf
  have mono : ∀ x, g2 x = true → upd g2 r.For.toNat v x = true := fun x hx => by
    unfold upd
    split
    · rename_i e; subst e; rw [hv, hx]; rfl
    · exact hx
  refine ⟨fun x hx => mono x (h.1 x hx), fun i r' hi hr' hin => ?_⟩
  by_cases e : i = k
  · subst e
    rw [hr] at hr'
    simp only [Option.some.injEq] at hr'
    subst hr'
    rw [upd_self, hv, hf]
    cases hx : r.In.all (lI (vec n g2)) with
    | true => simp
    | false => exact absurd (fun y hy => h.1 _ (hin y hy)) (not_all_vec ha hx)
  · exact mono _ (h.2 i r' (by omega) hr' hin)
theorem dv_pass {f : Frame} {set : Int} {n : Nat} (hn : f.Beliefs.Nodes = n) (ho : okB f.Beliefs = true) {g g2 : Nat → Bool} (hs2 : DvS f set g2) (hb : DvB f set g) (h : DvI f g g2 f.Beliefs.Reasons.length) {q : Nat} (hq : q ≤ cnt n g ∨ DvC f g) : q + 1 ≤ cnt n g2 ∨ DvC f g2 := by
  by_cases hc : DvC f g
  · right
    have e : g2 = g := by
      funext x
      cases hx : g x with
      | true => exact h.1 x hx
      | false =>
        cases hx2 : g2 x with
        | false => rfl
        | true => rw [hc.all hb x (hs2 x hx2)] at hx; cases hx
    rw [e]; exact hc
  · left
    have hq : q ≤ cnt n g := hq.resolve_right hc
    have ⟨r, hr, hno⟩ : ∃ r ∈ f.Beliefs.Reasons, ¬ ((∀ y ∈ r.In, g y.toNat = true) → g r.For.toNat = true) := Classical.byContradiction fun hno => hc fun r hr => Classical.byContradiction fun h2 => hno ⟨r, hr, h2⟩
    obtain ⟨i, hi⟩ := List.getElem?_of_mem hr
    have hF := isR_for (okB_m ho hr)
    have h2 : ∀ y ∈ r.In, g y.toNat = true := Classical.byContradiction fun e => hno (fun e2 => absurd e2 e)
    have h3 : g r.For.toNat = false := by
      cases hx : g r.For.toNat with
      | false => rfl
      | true => exact absurd (fun _ => hx) hno
    have := cnt_lt (n := n) (y := r.For.toNat) (f := g) (g := g2) (fun x _ hx => h.1 x hx) (by omega) h3 (h.2 i r (lt_of_some hi) hi h2)
    omega
theorem DvB.mono {f : Frame} {set : Int} {g g2 : Nat → Bool} {k : Nat} (h : DvB f set g) (hi : DvI f g g2 k) : DvB f set g2 := fun x hx => hi.1 _ (h x hx)
theorem dv_of {f : Frame} {set : Int} {g : Nat → Bool} {n k : Nat} {r : Reason} (hs : DvS f set g) (hr : f.Beliefs.Reasons[k]? = some r) (ha : asc r.In (n : Int) = true) (hi : r.In.all (lI (vec n g)) = true) : Dv (undB f set) r.For.toNat :=
  .mk r (List.mem_append_left _ (List.mem_of_getElem? hr)) (fun y hy => hs _ (all_vec ha hi y hy))
theorem dv_fine {r : Reason} {g : Nat → Bool} {n m : Nat} {y : Int} {fine v : Bool} (hf : fine = (r.In.take m).all (lI (vec n g))) (hy : r.In[m]? = some y) (h0 : 0 ≤ y ∧ y < n) (hv : v = (fine && g y.toNat)) : v = (r.In.take (m + 1)).all (lI (vec n g)) := by
  rw [take_snoc hy, List.all_append, hv, hf]
  simp only [List.all_cons, List.all_nil, Bool.and_true, lI]
  rw [atB_of (vec_get (by omega))]
theorem dv_done {f : Frame} {set : Int} {g : Nat → Bool} {n : Nat} (hn : f.Beliefs.Nodes = n) (h : isFrame f = true) (hs : DvS f set g) (hb : DvB f set g) (hc : DvC f g) : vec n g = unds f set := by
  unfold unds
  rw [show f.Beliefs.Nodes.toNat = n by omega]
  refine vec_congr fun x _ => ?_
  rw [Bool.eq_iff_iff, lbs_dv (undB_ok h) (undB_sol h) (undB_no h)]
  exact ⟨hs x, hc.all hb x⟩
theorem unds_len (f : Frame) (set : Int) : (unds f set).length = f.Beliefs.Nodes.toNat := vec_len _ _

noncomputable def nodesU (f : Frame) (set : Int) : List Int := if isFrame f && isSetB f set then fidx (lbs (undB f set)) f.Beliefs.Nodes.toNat else []
theorem nodesU_f {f : Frame} {set : Int} (h : (isFrame f && isSetB f set) = false) : [] = nodesU f set := by unfold nodesU; rw [h]; rfl
theorem nodesU_t {f : Frame} {set : Int} (h : (isFrame f && isSetB f set) = true) : fidx (lbs (undB f set)) f.Beliefs.Nodes.toNat = nodesU f set := by unfold nodesU; rw [if_pos h]
theorem nodesU_len (f : Frame) (set : Int) : (nodesU f set).length ≤ 24 := by
  cases h : (isFrame f && isSetB f set) with
  | false => rw [← nodesU_f h]; simp
  | true =>
    rw [← nodesU_t h]
    simp only [Bool.and_eq_true] at h
    have := isBeliefs_nodes (frame_b h.1)
    exact Nat.le_trans (fidx_len _ _) (by omega)
noncomputable def isCons (f : Frame) (set : Int) : Bool := isFrame f && isSetB f set && f.Bad.all (lO (unds f set))
noncomputable def holdsU (f : Frame) (x set : Int) : Bool := isCons f set && (nodesU f set).contains x
theorem isCons_n {f : Frame} {set : Int} (h : (isFrame f && isSetB f set) = false) : false = isCons f set := by unfold isCons; rw [h]; rfl
theorem isCons_b {f : Frame} {set y : Int} {k : Nat} (hy : f.Bad[k]? = some y) (h : lO (unds f set) y = false) : false = isCons f set := by unfold isCons; rw [all_bad (p := lO (unds f set)) hy h]; simp
theorem isCons_y {f : Frame} {set : Int} (h : (isFrame f && isSetB f set) = true) (hb : ∀ i, i < f.Bad.length → ∀ y, f.Bad[i]? = some y → lO (unds f set) y = true) : true = isCons f set := by unfold isCons; rw [h, all_of_idx hb]; rfl
theorem unds_at {f : Frame} {set : Int} {k : Nat} {x : Bool} (h : (unds f set)[k]? = some x) : lbs (undB f set) k = x := by
  have hk : k < f.Beliefs.Nodes.toNat := by rw [← unds_len f set]; exact lt_of_some h
  unfold unds at h
  rw [vec_get hk] at h
  simpa using h
theorem unds_asc {f : Frame} {set : Int} {l : List Int} (h : isFrame f = true) (ha : asc l f.Beliefs.Nodes = true) : asc l ((unds f set).length : Int) = true := by
  have := isBeliefs_nodes (frame_b h)
  rw [unds_len, show ((f.Beliefs.Nodes.toNat : Nat) : Int) = f.Beliefs.Nodes by omega]
  exact ha
theorem DvA.done {f : Frame} {set : Int} {g : Nat → Bool} {k : Nat} (h : DvA f set g k) (hk : k = f.Assumed.length) : DvB f set g := by subst hk; exact h
theorem szB_small {b : Beliefs} (h : isBeliefs b = true) : szB b ≤ 1048576 := by
  have hl := isB_len h
  have hn := isBeliefs_nodes h
  have key : ∀ l : List Reason, (∀ r ∈ l, isReason r b.Nodes = true) → (l.map szR).sum ≤ 48 * l.length := by
    intro l
    induction l with
    | nil => intro _; simp
    | cons r l ih =>
      intro hl
      have h1 := hl r (by simp)
      have h2 := ih (fun r hr => hl r (by simp [hr]))
      have a1 := asc_len (isR_in h1)
      have a2 := asc_len (isR_out h1)
      simp only [List.map_cons, List.sum_cons, List.length_cons, szR]
      omega
  have := key b.Reasons (fun r hr => okB_m (isB_ok2 h) hr)
  unfold szB szRs
  omega
def cFr (a : Frame) : Nat := sumC cR a.Beliefs.Reasons + a.Assumed.length + a.Bad.length
def mkFr (k : Int) (a : Frame) : Frame := ⟨mkB k a.Beliefs, mkI (k + sumC cR a.Beliefs.Reasons) a.Assumed, mkI (k + sumC cR a.Beliefs.Reasons + a.Assumed.length) a.Bad⟩
theorem szF_c (f : Frame) : cFr f ≤ szF f := by
  have := szB_sum f.Beliefs
  unfold cFr szF
  omega
end Go.Sy
