/-
  The first reason of a node; labels.
  Conditions: none.
-/
import Derived.Test.YtkdghbglefhcjaaRounds
namespace Go.Sy

def firstI {α : Type} (p : α → Bool) : List α → Nat → Int
  | [], _ => -1
  | x :: l, k => if p x then (k : Int) else firstI p l (k + 1)
theorem firstI_y {α : Type} {p : α → Bool} : ∀ {l : List α} {k q : Nat} {x : α}, (∀ i, i < k → ∀ y, l[i]? = some y → p y = false) → l[k]? = some x → p x = true → firstI p l q = ((q + k : Nat) : Int)
  | [], _, _, _, _, h, _ => by simp at h
  | z :: l, 0, q, x, _, h, hp => by
    simp only [List.getElem?_cons_zero, Option.some.injEq] at h
    subst h
    unfold firstI
    rw [if_pos hp]; rfl
  | z :: l, k + 1, q, x, hb, h, hp => by
    have h0 := hb 0 (by omega) z rfl
    unfold firstI
    rw [if_neg (by simp [h0])]
    rw [firstI_y (k := k) (x := x) (fun i hi y hy => hb (i + 1) (by omega) y (by simpa using hy)) (by simpa using h) hp]
    congr 1
    omega
theorem firstI_n {α : Type} {p : α → Bool} : ∀ {l : List α} {q : Nat}, (∀ i, i < l.length → ∀ y, l[i]? = some y → p y = false) → firstI p l q = -1
  | [], _, _ => rfl
  | z :: l, q, hb => by
    have h0 := hb 0 (by simp) z rfl
    unfold firstI
    rw [if_neg (by simp [h0])]
    exact firstI_n (fun i hi y hy => hb (i + 1) (by simp; omega) y (by simpa using hy))
theorem firstI_cases {α : Type} (p : α → Bool) : ∀ (l : List α) (q : Nat), firstI p l q = -1 ∨ ∃ k x, l[k]? = some x ∧ p x = true ∧ firstI p l q = ((q + k : Nat) : Int)
  | [], _ => .inl rfl
  | z :: l, q => by
    unfold firstI
    by_cases h : p z = true
    · rw [if_pos h]
      exact .inr ⟨0, z, rfl, h, rfl⟩
    · rw [if_neg h]
      rcases firstI_cases p l (q + 1) with h | ⟨k, x, h1, h2, h3⟩
      · exact .inl h
      · exact .inr ⟨k + 1, x, by simpa using h1, h2, by rw [h3]; congr 1; omega⟩

def hasFor (l : List Int) (x : Int) (r : Reason) : Bool := decide (r.For = x) && supL r l (atZ l x.toNat)
def suppL (b : Beliefs) (l : List Int) (x : Int) : Int := if 0 ≤ x ∧ x < b.Nodes ∧ 0 ≤ atZ l x.toNat then firstI (hasFor l x) b.Reasons 0 else -1
theorem supp_n1 {b : Beliefs} {l : List Int} {x : Int} (h : ¬ (0 ≤ x ∧ x < b.Nodes)) : -1 = suppL b l x := by
  unfold suppL
  rw [if_neg (fun h2 => h ⟨h2.1, h2.2.1⟩)]
theorem supp_n2 {b : Beliefs} {l : List Int} {x z : Int} (hz : l[x.toNat]? = some z) (h : z < 0) : -1 = suppL b l x := by
  unfold suppL
  rw [atZ_of hz, if_neg (by omega)]
theorem supp_y {b : Beliefs} {l : List Int} {x z : Int} {k : Nat} {r : Reason} (h0 : 0 ≤ x ∧ x < b.Nodes) (hz : l[x.toNat]? = some z) (h : 0 ≤ z) (hb : ∀ i, i < k → ∀ r, b.Reasons[i]? = some r → hasFor l x r = false) (hr : b.Reasons[k]? = some r) (hp : hasFor l x r = true) : (k : Int) = suppL b l x := by
  unfold suppL
  rw [atZ_of hz, if_pos (by omega), firstI_y hb hr hp]
  congr 1
  omega
theorem supp_n3 {b : Beliefs} {l : List Int} {x : Int} (hb : ∀ i, i < b.Reasons.length → ∀ r, b.Reasons[i]? = some r → hasFor l x r = false) : -1 = suppL b l x := by
  unfold suppL
  rw [firstI_n hb]
  split <;> rfl
theorem hasFor_t {l : List Int} {x z : Int} {r : Reason} (hz : l[x.toNat]? = some z) (h : r.For = x) (hs : supL r l z = true) : hasFor l x r = true := by
  unfold hasFor
  rw [atZ_of hz, hs, decide_eq_true h]; rfl
theorem hasFor_f1 {l : List Int} {x : Int} {r : Reason} (h : r.For ≠ x) : hasFor l x r = false := by
  unfold hasFor
  rw [decide_eq_false h]; rfl
theorem hasFor_f2 {l : List Int} {x z : Int} {r : Reason} (hz : l[x.toNat]? = some z) (h : supL r l z = false) : hasFor l x r = false := by
  unfold hasFor
  rw [atZ_of hz, h]; simp
theorem supL_p1 {r : Reason} {l : List Int} {rd : Int} (h : r.In.all (befL l rd) = false) : supL r l rd = false := by unfold supL; rw [h]; rfl
theorem supL_p2 {r : Reason} {l : List Int} {rd : Int} (h : r.Out.all (nonL l) = false) : supL r l rd = false := by unfold supL; rw [h]; simp
theorem supL_p3 {r : Reason} {l : List Int} {rd : Int} (h : r.In.all (befL l rd) = true) (h2 : r.Out.all (nonL l) = true) : supL r l rd = true := by unfold supL; rw [h, h2]; rfl
noncomputable def suppOf (b : Beliefs) (x : Int) : Int := if isStrat b then suppL b (roundsOf b) x else -1
theorem suppOf_f {b : Beliefs} {x : Int} (h : isStrat b = false) : -1 = suppOf b x := by unfold suppOf; rw [h]; rfl
theorem suppOf_t {b : Beliefs} {x : Int} (h : isStrat b = true) : suppL b (roundsOf b) x = suppOf b x := by unfold suppOf; rw [if_pos h]
theorem roundsOf_n {b : Beliefs} (h : isStrat b = true) : (roundsOf b).length = b.Nodes.toNat := by rw [roundsOf_t h, vec_len]
theorem roundsOf_in {b : Beliefs} {x : Int} (h : inR x 0 (((roundsOf b).length : Int) - 1) = true) : isStrat b = true ∧ 0 ≤ x ∧ x < b.Nodes ∧ (roundsOf b).length = b.Nodes.toNat := by
  have h2 := inR_t h
  cases hs : isStrat b with
  | false => rw [← roundsOf_f hs] at h2; simp at h2; omega
  | true =>
    have := roundsOf_n hs
    have := isBeliefs_nodes (strat_b hs)
    exact ⟨rfl, by omega, by omega, by assumption⟩
theorem roundsOf_out {b : Beliefs} {x : Int} (h : inR x 0 (((roundsOf b).length : Int) - 1) = false) : -1 = suppOf b x := by
  have h2 := inR_f h
  cases hs : isStrat b with
  | false => exact suppOf_f hs
  | true =>
    rw [← suppOf_t hs]
    refine supp_n1 ?_
    have := roundsOf_n hs
    have := isBeliefs_nodes (strat_b hs)
    omega
theorem suppL_rng (b : Beliefs) (l : List Int) (x : Int) : suppL b l x = -1 ∨ ∃ (k : Nat) (r : Reason), suppL b l x = (k : Int) ∧ b.Reasons[k]? = some r ∧ hasFor l x r = true ∧ 0 ≤ x ∧ x < b.Nodes ∧ 0 ≤ atZ l x.toNat := by
  unfold suppL
  split
  · rename_i h
    rcases firstI_cases (hasFor l x) b.Reasons 0 with h1 | ⟨k, r, h1, h2, h3⟩
    · exact .inl h1
    · refine .inr ⟨k, r, by rw [h3]; congr 1; omega, h1, h2, h⟩
  · exact .inl rfl

/-! ### labels -/
noncomputable def lbs (b : Beliefs) : Nat → Bool := nn (rnds b)
theorem vec_snoc {α : Type} (k : Nat) (g : Nat → α) : vec k g ++ [g k] = vec (k + 1) g := by
  unfold vec
  rw [List.range_succ, List.map_append]; rfl
noncomputable def labelsOf (b : Beliefs) : List Bool := if isStrat b then vec b.Nodes.toNat (lbs b) else []
theorem labelsOf_f {b : Beliefs} (h : isStrat b = false) : [] = labelsOf b := by unfold labelsOf; rw [h]; rfl
theorem labelsOf_t {b : Beliefs} (h : isStrat b = true) : labelsOf b = vec b.Nodes.toNat (lbs b) := by unfold labelsOf; rw [if_pos h]
theorem labelsOf_len {b : Beliefs} : (labelsOf b).length ≤ 24 := by
  cases h : isStrat b with
  | false => rw [← labelsOf_f h]; simp
  | true =>
    rw [labelsOf_t h, vec_len]
    have := isBeliefs_nodes (strat_b h)
    omega
def lbL (l : List Int) (k : Nat) : List Bool := vec k (fun x => decide (0 ≤ atZ l x))
theorem lbL_step {l : List Int} {k : Nat} {z : Int} (h : l[k]? = some z) : lbL l k ++ [decide (0 ≤ z)] = lbL l (k + 1) := by
  unfold lbL
  rw [← vec_snoc, atZ_of h]
theorem lbL_len (l : List Int) (k : Nat) : (lbL l k).length = k := vec_len _ _
theorem lbL_done {b : Beliefs} {k : Nat} (h : k = (roundsOf b).length) : lbL (roundsOf b) k = labelsOf b := by
  subst h
  cases hs : isStrat b with
  | false => rw [← labelsOf_f hs, ← roundsOf_f hs]; rfl
  | true =>
    rw [labelsOf_t hs, roundsOf_t hs]
    unfold lbL
    rw [vec_len]
    exact vec_congr fun x hx => by rw [atZ_vec hx]; rfl
end Go.Sy
