/-
  Plain facts behind the laws over drawn beliefs.
  Conditions: those that each theorem states.
-/
import Derived.Test.YtkdghbglefhcjaaOne
import Derived.Test.YtkdghbglefhcjaaDraw
namespace Go.Sy
section
variable {b : Beliefs} {r : Reason} {y z1 z2 : Int} {k m : Nat}
theorem lw_in (hst : isStrat b = true) (hr : b.Reasons[k]? = some r) (hy : r.In[m]? = some y) (h1 : (strataOf b)[r.For.toNat]? = some z1) (h2 : (strataOf b)[y.toNat]? = some z2) : z2 ≤ z1 := by
  rw [strO_at hst h1, strO_at hst h2]
  exact ((strat_sol (strat_has hst)).2 r (List.mem_of_getElem? hr)).1 y (List.mem_of_getElem? hy)
theorem lw_out (hst : isStrat b = true) (hr : b.Reasons[k]? = some r) (hy : r.Out[m]? = some y) (h1 : (strataOf b)[r.For.toNat]? = some z1) (h2 : (strataOf b)[y.toNat]? = some z2) : z2 + 1 ≤ z1 := by
  rw [strO_at hst h1, strO_at hst h2]
  exact ((strat_sol (strat_has hst)).2 r (List.mem_of_getElem? hr)).2 y (List.mem_of_getElem? hy)
theorem lw_dn (hst : isStrat b = true) (hr : b.Reasons[k]? = some r) (hy : r.Out[m]? = some y) : depOn b y r.For = false := by
  have h := hst
  unfold isStrat at h
  rw [Bool.and_eq_true, List.all_eq_true] at h
  have h1 := h.2 r (List.mem_of_getElem? hr)
  unfold stR at h1
  rw [List.all_eq_true] at h1
  have h2 := h1 y (List.mem_of_getElem? hy)
  unfold stY at h2
  simp only [Bool.not_eq_true', Bool.or_eq_false_iff] at h2
  unfold depOn
  rw [h2.2]; simp
theorem lw_dy (hst : isStrat b = true) (hr : b.Reasons[k]? = some r) (hy : r.Out[m]? = some y) : depOn b r.For y = true := by
  have hb := strat_b hst
  have hR := isB_r hb hr
  have hF := isR_for hR
  have hY := asc_at (isR_out hR) hy
  rw [← depOn_y hb ⟨hF.1, hF.2, hY.1, hY.2⟩, dep_iff]
  exact .single (edge_m (List.mem_of_getElem? hr) hF.1 (.inr (List.mem_of_getElem? hy)) hY.1)
theorem firstI_no {α : Type} {p : α → Bool} : ∀ {l : List α} {q : Nat}, firstI p l q = -1 → ∀ x ∈ l, p x = false
  | [], _, _, _, h => by cases h
  | a :: l, q, h, x, hx => by
    unfold firstI at h
    split at h
    · omega
    · rename_i hp
      rcases List.mem_cons.1 hx with rfl | hx
      · simpa using hp
      · exact firstI_no h x hx
theorem lw_sup (hst : isStrat b = true) {x : Nat} {z : Int} (hx : (x : Int) < b.Nodes) (hz : (roundsOf b)[x]? = some z) : 0 ≤ suppOf b x ↔ 0 ≤ z := by
  have hb := strat_b hst
  have ho := isB_ok2 hb
  have hbn := okB_nodes ho
  constructor
  · intro h
    rcases spO_ok b x with h1 | ⟨k, r, h1, h2, h3, h4, h5, h6⟩
    · omega
    · rw [show ((x : Int)).toNat = x from by omega, atZ_of hz] at h6; exact h6
  · intro h
    have e := rdO_at hst hz
    obtain ⟨r, hr, hF, hs⟩ := (rnds_facts ho (strat_has hst)).f3 x (by omega)
    rw [← suppOf_t hst]
    rcases suppL_rng b (roundsOf b) x with h1 | ⟨k, r, h1, _⟩
    · exfalso
      unfold suppL at h1
      rw [show ((x : Int)).toNat = x from by omega, atZ_of hz, if_pos ⟨by omega, hx, h⟩] at h1
      have h2 := firstI_no h1 r hr
      have hR := okB_m ho hr
      obtain ⟨n, hn⟩ : ∃ n : Nat, b.Nodes = (n : Int) := ⟨b.Nodes.toNat, by omega⟩
      have hn2 : b.Nodes.toNat = n := by omega
      unfold hasFor at h2
      rw [show ((x : Int)).toNat = x from by omega, atZ_of hz, decide_eq_true hF, roundsOf_t hst, hn2, supL_vec (by rw [← hn]; exact hR), e, hs] at h2
      cases h2
    · rw [h1]; omega
theorem lw_supr (hst : isStrat b = true) {x : Nat} (h : 0 ≤ suppOf b x) : suppOf b x < b.Reasons.length := by
  rcases spO_ok b x with h1 | ⟨k, r, h1, h2, h3, h4, h5, h6⟩
  · omega
  · have := lt_of_some h2
    omega
theorem lw_supf {x : Nat} (h : 0 ≤ suppOf b x) (hr : b.Reasons[(suppOf b x).toNat]? = some r) : hasFor (roundsOf b) x r = true := by
  rcases spO_ok b x with h1 | ⟨k, r', h1, h2, h3, h4, h5, h6⟩
  · omega
  · rw [show (suppOf b x).toNat = k from by omega, h2] at hr
    cases hr
    exact h3
theorem lw_suF {x : Nat} (h : hasFor (roundsOf b) x r = true) : r.For = x := hasFor_for h
theorem lw_suI {x : Nat} {z : Int} (h : hasFor (roundsOf b) x r = true) (hy : r.In[m]? = some y) (h1 : (roundsOf b)[x]? = some z) (h2 : (roundsOf b)[y.toNat]? = some z2) : 0 ≤ z2 ∧ z2 < z := by
  have := hasFor_in h (List.mem_of_getElem? hy)
  rw [show ((x : Int)).toNat = x from by omega, atZ_of h1, atZ_of h2] at this
  exact this
theorem lw_suO {x : Nat} (h : hasFor (roundsOf b) x r = true) (hy : r.Out[m]? = some y) (h2 : (roundsOf b)[y.toNat]? = some z2) : z2 < 0 := by
  unfold hasFor at h
  rw [Bool.and_eq_true] at h
  have h3 := h.2
  unfold supL at h3
  rw [Bool.and_eq_true, List.all_eq_true, List.all_eq_true] at h3
  have h4 := h3.2 y (List.mem_of_getElem? hy)
  unfold nonL at h4
  rw [atZ_of h2] at h4
  exact of_decide_eq_true h4
end
end Go.Sy
