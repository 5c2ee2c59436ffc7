/-
  Plain facts behind the laws FnWithdrawn and FnFounded: what their loops keep.
  Conditions: those that each theorem states.
-/
import Derived.Test.YtkdghbglefhcjaaLw3
namespace Go.Sy
theorem outs_f {l : List Reason} {k : Nat} {q : Reason} (h : ∀ i, i < k → ∀ r, l[i]? = some r → r.Out = []) (hr : l[k]? = some q) : decide ((0 : Int) < ((q.Out.length : Nat) : Int)) = false → ∀ i, i < k + 1 → ∀ r, l[i]? = some r → r.Out = [] := by
  intro h0 i hi r hri
  by_cases e : i = k
  · subst e
    rw [hr] at hri
    cases hri
    have := of_decide_eq_false h0
    exact List.eq_nil_of_length_eq_zero (by omega)
  · exact h i (by omega) r hri
theorem cons_noK {b : Beliefs} {k y : Int} {j m : Nat} {v : Bool} (hy : (conseq b k)[j]? = some y) (h : ∀ i, i < m → ∀ r, b.Reasons[i]? = some r → r.Out = []) (hm : b.Reasons.length ≤ m) (hv : (labelsOf b)[y.toNat]? = some v) : v = true := by
  have hq := cons_no hy (fun r hr => by
    obtain ⟨i, hi⟩ := List.getElem?_of_mem hr
    exact h i (by have := lt_of_some hi; omega) r hi)
  rw [lab_at (cons_mem hy).1 hv]; exact hq
theorem fo_lenZ {b : Beliefs} (hst : isStrat b = true) {x : Nat} (hx : (x : Int) < b.Nodes) : decide ((0 : Int) < (((foundOf b x).length : Nat) : Int)) = lbs b x := by
  rw [← fo_len hst hx]
  congr 1
  exact propext ⟨fun h => by omega, fun h => by omega⟩
end Go.Sy
