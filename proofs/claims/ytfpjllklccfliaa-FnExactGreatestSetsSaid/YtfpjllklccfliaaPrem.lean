/-
  Premises made of assumptions.
  Conditions: none.
-/
import Derived.Test.YtfpjllklccfliaaRep
namespace Go.Sy

def pfOk (f : Frame) : Bool := isFrame f && decide (f.Beliefs.Reasons.length + f.Assumed.length ≤ 60)
def pfT (f : Frame) (k : Nat) : List Reason := f.Beliefs.Reasons ++ (f.Assumed.take k).map prem
def pfLT (f : Frame) (k : Nat) : List Int := (List.range k).map (fun i => ((f.Beliefs.Reasons.length + i : Nat) : Int))
def pfB (f : Frame) : Beliefs := if pfOk f then ⟨f.Beliefs.Nodes, f.Beliefs.Reasons ++ f.Assumed.map prem⟩ else ⟨0, []⟩
def pfL (f : Frame) : List Int := if pfOk f then pfLT f f.Assumed.length else []
theorem pfT_zero (f : Frame) : f.Beliefs.Reasons = pfT f 0 := by simp [pfT]
theorem pfT_step {f : Frame} {k : Nat} {x : Int} (h : f.Assumed[k]? = some x) : pfT f k ++ [⟨x, [], []⟩] = pfT f (k + 1) := by
  unfold pfT
  rw [take_snoc h, List.map_append, ← List.append_assoc]; rfl
theorem pfT_len {f : Frame} {k : Nat} (h : k ≤ f.Assumed.length) : (pfT f k).length = f.Beliefs.Reasons.length + k := by
  unfold pfT
  rw [List.length_append, List.length_map, List.length_take]
  omega
theorem pfLT_step {f : Frame} {k : Nat} (h : k ≤ f.Assumed.length) : pfLT f k ++ [((pfT f k).length : Int)] = pfLT f (k + 1) := by
  unfold pfLT
  rw [List.range_succ, List.map_append, pfT_len h]; rfl
theorem pfLT_len (f : Frame) (k : Nat) : (pfLT f k).length = k := by simp [pfLT]
theorem pf_f {f : Frame} (h : pfOk f = false) : (⟨0, []⟩ : Beliefs) = pfB f ∧ [] = pfL f ∧ false = pfOk f := by
  unfold pfB pfL
  rw [h]
  exact ⟨rfl, rfl, rfl⟩
theorem pf_1 {f : Frame} (h : isFrame f = false) : pfOk f = false := by simp [pfOk, h]
theorem pf_2 {f : Frame} (h : ¬ f.Beliefs.Reasons.length + f.Assumed.length ≤ 60) : pfOk f = false := by
  unfold pfOk
  rw [decide_eq_false h]; simp
theorem pf_t {f : Frame} {k : Nat} (h : isFrame f = true) (h2 : f.Beliefs.Reasons.length + f.Assumed.length ≤ 60) (hk : k = f.Assumed.length) : (⟨f.Beliefs.Nodes, pfT f k⟩ : Beliefs) = pfB f ∧ pfLT f k = pfL f ∧ true = pfOk f := by
  subst hk
  have ok : pfOk f = true := by unfold pfOk; rw [h, decide_eq_true h2]; rfl
  unfold pfB pfL
  rw [ok]
  refine ⟨?_, rfl, rfl⟩
  unfold pfT
  rw [List.take_length]; rfl
theorem sumC_prem (l : List Int) : sumC cR (l.map prem) = l.length := by
  induction l with
  | nil => rfl
  | cons x l ih => simp only [sumC, List.map_cons, List.sum_cons, List.length_cons] at ih ⊢; rw [ih]; simp [cR, prem]; omega
theorem pfB_sum (f : Frame) : sumC cR (pfB f).Reasons ≤ cFr f := by
  unfold pfB
  split
  · show sumC cR (f.Beliefs.Reasons ++ f.Assumed.map prem) ≤ cFr f
    have : sumC cR (f.Beliefs.Reasons ++ f.Assumed.map prem) = sumC cR f.Beliefs.Reasons + sumC cR (f.Assumed.map prem) := by simp [sumC]
    rw [this, sumC_prem]
    unfold cFr
    omega
  · exact Nat.zero_le _
theorem pfL_len (f : Frame) : (pfL f).length ≤ cFr f := by
  unfold pfL
  split
  · rw [pfLT_len]; unfold cFr; omega
  · exact Nat.zero_le _
end Go.Sy
