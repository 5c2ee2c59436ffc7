/-
  Facts put into a memory and taken out of it.
  Conditions: those that each theorem states.
-/
import Derived.Test.YtkbiaedfnpbpfaaGreatDoorCho
namespace Go.Sy
open Go
def addS (f : Fact) (s : Stamp) (p : List Stamp × Bool) (x : Stamp) : List Stamp × Bool := (if (!p.2 && decide (0 < cmpF x.Fact f)) = true then p.1 ++ [s] ++ [x] else p.1 ++ [x], p.2 || decide (0 < cmpF x.Fact f))
def addK (f : Fact) (s : Stamp) (l : List Stamp) (k : Nat) : List Stamp × Bool := (l.take k).foldl (addS f s) ([], false)
theorem addK_s {f : Fact} {s x : Stamp} {l : List Stamp} {k : Nat} (h : l[k]? = some x) : addK f s l (k + 1) = addS f s (addK f s l k) x := by
  unfold addK
  rw [take_snoc h, List.foldl_append]; rfl
theorem addK_z (f : Fact) (s : Stamp) (l : List Stamp) : [] = (addK f s l 0).1 := by simp [addK]
theorem addK_put {f : Fact} {s x : Stamp} {l : List Stamp} {k : Nat} (h : l[k]? = some x) (hd : (addK f s l k).2 = false) (hc : 0 < cmpF x.Fact f) : (addK f s l k).1 ++ [s] ++ [x] = (addK f s l (k + 1)).1 := by rw [addK_s h]; simp [addS, hd, hc]
theorem addK_k1 {f : Fact} {s x : Stamp} {l : List Stamp} {k : Nat} (h : l[k]? = some x) (hc : ¬ 0 < cmpF x.Fact f) : (addK f s l k).1 ++ [x] = (addK f s l (k + 1)).1 := by rw [addK_s h]; simp [addS, hc]
theorem addK_k2 {f : Fact} {s x : Stamp} {l : List Stamp} {k : Nat} (h : l[k]? = some x) (hd : (addK f s l k).2 = true) : (addK f s l k).1 ++ [x] = (addK f s l (k + 1)).1 := by rw [addK_s h]; simp [addS, hd]
theorem addK_d1 {f : Fact} {s x : Stamp} {l : List Stamp} {k : Nat} (h : l[k]? = some x) (hc : 0 < cmpF x.Fact f) : true = (addK f s l (k + 1)).2 := by rw [addK_s h]; simp [addS, hc]
theorem addK_d2 {f : Fact} {s x : Stamp} {l : List Stamp} {k : Nat} (h : l[k]? = some x) (hd : (addK f s l k).2 = true) : true = (addK f s l (k + 1)).2 := by rw [addK_s h]; simp [addS, hd]
theorem addK_d3 {f : Fact} {s x : Stamp} {l : List Stamp} {k : Nat} (h : l[k]? = some x) (hd : (addK f s l k).2 = false) (hc : ¬ 0 < cmpF x.Fact f) : false = (addK f s l (k + 1)).2 := by rw [addK_s h]; simp [addS, hd, hc]
theorem addK_dk1 {f : Fact} {s x : Stamp} {l : List Stamp} {k : Nat} {b : Bool} (h : l[k]? = some x) (hd : b = (addK f s l k).2) (hb : b = true) : b = (addK f s l (k + 1)).2 := by rw [hb]; exact addK_d2 h (hd.symm.trans hb)
theorem addK_dk2 {f : Fact} {s x : Stamp} {l : List Stamp} {k : Nat} {b : Bool} (h : l[k]? = some x) (hd : b = (addK f s l k).2) (hb : b = false) (hc : ¬ 0 < cmpF x.Fact f) : b = (addK f s l (k + 1)).2 := by rw [hb]; exact addK_d3 h (hd.symm.trans hb) hc
theorem addS_len (f : Fact) (s : Stamp) : ∀ (l : List Stamp) (p : List Stamp × Bool), (l.foldl (addS f s) p).1.length ≤ p.1.length + 2 * l.length
  | [], p => by simp
  | x :: l, p => by
    have ih := addS_len f s l (addS f s p x)
    have h1 : (addS f s p x).1.length ≤ p.1.length + 2 := by
      unfold addS
      simp only
      split <;> simp
    simp only [List.foldl_cons, List.length_cons]
    omega
theorem addK_len (f : Fact) (s : Stamp) (l : List Stamp) (k : Nat) : (addK f s l k).1.length ≤ 2 * k := by
  have := addS_len f s (l.take k) ([], false)
  have h2 : (l.take k).length ≤ k := by rw [List.length_take]; omega
  unfold addK
  simp only [List.length_nil] at this
  omega
def addL (f : Fact) (s : Stamp) (l : List Stamp) : List Stamp := if (addK f s l l.length).2 = true then (addK f s l l.length).1 else (addK f s l l.length).1 ++ [s]
theorem addL_t {f : Fact} {s : Stamp} {l : List Stamp} {k : Nat} (h1 : k ≤ l.length) (h2 : l.length ≤ k) (hd : (addK f s l k).2 = true) : (addK f s l k).1 = addL f s l := by
  have e : k = l.length := by omega
  subst e
  simp [addL, hd]
theorem addL_f {f : Fact} {s : Stamp} {l : List Stamp} {k : Nat} (h1 : k ≤ l.length) (h2 : l.length ≤ k) (hd : (addK f s l k).2 = false) : (addK f s l k).1 ++ [s] = addL f s l := by
  have e : k = l.length := by omega
  subst e
  simp [addL, hd]
def wrE (e : Engine) (kind : Int) (rule : ByteArray) (f : Fact) : Engine := ⟨e.Rules, e.Memory, e.Clock, e.Fired, e.Halted, e.Log ++ [⟨kind, rule, f⟩]⟩
def addE (e : Engine) (f : Fact) (kind : Int) (rule : ByteArray) : Engine := ⟨e.Rules, addL f ⟨f, e.Clock + 1⟩ e.Memory, e.Clock + 1, e.Fired, e.Halted, e.Log ++ [⟨kind, rule, f⟩]⟩
/-! ### what PutFact and TakeFact give -/
def putB (e : Engine) (f : Fact) : Bool := isEngB e && isFactB f && !hasSt e.Memory f && decide (e.Memory.length < 24) && decide (e.Clock < 200) && decide (e.Log.length < 500)
def putE (e : Engine) (f : Fact) : Engine := if putB e f = true then addE e f 1 ⟨#[]⟩ else e
theorem put_y {e : Engine} {f : Fact} (h : putB e f = true) : addE e f 1 ⟨#[]⟩ = putE e f ∧ true = putB e f := by simp [putE, h]
theorem put_n {e : Engine} {f : Fact} (h : putB e f = false) : e = putE e f ∧ false = putB e f := by simp [putE, h]
theorem eng_parts {e : Engine} (h : isEngB e = true) : isMemB e.Memory = true ∧ areRulesB e.Rules = true ∧ 0 ≤ e.Clock ∧ e.Clock ≤ 200 ∧ e.Fired.length ≤ 40 ∧ e.Log.length ≤ 500 ∧ e.Memory.length ≤ 24 := by
  have h0 := h
  unfold isEngB at h
  simp only [Bool.and_eq_true, decide_eq_true_eq, inR] at h
  obtain ⟨h1, h2, h3, h4, h5, _⟩ := h
  have hm := h2
  unfold isMemB areFactsB at hm
  simp only [Bool.and_eq_true, decide_eq_true_eq, List.length_map] at hm
  refine ⟨h2, h1, by omega, by omega, by omega, by omega, hm.2.1⟩
theorem pb_y {e : Engine} {f : Fact} (h1 : isEngB e = true) (h2 : isFactB f = true) (h3 : hasSt e.Memory f = false) (h4 : e.Memory.length < 24) (h5 : e.Clock < 200) (h6 : e.Log.length < 500) : putB e f = true := by simp [putB, h1, h2, h3, h4, h5, h6]
theorem pb_s {e : Engine} {f : Fact} (h1 : isEngB e = true) (h2 : isFactB f = true) (h3 : ¬ 0 < timeOf e.Memory f) (h4 : e.Memory.length ≠ 24) (h5 : e.Clock ≠ 200) (h6 : e.Log.length ≠ 500) : putB e f = true := by
  have hp := eng_parts h1
  have ht := time_pos hp.1 f
  refine pb_y h1 h2 ?_ (by omega) (by omega) (by omega)
  rw [ht.1, decide_eq_false_iff_not]
  omega
theorem pb_eng {e : Engine} {f : Fact} (h : putB e f = true) : isEngB e = true := by
  simp only [putB, Bool.and_eq_true] at h
  exact h.1.1.1.1.1
theorem pb_n1 {e : Engine} {f : Fact} (h : isEngB e = false) : putB e f = false := by simp [putB, h]
theorem pb_n2 {e : Engine} {f : Fact} (h : isFactB f = false) : putB e f = false := by simp [putB, h]
theorem pb_n3 {e : Engine} {f : Fact} (h : hasSt e.Memory f = true) : putB e f = false := by simp [putB, h]
theorem pb_n3s {e : Engine} {f : Fact} (h1 : isEngB e = true) (h : 0 < timeOf e.Memory f) : putB e f = false := pb_n3 (by
  rw [(time_pos (eng_parts h1).1 f).1, decide_eq_true_eq]
  omega)
theorem pb_n4 {e : Engine} {f : Fact} (h : ¬ e.Memory.length < 24 ∨ ¬ e.Clock < 200 ∨ ¬ e.Log.length < 500) : putB e f = false := by
  rcases h with h | h | h <;> simp only [putB, decide_eq_false h, Bool.and_false, Bool.false_and]
/-! ### how much is marked -/
theorem cFi_sum (l : List Firing) : sumC cFi l ≤ 4 * szL szFiring l := by
  have := sum_le (c := cFi) (d := szFiring) (m := 1) (fun x => by unfold cFi szFiring; omega) l
  unfold szL; omega
theorem cEv_sum (l : List Event) : sumC cEv l ≤ 4 * szL szEv l := by
  have := sum_le (c := cEv) (d := szEv) (m := 3) (fun x => by unfold cEv szEv szFa szSs; omega) l
  unfold szL; omega
theorem cEn_le (e : Engine) : cEn e ≤ 4 * szEngine e := by
  have h1 := cRu_sum e.Rules
  have h2 := cSt_sum e.Memory
  have h3 := cFi_sum e.Fired
  have h4 := cEv_sum e.Log
  unfold cEn szEngine; omega
theorem cF1_le (f : Fact) : f.Args.length ≤ szFa f := by unfold szFa szSs; omega
theorem sumC_app {α : Type} (c : α → Nat) (l m : List α) : sumC c (l ++ m) = sumC c l + sumC c m := by simp [sumC]
theorem sumC_one {α : Type} (c : α → Nat) (x : α) : sumC c [x] = c x := by simp [sumC]
theorem addS_sum (f : Fact) (s : Stamp) : ∀ (l : List Stamp) (p : List Stamp × Bool), sumC cSt (l.foldl (addS f s) p).1 + (bif (l.foldl (addS f s) p).2 then 0 else cSt s) ≤ sumC cSt p.1 + (bif p.2 then 0 else cSt s) + sumC cSt l
  | [], p => by simp [sumC]
  | x :: l, p => by
    have ih := addS_sum f s l (addS f s p x)
    have h1 : sumC cSt (addS f s p x).1 + (bif (addS f s p x).2 then 0 else cSt s) ≤ sumC cSt p.1 + (bif p.2 then 0 else cSt s) + cSt x := by
      obtain ⟨a, b⟩ := p
      unfold addS
      cases b <;> by_cases hc : 0 < cmpF x.Fact f
      · simp only [hc, decide_true, Bool.not_false, Bool.and_self, if_true, Bool.or_true, cond_true, cond_false, sumC_app, sumC_one]; omega
      · simp only [hc, decide_false, Bool.and_false, Bool.or_false, cond_false, sumC_app, sumC_one, Bool.false_eq_true, if_false]; omega
      · simp only [Bool.not_true, Bool.false_and, Bool.true_or, cond_true, sumC_app, sumC_one, Bool.false_eq_true, if_false]; omega
      · simp only [Bool.not_true, Bool.false_and, Bool.true_or, cond_true, sumC_app, sumC_one, Bool.false_eq_true, if_false]; omega
    have e : sumC cSt (x :: l) = cSt x + sumC cSt l := by simp [sumC]
    simp only [List.foldl_cons]
    omega
theorem addL_sum (f : Fact) (s : Stamp) (l : List Stamp) : sumC cSt (addL f s l) ≤ sumC cSt l + cSt s := by
  have := addS_sum f s l ([], false)
  unfold addL addK
  rw [List.take_of_length_le (Nat.le_refl _)]
  have e : sumC cSt ([] : List Stamp) = 0 := by simp [sumC]
  cases h : (l.foldl (addS f s) ([], false)).2 with
  | true =>
    rw [if_pos rfl]
    simp only [e, h, cond_true, cond_false] at this
    omega
  | false =>
    rw [if_neg (by simp), sumC_app, sumC_one]
    simp only [e, h, cond_false] at this
    omega
theorem cEn_put (e : Engine) (f : Fact) : cEn (putE e f) ≤ cEn e + 2 * f.Args.length + 5 := by
  unfold putE
  split
  · have h1 := addL_sum f ⟨f, e.Clock + 1⟩ e.Memory
    have e1 : cSt ⟨f, e.Clock + 1⟩ = 2 + f.Args.length := rfl
    have e2 : cEv ⟨1, ⟨#[]⟩, f⟩ = 3 + f.Args.length := rfl
    simp only [cEn, addE, sumC_app, sumC_one]
    omega
  · omega
end Go.Sy
