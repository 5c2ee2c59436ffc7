/-
  Facts put into a memory and taken out of it.
  Conditions: those that each theorem states.
-/
import Derived.Test.YtkbiaedfnpbpfaaGreatDoorCho
namespace Go.Sy
open Go
def wrE (e : Engine) (kind : Int) (rule : ByteArray) (f : Fact) : Engine := ⟨e.Rules, e.Memory, e.Clock, e.Fired, e.Halted, e.Log ++ [⟨kind, rule, f⟩]⟩
def drL (l : List Stamp) (f : Fact) : List Stamp := l.filter (fun x => !decide (x.Fact = f))
def dropE (e : Engine) (f : Fact) (kind : Int) (rule : ByteArray) : Engine := ⟨e.Rules, drL e.Memory f, e.Clock, e.Fired, e.Halted, e.Log ++ [⟨kind, rule, f⟩]⟩
theorem drL_z (l : List Stamp) (f : Fact) : [] = drL (l.take 0) f := by simp [drL]
theorem drL_t {l : List Stamp} {f : Fact} {k : Nat} {x : Stamp} (h : l[k]? = some x) (e : x.Fact ≠ f) : drL (l.take k) f ++ [x] = drL (l.take (k + 1)) f := by unfold drL; rw [take_snoc h, List.filter_append]; simp [e]
theorem drL_f {l : List Stamp} {f : Fact} {k : Nat} {x : Stamp} (h : l[k]? = some x) (e : x.Fact = f) : drL (l.take k) f = drL (l.take (k + 1)) f := by unfold drL; rw [take_snoc h, List.filter_append]; simp [e]
theorem drL_len (l : List Stamp) (f : Fact) (k : Nat) : (drL (l.take k) f).length ≤ k := by
  have h1 := List.length_filter_le (fun x : Stamp => !decide (x.Fact = f)) (l.take k)
  have h2 : (l.take k).length ≤ k := by rw [List.length_take]; omega
  unfold drL
  omega
theorem drL_end {l : List Stamp} {f : Fact} {k : Nat} (h : l.length ≤ k) : drL (l.take k) f = drL l f := by rw [List.take_of_length_le h]
/-! ### what PutFact and TakeFact give -/
def takB (e : Engine) (f : Fact) : Bool := isEngB e && hasSt e.Memory f && decide (e.Log.length < 500)
def takE (e : Engine) (f : Fact) : Engine := if takB e f = true then dropE e f 2 ⟨#[]⟩ else e
theorem tak_y {e : Engine} {f : Fact} (h : takB e f = true) : dropE e f 2 ⟨#[]⟩ = takE e f ∧ true = takB e f := by simp [takE, h]
theorem tak_n {e : Engine} {f : Fact} (h : takB e f = false) : e = takE e f ∧ false = takB e f := by simp [takE, h]
theorem eng_parts {e : Engine} (h : isEngB e = true) : isMemB e.Memory = true ∧ areRulesB e.Rules = true ∧ 0 ≤ e.Clock ∧ e.Clock ≤ 200 ∧ e.Fired.length ≤ 40 ∧ e.Log.length ≤ 500 ∧ e.Memory.length ≤ 24 := by
  have h0 := h
  unfold isEngB at h
  simp only [Bool.and_eq_true, decide_eq_true_eq, inR] at h
  obtain ⟨h1, h2, h3, h4, h5, _⟩ := h
  have hm := h2
  unfold isMemB areFactsB at hm
  simp only [Bool.and_eq_true, decide_eq_true_eq, List.length_map] at hm
  refine ⟨h2, h1, by omega, by omega, by omega, by omega, hm.2.1⟩
theorem tk_y {e : Engine} {f : Fact} (h1 : isEngB e = true) (h3 : hasSt e.Memory f = true) (h6 : e.Log.length < 500) : takB e f = true := by simp [takB, h1, h3, h6]
theorem tk_s {e : Engine} {f : Fact} (h1 : isEngB e = true) (h3 : timeOf e.Memory f ≠ 0) (h6 : e.Log.length ≠ 500) : takB e f = true := by
  have hp := eng_parts h1
  exact tk_y h1 (by rw [(time_pos hp.1 f).1, decide_eq_true_eq]; exact h3) (by omega)
theorem tk_n1 {e : Engine} {f : Fact} (h : isEngB e = false) : takB e f = false := by simp [takB, h]
theorem tk_n2 {e : Engine} {f : Fact} (h : hasSt e.Memory f = false) : takB e f = false := by simp [takB, h]
theorem tk_n2s {e : Engine} {f : Fact} (h : timeOf e.Memory f = 0) : takB e f = false := by
  cases h1 : isEngB e with
  | false => exact tk_n1 h1
  | true => exact tk_n2 (by rw [(time_pos (eng_parts h1).1 f).1, h]; simp)
theorem tk_n3 {e : Engine} {f : Fact} (h : ¬ e.Log.length < 500) : takB e f = false := by simp only [takB, decide_eq_false h, Bool.and_false]
/-! ### how much is marked -/
theorem cFi_sum (l : List Firing) : sumC cFi l ≤ 4 * szL szFiring l := by
  have := sum_le (c := cFi) (d := szFiring) (m := 1) (fun x => by unfold cFi szFiring; omega) l
  unfold szL; omega
theorem cEv_sum (l : List Event) : sumC cEv l ≤ 4 * szL szEv l := by
  have := sum_le (c := cEv) (d := szEv) (m := 3) (fun x => by unfold cEv szEv szFa szSs; omega) l
  unfold szL; omega
theorem cEn_le (e : Engine) : cEn e ≤ 4 * szEngine e := by
  have h1 := cRu_sum e.Rules
  have h2 := cSt_sum e.Memory
  have h3 := cFi_sum e.Fired
  have h4 := cEv_sum e.Log
  unfold cEn szEngine; omega
theorem cF1_le (f : Fact) : f.Args.length ≤ szFa f := by unfold szFa szSs; omega
theorem sumC_app {α : Type} (c : α → Nat) (l m : List α) : sumC c (l ++ m) = sumC c l + sumC c m := by simp [sumC]
theorem sumC_one {α : Type} (c : α → Nat) (x : α) : sumC c [x] = c x := by simp [sumC]
theorem drL_sum (l : List Stamp) (f : Fact) : sumC cSt (drL l f) ≤ sumC cSt l := by
  induction l with
  | nil => simp [drL]
  | cons x l ih =>
    have e : sumC cSt (x :: l) = cSt x + sumC cSt l := by simp [sumC]
    unfold drL at ih ⊢
    rw [List.filter_cons]
    split
    · have e2 : ∀ m : List Stamp, sumC cSt (x :: m) = cSt x + sumC cSt m := fun m => by simp [sumC]
      rw [e2, e]; omega
    · omega
theorem cEn_tak (e : Engine) (f : Fact) : cEn (takE e f) ≤ cEn e + 2 * f.Args.length + 5 := by
  unfold takE
  split
  · have h1 := drL_sum e.Memory f
    have e2 : cEv ⟨2, ⟨#[]⟩, f⟩ = 3 + f.Args.length := rfl
    simp only [cEn, dropE, sumC_app, sumC_one]
    omega
  · omega
end Go.Sy
