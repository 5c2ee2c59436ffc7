/-
  Times of facts, choices: what they are; marks in matches and choices.
  Conditions: those that each theorem states.
-/
import Derived.Test.YtkbiaedfnpbpfaaGreatDoorMk
import Derived.Test.YtkbiaedfnpbpfaaGreatDoorMem2
import Derived.Test.YtkbiaedfnpbpfaaGreatDoorApm
import Derived.Test.YtkbiaedfnpbpfaaGreatDoorTypes
namespace Go.Sy
open Go
instance : Flt Pair := ⟨fun h => by
  obtain ⟨c1, c2, e, h1, h2⟩ := h
  exact ⟨c1, c2, [], [], e, rfl, ⟨h1, rfl⟩, ⟨h2, rfl⟩⟩⟩
/-! ### the first one of a list -/
theorem find_first {α : Type} {p : α → Bool} : ∀ {l : List α} {k : Nat} {x : α}, l[k]? = some x → p x = true → (∀ i, i < k → ∀ y, l[i]? = some y → p y = false) → l.find? p = some x
  | [], k, x, h, _, _ => by simp at h
  | y :: l, 0, x, h, hp, _ => by
    simp only [List.getElem?_cons_zero, Option.some.injEq] at h
    subst h
    simp [List.find?, hp]
  | y :: l, k + 1, x, h, hp, hi => by
    simp only [List.getElem?_cons_succ] at h
    have h0 := hi 0 (by omega) y rfl
    simp only [List.find?, h0]
    exact find_first h hp (fun i hik z hz => hi (i + 1) (by omega) z (by simpa using hz))
theorem find_none {α : Type} {p : α → Bool} {l : List α} (hi : ∀ i, i < l.length → ∀ y, l[i]? = some y → p y = false) : l.find? p = none := by
  rw [List.find?_eq_none]
  intro x hx
  obtain ⟨i, h⟩ := List.getElem?_of_mem hx
  simp [hi i (List.getElem?_eq_some_iff.1 h).1 x h]
/-! ### times -/
def stOf (l : List Stamp) (f : Fact) : Option Stamp := l.find? (fun s => decide (s.Fact = f))
def timeOf (l : List Stamp) (f : Fact) : Int := match stOf l f with | some s => s.Time | none => 0
def hasSt (l : List Stamp) (f : Fact) : Bool := (stOf l f).isSome
theorem stOf_t {l : List Stamp} {f : Fact} {k : Nat} {s : Stamp} (h : l[k]? = some s) (e : s.Fact = f) (hi : ∀ i, i < k → ∀ y, l[i]? = some y → y.Fact ≠ f) : stOf l f = some s :=
  find_first h (by simp [e]) (fun i hk y hy => by simp [hi i hk y hy])
theorem stOf_n {l : List Stamp} {f : Fact} (hi : ∀ i, i < l.length → ∀ y, l[i]? = some y → y.Fact ≠ f) : stOf l f = none := find_none (fun i hk y hy => by simp [hi i hk y hy])
theorem timeOf_t {l : List Stamp} {f : Fact} {k : Nat} {s : Stamp} (h : l[k]? = some s) (e : s.Fact = f) (hi : ∀ i, i < k → ∀ y, l[i]? = some y → y.Fact ≠ f) : s.Time = timeOf l f := by unfold timeOf; rw [stOf_t h e hi]
theorem timeOf_n {l : List Stamp} {f : Fact} (hi : ∀ i, i < l.length → ∀ y, l[i]? = some y → y.Fact ≠ f) : 0 = timeOf l f := by unfold timeOf; rw [stOf_n hi]
theorem hasSt_t {l : List Stamp} {f : Fact} {k : Nat} {s : Stamp} (h : l[k]? = some s) (e : s.Fact = f) (hi : ∀ i, i < k → ∀ y, l[i]? = some y → y.Fact ≠ f) : true = hasSt l f := by unfold hasSt; rw [stOf_t h e hi]; rfl
theorem hasSt_n {l : List Stamp} {f : Fact} (hi : ∀ i, i < l.length → ∀ y, l[i]? = some y → y.Fact ≠ f) : false = hasSt l f := by unfold hasSt; rw [stOf_n hi]; rfl
theorem mem_times {l : List Stamp} (h : isMemB l = true) {s : Stamp} (hs : s ∈ l) : 1 ≤ s.Time ∧ s.Time ≤ 200 := by
  obtain ⟨i, hi⟩ := List.getElem?_of_mem hs
  simp only [isMemB, Bool.and_eq_true, List.all_eq_true] at h
  have := h.1 i (by simp only [List.mem_range]; exact (List.getElem?_eq_some_iff.1 hi).1)
  simp only [timeAt, hi, Bool.and_eq_true, inR, decide_eq_true_eq] at this
  omega
theorem time_pos {l : List Stamp} (h : isMemB l = true) (f : Fact) : hasSt l f = decide (timeOf l f ≠ 0) ∧ 0 ≤ timeOf l f ∧ timeOf l f ≤ 200 := by
  unfold hasSt timeOf
  cases e : stOf l f with
  | none => simp
  | some s =>
    have := mem_times h (List.mem_of_find?_eq_some e)
    simp
    omega
/-! ### how specific a rule is -/
/-! ### choices -/
/-! ### marks -/
def mkF1 (k : Int) (f : Fact) : Fact := ⟨f.Rel, mkSs k f.Args⟩
theorem cSt_sum (l : List Stamp) : sumC cSt l ≤ 4 * szL szStamp l := by
  have := sum_le (c := cSt) (d := szStamp) (m := 2) (fun x => by unfold cSt szStamp szFa szSs; omega) l
  unfold szL; omega
end Go.Sy
