/-
  Times of facts, choices: what they are; marks in matches and choices.
  Conditions: those that each theorem states.
-/
import Derived.Test.YtobihkjhlopggaaGreatDoorRul
import Derived.Test.YtobihkjhlopggaaGreatDoorNum
import Derived.Test.YtobihkjhlopggaaGreatDoorApm
import Derived.Test.YtobihkjhlopggaaGreatDoorTypes
namespace Go.Sy
open Go
instance : Flt Pair := ⟨fun h => by
 obtain ⟨c1, c2, e, h1, h2⟩ := h;exact ⟨c1, c2, [], [], e, rfl, ⟨h1, rfl⟩, ⟨h2, rfl⟩⟩⟩
def szPair (p : Pair) : Nat := p.Var.size + p.Value.size
def okPair (p : Pair) : Prop := okS p.Var ∧ okS p.Value
def szMatch (m : Match) : Nat := m.Rule.size + szL szFa m.Facts + szL szPair m.Binding
def szChoice (c : Choice) : Nat := szMatch c.Match + c.Times.length
theorem find_first {α : Type} {p : α → Bool} : ∀ {l : List α} {k : Nat} {x : α}, l[k]? = some x → p x = true → (∀ i, i < k → ∀ y, l[i]? = some y → p y = false) → l.find? p = some x
 | [], k, x, h, _, _ => by simp at h
 | y :: l, 0, x, h, hp, _ => by
  simp only [List.getElem?_cons_zero, Option.some.injEq] at h;subst h;simp [List.find?, hp]
 | y :: l, k + 1, x, h, hp, hi => by
  simp only [List.getElem?_cons_succ] at h;have h0 := hi 0 (by omega) y rfl;simp only [List.find?, h0];exact find_first h hp (fun i hik z hz => hi (i + 1) (by omega) z (by simpa using hz))
theorem find_none {α : Type} {p : α → Bool} {l : List α} (hi : ∀ i, i < l.length → ∀ y, l[i]? = some y → p y = false) : l.find? p = none := by
 rw [List.find?_eq_none];intro x hx;obtain ⟨i, h⟩ := List.getElem?_of_mem hx;simp [hi i (List.getElem?_eq_some_iff.1 h).1 x h]
theorem cont_y {l : List Int} {x y : Int} {k : Nat} (h : l[k]? = some y) (e : y = x) : true = l.contains x := by
 subst e;exact (List.contains_iff_mem.2 (List.mem_of_getElem? h)).symm
theorem cont_n {l : List Int} {x : Int} (hi : ∀ i, i < l.length → l[i]? ≠ some x) : false = l.contains x := by
 symm
 rw [Bool.eq_false_iff];intro h;obtain ⟨i, e⟩ := List.getElem?_of_mem (List.contains_iff_mem.1 h);exact hi i (List.getElem?_eq_some_iff.1 e).1 e
def stOf (l : List Stamp) (f : Fact) : Option Stamp := l.find? (fun s => decide (s.Fact = f))
def timeOf (l : List Stamp) (f : Fact) : Int := match stOf l f with | some s => s.Time | none => 0
def hasSt (l : List Stamp) (f : Fact) : Bool := (stOf l f).isSome
theorem stOf_t {l : List Stamp} {f : Fact} {k : Nat} {s : Stamp} (h : l[k]? = some s) (e : s.Fact = f) (hi : ∀ i, i < k → ∀ y, l[i]? = some y → y.Fact ≠ f) : stOf l f = some s :=
 find_first h (by simp [e]) (fun i hk y hy => by simp [hi i hk y hy])
theorem stOf_n {l : List Stamp} {f : Fact} (hi : ∀ i, i < l.length → ∀ y, l[i]? = some y → y.Fact ≠ f) : stOf l f = none := find_none (fun i hk y hy => by simp [hi i hk y hy])
theorem timeOf_t {l : List Stamp} {f : Fact} {k : Nat} {s : Stamp} (h : l[k]? = some s) (e : s.Fact = f) (hi : ∀ i, i < k → ∀ y, l[i]? = some y → y.Fact ≠ f) : s.Time = timeOf l f := by unfold timeOf; rw [stOf_t h e hi]
theorem timeOf_n {l : List Stamp} {f : Fact} (hi : ∀ i, i < l.length → ∀ y, l[i]? = some y → y.Fact ≠ f) : 0 = timeOf l f := by unfold timeOf; rw [stOf_n hi]
theorem hasSt_t {l : List Stamp} {f : Fact} {k : Nat} {s : Stamp} (h : l[k]? = some s) (e : s.Fact = f) (hi : ∀ i, i < k → ∀ y, l[i]? = some y → y.Fact ≠ f) : true = hasSt l f := by unfold hasSt; rw [stOf_t h e hi]; rfl
theorem hasSt_n {l : List Stamp} {f : Fact} (hi : ∀ i, i < l.length → ∀ y, l[i]? = some y → y.Fact ≠ f) : false = hasSt l f := by unfold hasSt; rw [stOf_n hi]; rfl
theorem mem_times {l : List Stamp} (h : isMemB l = true) {s : Stamp} (hs : s ∈ l) : 1 ≤ s.Time ∧ s.Time ≤ 200 := by
 obtain ⟨i, hi⟩ := List.getElem?_of_mem hs;simp only [isMemB, Bool.and_eq_true, List.all_eq_true] at h;have := h.1 i (by simp only [List.mem_range]; exact (List.getElem?_eq_some_iff.1 hi).1);simp only [timeAt, hi, Bool.and_eq_true, inR, decide_eq_true_eq] at this;omega
theorem time_pos {l : List Stamp} (h : isMemB l = true) (f : Fact) : hasSt l f = decide (timeOf l f ≠ 0) ∧ 0 ≤ timeOf l f ∧ timeOf l f ≤ 200 := by
 unfold hasSt timeOf
 cases e : stOf l f with
 | none => simp
 | some s =>
  have := mem_times h (List.mem_of_find?_eq_some e);simp;omega
def timesOf (l : List Stamp) (fs : List Fact) : List Int := fs.map (timeOf l)
theorem timesOf_s {l : List Stamp} {fs : List Fact} {k : Nat} {f : Fact} (h : fs[k]? = some f) : timesOf l (fs.take k) ++ [timeOf l f] = timesOf l (fs.take (k + 1)) := by
 unfold timesOf;rw [take_snoc h, List.map_append]; rfl
theorem timesOf_len (l : List Stamp) (fs : List Fact) (k : Nat) : (timesOf l (fs.take k)).length ≤ k := by unfold timesOf; rw [List.length_map, List.length_take]; omega
theorem timesOf_z (l : List Stamp) (fs : List Fact) : [] = timesOf l (fs.take 0) := by simp [timesOf]
def atC (l : List ByteArray) : Nat := (l.filter isAtomB).length
def spC (x : Cond) : Nat := atC x.Pattern.Args
def specN (r : Rule) : Nat := r.If.length + sumC spC r.If
theorem atC_t {l : List ByteArray} {k : Nat} {a : ByteArray} (h : l[k]? = some a) (ha : isAtomB a = true) : atC (l.take k) + 1 = atC (l.take (k + 1)) := by unfold atC; rw [take_snoc h, List.filter_append]; simp [ha]
theorem atC_f {l : List ByteArray} {k : Nat} {a : ByteArray} (h : l[k]? = some a) (ha : isAtomB a = false) : atC (l.take k) = atC (l.take (k + 1)) := by unfold atC; rw [take_snoc h, List.filter_append]; simp [ha]
theorem atC_le (l : List ByteArray) : atC l ≤ l.length := List.length_filter_le _ _
theorem spC_end {x : Cond} {k : Nat} (h : x.Pattern.Args.length ≤ k) : atC (x.Pattern.Args.take k) = spC x := by unfold spC; rw [List.take_of_length_le h]
theorem spC_sum (l : List Cond) : sumC spC l ≤ sumC szCond l := by
 induction l with
 | nil => simp [sumC]
 | cons x l ih =>
  simp only [sumC, List.map_cons, List.sum_cons] at ih ⊢;have h1 := atC_le x.Pattern.Args;have h2 := szCond_args x;have h3 : spC x = atC x.Pattern.Args := rfl;omega
theorem spC_take (l : List Cond) (k : Nat) : sumC spC (l.take k) ≤ sumC spC l := sumC_take_le l spC k
def choR (rules : List Rule) (m : Match) : Rule := (rules[(findT rules m.Rule).toNat]?).getD ⟨⟨#[]⟩, 0, [], []⟩
def z0C : Choice := ⟨⟨⟨#[]⟩, [], []⟩, 0, [], 0, 0⟩
def choB (rules : List Rule) (l : List Stamp) (m : Match) : Bool := decide (0 ≤ findT rules m.Rule) && m.Facts.all (hasSt l)
def choV (rules : List Rule) (l : List Stamp) (m : Match) : Choice := ⟨m, (choR rules m).Priority, timesOf l m.Facts, (specN (choR rules m) : Int), findT rules m.Rule⟩
def choT (rules : List Rule) (l : List Stamp) (m : Match) : Choice := if choB rules l m = true then choV rules l m else z0C
theorem cho_n1 {rules : List Rule} {l : List Stamp} {m : Match} (h : findT rules m.Rule < 0) : choB rules l m = false := by unfold choB; rw [decide_eq_false (by omega)]; rfl
theorem cho_n2 {rules : List Rule} {l : List Stamp} {m : Match} {f : Fact} {i : Nat} (hf : m.Facts[i]? = some f) (h : hasSt l f = false) : choB rules l m = false := by
 unfold choB;have : m.Facts.all (hasSt l) = false := by
  rw [List.all_eq_false];exact ⟨f, List.mem_of_getElem? hf, by simp [h]⟩
 rw [this]; simp
theorem cho_y {rules : List Rule} {l : List Stamp} {m : Match} (h0 : 0 ≤ findT rules m.Rule) (hi : ∀ i, i < m.Facts.length → ∀ f, m.Facts[i]? = some f → hasSt l f = true) : choB rules l m = true := by
 unfold choB;rw [decide_eq_true h0];simp only [Bool.true_and, List.all_eq_true];intro f hf;obtain ⟨i, h⟩ := List.getElem?_of_mem hf;exact hi i (List.getElem?_eq_some_iff.1 h).1 f h
theorem choT_n {rules : List Rule} {l : List Stamp} {m : Match} (h : choB rules l m = false) : z0C = choT rules l m ∧ false = choB rules l m := by simp [choT, h]
theorem choT_y {rules : List Rule} {l : List Stamp} {m : Match} {r : Rule} (h : choB rules l m = true) (hr : rules[(findT rules m.Rule).toNat]? = some r) : (⟨m, r.Priority, timesOf l m.Facts, (specN r : Int), findT rules m.Rule⟩ : Choice) = choT rules l m ∧ true = choB rules l m := by
 simp [choT, h, choV, choR, hr]
def cho2B (rules : List Rule) (l : List Stamp) (m : Match) : Bool := areRulesB rules && isMemB l && choB rules l m
def cho2T (rules : List Rule) (l : List Stamp) (m : Match) : Choice := if cho2B rules l m = true then choV rules l m else z0C
theorem cho2_n {rules : List Rule} {l : List Stamp} {m : Match} (h : areRulesB rules = false ∨ isMemB l = false ∨ choB rules l m = false) : z0C = cho2T rules l m ∧ false = cho2B rules l m := by
 rcases h with h | h | h <;> simp [cho2T, cho2B, h]
theorem cho2_y {rules : List Rule} {l : List Stamp} {m : Match} (h1 : areRulesB rules = true) (h2 : isMemB l = true) : choT rules l m = cho2T rules l m ∧ choB rules l m = cho2B rules l m := by simp [cho2T, cho2B, choT, h1, h2]
theorem cho2_s {rules : List Rule} {l : List Stamp} {m : Match} {r : Rule} (h1 : areRulesB rules = true) (h2 : isMemB l = true) (h3 : 0 ≤ findT rules m.Rule) (h4 : (timesOf l m.Facts).contains 0 = false) (hr : rules[(findT rules m.Rule).toNat]? = some r) : (⟨m, r.Priority, timesOf l m.Facts, (specN r : Int), findT rules m.Rule⟩ : Choice) = cho2T rules l m ∧ true = cho2B rules l m := by
 have hy : choB rules l m = true := cho_y h3 (fun i hi f hf => by
  rw [(time_pos h2 f).1];rw [decide_eq_true_eq];intro e;have : (timesOf l m.Facts).contains 0 = true := List.contains_iff_mem.2 (by
   rw [← e];exact List.mem_map_of_mem (List.mem_of_getElem? hf))
  rw [h4] at this; cases this)
 have := choT_y hy hr;have h5 := cho2_y (m := m) h1 h2;exact ⟨this.1.trans h5.1, this.2.trans h5.2⟩
theorem cho2_m {rules : List Rule} {l : List Stamp} {m : Match} (h2 : isMemB l = true) (h4 : (timesOf l m.Facts).contains 0 = true) : z0C = cho2T rules l m ∧ false = cho2B rules l m := by
 refine cho2_n (.inr (.inr ?_));obtain ⟨f, hf, e⟩ := List.mem_map.1 (List.contains_iff_mem.1 h4);obtain ⟨i, hi⟩ := List.getElem?_of_mem hf;exact cho_n2 hi (by rw [(time_pos h2 f).1, e]; simp)
def fFa (k : Int) (f : Fact) : Fact := ⟨markS k, mkSs (k + 1) f.Args⟩
def cFa (f : Fact) : Nat := 1 + f.Args.length
theorem cFa_f (k : Int) (x : Fact) : cFa (fFa k x) = cFa x := by simp [cFa, fFa, mapS_len]
theorem fFa_f (k : Int) (x : Fact) : fFa k (fFa k x) = fFa k x := by simp only [fFa, mkS_idem]
abbrev mkFa (k : Int) (l : List Fact) : List Fact := mapS fFa cFa k l
def fPa (k : Int) (_ : Pair) : Pair := ⟨markS k, markS (k + 1)⟩
def cPa (_ : Pair) : Nat := 2
theorem cPa_f (k : Int) (x : Pair) : cPa (fPa k x) = cPa x := rfl
theorem fPa_f (k : Int) (x : Pair) : fPa k (fPa k x) = fPa k x := rfl
abbrev mkPa (k : Int) (l : List Pair) : List Pair := mapS fPa cPa k l
theorem cFa_sum (l : List Fact) : sumC cFa l ≤ 4 * szL szFa l := by
 have := sum_le (c := cFa) (d := szFa) (m := 1) (fun x => by unfold cFa szFa szSs; omega) l;unfold szL; omega
theorem cPa_sum (l : List Pair) : sumC cPa l ≤ 4 * szL szPair l := by
 have := sum_le (c := cPa) (d := szPair) (m := 2) (fun x => by unfold cPa; omega) l;unfold szL; omega
theorem cSt_sum (l : List Stamp) : sumC cSt l ≤ 4 * szL szStamp l := by
 have := sum_le (c := cSt) (d := szStamp) (m := 2) (fun x => by unfold cSt szStamp szFa szSs; omega) l;unfold szL; omega
end Go.Sy
namespace Go.Sy
open Go
theorem cFi_sum (l : List Firing) : sumC cFi l ≤ 4 * szL szFiring l := by
 have := sum_le (c := cFi) (d := szFiring) (m := 1) (fun x => by unfold cFi szFiring; omega) l;unfold szL; omega
end Go.Sy
