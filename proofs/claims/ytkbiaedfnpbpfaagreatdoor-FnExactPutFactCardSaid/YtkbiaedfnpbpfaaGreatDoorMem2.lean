/-
  Facts in order, memories, firings, engines: what is valid.
  Conditions: those that each theorem states.
-/
import Derived.Test.YtkbiaedfnpbpfaaGreatDoorMap
namespace Go.Sy
open Go
def factAt (l : List Fact) (k : Nat) : Bool := match l[k]? with
  | none => false
  | some f => isFactB f && (decide (k = 0) || (match l[k - 1]? with | none => false | some p => decide (cmpF p f < 0)))
def areFactsB (l : List Fact) : Bool := decide (l.length ≤ 24) && (List.range l.length).all (factAt l)
theorem factAt_0 {l : List Fact} {k : Nat} {f : Fact} (h : l[k]? = some f) (h1 : isFactB f = true) (hk : k = 0) : factAt l k = true := by subst hk; simp [factAt, h, h1]
theorem factAt_s {l : List Fact} {k j : Nat} {f p : Fact} (h : l[k]? = some f) (hp : l[j]? = some p) (hj : j = k - 1) (h1 : isFactB f = true) (hc : cmpF p f < 0) : factAt l k = true := by subst hj; simp [factAt, h, h1, hp, hc]
theorem factAt_f1 {l : List Fact} {k : Nat} {f : Fact} (h : l[k]? = some f) (h1 : isFactB f = false) : factAt l k = false := by simp [factAt, h, h1]
theorem factAt_f2 {l : List Fact} {k j : Nat} {f p : Fact} (h : l[k]? = some f) (hp : l[j]? = some p) (hj : j = k - 1 ∧ 0 < k) (hc : ¬ cmpF p f < 0) : factAt l k = false := by
  obtain ⟨rfl, hk⟩ := hj
  have : k ≠ 0 := by omega
  simp [factAt, h, hp, hc, this]
theorem af_n1 {l : List Fact} (h : ¬ l.length ≤ 24) : false = areFactsB l := by unfold areFactsB; rw [decide_eq_false h]; rfl
theorem af_n2 {l : List Fact} {k : Nat} (hk : k < l.length) (h : factAt l k = false) : false = areFactsB l := by
  unfold areFactsB
  have : (List.range l.length).all (factAt l) = false := by rw [List.all_eq_false]; exact ⟨k, by simpa using hk, by rw [h]; simp⟩
  rw [this]; simp
theorem af_all {l : List Fact} (hi : ∀ i, i < l.length → factAt l i = true) : decide (l.length ≤ 24) = areFactsB l := by
  unfold areFactsB
  have : (List.range l.length).all (factAt l) = true := by rw [List.all_eq_true]; intro i h; exact hi i (by simpa using h)
  rw [this]; simp
theorem af_y {l : List Fact} (h : l.length ≤ 24) (hi : ∀ i, i < l.length → factAt l i = true) : true = areFactsB l := by rw [← af_all hi, decide_eq_true h]
theorem af_z {l : List Fact} (hi : ∀ i, i < l.length → factAt l i = true) : decide ((l.length : Int) ≤ 24) = areFactsB l := by rw [← af_all hi, Bool.eq_iff_iff]; simp; omega
theorem okF_map {l : List Stamp} (h : okL okStamp l) : okL okFa (l.map (·.Fact)) := fun f hf => by
  obtain ⟨s, hs, rfl⟩ := List.mem_map.1 hf
  exact (h s hs).1
def seenT (l : List Stamp) (k : Nat) : ISet := ⟨(l.take k).map (·.Time)⟩
theorem seenT_step {l : List Stamp} {k : Nat} {s : Stamp} (h : l[k]? = some s) : ISet.add (seenT l k) s.Time = seenT l (k + 1) := by
  unfold seenT ISet.add; rw [take_snoc h, List.map_append]; rfl
def timeAt (l : List Stamp) (k : Nat) : Bool := match l[k]? with | none => false | some s => inR s.Time 1 200 && !((seenT l k).has s.Time)
def isMemB (l : List Stamp) : Bool := (List.range l.length).all (timeAt l) && areFactsB (l.map (·.Fact))
theorem timeAt_t {l : List Stamp} {k : Nat} {s : Stamp} (h : l[k]? = some s) (h1 : inR s.Time 1 200 = true) (h2 : (seenT l k).has s.Time = false) : timeAt l k = true := by simp [timeAt, h, h1, h2]
theorem timeAt_f1 {l : List Stamp} {k : Nat} {s : Stamp} (h : l[k]? = some s) (h1 : inR s.Time 1 200 = false) : timeAt l k = false := by simp [timeAt, h, h1]
theorem timeAt_f2 {l : List Stamp} {k : Nat} {s : Stamp} (h : l[k]? = some s) (h2 : (seenT l k).has s.Time = true) : timeAt l k = false := by simp [timeAt, h, h2]
theorem seen_iff {l : List Stamp} {k : Nat} {z : Int} : (seenT l k).has z = true ↔ ∃ i, i < k ∧ ∃ q, l[i]? = some q ∧ q.Time = z := by
  unfold seenT ISet.has
  rw [List.contains_iff_mem, List.mem_map]
  constructor
  · rintro ⟨q, hq, e⟩
    obtain ⟨i, hi⟩ := List.getElem?_of_mem hq
    rw [List.getElem?_take] at hi
    split at hi
    · exact ⟨i, by assumption, q, hi, e⟩
    · cases hi
  · rintro ⟨i, hi, q, hq, e⟩
    refine ⟨q, List.mem_of_getElem? (i := i) ?_, e⟩
    rw [List.getElem?_take, if_pos hi]; exact hq
theorem timeAt_s {l : List Stamp} {k : Nat} {s : Stamp} (h : l[k]? = some s) (h1 : inR s.Time 1 200 = true) (h2 : ∀ i, i < k → ∀ q, l[i]? = some q → q.Time ≠ s.Time) : timeAt l k = true := by
  refine timeAt_t h h1 ?_
  rw [Bool.eq_false_iff]
  intro hc
  obtain ⟨i, hi, q, hq, e⟩ := seen_iff.1 hc
  exact h2 i hi q hq e
theorem timeAt_f3 {l : List Stamp} {k j : Nat} {s q : Stamp} (h : l[k]? = some s) (hq : l[j]? = some q) (hj : j < k) (e : q.Time = s.Time) : timeAt l k = false := timeAt_f2 h (seen_iff.2 ⟨j, hj, q, hq, e⟩)
theorem mem_n {l : List Stamp} {k : Nat} (hk : k < l.length) (h : timeAt l k = false) : false = isMemB l := by
  unfold isMemB
  have : (List.range l.length).all (timeAt l) = false := by rw [List.all_eq_false]; exact ⟨k, by simpa using hk, by rw [h]; simp⟩
  rw [this]; rfl
theorem mem_y {l : List Stamp} (hi : ∀ i, i < l.length → timeAt l i = true) : areFactsB (l.map (·.Fact)) = isMemB l := by
  unfold isMemB
  have : (List.range l.length).all (timeAt l) = true := by rw [List.all_eq_true]; intro i h; exact hi i (by simpa using h)
  rw [this]; simp
/-! ### firings -/
theorem findT_lt (l : List Rule) (n : ByteArray) : -1 ≤ findT l n ∧ findT l n < l.length := by
  unfold findT
  split
  · omega
  · rename_i i h
    have := (List.findIdx?_eq_some_iff_getElem.1 h).1
    omega
def nPosT (l : List Cond) (k : Nat) : Nat := ((l.take k).filter (fun x => decide (x.Kind = 1))).length
def nPos (r : Rule) : Nat := nPosT r.If r.If.length
theorem nPosT_t {l : List Cond} {k : Nat} {x : Cond} (h : l[k]? = some x) (hk : x.Kind = 1) : nPosT l k + 1 = nPosT l (k + 1) := by
  unfold nPosT; rw [take_snoc h, List.filter_append]; simp [hk]
theorem nPosT_f {l : List Cond} {k : Nat} {x : Cond} (h : l[k]? = some x) (hk : x.Kind ≠ 1) : nPosT l k = nPosT l (k + 1) := by
  unfold nPosT; rw [take_snoc h, List.filter_append]; simp [hk]
theorem nPosT_le (l : List Cond) (k : Nat) : nPosT l k ≤ k := by
  unfold nPosT
  have h1 := List.length_filter_le (fun x => decide (x.Kind = 1)) (l.take k)
  rw [List.length_take] at h1
  omega
theorem nPosT_end {r : Rule} {k c : Nat} (hc : c = nPosT r.If k) (h1 : k ≤ r.If.length) (h2 : r.If.length ≤ k) : c = nPos r := by rw [hc, show k = r.If.length by omega]; rfl
def fireB (e : Engine) (f : Firing) : Bool := match e.Rules[(findT e.Rules f.Rule).toNat]? with
  | none => false
  | some r => decide (0 ≤ findT e.Rules f.Rule) && (decide (f.Times.length = nPos r) && f.Times.all (fun t => inR t 1 e.Clock))
theorem fi_n0 {e : Engine} {f : Firing} (h : findT e.Rules f.Rule < 0) : false = fireB e f := by
  unfold fireB
  split
  · rfl
  · have : ¬ 0 ≤ findT e.Rules f.Rule := by omega
    simp [this]
theorem fi_n1 {e : Engine} {f : Firing} {i : Nat} {t : Int} (h : f.Times[i]? = some t) (ht : inR t 1 e.Clock = false) : false = fireB e f := by
  unfold fireB
  split
  · rfl
  · have : f.Times.all (fun t => inR t 1 e.Clock) = false := by rw [List.all_eq_false]; exact ⟨t, List.mem_of_getElem? h, by rw [ht]; simp⟩
    rw [this]; simp
theorem fi_n2 {e : Engine} {f : Firing} {r : Rule} (hr : e.Rules[(findT e.Rules f.Rule).toNat]? = some r) (h : f.Times.length ≠ nPos r) : false = fireB e f := by
  unfold fireB
  rw [hr]
  simp [h]
theorem fi_all {e : Engine} {f : Firing} {r : Rule} (hr : e.Rules[(findT e.Rules f.Rule).toNat]? = some r) (h0 : 0 ≤ findT e.Rules f.Rule) (h : ∀ i, i < f.Times.length → ∀ t, f.Times[i]? = some t → inR t 1 e.Clock = true) : decide (f.Times.length = nPos r) = fireB e f := by
  unfold fireB
  rw [hr]
  have : f.Times.all (fun t => inR t 1 e.Clock) = true := by
    rw [List.all_eq_true]; intro t ht
    obtain ⟨i, hi⟩ := List.getElem?_of_mem ht
    exact h i (lS hi) t hi
  simp [this, h0]
theorem fi_eq {e : Engine} {f : Firing} {r : Rule} {c : Nat} (hr : e.Rules[(findT e.Rules f.Rule).toNat]? = some r) (h0 : 0 ≤ findT e.Rules f.Rule) (h : ∀ i, i < f.Times.length → ∀ t, f.Times[i]? = some t → inR t 1 e.Clock = true) (hc : c = nPos r) : ((f.Times.length : Int) == (c : Int)) = fireB e f := by
  rw [← fi_all hr h0 h, hc, Bool.eq_iff_iff]; simp; omega
theorem fi_t {e : Engine} {f : Firing} {r : Rule} (hr : e.Rules[(findT e.Rules f.Rule).toNat]? = some r) (h0 : 0 ≤ findT e.Rules f.Rule) (h : ∀ i, i < f.Times.length → ∀ t, f.Times[i]? = some t → inR t 1 e.Clock = true) (hc : f.Times.length = nPos r) : true = fireB e f := by
  rw [← fi_all hr h0 h, decide_eq_true hc]
def hasF (l : List Firing) (r : ByteArray) (ts : List Int) : Bool := l.any (fun f => decide (f.Rule = r) && decide (f.Times = ts))
theorem hasF_t {l : List Firing} {r : ByteArray} {ts : List Int} {i : Nat} {f : Firing} (h : l[i]? = some f) (h1 : f.Rule = r) (h2 : f.Times = ts) : true = hasF l r ts := by
  symm; unfold hasF; rw [List.any_eq_true]; exact ⟨f, List.mem_of_getElem? h, by simp [h1, h2]⟩
theorem hasF_f {l : List Firing} {r : ByteArray} {ts : List Int} (h : ∀ i, i < l.length → ∀ f, l[i]? = some f → ¬ (f.Rule = r ∧ f.Times = ts)) : false = hasF l r ts := by
  symm; unfold hasF; rw [List.any_eq_false]; intro f hf
  obtain ⟨i, hi⟩ := List.getElem?_of_mem hf
  have := h i (lS hi) f hi
  simpa using this
/-! ### engines -/
def firAt (e : Engine) (k : Nat) : Bool := match e.Fired[k]? with | none => false | some f => fireB e f && !(hasF (e.Fired.take k) f.Rule f.Times)
def isEngB (e : Engine) : Bool := areRulesB e.Rules && (isMemB e.Memory && (inR e.Clock 0 200 && (decide (e.Fired.length ≤ 40) && (decide (e.Log.length ≤ 500) && (e.Memory.all (fun s => decide (s.Time ≤ e.Clock)) && ((List.range e.Fired.length).all (firAt e) && e.Log.all isEventB))))))
theorem firAt_f1 {e : Engine} {k : Nat} {f : Firing} (h : e.Fired[k]? = some f) (h1 : fireB e f = false) : firAt e k = false := by simp [firAt, h, h1]
theorem firAt_f2 {e : Engine} {k : Nat} {f : Firing} (h : e.Fired[k]? = some f) (h1 : hasF (e.Fired.take k) f.Rule f.Times = true) : firAt e k = false := by simp [firAt, h, h1]
theorem firAt_f3 {e : Engine} {k j : Nat} {f g : Firing} (h : e.Fired[k]? = some f) (hg : e.Fired[j]? = some g) (hj : j < k) (eq : g = f) : firAt e k = false := by
  refine firAt_f2 h (hasF_t (i := j) (f := g) (by rw [List.getElem?_take, if_pos hj]; exact hg) (by rw [eq]) (by rw [eq])).symm
theorem firAt_t {e : Engine} {k : Nat} {f : Firing} (h : e.Fired[k]? = some f) (h1 : fireB e f = true) (h2 : hasF (e.Fired.take k) f.Rule f.Times = false) : firAt e k = true := by simp [firAt, h, h1, h2]
theorem firAt_s {e : Engine} {k : Nat} {f : Firing} (h : e.Fired[k]? = some f) (h1 : fireB e f = true) (h2 : ∀ i, i < k → ∀ g, e.Fired[i]? = some g → g ≠ f) : firAt e k = true := by
  refine firAt_t h h1 (hasF_f (fun i hi g hg hc => ?_)).symm
  rw [List.getElem?_take] at hg
  split at hg
  · exact h2 i (by assumption) g hg (Firing.mk_eq hc.1 hc.2)
  · cases hg
theorem en_n1 {e : Engine} (h : areRulesB e.Rules = false ∨ isMemB e.Memory = false ∨ inR e.Clock 0 200 = false ∨ ¬ e.Fired.length ≤ 40 ∨ ¬ e.Log.length ≤ 500) : false = isEngB e := by
  unfold isEngB
  rcases h with h | h | h | h | h <;> simp [h]
theorem en_n2 {e : Engine} {k : Nat} {s : Stamp} (h : e.Memory[k]? = some s) (hs : e.Clock < s.Time) : false = isEngB e := by
  unfold isEngB
  have : e.Memory.all (fun s => decide (s.Time ≤ e.Clock)) = false := by rw [List.all_eq_false]; exact ⟨s, List.mem_of_getElem? h, by simp; omega⟩
  rw [this]; simp
theorem en_n3 {e : Engine} {k : Nat} (hk : k < e.Fired.length) (h : firAt e k = false) : false = isEngB e := by
  unfold isEngB
  have : (List.range e.Fired.length).all (firAt e) = false := by rw [List.all_eq_false]; exact ⟨k, by simpa using hk, by rw [h]; simp⟩
  rw [this]; simp
theorem en_n4 {e : Engine} {k : Nat} {v : Event} (h : e.Log[k]? = some v) (hv : isEventB v = false) : false = isEngB e := by
  unfold isEngB
  have : e.Log.all isEventB = false := by rw [List.all_eq_false]; exact ⟨v, List.mem_of_getElem? h, by rw [hv]; simp⟩
  rw [this]; simp
theorem en_y {e : Engine} (h1 : areRulesB e.Rules = true) (h2 : isMemB e.Memory = true) (h3 : inR e.Clock 0 200 = true) (h4 : e.Fired.length ≤ 40) (h5 : e.Log.length ≤ 500) (h6 : ∀ i, i < e.Memory.length → ∀ s, e.Memory[i]? = some s → s.Time ≤ e.Clock) (h7 : ∀ i, i < e.Fired.length → firAt e i = true) (h8 : ∀ i, i < e.Log.length → ∀ v, e.Log[i]? = some v → isEventB v = true) : true = isEngB e := by
  unfold isEngB
  have a1 : e.Memory.all (fun s => decide (s.Time ≤ e.Clock)) = true := by
    rw [List.all_eq_true]; intro s hs
    obtain ⟨i, hi⟩ := List.getElem?_of_mem hs
    simpa using h6 i (lS hi) s hi
  have a2 : (List.range e.Fired.length).all (firAt e) = true := by rw [List.all_eq_true]; intro i h; exact h7 i (by simpa using h)
  have a3 : e.Log.all isEventB = true := by
    rw [List.all_eq_true]; intro s hs
    obtain ⟨i, hi⟩ := List.getElem?_of_mem hs
    exact h8 i (lS hi) s hi
  simp [h1, h2, h3, h4, h5, a1, a2, a3]
end Go.Sy
