/-
  What drawn beliefs are like.
  Conditions: none.
-/
import Derived.Test.YtkdghbglefhcjaaGraph
namespace Go.Sy

theorem asc_iff {l : List Int} {n : Int} : asc l n = true ↔ ∀ (k : Nat) (x : Int), l[k]? = some x → 0 ≤ x ∧ x < n ∧ ∀ y, 0 < k → l[k - 1]? = some y → y < x := by
  constructor
  · intro h k x hx
    refine ⟨(asc_at h hx).1, (asc_at h hx).2, fun y hk hy => ?_⟩
    have e : k = (k - 1) + 1 := by omega
    rw [e] at hx
    exact asc_lt h hy hx
  · intro h
    refine asc_all fun i hi => ?_
    obtain ⟨x, hx⟩ := some_of_lt hi
    obtain ⟨h0, h1, h2⟩ := h i x hx
    unfold ascAt
    rw [hx]
    have e1 : (!decide (x < 0)) = true := by simp; omega
    have e2 : (!decide (n ≤ x)) = true := by simp; omega
    simp only [e1, e2, Bool.true_and]
    by_cases hz : i = 0
    · subst hz; rfl
    · obtain ⟨y, hy⟩ := some_of_lt (l := l) (i := i - 1) (by omega)
      have := h2 y (by omega) hy
      rw [hy]
      simp only [Bool.or_eq_true]
      right
      simp; omega
theorem asc_mono {l : List Int} {m n : Int} (h : asc l m = true) (hm : m ≤ n) : asc l n = true := by
  rw [asc_iff] at h ⊢
  intro k x hx
  obtain ⟨h0, h1, h2⟩ := h k x hx
  exact ⟨h0, by omega, h2⟩
theorem asc_snoc {l : List Int} {k : Nat} (h : asc l (k : Int) = true) : asc (l ++ [(k : Int)]) ((k + 1 : Nat) : Int) = true := by
  rw [asc_iff] at h ⊢
  intro i x hx
  by_cases hi : i < l.length
  · rw [List.getElem?_append_left hi] at hx
    obtain ⟨h0, h1, h2⟩ := h i x hx
    exact ⟨h0, by omega, fun y hp hy => h2 y hp (by rwa [List.getElem?_append_left (by omega)] at hy)⟩
  · rw [List.getElem?_append_right (by omega)] at hx
    have he : i - l.length = 0 := by
      have := lt_of_some hx
      simp at this
      omega
    rw [he] at hx
    simp only [List.getElem?_cons_zero, Option.some.injEq] at hx
    subst hx
    refine ⟨by omega, by omega, fun y hp hy => ?_⟩
    rw [List.getElem?_append_left (by omega)] at hy
    exact (h _ y hy).2.1
theorem asc_neg {l : List Int} {n : Int} (h : asc l ((0 : Nat) : Int) = true) : asc l n = true := by
  have : l = [] := by
    cases l with
    | nil => rfl
    | cons x l =>
      have := asc_at h (j := 0) (y := x) rfl
      omega
  subst this
  rfl
theorem asc_end {l : List Int} {k : Nat} {n : Int} (h : asc l (k : Int) = true) (hk : (k : Int) ≤ max n 0) : asc l n = true := by
  by_cases hn : (k : Int) ≤ n
  · exact asc_mono h hn
  · have e : k = 0 := by omega
    subst e
    exact asc_neg h
def drawn (b : Beliefs) (most : Int) (outs : Bool) : Prop := 1 ≤ b.Nodes ∧ b.Nodes ≤ most ∧ (∀ r ∈ b.Reasons, isReason r b.Nodes = true) ∧ (b.Reasons.length : Int) < 2 * most ∧ (outs = false → ∀ r ∈ b.Reasons, r.Out = [])
theorem isR_mk {f n : Int} {i o : List Int} (h : 0 ≤ f ∧ f < n) (h1 : asc i n = true) (h2 : asc o n = true) : isReason ⟨f, i, o⟩ n = true := by
  simp only [isReason, h1, h2, decide_eq_true h.1, decide_eq_true h.2, Bool.and_self]
theorem asc_one {y n : Int} (h : 0 ≤ y ∧ y < n) : asc [y] n = true := by
  rw [asc_iff]
  intro k x hx
  cases k with
  | zero =>
    simp only [List.getElem?_cons_zero, Option.some.injEq] at hx
    subst hx
    exact ⟨h.1, h.2, fun y hk => absurd hk (Nat.lt_irrefl 0)⟩
  | succ k => simp at hx
theorem all_snoc {α : Type} {p : α → Prop} {l : List α} {x : α} (h : ∀ r ∈ l, p r) (hx : p x) : ∀ r ∈ l ++ [x], p r := by
  intro r hr
  rcases List.mem_append.1 hr with h1 | h1
  · exact h r h1
  · rw [List.mem_singleton] at h1
    subst h1; exact hx
def fNo (_ : Int) (r : Reason) : Reason := ⟨r.For, r.In, []⟩
theorem mapS_mem {α : Type} {f : Int → α → α} {c : α → Nat} : ∀ {l : List α} {k : Int} {x : α}, x ∈ mapS f c k l → ∃ r ∈ l, ∃ k', x = f k' r
  | [], _, _, h => by cases h
  | y :: l, k, x, h => by
    rcases List.mem_cons.1 h with e | h
    · exact ⟨y, by simp, k, e⟩
    · obtain ⟨r, hr, k', e⟩ := mapS_mem h
      exact ⟨r, by simp [hr], k', e⟩
theorem fNo_set {l : List Reason} {i : Nat} {x : Reason} (h : i ≤ l.length) (hx : (mapAt fNo cR 0 l i)[i]? = some x) : (mapAt fNo cR 0 l i).set i ⟨x.For, x.In, []⟩ = mapAt fNo cR 0 l (i + 1) := mapAt_set (f := fNo) h hx
theorem drawn_b {b : Beliefs} {most : Int} {outs : Bool} (h : drawn b most outs) (hm : most ≤ 12) : isBeliefs b = true := by
  obtain ⟨h1, h2, h3, h4, _⟩ := h
  symm
  refine isB_ok (by omega) (fun i _ r hr => h3 r (List.mem_of_getElem? hr))
theorem clr_drawn {b : Beliefs} {most : Int} {outs : Bool} (h : drawn b most outs) : drawn ⟨b.Nodes, mapS fNo cR 0 b.Reasons⟩ most outs ∧ ∀ r ∈ mapS fNo cR 0 b.Reasons, r.Out = [] := by
  obtain ⟨h1, h2, h3, h4, h5⟩ := h
  have hno : ∀ r ∈ mapS fNo cR 0 b.Reasons, r.Out = [] := fun r hr => by
    obtain ⟨r', _, k', e⟩ := mapS_mem hr
    rw [e]; rfl
  refine ⟨⟨h1, h2, fun r hr => ?_, by show ((mapS fNo cR 0 b.Reasons).length : Int) < _; rw [mapS_len]; exact h4, fun _ => hno⟩, hno⟩
  obtain ⟨r', hr', k', e⟩ := mapS_mem hr
  have := h3 r' hr'
  rw [e]
  exact isR_mk (isR_for this) (isR_in this) rfl
theorem noOut_strat {b : Beliefs} (hb : isBeliefs b = true) (h : ∀ r ∈ b.Reasons, r.Out = []) : isStrat b = true := by
  simp only [isStrat, hb, Bool.true_and, List.all_eq_true]
  intro r hr
  unfold stR
  rw [h r hr]; rfl
theorem clr_strat {b : Beliefs} {most : Int} {outs : Bool} (h : drawn b most outs) (hm : most ≤ 12) : isStrat ⟨b.Nodes, mapS fNo cR 0 b.Reasons⟩ = true ∧ drawn ⟨b.Nodes, mapS fNo cR 0 b.Reasons⟩ most outs :=
  ⟨noOut_strat (drawn_b (clr_drawn h).1 hm) (clr_drawn h).2, (clr_drawn h).1⟩
end Go.Sy
