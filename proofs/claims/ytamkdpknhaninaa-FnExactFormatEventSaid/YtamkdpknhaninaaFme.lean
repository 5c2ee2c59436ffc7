/-
  Texts joined; facts and events written out.
  Conditions: those that each theorem states.
-/
import Derived.Test.YtamkdpknhaninaaEv
import Derived.Test.YtamkdpknhaninaaOwn2
import Derived.Lib.Join
namespace Go.Sy
open Go
theorem bb_ext {a b : ByteArray} (h : a.data.toList = b.data.toList) : a = b := by
  cases a; cases b
  simp only at h
  congr 1
  exact Array.toList_inj.1 h
theorem bb_app (a b : ByteArray) : (a ++ b).data.toList = a.data.toList ++ b.data.toList := by
  rw [ByteArray.data_append]; simp
theorem bb_size (a : ByteArray) : a.size = a.data.toList.length := by rw [Array.length_toList]; rfl
def joinB (l : List ByteArray) (sep : ByteArray) : ByteArray := ⟨(Lib.join (l.map (·.data.toList)) sep.data.toList).toArray⟩
theorem join_snoc (xs : List (List UInt8)) (x sep : List UInt8) (h : xs ≠ []) : Lib.join (xs ++ [x]) sep = Lib.join xs sep ++ sep ++ x := by
  cases xs with
  | nil => exact absurd rfl h
  | cons y r =>
    have key : ∀ (y : List UInt8) (r : List (List UInt8)), Lib.join (y :: r) sep = y ++ Lib.joinTail sep r := fun y r => by
      induction r generalizing y with
      | nil => simp [Lib.join_one, Lib.joinTail]
      | cons z r ih =>
        have e : Lib.join (y :: z :: r) sep = y ++ sep ++ Lib.join (z :: r) sep := by
          simp [Lib.join, List.intercalate, List.intersperse]
        rw [e, ih]
        simp [Lib.joinTail]
    rw [List.cons_append, key, key]
    simp [Lib.joinTail]
theorem joinB_nil (sep : ByteArray) : (⟨#[]⟩ : ByteArray) = joinB [] sep := rfl
theorem joinB_one (x sep : ByteArray) : (⟨#[]⟩ : ByteArray) ++ x = joinB [x] sep := by
  apply bb_ext
  rw [bb_app]
  simp [joinB, Lib.join_one]
theorem joinB_snoc {l : List ByteArray} {x sep : ByteArray} (h : l ≠ []) : joinB l sep ++ sep ++ x = joinB (l ++ [x]) sep := by
  apply bb_ext
  rw [bb_app, bb_app]
  simp only [joinB, List.map_append, List.map_cons, List.map_nil]
  rw [join_snoc _ _ _ (by simpa using h)]
theorem joinT_step0 {l : List ByteArray} {x sep s : ByteArray} {k : Nat} (hk : ¬ 0 < k) (hx : l[k]? = some x) (hs : s = joinB (l.take k) sep) : s ++ x = joinB (l.take (k + 1)) sep := by
  have : k = 0 := by omega
  subst this
  rw [take_snoc hx, hs, List.take_zero]
  exact joinB_one x sep
theorem joinT_step {l : List ByteArray} {x sep s : ByteArray} {k : Nat} (hk : 0 < k) (hx : l[k]? = some x) (hs : s = joinB (l.take k) sep) : s ++ sep ++ x = joinB (l.take (k + 1)) sep := by
  rw [take_snoc hx, hs]
  refine joinB_snoc (fun e => ?_)
  have h2 := lt_of_some hx
  have := congrArg List.length e
  rw [List.length_take, List.length_nil] at this
  omega
theorem joinB_sz (l : List ByteArray) (sep : ByteArray) : (joinB l sep).size ≤ (l.map (·.size)).sum + l.length * sep.size := by
  have key : ∀ k, (joinB (l.take k) sep).size ≤ ((l.take k).map (·.size)).sum + (l.take k).length * sep.size := by
    intro k
    induction k with
    | zero =>
      rw [List.take_zero, ← joinB_nil]
      exact Nat.zero_le _
    | succ k ih =>
      by_cases hk : k < l.length
      · obtain ⟨x, hx⟩ := some_of_lt hk
        have hl : (l.take (k + 1)).length = (l.take k).length + 1 := by rw [take_snoc hx]; simp
        rw [sums_take hx, hl, Nat.add_mul]
        by_cases h0 : 0 < k
        · rw [← joinT_step h0 hx rfl, ByteArray.size_append, ByteArray.size_append]; omega
        · rw [← joinT_step0 h0 hx rfl, ByteArray.size_append]; omega
      · have e : l.take (k + 1) = l.take k := by rw [List.take_of_length_le (by omega), List.take_of_length_le (by omega)]
        rw [e]; exact ih
  have := key l.length
  rwa [List.take_of_length_le (Nat.le_refl _)] at this
theorem joinT_sz (l : List ByteArray) (sep : ByteArray) (k : Nat) : (joinB (l.take k) sep).size ≤ ((l.take k).map (·.size)).sum + k * sep.size := by
  have h := joinB_sz (l.take k) sep
  have : (l.take k).length * sep.size ≤ k * sep.size := Nat.mul_le_mul_right _ (by rw [List.length_take]; omega)
  omega
def fmtF (f : Fact) : ByteArray := if isFactB f = true then f.Rel ++ ⟨#[40]⟩ ++ joinB f.Args ⟨#[44]⟩ ++ ⟨#[41]⟩ else ⟨#[]⟩
theorem fmtF_n {f : Fact} (h : isFactB f = false) : (⟨#[]⟩ : ByteArray) = fmtF f := by unfold fmtF; rw [h]; rfl
theorem fmtF_y {f : Fact} (h : isFactB f = true) : f.Rel ++ ⟨#[40]⟩ ++ joinB f.Args ⟨#[44]⟩ ++ ⟨#[41]⟩ = fmtF f := by unfold fmtF; rw [if_pos h]
theorem sum_le {l : List ByteArray} (h : ∀ x ∈ l, x.size ≤ 8) : (l.map (·.size)).sum ≤ l.length * 8 := by
  induction l with
  | nil => simp
  | cons x l ih =>
    have h1 := h x (by simp)
    have h2 := ih (fun y hy => h y (by simp [hy]))
    simp only [List.map_cons, List.sum_cons, List.length_cons]
    omega
theorem fact_sz {f : Fact} (h : isFactB f = true) : f.Rel.size ≤ 8 ∧ f.Args.length ≤ 3 ∧ (joinB f.Args ⟨#[44]⟩).size ≤ 27 := by
  simp only [isFactB, Bool.and_eq_true, decide_eq_true_eq, List.all_eq_true] at h
  obtain ⟨⟨h1, h2⟩, h3⟩ := h
  have h4 : isAtomB f.Rel = true := by unfold isNameB at h1; simp only [Bool.and_eq_true] at h1; exact h1.1
  have h5 := atom_sz h4
  have h6 := joinB_sz f.Args ⟨#[44]⟩
  have h7 := sum_le (l := f.Args) (fun x hx => (atom_sz (h3 x hx)).2)
  have h8 : (⟨#[44]⟩ : ByteArray).size = 1 := rfl
  rw [h8] at h6
  exact ⟨h5.2, h2, by omega⟩
theorem fact_sum {f : Fact} (h : isFactB f = true) : (f.Args.map (·.size)).sum ≤ 24 := by
  simp only [isFactB, Bool.and_eq_true, decide_eq_true_eq, List.all_eq_true] at h
  have h7 := sum_le (l := f.Args) (fun x hx => (atom_sz (h.2 x hx)).2)
  have := h.1.2
  omega
theorem fmtF_sz (f : Fact) : (fmtF f).size ≤ 37 := by
  cases h : isFactB f with
  | false => rw [← fmtF_n h]; show 0 ≤ 37; omega
  | true =>
    have h1 := fact_sz h
    rw [← fmtF_y h, ByteArray.size_append, ByteArray.size_append, ByteArray.size_append]
    have h8 : (⟨#[40]⟩ : ByteArray).size = 1 := rfl
    have h9 : (⟨#[41]⟩ : ByteArray).size = 1 := rfl
    omega
def fmtE (x : Event) : ByteArray :=
  if isEventB x = true then
    if x.Kind = 1 then ⟨#[112, 117, 116, 32]⟩ ++ fmtF x.Fact
    else if x.Kind = 2 then ⟨#[116, 97, 107, 101, 32]⟩ ++ fmtF x.Fact
    else if x.Kind = 3 then ⟨#[102, 105, 114, 101, 32]⟩ ++ x.Rule
    else if x.Kind = 4 then ⟨#[97, 100, 100, 32]⟩ ++ fmtF x.Fact ++ ⟨#[32, 98, 121, 32]⟩ ++ x.Rule
    else if x.Kind = 5 then ⟨#[100, 114, 111, 112, 32]⟩ ++ fmtF x.Fact ++ ⟨#[32, 98, 121, 32]⟩ ++ x.Rule
    else ⟨#[115, 116, 111, 112, 32, 98, 121, 32]⟩ ++ x.Rule
  else ⟨#[]⟩
theorem fe_n {x : Event} (h : isEventB x = false) : (⟨#[]⟩ : ByteArray) = fmtE x := by unfold fmtE; rw [h]; rfl
theorem fe_1 {x : Event} (h : isEventB x = true) (hk : x.Kind = 1) : ⟨#[112, 117, 116, 32]⟩ ++ fmtF x.Fact = fmtE x := by unfold fmtE; rw [if_pos h, if_pos hk]
theorem fe_2 {x : Event} (h : isEventB x = true) (hk : x.Kind = 2) : ⟨#[116, 97, 107, 101, 32]⟩ ++ fmtF x.Fact = fmtE x := by unfold fmtE; rw [if_pos h, if_neg (by omega), if_pos hk]
theorem fe_3 {x : Event} (h : isEventB x = true) (hk : x.Kind = 3) : ⟨#[102, 105, 114, 101, 32]⟩ ++ x.Rule = fmtE x := by unfold fmtE; rw [if_pos h, if_neg (by omega), if_neg (by omega), if_pos hk]
theorem fe_4 {x : Event} (h : isEventB x = true) (hk : x.Kind = 4) : ⟨#[97, 100, 100, 32]⟩ ++ fmtF x.Fact ++ ⟨#[32, 98, 121, 32]⟩ ++ x.Rule = fmtE x := by unfold fmtE; rw [if_pos h, if_neg (by omega), if_neg (by omega), if_neg (by omega), if_pos hk]
theorem fe_5 {x : Event} (h : isEventB x = true) (hk : x.Kind = 5) : ⟨#[100, 114, 111, 112, 32]⟩ ++ fmtF x.Fact ++ ⟨#[32, 98, 121, 32]⟩ ++ x.Rule = fmtE x := by unfold fmtE; rw [if_pos h, if_neg (by omega), if_neg (by omega), if_neg (by omega), if_neg (by omega), if_pos hk]
theorem fe_6 {x : Event} (h : isEventB x = true) (hk : x.Kind ≠ 1 ∧ x.Kind ≠ 2 ∧ x.Kind ≠ 3 ∧ x.Kind ≠ 4 ∧ x.Kind ≠ 5) : ⟨#[115, 116, 111, 112, 32, 98, 121, 32]⟩ ++ x.Rule = fmtE x := by
  unfold fmtE; rw [if_pos h, if_neg (by omega), if_neg (by omega), if_neg (by omega), if_neg (by omega), if_neg (by omega)]
theorem ev_rule {x : Event} (h : isEventB x = true) (h1 : x.Kind ≠ 1) (h2 : x.Kind ≠ 2) : x.Rule.size ≤ 8 := by
  unfold isEventB at h
  rw [if_neg (by omega)] at h
  have hn : isNameB x.Rule = true := by
    split at h
    · simp only [Bool.and_eq_true] at h; exact h.1
    · split at h
      · simp only [Bool.and_eq_true] at h; exact h.1
      · cases h
  unfold isNameB at hn
  simp only [Bool.and_eq_true] at hn
  exact (atom_sz hn.1).2
/-- a list of texts that is read: where its cells lie -/
theorem rd_texts {w : World} {v : Value} {l : List ByteArray} [Tid ByteArray] (h : Gd.rd w [v] l) (hp : 0 < l.length) : ∃ bk o c, v = .slice (some ⟨bk, o, none⟩) l.length c ∧ l.length ≤ c ∧ bk < w.heap.size ∧ ∀ (j : Nat) x, l[j]? = some x → w.cell? ⟨bk, o + j, none⟩ = some (.string x) := by
  obtain ⟨a, cap, e, ⟨h1, h2⟩, hx⟩ := h
  simp only [List.cons.injEq, and_true] at e
  subst e
  obtain ⟨y, hy⟩ := some_of_lt hp
  obtain ⟨ad, es, ha, hc, hr⟩ := hx 0 y hy
  have hr' : es = [.string y] := hr
  subst hr'; subst ha
  have h0 := hc 0 (.string y) rfl
  have e0 : ad.add (0 * Gd.n ByteArray + 0) = ad := by simp [Addr.add]
  rw [e0] at h0
  have hsp : ad.spot = none := by
    unfold World.cell? at h0
    cases hs : ad.spot with
    | none => rfl
    | some q =>
      rw [hs] at h0
      split at h0 <;> simp at h0
  obtain ⟨bk, o, sp⟩ := ad
  simp only at hsp
  subst hsp
  refine ⟨bk, o, cap, rfl, h1, lt_of_cell h0, fun j x hj => ?_⟩
  obtain ⟨ad, es, ha, hc, hr⟩ := hx j x hj
  have hr' : es = [.string x] := hr
  subst hr'
  simp only [Option.some.injEq] at ha
  subst ha
  have := hc 0 (.string x) rfl
  rw [add_none] at this
  have e : o + (j * Gd.n ByteArray + 0) = o + j := by
    have : Gd.n ByteArray = 1 := rfl
    rw [this]; omega
  rw [e] at this
  exact this
end Go.Sy
