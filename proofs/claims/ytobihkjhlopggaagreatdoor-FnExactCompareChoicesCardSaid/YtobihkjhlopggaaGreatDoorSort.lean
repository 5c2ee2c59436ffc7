/-
  Rows that are sorted by exchanges: what the parts of a stable sort leave, as plain facts on lists.
  Conditions: those that each theorem states.
-/
import Derived.Test.YtobihkjhlopggaaGreatDoorSym
import Derived.Test.YtobihkjhlopggaaGreatDoorBase
import Derived.Test.YtobihkjhlopggaaGreatDoorOwn2
import Derived.Lib.ReflectliteSwap
import Derived.Laws.Externs
namespace Go.Sy
section
variable {α : Type} [Inhabited α]
def A (d : List α) (i : Nat) : α := (d[i]?).getD default
def swp (d : List α) (i j : Nat) : List α := (d.set i (A d j)).set j (A d i)
theorem swp_len (d : List α) (i j : Nat) : (swp d i j).length = d.length := by simp [swp]
theorem A_of {d : List α} {i : Nat} {x : α} (h : d[i]? = some x) : A d i = x := by simp [A, h]
theorem A_get {d : List α} {i : Nat} (h : i < d.length) : d[i]? = some (A d i) := by simp [A, h]
theorem A_set {d : List α} {i k : Nat} {x : α} (h : i < d.length) : A (d.set i x) k = if k = i then x else A d k := by
  unfold A
  rw [List.getElem?_set]
  by_cases e : i = k
  · subst e; simp [h]
  · rw [if_neg e, if_neg (fun h => e h.symm)]
theorem A_swp {d : List α} {i j k : Nat} (hi : i < d.length) (hj : j < d.length) : A (swp d i j) k = if k = j then A d i else if k = i then A d j else A d k := by
  unfold swp
  rw [A_set (by simpa using hj)]
  split
  · rfl
  · rw [A_set hi]
theorem ext_A {d e : List α} (hl : d.length = e.length) (h : ∀ i, i < d.length → A d i = A e i) : d = e := by
  refine List.ext_getElem? (fun i => ?_)
  rcases Nat.lt_or_ge i d.length with hi | hi
  · rw [A_get hi, A_get (by omega), h i hi]
  · rw [List.getElem?_eq_none hi, List.getElem?_eq_none (by omega)]
theorem perm_set_cons {β : Type} {x y : β} : ∀ {l : List β} {j : Nat}, l[j]? = some y → List.Perm (y :: l.set j x) (x :: l)
  | [], _, h => by simp at h
  | z :: l, 0, h => by
    simp only [List.getElem?_cons_zero, Option.some.injEq] at h
    subst h
    exact List.Perm.swap _ _ _
  | z :: l, j + 1, h => by
    simp only [List.getElem?_cons_succ] at h
    have ih := perm_set_cons (x := x) h
    simp only [List.set_cons_succ]
    exact (List.Perm.swap z y _).trans ((ih.cons z).trans (List.Perm.swap x z _))
theorem swp_perm_lt : ∀ {d : List α} {i j : Nat}, i < j → j < d.length → List.Perm (swp d i j) d
  | [], _, _, _, h => by simp at h
  | z :: d, 0, j + 1, _, h => by
    have hj : j < d.length := by simpa using h
    unfold swp
    have e1 : A (z :: d) (j + 1) = A d j := by simp [A]
    have e2 : A (z :: d) 0 = z := by simp [A]
    rw [e1, e2]
    simp only [List.set_cons_zero, List.set_cons_succ]
    exact perm_set_cons (A_get hj)
  | z :: d, i + 1, j + 1, hij, h => by
    have ih := swp_perm_lt (d := d) (i := i) (j := j) (by omega) (by simpa using h)
    unfold swp at ih ⊢
    have e1 : A (z :: d) (j + 1) = A d j := by simp [A]
    have e2 : A (z :: d) (i + 1) = A d i := by simp [A]
    rw [e1, e2]
    simp only [List.set_cons_succ]
    exact ih.cons z
theorem swp_comm {d : List α} {i j : Nat} (hi : i < d.length) (hj : j < d.length) : swp d i j = swp d j i := by
  refine ext_A (by simp [swp_len]) (fun k _ => ?_)
  rw [A_swp hi hj, A_swp hj hi]
  by_cases h1 : k = j <;> by_cases h2 : k = i <;> simp [h1, h2] <;> (try subst h1) <;> (try simp_all)
theorem swp_perm {d : List α} {i j : Nat} (hi : i < d.length) (hj : j < d.length) : List.Perm (swp d i j) d := by
  rcases Nat.lt_trichotomy i j with h | h | h
  · exact swp_perm_lt h hj
  · subst h
    have : swp d i i = d := ext_A (swp_len _ _ _) (fun k _ => by rw [A_swp hi hi]; split <;> simp_all)
    rw [this]
  · rw [swp_comm hi hj]; exact swp_perm_lt h hi
structure Ordr (lt : α → α → Bool) : Prop where
  asym : ∀ x y, lt x y = true → lt y x = false
  trans : ∀ x y z, lt y x = false → lt z y = false → lt z x = false
variable {lt : α → α → Bool}
theorem Ordr.refl {β : Type} {lt : β → β → Bool} (h : Ordr lt) (x : β) : lt x x = false := by
  cases e : lt x x with
  | false => rfl
  | true => have := h.asym x x e; rw [e] at this; exact this
def Srd (lt : α → α → Bool) (d : List α) (a b : Nat) : Prop := ∀ i j, a ≤ i → i < j → j < b → lt (A d j) (A d i) = false
structure Chg (d e : List α) (a b : Nat) : Prop where
  len : e.length = d.length
  perm : List.Perm e d
  out : ∀ i, (i < a ∨ b ≤ i) → A e i = A d i
  mem : ∀ i, a ≤ i → i < b → ∃ j, a ≤ j ∧ j < b ∧ A e i = A d j
theorem Chg.refl (d : List α) (a b : Nat) : Chg d d a b := ⟨rfl, List.Perm.refl _, fun _ _ => rfl, fun i h1 h2 => ⟨i, h1, h2, rfl⟩⟩
theorem Chg.trans {d e f : List α} {a b : Nat} (h : Chg d e a b) (k : Chg e f a b) : Chg d f a b :=
  ⟨k.len.trans h.len, k.perm.trans h.perm, fun i hi => (k.out i hi).trans (h.out i hi), fun i h1 h2 => by
    obtain ⟨j, h3, h4, e1⟩ := k.mem i h1 h2
    obtain ⟨m, h5, h6, e2⟩ := h.mem j h3 h4
    exact ⟨m, h5, h6, e1.trans e2⟩⟩
theorem Chg.mono {d e : List α} {a b a' b' : Nat} (h : Chg d e a b) (ha : a' ≤ a) (hb : b ≤ b') : Chg d e a' b' :=
  ⟨h.len, h.perm, fun i hi => h.out i (by omega), fun i h1 h2 => by
    by_cases hc : a ≤ i ∧ i < b
    · obtain ⟨j, h3, h4, e1⟩ := h.mem i hc.1 hc.2
      exact ⟨j, by omega, by omega, e1⟩
    · exact ⟨i, h1, h2, h.out i (by omega)⟩⟩
theorem Chg.swp {d : List α} {i j a b : Nat} (hi : a ≤ i ∧ i < b) (hj : a ≤ j ∧ j < b) (hb : b ≤ d.length) : Chg d (swp d i j) a b := by
  have h1 : i < d.length := by omega
  have h2 : j < d.length := by omega
  refine ⟨swp_len _ _ _, swp_perm h1 h2, fun k hk => ?_, fun k h3 h4 => ?_⟩
  · rw [A_swp h1 h2, if_neg (by omega), if_neg (by omega)]
  · rw [A_swp h1 h2]
    split
    · exact ⟨i, hi.1, hi.2, rfl⟩
    · split
      · exact ⟨j, hj.1, hj.2, rfl⟩
      · exact ⟨k, h3, h4, rfl⟩
/-! ### insertion -/
def InsI (lt : α → α → Bool) (d : List α) (a i j : Nat) : Prop := ∀ p q, a ≤ p → p < q → q ≤ i → q ≠ j → lt (A d q) (A d p) = false
theorem ins_start {d : List α} {a i : Nat} (h : Srd lt d a i) : InsI lt d a i i := fun p q h1 h2 h3 h4 => h p q h1 h2 (by omega)
theorem ins_step (ho : Ordr lt) {d : List α} {a i j : Nat} (h : InsI lt d a i j) (hj : a < j) (hi : j ≤ i) (hl : i < d.length) (hlt : lt (A d j) (A d (j - 1)) = true) : InsI lt (swp d j (j - 1)) a i (j - 1) := by
  intro p q h1 h2 h3 h4
  rw [A_swp (by omega) (by omega), A_swp (by omega) (by omega), if_neg h4]
  by_cases hq : q = j
  · subst hq
    rw [if_pos rfl]
    by_cases hp : p = q - 1
    · rw [if_pos hp]; exact ho.asym _ _ hlt
    · rw [if_neg hp, if_neg (by omega)]
      exact h p (q - 1) h1 (by omega) (by omega) (by omega)
  · rw [if_neg hq]
    by_cases hp : p = j - 1
    · rw [if_pos hp]; exact h j q (by omega) (by omega) h3 hq
    · rw [if_neg hp]
      by_cases hp2 : p = j
      · rw [if_pos hp2]; exact h (j - 1) q (by omega) (by omega) h3 hq
      · rw [if_neg hp2]; exact h p q h1 h2 h3 hq
theorem ins_end1 {d : List α} {a i j : Nat} (h : InsI lt d a i j) (hj : j ≤ a) : Srd lt d a (i + 1) := fun p q h1 h2 h3 => h p q h1 h2 (by omega) (by omega)
theorem ins_end2 (ho : Ordr lt) {d : List α} {a i j : Nat} (h : InsI lt d a i j) (hj : a < j) (hi : j ≤ i) (hlt : lt (A d j) (A d (j - 1)) = false) : Srd lt d a (i + 1) := by
  intro p q h1 h2 h3
  by_cases hq : q = j
  · subst hq
    by_cases hp : p = q - 1
    · rw [hp]; exact hlt
    · exact ho.trans _ _ _ (h p (q - 1) h1 (by omega) (by omega) (by omega)) hlt
  · exact h p q h1 h2 (by omega) hq
theorem srd_one (d : List α) (a : Nat) : Srd lt d a (a + 1) := fun p q h1 h2 h3 => by omega
theorem srd_sub {d : List α} {a b a' b' : Nat} (h : Srd lt d a b) (ha : a ≤ a') (hb : b' ≤ b) : Srd lt d a' b' := fun p q h1 h2 h3 => h p q (by omega) h2 (by omega)
theorem srd_eq {d e : List α} {a b : Nat} (h : Srd lt d a b) (he : ∀ i, a ≤ i → i < b → A e i = A d i) : Srd lt e a b := fun p q h1 h2 h3 => by
  rw [he p h1 (by omega), he q (by omega) h3]; exact h p q h1 h2 h3
theorem srd_out {d e : List α} {a b a' b' : Nat} (h : Srd lt d a' b') (hc : Chg d e a b) (hd : b' ≤ a ∨ b ≤ a') : Srd lt e a' b' := srd_eq h (fun i h1 h2 => hc.out i (by omega))
/-! ### ranges exchanged, rows turned -/
/-! ### one element merged -/
structure Low (lt : α → α → Bool) (d : List α) (a m b i j : Nat) : Prop where
  lo : ∀ k, m ≤ k → k < i → lt (A d k) (A d a) = true
  hi : ∀ k, j ≤ k → k < b → lt (A d k) (A d a) = false
/-- the first element walks up to place k -/
structure Up (d e : List α) (a k b : Nat) : Prop where
  chg : Chg d e a b
  lo : ∀ p, a ≤ p → p < k → A e p = A d (p + 1)
  at_ : A e k = A d a
  hi : ∀ p, k < p → A e p = A d p
structure Hgh (lt : α → α → Bool) (d : List α) (a m i j : Nat) : Prop where
  lo : ∀ k, a ≤ k → k < i → lt (A d m) (A d k) = false
  hi : ∀ k, j ≤ k → k < m → lt (A d m) (A d k) = true
/-- the last element walks down to place k -/
structure Dwn (d e : List α) (a k m : Nat) : Prop where
  chg : Chg d e a (m + 1)
  lo : ∀ p, p < k → A e p = A d p
  at_ : A e k = A d m
  mid : ∀ p, k < p → p ≤ m → A e p = A d (p - 1)
  hi : ∀ p, m < p → A e p = A d p
/-! ### the search of symMerge -/
structure Sea (lt : α → α → Bool) (d : List α) (s0 r0 n s r : Nat) : Prop where
  lo : ∀ c, s0 ≤ c → c < s → lt (A d (n - 1 - c)) (A d c) = false
  hi : ∀ c, r ≤ c → c < r0 → lt (A d (n - 1 - c)) (A d c) = true
/-! ### blocks -/
/-! ### the sorted row is one -/
theorem sorted_unique {β : Type} {lt : β → β → Bool} (ht : ∀ x y : β, lt x y = false → lt y x = false → x = y) : ∀ {d e : List β}, List.Perm d e → d.Pairwise (fun x y => lt y x = false) → e.Pairwise (fun x y => lt y x = false) → d = e
  | [], e, hp, _, _ => (List.Perm.nil_eq hp)
  | x :: d, [], hp, _, _ => absurd hp.length_eq (by simp)
  | x :: d, y :: e, hp, hd, he => by
    rw [List.pairwise_cons] at hd he
    have hxy : x = y := by
      have h1 : y ∈ x :: d := hp.mem_iff.2 (by simp)
      have h2 : x ∈ y :: e := hp.mem_iff.1 (by simp)
      rcases List.mem_cons.1 h1 with h1 | h1
      · exact h1.symm
      · rcases List.mem_cons.1 h2 with h2 | h2
        · exact h2
        · exact ht x y (he.1 x h2) (hd.1 y h1)
    subst hxy
    rw [sorted_unique ht ((List.perm_cons x).1 hp) hd.2 he.2]
theorem srd_pw {d : List α} (h : Srd lt d 0 d.length) : d.Pairwise (fun x y => lt y x = false) := by
  rw [List.pairwise_iff_getElem]
  intro i j hi hj hij
  have := h i j (Nat.zero_le _) hij hj
  rw [A_of (List.getElem?_eq_getElem hi), A_of (List.getElem?_eq_getElem hj)] at this
  exact this
end
end Go.Sy
namespace Go.Sy
section
variable {α : Type} [Inhabited α] {lt : α → α → Bool}
end
/-! ### lists sorted by insertion -/
section
variable {α β : Type}
def insG (lt : α → α → Bool) (x : α) : List α → List α
  | [] => [x]
  | y :: s => if lt x y = true then x :: y :: s else y :: insG lt x s
def sortG (lt : α → α → Bool) (l : List α) : List α := l.foldl (fun s x => insG lt x s) []
theorem sortG_s {lt : α → α → Bool} {l : List α} {k : Nat} {x : α} (h : l[k]? = some x) : insG lt x (sortG lt (l.take k)) = sortG lt (l.take (k + 1)) := by
  unfold sortG
  rw [take_snoc h, List.foldl_append]; rfl
theorem insG_perm (lt : α → α → Bool) (x : α) : ∀ s : List α, List.Perm (insG lt x s) (x :: s)
  | [] => List.Perm.refl _
  | y :: s => by
    unfold insG
    split
    · exact List.Perm.refl _
    · exact ((insG_perm lt x s).cons y).trans (List.Perm.swap x y s)
theorem foldG_perm (lt : α → α → Bool) : ∀ (l s : List α), List.Perm (l.foldl (fun s x => insG lt x s) s) (l ++ s)
  | [], s => List.Perm.refl _
  | x :: l, s => by
    simp only [List.foldl_cons, List.cons_append]
    exact ((foldG_perm lt l _).trans ((insG_perm lt x s).append_left l)).trans List.perm_middle
theorem sortG_perm (lt : α → α → Bool) (l : List α) : List.Perm (sortG lt l) l := by
  have := foldG_perm lt l []
  simpa [sortG] using this
theorem sortG_len (lt : α → α → Bool) (l : List α) : (sortG lt l).length = l.length := (sortG_perm lt l).length_eq
abbrev Pw (lt : α → α → Bool) (s : List α) : Prop := s.Pairwise (fun x y => lt y x = false)
theorem insG_pw {lt : α → α → Bool} (asym : ∀ x y, lt x y = true → lt y x = false) (trans : ∀ x y z, lt y x = false → lt z y = false → lt z x = false) (x : α) : ∀ {s : List α}, Pw lt s → Pw lt (insG lt x s)
  | [], _ => List.pairwise_singleton _ _
  | y :: s, h => by
    have h' := List.pairwise_cons.1 h
    unfold insG
    split
    · rename_i hx
      refine List.pairwise_cons.2 ⟨fun z hz => ?_, h⟩
      rcases List.mem_cons.1 hz with rfl | hz
      · exact asym _ _ hx
      · exact trans _ _ _ (asym _ _ hx) (h'.1 z hz)
    · rename_i hx
      refine List.pairwise_cons.2 ⟨fun z hz => ?_, insG_pw asym trans x h'.2⟩
      rcases List.mem_cons.1 ((insG_perm lt x s).mem_iff.1 hz) with rfl | hz
      · simpa using hx
      · exact h'.1 z hz
theorem foldG_pw {lt : α → α → Bool} (asym : ∀ x y, lt x y = true → lt y x = false) (trans : ∀ x y z, lt y x = false → lt z y = false → lt z x = false) : ∀ (l : List α) {s : List α}, Pw lt s → Pw lt (l.foldl (fun s x => insG lt x s) s)
  | [], _, h => h
  | x :: l, _, h => by simp only [List.foldl_cons]; exact foldG_pw asym trans l (insG_pw asym trans x h)
theorem sortG_pw {lt : α → α → Bool} (asym : ∀ x y, lt x y = true → lt y x = false) (trans : ∀ x y z, lt y x = false → lt z y = false → lt z x = false) (l : List α) : Pw lt (sortG lt l) := foldG_pw asym trans l List.Pairwise.nil
theorem insG_at {lt : α → α → Bool} {x : α} : ∀ {s : List α} {k : Nat}, (∀ i, i < k → ∀ y, s[i]? = some y → lt x y = false) → (∀ y, s[k]? = some y → lt x y = true) → k ≤ s.length → s.take k ++ x :: s.drop k = insG lt x s
  | [], 0, _, _, _ => rfl
  | [], k + 1, _, _, h => by simp at h
  | y :: s, 0, _, h, _ => by
    have := h y rfl
    simp [insG, this]
  | y :: s, k + 1, h1, h2, h3 => by
    have h0 := h1 0 (by omega) y rfl
    unfold insG
    rw [h0]
    simp only [List.take_succ_cons, List.drop_succ_cons, List.cons_append, Bool.false_eq_true, if_false]
    rw [insG_at (fun i hi z hz => h1 (i + 1) (by omega) z (by simpa using hz)) (fun z hz => h2 z (by simpa using hz)) (by simpa using h3)]
/-- place k is free: what was behind it has moved on by one -/
def shG (s : List α) (x : α) (k : Nat) : List α := s.take k ++ (s[k]?).getD x :: s.drop k
theorem shG_len {s : List α} {x : α} {k : Nat} (hk : k ≤ s.length) : (shG s x k).length = s.length + 1 := by
  unfold shG; simp only [List.length_append, List.length_take, List.length_cons, List.length_drop]; omega
theorem shG_start (s : List α) (x : α) : s ++ [x] = shG s x s.length := by unfold shG; simp
theorem shG_get {s : List α} {x : α} {k i : Nat} (hk : k ≤ s.length) (hi : i < k) : (shG s x k)[i]? = s[i]? := by
  unfold shG
  rw [List.getElem?_append_left (by rw [List.length_take]; omega), List.getElem?_take, if_pos hi]
theorem shG_step {s : List α} {x y : α} {k : Nat} (hk : k ≤ s.length) (h0 : 0 < k) (hy : (shG s x k)[k - 1]? = some y) : (shG s x k).set k y = shG s x (k - 1) := by
  rw [shG_get hk (by omega)] at hy
  obtain ⟨j, rfl⟩ : ∃ j, k = j + 1 := ⟨k - 1, by omega⟩
  rw [show j + 1 - 1 = j from by omega] at hy ⊢
  unfold shG
  rw [hy, Option.getD_some]
  have h1 : (s.take (j + 1)).length = j + 1 := by rw [List.length_take]; omega
  rw [List.set_append_right _ _ (by omega), h1, Nat.sub_self, List.set_cons_zero, take_snoc hy, List.append_assoc]
  have hj : j < s.length := by omega
  have : s[j] = y := by rw [List.getElem?_eq_getElem hj] at hy; exact Option.some.inj hy
  rw [List.drop_eq_getElem_cons hj, this]
  rfl
theorem shG_put {s : List α} {x : α} {k : Nat} (hk : k ≤ s.length) : (shG s x k).set k x = s.take k ++ x :: s.drop k := by
  unfold shG
  have h1 : (s.take k).length = k := by rw [List.length_take]; omega
  rw [List.set_append_right _ _ (by omega), h1, Nat.sub_self, List.set_cons_zero]
theorem shG_lo {p : α → Prop} {s : List α} {x y : α} {k : Nat} (hk : k ≤ s.length ∧ 0 < k) (hi : ∀ q, k ≤ q → ∀ z, s[q]? = some z → p z) (hy : (shG s x k)[k - 1]? = some y) (hp : p y) : ∀ q, k - 1 ≤ q → ∀ z, s[q]? = some z → p z := by
  intro q hq z hz
  by_cases e : q = k - 1
  · subst e
    rw [shG_get hk.1 (by omega), hz] at hy
    cases hy; exact hp
  · exact hi q (by omega) z hz
/-- the end of a round -/
theorem shG_ins {lt : α → α → Bool} (asym : ∀ x y, lt x y = true → lt y x = false) (trans : ∀ x y z, lt y x = false → lt z y = false → lt z x = false) {s : List α} {x : α} {k : Nat} (hs : Pw lt s) (hk : k ≤ s.length)
    (hi : ∀ i, k ≤ i → ∀ y, s[i]? = some y → lt x y = true) (he : k = 0 ∨ ∃ y, (shG s x k)[k - 1]? = some y ∧ lt x y = false) : (shG s x k).set k x = insG lt x s := by
  rw [shG_put hk]
  refine insG_at (fun i h y hy => ?_) (fun y hy => hi k (Nat.le_refl _) y hy) hk
  rcases he with rfl | ⟨z, hz, hl⟩
  · omega
  · rw [shG_get hk (by omega)] at hz
    by_cases e : i = k - 1
    · subst e; rw [hz] at hy; cases hy; exact hl
    · have h1 : i < s.length := by omega
      have h2 : k - 1 < s.length := by omega
      rw [List.getElem?_eq_getElem h1] at hy
      rw [List.getElem?_eq_getElem h2] at hz
      cases hy; cases hz
      exact trans _ _ _ ((List.pairwise_iff_getElem.1 hs) i (k - 1) h1 h2 (by omega)) hl
end
end Go.Sy
namespace Go.Sy
open Go Go.RowKit
structure Srt {α : Type} [Inhabited α] (P : Program) (C : List α → Chunk) (lt : α → α → Bool) (d0 : List α) (lf : Nat) (lc : List Value) (sf : Nat) (sc : List Value) (w0 : World) : Prop where
  body : hasBody P lf = true
  less : ∀ (Hs : List Chunk) (w : World) (d : List α) (i j : Nat), List.Perm d d0 → i < d0.length → j < d0.length → St w0 (C d :: Hs) w →
    Calls P lf ([Value.int .i64 (i : Int), Value.int .i64 (j : Int)] ++ lc).toArray w (fun e w' => e = .returned (.bool (lt (A d i) (A d j))) ∧ St w0 (C d :: Hs) w')
  swap : ∀ (Hs : List Chunk) (w : World) (d : List α) (i j : Nat), List.Perm d d0 → i < d0.length → j < d0.length → i ≠ j → St w0 (C d :: Hs) w →
    ∃ w', (callFunc sf ([Value.int .i64 (i : Int), Value.int .i64 (j : Int)] ++ sc).toArray).run P w = .ok (.value (.tuple #[])) w' ∧ St w0 (C (swp d i j) :: Hs) w'
section
variable {P : Program} {N : Nat} {w0 : World} {H : List Chunk} {L : Fm} {Q : Exit → Act → World → Prop} {o : Oper} {dd : Nat} {K : Act → World → Prop}
section
variable {α : Type} [Inhabited α] {C : List α → Chunk} {lt : α → α → Bool} {d0 d : List α} {lf sf : Nat} {lc sc : List Value}
theorem csrt {β : Type} {C : List β → Chunk} {d : List β} {φ : List β → Prop} {f : Nat} {as : List Operand} {vs : List Value} {tys : Array TypeId} (hb : hasBody P f = true)
    (ho : o.op = .call ⟨.value (.func f), as.toArray, tys⟩) (ha : evs L as = some vs) (hd : o.dst = some dd) (hN : Nat.blt dd N = true)
    (hc : ∀ w, St w0 (C d :: H) w → Calls P f vs.toArray w (fun e w' => e = .returned (.tuple #[]) ∧ ∃ e', φ e' ∧ St w0 (C e' :: H) w'))
    (k : ∀ e', φ e' → D N w0 (C e' :: H) ((dd, .tuple #[]) :: L) K) : D N w0 (C d :: H) L (fun a w => o.wp P a w K Q) :=
  D_call (σ := List β) (val := fun _ => .tuple #[]) (H' := fun e' => C e' :: H) (J := φ) hb ho ha hd hN
    (fun w hs => (hc w hs).mono fun _ _ ⟨he, e', h1, h2⟩ => ⟨e', he, h1, h2⟩) k
end
theorem results_0 {fn : Func} (hr : fn.results = #[]) (tmps : Array Value) (w : World) : (results fn tmps).run P w = .ok (.tuple #[]) w := by
  rw [results_resv, hr]; simp [Sem.run_bind, Sem.run_pure]
theorem R_0 {fn : Func} {R : Ending → World → Prop} (hr : fn.results = #[]) (h : ∀ w, St w0 H w → R (.returned (.tuple #[])) w) : D N w0 H L (bodyPost P fn R .ret) :=
  fun a w hf hs => bodyPost_ret (results_0 hr _ _) hf.dfr (h w hs)
theorem R_0n {fn : Func} {R : Ending → World → Prop} (hr : fn.results = #[]) (h : ∀ w, St w0 H w → R (.returned (.tuple #[])) w) : D N w0 H L (bodyPost P fn R .normal) :=
  fun a w hf hs => bodyPost_end (results_0 hr _ _) hf.dfr (h w hs)
theorem D_cvU {t t' : TypeId} {x : Operand} {n : Nat} (ht : P.underlying t' = some (.int .u64)) (hu : ∃ u, P.underlying t = some u) (ho : o.op = .convert t t' x) (hx : ev L x = some (.int .i64 (n : Int))) (h : n ≤ 9223372036854775807) : RunV P N w0 H L o (.int .u64 (n : Int)) := by
  intro a w hf _
  obtain ⟨u, hu⟩ := hu
  unfold execOp
  rw [ho]
  have e : IntKind.u64.wrap (n : Int) = (n : Int) := by
    rw [IntKind.wrap_u64]; omega
  simp [convert, hf.ev hx, run_underlying ht, run_underlying hu, Conv.intToInt, e]
theorem D_cvI {t t' : TypeId} {x : Operand} {n : Nat} (ht : P.underlying t' = some (.int .i64)) (hu : ∃ u, P.underlying t = some u) (ho : o.op = .convert t t' x) (hx : ev L x = some (.int .u64 (n : Int))) (h : n ≤ 9223372036854775807) : RunV P N w0 H L o (.int .i64 (n : Int)) := by
  intro a w hf _
  obtain ⟨u, hu⟩ := hu
  unfold execOp
  rw [ho]
  simp [convert, hf.ev hx, run_underlying ht, run_underlying hu, Conv.intToInt, IntWalk.i64_in _ (show -9223372036854775808 ≤ (n : Int) ∧ (n : Int) ≤ 9223372036854775807 by omega)]
theorem D_mulN {t t' : TypeId} {x y : Operand} {m n : Nat} (ho : o.op = .binOp .mul t x y t') (hx : ev L x = some (.int .i64 (m : Int))) (hy : ev L y = some (.int .i64 (n : Int))) (h : m * n ≤ 9223372036854775807) : RunV P N w0 H L o (.int .i64 ((m * n : Nat) : Int)) := by
  intro a w hf _
  unfold execOp
  rw [ho]
  simp only [hf.ev hx, hf.ev hy]
  have e : IntKind.i64.wrap ((m : Int) * (n : Int)) = ((m * n : Nat) : Int) := by
    rw [show (m : Int) * (n : Int) = ((m * n : Nat) : Int) from by simp]
    exact IntWalk.i64_in _ (by omega)
  simp [eqGuard, binOp, Op.intArith, e]
end
end Go.Sy
namespace Go.Sy
open Go Go.RowKit
section
variable {P : Program} {N : Nat} {w0 : World} {H : List Chunk} {L : Fm} {Q : Exit → Act → World → Prop} {o : Oper} {dd : Nat} {K : Act → World → Prop}
theorem D_mkI {t : TypeId} {x : Operand} {v : Value} {e3 : Nat × Nat × Nat} (ht : sliceTy P t = some e3) (ho : o.op = .makeInterface t x) (hx : ev L x = some v) : RunV P N w0 H L o (.iface t v) := fun a w hf _ => by
  unfold sliceTy at ht
  split at ht
  · rename_i e' he
    unfold execOp
    rw [ho]
    simp [Instr.makeInterface, hf.ev hx, run_underlying he]
  · cases ht
end
end Go.Sy
