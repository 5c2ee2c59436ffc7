/-
  Rows that are sorted by exchanges: what the parts of a stable sort leave, as plain facts on lists.
  Conditions: those that each theorem states.
-/
import Derived.Test.YtkdghbglefhcjaaSym
namespace Go.Sy
section
variable {α : Type} [Inhabited α]
def A (d : List α) (i : Nat) : α := (d[i]?).getD default
def swp (d : List α) (i j : Nat) : List α := (d.set i (A d j)).set j (A d i)
theorem swp_len (d : List α) (i j : Nat) : (swp d i j).length = d.length := by simp [swp]
theorem A_of {d : List α} {i : Nat} {x : α} (h : d[i]? = some x) : A d i = x := by simp [A, h]
theorem A_get {d : List α} {i : Nat} (h : i < d.length) : d[i]? = some (A d i) := by simp [A, h]
theorem A_set {d : List α} {i k : Nat} {x : α} (h : i < d.length) : A (d.set i x) k = if k = i then x else A d k := by
  unfold A
  rw [List.getElem?_set]
  by_cases e : i = k
  · subst e; simp [h]
  · rw [if_neg e, if_neg (fun h => e h.symm)]
theorem A_swp {d : List α} {i j k : Nat} (hi : i < d.length) (hj : j < d.length) : A (swp d i j) k = if k = j then A d i else if k = i then A d j else A d k := by
  unfold swp
  rw [A_set (by simpa using hj)]
  split
  · rfl
  · rw [A_set hi]
theorem ext_A {d e : List α} (hl : d.length = e.length) (h : ∀ i, i < d.length → A d i = A e i) : d = e := by
  refine List.ext_getElem? (fun i => ?_)
  rcases Nat.lt_or_ge i d.length with hi | hi
  · rw [A_get hi, A_get (by omega), h i hi]
  · rw [List.getElem?_eq_none hi, List.getElem?_eq_none (by omega)]
theorem perm_set_cons {β : Type} {x y : β} : ∀ {l : List β} {j : Nat}, l[j]? = some y → List.Perm (y :: l.set j x) (x :: l)
  | [], _, h => by simp at h
  | z :: l, 0, h => by
    simp only [List.getElem?_cons_zero, Option.some.injEq] at h
    subst h
    exact List.Perm.swap _ _ _
  | z :: l, j + 1, h => by
    simp only [List.getElem?_cons_succ] at h
    have ih := perm_set_cons (x := x) h
    simp only [List.set_cons_succ]
    exact (List.Perm.swap z y _).trans ((ih.cons z).trans (List.Perm.swap x z _))
theorem swp_perm_lt : ∀ {d : List α} {i j : Nat}, i < j → j < d.length → List.Perm (swp d i j) d
  | [], _, _, _, h => by simp at h
  | z :: d, 0, j + 1, _, h => by
    have hj : j < d.length := by simpa using h
    unfold swp
    have e1 : A (z :: d) (j + 1) = A d j := by simp [A]
    have e2 : A (z :: d) 0 = z := by simp [A]
    rw [e1, e2]
    simp only [List.set_cons_zero, List.set_cons_succ]
    exact perm_set_cons (A_get hj)
  | z :: d, i + 1, j + 1, hij, h => by
    have ih := swp_perm_lt (d := d) (i := i) (j := j) (by omega) (by simpa using h)
    unfold swp at ih ⊢
    have e1 : A (z :: d) (j + 1) = A d j := by simp [A]
    have e2 : A (z :: d) (i + 1) = A d i := by simp [A]
    rw [e1, e2]
    simp only [List.set_cons_succ]
    exact ih.cons z
theorem swp_comm {d : List α} {i j : Nat} (hi : i < d.length) (hj : j < d.length) : swp d i j = swp d j i := by
  refine ext_A (by simp [swp_len]) (fun k _ => ?_)
  rw [A_swp hi hj, A_swp hj hi]
  by_cases h1 : k = j <;> by_cases h2 : k = i <;> simp [h1, h2] <;> (try subst h1) <;> (try simp_all)
theorem swp_perm {d : List α} {i j : Nat} (hi : i < d.length) (hj : j < d.length) : List.Perm (swp d i j) d := by
  rcases Nat.lt_trichotomy i j with h | h | h
  · exact swp_perm_lt h hj
  · subst h
    have : swp d i i = d := ext_A (swp_len _ _ _) (fun k _ => by rw [A_swp hi hi]; split <;> simp_all)
    rw [this]
  · rw [swp_comm hi hj]; exact swp_perm_lt h hi

structure Ordr (lt : α → α → Bool) : Prop where
  asym : ∀ x y, lt x y = true → lt y x = false
  trans : ∀ x y z, lt y x = false → lt z y = false → lt z x = false
variable {lt : α → α → Bool}
theorem Ordr.lt_le {β : Type} {lt : β → β → Bool} (h : Ordr lt) {x y z : β} (h1 : lt y x = false) (h2 : lt y z = true) : lt x z = true := by
  cases e : lt x z with
  | true => rfl
  | false =>
    have := h.trans z x y e h1
    rw [h2] at this; cases this
theorem Ordr.refl {β : Type} {lt : β → β → Bool} (h : Ordr lt) (x : β) : lt x x = false := by
  cases e : lt x x with
  | false => rfl
  | true => have := h.asym x x e; rw [e] at this; exact this
def Srd (lt : α → α → Bool) (d : List α) (a b : Nat) : Prop := ∀ i j, a ≤ i → i < j → j < b → lt (A d j) (A d i) = false
structure Chg (d e : List α) (a b : Nat) : Prop where
  len : e.length = d.length
  perm : List.Perm e d
  out : ∀ i, (i < a ∨ b ≤ i) → A e i = A d i
  mem : ∀ i, a ≤ i → i < b → ∃ j, a ≤ j ∧ j < b ∧ A e i = A d j
theorem Chg.refl (d : List α) (a b : Nat) : Chg d d a b := ⟨rfl, List.Perm.refl _, fun _ _ => rfl, fun i h1 h2 => ⟨i, h1, h2, rfl⟩⟩
theorem Chg.trans {d e f : List α} {a b : Nat} (h : Chg d e a b) (k : Chg e f a b) : Chg d f a b :=
  ⟨k.len.trans h.len, k.perm.trans h.perm, fun i hi => (k.out i hi).trans (h.out i hi), fun i h1 h2 => by
    obtain ⟨j, h3, h4, e1⟩ := k.mem i h1 h2
    obtain ⟨m, h5, h6, e2⟩ := h.mem j h3 h4
    exact ⟨m, h5, h6, e1.trans e2⟩⟩
theorem Chg.mono {d e : List α} {a b a' b' : Nat} (h : Chg d e a b) (ha : a' ≤ a) (hb : b ≤ b') : Chg d e a' b' :=
  ⟨h.len, h.perm, fun i hi => h.out i (by omega), fun i h1 h2 => by
    by_cases hc : a ≤ i ∧ i < b
    · obtain ⟨j, h3, h4, e1⟩ := h.mem i hc.1 hc.2
      exact ⟨j, by omega, by omega, e1⟩
    · exact ⟨i, h1, h2, h.out i (by omega)⟩⟩
theorem Chg.swp {d : List α} {i j a b : Nat} (hi : a ≤ i ∧ i < b) (hj : a ≤ j ∧ j < b) (hb : b ≤ d.length) : Chg d (swp d i j) a b := by
  have h1 : i < d.length := by omega
  have h2 : j < d.length := by omega
  refine ⟨swp_len _ _ _, swp_perm h1 h2, fun k hk => ?_, fun k h3 h4 => ?_⟩
  · rw [A_swp h1 h2, if_neg (by omega), if_neg (by omega)]
  · rw [A_swp h1 h2]
    split
    · exact ⟨i, hi.1, hi.2, rfl⟩
    · split
      · exact ⟨j, hj.1, hj.2, rfl⟩
      · exact ⟨k, h3, h4, rfl⟩
/-! ### insertion -/
def InsI (lt : α → α → Bool) (d : List α) (a i j : Nat) : Prop := ∀ p q, a ≤ p → p < q → q ≤ i → q ≠ j → lt (A d q) (A d p) = false
theorem ins_start {d : List α} {a i : Nat} (h : Srd lt d a i) : InsI lt d a i i := fun p q h1 h2 h3 h4 => h p q h1 h2 (by omega)
theorem ins_step (ho : Ordr lt) {d : List α} {a i j : Nat} (h : InsI lt d a i j) (hj : a < j) (hi : j ≤ i) (hl : i < d.length) (hlt : lt (A d j) (A d (j - 1)) = true) : InsI lt (swp d j (j - 1)) a i (j - 1) := by
  intro p q h1 h2 h3 h4
  rw [A_swp (by omega) (by omega), A_swp (by omega) (by omega), if_neg h4]
  by_cases hq : q = j
  · subst hq
    rw [if_pos rfl]
    by_cases hp : p = q - 1
    · rw [if_pos hp]; exact ho.asym _ _ hlt
    · rw [if_neg hp, if_neg (by omega)]
      exact h p (q - 1) h1 (by omega) (by omega) (by omega)
  · rw [if_neg hq]
    by_cases hp : p = j - 1
    · rw [if_pos hp]; exact h j q (by omega) (by omega) h3 hq
    · rw [if_neg hp]
      by_cases hp2 : p = j
      · rw [if_pos hp2]; exact h (j - 1) q (by omega) (by omega) h3 hq
      · rw [if_neg hp2]; exact h p q h1 h2 h3 hq
theorem ins_end1 {d : List α} {a i j : Nat} (h : InsI lt d a i j) (hj : j ≤ a) : Srd lt d a (i + 1) := fun p q h1 h2 h3 => h p q h1 h2 (by omega) (by omega)
theorem ins_end2 (ho : Ordr lt) {d : List α} {a i j : Nat} (h : InsI lt d a i j) (hj : a < j) (hi : j ≤ i) (hlt : lt (A d j) (A d (j - 1)) = false) : Srd lt d a (i + 1) := by
  intro p q h1 h2 h3
  by_cases hq : q = j
  · subst hq
    by_cases hp : p = q - 1
    · rw [hp]; exact hlt
    · exact ho.trans _ _ _ (h p (q - 1) h1 (by omega) (by omega) (by omega)) hlt
  · exact h p q h1 h2 (by omega) hq
theorem srd_one (d : List α) (a : Nat) : Srd lt d a (a + 1) := fun p q h1 h2 h3 => by omega
theorem srd_sub {d : List α} {a b a' b' : Nat} (h : Srd lt d a b) (ha : a ≤ a') (hb : b' ≤ b) : Srd lt d a' b' := fun p q h1 h2 h3 => h p q (by omega) h2 (by omega)
theorem srd_eq {d e : List α} {a b : Nat} (h : Srd lt d a b) (he : ∀ i, a ≤ i → i < b → A e i = A d i) : Srd lt e a b := fun p q h1 h2 h3 => by
  rw [he p h1 (by omega), he q (by omega) h3]; exact h p q h1 h2 h3
theorem srd_out {d e : List α} {a b a' b' : Nat} (h : Srd lt d a' b') (hc : Chg d e a b) (hd : b' ≤ a ∨ b ≤ a') : Srd lt e a' b' := srd_eq h (fun i h1 h2 => hc.out i (by omega))
/-! ### ranges exchanged, rows turned -/
def SwR (d e : List α) (a b n : Nat) : Prop := e.length = d.length ∧ List.Perm e d ∧ ∀ p, A e p = if a ≤ p ∧ p < a + n then A d (p + (b - a)) else if b ≤ p ∧ p < b + n then A d (p - (b - a)) else A d p
theorem swr_zero (d : List α) (a b : Nat) : SwR d d a b 0 := ⟨rfl, List.Perm.refl _, fun p => by rw [if_neg (by omega), if_neg (by omega)]⟩
theorem swr_step {d e : List α} {a b n i : Nat} (h : SwR d e a b i) (hi : i < n) (hab : a + n ≤ b) (hb : b + n ≤ d.length) : SwR d (swp e (a + i) (b + i)) a b (i + 1) := by
  obtain ⟨h1, h2, h3⟩ := h
  refine ⟨by rw [swp_len, h1], (swp_perm (by omega) (by omega)).trans h2, fun p => ?_⟩
  rw [A_swp (by omega) (by omega)]
  by_cases e1 : p = b + i
  · subst e1
    rw [if_pos rfl, h3, if_neg (by omega), if_neg (by omega), if_neg (by omega), if_pos (by omega)]
    congr 1; omega
  · rw [if_neg e1]
    by_cases e2 : p = a + i
    · subst e2
      rw [if_pos rfl, h3, if_neg (by omega), if_neg (by omega), if_pos (by omega)]
      congr 1; omega
    · rw [if_neg e2, h3]
      by_cases c1 : a ≤ p ∧ p < a + i
      · rw [if_pos c1, if_pos (by omega)]
      · have c1' : ¬ (a ≤ p ∧ p < a + (i + 1)) := by omega
        rw [if_neg c1, if_neg c1']
        by_cases c2 : b ≤ p ∧ p < b + i
        · have c2' : b ≤ p ∧ p < b + (i + 1) := by omega
          rw [if_pos c2, if_pos c2']
        · have c2' : ¬ (b ≤ p ∧ p < b + (i + 1)) := by omega
          rw [if_neg c2, if_neg c2']
def Rot (d e : List α) (a m b : Nat) : Prop := e.length = d.length ∧ List.Perm e d ∧ ∀ p, A e p = if p < a ∨ b ≤ p then A d p else if p < a + (b - m) then A d (p + (m - a)) else A d (p - (b - m))
theorem rot_gt {d e f : List α} {m i j : Nat} (hs : SwR d e (m - i) m j) (hij : j < i) (hi : i ≤ m) (h : Rot e f (m - (i - j)) m (m + j)) : Rot d f (m - i) m (m + j) := by
  obtain ⟨h1, h2, h3⟩ := hs
  obtain ⟨k1, k2, k3⟩ := h
  refine ⟨k1.trans h1, k2.trans h2, fun p => ?_⟩
  rw [k3 p]
  by_cases c0 : p < m - i ∨ m + j ≤ p
  · rw [if_pos (by omega), if_pos c0, h3, if_neg (by omega), if_neg (by omega)]
  · rw [if_neg c0]
    by_cases c1 : p < m - i + (m + j - m)
    · rw [if_pos (by omega), if_pos c1, h3, if_pos (by omega)]
    · rw [if_neg c1, if_neg (by omega)]
      by_cases c2 : p < m - (i - j) + (m + j - m)
      · rw [if_pos c2, h3, if_neg (by omega), if_pos (by omega)]
        congr 1; omega
      · rw [if_neg c2, h3, if_neg (by omega), if_neg (by omega)]
theorem rot_lt {d e f : List α} {m i j : Nat} (hs : SwR d e (m - i) (m + j - i) i) (hij : i < j) (hi : i ≤ m) (h : Rot e f (m - i) m (m + (j - i))) : Rot d f (m - i) m (m + j) := by
  obtain ⟨h1, h2, h3⟩ := hs
  obtain ⟨k1, k2, k3⟩ := h
  refine ⟨k1.trans h1, k2.trans h2, fun p => ?_⟩
  rw [k3 p]
  by_cases c0 : p < m - i ∨ m + j ≤ p
  · rw [if_pos (by omega), if_pos c0, h3, if_neg (by omega), if_neg (by omega)]
  · rw [if_neg c0]
    by_cases c3 : m + (j - i) ≤ p
    · rw [if_pos (by omega), h3, if_neg (by omega), if_pos (by omega), if_neg (by omega)]
      congr 1; omega
    · rw [if_neg (by omega)]
      by_cases c2 : p < m - i + (m + (j - i) - m)
      · rw [if_pos c2, if_pos (by omega), h3]
        by_cases c4 : m - i ≤ p + (m - (m - i)) ∧ p + (m - (m - i)) < m - i + i
        · omega
        · rw [if_neg c4, if_neg (by omega)]
      · rw [if_neg c2, h3]
        by_cases c5 : p < m - i + (m + j - m)
        · rw [if_pos c5, if_pos (by omega)]
          congr 1; omega
        · omega
theorem rot_eq {d e : List α} {m i : Nat} (hs : SwR d e (m - i) m i) (hi : i ≤ m) : Rot d e (m - i) m (m + i) := by
  obtain ⟨h1, h2, h3⟩ := hs
  refine ⟨h1, h2, fun p => ?_⟩
  rw [h3 p]
  by_cases c0 : p < m - i ∨ m + i ≤ p
  · rw [if_pos c0, if_neg (by omega), if_neg (by omega)]
  · rw [if_neg c0]
    by_cases c1 : p < m - i + (m + i - m)
    · rw [if_pos c1, if_pos (by omega)]
    · rw [if_neg c1, if_neg (by omega), if_pos (by omega)]
      congr 1; omega
theorem rot_chg {d e : List α} {a m b : Nat} (h : Rot d e a m b) (h1 : a ≤ m) (h2 : m ≤ b) : Chg d e a b := by
  obtain ⟨k1, k2, k3⟩ := h
  refine ⟨k1, k2, fun i hi => by rw [k3 i, if_pos hi], fun i h3 h4 => ?_⟩
  rw [k3 i, if_neg (by omega)]
  split
  · exact ⟨i + (m - a), by omega, by omega, rfl⟩
  · exact ⟨i - (b - m), by omega, by omega, rfl⟩
/-! ### one element merged -/
structure Low (lt : α → α → Bool) (d : List α) (a m b i j : Nat) : Prop where
  lo : ∀ k, m ≤ k → k < i → lt (A d k) (A d a) = true
  hi : ∀ k, j ≤ k → k < b → lt (A d k) (A d a) = false
theorem low_start (d : List α) (a m b : Nat) : Low lt d a m b m b := ⟨fun k h1 h2 => by omega, fun k h1 h2 => by omega⟩
theorem low_up (ho : Ordr lt) {d : List α} {a m b i j h : Nat} (hl : Low lt d a m b i j) (hs : Srd lt d m b) (h1 : i ≤ h) (h2 : h < j) (h3 : j ≤ b) (hm : m ≤ i) (hlt : lt (A d h) (A d a) = true) : Low lt d a m b (h + 1) j :=
  ⟨fun k k1 k2 => by
    by_cases e : k = h
    · rw [e]; exact hlt
    · exact ho.lt_le (hs k h k1 (by omega) (by omega)) hlt, hl.hi⟩
theorem low_dn (ho : Ordr lt) {d : List α} {a m b i j h : Nat} (hl : Low lt d a m b i j) (hs : Srd lt d m b) (h1 : i ≤ h) (h2 : h < j) (hm : m ≤ i) (hlt : lt (A d h) (A d a) = false) : Low lt d a m b i h :=
  ⟨hl.lo, fun k k1 k2 => by
    by_cases e : k = h
    · rw [e]; exact hlt
    · exact ho.trans _ _ _ hlt (hs h k (by omega) (by omega) k2)⟩
/-- the first element walks up to place k -/
structure Up (d e : List α) (a k b : Nat) : Prop where
  chg : Chg d e a b
  lo : ∀ p, a ≤ p → p < k → A e p = A d (p + 1)
  at_ : A e k = A d a
  hi : ∀ p, k < p → A e p = A d p
theorem up_start (d : List α) (a b : Nat) : Up d d a a b := ⟨Chg.refl _ _ _, fun p h1 h2 => by omega, rfl, fun _ _ => rfl⟩
theorem up_step {d e : List α} {a k b : Nat} (h : Up d e a k b) (hk : a ≤ k) (hb : k + 1 < b) (hl : b ≤ d.length) : Up d (swp e k (k + 1)) a (k + 1) b := by
  have hle : e.length = d.length := h.chg.len
  refine ⟨h.chg.trans (Chg.swp ⟨hk, by omega⟩ ⟨by omega, hb⟩ (by omega)), fun p h1 h2 => ?_, ?_, fun p hp => ?_⟩
  · rw [A_swp (by omega) (by omega), if_neg (by omega)]
    split
    · rename_i e1; rw [h.hi _ (by omega), e1]
    · exact h.lo p h1 (by omega)
  · rw [A_swp (by omega) (by omega), if_pos rfl]; exact h.at_
  · rw [A_swp (by omega) (by omega), if_neg (by omega), if_neg (by omega)]; exact h.hi p (by omega)
theorem up_end (ho : Ordr lt) {d e : List α} {a m b i : Nat} (hu : Up d e a (i - 1) b) (hm : m = a + 1) (hi : m ≤ i) (hib : i ≤ b) (hl : Low lt d a m b i i) (hs : Srd lt d m b) : Srd lt e a b := by
  intro p q h1 h2 h3
  have ep : A e p = if p < i - 1 then A d (p + 1) else if p = i - 1 then A d a else A d p := by
    split
    · exact hu.lo p h1 (by assumption)
    · split
      · rename_i e1; rw [e1]; exact hu.at_
      · exact hu.hi p (by omega)
  have eq : A e q = if q < i - 1 then A d (q + 1) else if q = i - 1 then A d a else A d q := by
    split
    · exact hu.lo q (by omega) (by assumption)
    · split
      · rename_i e1; rw [e1]; exact hu.at_
      · exact hu.hi q (by omega)
  rw [ep, eq]
  by_cases c1 : q < i - 1
  · rw [if_pos c1, if_pos (by omega)]; exact hs _ _ (by omega) (by omega) (by omega)
  · rw [if_neg c1]
    by_cases c2 : q = i - 1
    · rw [if_pos c2, if_pos (by omega)]; exact ho.asym _ _ (hl.lo (p + 1) (by omega) (by omega))
    · rw [if_neg c2]
      by_cases c3 : p < i - 1
      · rw [if_pos c3]; exact hs _ _ (by omega) (by omega) h3
      · rw [if_neg c3]
        by_cases c4 : p = i - 1
        · rw [if_pos c4]; exact hl.hi q (by omega) h3
        · rw [if_neg c4]; exact hs _ _ (by omega) h2 h3
structure Hgh (lt : α → α → Bool) (d : List α) (a m i j : Nat) : Prop where
  lo : ∀ k, a ≤ k → k < i → lt (A d m) (A d k) = false
  hi : ∀ k, j ≤ k → k < m → lt (A d m) (A d k) = true
theorem hgh_start (d : List α) (a m : Nat) : Hgh lt d a m a m := ⟨fun k h1 h2 => by omega, fun k h1 h2 => by omega⟩
theorem hgh_up (ho : Ordr lt) {d : List α} {a m i j h : Nat} (hl : Hgh lt d a m i j) (hs : Srd lt d a m) (h1 : i ≤ h) (h2 : h < j) (hj : j ≤ m) (ha : a ≤ i) (hlt : lt (A d m) (A d h) = false) : Hgh lt d a m (h + 1) j :=
  ⟨fun k k1 k2 => by
    by_cases e : k = h
    · rw [e]; exact hlt
    · exact ho.trans _ _ _ (hs k h k1 (by omega) (by omega)) hlt, hl.hi⟩
theorem hgh_dn (ho : Ordr lt) {d : List α} {a m i j h : Nat} (hl : Hgh lt d a m i j) (hs : Srd lt d a m) (h1 : i ≤ h) (h2 : h < j) (ha : a ≤ i) (hlt : lt (A d m) (A d h) = true) : Hgh lt d a m i h :=
  ⟨hl.lo, fun k k1 k2 => by
    by_cases e : k = h
    · rw [e]; exact hlt
    · cases e2 : lt (A d m) (A d k) with
      | true => rfl
      | false =>
        have h3 := hs h k (by omega) (by omega) k2
        have := ho.trans _ _ _ h3 e2
        rw [hlt] at this; cases this⟩
/-- the last element walks down to place k -/
structure Dwn (d e : List α) (a k m : Nat) : Prop where
  chg : Chg d e a (m + 1)
  lo : ∀ p, p < k → A e p = A d p
  at_ : A e k = A d m
  mid : ∀ p, k < p → p ≤ m → A e p = A d (p - 1)
  hi : ∀ p, m < p → A e p = A d p
theorem dwn_start (d : List α) (a m : Nat) : Dwn d d a m m := ⟨Chg.refl _ _ _, fun _ _ => rfl, rfl, fun p h1 h2 => by omega, fun _ _ => rfl⟩
theorem dwn_step {d e : List α} {a k m : Nat} (h : Dwn d e a k m) (hk : a < k) (hm : k ≤ m) (hl : m < d.length) : Dwn d (swp e k (k - 1)) a (k - 1) m := by
  have hle : e.length = d.length := h.chg.len
  refine ⟨h.chg.trans (Chg.swp ⟨by omega, by omega⟩ ⟨by omega, by omega⟩ (by omega)), fun p h1 => ?_, ?_, fun p h1 h2 => ?_, fun p hp => ?_⟩
  · rw [A_swp (by omega) (by omega), if_neg (by omega), if_neg (by omega)]; exact h.lo p (by omega)
  · rw [A_swp (by omega) (by omega), if_pos rfl]; exact h.at_
  · rw [A_swp (by omega) (by omega), if_neg (by omega)]
    split
    · rename_i e1; rw [h.lo _ (by omega), e1]
    · exact h.mid p (by omega) h2
  · rw [A_swp (by omega) (by omega), if_neg (by omega), if_neg (by omega)]; exact h.hi p hp
theorem dwn_end (ho : Ordr lt) {d e : List α} {a m i : Nat} (hu : Dwn d e a i m) (hi : a ≤ i) (him : i ≤ m) (hl : Hgh lt d a m i i) (hs : Srd lt d a m) : Srd lt e a (m + 1) := by
  intro p q h1 h2 h3
  have ep : A e p = if p < i then A d p else if p = i then A d m else A d (p - 1) := by
    split
    · exact hu.lo p (by assumption)
    · split
      · rename_i e1; rw [e1]; exact hu.at_
      · exact hu.mid p (by omega) (by omega)
  have eq : A e q = if q < i then A d q else if q = i then A d m else A d (q - 1) := by
    split
    · exact hu.lo q (by assumption)
    · split
      · rename_i e1; rw [e1]; exact hu.at_
      · exact hu.mid q (by omega) (by omega)
  rw [ep, eq]
  by_cases c1 : q < i
  · rw [if_pos c1, if_pos (by omega)]; exact hs _ _ h1 h2 (by omega)
  · rw [if_neg c1]
    by_cases c2 : q = i
    · rw [if_pos c2, if_pos (by omega)]; exact hl.lo p h1 (by omega)
    · rw [if_neg c2]
      by_cases c3 : p < i
      · rw [if_pos c3]; exact hs _ _ h1 (by omega) (by omega)
      · rw [if_neg c3]
        by_cases c4 : p = i
        · rw [if_pos c4]; exact ho.asym _ _ (hl.hi (q - 1) (by omega) (by omega))
        · rw [if_neg c4]; exact hs _ _ (by omega) (by omega) (by omega)
/-! ### the search of symMerge -/
structure Sea (lt : α → α → Bool) (d : List α) (s0 r0 n s r : Nat) : Prop where
  lo : ∀ c, s0 ≤ c → c < s → lt (A d (n - 1 - c)) (A d c) = false
  hi : ∀ c, r ≤ c → c < r0 → lt (A d (n - 1 - c)) (A d c) = true
theorem sea_start (d : List α) (s0 r0 n : Nat) : Sea lt d s0 r0 n s0 r0 := ⟨fun c h1 h2 => by omega, fun c h1 h2 => by omega⟩
theorem sea_up (ho : Ordr lt) {d : List α} {a m b s0 r0 n s r c : Nat} (hl : Sea lt d s0 r0 n s r) (hs1 : Srd lt d a m) (hs2 : Srd lt d m b) (h1 : s ≤ c) (h2 : c < r) (hr : r ≤ r0) (hs : s0 ≤ s) (ha : a ≤ s0) (hm : r0 ≤ m) (hn1 : m + r0 ≤ n) (hn2 : n ≤ b + s0) (hlt : lt (A d (n - 1 - c)) (A d c) = false) : Sea lt d s0 r0 n (c + 1) r :=
  ⟨fun k k1 k2 => by
    by_cases e : k = c
    · rw [e]; exact hlt
    · exact ho.trans _ _ _ (ho.trans _ _ _ (hs1 k c (by omega) (by omega) (by omega)) hlt) (hs2 _ _ (by omega) (by omega) (by omega)), hl.hi⟩
theorem sea_dn (ho : Ordr lt) {d : List α} {a m b s0 r0 n s r c : Nat} (hl : Sea lt d s0 r0 n s r) (hs1 : Srd lt d a m) (hs2 : Srd lt d m b) (h1 : s ≤ c) (h2 : c < r) (hr : r ≤ r0) (hs : s0 ≤ s) (ha : a ≤ s0) (hm : r0 ≤ m) (hn1 : m + r0 ≤ n) (hn2 : n ≤ b + s0) (hlt : lt (A d (n - 1 - c)) (A d c) = true) : Sea lt d s0 r0 n s c :=
  ⟨hl.lo, fun k k1 k2 => by
    by_cases e : k = c
    · rw [e]; exact hlt
    · have h3 := hs1 c k (by omega) (by omega) (by omega)
      have h4 := hs2 (n - 1 - k) (n - 1 - c) (by omega) (by omega) (by omega)
      cases e2 : lt (A d (n - 1 - k)) (A d k) with
      | true => rfl
      | false =>
        have := ho.trans _ _ _ (ho.trans _ _ _ h3 e2) h4
        rw [hlt] at this; cases this⟩
/-- what lies ahead of the middle is below what lies behind it -/
def Crs (lt : α → α → Bool) (d : List α) (a mid b : Nat) : Prop := ∀ p q, a ≤ p → p < mid → mid ≤ q → q < b → lt (A d q) (A d p) = false
theorem crs_chg {d e f : List α} {a mid b : Nat} (h : Crs lt d a mid b) (h1 : Chg d e a mid) (h2 : Chg e f mid b) : Crs lt f a mid b := by
  intro p q k1 k2 k3 k4
  rw [h2.out p (by omega)]
  obtain ⟨p', a1, a2, e1⟩ := h1.mem p k1 k2
  obtain ⟨q', b1, b2, e2⟩ := h2.mem q k3 k4
  rw [e1, e2, h1.out q' (by omega)]
  exact h p' q' a1 a2 b1 b2
theorem srd_join {d : List α} {a mid b : Nat} (h1 : Srd lt d a mid) (h2 : Srd lt d mid b) (hc : Crs lt d a mid b) : Srd lt d a b := by
  intro p q k1 k2 k3
  rcases Nat.lt_or_ge q mid with h | h
  · exact h1 p q k1 k2 h
  · rcases Nat.lt_or_ge p mid with h' | h'
    · exact hc p q k1 h' h k3
    · exact h2 p q h' k2 k3
/-- behind the rotation: 's' is where the search ended, 'e = n - s' -/
theorem sym_crs (ho : Ordr lt) {d f : List α} {a m b mid s0 r0 n s e : Nat} (hn : n = mid + m) (he : e = n - s) (hsea : Sea lt d s0 r0 n s s) (hs1 : Srd lt d a m) (hs2 : Srd lt d m b)
    (h0 : s0 ≤ s) (h1 : s ≤ r0) (hab : a ≤ mid) (hmb : mid ≤ b) (ham : a ≤ m) (hmb2 : m ≤ b) (hcase : (mid < m ∧ s0 = n - b ∧ b ≤ n ∧ r0 = mid) ∨ (m ≤ mid ∧ s0 = a ∧ r0 = m)) (hlow : a ≤ s0) (hn2 : n ≤ b + s0)
    (hrot : Rot d f s m e) : Crs lt f a mid b := by
  obtain ⟨k1, k2, k3⟩ := hrot
  have hsm : s ≤ m := by omega
  have hme : m ≤ e := by omega
  have heb : e ≤ b := by omega
  intro p q p1 p2 q1 q2
  -- where the elements come from
  have ep : (p < s ∧ A f p = A d p) ∨ (s ≤ p ∧ A f p = A d (p + (m - s)) ∧ p + (m - s) < e) := by
    rcases Nat.lt_or_ge p s with h | h
    · left; exact ⟨h, by rw [k3 p, if_pos (by omega)]⟩
    · right; exact ⟨h, by rw [k3 p, if_neg (by omega), if_pos (by omega)], by omega⟩
  have eq : (e ≤ q ∧ A f q = A d q) ∨ (q < e ∧ A f q = A d (q - (e - m)) ∧ s ≤ q - (e - m) ∧ q - (e - m) < m) := by
    rcases Nat.lt_or_ge q e with h | h
    · right; exact ⟨h, by rw [k3 q, if_neg (by omega), if_neg (by omega)], by omega, by omega⟩
    · left; exact ⟨h, by rw [k3 q, if_pos (by omega)]⟩
  rcases ep with ⟨hp, e1⟩ | ⟨hp, e1, hp2⟩ <;> rcases eq with ⟨hq, e2⟩ | ⟨hq, e2, hq2, hq3⟩ <;> rw [e1, e2]
  · -- low left, high right
    by_cases hs : s = s0
    · rcases hcase with ⟨c1, c2, c3, c4⟩ | ⟨c1, c2, c3⟩ <;> omega
    · have h3 := hsea.lo (s - 1) (by omega) (by omega)
      rw [show n - 1 - (s - 1) = e from by omega] at h3
      have h4 : lt (A d e) (A d p) = false := by
        by_cases h5 : p = s - 1
        · rw [h5]; exact h3
        · exact ho.trans _ _ _ (hs1 p (s - 1) p1 (by omega) (by omega)) h3
      by_cases h5 : q = e
      · rw [h5]; exact h4
      · exact ho.trans _ _ _ h4 (hs2 e q hme (by omega) q2)
  · exact hs1 p _ p1 (by omega) hq3
  · exact hs2 _ q (by omega) (by omega) q2
  · by_cases hs : s = r0
    · rcases hcase with ⟨c1, c2, c3, c4⟩ | ⟨c1, c2, c3⟩ <;> omega
    · have h3 := hsea.hi s (by omega) (by omega)
      rw [show n - 1 - s = e - 1 from by omega] at h3
      have h3' := ho.asym _ _ h3
      have h4 : lt (A d s) (A d (p + (m - s))) = false := by
        by_cases h5 : p + (m - s) = e - 1
        · rw [h5]; exact h3'
        · exact ho.trans _ _ _ (hs2 _ (e - 1) (by omega) (by omega) (by omega)) h3'
      by_cases h5 : q - (e - m) = s
      · rw [h5]; exact h4
      · exact ho.trans _ _ _ h4 (hs1 s _ (by omega) (by omega) hq3)
theorem rot_srd {d f : List α} {a m b s e : Nat} (hrot : Rot d f s m e) (hs1 : Srd lt d a m) (hs2 : Srd lt d m b) (h1 : a ≤ s) (h2 : s ≤ m) (h3 : m ≤ e) (h4 : e ≤ b) :
    Srd lt f a s ∧ Srd lt f s (s + (e - m)) ∧ Srd lt f (s + (e - m)) e ∧ Srd lt f e b := by
  obtain ⟨k1, k2, k3⟩ := hrot
  refine ⟨srd_eq (srd_sub hs1 (Nat.le_refl _) h2) (fun i i1 i2 => by rw [k3 i, if_pos (by omega)]), fun p q p1 p2 p3 => ?_, fun p q p1 p2 p3 => ?_, srd_eq (srd_sub hs2 h3 (Nat.le_refl _)) (fun i i1 i2 => by rw [k3 i, if_pos (by omega)])⟩
  · have ep : A f p = A d (p + (m - s)) := by rw [k3 p, if_neg (by omega), if_pos (by omega)]
    have eq : A f q = A d (q + (m - s)) := by rw [k3 q, if_neg (by omega), if_pos (by omega)]
    rw [ep, eq]
    exact hs2 _ _ (by omega) (by omega) (by omega)
  · have ep : A f p = A d (p - (e - m)) := by rw [k3 p, if_neg (by omega), if_neg (by omega)]
    have eq : A f q = A d (q - (e - m)) := by rw [k3 q, if_neg (by omega), if_neg (by omega)]
    rw [ep, eq]
    exact hs1 _ _ (by omega) (by omega) (by omega)
theorem rot_none {d : List α} {s m e : Nat} (h : s = m ∨ m = e) (h1 : s ≤ m) (h2 : m ≤ e) : Rot d d s m e := by
  refine ⟨rfl, List.Perm.refl _, fun p => ?_⟩
  by_cases c : p < s ∨ e ≤ p
  · rw [if_pos c]
  · rw [if_neg c]
    rcases h with h | h
    · rw [if_pos (by omega)]; congr 1; omega
    · rw [if_neg (by omega)]; congr 1; omega
/-! ### blocks -/
def Blk (lt : α → α → Bool) (d : List α) (w n lo : Nat) : Prop := ∀ q, lo ≤ q * w → Srd lt d (q * w) (min (q * w + w) n)
def Bld (lt : α → α → Bool) (d : List α) (w hi : Nat) : Prop := ∀ q, q * w + w ≤ hi → Srd lt d (q * w) (q * w + w)
theorem bld_zero (d : List α) {w : Nat} (hw : 0 < w) : Bld lt d w 0 := fun q h => by omega
theorem mul_cases (q q0 w : Nat) : q * w + w ≤ q0 * w ∨ q = q0 ∨ q0 * w + w ≤ q * w := by
  rcases Nat.lt_trichotomy q q0 with h | h | h
  · left
    have := Nat.mul_le_mul_right w (show q + 1 ≤ q0 from h)
    rw [Nat.add_mul, Nat.one_mul] at this; exact this
  · exact .inr (.inl h)
  · right; right
    have := Nat.mul_le_mul_right w (show q0 + 1 ≤ q from h)
    rw [Nat.add_mul, Nat.one_mul] at this; exact this
theorem bld_step {d e : List α} {w a b : Nat} (h : Bld lt d w a) (ha : ∃ q0, a = q0 * w) (hw : 0 < w) (hb : b = a + w) (hc : Chg d e a b) (hs : Srd lt e a b) : Bld lt e w b ∧ ∃ q0, b = q0 * w := by
  obtain ⟨q0, rfl⟩ := ha
  subst hb
  refine ⟨fun q hq => ?_, q0 + 1, by rw [Nat.add_mul, Nat.one_mul]⟩
  rcases mul_cases q q0 w with h1 | h1 | h1
  · exact srd_out (h q h1) hc (.inl h1)
  · subst h1; exact hs
  · omega
theorem blk_out {d e : List α} {w n lo a b : Nat} (h : Blk lt d w n lo) (hc : Chg d e a b) (hb : lo ≤ b) : Blk lt e w n b := fun q hq => srd_out (h q (by omega)) hc (.inr hq)
theorem bld_fin {d : List α} {w n a : Nat} (h : Bld lt d w a) (ha : ∃ q0, a = q0 * w) (hs : Srd lt d a n) (hn : n ≤ a + w) : Blk lt d w n 0 := by
  obtain ⟨q0, rfl⟩ := ha
  intro q _
  rcases mul_cases q q0 w with h1 | h1 | h1
  · exact srd_sub (h q h1) (Nat.le_refl _) (Nat.min_le_left _ _)
  · subst h1; exact srd_sub hs (Nat.le_refl _) (Nat.min_le_right _ _)
  · intro i j h2 h3 h4
    have := Nat.min_le_right (q * w + w) n
    omega
theorem bld_keep {d e : List α} {w a b : Nat} (h : Bld lt d w a) (hc : Chg d e a b) : Bld lt e w a := fun q hq => srd_out (h q hq) hc (.inl hq)
theorem blk_two {d : List α} {w n a : Nat} (h : Blk lt d w n a) (ha : ∃ q0, a = q0 * (2 * w)) : Srd lt d a (min (a + w) n) ∧ Srd lt d (a + w) (min (a + w + w) n) := by
  obtain ⟨q0, rfl⟩ := ha
  have e1 : (2 * q0) * w = q0 * (2 * w) := by rw [Nat.mul_comm 2 q0, Nat.mul_assoc]
  have e2 : (2 * q0 + 1) * w = q0 * (2 * w) + w := by rw [Nat.add_mul, Nat.one_mul, e1]
  have h1 := h (2 * q0) (by omega)
  have h2 := h (2 * q0 + 1) (by omega)
  rw [e1] at h1
  rw [e2] at h2
  exact ⟨h1, h2⟩
theorem blk_all {d : List α} {w n : Nat} (h : Blk lt d w n 0) (hn : n ≤ w) : Srd lt d 0 n := by
  have := h 0 (by omega)
  rw [Nat.zero_mul] at this
  exact srd_sub this (Nat.le_refl _) (by omega)
theorem srd_min {d : List α} {a b n : Nat} (h : Srd lt d a (min b n)) (hb : b ≤ n) : Srd lt d a b := srd_sub h (Nat.le_refl _) (by omega)
theorem srd_min2 {d : List α} {a b n : Nat} (h : Srd lt d a (min b n)) (hb : n ≤ b) : Srd lt d a n := srd_sub h (Nat.le_refl _) (by omega)
/-! ### the sorted row is one -/
theorem sorted_unique {β : Type} {lt : β → β → Bool} (ht : ∀ x y : β, lt x y = false → lt y x = false → x = y) : ∀ {d e : List β}, List.Perm d e → d.Pairwise (fun x y => lt y x = false) → e.Pairwise (fun x y => lt y x = false) → d = e
  | [], e, hp, _, _ => (List.Perm.nil_eq hp)
  | x :: d, [], hp, _, _ => absurd hp.length_eq (by simp)
  | x :: d, y :: e, hp, hd, he => by
    rw [List.pairwise_cons] at hd he
    have hxy : x = y := by
      have h1 : y ∈ x :: d := hp.mem_iff.2 (by simp)
      have h2 : x ∈ y :: e := hp.mem_iff.1 (by simp)
      rcases List.mem_cons.1 h1 with h1 | h1
      · exact h1.symm
      · rcases List.mem_cons.1 h2 with h2 | h2
        · exact h2
        · exact ht x y (he.1 x h2) (hd.1 y h1)
    subst hxy
    rw [sorted_unique ht ((List.perm_cons x).1 hp) hd.2 he.2]
theorem srd_pw {d : List α} (h : Srd lt d 0 d.length) : d.Pairwise (fun x y => lt y x = false) := by
  rw [List.pairwise_iff_getElem]
  intro i j hi hj hij
  have := h i j (Nat.zero_le _) hij hj
  rw [A_of (List.getElem?_eq_getElem hi), A_of (List.getElem?_eq_getElem hj)] at this
  exact this
end
end Go.Sy
