/-
  Rows that are sorted by exchanges: what the parts of a stable sort leave, as plain facts on lists.
  Conditions: those that each theorem states.
-/
import Derived.Test.YtobihkjhlopggaaGreatDoorSym
import Derived.Test.YtobihkjhlopggaaGreatDoorBase
import Derived.Test.YtobihkjhlopggaaGreatDoorOwn2
import Derived.Lib.ReflectliteSwap
import Derived.Laws.Externs
namespace Go.Sy
section
variable {α : Type} [Inhabited α]
def A (d : List α) (i : Nat) : α := (d[i]?).getD default
def swp (d : List α) (i j : Nat) : List α := (d.set i (A d j)).set j (A d i)
theorem swp_len (d : List α) (i j : Nat) : (swp d i j).length = d.length := by simp [swp]
theorem A_of {d : List α} {i : Nat} {x : α} (h : d[i]? = some x) : A d i = x := by simp [A, h]
theorem A_get {d : List α} {i : Nat} (h : i < d.length) : d[i]? = some (A d i) := by simp [A, h]
theorem A_set {d : List α} {i k : Nat} {x : α} (h : i < d.length) : A (d.set i x) k = if k = i then x else A d k := by
 unfold A;rw [List.getElem?_set]
 by_cases e : i = k
 ·subst e; simp [h]
 ·rw [if_neg e, if_neg (fun h => e h.symm)]
theorem A_swp {d : List α} {i j k : Nat} (hi : i < d.length) (hj : j < d.length) : A (swp d i j) k = if k = j then A d i else if k = i then A d j else A d k := by
 unfold swp;rw [A_set (by simpa using hj)]
 split
 ·rfl
 ·rw [A_set hi]
theorem ext_A {d e : List α} (hl : d.length = e.length) (h : ∀ i, i < d.length → A d i = A e i) : d = e := by
 refine List.ext_getElem? (fun i => ?_)
 rcases Nat.lt_or_ge i d.length with hi | hi
 ·rw [A_get hi, A_get (by omega), h i hi]
 ·rw [List.getElem?_eq_none hi, List.getElem?_eq_none (by omega)]
theorem perm_set_cons {β : Type} {x y : β} : ∀ {l : List β} {j : Nat}, l[j]? = some y → List.Perm (y :: l.set j x) (x :: l)
 | [], _, h => by simp at h
 | z :: l, 0, h => by
  simp only [List.getElem?_cons_zero, Option.some.injEq] at h;subst h;exact List.Perm.swap _ _ _
 | z :: l, j + 1, h => by
  simp only [List.getElem?_cons_succ] at h;have ih := perm_set_cons (x := x) h;simp only [List.set_cons_succ];exact (List.Perm.swap z y _).trans ((ih.cons z).trans (List.Perm.swap x z _))
theorem swp_perm_lt : ∀ {d : List α} {i j : Nat}, i < j → j < d.length → List.Perm (swp d i j) d
 | [], _, _, _, h => by simp at h
 | z :: d, 0, j + 1, _, h => by
  have hj : j < d.length := by simpa using h
  unfold swp;have e1 : A (z :: d) (j + 1) = A d j := by simp [A]
  have e2 : A (z :: d) 0 = z := by simp [A]
  rw [e1, e2];simp only [List.set_cons_zero, List.set_cons_succ];exact perm_set_cons (A_get hj)
 | z :: d, i + 1, j + 1, hij, h => by
  have ih := swp_perm_lt (d := d) (i := i) (j := j) (by omega) (by simpa using h);unfold swp at ih ⊢;have e1 : A (z :: d) (j + 1) = A d j := by simp [A]
  have e2 : A (z :: d) (i + 1) = A d i := by simp [A]
  rw [e1, e2];simp only [List.set_cons_succ];exact ih.cons z
theorem swp_comm {d : List α} {i j : Nat} (hi : i < d.length) (hj : j < d.length) : swp d i j = swp d j i := by
 refine ext_A (by simp [swp_len]) (fun k _ => ?_);rw [A_swp hi hj, A_swp hj hi]
 by_cases h1 : k = j <;> by_cases h2 : k = i <;> simp [h1, h2] <;> (try subst h1) <;> (try simp_all)
theorem swp_perm {d : List α} {i j : Nat} (hi : i < d.length) (hj : j < d.length) : List.Perm (swp d i j) d := by
 rcases Nat.lt_trichotomy i j with h | h | h
 ·exact swp_perm_lt h hj
 ·subst h;have : swp d i i = d := ext_A (swp_len _ _ _) (fun k _ => by rw [A_swp hi hi]; split <;> simp_all);rw [this]
 ·rw [swp_comm hi hj]; exact swp_perm_lt h hi
structure Ordr (lt : α → α → Bool) : Prop where
  asym : ∀ x y, lt x y = true → lt y x = false
  trans : ∀ x y z, lt y x = false → lt z y = false → lt z x = false
variable {lt : α → α → Bool}
theorem Ordr.lt_le {β : Type} {lt : β → β → Bool} (h : Ordr lt) {x y z : β} (h1 : lt y x = false) (h2 : lt y z = true) : lt x z = true := by
 cases e : lt x z with
 | true => rfl
 | false =>
  have := h.trans z x y e h1;rw [h2] at this; cases this
theorem Ordr.refl {β : Type} {lt : β → β → Bool} (h : Ordr lt) (x : β) : lt x x = false := by
 cases e : lt x x with
 | false => rfl
 | true => have := h.asym x x e; rw [e] at this; exact this
def Srd (lt : α → α → Bool) (d : List α) (a b : Nat) : Prop := ∀ i j, a ≤ i → i < j → j < b → lt (A d j) (A d i) = false
structure Chg (d e : List α) (a b : Nat) : Prop where
  len : e.length = d.length
  perm : List.Perm e d
  out : ∀ i, (i < a ∨ b ≤ i) → A e i = A d i
  mem : ∀ i, a ≤ i → i < b → ∃ j, a ≤ j ∧ j < b ∧ A e i = A d j
theorem Chg.refl (d : List α) (a b : Nat) : Chg d d a b := ⟨rfl, List.Perm.refl _, fun _ _ => rfl, fun i h1 h2 => ⟨i, h1, h2, rfl⟩⟩
theorem Chg.trans {d e f : List α} {a b : Nat} (h : Chg d e a b) (k : Chg e f a b) : Chg d f a b :=
 ⟨k.len.trans h.len, k.perm.trans h.perm, fun i hi => (k.out i hi).trans (h.out i hi), fun i h1 h2 => by
  obtain ⟨j, h3, h4, e1⟩ := k.mem i h1 h2;obtain ⟨m, h5, h6, e2⟩ := h.mem j h3 h4;exact ⟨m, h5, h6, e1.trans e2⟩⟩
theorem Chg.mono {d e : List α} {a b a' b' : Nat} (h : Chg d e a b) (ha : a' ≤ a) (hb : b ≤ b') : Chg d e a' b' :=
 ⟨h.len, h.perm, fun i hi => h.out i (by omega), fun i h1 h2 => by
  by_cases hc : a ≤ i ∧ i < b
  ·obtain ⟨j, h3, h4, e1⟩ := h.mem i hc.1 hc.2;exact ⟨j, by omega, by omega, e1⟩
  ·exact ⟨i, h1, h2, h.out i (by omega)⟩⟩
theorem Chg.swp {d : List α} {i j a b : Nat} (hi : a ≤ i ∧ i < b) (hj : a ≤ j ∧ j < b) (hb : b ≤ d.length) : Chg d (swp d i j) a b := by
 have h1 : i < d.length := by omega
 have h2 : j < d.length := by omega
 refine ⟨swp_len _ _ _, swp_perm h1 h2, fun k hk => ?_, fun k h3 h4 => ?_⟩
 ·rw [A_swp h1 h2, if_neg (by omega), if_neg (by omega)]
 ·rw [A_swp h1 h2]
  split
  ·exact ⟨i, hi.1, hi.2, rfl⟩
  ·split
   ·exact ⟨j, hj.1, hj.2, rfl⟩
   ·exact ⟨k, h3, h4, rfl⟩
def InsI (lt : α → α → Bool) (d : List α) (a i j : Nat) : Prop := ∀ p q, a ≤ p → p < q → q ≤ i → q ≠ j → lt (A d q) (A d p) = false
theorem ins_start {d : List α} {a i : Nat} (h : Srd lt d a i) : InsI lt d a i i := fun p q h1 h2 h3 h4 => h p q h1 h2 (by omega)
theorem ins_step (ho : Ordr lt) {d : List α} {a i j : Nat} (h : InsI lt d a i j) (hj : a < j) (hi : j ≤ i) (hl : i < d.length) (hlt : lt (A d j) (A d (j - 1)) = true) : InsI lt (swp d j (j - 1)) a i (j - 1) := by
 intro p q h1 h2 h3 h4;rw [A_swp (by omega) (by omega), A_swp (by omega) (by omega), if_neg h4]
 by_cases hq : q = j
 ·subst hq;rw [if_pos rfl]
  by_cases hp : p = q - 1
  ·rw [if_pos hp]; exact ho.asym _ _ hlt
  ·rw [if_neg hp, if_neg (by omega)];exact h p (q - 1) h1 (by omega) (by omega) (by omega)
 ·rw [if_neg hq]
  by_cases hp : p = j - 1
  ·rw [if_pos hp]; exact h j q (by omega) (by omega) h3 hq
  ·rw [if_neg hp]
   by_cases hp2 : p = j
   ·rw [if_pos hp2]; exact h (j - 1) q (by omega) (by omega) h3 hq
   ·rw [if_neg hp2]; exact h p q h1 h2 h3 hq
theorem ins_end1 {d : List α} {a i j : Nat} (h : InsI lt d a i j) (hj : j ≤ a) : Srd lt d a (i + 1) := fun p q h1 h2 h3 => h p q h1 h2 (by omega) (by omega)
theorem ins_end2 (ho : Ordr lt) {d : List α} {a i j : Nat} (h : InsI lt d a i j) (hj : a < j) (hi : j ≤ i) (hlt : lt (A d j) (A d (j - 1)) = false) : Srd lt d a (i + 1) := by
 intro p q h1 h2 h3
 by_cases hq : q = j
 ·subst hq
  by_cases hp : p = q - 1
  ·rw [hp]; exact hlt
  ·exact ho.trans _ _ _ (h p (q - 1) h1 (by omega) (by omega) (by omega)) hlt
 ·exact h p q h1 h2 (by omega) hq
theorem srd_one (d : List α) (a : Nat) : Srd lt d a (a + 1) := fun p q h1 h2 h3 => by omega
theorem srd_sub {d : List α} {a b a' b' : Nat} (h : Srd lt d a b) (ha : a ≤ a') (hb : b' ≤ b) : Srd lt d a' b' := fun p q h1 h2 h3 => h p q (by omega) h2 (by omega)
theorem srd_eq {d e : List α} {a b : Nat} (h : Srd lt d a b) (he : ∀ i, a ≤ i → i < b → A e i = A d i) : Srd lt e a b := fun p q h1 h2 h3 => by
 rw [he p h1 (by omega), he q (by omega) h3]; exact h p q h1 h2 h3
theorem srd_out {d e : List α} {a b a' b' : Nat} (h : Srd lt d a' b') (hc : Chg d e a b) (hd : b' ≤ a ∨ b ≤ a') : Srd lt e a' b' := srd_eq h (fun i h1 h2 => hc.out i (by omega))
def SwR (d e : List α) (a b n : Nat) : Prop := e.length = d.length ∧ List.Perm e d ∧ ∀ p, A e p = if a ≤ p ∧ p < a + n then A d (p + (b - a)) else if b ≤ p ∧ p < b + n then A d (p - (b - a)) else A d p
theorem swr_zero (d : List α) (a b : Nat) : SwR d d a b 0 := ⟨rfl, List.Perm.refl _, fun p => by rw [if_neg (by omega), if_neg (by omega)]⟩
theorem swr_step {d e : List α} {a b n i : Nat} (h : SwR d e a b i) (hi : i < n) (hab : a + n ≤ b) (hb : b + n ≤ d.length) : SwR d (swp e (a + i) (b + i)) a b (i + 1) := by
 obtain ⟨h1, h2, h3⟩ := h;refine ⟨by rw [swp_len, h1], (swp_perm (by omega) (by omega)).trans h2, fun p => ?_⟩;rw [A_swp (by omega) (by omega)]
 by_cases e1 : p = b + i
 ·subst e1;rw [if_pos rfl, h3, if_neg (by omega), if_neg (by omega), if_neg (by omega), if_pos (by omega)]
  congr 1; omega
 ·rw [if_neg e1]
  by_cases e2 : p = a + i
  ·subst e2;rw [if_pos rfl, h3, if_neg (by omega), if_neg (by omega), if_pos (by omega)]
   congr 1; omega
  ·rw [if_neg e2, h3]
   by_cases c1 : a ≤ p ∧ p < a + i
   ·rw [if_pos c1, if_pos (by omega)]
   ·have c1' : ¬ (a ≤ p ∧ p < a + (i + 1)) := by omega
    rw [if_neg c1, if_neg c1']
    by_cases c2 : b ≤ p ∧ p < b + i
    ·have c2' : b ≤ p ∧ p < b + (i + 1) := by omega
     rw [if_pos c2, if_pos c2']
    ·have c2' : ¬ (b ≤ p ∧ p < b + (i + 1)) := by omega
     rw [if_neg c2, if_neg c2']
def Rot (d e : List α) (a m b : Nat) : Prop := e.length = d.length ∧ List.Perm e d ∧ ∀ p, A e p = if p < a ∨ b ≤ p then A d p else if p < a + (b - m) then A d (p + (m - a)) else A d (p - (b - m))
theorem rot_gt {d e f : List α} {m i j : Nat} (hs : SwR d e (m - i) m j) (hij : j < i) (hi : i ≤ m) (h : Rot e f (m - (i - j)) m (m + j)) : Rot d f (m - i) m (m + j) := by
 obtain ⟨h1, h2, h3⟩ := hs;obtain ⟨k1, k2, k3⟩ := h;refine ⟨k1.trans h1, k2.trans h2, fun p => ?_⟩;rw [k3 p]
 by_cases c0 : p < m - i ∨ m + j ≤ p
 ·rw [if_pos (by omega), if_pos c0, h3, if_neg (by omega), if_neg (by omega)]
 ·rw [if_neg c0]
  by_cases c1 : p < m - i + (m + j - m)
  ·rw [if_pos (by omega), if_pos c1, h3, if_pos (by omega)]
  ·rw [if_neg c1, if_neg (by omega)]
   by_cases c2 : p < m - (i - j) + (m + j - m)
   ·rw [if_pos c2, h3, if_neg (by omega), if_pos (by omega)]
    congr 1; omega
   ·rw [if_neg c2, h3, if_neg (by omega), if_neg (by omega)]
theorem rot_lt {d e f : List α} {m i j : Nat} (hs : SwR d e (m - i) (m + j - i) i) (hij : i < j) (hi : i ≤ m) (h : Rot e f (m - i) m (m + (j - i))) : Rot d f (m - i) m (m + j) := by
 obtain ⟨h1, h2, h3⟩ := hs;obtain ⟨k1, k2, k3⟩ := h;refine ⟨k1.trans h1, k2.trans h2, fun p => ?_⟩;rw [k3 p]
 by_cases c0 : p < m - i ∨ m + j ≤ p
 ·rw [if_pos (by omega), if_pos c0, h3, if_neg (by omega), if_neg (by omega)]
 ·rw [if_neg c0]
  by_cases c3 : m + (j - i) ≤ p
  ·rw [if_pos (by omega), h3, if_neg (by omega), if_pos (by omega), if_neg (by omega)]
   congr 1; omega
  ·rw [if_neg (by omega)]
   by_cases c2 : p < m - i + (m + (j - i) - m)
   ·rw [if_pos c2, if_pos (by omega), h3]
    by_cases c4 : m - i ≤ p + (m - (m - i)) ∧ p + (m - (m - i)) < m - i + i
    ·omega
    ·rw [if_neg c4, if_neg (by omega)]
   ·rw [if_neg c2, h3]
    by_cases c5 : p < m - i + (m + j - m)
    ·rw [if_pos c5, if_pos (by omega)]
     congr 1; omega
    ·omega
theorem rot_eq {d e : List α} {m i : Nat} (hs : SwR d e (m - i) m i) (hi : i ≤ m) : Rot d e (m - i) m (m + i) := by
 obtain ⟨h1, h2, h3⟩ := hs;refine ⟨h1, h2, fun p => ?_⟩;rw [h3 p]
 by_cases c0 : p < m - i ∨ m + i ≤ p
 ·rw [if_pos c0, if_neg (by omega), if_neg (by omega)]
 ·rw [if_neg c0]
  by_cases c1 : p < m - i + (m + i - m)
  ·rw [if_pos c1, if_pos (by omega)]
  ·rw [if_neg c1, if_neg (by omega), if_pos (by omega)]
   congr 1; omega
theorem rot_chg {d e : List α} {a m b : Nat} (h : Rot d e a m b) (h1 : a ≤ m) (h2 : m ≤ b) : Chg d e a b := by
 obtain ⟨k1, k2, k3⟩ := h;refine ⟨k1, k2, fun i hi => by rw [k3 i, if_pos hi], fun i h3 h4 => ?_⟩;rw [k3 i, if_neg (by omega)]
 split
 ·exact ⟨i + (m - a), by omega, by omega, rfl⟩
 ·exact ⟨i - (b - m), by omega, by omega, rfl⟩
structure Low (lt : α → α → Bool) (d : List α) (a m b i j : Nat) : Prop where
  lo : ∀ k, m ≤ k → k < i → lt (A d k) (A d a) = true
  hi : ∀ k, j ≤ k → k < b → lt (A d k) (A d a) = false
theorem low_start (d : List α) (a m b : Nat) : Low lt d a m b m b := ⟨fun k h1 h2 => by omega, fun k h1 h2 => by omega⟩
theorem low_up (ho : Ordr lt) {d : List α} {a m b i j h : Nat} (hl : Low lt d a m b i j) (hs : Srd lt d m b) (h1 : i ≤ h) (h2 : h < j) (h3 : j ≤ b) (hm : m ≤ i) (hlt : lt (A d h) (A d a) = true) : Low lt d a m b (h + 1) j :=
 ⟨fun k k1 k2 => by
  by_cases e : k = h
  ·rw [e]; exact hlt
  ·exact ho.lt_le (hs k h k1 (by omega) (by omega)) hlt, hl.hi⟩
theorem low_dn (ho : Ordr lt) {d : List α} {a m b i j h : Nat} (hl : Low lt d a m b i j) (hs : Srd lt d m b) (h1 : i ≤ h) (h2 : h < j) (hm : m ≤ i) (hlt : lt (A d h) (A d a) = false) : Low lt d a m b i h :=
 ⟨hl.lo, fun k k1 k2 => by
  by_cases e : k = h
  ·rw [e]; exact hlt
  ·exact ho.trans _ _ _ hlt (hs h k (by omega) (by omega) k2)⟩
structure Up (d e : List α) (a k b : Nat) : Prop where
  chg : Chg d e a b
  lo : ∀ p, a ≤ p → p < k → A e p = A d (p + 1)
  at_ : A e k = A d a
  hi : ∀ p, k < p → A e p = A d p
theorem up_start (d : List α) (a b : Nat) : Up d d a a b := ⟨Chg.refl _ _ _, fun p h1 h2 => by omega, rfl, fun _ _ => rfl⟩
theorem up_step {d e : List α} {a k b : Nat} (h : Up d e a k b) (hk : a ≤ k) (hb : k + 1 < b) (hl : b ≤ d.length) : Up d (swp e k (k + 1)) a (k + 1) b := by
 have hle : e.length = d.length := h.chg.len;refine ⟨h.chg.trans (Chg.swp ⟨hk, by omega⟩ ⟨by omega, hb⟩ (by omega)), fun p h1 h2 => ?_, ?_, fun p hp => ?_⟩
 ·rw [A_swp (by omega) (by omega), if_neg (by omega)]
  split
  ·rename_i e1; rw [h.hi _ (by omega), e1]
  ·exact h.lo p h1 (by omega)
 ·rw [A_swp (by omega) (by omega), if_pos rfl]; exact h.at_
 ·rw [A_swp (by omega) (by omega), if_neg (by omega), if_neg (by omega)]; exact h.hi p (by omega)
theorem up_end (ho : Ordr lt) {d e : List α} {a m b i : Nat} (hu : Up d e a (i - 1) b) (hm : m = a + 1) (hi : m ≤ i) (hib : i ≤ b) (hl : Low lt d a m b i i) (hs : Srd lt d m b) : Srd lt e a b := by
 intro p q h1 h2 h3;have ep : A e p = if p < i - 1 then A d (p + 1) else if p = i - 1 then A d a else A d p := by
  split
  ·exact hu.lo p h1 (by assumption)
  ·split
   ·rename_i e1; rw [e1]; exact hu.at_
   ·exact hu.hi p (by omega)
 have eq : A e q = if q < i - 1 then A d (q + 1) else if q = i - 1 then A d a else A d q := by
  split
  ·exact hu.lo q (by omega) (by assumption)
  ·split
   ·rename_i e1; rw [e1]; exact hu.at_
   ·exact hu.hi q (by omega)
 rw [ep, eq]
 by_cases c1 : q < i - 1
 ·rw [if_pos c1, if_pos (by omega)]; exact hs _ _ (by omega) (by omega) (by omega)
 ·rw [if_neg c1]
  by_cases c2 : q = i - 1
  ·rw [if_pos c2, if_pos (by omega)]; exact ho.asym _ _ (hl.lo (p + 1) (by omega) (by omega))
  ·rw [if_neg c2]
   by_cases c3 : p < i - 1
   ·rw [if_pos c3]; exact hs _ _ (by omega) (by omega) h3
   ·rw [if_neg c3]
    by_cases c4 : p = i - 1
    ·rw [if_pos c4]; exact hl.hi q (by omega) h3
    ·rw [if_neg c4]; exact hs _ _ (by omega) h2 h3
structure Hgh (lt : α → α → Bool) (d : List α) (a m i j : Nat) : Prop where
  lo : ∀ k, a ≤ k → k < i → lt (A d m) (A d k) = false
  hi : ∀ k, j ≤ k → k < m → lt (A d m) (A d k) = true
theorem hgh_start (d : List α) (a m : Nat) : Hgh lt d a m a m := ⟨fun k h1 h2 => by omega, fun k h1 h2 => by omega⟩
theorem hgh_up (ho : Ordr lt) {d : List α} {a m i j h : Nat} (hl : Hgh lt d a m i j) (hs : Srd lt d a m) (h1 : i ≤ h) (h2 : h < j) (hj : j ≤ m) (ha : a ≤ i) (hlt : lt (A d m) (A d h) = false) : Hgh lt d a m (h + 1) j :=
 ⟨fun k k1 k2 => by
  by_cases e : k = h
  ·rw [e]; exact hlt
  ·exact ho.trans _ _ _ (hs k h k1 (by omega) (by omega)) hlt, hl.hi⟩
theorem hgh_dn (ho : Ordr lt) {d : List α} {a m i j h : Nat} (hl : Hgh lt d a m i j) (hs : Srd lt d a m) (h1 : i ≤ h) (h2 : h < j) (ha : a ≤ i) (hlt : lt (A d m) (A d h) = true) : Hgh lt d a m i h :=
 ⟨hl.lo, fun k k1 k2 => by
  by_cases e : k = h
  ·rw [e]; exact hlt
  ·cases e2 : lt (A d m) (A d k) with
   | true => rfl
   | false =>
    have h3 := hs h k (by omega) (by omega) k2;have := ho.trans _ _ _ h3 e2;rw [hlt] at this; cases this⟩
structure Dwn (d e : List α) (a k m : Nat) : Prop where
  chg : Chg d e a (m + 1)
  lo : ∀ p, p < k → A e p = A d p
  at_ : A e k = A d m
  mid : ∀ p, k < p → p ≤ m → A e p = A d (p - 1)
  hi : ∀ p, m < p → A e p = A d p
theorem dwn_start (d : List α) (a m : Nat) : Dwn d d a m m := ⟨Chg.refl _ _ _, fun _ _ => rfl, rfl, fun p h1 h2 => by omega, fun _ _ => rfl⟩
theorem dwn_step {d e : List α} {a k m : Nat} (h : Dwn d e a k m) (hk : a < k) (hm : k ≤ m) (hl : m < d.length) : Dwn d (swp e k (k - 1)) a (k - 1) m := by
 have hle : e.length = d.length := h.chg.len;refine ⟨h.chg.trans (Chg.swp ⟨by omega, by omega⟩ ⟨by omega, by omega⟩ (by omega)), fun p h1 => ?_, ?_, fun p h1 h2 => ?_, fun p hp => ?_⟩
 ·rw [A_swp (by omega) (by omega), if_neg (by omega), if_neg (by omega)]; exact h.lo p (by omega)
 ·rw [A_swp (by omega) (by omega), if_pos rfl]; exact h.at_
 ·rw [A_swp (by omega) (by omega), if_neg (by omega)]
  split
  ·rename_i e1; rw [h.lo _ (by omega), e1]
  ·exact h.mid p (by omega) h2
 ·rw [A_swp (by omega) (by omega), if_neg (by omega), if_neg (by omega)]; exact h.hi p hp
theorem dwn_end (ho : Ordr lt) {d e : List α} {a m i : Nat} (hu : Dwn d e a i m) (hi : a ≤ i) (him : i ≤ m) (hl : Hgh lt d a m i i) (hs : Srd lt d a m) : Srd lt e a (m + 1) := by
 intro p q h1 h2 h3;have ep : A e p = if p < i then A d p else if p = i then A d m else A d (p - 1) := by
  split
  ·exact hu.lo p (by assumption)
  ·split
   ·rename_i e1; rw [e1]; exact hu.at_
   ·exact hu.mid p (by omega) (by omega)
 have eq : A e q = if q < i then A d q else if q = i then A d m else A d (q - 1) := by
  split
  ·exact hu.lo q (by assumption)
  ·split
   ·rename_i e1; rw [e1]; exact hu.at_
   ·exact hu.mid q (by omega) (by omega)
 rw [ep, eq]
 by_cases c1 : q < i
 ·rw [if_pos c1, if_pos (by omega)]; exact hs _ _ h1 h2 (by omega)
 ·rw [if_neg c1]
  by_cases c2 : q = i
  ·rw [if_pos c2, if_pos (by omega)]; exact hl.lo p h1 (by omega)
  ·rw [if_neg c2]
   by_cases c3 : p < i
   ·rw [if_pos c3]; exact hs _ _ h1 (by omega) (by omega)
   ·rw [if_neg c3]
    by_cases c4 : p = i
    ·rw [if_pos c4]; exact ho.asym _ _ (hl.hi (q - 1) (by omega) (by omega))
    ·rw [if_neg c4]; exact hs _ _ (by omega) (by omega) (by omega)
structure Sea (lt : α → α → Bool) (d : List α) (s0 r0 n s r : Nat) : Prop where
  lo : ∀ c, s0 ≤ c → c < s → lt (A d (n - 1 - c)) (A d c) = false
  hi : ∀ c, r ≤ c → c < r0 → lt (A d (n - 1 - c)) (A d c) = true
theorem sea_start (d : List α) (s0 r0 n : Nat) : Sea lt d s0 r0 n s0 r0 := ⟨fun c h1 h2 => by omega, fun c h1 h2 => by omega⟩
theorem sea_up (ho : Ordr lt) {d : List α} {a m b s0 r0 n s r c : Nat} (hl : Sea lt d s0 r0 n s r) (hs1 : Srd lt d a m) (hs2 : Srd lt d m b) (h1 : s ≤ c) (h2 : c < r) (hr : r ≤ r0) (hs : s0 ≤ s) (ha : a ≤ s0) (hm : r0 ≤ m) (hn1 : m + r0 ≤ n) (hn2 : n ≤ b + s0) (hlt : lt (A d (n - 1 - c)) (A d c) = false) : Sea lt d s0 r0 n (c + 1) r :=
 ⟨fun k k1 k2 => by
  by_cases e : k = c
  ·rw [e]; exact hlt
  ·exact ho.trans _ _ _ (ho.trans _ _ _ (hs1 k c (by omega) (by omega) (by omega)) hlt) (hs2 _ _ (by omega) (by omega) (by omega)), hl.hi⟩
theorem sea_dn (ho : Ordr lt) {d : List α} {a m b s0 r0 n s r c : Nat} (hl : Sea lt d s0 r0 n s r) (hs1 : Srd lt d a m) (hs2 : Srd lt d m b) (h1 : s ≤ c) (h2 : c < r) (hr : r ≤ r0) (hs : s0 ≤ s) (ha : a ≤ s0) (hm : r0 ≤ m) (hn1 : m + r0 ≤ n) (hn2 : n ≤ b + s0) (hlt : lt (A d (n - 1 - c)) (A d c) = true) : Sea lt d s0 r0 n s c :=
 ⟨hl.lo, fun k k1 k2 => by
  by_cases e : k = c
  ·rw [e]; exact hlt
  ·have h3 := hs1 c k (by omega) (by omega) (by omega);have h4 := hs2 (n - 1 - k) (n - 1 - c) (by omega) (by omega) (by omega)
   cases e2 : lt (A d (n - 1 - k)) (A d k) with
   | true => rfl
   | false =>
    have := ho.trans _ _ _ (ho.trans _ _ _ h3 e2) h4;rw [hlt] at this; cases this⟩
def Crs (lt : α → α → Bool) (d : List α) (a mid b : Nat) : Prop := ∀ p q, a ≤ p → p < mid → mid ≤ q → q < b → lt (A d q) (A d p) = false
theorem crs_chg {d e f : List α} {a mid b : Nat} (h : Crs lt d a mid b) (h1 : Chg d e a mid) (h2 : Chg e f mid b) : Crs lt f a mid b := by
 intro p q k1 k2 k3 k4;rw [h2.out p (by omega)];obtain ⟨p', a1, a2, e1⟩ := h1.mem p k1 k2;obtain ⟨q', b1, b2, e2⟩ := h2.mem q k3 k4;rw [e1, e2, h1.out q' (by omega)];exact h p' q' a1 a2 b1 b2
theorem srd_join {d : List α} {a mid b : Nat} (h1 : Srd lt d a mid) (h2 : Srd lt d mid b) (hc : Crs lt d a mid b) : Srd lt d a b := by
 intro p q k1 k2 k3
 rcases Nat.lt_or_ge q mid with h | h
 ·exact h1 p q k1 k2 h
 ·rcases Nat.lt_or_ge p mid with h' | h'
  ·exact hc p q k1 h' h k3
  ·exact h2 p q h' k2 k3
theorem sym_crs (ho : Ordr lt) {d f : List α} {a m b mid s0 r0 n s e : Nat} (hn : n = mid + m) (he : e = n - s) (hsea : Sea lt d s0 r0 n s s) (hs1 : Srd lt d a m) (hs2 : Srd lt d m b)
  (h0 : s0 ≤ s) (h1 : s ≤ r0) (hab : a ≤ mid) (hmb : mid ≤ b) (ham : a ≤ m) (hmb2 : m ≤ b) (hcase : (mid < m ∧ s0 = n - b ∧ b ≤ n ∧ r0 = mid) ∨ (m ≤ mid ∧ s0 = a ∧ r0 = m)) (hlow : a ≤ s0) (hn2 : n ≤ b + s0)
  (hrot : Rot d f s m e) : Crs lt f a mid b := by
 obtain ⟨k1, k2, k3⟩ := hrot;have hsm : s ≤ m := by omega
 have hme : m ≤ e := by omega
 have heb : e ≤ b := by omega
 intro p q p1 p2 q1 q2
 -- where the elements come from
 have ep : (p < s ∧ A f p = A d p) ∨ (s ≤ p ∧ A f p = A d (p + (m - s)) ∧ p + (m - s) < e) := by
  rcases Nat.lt_or_ge p s with h | h
  ·left; exact ⟨h, by rw [k3 p, if_pos (by omega)]⟩
  ·right; exact ⟨h, by rw [k3 p, if_neg (by omega), if_pos (by omega)], by omega⟩
 have eq : (e ≤ q ∧ A f q = A d q) ∨ (q < e ∧ A f q = A d (q - (e - m)) ∧ s ≤ q - (e - m) ∧ q - (e - m) < m) := by
  rcases Nat.lt_or_ge q e with h | h
  ·right; exact ⟨h, by rw [k3 q, if_neg (by omega), if_neg (by omega)], by omega, by omega⟩
  ·left; exact ⟨h, by rw [k3 q, if_pos (by omega)]⟩
 rcases ep with ⟨hp, e1⟩ | ⟨hp, e1, hp2⟩ <;> rcases eq with ⟨hq, e2⟩ | ⟨hq, e2, hq2, hq3⟩ <;> rw [e1, e2]
 ·
  by_cases hs : s = s0
  ·rcases hcase with ⟨c1, c2, c3, c4⟩ | ⟨c1, c2, c3⟩ <;> omega
  ·have h3 := hsea.lo (s - 1) (by omega) (by omega);rw [show n - 1 - (s - 1) = e from by omega] at h3;have h4 : lt (A d e) (A d p) = false := by
    by_cases h5 : p = s - 1
    ·rw [h5]; exact h3
    ·exact ho.trans _ _ _ (hs1 p (s - 1) p1 (by omega) (by omega)) h3
   by_cases h5 : q = e
   ·rw [h5]; exact h4
   ·exact ho.trans _ _ _ h4 (hs2 e q hme (by omega) q2)
 ·exact hs1 p _ p1 (by omega) hq3
 ·exact hs2 _ q (by omega) (by omega) q2
 ·by_cases hs : s = r0
  ·rcases hcase with ⟨c1, c2, c3, c4⟩ | ⟨c1, c2, c3⟩ <;> omega
  ·have h3 := hsea.hi s (by omega) (by omega);rw [show n - 1 - s = e - 1 from by omega] at h3;have h3' := ho.asym _ _ h3;have h4 : lt (A d s) (A d (p + (m - s))) = false := by
    by_cases h5 : p + (m - s) = e - 1
    ·rw [h5]; exact h3'
    ·exact ho.trans _ _ _ (hs2 _ (e - 1) (by omega) (by omega) (by omega)) h3'
   by_cases h5 : q - (e - m) = s
   ·rw [h5]; exact h4
   ·exact ho.trans _ _ _ h4 (hs1 s _ (by omega) (by omega) hq3)
theorem rot_srd {d f : List α} {a m b s e : Nat} (hrot : Rot d f s m e) (hs1 : Srd lt d a m) (hs2 : Srd lt d m b) (h1 : a ≤ s) (h2 : s ≤ m) (h3 : m ≤ e) (h4 : e ≤ b) :
  Srd lt f a s ∧ Srd lt f s (s + (e - m)) ∧ Srd lt f (s + (e - m)) e ∧ Srd lt f e b := by
 obtain ⟨k1, k2, k3⟩ := hrot;refine ⟨srd_eq (srd_sub hs1 (Nat.le_refl _) h2) (fun i i1 i2 => by rw [k3 i, if_pos (by omega)]), fun p q p1 p2 p3 => ?_, fun p q p1 p2 p3 => ?_, srd_eq (srd_sub hs2 h3 (Nat.le_refl _)) (fun i i1 i2 => by rw [k3 i, if_pos (by omega)])⟩
 ·have ep : A f p = A d (p + (m - s)) := by rw [k3 p, if_neg (by omega), if_pos (by omega)]
  have eq : A f q = A d (q + (m - s)) := by rw [k3 q, if_neg (by omega), if_pos (by omega)]
  rw [ep, eq];exact hs2 _ _ (by omega) (by omega) (by omega)
 ·have ep : A f p = A d (p - (e - m)) := by rw [k3 p, if_neg (by omega), if_neg (by omega)]
  have eq : A f q = A d (q - (e - m)) := by rw [k3 q, if_neg (by omega), if_neg (by omega)]
  rw [ep, eq];exact hs1 _ _ (by omega) (by omega) (by omega)
theorem rot_none {d : List α} {s m e : Nat} (h : s = m ∨ m = e) (h1 : s ≤ m) (h2 : m ≤ e) : Rot d d s m e := by
 refine ⟨rfl, List.Perm.refl _, fun p => ?_⟩
 by_cases c : p < s ∨ e ≤ p
 ·rw [if_pos c]
 ·rw [if_neg c]
  rcases h with h | h
  ·rw [if_pos (by omega)]; congr 1; omega
  ·rw [if_neg (by omega)]; congr 1; omega
def Blk (lt : α → α → Bool) (d : List α) (w n lo : Nat) : Prop := ∀ q, lo ≤ q * w → Srd lt d (q * w) (min (q * w + w) n)
def Bld (lt : α → α → Bool) (d : List α) (w hi : Nat) : Prop := ∀ q, q * w + w ≤ hi → Srd lt d (q * w) (q * w + w)
theorem bld_zero (d : List α) {w : Nat} (hw : 0 < w) : Bld lt d w 0 := fun q h => by omega
theorem mul_cases (q q0 w : Nat) : q * w + w ≤ q0 * w ∨ q = q0 ∨ q0 * w + w ≤ q * w := by
 rcases Nat.lt_trichotomy q q0 with h | h | h
 ·left
  have := Nat.mul_le_mul_right w (show q + 1 ≤ q0 from h);rw [Nat.add_mul, Nat.one_mul] at this; exact this
 ·exact .inr (.inl h)
 ·right; right
  have := Nat.mul_le_mul_right w (show q0 + 1 ≤ q from h);rw [Nat.add_mul, Nat.one_mul] at this; exact this
theorem bld_step {d e : List α} {w a b : Nat} (h : Bld lt d w a) (ha : ∃ q0, a = q0 * w) (hw : 0 < w) (hb : b = a + w) (hc : Chg d e a b) (hs : Srd lt e a b) : Bld lt e w b ∧ ∃ q0, b = q0 * w := by
 obtain ⟨q0, rfl⟩ := ha;subst hb;refine ⟨fun q hq => ?_, q0 + 1, by rw [Nat.add_mul, Nat.one_mul]⟩
 rcases mul_cases q q0 w with h1 | h1 | h1
 ·exact srd_out (h q h1) hc (.inl h1)
 ·subst h1; exact hs
 ·omega
theorem blk_out {d e : List α} {w n lo a b : Nat} (h : Blk lt d w n lo) (hc : Chg d e a b) (hb : lo ≤ b) : Blk lt e w n b := fun q hq => srd_out (h q (by omega)) hc (.inr hq)
theorem bld_fin {d : List α} {w n a : Nat} (h : Bld lt d w a) (ha : ∃ q0, a = q0 * w) (hs : Srd lt d a n) (hn : n ≤ a + w) : Blk lt d w n 0 := by
 obtain ⟨q0, rfl⟩ := ha;intro q _
 rcases mul_cases q q0 w with h1 | h1 | h1
 ·exact srd_sub (h q h1) (Nat.le_refl _) (Nat.min_le_left _ _)
 ·subst h1; exact srd_sub hs (Nat.le_refl _) (Nat.min_le_right _ _)
 ·intro i j h2 h3 h4;have := Nat.min_le_right (q * w + w) n;omega
theorem bld_keep {d e : List α} {w a b : Nat} (h : Bld lt d w a) (hc : Chg d e a b) : Bld lt e w a := fun q hq => srd_out (h q hq) hc (.inl hq)
theorem blk_two {d : List α} {w n a : Nat} (h : Blk lt d w n a) (ha : ∃ q0, a = q0 * (2 * w)) : Srd lt d a (min (a + w) n) ∧ Srd lt d (a + w) (min (a + w + w) n) := by
 obtain ⟨q0, rfl⟩ := ha;have e1 : (2 * q0) * w = q0 * (2 * w) := by rw [Nat.mul_comm 2 q0, Nat.mul_assoc]
 have e2 : (2 * q0 + 1) * w = q0 * (2 * w) + w := by rw [Nat.add_mul, Nat.one_mul, e1]
 have h1 := h (2 * q0) (by omega);have h2 := h (2 * q0 + 1) (by omega);rw [e1] at h1;rw [e2] at h2;exact ⟨h1, h2⟩
theorem blk_all {d : List α} {w n : Nat} (h : Blk lt d w n 0) (hn : n ≤ w) : Srd lt d 0 n := by
 have := h 0 (by omega);rw [Nat.zero_mul] at this;exact srd_sub this (Nat.le_refl _) (by omega)
theorem srd_min {d : List α} {a b n : Nat} (h : Srd lt d a (min b n)) (hb : b ≤ n) : Srd lt d a b := srd_sub h (Nat.le_refl _) (by omega)
theorem srd_min2 {d : List α} {a b n : Nat} (h : Srd lt d a (min b n)) (hb : n ≤ b) : Srd lt d a n := srd_sub h (Nat.le_refl _) (by omega)
theorem sorted_unique {β : Type} {lt : β → β → Bool} (ht : ∀ x y : β, lt x y = false → lt y x = false → x = y) : ∀ {d e : List β}, List.Perm d e → d.Pairwise (fun x y => lt y x = false) → e.Pairwise (fun x y => lt y x = false) → d = e
 | [], e, hp, _, _ => (List.Perm.nil_eq hp)
 | x :: d, [], hp, _, _ => absurd hp.length_eq (by simp)
 | x :: d, y :: e, hp, hd, he => by
  rw [List.pairwise_cons] at hd he;have hxy : x = y := by
   have h1 : y ∈ x :: d := hp.mem_iff.2 (by simp);have h2 : x ∈ y :: e := hp.mem_iff.1 (by simp)
   rcases List.mem_cons.1 h1 with h1 | h1
   ·exact h1.symm
   ·rcases List.mem_cons.1 h2 with h2 | h2
    ·exact h2
    ·exact ht x y (he.1 x h2) (hd.1 y h1)
  subst hxy;rw [sorted_unique ht ((List.perm_cons x).1 hp) hd.2 he.2]
theorem srd_pw {d : List α} (h : Srd lt d 0 d.length) : d.Pairwise (fun x y => lt y x = false) := by
 rw [List.pairwise_iff_getElem];intro i j hi hj hij;have := h i j (Nat.zero_le _) hij hj;rw [A_of (List.getElem?_eq_getElem hi), A_of (List.getElem?_eq_getElem hj)] at this;exact this
end
end Go.Sy
namespace Go.Sy
section
variable {α : Type} [Inhabited α] {lt : α → α → Bool}
def Tgd (lt : α → α → Bool) (tg : α → Nat) (d : List α) : Prop := ∀ p q, p < q → q < d.length → lt (A d q) (A d p) = false → lt (A d p) (A d q) = false → tg (A d p) < tg (A d q)
def Stb (lt : α → α → Bool) (d e : List α) : Prop := ∀ tg : α → Nat, Tgd lt tg d → Tgd lt tg e
theorem stb_refl (d : List α) : Stb lt d d := fun _ h => h
theorem stb_trans {d e f : List α} (h : Stb lt d e) (k : Stb lt e f) : Stb lt d f := fun tg ht => k tg (h tg ht)
theorem stb_map {d e : List α} (σ : Nat → Nat) (hl : e.length = d.length) (h : ∀ p, p < d.length → σ p < d.length ∧ A e p = A d (σ p)) (hi : ∀ p q, p < q → q < d.length → σ p < σ q ∨ lt (A e p) (A e q) = true) : Stb lt d e := fun tg ht p q h1 h2 h3 h4 => by
 rw [hl] at h2
 rcases hi p q h1 h2 with h5 | h5
 ·have hp := h p (by omega);have hq := h q h2;rw [hp.2, hq.2] at h3 h4 ⊢;exact ht _ _ h5 hq.1 h3 h4
 ·rw [h4] at h5; cases h5
theorem stb_adj {d : List α} {j : Nat} (hj : 1 ≤ j) (hl : j < d.length) (hlt : lt (A d j) (A d (j - 1)) = true) : Stb lt d (swp d j (j - 1)) := by
 have g : ∀ p, A (swp d j (j - 1)) p = if p = j - 1 then A d j else if p = j then A d (j - 1) else A d p := fun p => A_swp hl (by omega)
 refine stb_map (fun p => if p = j - 1 then j else if p = j then j - 1 else p) (swp_len _ _ _) (fun p hp => ⟨?_, ?_⟩) (fun p q h1 h2 => ?_)
 ·split
  ·exact hl
  ·split
   ·omega
   ·exact hp
 ·rw [g]
  split
  ·rfl
  ·split <;> rfl
 ·by_cases e : p = j - 1 ∧ q = j
  ·right
   rw [g, g, if_pos e.1, if_neg (by omega), if_pos e.2]; exact hlt
  ·left
   split <;> split <;> (try split) <;> (try split) <;> omega
theorem stb_rot {d f : List α} {s m e : Nat} (hr : Rot d f s m e) (h1 : s ≤ m) (h2 : m ≤ e) (h3 : e ≤ d.length) (hx : ∀ x y, s ≤ x → x < m → m ≤ y → y < e → lt (A d y) (A d x) = true) : Stb lt d f := by
 obtain ⟨k1, _, k3⟩ := hr;refine stb_map (fun p => if p < s ∨ e ≤ p then p else if p < s + (e - m) then p + (m - s) else p - (e - m)) k1 (fun p hp => ⟨?_, ?_⟩) (fun p q g1 g2 => ?_)
 ·split
  ·exact hp
  ·split <;> omega
 ·rw [k3]
  split
  ·rfl
  ·split <;> rfl
 ·by_cases c : (s ≤ p ∧ p < s + (e - m)) ∧ (s + (e - m) ≤ q ∧ q < e)
  ·right
   rw [k3 p, k3 q, if_neg (by omega), if_pos (by omega), if_neg (by omega), if_neg (by omega)];exact hx _ _ (by omega) (by omega) (by omega) (by omega)
  ·left
   split <;> split <;> (try split) <;> (try split) <;> omega
theorem sym_strict (ho : Ordr lt) {d : List α} {a m b mid s0 r0 n s e : Nat} (hn : n = mid + m) (he : e = n - s) (hsea : Sea lt d s0 r0 n s s) (hs1 : Srd lt d a m) (hs2 : Srd lt d m b)
  (h0 : s0 ≤ s) (h1 : s ≤ r0) (hab : a ≤ mid) (hmb : mid ≤ b) (ham : a ≤ m) (hmb2 : m ≤ b) (hcase : (mid < m ∧ s0 = n - b ∧ b ≤ n ∧ r0 = mid) ∨ (m ≤ mid ∧ s0 = a ∧ r0 = m)) (hlow : a ≤ s0) (hn2 : n ≤ b + s0) :
  ∀ x y, s ≤ x → x < m → m ≤ y → y < e → lt (A d y) (A d x) = true := fun x y g1 g2 g3 g4 => by
 have hs : s < r0 := by rcases hcase with ⟨c1, c2, c3, c4⟩ | ⟨c1, c2, c3⟩ <;> omega
 have h3 := hsea.hi s (Nat.le_refl _) hs;rw [show n - 1 - s = e - 1 from by omega] at h3
 cases e2 : lt (A d y) (A d x) with
 | true => rfl
 | false =>
  have h4 : lt (A d (e - 1)) (A d x) = false := by
   by_cases c : y = e - 1
   ·rw [← c]; exact e2
   ·exact ho.trans _ _ _ e2 (hs2 y (e - 1) g3 (by omega) (by rcases hcase with ⟨c1, c2, c3, c4⟩ | ⟨c1, c2, c3⟩ <;> omega))
  have h5 : lt (A d (e - 1)) (A d s) = false := by
   by_cases c : x = s
   ·rw [← c]; exact h4
   ·exact ho.trans _ _ _ (hs1 s x (by omega) (by omega) g2) h4
  rw [h5] at h3; cases h3
theorem up_stb {d e : List α} {a k b i m : Nat} (h : Up d e a k b) (hl : Low lt d a m b i i) (hm : m = a + 1) (hk : a ≤ k) (hki : k + 1 < i) (hib : i ≤ b) (hb : b ≤ d.length) (hs : Stb lt d e) : Stb lt d (swp e k (k + 1)) := by
 have hle : e.length = d.length := h.chg.len;have h1 := stb_adj (lt := lt) (d := e) (j := k + 1) (by omega) (by omega) (by
  rw [show k + 1 - 1 = k from by omega, h.at_, h.hi (k + 1) (by omega)];exact hl.lo (k + 1) (by omega) (by omega))
 rw [show k + 1 - 1 = k from by omega, swp_comm (by omega) (by omega)] at h1;exact stb_trans hs h1
theorem dwn_stb {d e : List α} {a k m i : Nat} (h : Dwn d e a k m) (hl : Hgh lt d a m i i) (hk : i < k) (hm : k ≤ m) (hb : m < d.length) (hs : Stb lt d e) : Stb lt d (swp e k (k - 1)) := by
 have hle : e.length = d.length := h.chg.len;exact stb_trans hs (stb_adj (by omega) (by omega) (by
  rw [h.at_, h.lo (k - 1) (by omega)];exact hl.hi (k - 1) (by omega) (by omega)))
end
abbrev Rk (lt : Nat → Nat → Bool) (x y : Nat) : Prop := lt y x = false ∧ (lt x y = false → x < y)
theorem stb_pw {lt : Nat → Nat → Bool} {l : List Nat} (hs : Srd lt l 0 l.length) (ht : Tgd lt id l) : l.Pairwise (Rk lt) := by
 rw [List.pairwise_iff_getElem];intro i j hi hj hij;have ai : A l i = l[i] := by simp [A, hi]
 have aj : A l j = l[j] := by simp [A, hj]
 have h1 := hs i j (Nat.zero_le _) hij hj;rw [ai, aj] at h1;refine ⟨h1, fun h2 => ?_⟩;have h3 := ht i j hij hj (by rw [ai, aj]; exact h1) (by rw [ai, aj]; exact h2);rw [ai, aj] at h3;exact h3
theorem rk_unique {lt : Nat → Nat → Bool} {d e : List Nat} (hp : List.Perm d e) (hd : d.Pairwise (Rk lt)) (he : e.Pairwise (Rk lt)) : d = e := by
 have key : ∀ l : List Nat, l.Pairwise (Rk lt) → l.Pairwise (fun x y => (lt y x || (!(lt x y) && decide (y < x))) = false) := fun l h => h.imp fun {x y} h => by
  rw [h.1, Bool.false_or]
  cases h2 : lt x y with
  | true => simp
  | false =>
   have := h.2 h2;simp only [Bool.not_false, Bool.true_and, decide_eq_false_iff_not];omega
 refine sorted_unique (lt := fun x y => lt x y || (!(lt y x) && decide (x < y))) (fun x y h1 h2 => ?_) hp (key d hd) (key e he);simp only [Bool.or_eq_false_iff, Bool.and_eq_false_iff, Bool.not_eq_false', decide_eq_false_iff_not] at h1 h2
 rcases h1 with ⟨a1, a2⟩
 rcases h2 with ⟨b1, b2⟩
 rcases a2 with a2 | a2
 ·rw [b1] at a2; cases a2
 ·rcases b2 with b2 | b2
  ·rw [a1] at b2; cases b2
  ·omega
section
variable {α β : Type}
def insG (lt : α → α → Bool) (x : α) : List α → List α
 | [] => [x]
 | y :: s => if lt x y = true then x :: y :: s else y :: insG lt x s
def sortG (lt : α → α → Bool) (l : List α) : List α := l.foldl (fun s x => insG lt x s) []
theorem sortG_s {lt : α → α → Bool} {l : List α} {k : Nat} {x : α} (h : l[k]? = some x) : insG lt x (sortG lt (l.take k)) = sortG lt (l.take (k + 1)) := by
 unfold sortG;rw [take_snoc h, List.foldl_append]; rfl
theorem insG_perm (lt : α → α → Bool) (x : α) : ∀ s : List α, List.Perm (insG lt x s) (x :: s)
 | [] => List.Perm.refl _
 | y :: s => by
  unfold insG
  split
  ·exact List.Perm.refl _
  ·exact ((insG_perm lt x s).cons y).trans (List.Perm.swap x y s)
theorem foldG_perm (lt : α → α → Bool) : ∀ (l s : List α), List.Perm (l.foldl (fun s x => insG lt x s) s) (l ++ s)
 | [], s => List.Perm.refl _
 | x :: l, s => by
  simp only [List.foldl_cons, List.cons_append];exact ((foldG_perm lt l _).trans ((insG_perm lt x s).append_left l)).trans List.perm_middle
theorem sortG_perm (lt : α → α → Bool) (l : List α) : List.Perm (sortG lt l) l := by
 have := foldG_perm lt l [];simpa [sortG] using this
theorem sortG_len (lt : α → α → Bool) (l : List α) : (sortG lt l).length = l.length := (sortG_perm lt l).length_eq
abbrev Pw (lt : α → α → Bool) (s : List α) : Prop := s.Pairwise (fun x y => lt y x = false)
theorem insG_pw {lt : α → α → Bool} (asym : ∀ x y, lt x y = true → lt y x = false) (trans : ∀ x y z, lt y x = false → lt z y = false → lt z x = false) (x : α) : ∀ {s : List α}, Pw lt s → Pw lt (insG lt x s)
 | [], _ => List.pairwise_singleton _ _
 | y :: s, h => by
  have h' := List.pairwise_cons.1 h;unfold insG
  split
  ·rename_i hx;refine List.pairwise_cons.2 ⟨fun z hz => ?_, h⟩
   rcases List.mem_cons.1 hz with rfl | hz
   ·exact asym _ _ hx
   ·exact trans _ _ _ (asym _ _ hx) (h'.1 z hz)
  ·rename_i hx;refine List.pairwise_cons.2 ⟨fun z hz => ?_, insG_pw asym trans x h'.2⟩
   rcases List.mem_cons.1 ((insG_perm lt x s).mem_iff.1 hz) with rfl | hz
   ·simpa using hx
   ·exact h'.1 z hz
theorem foldG_pw {lt : α → α → Bool} (asym : ∀ x y, lt x y = true → lt y x = false) (trans : ∀ x y z, lt y x = false → lt z y = false → lt z x = false) : ∀ (l : List α) {s : List α}, Pw lt s → Pw lt (l.foldl (fun s x => insG lt x s) s)
 | [], _, h => h
 | x :: l, _, h => by simp only [List.foldl_cons]; exact foldG_pw asym trans l (insG_pw asym trans x h)
theorem sortG_pw {lt : α → α → Bool} (asym : ∀ x y, lt x y = true → lt y x = false) (trans : ∀ x y z, lt y x = false → lt z y = false → lt z x = false) (l : List α) : Pw lt (sortG lt l) := foldG_pw asym trans l List.Pairwise.nil
theorem insG_at {lt : α → α → Bool} {x : α} : ∀ {s : List α} {k : Nat}, (∀ i, i < k → ∀ y, s[i]? = some y → lt x y = false) → (∀ y, s[k]? = some y → lt x y = true) → k ≤ s.length → s.take k ++ x :: s.drop k = insG lt x s
 | [], 0, _, _, _ => rfl
 | [], k + 1, _, _, h => by simp at h
 | y :: s, 0, _, h, _ => by
  have := h y rfl;simp [insG, this]
 | y :: s, k + 1, h1, h2, h3 => by
  have h0 := h1 0 (by omega) y rfl;unfold insG;rw [h0];simp only [List.take_succ_cons, List.drop_succ_cons, List.cons_append, Bool.false_eq_true, if_false];rw [insG_at (fun i hi z hz => h1 (i + 1) (by omega) z (by simpa using hz)) (fun z hz => h2 z (by simpa using hz)) (by simpa using h3)]
def shG (s : List α) (x : α) (k : Nat) : List α := s.take k ++ (s[k]?).getD x :: s.drop k
theorem shG_len {s : List α} {x : α} {k : Nat} (hk : k ≤ s.length) : (shG s x k).length = s.length + 1 := by
 unfold shG; simp only [List.length_append, List.length_take, List.length_cons, List.length_drop]; omega
theorem shG_start (s : List α) (x : α) : s ++ [x] = shG s x s.length := by unfold shG; simp
theorem shG_get {s : List α} {x : α} {k i : Nat} (hk : k ≤ s.length) (hi : i < k) : (shG s x k)[i]? = s[i]? := by
 unfold shG;rw [List.getElem?_append_left (by rw [List.length_take]; omega), List.getElem?_take, if_pos hi]
theorem shG_step {s : List α} {x y : α} {k : Nat} (hk : k ≤ s.length) (h0 : 0 < k) (hy : (shG s x k)[k - 1]? = some y) : (shG s x k).set k y = shG s x (k - 1) := by
 rw [shG_get hk (by omega)] at hy;obtain ⟨j, rfl⟩ : ∃ j, k = j + 1 := ⟨k - 1, by omega⟩;rw [show j + 1 - 1 = j from by omega] at hy ⊢;unfold shG;rw [hy, Option.getD_some];have h1 : (s.take (j + 1)).length = j + 1 := by rw [List.length_take]; omega
 rw [List.set_append_right _ _ (by omega), h1, Nat.sub_self, List.set_cons_zero, take_snoc hy, List.append_assoc];have hj : j < s.length := by omega
 have : s[j] = y := by rw [List.getElem?_eq_getElem hj] at hy; exact Option.some.inj hy
 rw [List.drop_eq_getElem_cons hj, this];rfl
theorem shG_put {s : List α} {x : α} {k : Nat} (hk : k ≤ s.length) : (shG s x k).set k x = s.take k ++ x :: s.drop k := by
 unfold shG;have h1 : (s.take k).length = k := by rw [List.length_take]; omega
 rw [List.set_append_right _ _ (by omega), h1, Nat.sub_self, List.set_cons_zero]
theorem shG_lo {p : α → Prop} {s : List α} {x y : α} {k : Nat} (hk : k ≤ s.length ∧ 0 < k) (hi : ∀ q, k ≤ q → ∀ z, s[q]? = some z → p z) (hy : (shG s x k)[k - 1]? = some y) (hp : p y) : ∀ q, k - 1 ≤ q → ∀ z, s[q]? = some z → p z := by
 intro q hq z hz
 by_cases e : q = k - 1
 ·subst e;rw [shG_get hk.1 (by omega), hz] at hy
  cases hy; exact hp
 ·exact hi q (by omega) z hz
theorem shG_ins {lt : α → α → Bool} (asym : ∀ x y, lt x y = true → lt y x = false) (trans : ∀ x y z, lt y x = false → lt z y = false → lt z x = false) {s : List α} {x : α} {k : Nat} (hs : Pw lt s) (hk : k ≤ s.length)
  (hi : ∀ i, k ≤ i → ∀ y, s[i]? = some y → lt x y = true) (he : k = 0 ∨ ∃ y, (shG s x k)[k - 1]? = some y ∧ lt x y = false) : (shG s x k).set k x = insG lt x s := by
 rw [shG_put hk];refine insG_at (fun i h y hy => ?_) (fun y hy => hi k (Nat.le_refl _) y hy) hk
 rcases he with rfl | ⟨z, hz, hl⟩
 ·omega
 ·rw [shG_get hk (by omega)] at hz
  by_cases e : i = k - 1
  ·subst e; rw [hz] at hy; cases hy; exact hl
  ·have h1 : i < s.length := by omega
   have h2 : k - 1 < s.length := by omega
   rw [List.getElem?_eq_getElem h1] at hy;rw [List.getElem?_eq_getElem h2] at hz
   cases hy; cases hz
   exact trans _ _ _ ((List.pairwise_iff_getElem.1 hs) i (k - 1) h1 h2 (by omega)) hl
theorem insG_map (f : β → α) (lt : α → α → Bool) (x : β) : ∀ s : List β, (insG (fun a b => lt (f a) (f b)) x s).map f = insG lt (f x) (s.map f)
 | [] => rfl
 | y :: s => by
  simp only [insG, List.map_cons]
  split
  ·rfl
  ·rw [List.map_cons, insG_map f lt x s]
theorem foldG_map (f : β → α) (lt : α → α → Bool) : ∀ (l s : List β), (l.foldl (fun s x => insG (fun a b => lt (f a) (f b)) x s) s).map f = (l.map f).foldl (fun s x => insG lt x s) (s.map f)
 | [], _ => rfl
 | x :: l, s => by
  simp only [List.foldl_cons, List.map_cons];rw [foldG_map f lt l, insG_map]
theorem insG_rk {lt : Nat → Nat → Bool} (ho : Ordr lt) (x : Nat) : ∀ {s : List Nat}, s.Pairwise (Rk lt) → (∀ y ∈ s, y < x) → (insG lt x s).Pairwise (Rk lt)
 | [], _, _ => List.pairwise_singleton _ _
 | y :: s, h, hx => by
  have h' := List.pairwise_cons.1 h;unfold insG
  split
  ·rename_i hl;refine List.pairwise_cons.2 ⟨fun z hz => ?_, h⟩;have h1 : lt x z = true := by
    rcases List.mem_cons.1 hz with rfl | hz
    ·exact hl
    ·cases e : lt x z with
     | true => rfl
     | false =>
      have := ho.trans y z x (h'.1 z hz).1 e;rw [hl] at this; cases this
   exact ⟨ho.asym _ _ h1, fun h2 => by rw [h1] at h2; cases h2⟩
  ·rename_i hl;refine List.pairwise_cons.2 ⟨fun z hz => ?_, insG_rk ho x h'.2 (fun z hz => hx z (List.mem_cons_of_mem _ hz))⟩
   rcases List.mem_cons.1 ((insG_perm lt x s).mem_iff.1 hz) with rfl | hz
   ·exact ⟨by simpa using hl, fun _ => hx y (List.mem_cons_self ..)⟩
   ·exact h'.1 z hz
theorem foldG_rk {lt : Nat → Nat → Bool} (ho : Ordr lt) : ∀ (l : List Nat) {s : List Nat}, l.Pairwise (· < ·) → s.Pairwise (Rk lt) → (∀ x ∈ l, ∀ y ∈ s, y < x) → (l.foldl (fun s x => insG lt x s) s).Pairwise (Rk lt)
 | [], _, _, h, _ => h
 | x :: l, s, hl, h, hx => by
  have hl' := List.pairwise_cons.1 hl;simp only [List.foldl_cons];refine foldG_rk ho l hl'.2 (insG_rk ho x h (hx x (List.mem_cons_self ..))) (fun z hz y hy => ?_)
  rcases List.mem_cons.1 ((insG_perm lt x s).mem_iff.1 hy) with rfl | hy
  ·exact hl'.1 z hz
  ·exact hx z (List.mem_cons_of_mem _ hz) y hy
theorem stb_sortG {α : Type} [Inhabited α] {lt : α → α → Bool} {l : List α} (ho : Ordr (fun i j : Nat => lt (A l i) (A l j))) {e : List Nat} (hp : List.Perm e (List.range l.length)) (hs : Srd (fun i j : Nat => lt (A l i) (A l j)) e 0 l.length) (ht : Tgd (fun i j : Nat => lt (A l i) (A l j)) id e) : e.map (A l) = sortG lt l := by
 have hlen : e.length = l.length := by rw [hp.length_eq, List.length_range]
 have h1 := stb_pw (by rw [hlen]; exact hs) ht;have h2 : (sortG (fun i j : Nat => lt (A l i) (A l j)) (List.range l.length)).Pairwise (Rk (fun i j : Nat => lt (A l i) (A l j))) := foldG_rk ho _ List.pairwise_lt_range List.Pairwise.nil (fun _ _ y hy => by cases hy);have h3 := rk_unique (hp.trans (sortG_perm _ _).symm) h1 h2;have h4 : (List.range l.length).map (A l) = l := by
  apply List.ext_getElem?
  intro i;rw [List.getElem?_map]
  by_cases hi : i < l.length
  ·rw [List.getElem?_range hi, A_get hi]; rfl
  ·rw [List.getElem?_eq_none (by simpa using hi), List.getElem?_eq_none (by omega)]; rfl
 rw [h3];unfold sortG;rw [foldG_map, h4]; rfl
theorem A_map {α : Type} [Inhabited α] {f : Nat → α} {e : List Nat} {i : Nat} (h : i < e.length) : A (e.map f) i = f (A e i) := by
 refine A_of ?_;rw [List.getElem?_map, A_get h]; rfl
theorem map_swp {α : Type} [Inhabited α] {f : Nat → α} {e : List Nat} {i j : Nat} (hi : i < e.length) (hj : j < e.length) : (swp e i j).map f = swp (e.map f) i j := by
 unfold swp;rw [A_map hi, A_map hj, List.map_set, List.map_set]
theorem range_A {α : Type} [Inhabited α] (l : List α) : (List.range l.length).map (A l) = l := by
 apply List.ext_getElem?
 intro i;rw [List.getElem?_map]
 by_cases hi : i < l.length
 ·rw [List.getElem?_range hi, A_get hi]; rfl
 ·rw [List.getElem?_eq_none (by simpa using hi), List.getElem?_eq_none (by omega)]; rfl
theorem srd_range {lt : Nat → Nat → Bool} (n : Nat) : Tgd lt id (List.range n) := fun p q h1 h2 _ _ => by
 have hq : q < n := by simpa using h2
 rw [A_of (List.getElem?_range (by omega)), A_of (List.getElem?_range hq)];exact h1
end
end Go.Sy
namespace Go.Sy
open Go Go.RowKit
structure Srt {α : Type} [Inhabited α] (P : Program) (C : List α → Chunk) (lt : α → α → Bool) (d0 : List α) (lf : Nat) (lc : List Value) (sf : Nat) (sc : List Value) (w0 : World) : Prop where
  body : hasBody P lf = true
  less : ∀ (Hs : List Chunk) (w : World) (d : List α) (i j : Nat), List.Perm d d0 → i < d0.length → j < d0.length → St w0 (C d :: Hs) w →
    Calls P lf ([Value.int .i64 (i : Int), Value.int .i64 (j : Int)] ++ lc).toArray w (fun e w' => e = .returned (.bool (lt (A d i) (A d j))) ∧ St w0 (C d :: Hs) w')
  swap : ∀ (Hs : List Chunk) (w : World) (d : List α) (i j : Nat), List.Perm d d0 → i < d0.length → j < d0.length → i ≠ j → St w0 (C d :: Hs) w →
    ∃ w', (callFunc sf ([Value.int .i64 (i : Int), Value.int .i64 (j : Int)] ++ sc).toArray).run P w = .ok (.value (.tuple #[])) w' ∧ St w0 (C (swp d i j) :: Hs) w'
section
variable {P : Program} {N : Nat} {w0 : World} {H : List Chunk} {L : Fm} {Q : Exit → Act → World → Prop} {o : Oper} {dd : Nat} {K : Act → World → Prop}
theorem run_fv {f : Nat} {x : Operand} {as : List Operand} {vs cs : List Value} {tys : Array TypeId} {a : Act} {w : World} (hf : Fits a N L)
  (ho : o.op = .call ⟨.value x, as.toArray, tys⟩) (hx : ev L x = some (.func (.func f) #[] cs.toArray)) (ha : evs L as = some vs) : (execOp a.eval o).run P w = (callFunc f (vs ++ cs).toArray).run P w := by
 unfold execOp;rw [ho];have he : (as.toArray.map a.eval) = vs.toArray := by rw [List.map_toArray, hf.evs ha]
 have hf0 : a.eval x = .func (.func f) #[] cs.toArray := hf.ev hx;simp only [resolve, hf0, Deferred.ofValue, he, Sem.run_bind, Sem.run_pure, Result.andThen_ok, invoke];simp
section
variable {α : Type} [Inhabited α] {C : List α → Chunk} {lt : α → α → Bool} {d0 d : List α} {lf sf : Nat} {lc sc : List Value}
theorem cless (S : Srt P C lt d0 lf lc sf sc w0) (hp : List.Perm d d0) {x : Operand} {as : List Operand} {tys : Array TypeId} {i j : Nat}
  (ho : o.op = .call ⟨.value x, as.toArray, tys⟩) (hx : ev L x = some (.func (.func lf) #[] lc.toArray)) (ha : evs L as = some [Value.int .i64 (i : Int), Value.int .i64 (j : Int)]) (hd : o.dst = some dd) (hN : Nat.blt dd N = true)
  (hi : i < d0.length) (hj : j < d0.length) (k : D N w0 (C d :: H) ((dd, .bool (lt (A d i) (A d j))) :: L) K) : D N w0 (C d :: H) L (fun a w => o.wp P a w K Q) := by
 intro a w hf hs;show o.wp P a w K Q;have hb := S.body;have hc := S.less H w d i j hp hi hj hs;have h1 := run_fv (P := P) (w := w) hf ho hx ha;unfold hasBody at hb
 split at hb
 ·rename_i fn hfn;simp only [Bool.and_eq_true, Bool.not_eq_true'] at hb;have hrun : (execOp a.eval o).run P w = .ok (.enter lf ([Value.int .i64 (i : Int), Value.int .i64 (j : Int)] ++ lc).toArray) w := by
   rw [h1];have hbody : fn.body.isNone = false := by rw [← Option.not_isSome, hb.2]; rfl
   have hnm : ¬ fn.name = "runtime.NumGoroutine" := by simpa using hb.1
   have hbn : ¬ fn.body = none := by intro e; rw [e] at hbody; cases hbody
   simp only [callFunc, program];simp [Sem.run, hfn, hnm, hbn]
  unfold Oper.wp;rw [hrun, Oper.upon_enter];refine hc.mono fun e w' he => ?_
  obtain ⟨rfl, hx⟩ := he;simp only;rw [hd];exact k _ _ (hf.put hN _) hx
 ·cases hb
theorem cswap (S : Srt P C lt d0 lf lc sf sc w0) (hp : List.Perm d d0) {x : Operand} {as : List Operand} {tys : Array TypeId} {i j : Nat}
  (ho : o.op = .call ⟨.value x, as.toArray, tys⟩) (hx : ev L x = some (.func (.func sf) #[] sc.toArray)) (ha : evs L as = some [Value.int .i64 (i : Int), Value.int .i64 (j : Int)]) (hd : o.dst = some dd) (hN : Nat.blt dd N = true)
  (hi : i < d0.length) (hj : j < d0.length) (hij : i ≠ j) (k : D N w0 (C (swp d i j) :: H) ((dd, .tuple #[]) :: L) K) : D N w0 (C d :: H) L (fun a w => o.wp P a w K Q) :=
 D_gen hd hN (fun a w hf hs => by
  obtain ⟨w', h1, h2⟩ := S.swap H w d i j hp hi hj hij hs;exact ⟨_, w', (run_fv (P := P) (w := w) hf ho hx ha).trans h1, fun a' hf' => k a' w' hf' h2⟩)
theorem csrt {β : Type} {C : List β → Chunk} {d : List β} {φ : List β → Prop} {f : Nat} {as : List Operand} {vs : List Value} {tys : Array TypeId} (hb : hasBody P f = true)
  (ho : o.op = .call ⟨.value (.func f), as.toArray, tys⟩) (ha : evs L as = some vs) (hd : o.dst = some dd) (hN : Nat.blt dd N = true)
  (hc : ∀ w, St w0 (C d :: H) w → Calls P f vs.toArray w (fun e w' => e = .returned (.tuple #[]) ∧ ∃ e', φ e' ∧ St w0 (C e' :: H) w'))
  (k : ∀ e', φ e' → D N w0 (C e' :: H) ((dd, .tuple #[]) :: L) K) : D N w0 (C d :: H) L (fun a w => o.wp P a w K Q) :=
 D_call (σ := List β) (val := fun _ => .tuple #[]) (H' := fun e' => C e' :: H) (J := φ) hb ho ha hd hN
  (fun w hs => (hc w hs).mono fun _ _ ⟨he, e', h1, h2⟩ => ⟨e', he, h1, h2⟩) k
end
theorem results_0 {fn : Func} (hr : fn.results = #[]) (tmps : Array Value) (w : World) : (results fn tmps).run P w = .ok (.tuple #[]) w := by
 rw [results_resv, hr]; simp [Sem.run_bind, Sem.run_pure]
theorem R_0 {fn : Func} {R : Ending → World → Prop} (hr : fn.results = #[]) (h : ∀ w, St w0 H w → R (.returned (.tuple #[])) w) : D N w0 H L (bodyPost P fn R .ret) :=
 fun a w hf hs => bodyPost_ret (results_0 hr _ _) hf.dfr (h w hs)
theorem R_0n {fn : Func} {R : Ending → World → Prop} (hr : fn.results = #[]) (h : ∀ w, St w0 H w → R (.returned (.tuple #[])) w) : D N w0 H L (bodyPost P fn R .normal) :=
 fun a w hf hs => bodyPost_end (results_0 hr _ _) hf.dfr (h w hs)
theorem D_cvU {t t' : TypeId} {x : Operand} {n : Nat} (ht : P.underlying t' = some (.int .u64)) (hu : ∃ u, P.underlying t = some u) (ho : o.op = .convert t t' x) (hx : ev L x = some (.int .i64 (n : Int))) (h : n ≤ 9223372036854775807) : RunV P N w0 H L o (.int .u64 (n : Int)) := by
 intro a w hf _;obtain ⟨u, hu⟩ := hu;unfold execOp;rw [ho];have e : IntKind.u64.wrap (n : Int) = (n : Int) := by
  rw [IntKind.wrap_u64]; omega
 simp [convert, hf.ev hx, run_underlying ht, run_underlying hu, Conv.intToInt, e]
theorem D_cvI {t t' : TypeId} {x : Operand} {n : Nat} (ht : P.underlying t' = some (.int .i64)) (hu : ∃ u, P.underlying t = some u) (ho : o.op = .convert t t' x) (hx : ev L x = some (.int .u64 (n : Int))) (h : n ≤ 9223372036854775807) : RunV P N w0 H L o (.int .i64 (n : Int)) := by
 intro a w hf _;obtain ⟨u, hu⟩ := hu;unfold execOp;rw [ho];simp [convert, hf.ev hx, run_underlying ht, run_underlying hu, Conv.intToInt, IntWalk.i64_in _ (show -9223372036854775808 ≤ (n : Int) ∧ (n : Int) ≤ 9223372036854775807 by omega)]
theorem D_shU {t t' : TypeId} {x y : Operand} {n : Nat} {yk : IntKind} (ho : o.op = .binOp .shr t x y t') (hx : ev L x = some (.int .u64 (n : Int))) (hy : ev L y = some (.int yk 1)) (h : n ≤ 9223372036854775807) : RunV P N w0 H L o (.int .u64 ((n / 2 : Nat) : Int)) := by
 intro a w hf _;unfold execOp;rw [ho];simp only [hf.ev hx, hf.ev hy];simp [eqGuard, binOp, shift_shr_any .u64 yk (n : Int) 1 (by omega), IntKind.bits]
theorem D_mulN {t t' : TypeId} {x y : Operand} {m n : Nat} (ho : o.op = .binOp .mul t x y t') (hx : ev L x = some (.int .i64 (m : Int))) (hy : ev L y = some (.int .i64 (n : Int))) (h : m * n ≤ 9223372036854775807) : RunV P N w0 H L o (.int .i64 ((m * n : Nat) : Int)) := by
 intro a w hf _;unfold execOp;rw [ho];simp only [hf.ev hx, hf.ev hy];have e : IntKind.i64.wrap ((m : Int) * (n : Int)) = ((m * n : Nat) : Int) := by
  rw [show (m : Int) * (n : Int) = ((m * n : Nat) : Int) from by simp];exact IntWalk.i64_in _ (by omega)
 simp [eqGuard, binOp, Op.intArith, e]
end
end Go.Sy
namespace Go.Sy
open Go Go.RowKit
theorem heap_setCell {w : World} {g i : Nat} {v : Value} {cur : Array Value} {t : TypeId} {fz : Nat × Nat} (h : w.heap[g]? = some (.cells cur t fz)) : (w.setCell ⟨g, i, none⟩ v).heap[g]? = some (.cells (cur.setIfInBounds i v) t fz) := by
 simp [World.setCell, Array.getElem?_modify, h]
theorem heap_setCell_ne {w : World} {g q i : Nat} {v : Value} (h : q ≠ g) : (w.setCell ⟨g, i, none⟩ v).heap[q]? = w.heap[q]? := by
 simp [World.setCell, Array.getElem?_modify, Ne.symm h]
def setA (cur : Array Value) (o : Nat) : List Value → Array Value
 | [] => cur
 | v :: r => setA (cur.setIfInBounds o v) (o + 1) r
theorem setA_size : ∀ (vs : List Value) (cur : Array Value) (o : Nat), (setA cur o vs).size = cur.size
 | [], _, _ => rfl
 | v :: r, cur, o => by rw [setA, setA_size r]; simp
theorem setA_get : ∀ (vs : List Value) (cur : Array Value) (o q : Nat), o + vs.length ≤ cur.size → (setA cur o vs)[q]? = if o ≤ q ∧ q < o + vs.length then vs[q - o]? else cur[q]?
 | [], cur, o, q, _ => by rw [if_neg (by simp)]; rfl
 | v :: r, cur, o, q, h => by
  simp only [List.length_cons] at h;rw [setA, setA_get r _ _ _ (by simp; omega), List.length_cons]
  by_cases e : q = o
  ·subst e;rw [if_neg (by omega), if_pos (by omega), Array.getElem?_setIfInBounds_self];simp; omega
  ·rw [Array.getElem?_setIfInBounds_ne (Ne.symm e)]
   by_cases h2 : o + 1 ≤ q ∧ q < o + 1 + r.length
   ·rw [if_pos h2, if_pos (by omega), show q - o = (q - (o + 1)) + 1 from by omega, List.getElem?_cons_succ]
   ·rw [if_neg h2, if_neg (by omega)]
theorem heap_setCells {g : Nat} {t : TypeId} {fz : Nat × Nat} : ∀ (vs : List Value) (o : Nat) (cur : Array Value) (w : World), w.heap[g]? = some (.cells cur t fz) → (w.setCells g o vs).heap[g]? = some (.cells (setA cur o vs) t fz)
 | [], _, _, _, h => h
 | v :: r, o, cur, w, h => by
  rw [World.setCells, setA];exact heap_setCells r (o + 1) _ _ (heap_setCell h)
theorem heap_setCells_ne {g q : Nat} (hq : q ≠ g) : ∀ (vs : List Value) (o : Nat) (w : World), (w.setCells g o vs).heap[q]? = w.heap[q]?
 | [], _, _ => rfl
 | v :: r, o, w => by rw [World.setCells, heap_setCells_ne hq r, heap_setCell_ne hq]
theorem setCells_os (g : Nat) : ∀ (vs : List Value) (o : Nat) (w : World), (w.setCells g o vs).os = w.os ∧ (w.setCells g o vs).tape = w.tape ∧ (w.setCells g o vs).output = w.output ∧ (w.setCells g o vs).heap.size = w.heap.size
 | [], _, _ => ⟨rfl, rfl, rfl, rfl⟩
 | v :: r, o, w => by
  rw [World.setCells];obtain ⟨h1, h2, h3, h4⟩ := setCells_os g r (o + 1) (w.setCell ⟨g, o, none⟩ v);exact ⟨h1, h2, h3, h4.trans (by simp [World.setCell])⟩
theorem swap_owN {α : Type} [Gd α] [Tid α] [Inhabited α] {P : Program} {w0 w : World} {Hs : List Chunk} {gb : Nat} {v : Value} {d : List α} {i j sf : Nat} {gS : Bool} {e : TypeId} {ie : TypeInfo} (hie : P.info? e = some ie) (hsz : ie.size = Gd.n α)
  (hagg : ∀ w, (isAgg e).run P w = .ok true w) (hx : ∀ args W, (callFunc sf args).run P W = ((Extern.ReflectliteSwapper.swap gS args).run P W).andThen fun v w' => .ok (.value v) w')
  (hi : i < d.length) (hj : j < d.length) (hst : St w0 (star (bx gb [v]) (ov [v] d) :: Hs) w) :
  ∃ w', (callFunc sf ([Value.int .i64 (i : Int), Value.int .i64 (j : Int)] ++ [v, typeHandle P e]).toArray).run P w = .ok (.value (.tuple #[])) w' ∧ St w0 (star (bx gb [v]) (ov [v] (swp d i j)) :: Hs) w' := by
 obtain ⟨fp, ⟨f1, f2, hfp, hb, how⟩, hn, hbd, put⟩ := hst.set (k := 0) rfl;subst hfp
 rcases how with ⟨_, h2, _⟩ | ⟨g, cap, cur, fps, hv, hg, hc1, hc2, hc3, hf2, hfl, hel⟩
 ·rw [h2] at hi; simp at hi
 ·simp only [List.cons.injEq, and_true] at hv;subst hv; subst hf2;have hf1 : f1 = [gb] := hb.1;subst hf1;have hgb : gb ≠ g := fun e => by
   have := (List.nodup_append.1 hn).2.2 gb (by simp) g (by simp);exact this e
  have hnd : (g :: fps.flatten).Nodup := (List.nodup_append.1 hn).2.1;have hgn : ∀ q f, fps[q]? = some f → g ∉ f := fun q f hq hm => (List.nodup_cons.1 hnd).1 (mem_of_idx hq hm)
  have blk : ∀ q, q < d.length → ∃ X : List Value, (cur.toList.drop (q * Gd.n α)).take (Gd.n α) = X ∧ X.length = Gd.n α ∧ (∀ u ∈ X, u.oneCell' = true) ∧ Gd.ow w X (A d q) (A fps q) := fun q hq => by
   obtain ⟨f, hf⟩ := sL (l := fps) (i := q) (by omega);have ho := hel q (A d q) f (A_get hq) hf;have e1 : f = A fps q := (A_of hf).symm;rw [e1] at ho;exact ⟨_, rfl, cells_len ho, cells_one ho, ho⟩
  obtain ⟨X, eX, lX, oX, wX⟩ := blk i hi;obtain ⟨Y, eY, lY, oY, wY⟩ := blk j hj;have room : ∀ q, q < d.length → q * Gd.n α + Gd.n α ≤ cur.size := fun q hq => by
   rw [hc3];have := Nat.mul_le_mul_right (Gd.n α) (show q + 1 ≤ cap by omega)
   rwa [Nat.add_mul, Nat.one_mul] at this
  have cell : ∀ q Z, (cur.toList.drop (q * Gd.n α)).take (Gd.n α) = Z → ∀ k u, Z[k]? = some u → w.cell? ⟨g, 0 + q * ie.size + k, none⟩ = some u := fun q Z hZ k u hu => by
   rw [Nat.zero_add, hsz, cell_of_heap hg];rw [← hZ, slice_get] at hu
   split at hu
   ·simpa using hu
   ·cases hu
  have fr : ∀ q, w.frozen? ⟨g, q, none⟩ = false := fun q => by simp [World.frozen?, hg]
  have hrun := Lib.run_swap_cells (P := P) gS e ie hie hagg g 0 d.length cap i j hi hj X Y (lX.trans hsz.symm) (lY.trans hsz.symm) oX oY w (cell i X eX) (cell j Y eY) (fun _ _ => fr _) (fun _ _ => fr _);refine ⟨(w.setCells g (0 + i * ie.size) Y).setCells g (0 + j * ie.size) X, ?_, ?_⟩
  ·rw [hx];have : ([Value.int .i64 (i : Int), Value.int .i64 (j : Int)] ++ [Value.slice (some ⟨g, 0, none⟩) d.length cap, typeHandle P e]).toArray = #[.int .i64 (i : Int), .int .i64 (j : Int), .slice (some ⟨g, 0, none⟩) d.length cap, typeHandle P e] := rfl;rw [this, hrun]; rfl
  ·simp only [Nat.zero_add, hsz];have hg1 := heap_setCells Y (i * Gd.n α) cur w hg;have hg2 := heap_setCells X (j * Gd.n α) _ _ hg1;have hne : ∀ q, q ≠ g → ((w.setCells g (i * Gd.n α) Y).setCells g (j * Gd.n α) X).heap[q]? = w.heap[q]? := fun q hq => by rw [heap_setCells_ne hq, heap_setCells_ne hq]
   have hfp := (swp_perm (d := fps) (i := i) (j := j) (by omega) (by omega)).flatten;obtain ⟨a1, a2, a3, a4⟩ := setCells_os g Y (i * Gd.n α) w;obtain ⟨b1, b2, b3, b4⟩ := setCells_os g X (j * Gd.n α) (w.setCells g (i * Gd.n α) Y);have hcur : ∀ q, q < d.length → (((setA (setA cur (i * Gd.n α) Y) (j * Gd.n α) X).toList.drop (q * Gd.n α)).take (Gd.n α)) = if q = j then X else if q = i then Y else (cur.toList.drop (q * Gd.n α)).take (Gd.n α) := fun q hq => by
    have r1 := room i hi;have r2 := room j hj
    apply List.ext_getElem?
    intro t;rw [slice_get]
    by_cases ht : t < Gd.n α
    ·rw [if_pos ht, Array.getElem?_toList, setA_get _ _ _ _ (by rw [setA_size, lX]; exact r2), setA_get _ _ _ _ (by rw [lY]; exact r1), lX, lY]
     by_cases e1 : q = j
     ·subst e1;rw [if_pos (by omega), if_pos rfl, show q * Gd.n α + t - q * Gd.n α = t from by omega]
     ·have hd1 : ¬ (j * Gd.n α ≤ q * Gd.n α + t ∧ q * Gd.n α + t < j * Gd.n α + Gd.n α) := by
       rcases block_other e1 ht with hb | hb <;> omega
      rw [if_neg hd1, if_neg e1]
      by_cases e2 : q = i
      ·subst e2;rw [if_pos (by omega), if_pos rfl, show q * Gd.n α + t - q * Gd.n α = t from by omega]
      ·have hd2 : ¬ (i * Gd.n α ≤ q * Gd.n α + t ∧ q * Gd.n α + t < i * Gd.n α + Gd.n α) := by
        rcases block_other e2 ht with hb | hb <;> omega
       rw [if_neg hd2, if_neg e2, slice_get, if_pos ht, Array.getElem?_toList]
    ·rw [if_neg ht]
     split
     ·rw [List.getElem?_eq_none (by omega)]
     ·split
      ·rw [List.getElem?_eq_none (by omega)]
      ·rw [slice_get, if_neg ht]
   refine put _ (star (bx gb [.slice (some ⟨g, 0, none⟩) d.length cap]) (ov [.slice (some ⟨g, 0, none⟩) d.length cap] (swp d i j))) ([gb] ++ (g :: (swp fps i j).flatten)) ⟨b1.trans a1, b2.trans a2, b3.trans a3, by omega, fun q hq hnm => hne q (fun e => hnm (by simp [e]))⟩
    ⟨[gb], g :: (swp fps i j).flatten, rfl, (bx gb _).loc _ _ _ hb (fun q hq => hne q (fun e => by simp at hq; exact hgb (hq.symm.trans e))), ?_⟩ ?_ ?_
   ·refine .inr ⟨g, cap, _, swp fps i j, by rw [swp_len], hg2, by rw [swp_len]; exact hc1, hc2, by rw [setA_size, setA_size, hc3], rfl, by rw [swp_len, swp_len, hfl], fun q z f hz hf => ?_⟩;have hq : q < d.length := by have := lS hz; rwa [swp_len] at this
    have hzA := A_of hz;have hfA := A_of hf;rw [A_swp hi hj] at hzA;rw [A_swp (by omega) (by omega)] at hfA;rw [hcur q hq];have mv : ∀ (B : List Value) k, k < d.length → Gd.ow w B (A d k) (A fps k) → Gd.ow ((w.setCells g (i * Gd.n α) Y).setCells g (j * Gd.n α) X) B (A d k) (A fps k) := fun B k hk ho =>
     Gd.ow_loc ho (fun r hr => hne r (fun e => hgn k _ (A_get (by omega)) (e ▸ hr)))
    by_cases e1 : q = j
    ·rw [if_pos e1] at hzA hfA ⊢;rw [← hzA, ← hfA]; exact mv X i hi wX
    ·rw [if_neg e1] at hzA hfA ⊢
     by_cases e2 : q = i
     ·rw [if_pos e2] at hzA hfA ⊢;rw [← hzA, ← hfA]; exact mv Y j hj wY
     ·rw [if_neg e2] at hzA hfA ⊢;obtain ⟨B, eB, _, _, wB⟩ := blk q hq;rw [eB, ← hzA, ← hfA]; exact mv B q hq wB
   ·refine (List.Perm.nodup_iff ?_).1 hn;exact (hfp.symm.cons g).append_left [gb]
   ·intro q hq;have hq2 : q ∈ [gb] ++ (g :: fps.flatten) := by
     simp only [List.mem_append, List.mem_cons] at hq ⊢
     rcases hq with hq | hq | hq
     ·exact .inl hq
     ·exact .inr (.inl hq)
     ·exact .inr (.inr (hfp.mem_iff.1 hq))
    exact ⟨.inl hq2, by have := (hbd q hq2).2; omega⟩
section
variable {P : Program} {N : Nat} {w0 : World} {H : List Chunk} {L : Fm} {Q : Exit → Act → World → Prop} {o : Oper} {dd : Nat} {K : Act → World → Prop}
theorem run_ext {f : Nat} {as : List Operand} {vs : List Value} {tys : Array TypeId} {a : Act} {w : World} (hf : Fits a N L) (ho : o.op = .call ⟨.value (.func f), as.toArray, tys⟩) (ha : evs L as = some vs) :
  (execOp a.eval o).run P w = (callFunc f vs.toArray).run P w := by
 have := run_fv (P := P) (w := w) (x := .func f) (f := f) (cs := []) hf ho rfl ha;simpa using this
theorem D_vof {f : Nat} {fn : Func} {x : Operand} {tys : Array TypeId} {t e n c : Nat} {i : TypeInfo} {p : Option Addr} (hfn : P.funcs[f]? = some fn) (hnm : (fn.name == "runtime.NumGoroutine") = false) (hb : fn.body.isNone = true) (hnx : Extern.findNext fn = none)
  (he : Extern.find fn = some (fun args => Extern.ReflectliteValue.unpack (args.getD 0 (.tuple #[])))) (hi : P.info? t = some i) (hdd : i.desc = .slice e)
  (ho : o.op = .call ⟨.value (.func f), [x].toArray, tys⟩) (hx : evs L [x] = some [.iface t (.slice p n c)]) (hd : o.dst = some dd) (hN : Nat.blt dd N = true)
  (k : ∀ g, D N w0 (bx g [.slice p n c] :: H) ((dd, .agg #[typeHandle P t, .pointer (some ⟨g, 0, none⟩), .int .u64 151]) :: L) K) : D N w0 H L (fun a w => o.wp P a w K Q) :=
 D_gen hd hN (fun a w hf hs => by
  refine ⟨_, w.alloc (.cells #[.slice p n c] t), ?_, fun a' hf' => k w.heap.size a' _ hf' (bx_new (cs := [.slice p n c]) hs rfl)⟩;rw [run_ext hf ho hx, run_callFunc_extern hfn hnm hb hnx he];show ((Extern.ReflectliteValue.unpack (.iface t (.slice p n c))).run P w).andThen _ = _;rw [Lib.run_valueOf_slice (P := P) t e i hi hdd p n c w]
  rfl)
theorem D_swr {f : Nat} {fn : Func} {x : Operand} {tys : Array TypeId} {u v : Value} (hfn : P.funcs[f]? = some fn) (hnm : (fn.name == "runtime.NumGoroutine") = false) (hb : fn.body.isNone = true) (hnx : Extern.findNext fn = none)
  (he : Extern.find fn = some (Extern.ReflectliteSwapper.swapper "internal/reflectlite" (Extern.ReflectliteValue.valueError "Swapper")))
  (hs : ∀ w, (Extern.ReflectliteSwapper.swapper "internal/reflectlite" (Extern.ReflectliteValue.valueError "Swapper") #[u]).run P w = .ok v w)
  (ho : o.op = .call ⟨.value (.func f), [x].toArray, tys⟩) (hx : evs L [x] = some [u]) : RunV P N w0 H L o v := fun a w hf _ => by
 rw [run_ext hf ho hx, run_callFunc_extern hfn hnm hb hnx he];show ((Extern.ReflectliteSwapper.swapper "internal/reflectlite" (Extern.ReflectliteValue.valueError "Swapper") #[u]).run P w).andThen _ = _;rw [hs]; rfl
theorem D_vln {f : Nat} {fn : Func} {x : Operand} {tys : Array TypeId} {t e n c g : Nat} {i : TypeInfo} {p : Option Addr} (k : Nat) (hfn : P.funcs[f]? = some fn) (hnm : (fn.name == "runtime.NumGoroutine") = false) (hb : fn.body.isNone = true) (hnx : Extern.findNext fn = none)
  (he : Extern.find fn = some (Extern.ReflectliteValue.method (Extern.ReflectliteValue.valueError "reflectlite.Value.Len" 0) Extern.ReflectliteValue.len)) (hi : P.info? t = some i) (hdd : i.desc = .slice e) (hpk : P.packed t = false)
  (ho : o.op = .call ⟨.value (.func f), [x].toArray, tys⟩) (hx : evs L [x] = some [.agg #[typeHandle P t, .pointer (some ⟨g, 0, none⟩), .int .u64 151]]) (hk : H[k]? = some (bx g [.slice p n c])) : RunV P N w0 H L o (.int .i64 (n : Int)) := fun a w hf hs => by
 rw [run_ext hf ho hx, run_callFunc_extern hfn hnm hb hnx he];have hc : w.cell? ⟨g, 0, none⟩ = some (.slice p n c) := bx_cell hk rfl w hs;have := Lib.run_valueLen_slice (P := P) t e i hi hdd hpk ⟨g, 0, none⟩ p n c w hc;show ((Extern.ReflectliteValue.method (Extern.ReflectliteValue.valueError "reflectlite.Value.Len" 0) Extern.ReflectliteValue.len #[.agg #[typeHandle P t, .pointer (some ⟨g, 0, none⟩), .int .u64 151]]).run P w).andThen _ = _;rw [this]; rfl
theorem D_mkI {t : TypeId} {x : Operand} {v : Value} {e3 : Nat × Nat × Nat} (ht : sliceTy P t = some e3) (ho : o.op = .makeInterface t x) (hx : ev L x = some v) : RunV P N w0 H L o (.iface t v) := fun a w hf _ => by
 unfold sliceTy at ht
 split at ht
 ·rename_i e' he;unfold execOp;rw [ho];simp [Instr.makeInterface, hf.ev hx, run_underlying he]
 ·cases ht
end
end Go.Sy
