/-
  Rows that are sorted by exchanges: what the parts of the library's quicksort leave, as plain facts on lists.
  Conditions: those that each theorem states.
-/
import Derived.Test.YtobihkjhlopggaaGreatDoorSort
import Derived.Test.YtobihkjhlopggaaGreatDoorOwn2
import Derived.Laws.MathBits
import Derived.Lib.BitFns
namespace Go.Sy
section
variable {α : Type} [Inhabited α] {lt : α → α → Bool}
theorem Chg.get {d e : List α} {a b : Nat} (h : Chg d e a b) {φ : α → Prop} (hp : ∀ p, a ≤ p → p < b → φ (A d p)) : ∀ p, a ≤ p → p < b → φ (A e p) := fun p h1 h2 => by
 obtain ⟨j, h3, h4, e1⟩ := h.mem p h1 h2;rw [e1]; exact hp j h3 h4
def Lb (lt : α → α → Bool) (d : List α) (a b : Nat) : Prop := a = 0 ∨ ∀ p, a ≤ p → p < b → lt (A d p) (A d (a - 1)) = false
theorem lb_zero (d : List α) (b : Nat) : Lb lt d 0 b := .inl rfl
theorem lb_chg {d e : List α} {a b : Nat} (h : Lb lt d a b) (hc : Chg d e a b) : Lb lt e a b := by
 rcases h with h | h
 ·exact .inl h
 ·by_cases h0 : a = 0
  ·exact .inl h0
  ·right
   rw [hc.out (a - 1) (by omega)];exact hc.get (φ := fun x => lt x (A d (a - 1)) = false) h
theorem lb_sub {d : List α} {a b b' : Nat} (h : Lb lt d a b) (hb : b' ≤ b) : Lb lt d a b' := by
 rcases h with h | h
 ·exact .inl h
 ·exact .inr (fun p h1 h2 => h p h1 (by omega))
theorem lb_at {d : List α} {a b : Nat} (h : Lb lt d a b) (ha : 1 ≤ a) (hb : a < b) : lt (A d a) (A d (a - 1)) = false := by
 rcases h with h | h
 ·omega
 ·exact h a (Nat.le_refl _) hb
def Dn (lt : α → α → Bool) (d : List α) (a0 a b b0 : Nat) : Prop := ∀ p q, a0 ≤ p → p < q → q < b0 → (p < a ∨ b ≤ q) → lt (A d q) (A d p) = false
theorem dn_zero (d : List α) (a b : Nat) : Dn lt d a a b b := fun p q h1 h2 h3 h4 => by omega
theorem dn_chg {d e : List α} {a0 a b b0 : Nat} (h : Dn lt d a0 a b b0) (hc : Chg d e a b) (h1 : a0 ≤ a) (h2 : b ≤ b0) : Dn lt e a0 a b b0 := fun p q h3 h4 h5 h6 => by
 by_cases hp : a ≤ p ∧ p < b
 ·obtain ⟨p', hp1, hp2, e1⟩ := hc.mem p hp.1 hp.2;rw [e1, hc.out q (by omega)];exact h p' q (by omega) (by omega) h5 (by omega)
 ·rw [hc.out p (by omega)]
  by_cases hq : a ≤ q ∧ q < b
  ·obtain ⟨q', hq1, hq2, e1⟩ := hc.mem q hq.1 hq.2;rw [e1];exact h p q' h3 (by omega) (by omega) (by omega)
  ·rw [hc.out q (by omega)];exact h p q h3 h4 h5 h6
theorem dn_end {d : List α} {a0 a b b0 : Nat} (h : Dn lt d a0 a b b0) (hs : Srd lt d a b) : Srd lt d a0 b0 := fun p q h1 h2 h3 => by
 by_cases hc : p < a ∨ b ≤ q
 ·exact h p q h1 h2 h3 hc
 ·exact hs p q (by omega) h2 (by omega)
theorem dn_fin {d e : List α} {a0 a b b0 : Nat} (h : Dn lt d a0 a b b0) (hc : Chg d e a b) (hs : Srd lt e a b) (h1 : a0 ≤ a) (h2 : b ≤ b0) : Srd lt e a0 b0 := dn_end (dn_chg h hc h1 h2) hs
def Ptd (lt : α → α → Bool) (d : List α) (a b m : Nat) : Prop := (∀ p, a ≤ p → p < m → lt (A d m) (A d p) = false) ∧ (∀ p, m < p → p < b → lt (A d p) (A d m) = false)
theorem ptd_left {d e : List α} {a b m : Nat} (h : Ptd lt d a b m) (hc : Chg d e a m) (ha : a ≤ m) : Ptd lt e a b m := by
 refine ⟨?_, fun p h1 h2 => ?_⟩
 ·rw [hc.out m (by omega)];exact hc.get (φ := fun x => lt (A d m) x = false) h.1
 ·rw [hc.out m (by omega), hc.out p (by omega)]; exact h.2 p h1 h2
theorem ptd_right {d e : List α} {a b m : Nat} (h : Ptd lt d a b m) (hc : Chg d e (m + 1) b) : Ptd lt e a b m := by
 refine ⟨fun p h1 h2 => ?_, fun p h1 h2 => ?_⟩
 ·rw [hc.out m (by omega), hc.out p (by omega)]; exact h.1 p h1 h2
 ·rw [hc.out m (by omega)];exact hc.get (φ := fun x => lt x (A d m) = false) (fun p h3 h4 => h.2 p (by omega) h4) p (by omega) h2
theorem ptd_lb {d : List α} {a b m : Nat} (h : Ptd lt d a b m) : Lb lt d (m + 1) b := .inr (fun p h1 h2 => by simpa using h.2 p (by omega) h2)
theorem dn_left (ho : Ordr lt) {d : List α} {a0 a b b0 m : Nat} (h : Dn lt d a0 a b b0) (hp : Ptd lt d a b m) (hs : Srd lt d a m) (h0 : a0 ≤ a) (ha : a ≤ m) (hm : m < b) (hb : b ≤ b0) : Dn lt d a0 (m + 1) b b0 := fun p q h1 h2 h3 h4 => by
 by_cases hc : p < a ∨ b ≤ q
 ·exact h p q h1 h2 h3 hc
 ·by_cases e1 : p = m
  ·subst e1; exact hp.2 q h2 (by omega)
  ·by_cases e2 : q < m
   ·exact hs p q (by omega) h2 e2
   ·have h5 := hp.1 p (by omega) (by omega)
    by_cases e3 : q = m
    ·subst e3; exact h5
    ·exact ho.trans _ _ _ h5 (hp.2 q (by omega) (by omega))
theorem dn_right (ho : Ordr lt) {d : List α} {a0 a b b0 m : Nat} (h : Dn lt d a0 a b b0) (hp : Ptd lt d a b m) (hs : Srd lt d (m + 1) b) (h0 : a0 ≤ a) (ha : a ≤ m) (hm : m < b) (hb : b ≤ b0) : Dn lt d a0 a m b0 := fun p q h1 h2 h3 h4 => by
 by_cases hc : p < a ∨ b ≤ q
 ·exact h p q h1 h2 h3 hc
 ·by_cases e1 : p < m
  ·have h5 := hp.1 p (by omega) e1
   by_cases e3 : q = m
   ·subst e3; exact h5
   ·exact ho.trans _ _ _ h5 (hp.2 q (by omega) (by omega))
  ·by_cases e2 : p = m
   ·subst e2; exact hp.2 q h2 (by omega)
   ·exact hs p q (by omega) h2 (by omega)
def Par (lt : α → α → Bool) (d : List α) (a b i j : Nat) : Prop := (∀ p, a < p → p < i → lt (A d p) (A d a) = true) ∧ (∀ p, j < p → p < b → lt (A d p) (A d a) = false)
theorem par_start (d : List α) (a b : Nat) : Par lt d a b (a + 1) (b - 1) := ⟨fun p h1 h2 => by omega, fun p h1 h2 => by omega⟩
theorem par_i {d : List α} {a b i j : Nat} (h : Par lt d a b i j) (hl : lt (A d i) (A d a) = true) : Par lt d a b (i + 1) j := ⟨fun p h1 h2 => by
 by_cases e : p = i
 ·subst e; exact hl
 ·exact h.1 p h1 (by omega), h.2⟩
theorem par_j {d : List α} {a b i j : Nat} (h : Par lt d a b i j) (hl : lt (A d j) (A d a) = false) (hj : 1 ≤ j) : Par lt d a b i (j - 1) := ⟨h.1, fun p h1 h2 => by
 by_cases e : p = j
 ·subst e; exact hl
 ·exact h.2 p (by omega) h2⟩
theorem par_swp {d : List α} {a b i j : Nat} (h : Par lt d a b i j) (hi : lt (A d i) (A d a) = false) (hj : lt (A d j) (A d a) = true) (h1 : a < i) (h2 : i ≤ j) (h3 : j < b) (hb : b ≤ d.length) : i < j ∧ Par lt (swp d i j) a b (i + 1) (j - 1) ∧ Chg d (swp d i j) a b := by
 have hne : i ≠ j := fun e => by subst e; rw [hi] at hj; cases hj
 have ea : A (swp d i j) a = A d a := by rw [A_swp (by omega) (by omega), if_neg (by omega), if_neg (by omega)]
 refine ⟨by omega, ⟨fun p h4 h5 => ?_, fun p h4 h5 => ?_⟩, Chg.swp (by omega) (by omega) hb⟩
 ·rw [ea, A_swp (by omega) (by omega), if_neg (by omega)]
  split
  ·exact hj
  ·exact h.1 p h4 (by omega)
 ·rw [ea, A_swp (by omega) (by omega)]
  split
  ·exact hi
  ·rw [if_neg (by omega)]; exact h.2 p (by omega) h5
theorem par_end (ho : Ordr lt) {d : List α} {a b i j : Nat} (h : Par lt d a b i j) (h1 : a < i) (h2 : j < i) (h3 : i ≤ j + 1) (h4 : j < b) (hb : b ≤ d.length) : Ptd lt (swp d j a) a b j ∧ Chg d (swp d j a) a b := by
 refine ⟨⟨fun p h5 h6 => ?_, fun p h5 h6 => ?_⟩, Chg.swp (by omega) (by omega) hb⟩
 ·rw [A_swp (i := j) (j := a) (k := j) (by omega) (by omega), A_swp (by omega) (by omega), if_neg (by omega), if_pos rfl]
  split
  ·exact ho.asym _ _ (h.1 j (by omega) (by omega))
  ·rw [if_neg (by omega)]; exact ho.asym _ _ (h.1 p (by omega) (by omega))
 ·rw [A_swp (k := p) (by omega) (by omega), if_neg (by omega), if_neg (by omega), A_swp (by omega) (by omega)]
  by_cases e : j = a
  ·rw [if_pos e, e]; exact h.2 p h5 h6
  ·rw [if_neg e, if_pos rfl]; exact h.2 p h5 h6
def Peq (lt : α → α → Bool) (d : List α) (a b i j : Nat) : Prop := (∀ p, a ≤ p → p < i → lt (A d a) (A d p) = false) ∧ (∀ p, j < p → p < b → lt (A d a) (A d p) = true)
theorem peq_start (ho : Ordr lt) (d : List α) (a b : Nat) : Peq lt d a b (a + 1) (b - 1) := ⟨fun p h1 h2 => by obtain rfl : p = a := (by omega); exact ho.refl _, fun p h1 h2 => by omega⟩
theorem peq_i {d : List α} {a b i j : Nat} (h : Peq lt d a b i j) (hl : lt (A d a) (A d i) = false) : Peq lt d a b (i + 1) j := ⟨fun p h1 h2 => by
 by_cases e : p = i
 ·subst e; exact hl
 ·exact h.1 p h1 (by omega), h.2⟩
theorem peq_j {d : List α} {a b i j : Nat} (h : Peq lt d a b i j) (hl : lt (A d a) (A d j) = true) (hj : 1 ≤ j) : Peq lt d a b i (j - 1) := ⟨h.1, fun p h1 h2 => by
 by_cases e : p = j
 ·subst e; exact hl
 ·exact h.2 p (by omega) h2⟩
theorem peq_swp {d : List α} {a b i j : Nat} (h : Peq lt d a b i j) (hi : lt (A d a) (A d i) = true) (hj : lt (A d a) (A d j) = false) (h1 : a < i) (h2 : i ≤ j) (h3 : j < b) (hb : b ≤ d.length) : i < j ∧ Peq lt (swp d i j) a b (i + 1) (j - 1) ∧ Chg d (swp d i j) a b := by
 have hne : i ≠ j := fun e => by subst e; rw [hi] at hj; cases hj
 have ea : A (swp d i j) a = A d a := by rw [A_swp (by omega) (by omega), if_neg (by omega), if_neg (by omega)]
 refine ⟨by omega, ⟨fun p h4 h5 => ?_, fun p h4 h5 => ?_⟩, Chg.swp (by omega) (by omega) hb⟩
 ·rw [ea, A_swp (by omega) (by omega), if_neg (by omega)]
  split
  ·exact hj
  ·exact h.1 p h4 (by omega)
 ·rw [ea, A_swp (by omega) (by omega)]
  split
  ·exact hi
  ·rw [if_neg (by omega)]; exact h.2 p (by omega) h5
def PeqE (lt : α → α → Bool) (d : List α) (a b m : Nat) : Prop := a < m ∧ m ≤ b ∧ ∃ x, (∀ p, a ≤ p → p < b → lt (A d p) x = false) ∧ (∀ p, a ≤ p → p < m → lt x (A d p) = false)
theorem peq_end {d0 d : List α} {a b i j v : Nat} (h : Peq lt d a b i j) (h1 : a < i) (h2 : j < i) (h3 : i ≤ j + 1) (h4 : j < b) (hc : Chg d0 d a b) (hm : ∀ p, a ≤ p → p < b → lt (A d0 p) (A d0 v) = false) (hv : A d a = A d0 v) : PeqE lt d a b i :=
 ⟨h1, by omega, A d a, by rw [hv]; exact hc.get (φ := fun x => lt x (A d0 v) = false) hm, h.1⟩
theorem dn_eq (ho : Ordr lt) {d : List α} {a0 a b b0 m : Nat} (h : Dn lt d a0 a b b0) (hp : PeqE lt d a b m) : Dn lt d a0 m b b0 ∧ Lb lt d m b := by
 obtain ⟨h1, h2, x, h3, h4⟩ := hp;refine ⟨fun p q g1 g2 g3 g4 => ?_, .inr (fun p g1 g2 => ?_)⟩
 ·by_cases hc : p < a ∨ b ≤ q
  ·exact h p q g1 g2 g3 hc
  ·exact ho.trans _ _ _ (h4 p (by omega) (by omega)) (h3 q (by omega) (by omega))
 ·exact ho.trans _ _ _ (h4 (m - 1) (by omega) (by omega)) (h3 p (by omega) g2)
theorem peq_pre (ho : Ordr lt) {d : List α} {a b v : Nat} (hl : Lb lt d a b) (ha : 0 < a) (hv : lt (A d (a - 1)) (A d v) = false) : ∀ p, a ≤ p → p < b → lt (A d p) (A d v) = false := fun p h1 h2 => by
 rcases hl with h | h
 ·omega
 ·exact ho.trans _ _ _ hv (h p h1 h2)
theorem A_swp_l {d : List α} {i j : Nat} (hi : i < d.length) (hj : j < d.length) : A (swp d i j) i = A d j := by
 rw [A_swp hi hj]
 split
 ·rename_i e; rw [e]
 ·rw [if_pos rfl]
def Hp (lt : α → α → Bool) (d : List α) (f lo hi : Nat) : Prop := ∀ p c, lo ≤ p → (c = 2 * p + 1 ∨ c = 2 * p + 2) → c < hi → lt (A d (f + p)) (A d (f + c)) = false
def Sft (lt : α → α → Bool) (d : List α) (f lo hi r : Nat) : Prop := (∀ p c, lo ≤ p → p ≠ r → (c = 2 * p + 1 ∨ c = 2 * p + 2) → c < hi → lt (A d (f + p)) (A d (f + c)) = false) ∧
 (∀ p c, lo ≤ p → (r = 2 * p + 1 ∨ r = 2 * p + 2) → (c = 2 * r + 1 ∨ c = 2 * r + 2) → c < hi → lt (A d (f + p)) (A d (f + c)) = false)
theorem sft_start {d : List α} {f lo hi : Nat} (h : Hp lt d f (lo + 1) hi) : Sft lt d f lo hi lo :=
 ⟨fun p c h1 h2 h3 h4 => h p c (by omega) h3 h4, fun p c h1 h2 => by omega⟩
theorem sft_none {d : List α} {f lo hi r : Nat} (h : Sft lt d f lo hi r) (hr : hi ≤ 2 * r + 1) : Hp lt d f lo hi := fun p c h1 h2 h3 => h.1 p c h1 (by omega) h2 h3
theorem sft_stop (ho : Ordr lt) {d : List α} {f lo hi r c : Nat} (h : Sft lt d f lo hi r) (hc : c = 2 * r + 1 ∨ c = 2 * r + 2) (hm : ∀ c', (c' = 2 * r + 1 ∨ c' = 2 * r + 2) → c' < hi → lt (A d (f + c)) (A d (f + c')) = false)
  (hl : lt (A d (f + r)) (A d (f + c)) = false) : Hp lt d f lo hi := fun p c' h1 h2 h3 => by
 by_cases e : p = r
 ·subst e; exact ho.trans _ _ _ (hm c' h2 h3) hl
 ·exact h.1 p c' h1 e h2 h3
theorem sft_swp (ho : Ordr lt) {d : List α} {f lo hi r c : Nat} (h : Sft lt d f lo hi r) (hc : c = 2 * r + 1 ∨ c = 2 * r + 2) (hch : c < hi) (hm : ∀ c', (c' = 2 * r + 1 ∨ c' = 2 * r + 2) → c' < hi → lt (A d (f + c)) (A d (f + c')) = false)
  (hl : lt (A d (f + r)) (A d (f + c)) = true) (hr : lo ≤ r) (hb : f + hi ≤ d.length) : Sft lt (swp d (f + r) (f + c)) f lo hi c := by
 have g : ∀ k, A (swp d (f + r) (f + c)) (f + k) = if k = c then A d (f + r) else if k = r then A d (f + c) else A d (f + k) := fun k => by
  rw [A_swp (by omega) (by omega)]
  by_cases e1 : k = c
  ·rw [if_pos (by omega), if_pos e1]
  ·rw [if_neg (by omega), if_neg e1]
   by_cases e2 : k = r
   ·rw [if_pos (by omega), if_pos e2]
   ·rw [if_neg (by omega), if_neg e2]
 refine ⟨fun p q h1 h2 h3 h4 => ?_, fun p q h1 h2 h3 h4 => ?_⟩
 ·rw [g p, g q, if_neg h2]
  by_cases e1 : q = c
  ·rw [if_pos e1];have : p = r := by omega
   rw [if_pos this];exact ho.asym _ _ hl
  ·rw [if_neg e1]
   by_cases e2 : p = r
   ·rw [if_pos e2, if_neg (by omega)];subst e2;exact hm q h3 h4
   ·rw [if_neg e2]
    by_cases e3 : q = r
    ·rw [if_pos e3]; exact h.2 p c h1 (by omega) (by omega) hch
    ·rw [if_neg e3]; exact h.1 p q h1 e2 h3 h4
 ·have e : p = r := by omega
  rw [g p, g q, if_neg (by omega), if_pos e, if_neg (by omega), if_neg (by omega)];exact h.1 c q (by omega) (by omega) h3 h4
theorem Sft.at {d : List α} {f lo hi r r' : Nat} (h : Sft lt d f lo hi r) (e : r = r') : Sft lt d f lo hi r' := e ▸ h
theorem sft_stop2 (ho : Ordr lt) {d : List α} {f lo hi r c i j : Nat} (h : Sft lt d f lo hi r) (hc : c = 2 * r + 1 ∨ c = 2 * r + 2) (hm : ∀ c', (c' = 2 * r + 1 ∨ c' = 2 * r + 2) → c' < hi → lt (A d (f + c)) (A d (f + c')) = false)
  (hl : lt (A d i) (A d j) = false) (ei : i = f + r) (ej : j = f + c) : Hp lt d f lo hi := by subst ei; subst ej; exact sft_stop ho h hc hm hl
theorem sft_swp2 (ho : Ordr lt) {d : List α} {f lo hi r c i j : Nat} (h : Sft lt d f lo hi r) (hc : c = 2 * r + 1 ∨ c = 2 * r + 2) (hch : c < hi) (hm : ∀ c', (c' = 2 * r + 1 ∨ c' = 2 * r + 2) → c' < hi → lt (A d (f + c)) (A d (f + c')) = false)
  (hl : lt (A d i) (A d j) = true) (ei : i = f + r) (ej : j = f + c) (hr : lo ≤ r) (hb : f + hi ≤ d.length) : Sft lt (swp d i j) f lo hi c := by subst ei; subst ej; exact sft_swp ho h hc hch hm hl hr hb
theorem hp_max (ho : Ordr lt) {d : List α} {f hi : Nat} (h : Hp lt d f 0 hi) : ∀ n c, c ≤ n → c < hi → lt (A d f) (A d (f + c)) = false := fun n => by
 induction n with
 | zero => intro c h1 h2; obtain rfl : c = 0 := (by omega); exact ho.refl _
 | succ n ih =>
  intro c h1 h2
  by_cases e : c = 0
  ·subst e; exact ho.refl _
  ·have h3 := ih ((c - 1) / 2) (by omega) (by omega);exact ho.trans _ _ _ (h ((c - 1) / 2) c (by omega) (by omega) h2) h3
theorem hp_none (d : List α) (f hi lo : Nat) (h : hi ≤ 2 * lo + 1) : Hp lt d f lo hi := fun p c h1 h2 h3 => by omega
def Pop (lt : α → α → Bool) (d : List α) (f k hi : Nat) : Prop := ∀ p q, p < q → k ≤ q → q < hi → lt (A d (f + q)) (A d (f + p)) = false
theorem pop_start (d : List α) (f hi : Nat) : Pop lt d f hi hi := fun p q h1 h2 h3 => by omega
theorem pop_chg {d e : List α} {f k hi : Nat} (h : Pop lt d f k hi) (hc : Chg d e f (f + k)) : Pop lt e f k hi := fun p q h1 h2 h3 => by
 rw [hc.out (f + q) (by omega)]
 by_cases e : p < k
 ·obtain ⟨j, h4, h5, e1⟩ := hc.mem (f + p) (by omega) (by omega);rw [e1];have := h (j - f) q (by omega) h2 h3
  rwa [show f + (j - f) = j from by omega] at this
 ·rw [hc.out (f + p) (by omega)]; exact h p q h1 h2 h3
theorem pop_step (ho : Ordr lt) {d : List α} {f k hi : Nat} (h : Pop lt d f (k + 1) hi) (hh : Hp lt d f 0 (k + 1)) (hk : k < hi) (hb : f + hi ≤ d.length) : Pop lt (swp d f (f + k)) f k hi ∧ Hp lt (swp d f (f + k)) f 1 k ∧ Chg d (swp d f (f + k)) f (f + (k + 1)) := by
 have g : ∀ q, A (swp d f (f + k)) (f + q) = if q = k then A d f else if q = 0 then A d (f + k) else A d (f + q) := fun q => by
  rw [A_swp (by omega) (by omega)]
  by_cases e1 : q = k
  ·rw [if_pos (by omega), if_pos e1]
  ·rw [if_neg (by omega), if_neg e1]
   by_cases e2 : q = 0
   ·rw [if_pos (by omega), if_pos e2]
   ·rw [if_neg (by omega), if_neg e2]
 have hx := hp_max ho hh;have hc : Chg d (swp d f (f + k)) f (f + (k + 1)) := Chg.swp (by omega) (by omega) (by omega);refine ⟨fun p q h1 h2 h3 => ?_, fun p c h1 h2 h3 => ?_, hc⟩
 ·by_cases e : q = k
  ·rw [g q, if_pos e, g p, if_neg (by omega)]
   split
   ·exact hx k k (Nat.le_refl _) (by omega)
   ·exact hx p p (Nat.le_refl _) (by omega)
  ·exact pop_chg h hc p q h1 (by omega) h3
 ·rw [g p, g c, if_neg (by omega), if_neg (by omega), if_neg (by omega), if_neg (by omega)];exact hh p c (by omega) h2 (by omega)
theorem pop_end {d : List α} {f hi : Nat} (h : Pop lt d f 0 hi) : Srd lt d f (f + hi) := fun p q h1 h2 h3 => by
 have := h (p - f) (q - f) (by omega) (by omega) (by omega)
 rwa [show f + (q - f) = q from by omega, show f + (p - f) = p from by omega] at this
theorem pins_start {d : List α} {a i b : Nat} (hs : Srd lt d a i) (ha : a < i) (hib : i < b) (hb : b ≤ d.length) : InsI lt (swp d i (i - 1)) a (i - 1) (i - 1) := fun p q h1 h2 h3 h4 => by
 rw [A_swp (by omega) (by omega), A_swp (by omega) (by omega), if_neg (by omega), if_neg (by omega), if_neg (by omega), if_neg (by omega)];exact hs p q h1 h2 (by omega)
theorem pins_end (ho : Ordr lt) {d : List α} {a i j : Nat} (h : InsI lt d a (i - 1) j) (ha : a ≤ j) (hj : j ≤ i - 1) (hi : a < i) (he : j < 1 ∨ lt (A d j) (A d (j - 1)) = false) : Srd lt d a i := by
 have e : i - 1 + 1 = i := by omega
 by_cases h0 : j ≤ a
 ·have := ins_end1 h h0; rwa [e] at this
 ·rcases he with he | he
  ·omega
  ·have := ins_end2 ho h (by omega) hj he; rwa [e] at this
theorem srd_ext (ho : Ordr lt) {d : List α} {a i : Nat} (h : Srd lt d a i) (ha : a < i) (hl : lt (A d i) (A d (i - 1)) = false) : Srd lt d a (i + 1) := fun p q h1 h2 h3 => by
 by_cases e : q = i
 ·subst e
  by_cases e2 : p = q - 1
  ·subst e2; exact hl
  ·exact ho.trans _ _ _ (h p (q - 1) h1 (by omega) (by omega)) hl
 ·exact h p q h1 h2 (by omega)
theorem srd_small {d : List α} {n : Nat} (h : n ≤ 1) : Srd lt d 0 n := fun p q h1 h2 h3 => by omega
theorem lb_ne {d : List α} {a b j : Nat} (h : Lb lt d a b) (ha : a ≤ j) (hj : j < b) (h1 : 1 ≤ j) (hl : lt (A d j) (A d (j - 1)) = true) : a < j := by
 by_cases e : a = j
 ·subst e; rw [lb_at h h1 hj] at hl; cases hl
 ·omega
theorem sm_a {d : List α} {f hi r : Nat} (ho : Ordr lt) (h : hi ≤ 2 * r + 2) : ∀ c', (c' = 2 * r + 1 ∨ c' = 2 * r + 2) → c' < hi → lt (A d (f + (2 * r + 1))) (A d (f + c')) = false := fun c' h1 h2 => by
 obtain rfl : c' = 2 * r + 1 := by omega
 exact ho.refl _
theorem sm_b {d : List α} {f hi r i j : Nat} (ho : Ordr lt) (hl : lt (A d i) (A d j) = false) (hi' : i = f + (2 * r + 1)) (hj : j = f + (2 * r + 2)) : ∀ c', (c' = 2 * r + 1 ∨ c' = 2 * r + 2) → c' < hi → lt (A d (f + (2 * r + 1))) (A d (f + c')) = false := fun c' h1 h2 => by
 subst hi'; subst hj
 rcases h1 with rfl | rfl
 ·exact ho.refl _
 ·exact hl
theorem sm_c {d : List α} {f hi r i j c : Nat} (ho : Ordr lt) (hl : lt (A d i) (A d j) = true) (hi' : i = f + (2 * r + 1)) (hj : j = f + (2 * r + 2)) (hc : c = 2 * r + 2) : ∀ c', (c' = 2 * r + 1 ∨ c' = 2 * r + 2) → c' < hi → lt (A d (f + c)) (A d (f + c')) = false := fun c' h1 h2 => by
 subst hi'; subst hj; subst hc
 rcases h1 with rfl | rfl
 ·exact ho.asym _ _ hl
 ·exact ho.refl _
theorem eq_at {d : List α} {i j a : Nat} (h1 : a < i) (h2 : a < j) (h3 : i < d.length) (h4 : j < d.length) : A (swp d i j) a = A d a := by rw [A_swp h3 h4, if_neg (by omega), if_neg (by omega)]
end
end Go.Sy
namespace Go.Sy
open Go Go.RowKit
structure Srx {α : Type} [Inhabited α] (P : Program) (C : List α → Chunk) (lt : α → α → Bool) (d0 : List α) (dv : Value) (w0 : World) : Prop where
  len : ∀ (Hs : List Chunk) (w : World) (d : List α), List.Perm d d0 → St w0 (C d :: Hs) w → ∃ f as, hasBody P f = true ∧ (callMethod dv "Len" #[]).run P w = (callFunc f as).run P w ∧ Calls P f as w (fun e w' => e = .returned (.int .i64 (d0.length : Int)) ∧ St w0 (C d :: Hs) w')
  less : ∀ (Hs : List Chunk) (w : World) (d : List α) (i j : Nat), List.Perm d d0 → i < d0.length → j < d0.length → St w0 (C d :: Hs) w →
    ∃ f as, hasBody P f = true ∧ (callMethod dv "Less" #[Value.int .i64 (i : Int), Value.int .i64 (j : Int)]).run P w = (callFunc f as).run P w ∧ Calls P f as w (fun e w' => e = .returned (.bool (lt (A d i) (A d j))) ∧ St w0 (C d :: Hs) w')
  swap : ∀ (Hs : List Chunk) (w : World) (d : List α) (i j : Nat), List.Perm d d0 → i < d0.length → j < d0.length → St w0 (C d :: Hs) w →
    ∃ f as, hasBody P f = true ∧ (callMethod dv "Swap" #[Value.int .i64 (i : Int), Value.int .i64 (j : Int)]).run P w = (callFunc f as).run P w ∧ Calls P f as w (fun e w' => e = .returned (.tuple #[]) ∧ St w0 (C (swp d i j) :: Hs) w')
section
variable {P : Program} {N : Nat} {w0 : World} {H : List Chunk} {L : Fm} {Q : Exit → Act → World → Prop} {o : Oper} {dd : Nat} {K : Act → World → Prop}
theorem run_im {x : Operand} {nm : String} {as : List Operand} {vs : List Value} {v : Value} {tys : Array TypeId} {a : Act} {w : World} (hf : Fits a N L)
  (ho : o.op = .call ⟨.invoke x nm, as.toArray, tys⟩) (hx : ev L x = some v) (ha : evs L as = some vs) : (execOp a.eval o).run P w = (callMethod v nm vs.toArray).run P w := by
 unfold execOp;rw [ho];have he : (as.toArray.map a.eval) = vs.toArray := by rw [List.map_toArray, hf.evs ha]
 simp only [resolve, hf.ev hx, he, Sem.run_bind, Sem.run_pure, Result.andThen_ok, invoke];simp
theorem D_im {x : Operand} {nm : String} {as : List Operand} {vs : List Value} {v r : Value} {tys : Array TypeId} {H' : List Chunk} (ho : o.op = .call ⟨.invoke x nm, as.toArray, tys⟩) (hx : ev L x = some v) (ha : evs L as = some vs) (hd : o.dst = some dd) (hN : Nat.blt dd N = true)
  (hc : ∀ w, St w0 H w → ∃ f bs, hasBody P f = true ∧ (callMethod v nm vs.toArray).run P w = (callFunc f bs).run P w ∧ Calls P f bs w (fun e w' => e = .returned r ∧ St w0 H' w'))
  (k : D N w0 H' ((dd, r) :: L) K) : D N w0 H L (fun a w => o.wp P a w K Q) := by
 intro a w hf hs;show o.wp P a w K Q;obtain ⟨f, bs, hb, h1, hc⟩ := hc w hs;have h2 := run_im (P := P) (w := w) hf ho hx ha;unfold hasBody at hb
 split at hb
 ·rename_i fn hfn;simp only [Bool.and_eq_true, Bool.not_eq_true'] at hb;have hrun : (execOp a.eval o).run P w = .ok (.enter f bs) w := by
   rw [h2, h1];have hbody : fn.body.isNone = false := by rw [← Option.not_isSome, hb.2]; rfl
   have hnm : ¬ fn.name = "runtime.NumGoroutine" := by simpa using hb.1
   have hbn : ¬ fn.body = none := by intro e; rw [e] at hbody; cases hbody
   simp only [callFunc, program];simp [Sem.run, hfn, hnm, hbn]
  unfold Oper.wp;rw [hrun, Oper.upon_enter];refine hc.mono fun e w' he => ?_
  obtain ⟨rfl, hx⟩ := he;simp only;rw [hd];exact k _ _ (hf.put hN _) hx
 ·cases hb
theorem D_quoN {t t' : TypeId} {x y : Operand} {m n : Nat} (ho : o.op = .binOp .quo t x y t') (hx : ev L x = some (.int .i64 (m : Int))) (hy : ev L y = some (.int .i64 (n : Int))) (h0 : m ≤ 9223372036854775807) (hn : 1 ≤ n) : RunV P N w0 H L o (.int .i64 ((m / n : Nat) : Int)) := by
 have h := D_quo (P := P) (N := N) (w0 := w0) (H := H) ho hx hy (by omega) (by omega);rw [show ((m / n : Nat) : Int) = (m : Int) / (n : Int) from by simp];exact h
def xU (x y : Int) : Int := IntKind.u64.wrap (((BitVec.ofInt 64 x) ^^^ (BitVec.ofInt 64 y)).toNat : Int)
def andU (x y : Int) : Int := IntKind.u64.wrap (((BitVec.ofInt 64 x) &&& (BitVec.ofInt 64 y)).toNat : Int)
def shlU (x : Int) (n : Nat) : Int := IntKind.u64.wrap (x * 2 ^ min n 64)
def shrU (x : Int) (n : Nat) : Int := x.fdiv (2 ^ min n 64)
def subU (x y : Int) : Int := IntKind.u64.wrap (x - y)
theorem D_xorU {t t' : TypeId} {x y : Operand} {m n : Int} (ho : o.op = .binOp .xor t x y t') (hx : ev L x = some (.int .u64 m)) (hy : ev L y = some (.int .u64 n)) : RunV P N w0 H L o (.int .u64 (xU m n)) := by
 intro a w hf _;unfold execOp;rw [ho];simp only [hf.ev hx, hf.ev hy];rfl
theorem D_andU {t t' : TypeId} {x y : Operand} {m n : Int} (ho : o.op = .binOp .and t x y t') (hx : ev L x = some (.int .u64 m)) (hy : ev L y = some (.int .u64 n)) : RunV P N w0 H L o (.int .u64 (andU m n)) := by
 intro a w hf _;unfold execOp;rw [ho];simp only [hf.ev hx, hf.ev hy];rfl
theorem D_subU {t t' : TypeId} {x y : Operand} {m n : Int} (ho : o.op = .binOp .sub t x y t') (hx : ev L x = some (.int .u64 m)) (hy : ev L y = some (.int .u64 n)) : RunV P N w0 H L o (.int .u64 (subU m n)) := by
 intro a w hf _;unfold execOp;rw [ho];simp only [hf.ev hx, hf.ev hy];rfl
theorem D_shlU {t t' : TypeId} {x y : Operand} {m : Int} {n : Nat} {yk : IntKind} (ho : o.op = .binOp .shl t x y t') (hx : ev L x = some (.int .u64 m)) (hy : ev L y = some (.int yk (n : Int))) : RunV P N w0 H L o (.int .u64 (shlU m n)) := by
 intro a w hf _;unfold execOp;rw [ho];simp only [hf.ev hx, hf.ev hy];have h0 : ¬ (n : Int) < 0 := by omega
 simp [eqGuard, binOp, Op.shift, h0, shlU, IntKind.bits]
theorem D_shrU2 {t t' : TypeId} {x y : Operand} {m : Int} {n : Nat} {yk : IntKind} (ho : o.op = .binOp .shr t x y t') (hx : ev L x = some (.int .u64 m)) (hy : ev L y = some (.int yk (n : Int))) : RunV P N w0 H L o (.int .u64 (shrU m n)) := by
 intro a w hf _;unfold execOp;rw [ho];simp only [hf.ev hx, hf.ev hy];have h0 : ¬ (n : Int) < 0 := by omega
 simp [eqGuard, binOp, Op.shift, h0, shrU, IntKind.bits]
theorem wrapU_rng (z : Int) : 0 ≤ IntKind.u64.wrap z ∧ IntKind.u64.wrap z < 18446744073709551616 := by rw [IntKind.wrap_u64]; omega
theorem xU_rng (x y : Int) : 0 ≤ xU x y ∧ xU x y < 18446744073709551616 := wrapU_rng _
theorem andU_le {x y : Int} (h0 : 0 ≤ y) (h1 : y < 18446744073709551616) : 0 ≤ andU x y ∧ andU x y ≤ y := by
 refine ⟨(wrapU_rng _).1, ?_⟩;unfold andU;rw [IntKind.wrap_u64, BitVec.toNat_and];have h2 : (BitVec.ofInt 64 y).toNat = y.toNat := by rw [BitVec.toNat_ofInt]; omega
 have h3 : (BitVec.ofInt 64 x).toNat &&& (BitVec.ofInt 64 y).toNat ≤ y.toNat := by rw [← h2]; exact Nat.and_le_right
 omega
theorem subU_eq {x y : Int} (h0 : y ≤ x) (h1 : x - y < 18446744073709551616) : subU x y = x - y := by
 unfold subU; rw [IntKind.wrap_u64]; omega
def npt (n : Nat) : Int := shlU 1 (Lib.bitLen n)
theorem bla_zero : ∀ f, Lib.bitLenAux f 0 = 0
 | 0 => rfl
 | f + 1 => by simp [Lib.bitLenAux]
theorem bla_pow : ∀ (f x : Nat), 1 ≤ x → 2 ^ Lib.bitLenAux f x ≤ 2 * x
 | 0, x, h => by simp [Lib.bitLenAux]; omega
 | f + 1, x, h => by
  rw [Lib.bitLenAux, if_neg (by omega)]
  by_cases e : x / 2 = 0
  ·rw [e, bla_zero]; omega
  ·have := bla_pow f (x / 2) (by omega);rw [Nat.pow_add, Nat.pow_one];omega
theorem npt_rng {n : Nat} (h0 : 1 ≤ n) (h1 : n ≤ 2305843009213693951) : 1 ≤ npt n ∧ npt n ≤ 2 * (n : Int) := by
 have h2 : 2 ^ Lib.bitLen n ≤ 2 * n := bla_pow 64 n h0;have h3 : Lib.bitLen n ≤ 62 := Lib.bitLen_le n 62 (by omega) (by omega);have h4 : 1 ≤ 2 ^ Lib.bitLen n := Nat.one_le_two_pow;unfold npt shlU;rw [Nat.min_eq_left (by omega), IntKind.wrap_u64];have h6 : ((2 : Int) ^ Lib.bitLen n) = ((2 ^ Lib.bitLen n : Nat) : Int) := by simp
 rw [h6];omega
theorem D_cvUz {t t' : TypeId} {x : Operand} {z : Int} (ht : P.underlying t' = some (.int .u64)) (hu : ∃ u, P.underlying t = some u) (ho : o.op = .convert t t' x) (hx : ev L x = some (.int .i64 z)) (h : 0 ≤ z ∧ z ≤ 9223372036854775807) : RunV P N w0 H L o (.int .u64 z) := by
 have := D_cvU (P := P) (N := N) (w0 := w0) (H := H) (n := z.toNat) ht hu ho (by rw [hx, Int.toNat_of_nonneg h.1]) (by omega)
 rwa [Int.toNat_of_nonneg h.1] at this
theorem D_cvIz {t t' : TypeId} {x : Operand} {z : Int} (ht : P.underlying t' = some (.int .i64)) (hu : ∃ u, P.underlying t = some u) (ho : o.op = .convert t t' x) (hx : ev L x = some (.int .u64 z)) (h : 0 ≤ z ∧ z ≤ 9223372036854775807) : RunV P N w0 H L o (.int .i64 z) := by
 have := D_cvI (P := P) (N := N) (w0 := w0) (H := H) (n := z.toNat) ht hu ho (by rw [hx, Int.toNat_of_nonneg h.1]) (by omega)
 rwa [Int.toNat_of_nonneg h.1] at this
theorem cub {g f : Nat} {R : Int} {φ : Int → Prop} {as : List Operand} {vs : List Value} {tys : Array TypeId} (hb : hasBody P f = true)
  (ho : o.op = .call ⟨.value (.func f), as.toArray, tys⟩) (ha : evs L as = some vs) (hd : o.dst = some dd) (hN : Nat.blt dd N = true)
  (hc : ∀ w, St w0 (bx g [.int .u64 R] :: H) w → Calls P f vs.toArray w (fun e w' => ∃ r, φ r ∧ e = .returned (.int .u64 r) ∧ St w0 (bx g [.int .u64 r] :: H) w'))
  (k : ∀ r, φ r → D N w0 (bx g [.int .u64 r] :: H) ((dd, .int .u64 r) :: L) K) : D N w0 (bx g [.int .u64 R] :: H) L (fun a w => o.wp P a w K Q) :=
 D_call (σ := Int) (val := fun r => .int .u64 r) (H' := fun r => bx g [.int .u64 r] :: H) (J := φ) hb ho ha hd hN
  (fun w hs => (hc w hs).mono fun _ _ ⟨s, h1, h2, h3⟩ => ⟨s, h2, h1, h3⟩) k
section
variable {α : Type} [Inhabited α] {C : List α → Chunk} {lt : α → α → Bool} {d0 d : List α} {dv : Value}
theorem iless (S : Srx P C lt d0 dv w0) (hp : List.Perm d d0) {x : Operand} {as : List Operand} {tys : Array TypeId} {i j : Nat}
  (ho : o.op = .call ⟨.invoke x "Less", as.toArray, tys⟩) (hx : ev L x = some dv) (ha : evs L as = some [Value.int .i64 (i : Int), Value.int .i64 (j : Int)]) (hd : o.dst = some dd) (hN : Nat.blt dd N = true)
  (hi : i < d0.length) (hj : j < d0.length) (k : D N w0 (C d :: H) ((dd, .bool (lt (A d i) (A d j))) :: L) K) : D N w0 (C d :: H) L (fun a w => o.wp P a w K Q) :=
 D_im ho hx ha hd hN (fun w hs => S.less H w d i j hp hi hj hs) k
theorem iswap (S : Srx P C lt d0 dv w0) (hp : List.Perm d d0) {x : Operand} {as : List Operand} {tys : Array TypeId} {i j : Nat}
  (ho : o.op = .call ⟨.invoke x "Swap", as.toArray, tys⟩) (hx : ev L x = some dv) (ha : evs L as = some [Value.int .i64 (i : Int), Value.int .i64 (j : Int)]) (hd : o.dst = some dd) (hN : Nat.blt dd N = true)
  (hi : i < d0.length) (hj : j < d0.length) (k : D N w0 (C (swp d i j) :: H) ((dd, .tuple #[]) :: L) K) : D N w0 (C d :: H) L (fun a w => o.wp P a w K Q) :=
 D_im ho hx ha hd hN (fun w hs => S.swap H w d i j hp hi hj hs) k
theorem ilen (S : Srx P C lt d0 dv w0) (hp : List.Perm d d0) {x : Operand} {tys : Array TypeId}
  (ho : o.op = .call ⟨.invoke x "Len", #[], tys⟩) (hx : ev L x = some dv) (hd : o.dst = some dd) (hN : Nat.blt dd N = true)
  (k : D N w0 (C d :: H) ((dd, .int .i64 (d0.length : Int)) :: L) K) : D N w0 (C d :: H) L (fun a w => o.wp P a w K Q) :=
 D_im (as := []) ho hx rfl hd hN (fun w hs => S.len H w d hp hs) k
omit [Inhabited α] in
theorem cix {σ : Type} {val : σ → Value} {J : σ → List α → Prop} {H' : σ → List Chunk} {f : Nat} {as : List Operand} {vs : List Value} {tys : Array TypeId} (hb : hasBody P f = true)
  (ho : o.op = .call ⟨.value (.func f), as.toArray, tys⟩) (ha : evs L as = some vs) (hd : o.dst = some dd) (hN : Nat.blt dd N = true)
  (hc : ∀ w, St w0 (C d :: H) w → Calls P f vs.toArray w (fun e w' => ∃ s e', J s e' ∧ e = .returned (val s) ∧ St w0 (C e' :: H' s) w'))
  (k : ∀ s e', J s e' → D N w0 (C e' :: H' s) ((dd, val s) :: L) K) : D N w0 (C d :: H) L (fun a w => o.wp P a w K Q) :=
 D_call (σ := σ × List α) (val := fun p => val p.1) (H' := fun p => C p.2 :: H' p.1) (J := fun p => J p.1 p.2) hb ho ha hd hN
  (fun w hs => (hc w hs).mono fun _ _ ⟨s, e', h1, h2, h3⟩ => ⟨(s, e'), h2, h1, h3⟩) (fun p hp => k p.1 p.2 hp)
omit [Inhabited α] in
theorem cir {σ : Type} {val : σ → Value} {J : σ → Prop} {H' : σ → List Chunk} {f : Nat} {as : List Operand} {vs : List Value} {tys : Array TypeId} (hb : hasBody P f = true)
  (ho : o.op = .call ⟨.value (.func f), as.toArray, tys⟩) (ha : evs L as = some vs) (hd : o.dst = some dd) (hN : Nat.blt dd N = true)
  (hc : ∀ w, St w0 (C d :: H) w → Calls P f vs.toArray w (fun e w' => ∃ s, J s ∧ e = .returned (val s) ∧ St w0 (C d :: H' s) w'))
  (k : ∀ s, J s → D N w0 (C d :: H' s) ((dd, val s) :: L) K) : D N w0 (C d :: H) L (fun a w => o.wp P a w K Q) :=
 D_call (σ := σ) (val := val) (H' := fun p => C d :: H' p) (J := J) hb ho ha hd hN
  (fun w hs => (hc w hs).mono fun _ _ ⟨s, h1, h2, h3⟩ => ⟨s, h2, h1, h3⟩) k
end
end
end Go.Sy
namespace Go.Sy
open Go Go.RowKit
def mRow (P : Program) (t : TypeId) (nm : String) : Option (Array FieldStep × Option (FuncId × Bool)) := (P.info? t).bind fun i => (i.methods.find? (fun m => m.name == nm)).map fun m => (m.path, m.func)
theorem mRow_parts {P : Program} {t : TypeId} {nm : String} {p : Array FieldStep} {f : Option (FuncId × Bool)} (h : mRow P t nm = some (p, f)) : ∃ i m, P.info? t = some i ∧ i.methods.find? (fun m => m.name == nm) = some m ∧ m.path = p ∧ m.func = f := by
 unfold mRow at h;simp only [Option.bind_eq_some_iff, Option.map_eq_some_iff, Prod.mk.injEq] at h;obtain ⟨i, hi, m, hm, h1, h2⟩ := h;exact ⟨i, m, hi, hm, h1, h2⟩
theorem run_mval {P : Program} {n : Nat} {t e : TypeId} {v : Value} {nm : String} {f : FuncId} {w : World} (hm : mRow P t nm = some (#[], some (f, false))) (hu : P.underlying t = some (.slice e)) : (method (n + 1) t v nm).run P w = .ok (f, v) w := by
 obtain ⟨i, m, hi, h1, h2, h3⟩ := mRow_parts hm;unfold method;simp [typeInfo, hi, h1, h2, h3, follow, receiverAt, run_underlying hu, Place.get]
theorem run_mptr {P : Program} {n : Nat} {t e : TypeId} {a : Addr} {r : Value} {nm : String} {f : FuncId} {w : World} (hm : mRow P t nm = some (#[], some (f, false))) (hu : P.underlying t = some (.pointer e)) (hl : (loadVar e a).run P w = .ok r w) : (method (n + 1) t (.pointer (some a)) nm).run P w = .ok (f, r) w := by
 obtain ⟨i, m, hi, h1, h2, h3⟩ := mRow_parts hm;unfold method;have hc : ∀ s1 s2 : String, Builtin.ssaWrapNilChk_ #[t] t #[.pointer (some a), strVal s1, strVal s2] = pure (.pointer (some a)) := fun _ _ => rfl
 simp [typeInfo, hi, h1, h2, h3, follow, receiverAt, run_underlying hu, Place.get, hc, asAddr, hl]
theorem run_memb {P : Program} {n : Nat} {t s t' : TypeId} {a : Addr} {v' : Value} {nm : String} {fs : Array Field} {fl : Field} {w : World} (hm : mRow P t nm = some (#[⟨s, 0, true⟩], none)) (hs : P.underlying s = some (.struct fs)) (hf : fs[0]? = some fl) (ho : fl.offset = 0) (hz : ∃ i, P.info? fl.type = some i ∧ i.size = 1)
  (hl : (loadVar fl.type (a.add 0)).run P w = .ok (.iface t' v') w) : (method (n + 1) t (.pointer (some a)) nm).run P w = (method n t' v' nm).run P w := by
 obtain ⟨i, m, hi, h1, h2, h3⟩ := mRow_parts hm;obtain ⟨i2, hi2, hz2⟩ := hz;rw [method];simp [typeInfo, hi, h1, h2, h3, follow, run_underlying hs, hf, Place.get, asAddr, fieldPlace, sizeOf, hi2, hz2, ho, hl]
theorem run_cm {P : Program} {t : TypeId} {v r : Value} {nm : String} {f : FuncId} {args : Array Value} {w : World} (h : (method (P.types.size + Made.depth) t v nm).run P w = .ok (f, r) w) : (callMethod (.iface t v) nm args).run P w = (callFunc f (#[r] ++ args)).run P w := by
 have e : (callMethod (.iface t v) nm args) = (program >>= fun p => method (p.types.size + Made.depth) t v nm >>= fun x => callFunc x.1 (#[x.2] ++ args)) := rfl;have e2 : Sem.run P program w = .ok P w := rfl;rw [e, Sem.run_bind, e2, Result.andThen_ok, Sem.run_bind, h, Result.andThen_ok]
section
variable {P : Program} {N : Nat} {w0 : World} {H : List Chunk} {L : Fm} {Q : Exit → Act → World → Prop} {o : Oper} {dd : Nat} {K : Act → World → Prop} {c1 c2 : Chunk}
theorem D_stA (k : D N w0 (star c1 c2 :: H) L K) : D N w0 (c1 :: c2 :: H) L K := fun a w hf hs => k a w hf hs.star
theorem D_unA (k : D N w0 (c1 :: c2 :: H) L K) : D N w0 (star c1 c2 :: H) L K := fun a w hf hs => k a w hf hs.split
theorem D_mkP {t e : TypeId} {x : Operand} {v : Value} (ht : P.underlying t = some (.pointer e)) (ho : o.op = .makeInterface t x) (hx : ev L x = some v) : RunV P N w0 H L o (.iface t v) := fun a w hf _ => by
 unfold execOp;rw [ho];simp [Instr.makeInterface, hf.ev hx, run_underlying ht]
end
abbrev ltD (x y : Int) : Bool := decide (y < x)
theorem ordD : Ordr ltD := ⟨fun x y h => by simp only [ltD, decide_eq_true_eq, decide_eq_false_iff_not] at *; omega, fun x y z h1 h2 => by simp only [ltD, decide_eq_false_iff_not] at *; omega⟩
def fallL (l : List Int) : List Int := sortG ltD l
theorem fall_eq {l e : List Int} (hp : List.Perm e l) (hs : Srd ltD e 0 l.length) : e = fallL l := by
 have hlen := hp.length_eq;refine sorted_unique (lt := ltD) (fun x y h1 h2 => by simp only [ltD, decide_eq_false_iff_not] at h1 h2; omega) (hp.trans (sortG_perm _ l).symm) (srd_pw (by rw [hlen]; exact hs)) (sortG_pw ordD.asym ordD.trans l)
theorem fall_len (l : List Int) : (fallL l).length = l.length := sortG_len _ l
theorem fall_zero (l : List Int) : [] = fallL (l.take 0) := rfl
theorem fall_s {l : List Int} {i k : Nat} {x : Int} (h : l[i]? = some x) (hk : k ≤ i) (hi : ∀ p, k ≤ p → ∀ y, (fallL (l.take i))[p]? = some y → y < x) (he : k = 0 ∨ ∃ y, (shG (fallL (l.take i)) x k)[k - 1]? = some y ∧ ¬ y < x) : (shG (fallL (l.take i)) x k).set k x = fallL (l.take (i + 1)) := by
 have hl : (fallL (l.take i)).length = i := by rw [fall_len, List.length_take]; have := lS h; omega
 unfold fallL at *;rw [shG_ins (lt := ltD) ordD.asym ordD.trans (sortG_pw ordD.asym ordD.trans _) (by omega) (fun p hp y hy => by simpa [ltD] using hi p hp y hy) (by
  rcases he with he | ⟨y, h1, h2⟩
  ·exact .inl he
  ·exact .inr ⟨y, h1, by simp only [ltD, decide_eq_false_iff_not]; exact h2⟩)]
 exact sortG_s h
theorem fall_done {l : List Int} {k : Nat} (h : l.length ≤ k) : fallL (l.take k) = fallL l := by rw [List.take_of_length_le h]
end Go.Sy
