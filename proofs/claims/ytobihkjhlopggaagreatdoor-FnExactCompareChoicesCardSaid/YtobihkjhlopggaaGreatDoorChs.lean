/-
  Which choice comes first: orders, falling numbers, lists that are sorted by insertion.
  Conditions: those that each theorem states.
-/
import Derived.Test.YtobihkjhlopggaaGreatDoorCho
import Derived.Test.YtobihkjhlopggaaGreatDoorNum
import Derived.Test.YtobihkjhlopggaaGreatDoorPdq
namespace Go.Sy
/-! ### comparisons -/
structure Cmpr {α : Type} (c : α → α → Int) : Prop where
  anti : ∀ a b, c b a = - c a b
  le : ∀ x y z, c x y ≤ 0 → c y z ≤ 0 → c x z ≤ 0
theorem Cmpr.refl {α : Type} {c : α → α → Int} (h : Cmpr c) (a : α) : c a a = 0 := by have := h.anti a a; omega
theorem Cmpr.zero {α : Type} {c : α → α → Int} (h : Cmpr c) {x y z : α} (h1 : c x y = 0) (h2 : c y z = 0) : c x z = 0 := by
  have a := h.le x y z (by omega) (by omega)
  have b := h.le z y x (by rw [h.anti y z]; omega) (by rw [h.anti x y]; omega)
  have := h.anti x z
  omega
def lexC {α : Type} (c d : α → α → Int) (a b : α) : Int := if c a b = 0 then d a b else c a b
def listC {α : Type} (c : α → α → Int) : List α → List α → Int
  | a :: l, b :: m => if c a b = 0 then listC c l m else c a b
  | [], m => if m.isEmpty then 0 else -1
  | _ :: _, [] => 1
theorem Cmpr.list {α : Type} {c : α → α → Int} (h : Cmpr c) : Cmpr (listC c) where
  anti a := by
    induction a with
    | nil => intro b; cases b <;> simp [listC]
    | cons x l ih =>
      intro b
      cases b with
      | nil => simp [listC]
      | cons y m =>
        have h1 := h.anti x y
        have h2 := ih m
        simp only [listC]
        split <;> split <;> omega
  le x := by
    induction x with
    | nil => intro y z _ _; cases z <;> simp [listC]
    | cons a l ih =>
      intro y z h1 h2
      cases y with
      | nil => simp [listC] at h1
      | cons b m =>
        cases z with
        | nil => simp [listC] at h2
        | cons d n =>
          simp only [listC] at h1 h2 ⊢
          have i := ih m n
          have a1 := h.le a b d
          have a2 := h.anti a b
          have a3 := h.anti b d
          have a4 := h.anti a d
          have z1 := h.le d a b
          have z2 := h.le b d a
          split at h1 <;> split at h2 <;> split <;> omega
/-- the first difference tells, then the lengths -/
theorem listC_at {α : Type} {c : α → α → Int} : ∀ {l m : List α} {k : Nat} {a b : α}, (∀ i, i < k → ∀ x y, l[i]? = some x → m[i]? = some y → c x y = 0) → l[k]? = some a → m[k]? = some b → c a b ≠ 0 → listC c l m = c a b
  | x :: l, y :: m, 0, a, b, _, h1, h2, h3 => by
    simp only [List.getElem?_cons_zero, Option.some.injEq] at h1 h2
    subst h1; subst h2
    simp [listC, h3]
  | x :: l, y :: m, k + 1, a, b, hi, h1, h2, h3 => by
    simp only [List.getElem?_cons_succ] at h1 h2
    have h0 := hi 0 (by omega) x y rfl rfl
    simp only [listC, h0, if_true]
    exact listC_at (fun i hk u v hu hv => hi (i + 1) (by omega) u v (by simpa using hu) (by simpa using hv)) h1 h2 h3
  | [], _, _, _, _, _, h1, _, _ => by simp at h1
  | _ :: _, [], _, _, _, _, _, h2, _ => by simp at h2
theorem listC_end {α : Type} {c : α → α → Int} : ∀ {l m : List α}, (∀ (i : Nat) x y, l[i]? = some x → m[i]? = some y → c x y = 0) → listC c l m = cmZ (l.length : Int) (m.length : Int)
  | [], [], _ => by simp [listC, cmZ]
  | [], _ :: _, _ => by simp [listC, cmZ] <;> omega
  | _ :: _, [], _ => by simp [listC, cmZ] <;> omega
  | x :: l, y :: m, h => by
    have h0 := h 0 x y rfl rfl
    simp only [listC, h0, if_true]
    rw [listC_end (fun i u v hu hv => h (i + 1) u v (by simpa using hu) (by simpa using hv))]
    unfold cmZ
    simp only [List.length_cons]
    split <;> split <;> (try split) <;> (try split) <;> omega
/-! ### which choice comes first -/
def cmpT (a b : List Fact) : Int := listC cmpF a b
/-- lists of times: the first difference tells, the greater one first; then the longer one first -/
def recL : List Int → List Int → Int
  | x :: a, y :: b => if x = y then recL a b else cmZ y x
  | a, b => cmZ (b.length : Int) (a.length : Int)
theorem recL_at {a b : List Int} {k : Nat} {x y : Int} (hi : ∀ i, i < k → a[i]? = b[i]?) (ha : a[k]? = some x) (hb : b[k]? = some y) (hne : x ≠ y) : recL a b = cmZ y x := by
  induction k generalizing a b with
  | zero =>
    match a, b with
    | u :: a, v :: b =>
      simp only [List.getElem?_cons_zero, Option.some.injEq] at ha hb
      subst ha; subst hb
      simp [recL, hne]
    | [], _ => simp at ha
    | _ :: _, [] => simp at hb
  | succ k ih =>
    match a, b with
    | u :: a, v :: b =>
      have h0 := hi 0 (by omega)
      simp only [List.getElem?_cons_zero, Option.some.injEq] at h0
      simp only [List.getElem?_cons_succ] at ha hb
      simp only [recL, h0, if_true]
      exact ih (fun i h => by have := hi (i + 1) (by omega); simpa using this) ha hb
    | [], _ => simp at ha
    | _ :: _, [] => simp at hb
theorem recL_end {a b : List Int} (hi : ∀ i, i < a.length → i < b.length → a[i]? = b[i]?) : recL a b = cmZ (b.length : Int) (a.length : Int) := by
  induction a generalizing b with
  | nil => cases b <;> simp [recL]
  | cons u a ih =>
    match b with
    | [] => simp [recL]
    | v :: b =>
      have h0 := hi 0 (by simp) (by simp)
      simp only [List.getElem?_cons_zero, Option.some.injEq] at h0
      simp only [recL, h0, if_true]
      rw [ih (fun i h1 h2 => by have := hi (i + 1) (by simpa using h1) (by simpa using h2); simpa using this)]
      simp only [List.length_cons]
      unfold cmZ
      split <;> split <;> (try split) <;> (try split) <;> omega
theorem cmpT_at {a b : List Fact} {k : Nat} {x y : Fact} (hi : ∀ i, i < k → ∀ u v, a[i]? = some u → b[i]? = some v → cmpF u v = 0) (ha : a[k]? = some x) (hb : b[k]? = some y) (hne : cmpF x y ≠ 0) : cmpF x y = cmpT a b := (listC_at hi ha hb hne).symm
theorem cmpT_end {a b : List Fact} (hi : ∀ i, i < a.length → i < b.length → ∀ u v, a[i]? = some u → b[i]? = some v → cmpF u v = 0) : cmZ (a.length : Int) (b.length : Int) = cmpT a b :=
  (listC_end (fun i u v hu hv => hi i (lS hu) (lS hv) u v hu hv)).symm
def cmpC (a b : Choice) : Int := lexC (fun a b : Choice => cmZ b.Priority a.Priority) (lexC (fun a b => recL (fallL a.Times) (fallL b.Times)) (lexC (fun a b => cmZ b.Specific a.Specific) (lexC (fun a b => cmZ a.Order b.Order) (fun a b => cmpT a.Match.Facts b.Match.Facts)))) a b
instance : Inhabited Choice := ⟨⟨⟨⟨#[]⟩, [], []⟩, 0, [], 0, 0⟩⟩
theorem cmZ_ne {x y : Int} (h : x ≠ y) : cmZ x y ≠ 0 := by unfold cmZ; split <;> (try split) <;> omega
theorem cmZ_self (x : Int) : cmZ x x = 0 := by unfold cmZ; simp
theorem cmpC1 {a b : Choice} (h : a.Priority ≠ b.Priority) : cmZ b.Priority a.Priority = cmpC a b := by
  unfold cmpC lexC; dsimp only; rw [if_neg (cmZ_ne (Ne.symm h))]
theorem cmpC2 {a b : Choice} (h : a.Priority = b.Priority) (h2 : recL (fallL a.Times) (fallL b.Times) ≠ 0) : recL (fallL a.Times) (fallL b.Times) = cmpC a b := by
  unfold cmpC lexC; simp only [h, cmZ_self, if_true, if_neg h2]
theorem cmpC3 {a b : Choice} (h : a.Priority = b.Priority) (h2 : recL (fallL a.Times) (fallL b.Times) = 0) (h3 : a.Specific ≠ b.Specific) : cmZ b.Specific a.Specific = cmpC a b := by
  unfold cmpC lexC; simp only [h, cmZ_self, h2, if_true, if_neg (cmZ_ne (Ne.symm h3))]
theorem cmpC4 {a b : Choice} (h : a.Priority = b.Priority) (h2 : recL (fallL a.Times) (fallL b.Times) = 0) (h3 : a.Specific = b.Specific) (h4 : a.Order ≠ b.Order) : cmZ a.Order b.Order = cmpC a b := by
  unfold cmpC lexC; simp only [h, cmZ_self, h2, h3, if_true, if_neg (cmZ_ne h4)]
theorem cmpC5 {a b : Choice} (h : a.Priority = b.Priority) (h2 : recL (fallL a.Times) (fallL b.Times) = 0) (h3 : a.Specific = b.Specific) (h4 : a.Order = b.Order) : cmpT a.Match.Facts b.Match.Facts = cmpC a b := by
  unfold cmpC lexC; simp only [h, cmZ_self, h2, h3, h4, if_true]
theorem recL_z {a b : List Int} (hi : ∀ i, i < a.length → i < b.length → a[i]? = b[i]?) (hl : a.length = b.length) : recL a b = 0 := by
  rw [recL_end hi]; unfold cmZ; simp [hl]
theorem cmpC2a {a b : Choice} {k : Nat} {x y : Int} (h : a.Priority = b.Priority) (hi : ∀ i, i < k → (fallL a.Times)[i]? = (fallL b.Times)[i]?) (hx : (fallL a.Times)[k]? = some x) (hy : (fallL b.Times)[k]? = some y) (hne : x ≠ y) : cmZ y x = cmpC a b := by
  have e := recL_at hi hx hy hne
  rw [← cmpC2 h (by rw [e]; exact cmZ_ne (Ne.symm hne)), e]
theorem cmpC2b {a b : Choice} (h : a.Priority = b.Priority) (hi : ∀ i, i < (fallL a.Times).length → i < (fallL b.Times).length → (fallL a.Times)[i]? = (fallL b.Times)[i]?) (hne : (fallL a.Times).length ≠ (fallL b.Times).length) : cmZ ((fallL b.Times).length : Int) ((fallL a.Times).length : Int) = cmpC a b := by
  have e := recL_end hi
  rw [← cmpC2 h (by rw [e]; exact cmZ_ne (by omega)), e]
abbrev fourC (a b : Choice) : List Int := [cmZ b.Priority a.Priority, recL (fallL a.Times) (fallL b.Times), cmZ b.Specific a.Specific, cmZ a.Order b.Order]
/-- the first of four numbers that is not 0 -/
theorem cmpC_l {a b : Choice} {k : Nat} {x : Int} (hx : [cmZ b.Priority a.Priority, recL (fallL a.Times) (fallL b.Times), cmZ b.Specific a.Specific, cmZ a.Order b.Order][k]? = some x) (hi : ∀ i, i < k → ∀ y, [cmZ b.Priority a.Priority, recL (fallL a.Times) (fallL b.Times), cmZ b.Specific a.Specific, cmZ a.Order b.Order][i]? = some y → y = 0) (hne : x ≠ 0) : x = cmpC a b := by
  unfold cmpC lexC
  match k, hx with
  | 0, hx => simp at hx; subst hx; simp [hne]
  | 1, hx => simp at hx; subst hx; have h0 := hi 0 (by omega) _ rfl; simp [h0, hne]
  | 2, hx => simp at hx; subst hx; have h0 := hi 0 (by omega) _ rfl; have h1 := hi 1 (by omega) _ rfl; simp [h0, h1, hne]
  | 3, hx => simp at hx; subst hx; have h0 := hi 0 (by omega) _ rfl; have h1 := hi 1 (by omega) _ rfl; have h2 := hi 2 (by omega) _ rfl; simp [h0, h1, h2, hne]
  | k + 4, hx => simp at hx
theorem cmpC_e {a b : Choice} (hi : ∀ i, i < 4 → ∀ y, [cmZ b.Priority a.Priority, recL (fallL a.Times) (fallL b.Times), cmZ b.Specific a.Specific, cmZ a.Order b.Order][i]? = some y → y = 0) : cmpT a.Match.Facts b.Match.Facts = cmpC a b := by
  have h0 := hi 0 (by omega) _ rfl
  have h1 := hi 1 (by omega) _ rfl
  have h2 := hi 2 (by omega) _ rfl
  have h3 := hi 3 (by omega) _ rfl
  unfold cmpC lexC
  simp [h0, h1, h2, h3]
/-! ### marks in lists of choices -/
end Go.Sy
