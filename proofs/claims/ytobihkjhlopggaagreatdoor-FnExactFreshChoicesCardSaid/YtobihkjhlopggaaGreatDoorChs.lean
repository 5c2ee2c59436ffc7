/-
  Which choice comes first: orders, falling numbers, lists that are sorted by insertion.
  Conditions: those that each theorem states.
-/
import Derived.Test.YtobihkjhlopggaaGreatDoorCho
import Derived.Test.YtobihkjhlopggaaGreatDoorNum
import Derived.Test.YtobihkjhlopggaaGreatDoorPdq
namespace Go.Sy
structure Cmpr {α : Type} (c : α → α → Int) : Prop where
  anti : ∀ a b, c b a = - c a b
  le : ∀ x y z, c x y ≤ 0 → c y z ≤ 0 → c x z ≤ 0
theorem Cmpr.refl {α : Type} {c : α → α → Int} (h : Cmpr c) (a : α) : c a a = 0 := by have := h.anti a a; omega
theorem Cmpr.zero {α : Type} {c : α → α → Int} (h : Cmpr c) {x y z : α} (h1 : c x y = 0) (h2 : c y z = 0) : c x z = 0 := by
 have a := h.le x y z (by omega) (by omega);have b := h.le z y x (by rw [h.anti y z]; omega) (by rw [h.anti x y]; omega);have := h.anti x z;omega
def lexC {α : Type} (c d : α → α → Int) (a b : α) : Int := if c a b = 0 then d a b else c a b
theorem Cmpr.lex {α : Type} {c d : α → α → Int} (h : Cmpr c) (k : Cmpr d) : Cmpr (lexC c d) where
 anti a b := by
  unfold lexC;have := h.anti a b;have := k.anti a b
  split <;> split <;> omega
 le x y z := by
  unfold lexC;intro h1 h2;have a1 := h.le x y z;have b1 := k.le x y z;have a2 := h.anti x y;have a3 := h.anti y z;have a4 := h.anti x z;have z1 := h.le z x y;have z2 := h.le y z x
  split at h1 <;> split at h2 <;> split <;> omega
theorem Cmpr.pull {α β : Type} {c : α → α → Int} (h : Cmpr c) (f : β → α) : Cmpr (fun a b => c (f a) (f b)) := ⟨fun a b => h.anti _ _, fun x y z => h.le _ _ _⟩
theorem Cmpr.flip {α : Type} {c : α → α → Int} (h : Cmpr c) : Cmpr (fun a b => c b a) := ⟨fun a b => h.anti _ _, fun x y z h1 h2 => h.le z y x h2 h1⟩
def listC {α : Type} (c : α → α → Int) : List α → List α → Int
 | a :: l, b :: m => if c a b = 0 then listC c l m else c a b
 | [], m => if m.isEmpty then 0 else -1
 | _ :: _, [] => 1
theorem Cmpr.list {α : Type} {c : α → α → Int} (h : Cmpr c) : Cmpr (listC c) where
 anti a := by
  induction a with
  | nil => intro b; cases b <;> simp [listC]
  | cons x l ih =>
   intro b
   cases b with
   | nil => simp [listC]
   | cons y m =>
    have h1 := h.anti x y;have h2 := ih m;simp only [listC]
    split <;> split <;> omega
 le x := by
  induction x with
  | nil => intro y z _ _; cases z <;> simp [listC]
  | cons a l ih =>
   intro y z h1 h2
   cases y with
   | nil => simp [listC] at h1
   | cons b m =>
    cases z with
    | nil => simp [listC] at h2
    | cons d n =>
     simp only [listC] at h1 h2 ⊢;have i := ih m n;have a1 := h.le a b d;have a2 := h.anti a b;have a3 := h.anti b d;have a4 := h.anti a d;have z1 := h.le d a b;have z2 := h.le b d a
     split at h1 <;> split at h2 <;> split <;> omega
theorem cmZ_le (a b : Int) : cmZ a b ≤ 0 ↔ a ≤ b := by
 unfold cmZ
 by_cases h1 : a < b
 ·simp [h1]; omega
 ·by_cases h2 : b < a
  ·simp [h1, h2]
  ·simp [h1, h2]; omega
theorem cmZ_cmpr : Cmpr cmZ where
 anti a b := by
  unfold cmZ
  by_cases h1 : a < b
  ·have h2 : ¬ b < a := by omega
   simp [h1, h2]
  ·by_cases h2 : b < a
   ·simp [h1, h2]
   ·simp [h1, h2]
 le x y z h1 h2 := by
  rw [cmZ_le] at *;omega
theorem cmS_cmpr : Cmpr cmS where
 anti a b := by
  unfold cmS
  cases h1 : ltS a b <;> cases h2 : ltS b a <;> simp
  have := ltS_asym h1;rw [h2] at this; cases this
 le x y z h1 h2 := by
  have le : ∀ a b, cmS a b ≤ 0 → ltS a b = true ∨ a = b := fun a b h => by
   unfold cmS at h
   cases e : ltS a b with
   | true => exact .inl rfl
   | false =>
    cases e2 : ltS b a with
    | true => rw [e, e2] at h; simp at h
    | false => exact .inr (ltS_tot e e2)
  have ge : ∀ a b, ltS a b = true ∨ a = b → cmS a b ≤ 0 := fun a b h => by
   rcases h with h | rfl
   ·unfold cmS; rw [if_pos h]; omega
   ·rw [cmS_self]; omega
  refine ge x z ?_
  rcases le _ _ h1 with a | rfl
  ·rcases le _ _ h2 with b | rfl
   ·exact .inl (ltS_trans a b)
   ·exact .inl a
  ·exact le _ _ h2
theorem listC_at {α : Type} {c : α → α → Int} : ∀ {l m : List α} {k : Nat} {a b : α}, (∀ i, i < k → ∀ x y, l[i]? = some x → m[i]? = some y → c x y = 0) → l[k]? = some a → m[k]? = some b → c a b ≠ 0 → listC c l m = c a b
 | x :: l, y :: m, 0, a, b, _, h1, h2, h3 => by
  simp only [List.getElem?_cons_zero, Option.some.injEq] at h1 h2;subst h1; subst h2;simp [listC, h3]
 | x :: l, y :: m, k + 1, a, b, hi, h1, h2, h3 => by
  simp only [List.getElem?_cons_succ] at h1 h2;have h0 := hi 0 (by omega) x y rfl rfl;simp only [listC, h0, if_true];exact listC_at (fun i hk u v hu hv => hi (i + 1) (by omega) u v (by simpa using hu) (by simpa using hv)) h1 h2 h3
 | [], _, _, _, _, _, h1, _, _ => by simp at h1
 | _ :: _, [], _, _, _, _, _, h2, _ => by simp at h2
theorem listC_end {α : Type} {c : α → α → Int} : ∀ {l m : List α}, (∀ (i : Nat) x y, l[i]? = some x → m[i]? = some y → c x y = 0) → listC c l m = cmZ (l.length : Int) (m.length : Int)
 | [], [], _ => by simp [listC, cmZ]
 | [], _ :: _, _ => by simp [listC, cmZ] <;> omega
 | _ :: _, [], _ => by simp [listC, cmZ] <;> omega
 | x :: l, y :: m, h => by
  have h0 := h 0 x y rfl rfl;simp only [listC, h0, if_true];rw [listC_end (fun i u v hu hv => h (i + 1) u v (by simpa using hu) (by simpa using hv))];unfold cmZ;simp only [List.length_cons]
  split <;> split <;> (try split) <;> (try split) <;> omega
theorem cmpA_cmpr : Cmpr cmpA := by
 constructor
 ·intro a b;have k1 := cmZ_cmpr.anti (pI a) (pI b);have k2 := cmS_cmpr.anti a b;unfold cmpA
  cases h1 : pO a <;> cases h2 : pO b <;> simp [k1, k2]
 ·intro x y z;have k1 := cmZ_cmpr.le (pI x) (pI y) (pI z);have k2 := cmS_cmpr.le x y z;unfold cmpA
  cases h1 : pO x <;> cases h2 : pO y <;> cases h3 : pO z <;> simp <;> first | exact k1 | exact k2 | omega
theorem cmpL_list : ∀ (l m : List ByteArray), cmpL l m = listC cmpA l m
 | [], [] => by simp [cmpL, listC]
 | [], _ :: _ => by simp [cmpL, listC]
 | _ :: _, [] => by simp [cmpL, listC]
 | a :: l, b :: m => by simp only [cmpL, listC, cmpL_list l m]
theorem cmpF_cmpr : Cmpr cmpF := by
 have h : Cmpr (lexC (fun f g : Fact => cmS f.Rel g.Rel) (fun f g => listC cmpA f.Args g.Args)) := (cmS_cmpr.pull Fact.Rel).lex (cmpA_cmpr.list.pull Fact.Args);have e : ∀ f g : Fact, cmpF f g = lexC (fun f g : Fact => cmS f.Rel g.Rel) (fun f g => listC cmpA f.Args g.Args) f g := fun f g => by
  unfold cmpF lexC
  dsimp only
  rw [cmpL_list]
  by_cases hr : f.Rel = g.Rel
  ·simp only [hr, cmS_self, if_true]
  ·rw [if_neg hr, if_neg (cmS_ne hr)]
 exact ⟨fun a b => by rw [e, e]; exact h.anti a b, fun x y z => by rw [e, e, e]; exact h.le x y z⟩
def cmpT (a b : List Fact) : Int := listC cmpF a b
def recL : List Int → List Int → Int
 | x :: a, y :: b => if x = y then recL a b else cmZ y x
 | a, b => cmZ (b.length : Int) (a.length : Int)
theorem recL_eq : ∀ (a b : List Int), recL a b = - listC cmZ a b
 | [], [] => by simp [recL, listC, cmZ]
 | [], _ :: _ => by simp [recL, listC, cmZ] <;> omega
 | _ :: _, [] => by simp [recL, listC, cmZ] <;> omega
 | x :: a, y :: b => by
  simp only [recL, listC];rw [recL_eq a b];unfold cmZ
  split <;> split <;> (try split) <;> (try split) <;> omega
theorem recL_cmpr : Cmpr recL := by
 have h := cmZ_cmpr.list;exact ⟨fun a b => by rw [recL_eq, recL_eq, h.anti a b], fun x y z h1 h2 => by
  rw [recL_eq] at h1 h2 ⊢;have a1 := h.anti x y;have a2 := h.anti y z;have a3 := h.anti x z;have := h.le z y x (by omega) (by omega)
  omega⟩
theorem recL_at {a b : List Int} {k : Nat} {x y : Int} (hi : ∀ i, i < k → a[i]? = b[i]?) (ha : a[k]? = some x) (hb : b[k]? = some y) (hne : x ≠ y) : recL a b = cmZ y x := by
 induction k generalizing a b with
 | zero =>
  match a, b with
  | u :: a, v :: b =>
   simp only [List.getElem?_cons_zero, Option.some.injEq] at ha hb;subst ha; subst hb;simp [recL, hne]
  | [], _ => simp at ha
  | _ :: _, [] => simp at hb
 | succ k ih =>
  match a, b with
  | u :: a, v :: b =>
   have h0 := hi 0 (by omega);simp only [List.getElem?_cons_zero, Option.some.injEq] at h0;simp only [List.getElem?_cons_succ] at ha hb;simp only [recL, h0, if_true];exact ih (fun i h => by have := hi (i + 1) (by omega); simpa using this) ha hb
  | [], _ => simp at ha
  | _ :: _, [] => simp at hb
theorem recL_end {a b : List Int} (hi : ∀ i, i < a.length → i < b.length → a[i]? = b[i]?) : recL a b = cmZ (b.length : Int) (a.length : Int) := by
 induction a generalizing b with
 | nil => cases b <;> simp [recL]
 | cons u a ih =>
  match b with
  | [] => simp [recL]
  | v :: b =>
   have h0 := hi 0 (by simp) (by simp);simp only [List.getElem?_cons_zero, Option.some.injEq] at h0;simp only [recL, h0, if_true];rw [ih (fun i h1 h2 => by have := hi (i + 1) (by simpa using h1) (by simpa using h2); simpa using this)];simp only [List.length_cons];unfold cmZ
   split <;> split <;> (try split) <;> (try split) <;> omega
theorem cmpT_at {a b : List Fact} {k : Nat} {x y : Fact} (hi : ∀ i, i < k → ∀ u v, a[i]? = some u → b[i]? = some v → cmpF u v = 0) (ha : a[k]? = some x) (hb : b[k]? = some y) (hne : cmpF x y ≠ 0) : cmpF x y = cmpT a b := (listC_at hi ha hb hne).symm
theorem cmpT_end {a b : List Fact} (hi : ∀ i, i < a.length → i < b.length → ∀ u v, a[i]? = some u → b[i]? = some v → cmpF u v = 0) : cmZ (a.length : Int) (b.length : Int) = cmpT a b :=
 (listC_end (fun i u v hu hv => hi i (lS hu) (lS hv) u v hu hv)).symm
def cmpC (a b : Choice) : Int := lexC (fun a b : Choice => cmZ b.Priority a.Priority) (lexC (fun a b => recL (fallL a.Times) (fallL b.Times)) (lexC (fun a b => cmZ b.Specific a.Specific) (lexC (fun a b => cmZ a.Order b.Order) (fun a b => cmpT a.Match.Facts b.Match.Facts)))) a b
theorem cmpC_cmpr : Cmpr cmpC :=
 (cmZ_cmpr.flip.pull Choice.Priority).lex ((recL_cmpr.pull (fun c : Choice => fallL c.Times)).lex ((cmZ_cmpr.flip.pull Choice.Specific).lex ((cmZ_cmpr.pull Choice.Order).lex (cmpF_cmpr.list.pull (fun c : Choice => c.Match.Facts)))))
abbrev ltC (a b : Choice) : Bool := decide (cmpC a b < 0)
theorem cmpr_ordr {α : Type} {c : α → α → Int} (h : Cmpr c) : Ordr (fun a b => decide (c a b < 0)) where
 asym x y h1 := by
  have := h.anti x y;simp only [decide_eq_true_eq] at h1;simp only [decide_eq_false_iff_not]; omega
 trans x y z h1 h2 := by
  simp only [decide_eq_false_iff_not] at h1 h2 ⊢;have a1 := h.anti x y;have a2 := h.anti y z;have a3 := h.anti x z;have := h.le x y z (by omega) (by omega);omega
theorem ordC : Ordr ltC := cmpr_ordr cmpC_cmpr
theorem ordr_pull {α β : Type} {lt : α → α → Bool} (h : Ordr lt) (f : β → α) : Ordr (fun a b => lt (f a) (f b)) := ⟨fun _ _ => h.asym _ _, fun _ _ _ => h.trans _ _ _⟩
def sortC (l : List Choice) : List Choice := sortG ltC l
theorem sortC_len (l : List Choice) : (sortC l).length = l.length := sortG_len _ l
theorem sortC_perm (l : List Choice) : List.Perm (sortC l) l := sortG_perm _ l
instance : Inhabited Choice := ⟨⟨⟨⟨#[]⟩, [], []⟩, 0, [], 0, 0⟩⟩
theorem A_atC {d : List Choice} {i : Int} {x : Choice} (h : d[i.toNat]? = some x) : A d i.toNat = x := A_of h
theorem cmZ_ne {x y : Int} (h : x ≠ y) : cmZ x y ≠ 0 := by unfold cmZ; split <;> (try split) <;> omega
theorem cmZ_self (x : Int) : cmZ x x = 0 := by unfold cmZ; simp
theorem cmpC1 {a b : Choice} (h : a.Priority ≠ b.Priority) : cmZ b.Priority a.Priority = cmpC a b := by
 unfold cmpC lexC; dsimp only; rw [if_neg (cmZ_ne (Ne.symm h))]
theorem cmpC2 {a b : Choice} (h : a.Priority = b.Priority) (h2 : recL (fallL a.Times) (fallL b.Times) ≠ 0) : recL (fallL a.Times) (fallL b.Times) = cmpC a b := by
 unfold cmpC lexC; simp only [h, cmZ_self, if_true, if_neg h2]
theorem cmpC3 {a b : Choice} (h : a.Priority = b.Priority) (h2 : recL (fallL a.Times) (fallL b.Times) = 0) (h3 : a.Specific ≠ b.Specific) : cmZ b.Specific a.Specific = cmpC a b := by
 unfold cmpC lexC; simp only [h, cmZ_self, h2, if_true, if_neg (cmZ_ne (Ne.symm h3))]
theorem cmpC4 {a b : Choice} (h : a.Priority = b.Priority) (h2 : recL (fallL a.Times) (fallL b.Times) = 0) (h3 : a.Specific = b.Specific) (h4 : a.Order ≠ b.Order) : cmZ a.Order b.Order = cmpC a b := by
 unfold cmpC lexC; simp only [h, cmZ_self, h2, h3, if_true, if_neg (cmZ_ne h4)]
theorem cmpC5 {a b : Choice} (h : a.Priority = b.Priority) (h2 : recL (fallL a.Times) (fallL b.Times) = 0) (h3 : a.Specific = b.Specific) (h4 : a.Order = b.Order) : cmpT a.Match.Facts b.Match.Facts = cmpC a b := by
 unfold cmpC lexC; simp only [h, cmZ_self, h2, h3, h4, if_true]
theorem recL_z {a b : List Int} (hi : ∀ i, i < a.length → i < b.length → a[i]? = b[i]?) (hl : a.length = b.length) : recL a b = 0 := by
 rw [recL_end hi]; unfold cmZ; simp [hl]
theorem cmpC2a {a b : Choice} {k : Nat} {x y : Int} (h : a.Priority = b.Priority) (hi : ∀ i, i < k → (fallL a.Times)[i]? = (fallL b.Times)[i]?) (hx : (fallL a.Times)[k]? = some x) (hy : (fallL b.Times)[k]? = some y) (hne : x ≠ y) : cmZ y x = cmpC a b := by
 have e := recL_at hi hx hy hne;rw [← cmpC2 h (by rw [e]; exact cmZ_ne (Ne.symm hne)), e]
theorem cmpC2b {a b : Choice} (h : a.Priority = b.Priority) (hi : ∀ i, i < (fallL a.Times).length → i < (fallL b.Times).length → (fallL a.Times)[i]? = (fallL b.Times)[i]?) (hne : (fallL a.Times).length ≠ (fallL b.Times).length) : cmZ ((fallL b.Times).length : Int) ((fallL a.Times).length : Int) = cmpC a b := by
 have e := recL_end hi;rw [← cmpC2 h (by rw [e]; exact cmZ_ne (by omega)), e]
abbrev fourC (a b : Choice) : List Int := [cmZ b.Priority a.Priority, recL (fallL a.Times) (fallL b.Times), cmZ b.Specific a.Specific, cmZ a.Order b.Order]
theorem cmpC_l {a b : Choice} {k : Nat} {x : Int} (hx : [cmZ b.Priority a.Priority, recL (fallL a.Times) (fallL b.Times), cmZ b.Specific a.Specific, cmZ a.Order b.Order][k]? = some x) (hi : ∀ i, i < k → ∀ y, [cmZ b.Priority a.Priority, recL (fallL a.Times) (fallL b.Times), cmZ b.Specific a.Specific, cmZ a.Order b.Order][i]? = some y → y = 0) (hne : x ≠ 0) : x = cmpC a b := by
 unfold cmpC lexC
 match k, hx with
 | 0, hx => simp at hx; subst hx; simp [hne]
 | 1, hx => simp at hx; subst hx; have h0 := hi 0 (by omega) _ rfl; simp [h0, hne]
 | 2, hx => simp at hx; subst hx; have h0 := hi 0 (by omega) _ rfl; have h1 := hi 1 (by omega) _ rfl; simp [h0, h1, hne]
 | 3, hx => simp at hx; subst hx; have h0 := hi 0 (by omega) _ rfl; have h1 := hi 1 (by omega) _ rfl; have h2 := hi 2 (by omega) _ rfl; simp [h0, h1, h2, hne]
 | k + 4, hx => simp at hx
theorem cmpC_e {a b : Choice} (hi : ∀ i, i < 4 → ∀ y, [cmZ b.Priority a.Priority, recL (fallL a.Times) (fallL b.Times), cmZ b.Specific a.Specific, cmZ a.Order b.Order][i]? = some y → y = 0) : cmpT a.Match.Facts b.Match.Facts = cmpC a b := by
 have h0 := hi 0 (by omega) _ rfl;have h1 := hi 1 (by omega) _ rfl;have h2 := hi 2 (by omega) _ rfl;have h3 := hi 3 (by omega) _ rfl;unfold cmpC lexC;simp [h0, h1, h2, h3]
theorem sortC_zero (l : List Choice) : [] = sortC (l.take 0) := rfl
theorem sortC_s {l : List Choice} {i k : Nat} {x : Choice} (h : l[i]? = some x) (hk : k ≤ i) (hi : ∀ p, k ≤ p → ∀ y, (sortC (l.take i))[p]? = some y → 0 < cmpC y x) (he : k = 0 ∨ ∃ y, (shG (sortC (l.take i)) x k)[k - 1]? = some y ∧ ¬ 0 < cmpC y x) : (shG (sortC (l.take i)) x k).set k x = sortC (l.take (i + 1)) := by
 have hl : (sortC (l.take i)).length = i := by rw [sortC_len, List.length_take]; have := lS h; omega
 unfold sortC at *;rw [shG_ins (lt := ltC) ordC.asym ordC.trans (sortG_pw ordC.asym ordC.trans _) (by omega) (fun p hp y hy => by have := hi p hp y hy; have := cmpC_cmpr.anti x y; simp only [ltC, decide_eq_true_eq]; omega) (by
  rcases he with he | ⟨y, h1, h2⟩
  ·exact .inl he
  ·exact .inr ⟨y, h1, by have := cmpC_cmpr.anti x y; simp only [ltC, decide_eq_false_iff_not]; omega⟩)]
 exact sortG_s h
theorem sortC_done {l : List Choice} {k : Nat} (h : l.length ≤ k) : sortC (l.take k) = sortC l := by rw [List.take_of_length_le h]
theorem shG_mem {α : Type} {s : List α} {x y : α} {k : Nat} (h : y ∈ shG s x k) : y = x ∨ y ∈ s := by
 unfold shG at h
 rcases List.mem_append.1 h with h | h
 ·exact .inr (List.mem_of_mem_take h)
 ·rcases List.mem_cons.1 h with h | h
  ·cases e : s[k]? with
   | none => rw [e] at h; exact .inl h
   | some z => rw [e] at h; simp only [Option.getD_some] at h; rw [h]; exact .inr (List.mem_of_getElem? e)
  ·exact .inr (List.mem_of_mem_drop h)
theorem shC_mem {l : List Choice} {i k j : Nat} {x y : Choice} (hx : l[i]? = some x) (hy : (shG (sortC (l.take i)) x k)[j]? = some y) : y ∈ l := by
 rcases shG_mem (List.mem_of_getElem? hy) with h | h
 ·rw [h]; exact List.mem_of_getElem? hx
 ·exact List.mem_of_mem_take ((sortC_perm _).mem_iff.1 h)
def fCc (k : Int) (c : Choice) : Choice := ⟨⟨markS k, mkFa (k + 1) c.Match.Facts, mkPa (k + 1 + sumC cFa c.Match.Facts) c.Match.Binding⟩, k + 1 + sumC cFa c.Match.Facts + sumC cPa c.Match.Binding, mkI (k + 1 + sumC cFa c.Match.Facts + sumC cPa c.Match.Binding + 1) c.Times,
 k + 1 + sumC cFa c.Match.Facts + sumC cPa c.Match.Binding + 1 + c.Times.length, k + 1 + sumC cFa c.Match.Facts + sumC cPa c.Match.Binding + 1 + c.Times.length + 1⟩
def cCc (c : Choice) : Nat := 4 + sumC cFa c.Match.Facts + sumC cPa c.Match.Binding + c.Times.length
theorem cCc_f (k : Int) (x : Choice) : cCc (fCc k x) = cCc x := by simp only [cCc, fCc, sumC_mapS cFa_f, sumC_mapS cPa_f, mapS_len]
theorem fCc_f (k : Int) (x : Choice) : fCc k (fCc k x) = fCc k x := by simp only [fCc, sumC_mapS cFa_f, sumC_mapS cPa_f, mapS_len, mapS_idem fFa_f cFa_f, mapS_idem fPa_f cPa_f, mkI_idem2]
abbrev mkCc (k : Int) (l : List Choice) : List Choice := mapS fCc cCc k l
theorem cCc_le (c : Choice) : cCc c ≤ 4 + 4 * szChoice c := by
 have h1 := cFa_sum c.Match.Facts;have h2 := cPa_sum c.Match.Binding;unfold cCc szChoice szMatch; omega
theorem cCc_mk (k : Int) (l : List Choice) : sumC cCc (mkCc k l) = sumC cCc l := sumC_mapS cCc_f l k
theorem mkCc_idem (k : Int) (l : List Choice) : mkCc k l = mkCc k (mkCc k l) := (mapS_idem fCc_f cCc_f l k).symm
theorem sort_mem {l : List Choice} {x : Choice} : x ∈ sortC l ↔ x ∈ l := (sortC_perm l).mem_iff
end Go.Sy
