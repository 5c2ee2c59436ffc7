/-
  Patterns met by facts: bindings, conditions, tokens, matches.
  Conditions: those that each theorem states.
-/
import Derived.Test.YtobihkjhlopggaaGreatDoorCho
import Derived.Test.YtobihkjhlopggaaGreatDoorChs
namespace Go.Sy
open Go
def bindAt (b : List Pair) (k : Nat) : Bool := match b[k]? with
 | none => false
 | some x => isVarB x.Var && (isAtomB x.Value && (decide (k = 0) || (match b[k - 1]? with | none => false | some p => ltS p.Var x.Var)))
def isBindB (b : List Pair) : Bool := decide (b.length ≤ 6) && (List.range b.length).all (bindAt b)
theorem bindAt_0 {b : List Pair} {k : Nat} {x : Pair} (h : b[k]? = some x) (h1 : isVarB x.Var = true) (h2 : isAtomB x.Value = true) (hk : k = 0) : bindAt b k = true := by subst hk; simp [bindAt, h, h1, h2]
theorem bindAt_s {b : List Pair} {k j : Nat} {x p : Pair} (h : b[k]? = some x) (hp : b[j]? = some p) (hj : j = k - 1) (h1 : isVarB x.Var = true) (h2 : isAtomB x.Value = true) (hc : ltS p.Var x.Var = true) : bindAt b k = true := by subst hj; simp [bindAt, h, h1, h2, hp, hc]
theorem bindAt_f1 {b : List Pair} {k : Nat} {x : Pair} (h : b[k]? = some x) (h1 : isVarB x.Var = false) : bindAt b k = false := by simp [bindAt, h, h1]
theorem bindAt_f2 {b : List Pair} {k : Nat} {x : Pair} (h : b[k]? = some x) (h1 : isAtomB x.Value = false) : bindAt b k = false := by simp [bindAt, h, h1]
theorem bindAt_f3 {b : List Pair} {k j : Nat} {x p : Pair} (h : b[k]? = some x) (hp : b[j]? = some p) (hj : j = k - 1 ∧ 0 < k) (hc : ltS p.Var x.Var = false) : bindAt b k = false := by
 obtain ⟨rfl, hk⟩ := hj;have : k ≠ 0 := by omega
 simp [bindAt, h, hp, hc, this]
theorem bnd_n1 {b : List Pair} (h : ¬ b.length ≤ 6) : false = isBindB b := by unfold isBindB; rw [decide_eq_false h]; rfl
theorem bnd_n2 {b : List Pair} {k : Nat} (hk : k < b.length) (h : bindAt b k = false) : false = isBindB b := by
 unfold isBindB;have : (List.range b.length).all (bindAt b) = false := by rw [List.all_eq_false]; exact ⟨k, by simpa using hk, by rw [h]; simp⟩
 rw [this]; simp
theorem bnd_all {b : List Pair} (hi : ∀ i, i < b.length → bindAt b i = true) : decide (b.length ≤ 6) = isBindB b := by
 unfold isBindB;have : (List.range b.length).all (bindAt b) = true := by rw [List.all_eq_true]; intro i h; exact hi i (by simpa using h)
 rw [this]; simp
theorem bnd_y {b : List Pair} (h : b.length ≤ 6) (hi : ∀ i, i < b.length → bindAt b i = true) : true = isBindB b := by rw [← bnd_all hi, decide_eq_true h]
theorem bnd_z {b : List Pair} (hi : ∀ i, i < b.length → bindAt b i = true) : decide ((b.length : Int) ≤ 6) = isBindB b := by rw [← bnd_all hi, Bool.eq_iff_iff]; simp; omega
theorem bnd_len {b : List Pair} (h : isBindB b = true) : b.length ≤ 6 := by unfold isBindB at h; simp only [Bool.and_eq_true, decide_eq_true_eq] at h; exact h.1
def valO (b : List Pair) (t : ByteArray) : Option ByteArray := if isAtomB t = true then some t else if isVarB t = true then (b.find? (fun x => decide (x.Var = t))).map (·.Value) else none
def valT (b : List Pair) (t : ByteArray) : ByteArray := (valO b t).getD ⟨#[]⟩
def valB (b : List Pair) (t : ByteArray) : Bool := (valO b t).isSome
theorem val_a {b : List Pair} {t : ByteArray} (h : isAtomB t = true) : t = valT b t ∧ true = valB b t := by simp [valT, valB, valO, h]
theorem find_at {α : Type} {p : α → Bool} {l : List α} {k : Nat} {x : α} (hx : l[k]? = some x) (hp : p x = true) (hi : ∀ i, i < k → ∀ y, l[i]? = some y → p y = false) : l.find? p = some x := by
 have hk := lS hx;rw [List.find?_eq_some_iff_getElem];refine ⟨hp, k, hk, by rw [List.getElem?_eq_getElem hk] at hx; exact Option.some.inj hx, fun j hj => ?_⟩;rw [hi j hj _ (List.getElem?_eq_getElem (by omega))]; rfl
theorem find_no {α : Type} {p : α → Bool} {l : List α} (hi : ∀ i, i < l.length → ∀ y, l[i]? = some y → p y = false) : l.find? p = none := by
 rw [List.find?_eq_none];intro x hx;obtain ⟨k, hk, rfl⟩ := List.getElem_of_mem hx;rw [hi k hk _ (List.getElem?_eq_getElem hk)]; simp
theorem val_v {b : List Pair} {t : ByteArray} {k : Nat} {x : Pair} (ha : isAtomB t = false) (hv : isVarB t = true) (hx : b[k]? = some x) (he : x.Var = t) (hi : ∀ i, i < k → ∀ y, b[i]? = some y → y.Var ≠ t) : x.Value = valT b t ∧ true = valB b t := by
 have : b.find? (fun x => decide (x.Var = t)) = some x := find_at hx (by simp [he]) (fun i h y hy => by simp [hi i h y hy]);simp [valT, valB, valO, ha, hv, this]
theorem val_n {b : List Pair} {t : ByteArray} (ha : isAtomB t = false) (hi : isVarB t = false ∨ ∀ i, i < b.length → ∀ y, b[i]? = some y → y.Var ≠ t) : ⟨#[]⟩ = valT b t ∧ false = valB b t := by
 by_cases hv : isVarB t = true
 ·have h2 := hi.resolve_left (by rw [hv]; simp);have : b.find? (fun x => decide (x.Var = t)) = none := find_no (fun i h y hy => by simp [h2 i h y hy]);simp [valT, valB, valO, ha, this]
 ·simp [valT, valB, valO, ha, hv]
theorem val_w {b : List Pair} {t : ByteArray} {k : Nat} {x : Pair} (ha : isAtomB t = false) (hv : isVarB t = true) (hx : b[k]? = some x) (he : x.Var = t) (hi : ∀ i, i < k → ∀ y, b[i]? = some y → ¬ (y.Var = t ∧ isVarB t = true)) : x.Value = valT b t ∧ true = valB b t := val_v ha hv hx he (fun i h y hy e => hi i h y hy ⟨e, hv⟩)
theorem val_m {b : List Pair} {t : ByteArray} (ha : isAtomB t = false) (hi : isVarB t = false ∨ ∀ i, i < b.length → ∀ y, b[i]? = some y → ¬ (y.Var = t ∧ isVarB t = true)) : ⟨#[]⟩ = valT b t ∧ false = valB b t := val_n ha (by
 by_cases hv : isVarB t = true
 ·exact .inr fun i h y hy e => (hi.resolve_left (by rw [hv]; simp)) i h y hy ⟨e, hv⟩
 ·exact .inl (by simpa using hv))
def insS {α : Type} (p : α → Bool) (s : α) (q : List α × Bool) (x : α) : List α × Bool := (if (!q.2 && p x) = true then q.1 ++ [s] ++ [x] else q.1 ++ [x], q.2 || p x)
def insK {α : Type} (p : α → Bool) (s : α) (l : List α) (k : Nat) : List α × Bool := (l.take k).foldl (insS p s) ([], false)
section
variable {α : Type} {p : α → Bool} {s x : α} {l : List α} {k : Nat}
theorem insK_s (h : l[k]? = some x) : insK p s l (k + 1) = insS p s (insK p s l k) x := by
 unfold insK;rw [take_snoc h, List.foldl_append]; rfl
theorem insK_z (p : α → Bool) (s : α) (l : List α) : [] = (insK p s l 0).1 := by simp [insK]
theorem insK_put (h : l[k]? = some x) (hd : (insK p s l k).2 = false) (hc : p x = true) : (insK p s l k).1 ++ [s] ++ [x] = (insK p s l (k + 1)).1 := by rw [insK_s h]; simp [insS, hd, hc]
theorem insK_k1 (h : l[k]? = some x) (hc : p x = false) : (insK p s l k).1 ++ [x] = (insK p s l (k + 1)).1 := by rw [insK_s h]; simp [insS, hc]
theorem insK_k2 (h : l[k]? = some x) (hd : (insK p s l k).2 = true) : (insK p s l k).1 ++ [x] = (insK p s l (k + 1)).1 := by rw [insK_s h]; simp [insS, hd]
theorem insK_d1 (h : l[k]? = some x) (hc : p x = true) : true = (insK p s l (k + 1)).2 := by rw [insK_s h]; simp [insS, hc]
theorem insK_dk1 {b : Bool} (h : l[k]? = some x) (hd : b = (insK p s l k).2) (hb : b = true) : b = (insK p s l (k + 1)).2 := by rw [hb, insK_s h]; simp [insS, hd.symm.trans hb]
theorem insK_dk2 {b : Bool} (h : l[k]? = some x) (hd : b = (insK p s l k).2) (hb : b = false) (hc : p x = false) : b = (insK p s l (k + 1)).2 := by rw [hb, insK_s h]; simp [insS, hd.symm.trans hb, hc]
theorem insS_len (p : α → Bool) (s : α) : ∀ (l : List α) (q : List α × Bool), (l.foldl (insS p s) q).1.length ≤ q.1.length + 2 * l.length
 | [], q => by simp
 | x :: l, q => by
  have ih := insS_len p s l (insS p s q x);have h1 : (insS p s q x).1.length ≤ q.1.length + 2 := by
   unfold insS;simp only
   split <;> simp
  simp only [List.foldl_cons, List.length_cons];omega
theorem insK_len (p : α → Bool) (s : α) (l : List α) (k : Nat) : (insK p s l k).1.length ≤ 2 * k := by
 have := insS_len p s (l.take k) ([], false);have h2 : (l.take k).length ≤ k := by rw [List.length_take]; omega
 unfold insK;simp only [List.length_nil] at this;omega
def insL (p : α → Bool) (s : α) (l : List α) : List α := if (insK p s l l.length).2 = true then (insK p s l l.length).1 else (insK p s l l.length).1 ++ [s]
theorem insL_t (h1 : k ≤ l.length) (h2 : l.length ≤ k) (hd : (insK p s l k).2 = true) : (insK p s l k).1 = insL p s l := by
 have e : k = l.length := by omega
 subst e;simp [insL, hd]
theorem insL_f (h1 : k ≤ l.length) (h2 : l.length ≤ k) (hd : (insK p s l k).2 = false) : (insK p s l k).1 ++ [s] = insL p s l := by
 have e : k = l.length := by omega
 subst e;simp [insL, hd]
theorem insL_len (p : α → Bool) (s : α) (l : List α) : (insL p s l).length ≤ 2 * l.length + 1 := by
 have := insK_len p s l l.length;unfold insL; split <;> simp <;> omega
end
abbrev gtV (v : ByteArray) (y : Pair) : Bool := !(ltS y.Var v || decide (y.Var = v))
def setP (b : List Pair) (v x : ByteArray) : List Pair := insL (gtV v) ⟨v, x⟩ b
def extO (b : List Pair) (v x : ByteArray) : Option (List Pair) :=
 if (isBindB b && isVarB v && isAtomB x) = true then (if valB b v = true then (if valT b v = x then some b else none) else if b.length = 6 then none else some (setP b v x)) else none
def extT (b : List Pair) (v x : ByteArray) : List Pair := (extO b v x).getD []
def extB (b : List Pair) (v x : ByteArray) : Bool := (extO b v x).isSome
theorem ext_n1 {b : List Pair} {v x : ByteArray} (h : isBindB b = false ∨ isVarB v = false ∨ isAtomB x = false) : [] = extT b v x ∧ false = extB b v x := by
 have : extO b v x = none := by unfold extO; rcases h with h | h | h <;> simp [h]
 simp [extT, extB, this]
theorem ext_s {b : List Pair} {v x : ByteArray} (h1 : isBindB b = true) (h2 : isVarB v = true) (h3 : isAtomB x = true) (hv : valB b v = true) (he : valT b v = x) : b = extT b v x ∧ true = extB b v x := by
 have : extO b v x = some b := by unfold extO; simp [h1, h2, h3, hv, he]
 simp [extT, extB, this]
theorem ext_d {b : List Pair} {v x : ByteArray} (hv : valB b v = true) (he : valT b v ≠ x) : [] = extT b v x ∧ false = extB b v x := by
 have : extO b v x = none := by unfold extO; simp [hv, he]
 simp [extT, extB, this]
theorem ext_l {b : List Pair} {v x : ByteArray} (hv : valB b v = false) (he : 6 ≤ b.length) : [] = extT b v x ∧ false = extB b v x := by
 have : extO b v x = none := by
  unfold extO
  split
  ·rename_i h;simp only [Bool.and_eq_true] at h;have := bnd_len h.1.1;have e : b.length = 6 := by omega
   simp [hv, e]
  ·rfl
 simp [extT, extB, this]
theorem ext_p {b : List Pair} {v x : ByteArray} (h1 : isBindB b = true) (h2 : isVarB v = true) (h3 : isAtomB x = true) (hv : valB b v = false) (he : b.length ≠ 6) : setP b v x = extT b v x ∧ true = extB b v x := by
 have : extO b v x = some (setP b v x) := by unfold extO; simp [h1, h2, h3, hv, he]
 simp [extT, extB, this]
theorem extT_len {b : List Pair} {v x : ByteArray} : (extT b v x).length ≤ 13 := by
 unfold extT extO
 split
 ·rename_i h;simp only [Bool.and_eq_true] at h;have := bnd_len h.1.1
  split
  ·split <;> simp <;> omega
  ·split
   ·simp
   ·simp only [Option.getD_some]; have := insL_len (gtV v) ⟨v, x⟩ b; unfold setP; omega
 ·simp
theorem insS_mem {α : Type} {p : α → Bool} {s y : α} : ∀ (l : List α) (q : List α × Bool), y ∈ (l.foldl (insS p s) q).1 → y ∈ q.1 ∨ y = s ∨ y ∈ l
 | [], q, h => .inl h
 | x :: l, q, h => by
  have ih := insS_mem l (insS p s q x) h
  rcases ih with h1 | h1 | h1
  ·unfold insS at h1;simp only at h1
   split at h1
   ·simp only [List.mem_append, List.mem_singleton] at h1
    rcases h1 with (h1 | h1) | h1
    ·exact .inl h1
    ·exact .inr (.inl h1)
    ·exact .inr (.inr (by simp [h1]))
   ·simp only [List.mem_append, List.mem_singleton] at h1
    rcases h1 with h1 | h1
    ·exact .inl h1
    ·exact .inr (.inr (by simp [h1]))
  ·exact .inr (.inl h1)
  ·exact .inr (.inr (by simp [h1]))
theorem insL_mem {α : Type} {p : α → Bool} {s y : α} {l : List α} (h : y ∈ insL p s l) : y = s ∨ y ∈ l := by
 have key : y ∈ (insK p s l l.length).1 → y = s ∨ y ∈ l := fun h => by
  unfold insK at h
  rcases insS_mem _ _ h with h1 | h1 | h1
  ·simp at h1
  ·exact .inl h1
  ·exact .inr (List.mem_of_mem_take h1)
 unfold insL at h
 split at h
 ·exact key h
 ·simp only [List.mem_append, List.mem_singleton] at h
  rcases h with h | h
  ·exact key h
  ·exact .inl h
theorem extT_ok {b : List Pair} {v x : ByteArray} (h : okL okPair b) (hv : okS v) (hx : okS x) : okL okPair (extT b v x) := fun p hp => by
 unfold extT extO at hp
 split at hp
 ·split at hp
  ·split at hp
   ·exact h p hp
   ·simp at hp
  ·split at hp
   ·simp at hp
   ·simp only [Option.getD_some] at hp
    rcases insL_mem hp with h1 | h1
    ·subst h1; exact ⟨hv, hx⟩
    ·exact h p h1
 ·simp at hp
def matS (o : Option (List Pair)) (q : ByteArray × ByteArray) : Option (List Pair) := o.bind fun b => if isAtomB q.1 = true then (if q.1 = q.2 then some b else none) else extO b q.1 q.2
def matK (p : Pattern) (f : Fact) (b : List Pair) (k : Nat) : Option (List Pair) := ((p.Args.zip f.Args).take k).foldl matS (some b)
def matG (p : Pattern) (f : Fact) (b : List Pair) : Bool := isPatternB p && isFactB f && isBindB b && decide (p.Rel = f.Rel) && decide (p.Args.length = f.Args.length)
def matO (p : Pattern) (f : Fact) (b : List Pair) : Option (List Pair) := if matG p f b = true then matK p f b p.Args.length else none
def matT (p : Pattern) (f : Fact) (b : List Pair) : List Pair := (matO p f b).getD []
def matB (p : Pattern) (f : Fact) (b : List Pair) : Bool := (matO p f b).isSome
theorem zip_at {α β : Type} {l : List α} {m : List β} {k : Nat} {x : α} {y : β} (hx : l[k]? = some x) (hy : m[k]? = some y) : (l.zip m)[k]? = some (x, y) := by
 rw [List.getElem?_zip_eq_some]; exact ⟨hx, hy⟩
theorem matK_s {p : Pattern} {f : Fact} {b : List Pair} {k : Nat} {x y : ByteArray} (hx : p.Args[k]? = some x) (hy : f.Args[k]? = some y) : matK p f b (k + 1) = matS (matK p f b k) (x, y) := by
 unfold matK;rw [take_snoc (zip_at hx hy), List.foldl_append]; rfl
theorem matS_none : ∀ (l : List (ByteArray × ByteArray)), l.foldl matS none = none
 | [] => rfl
 | _ :: l => matS_none l
theorem matK_none {p : Pattern} {f : Fact} {b : List Pair} {k n : Nat} (h : matK p f b k = none) (hk : k ≤ n) : matK p f b n = none := by
 unfold matK at *;have : (p.Args.zip f.Args).take n = (p.Args.zip f.Args).take k ++ ((p.Args.zip f.Args).take n).drop k := by
  have h1 := List.take_append_drop k ((p.Args.zip f.Args).take n);rw [List.take_take, Nat.min_eq_left hk] at h1;exact h1.symm
 rw [this, List.foldl_append, h, matS_none]
theorem mat_n {p : Pattern} {f : Fact} {b : List Pair} (h : matG p f b = false) : [] = matT p f b ∧ false = matB p f b := by simp [matT, matB, matO, h]
theorem matG_n {p : Pattern} {f : Fact} {b : List Pair} (h : isPatternB p = false ∨ isFactB f = false ∨ isBindB b = false ∨ p.Rel ≠ f.Rel ∨ p.Args.length ≠ f.Args.length) : matG p f b = false := by
 unfold matG; rcases h with h | h | h | h | h <;> simp [h]
theorem matG_y {p : Pattern} {f : Fact} {b : List Pair} (h1 : isPatternB p = true) (h2 : isFactB f = true) (h3 : isBindB b = true) (h4 : p.Rel = f.Rel) (h5 : p.Args.length = f.Args.length) : matG p f b = true := by simp [matG, h1, h2, h3, h4, h5]
theorem matG_len {p : Pattern} {f : Fact} {b : List Pair} (h : matG p f b = true) : p.Args.length = f.Args.length := by
 unfold matG at h;simp only [Bool.and_eq_true, decide_eq_true_eq] at h;exact h.2
theorem mat_f {p : Pattern} {f : Fact} {b : List Pair} {k : Nat} (hk : k < p.Args.length) (h : matK p f b (k + 1) = none) : [] = matT p f b ∧ false = matB p f b := by
 have h2 := matK_none h (n := p.Args.length) (by omega);have : matO p f b = none := by unfold matO; split <;> simp [h2]
 simp [matT, matB, this]
theorem mat_y {p : Pattern} {f : Fact} {b c : List Pair} {k : Nat} (hg : matG p f b = true) (hk : k ≤ p.Args.length ∧ p.Args.length ≤ k) (h : matK p f b k = some c) : c = matT p f b ∧ true = matB p f b := by
 have e : k = p.Args.length := by omega
 subst e;have : matO p f b = some c := by unfold matO; simp [hg, h]
 simp [matT, matB, this]
theorem matK_a {p : Pattern} {f : Fact} {b c : List Pair} {k : Nat} {x y : ByteArray} (h : matK p f b k = some c) (hx : p.Args[k]? = some x) (hy : f.Args[k]? = some y) (ha : isAtomB x = true) (he : x = y) : matK p f b (k + 1) = some c := by
 rw [matK_s hx hy, h]; simp [matS, ha, he, he ▸ ha]
theorem matK_an {p : Pattern} {f : Fact} {b c : List Pair} {k : Nat} {x y : ByteArray} (h : matK p f b k = some c) (hx : p.Args[k]? = some x) (hy : f.Args[k]? = some y) (ha : isAtomB x = true) (he : x ≠ y) : matK p f b (k + 1) = none := by
 rw [matK_s hx hy, h]; simp [matS, ha, he]
theorem matK_v {p : Pattern} {f : Fact} {b c : List Pair} {k : Nat} {x y : ByteArray} (h : matK p f b k = some c) (hx : p.Args[k]? = some x) (hy : f.Args[k]? = some y) (ha : isAtomB x = false) (he : extB c x y = true) : matK p f b (k + 1) = some (extT c x y) := by
 rw [matK_s hx hy, h];unfold extB at he;obtain ⟨d, hd⟩ := Option.isSome_iff_exists.1 he;simp [matS, ha, extT, hd]
theorem matK_vn {p : Pattern} {f : Fact} {b c : List Pair} {k : Nat} {x y : ByteArray} (h : matK p f b k = some c) (hx : p.Args[k]? = some x) (hy : f.Args[k]? = some y) (ha : isAtomB x = false) (he : extB c x y = false) : matK p f b (k + 1) = none := by
 rw [matK_s hx hy, h];unfold extB at he;have : extO c x y = none := by simpa using he
 simp [matS, ha, this]
def holdTB (x : Cond) (b : List Pair) : Bool := isTestB x && isBindB b && (valB b x.Left && valB b x.Right) &&
 (if x.Kind = 3 then decide (valT b x.Left = valT b x.Right) else if x.Kind = 4 then decide (valT b x.Left ≠ valT b x.Right) else pO (valT b x.Left) && pO (valT b x.Right) && decide (pI (valT b x.Left) < pI (valT b x.Right)))
def mfL (p : Pattern) (b : List Pair) (facts : List Fact) : List Fact := facts.filter (fun f => matB p f b)
def holdB (x : Cond) (b : List Pair) (facts : List Fact) : Bool := isCondB x && isBindB b && (if x.Kind = 1 then decide (0 < (mfL x.Pattern b facts).length) else if x.Kind = 2 then decide ((mfL x.Pattern b facts).length = 0) else holdTB x b)
def tokH (x : Cond) (t : Token) (f : Fact) : Option Token := (matO x.Pattern f t.Binding).map fun b => ⟨t.Facts ++ [f], b⟩
def tokN (x : Cond) (facts : List Fact) (t : Token) : List Token := if x.Kind ≠ 1 then (if holdB x t.Binding facts = true then [t] else []) else facts.filterMap (tokH x t)
def nextT (x : Cond) (facts : List Fact) (l : List Token) : List Token := l.flatMap (tokN x facts)
def tokT (conds : List Cond) (facts : List Fact) : List Token := conds.foldl (fun l x => nextT x facts l) [⟨[], []⟩]
def matR (facts : List Fact) (r : Rule) : List Match := (tokT r.If facts).map fun t => ⟨r.Name, t.Facts, t.Binding⟩
def allM (rules : List Rule) (facts : List Fact) : List Match := rules.flatMap (matR facts)
def freshK (rules : List Rule) (l : List Stamp) (fired : List Firing) (m : Match) : Option Choice := if hasF fired m.Rule (timesOf l m.Facts) = true then none else some (choV rules l m)
def freshL (rules : List Rule) (l : List Stamp) (fired : List Firing) : List Choice := if (areRulesB rules && isMemB l) = true then sortC ((allM rules (l.map Stamp.Fact)).filterMap (freshK rules l fired)) else []
end Go.Sy
namespace Go.Sy
open Go
section
variable {α β : Type}
theorem flatMap_s {g : α → List β} {l : List α} {k : Nat} {x : α} (h : l[k]? = some x) : (l.take k).flatMap g ++ g x = (l.take (k + 1)).flatMap g := by
 rw [take_snoc h, List.flatMap_append]; simp
theorem flatMap_z (g : α → List β) (l : List α) : [] = (l.take 0).flatMap g := by simp
theorem flatMap_end {g : α → List β} {l : List α} {k : Nat} (h : l.length ≤ k) : (l.take k).flatMap g = l.flatMap g := by rw [List.take_of_length_le h]
theorem fmap_y {g : α → Option β} {l : List α} {k : Nat} {x : α} {y : β} (h : l[k]? = some x) (hg : g x = some y) : (l.take k).filterMap g ++ [y] = (l.take (k + 1)).filterMap g := by
 rw [take_snoc h, List.filterMap_append]; simp [hg]
theorem fmap_n {g : α → Option β} {l : List α} {k : Nat} {x : α} (h : l[k]? = some x) (hg : g x = none) : (l.take k).filterMap g = (l.take (k + 1)).filterMap g := by
 rw [take_snoc h, List.filterMap_append]; simp [hg]
theorem fmap_z (g : α → Option β) (l : List α) : [] = (l.take 0).filterMap g := by simp
theorem fmap_len (g : α → Option β) (l : List α) (k : Nat) : ((l.take k).filterMap g).length ≤ k := by
 have := List.length_filterMap_le g (l.take k);rw [List.length_take] at this; omega
theorem filt_y {p : α → Bool} {l : List α} {k : Nat} {x : α} (h : l[k]? = some x) (hp : p x = true) : (l.take k).filter p ++ [x] = (l.take (k + 1)).filter p := by
 rw [take_snoc h, List.filter_append]; simp [hp]
theorem filt_n {p : α → Bool} {l : List α} {k : Nat} {x : α} (h : l[k]? = some x) (hp : p x = false) : (l.take k).filter p = (l.take (k + 1)).filter p := by
 rw [take_snoc h, List.filter_append]; simp [hp]
theorem filt_len (p : α → Bool) (l : List α) (k : Nat) : ((l.take k).filter p).length ≤ k := by
 have := List.length_filter_le p (l.take k);rw [List.length_take] at this; omega
theorem flatMap_le {g : α → List β} {n : Nat} (h : ∀ x, (g x).length ≤ n) : ∀ l : List α, (l.flatMap g).length ≤ n * l.length
 | [] => by simp
 | x :: l => by
  have h1 := h x;have h2 := flatMap_le h l;rw [List.flatMap_cons, List.length_append, List.length_cons, Nat.mul_add]; omega
end
theorem facts_mem {l : List Fact} (h : areFactsB l = true) {f : Fact} (hf : f ∈ l) : isFactB f = true := by
 obtain ⟨k, hk, rfl⟩ := List.getElem_of_mem hf;unfold areFactsB at h;simp only [Bool.and_eq_true, List.all_eq_true, List.mem_range] at h;have := h.2 k hk;unfold factAt at this;rw [List.getElem?_eq_getElem hk] at this;simp only [Bool.and_eq_true] at this;exact this.1
theorem facts_len {l : List Fact} (h : areFactsB l = true) : l.length ≤ 24 := by
 unfold areFactsB at h;simp only [Bool.and_eq_true, decide_eq_true_eq] at h;exact h.1
theorem szFa_ok {f : Fact} (h : isFactB f = true) : szFa f ≤ 35 := by
 unfold isFactB at h;simp only [Bool.and_eq_true, decide_eq_true_eq, List.all_eq_true] at h;have h1 : f.Rel.size ≤ 8 := by
  have := h.1.1;unfold isNameB at this;simp only [Bool.and_eq_true] at this;exact (atom_sz this.1).2
 have h2 : ∀ (l : List ByteArray), (∀ x ∈ l, isAtomB x = true) → (l.map (·.size)).sum ≤ 8 * l.length := fun l => by
  induction l with
  | nil => simp
  | cons x l ih =>
   intro hx;have a := (atom_sz (hx x (by simp))).2;have b := ih (fun y hy => hx y (by simp [hy]));simp only [List.map_cons, List.sum_cons, List.length_cons]; omega
 have h3 := h2 f.Args h.2;have h4 := h.1.2;unfold szFa szSs; omega
theorem okFa_ok {f : Fact} (h : isFactB f = true) : okFa f := by
 unfold isFactB at h;simp only [Bool.and_eq_true, decide_eq_true_eq, List.all_eq_true] at h;refine ⟨?_, fun x hx => ?_⟩
 ·have := h.1.1;unfold isNameB at this;simp only [Bool.and_eq_true] at this;have := atom_sz this.1;unfold okS; omega
 ·have := atom_sz (h.2 x hx);unfold okS; omega
theorem szL_facts {l : List Fact} (h : ∀ f ∈ l, isFactB f = true) : szL szFa l ≤ 36 * l.length := by
 have : sumC szFa l ≤ 35 * l.length := by
  induction l with
  | nil => simp [sumC]
  | cons x l ih =>
   have a := szFa_ok (h x (by simp));have b := ih (fun y hy => h y (by simp [hy]));simp only [sumC, List.map_cons, List.sum_cons, List.length_cons] at *; omega
 unfold szL; omega
theorem facts_small {l : List Fact} (h : areFactsB l = true) : szL szFa l ≤ 1048576 ∧ okL okFa l ∧ l.length ≤ 24 := by
 have h1 := szL_facts (l := l) (fun f hf => facts_mem h hf);have h2 := facts_len h;exact ⟨by omega, fun f hf => okFa_ok (facts_mem h hf), h2⟩
def smB (b : List Pair) : Prop := b.length ≤ 13 ∧ ∀ p ∈ b, p.Var.size ≤ 9 ∧ p.Value.size ≤ 8
theorem smB_ok {b : List Pair} (h : smB b) : okL okPair b := fun p hp => by
 have := h.2 p hp;exact ⟨by unfold okS; omega, by unfold okS; omega⟩
theorem smB_sz {b : List Pair} (h : smB b) : szL szPair b ≤ 234 := by
 have : sumC szPair b ≤ 17 * b.length := by
  have h2 := h.2;clear h
  induction b with
  | nil => simp [sumC]
  | cons x l ih =>
   have a := h2 x (by simp);have c := ih (fun y hy => h2 y (by simp [hy]));have d : szPair x = x.Var.size + x.Value.size := rfl;simp only [sumC, List.map_cons, List.sum_cons, List.length_cons] at *; omega
 have := h.1;unfold szL; omega
theorem smB_nil : smB [] := ⟨by simp, by simp⟩
theorem var_sz {s : ByteArray} (h : isVarB s = true) : s.size ≤ 9 := by
 unfold isVarB at h;simp only [Bool.and_eq_true, decide_eq_true_eq] at h;have := (atom_sz h.2.2).2;rw [ByteArray.size_extract] at this;omega
theorem extO_sm {b c : List Pair} {v x : ByteArray} (h : smB b) (he : extO b v x = some c) : smB c := by
 unfold extO at he
 split at he
 ·rename_i hc;simp only [Bool.and_eq_true] at hc
  split at he
  ·split at he
   ·simp only [Option.some.injEq] at he; rw [← he]; exact h
   ·cases he
  ·split at he
   ·cases he
   ·simp only [Option.some.injEq] at he;subst he;refine ⟨?_, fun p hp => ?_⟩
    ·have h1 := insL_len (gtV v) ⟨v, x⟩ b;have h2 := bnd_len hc.1.1;unfold setP; omega
    ·rcases insL_mem hp with h1 | h1
     ·subst h1;exact ⟨var_sz hc.1.2, (atom_sz hc.2).2⟩
     ·exact h.2 p h1
 ·cases he
theorem matS_sm : ∀ (l : List (ByteArray × ByteArray)) {o : Option (List Pair)}, (∀ b, o = some b → smB b) → ∀ c, l.foldl matS o = some c → smB c
 | [], _, h, c, hc => h c hc
 | q :: l, o, h, c, hc => by
  refine matS_sm l (o := matS o q) (fun b hb => ?_) c hc;unfold matS at hb;rw [Option.bind_eq_some_iff] at hb;obtain ⟨a, ha, hb⟩ := hb
  split at hb
  ·split at hb
   ·simp only [Option.some.injEq] at hb; rw [← hb]; exact h a ha
   ·cases hb
  ·exact extO_sm (h a ha) hb
theorem matO_sm {p : Pattern} {f : Fact} {b c : List Pair} (h : smB b) (hm : matO p f b = some c) : smB c := by
 unfold matO at hm
 split at hm
 ·unfold matK at hm;exact matS_sm _ (fun a ha => by simp only [Option.some.injEq] at ha; rw [← ha]; exact h) c hm
 ·cases hm
theorem tokH_y {x : Cond} {t : Token} {f : Fact} (h : matB x.Pattern f t.Binding = true) : tokH x t f = some ⟨t.Facts ++ [f], matT x.Pattern f t.Binding⟩ := by
 unfold matB at h;obtain ⟨b, hb⟩ := Option.isSome_iff_exists.1 h;simp [tokH, matT, hb]
theorem tokH_n {x : Cond} {t : Token} {f : Fact} (h : matB x.Pattern f t.Binding = false) : tokH x t f = none := by
 unfold matB at h;have : matO x.Pattern f t.Binding = none := by simpa using h
 simp [tokH, this]
theorem tokI_y {A : List Token} {x : Cond} {t : Token} {facts : List Fact} {q : Nat} {f : Fact} (h : facts[q]? = some f) (hm : matB x.Pattern f t.Binding = true) : (A ++ (facts.take q).filterMap (tokH x t)) ++ [⟨t.Facts ++ [f], matT x.Pattern f t.Binding⟩] = A ++ (facts.take (q + 1)).filterMap (tokH x t) := by
 rw [← fmap_y h (tokH_y hm), List.append_assoc]
theorem tokI_n {A : List Token} {x : Cond} {t : Token} {facts : List Fact} {q : Nat} {f : Fact} (h : facts[q]? = some f) (hm : matB x.Pattern f t.Binding = false) : A ++ (facts.take q).filterMap (tokH x t) = A ++ (facts.take (q + 1)).filterMap (tokH x t) := by
 rw [← fmap_n h (tokH_n hm)]
theorem tokI_z (A : List Token) (x : Cond) (t : Token) (facts : List Fact) : A = A ++ (facts.take 0).filterMap (tokH x t) := by simp
theorem tokS_y {x : Cond} {facts : List Fact} {l : List Token} {i : Nat} {t : Token} (h : l[i]? = some t) (hk : x.Kind ≠ 1) (hh : holdB x t.Binding facts = true) : (l.take i).flatMap (tokN x facts) ++ [t] = (l.take (i + 1)).flatMap (tokN x facts) := by
 rw [← flatMap_s h]; simp [tokN, hk, hh]
theorem tokS_n {x : Cond} {facts : List Fact} {l : List Token} {i : Nat} {t : Token} (h : l[i]? = some t) (hk : x.Kind ≠ 1) (hh : holdB x t.Binding facts = false) : (l.take i).flatMap (tokN x facts) = (l.take (i + 1)).flatMap (tokN x facts) := by
 rw [← flatMap_s h]; simp [tokN, hk, hh]
theorem tokS_m {x : Cond} {facts : List Fact} {l : List Token} {i q : Nat} {t : Token} (h : l[i]? = some t) (hk : x.Kind = 1) (hq : facts.length ≤ q) : (l.take i).flatMap (tokN x facts) ++ (facts.take q).filterMap (tokH x t) = (l.take (i + 1)).flatMap (tokN x facts) := by
 rw [← flatMap_s h, List.take_of_length_le hq]; simp [tokN, hk]
theorem tokN_len {x : Cond} {facts : List Fact} (hf : facts.length ≤ 24) (t : Token) : (tokN x facts t).length ≤ 24 := by
 unfold tokN
 split
 ·split <;> simp
 ·have := List.length_filterMap_le (tokH x t) facts; omega
theorem toks_len {x : Cond} {facts : List Fact} (hf : facts.length ≤ 24) (l : List Token) (i : Nat) : ((l.take i).flatMap (tokN x facts)).length ≤ 24 * i := by
 have h1 := flatMap_le (tokN_len (x := x) hf) (l.take i);have h2 : (l.take i).length ≤ i := by rw [List.length_take]; omega
 have h3 : 24 * (l.take i).length ≤ 24 * i := Nat.mul_le_mul_left _ h2;omega
theorem tokq_len {x : Cond} {facts : List Fact} (hf : facts.length ≤ 24) (l : List Token) (i q : Nat) (t : Token) : ((l.take i).flatMap (tokN x facts) ++ (facts.take q).filterMap (tokH x t)).length ≤ 24 * i + q := by
 have h1 := toks_len (x := x) hf l i;have h2 := fmap_len (tokH x t) facts q;rw [List.length_append]; omega
def tokK (conds : List Cond) (facts : List Fact) (k : Nat) : List Token := (conds.take k).foldl (fun l x => nextT x facts l) [⟨[], []⟩]
theorem tokK_z (conds : List Cond) (facts : List Fact) : [⟨[], []⟩] = tokK conds facts 0 := rfl
theorem tokK_s {conds : List Cond} {facts : List Fact} {k : Nat} {x : Cond} (h : conds[k]? = some x) : nextT x facts (tokK conds facts k) = tokK conds facts (k + 1) := by
 unfold tokK; rw [take_snoc h, List.foldl_append]; rfl
theorem tokK_i {conds : List Cond} {facts : List Fact} {k i : Nat} {x : Cond} (h : conds[k]? = some x) (hi : (tokK conds facts k).length ≤ i) : ((tokK conds facts k).take i).flatMap (tokN x facts) = tokK conds facts (k + 1) := by
 rw [← tokK_s h, flatMap_end hi]; rfl
theorem tokK_end {conds : List Cond} {facts : List Fact} {k : Nat} (h : conds.length ≤ k) : tokK conds facts k = tokT conds facts := by unfold tokK tokT; rw [List.take_of_length_le h]
theorem nextT_len {x : Cond} {facts : List Fact} (hf : facts.length ≤ 24) (l : List Token) : (nextT x facts l).length ≤ 24 * l.length := flatMap_le (tokN_len (x := x) hf) l
theorem toksN_len {facts : List Fact} (hf : facts.length ≤ 24) : ∀ (cs : List Cond) (l : List Token), (cs.foldl (fun l x => nextT x facts l) l).length ≤ 24 ^ cs.length * l.length
 | [], l => by simp
 | x :: cs, l => by
  have h1 := toksN_len hf cs (nextT x facts l);have h2 := nextT_len (x := x) hf l;simp only [List.foldl_cons, List.length_cons];refine Nat.le_trans h1 ?_;rw [Nat.pow_succ, Nat.mul_assoc];exact Nat.mul_le_mul_left _ h2
theorem tokK_len {conds : List Cond} {facts : List Fact} (hf : facts.length ≤ 24) (hc : conds.length ≤ 4) (k : Nat) : (tokK conds facts k).length ≤ 331776 := by
 have h := toksN_len hf (conds.take k) [⟨[], []⟩];have h2 : (conds.take k).length ≤ 4 := by rw [List.length_take]; omega
 have h3 : 24 ^ (conds.take k).length ≤ 24 ^ 4 := Nat.pow_le_pow_right (by omega) h2;simp only [List.length_singleton, Nat.mul_one] at h;have h4 : (24 : Nat) ^ 4 = 331776 := rfl;unfold tokK; omega
def smT (facts : List Fact) (n : Nat) (t : Token) : Prop := (∀ f ∈ t.Facts, f ∈ facts) ∧ t.Facts.length ≤ n ∧ smB t.Binding
theorem smT_up {facts : List Fact} {n m : Nat} {t : Token} (h : smT facts n t) (hm : n ≤ m) : smT facts m t := ⟨h.1, Nat.le_trans h.2.1 hm, h.2.2⟩
theorem tokN_sm {x : Cond} {facts : List Fact} {n : Nat} {t u : Token} (ht : smT facts n t) (h : u ∈ tokN x facts t) : smT facts (n + 1) u := by
 unfold tokN at h
 split at h
 ·split at h
  ·simp only [List.mem_singleton] at h; subst h; exact smT_up ht (by omega)
  ·cases h
 ·rw [List.mem_filterMap] at h;obtain ⟨g, hg, he⟩ := h;unfold tokH at he;rw [Option.map_eq_some_iff] at he;obtain ⟨b, hb, rfl⟩ := he;refine ⟨fun f hf => ?_, by have := ht.2.1; simp; omega, matO_sm ht.2.2 hb⟩
  rcases List.mem_append.1 hf with hf | hf
  ·exact ht.1 f hf
  ·simp only [List.mem_singleton] at hf; subst hf; exact hg
theorem toksN_sm {facts : List Fact} : ∀ (cs : List Cond) (n : Nat) (l : List Token), (∀ t ∈ l, smT facts n t) → ∀ u ∈ cs.foldl (fun l x => nextT x facts l) l, smT facts (n + cs.length) u
 | [], _, _, h, u, hu => h u hu
 | x :: cs, n, l, h, u, hu => by
  have := toksN_sm cs (n + 1) (nextT x facts l) (fun t ht => by
   unfold nextT at ht;rw [List.mem_flatMap] at ht;obtain ⟨v, hv, ht⟩ := ht;exact tokN_sm (h v hv) ht) u hu
  rw [List.length_cons];exact smT_up this (by omega)
theorem tokK_sm {conds : List Cond} {facts : List Fact} (hc : conds.length ≤ 4) {k : Nat} {t : Token} (ht : t ∈ tokK conds facts k) : smT facts 4 t := by
 have h := toksN_sm (conds.take k) 0 [⟨[], []⟩] (fun t ht => by
  simp only [List.mem_singleton] at ht; subst ht;exact ⟨by simp, by simp, smB_nil⟩) t ht
 have h2 : (conds.take k).length ≤ 4 := by rw [List.length_take]; omega
 exact smT_up h (by omega)
theorem smT_sz {facts : List Fact} {t : Token} (hf : areFactsB facts = true) (h : smT facts 4 t) : szL szFa t.Facts ≤ 144 ∧ t.Binding.length ≤ 13 ∧ okL okPair t.Binding ∧ szL szPair t.Binding ≤ 234 := by
 have h1 := szL_facts (l := t.Facts) (fun f hm => facts_mem hf (h.1 f hm));have h2 := h.2.1;exact ⟨by omega, h.2.2.1, smB_ok h.2.2, smB_sz h.2.2⟩
theorem matR_s {r : Rule} {l : List Token} {k : Nat} {t : Token} (h : l[k]? = some t) : (l.take k).map (fun t => (⟨r.Name, t.Facts, t.Binding⟩ : Match)) ++ [⟨r.Name, t.Facts, t.Binding⟩] = (l.take (k + 1)).map (fun t => (⟨r.Name, t.Facts, t.Binding⟩ : Match)) := by
 rw [take_snoc h, List.map_append]; rfl
def tokV (r : Rule) (n : Int) (facts : List Fact) : List Token := if (isRuleB r && areFactsB facts && inR n 0 (r.If.length : Int)) = true then tokT (r.If.take n.toNat) facts else []
def matV (facts : List Fact) (r : Rule) : List Match := if (isRuleB r && areFactsB facts) = true then matR facts r else []
def allV2 (rules : List Rule) (facts : List Fact) : List Match := if (areRulesB rules && areFactsB facts) = true then allM rules facts else []
theorem rule_if {r : Rule} (h : isRuleB r = true) : r.If.length ≤ 4 ∧ r.Then.length ≤ 2 ∧ r.Name.size ≤ 8 := by
 unfold isRuleB inR at h;simp only [Bool.and_eq_true, decide_eq_true_eq] at h;have h0 := h.1;unfold isNameB at h0;simp only [Bool.and_eq_true] at h0;have := atom_sz h0.1;exact ⟨by omega, by omega, by omega⟩
theorem rules_mem {l : List Rule} (h : areRulesB l = true) {k : Nat} {r : Rule} (hr : l[k]? = some r) : isRuleB r = true ∧ findT l r.Name = (k : Int) := by
 unfold areRulesB at h;simp only [Bool.and_eq_true, List.all_eq_true, List.mem_range] at h;have := h.2 k (lS hr);unfold areOk at this;rw [hr] at this;simp only [Bool.and_eq_true, decide_eq_true_eq] at this;exact this
theorem rules_len {l : List Rule} (h : areRulesB l = true) : l.length ≤ 6 := by
 unfold areRulesB at h;simp only [Bool.and_eq_true, decide_eq_true_eq] at h;exact h.1
theorem cmpA_num {a b : ByteArray} (h1 : pO a = true) (h2 : pO b = true) : cmpA a b < 0 ↔ pI a < pI b := by
 unfold cmpA cmZ;rw [if_pos ⟨h1, h2⟩]
 split
 ·simp_all
 ·split <;> simp_all
theorem inR_nn {n m : Int} (h : inR n 0 m = true) : 0 ≤ n ∧ n ≤ m := by
 unfold inR at h;simp only [Bool.and_eq_true, decide_eq_true_eq] at h;exact h
theorem tokV_y {r : Rule} {n : Int} {facts : List Fact} (h1 : isRuleB r = true) (h2 : areFactsB facts = true) (h3 : inR n 0 (r.If.length : Int) = true) : tokT (r.If.take n.toNat) facts = tokV r n facts := by simp [tokV, h1, h2, h3]
theorem tokV_n1 {r : Rule} {n : Int} {facts : List Fact} (h : isRuleB r = false) : [] = tokV r n facts := by simp [tokV, h]
theorem tokV_n2 {r : Rule} {n : Int} {facts : List Fact} (h : areFactsB facts = false) : [] = tokV r n facts := by simp [tokV, h]
theorem tokV_n3 {r : Rule} {n : Int} {facts : List Fact} (h : inR n 0 (r.If.length : Int) = false) : [] = tokV r n facts := by simp [tokV, h]
theorem tokV_all {r : Rule} {facts : List Fact} : tokV r (r.If.length : Int) facts = if (isRuleB r && areFactsB facts) = true then tokT r.If facts else [] := by
 have : inR (r.If.length : Int) 0 (r.If.length : Int) = true := by unfold inR; simp
 unfold tokV;rw [this, Bool.and_true, show ((r.If.length : Int)).toNat = r.If.length from rfl, List.take_length]
theorem tokV_len (r : Rule) (facts : List Fact) : (tokV r (r.If.length : Int) facts).length ≤ 331776 := by
 rw [tokV_all]
 split
 ·rename_i h;simp only [Bool.and_eq_true] at h;have := tokK_len (conds := r.If) (facts_len h.2) (rule_if h.1).1 r.If.length;rw [tokK_end (Nat.le_refl _)] at this;exact this
 ·simp
theorem matV_done {r : Rule} {facts : List Fact} {k : Nat} (h : (tokV r (r.If.length : Int) facts).length ≤ k) : ((tokV r (r.If.length : Int) facts).take k).map (fun t => (⟨r.Name, t.Facts, t.Binding⟩ : Match)) = matV facts r := by
 rw [List.take_of_length_le h, tokV_all];unfold matV matR
 split <;> rfl
end Go.Sy
namespace Go.Sy
open Go
theorem map_le {α β : Type} (f : α → β) (l : List α) (k : Nat) : ((l.take k).map f).length ≤ k := by rw [List.length_map, List.length_take]; omega
theorem matR_len {r : Rule} {facts : List Fact} (hr : isRuleB r = true) (hf : areFactsB facts = true) : (matR facts r).length ≤ 331776 := by
 unfold matR;rw [List.length_map];have := tokK_len (conds := r.If) (facts_len hf) (rule_if hr).1 r.If.length;rw [tokK_end (Nat.le_refl _)] at this;exact this
theorem tokT_len {r : Rule} {facts : List Fact} (hr : isRuleB r = true) (hf : areFactsB facts = true) : (tokT r.If facts).length ≤ 331776 := by
 have := matR_len hr hf;unfold matR at this
 rwa [List.length_map] at this
theorem matV_len (facts : List Fact) (r : Rule) : (matV facts r).length ≤ 331776 := by
 unfold matV
 split
 ·rename_i h;simp only [Bool.and_eq_true] at h;exact matR_len h.1 h.2
 ·simp
theorem matV_take (facts : List Fact) (rules : List Rule) (k : Nat) : ((rules.take k).flatMap (matV facts)).length ≤ 331776 * k := by
 have h1 := flatMap_le (matV_len facts) (rules.take k);have h2 : (rules.take k).length ≤ k := by rw [List.length_take]; omega
 have h3 : 331776 * (rules.take k).length ≤ 331776 * k := Nat.mul_le_mul_left _ h2;omega
theorem matV_y {facts : List Fact} {r : Rule} (h1 : isRuleB r = true) (h2 : areFactsB facts = true) : matV facts r = matR facts r := by simp [matV, h1, h2]
theorem rules_all {rules : List Rule} (h : areRulesB rules = true) {r : Rule} (hr : r ∈ rules) : isRuleB r = true := by
 obtain ⟨k, hk⟩ := List.getElem?_of_mem hr;exact (rules_mem h hk).1
theorem flatMap_eq {α β : Type} {g g' : α → List β} : ∀ {l : List α}, (∀ x ∈ l, g x = g' x) → l.flatMap g = l.flatMap g'
 | [], _ => rfl
 | x :: l, h => by rw [List.flatMap_cons, List.flatMap_cons, h x (by simp), flatMap_eq (l := l) (fun y hy => h y (by simp [hy]))]
theorem matR_V {rules : List Rule} {facts : List Fact} (h : areRulesB rules = true) (hf : areFactsB facts = true) (k : Nat) : (rules.take k).flatMap (matR facts) = (rules.take k).flatMap (matV facts) :=
 flatMap_eq (fun _ hx => (matV_y (rules_all h (List.mem_of_mem_take hx)) hf).symm)
theorem matR_take {rules : List Rule} {facts : List Fact} (h : areRulesB rules = true) (hf : areFactsB facts = true) (k : Nat) : ((rules.take k).flatMap (matR facts)).length ≤ 331776 * k := by
 rw [matR_V h hf]; exact matV_take facts rules k
theorem allM_len {rules : List Rule} {facts : List Fact} (h : areRulesB rules = true) (hf : areFactsB facts = true) : (allM rules facts).length ≤ 1990656 := by
 have h1 := matR_take h hf rules.length;rw [List.take_length] at h1;have h2 := rules_len h;have h3 : 331776 * rules.length ≤ 331776 * 6 := Nat.mul_le_mul_left _ h2;unfold allM; omega
theorem allV2_len (rules : List Rule) (facts : List Fact) : (allV2 rules facts).length ≤ 1990656 := by
 unfold allV2
 split
 ·rename_i h;simp only [Bool.and_eq_true] at h;exact allM_len h.1 h.2
 ·simp
theorem all_y {rules : List Rule} {facts : List Fact} {k : Nat} (h : areRulesB rules = true) (hk : rules.length ≤ k) : (rules.take k).flatMap (matV facts) = allV2 rules facts := by
 rw [List.take_of_length_le hk]
 cases hf : areFactsB facts with
 | true =>
  have := matR_V h hf rules.length;rw [List.take_length] at this;simp [allV2, h, hf, allM, this]
 | false =>
  have : ∀ l : List Rule, l.flatMap (matV facts) = [] := fun l => by
   induction l with
   | nil => rfl
   | cons r l ih => rw [List.flatMap_cons, ih]; simp [matV, hf]
  rw [this]; simp [allV2, hf]
theorem all_n {rules : List Rule} {facts : List Fact} {k : Nat} (h : areRulesB rules = false) (hk : k = 0) : (rules.take k).flatMap (matV facts) = allV2 rules facts := by subst hk; simp [allV2, h]
theorem all_e {rules : List Rule} {facts : List Fact} {k : Nat} (h : k = 0 ∨ areRulesB rules = true) (hk : rules.length ≤ k) : (rules.take k).flatMap (matV facts) = allV2 rules facts := by
 rcases h with h | h
 ·have : rules = [] := List.eq_nil_of_length_eq_zero (by omega);subst this; simp [allV2, allM]
 ·exact all_y h hk
theorem mem_fact {l : List Stamp} (h : isMemB l = true) : areFactsB (l.map Stamp.Fact) = true := by
 unfold isMemB at h;simp only [Bool.and_eq_true] at h;exact h.2
def smM (facts : List Fact) (m : Match) : Prop := (∀ f ∈ m.Facts, f ∈ facts) ∧ m.Facts.length ≤ 4 ∧ smB m.Binding ∧ m.Rule.size ≤ 8
theorem matR_sm {facts : List Fact} {r : Rule} (hr : isRuleB r = true) {m : Match} (h : m ∈ matR facts r) : smM facts m ∧ m.Rule = r.Name := by
 unfold matR at h;rw [List.mem_map] at h;obtain ⟨t, ht, rfl⟩ := h;rw [← tokK_end (k := r.If.length) (Nat.le_refl _)] at ht;have h1 := tokK_sm (rule_if hr).1 ht;exact ⟨⟨h1.1, h1.2.1, h1.2.2, (rule_if hr).2.2⟩, rfl⟩
theorem allM_sm {rules : List Rule} {facts : List Fact} (h : areRulesB rules = true) {m : Match} (hm : m ∈ allM rules facts) : smM facts m ∧ ∃ r ∈ rules, m.Rule = r.Name := by
 unfold allM at hm;rw [List.mem_flatMap] at hm;obtain ⟨r, hr, hm⟩ := hm;have := matR_sm (rules_all h hr) hm;exact ⟨this.1, r, hr, this.2⟩
theorem smM_sz {facts : List Fact} {m : Match} (hf : areFactsB facts = true) (h : smM facts m) : szMatch m ≤ 386 ∧ m.Facts.length ≤ 4 := by
 have h1 := szL_facts (l := m.Facts) (fun f hm => facts_mem hf (h.1 f hm));have h2 := smB_sz h.2.2.1;have h3 := h.2.1;have h4 := h.2.2.2;exact ⟨by unfold szMatch; omega, h3⟩
theorem hasSt_mem {l : List Stamp} {f : Fact} (h : f ∈ l.map Stamp.Fact) : hasSt l f = true := by
 rw [List.mem_map] at h;obtain ⟨s, hs, rfl⟩ := h;unfold hasSt stOf;rw [List.find?_isSome];exact ⟨s, hs, by simp⟩
theorem findT_nn {rules : List Rule} {name : ByteArray} (h : ∃ r ∈ rules, name = r.Name) : 0 ≤ findT rules name := by
 obtain ⟨r, hr, rfl⟩ := h;unfold findT
 split
 ·rename_i e;rw [List.findIdx?_eq_none_iff] at e;have := e r hr;simp at this
 ·omega
theorem cho_all {rules : List Rule} {l : List Stamp} (h : areRulesB rules = true) {m : Match} (hm : m ∈ allM rules (l.map Stamp.Fact)) : choB rules l m = true := by
 have h1 := allM_sm h hm;unfold choB;rw [decide_eq_true (findT_nn h1.2)];simp only [Bool.true_and, List.all_eq_true];exact fun f hf => hasSt_mem (h1.1.1 f hf)
def fresh2K (rules : List Rule) (l : List Stamp) (fired : List Firing) (m : Match) : Option Choice := if (cho2B rules l m && !(hasF fired (cho2T rules l m).Match.Rule (cho2T rules l m).Times)) = true then some (cho2T rules l m) else none
theorem fr2_y {rules : List Rule} {l : List Stamp} {fired : List Firing} {m : Match} (h1 : cho2B rules l m = true) (h2 : hasF fired (cho2T rules l m).Match.Rule (cho2T rules l m).Times = false) : fresh2K rules l fired m = some (cho2T rules l m) := by simp [fresh2K, h1, h2]
theorem fr2_n {rules : List Rule} {l : List Stamp} {fired : List Firing} {m : Match} (h : cho2B rules l m = false ∨ hasF fired (cho2T rules l m).Match.Rule (cho2T rules l m).Times = true) : fresh2K rules l fired m = none := by
 rcases h with h | h <;> simp [fresh2K, h]
theorem cho2_v {rules : List Rule} {l : List Stamp} (h : areRulesB rules = true) (hl : isMemB l = true) {m : Match} (hm : m ∈ allM rules (l.map Stamp.Fact)) : cho2B rules l m = true ∧ cho2T rules l m = choV rules l m := by
 have := cho_all h hm;have h2 : cho2B rules l m = true := by simp [cho2B, h, hl, this]
 exact ⟨h2, by simp [cho2T, h2]⟩
theorem filterMap_eq {α β : Type} {g g' : α → Option β} : ∀ {l : List α}, (∀ x ∈ l, g x = g' x) → l.filterMap g = l.filterMap g'
 | [], _ => rfl
 | x :: l, h => by rw [List.filterMap_cons, List.filterMap_cons, h x (by simp), filterMap_eq (l := l) (fun y hy => h y (by simp [hy]))]
theorem fresh2_K {rules : List Rule} {l : List Stamp} {fired : List Firing} (h : areRulesB rules = true) (hl : isMemB l = true) {m : Match} (hm : m ∈ allM rules (l.map Stamp.Fact)) : fresh2K rules l fired m = freshK rules l fired m := by
 have h1 := cho2_v h hl hm;unfold fresh2K freshK;rw [h1.1, h1.2];have e : (choV rules l m).Match.Rule = m.Rule ∧ (choV rules l m).Times = timesOf l m.Facts := ⟨rfl, rfl⟩;rw [e.1, e.2]
 cases hasF fired m.Rule (timesOf l m.Facts) <;> simp
theorem fr_spec {rules : List Rule} {l : List Stamp} {fired : List Firing} {k : Nat} (hk : (allV2 rules (l.map Stamp.Fact)).length ≤ k) : sortC (((allV2 rules (l.map Stamp.Fact)).take k).filterMap (fresh2K rules l fired)) = freshL rules l fired := by
 rw [List.take_of_length_le hk];unfold freshL
 split
 ·rename_i h;simp only [Bool.and_eq_true] at h;have : allV2 rules (l.map Stamp.Fact) = allM rules (l.map Stamp.Fact) := by simp [allV2, h.1, mem_fact h.2]
  rw [this, filterMap_eq (fun m hm => fresh2_K (fired := fired) h.1 h.2 hm)]
 ·rename_i h;have : ∀ M : List Match, M.filterMap (fresh2K rules l fired) = [] := fun M => by
   rw [List.filterMap_eq_nil_iff];intro m _;refine fr2_n (.inl ?_);have : (areRulesB rules && isMemB l) = false := by simpa using h
   simp [cho2B, this]
  rw [this]; rfl
theorem fr_n {rules : List Rule} {l : List Stamp} {fired : List Firing} (h : areRulesB rules = false ∨ isMemB l = false) : [] = freshL rules l fired := by
 rcases h with h | h <;> simp [freshL, h]
theorem fr_y {rules : List Rule} {l : List Stamp} {fired : List Firing} {k : Nat} (h : areRulesB rules = true) (hl : isMemB l = true) (hk : (allM rules (l.map Stamp.Fact)).length ≤ k) : sortC (((allM rules (l.map Stamp.Fact)).take k).filterMap (freshK rules l fired)) = freshL rules l fired := by
 rw [List.take_of_length_le hk]; simp [freshL, h, hl]
theorem choT_all {rules : List Rule} {l : List Stamp} (h : areRulesB rules = true) {k : Nat} {m : Match} (hm : (allM rules (l.map Stamp.Fact))[k]? = some m) : choT rules l m = choV rules l m := by
 have := cho_all h (List.mem_of_getElem? hm);simp [choT, this]
theorem frK_y {rules : List Rule} {l : List Stamp} {fired : List Firing} (h : areRulesB rules = true) {k : Nat} {m : Match} (hm : (allM rules (l.map Stamp.Fact))[k]? = some m) (hf : hasF fired (choT rules l m).Match.Rule (choT rules l m).Times = false) : freshK rules l fired m = some (choT rules l m) := by
 rw [choT_all h hm] at hf ⊢;have : hasF fired m.Rule (timesOf l m.Facts) = false := hf;simp [freshK, this]
theorem frK_n {rules : List Rule} {l : List Stamp} {fired : List Firing} (h : areRulesB rules = true) {k : Nat} {m : Match} (hm : (allM rules (l.map Stamp.Fact))[k]? = some m) (hf : hasF fired (choT rules l m).Match.Rule (choT rules l m).Times = true) : freshK rules l fired m = none := by
 rw [choT_all h hm] at hf;have : hasF fired m.Rule (timesOf l m.Facts) = true := hf;simp [freshK, this]
theorem allM_sz {rules : List Rule} {l : List Stamp} (h : areRulesB rules = true) (hl : isMemB l = true) {k : Nat} {m : Match} (hm : (allM rules (l.map Stamp.Fact))[k]? = some m) : szMatch m ≤ 386 ∧ m.Facts.length ≤ 4 :=
 smM_sz (mem_fact hl) (allM_sm h (List.mem_of_getElem? hm)).1
theorem allV2_sz {rules : List Rule} {facts : List Fact} {k : Nat} {m : Match} (hm : (allV2 rules facts)[k]? = some m) : szMatch m ≤ 386 ∧ m.Facts.length ≤ 4 := by
 unfold allV2 at hm
 split at hm
 ·rename_i h;simp only [Bool.and_eq_true] at h;exact smM_sz h.2 (allM_sm h.1 (List.mem_of_getElem? hm)).1
 ·simp at hm
theorem choV_sz {rules : List Rule} {l : List Stamp} {m : Match} (h : szMatch m ≤ 386 ∧ m.Facts.length ≤ 4) : szMatch (choV rules l m).Match ≤ 386 ∧ (choV rules l m).Times.length ≤ 4 := ⟨h.1, by simp only [choV, timesOf, List.length_map]; exact h.2⟩
theorem fr_small {rules : List Rule} {l : List Stamp} {fired : List Firing} (h : areRulesB rules = true) (hl : isMemB l = true) {k : Nat} : ∀ x ∈ ((allM rules (l.map Stamp.Fact)).take k).filterMap (freshK rules l fired), szMatch x.Match ≤ 1048576 ∧ x.Times.length ≤ 12 := fun x hx => by
 rw [List.mem_filterMap] at hx;obtain ⟨m, hm, he⟩ := hx;obtain ⟨j, hj⟩ := List.getElem?_of_mem (List.mem_of_mem_take hm);have h1 := choV_sz (rules := rules) (l := l) (allM_sz h hl hj);unfold freshK at he
 split at he
 ·cases he
 ·simp only [Option.some.injEq] at he;subst he;omega
theorem fr2_small {rules : List Rule} {l : List Stamp} {facts : List Fact} {fired : List Firing} {k : Nat} : ∀ x ∈ ((allV2 rules facts).take k).filterMap (fresh2K rules l fired), szMatch x.Match ≤ 1048576 ∧ x.Times.length ≤ 12 := fun x hx => by
 rw [List.mem_filterMap] at hx;obtain ⟨m, hm, he⟩ := hx;obtain ⟨j, hj⟩ := List.getElem?_of_mem (List.mem_of_mem_take hm);have h1 := choV_sz (rules := rules) (l := l) (allV2_sz hj);unfold fresh2K at he
 split at he
 ·rename_i hc;simp only [Bool.and_eq_true] at hc;simp only [Option.some.injEq] at he;subst he;have : cho2T rules l m = choV rules l m := by simp [cho2T, hc.1]
  rw [this]; omega
 ·cases he
theorem freshL_mem {rules : List Rule} {l : List Stamp} {fired : List Firing} {x : Choice} (hx : x ∈ freshL rules l fired) : areRulesB rules = true ∧ isMemB l = true ∧ ∃ m ∈ allM rules (l.map Stamp.Fact), x = choV rules l m ∧ hasF fired m.Rule (timesOf l m.Facts) = false := by
 unfold freshL at hx
 split at hx
 ·rename_i h;simp only [Bool.and_eq_true] at h;rw [sort_mem, List.mem_filterMap] at hx;obtain ⟨m, hm, he⟩ := hx;unfold freshK at he
  split at he
  ·cases he
  ·rename_i hf;simp only [Option.some.injEq] at he;exact ⟨h.1, h.2, m, hm, he.symm, by simpa using hf⟩
 ·cases hx
theorem freshL_len (rules : List Rule) (l : List Stamp) (fired : List Firing) : (freshL rules l fired).length ≤ 1990656 := by
 unfold freshL
 split
 ·rename_i h;simp only [Bool.and_eq_true] at h;rw [sortC_len];have h1 := List.length_filterMap_le (freshK rules l fired) (allM rules (l.map Stamp.Fact));have h2 := allM_len h.1 (mem_fact h.2);omega
 ·simp
theorem sumC_le {α : Type} {c : α → Nat} {n : Nat} : ∀ {l : List α}, (∀ x ∈ l, c x ≤ n) → sumC c l ≤ n * l.length
 | [], _ => by simp [sumC]
 | x :: l, h => by
  have h1 := h x (by simp);have h2 := sumC_le (l := l) (fun y hy => h y (by simp [hy]));simp only [sumC, List.map_cons, List.sum_cons, List.length_cons, Nat.mul_add] at *; omega
theorem freshL_sum (rules : List Rule) (l : List Stamp) (fired : List Firing) : sumC cCc (freshL rules l fired) ≤ 4000000000 := by
 have h1 : sumC cCc (freshL rules l fired) ≤ 1564 * (freshL rules l fired).length := sumC_le (fun x hx => by
  obtain ⟨h, hl, m, hm, rfl, _⟩ := freshL_mem hx;obtain ⟨j, hj⟩ := List.getElem?_of_mem hm;have h1 := choV_sz (rules := rules) (l := l) (allM_sz h hl hj);have h2 := cCc_le (choV rules l m);have h3 : szChoice (choV rules l m) = szMatch (choV rules l m).Match + (choV rules l m).Times.length := rfl
  omega)
 have h2 := freshL_len rules l fired;have h3 : 1564 * (freshL rules l fired).length ≤ 1564 * 1990656 := Nat.mul_le_mul_left _ h2;omega
end Go.Sy
namespace Go.Sy
open Go
theorem cmpF_tr {f g h : Fact} (h1 : cmpF f g < 0) (h2 : cmpF g h < 0) : cmpF f h < 0 := by
 have a := cmpF_cmpr.le f g h;have b1 := cmpF_cmpr.anti f g;have b2 := cmpF_cmpr.anti g h;have b3 := cmpF_cmpr.anti f h;have c := cmpF_cmpr.le h f g;omega
theorem pw_of_adj {α : Type} {R : α → α → Prop} (ht : ∀ a b c, R a b → R b c → R a c) {l : List α} (h : ∀ k p f, l[k]? = some p → l[k + 1]? = some f → R p f) : l.Pairwise R := by
 have key : ∀ (d i : Nat) f g, l[i]? = some f → l[i + 1 + d]? = some g → R f g := fun d => by
  induction d with
  | zero => exact fun i f g hf hg => h i f g hf hg
  | succ d ih =>
   intro i f g hf hg;have := lS hg;obtain ⟨m, hm⟩ := sL (l := l) (i := i + 1 + d) (by omega);exact ht _ _ _ (ih i f m hf hm) (h (i + 1 + d) m g hm hg)
 rw [List.pairwise_iff_getElem];intro i j hi hj hij;refine key (j - i - 1) i _ _ (List.getElem?_eq_getElem hi) ?_;rw [show i + 1 + (j - i - 1) = j from by omega];exact List.getElem?_eq_getElem hj
theorem adj_of_pw {α : Type} {R : α → α → Prop} {l : List α} (h : l.Pairwise R) {i j : Nat} {p f : α} (hi : l[i]? = some p) (hj : l[j]? = some f) (hij : i < j) : R p f := by
 rw [List.pairwise_iff_getElem] at h;have h1 := lS hi;have h2 := lS hj;have := h i j h1 h2 hij;rw [List.getElem?_eq_getElem h1, Option.some.injEq] at hi;rw [List.getElem?_eq_getElem h2, Option.some.injEq] at hj;rw [hi, hj] at this; exact this
theorem facts_iff {l : List Fact} : areFactsB l = true ↔ l.length ≤ 24 ∧ (∀ f ∈ l, isFactB f = true) ∧ l.Pairwise (fun f g => cmpF f g < 0) := by
 constructor
 ·intro h;refine ⟨facts_len h, fun f hf => facts_mem h hf, pw_of_adj (R := fun f g => cmpF f g < 0) (fun _ _ _ h1 h2 => cmpF_tr h1 h2) (fun k p f hp hf => ?_)⟩;unfold areFactsB at h;simp only [Bool.and_eq_true, List.all_eq_true, List.mem_range] at h;have := h.2 (k + 1) (lS hf);unfold factAt at this;rw [hf] at this;simp only [Nat.add_sub_cancel, hp] at this;simpa using (Bool.and_eq_true_iff.1 this).2
 ·rintro ⟨h1, h2, h3⟩;unfold areFactsB;simp only [Bool.and_eq_true, decide_eq_true_eq, List.all_eq_true, List.mem_range];refine ⟨h1, fun k hk => ?_⟩;obtain ⟨f, hf⟩ := sL hk
  by_cases h0 : k = 0
  ·exact factAt_0 hf (h2 f (List.mem_of_getElem? hf)) h0
  ·obtain ⟨p, hp⟩ := sL (l := l) (i := k - 1) (by omega);exact factAt_s hf hp rfl (h2 f (List.mem_of_getElem? hf)) (adj_of_pw h3 hp hf (by omega))
theorem mem_iff {l : List Stamp} : isMemB l = true ↔ (∀ s ∈ l, 1 ≤ s.Time ∧ s.Time ≤ 200) ∧ l.Pairwise (fun a b => a.Time ≠ b.Time) ∧ l.length ≤ 24 ∧ (∀ s ∈ l, isFactB s.Fact = true) ∧ l.Pairwise (fun a b => cmpF a.Fact b.Fact < 0) := by
 constructor
 ·intro h;have hf := facts_iff.1 (mem_fact h);rw [List.length_map, List.pairwise_map] at hf;refine ⟨fun s hs => mem_times h hs, ?_, hf.1, fun s hs => hf.2.1 _ (List.mem_map_of_mem hs), hf.2.2⟩;unfold isMemB at h;simp only [Bool.and_eq_true, List.all_eq_true, List.mem_range] at h;rw [List.pairwise_iff_getElem];intro i j hi hj hij e;have h1 := h.1 j hj;have hq : l[j]? = some l[j] := List.getElem?_eq_getElem hj;rw [timeAt_f3 hq (List.getElem?_eq_getElem hi) hij e] at h1
  cases h1
 ·rintro ⟨h1, h2, h3, h4, h5⟩;unfold isMemB;simp only [Bool.and_eq_true, List.all_eq_true, List.mem_range];refine ⟨fun k hk => ?_, facts_iff.2 ⟨by rw [List.length_map]; exact h3, fun f hf => ?_, by rw [List.pairwise_map]; exact h5⟩⟩
  ·obtain ⟨s, hs⟩ := sL hk;have := h1 s (List.mem_of_getElem? hs);exact timeAt_s hs (by unfold inR; simp; omega) (fun i hi q hq => adj_of_pw h2 hq hs hi)
  ·obtain ⟨s, hs, rfl⟩ := List.mem_map.1 hf;exact h4 s hs
end Go.Sy
