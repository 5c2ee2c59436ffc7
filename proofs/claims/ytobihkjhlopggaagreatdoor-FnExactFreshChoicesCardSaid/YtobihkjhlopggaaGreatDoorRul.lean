/-
  Texts in order, patterns, conditions, rules: what is valid.
  Conditions: those that each theorem states.
-/
import Derived.Test.YtobihkjhlopggaaGreatDoorEng
import Derived.Test.YtobihkjhlopggaaGreatDoorOwn2
import Derived.Sort.EncStr
namespace Go.Sy
open Go
theorem bl_irrefl : ∀ l : List UInt8, Op.bytesLess l l = false
 | [] => rfl
 | a :: l => by
  unfold Op.bytesLess;have := bl_irrefl l;simp [this]
theorem bl_trans : ∀ {a b c : List UInt8}, Op.bytesLess a b = true → Op.bytesLess b c = true → Op.bytesLess a c = true
 | _, [], _, h, _ => by cases ‹List UInt8› <;> simp [Op.bytesLess] at h
 | _, _ :: _, [], _, h => by simp [Op.bytesLess] at h
 | [], _ :: _, _ :: _, _, _ => by simp [Op.bytesLess]
 | x :: a, y :: b, z :: c, h1, h2 => by
  unfold Op.bytesLess at h1 h2 ⊢;simp only [Bool.or_eq_true, decide_eq_true_eq, Bool.and_eq_true, beq_iff_eq] at h1 h2 ⊢
  rcases h1 with h1 | ⟨rfl, h1⟩ <;> rcases h2 with h2 | ⟨rfl, h2⟩
  ·exact .inl (UInt8.lt_trans h1 h2)
  ·exact .inl h1
  ·exact .inl h2
  ·exact .inr ⟨rfl, bl_trans h1 h2⟩
theorem bl_tot : ∀ {a b : List UInt8}, Op.bytesLess a b = false → Op.bytesLess b a = false → a = b
 | [], [], _, _ => rfl
 | [], _ :: _, h, _ => by simp [Op.bytesLess] at h
 | _ :: _, [], _, h => by simp [Op.bytesLess] at h
 | x :: a, y :: b, h1, h2 => by
  unfold Op.bytesLess at h1 h2;simp only [Bool.or_eq_false_iff, decide_eq_false_iff_not, Bool.and_eq_false_iff, beq_eq_false_iff_ne] at h1 h2;have hxy : x = y := by
   have h3 : ¬ x.toNat < y.toNat := h1.1;have h4 : ¬ y.toNat < x.toNat := h2.1;exact UInt8.toNat_inj.1 (by omega)
  subst hxy;have k1 : Op.bytesLess a b = false := by rcases h1.2 with h | h; (· exact absurd rfl h); (· exact h)
  have k2 : Op.bytesLess b a = false := by rcases h2.2 with h | h; (· exact absurd rfl h); (· exact h)
  rw [bl_tot k1 k2]
theorem tl_eq (a : ByteArray) : a.toList = a.data.toList := ByteArray.toList_eq a
theorem rb_ext {a b : ByteArray} (h : a.data.toList = b.data.toList) : a = b := by
 cases a; cases b
 simp only at h
 congr 1
 exact Array.toList_inj.1 h
theorem ltS_irrefl (a : ByteArray) : ltS a a = false := bl_irrefl _
theorem ltS_trans {a b c : ByteArray} (h1 : ltS a b = true) (h2 : ltS b c = true) : ltS a c = true := bl_trans h1 h2
theorem ltS_tot {a b : ByteArray} (h1 : ltS a b = false) (h2 : ltS b a = false) : a = b := by
 have := bl_tot h1 h2;rw [tl_eq, tl_eq] at this;exact rb_ext this
theorem ltS_asym {a b : ByteArray} (h : ltS a b = true) : ltS b a = false := by
 cases e : ltS b a with
 | false => rfl
 | true => have := ltS_trans h e; rw [ltS_irrefl] at this; cases this
abbrev AscT (l : List ByteArray) : Prop := l.Pairwise (fun x y => ltS x y = true)
def putS : List ByteArray → ByteArray → List ByteArray
 | [], s => [s]
 | x :: l, s => if ltS x s = true then x :: putS l s else if x = s then x :: l else s :: x :: l
theorem putS_mem : ∀ {l : List ByteArray} {s y : ByteArray}, y ∈ putS l s ↔ y ∈ l ∨ y = s
 | [], s, y => by simp [putS]
 | x :: l, s, y => by
  unfold putS
  split
  ·rw [List.mem_cons, putS_mem, List.mem_cons]; exact ⟨fun h => by rcases h with h | h | h <;> simp [h], fun h => by rcases h with (h | h) | h <;> simp [h]⟩
  ·split
   ·rename_i e; subst e; rw [List.mem_cons]; exact ⟨fun h => .inl h, fun h => by rcases h with h | h <;> simp_all⟩
   ·simp only [List.mem_cons]; exact ⟨fun h => by rcases h with h | h | h <;> simp [h], fun h => by rcases h with (h | h) | h <;> simp [h]⟩
theorem putS_asc : ∀ {l : List ByteArray} {s : ByteArray}, AscT l → AscT (putS l s)
 | [], s, _ => by simp [putS, AscT]
 | x :: l, s, h => by
  have h2 := List.pairwise_cons.1 h;unfold putS
  split
  ·rename_i hx;refine List.pairwise_cons.2 ⟨fun y hy => ?_, putS_asc h2.2⟩
   rcases putS_mem.1 hy with hy | hy
   ·exact h2.1 y hy
   ·rw [hy]; exact hx
  ·split
   ·exact h
   ·rename_i hx hne;have hlt : ltS s x = true := by
     cases e : ltS s x with
     | true => rfl
     | false => exact absurd (ltS_tot (by simpa using hx) e) hne
    refine List.pairwise_cons.2 ⟨fun y hy => ?_, h⟩
    rcases List.mem_cons.1 hy with rfl | hy
    ·exact hlt
    ·exact ltS_trans hlt (h2.1 y hy)
def sortT (l : List ByteArray) : List ByteArray := l.foldl putS []
theorem foldS_asc : ∀ (l : List ByteArray) {a : List ByteArray}, AscT a → AscT (l.foldl putS a)
 | [], _, h => h
 | x :: l, _, h => foldS_asc l (putS_asc h)
theorem foldS_mem : ∀ (l : List ByteArray) {a : List ByteArray} {y : ByteArray}, y ∈ l.foldl putS a ↔ y ∈ a ∨ y ∈ l
 | [], a, y => by simp
 | x :: l, a, y => by
  rw [List.foldl_cons, foldS_mem l, putS_mem, List.mem_cons];exact ⟨fun h => by rcases h with (h | h) | h <;> simp [h], fun h => by rcases h with h | h | h <;> simp [h]⟩
theorem sortT_asc (l : List ByteArray) : AscT (sortT l) := foldS_asc l List.Pairwise.nil
theorem sortT_mem {l : List ByteArray} {y : ByteArray} : y ∈ sortT l ↔ y ∈ l := by
 unfold sortT; rw [foldS_mem]; simp
theorem ascT_eq : ∀ {a b : List ByteArray}, AscT a → AscT b → (∀ y, y ∈ a ↔ y ∈ b) → a = b
 | [], [], _, _, _ => rfl
 | [], y :: b, _, _, h => by have := (h y).2 (by simp); cases this
 | x :: a, [], _, _, h => by have := (h x).1 (by simp); cases this
 | x :: a, y :: b, ha, hb, h => by
  have ha2 := List.pairwise_cons.1 ha;have hb2 := List.pairwise_cons.1 hb;have e : x = y := by
   rcases List.mem_cons.1 ((h x).1 (by simp)) with e | hx
   ·exact e
   ·rcases List.mem_cons.1 ((h y).2 (by simp)) with e | hy
    ·exact e.symm
    ·have := ltS_trans (ha2.1 y hy) (hb2.1 x hx);rw [ltS_irrefl] at this; cases this
  subst e
  congr 1
  refine ascT_eq ha2.2 hb2.2 (fun z => ⟨fun hz => ?_, fun hz => ?_⟩)
  ·rcases List.mem_cons.1 ((h z).1 (by simp [hz])) with e | hz2
   ·subst e;have := ha2.1 z hz;rw [ltS_irrefl] at this; cases this
   ·exact hz2
  ·rcases List.mem_cons.1 ((h z).2 (by simp [hz])) with e | hz2
   ·subst e;have := hb2.1 z hz;rw [ltS_irrefl] at this; cases this
   ·exact hz2
theorem sortT_of {l a : List ByteArray} (ha : AscT a) (h : ∀ y, y ∈ a ↔ y ∈ l) : a = sortT l := ascT_eq ha (sortT_asc l) (fun y => by rw [h, sortT_mem])
theorem sortT_congr {l m : List ByteArray} (h : ∀ y, y ∈ l ↔ y ∈ m) : sortT l = sortT m := sortT_of (sortT_asc l) (fun y => by rw [sortT_mem, h])
theorem sortT_snoc (l : List ByteArray) (x : ByteArray) : putS (sortT l) x = sortT (l ++ [x]) := by unfold sortT; rw [List.foldl_append]; rfl
theorem putS_len (l : List ByteArray) (s : ByteArray) : (putS l s).length ≤ l.length + 1 := by
 induction l with
 | nil => simp [putS]
 | cons x l ih =>
  unfold putS
  split
  ·simp only [List.length_cons]; omega
  ·split <;> simp
theorem sortT_len (l : List ByteArray) : (sortT l).length ≤ l.length := by
 have key : ∀ (l a : List ByteArray), (l.foldl putS a).length ≤ a.length + l.length := by
  intro l
  induction l with
  | nil => intro a; simp
  | cons x l ih =>
   intro a;have h1 := ih (putS a x);have h2 := putS_len a x;rw [List.foldl_cons, List.length_cons]; omega
 have := key l [];simpa [sortT] using this
def putD2 (l : List ByteArray) (s : ByteArray) (k : Nat) : Bool := (l.take k).any (fun x => !(ltS x s))
def putT2 (l : List ByteArray) (s : ByteArray) (k : Nat) : List ByteArray := if putD2 l s k = true then putS (l.take k) s else l.take k
theorem putD2_step {l : List ByteArray} {s x : ByteArray} {k : Nat} (h : l[k]? = some x) : putD2 l s (k + 1) = (putD2 l s k || !(ltS x s)) := by
 unfold putD2; rw [take_snoc h, List.any_append]; simp
theorem putS_snoc_t : ∀ {l : List ByteArray} {s y : ByteArray}, l.any (fun x => !(ltS x s)) = true → putS (l ++ [y]) s = putS l s ++ [y]
 | [], _, _, h => by simp at h
 | x :: l, s, y, h => by
  simp only [List.cons_append, putS]
  by_cases e : ltS x s = true
  ·rw [if_pos e, if_pos e];have : l.any (fun x => !(ltS x s)) = true := by simpa [e] using h
   rw [putS_snoc_t this]; rfl
  ·rw [if_neg e, if_neg e]
   by_cases e2 : x = s
   ·rw [if_pos e2, if_pos e2]; rfl
   ·rw [if_neg e2, if_neg e2]; rfl
theorem putS_snoc_f : ∀ {l : List ByteArray} {s : ByteArray} (r : List ByteArray), l.any (fun x => !(ltS x s)) = false → putS (l ++ r) s = l ++ putS r s
 | [], _, _, _ => rfl
 | x :: l, s, r, h => by
  simp only [List.any_cons, Bool.or_eq_false_iff, Bool.not_eq_false'] at h;simp only [List.cons_append, putS];rw [if_pos h.1, putS_snoc_f r h.2]
theorem putT2_keep {l : List ByteArray} {s x : ByteArray} {k : Nat} (h : l[k]? = some x) (hd : putD2 l s k = true ∨ ltS x s = true ∨ x = s) : putT2 l s k ++ [x] = putT2 l s (k + 1) := by
 unfold putT2;rw [putD2_step h, take_snoc h]
 cases e : putD2 l s k with
 | true =>
  simp only [Bool.true_or, if_true];exact (putS_snoc_t e).symm
 | false =>
  rw [e] at hd
  rcases hd with hd | hd | hd
  ·cases hd
  ·simp [hd]
  ·subst hd;simp only [ltS_irrefl, Bool.not_false, Bool.or_true, if_true, Bool.false_eq_true, if_false];rw [putS_snoc_f [x] e];simp [putS, ltS_irrefl]
theorem putT2_put {l : List ByteArray} {s x : ByteArray} {k : Nat} (h : l[k]? = some x) (hd : putD2 l s k = false) (h1 : ltS x s = false) (h2 : x ≠ s) : putT2 l s k ++ [s] ++ [x] = putT2 l s (k + 1) := by
 unfold putT2;rw [putD2_step h, take_snoc h, hd, h1];simp only [Bool.not_false, Bool.or_true, if_true, Bool.false_eq_true, if_false];rw [putS_snoc_f [x] hd];simp [putS, h1, h2]
theorem putT2_done {l : List ByteArray} {s : ByteArray} {k : Nat} (hk : l.length ≤ k) (hd : putD2 l s k = true) : putT2 l s k = putS l s := by
 unfold putT2; rw [if_pos hd, List.take_of_length_le hk]
theorem putT2_last {l : List ByteArray} {s : ByteArray} {k : Nat} (hk : l.length ≤ k) (hd : putD2 l s k = false) : putT2 l s k ++ [s] = putS l s := by
 have h2 : l.any (fun x => !(ltS x s)) = false := by unfold putD2 at hd; rwa [List.take_of_length_le hk] at hd
 have h3 := putS_snoc_f (l := l) (s := s) [] h2;rw [List.append_nil] at h3;unfold putT2;rw [hd];simp only [Bool.false_eq_true, if_false];rw [List.take_of_length_le hk, h3]; rfl
theorem putT2_len (l : List ByteArray) (s : ByteArray) (k : Nat) : (putT2 l s k).length ≤ k + 1 := by
 unfold putT2;have h1 : (l.take k).length ≤ k := by rw [List.length_take]; omega
 split
 ·have := putS_len (l.take k) s; omega
 ·omega
theorem putD2_s {l : List ByteArray} {s x : ByteArray} {k : Nat} {dn dn' : Bool} (h : l[k]? = some x) (hd : dn = putD2 l s k) (e : dn' = (dn || !(ltS x s))) : dn' = putD2 l s (k + 1) := by rw [putD2_step h, ← hd]; exact e
def srtS (l : List ByteArray) : List ByteArray := ((l.map (·.data.toList)).mergeSort fun x y => decide (x ≤ y)).map (fun x => ⟨x.toArray⟩)
theorem srtS_len (l : List ByteArray) : (srtS l).length = l.length := by simp [srtS, List.length_mergeSort]
theorem srtS_mem {l : List ByteArray} {y : ByteArray} : y ∈ srtS l ↔ y ∈ l := by
 unfold srtS;rw [List.mem_map]
 constructor
 ·rintro ⟨x, hx, rfl⟩;obtain ⟨z, hz, rfl⟩ := List.mem_map.1 ((List.mergeSort_perm _ _).mem_iff.1 hx);have : (⟨z.data.toList.toArray⟩ : ByteArray) = z := by apply rb_ext; simp
  rw [this]; exact hz
 ·intro hy;exact ⟨y.data.toList, (List.mergeSort_perm _ _).mem_iff.2 (List.mem_map_of_mem hy), by apply rb_ext; simp⟩
theorem bl_lt : ∀ {a b : List UInt8}, Op.bytesLess a b = true ↔ a < b
 | _, [] => by
  cases ‹List UInt8› <;> simp [Op.bytesLess]
 | [], _ :: _ => by simp [Op.bytesLess]
 | x :: a, y :: b => by
  unfold Op.bytesLess;simp only [Bool.or_eq_true, decide_eq_true_eq, Bool.and_eq_true, beq_iff_eq, bl_lt (a := a) (b := b)];exact List.cons_lt_cons_iff.symm
theorem srtS_pw (l : List ByteArray) : (srtS l).Pairwise (fun x y => ltS y x = false) := by
 unfold srtS;rw [List.pairwise_map];refine List.Pairwise.imp (fun {a b} (hab : decide (a ≤ b) = true) => ?_) (List.pairwise_mergeSort (fun a b c h1 h2 => ?_) (fun a b => ?_) _)
 ·rw [decide_eq_true_eq] at hab;rw [Bool.eq_false_iff];intro h;unfold ltS at h;rw [tl_eq, tl_eq] at h;simp only [] at h;rw [bl_lt] at h;exact List.not_lt.2 hab h
 ·rw [decide_eq_true_eq] at *;exact List.le_trans h1 h2
 ·rw [Bool.or_eq_true, decide_eq_true_eq, decide_eq_true_eq];exact List.le_total a b
def onceT (l : List ByteArray) : Nat → List ByteArray
 | 0 => []
 | k + 1 => match l[k]? with
  | none => onceT l k
  | some x => if k = 0 ∨ l[k - 1]? ≠ some x then onceT l k ++ [x] else onceT l k
theorem onceT_t {l : List ByteArray} {k : Nat} {x : ByteArray} (h : l[k]? = some x) (hc : k = 0 ∨ l[k - 1]? ≠ some x) : onceT l k ++ [x] = onceT l (k + 1) := by
 simp only [onceT, h]; rw [if_pos hc]
theorem onceT_f {l : List ByteArray} {k : Nat} {x : ByteArray} (h : l[k]? = some x) (h0 : k ≠ 0) (hc : l[k - 1]? = some x) : onceT l k = onceT l (k + 1) := by
 simp only [onceT, h]; rw [if_neg (by rintro (h | h); (· exact h0 h); (· exact h hc))]
theorem onceT_len (l : List ByteArray) : ∀ k, (onceT l k).length ≤ k
 | 0 => Nat.le_refl _
 | k + 1 => by
  have ih := onceT_len l k;unfold onceT
  split
  ·omega
  ·split
   ·simp; omega
   ·omega
theorem onceT_spec {l : List ByteArray} (hp : l.Pairwise (fun x y => ltS y x = false)) : ∀ k, k ≤ l.length → AscT (onceT l k) ∧ (∀ y, y ∈ onceT l k ↔ y ∈ l.take k) ∧ (∀ x, 0 < k → l[k - 1]? = some x → ∀ y ∈ onceT l k, y = x ∨ ltS y x = true)
 | 0, _ => ⟨List.Pairwise.nil, fun y => by simp [onceT], fun x h => by omega⟩
 | k + 1, hk => by
  obtain ⟨h1, h2, h3⟩ := onceT_spec hp k (by omega);obtain ⟨x, hx⟩ := sL (l := l) (i := k) (by omega);have hlt : ∀ y ∈ onceT l k, y = x ∨ ltS y x = true := fun y hy => by
   obtain ⟨i, hi⟩ := List.getElem?_of_mem ((h2 y).1 hy);have hi2 := lS hi;rw [List.length_take] at hi2;rw [List.getElem?_take, if_pos (by omega)] at hi;have := List.pairwise_iff_getElem.1 hp i k (by omega) (by omega) (by omega);obtain ⟨b1, c1⟩ := List.getElem?_eq_some_iff.1 hi;obtain ⟨b2, c2⟩ := List.getElem?_eq_some_iff.1 hx;rw [c1, c2] at this
   cases e : ltS y x with
   | true => exact .inr rfl
   | false => exact .inl (ltS_tot e this)
  by_cases hc : k = 0 ∨ l[k - 1]? ≠ some x
  ·rw [← onceT_t hx hc];have hne : ∀ y ∈ onceT l k, ltS y x = true := fun y hy => by
    rcases hlt y hy with e | e
    ·exfalso;subst e
     rcases hc with hc | hc
     ·subst hc; simp [onceT] at hy
     ·by_cases hk0 : 0 < k
      ·obtain ⟨z, hz⟩ := sL (l := l) (i := k - 1) (by omega);have h4 := h3 z hk0 hz y hy;have h5 := List.pairwise_iff_getElem.1 hp (k - 1) k (by omega) (by omega) (by omega);obtain ⟨b1, c1⟩ := List.getElem?_eq_some_iff.1 hz;obtain ⟨b2, c2⟩ := List.getElem?_eq_some_iff.1 hx;rw [c1, c2] at h5
       rcases h4 with e | e
       ·subst e; exact hc hz
       ·rw [e] at h5; cases h5
      ·have : k = 0 := by omega
       subst this; simp [onceT] at hy
    ·exact e
   refine ⟨List.pairwise_append.2 ⟨h1, by simp, fun y hy z hz => ?_⟩, fun y => ?_, fun z _ hz y hy => ?_⟩
   ·simp only [List.mem_singleton] at hz; subst hz; exact hne y hy
   ·rw [take_snoc hx, List.mem_append, List.mem_append, h2]
   ·simp only [Nat.add_sub_cancel] at hz;rw [hx] at hz
    cases hz
    rcases List.mem_append.1 hy with hy | hy
    ·exact .inr (hne y hy)
    ·simp only [List.mem_singleton] at hy; exact .inl hy
  ·have hk0 : k ≠ 0 := fun e => hc (.inl e)
   have hkx : l[k - 1]? = some x := Classical.byContradiction fun e => hc (.inr e)
   rw [← onceT_f hx hk0 hkx];refine ⟨h1, fun y => ?_, fun z _ hz y hy => ?_⟩
   ·rw [take_snoc hx, List.mem_append, h2];refine ⟨fun h => .inl h, fun h => ?_⟩
    rcases h with h | h
    ·exact h
    ·simp only [List.mem_singleton] at h;subst h;refine List.mem_of_getElem? (i := k - 1) ?_;rw [List.getElem?_take, if_pos (by omega)]; exact hkx
   ·simp only [Nat.add_sub_cancel] at hz;rw [hx] at hz
    cases hz
    exact hlt y hy
theorem once_done {l : List ByteArray} {k : Nat} (hk : l.length ≤ k) (hk2 : k ≤ l.length) : onceT (srtS l) k = sortT l := by
 have hl := srtS_len l;obtain ⟨h1, h2, _⟩ := onceT_spec (srtS_pw l) k (by omega);refine sortT_of h1 (fun y => ?_);rw [h2, List.take_of_length_le (by omega), srtS_mem]
end Go.Sy
namespace Go.Sy
open Go
def hasS (l : List ByteArray) (v : ByteArray) : Bool := l.any (fun x => decide (x = v))
theorem hasS_iff {l : List ByteArray} {v : ByteArray} : hasS l v = true ↔ v ∈ l := by simp [hasS]
theorem hasS_y {l : List ByteArray} {v x : ByteArray} {i : Nat} (h : l[i]? = some x) (e : x = v) : true = hasS l v := by
 subst e; exact (hasS_iff.2 (List.mem_of_getElem? h)).symm
theorem hasS_n {l : List ByteArray} {v : ByteArray} (h : ∀ i, i < l.length → l[i]? ≠ some v) : false = hasS l v := by
 symm; rw [Bool.eq_false_iff]; intro hc
 obtain ⟨i, hi⟩ := List.getElem?_of_mem (hasS_iff.1 hc);exact h i (lS hi) hi
def isVarB (s : ByteArray) : Bool := decide ((1 : Int) < (s.size : Int)) && ((sB s 0 == 63) && isAtomB (s.extract 1 s.size))
def isTermB (s : ByteArray) : Bool := isAtomB s || isVarB s
def isPatternB (p : Pattern) : Bool := isNameB p.Rel && decide (p.Args.length ≤ 3) && p.Args.all isTermB
def zeroP (p : Pattern) : Bool := decide (p.Rel = ⟨#[]⟩) && decide (p.Args.length = 0)
def isCondB (x : Cond) : Bool :=
 if x.Kind = 1 ∨ x.Kind = 2 then isPatternB x.Pattern && (decide (x.Left = ⟨#[]⟩) && decide (x.Right = ⟨#[]⟩))
 else if x.Kind = 3 ∨ x.Kind = 4 ∨ x.Kind = 5 then isTermB x.Left && (isTermB x.Right && zeroP x.Pattern)
 else false
def isTestB (x : Cond) : Bool := isCondB x && decide (3 ≤ x.Kind)
def isActionB (a : Action) : Bool := if a.Kind = 1 ∨ a.Kind = 2 then isPatternB a.Pattern else if a.Kind = 3 then zeroP a.Pattern else false
def varsL (l : List ByteArray) : List ByteArray := l.filter isVarB
def cvars (x : Cond) : List ByteArray := varsL (x.Pattern.Args ++ [x.Left, x.Right])
theorem cvars_len (x : Cond) : (cvars x).length ≤ x.Pattern.Args.length + 2 := by
 refine Nat.le_trans (List.length_filter_le _ _) ?_;simp
theorem varsL_len (l : List ByteArray) : (varsL l).length ≤ l.length := List.length_filter_le _ _
theorem varsL_t {l : List ByteArray} {k : Nat} {x : ByteArray} (h : l[k]? = some x) (hv : isVarB x = true) : varsL (l.take k) ++ [x] = varsL (l.take (k + 1)) := by
 unfold varsL; rw [take_snoc h, List.filter_append]; simp [hv]
theorem varsL_f {l : List ByteArray} {k : Nat} {x : ByteArray} (h : l[k]? = some x) (hv : isVarB x = false) : varsL (l.take k) = varsL (l.take (k + 1)) := by
 unfold varsL; rw [take_snoc h, List.filter_append]; simp [hv]
theorem varsP_t {l : List ByteArray} {k : Nat} {x : ByteArray} (h : l[k]? = some x) (hv : isVarB x = true) : putS (sortT (varsL (l.take k))) x = sortT (varsL (l.take (k + 1))) := by
 rw [sortT_snoc, varsL_t h hv]
theorem varsP_f {l : List ByteArray} {k : Nat} {x : ByteArray} (h : l[k]? = some x) (hv : isVarB x = false) : sortT (varsL (l.take k)) = sortT (varsL (l.take (k + 1))) := by
 rw [varsL_f h hv]
theorem cond_kind {x : Cond} (h : isCondB x = true) : 1 ≤ x.Kind ∧ x.Kind ≤ 5 := by
 unfold isCondB at h
 split at h
 ·omega
 ·split at h
  ·omega
  ·cases h
theorem cv_0 {x : Cond} (h1 : isVarB x.Left = false) (h2 : isVarB x.Right = false) : sortT (varsL x.Pattern.Args) = sortT (cvars x) := by simp [cvars, varsL, h1, h2]
theorem cv_l {x : Cond} (h1 : isVarB x.Left = true) (h2 : isVarB x.Right = false) : putS (sortT (varsL x.Pattern.Args)) x.Left = sortT (cvars x) := by rw [sortT_snoc]; simp [cvars, varsL, h1, h2]
theorem cv_r {x : Cond} (h1 : isVarB x.Left = false) (h2 : isVarB x.Right = true) : putS (sortT (varsL x.Pattern.Args)) x.Right = sortT (cvars x) := by rw [sortT_snoc]; simp [cvars, varsL, h1, h2]
theorem cv_b {x : Cond} (h1 : isVarB x.Left = true) (h2 : isVarB x.Right = true) : putS (putS (sortT (varsL x.Pattern.Args)) x.Left) x.Right = sortT (cvars x) := by rw [sortT_snoc, sortT_snoc]; simp [cvars, varsL, h1, h2]
def bvT (r : Rule) (k : Nat) : List ByteArray := ((r.If.take k).filter (fun x => decide (x.Kind = 1))).flatMap (fun x => varsL x.Pattern.Args)
def bvars (r : Rule) (n : Int) : List ByteArray := bvT r n.toNat
theorem bvT_t {r : Rule} {k : Nat} {x : Cond} (h : r.If[k]? = some x) (hk : x.Kind = 1) : bvT r k ++ varsL x.Pattern.Args = bvT r (k + 1) := by
 unfold bvT; rw [take_snoc h, List.filter_append, List.flatMap_append]; simp [hk]
theorem bvT_f {r : Rule} {k : Nat} {x : Cond} (h : r.If[k]? = some x) (hk : x.Kind ≠ 1) : bvT r k = bvT r (k + 1) := by
 unfold bvT; rw [take_snoc h, List.filter_append, List.flatMap_append]; simp [hk]
theorem bvT_cut {r : Rule} {k m : Nat} (h : r.If.length ≤ k) (hm : k ≤ m) : bvT r k = bvT r m := by
 unfold bvT; rw [List.take_of_length_le h, List.take_of_length_le (by omega)]
def bwT (r : Rule) (n : Int) (k : Nat) : List ByteArray := bvT r (min k n.toNat)
theorem bwT_t {r : Rule} {n : Int} {k : Nat} {x : Cond} (h : r.If[k]? = some x) (hn : (k : Int) < n) (hk : x.Kind = 1) : bwT r n k ++ varsL x.Pattern.Args = bwT r n (k + 1) := by
 unfold bwT;rw [Nat.min_eq_left (by omega), Nat.min_eq_left (by omega)]; exact bvT_t h hk
theorem bwT_f {r : Rule} {n : Int} {k : Nat} {x : Cond} (h : r.If[k]? = some x) (hn : ¬ (k : Int) < n ∨ x.Kind ≠ 1) : bwT r n k = bwT r n (k + 1) := by
 unfold bwT
 by_cases hk : (k : Int) < n
 ·rw [Nat.min_eq_left (by omega), Nat.min_eq_left (by omega)];exact bvT_f h (by rcases hn with h | h; (· exact absurd hk h); (· exact h))
 ·rw [Nat.min_eq_right (by omega), Nat.min_eq_right (by omega)]
theorem bwT_done {r : Rule} {n : Int} {k : Nat} (h : r.If.length ≤ k) (h2 : k ≤ r.If.length) : bwT r n k = bvars r n := by
 unfold bwT bvars
 by_cases hn : k ≤ n.toNat
 ·rw [Nat.min_eq_left hn]; exact bvT_cut h hn
 ·rw [Nat.min_eq_right (by omega)]
theorem flat_len {α : Type} {f : α → List ByteArray} {c : α → Nat} (hf : ∀ x, (f x).length ≤ c x) : ∀ l : List α, (l.flatMap f).length ≤ sumC c l
 | [] => by simp [sumC]
 | x :: l => by
  have ih := flat_len hf l;have h1 := hf x;rw [List.flatMap_cons, List.length_append];simp only [sumC, List.map_cons, List.sum_cons] at ih ⊢;omega
theorem szPat_args (p : Pattern) : p.Args.length ≤ szPattern p := by unfold szPattern szSs; omega
theorem szCond_args (x : Cond) : x.Pattern.Args.length ≤ szCond x := by have := szPat_args x.Pattern; unfold szCond; omega
theorem sumC_subl {α : Type} {c : α → Nat} {a b : List α} (h : List.Sublist a b) : sumC c a ≤ sumC c b := by
 induction h with
 | slnil => exact Nat.le_refl _
 | cons x _ ih => simp only [sumC, List.map_cons, List.sum_cons] at ih ⊢; omega
 | cons_cons x _ ih => simp only [sumC, List.map_cons, List.sum_cons] at ih ⊢; omega
theorem bvT_len (r : Rule) (k : Nat) : (bvT r k).length ≤ sumC szCond r.If := by
 refine Nat.le_trans (flat_len (c := szCond) (fun x => Nat.le_trans (varsL_len _) (szCond_args x)) _) ?_;exact Nat.le_trans (sumC_subl (List.filter_sublist)) (sumC_take_le r.If szCond k)
theorem bwT_len (r : Rule) (n : Int) (k : Nat) : (bwT r n k).length ≤ sumC szCond r.If := bvT_len r _
def cvT (l : List Cond) (k : Nat) : List ByteArray := (l.take k).flatMap cvars
def csT (l : List Cond) (k : Nat) : List ByteArray := (l.take k).flatMap (fun x => sortT (cvars x))
theorem csT_step {l : List Cond} {k : Nat} {x : Cond} (h : l[k]? = some x) : csT l k ++ sortT (cvars x) = csT l (k + 1) := by
 unfold csT; rw [take_snoc h, List.flatMap_append]; simp
theorem csT_len (l : List Cond) (k : Nat) : (csT l k).length ≤ sumC szCond l + 2 * l.length := by
 have h1 := flat_len (f := fun x => sortT (cvars x)) (c := fun x => szCond x + 2) (fun x => Nat.le_trans (sortT_len _) (Nat.le_trans (cvars_len x) (by have := szCond_args x; omega))) (l.take k);have h2 := sumC_take_le l (fun x => szCond x + 2) k;have h3 : sumC (fun x => szCond x + 2) l = sumC szCond l + 2 * l.length := by
  clear h1 h2
  induction l with
  | nil => rfl
  | cons x l ih => simp only [sumC, List.map_cons, List.sum_cons, List.length_cons] at ih ⊢; omega
 unfold csT; omega
theorem cs_cv (l : List Cond) (k : Nat) : sortT (csT l k) = sortT (cvT l k) := by
 refine sortT_congr (fun y => ?_);unfold csT cvT;simp only [List.mem_flatMap, sortT_mem]
def allV (r : Rule) : List ByteArray := cvT r.If r.If.length
def avT (r : Rule) (k : Nat) : List ByteArray := (r.Then.take k).flatMap (fun a => varsL a.Pattern.Args)
theorem fold_sort (a l : List ByteArray) : (sortT l).foldl putS (sortT a) = sortT (a ++ l) := by
 refine sortT_of (foldS_asc _ (sortT_asc a)) (fun y => ?_);rw [foldS_mem, sortT_mem, sortT_mem, List.mem_append]
theorem foldT_step {l : List ByteArray} {a : List ByteArray} {k : Nat} {x : ByteArray} (h : l[k]? = some x) : putS ((l.take k).foldl putS a) x = (l.take (k + 1)).foldl putS a := by
 rw [take_snoc h, List.foldl_append]; rfl
theorem foldT_len (l a : List ByteArray) (k : Nat) : ((l.take k).foldl putS a).length ≤ a.length + k := by
 have key : ∀ (l a : List ByteArray), (l.foldl putS a).length ≤ a.length + l.length := by
  intro l
  induction l with
  | nil => intro a; simp
  | cons x l ih =>
   intro a;have h1 := ih (putS a x);have h2 := putS_len a x;rw [List.foldl_cons, List.length_cons]; omega
 have := key (l.take k) a;have h2 : (l.take k).length ≤ k := by rw [List.length_take]; omega
 omega
theorem foldT_done {l a b : List ByteArray} {k : Nat} (h : (sortT l).length ≤ k) : ((sortT l).take k).foldl putS (sortT a) = sortT (a ++ l) := by
 rw [List.take_of_length_le h]; exact fold_sort a l
def elsC (r : Rule) (k : Int) (v : ByteArray) (i : Nat) : Bool := match r.If[i]? with | none => false | some x => decide ((i : Int) ≠ k) && hasS (cvars x) v
def elsA (v : ByteArray) (a : Action) : Bool := hasS (varsL a.Pattern.Args) v
def elsB (r : Rule) (k : Int) (v : ByteArray) : Bool := (List.range r.If.length).any (elsC r k v) || r.Then.any (elsA v)
theorem els_t1 {r : Rule} {k : Int} {v : ByteArray} {i : Nat} {x : Cond} (h : r.If[i]? = some x) (hk : (i : Int) ≠ k) (hc : v ∈ cvars x) : true = elsB r k v := by
 unfold elsB;have : (List.range r.If.length).any (elsC r k v) = true := by
  rw [List.any_eq_true];exact ⟨i, by simpa using lS h, by simp [elsC, h, hk, hasS_iff.2 hc]⟩
 rw [this]; rfl
theorem els_t2 {r : Rule} {k : Int} {v : ByteArray} {i : Nat} {a : Action} (h : r.Then[i]? = some a) (hc : v ∈ varsL a.Pattern.Args) : true = elsB r k v := by
 unfold elsB;have : r.Then.any (elsA v) = true := List.any_eq_true.2 ⟨a, List.mem_of_getElem? h, hasS_iff.2 hc⟩;rw [this]; simp
theorem els_f {r : Rule} {k : Int} {v : ByteArray} (h1 : ∀ i, i < r.If.length → elsC r k v i = false) (h2 : ∀ i, i < r.Then.length → ∀ a, r.Then[i]? = some a → elsA v a = false) : false = elsB r k v := by
 unfold elsB;have e1 : (List.range r.If.length).any (elsC r k v) = false := by
  rw [List.any_eq_false]; intro i hi; rw [h1 i (by simpa using hi)]; simp
 have e2 : r.Then.any (elsA v) = false := by
  rw [List.any_eq_false];intro a ha;obtain ⟨i, hi⟩ := List.getElem?_of_mem ha;rw [h2 i (lS hi) a hi]; simp
 rw [e1, e2]; rfl
theorem elsC_f2 {r : Rule} {k : Int} {v : ByteArray} {i : Nat} {x : Cond} (h : r.If[i]? = some x) (hc : ¬ v ∈ cvars x) : elsC r k v i = false := by
 have : hasS (cvars x) v = false := by rw [Bool.eq_false_iff]; exact fun c => hc (hasS_iff.1 c)
 simp [elsC, h, this]
theorem var_args {v : ByteArray} {l : List ByteArray} (hv : isVarB v = true) : v ∈ varsL l ↔ v ∈ l := by
 unfold varsL; rw [List.mem_filter]; exact ⟨fun h => h.1, fun h => ⟨h, hv⟩⟩
theorem cv_var {x : Cond} {v : ByteArray} (h : v ∈ cvars x) : isVarB v = true := (List.mem_filter.1 h).2
def okV (r : Rule) (k : Int) (x : Cond) (v : ByteArray) : Bool := decide (x.Kind = 1) || (hasS (bvars r k) v || (decide (x.Kind = 2) && !(elsB r k v)))
def condOk (r : Rule) (k : Nat) : Bool := match r.If[k]? with | none => false | some x => isCondB x && ((decide (k ≠ 0) || decide (x.Kind = 1)) && (cvars x).all (okV r (k : Int) x))
def actOk (r : Rule) (a : Action) : Bool := isActionB a && (varsL a.Pattern.Args).all (fun v => hasS (bvars r (r.If.length : Int)) v)
def isRuleB (r : Rule) : Bool :=
 isNameB r.Name && (inR r.Priority 0 9 && (inR (r.If.length : Int) 1 4 && (inR (r.Then.length : Int) 1 2 && ((List.range r.If.length).all (condOk r) && (r.Then.all (actOk r) && decide ((sortT (allV r)).length ≤ 6))))))
def findT (l : List Rule) (name : ByteArray) : Int := match l.findIdx? (fun r => decide (r.Name = name)) with | none => -1 | some i => (i : Int)
def areOk (l : List Rule) (i : Nat) : Bool := match l[i]? with | none => false | some r => isRuleB r && decide (findT l r.Name = (i : Int))
def areRulesB (l : List Rule) : Bool := decide (l.length ≤ 6) && (List.range l.length).all (areOk l)
theorem find_y {l : List Rule} {name : ByteArray} {i : Nat} {r : Rule} (h : l[i]? = some r) (hn : r.Name = name) (hi : ∀ j, j < i → ∀ q, l[j]? = some q → q.Name ≠ name) : (i : Int) = findT l name := by
 unfold findT;have : l.findIdx? (fun r => decide (r.Name = name)) = some i := by
  rw [List.findIdx?_eq_some_iff_getElem];obtain ⟨b, c⟩ := List.getElem?_eq_some_iff.1 h;refine ⟨b, by rw [c]; simpa using hn, fun j hj => ?_⟩;have := hi j hj l[j] (List.getElem?_eq_getElem (by omega));simpa using this
 rw [this]
theorem find_n {l : List Rule} {name : ByteArray} (hi : ∀ j, j < l.length → ∀ q, l[j]? = some q → q.Name ≠ name) : -1 = findT l name := by
 unfold findT;have : l.findIdx? (fun r => decide (r.Name = name)) = none := by
  rw [List.findIdx?_eq_none_iff];intro q hq;obtain ⟨j, hj⟩ := List.getElem?_of_mem hq;simpa using hi j (lS hj) q hj
 rw [this]
theorem are_n1 {l : List Rule} (h : ¬ l.length ≤ 6) : false = areRulesB l := by unfold areRulesB; rw [decide_eq_false h]; rfl
theorem are_n2 {l : List Rule} {i : Nat} (hi : i < l.length) (h : areOk l i = false) : false = areRulesB l := by
 unfold areRulesB;have : (List.range l.length).all (areOk l) = false := by rw [List.all_eq_false]; exact ⟨i, by simpa using hi, by rw [h]; simp⟩
 rw [this]; simp
theorem are_y {l : List Rule} (hi : ∀ i, i < l.length → areOk l i = true) : decide (l.length ≤ 6) = areRulesB l := by
 unfold areRulesB;have : (List.range l.length).all (areOk l) = true := by rw [List.all_eq_true]; intro i h; exact hi i (by simpa using h)
 rw [this]; simp
theorem areOk_f1 {l : List Rule} {i : Nat} {r : Rule} (h : l[i]? = some r) (hr : isRuleB r = false) : areOk l i = false := by simp [areOk, h, hr]
theorem areOk_f2 {l : List Rule} {i : Nat} {r : Rule} (h : l[i]? = some r) (hr : findT l r.Name ≠ (i : Int)) : areOk l i = false := by simp [areOk, h, hr]
theorem areOk_t {l : List Rule} {i : Nat} {r : Rule} (h : l[i]? = some r) (h1 : isRuleB r = true) (h2 : findT l r.Name = (i : Int)) : areOk l i = true := by simp [areOk, h, h1, h2]
theorem ru_n1 {r : Rule} (h : isNameB r.Name = false ∨ inR r.Priority 0 9 = false ∨ inR (r.If.length : Int) 1 4 = false ∨ inR (r.Then.length : Int) 1 2 = false) : false = isRuleB r := by
 unfold isRuleB
 rcases h with h | h | h | h <;> rw [h] <;> simp
theorem ru_n2 {r : Rule} {k : Nat} (hk : k < r.If.length) (h : condOk r k = false) : false = isRuleB r := by
 unfold isRuleB;have : (List.range r.If.length).all (condOk r) = false := by rw [List.all_eq_false]; exact ⟨k, by simpa using hk, by rw [h]; simp⟩
 rw [this]; simp
theorem ru_n3 {r : Rule} {k : Nat} {a : Action} (ha : r.Then[k]? = some a) (h : actOk r a = false) : false = isRuleB r := by
 unfold isRuleB;have : r.Then.all (actOk r) = false := by rw [List.all_eq_false]; exact ⟨a, List.mem_of_getElem? ha, by rw [h]; simp⟩
 rw [this]; simp
theorem ru_y {r : Rule} (h1 : isNameB r.Name = true) (h2 : inR r.Priority 0 9 = true) (h3 : inR (r.If.length : Int) 1 4 = true) (h4 : inR (r.Then.length : Int) 1 2 = true) (hc : ∀ k, k < r.If.length → condOk r k = true) (ha : ∀ k, k < r.Then.length → ∀ a, r.Then[k]? = some a → actOk r a = true) {n : Nat} (hn : n = (sortT (allV r)).length) : decide ((n : Int) ≤ 6) = isRuleB r := by
 unfold isRuleB;have e1 : (List.range r.If.length).all (condOk r) = true := by rw [List.all_eq_true]; intro i h; exact hc i (by simpa using h)
 have e2 : r.Then.all (actOk r) = true := by
  rw [List.all_eq_true]; intro a hm;obtain ⟨i, hi⟩ := List.getElem?_of_mem hm;exact ha i (lS hi) a hi
 rw [h1, h2, h3, h4, e1, e2, hn, Bool.eq_iff_iff];simp;omega
theorem bv_all {r : Rule} {v : ByteArray} (h : v ∈ bvars r (r.If.length : Int)) : v ∈ allV r := by
 unfold bvars bvT at h;simp only [List.mem_flatMap, List.mem_filter] at h;obtain ⟨x, ⟨hx, _⟩, hv⟩ := h;unfold allV cvT;rw [List.mem_flatMap];refine ⟨x, by simpa using hx, ?_⟩;unfold cvars varsL at *;rw [List.mem_filter] at *;exact ⟨by simp [hv.1], hv.2⟩
theorem rv_len {r : Rule} (ha : ∀ k, k < r.Then.length → ∀ a, r.Then[k]? = some a → actOk r a = true) : (sortT (allV r ++ avT r r.Then.length)).length = (sortT (allV r)).length := by
 congr 1
 refine sortT_congr (fun y => ?_);rw [List.mem_append];refine ⟨fun h => ?_, fun h => .inl h⟩
 rcases h with h | h
 ·exact h
 ·unfold avT at h;rw [List.mem_flatMap] at h;obtain ⟨a, ham, hv⟩ := h;rw [List.take_of_length_le (Nat.le_refl _)] at ham;obtain ⟨i, hi⟩ := List.getElem?_of_mem ham;have := ha i (lS hi) a hi;unfold actOk at this;simp only [Bool.and_eq_true, List.all_eq_true] at this;have := this.2 y hv;exact bv_all (hasS_iff.1 this)
theorem hasS_sort {l : List ByteArray} {v : ByteArray} : hasS (sortT l) v = hasS l v := by rw [Bool.eq_iff_iff, hasS_iff, hasS_iff, sortT_mem]
theorem hasS_not {l : List ByteArray} {v : ByteArray} (h : hasS l v = false) : ¬ v ∈ l := fun c => by rw [hasS_iff.2 c] at h; cases h
theorem bw_zero (r : Rule) (n : Int) : [] = bwT r n 0 := by simp [bwT, bvT]
theorem bvS_zero (r : Rule) : [] = sortT (bvT r 0) := by simp [bvT, sortT]
theorem bvS_t {r : Rule} {k q : Nat} {x : Cond} (h : r.If[k]? = some x) (hk : x.Kind = 1) (hq : (sortT (varsL x.Pattern.Args)).length ≤ q) : ((sortT (varsL x.Pattern.Args)).take q).foldl putS (sortT (bvT r k)) = sortT (bvT r (k + 1)) := by
 rw [foldT_done (b := []) hq, bvT_t h hk]
theorem bvS_f {r : Rule} {k : Nat} {x : Cond} (h : r.If[k]? = some x) (hk : x.Kind ≠ 1) : sortT (bvT r k) = sortT (bvT r (k + 1)) := by rw [bvT_f h hk]
theorem bvS_end {r : Rule} {i : Nat} {n : Int} (h : r.If.length ≤ i ∨ n ≤ (i : Int)) (hin : i = 0 ∨ (i : Int) ≤ n) : sortT (bvT r i) = sortT (bvars r n) := by
 unfold bvars
 rcases h with h | h
 ·rw [bvT_cut (m := n.toNat) h (by omega)]
 ·rw [show i = n.toNat by omega]
theorem cs_done {l : List Cond} {k : Nat} (h1 : k ≤ l.length) (h2 : l.length ≤ k) : csT l k = csT l l.length := by rw [show k = l.length by omega]
theorem cvT_len (l : List Cond) (k : Nat) : (cvT l k).length ≤ sumC szCond l + 2 * l.length := by
 have h1 := flat_len (f := cvars) (c := fun x => szCond x + 2) (fun x => Nat.le_trans (cvars_len x) (by have := szCond_args x; omega)) (l.take k);have h2 := sumC_take_le l (fun x => szCond x + 2) k;have h3 : sumC (fun x => szCond x + 2) l = sumC szCond l + 2 * l.length := by
  clear h1 h2
  induction l with
  | nil => rfl
  | cons x l ih => simp only [sumC, List.map_cons, List.sum_cons, List.length_cons] at ih ⊢; omega
 unfold cvT; omega
theorem avT_len (r : Rule) (k : Nat) : (avT r k).length ≤ sumC szAction r.Then := by
 refine Nat.le_trans (flat_len (c := szAction) (fun x => Nat.le_trans (varsL_len _) (szPat_args x.Pattern)) _) (sumC_take_le r.Then szAction k)
theorem szAct_args (x : Action) : x.Pattern.Args.length ≤ szAction x := szPat_args x.Pattern
theorem cvT_step {l : List Cond} {k : Nat} {x : Cond} (h : l[k]? = some x) : cvT l k ++ cvars x = cvT l (k + 1) := by
 unfold cvT; rw [take_snoc h, List.flatMap_append]; simp
theorem cvS_zero (l : List Cond) : [] = sortT (cvT l 0) := by simp [cvT, sortT]
theorem cvS_t {l : List Cond} {k q : Nat} {x : Cond} (h : l[k]? = some x) (hq : (sortT (cvars x)).length ≤ q) : ((sortT (cvars x)).take q).foldl putS (sortT (cvT l k)) = sortT (cvT l (k + 1)) := by
 rw [foldT_done (b := []) hq, cvT_step h]
theorem avS_zero {r : Rule} {k : Nat} (h1 : k ≤ r.If.length) (h2 : r.If.length ≤ k) : sortT (cvT r.If k) = sortT (allV r ++ avT r 0) := by
 rw [show k = r.If.length by omega]; simp [allV, avT]
theorem avS_t {r : Rule} {k q : Nat} {x : Action} (h : r.Then[k]? = some x) (hq : (sortT (varsL x.Pattern.Args)).length ≤ q) : ((sortT (varsL x.Pattern.Args)).take q).foldl putS (sortT (allV r ++ avT r k)) = sortT (allV r ++ avT r (k + 1)) := by
 rw [foldT_done (b := []) hq];unfold avT;rw [take_snoc h, List.flatMap_append]; simp
theorem avS_done {r : Rule} {k : Nat} (h1 : k ≤ r.Then.length) (h2 : r.Then.length ≤ k) : sortT (allV r ++ avT r k) = sortT (allV r ++ avT r r.Then.length) := by rw [show k = r.Then.length by omega]
theorem allV_len (r : Rule) : (allV r).length ≤ sumC szCond r.If + 2 * r.If.length := cvT_len r.If _
theorem els_t1s {r : Rule} {k : Int} {v : ByteArray} {i : Nat} {x : Cond} (h : r.If[i]? = some x) (hk : (i : Int) ≠ k) (hc : hasS (sortT (cvars x)) v = true) : true = elsB r k v := els_t1 h hk (sortT_mem.1 (hasS_iff.1 hc))
theorem elsC_f2s {r : Rule} {k : Int} {v : ByteArray} {i : Nat} {x : Cond} (h : r.If[i]? = some x) (hc : hasS (sortT (cvars x)) v = false) : elsC r k v i = false := elsC_f2 h (fun c => hasS_not hc (sortT_mem.2 c))
theorem els_t2i {r : Rule} {k : Int} {v : ByteArray} {i : Nat} {a : Action} (hv : isVarB v = true) (h : r.Then[i]? = some a) (hc : hasS a.Pattern.Args v = true) : true = elsB r k v := els_t2 h ((var_args hv).2 (hasS_iff.1 hc))
theorem els_t2s {r : Rule} {k : Int} {v : ByteArray} {i : Nat} {a : Action} (h : r.Then[i]? = some a) (hc : hasS (sortT (varsL a.Pattern.Args)) v = true) : true = elsB r k v := els_t2 h (sortT_mem.1 (hasS_iff.1 hc))
theorem elsA_i {v : ByteArray} {a : Action} (hv : isVarB v = true) (hc : hasS a.Pattern.Args v = false) : elsA v a = false := by
 unfold elsA; rw [Bool.eq_false_iff]; intro c;exact hasS_not hc ((var_args hv).1 (hasS_iff.1 c))
theorem elsA_s {v : ByteArray} {a : Action} (hc : hasS (sortT (varsL a.Pattern.Args)) v = false) : elsA v a = false := by unfold elsA; rw [← hasS_sort]; exact hc
def fitB (r : Rule) (k : Int) : Bool := match r.If[k.toNat]? with | none => false | some x => (cvars x).all (okV r k x)
theorem okV_t1 {r : Rule} {k : Int} {x : Cond} {v : ByteArray} (h : x.Kind = 1) : okV r k x v = true := by simp [okV, h]
theorem okV_t2 {r : Rule} {k : Int} {x : Cond} {v : ByteArray} (h : hasS (sortT (bvars r k)) v = true) : okV r k x v = true := by rw [hasS_sort] at h; simp [okV, h]
theorem okV_t3 {r : Rule} {k : Int} {x : Cond} {v : ByteArray} (h : x.Kind = 2) (h2 : elsB r k v = false) : okV r k x v = true := by simp [okV, h, h2]
theorem okV_f {r : Rule} {k : Int} {x : Cond} {v : ByteArray} (h1 : x.Kind ≠ 1) (h2 : hasS (sortT (bvars r k)) v = false) (h3 : x.Kind ≠ 2 ∨ elsB r k v = true) : okV r k x v = false := by
 rw [hasS_sort] at h2
 rcases h3 with h3 | h3 <;> simp [okV, h1, h2, h3]
theorem okV_sf {r : Rule} {k : Int} {x : Cond} {v : ByteArray} (h1 : isTestB x = true) (h2 : hasS (sortT (bvars r k)) v = false) : okV r k x v = false := by
 unfold isTestB at h1;simp only [Bool.and_eq_true, decide_eq_true_eq] at h1;exact okV_f (by omega) h2 (.inl (by omega))
theorem okV_st {r : Rule} {k : Int} {x : Cond} {v : ByteArray} (hc : isCondB x = true) (h1 : isTestB x = false) (h2 : x.Kind ≠ 2 ∨ elsB r k v = false) : okV r k x v = true := by
 have hk := cond_kind hc;unfold isTestB at h1;rw [hc, Bool.true_and, decide_eq_false_iff_not] at h1
 rcases h2 with h2 | h2
 ·exact okV_t1 (by omega)
 ·by_cases e : x.Kind = 1
  ·exact okV_t1 e
  ·exact okV_t3 (by omega) h2
theorem all_sort {l : List ByteArray} {p : ByteArray → Bool} (h : ∀ i, i < (sortT l).length → ∀ y, (sortT l)[i]? = some y → p y = true) : l.all p = true := by
 rw [List.all_eq_true]; intro y hy;obtain ⟨i, hi⟩ := List.getElem?_of_mem (sortT_mem.2 hy);exact h i (lS hi) y hi
theorem all_sortn {l : List ByteArray} {p : ByteArray → Bool} {i : Nat} {y : ByteArray} (hi : (sortT l)[i]? = some y) (h : p y = false) : l.all p = false := by
 rw [List.all_eq_false]; exact ⟨y, sortT_mem.1 (List.mem_of_getElem? hi), by rw [h]; simp⟩
theorem fit_y {r : Rule} {k : Int} {x : Cond} (hx : r.If[k.toNat]? = some x) (h : ∀ i, i < (sortT (cvars x)).length → ∀ y, (sortT (cvars x))[i]? = some y → okV r k x y = true) : true = fitB r k := by
 unfold fitB; rw [hx]; exact (all_sort h).symm
theorem fit_n {r : Rule} {k : Int} {x : Cond} {i : Nat} {y : ByteArray} (hx : r.If[k.toNat]? = some x) (hi : (sortT (cvars x))[i]? = some y) (h : okV r k x y = false) : false = fitB r k := by
 unfold fitB; rw [hx]; exact (all_sortn hi h).symm
theorem condOk_t {r : Rule} {k : Nat} {x : Cond} (h : r.If[k]? = some x) (h1 : isCondB x = true) (h2 : k ≠ 0 ∨ x.Kind = 1) (h3 : fitB r (k : Int) = true) : condOk r k = true := by
 unfold fitB at h3;rw [Int.toNat_natCast, h] at h3;unfold condOk;rw [h];simp only [h1, h3, Bool.and_true, Bool.true_and];simpa using h2
theorem condOk_ts {r : Rule} {k : Nat} {x : Cond} (h : r.If[k]? = some x) (h1 : isCondB x = true) (h2 : k ≠ 0 ∨ x.Kind = 1) (h3 : ∀ i, i < (sortT (cvars x)).length → ∀ y, (sortT (cvars x))[i]? = some y → okV r (k : Int) x y = true) : condOk r k = true :=
 condOk_t h h1 h2 (fit_y (by rw [Int.toNat_natCast]; exact h) h3).symm
theorem condOk_f1 {r : Rule} {k : Nat} {x : Cond} (h : r.If[k]? = some x) (h1 : isCondB x = false) : condOk r k = false := by simp [condOk, h, h1]
theorem condOk_f2 {r : Rule} {k : Nat} {x : Cond} (h : r.If[k]? = some x) (h0 : k = 0) (h1 : x.Kind ≠ 1) : condOk r k = false := by subst h0; simp [condOk, h, h1]
theorem condOk_f3 {r : Rule} {k : Nat} {x : Cond} (h : r.If[k]? = some x) (h3 : fitB r (k : Int) = false) : condOk r k = false := by
 unfold fitB at h3;rw [Int.toNat_natCast, h] at h3;unfold condOk;rw [h];simp only [h3, Bool.and_false]
theorem condOk_f3s {r : Rule} {k i : Nat} {x : Cond} {y : ByteArray} (h : r.If[k]? = some x) (hi : (sortT (cvars x))[i]? = some y) (h3 : okV r (k : Int) x y = false) : condOk r k = false :=
 condOk_f3 h (fit_n (by rw [Int.toNat_natCast]; exact h) hi h3).symm
theorem actOk_t {r : Rule} {a : Action} (h1 : isActionB a = true) (h2 : ∀ i, i < (varsL a.Pattern.Args).length → ∀ y, (varsL a.Pattern.Args)[i]? = some y → hasS (sortT (bvars r (r.If.length : Int))) y = true) : actOk r a = true := by
 unfold actOk;rw [h1, Bool.true_and, List.all_eq_true];intro y hy;obtain ⟨i, hi⟩ := List.getElem?_of_mem hy;rw [← hasS_sort]; exact h2 i (lS hi) y hi
theorem actOk_ts {r : Rule} {a : Action} (h1 : isActionB a = true) (h2 : ∀ i, i < (sortT (varsL a.Pattern.Args)).length → ∀ y, (sortT (varsL a.Pattern.Args))[i]? = some y → hasS (sortT (bvars r (r.If.length : Int))) y = true) : actOk r a = true := by
 unfold actOk;rw [h1, Bool.true_and];exact all_sort (fun i hi y hy => by rw [← hasS_sort]; exact h2 i hi y hy)
theorem actOk_f1 {r : Rule} {a : Action} (h1 : isActionB a = false) : actOk r a = false := by simp [actOk, h1]
theorem actOk_f2 {r : Rule} {a : Action} {i : Nat} {y : ByteArray} (hi : (varsL a.Pattern.Args)[i]? = some y) (h : hasS (sortT (bvars r (r.If.length : Int))) y = false) : actOk r a = false := by
 unfold actOk;rw [hasS_sort] at h;have : (varsL a.Pattern.Args).all (fun v => hasS (bvars r (r.If.length : Int)) v) = false := by rw [List.all_eq_false]; exact ⟨y, List.mem_of_getElem? hi, by rw [h]; simp⟩
 rw [this, Bool.and_false]
theorem actOk_f2s {r : Rule} {a : Action} {i : Nat} {y : ByteArray} (hi : (sortT (varsL a.Pattern.Args))[i]? = some y) (h : hasS (sortT (bvars r (r.If.length : Int))) y = false) : actOk r a = false := by
 obtain ⟨j, hj⟩ := List.getElem?_of_mem (sortT_mem.1 (List.mem_of_getElem? hi));exact actOk_f2 hj h
theorem cond_sz {r : Rule} {k : Nat} {x : Cond} (h : r.If[k]? = some x) : szCond x ≤ sumC szCond r.If := sumC_mem (c := szCond) (List.mem_of_getElem? h)
theorem act_sz {r : Rule} {k : Nat} {x : Action} (h : r.Then[k]? = some x) : szAction x ≤ sumC szAction r.Then := sumC_mem (c := szAction) (List.mem_of_getElem? h)
theorem elsC_f0 {r : Rule} {k : Int} {v : ByteArray} {i : Nat} (hk : (i : Int) = k) : elsC r k v i = false := by
 unfold elsC
 split
 ·rfl
 ·simp [hk]
theorem are_y2 {l : List Rule} (h : l.length ≤ 6) (hi : ∀ i, i < l.length → areOk l i = true) : true = areRulesB l := by rw [← are_y hi, decide_eq_true h]
theorem are_y3 {l : List Rule} (hi : ∀ i, i < l.length → areOk l i = true) : decide ((l.length : Int) ≤ 6) = areRulesB l := by
 rw [← are_y hi, Bool.eq_iff_iff]; simp; omega
end Go.Sy
namespace Go.Sy
open Go
def dgsN (n : Nat) (s : ByteArray) : ByteArray := if h : n = 0 then s else dgsN (n / 10) ((⟨#[UInt8.ofNat (48 + n % 10)]⟩ : ByteArray) ++ s)
termination_by n
decreasing_by omega
def markS (k : Int) : ByteArray := if k ≤ 0 then ⟨#[109, 48]⟩ else (⟨#[109]⟩ : ByteArray) ++ dgsN k.toNat ⟨#[]⟩
def dg (k nn : Int) (s : ByteArray) : Prop := 0 ≤ nn ∧ nn ≤ k ∧ dgsN nn.toNat s = dgsN k.toNat ⟨#[]⟩ ∧ (s.size : Int) + nn ≤ k
theorem mtmod10 {n : Int} (h : 0 ≤ n) : Int.tmod n 10 = ((n.toNat % 10 : Nat) : Int) := by
 rw [Int.tmod_eq_emod_of_nonneg h];omega
theorem dg_zero {k : Int} (h : 0 ≤ k) : dg k k ⟨#[]⟩ := ⟨h, Int.le_refl _, rfl, by
 have : (⟨#[]⟩ : ByteArray).size = 0 := rfl
 omega⟩
theorem dg_step {k nn : Int} {s : ByteArray} (h : dg k nn s) (hz : 0 < nn) : dg k (nn / 10) ((⟨#[UInt8.ofNat (48 + Int.tmod nn 10).toNat]⟩ : ByteArray) ++ s) := by
 obtain ⟨h0, h1, h2, h3⟩ := h;refine ⟨by omega, by omega, ?_, ?_⟩
 ·rw [← h2];have e2 : (nn / 10).toNat = nn.toNat / 10 := by omega
  have e3 : (48 + Int.tmod nn 10).toNat = 48 + nn.toNat % 10 := by rw [mtmod10 h0]; omega
  rw [e2, e3]
  conv => rhs; rw [dgsN, dif_neg (by omega)]
 ·rw [ByteArray.size_append];have : (⟨#[UInt8.ofNat (48 + Int.tmod nn 10).toNat]⟩ : ByteArray).size = 1 := rfl;omega
theorem dg_done {k nn : Int} {s : ByteArray} (h : dg k nn s) (hz : ¬ 0 < nn) (hk : ¬ k ≤ 0) : (⟨#[109]⟩ : ByteArray) ++ s = markS k := by
 obtain ⟨h0, h1, h2, h3⟩ := h;have e : nn.toNat = 0 := by omega
 rw [e, dgsN, dif_pos rfl] at h2;unfold markS;rw [if_neg hk, h2]
theorem mark_low {k : Int} (h : k ≤ 0) : (⟨#[109, 48]⟩ : ByteArray) = markS k := by unfold markS; rw [if_pos h]
section
variable {α : Type} {f : Int → α → α} {c : α → Nat}
theorem mk_set {a : List α} {k kk : Int} {i : Nat} {x r : α} (h : i ≤ a.length) (hx : (mapAt f c k a i)[i]? = some x) (hk : kk = k + sumC c (a.take i)) (hr : r = f kk x) : (mapAt f c k a i).set i r = mapAt f c k a (i + 1) := by
 rw [hr, hk];exact mapAt_set h hx
theorem mk_stepH {a : List α} {k kk : Int} {i : Nat} {x : α} (hx : a[i]? = some x) (hk : kk = k + sumC c (a.take i)) : kk + c x = k + sumC c (a.take (i + 1)) ∧ sumC c (a.take (i + 1)) ≤ sumC c a := by
 refine ⟨?_, sumC_take_le a c (i + 1)⟩;rw [sumC_take hx, hk];omega
theorem mk_step {a : List α} {k kk : Int} {i : Nat} {x : α} (h : i ≤ a.length) (hx : (mapAt f c k a i)[i]? = some x) (hk : kk = k + sumC c (a.take i)) : kk + c x = k + sumC c (a.take (i + 1)) ∧ sumC c (a.take (i + 1)) ≤ sumC c a := by
 rw [mapAt_get h] at hx;exact mk_stepH hx hk
end
def fS (k : Int) (_ : ByteArray) : ByteArray := markS k
def cS (_ : ByteArray) : Nat := 1
abbrev mkSs (k : Int) (l : List ByteArray) : List ByteArray := mapS fS cS k l
theorem sumS (l : List ByteArray) : sumC cS l = l.length := by
 induction l with
 | nil => rfl
 | cons x l ih => simp only [sumC, List.map_cons, List.sum_cons, cS, List.length_cons] at ih ⊢; omega
theorem mkS_set {a : List ByteArray} {k kk : Int} {i : Nat} (h : i < a.length) (hk : kk = k + i) : (mapAt fS cS k a i).set i (markS kk) = mapAt fS cS k a (i + 1) := by
 have hx : a[i]? = some a[i] := by simp [h]
 rw [← mapAt_set (f := fS) (c := cS) (k := k) (Nat.le_of_lt h) (by rw [mapAt_get (Nat.le_of_lt h)]; exact hx)];simp only [fS, sumS, List.length_take, Nat.min_eq_left (Nat.le_of_lt h), hk]
theorem mkS_fix {a : List ByteArray} {k : Int} {x : ByteArray} {i : Nat} (h : a = mkSs k a) (hx : a[i]? = some x) : x = markS (k + i) := by
 have := mapS_fix h hx;simp only [fS, sumS, List.length_take, Nat.min_eq_left (Nat.le_of_lt (List.getElem?_eq_some_iff.1 hx).1)] at this;exact this
theorem mkS_idem (k : Int) (l : List ByteArray) : mkSs k (mkSs k l) = mkSs k l := mapS_idem (f := fS) (c := cS) (fun _ _ => rfl) (fun _ _ => rfl) l k
theorem mkI_idem2 (k : Int) (l : List Int) : mkI k (mkI k l) = mkI k l := (mkI_idem k l).symm
def fCo (k : Int) (x : Cond) : Cond := ⟨k, ⟨markS (k + 1), mkSs (k + 1 + 1) x.Pattern.Args⟩, markS (k + 1 + 1 + x.Pattern.Args.length), markS (k + 1 + 1 + x.Pattern.Args.length + 1)⟩
def cCo (x : Cond) : Nat := 4 + x.Pattern.Args.length
def fAc (k : Int) (x : Action) : Action := ⟨k, ⟨markS (k + 1), mkSs (k + 1 + 1) x.Pattern.Args⟩⟩
def cAc (x : Action) : Nat := 2 + x.Pattern.Args.length
abbrev mkCs (k : Int) (l : List Cond) : List Cond := mapS fCo cCo k l
abbrev mkAs (k : Int) (l : List Action) : List Action := mapS fAc cAc k l
def fRu (k : Int) (r : Rule) : Rule := ⟨markS k, k + 1, mkCs (k + 1 + 1) r.If, mkAs (k + 1 + 1 + sumC cCo r.If) r.Then⟩
def cRu (r : Rule) : Nat := 2 + sumC cCo r.If + sumC cAc r.Then
def fSt (k : Int) (s : Stamp) : Stamp := ⟨⟨markS k, mkSs (k + 1) s.Fact.Args⟩, k + 1 + s.Fact.Args.length⟩
def cSt (s : Stamp) : Nat := 2 + s.Fact.Args.length
def fFi (k : Int) (x : Firing) : Firing := ⟨markS k, mkI (k + 1) x.Times⟩
def cFi (x : Firing) : Nat := 1 + x.Times.length
theorem sum_le {α : Type} {c d : α → Nat} {m : Nat} (h : ∀ x, c x ≤ m + 4 * d x) : ∀ l : List α, sumC c l ≤ m * l.length + 4 * sumC d l
 | [] => by simp [sumC]
 | x :: l => by
  have ih := sum_le h l;have h1 := h x;simp only [sumC, List.map_cons, List.sum_cons, List.length_cons, Nat.mul_add] at ih ⊢;omega
theorem cRu_le (r : Rule) : cRu r ≤ 2 + 4 * szRule r := by
 have h1 := sum_le (c := cCo) (d := szCond) (m := 4) (fun x => by have := szCond_args x; unfold cCo; omega) r.If;have h2 := sum_le (c := cAc) (d := szAction) (m := 2) (fun x => by have := szAct_args x; unfold cAc; omega) r.Then;unfold cRu szRule szL;omega
theorem cRu_sum (l : List Rule) : sumC cRu l ≤ 4 * szL szRule l := by
 have := sum_le cRu_le l;unfold szL;omega
end Go.Sy
