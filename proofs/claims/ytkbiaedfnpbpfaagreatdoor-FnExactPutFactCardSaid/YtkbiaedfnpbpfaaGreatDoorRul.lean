/-
  Texts in order, patterns, conditions, rules: what is valid.
  Conditions: those that each theorem states.
-/
import Derived.Test.YtkbiaedfnpbpfaaGreatDoorEng
import Derived.Test.YtkbiaedfnpbpfaaGreatDoorOwn2
import Derived.Sort.EncStr
namespace Go.Sy
open Go
/-! ### the order of texts -/
theorem bl_irrefl : ∀ l : List UInt8, Op.bytesLess l l = false
  | [] => rfl
  | a :: l => by
    unfold Op.bytesLess
    have := bl_irrefl l
    simp [this]
theorem bl_trans : ∀ {a b c : List UInt8}, Op.bytesLess a b = true → Op.bytesLess b c = true → Op.bytesLess a c = true
  | _, [], _, h, _ => by cases ‹List UInt8› <;> simp [Op.bytesLess] at h
  | _, _ :: _, [], _, h => by simp [Op.bytesLess] at h
  | [], _ :: _, _ :: _, _, _ => by simp [Op.bytesLess]
  | x :: a, y :: b, z :: c, h1, h2 => by
    unfold Op.bytesLess at h1 h2 ⊢
    simp only [Bool.or_eq_true, decide_eq_true_eq, Bool.and_eq_true, beq_iff_eq] at h1 h2 ⊢
    rcases h1 with h1 | ⟨rfl, h1⟩ <;> rcases h2 with h2 | ⟨rfl, h2⟩
    · exact .inl (UInt8.lt_trans h1 h2)
    · exact .inl h1
    · exact .inl h2
    · exact .inr ⟨rfl, bl_trans h1 h2⟩
theorem bl_tot : ∀ {a b : List UInt8}, Op.bytesLess a b = false → Op.bytesLess b a = false → a = b
  | [], [], _, _ => rfl
  | [], _ :: _, h, _ => by simp [Op.bytesLess] at h
  | _ :: _, [], _, h => by simp [Op.bytesLess] at h
  | x :: a, y :: b, h1, h2 => by
    unfold Op.bytesLess at h1 h2
    simp only [Bool.or_eq_false_iff, decide_eq_false_iff_not, Bool.and_eq_false_iff, beq_eq_false_iff_ne] at h1 h2
    have hxy : x = y := by
      have h3 : ¬ x.toNat < y.toNat := h1.1
      have h4 : ¬ y.toNat < x.toNat := h2.1
      exact UInt8.toNat_inj.1 (by omega)
    subst hxy
    have k1 : Op.bytesLess a b = false := by rcases h1.2 with h | h; (· exact absurd rfl h); (· exact h)
    have k2 : Op.bytesLess b a = false := by rcases h2.2 with h | h; (· exact absurd rfl h); (· exact h)
    rw [bl_tot k1 k2]
theorem tl_eq (a : ByteArray) : a.toList = a.data.toList := ByteArray.toList_eq a
theorem rb_ext {a b : ByteArray} (h : a.data.toList = b.data.toList) : a = b := by
  cases a; cases b
  simp only at h
  congr 1
  exact Array.toList_inj.1 h
theorem ltS_irrefl (a : ByteArray) : ltS a a = false := bl_irrefl _
theorem ltS_trans {a b c : ByteArray} (h1 : ltS a b = true) (h2 : ltS b c = true) : ltS a c = true := bl_trans h1 h2
theorem ltS_tot {a b : ByteArray} (h1 : ltS a b = false) (h2 : ltS b a = false) : a = b := by
  have := bl_tot h1 h2
  rw [tl_eq, tl_eq] at this
  exact rb_ext this
/-! ### texts in order, each once -/
abbrev AscT (l : List ByteArray) : Prop := l.Pairwise (fun x y => ltS x y = true)
def putS : List ByteArray → ByteArray → List ByteArray
  | [], s => [s]
  | x :: l, s => if ltS x s = true then x :: putS l s else if x = s then x :: l else s :: x :: l
theorem putS_mem : ∀ {l : List ByteArray} {s y : ByteArray}, y ∈ putS l s ↔ y ∈ l ∨ y = s
  | [], s, y => by simp [putS]
  | x :: l, s, y => by
    unfold putS
    split
    · rw [List.mem_cons, putS_mem, List.mem_cons]; exact ⟨fun h => by rcases h with h | h | h <;> simp [h], fun h => by rcases h with (h | h) | h <;> simp [h]⟩
    · split
      · rename_i e; subst e; rw [List.mem_cons]; exact ⟨fun h => .inl h, fun h => by rcases h with h | h <;> simp_all⟩
      · simp only [List.mem_cons]; exact ⟨fun h => by rcases h with h | h | h <;> simp [h], fun h => by rcases h with (h | h) | h <;> simp [h]⟩
theorem putS_asc : ∀ {l : List ByteArray} {s : ByteArray}, AscT l → AscT (putS l s)
  | [], s, _ => by simp [putS, AscT]
  | x :: l, s, h => by
    have h2 := List.pairwise_cons.1 h
    unfold putS
    split
    · rename_i hx
      refine List.pairwise_cons.2 ⟨fun y hy => ?_, putS_asc h2.2⟩
      rcases putS_mem.1 hy with hy | hy
      · exact h2.1 y hy
      · rw [hy]; exact hx
    · split
      · exact h
      · rename_i hx hne
        have hlt : ltS s x = true := by
          cases e : ltS s x with
          | true => rfl
          | false => exact absurd (ltS_tot (by simpa using hx) e) hne
        refine List.pairwise_cons.2 ⟨fun y hy => ?_, h⟩
        rcases List.mem_cons.1 hy with rfl | hy
        · exact hlt
        · exact ltS_trans hlt (h2.1 y hy)
def sortT (l : List ByteArray) : List ByteArray := l.foldl putS []
theorem foldS_asc : ∀ (l : List ByteArray) {a : List ByteArray}, AscT a → AscT (l.foldl putS a)
  | [], _, h => h
  | x :: l, _, h => foldS_asc l (putS_asc h)
theorem foldS_mem : ∀ (l : List ByteArray) {a : List ByteArray} {y : ByteArray}, y ∈ l.foldl putS a ↔ y ∈ a ∨ y ∈ l
  | [], a, y => by simp
  | x :: l, a, y => by
    rw [List.foldl_cons, foldS_mem l, putS_mem, List.mem_cons]
    exact ⟨fun h => by rcases h with (h | h) | h <;> simp [h], fun h => by rcases h with h | h | h <;> simp [h]⟩
theorem sortT_asc (l : List ByteArray) : AscT (sortT l) := foldS_asc l List.Pairwise.nil
theorem sortT_mem {l : List ByteArray} {y : ByteArray} : y ∈ sortT l ↔ y ∈ l := by
  unfold sortT; rw [foldS_mem]; simp
theorem ascT_eq : ∀ {a b : List ByteArray}, AscT a → AscT b → (∀ y, y ∈ a ↔ y ∈ b) → a = b
  | [], [], _, _, _ => rfl
  | [], y :: b, _, _, h => by have := (h y).2 (by simp); cases this
  | x :: a, [], _, _, h => by have := (h x).1 (by simp); cases this
  | x :: a, y :: b, ha, hb, h => by
    have ha2 := List.pairwise_cons.1 ha
    have hb2 := List.pairwise_cons.1 hb
    have e : x = y := by
      rcases List.mem_cons.1 ((h x).1 (by simp)) with e | hx
      · exact e
      · rcases List.mem_cons.1 ((h y).2 (by simp)) with e | hy
        · exact e.symm
        · have := ltS_trans (ha2.1 y hy) (hb2.1 x hx)
          rw [ltS_irrefl] at this; cases this
    subst e
    congr 1
    refine ascT_eq ha2.2 hb2.2 (fun z => ⟨fun hz => ?_, fun hz => ?_⟩)
    · rcases List.mem_cons.1 ((h z).1 (by simp [hz])) with e | hz2
      · subst e
        have := ha2.1 z hz
        rw [ltS_irrefl] at this; cases this
      · exact hz2
    · rcases List.mem_cons.1 ((h z).2 (by simp [hz])) with e | hz2
      · subst e
        have := hb2.1 z hz
        rw [ltS_irrefl] at this; cases this
      · exact hz2
theorem sortT_of {l a : List ByteArray} (ha : AscT a) (h : ∀ y, y ∈ a ↔ y ∈ l) : a = sortT l := ascT_eq ha (sortT_asc l) (fun y => by rw [h, sortT_mem])
theorem sortT_congr {l m : List ByteArray} (h : ∀ y, y ∈ l ↔ y ∈ m) : sortT l = sortT m := sortT_of (sortT_asc l) (fun y => by rw [sortT_mem, h])
theorem sortT_snoc (l : List ByteArray) (x : ByteArray) : putS (sortT l) x = sortT (l ++ [x]) := by unfold sortT; rw [List.foldl_append]; rfl
theorem putS_len (l : List ByteArray) (s : ByteArray) : (putS l s).length ≤ l.length + 1 := by
  induction l with
  | nil => simp [putS]
  | cons x l ih =>
    unfold putS
    split
    · simp only [List.length_cons]; omega
    · split <;> simp
theorem sortT_len (l : List ByteArray) : (sortT l).length ≤ l.length := by
  have key : ∀ (l a : List ByteArray), (l.foldl putS a).length ≤ a.length + l.length := by
    intro l
    induction l with
    | nil => intro a; simp
    | cons x l ih =>
      intro a
      have h1 := ih (putS a x)
      have h2 := putS_len a x
      rw [List.foldl_cons, List.length_cons]; omega
  have := key l []
  simpa [sortT] using this
/-- the loop of l1Put -/
def putD2 (l : List ByteArray) (s : ByteArray) (k : Nat) : Bool := (l.take k).any (fun x => !(ltS x s))
def putT2 (l : List ByteArray) (s : ByteArray) (k : Nat) : List ByteArray := if putD2 l s k = true then putS (l.take k) s else l.take k
theorem putD2_step {l : List ByteArray} {s x : ByteArray} {k : Nat} (h : l[k]? = some x) : putD2 l s (k + 1) = (putD2 l s k || !(ltS x s)) := by
  unfold putD2; rw [take_snoc h, List.any_append]; simp
theorem putS_snoc_t : ∀ {l : List ByteArray} {s y : ByteArray}, l.any (fun x => !(ltS x s)) = true → putS (l ++ [y]) s = putS l s ++ [y]
  | [], _, _, h => by simp at h
  | x :: l, s, y, h => by
    simp only [List.cons_append, putS]
    by_cases e : ltS x s = true
    · rw [if_pos e, if_pos e]
      have : l.any (fun x => !(ltS x s)) = true := by simpa [e] using h
      rw [putS_snoc_t this]; rfl
    · rw [if_neg e, if_neg e]
      by_cases e2 : x = s
      · rw [if_pos e2, if_pos e2]; rfl
      · rw [if_neg e2, if_neg e2]; rfl
theorem putS_snoc_f : ∀ {l : List ByteArray} {s : ByteArray} (r : List ByteArray), l.any (fun x => !(ltS x s)) = false → putS (l ++ r) s = l ++ putS r s
  | [], _, _, _ => rfl
  | x :: l, s, r, h => by
    simp only [List.any_cons, Bool.or_eq_false_iff, Bool.not_eq_false'] at h
    simp only [List.cons_append, putS]
    rw [if_pos h.1, putS_snoc_f r h.2]
theorem putT2_keep {l : List ByteArray} {s x : ByteArray} {k : Nat} (h : l[k]? = some x) (hd : putD2 l s k = true ∨ ltS x s = true ∨ x = s) : putT2 l s k ++ [x] = putT2 l s (k + 1) := by
  unfold putT2
  rw [putD2_step h, take_snoc h]
  cases e : putD2 l s k with
  | true =>
    simp only [Bool.true_or, if_true]
    exact (putS_snoc_t e).symm
  | false =>
    rw [e] at hd
    rcases hd with hd | hd | hd
    · cases hd
    · simp [hd]
    · subst hd
      simp only [ltS_irrefl, Bool.not_false, Bool.or_true, if_true, Bool.false_eq_true, if_false]
      rw [putS_snoc_f [x] e]
      simp [putS, ltS_irrefl]
theorem putT2_put {l : List ByteArray} {s x : ByteArray} {k : Nat} (h : l[k]? = some x) (hd : putD2 l s k = false) (h1 : ltS x s = false) (h2 : x ≠ s) : putT2 l s k ++ [s] ++ [x] = putT2 l s (k + 1) := by
  unfold putT2
  rw [putD2_step h, take_snoc h, hd, h1]
  simp only [Bool.not_false, Bool.or_true, if_true, Bool.false_eq_true, if_false]
  rw [putS_snoc_f [x] hd]
  simp [putS, h1, h2]
theorem putT2_done {l : List ByteArray} {s : ByteArray} {k : Nat} (hk : l.length ≤ k) (hd : putD2 l s k = true) : putT2 l s k = putS l s := by
  unfold putT2; rw [if_pos hd, List.take_of_length_le hk]
theorem putT2_last {l : List ByteArray} {s : ByteArray} {k : Nat} (hk : l.length ≤ k) (hd : putD2 l s k = false) : putT2 l s k ++ [s] = putS l s := by
  have h2 : l.any (fun x => !(ltS x s)) = false := by unfold putD2 at hd; rwa [List.take_of_length_le hk] at hd
  have h3 := putS_snoc_f (l := l) (s := s) [] h2
  rw [List.append_nil] at h3
  unfold putT2
  rw [hd]
  simp only [Bool.false_eq_true, if_false]
  rw [List.take_of_length_le hk, h3]; rfl
theorem putT2_len (l : List ByteArray) (s : ByteArray) (k : Nat) : (putT2 l s k).length ≤ k + 1 := by
  unfold putT2
  have h1 : (l.take k).length ≤ k := by rw [List.length_take]; omega
  split
  · have := putS_len (l.take k) s; omega
  · omega
theorem putD2_s {l : List ByteArray} {s x : ByteArray} {k : Nat} {dn dn' : Bool} (h : l[k]? = some x) (hd : dn = putD2 l s k) (e : dn' = (dn || !(ltS x s))) : dn' = putD2 l s (k + 1) := by rw [putD2_step h, ← hd]; exact e
/-! ### sorted by the library, then each once -/
def srtS (l : List ByteArray) : List ByteArray := ((l.map (·.data.toList)).mergeSort fun x y => decide (x ≤ y)).map (fun x => ⟨x.toArray⟩)
theorem srtS_len (l : List ByteArray) : (srtS l).length = l.length := by simp [srtS, List.length_mergeSort]
theorem srtS_mem {l : List ByteArray} {y : ByteArray} : y ∈ srtS l ↔ y ∈ l := by
  unfold srtS
  rw [List.mem_map]
  constructor
  · rintro ⟨x, hx, rfl⟩
    obtain ⟨z, hz, rfl⟩ := List.mem_map.1 ((List.mergeSort_perm _ _).mem_iff.1 hx)
    have : (⟨z.data.toList.toArray⟩ : ByteArray) = z := by apply rb_ext; simp
    rw [this]; exact hz
  · intro hy
    exact ⟨y.data.toList, (List.mergeSort_perm _ _).mem_iff.2 (List.mem_map_of_mem hy), by apply rb_ext; simp⟩
theorem bl_lt : ∀ {a b : List UInt8}, Op.bytesLess a b = true ↔ a < b
  | _, [] => by
    cases ‹List UInt8› <;> simp [Op.bytesLess]
  | [], _ :: _ => by simp [Op.bytesLess]
  | x :: a, y :: b => by
    unfold Op.bytesLess
    simp only [Bool.or_eq_true, decide_eq_true_eq, Bool.and_eq_true, beq_iff_eq, bl_lt (a := a) (b := b)]
    exact List.cons_lt_cons_iff.symm
theorem srtS_pw (l : List ByteArray) : (srtS l).Pairwise (fun x y => ltS y x = false) := by
  unfold srtS
  rw [List.pairwise_map]
  refine List.Pairwise.imp (fun {a b} (hab : decide (a ≤ b) = true) => ?_) (List.pairwise_mergeSort (fun a b c h1 h2 => ?_) (fun a b => ?_) _)
  · rw [decide_eq_true_eq] at hab
    rw [Bool.eq_false_iff]
    intro h
    unfold ltS at h
    rw [tl_eq, tl_eq] at h
    simp only [] at h
    rw [bl_lt] at h
    exact List.not_lt.2 hab h
  · rw [decide_eq_true_eq] at *
    exact List.le_trans h1 h2
  · rw [Bool.or_eq_true, decide_eq_true_eq, decide_eq_true_eq]
    exact List.le_total a b
/-- the loop that leaves doubles out -/
def onceT (l : List ByteArray) : Nat → List ByteArray
  | 0 => []
  | k + 1 => match l[k]? with
    | none => onceT l k
    | some x => if k = 0 ∨ l[k - 1]? ≠ some x then onceT l k ++ [x] else onceT l k
theorem onceT_t {l : List ByteArray} {k : Nat} {x : ByteArray} (h : l[k]? = some x) (hc : k = 0 ∨ l[k - 1]? ≠ some x) : onceT l k ++ [x] = onceT l (k + 1) := by
  simp only [onceT, h]; rw [if_pos hc]
theorem onceT_f {l : List ByteArray} {k : Nat} {x : ByteArray} (h : l[k]? = some x) (h0 : k ≠ 0) (hc : l[k - 1]? = some x) : onceT l k = onceT l (k + 1) := by
  simp only [onceT, h]; rw [if_neg (by rintro (h | h); (· exact h0 h); (· exact h hc))]
theorem onceT_len (l : List ByteArray) : ∀ k, (onceT l k).length ≤ k
  | 0 => Nat.le_refl _
  | k + 1 => by
    have ih := onceT_len l k
    unfold onceT
    split
    · omega
    · split
      · simp; omega
      · omega
theorem onceT_spec {l : List ByteArray} (hp : l.Pairwise (fun x y => ltS y x = false)) : ∀ k, k ≤ l.length → AscT (onceT l k) ∧ (∀ y, y ∈ onceT l k ↔ y ∈ l.take k) ∧ (∀ x, 0 < k → l[k - 1]? = some x → ∀ y ∈ onceT l k, y = x ∨ ltS y x = true)
  | 0, _ => ⟨List.Pairwise.nil, fun y => by simp [onceT], fun x h => by omega⟩
  | k + 1, hk => by
    obtain ⟨h1, h2, h3⟩ := onceT_spec hp k (by omega)
    obtain ⟨x, hx⟩ := sL (l := l) (i := k) (by omega)
    have hlt : ∀ y ∈ onceT l k, y = x ∨ ltS y x = true := fun y hy => by
      obtain ⟨i, hi⟩ := List.getElem?_of_mem ((h2 y).1 hy)
      have hi2 := lS hi
      rw [List.length_take] at hi2
      rw [List.getElem?_take, if_pos (by omega)] at hi
      have := List.pairwise_iff_getElem.1 hp i k (by omega) (by omega) (by omega)
      obtain ⟨b1, c1⟩ := List.getElem?_eq_some_iff.1 hi
      obtain ⟨b2, c2⟩ := List.getElem?_eq_some_iff.1 hx
      rw [c1, c2] at this
      cases e : ltS y x with
      | true => exact .inr rfl
      | false => exact .inl (ltS_tot e this)
    by_cases hc : k = 0 ∨ l[k - 1]? ≠ some x
    · rw [← onceT_t hx hc]
      have hne : ∀ y ∈ onceT l k, ltS y x = true := fun y hy => by
        rcases hlt y hy with e | e
        · exfalso
          subst e
          rcases hc with hc | hc
          · subst hc; simp [onceT] at hy
          · by_cases hk0 : 0 < k
            · obtain ⟨z, hz⟩ := sL (l := l) (i := k - 1) (by omega)
              have h4 := h3 z hk0 hz y hy
              have h5 := List.pairwise_iff_getElem.1 hp (k - 1) k (by omega) (by omega) (by omega)
              obtain ⟨b1, c1⟩ := List.getElem?_eq_some_iff.1 hz
              obtain ⟨b2, c2⟩ := List.getElem?_eq_some_iff.1 hx
              rw [c1, c2] at h5
              rcases h4 with e | e
              · subst e; exact hc hz
              · rw [e] at h5; cases h5
            · have : k = 0 := by omega
              subst this; simp [onceT] at hy
        · exact e
      refine ⟨List.pairwise_append.2 ⟨h1, by simp, fun y hy z hz => ?_⟩, fun y => ?_, fun z _ hz y hy => ?_⟩
      · simp only [List.mem_singleton] at hz; subst hz; exact hne y hy
      · rw [take_snoc hx, List.mem_append, List.mem_append, h2]
      · simp only [Nat.add_sub_cancel] at hz
        rw [hx] at hz
        cases hz
        rcases List.mem_append.1 hy with hy | hy
        · exact .inr (hne y hy)
        · simp only [List.mem_singleton] at hy; exact .inl hy
    · have hk0 : k ≠ 0 := fun e => hc (.inl e)
      have hkx : l[k - 1]? = some x := Classical.byContradiction fun e => hc (.inr e)
      rw [← onceT_f hx hk0 hkx]
      refine ⟨h1, fun y => ?_, fun z _ hz y hy => ?_⟩
      · rw [take_snoc hx, List.mem_append, h2]
        refine ⟨fun h => .inl h, fun h => ?_⟩
        rcases h with h | h
        · exact h
        · simp only [List.mem_singleton] at h
          subst h
          refine List.mem_of_getElem? (i := k - 1) ?_
          rw [List.getElem?_take, if_pos (by omega)]; exact hkx
      · simp only [Nat.add_sub_cancel] at hz
        rw [hx] at hz
        cases hz
        exact hlt y hy
theorem once_done {l : List ByteArray} {k : Nat} (hk : l.length ≤ k) (hk2 : k ≤ l.length) : onceT (srtS l) k = sortT l := by
  have hl := srtS_len l
  obtain ⟨h1, h2, _⟩ := onceT_spec (srtS_pw l) k (by omega)
  refine sortT_of h1 (fun y => ?_)
  rw [h2, List.take_of_length_le (by omega), srtS_mem]
end Go.Sy
