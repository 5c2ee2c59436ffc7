/-
  Lists chosen by the bits of a number; lists ordered by length and then by their elements.
  Conditions: none.
-/
import Derived.Test.YtkdghbglefhcjaaGraph
import Derived.Test.YtkdghbglefhcjaaSrt
namespace Go.Sy
open Go Go.RowKit
def lexZ : List Int → List Int → Bool
  | x :: xs, y :: ys => if x = y then lexZ xs ys else decide (x < y)
  | _, _ => false
def ltL (x y : List Int) : Bool := if x.length = y.length then lexZ x y else decide (x.length < y.length)
theorem lexZ_at : ∀ {x y : List Int} {k : Nat} {a b : Int}, (∀ i, i < k → x[i]? = y[i]?) → x[k]? = some a → y[k]? = some b → a ≠ b → lexZ x y = decide (a < b)
  | [], _, _, _, _, _, h, _, _ => by simp at h
  | _ :: _, [], _, _, _, _, _, h, _ => by simp at h
  | u :: x, v :: y, 0, a, b, _, h1, h2, hab => by
    simp only [List.getElem?_cons_zero, Option.some.injEq] at h1 h2
    subst h1; subst h2
    unfold lexZ
    rw [if_neg hab]
  | u :: x, v :: y, k + 1, a, b, he, h1, h2, hab => by
    have h0 := he 0 (by omega)
    simp only [List.getElem?_cons_zero, Option.some.injEq] at h0
    simp only [List.getElem?_cons_succ] at h1 h2
    unfold lexZ
    rw [if_pos h0]
    exact lexZ_at (fun i hi => by simpa using he (i + 1) (by omega)) h1 h2 hab
theorem lexZ_self : ∀ (x : List Int), lexZ x x = false
  | [] => rfl
  | u :: x => by unfold lexZ; rw [if_pos rfl]; exact lexZ_self x
theorem ltL_len {x y : List Int} (h : (x.length : Int) ≠ y.length) : decide ((x.length : Int) < (y.length : Int)) = ltL x y := by
  unfold ltL
  rw [if_neg (by omega)]
  congr 1
  exact propext ⟨fun h => by omega, fun h => by omega⟩
theorem ltL_at {x y : List Int} {k : Nat} {a b : Int} (hl : (x.length : Int) = y.length) (he : ∀ i, i < k → x[i]? = y[i]?) (h1 : x[k]? = some a) (h2 : y[k]? = some b) (hab : a ≠ b) : decide (a < b) = ltL x y := by
  unfold ltL
  rw [if_pos (by omega), lexZ_at he h1 h2 hab]
theorem ltL_eq {x y : List Int} {k : Nat} (hl : (x.length : Int) = y.length) (hk : x.length ≤ k) (he : ∀ i, i < k → x[i]? = y[i]?) : false = ltL x y := by
  have e : x = y := List.ext_getElem? (fun i => by
    rcases Nat.lt_or_ge i k with h | h
    · exact he i h
    · rw [List.getElem?_eq_none (by omega), List.getElem?_eq_none (by omega)])
  subst e
  unfold ltL
  rw [if_pos rfl, lexZ_self]
theorem lexZ_asym : ∀ {x y : List Int}, lexZ x y = true → lexZ y x = false
  | [], _, h => by simp [lexZ] at h
  | _ :: _, [], h => by simp [lexZ] at h
  | u :: x, v :: y, h => by
    unfold lexZ at h ⊢
    by_cases e : u = v
    · rw [if_pos e] at h; rw [if_pos e.symm]; exact lexZ_asym h
    · rw [if_neg e] at h; rw [if_neg (fun h => e h.symm)]
      have := of_decide_eq_true h
      exact decide_eq_false (by omega)
theorem lexZ_trans : ∀ {x y z : List Int}, x.length = y.length → y.length = z.length → lexZ y x = false → lexZ z y = false → lexZ z x = false
  | [], _, z, _, _, _, _ => by cases z <;> simp [lexZ]
  | _ :: _, [], _, h, _, _, _ => by simp at h
  | _ :: _, _ :: _, [], _, h, _, _ => by simp at h
  | u :: x, v :: y, t :: z, h1, h2, h3, h4 => by
    unfold lexZ at h3 h4 ⊢
    by_cases e1 : v = u
    · rw [if_pos e1] at h3
      by_cases e2 : t = v
      · rw [if_pos e2] at h4; rw [if_pos (e2.trans e1)]
        exact lexZ_trans (by simpa using h1) (by simpa using h2) h3 h4
      · rw [if_neg e2] at h4; rw [if_neg (fun h => e2 (h.trans e1.symm))]
        have := of_decide_eq_false h4
        exact decide_eq_false (by omega)
    · rw [if_neg e1] at h3
      have h5 := of_decide_eq_false h3
      by_cases e2 : t = v
      · rw [if_neg (fun h => e1 (e2.symm.trans h))]
        exact decide_eq_false (by omega)
      · rw [if_neg e2] at h4
        have h6 := of_decide_eq_false h4
        rw [if_neg (by omega)]
        exact decide_eq_false (by omega)
theorem lexZ_tot : ∀ {x y : List Int}, x.length = y.length → lexZ x y = false → lexZ y x = false → x = y
  | [], [], _, _, _ => rfl
  | [], _ :: _, h, _, _ => by simp at h
  | _ :: _, [], h, _, _ => by simp at h
  | u :: x, v :: y, h, h1, h2 => by
    unfold lexZ at h1 h2
    by_cases e : u = v
    · rw [if_pos e] at h1; rw [if_pos e.symm] at h2
      rw [e, lexZ_tot (by simpa using h) h1 h2]
    · rw [if_neg e] at h1; rw [if_neg (fun h => e h.symm)] at h2
      have := of_decide_eq_false h1
      have := of_decide_eq_false h2
      omega
theorem ltL_ord : Ordr ltL := by
  constructor
  · intro x y h
    unfold ltL at h ⊢
    by_cases e : x.length = y.length
    · rw [if_pos e] at h; rw [if_pos e.symm]; exact lexZ_asym h
    · rw [if_neg e] at h; rw [if_neg (fun h => e h.symm)]
      have := of_decide_eq_true h
      exact decide_eq_false (by omega)
  · intro x y z h1 h2
    unfold ltL at h1 h2 ⊢
    by_cases e1 : y.length = x.length
    · rw [if_pos e1] at h1
      by_cases e2 : z.length = y.length
      · rw [if_pos e2] at h2; rw [if_pos (e2.trans e1)]
        exact lexZ_trans e1.symm e2.symm h1 h2
      · rw [if_neg e2] at h2; rw [if_neg (fun h => e2 (h.trans e1.symm))]
        have := of_decide_eq_false h2
        exact decide_eq_false (by omega)
    · rw [if_neg e1] at h1
      have h5 := of_decide_eq_false h1
      by_cases e2 : z.length = y.length
      · rw [if_neg (fun h => e1 (e2.symm.trans h))]
        exact decide_eq_false (by omega)
      · rw [if_neg e2] at h2
        have h6 := of_decide_eq_false h2
        rw [if_neg (by omega)]
        exact decide_eq_false (by omega)
theorem ltL_tot (x y : List Int) (h1 : ltL x y = false) (h2 : ltL y x = false) : x = y := by
  unfold ltL at h1 h2
  by_cases e : x.length = y.length
  · rw [if_pos e] at h1; rw [if_pos e.symm] at h2; exact lexZ_tot e h1 h2
  · rw [if_neg e] at h1; rw [if_neg (fun h => e h.symm)] at h2
    have := of_decide_eq_false h1
    have := of_decide_eq_false h2
    omega
theorem A_at {d : List (List Int)} {i : Int} {x : List Int} (h : d[i.toNat]? = some x) : A d i.toNat = x := A_of h
/-- the sorted row -/
def sortR (l : List (List Int)) : List (List Int) := l.mergeSort (fun x y => !(ltL y x))
theorem sortR_perm (l : List (List Int)) : List.Perm (sortR l) l := List.mergeSort_perm _ _
theorem sortR_pw (l : List (List Int)) : (sortR l).Pairwise (fun x y => ltL y x = false) := by
  have h := List.pairwise_mergeSort (le := fun x y => !(ltL y x)) (fun a b c h1 h2 => by
    simp only [Bool.not_eq_true'] at h1 h2 ⊢
    exact ltL_ord.trans _ _ _ h1 h2) (fun a b => by
    cases h1 : ltL b a with
    | false => simp
    | true => simp [ltL_ord.asym _ _ h1]) l
  exact h.imp (fun h => by simpa using h)
theorem sortR_eq {d e : List (List Int)} (hp : List.Perm e d) (hs : Srd ltL e 0 d.length) : e = sortR d :=
  sorted_unique ltL_tot (hp.trans (sortR_perm d).symm) (srd_pw (by rw [hp.length_eq]; exact hs)) (sortR_pw d)
section
variable {N : Nat} {w0 : World} {H : List Chunk} {L : Fm} {K : Act → World → Prop} {c1 c2 : Chunk}
theorem D_star (k : D N w0 (star c1 c2 :: H) L K) : D N w0 (c1 :: c2 :: H) L K := fun a w hf hs => k a w hf hs.star
theorem D_unst (k : D N w0 (c1 :: c2 :: H) L K) : D N w0 (star c1 c2 :: H) L K := fun a w hf hs => k a w hf hs.split
end
end Go.Sy

namespace Go.Sy
noncomputable def okS (b : Beliefs) (bad free : List Int) (s : Int) : Bool := (((badL (dropR b (chs free s)) bad).length : Nat) : Int) == 0
noncomputable def setsR (b : Beliefs) (bad free : List Int) : List Int := fidZ (okS b bad free) (shlZ 1 free.length).toNat
def lsO (s t : Int) : Bool := t == s || !(andZ t s == t)
def lsB (l : List Int) (s : Int) : Bool := l.all (lsO s)
def lsT (l : List Int) (s : Int) (k : Nat) : Bool := (l.take k).all (lsO s)
theorem lsT_step {l : List Int} {s t : Int} {k : Nat} {f v : Bool} (h : l[k]? = some t) (hf : f = lsT l s k) (hv : v = (f && lsO s t)) : v = lsT l s (k + 1) := by
  unfold lsT at hf ⊢
  rw [take_snoc h, List.all_append, hv, hf]; simp
theorem lsT_done {l : List Int} {s : Int} {k : Nat} (h : l.length ≤ k) : lsT l s k = lsB l s := by unfold lsT lsB; rw [List.take_of_length_le h]
noncomputable def leastU (b : Beliefs) (bad free : List Int) : List (List Int) := ((setsR b bad free).filter (lsB (setsR b bad free))).map (chs free)
noncomputable def leastR (b : Beliefs) (bad free : List Int) : List (List Int) := if isCase b bad free then sortR (leastU b bad free) else []
theorem leastR_f {b : Beliefs} {bad free : List Int} (h : isCase b bad free = false) : [] = leastR b bad free := by unfold leastR; rw [h]; rfl
theorem leastR_t {b : Beliefs} {bad free : List Int} (h : isCase b bad free = true) : sortR (leastU b bad free) = leastR b bad free := by unfold leastR; rw [if_pos h]
theorem setsR_len {b : Beliefs} {bad free : List Int} (h : free.length ≤ 8) : (setsR b bad free).length ≤ 256 := by
  have h1 := shl_rng h
  have := fidZ_len (okS b bad free) (shlZ 1 free.length).toNat
  unfold setsR
  omega
theorem mapF_t {l : List Int} {p : Int → Bool} {f : Int → List Int} {k : Nat} {s : Int} (h : l[k]? = some s) (hp : p s = true) : (filtT p l k).map f ++ [f s] = (filtT p l (k + 1)).map f := by
  rw [← filtT_t h hp, List.map_append]; rfl
theorem mapF_f {l : List Int} {p : Int → Bool} {f : Int → List Int} {k : Nat} {s : Int} (h : l[k]? = some s) (hp : p s = false) : (filtT p l k).map f = (filtT p l (k + 1)).map f := by
  rw [← filtT_f h hp]
theorem mapF_done {l : List Int} {p : Int → Bool} {f : Int → List Int} {k : Nat} (h : l.length ≤ k) : (filtT p l k).map f = (l.filter p).map f := by rw [filtT_done h]
end Go.Sy

namespace Go.Sy
def putL : List (List Int) → List Int → List (List Int)
  | [], x => [x]
  | y :: l, x => if ltL x y = true then x :: y :: l else y :: putL l x
theorem putL_perm : ∀ (l : List (List Int)) (x : List Int), List.Perm (putL l x) (x :: l)
  | [], x => List.Perm.refl _
  | y :: l, x => by
    unfold putL
    split
    · exact List.Perm.refl _
    · exact ((putL_perm l x).cons y).trans (List.Perm.swap x y l)
abbrev Pws (l : List (List Int)) : Prop := l.Pairwise (fun x y => ltL y x = false)
theorem putL_pw : ∀ {l : List (List Int)} (x : List Int), Pws l → Pws (putL l x)
  | [], x, _ => by unfold putL; simp [Pws]
  | y :: l, x, h => by
    unfold putL
    have h2 := List.pairwise_cons.1 h
    split
    · rename_i hlt
      refine List.pairwise_cons.2 ⟨fun z hz => ?_, h⟩
      rcases List.mem_cons.1 hz with rfl | hz
      · exact ltL_ord.asym _ _ hlt
      · exact ltL_ord.trans _ _ _ (ltL_ord.asym _ _ hlt) (h2.1 z hz)
    · rename_i hlt
      refine List.pairwise_cons.2 ⟨fun z hz => ?_, putL_pw x h2.2⟩
      rcases List.mem_cons.1 ((putL_perm l x).mem_iff.1 hz) with rfl | hz
      · simpa using hlt
      · exact h2.1 z hz
/-- the loop of l12Put -/
def putD (l : List (List Int)) (x : List Int) (k : Nat) : Bool := (l.take k).any (fun y => ltL x y)
def putT (l : List (List Int)) (x : List Int) (k : Nat) : List (List Int) := if putD l x k = true then putL (l.take k) x else l.take k
theorem putL_snoc_t : ∀ {l : List (List Int)} {x y : List Int}, l.any (fun z => ltL x z) = true → putL (l ++ [y]) x = putL l x ++ [y]
  | [], _, _, h => by simp at h
  | z :: l, x, y, h => by
    simp only [List.cons_append, putL]
    by_cases e : ltL x z = true
    · rw [if_pos e, if_pos e]; rfl
    · rw [if_neg e, if_neg e]
      have : l.any (fun z => ltL x z) = true := by simpa [e] using h
      rw [putL_snoc_t this]; rfl
theorem putL_snoc_f : ∀ {l : List (List Int)} {x y : List Int}, l.any (fun z => ltL x z) = false → putL (l ++ [y]) x = l ++ putL [y] x
  | [], _, _, _ => rfl
  | z :: l, x, y, h => by
    simp only [List.any_cons, Bool.or_eq_false_iff] at h
    simp only [List.cons_append]
    rw [show putL (z :: (l ++ [y])) x = if ltL x z = true then x :: z :: (l ++ [y]) else z :: putL (l ++ [y]) x from rfl, if_neg (by rw [h.1]; simp), putL_snoc_f h.2]
theorem putL_none {l : List (List Int)} {x : List Int} (h : l.any (fun z => ltL x z) = false) : putL l x = l ++ [x] := by
  induction l with
  | nil => rfl
  | cons z l ih =>
    simp only [List.any_cons, Bool.or_eq_false_iff] at h
    unfold putL
    rw [if_neg (by rw [h.1]; simp), ih h.2]; rfl
theorem putD_step {l : List (List Int)} {x y : List Int} {k : Nat} (h : l[k]? = some y) : putD l x (k + 1) = (putD l x k || ltL x y) := by
  unfold putD; rw [take_snoc h, List.any_append]; simp
/-- placed already, or not to be placed ahead of this one -/
theorem putT_keep {l : List (List Int)} {x y : List Int} {k : Nat} (h : l[k]? = some y) (hd : putD l x k = true ∨ ltL x y = false) : putT l x k ++ [y] = putT l x (k + 1) := by
  unfold putT
  rw [putD_step h, take_snoc h]
  cases e : putD l x k with
  | true =>
    simp only [Bool.true_or, if_true]
    exact (putL_snoc_t e).symm
  | false =>
    have e2 : ltL x y = false := by rcases hd with h | h; (· rw [e] at h; cases h); (· exact h)
    simp [e2]
theorem putT_put {l : List (List Int)} {x y : List Int} {k : Nat} (h : l[k]? = some y) (hd : putD l x k = false) (hlt : ltL x y = true) : putT l x k ++ [x] ++ [y] = putT l x (k + 1) := by
  unfold putT
  rw [putD_step h, take_snoc h, hd, hlt]
  simp only [Bool.or_true, if_true, Bool.false_eq_true, if_false]
  rw [putL_snoc_f hd]
  simp [putL, hlt]
theorem putT_done {l : List (List Int)} {x : List Int} {k : Nat} (hk : l.length ≤ k) (hd : putD l x k = true) : putT l x k = putL l x := by
  unfold putT; rw [if_pos hd, List.take_of_length_le hk]
theorem putT_last {l : List (List Int)} {x : List Int} {k : Nat} (hk : l.length ≤ k) (hd : putD l x k = false) : putT l x k ++ [x] = putL l x := by
  have h2 : l.any (fun z => ltL x z) = false := by unfold putD at hd; rwa [List.take_of_length_le hk] at hd
  unfold putT
  rw [hd]
  simp only [Bool.false_eq_true, if_false]
  rw [List.take_of_length_le hk, putL_none h2]
noncomputable def allT (b : Beliefs) (bad free : List Int) : Nat → List (List Int)
  | 0 => []
  | k + 1 => if okS b bad free (k : Int) = true then putL (allT b bad free k) (chs free (k : Int)) else allT b bad free k
theorem allT_t {b : Beliefs} {bad free : List Int} {k : Nat} (h : okS b bad free (k : Int) = true) : putL (allT b bad free k) (chs free (k : Int)) = allT b bad free (k + 1) := by
  show _ = if okS b bad free (k : Int) = true then _ else _
  rw [if_pos h]
theorem allT_f {b : Beliefs} {bad free : List Int} {k : Nat} (h : okS b bad free (k : Int) = false) : allT b bad free k = allT b bad free (k + 1) := by
  show _ = if okS b bad free (k : Int) = true then _ else _
  rw [if_neg (by rw [h]; simp)]
theorem allT_pw (b : Beliefs) (bad free : List Int) : ∀ k, Pws (allT b bad free k)
  | 0 => List.Pairwise.nil
  | k + 1 => by
    have ih := allT_pw b bad free k
    unfold allT
    split
    · exact putL_pw _ ih
    · exact ih
theorem allT_perm (b : Beliefs) (bad free : List Int) : ∀ k, List.Perm (allT b bad free k) ((fidZ (okS b bad free) k).map (chs free))
  | 0 => List.Perm.refl _
  | k + 1 => by
    have ih := allT_perm b bad free k
    unfold allT
    split
    · rename_i h
      rw [← fidZ_t h, List.map_append]
      exact (putL_perm _ _).trans ((ih.cons _).trans (List.perm_append_comm (l₁ := [chs free (k : Int)])))
    · rename_i h
      rw [← fidZ_f (by simpa using h)]
      exact ih
theorem allT_len (b : Beliefs) (bad free : List Int) (k : Nat) : (allT b bad free k).length ≤ k := by
  rw [(allT_perm b bad free k).length_eq, List.length_map]
  exact fidZ_len _ _
def prt (y x : List Int) : Bool := y.all (fun z => x.contains z)
def kepT (l : List (List Int)) : Nat → List (List Int)
  | 0 => []
  | k + 1 => match l[k]? with
    | none => kepT l k
    | some x => if (kepT l k).all (fun y => !(prt y x)) = true then kepT l k ++ [x] else kepT l k
theorem kepT_t {l : List (List Int)} {k : Nat} {x : List Int} (h : l[k]? = some x) (hp : (kepT l k).all (fun y => !(prt y x)) = true) : kepT l k ++ [x] = kepT l (k + 1) := by
  simp only [kepT, h, if_pos hp]
theorem kepT_f {l : List (List Int)} {k : Nat} {x : List Int} (h : l[k]? = some x) (hp : (kepT l k).all (fun y => !(prt y x)) = false) : kepT l k = kepT l (k + 1) := by
  simp only [kepT, h, hp]
  simp
theorem kepT_len (l : List (List Int)) : ∀ k, (kepT l k).length ≤ k
  | 0 => Nat.le_refl _
  | k + 1 => by
    have ih := kepT_len l k
    unfold kepT
    split
    · omega
    · split
      · simp; omega
      · omega
theorem putT_len (l : List (List Int)) (x : List Int) (k : Nat) : (putT l x k).length ≤ k + 1 := by
  unfold putT
  split
  · rw [(putL_perm _ _).length_eq]; simp; omega
  · simp; omega
theorem putD_s {l : List (List Int)} {x y : List Int} {k : Nat} {dn dn' : Bool} (h : l[k]? = some y) (hd : dn = putD l x k) (e : dn' = (dn || ltL x y)) : dn' = putD l x (k + 1) := by
  rw [putD_step h, ← hd]; exact e
theorem okS_w {b : Beliefs} {bad free : List Int} {s : Int} {v : Bool} (hc : isCase b bad free = true) (h : ((((bad.filter (inL (labelsOf (dropR b (chs free s))))).length : Nat) : Int) == 0) = v) : okS b bad free s = v := by
  have ha : asc bad b.Nodes = true := case_a hc
  have ha2 : asc bad (dropR b (chs free s)).Nodes = true := ha
  rw [badL_eq ((dropR_sub b (chs free s)).strat (case_s hc)) ha2] at h
  exact h
theorem allR_snoc {l : List (List Int)} {p : List Int → Bool} {q : Nat} {y : List Int} {f v : Bool} (h : l[q]? = some y) (hf : f = (l.take q).all p) (hv : v = (f && p y)) : v = (l.take (q + 1)).all p := by
  rw [take_snoc h, List.all_append, hv, hf]; simp
theorem allR_done {l : List (List Int)} {p : List Int → Bool} {q : Nat} (h : l.length ≤ q) : (l.take q).all p = l.all p := by rw [List.take_of_length_le h]
end Go.Sy

namespace Go.Sy
open Go
theorem andZ_nat {s t : Nat} (hs : s < 9223372036854775808) (ht : t < 9223372036854775808) : andZ (s : Int) (t : Int) = ((s &&& t : Nat) : Int) := by
  show IntKind.i64.wrap (((BitVec.ofInt 64 (s : Int) &&& BitVec.ofInt 64 (t : Int)).toNat : Nat) : Int) = _
  have h1 : (BitVec.ofInt 64 (s : Int)).toNat = s := by rw [BitVec.toNat_ofInt]; omega
  have h2 : (BitVec.ofInt 64 (t : Int)).toNat = t := by rw [BitVec.toNat_ofInt]; omega
  rw [BitVec.toNat_and, h1, h2]
  have h3 : s &&& t ≤ s := Nat.and_le_left
  exact IntWalk.i64_in _ (by omega)
theorem bitS_nat {t i : Nat} (ht : t < 9223372036854775808) (hi : i < 64) : bitS (t : Int) i = t.testBit i := by
  unfold bitS
  have e1 : shrZ (t : Int) i = ((t / 2 ^ i : Nat) : Int) := by
    unfold shrZ
    rw [Nat.min_eq_left (by omega)]
    simp
  have h4 : t / 2 ^ i ≤ t := Nat.div_le_self _ _
  have e2 : andZ ((t / 2 ^ i : Nat) : Int) 1 = ((t / 2 ^ i % 2 : Nat) : Int) := by
    have := andZ_nat (s := t / 2 ^ i) (t := 1) (by omega) (by omega)
    rw [Nat.and_one_is_mod] at this
    exact this
  rw [e1, e2, Nat.testBit_eq_decide_div_mod_eq, Bool.eq_iff_iff]
  simp only [beq_iff_eq, decide_eq_true_eq]
  omega
theorem chs_mem {l : List Int} {s x : Int} : x ∈ chs l s ↔ ∃ i : Nat, l[i]? = some x ∧ bitS s i = true := by
  unfold chs keep keepT
  rw [List.mem_filterMap]
  constructor
  · rintro ⟨i, h1, h2⟩
    exact ⟨i, h2, (List.mem_filter.1 h1).2⟩
  · rintro ⟨i, h1, h2⟩
    exact ⟨i, List.mem_filter.2 ⟨by rw [List.mem_range]; exact lt_of_some h1, h2⟩, h1⟩
theorem prt_iff {y x : List Int} : prt y x = true ↔ ∀ z ∈ y, z ∈ x := by
  unfold prt
  rw [List.all_eq_true]
  exact ⟨fun h z hz => List.contains_iff_mem.1 (h z hz), fun h z hz => List.contains_iff_mem.2 (h z hz)⟩
theorem nd_inj {β : Type} {l : List β} (hn : l.Nodup) {i j : Nat} {x : β} (hi : l[i]? = some x) (hj : l[j]? = some x) : i = j := by
  obtain ⟨b1, c1⟩ := List.getElem?_eq_some_iff.1 hi
  obtain ⟨b2, c2⟩ := List.getElem?_eq_some_iff.1 hj
  have h := List.pairwise_iff_getElem.1 hn
  rcases Nat.lt_trichotomy i j with h1 | h1 | h1
  · exact absurd (c1.trans c2.symm) (h i j b1 b2 h1)
  · exact h1
  · exact absurd (c2.trans c1.symm) (h j i b2 b1 h1)
theorem prt_bits {l : List Int} {s t : Nat} (hn : l.Nodup) (hl : l.length ≤ 60) (hs : s < 2 ^ l.length) (ht : t < 2 ^ l.length) : prt (chs l (t : Int)) (chs l (s : Int)) = (andZ (t : Int) (s : Int) == (t : Int)) := by
  have hb : 2 ^ l.length ≤ 2 ^ 60 := Nat.pow_le_pow_right (by omega) hl
  have hs2 : s < 9223372036854775808 := by omega
  have ht2 : t < 9223372036854775808 := by omega
  rw [andZ_nat ht2 hs2, Bool.eq_iff_iff, prt_iff, beq_iff_eq]
  constructor
  · intro h
    have : t &&& s = t := by
      apply Nat.eq_of_testBit_eq
      intro i
      rw [Nat.testBit_and]
      cases hti : t.testBit i with
      | false => rfl
      | true =>
        have hil : i < l.length := by
          refine Classical.byContradiction fun hc => ?_
          have h2 : t < 2 ^ i := Nat.lt_of_lt_of_le ht (Nat.pow_le_pow_right (by omega) (by omega))
          rw [Nat.testBit_lt_two_pow h2] at hti
          cases hti
        obtain ⟨x, hx⟩ := some_of_lt hil
        have h1 := h x (chs_mem.2 ⟨i, hx, by rw [bitS_nat ht2 (by omega)]; exact hti⟩)
        obtain ⟨j, hj, hj2⟩ := chs_mem.1 h1
        have hij : i = j := nd_inj hn hx hj
        subst hij
        rw [bitS_nat hs2 (by omega)] at hj2
        rw [hj2]; rfl
    rw [this]
  · intro h z hz
    have h0 : t &&& s = t := by omega
    obtain ⟨i, hi, hb2⟩ := chs_mem.1 hz
    have hil := lt_of_some hi
    rw [bitS_nat ht2 (by omega)] at hb2
    refine chs_mem.2 ⟨i, hi, ?_⟩
    rw [bitS_nat hs2 (by omega)]
    rw [← h0, Nat.testBit_and] at hb2
    simp only [Bool.and_eq_true] at hb2
    exact hb2.2
abbrev Asl (x : List Int) : Prop := x.Pairwise (· < ·)
theorem asc_sl : ∀ {x y : List Int}, Asl y → Asl x → (∀ z ∈ y, z ∈ x) → List.Sublist y x
  | _, [], _, _, _ => List.nil_sublist _
  | [], b :: y, _, _, h => by have := h b (by simp); cases this
  | a :: x, b :: y, hy, hx, h => by
    have hy2 := List.pairwise_cons.1 hy
    have hx2 := List.pairwise_cons.1 hx
    by_cases e : b = a
    · subst e
      refine List.Sublist.cons_cons b (asc_sl hy2.2 hx2.2 (fun z hz => ?_))
      rcases List.mem_cons.1 (h z (by simp [hz])) with e2 | h2
      · have := hy2.1 z hz; omega
      · exact h2
    · have hbx : b ∈ x := by
        rcases List.mem_cons.1 (h b (by simp)) with e2 | h2
        · exact absurd e2 e
        · exact h2
      have hab := hx2.1 b hbx
      refine List.Sublist.cons a (asc_sl hy hx2.2 (fun z hz => ?_))
      rcases List.mem_cons.1 (h z hz) with e2 | h2
      · exfalso
        rcases List.mem_cons.1 hz with e3 | h3
        · omega
        · have := hy2.1 z h3; omega
      · exact h2
theorem prt_len {y x : List Int} (hy : Asl y) (hx : Asl x) (h : prt y x = true) : y = x ∨ y.length < x.length := by
  have hs := asc_sl hy hx (prt_iff.1 h)
  rcases Nat.lt_or_ge y.length x.length with h1 | h1
  · exact .inr h1
  · exact .inl (hs.eq_of_length (by have := hs.length_le; omega))
theorem prt_trans {x y z : List Int} (h1 : prt z y = true) (h2 : prt y x = true) : prt z x = true := prt_iff.2 fun q hq => prt_iff.1 h2 q (prt_iff.1 h1 q hq)
def mnl (l : List (List Int)) (x : List Int) : Bool := l.all (fun y => !(prt y x) || decide (y = x))
theorem mnl_iff {l : List (List Int)} {x : List Int} : mnl l x = true ↔ ∀ y ∈ l, prt y x = true → y = x := by
  unfold mnl
  rw [List.all_eq_true]
  constructor
  · intro h y hy hp
    have := h y hy
    rw [hp] at this
    simpa using this
  · intro h y hy
    cases hp : prt y x with
    | false => rfl
    | true => simp [h y hy hp]
theorem has_mnl {l : List (List Int)} (ha : ∀ x ∈ l, Asl x) {x : List Int} : ∀ (n : Nat) (y : List Int), y ∈ l → y.length ≤ n → prt y x = true → ∃ z ∈ l, prt z x = true ∧ mnl l z = true ∧ z.length ≤ y.length := by
  intro n
  induction n with
  | zero =>
    intro y hy hn hp
    refine ⟨y, hy, hp, mnl_iff.2 fun z hz hzy => ?_, Nat.le_refl _⟩
    rcases prt_len (ha z hz) (ha y hy) hzy with h | h
    · exact h
    · omega
  | succ n ih =>
    intro y hy hn hp
    cases hm : mnl l y with
    | true => exact ⟨y, hy, hp, hm, Nat.le_refl _⟩
    | false =>
      have : ¬ ∀ z ∈ l, prt z y = true → z = y := fun h => by rw [mnl_iff.2 h] at hm; cases hm
      obtain ⟨z, hz⟩ := Classical.not_forall.1 this
      obtain ⟨hz1, hz2⟩ := Classical.not_imp.1 hz
      obtain ⟨hz2, hz3⟩ := Classical.not_imp.1 hz2
      rcases prt_len (ha z hz1) (ha y hy) hz2 with h | h
      · exact absurd h hz3
      · obtain ⟨q, hq, h1, h2, h3⟩ := ih z hz1 (by omega) (prt_trans hz2 hp)
        exact ⟨q, hq, h1, h2, by omega⟩
theorem kep_eq {l : List (List Int)} (hs : Pws l) (hn : l.Nodup) (ha : ∀ x ∈ l, Asl x) : ∀ k, k ≤ l.length → kepT l k = (l.take k).filter (mnl l)
  | 0, _ => rfl
  | k + 1, hk => by
    have ih := kep_eq hs hn ha k (by omega)
    obtain ⟨x, hx⟩ := some_of_lt (l := l) (i := k) (by omega)
    have hxm := List.mem_of_getElem? hx
    rw [take_snoc hx, List.filter_append]
    have key : (kepT l k).all (fun y => !(prt y x)) = mnl l x := by
      rw [ih, Bool.eq_iff_iff, List.all_eq_true, mnl_iff]
      constructor
      · intro h y hy hp
        refine Classical.byContradiction fun hne => ?_
        obtain ⟨z, hz, h1, h2, h3⟩ := has_mnl ha y.length y hy (Nat.le_refl _) hp
        have hlt : z.length < x.length := by
          rcases prt_len (ha y hy) (ha x hxm) hp with e | e
          · exact absurd e hne
          · omega
        have hzx : ltL z x = true := by unfold ltL; rw [if_neg (by omega)]; exact decide_eq_true hlt
        obtain ⟨j, hj⟩ := List.getElem?_of_mem hz
        have hjk : j < k := by
          refine Classical.byContradiction fun hc => ?_
          obtain ⟨b1, c1⟩ := List.getElem?_eq_some_iff.1 hj
          obtain ⟨b2, c2⟩ := List.getElem?_eq_some_iff.1 hx
          by_cases e : j = k
          · subst e
            rw [hj] at hx
            cases hx
            omega
          · have := List.pairwise_iff_getElem.1 hs k j b2 b1 (by omega)
            rw [c1, c2, hzx] at this
            cases this
        have hzt : z ∈ (l.take k).filter (mnl l) := List.mem_filter.2 ⟨List.mem_of_getElem? (i := j) (by rw [List.getElem?_take, if_pos hjk]; exact hj), h2⟩
        have := h z hzt
        rw [h1] at this
        cases this
      · intro h y hy
        have hy2 := List.mem_filter.1 hy
        cases hp : prt y x with
        | false => rfl
        | true =>
          exfalso
          have e := h y (List.mem_of_mem_take hy2.1) hp
          subst e
          obtain ⟨j, hj⟩ := List.getElem?_of_mem hy2.1
          rw [List.getElem?_take] at hj
          split at hj
          · rename_i hjk
            have := nd_inj hn hj hx
            omega
          · cases hj
    cases hm : mnl l x with
    | true =>
      rw [← kepT_t hx (key.trans hm), ih]
      simp [hm]
    | false =>
      rw [← kepT_f hx (key.trans hm), ih]
      simp [hm]
theorem asc_asl {l : List Int} {n : Int} (h : asc l n = true) : Asl l := by
  rw [Asl, List.pairwise_iff_getElem]
  intro i j hi hj hij
  have key : ∀ d, ∀ (h : i + d + 1 < l.length), l[i]'hi < l[i + d + 1]'h := by
    intro d
    induction d with
    | zero => intro hh; exact asc_lt h (List.getElem?_eq_getElem hi) (List.getElem?_eq_getElem hh)
    | succ d ih =>
      intro hh
      have h1 := ih (by omega)
      have h2 : l[i + d + 1]'(by omega) < l[i + (d + 1) + 1]'hh := asc_lt h (j := i + d + 1) (List.getElem?_eq_getElem (by omega)) (List.getElem?_eq_getElem hh)
      exact Int.lt_trans h1 h2
  have := key (j - i - 1) (by omega)
  have e : i + (j - i - 1) + 1 = j := by omega
  simpa [e] using this
theorem chs_asl {l : List Int} (h : Asl l) (s : Int) : Asl (chs l s) := h.sublist (keep_sub l _)
theorem asl_nd {l : List Int} (h : Asl l) : l.Nodup := h.imp (fun {a b} (hab : a < b) => by omega)
theorem chs_inj {l : List Int} {s t : Nat} (hn : l.Nodup) (hl : l.length ≤ 60) (hs : s < 2 ^ l.length) (ht : t < 2 ^ l.length) (h : chs l (s : Int) = chs l (t : Int)) : s = t := by
  have hb : 2 ^ l.length ≤ 2 ^ 60 := Nat.pow_le_pow_right (by omega) hl
  have h1 := prt_bits hn hl hs ht
  have h2 := prt_bits hn hl ht hs
  have hp : ∀ x : List Int, prt x x = true := fun x => prt_iff.2 fun z hz => hz
  rw [h, hp] at h1
  rw [h, hp] at h2
  have e1 := eq_of_beq h1.symm
  have e2 := eq_of_beq h2.symm
  rw [andZ_nat (by omega) (by omega)] at e1 e2
  rw [Nat.and_comm] at e2
  omega
theorem shl_two {n : Nat} (h : n ≤ 8) : (shlZ 1 n).toNat = 2 ^ n := by
  have : n = 0 ∨ n = 1 ∨ n = 2 ∨ n = 3 ∨ n = 4 ∨ n = 5 ∨ n = 6 ∨ n = 7 ∨ n = 8 := by omega
  rcases this with h | h | h | h | h | h | h | h | h <;> subst h <;> rfl
theorem fidZ_nd (p : Int → Bool) (k : Nat) : (fidZ p k).Nodup := by
  unfold fidZ fidx
  refine List.Pairwise.map _ (fun a b (h : a ≠ b) => by omega) ?_
  exact (List.nodup_range (n := k)).filter _
theorem fidZ_at {p : Int → Bool} {k : Nat} {y : Int} (h : y ∈ fidZ p k) : ∃ x : Nat, x < k ∧ y = (x : Int) := by
  unfold fidZ at h
  rw [fidx_mem] at h
  obtain ⟨x, h1, _, h3⟩ := h
  exact ⟨x, h1, h3⟩
noncomputable def specR (b : Beliefs) (bad free : List Int) : List (List Int) := kepT (allT b bad free (shlZ 1 free.length).toNat) (allT b bad free (shlZ 1 free.length).toNat).length
theorem spec_least {b : Beliefs} {bad free : List Int} (hc : isCase b bad free = true) : specR b bad free = leastR b bad free := by
  have hfl := case_fl hc
  have hasl := asc_asl (case_fa hc)
  have hnd := asl_nd hasl
  have h2 := shl_two hfl
  have hperm := allT_perm b bad free (shlZ 1 free.length).toNat
  have hat : ∀ y ∈ setsR b bad free, ∃ x : Nat, x < 2 ^ free.length ∧ y = (x : Int) := fun y hy => by
    obtain ⟨x, h3, h4⟩ := fidZ_at hy
    exact ⟨x, by rw [← h2]; exact h3, h4⟩
  have hmapnd : ((setsR b bad free).map (chs free)).Nodup := by
    rw [List.Nodup, List.pairwise_map]
    refine List.Pairwise.imp_of_mem (fun {a c} ha hc2 (hne : a ≠ c) e => ?_) (fidZ_nd _ _ : (setsR b bad free).Nodup)
    obtain ⟨x, hx, rfl⟩ := hat a ha
    obtain ⟨y, hy, rfl⟩ := hat c hc2
    exact hne (by rw [chs_inj hnd (by omega) hx hy e])
  generalize hall : allT b bad free (shlZ 1 free.length).toNat = al at hperm
  have hpw : Pws al := by rw [← hall]; exact allT_pw _ _ _ _
  have halnd : al.Nodup := hperm.nodup_iff.2 hmapnd
  have haasl : ∀ x ∈ al, Asl x := fun x hx => by
    obtain ⟨s, _, rfl⟩ := List.mem_map.1 (hperm.mem_iff.1 hx)
    exact chs_asl hasl s
  have hk := kep_eq hpw halnd haasl al.length (Nat.le_refl _)
  rw [List.take_of_length_le (Nat.le_refl _)] at hk
  unfold specR
  rw [hall, hk, ← leastR_t hc]
  refine sorted_unique ltL_tot ?_ (hpw.filter _) (sortR_pw _)
  refine List.Perm.trans ?_ (sortR_perm _).symm
  refine (hperm.filter _).trans ?_
  unfold leastU
  show List.Perm (List.filter (mnl al) ((setsR b bad free).map (chs free))) _
  rw [List.filter_map]
  have hf : (setsR b bad free).filter (mnl al ∘ chs free) = (setsR b bad free).filter (lsB (setsR b bad free)) := by
    refine List.filter_congr (fun s hs => ?_)
    obtain ⟨x, hx, rfl⟩ := hat s hs
    rw [Bool.eq_iff_iff]
    show mnl al (chs free (x : Int)) = true ↔ lsB (setsR b bad free) (x : Int) = true
    rw [mnl_iff]
    unfold lsB
    rw [List.all_eq_true]
    constructor
    · intro h t ht
      obtain ⟨y, hy, rfl⟩ := hat t ht
      unfold lsO
      cases hp : (andZ (y : Int) (x : Int) == (y : Int)) with
      | false => simp
      | true =>
        have := h (chs free (y : Int)) (hperm.mem_iff.2 (List.mem_map_of_mem ht)) (by rw [prt_bits hnd (by omega) hx hy]; exact hp)
        rw [chs_inj hnd (by omega) hy hx this]
        simp
    · intro h z hz hp
      obtain ⟨t, ht, rfl⟩ := List.mem_map.1 (hperm.mem_iff.1 hz)
      obtain ⟨y, hy, rfl⟩ := hat t ht
      have h3 := h (y : Int) ht
      unfold lsO at h3
      rw [prt_bits hnd (by omega) hx hy] at hp
      rw [hp] at h3
      simp only [Bool.not_true, Bool.or_false, beq_iff_eq] at h3
      rw [h3]
  rw [hf]
theorem kep_spec {b : Beliefs} {bad free : List Int} {k i : Nat} (h : k = (shlZ 1 free.length).toNat) (hi : (allT b bad free k).length ≤ i) (hi2 : i ≤ (allT b bad free k).length) : kepT (allT b bad free k) i = specR b bad free := by
  subst h
  have : i = (allT b bad free (shlZ 1 free.length).toNat).length := Nat.le_antisymm hi2 hi
  rw [this]; rfl
end Go.Sy

namespace Go.Sy
def fII (k : Int) (l : List Int) : List Int := mkI k l
def cII (l : List Int) : Nat := l.length
abbrev mkII (k : Int) (l : List (List Int)) : List (List Int) := mapS fII cII k l
theorem mkI_id (k : Int) (l : List Int) : mkI k (mkI k l) = mkI k l := mapS_idem (f := fI) (c := cI) (fun _ _ => rfl) (fun _ _ => rfl) l k
theorem cII_f (k : Int) (l : List Int) : cII (fII k l) = cII l := mapS_len
theorem mkII_idem (k : Int) (l : List (List Int)) : mkII k l = mkII k (mkII k l) := (mapS_idem (fun k x => mkI_id k x) cII_f l k).symm
theorem sumII_mk (k : Int) (l : List (List Int)) : sumC cII (mkII k l) = sumC cII l := sumC_mapS cII_f l k
theorem mkII_step {k kk : Int} {l : List (List Int)} {i : Nat} {x : List Int} (hi : i ≤ l.length) (hx : (mapAt fII cII k l i)[i]? = some x) (hk : kk = k + sumC cII (l.take i)) : kk + (x.length : Nat) = k + sumC cII (l.take (i + 1)) ∧ kk + (x.length : Nat) ≤ k + sumC cII l := by
  rw [mapAt_get hi] at hx
  have h1 := sumC_take (c := cII) hx
  have h2 := sumC_take_le l cII (i + 1)
  have h3 : cII x = x.length := rfl
  omega
theorem mkII_set {k kk : Int} {l : List (List Int)} {i : Nat} {x : List Int} (hi : i ≤ l.length) (hx : (mapAt fII cII k l i)[i]? = some x) (hk : kk = k + sumC cII (l.take i)) : (mapAt fII cII k l i).set i (mkI kk x) = mapAt fII cII k l (i + 1) := by
  rw [hk]; exact mapAt_set hi hx
theorem mkII_held {k kk : Int} {l : List (List Int)} {i : Nat} {x : List Int} (h : l = mkII k l) (hx : l[i]? = some x) (hk : kk = k + sumC cII (l.take i)) : x = mkI kk x ∧ kk + (x.length : Nat) = k + sumC cII (l.take (i + 1)) ∧ kk + (x.length : Nat) ≤ k + sumC cII l := by
  have h0 := mapS_fix h hx
  rw [← hk] at h0
  have h1 := sumC_take (c := cII) hx
  have h2 := sumC_take_le l cII (i + 1)
  have h3 : cII x = x.length := rfl
  exact ⟨h0, by omega, by omega⟩

noncomputable def fstR (b : Beliefs) (bad free : List Int) : List Int := (leastR b bad free).headD []
noncomputable def hasR (b : Beliefs) (bad free : List Int) : Bool := decide (0 < (leastR b bad free).length)
theorem fst_n {b : Beliefs} {bad free : List Int} (h : (((leastR b bad free).length : Nat) : Int) = 0) : [] = fstR b bad free := by
  unfold fstR
  rw [List.eq_nil_of_length_eq_zero (l := leastR b bad free) (by omega)]; rfl
theorem hasR_n {b : Beliefs} {bad free : List Int} (h : (((leastR b bad free).length : Nat) : Int) = 0) : false = hasR b bad free := by
  unfold hasR; symm; rw [decide_eq_false_iff_not]; omega
theorem fst_y {b : Beliefs} {bad free x : List Int} (h : (leastR b bad free)[0]? = some x) : x = fstR b bad free := by
  unfold fstR
  cases e : leastR b bad free with
  | nil => rw [e] at h; simp at h
  | cons y l => rw [e] at h; simpa using h.symm
theorem hasR_y {b : Beliefs} {bad free x : List Int} (h : (leastR b bad free)[0]? = some x) : true = hasR b bad free := by
  unfold hasR; symm; rw [decide_eq_true_eq]; exact lt_of_some h
theorem hasR_case {b : Beliefs} {bad free : List Int} (h : hasR b bad free = true) : isCase b bad free = true := by
  cases e : isCase b bad free with
  | true => rfl
  | false =>
    unfold hasR at h
    rw [← leastR_f e] at h
    simp at h
noncomputable def repB (b : Beliefs) (bad free : List Int) : Beliefs := if hasR b bad free = true then dropR b (fstR b bad free) else b
theorem repB_t {b : Beliefs} {bad free : List Int} (h : hasR b bad free = true) : dropR b (fstR b bad free) = repB b bad free := by unfold repB; rw [if_pos h]
theorem repB_f {b : Beliefs} {bad free : List Int} (h : hasR b bad free = false) : b = repB b bad free := by unfold repB; rw [h]; simp
noncomputable def blm (b : Beliefs) (bad free : List Int) (x : Int) : Bool := (leastR b bad free).any (fun l => l.contains x)
noncomputable def blamedR (b : Beliefs) (bad free : List Int) : List Int := free.filter (blm b bad free)
theorem blm_t {b : Beliefs} {bad free y : List Int} {x : Int} {q : Nat} (hy : (leastR b bad free)[q]? = some y) (h : y.contains x = true) : blm b bad free x = true :=
  List.any_eq_true.2 ⟨y, List.mem_of_getElem? hy, h⟩
theorem blm_f {b : Beliefs} {bad free : List Int} {x : Int} (h : ∀ i, i < (leastR b bad free).length → ∀ y, (leastR b bad free)[i]? = some y → y.contains x = false) : blm b bad free x = false := by
  unfold blm
  rw [List.any_eq_false]
  intro y hy
  obtain ⟨i, hi⟩ := List.getElem?_of_mem hy
  have := h i (lt_of_some hi) y hi
  rw [this]; simp
theorem blm_step {b : Beliefs} {bad free y : List Int} {x : Int} {q : Nat} (h : ∀ i, i < q → ∀ y, (leastR b bad free)[i]? = some y → y.contains x = false) (hy : (leastR b bad free)[q]? = some y) (hc : y.contains x = false) : ∀ i, i < q + 1 → ∀ y, (leastR b bad free)[i]? = some y → y.contains x = false := by
  intro i hi z hz
  by_cases e : i = q
  · subst e
    rw [hy] at hz
    cases hz
    exact hc
  · exact h i (by omega) z hz
theorem blamed_len (b : Beliefs) (bad free : List Int) : (blamedR b bad free).length ≤ free.length := List.length_filter_le _ _
theorem leastR_len (b : Beliefs) (bad free : List Int) : (leastR b bad free).length ≤ 256 := by
  cases e : isCase b bad free with
  | false => rw [← leastR_f e]; simp
  | true =>
    rw [← leastR_t e, (sortR_perm _).length_eq]
    unfold leastU
    rw [List.length_map]
    exact Nat.le_trans (List.length_filter_le _ _) (setsR_len (case_fl e))
theorem leastR_row {b : Beliefs} {bad free x : List Int} (h : x ∈ leastR b bad free) : x.length ≤ 8 := by
  cases e : isCase b bad free with
  | false => rw [← leastR_f e] at h; cases h
  | true =>
    rw [← leastR_t e, (sortR_perm _).mem_iff] at h
    unfold leastU at h
    obtain ⟨s, _, rfl⟩ := List.mem_map.1 h
    exact Nat.le_trans (keep_sub free _).length_le (case_fl e)
theorem sumC_le {α : Type} {c : α → Nat} {m : Nat} : ∀ {l : List α}, (∀ x ∈ l, c x ≤ m) → sumC c l ≤ l.length * m
  | [], _ => by simp [sumC]
  | x :: l, h => by
    have ih := sumC_le (c := c) (m := m) (l := l) (fun y hy => h y (by simp [hy]))
    have hx := h x (by simp)
    simp only [sumC, List.map_cons, List.sum_cons, List.length_cons] at ih ⊢
    rw [Nat.add_mul]; omega
theorem leastR_sum (b : Beliefs) (bad free : List Int) : sumC cII (leastR b bad free) ≤ 2048 := by
  have h1 := sumC_le (c := cII) (m := 8) (fun x hx => leastR_row (b := b) (bad := bad) (free := free) hx)
  have h2 := leastR_len b bad free
  omega
theorem fst_len (b : Beliefs) (bad free : List Int) : (fstR b bad free).length ≤ 8 := by
  unfold fstR
  cases e : leastR b bad free with
  | nil => simp
  | cons y l =>
    have : y ∈ leastR b bad free := by rw [e]; simp
    exact leastR_row this
theorem repB_sum (b : Beliefs) (bad free : List Int) : sumC cR (repB b bad free).Reasons ≤ sumC cR b.Reasons := by
  unfold repB
  split
  · exact sumB_drop b _
  · exact Nat.le_refl _
end Go.Sy
