/-
  Texts in order, patterns, conditions, rules: what is valid.
  Conditions: those that each theorem states.
-/
import Derived.Test.YtobihkjhlopggaaGreatDoorEng
import Derived.Test.YtobihkjhlopggaaGreatDoorOwn2
import Derived.Sort.EncStr
namespace Go.Sy
open Go
theorem bl_irrefl : ∀ l : List UInt8, Op.bytesLess l l = false
 | [] => rfl
 | a :: l => by
  unfold Op.bytesLess;have := bl_irrefl l;simp [this]
theorem bl_trans : ∀ {a b c : List UInt8}, Op.bytesLess a b = true → Op.bytesLess b c = true → Op.bytesLess a c = true
 | _, [], _, h, _ => by cases ‹List UInt8› <;> simp [Op.bytesLess] at h
 | _, _ :: _, [], _, h => by simp [Op.bytesLess] at h
 | [], _ :: _, _ :: _, _, _ => by simp [Op.bytesLess]
 | x :: a, y :: b, z :: c, h1, h2 => by
  unfold Op.bytesLess at h1 h2 ⊢;simp only [Bool.or_eq_true, decide_eq_true_eq, Bool.and_eq_true, beq_iff_eq] at h1 h2 ⊢
  rcases h1 with h1 | ⟨rfl, h1⟩ <;> rcases h2 with h2 | ⟨rfl, h2⟩
  ·exact .inl (UInt8.lt_trans h1 h2)
  ·exact .inl h1
  ·exact .inl h2
  ·exact .inr ⟨rfl, bl_trans h1 h2⟩
theorem bl_tot : ∀ {a b : List UInt8}, Op.bytesLess a b = false → Op.bytesLess b a = false → a = b
 | [], [], _, _ => rfl
 | [], _ :: _, h, _ => by simp [Op.bytesLess] at h
 | _ :: _, [], _, h => by simp [Op.bytesLess] at h
 | x :: a, y :: b, h1, h2 => by
  unfold Op.bytesLess at h1 h2;simp only [Bool.or_eq_false_iff, decide_eq_false_iff_not, Bool.and_eq_false_iff, beq_eq_false_iff_ne] at h1 h2;have hxy : x = y := by
   have h3 : ¬ x.toNat < y.toNat := h1.1;have h4 : ¬ y.toNat < x.toNat := h2.1;exact UInt8.toNat_inj.1 (by omega)
  subst hxy;have k1 : Op.bytesLess a b = false := by rcases h1.2 with h | h; (· exact absurd rfl h); (· exact h)
  have k2 : Op.bytesLess b a = false := by rcases h2.2 with h | h; (· exact absurd rfl h); (· exact h)
  rw [bl_tot k1 k2]
theorem tl_eq (a : ByteArray) : a.toList = a.data.toList := ByteArray.toList_eq a
theorem rb_ext {a b : ByteArray} (h : a.data.toList = b.data.toList) : a = b := by
 cases a; cases b
 simp only at h
 congr 1
 exact Array.toList_inj.1 h
theorem ltS_irrefl (a : ByteArray) : ltS a a = false := bl_irrefl _
theorem ltS_trans {a b c : ByteArray} (h1 : ltS a b = true) (h2 : ltS b c = true) : ltS a c = true := bl_trans h1 h2
theorem ltS_tot {a b : ByteArray} (h1 : ltS a b = false) (h2 : ltS b a = false) : a = b := by
 have := bl_tot h1 h2;rw [tl_eq, tl_eq] at this;exact rb_ext this
theorem ltS_asym {a b : ByteArray} (h : ltS a b = true) : ltS b a = false := by
 cases e : ltS b a with
 | false => rfl
 | true => have := ltS_trans h e; rw [ltS_irrefl] at this; cases this
end Go.Sy
namespace Go.Sy
open Go
end Go.Sy
namespace Go.Sy
open Go
def dgsN (n : Nat) (s : ByteArray) : ByteArray := if h : n = 0 then s else dgsN (n / 10) ((⟨#[UInt8.ofNat (48 + n % 10)]⟩ : ByteArray) ++ s)
termination_by n
decreasing_by omega
def markS (k : Int) : ByteArray := if k ≤ 0 then ⟨#[109, 48]⟩ else (⟨#[109]⟩ : ByteArray) ++ dgsN k.toNat ⟨#[]⟩
def dg (k nn : Int) (s : ByteArray) : Prop := 0 ≤ nn ∧ nn ≤ k ∧ dgsN nn.toNat s = dgsN k.toNat ⟨#[]⟩ ∧ (s.size : Int) + nn ≤ k
theorem mtmod10 {n : Int} (h : 0 ≤ n) : Int.tmod n 10 = ((n.toNat % 10 : Nat) : Int) := by
 rw [Int.tmod_eq_emod_of_nonneg h];omega
theorem dg_zero {k : Int} (h : 0 ≤ k) : dg k k ⟨#[]⟩ := ⟨h, Int.le_refl _, rfl, by
 have : (⟨#[]⟩ : ByteArray).size = 0 := rfl
 omega⟩
theorem dg_step {k nn : Int} {s : ByteArray} (h : dg k nn s) (hz : 0 < nn) : dg k (nn / 10) ((⟨#[UInt8.ofNat (48 + Int.tmod nn 10).toNat]⟩ : ByteArray) ++ s) := by
 obtain ⟨h0, h1, h2, h3⟩ := h;refine ⟨by omega, by omega, ?_, ?_⟩
 ·rw [← h2];have e2 : (nn / 10).toNat = nn.toNat / 10 := by omega
  have e3 : (48 + Int.tmod nn 10).toNat = 48 + nn.toNat % 10 := by rw [mtmod10 h0]; omega
  rw [e2, e3]
  conv => rhs; rw [dgsN, dif_neg (by omega)]
 ·rw [ByteArray.size_append];have : (⟨#[UInt8.ofNat (48 + Int.tmod nn 10).toNat]⟩ : ByteArray).size = 1 := rfl;omega
theorem dg_done {k nn : Int} {s : ByteArray} (h : dg k nn s) (hz : ¬ 0 < nn) (hk : ¬ k ≤ 0) : (⟨#[109]⟩ : ByteArray) ++ s = markS k := by
 obtain ⟨h0, h1, h2, h3⟩ := h;have e : nn.toNat = 0 := by omega
 rw [e, dgsN, dif_pos rfl] at h2;unfold markS;rw [if_neg hk, h2]
theorem mark_low {k : Int} (h : k ≤ 0) : (⟨#[109, 48]⟩ : ByteArray) = markS k := by unfold markS; rw [if_pos h]
section
variable {α : Type} {f : Int → α → α} {c : α → Nat}
theorem mk_set {a : List α} {k kk : Int} {i : Nat} {x r : α} (h : i ≤ a.length) (hx : (mapAt f c k a i)[i]? = some x) (hk : kk = k + sumC c (a.take i)) (hr : r = f kk x) : (mapAt f c k a i).set i r = mapAt f c k a (i + 1) := by
 rw [hr, hk];exact mapAt_set h hx
theorem mk_stepH {a : List α} {k kk : Int} {i : Nat} {x : α} (hx : a[i]? = some x) (hk : kk = k + sumC c (a.take i)) : kk + c x = k + sumC c (a.take (i + 1)) ∧ sumC c (a.take (i + 1)) ≤ sumC c a := by
 refine ⟨?_, sumC_take_le a c (i + 1)⟩;rw [sumC_take hx, hk];omega
theorem mk_step {a : List α} {k kk : Int} {i : Nat} {x : α} (h : i ≤ a.length) (hx : (mapAt f c k a i)[i]? = some x) (hk : kk = k + sumC c (a.take i)) : kk + c x = k + sumC c (a.take (i + 1)) ∧ sumC c (a.take (i + 1)) ≤ sumC c a := by
 rw [mapAt_get h] at hx;exact mk_stepH hx hk
end
def fS (k : Int) (_ : ByteArray) : ByteArray := markS k
def cS (_ : ByteArray) : Nat := 1
abbrev mkSs (k : Int) (l : List ByteArray) : List ByteArray := mapS fS cS k l
theorem sumS (l : List ByteArray) : sumC cS l = l.length := by
 induction l with
 | nil => rfl
 | cons x l ih => simp only [sumC, List.map_cons, List.sum_cons, cS, List.length_cons] at ih ⊢; omega
theorem mkS_set {a : List ByteArray} {k kk : Int} {i : Nat} (h : i < a.length) (hk : kk = k + i) : (mapAt fS cS k a i).set i (markS kk) = mapAt fS cS k a (i + 1) := by
 have hx : a[i]? = some a[i] := by simp [h]
 rw [← mapAt_set (f := fS) (c := cS) (k := k) (Nat.le_of_lt h) (by rw [mapAt_get (Nat.le_of_lt h)]; exact hx)];simp only [fS, sumS, List.length_take, Nat.min_eq_left (Nat.le_of_lt h), hk]
theorem mkS_fix {a : List ByteArray} {k : Int} {x : ByteArray} {i : Nat} (h : a = mkSs k a) (hx : a[i]? = some x) : x = markS (k + i) := by
 have := mapS_fix h hx;simp only [fS, sumS, List.length_take, Nat.min_eq_left (Nat.le_of_lt (List.getElem?_eq_some_iff.1 hx).1)] at this;exact this
theorem mkS_idem (k : Int) (l : List ByteArray) : mkSs k (mkSs k l) = mkSs k l := mapS_idem (f := fS) (c := cS) (fun _ _ => rfl) (fun _ _ => rfl) l k
theorem mkI_idem2 (k : Int) (l : List Int) : mkI k (mkI k l) = mkI k l := (mkI_idem k l).symm
theorem sum_le {α : Type} {c d : α → Nat} {m : Nat} (h : ∀ x, c x ≤ m + 4 * d x) : ∀ l : List α, sumC c l ≤ m * l.length + 4 * sumC d l
 | [] => by simp [sumC]
 | x :: l => by
  have ih := sum_le h l;have h1 := h x;simp only [sumC, List.map_cons, List.sum_cons, List.length_cons, Nat.mul_add] at ih ⊢;omega
end Go.Sy
