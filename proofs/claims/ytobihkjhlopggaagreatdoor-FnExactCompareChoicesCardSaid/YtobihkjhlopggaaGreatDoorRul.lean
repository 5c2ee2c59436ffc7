/-
  Texts in order, patterns, conditions, rules: what is valid.
  Conditions: those that each theorem states.
-/
import Derived.Test.YtobihkjhlopggaaGreatDoorEng
import Derived.Test.YtobihkjhlopggaaGreatDoorOwn2
import Derived.Sort.EncStr
namespace Go.Sy
open Go
/-! ### the order of texts -/
theorem bl_irrefl : ∀ l : List UInt8, Op.bytesLess l l = false
  | [] => rfl
  | a :: l => by
    unfold Op.bytesLess
    have := bl_irrefl l
    simp [this]
theorem bl_tot : ∀ {a b : List UInt8}, Op.bytesLess a b = false → Op.bytesLess b a = false → a = b
  | [], [], _, _ => rfl
  | [], _ :: _, h, _ => by simp [Op.bytesLess] at h
  | _ :: _, [], _, h => by simp [Op.bytesLess] at h
  | x :: a, y :: b, h1, h2 => by
    unfold Op.bytesLess at h1 h2
    simp only [Bool.or_eq_false_iff, decide_eq_false_iff_not, Bool.and_eq_false_iff, beq_eq_false_iff_ne] at h1 h2
    have hxy : x = y := by
      have h3 : ¬ x.toNat < y.toNat := h1.1
      have h4 : ¬ y.toNat < x.toNat := h2.1
      exact UInt8.toNat_inj.1 (by omega)
    subst hxy
    have k1 : Op.bytesLess a b = false := by rcases h1.2 with h | h; (· exact absurd rfl h); (· exact h)
    have k2 : Op.bytesLess b a = false := by rcases h2.2 with h | h; (· exact absurd rfl h); (· exact h)
    rw [bl_tot k1 k2]
theorem tl_eq (a : ByteArray) : a.toList = a.data.toList := ByteArray.toList_eq a
theorem rb_ext {a b : ByteArray} (h : a.data.toList = b.data.toList) : a = b := by
  cases a; cases b
  simp only at h
  congr 1
  exact Array.toList_inj.1 h
theorem ltS_irrefl (a : ByteArray) : ltS a a = false := bl_irrefl _
theorem ltS_tot {a b : ByteArray} (h1 : ltS a b = false) (h2 : ltS b a = false) : a = b := by
  have := bl_tot h1 h2
  rw [tl_eq, tl_eq] at this
  exact rb_ext this
/-! ### texts in order, each once -/
/-! ### sorted by the library, then each once -/
end Go.Sy
namespace Go.Sy
open Go
/-! ### the loops -/
end Go.Sy
namespace Go.Sy
open Go
/-! ### the text of a mark -/
/-! ### marks along a list -/
section
variable {α : Type} {f : Int → α → α} {c : α → Nat}
end
end Go.Sy
