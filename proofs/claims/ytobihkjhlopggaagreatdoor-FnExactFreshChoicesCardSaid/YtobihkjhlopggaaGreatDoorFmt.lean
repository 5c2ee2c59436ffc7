/-
  Numbers as texts; reasons written out.
  Conditions: those that each theorem states.
-/
import Derived.Test.YtobihkjhlopggaaGreatDoorBase
import Derived.Test.YtobihkjhlopggaaGreatDoorOwn2
import Derived.Lib.ItoaNum
import Derived.Lib.ItoaLen
namespace Go.Sy
open Go
def itoaB (n : Int) : ByteArray := ⟨(Lib.itoa n).toArray⟩
theorem itoaB_size {n : Int} (h0 : -9223372036854775808 ≤ n) (h1 : n ≤ 9223372036854775807) : (itoaB n).size ≤ 21 := by
 have := Lib.itoa_length_le n h0 h1;show (Lib.itoa n).toArray.size ≤ 21;simpa using this
theorem ba_ext {a b : ByteArray} (h : a.data.toList = b.data.toList) : a = b := by
 cases a; cases b
 simp only at h
 congr 1
 exact Array.toList_inj.1 h
theorem ba_app (a b : ByteArray) : (a ++ b).data.toList = a.data.toList ++ b.data.toList := by
 rw [ByteArray.data_append]; simp
def digT (n nn : Int) (s : ByteArray) : Prop := 0 ≤ nn ∧ nn ≤ n ∧ Lib.decDigits n.toNat = Lib.decDigits nn.toNat ++ s.data.toList
theorem digT_zero {n : Int} (h : 0 ≤ n) : digT n n ⟨#[]⟩ := ⟨h, Int.le_refl _, by simp⟩
theorem tmod10 {n : Int} (h : 0 ≤ n) : Int.tmod n 10 = ((n.toNat % 10 : Nat) : Int) := by
 rw [Int.tmod_eq_emod_of_nonneg h];omega
theorem dig_len (u : Nat) (h : u ≤ 9223372036854775807) : (Lib.decDigits u).length ≤ 21 := by
 have := Lib.itoa_length_le (u : Int) (by omega) (by omega);unfold Lib.itoa at this;rw [if_neg (by omega)] at this;simpa using this
theorem digT_sz {n nn : Int} {s : ByteArray} (h : digT n nn s) (hn : n ≤ 9223372036854775807) : s.size ≤ 21 := by
 have h1 := congrArg List.length h.2.2;rw [List.length_append] at h1;have h2 := dig_len n.toNat (by omega);have h3 : s.data.toList.length = s.size := by rw [Array.length_toList]; rfl
 omega
theorem digT_step {n nn : Int} {s : ByteArray} (h : digT n nn s) (hz : nn / 10 ≠ 0) : digT n (nn / 10) ((⟨#[UInt8.ofNat (48 + Int.tmod nn 10).toNat]⟩ : ByteArray) ++ s) := by
 obtain ⟨h0, h1, h2⟩ := h;refine ⟨by omega, by omega, ?_⟩;rw [h2, ba_app];have e1 : Lib.decDigits nn.toNat = Lib.decDigits (nn.toNat / 10) ++ [UInt8.ofNat (48 + nn.toNat % 10)] := by
  rw [Lib.decDigits, dif_neg (by omega)]
 have e2 : (nn / 10).toNat = nn.toNat / 10 := by omega
 have e3 : (48 + Int.tmod nn 10).toNat = 48 + nn.toNat % 10 := by rw [tmod10 h0]; omega
 rw [e1, e2, e3, List.append_assoc]
theorem digT_done {n nn : Int} {s : ByteArray} (h : digT n nn s) (hz : nn / 10 = 0) : (⟨#[UInt8.ofNat (48 + Int.tmod nn 10).toNat]⟩ : ByteArray) ++ s = itoaB n := by
 obtain ⟨h0, h1, h2⟩ := h
 apply ba_ext
 rw [ba_app];have e1 : Lib.decDigits nn.toNat = [UInt8.ofNat (48 + nn.toNat)] := Lib.decDigits_one (by omega);have e3 : (48 + Int.tmod nn 10).toNat = 48 + nn.toNat := by rw [tmod10 h0]; omega
 unfold itoaB Lib.itoa;rw [if_neg (by omega), h2, e1, e3]
theorem itoa_neg {n : Int} (h : n < 0) (hm : -9223372036854775808 ≤ n) : (⟨#[45]⟩ : ByteArray) ++ itoaB (-n) = itoaB n := by
 apply ba_ext
 rw [ba_app];unfold itoaB Lib.itoa;rw [if_neg (by omega), if_pos h];have : (-n).toNat = n.natAbs := by omega
 rw [this];rfl
theorem itoa_min : (⟨#[45, 57, 50, 50, 51, 51, 55, 50, 48, 51, 54, 56, 53, 52, 55, 55, 53, 56, 48, 56]⟩ : ByteArray) = itoaB (-9223372036854775808) := by
 apply ba_ext
 decide +kernel
end Go.Sy
