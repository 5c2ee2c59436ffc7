/-
  Numbers as texts; reasons written out.
  Conditions: those that each theorem states.
-/
import Derived.Test.YtkbiaedfnpbpfaaGreatDoorBase
import Derived.Test.YtkbiaedfnpbpfaaGreatDoorOwn2
import Derived.Lib.ItoaNum
import Derived.Lib.ItoaLen
namespace Go.Sy
open Go
def itoaB (n : Int) : ByteArray := ⟨(Lib.itoa n).toArray⟩
theorem itoaB_size {n : Int} (h0 : -9223372036854775808 ≤ n) (h1 : n ≤ 9223372036854775807) : (itoaB n).size ≤ 21 := by
  have := Lib.itoa_length_le n h0 h1
  show (Lib.itoa n).toArray.size ≤ 21
  simpa using this
theorem ba_ext {a b : ByteArray} (h : a.data.toList = b.data.toList) : a = b := by
  cases a; cases b
  simp only at h
  congr 1
  exact Array.toList_inj.1 h
theorem ba_app (a b : ByteArray) : (a ++ b).data.toList = a.data.toList ++ b.data.toList := by
  rw [ByteArray.data_append]; simp
/-- the digits so far -/
def digT (n nn : Int) (s : ByteArray) : Prop := 0 ≤ nn ∧ nn ≤ n ∧ Lib.decDigits n.toNat = Lib.decDigits nn.toNat ++ s.data.toList
theorem digT_zero {n : Int} (h : 0 ≤ n) : digT n n ⟨#[]⟩ := ⟨h, Int.le_refl _, by simp⟩
theorem tmod10 {n : Int} (h : 0 ≤ n) : Int.tmod n 10 = ((n.toNat % 10 : Nat) : Int) := by
  rw [Int.tmod_eq_emod_of_nonneg h]
  omega
theorem dig_len (u : Nat) (h : u ≤ 9223372036854775807) : (Lib.decDigits u).length ≤ 21 := by
  have := Lib.itoa_length_le (u : Int) (by omega) (by omega)
  unfold Lib.itoa at this
  rw [if_neg (by omega)] at this
  simpa using this
theorem digT_sz {n nn : Int} {s : ByteArray} (h : digT n nn s) (hn : n ≤ 9223372036854775807) : s.size ≤ 21 := by
  have h1 := congrArg List.length h.2.2
  rw [List.length_append] at h1
  have h2 := dig_len n.toNat (by omega)
  have h3 : s.data.toList.length = s.size := by rw [Array.length_toList]; rfl
  omega
theorem digT_step {n nn : Int} {s : ByteArray} (h : digT n nn s) (hz : nn / 10 ≠ 0) : digT n (nn / 10) ((⟨#[UInt8.ofNat (48 + Int.tmod nn 10).toNat]⟩ : ByteArray) ++ s) := by
  obtain ⟨h0, h1, h2⟩ := h
  refine ⟨by omega, by omega, ?_⟩
  rw [h2, ba_app]
  have e1 : Lib.decDigits nn.toNat = Lib.decDigits (nn.toNat / 10) ++ [UInt8.ofNat (48 + nn.toNat % 10)] := by
    rw [Lib.decDigits, dif_neg (by omega)]
  have e2 : (nn / 10).toNat = nn.toNat / 10 := by omega
  have e3 : (48 + Int.tmod nn 10).toNat = 48 + nn.toNat % 10 := by rw [tmod10 h0]; omega
  rw [e1, e2, e3, List.append_assoc]
theorem digT_done {n nn : Int} {s : ByteArray} (h : digT n nn s) (hz : nn / 10 = 0) : (⟨#[UInt8.ofNat (48 + Int.tmod nn 10).toNat]⟩ : ByteArray) ++ s = itoaB n := by
  obtain ⟨h0, h1, h2⟩ := h
  apply ba_ext
  rw [ba_app]
  have e1 : Lib.decDigits nn.toNat = [UInt8.ofNat (48 + nn.toNat)] := Lib.decDigits_one (by omega)
  have e3 : (48 + Int.tmod nn 10).toNat = 48 + nn.toNat := by rw [tmod10 h0]; omega
  unfold itoaB Lib.itoa
  rw [if_neg (by omega), h2, e1, e3]
theorem itoa_neg {n : Int} (h : n < 0) (hm : -9223372036854775808 ≤ n) : (⟨#[45]⟩ : ByteArray) ++ itoaB (-n) = itoaB n := by
  apply ba_ext
  rw [ba_app]
  unfold itoaB Lib.itoa
  rw [if_neg (by omega), if_pos h]
  have : (-n).toNat = n.natAbs := by omega
  rw [this]
  rfl
theorem itoa_min : (⟨#[45, 57, 50, 50, 51, 51, 55, 50, 48, 51, 54, 56, 53, 52, 55, 55, 53, 56, 48, 56]⟩ : ByteArray) = itoaB (-9223372036854775808) := by
  apply ba_ext
  decide +kernel
/-- numbers, a byte ahead of each -/
def intsT (l : List Int) (k : Nat) (s : ByteArray) : ByteArray := (l.take k).foldl (fun s x => s ++ ((⟨#[32]⟩ : ByteArray) ++ itoaB x)) s
def intsB (l : List Int) (s : ByteArray) : ByteArray := l.foldl (fun s x => s ++ ((⟨#[32]⟩ : ByteArray) ++ itoaB x)) s
theorem intsT_step {l : List Int} {k : Nat} {x : Int} {s : ByteArray} (h : l[k]? = some x) : intsT l k s ++ ((⟨#[32]⟩ : ByteArray) ++ itoaB x) = intsT l (k + 1) s := by
  unfold intsT
  rw [take_snoc h, List.foldl_append]; rfl
theorem ba_assoc (a b c : ByteArray) : a ++ b ++ c = a ++ (b ++ c) := by
  apply ba_ext
  rw [ba_app, ba_app, ba_app, ba_app, List.append_assoc]
theorem ba_nil (a : ByteArray) : a ++ (⟨#[]⟩ : ByteArray) = a := by
  apply ba_ext
  rw [ba_app]; simp
theorem intsT_step2 {l : List Int} {k : Nat} {x : Int} {s : ByteArray} (h : l[k]? = some x) : intsT l k s ++ (⟨#[32]⟩ : ByteArray) ++ itoaB x = intsT l (k + 1) s := by
  rw [ba_assoc]; exact intsT_step h
theorem intsT_done {l : List Int} {k : Nat} {s : ByteArray} (h : l.length ≤ k) : intsT l k s = intsB l s := by
  unfold intsT intsB; rw [List.take_of_length_le h]
theorem intsB_app (l : List Int) (s : ByteArray) : s ++ intsB l ⟨#[]⟩ = intsB l s := by
  have key : ∀ (l : List Int) (s t : ByteArray), s ++ intsB l t = intsB l (s ++ t) := by
    intro l
    induction l with
    | nil => intro s t; rfl
    | cons x l ih =>
      intro s t
      show s ++ intsB l (t ++ ((⟨#[32]⟩ : ByteArray) ++ itoaB x)) = intsB l ((s ++ t) ++ ((⟨#[32]⟩ : ByteArray) ++ itoaB x))
      rw [ih, ba_assoc]
  rw [key, ba_nil]
def okIs (l : List Int) : Prop := ∀ x ∈ l, -9223372036854775808 ≤ x ∧ x ≤ 9223372036854775807
theorem intsT_sz {l : List Int} (ho : okIs l) (s : ByteArray) : ∀ k, (intsT l k s).size ≤ s.size + k * 22
  | 0 => by simp [intsT]
  | k + 1 => by
    have ih := intsT_sz ho s k
    by_cases hk : k < l.length
    · obtain ⟨x, hx⟩ := some_of_lt hk
      have hr := ho x (List.mem_of_getElem? hx)
      have h2 := itoaB_size hr.1 hr.2
      rw [← intsT_step hx, ByteArray.size_append, ByteArray.size_append]
      have : (⟨#[32]⟩ : ByteArray).size = 1 := rfl
      rw [Nat.add_mul]; omega
    · have e : l.take (k + 1) = l.take k := by rw [List.take_of_length_le (by omega), List.take_of_length_le (by omega)]
      unfold intsT at ih ⊢
      rw [e]
      omega
theorem intsB_sz {l : List Int} (ho : okIs l) (s : ByteArray) : (intsB l s).size ≤ s.size + l.length * 22 := by
  have := intsT_sz ho s l.length
  rwa [intsT_done (Nat.le_refl _)] at this
def fmtR (r : Reason) : ByteArray := intsB r.Out (if 0 < r.Out.length then intsB r.In (itoaB r.For ++ ⟨#[32, 60, 45]⟩) ++ ⟨#[32, 110, 111, 116]⟩ else intsB r.In (itoaB r.For ++ ⟨#[32, 60, 45]⟩))
theorem fmtR_t {r : Reason} (h : 0 < r.Out.length) : intsB r.Out (intsB r.In (itoaB r.For ++ ⟨#[32, 60, 45]⟩) ++ ⟨#[32, 110, 111, 116]⟩) = fmtR r := by
  unfold fmtR; rw [if_pos h]
theorem fmtR_f {r : Reason} (h : ¬ 0 < r.Out.length) : intsB r.Out (intsB r.In (itoaB r.For ++ ⟨#[32, 60, 45]⟩)) = fmtR r := by
  unfold fmtR; rw [if_neg h]
theorem fmtR_f2 {r : Reason} (h : ¬ 0 < r.Out.length) : intsB r.In (itoaB r.For ++ ⟨#[32, 60, 45]⟩) = fmtR r := by
  rw [← fmtR_f h]
  have : r.Out = [] := List.eq_nil_of_length_eq_zero (by omega)
  rw [this]; rfl
def fmtS (r : Reason) : ByteArray := if 0 < r.Out.length then intsB r.In (itoaB r.For ++ ⟨#[32, 60, 45]⟩) ++ ⟨#[32, 110, 111, 116]⟩ else intsB r.In (itoaB r.For ++ ⟨#[32, 60, 45]⟩)
theorem fmtS_t {r : Reason} (h : 0 < r.Out.length) : intsB r.In (itoaB r.For ++ ⟨#[32, 60, 45]⟩) ++ ⟨#[32, 110, 111, 116]⟩ = fmtS r := by unfold fmtS; rw [if_pos h]
theorem fmtS_f {r : Reason} (h : ¬ 0 < r.Out.length) : intsB r.In (itoaB r.For ++ ⟨#[32, 60, 45]⟩) = fmtS r := by unfold fmtS; rw [if_neg h]
def okRe (r : Reason) : Prop := (-9223372036854775808 ≤ r.For ∧ r.For ≤ 9223372036854775807) ∧ okIs r.In ∧ okIs r.Out
theorem fmtS_sz {r : Reason} (ho : okRe r) : (fmtS r).size ≤ 28 + r.In.length * 22 := by
  have h1 := itoaB_size ho.1.1 ho.1.2
  have h2 := intsB_sz ho.2.1 (itoaB r.For ++ ⟨#[32, 60, 45]⟩)
  have hc3 : (⟨#[32, 60, 45]⟩ : ByteArray).size = 3 := rfl
  have hc4 : (⟨#[32, 110, 111, 116]⟩ : ByteArray).size = 4 := rfl
  rw [ByteArray.size_append] at h2
  unfold fmtS
  split
  · rw [ByteArray.size_append]; omega
  · omega
end Go.Sy
