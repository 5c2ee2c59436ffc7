/-
  Strings: their lengths, bytes, equality.
  Conditions: none.
-/
import Derived.Test.YtkdghbglefhcjaaTup
import Derived.Laws.Strings
namespace Go.Sy
open Go Go.RowKit

/-- the k-th byte -/
def sB (s : ByteArray) (k : Nat) : Int := ((s.data[k]?).getD 0).toNat
section
variable {P : Program} {N : Nat} {w0 : World} {H : List Chunk} {L : Fm} {o : Oper}
theorem D_lens {t : TypeId} {x : Operand} {s : ByteArray} (ht : P.underlying t = some .string) (ho : o.op = .call ⟨.builtin .len, #[x], #[t]⟩) (hx : ev L x = some (.string s)) : RunV P N w0 H L o (.int .i64 (s.size : Int)) := by
  intro a w hf _
  unfold execOp
  rw [ho]
  simp [resolve, invoke, builtin, Builtin.len_, hf.ev hx, run_underlying ht, goInt]
theorem D_sidx {t : TypeId} {x i : Operand} {s : ByteArray} {j : Nat} {z : Int} (ht : P.underlying t = some .string) (ho : o.op = .index t x i) (hx : ev L x = some (.string s)) (hi : ev L i = some (.int .i64 z)) (hz : z = (j : Int)) (hj : j < s.size) : RunV P N w0 H L o (.int .u8 (sB s j)) := by
  intro a w hf _
  subst hz
  have h1 : s[j]? = some (s[j]'hj) := getElem?_pos s j hj
  have h2 : sB s j = ((s[j]'hj).toNat : Int) := by
    unfold sB
    have : s.data[j]? = some (s[j]'hj) := by
      rw [Array.getElem?_eq_getElem hj]; rfl
    rw [this]; rfl
  unfold execOp
  rw [ho]
  simp [Instr.index, asIntOf, hf.ev hx, hf.ev hi, run_underlying ht, h1, h2]
theorem bytes_eq (a b : ByteArray) : (a.toList == b.toList) = decide (a = b) := by
  rw [Bool.eq_iff_iff]
  simp only [beq_iff_eq, decide_eq_true_eq]
  constructor
  · intro h
    have h1 : a.toList = a.data.toList := ByteArray.toList_eq a
    have h2 : b.toList = b.data.toList := ByteArray.toList_eq b
    rw [h1, h2] at h
    cases a; cases b
    simp only at h
    congr 1
    exact Array.toList_inj.1 h
  · intro h; rw [h]
theorem D_eqS {t t' : TypeId} {x y : Operand} {m n : ByteArray} (ho : o.op = .binOp .eql t x y t') (hx : ev L x = some (.string m)) (hy : ev L y = some (.string n)) : RunV P N w0 H L o (.bool (decide (m = n))) := by
  intro a w hf _
  unfold execOp
  rw [ho]
  simp only [hf.ev hx, hf.ev hy]
  simp [eqGuard, binOp, Op.stringOp, bytes_eq]
theorem D_neS {t t' : TypeId} {x y : Operand} {m n : ByteArray} (ho : o.op = .binOp .neq t x y t') (hx : ev L x = some (.string m)) (hy : ev L y = some (.string n)) : RunV P N w0 H L o (.bool (!(decide (m = n)))) := by
  intro a w hf _
  unfold execOp
  rw [ho]
  simp only [hf.ev hx, hf.ev hy]
  simp [eqGuard, binOp, Op.stringOp, bytes_eq]
theorem sB_rng (s : ByteArray) (k : Nat) : 0 ≤ sB s k ∧ sB s k ≤ 255 := by
  unfold sB
  have := ((s.data[k]?).getD 0).toNat_lt
  omega
theorem D_cvt {t t' : TypeId} {x : Operand} {s : ByteArray} {k : Nat} (ht : P.underlying t' = some (.int .i64)) (hu : ∃ u, P.underlying t = some u) (ho : o.op = .convert t t' x) (hx : ev L x = some (.int .u8 (sB s k))) : RunV P N w0 H L o (.int .i64 (sB s k)) := by
  intro a w hf _
  obtain ⟨u, hu⟩ := hu
  have hr := sB_rng s k
  unfold execOp
  rw [ho]
  simp [convert, hf.ev hx, run_underlying ht, run_underlying hu, Conv.intToInt, IntWalk.i64_in _ (show -9223372036854775808 ≤ sB s k ∧ sB s k ≤ 9223372036854775807 by omega)]
theorem at_sub {w : World} {p : Addr} {es es' : List Value} {f n : Nat} (h : AtE w p es) (e : (es.drop f).take n = es') : AtE w (p.add f) es' := by
  subst e
  intro j u hu
  rw [List.getElem?_take] at hu
  split at hu
  · rw [List.getElem?_drop] at hu
    rw [add_add]
    exact h (f + j) u hu
  · cases hu
end
end Go.Sy
