/-
  The cursor over drawn bytes: a struct that is written through a pointer.
  Conditions: none.
-/
import Derived.Test.YtkdghbglefhcjaaOwn2
import Derived.Laws.Bits128
namespace Go.Sy
open Go Go.RowKit

instance : Fl UInt8 := ⟨fun b => .int .u8 b.toNat, fun _ => rfl⟩
def cu (g : Nat) (v : Value) (n : Nat) : Chunk where
  ok w fp := fp = [g] ∧ ∃ (i h : Int) (t : TypeId), w.heap[g]? = some (.cells #[v, .int .i64 i, .int .i64 h] t (0, 0)) ∧ 0 ≤ i ∧ i ≤ n
  loc := fun w w' fp h hs => by
    obtain ⟨rfl, i, h, t, he, h0, h1⟩ := h
    exact ⟨rfl, i, h, t, by rw [hs g (by simp)]; exact he, h0, h1⟩
def mulZ (m n : Int) : Int := IntKind.i64.wrap (m * n)
theorem andZ_255 (n : Int) : andZ n 255 = n % 256 := by
  have h255 : (BitVec.ofInt 64 255).toNat = 2 ^ 8 - 1 := by decide
  have key : (BitVec.ofInt 64 n &&& BitVec.ofInt 64 255).toNat = (n % ((2 ^ 64 : Nat) : Int)).toNat % 2 ^ 8 := by
    rw [BitVec.toNat_and, BitVec.toNat_ofInt, h255, Nat.and_two_pow_sub_one_eq_mod]
  show IntKind.i64.wrap ((BitVec.ofInt 64 n &&& BitVec.ofInt 64 255).toNat : Nat) = n % 256
  rw [key, IntKind.wrap_i64]
  omega
theorem and_255 (n : Int) : 0 ≤ andZ n 255 ∧ andZ n 255 ≤ 255 := by rw [andZ_255]; omega
theorem tmod_rng {m n : Int} (h0 : 0 ≤ m) (hn : 0 < n) : 0 ≤ m.tmod n ∧ m.tmod n < n := by
  rw [Int.tmod_eq_emod_of_nonneg h0]
  exact ⟨Int.emod_nonneg _ (by omega), Int.emod_lt_of_pos _ hn⟩
theorem tmod_post {m n : Int} (h0 : 0 ≤ m) (hn : 0 < n) : 0 ≤ m.tmod n ∧ (0 < n → m.tmod n < n) := ⟨(tmod_rng h0 hn).1, fun _ => (tmod_rng h0 hn).2⟩
def xorZ (m n : Int) : Int := bits .xor .i64 m n
section
variable {P : Program} {N : Nat} {w0 : World} {H : List Chunk} {L : Fm} {Q : Exit → Act → World → Prop} {o : Oper} {d : Nat} {K : Act → World → Prop} {g n : Nat} {v : Value}
theorem D_cuo (k : ∀ i h : Int, 0 ≤ i → i ≤ n → D N w0 (bx g [v, .int .i64 i, .int .i64 h] :: H) L K) : D N w0 (cu g v n :: H) L K := by
  intro a w hf hs
  obtain ⟨fp, ⟨hfp, i, h, t, he, h0, h1⟩, _⟩ := hs.at (k := 0) rfl
  refine k i h h0 h1 a w hf (hs.conv (c' := bx g [v, .int .i64 i, .int .i64 h]) (fun fq hq => ⟨fq, ?_, List.Perm.refl _⟩))
  obtain ⟨e, _⟩ := hq
  exact ⟨e, t, he⟩
theorem D_cuc {i h : Int} (h0 : 0 ≤ i ∧ i ≤ n) (k : D N w0 (cu g v n :: H) L K) : D N w0 (bx g [v, .int .i64 i, .int .i64 h] :: H) L K := by
  intro a w hf hs
  refine k a w hf (hs.conv (c' := cu g v n) (fun fq hq => ⟨fq, ?_, List.Perm.refl _⟩))
  obtain ⟨e, t, he⟩ := hq
  exact ⟨e, i, h, t, he, h0.1, h0.2⟩
theorem D_nilc {x : Operand} {p : Addr} (ho : o.op = .nilCheck x) (hx : ev L x = some (.pointer (some p))) : RunV P N w0 H L o (.pointer (some p)) := by
  intro a w hf _
  unfold execOp
  rw [ho]
  simp [hf.ev hx]
theorem D_mul {t t' : TypeId} {x y : Operand} {m n : Int} (ho : o.op = .binOp .mul t x y t') (hx : ev L x = some (.int .i64 m)) (hy : ev L y = some (.int .i64 n)) : RunV P N w0 H L o (.int .i64 (mulZ m n)) := by
  intro a w hf _
  unfold execOp
  rw [ho]
  simp only [hf.ev hx, hf.ev hy]
  simp [eqGuard, binOp, Op.intArith, mulZ]
theorem mulZ_in {m n : Int} (h : -9223372036854775808 ≤ m * n ∧ m * n ≤ 9223372036854775807) : mulZ m n = m * n := by
  unfold mulZ
  exact IntWalk.i64_in _ h
theorem D_xor {t t' : TypeId} {x y : Operand} {m n : Int} (ho : o.op = .binOp .xor t x y t') (hx : ev L x = some (.int .i64 m)) (hy : ev L y = some (.int .i64 n)) : RunV P N w0 H L o (.int .i64 (xorZ m n)) := by
  intro a w hf _
  unfold execOp
  rw [ho]
  simp only [hf.ev hx, hf.ev hy]
  have e : Op.intBits .xor .i64 m n = pure (.int .i64 (bits .xor .i64 m n)) := rfl
  simp [eqGuard, binOp, e, xorZ]
theorem D_remv {t t' : TypeId} {x y : Operand} {m n : Int} (ho : o.op = .binOp .rem t x y t') (hx : ev L x = some (.int .i64 m)) (hy : ev L y = some (.int .i64 n)) (hn : n ≠ 0) : RunV P N w0 H L o (.int .i64 (m.tmod n)) := D_rem ho hx hy (by simpa using hn)
/-- calls with a cursor -/
theorem ccI {c : Chunk} {φ : Int → Prop} {f : Nat} {as : List Operand} {vs : List Value} {tys : Array TypeId} (hb : hasBody P f = true)
    (ho : o.op = .call ⟨.value (.func f), as.toArray, tys⟩) (ha : evs L as = some vs) (hd : o.dst = some d) (hN : Nat.blt d N = true)
    (hc : ∀ w, St w0 (c :: H) w → Calls P f vs.toArray w (fun e w' => ∃ y : Int, φ y ∧ e = .returned (.int .i64 y) ∧ St w0 (c :: H) w'))
    (k : ∀ y, φ y → D N w0 (c :: H) ((d, .int .i64 y) :: L) K) : D N w0 (c :: H) L (fun a w => o.wp P a w K Q) :=
  D_call (σ := Int) (val := fun y => .int .i64 y) (H' := fun _ => c :: H) (J := φ) hb ho ha hd hN
    (fun w hs => (hc w hs).mono fun _ _ ⟨y, hy, he, hst⟩ => ⟨y, he, hy, hst⟩) (fun y hy => k y hy)
theorem ccB {c : Chunk} {f : Nat} {as : List Operand} {vs : List Value} {tys : Array TypeId} (hb : hasBody P f = true)
    (ho : o.op = .call ⟨.value (.func f), as.toArray, tys⟩) (ha : evs L as = some vs) (hd : o.dst = some d) (hN : Nat.blt d N = true)
    (hc : ∀ w, St w0 (c :: H) w → Calls P f vs.toArray w (fun e w' => ∃ y : Bool, e = .returned (.bool y) ∧ St w0 (c :: H) w'))
    (k : ∀ y, D N w0 (c :: H) ((d, .bool y) :: L) K) : D N w0 (c :: H) L (fun a w => o.wp P a w K Q) :=
  D_call (σ := Bool) (val := fun y => .bool y) (H' := fun _ => c :: H) (J := fun _ => True) hb ho ha hd hN
    (fun w hs => (hc w hs).mono fun _ _ ⟨y, he, hst⟩ => ⟨y, he, trivial, hst⟩) (fun y _ => k y)
theorem ccR {α : Type} [Gd α] {c : Chunk} {φ : α → Prop} {f : Nat} {as : List Operand} {vs : List Value} {tys : Array TypeId} (hb : hasBody P f = true)
    (ho : o.op = .call ⟨.value (.func f), as.toArray, tys⟩) (ha : evs L as = some vs) (hd : o.dst = some d) (hN : Nat.blt d N = true)
    (hc : ∀ w, St w0 (c :: H) w → Calls P f vs.toArray w (fun e w' => ∃ (y : α) (cs : List Value), φ y ∧ e = .returned (Gd.vl α cs) ∧ St w0 (ov cs y :: c :: H) w'))
    (k : ∀ y cs, φ y → D N w0 (ov cs y :: c :: H) ((d, Gd.vl α cs) :: L) K) : D N w0 (c :: H) L (fun a w => o.wp P a w K Q) :=
  D_call (σ := α × List Value) (val := fun s => Gd.vl α s.2) (H' := fun s => ov s.2 s.1 :: c :: H) (J := fun s => φ s.1) hb ho ha hd hN
    (fun w hs => (hc w hs).mono fun _ _ ⟨y, cs, hy, he, hst⟩ => ⟨(y, cs), he, hy, hst⟩) (fun s hs => k s.1 s.2 hs)
theorem D_cvu {t t' : TypeId} {x : Operand} {b : UInt8} (ht : P.underlying t' = some (.int .i64)) (hu : ∃ u, P.underlying t = some u) (ho : o.op = .convert t t' x) (hx : ev L x = some (.int .u8 (b.toNat : Int))) : RunV P N w0 H L o (.int .i64 (b.toNat : Int)) := by
  intro a w hf _
  obtain ⟨u, hu⟩ := hu
  have hr := b.toNat_lt
  unfold execOp
  rw [ho]
  simp [convert, hf.ev hx, run_underlying ht, run_underlying hu, Conv.intToInt, IntWalk.i64_in _ (show -9223372036854775808 ≤ (b.toNat : Int) ∧ (b.toNat : Int) ≤ 9223372036854775807 by omega)]
/-- a new cursor -/
def ResC (w : World) (v : Value) (n : Nat) (e : Ending) (w' : World) : Prop := ∃ g, e = .returned (.pointer (some ⟨g, 0, none⟩)) ∧ (cu g v n).ok w' [g] ∧ w.heap.size ≤ g ∧ g < w'.heap.size ∧ Ex w w'
theorem resC_of {w : World} {k : Nat} (hs : St w0 H w) (hk : H[k]? = some (cu g v n)) : ResC w0 v n (.returned (.pointer (some ⟨g, 0, none⟩))) w := by
  obtain ⟨fp, hok, hn, hb⟩ := hs.at hk
  have e : fp = [g] := hok.1
  subst e
  exact ⟨g, rfl, hok, (hb g (by simp)).1, (hb g (by simp)).2, hs.bel⟩
theorem ccN {f : Nat} {as : List Operand} {vs : List Value} {tys : Array TypeId} (hb : hasBody P f = true)
    (ho : o.op = .call ⟨.value (.func f), as.toArray, tys⟩) (ha : evs L as = some vs) (hd : o.dst = some d) (hN : Nat.blt d N = true)
    (hc : ∀ w, St w0 H w → Calls P f vs.toArray w (ResC w v n))
    (k : ∀ g, D N w0 (cu g v n :: H) ((d, .pointer (some ⟨g, 0, none⟩)) :: L) K) : D N w0 H L (fun a w => o.wp P a w K Q) :=
  D_call (σ := Nat) (val := fun g => .pointer (some ⟨g, 0, none⟩)) (H' := fun g => cu g v n :: H) (J := fun _ => True) hb ho ha hd hN
    (fun w hs => (hc w hs).mono fun _ _ ⟨g, he, hok, h1, h2, hx⟩ => ⟨g, he, trivial, hs.push hx (c := cu g v n) (fp := [g]) hok (by simp) (fun q hq => by simp only [List.mem_singleton] at hq; subst hq; exact ⟨h1, h2⟩)⟩) (fun g _ => k g)
/-- results of which only something is known -/
theorem crE {α : Type} [Gd α] {φ : α → Prop} {f : Nat} {as : List Operand} {vs : List Value} {tys : Array TypeId} (hb : hasBody P f = true)
    (ho : o.op = .call ⟨.value (.func f), as.toArray, tys⟩) (ha : evs L as = some vs) (hd : o.dst = some d) (hN : Nat.blt d N = true)
    (hc : ∀ w, St w0 H w → Calls P f vs.toArray w (fun e w' => ∃ y : α, φ y ∧ Res w y e w'))
    (k : ∀ y cs, φ y → D N w0 (ov cs y :: H) ((d, Gd.vl α cs) :: L) K) : D N w0 H L (fun a w => o.wp P a w K Q) :=
  D_call (σ := α × List Value) (val := fun s => Gd.vl α s.2) (H' := fun s => ov s.2 s.1 :: H) (J := fun s => φ s.1) hb ho ha hd hN
    (fun w hs => (hc w hs).mono fun _ _ ⟨y, hy, cs, fp, he, how, hn, hb, hx⟩ => ⟨(y, cs), he, hy, hs.push hx (c := ov cs y) how hn (fun g hg => ⟨hb g hg, Gd.ow_lt how g hg⟩)⟩) (fun s hs => k s.1 s.2 hs)
end
end Go.Sy
