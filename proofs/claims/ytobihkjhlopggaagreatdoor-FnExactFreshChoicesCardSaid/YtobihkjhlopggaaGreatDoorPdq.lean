/-
  Rows that are sorted by exchanges: what the parts of the library's quicksort leave, as plain facts on lists.
  Conditions: those that each theorem states.
-/
import Derived.Test.YtobihkjhlopggaaGreatDoorSort
import Derived.Test.YtobihkjhlopggaaGreatDoorOwn2
import Derived.Laws.MathBits
import Derived.Lib.BitFns
namespace Go.Sy
section
variable {α : Type} [Inhabited α] {lt : α → α → Bool}
theorem Chg.get {d e : List α} {a b : Nat} (h : Chg d e a b) {φ : α → Prop} (hp : ∀ p, a ≤ p → p < b → φ (A d p)) : ∀ p, a ≤ p → p < b → φ (A e p) := fun p h1 h2 => by
 obtain ⟨j, h3, h4, e1⟩ := h.mem p h1 h2;rw [e1]; exact hp j h3 h4
def Sft (lt : α → α → Bool) (d : List α) (f lo hi r : Nat) : Prop := (∀ p c, lo ≤ p → p ≠ r → (c = 2 * p + 1 ∨ c = 2 * p + 2) → c < hi → lt (A d (f + p)) (A d (f + c)) = false) ∧
 (∀ p c, lo ≤ p → (r = 2 * p + 1 ∨ r = 2 * p + 2) → (c = 2 * r + 1 ∨ c = 2 * r + 2) → c < hi → lt (A d (f + p)) (A d (f + c)) = false)
theorem Sft.at {d : List α} {f lo hi r r' : Nat} (h : Sft lt d f lo hi r) (e : r = r') : Sft lt d f lo hi r' := e ▸ h
theorem srd_small {d : List α} {n : Nat} (h : n ≤ 1) : Srd lt d 0 n := fun p q h1 h2 h3 => by omega
end
end Go.Sy
namespace Go.Sy
open Go Go.RowKit
structure Srx {α : Type} [Inhabited α] (P : Program) (C : List α → Chunk) (lt : α → α → Bool) (d0 : List α) (dv : Value) (w0 : World) : Prop where
  len : ∀ (Hs : List Chunk) (w : World) (d : List α), List.Perm d d0 → St w0 (C d :: Hs) w → ∃ f as, hasBody P f = true ∧ (callMethod dv "Len" #[]).run P w = (callFunc f as).run P w ∧ Calls P f as w (fun e w' => e = .returned (.int .i64 (d0.length : Int)) ∧ St w0 (C d :: Hs) w')
  less : ∀ (Hs : List Chunk) (w : World) (d : List α) (i j : Nat), List.Perm d d0 → i < d0.length → j < d0.length → St w0 (C d :: Hs) w →
    ∃ f as, hasBody P f = true ∧ (callMethod dv "Less" #[Value.int .i64 (i : Int), Value.int .i64 (j : Int)]).run P w = (callFunc f as).run P w ∧ Calls P f as w (fun e w' => e = .returned (.bool (lt (A d i) (A d j))) ∧ St w0 (C d :: Hs) w')
  swap : ∀ (Hs : List Chunk) (w : World) (d : List α) (i j : Nat), List.Perm d d0 → i < d0.length → j < d0.length → St w0 (C d :: Hs) w →
    ∃ f as, hasBody P f = true ∧ (callMethod dv "Swap" #[Value.int .i64 (i : Int), Value.int .i64 (j : Int)]).run P w = (callFunc f as).run P w ∧ Calls P f as w (fun e w' => e = .returned (.tuple #[]) ∧ St w0 (C (swp d i j) :: Hs) w')
section
variable {P : Program} {N : Nat} {w0 : World} {H : List Chunk} {L : Fm} {Q : Exit → Act → World → Prop} {o : Oper} {dd : Nat} {K : Act → World → Prop}
theorem run_im {x : Operand} {nm : String} {as : List Operand} {vs : List Value} {v : Value} {tys : Array TypeId} {a : Act} {w : World} (hf : Fits a N L)
  (ho : o.op = .call ⟨.invoke x nm, as.toArray, tys⟩) (hx : ev L x = some v) (ha : evs L as = some vs) : (execOp a.eval o).run P w = (callMethod v nm vs.toArray).run P w := by
 unfold execOp;rw [ho];have he : (as.toArray.map a.eval) = vs.toArray := by rw [List.map_toArray, hf.evs ha]
 simp only [resolve, hf.ev hx, he, Sem.run_bind, Sem.run_pure, Result.andThen_ok, invoke];simp
theorem D_im {x : Operand} {nm : String} {as : List Operand} {vs : List Value} {v r : Value} {tys : Array TypeId} {H' : List Chunk} (ho : o.op = .call ⟨.invoke x nm, as.toArray, tys⟩) (hx : ev L x = some v) (ha : evs L as = some vs) (hd : o.dst = some dd) (hN : Nat.blt dd N = true)
  (hc : ∀ w, St w0 H w → ∃ f bs, hasBody P f = true ∧ (callMethod v nm vs.toArray).run P w = (callFunc f bs).run P w ∧ Calls P f bs w (fun e w' => e = .returned r ∧ St w0 H' w'))
  (k : D N w0 H' ((dd, r) :: L) K) : D N w0 H L (fun a w => o.wp P a w K Q) := by
 intro a w hf hs;show o.wp P a w K Q;obtain ⟨f, bs, hb, h1, hc⟩ := hc w hs;have h2 := run_im (P := P) (w := w) hf ho hx ha;unfold hasBody at hb
 split at hb
 ·rename_i fn hfn;simp only [Bool.and_eq_true, Bool.not_eq_true'] at hb;have hrun : (execOp a.eval o).run P w = .ok (.enter f bs) w := by
   rw [h2, h1];have hbody : fn.body.isNone = false := by rw [← Option.not_isSome, hb.2]; rfl
   have hnm : ¬ fn.name = "runtime.NumGoroutine" := by simpa using hb.1
   have hbn : ¬ fn.body = none := by intro e; rw [e] at hbody; cases hbody
   simp only [callFunc, program];simp [Sem.run, hfn, hnm, hbn]
  unfold Oper.wp;rw [hrun, Oper.upon_enter];refine hc.mono fun e w' he => ?_
  obtain ⟨rfl, hx⟩ := he;simp only;rw [hd];exact k _ _ (hf.put hN _) hx
 ·cases hb
section
variable {α : Type} [Inhabited α] {C : List α → Chunk} {lt : α → α → Bool} {d0 d : List α} {dv : Value}
theorem iless (S : Srx P C lt d0 dv w0) (hp : List.Perm d d0) {x : Operand} {as : List Operand} {tys : Array TypeId} {i j : Nat}
  (ho : o.op = .call ⟨.invoke x "Less", as.toArray, tys⟩) (hx : ev L x = some dv) (ha : evs L as = some [Value.int .i64 (i : Int), Value.int .i64 (j : Int)]) (hd : o.dst = some dd) (hN : Nat.blt dd N = true)
  (hi : i < d0.length) (hj : j < d0.length) (k : D N w0 (C d :: H) ((dd, .bool (lt (A d i) (A d j))) :: L) K) : D N w0 (C d :: H) L (fun a w => o.wp P a w K Q) :=
 D_im ho hx ha hd hN (fun w hs => S.less H w d i j hp hi hj hs) k
theorem iswap (S : Srx P C lt d0 dv w0) (hp : List.Perm d d0) {x : Operand} {as : List Operand} {tys : Array TypeId} {i j : Nat}
  (ho : o.op = .call ⟨.invoke x "Swap", as.toArray, tys⟩) (hx : ev L x = some dv) (ha : evs L as = some [Value.int .i64 (i : Int), Value.int .i64 (j : Int)]) (hd : o.dst = some dd) (hN : Nat.blt dd N = true)
  (hi : i < d0.length) (hj : j < d0.length) (k : D N w0 (C (swp d i j) :: H) ((dd, .tuple #[]) :: L) K) : D N w0 (C d :: H) L (fun a w => o.wp P a w K Q) :=
 D_im ho hx ha hd hN (fun w hs => S.swap H w d i j hp hi hj hs) k
theorem ilen (S : Srx P C lt d0 dv w0) (hp : List.Perm d d0) {x : Operand} {tys : Array TypeId}
  (ho : o.op = .call ⟨.invoke x "Len", #[], tys⟩) (hx : ev L x = some dv) (hd : o.dst = some dd) (hN : Nat.blt dd N = true)
  (k : D N w0 (C d :: H) ((dd, .int .i64 (d0.length : Int)) :: L) K) : D N w0 (C d :: H) L (fun a w => o.wp P a w K Q) :=
 D_im (as := []) ho hx rfl hd hN (fun w hs => S.len H w d hp hs) k
omit [Inhabited α] in
theorem cix {σ : Type} {val : σ → Value} {J : σ → List α → Prop} {H' : σ → List Chunk} {f : Nat} {as : List Operand} {vs : List Value} {tys : Array TypeId} (hb : hasBody P f = true)
  (ho : o.op = .call ⟨.value (.func f), as.toArray, tys⟩) (ha : evs L as = some vs) (hd : o.dst = some dd) (hN : Nat.blt dd N = true)
  (hc : ∀ w, St w0 (C d :: H) w → Calls P f vs.toArray w (fun e w' => ∃ s e', J s e' ∧ e = .returned (val s) ∧ St w0 (C e' :: H' s) w'))
  (k : ∀ s e', J s e' → D N w0 (C e' :: H' s) ((dd, val s) :: L) K) : D N w0 (C d :: H) L (fun a w => o.wp P a w K Q) :=
 D_call (σ := σ × List α) (val := fun p => val p.1) (H' := fun p => C p.2 :: H' p.1) (J := fun p => J p.1 p.2) hb ho ha hd hN
  (fun w hs => (hc w hs).mono fun _ _ ⟨s, e', h1, h2, h3⟩ => ⟨(s, e'), h2, h1, h3⟩) (fun p hp => k p.1 p.2 hp)
omit [Inhabited α] in
end
end
end Go.Sy
namespace Go.Sy
open Go Go.RowKit
def mRow (P : Program) (t : TypeId) (nm : String) : Option (Array FieldStep × Option (FuncId × Bool)) := (P.info? t).bind fun i => (i.methods.find? (fun m => m.name == nm)).map fun m => (m.path, m.func)
theorem mRow_parts {P : Program} {t : TypeId} {nm : String} {p : Array FieldStep} {f : Option (FuncId × Bool)} (h : mRow P t nm = some (p, f)) : ∃ i m, P.info? t = some i ∧ i.methods.find? (fun m => m.name == nm) = some m ∧ m.path = p ∧ m.func = f := by
 unfold mRow at h;simp only [Option.bind_eq_some_iff, Option.map_eq_some_iff, Prod.mk.injEq] at h;obtain ⟨i, hi, m, hm, h1, h2⟩ := h;exact ⟨i, m, hi, hm, h1, h2⟩
theorem run_mval {P : Program} {n : Nat} {t e : TypeId} {v : Value} {nm : String} {f : FuncId} {w : World} (hm : mRow P t nm = some (#[], some (f, false))) (hu : P.underlying t = some (.slice e)) : (method (n + 1) t v nm).run P w = .ok (f, v) w := by
 obtain ⟨i, m, hi, h1, h2, h3⟩ := mRow_parts hm;unfold method;simp [typeInfo, hi, h1, h2, h3, follow, receiverAt, run_underlying hu, Place.get]
theorem run_mptr {P : Program} {n : Nat} {t e : TypeId} {a : Addr} {r : Value} {nm : String} {f : FuncId} {w : World} (hm : mRow P t nm = some (#[], some (f, false))) (hu : P.underlying t = some (.pointer e)) (hl : (loadVar e a).run P w = .ok r w) : (method (n + 1) t (.pointer (some a)) nm).run P w = .ok (f, r) w := by
 obtain ⟨i, m, hi, h1, h2, h3⟩ := mRow_parts hm;unfold method;have hc : ∀ s1 s2 : String, Builtin.ssaWrapNilChk_ #[t] t #[.pointer (some a), strVal s1, strVal s2] = pure (.pointer (some a)) := fun _ _ => rfl
 simp [typeInfo, hi, h1, h2, h3, follow, receiverAt, run_underlying hu, Place.get, hc, asAddr, hl]
theorem run_memb {P : Program} {n : Nat} {t s t' : TypeId} {a : Addr} {v' : Value} {nm : String} {fs : Array Field} {fl : Field} {w : World} (hm : mRow P t nm = some (#[⟨s, 0, true⟩], none)) (hs : P.underlying s = some (.struct fs)) (hf : fs[0]? = some fl) (ho : fl.offset = 0) (hz : ∃ i, P.info? fl.type = some i ∧ i.size = 1)
  (hl : (loadVar fl.type (a.add 0)).run P w = .ok (.iface t' v') w) : (method (n + 1) t (.pointer (some a)) nm).run P w = (method n t' v' nm).run P w := by
 obtain ⟨i, m, hi, h1, h2, h3⟩ := mRow_parts hm;obtain ⟨i2, hi2, hz2⟩ := hz;rw [method];simp [typeInfo, hi, h1, h2, h3, follow, run_underlying hs, hf, Place.get, asAddr, fieldPlace, sizeOf, hi2, hz2, ho, hl]
theorem run_cm {P : Program} {t : TypeId} {v r : Value} {nm : String} {f : FuncId} {args : Array Value} {w : World} (h : (method (P.types.size + Made.depth) t v nm).run P w = .ok (f, r) w) : (callMethod (.iface t v) nm args).run P w = (callFunc f (#[r] ++ args)).run P w := by
 have e : (callMethod (.iface t v) nm args) = (program >>= fun p => method (p.types.size + Made.depth) t v nm >>= fun x => callFunc x.1 (#[x.2] ++ args)) := rfl;have e2 : Sem.run P program w = .ok P w := rfl;rw [e, Sem.run_bind, e2, Result.andThen_ok, Sem.run_bind, h, Result.andThen_ok]
section
variable {P : Program} {N : Nat} {w0 : World} {H : List Chunk} {L : Fm} {Q : Exit → Act → World → Prop} {o : Oper} {dd : Nat} {K : Act → World → Prop} {c1 c2 : Chunk}
theorem D_stA (k : D N w0 (star c1 c2 :: H) L K) : D N w0 (c1 :: c2 :: H) L K := fun a w hf hs => k a w hf hs.star
theorem D_unA (k : D N w0 (c1 :: c2 :: H) L K) : D N w0 (star c1 c2 :: H) L K := fun a w hf hs => k a w hf hs.split
theorem D_mkP {t e : TypeId} {x : Operand} {v : Value} (ht : P.underlying t = some (.pointer e)) (ho : o.op = .makeInterface t x) (hx : ev L x = some v) : RunV P N w0 H L o (.iface t v) := fun a w hf _ => by
 unfold execOp;rw [ho];simp [Instr.makeInterface, hf.ev hx, run_underlying ht]
end
abbrev ltD (x y : Int) : Bool := decide (y < x)
theorem ordD : Ordr ltD := ⟨fun x y h => by simp only [ltD, decide_eq_true_eq, decide_eq_false_iff_not] at *; omega, fun x y z h1 h2 => by simp only [ltD, decide_eq_false_iff_not] at *; omega⟩
def fallL (l : List Int) : List Int := sortG ltD l
theorem fall_eq {l e : List Int} (hp : List.Perm e l) (hs : Srd ltD e 0 l.length) : e = fallL l := by
 have hlen := hp.length_eq;refine sorted_unique (lt := ltD) (fun x y h1 h2 => by simp only [ltD, decide_eq_false_iff_not] at h1 h2; omega) (hp.trans (sortG_perm _ l).symm) (srd_pw (by rw [hlen]; exact hs)) (sortG_pw ordD.asym ordD.trans l)
theorem fall_len (l : List Int) : (fallL l).length = l.length := sortG_len _ l
theorem fall_zero (l : List Int) : [] = fallL (l.take 0) := rfl
theorem fall_s {l : List Int} {i k : Nat} {x : Int} (h : l[i]? = some x) (hk : k ≤ i) (hi : ∀ p, k ≤ p → ∀ y, (fallL (l.take i))[p]? = some y → y < x) (he : k = 0 ∨ ∃ y, (shG (fallL (l.take i)) x k)[k - 1]? = some y ∧ ¬ y < x) : (shG (fallL (l.take i)) x k).set k x = fallL (l.take (i + 1)) := by
 have hl : (fallL (l.take i)).length = i := by rw [fall_len, List.length_take]; have := lS h; omega
 unfold fallL at *;rw [shG_ins (lt := ltD) ordD.asym ordD.trans (sortG_pw ordD.asym ordD.trans _) (by omega) (fun p hp y hy => by simpa [ltD] using hi p hp y hy) (by
  rcases he with he | ⟨y, h1, h2⟩
  ·exact .inl he
  ·exact .inr ⟨y, h1, by simp only [ltD, decide_eq_false_iff_not]; exact h2⟩)]
 exact sortG_s h
theorem fall_done {l : List Int} {k : Nat} (h : l.length ≤ k) : fallL (l.take k) = fallL l := by rw [List.take_of_length_le h]
end Go.Sy
