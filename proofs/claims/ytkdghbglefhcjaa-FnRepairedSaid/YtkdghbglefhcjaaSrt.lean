/-
  The library's sort over an abstract row: rules for its tests, exchanges and calls.
  Conditions: none.
-/
import Derived.Test.YtkdghbglefhcjaaSort
import Derived.Test.YtkdghbglefhcjaaGraph
import Derived.Lib.ReflectliteSwap
import Derived.Laws.Externs
namespace Go.Sy
open Go Go.RowKit
structure Srt {α : Type} [Inhabited α] (P : Program) (C : List α → Chunk) (lt : α → α → Bool) (d0 : List α) (lf : Nat) (lc : List Value) (sf : Nat) (sc : List Value) (w0 : World) : Prop where
  body : hasBody P lf = true
  less : ∀ (Hs : List Chunk) (w : World) (d : List α) (i j : Nat), List.Perm d d0 → i < d0.length → j < d0.length → St w0 (C d :: Hs) w →
    Calls P lf ([Value.int .i64 (i : Int), Value.int .i64 (j : Int)] ++ lc).toArray w (fun e w' => e = .returned (.bool (lt (A d i) (A d j))) ∧ St w0 (C d :: Hs) w')
  swap : ∀ (Hs : List Chunk) (w : World) (d : List α) (i j : Nat), List.Perm d d0 → i < d0.length → j < d0.length → i ≠ j → St w0 (C d :: Hs) w →
    ∃ w', (callFunc sf ([Value.int .i64 (i : Int), Value.int .i64 (j : Int)] ++ sc).toArray).run P w = .ok (.value (.tuple #[])) w' ∧ St w0 (C (swp d i j) :: Hs) w'
section
variable {P : Program} {N : Nat} {w0 : World} {H : List Chunk} {L : Fm} {Q : Exit → Act → World → Prop} {o : Oper} {dd : Nat} {K : Act → World → Prop}
theorem run_fv {f : Nat} {x : Operand} {as : List Operand} {vs cs : List Value} {tys : Array TypeId} {a : Act} {w : World} (hf : Fits a N L)
    (ho : o.op = .call ⟨.value x, as.toArray, tys⟩) (hx : ev L x = some (.func (.func f) #[] cs.toArray)) (ha : evs L as = some vs) : (execOp a.eval o).run P w = (callFunc f (vs ++ cs).toArray).run P w := by
  unfold execOp
  rw [ho]
  have he : (as.toArray.map a.eval) = vs.toArray := by rw [List.map_toArray, hf.evs ha]
  have hf0 : a.eval x = .func (.func f) #[] cs.toArray := hf.ev hx
  simp only [resolve, hf0, Deferred.ofValue, he, Sem.run_bind, Sem.run_pure, Result.andThen_ok, invoke]
  simp
section
variable {α : Type} [Inhabited α] {C : List α → Chunk} {lt : α → α → Bool} {d0 d : List α} {lf sf : Nat} {lc sc : List Value}
theorem cless (S : Srt P C lt d0 lf lc sf sc w0) (hp : List.Perm d d0) {x : Operand} {as : List Operand} {tys : Array TypeId} {i j : Nat}
    (ho : o.op = .call ⟨.value x, as.toArray, tys⟩) (hx : ev L x = some (.func (.func lf) #[] lc.toArray)) (ha : evs L as = some [Value.int .i64 (i : Int), Value.int .i64 (j : Int)]) (hd : o.dst = some dd) (hN : Nat.blt dd N = true)
    (hi : i < d0.length) (hj : j < d0.length) (k : D N w0 (C d :: H) ((dd, .bool (lt (A d i) (A d j))) :: L) K) : D N w0 (C d :: H) L (fun a w => o.wp P a w K Q) := by
  intro a w hf hs
  show o.wp P a w K Q
  have hb := S.body
  have hc := S.less H w d i j hp hi hj hs
  have h1 := run_fv (P := P) (w := w) hf ho hx ha
  unfold hasBody at hb
  split at hb
  · rename_i fn hfn
    simp only [Bool.and_eq_true, Bool.not_eq_true'] at hb
    have hrun : (execOp a.eval o).run P w = .ok (.enter lf ([Value.int .i64 (i : Int), Value.int .i64 (j : Int)] ++ lc).toArray) w := by
      rw [h1]
      have hbody : fn.body.isNone = false := by rw [← Option.not_isSome, hb.2]; rfl
      have hnm : ¬ fn.name = "runtime.NumGoroutine" := by simpa using hb.1
      have hbn : ¬ fn.body = none := by intro e; rw [e] at hbody; cases hbody
      simp only [callFunc, program]
      simp [Sem.run, hfn, hnm, hbn]
    unfold Oper.wp
    rw [hrun, Oper.upon_enter]
    refine hc.mono fun e w' he => ?_
    obtain ⟨rfl, hx⟩ := he
    simp only
    rw [hd]
    exact k _ _ (hf.put hN _) hx
  · cases hb
theorem cswap (S : Srt P C lt d0 lf lc sf sc w0) (hp : List.Perm d d0) {x : Operand} {as : List Operand} {tys : Array TypeId} {i j : Nat}
    (ho : o.op = .call ⟨.value x, as.toArray, tys⟩) (hx : ev L x = some (.func (.func sf) #[] sc.toArray)) (ha : evs L as = some [Value.int .i64 (i : Int), Value.int .i64 (j : Int)]) (hd : o.dst = some dd) (hN : Nat.blt dd N = true)
    (hi : i < d0.length) (hj : j < d0.length) (hij : i ≠ j) (k : D N w0 (C (swp d i j) :: H) ((dd, .tuple #[]) :: L) K) : D N w0 (C d :: H) L (fun a w => o.wp P a w K Q) :=
  D_gen hd hN (fun a w hf hs => by
    obtain ⟨w', h1, h2⟩ := S.swap H w d i j hp hi hj hij hs
    exact ⟨_, w', (run_fv (P := P) (w := w) hf ho hx ha).trans h1, fun a' hf' => k a' w' hf' h2⟩)
theorem csrt {β : Type} {C : List β → Chunk} {d : List β} {φ : List β → Prop} {f : Nat} {as : List Operand} {vs : List Value} {tys : Array TypeId} (hb : hasBody P f = true)
    (ho : o.op = .call ⟨.value (.func f), as.toArray, tys⟩) (ha : evs L as = some vs) (hd : o.dst = some dd) (hN : Nat.blt dd N = true)
    (hc : ∀ w, St w0 (C d :: H) w → Calls P f vs.toArray w (fun e w' => e = .returned (.tuple #[]) ∧ ∃ e', φ e' ∧ St w0 (C e' :: H) w'))
    (k : ∀ e', φ e' → D N w0 (C e' :: H) ((dd, .tuple #[]) :: L) K) : D N w0 (C d :: H) L (fun a w => o.wp P a w K Q) :=
  D_call (σ := List β) (val := fun _ => .tuple #[]) (H' := fun e' => C e' :: H) (J := φ) hb ho ha hd hN
    (fun w hs => (hc w hs).mono fun _ _ ⟨he, e', h1, h2⟩ => ⟨e', he, h1, h2⟩) k
end
theorem results_0 {fn : Func} (hr : fn.results = #[]) (tmps : Array Value) (w : World) : (results fn tmps).run P w = .ok (.tuple #[]) w := by
  rw [results_resv, hr]; simp [Sem.run_bind, Sem.run_pure]
theorem R_0 {fn : Func} {R : Ending → World → Prop} (hr : fn.results = #[]) (h : ∀ w, St w0 H w → R (.returned (.tuple #[])) w) : D N w0 H L (bodyPost P fn R .ret) :=
  fun a w hf hs => bodyPost_ret (results_0 hr _ _) hf.dfr (h w hs)
theorem R_0n {fn : Func} {R : Ending → World → Prop} (hr : fn.results = #[]) (h : ∀ w, St w0 H w → R (.returned (.tuple #[])) w) : D N w0 H L (bodyPost P fn R .normal) :=
  fun a w hf hs => bodyPost_end (results_0 hr _ _) hf.dfr (h w hs)
theorem D_cvU {t t' : TypeId} {x : Operand} {n : Nat} (ht : P.underlying t' = some (.int .u64)) (hu : ∃ u, P.underlying t = some u) (ho : o.op = .convert t t' x) (hx : ev L x = some (.int .i64 (n : Int))) (h : n ≤ 9223372036854775807) : RunV P N w0 H L o (.int .u64 (n : Int)) := by
  intro a w hf _
  obtain ⟨u, hu⟩ := hu
  unfold execOp
  rw [ho]
  have e : IntKind.u64.wrap (n : Int) = (n : Int) := by
    rw [IntKind.wrap_u64]; omega
  simp [convert, hf.ev hx, run_underlying ht, run_underlying hu, Conv.intToInt, e]
theorem D_cvI {t t' : TypeId} {x : Operand} {n : Nat} (ht : P.underlying t' = some (.int .i64)) (hu : ∃ u, P.underlying t = some u) (ho : o.op = .convert t t' x) (hx : ev L x = some (.int .u64 (n : Int))) (h : n ≤ 9223372036854775807) : RunV P N w0 H L o (.int .i64 (n : Int)) := by
  intro a w hf _
  obtain ⟨u, hu⟩ := hu
  unfold execOp
  rw [ho]
  simp [convert, hf.ev hx, run_underlying ht, run_underlying hu, Conv.intToInt, IntWalk.i64_in _ (show -9223372036854775808 ≤ (n : Int) ∧ (n : Int) ≤ 9223372036854775807 by omega)]
theorem D_shU {t t' : TypeId} {x y : Operand} {n : Nat} {yk : IntKind} (ho : o.op = .binOp .shr t x y t') (hx : ev L x = some (.int .u64 (n : Int))) (hy : ev L y = some (.int yk 1)) (h : n ≤ 9223372036854775807) : RunV P N w0 H L o (.int .u64 ((n / 2 : Nat) : Int)) := by
  intro a w hf _
  unfold execOp
  rw [ho]
  simp only [hf.ev hx, hf.ev hy]
  simp [eqGuard, binOp, shift_shr_any .u64 yk (n : Int) 1 (by omega), IntKind.bits]
theorem D_mulN {t t' : TypeId} {x y : Operand} {m n : Nat} (ho : o.op = .binOp .mul t x y t') (hx : ev L x = some (.int .i64 (m : Int))) (hy : ev L y = some (.int .i64 (n : Int))) (h : m * n ≤ 9223372036854775807) : RunV P N w0 H L o (.int .i64 ((m * n : Nat) : Int)) := by
  intro a w hf _
  unfold execOp
  rw [ho]
  simp only [hf.ev hx, hf.ev hy]
  have e : IntKind.i64.wrap ((m : Int) * (n : Int)) = ((m * n : Nat) : Int) := by
    rw [show (m : Int) * (n : Int) = ((m * n : Nat) : Int) from by simp]
    exact IntWalk.i64_in _ (by omega)
  simp [eqGuard, binOp, Op.intArith, e]
end
end Go.Sy

namespace Go.Sy
open Go Go.RowKit
theorem heap_setCell {w : World} {g i : Nat} {v : Value} {cur : Array Value} {t : TypeId} {fz : Nat × Nat} (h : w.heap[g]? = some (.cells cur t fz)) : (w.setCell ⟨g, i, none⟩ v).heap[g]? = some (.cells (cur.setIfInBounds i v) t fz) := by
  simp [World.setCell, Array.getElem?_modify, h]
theorem heap_setCell_ne {w : World} {g q i : Nat} {v : Value} (h : q ≠ g) : (w.setCell ⟨g, i, none⟩ v).heap[q]? = w.heap[q]? := by
  simp [World.setCell, Array.getElem?_modify, Ne.symm h]
theorem take1_drop {β : Type} {l : List β} {q : Nat} (h : q < l.length) : (l.drop q).take 1 = [l[q]] := by
  rw [List.drop_eq_getElem_cons h, List.take_succ_cons, List.take_zero]
theorem swap_ow {α : Type} [Gd α] [Tid α] [Inhabited α] (h1 : Gd.n α = 1) {P : Program} {w0 w : World} {Hs : List Chunk} {gb : Nat} {v : Value} {d : List α} {i j sf : Nat} {gS : Bool} {e : TypeId} {ie : TypeInfo} (hie : P.info? e = some ie) (hsz : ie.size = 1)
    (hagg : ∀ w, (isAgg e).run P w = .ok false w) (hx : ∀ args W, (callFunc sf args).run P W = ((Extern.ReflectliteSwapper.swap gS args).run P W).andThen fun v w' => .ok (.value v) w')
    (hi : i < d.length) (hj : j < d.length) (hst : St w0 (star (bx gb [v]) (ov [v] d) :: Hs) w) :
    ∃ w', (callFunc sf ([Value.int .i64 (i : Int), Value.int .i64 (j : Int)] ++ [v, typeHandle P e]).toArray).run P w = .ok (.value (.tuple #[])) w' ∧ St w0 (star (bx gb [v]) (ov [v] (swp d i j)) :: Hs) w' := by
  obtain ⟨fp, ⟨f1, f2, hfp, hb, how⟩, hn, hbd, put⟩ := hst.set (k := 0) rfl
  subst hfp
  rcases how with ⟨_, h2, _⟩ | ⟨g, cap, cur, fps, hv, hg, hc1, hc2, hc3, hf2, hfl, hel⟩
  · rw [h2] at hi; simp at hi
  · simp only [List.cons.injEq, and_true] at hv
    subst hv; subst hf2
    have hf1 : f1 = [gb] := hb.1
    subst hf1
    rw [h1, Nat.mul_one] at hc3
    have hgb : gb ≠ g := fun e => by
      have := (List.nodup_append.1 hn).2.2 gb (by simp) g (by simp)
      exact this e
    have hnd : (g :: fps.flatten).Nodup := (List.nodup_append.1 hn).2.1
    have hgn : ∀ q f, fps[q]? = some f → g ∉ f := fun q f hq hm => (List.nodup_cons.1 hnd).1 (mem_of_idx hq hm)
    -- an element's cell
    have cell : ∀ q, q < d.length → ∃ u, cur[q]? = some u ∧ u.oneCell' = true := fun q hq => by
      obtain ⟨f, hf⟩ := some_of_lt (l := fps) (i := q) (by omega)
      have ho := hel q (A d q) f (A_get hq) hf
      have h3 := Gd.rd_one (Gd.ow_rd ho)
      have hlt : q < cur.size := by omega
      refine ⟨cur[q], by simp [hlt], h3 _ ?_⟩
      rw [h1, Nat.mul_one]
      rw [take1_drop (by simpa using hlt)]; simp
    obtain ⟨x, hx1, hx2⟩ := cell i hi
    obtain ⟨y, hy1, hy2⟩ := cell j hj
    have cx : w.cell? ⟨g, 0 + i, none⟩ = some x := by rw [Nat.zero_add, cell_of_heap hg]; exact hx1
    have cy : w.cell? ⟨g, 0 + j, none⟩ = some y := by rw [Nat.zero_add, cell_of_heap hg]; exact hy1
    have fr : ∀ q, w.frozen? ⟨g, q, none⟩ = false := fun q => by simp [World.frozen?, hg]
    have hrun := Lib.run_swap_one (P := P) gS e ie hie hsz hagg g 0 d.length cap i j hi hj x y hx2 hy2 w cx cy (fr _) (fr _)
    refine ⟨(w.setCell ⟨g, 0 + i, none⟩ y).setCell ⟨g, 0 + j, none⟩ x, ?_, ?_⟩
    · rw [hx]
      have : ([Value.int .i64 (i : Int), Value.int .i64 (j : Int)] ++ [Value.slice (some ⟨g, 0, none⟩) d.length cap, typeHandle P e]).toArray = #[.int .i64 (i : Int), .int .i64 (j : Int), .slice (some ⟨g, 0, none⟩) d.length cap, typeHandle P e] := rfl
      rw [this, hrun]; rfl
    · simp only [Nat.zero_add]
      have hg1 := heap_setCell (w := w) (i := i) (v := y) hg
      have hg2 := heap_setCell (w := w.setCell ⟨g, i, none⟩ y) (i := j) (v := x) hg1
      have hne : ∀ q, q ≠ g → ((w.setCell ⟨g, i, none⟩ y).setCell ⟨g, j, none⟩ x).heap[q]? = w.heap[q]? := fun q hq => by rw [heap_setCell_ne hq, heap_setCell_ne hq]
      have hfp := (swp_perm (d := fps) (i := i) (j := j) (by omega) (by omega)).flatten
      refine put _ (star (bx gb [.slice (some ⟨g, 0, none⟩) d.length cap]) (ov [.slice (some ⟨g, 0, none⟩) d.length cap] (swp d i j))) ([gb] ++ (g :: (swp fps i j).flatten)) ⟨rfl, rfl, rfl, by simp, fun q hq hnm => hne q (fun e => hnm (by simp [e]))⟩
        ⟨[gb], g :: (swp fps i j).flatten, rfl, (bx gb _).loc _ _ _ hb (fun q hq => hne q (fun e => by simp at hq; exact hgb (hq.symm.trans e))), ?_⟩ ?_ ?_
      · refine .inr ⟨g, cap, _, swp fps i j, by rw [swp_len], hg2, by rw [swp_len]; exact hc1, hc2, by simp [h1, hc3], rfl, by rw [swp_len, swp_len, hfl], fun q z f hz hf => ?_⟩
        have hq : q < d.length := by have := lt_of_some hz; rwa [swp_len] at this
        have hzA := A_of hz
        have hfA := A_of hf
        rw [A_swp hi hj] at hzA
        rw [A_swp (by omega) (by omega)] at hfA
        have fin : ∀ k u, k < d.length → cur[k]? = some u → z = A d k → f = A fps k → ((cur.setIfInBounds i y).setIfInBounds j x)[q]? = some u → Gd.ow ((w.setCell ⟨g, i, none⟩ y).setCell ⟨g, j, none⟩ x) (List.take (Gd.n α) (List.drop (q * Gd.n α) ((cur.setIfInBounds i y).setIfInBounds j x).toList)) z f := fun k u hk hu e1 e2 hq2 => by
          have ho := hel k (A d k) (A fps k) (A_get hk) (A_get (by omega))
          have ec : List.take (Gd.n α) (List.drop (q * Gd.n α) ((cur.setIfInBounds i y).setIfInBounds j x).toList) = List.take (Gd.n α) (List.drop (k * Gd.n α) cur.toList) := by
            rw [h1, Nat.mul_one, Nat.mul_one]
            have hku : k < cur.size := by omega
            have hqu : q < cur.size := by omega
            rw [take1_drop (by simpa using hqu), take1_drop (by simpa using hku)]
            have a1 := (Array.getElem?_eq_some_iff.1 hu).2
            have a2 := (Array.getElem?_eq_some_iff.1 hq2).2
            simp only [Array.getElem_toList, a1, a2]
          rw [ec, e1, e2]
          exact Gd.ow_loc ho (fun r hr => hne r (fun e => hgn k _ (A_get (by omega)) (e ▸ hr)))
        by_cases e1 : q = j
        · rw [if_pos e1] at hzA hfA
          refine fin i x hi hx1 hzA.symm hfA.symm ?_
          subst e1
          rw [Array.getElem?_setIfInBounds_self]
          simp; omega
        · rw [if_neg e1] at hzA hfA
          by_cases e2 : q = i
          · rw [if_pos e2] at hzA hfA
            refine fin j y hj hy1 hzA.symm hfA.symm ?_
            subst e2
            rw [Array.getElem?_setIfInBounds_ne (Ne.symm e1), Array.getElem?_setIfInBounds_self]
            simp; omega
          · rw [if_neg e2] at hzA hfA
            obtain ⟨u, hu, _⟩ := cell q hq
            refine fin q u hq hu hzA.symm hfA.symm ?_
            rw [Array.getElem?_setIfInBounds_ne (Ne.symm e1), Array.getElem?_setIfInBounds_ne (Ne.symm e2)]
            exact hu
      · refine (List.Perm.nodup_iff ?_).1 hn
        exact (hfp.symm.cons g).append_left [gb]
      · intro q hq
        have hq2 : q ∈ [gb] ++ (g :: fps.flatten) := by
          simp only [List.mem_append, List.mem_cons] at hq ⊢
          rcases hq with hq | hq | hq
          · exact .inl hq
          · exact .inr (.inl hq)
          · exact .inr (.inr (hfp.mem_iff.1 hq))
        exact ⟨.inl hq2, by have := hbd q hq2; simpa using this.2⟩
section
variable {P : Program} {N : Nat} {w0 : World} {H : List Chunk} {L : Fm} {Q : Exit → Act → World → Prop} {o : Oper} {dd : Nat} {K : Act → World → Prop}
theorem run_ext {f : Nat} {as : List Operand} {vs : List Value} {tys : Array TypeId} {a : Act} {w : World} (hf : Fits a N L) (ho : o.op = .call ⟨.value (.func f), as.toArray, tys⟩) (ha : evs L as = some vs) :
    (execOp a.eval o).run P w = (callFunc f vs.toArray).run P w := by
  have := run_fv (P := P) (w := w) (x := .func f) (f := f) (cs := []) hf ho rfl ha
  simpa using this
/-- internal/reflectlite.ValueOf -/
theorem D_vof {f : Nat} {fn : Func} {x : Operand} {tys : Array TypeId} {t e n c : Nat} {i : TypeInfo} {p : Option Addr} (hfn : P.funcs[f]? = some fn) (hnm : (fn.name == "runtime.NumGoroutine") = false) (hb : fn.body.isNone = true) (hnx : Extern.findNext fn = none)
    (he : Extern.find fn = some (fun args => Extern.ReflectliteValue.unpack (args.getD 0 (.tuple #[])))) (hi : P.info? t = some i) (hdd : i.desc = .slice e)
    (ho : o.op = .call ⟨.value (.func f), [x].toArray, tys⟩) (hx : evs L [x] = some [.iface t (.slice p n c)]) (hd : o.dst = some dd) (hN : Nat.blt dd N = true)
    (k : ∀ g, D N w0 (bx g [.slice p n c] :: H) ((dd, .agg #[typeHandle P t, .pointer (some ⟨g, 0, none⟩), .int .u64 151]) :: L) K) : D N w0 H L (fun a w => o.wp P a w K Q) :=
  D_gen hd hN (fun a w hf hs => by
    refine ⟨_, w.alloc (.cells #[.slice p n c] t), ?_, fun a' hf' => k w.heap.size a' _ hf' (bx_new (cs := [.slice p n c]) hs rfl)⟩
    rw [run_ext hf ho hx, run_callFunc_extern hfn hnm hb hnx he]
    show ((Extern.ReflectliteValue.unpack (.iface t (.slice p n c))).run P w).andThen _ = _
    rw [Lib.run_valueOf_slice (P := P) t e i hi hdd p n c w]
    rfl)
/-- internal/reflectlite.Swapper -/
theorem D_swr {f : Nat} {fn : Func} {x : Operand} {tys : Array TypeId} {u v : Value} (hfn : P.funcs[f]? = some fn) (hnm : (fn.name == "runtime.NumGoroutine") = false) (hb : fn.body.isNone = true) (hnx : Extern.findNext fn = none)
    (he : Extern.find fn = some (Extern.ReflectliteSwapper.swapper "internal/reflectlite" (Extern.ReflectliteValue.valueError "Swapper")))
    (hs : ∀ w, (Extern.ReflectliteSwapper.swapper "internal/reflectlite" (Extern.ReflectliteValue.valueError "Swapper") #[u]).run P w = .ok v w)
    (ho : o.op = .call ⟨.value (.func f), [x].toArray, tys⟩) (hx : evs L [x] = some [u]) : RunV P N w0 H L o v := fun a w hf _ => by
  rw [run_ext hf ho hx, run_callFunc_extern hfn hnm hb hnx he]
  show ((Extern.ReflectliteSwapper.swapper "internal/reflectlite" (Extern.ReflectliteValue.valueError "Swapper") #[u]).run P w).andThen _ = _
  rw [hs]; rfl
/-- (internal/reflectlite.Value).Len -/
theorem D_vln {f : Nat} {fn : Func} {x : Operand} {tys : Array TypeId} {t e n c g : Nat} {i : TypeInfo} {p : Option Addr} (k : Nat) (hfn : P.funcs[f]? = some fn) (hnm : (fn.name == "runtime.NumGoroutine") = false) (hb : fn.body.isNone = true) (hnx : Extern.findNext fn = none)
    (he : Extern.find fn = some (Extern.ReflectliteValue.method (Extern.ReflectliteValue.valueError "reflectlite.Value.Len" 0) Extern.ReflectliteValue.len)) (hi : P.info? t = some i) (hdd : i.desc = .slice e) (hpk : P.packed t = false)
    (ho : o.op = .call ⟨.value (.func f), [x].toArray, tys⟩) (hx : evs L [x] = some [.agg #[typeHandle P t, .pointer (some ⟨g, 0, none⟩), .int .u64 151]]) (hk : H[k]? = some (bx g [.slice p n c])) : RunV P N w0 H L o (.int .i64 (n : Int)) := fun a w hf hs => by
  rw [run_ext hf ho hx, run_callFunc_extern hfn hnm hb hnx he]
  have hc : w.cell? ⟨g, 0, none⟩ = some (.slice p n c) := bx_cell hk rfl w hs
  have := Lib.run_valueLen_slice (P := P) t e i hi hdd hpk ⟨g, 0, none⟩ p n c w hc
  show ((Extern.ReflectliteValue.method (Extern.ReflectliteValue.valueError "reflectlite.Value.Len" 0) Extern.ReflectliteValue.len #[.agg #[typeHandle P t, .pointer (some ⟨g, 0, none⟩), .int .u64 151]]).run P w).andThen _ = _
  rw [this]; rfl
theorem D_mkI {t : TypeId} {x : Operand} {v : Value} {e3 : Nat × Nat × Nat} (ht : sliceTy P t = some e3) (ho : o.op = .makeInterface t x) (hx : ev L x = some v) : RunV P N w0 H L o (.iface t v) := fun a w hf _ => by
  unfold sliceTy at ht
  split at ht
  · rename_i e' he
    unfold execOp
    rw [ho]
    simp [Instr.makeInterface, hf.ev hx, run_underlying he]
  · cases ht
end
end Go.Sy
