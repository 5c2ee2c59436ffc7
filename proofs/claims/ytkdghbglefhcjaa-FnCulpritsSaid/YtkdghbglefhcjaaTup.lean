/-
  Functions with several results.
  Conditions: none.
-/
import Derived.Test.YtkdghbglefhcjaaVec
import Derived.Laws.Small
import Derived.Laws.Shifts
import Derived.Laws.Entries
namespace Go.Sy
open Go Go.RowKit

def shrZ (m : Int) (k : Nat) : Int := m / 2 ^ min k 64
def shlZ (m : Int) (k : Nat) : Int := IntKind.i64.wrap (m * 2 ^ min k 64)
def andZ (m n : Int) : Int := bits .and .i64 m n

def Res2 {α β : Type} [Gd α] [Gd β] (w : World) (x : α) (y : β) (e : Ending) (w' : World) : Prop :=
  ∃ c1 c2 f1 f2, e = .returned (.tuple #[Gd.vl α c1, Gd.vl β c2]) ∧ Gd.ow w' c1 x f1 ∧ Gd.ow w' c2 y f2 ∧ (f1 ++ f2).Nodup ∧ (∀ g ∈ f1 ++ f2, w.heap.size ≤ g) ∧ Ex w w'
def Res3 {α β γ : Type} [Gd α] [Gd β] [Gd γ] (w : World) (x : α) (y : β) (z : γ) (e : Ending) (w' : World) : Prop :=
  ∃ c1 c2 c3 f1 f2 f3, e = .returned (.tuple #[Gd.vl α c1, Gd.vl β c2, Gd.vl γ c3]) ∧ Gd.ow w' c1 x f1 ∧ Gd.ow w' c2 y f2 ∧ Gd.ow w' c3 z f3 ∧ (f1 ++ (f2 ++ f3)).Nodup ∧ (∀ g ∈ f1 ++ (f2 ++ f3), w.heap.size ≤ g) ∧ Ex w w'

section
variable {P : Program} {N : Nat} {w0 : World} {H : List Chunk} {L : Fm} {ops : Array Oper} {Q : Exit → Act → World → Prop} {o : Oper} {rest : List Oper} {d : Nat} {K : Act → World → Prop}

theorem D_re (i : Nat) {v v' : Value} (h : look L i = some v) (e : v = v') (hN : Nat.blt i N = true) (k : D N w0 H ((i, v') :: L) K) : D N w0 H L K := by
  subst e
  refine fun a w hfit hs => k a w ⟨hfit.dfr, hfit.size, fun j u hv => ?_⟩ hs
  simp only [look] at hv
  cases hb : Nat.beq i j with
  | true =>
    have e : i = j := Nat.eq_of_beq_eq_true hb
    subst e
    rw [hb] at hv
    simp only [cond_true, Option.some.injEq] at hv
    rw [← hv]; exact hfit.at_ i _ h
  | false => rw [hb] at hv; exact hfit.at_ j u hv

theorem cr2 {α β : Type} [Gd α] [Gd β] {f : Nat} {as : List Operand} {vs : List Value} {tys : Array TypeId} {x : α} {y : β} (hb : hasBody P f = true)
    (ho : o.op = .call ⟨.value (.func f), as.toArray, tys⟩) (ha : evs L as = some vs) (hd : o.dst = some d) (hN : Nat.blt d N = true)
    (hc : ∀ w, St w0 H w → Calls P f vs.toArray w (Res2 w x y))
    (k : ∀ c1 c2, D N w0 (ov c1 x :: ov c2 y :: H) ((d, .tuple #[Gd.vl α c1, Gd.vl β c2]) :: L) K) : D N w0 H L (fun a w => o.wp P a w K Q) :=
  D_call (σ := List Value × List Value) (val := fun c => .tuple #[Gd.vl α c.1, Gd.vl β c.2]) (H' := fun c => ov c.1 x :: ov c.2 y :: H) (J := fun _ => True) hb ho ha hd hN
    (fun w hs => (hc w hs).mono fun _ _ ⟨c1, c2, f1, f2, he, h1, h2, hn, hb, hx⟩ => ⟨(c1, c2), he, trivial,
      St.split (hs.push hx (c := Sy.star (ov c1 x) (ov c2 y)) (fp := f1 ++ f2) ⟨f1, f2, rfl, h1, h2⟩ hn (fun g hg => ⟨hb g hg, by
        rcases List.mem_append.1 hg with h | h
        · exact Gd.ow_lt h1 g h
        · exact Gd.ow_lt h2 g h⟩))⟩) (fun c _ => k c.1 c.2)

theorem star3 {w : World} {c1 c2 c3 : Chunk} (h : St w0 (Sy.star c1 (Sy.star c2 c3) :: H) w) : St w0 (c1 :: c2 :: c3 :: H) w := by
  have h1 := h.split
  have p : List.Perm (c1 :: Sy.star c2 c3 :: H) (Sy.star c2 c3 :: c1 :: H) := List.Perm.swap _ _ _
  have h2 := (h1.perm p).split
  refine h2.perm ?_
  exact (List.Perm.cons c2 (List.Perm.swap _ _ _)).trans (List.Perm.swap _ _ _)

theorem cr3 {α β γ : Type} [Gd α] [Gd β] [Gd γ] {f : Nat} {as : List Operand} {vs : List Value} {tys : Array TypeId} {x : α} {y : β} {z : γ} (hb : hasBody P f = true)
    (ho : o.op = .call ⟨.value (.func f), as.toArray, tys⟩) (ha : evs L as = some vs) (hd : o.dst = some d) (hN : Nat.blt d N = true)
    (hc : ∀ w, St w0 H w → Calls P f vs.toArray w (Res3 w x y z))
    (k : ∀ c1 c2 c3, D N w0 (ov c1 x :: ov c2 y :: ov c3 z :: H) ((d, .tuple #[Gd.vl α c1, Gd.vl β c2, Gd.vl γ c3]) :: L) K) : D N w0 H L (fun a w => o.wp P a w K Q) :=
  D_call (σ := List Value × List Value × List Value) (val := fun c => .tuple #[Gd.vl α c.1, Gd.vl β c.2.1, Gd.vl γ c.2.2]) (H' := fun c => ov c.1 x :: ov c.2.1 y :: ov c.2.2 z :: H) (J := fun _ => True) hb ho ha hd hN
    (fun w hs => (hc w hs).mono fun _ _ ⟨c1, c2, c3, f1, f2, f3, he, h1, h2, h3, hn, hb, hx⟩ => ⟨(c1, c2, c3), he, trivial,
      star3 (hs.push hx (c := Sy.star (ov c1 x) (Sy.star (ov c2 y) (ov c3 z))) (fp := f1 ++ (f2 ++ f3)) ⟨f1, _, rfl, h1, f2, f3, rfl, h2, h3⟩ hn (fun g hg => ⟨hb g hg, by
        rcases List.mem_append.1 hg with h | h
        · exact Gd.ow_lt h1 g h
        · rcases List.mem_append.1 h with h | h
          · exact Gd.ow_lt h2 g h
          · exact Gd.ow_lt h3 g h⟩))⟩) (fun c _ => k c.1 c.2.1 c.2.2)

theorem res2_of {α β : Type} [Gd α] [Gd β] {w : World} {c1 c2 : List Value} {x x' : α} {y y' : β} (hs : St w0 (ov c1 x' :: ov c2 y' :: H) w) (e1 : x' = x) (e2 : y' = y) : Res2 w0 x y (.returned (.tuple #[Gd.vl α c1, Gd.vl β c2])) w := by
  subst e1; subst e2
  obtain ⟨fp, hok, hn, hb⟩ := hs.star.at (k := 0) rfl
  obtain ⟨f1, f2, e, h1, h2⟩ := hok
  subst e
  exact ⟨c1, c2, f1, f2, rfl, h1, h2, hn, fun g hg => (hb g hg).1, hs.bel⟩
theorem St.star3 {w : World} {c1 c2 c3 : Chunk} (h : St w0 (c1 :: c2 :: c3 :: H) w) : St w0 (Sy.star c1 (Sy.star c2 c3) :: H) w := by
  have p : List.Perm (c1 :: c2 :: c3 :: H) (c2 :: c3 :: c1 :: H) := (List.Perm.swap _ _ _).trans (List.Perm.cons c2 (List.Perm.swap _ _ _))
  have h1 := (h.perm p).star
  exact (h1.perm (List.Perm.swap _ _ _)).star
theorem res3_of {α β γ : Type} [Gd α] [Gd β] [Gd γ] {w : World} {c1 c2 c3 : List Value} {x x' : α} {y y' : β} {z z' : γ} (hs : St w0 (ov c1 x' :: ov c2 y' :: ov c3 z' :: H) w) (e1 : x' = x) (e2 : y' = y) (e3 : z' = z) : Res3 w0 x y z (.returned (.tuple #[Gd.vl α c1, Gd.vl β c2, Gd.vl γ c3])) w := by
  subst e1; subst e2; subst e3
  obtain ⟨fp, hok, hn, hb⟩ := hs.star3.at (k := 0) rfl
  obtain ⟨f1, f23, e, h1, f2, f3, e2, h2, h3⟩ := hok
  subst e; subst e2
  exact ⟨c1, c2, c3, f1, f2, f3, rfl, h1, h2, h3, hn, fun g hg => (hb g hg).1, hs.bel⟩

/-- what a result variable holds at the end -/
def resv (tmps : Array Value) : ResultVar → Sem Value
  | .tmp t => pure (tmps.getD t undef)
  | .cell a t => do loadVar t (← asAddr (tmps.getD a undef))
theorem results_resv (fn : Func) (tmps : Array Value) : results fn tmps = (do let vs ← fn.results.mapM (resv tmps); pure (if h : vs.size = 1 then vs[0] else .tuple vs)) := rfl
def RV (P : Program) (N : Nat) (w0 : World) (H : List Chunk) (L : Fm) (r : ResultVar) (v : Value) : Prop :=
  ∀ a w, Fits a N L → St w0 H w → Sem.run P (resv a.tmps r) w = Result.ok v w
theorem rvt {t : Tmp} {v : Value} (h : look L t = some v) : RV P N w0 H L (.tmp t) v := fun a w hf _ => by
  simp only [resv, hf.at_ t v h]; rfl
theorem rvc {t : Tmp} {ty : TypeId} {g : Nat} {cs : List Value} (k : Nat) (ha : aggTy P ty = some cs.length) (hv : look L t = some (.pointer (some ⟨g, 0, none⟩))) (hk : H[k]? = some (bx g cs)) : RV P N w0 H L (.cell t ty) (.agg cs.toArray) := fun a w hf hs => by
  have hat : AtE w ⟨g, 0, none⟩ cs := fun j u hu => by
    rw [add_none, Nat.zero_add]
    exact bx_cell hk hu w hs
  have hl := run_loadA ha hat
  have e := hf.at_ t _ hv
  simp only [Instr.loadAt, Instr.sureAddr, Sem.run_bind, Sem.run_pure, Result.andThen_ok] at hl
  simp only [resv, e]
  simp [hl, asAddr]
theorem R_2g {fn : Func} {R : Ending → World → Prop} {r1 r2 : ResultVar} {v1 v2 : Value} (hr : fn.results = #[r1, r2]) (h1 : RV P N w0 H L r1 v1) (h2 : RV P N w0 H L r2 v2) (h : ∀ w, St w0 H w → R (.returned (.tuple #[v1, v2])) w) : D N w0 H L (bodyPost P fn R .ret) :=
  fun a w hf hs => by
    refine bodyPost_ret (v := .tuple #[v1, v2]) ?_ hf.dfr (h w hs)
    have e1 := h1 a w hf hs
    have e2 := h2 a w hf hs
    have key : Sem.run P (fn.results.mapM (resv a.tmps)) w = Result.ok #[v1, v2] w := by
      rw [hr]
      simp only [List.mapM_toArray, List.mapM_cons, List.mapM_nil, Sem.run_bind, Sem.run_map, bind_pure_comp, map_pure]
      simp [e1, e2]
    rw [results_resv, Sem.run_bind, key]
    rfl
theorem R_3g {fn : Func} {R : Ending → World → Prop} {r1 r2 r3 : ResultVar} {v1 v2 v3 : Value} (hr : fn.results = #[r1, r2, r3]) (h1 : RV P N w0 H L r1 v1) (h2 : RV P N w0 H L r2 v2) (h3 : RV P N w0 H L r3 v3) (h : ∀ w, St w0 H w → R (.returned (.tuple #[v1, v2, v3])) w) : D N w0 H L (bodyPost P fn R .ret) :=
  fun a w hf hs => by
    refine bodyPost_ret (v := .tuple #[v1, v2, v3]) ?_ hf.dfr (h w hs)
    have e1 := h1 a w hf hs
    have e2 := h2 a w hf hs
    have e3 := h3 a w hf hs
    have key : Sem.run P (fn.results.mapM (resv a.tmps)) w = Result.ok #[v1, v2, v3] w := by
      rw [hr]
      simp only [List.mapM_toArray, List.mapM_cons, List.mapM_nil, Sem.run_bind, Sem.run_map, bind_pure_comp, map_pure]
      simp [e1, e2, e3]
    rw [results_resv, Sem.run_bind, key]
    rfl

/-- what holds behind a piece of code -/
theorem C_join {c : Code} (I : Act → World → Prop) (h : D N w0 H L (c.wp P (Exit.then I Q))) (k : ∀ a w, I a w → Q .normal a w) : D N w0 H L (c.wp P Q) :=
  fun a w hf hs => Code.wp_mono (fun e a w he => by
    cases e with
    | normal => exact k a w he
    | _ => exact he) (h a w hf hs)

def Each (p : Nat → Prop) : List Nat → Prop
  | [] => True
  | i :: l => p i ∧ Each p l
theorem Each.get {p : Nat → Prop} : ∀ {l : List Nat}, Each p l → ∀ i ∈ l, p i
  | [], _, _, h => by cases h
  | _ :: l, ⟨h, hl⟩, i, hi => by
    rcases List.mem_cons.1 hi with e | e
    · subst e; exact h
    · exact Each.get hl i e
/-- whichever may come up -/
theorem tyN {H0 : List Chunk} {z : List Nat} {n : Nat} {listed : Array Bool} (l : List Nat) (hl : Nat.blt 0 l.length = true) (hrd : Region.ready .any ops listed = l)
    (k : Each (fun i => ∃ o, ops[i]? = some o ∧ gd ops L o = some true ∧ D N w0 H L (fun a w => o.wp P a w (fun a' w' => (i ∉ z → St w0 H0 w') ∧ AnyH P ops Q w0 H0 z n (listed.setIfInBounds i true) a' w') (NoPanic Q))) l) : D N w0 H L (AnyH P ops Q w0 H0 z (n + 1) listed) := by
  intro a w hf hs hz hc
  refine ⟨fun h0 => ?_, fun j hj => ?_⟩
  · rw [h0] at hrd
    subst hrd
    cases hl
  · have hj2 := hj
    rw [hrd] at hj
    obtain ⟨o, ho, hg, hk⟩ := k.get j hj
    unfold wpOp
    simp only [ho, gd_sound hf hg, if_true]
    exact .inl (Oper.wp_mono (fun a' w' h' => ⟨h'.1, h'.2 hz (closed_set hc hj2)⟩) (hk a w hf hs))

def sel {α : Type} : List α → List Bool → List α
  | x :: l, true :: m => x :: sel l m
  | _ :: l, false :: m => sel l m
  | _, _ => []
theorem sel_perm {α : Type} : ∀ (l : List α) (m : List Bool), ∃ X, List.Perm l (sel l m ++ X)
  | [], m => ⟨[], by cases m <;> exact List.Perm.refl _⟩
  | x :: l, [] => ⟨x :: l, List.Perm.refl _⟩
  | x :: l, true :: m => by
    obtain ⟨X, h⟩ := sel_perm l m
    exact ⟨X, h.cons x⟩
  | x :: l, false :: m => by
    obtain ⟨X, h⟩ := sel_perm l m
    exact ⟨x :: X, (h.cons x).trans List.perm_middle.symm⟩
theorem D_sel {H' : List Chunk} (m : List Bool) (e : sel H m = H') (k : D N w0 H' L K) : D N w0 H L K := fun a w hf hs => by
  obtain ⟨X, hX⟩ := sel_perm H m
  exact k a w hf (e ▸ (hs.perm hX).dropEnd)

theorem D_max {x y : Operand} {m n : Int} {tys : Array TypeId} (ho : o.op = .call ⟨.builtin .max, #[x, y], tys⟩) (hx : ev L x = some (.int .i64 m)) (hy : ev L y = some (.int .i64 n)) : RunV P N w0 H L o (.int .i64 (max m n)) := by
  intro a w hf _
  have e : (if n > m then n else m) = max m n := by omega
  unfold execOp
  rw [ho]
  simp [resolve, invoke, builtin, hf.ev hx, hf.ev hy, run_max_int2, e]

theorem D_rem {t t' : TypeId} {x y : Operand} {m n : Int} (ho : o.op = .binOp .rem t x y t') (hx : ev L x = some (.int .i64 m)) (hy : ev L y = some (.int .i64 n)) (hn : (n == 0) = false) : RunV P N w0 H L o (.int .i64 (m.tmod n)) := by
  intro a w hf _
  have hn' : ¬ n = 0 := by simpa using hn
  unfold execOp
  rw [ho]
  simp [hf.ev hx, hf.ev hy, eqGuard, binOp, Op.intDiv, hn']

theorem D_shr {t t' : TypeId} {x y : Operand} {m : Int} {k : Nat} {yk : IntKind} (ho : o.op = .binOp .shr t x y t') (hx : ev L x = some (.int .i64 m)) (hy : ev L y = some (.int yk (k : Int))) : RunV P N w0 H L o (.int .i64 (shrZ m k)) := by
  intro a w hf _
  unfold execOp
  rw [ho]
  simp only [hf.ev hx, hf.ev hy]
  simp [eqGuard, binOp, shift_shr_any .i64 yk m (k : Int) (Int.natCast_nonneg k), shrZ, IntKind.bits]
theorem D_shl {t t' : TypeId} {x y : Operand} {m : Int} {k : Nat} {yk : IntKind} (ho : o.op = .binOp .shl t x y t') (hx : ev L x = some (.int .i64 m)) (hy : ev L y = some (.int yk (k : Int))) : RunV P N w0 H L o (.int .i64 (shlZ m k)) := by
  intro a w hf _
  unfold execOp
  rw [ho]
  simp only [hf.ev hx, hf.ev hy]
  simp [eqGuard, binOp, shift_shl_any .i64 yk m (k : Int) (Int.natCast_nonneg k), shlZ, IntKind.bits]
theorem D_and {t t' : TypeId} {x y : Operand} {m n : Int} (ho : o.op = .binOp .and t x y t') (hx : ev L x = some (.int .i64 m)) (hy : ev L y = some (.int .i64 n)) : RunV P N w0 H L o (.int .i64 (andZ m n)) := by
  intro a w hf _
  unfold execOp
  rw [ho]
  simp only [hf.ev hx, hf.ev hy]
  simp [eqGuard, binOp, intBits_and, andZ]
end
end Go.Sy
