/-
  Lists of several flat elements, parts of owned lists, results that are only readable.
  Conditions: none.
-/
import Derived.Test.YtkdghbglefhcjaaReb
import Derived.Great.BuildSlice
namespace Go.Sy
open Go Go.RowKit
section
variable {P : Program} {N : Nat} {w0 : World} {H : List Chunk} {L : Fm} {Q : Exit → Act → World → Prop} {o : Oper} {d : Nat} {K : Act → World → Prop}
theorem ow_sl {α : Type} [Gd α] [Tid α] {w : World} {v : Value} {l : List α} {fp : List Nat} (h : Gd.ow w [v] l fp) : ∃ a c, v = .slice a l.length c ∧ l.length ≤ c ∧ (∀ ad, a = some ad → ∃ g, ad = ⟨g, 0, none⟩) ∧ (c = 0 → l = []) := by
  rcases h with ⟨h1, h2, _⟩ | ⟨g, cap, cur, fps, h1, h2, h3, _⟩
  · simp only [List.cons.injEq, and_true] at h1
    subst h1; subst h2
    exact ⟨none, 0, rfl, by simp, (fun _ h => by cases h), fun _ => rfl⟩
  · simp only [List.cons.injEq, and_true] at h1
    subst h1
    refine ⟨_, cap, rfl, h3, fun ad h => ⟨g, (Option.some.inj h).symm⟩, fun h0 => ?_⟩
    subst h0
    exact List.eq_nil_of_length_eq_zero (by omega)
theorem D_slp {α : Type} [Gd α] [Tid α] {t e n b m : Nat} {x y : Operand} {v : Value} {l : List α} {z : Int} (k : Nat) (ht : sliceTy P t = some (e, n, b)) (ho : o.op = .slice t x none (some y) none) (hx : ev L x = some v) (hy : ev L y = some (.int .i64 z)) (hz : z = (m : Int))
    (hk : H[k]? = some (ov [v] l)) (hm : m ≤ l.length) : RunV P N w0 H L o (slP v m) := by
  intro a w hf hs
  obtain ⟨fp, hok, _⟩ := hs.at hk
  obtain ⟨a0, c, rfl, hc, had, _⟩ := ow_sl (α := α) hok
  obtain ⟨hu, hsz⟩ := slice_und ht
  subst hz
  unfold execOp
  rw [ho]
  have hm2 : (0 : Int) ≤ (m : Int) ∧ (m : Int) ≤ (c : Int) := by omega
  have e0 : (if c = 0 then a0 else a0.map (·.add (0 * n))) = a0 := by
    split
    · rfl
    · cases a0 with
      | none => rfl
      | some ad => simp [add_zero]
  simp [Instr.sliceAt, Instr.slice, run_underlying hu, hf.ev hx, hf.ev hy, Instr.sliceBounds, Instr.sliceBound, asIntOf, hsz, slP, hm2, show m ≤ c from by omega]
  simpa using e0
theorem D_slt {α : Type} [Gd α] [Tid α] {t e n b m : Nat} {x y : Operand} {v : Value} {l : List α} {z : Int} (k : Nat) (ht : sliceTy P t = some (e, n, b)) (ho : o.op = .slice t x (some y) none none) (hx : ev L x = some v) (hy : ev L y = some (.int .i64 z)) (hz : z = (m : Int))
    (hk : H[k]? = some (ov [v] l)) (hm : m ≤ l.length) : RunV P N w0 H L o (slT v m n) := by
  intro a w hf hs
  obtain ⟨fp, hok, _⟩ := hs.at hk
  obtain ⟨a0, c, rfl, hc, had, _⟩ := ow_sl (α := α) hok
  obtain ⟨hu, hsz⟩ := slice_und ht
  subst hz
  unfold execOp
  rw [ho]
  have hm2 : (0 : Int) ≤ (m : Int) ∧ (m : Int) ≤ ((l.length : Nat) : Int) := by omega
  simp [Instr.sliceAt, Instr.slice, run_underlying hu, hf.ev hx, hf.ev hy, Instr.sliceBounds, Instr.sliceBound, asIntOf, hsz, slT, hm2, hm]
theorem ow_pre {α : Type} [Gd α] [Tid α] {w : World} {v : Value} {l : List α} {fp : List Nat} {m : Nat} (h : Gd.ow w [v] l fp) (hm : m ≤ l.length) : ∃ fp', Gd.ow w [slP v m] (l.take m) fp' ∧ List.Sublist fp' fp := by
  rcases h with ⟨h1, h2, h3⟩ | ⟨g, cap, cur, fps, h1, h2, h3, h4, h5, h6, h7, h8⟩
  · simp only [List.cons.injEq, and_true] at h1
    subst h1; subst h2; subst h3
    have : m = 0 := by simpa using hm
    subst this
    exact ⟨[], .inl ⟨rfl, rfl, rfl⟩, List.Sublist.refl _⟩
  · simp only [List.cons.injEq, and_true] at h1
    subst h1; subst h6
    refine ⟨g :: (fps.take m).flatten, .inr ⟨g, cap, cur, fps.take m, ?_, h2, ?_, h4, h5, rfl, ?_, fun i x f hx hf => ?_⟩, ?_⟩
    · simp [slP, hm]
    · simp; omega
    · simp [h7]
    · rw [List.getElem?_take] at hx hf
      split at hx
      · rename_i hlt
        rw [if_pos hlt] at hf
        exact h8 i x f hx hf
      · cases hx
    · refine List.Sublist.cons_cons g ?_
      have : fps.flatten = (fps.take m).flatten ++ (fps.drop m).flatten := by rw [← List.flatten_append, List.take_append_drop]
      rw [this]
      exact List.sublist_append_left _ _
theorem D_slc {α : Type} [Gd α] [Tid α] {v : Value} {l : List α} {m : Nat} (hm : m ≤ l.length) (k : D N w0 (ov [slP v m] (l.take m) :: H) L K) : D N w0 (ov [v] l :: H) L K := by
  intro a w hf hs
  obtain ⟨fp, hok, hn, hb, put⟩ := hs.set (k := 0) rfl
  obtain ⟨fp', hok', hsub⟩ := ow_pre (α := α) hok hm
  exact k a w hf (put w (ov [slP v m] (l.take m)) fp' (Kb.of_ex (Ex.refl w)) hok' (hn.sublist hsub) (fun g hg => ⟨.inl (hsub.subset hg), (hb g (hsub.subset hg)).2⟩))
theorem rd_slT {α : Type} [Gd α] [Tid α] {w : World} {v : Value} {l : List α} {k m n : Nat} (hs : St w0 H w) (hk : H[k]? = some (ov [v] l)) (hn : Gd.n α = n) (hm : m < l.length) : Gd.rd w [slT v m n] (l.drop m) := by
  obtain ⟨fp, hok, _⟩ := hs.at hk
  obtain ⟨a0, c, hv, hc, had, _⟩ := ow_sl (α := α) hok
  obtain ⟨a, cap, e, hmx, hx⟩ := (Gd.ow_rd (α := List α) hok : Gd.rd w [v] l)
  simp only [List.cons.injEq, and_true] at e
  subst e
  simp only [Value.slice.injEq] at hv
  obtain ⟨rfl, _, rfl⟩ := hv
  refine ⟨a.map (·.add (m * n)), cap - m, ?_, ?_, fun i y hy => ?_⟩
  · simp only [slT, List.length_drop]
    rw [if_neg (by omega)]
  · simp only [List.length_drop]; exact ⟨by omega, by omega⟩
  · rw [List.getElem?_drop] at hy
    obtain ⟨ad, es, ha, hj, hr⟩ := hx (m + i) y hy
    refine ⟨ad.add (m * n), es, by rw [ha]; rfl, fun j u hu => ?_, hr⟩
    rw [add_add, ← hn]
    have := hj j u hu
    rw [Nat.add_mul] at this
    rw [← this]
    congr 2
    omega
/-! ### results that are only readable -/
def Rd1 {α : Type} [Gd α] (w : World) (x : α) (e : Ending) (w' : World) : Prop := ∃ c1, e = .returned (Gd.vl α c1) ∧ Gd.rd w' c1 x ∧ Ex w w'
def Rd2 {α β : Type} [Gd α] [Gd β] (w : World) (x : α) (y : β) (e : Ending) (w' : World) : Prop := ∃ c1 c2, e = .returned (.tuple #[Gd.vl α c1, Gd.vl β c2]) ∧ Gd.rd w' c1 x ∧ Gd.rd w' c2 y ∧ Ex w w'
def Rd3 {α β γ : Type} [Gd α] [Gd β] [Gd γ] (w : World) (x : α) (y : β) (z : γ) (e : Ending) (w' : World) : Prop := ∃ c1 c2 c3, e = .returned (.tuple #[Gd.vl α c1, Gd.vl β c2, Gd.vl γ c3]) ∧ Gd.rd w' c1 x ∧ Gd.rd w' c2 y ∧ Gd.rd w' c3 z ∧ Ex w w'
theorem D_callB {σ : Type} {f : Nat} {as : List Operand} {vs : List Value} {tys : Array TypeId} {val : σ → Value} {J : σ → World → Prop} (hb : hasBody P f = true)
    (ho : o.op = .call ⟨.value (.func f), as.toArray, tys⟩) (ha : evs L as = some vs) (hd : o.dst = some d) (hN : Nat.blt d N = true)
    (hc : ∀ w, St w0 H w → Calls P f vs.toArray w fun e w' => ∃ s, e = .returned (val s) ∧ J s w')
    (k : ∀ s w', J s w' → D N w' [] ((d, val s) :: L) K) : D N w0 H L (fun a w => o.wp P a w K Q) := by
  intro a w hf hs
  show o.wp P a w K Q
  unfold hasBody at hb
  split at hb
  · rename_i fn hfn
    simp only [Bool.and_eq_true, Bool.not_eq_true'] at hb
    have hrun : (execOp a.eval o).run P w = .ok (.enter f vs.toArray) w := by
      unfold execOp
      rw [ho]
      have hbody : fn.body.isNone = false := by rw [← Option.not_isSome, hb.2]; rfl
      have he : (as.toArray.map a.eval) = vs.toArray := by rw [List.map_toArray, hf.evs ha]
      have hf0 : a.eval (.func f) = .func (.func f) #[] #[] := rfl
      simp only [resolve, hf0, Deferred.ofValue, he, Sem.run_bind, Sem.run_pure, Result.andThen_ok, invoke, callFunc, program]
      have hnm : ¬ fn.name = "runtime.NumGoroutine" := by simpa using hb.1
      have hbn : ¬ fn.body = none := by intro e; rw [e] at hbody; cases hbody
      simp [Sem.run, hfn, hnm, hbn]
    unfold Oper.wp
    rw [hrun, Oper.upon_enter]
    refine (hc w hs).mono fun e w' he => ?_
    obtain ⟨s, rfl, hj⟩ := he
    simp only
    rw [hd]
    exact k s w' hj _ _ (hf.put hN _) (St.start w')
  · cases hb
theorem crB2 {α β : Type} [Gd α] [Gd β] {φ : α → β → Prop} {f : Nat} {as : List Operand} {vs : List Value} {tys : Array TypeId} (hb : hasBody P f = true)
    (ho : o.op = .call ⟨.value (.func f), as.toArray, tys⟩) (ha : evs L as = some vs) (hd : o.dst = some d) (hN : Nat.blt d N = true)
    (hc : ∀ w, St w0 H w → Calls P f vs.toArray w (fun e w' => ∃ (x : α) (y : β), φ x y ∧ Rd2 w x y e w'))
    (k : ∀ x y c1 c2, φ x y → ∀ wb, Ex w0 wb → Gd.rd wb c1 x → Gd.rd wb c2 y → D N wb [] ((d, .tuple #[Gd.vl α c1, Gd.vl β c2]) :: L) K) : D N w0 H L (fun a w => o.wp P a w K Q) :=
  D_callB (σ := (α × β) × (List Value × List Value)) (val := fun s => .tuple #[Gd.vl α s.2.1, Gd.vl β s.2.2]) (J := fun s w' => φ s.1.1 s.1.2 ∧ Ex w0 w' ∧ Gd.rd w' s.2.1 s.1.1 ∧ Gd.rd w' s.2.2 s.1.2) hb ho ha hd hN
    (fun w hs => (hc w hs).mono fun _ _ ⟨x, y, hp, c1, c2, he, h1, h2, hx⟩ => ⟨((x, y), (c1, c2)), he, hp, hs.bel.trans hx, h1, h2⟩)
    (fun s w' ⟨hp, hx, h1, h2⟩ => k s.1.1 s.1.2 s.2.1 s.2.2 hp w' hx h1 h2)
theorem crB3 {α β γ : Type} [Gd α] [Gd β] [Gd γ] {φ : α → β → γ → Prop} {f : Nat} {as : List Operand} {vs : List Value} {tys : Array TypeId} (hb : hasBody P f = true)
    (ho : o.op = .call ⟨.value (.func f), as.toArray, tys⟩) (ha : evs L as = some vs) (hd : o.dst = some d) (hN : Nat.blt d N = true)
    (hc : ∀ w, St w0 H w → Calls P f vs.toArray w (fun e w' => ∃ (x : α) (y : β) (z : γ), φ x y z ∧ Rd3 w x y z e w'))
    (k : ∀ x y z c1 c2 c3, φ x y z → ∀ wb, Ex w0 wb → Gd.rd wb c1 x → Gd.rd wb c2 y → Gd.rd wb c3 z → D N wb [] ((d, .tuple #[Gd.vl α c1, Gd.vl β c2, Gd.vl γ c3]) :: L) K) : D N w0 H L (fun a w => o.wp P a w K Q) :=
  D_callB (σ := (α × β × γ) × (List Value × List Value × List Value)) (val := fun s => .tuple #[Gd.vl α s.2.1, Gd.vl β s.2.2.1, Gd.vl γ s.2.2.2]) (J := fun s w' => φ s.1.1 s.1.2.1 s.1.2.2 ∧ Ex w0 w' ∧ Gd.rd w' s.2.1 s.1.1 ∧ Gd.rd w' s.2.2.1 s.1.2.1 ∧ Gd.rd w' s.2.2.2 s.1.2.2) hb ho ha hd hN
    (fun w hs => (hc w hs).mono fun _ _ ⟨x, y, z, hp, c1, c2, c3, he, h1, h2, h3, hx⟩ => ⟨((x, y, z), (c1, c2, c3)), he, hp, hs.bel.trans hx, h1, h2, h3⟩)
    (fun s w' ⟨hp, hx, h1, h2, h3⟩ => k s.1.1 s.1.2.1 s.1.2.2 s.2.1 s.2.2.1 s.2.2.2 hp w' hx h1 h2 h3)
theorem C_drawW (H0 : List Chunk) {id : Nat} {l : List Oper} (hm : P.follows .mixedOrders = true) (z : List Nat) (hz : zok l.toArray z = true) (h : D N w0 H L (AnyH P l.toArray Q w0 H0 z l.length (Array.replicate l.length false))) : D N w0 H L ((Code.region id l.toArray true).wp P Q) := by
  intro a w hf hs
  refine wp_region_noPanic (wp_region_any hm (anyG_any (S := St w0 H0) (z := z) _ _ _ _ ?_))
  have := h a w.drew hf (hs.ext (Ex.drew w)) hz (fun k o hk hl => by
    exfalso
    simp only [Array.getD_eq_getD_getElem?, Array.getElem?_replicate] at hl
    split at hl <;> simp at hl)
  simpa using this
end
end Go.Sy
