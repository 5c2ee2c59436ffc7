/-
  Owned lists, more: a list appended to a list; structs built; an element taken out of its list and put back.
  Conditions: none.
-/
import Derived.Test.YtkdghbglefhcjaaOwn2
namespace Go.Sy
open Go Go.RowKit

def evp (L : Fm) : List (Nat × Operand) → Option (List (Nat × Value))
  | [] => some []
  | (i, x) :: ps => match ev L x, evp L ps with
    | some v, some vs => some ((i, v) :: vs)
    | _, _ => none

theorem evp_sound {a : Act} {N : Nat} {L : Fm} (h : Fits a N L) : ∀ {ps : List (Nat × Operand)} {vs : List (Nat × Value)}, evp L ps = some vs → ps.map (fun x => (x.1, a.eval x.2)) = vs
  | [], vs, he => by simpa [evp] using he
  | (i, x) :: ps, vs, he => by
    simp only [evp] at he
    split at he
    · rename_i v ws h1 h2
      simp only [Option.some.injEq] at he
      subst he
      simp [h.ev h1, evp_sound h h2]
    · cases he

section
variable {P : Program} {N : Nat} {w0 : World} {H : List Chunk} {L : Fm} {ops : Array Oper} {Q : Exit → Act → World → Prop} {o : Oper} {rest : List Oper} {d : Nat} {K : Act → World → Prop}

theorem run_append_nil (w : World) (base : Nat) (t ty e : TypeId) (i : TypeInfo) (size : Nat) (ht : P.underlying t = some (.slice e)) (hi : P.info? e = some i)
    (v : Value) (n : Nat) (xs : List Value) (hown : w.ownsRow base e size v n xs) (c : Nat) : (Builtin.append_ #[t, t] ty #[v, .slice none 0 c]).run P w = .ok v w := by
  rcases hown.2 with ⟨rfl, rfl⟩ | ⟨g, cap, cur, rfl, _, _, hnc, _⟩
  · simp [Builtin.append_, run_underlying ht, sizeOf, typeInfo, hi, Builtin.lenOf, Builtin.firstCells]
  · simp [Builtin.append_, run_underlying ht, sizeOf, typeInfo, hi, Builtin.lenOf, Builtin.firstCells, hnc, storeCells]

/-- a list of flat elements is appended -/
theorem D_apl {α : Type} [Fl α] [Tid α] {t b : Nat} {s x : Operand} {v u z : Value} {l ys : List α} (ht : sliceTy P t = some (Tid.id α, 1, b)) (hz : zeroTy P (Tid.id α) = some z) (hzn : z.cells.size = 1)
    (ho : o.op = .call ⟨.builtin .append, #[s, x], #[t, t]⟩) (hsv : ev L s = some v) (hx : ev L x = some u) (hd : o.dst = some d) (hN : Nat.blt d N = true)
    (hr : ∀ w, St w0 (ov [v] l :: H) w → Gd.rd w [u] ys) (hlen : (l.length + ys.length) * b ≤ 140737488355328) (hmax : l.length + ys.length ≤ 9223372036854775807)
    (k : ∀ v', D N w0 (ov [v'] (l ++ ys) :: H) ((d, v') :: L) K) : D N w0 (ov [v] l :: H) L (fun a w => o.wp P a w K Q) := by
  unfold sliceTy at ht
  split at ht
  · rename_i e' he
    simp only [Option.map_eq_some_iff, Prod.mk.injEq] at ht
    obtain ⟨i, hi, e1, hsz, hby⟩ := ht
    subst e1
    unfold zeroTy at hz
    rw [hi] at hz
    simp only [Option.bind_some] at hz
    refine D_gen hd hN (fun a w hf hs => ?_)
    obtain ⟨A, cap, hu, hm, hel⟩ := hr w hs
    simp only [List.cons.injEq, and_true] at hu
    subst hu
    obtain ⟨f1, hok0, nd1, hb0, close⟩ := hs.set (k := 0) rfl
    obtain ⟨xs, fps, hown, h7, h8, hrow⟩ := ow_row (base := w0.heap.size) hok0 (fun g hg => (hb0 g hg).1)
    cases A with
    | none =>
      have hys : ys = [] := by
        cases ys with
        | nil => rfl
        | cons y ys =>
          obtain ⟨ad, es, e, _⟩ := hel 0 y rfl
          cases e
      subst hys
      refine ⟨v, w, ?_, fun a' hf' => ?_⟩
      · have := run_append_nil (P := P) w w0.heap.size t o.type (Tid.id α) i 1 he hi v l.length xs hown cap
        unfold execOp
        rw [ho]
        simp only [List.length_nil] at hx
        simp [resolve, invoke, builtin, hf.ev hsv, hf.ev hx, this]
      · have hk := k v
        rw [List.append_nil] at hk
        exact hk a' w hf' hs
    | some ad =>
      have hcells : ∀ (j : Nat) u, (ys.map Fl.enc)[j]? = some u → w.cell? (ad.add j) = some u := by
        intro j u hu
        rw [List.getElem?_map] at hu
        simp only [Option.map_eq_some_iff] at hu
        obtain ⟨y, hy, rfl⟩ := hu
        obtain ⟨ad', es, e, hc, hrd⟩ := hel j y hy
        simp only [Option.some.injEq] at e
        subst e
        have hrd' : es = [Fl.enc y] := hrd
        subst hrd'
        have := hc 0 (Fl.enc y) rfl
        have e1 : j * Gd.n α + 0 = j := by show j * 1 + 0 = j; omega
        rw [e1] at this
        exact this
      obtain ⟨v', w', hrun, hown', hgrow, _, hblk⟩ := run_append_own_at (P := P) w w0.heap.size t o.type (Tid.id α) i z 1 b he hi hz hsz hby hzn (by omega) v l.length xs hown ad ys.length cap (ys.map Fl.enc) (by simp)
        hcells (fun u hu => by
          obtain ⟨y, _, rfl⟩ := List.mem_map.1 hu
          exact Fl.one y) (by simp only [maxLen]; omega) hlen hs.bel.size
      have hxl : xs.length = l.length := by
        have := hown.1
        have h1 : Gd.n α = 1 := rfl
        rw [h1] at this
        omega
      refine ⟨v', w', ?_, fun a' hf' => k v' a' w' hf' ?_⟩
      · unfold execOp
        rw [ho]
        simp [resolve, invoke, builtin, hf.ev hsv, hf.ev hx, hrun]
      · have hown2 : w'.ownsRow w0.heap.size (Tid.id α) (Gd.n α) v' (l ++ ys).length (xs ++ ys.map Fl.enc) := by
          show w'.ownsRow w0.heap.size (Tid.id α) 1 v' (l ++ ys).length (xs ++ ys.map Fl.enc)
          simpa using hown'
        have hcl : ∀ (i : Nat) (x : α) (f : List Nat), (l ++ ys)[i]? = some x → (List.replicate (l ++ ys).length ([] : List Nat))[i]? = some f → Gd.ow w' (((xs ++ ys.map Fl.enc).drop (i * Gd.n α)).take (Gd.n α)) x f := fun i q f hq hf => by
          have ef : f = [] := List.eq_of_mem_replicate (List.mem_of_getElem? hf)
          subst ef
          refine ⟨?_, rfl⟩
          show ((xs ++ ys.map Fl.enc).drop (i * 1)).take 1 = [Fl.enc q]
          rw [Nat.mul_one]
          have hget : (xs ++ ys.map Fl.enc)[i]? = some (Fl.enc q) := by
            by_cases hil : i < l.length
            · rw [List.getElem?_append_left (by omega)]
              rw [List.getElem?_append_left hil] at hq
              obtain ⟨f', hf'⟩ := some_of_lt (l := fps) (i := i) (by omega)
              obtain ⟨e1, _⟩ := h8 i q f' hq hf'
              have e1' : (xs.drop (i * 1)).take 1 = [Fl.enc q] := e1
              have : ((xs.drop (i * 1)).take 1)[0]? = some (Fl.enc q) := by rw [e1']; rfl
              rw [List.getElem?_take, if_pos (by omega), List.getElem?_drop] at this
              simpa using this
            · rw [List.getElem?_append_right (by omega), hxl, List.getElem?_map]
              rw [List.getElem?_append_right (by omega)] at hq
              rw [hq]; rfl
          have hlt := lt_of_some hget
          rw [List.drop_eq_getElem_cons hlt]
          rw [List.getElem?_eq_getElem hlt] at hget
          simp only [Option.some.injEq] at hget
          rw [hget]; rfl
        obtain ⟨fp, hok, hfp⟩ := row_ow (α := α) (fps := List.replicate (l ++ ys).length []) hown2 (by simp) hcl
        rw [flatten_nils] at hfp
        have hkb : Kb f1 w w' := ⟨hgrow.os, hgrow.tape, hgrow.output, hgrow.size, fun q hq hnq => hgrow.block q hq (fun e2 => by
          rcases hrow with ⟨e3, _⟩ | ⟨g0, e3, e4⟩
          · rw [e3] at e2; cases e2
          · rw [e3] at e2
            simp only [Option.some.injEq] at e2
            exact hnq (by rw [e4, e2]; simp))⟩
        rcases hfp with ⟨_, e, _⟩ | ⟨g, e0, e, hbg, hgl⟩
        · subst e
          exact close w' (ov [v'] (l ++ ys)) [] hkb hok (by simp) (fun g hg => by cases hg)
        · subst e
          refine close w' (ov [v'] (l ++ ys)) [g] hkb hok (by simp) (fun q hq => ?_)
          simp only [List.mem_singleton] at hq
          subst hq
          refine ⟨?_, hgl⟩
          rcases hblk with hb | hb
          · rw [e0] at hb
            rcases hrow with ⟨e3, _⟩ | ⟨g0, e3, e4⟩
            · rw [e3] at hb; cases hb
            · rw [e3] at hb
              simp only [Option.some.injEq] at hb
              exact .inl (by rw [e4, hb]; simp)
          · rw [e0] at hb
            simp only [Option.some.injEq] at hb
            exact .inr (by omega)
  · cases ht

/-- a struct is built -/
theorem D_build {t : TypeId} {ps : List (Nat × Operand)} {vs : List (Nat × Value)} {cs : List Value} (hev : evp L ps = some vs) (hb : ∀ w, (Instr.build t vs.toArray).run P w = .ok (.agg cs.toArray) w) (ho : o.op = .build t ps.toArray) : RunV P N w0 H L o (.agg cs.toArray) := by
  intro a w hf _
  unfold execOp
  rw [ho]
  have hm : (ps.toArray.map fun (x : Nat × Operand) => (x.1, a.eval x.2)) = vs.toArray := by
    rw [List.map_toArray, evp_sound hf hev]
  simp only
  rw [Sem.run_bind]
  have e2 : (ps.toArray.map fun (x : Nat × Operand) => match x with | (i, x) => (i, a.eval x)) = vs.toArray := hm
  rw [e2, hb w]
  rfl
end
end Go.Sy
