/-
  Owned lists: made, read, written, appended to, handed back.
  Conditions: none.
-/
import Derived.Test.YtkdghbglefhcjaaOps
namespace Go.Sy
open Go Go.RowKit

section
variable {P : Program} {N : Nat} {w0 : World} {H : List Chunk} {L : Fm} {ops : Array Oper} {Q : Exit → Act → World → Prop} {o : Oper} {rest : List Oper} {d : Nat} {K : Act → World → Prop}

theorem D_pre {φ : Prop} (h : ∀ w, St w0 H w → φ) (k : φ → D N w0 H L K) : D N w0 H L K := fun a w hf hs => k (h w hs) a w hf hs

theorem ow_nil {α : Type} [Gd α] [Tid α] {w : World} : Gd.ow w [.slice none 0 0] ([] : List α) [] := .inl ⟨rfl, rfl, rfl⟩

theorem St.nul {w : World} {c : Chunk} (h : St w0 H w) (hc : c.ok w []) : St w0 (c :: H) w :=
  h.push (fp := []) (Ex.refl w) hc List.nodup_nil (fun g hg => by cases hg)

theorem D_nil {α : Type} [Gd α] [Tid α] (k : D N w0 (ov [.slice none 0 0] ([] : List α) :: H) L K) : D N w0 H L K :=
  fun a w hf hs => k a w hf (hs.nul (c := ov [.slice none 0 0] ([] : List α)) ow_nil)

theorem D_flat {α : Type} [Fl α] (y : α) (k : D N w0 (ov [Fl.enc y] y :: H) L K) : D N w0 H L K :=
  fun a w hf hs => k a w hf (hs.nul (c := ov [Fl.enc y] y) ⟨rfl, rfl⟩)

theorem res_of {α : Type} [Gd α] {w : World} {k : Nat} {cs : List Value} {x x' : α} (hs : St w0 H w) (hk : H[k]? = some (ov cs x')) (e : x' = x) : Res w0 x (.returned (Gd.vl α cs)) w := by
  subst e
  obtain ⟨fp, hok, hn, hb⟩ := hs.at hk
  exact ⟨cs, fp, rfl, hok, hn, fun g hg => (hb g hg).1, hs.bel⟩

/-- calls with results in new memory -/
theorem crl {α : Type} [Gd α] [Tid α] {f : Nat} {as : List Operand} {vs : List Value} {tys : Array TypeId} {l : List α} (hb : hasBody P f = true)
    (ho : o.op = .call ⟨.value (.func f), as.toArray, tys⟩) (ha : evs L as = some vs) (hd : o.dst = some d) (hN : Nat.blt d N = true)
    (hc : ∀ w, St w0 H w → Calls P f vs.toArray w (Res w l))
    (k : ∀ v, D N w0 (ov [v] l :: H) ((d, v) :: L) K) : D N w0 H L (fun a w => o.wp P a w K Q) := by
  refine cr hb ho ha hd hN hc fun cs => ?_
  refine D_pre (fun w hs => (show ∃ v, cs = [v] from ?_)) ?_
  · obtain ⟨a, cap, e, _⟩ := rd_own (k := 0) hs rfl
    exact ⟨_, e⟩
  · rintro ⟨v, rfl⟩
    exact k v

theorem crs {α : Type} [Gd α] {f : Nat} {as : List Operand} {vs : List Value} {tys : Array TypeId} {x : α} (hst : Gd.st α = true) (hb : hasBody P f = true)
    (ho : o.op = .call ⟨.value (.func f), as.toArray, tys⟩) (ha : evs L as = some vs) (hd : o.dst = some d) (hN : Nat.blt d N = true)
    (hc : ∀ w, St w0 H w → Calls P f vs.toArray w (Res w x))
    (k : ∀ cs, D N w0 (ov cs x :: H) ((d, .agg cs.toArray) :: L) K) : D N w0 H L (fun a w => o.wp P a w K Q) := by
  refine cr hb ho ha hd hN hc fun cs => ?_
  unfold Gd.vl
  rw [hst]
  exact k cs

/-- a function's end, its result in a box -/
theorem R_c {fn : Func} {R : Ending → World → Prop} {t : Tmp} {ty : TypeId} {g : Nat} {cs : List Value} (k : Nat) (ha : aggTy P ty = some cs.length) (hr : fn.results = #[.cell t ty]) (hv : look L t = some (.pointer (some ⟨g, 0, none⟩)))
    (hk : H[k]? = some (bx g cs)) (h : ∀ w, St w0 H w → R (.returned (.agg cs.toArray)) w) : D N w0 H L (bodyPost P fn R .ret) :=
  fun a w hf hs => by
    have hat : AtE w ⟨g, 0, none⟩ cs := fun j u hu => by
      rw [add_none, Nat.zero_add]
      exact bx_cell hk hu w hs
    have hl := run_loadA ha hat
    refine bodyPost_ret (v := .agg cs.toArray) ?_ hf.dfr (h w hs)
    have e := hf.at_ t _ hv
    simp only [Instr.loadAt, Instr.sureAddr, Sem.run_bind, Sem.run_pure, Result.andThen_ok] at hl
    rw [Array.getD_eq_getD_getElem?] at e
    simp only [results, hr]
    simp [e, hl, asAddr]

/-! ### lists of flat elements -/
theorem owF {α : Type} [Fl α] [Tid α] {w : World} {v : Value} {l : List α} {fp : List Nat} (h : Gd.ow w [v] l fp) :
    (v = .slice none 0 0 ∧ l = [] ∧ fp = []) ∨ ∃ g cap cur, v = .slice (some ⟨g, 0, none⟩) l.length cap ∧ w.heap[g]? = some (.cells cur (Tid.id α) (0, 0)) ∧ l.length ≤ cap ∧ cap ≤ maxLen ∧
      cur.size = cap ∧ fp = [g] ∧ ∀ (i : Nat) (x : α), l[i]? = some x → cur[i]? = some (Fl.enc x) := by
  rcases h with ⟨h1, h2, h3⟩ | ⟨g, cap, cur, fps, h1, h2, h3, h4, h5, h6, h7, h8⟩
  · simp only [List.cons.injEq, and_true] at h1
    exact .inl ⟨h1, h2, h3⟩
  · simp only [List.cons.injEq, and_true] at h1
    have h5' : cur.size = cap := by rw [h5]; show cap * 1 = cap; omega
    have hel : ∀ (i : Nat) (x : α), l[i]? = some x → cur[i]? = some (Fl.enc x) ∧ fps[i]? = some [] := fun i x hx => by
      obtain ⟨f, hf⟩ := some_of_lt (l := fps) (i := i) (by rw [h7]; exact lt_of_some hx)
      obtain ⟨e1, e2⟩ := h8 i x f hx hf
      refine ⟨?_, by rw [hf, e2]⟩
      have : ((cur.toList.drop (i * 1)).take 1)[0]? = some (Fl.enc x) := by
        have e1' : (cur.toList.drop (i * 1)).take 1 = [Fl.enc x] := e1
        rw [e1']; rfl
      rw [List.getElem?_take, if_pos (by omega), List.getElem?_drop] at this
      simpa using this
    refine .inr ⟨g, cap, cur, h1, h2, h3, h4, h5', ?_, fun i x hx => (hel i x hx).1⟩
    rw [h6]
    have : fps.flatten = [] := by
      rw [List.flatten_eq_nil_iff]
      intro f hf
      obtain ⟨i, hi⟩ := List.getElem?_of_mem hf
      obtain ⟨x, hx⟩ := some_of_lt (l := l) (i := i) (by rw [← h7]; exact lt_of_some hi)
      have := (hel i x hx).2
      rw [hi] at this
      simpa using this
    rw [this]

theorem owF_mk {α : Type} [Fl α] [Tid α] {w : World} {l : List α} {g cap : Nat} {cur : Array Value} (h2 : w.heap[g]? = some (.cells cur (Tid.id α) (0, 0))) (h3 : l.length ≤ cap) (h4 : cap ≤ maxLen) (h5 : cur.size = cap)
    (h8 : ∀ (i : Nat) (x : α), l[i]? = some x → cur[i]? = some (Fl.enc x)) : Gd.ow w [.slice (some ⟨g, 0, none⟩) l.length cap] l [g] := by
  refine .inr ⟨g, cap, cur, List.replicate l.length [], rfl, h2, h3, h4, by rw [h5]; show cap = cap * 1; omega, ?_, by simp, fun i x f hx hf => ?_⟩
  · simp
  · have hf' : f = [] := by
      have := List.mem_of_getElem? hf
      exact List.eq_of_mem_replicate this
    refine ⟨?_, hf'⟩
    have h1 := h8 i x hx
    show (cur.toList.drop (i * 1)).take 1 = [Fl.enc x]
    have hlt : i < cur.toList.length := by
      have := (Array.getElem?_eq_some_iff.1 h1).1
      simpa using this
    rw [Nat.mul_one, List.drop_eq_getElem_cons hlt]
    have h1' : cur.toList[i]? = some (Fl.enc x) := by simpa using h1
    rw [List.getElem?_eq_getElem hlt] at h1'
    simp only [Option.some.injEq] at h1'
    rw [h1']
    rfl

theorem D_leno {α : Type} [Gd α] [Tid α] {t : TypeId} {x : Operand} {v : Value} {l : List α} {e3 : Nat × Nat × Nat} (k : Nat) (ht : sliceTy P t = some e3) (ho : o.op = .call ⟨.builtin .len, #[x], #[t]⟩) (hx : ev L x = some v)
    (hk : H[k]? = some (ov [v] l)) : RunV P N w0 H L o (.int .i64 (l.length : Int)) := fun a w hf hs =>
  D_len (N := N) (w0 := w0) (H := H) ht ho hx (rd_sl (rd_own hs hk)) a w hf hs

/-- an element of an owned list of flat elements -/
theorem lo {α : Type} [Fl α] [Tid α] {t : TypeId} {x : Operand} {v : Value} {l : List α} {j : Nat} {y : α} (k : Nat) (ht : oneTy P t = true) (ho : o.op = .load t x) (hx : ev L x = some (.pointer (some (elemA v (j * 1)))))
    (hk : H[k]? = some (ov [v] l)) (hj : l[j]? = some y) : RunV P N w0 H L o (Fl.enc y) := by
  refine D_ld1 ht ho hx (fun w hs => ?_)
  obtain ⟨es, hat, hr⟩ := rd_elem (n := 1) rfl (rd_own hs hk) hj
  have hr' : es = [Fl.enc y] := hr
  subst hr'
  have := hat 0 (Fl.enc y) rfl
  rwa [add_zero] at this

/-- a store into an owned list of flat elements -/
theorem so {α : Type} [Fl α] [Tid α] {t : TypeId} {x y : Operand} {v : Value} {l : List α} {j : Nat} {z : α} (k : Nat) (hz : sizeTy P t = some 1) (ho : o.op = .store t x y) (hx : ev L x = some (.pointer (some (elemA v (j * 1))))) (hy : ev L y = some (Fl.enc z)) (hd : o.dst = none)
    (hk : H[k]? = some (ov [v] l)) (hj : j < l.length) (r : D N w0 (H.set k (ov [v] (l.set j z))) L K) : D N w0 H L (fun a w => o.wp P a w K Q) := by
  refine D_gen0 hd (fun a w hf hs => ?_)
  obtain ⟨fp, hok, hn, hb, put⟩ := hs.set hk
  rcases owF hok with ⟨_, h2, _⟩ | ⟨g, cap, cur, h1, h2, h3, h4, h5, h6, h8⟩
  · rw [h2] at hj; simp at hj
  · subst h6
    subst h1
    have hone : (Fl.enc z).oneCell' = true := Fl.one z
    have hcur : cur.toList.toArray = cur := by simp
    obtain ⟨w', hr, hh', kb, hsz⟩ := storeCells_bx (P := P) (g := g) (i := j) (cur := cur.toList) (vs := [Fl.enc z]) (t := Tid.id α) (w := w) (by rw [hcur]; exact h2) (by simp; omega) (by simpa using hone)
    refine ⟨w', ?_, fun a' hf' => r a' w' hf' (put w' (ov [.slice (some ⟨g, 0, none⟩) l.length cap] (l.set j z)) [g] kb ?_ (by simp) (fun q hq => ⟨.inl hq, by have := hb q hq; omega⟩))⟩
    · have hcells : (Fl.enc z).cells = #[Fl.enc z] := by
        generalize Fl.enc z = u at hone
        cases u <;> first | rfl | cases hone
      unfold sizeTy at hz
      simp only [Option.map_eq_some_iff] at hz
      obtain ⟨ti, hi, hsz2⟩ := hz
      have hadr : elemA (.slice (some ⟨g, 0, none⟩) l.length cap) (j * 1) = ⟨g, j, none⟩ := by simp [elemA, add_none]
      have hxe := hf.ev hx
      rw [hadr] at hxe
      unfold execOp
      rw [ho]
      simp [Instr.storeAt, Instr.sureAddr, storeVar, hxe, hf.ev hy, sizeOf, typeInfo, hi, hsz2, hcells, hr]
    · have hl : (l.set j z).length = l.length := by simp
      show Gd.ow w' [.slice (some ⟨g, 0, none⟩) l.length cap] (l.set j z) [g]
      rw [← hl]
      refine owF_mk hh' (by rw [hl]; exact h3) h4 ?_ (fun i q hq => ?_)
      · simp; omega
      · rw [List.getElem?_set] at hq
        split at hq
        · rename_i e
          subst e
          have hq' : z = q := by simpa [hj] using hq
          subst hq'
          simp only [List.getElem?_toArray]
          rw [List.append_assoc, List.getElem?_append_right (by simp; omega)]
          have : min j cur.size = j := by omega
          simp [this]
        · rename_i hne
          have hi := h8 i q hq
          have hilt := lt_of_some hq
          simp only [List.getElem?_toArray]
          by_cases hlt : i < j
          · rw [List.append_assoc, List.getElem?_append_left (by simp; omega), List.getElem?_take, if_pos hlt]
            simpa using hi
          · rw [List.getElem?_append_right (by simp; omega)]
            simp only [List.length_append, List.length_take, List.length_singleton, Array.length_toList, List.getElem?_drop]
            have : j + 1 + (i - (min j cur.size + 1)) = i := by omega
            rw [this]
            simpa using hi

/-! ### made lists -/
theorem madeCells_get {z : Value} {n i : Nat} (hz : z.cells = #[z]) (hi : i < n) : (madeCells z.cells (n * 1))[i]? = some z := by
  rw [hz]
  unfold madeCells
  simp [hi, Nat.mod_one]

theorem D_mk {α : Type} [Fl α] [Tid α] {t : TypeId} {x : Operand} {b : Nat} {n : Nat} {z : α} (ht : sliceTy P t = some (Tid.id α, 1, b)) (hz : zeroTy P (Tid.id α) = some (Fl.enc z)) (ho : o.op = .makeSlice t x x) (hx : ev L x = some (.int .i64 (n : Int))) (hd : o.dst = some d) (hN : Nat.blt d N = true)
    (hb : b * n ≤ 281474976710656) (hn : n ≤ 9223372036854775807) (k : ∀ v, D N w0 (ov [v] (List.replicate n z) :: H) ((d, v) :: L) K) : D N w0 H L (fun a w => o.wp P a w K Q) := by
  unfold sliceTy at ht
  split at ht
  · rename_i e he
    simp only [Option.map_eq_some_iff, Prod.mk.injEq] at ht
    obtain ⟨i, hi, rfl, hsz, hby⟩ := ht
    unfold zeroTy at hz
    rw [hi] at hz
    simp only [Option.bind_some] at hz
    refine D_gen hd hN (fun a w hf hs => ?_)
    have hone : (Fl.enc z).oneCell' = true := Fl.one z
    have hcells : (Fl.enc z).cells = #[Fl.enc z] := by
      generalize Fl.enc z = u at hone
      cases u <;> first | rfl | cases hone
    have hbz : (i.bytes : Int) * (n : Int) ≤ 281474976710656 := by
      rw [hby, ← Int.natCast_mul]; omega
    have hr := run_make (P := P) w t (Tid.id α) i (Fl.enc z) he hi hz .i64 .i64 n n (by omega) (Int.le_refl _) hbz (by omega)
    simp only [Int.toNat_natCast, hsz] at hr
    refine ⟨_, w.alloc (.cells (madeCells (Fl.enc z).cells (n * 1)) (Tid.id α)), ?_, fun a' hf' => k _ a' _ hf' (hs.push (fp := [w.heap.size]) (Ex.alloc w _) (c := ov [.slice (some ⟨w.heap.size, 0, none⟩) n n] (List.replicate n z)) ?_ (by simp) (fun g hg => by simp only [List.mem_singleton] at hg; subst hg; simp))⟩
    · unfold execOp
      rw [ho]
      simp only [hf.ev hx]
      rw [Sem.run_bind, hr]
      rfl
    · have hl : (List.replicate n z).length = n := by simp
      have := owF_mk (α := α) (w := w.alloc (.cells (madeCells (Fl.enc z).cells (n * 1)) (Tid.id α))) (l := List.replicate n z) (g := w.heap.size) (cap := n) (heap_alloc_new w _) (by simp) (by simp only [maxLen]; omega) (by simp [madeCells])
        (fun i x hx => by
          have hlt := lt_of_some hx
          rw [hl] at hlt
          rw [madeCells_get hcells hlt]
          have := List.mem_of_getElem? hx
          rw [List.eq_of_mem_replicate this])
      rw [hl] at this
      exact this
  · cases ht
end
end Go.Sy
