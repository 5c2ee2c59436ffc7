/-
  Owned lists of whatever elements: made, an element replaced, an element appended, a list appended.
  Conditions: none.
-/
import Derived.Test.YtkdghbglefhcjaaOwn
import Derived.Great.BuildSlice
import Derived.Test.YtkdghbglefhcjaaData
namespace Go.Sy
open Go Go.RowKit

theorem slice_get (cur : List Value) (i n t : Nat) : ((cur.drop (i * n)).take n)[t]? = if t < n then cur[i * n + t]? else none := by
  rw [List.getElem?_take, List.getElem?_drop]

theorem splice_get (cur yc : List Value) (p q : Nat) (hp : p + yc.length ≤ cur.length) :
    (cur.take p ++ yc ++ cur.drop (p + yc.length))[q]? = if q < p then cur[q]? else if q < p + yc.length then yc[q - p]? else cur[q]? := by
  have hm : min p cur.length = p := by omega
  by_cases h1 : q < p
  · rw [if_pos h1, List.append_assoc, List.getElem?_append_left (by simp; omega), List.getElem?_take, if_pos h1]
  · rw [if_neg h1]
    by_cases h2 : q < p + yc.length
    · rw [if_pos h2, List.append_assoc, List.getElem?_append_right (by simp; omega), List.getElem?_append_left (by simp [hm]; omega)]
      simp [hm]
    · rw [if_neg h2, List.getElem?_append_right (by simp [hm]; omega), List.getElem?_drop]
      simp only [List.length_append, List.length_take, hm]
      congr 1
      omega

theorem block_other {i j n t : Nat} (hne : i ≠ j) (ht : t < n) : i * n + t < j * n ∨ j * n + n ≤ i * n + t := by
  rcases Nat.lt_or_gt_of_ne hne with h | h
  · left
    have := Nat.mul_le_mul_right n (show i + 1 ≤ j from h)
    rw [Nat.add_mul, Nat.one_mul] at this
    omega
  · right
    have := Nat.mul_le_mul_right n (show j + 1 ≤ i from h)
    rw [Nat.add_mul, Nat.one_mul] at this
    omega

theorem sub_mem_flatten {l : List (List Nat)} {j : Nat} {f : List Nat} {g : Nat} (h : g ∈ (l.set j f).flatten) : g ∈ l.flatten ∨ g ∈ f := by
  obtain ⟨q, hq, hg⟩ := List.mem_flatten.1 h
  rcases List.mem_or_eq_of_mem_set hq with h | h
  · exact .inl (List.mem_flatten.2 ⟨q, h, hg⟩)
  · exact .inr (h ▸ hg)

theorem nodup_flatten_set : ∀ {l : List (List Nat)} {j : Nat} {f : List Nat}, l.flatten.Nodup → f.Nodup → (∀ g ∈ f, g ∉ l.flatten) → (l.set j f).flatten.Nodup
  | [], _, _, _, _, _ => by simp
  | x :: l, 0, f, h, hf, hd => by
    simp only [List.set_cons_zero, List.flatten_cons] at *
    rw [List.nodup_append] at *
    refine ⟨hf, h.2.1, fun a ha b hb e => ?_⟩
    subst e
    exact hd a ha (List.mem_append_right _ hb)
  | x :: l, j + 1, f, h, hf, hd => by
    simp only [List.set_cons_succ, List.flatten_cons] at *
    rw [List.nodup_append] at *
    refine ⟨h.1, nodup_flatten_set h.2.1 hf (fun g hg hm => hd g hg (List.mem_append_right _ hm)), fun a ha b hb e => ?_⟩
    subst e
    rcases sub_mem_flatten hb with hb | hb
    · exact h.2.2 a ha a hb rfl
    · exact hd a hb (List.mem_append_left _ ha)

theorem cells_len {α : Type} [Gd α] {w : World} {cs : List Value} {x : α} {f : List Nat} (h : Gd.ow w cs x f) : cs.length = Gd.n α := Gd.rd_len (Gd.ow_rd h)
theorem cells_one {α : Type} [Gd α] {w : World} {cs : List Value} {x : α} {f : List Nat} (h : Gd.ow w cs x f) : ∀ u ∈ cs, u.oneCell' = true := Gd.rd_one (Gd.ow_rd h)

section
variable {P : Program} {N : Nat} {w0 : World} {H : List Chunk} {L : Fm} {ops : Array Oper} {Q : Exit → Act → World → Prop} {o : Oper} {rest : List Oper} {d : Nat} {K : Act → World → Prop}

/-- two chunks at the front become one -/
theorem St.open2 {w : World} {c1 c2 : Chunk} (h : St w0 (c1 :: c2 :: H) w) :
    ∃ f1 f2, c1.ok w f1 ∧ c2.ok w f2 ∧ (f1 ++ f2).Nodup ∧ (∀ g ∈ f1 ++ f2, w0.heap.size ≤ g ∧ g < w.heap.size) ∧
      ∀ (w' : World) (c : Chunk) (fp : List Nat), Kb f1 w w' → c.ok w' fp → fp.Nodup → (∀ g ∈ fp, (g ∈ f1 ++ f2 ∨ w.heap.size ≤ g) ∧ g < w'.heap.size) → St w0 (c :: H) w' := by
  obtain ⟨F, ⟨f1, F', e1, h1, f2, F2, e2, h2, hH⟩, hn, hb⟩ := h.own
  subst e2; subst e1
  rw [← List.append_assoc] at hn hb
  have hn' := hn
  rw [List.nodup_append] at hn'
  obtain ⟨n12, n3, dis⟩ := hn'
  refine ⟨f1, f2, h1, h2, n12, fun g hg => hb g (List.mem_append_left _ hg), fun w' c fp kb hok hnf hbf => ?_⟩
  have hnot : ∀ g ∈ F2, g ∉ f1 := fun g hg hf => dis g (List.mem_append_left _ hf) g hg rfl
  refine ⟨⟨kb.os.trans h.bel.os, kb.tape.trans h.bel.tape, kb.output.trans h.bel.output, Nat.le_trans h.bel.size kb.size, fun g hg => ?_⟩,
    fp ++ F2, ⟨fp, F2, rfl, hok, hH.loc (fun g hg => kb.block g (hb g (List.mem_append_right _ hg)).2 (hnot g hg))⟩, ?_, ?_⟩
  · rw [kb.block g (Nat.lt_of_lt_of_le hg h.bel.size) (fun hf => by have := (hb g (by simp [hf])).1; omega)]
    exact h.bel.block g hg
  · rw [List.nodup_append]
    refine ⟨hnf, n3, fun a ha b hb2 e => ?_⟩
    subst e
    rcases (hbf a ha).1 with hf | hf
    · exact dis a hf a hb2 rfl
    · have := (hb a (List.mem_append_right _ hb2)).2; omega
  · intro g hg
    rcases List.mem_append.1 hg with hg | hg
    · refine ⟨?_, (hbf g hg).2⟩
      rcases (hbf g hg).1 with hf | hf
      · exact (hb g (List.mem_append_left _ hf)).1
      · exact Nat.le_trans h.bel.size hf
    · exact ⟨(hb g (List.mem_append_right _ hg)).1, Nat.lt_of_lt_of_le (hb g (List.mem_append_right _ hg)).2 kb.size⟩

theorem St.two {w w' : World} {c1 c2 c : Chunk} (h : St w0 (c1 :: c2 :: H) w)
    (hc : ∀ f1 f2, c1.ok w f1 → c2.ok w f2 → (f1 ++ f2).Nodup → (∀ g ∈ f1 ++ f2, g < w.heap.size) → ∃ fp, Kb f1 w w' ∧ c.ok w' fp ∧ fp.Nodup ∧ ∀ g ∈ fp, (g ∈ f1 ++ f2 ∨ w.heap.size ≤ g) ∧ g < w'.heap.size) : St w0 (c :: H) w' := by
  obtain ⟨f1, f2, h1, h2, hn, hb, close⟩ := h.open2
  obtain ⟨fp, kb, hok, hnf, hbf⟩ := hc f1 f2 h1 h2 hn (fun g hg => (hb g hg).2)
  exact close w' c fp kb hok hnf hbf

/-- chunks side by side as one -/
def star (c1 c2 : Chunk) : Chunk where
  ok w fp := ∃ f1 f2, fp = f1 ++ f2 ∧ c1.ok w f1 ∧ c2.ok w f2
  loc := fun w w' fp ⟨f1, f2, e, h1, h2⟩ hs => by
    subst e
    exact ⟨f1, f2, rfl, c1.loc _ _ _ h1 (fun g hg => hs g (by simp [hg])), c2.loc _ _ _ h2 (fun g hg => hs g (by simp [hg]))⟩

theorem St.star {w : World} {c1 c2 : Chunk} (h : St w0 (c1 :: c2 :: H) w) : St w0 (Sy.star c1 c2 :: H) w :=
  h.two (fun f1 f2 h1 h2 hn hb => ⟨f1 ++ f2, Kb.of_ex (Ex.refl w), ⟨f1, f2, rfl, h1, h2⟩, hn, fun g hg => ⟨.inl hg, hb g hg⟩⟩)

theorem St.split {w : World} {c1 c2 : Chunk} (h : St w0 (Sy.star c1 c2 :: H) w) : St w0 (c1 :: c2 :: H) w := by
  obtain ⟨F, ⟨fp, F', e, ⟨f1, f2, e2, h1, h2⟩, hH⟩, hn, hb⟩ := h.own
  subst e2; subst e
  exact ⟨h.bel, f1 ++ (f2 ++ F'), ⟨f1, f2 ++ F', rfl, h1, f2, F', rfl, h2, hH⟩, by rw [← List.append_assoc]; exact hn, fun g hg => hb g (by rw [List.append_assoc]; exact hg)⟩

theorem ow_cell {α : Type} [Gd α] [Tid α] {w : World} {es : List Value} {l : List α} {fp : List Nat} (h : Gd.ow w es l fp) : ∃ u, es = [u] := by
  obtain ⟨a, cap, e, _⟩ := Gd.ow_rd h
  exact ⟨_, e⟩

theorem St.conv {w : World} {c c' : Chunk} (h : St w0 (c :: H) w) (hc : ∀ fp, c.ok w fp → ∃ fp', c'.ok w fp' ∧ List.Perm fp fp') : St w0 (c' :: H) w := by
  obtain ⟨fp, hok, hn, hb, put⟩ := h.set (k := 0) rfl
  obtain ⟨fp', hok', hp⟩ := hc fp hok
  exact put w c' fp' (Kb.of_ex (Ex.refl w)) hok' (hp.nodup_iff.1 hn) (fun g hg => ⟨.inl (hp.mem_iff.2 hg), (hb g (hp.mem_iff.2 hg)).2⟩)

theorem part_of {a b : List Value} {n : Nat} (h : a.length = n) : a = ((a ++ b).drop 0).take n := by
  subst h; simp

/-- an owned struct becomes its first field and the others -/
theorem D_unpair {α β : Type} [Gd α] [Gd β] {c : Chunk} {c1 c2 : List Value} {x : α} {y : β} (e : c = ov (c1 ++ c2) (x, y)) (hl : c1.length = Gd.n α) (k : D N w0 (ov c1 x :: ov c2 y :: H) L K) : D N w0 (c :: H) L K := by
  subst e
  intro a w hf h
  refine k a w hf (St.split (St.conv (c' := star (ov c1 x) (ov c2 y)) h ?_))
  rintro fp ⟨d1, d2, f1, f2, e1, e2, h1, h2⟩
  have hl1 : d1.length = c1.length := by rw [hl]; exact cells_len h1
  obtain ⟨r1, r2⟩ := List.append_inj e1.symm hl1
  subst r1; subst r2; subst e2
  exact ⟨f1 ++ f2, ⟨f1, f2, rfl, h1, h2⟩, List.Perm.refl _⟩

theorem D_fi (y : Int) (k : D N w0 (ov [.int .i64 y] y :: H) L K) : D N w0 H L K := D_flat y k
theorem D_fbool (y : Bool) (k : D N w0 (ov [.bool y] y :: H) L K) : D N w0 H L K := D_flat y k
theorem D_fs (y : ByteArray) (k : D N w0 (ov [.string y] y :: H) L K) : D N w0 H L K := D_flat y k

theorem onil : ∀ u ∈ ([] : List Value), u.oneCell' = true := fun _ h => by cases h
theorem ocons {v : Value} {l : List Value} (h : v.oneCell' = true) (hl : ∀ u ∈ l, u.oneCell' = true) : ∀ u ∈ v :: l, u.oneCell' = true := fun u hu => by
  rcases List.mem_cons.1 hu with e | hu
  · rw [e]; exact h
  · exact hl u hu
theorem one_rd {α : Type} [Gd α] [Tid α] {w : World} {v : Value} {l : List α} (h : Gd.rd w [v] l) : v.oneCell' = true := Gd.rd_one h v (by simp)
theorem one_own {α : Type} [Gd α] [Tid α] {w : World} {k : Nat} {v : Value} {l : List α} (hs : St w0 H w) (hk : H[k]? = some (ov [v] l)) : v.oneCell' = true := one_rd (rd_own hs hk)
theorem cells_of_one {v : Value} (h : v.oneCell' = true) : v.cells = #[v] := by cases v <;> first | rfl | cases h
theorem rd_cell {α : Type} [Gd α] [Tid α] {w : World} {es : List Value} {l : List α} (h : Gd.rd w es l) : ∃ u, es = [u] := by
  obtain ⟨a, cap, e, _⟩ := h
  exact ⟨_, e⟩
theorem beq_of_not {a b : Bool} (h : (!(a == b)) = false) : a = b := by cases a <;> cases b <;> simp_all
theorem not_t {b : Bool} (h : (!b) = true) : b = false := by simpa using h
theorem not_f {b : Bool} (h : (!b) = false) : b = true := by simpa using h

theorem wrap_wr (z : Int) : IntKind.i64.wrap z = wr z := by rw [IntKind.wrap_i64]; unfold wr; omega

theorem D_addw {t t' : TypeId} {x y : Operand} {m n : Int} (ho : o.op = .binOp .add t x y t') (hx : ev L x = some (.int .i64 m)) (hy : ev L y = some (.int .i64 n)) : RunV P N w0 H L o (.int .i64 (wr (m + n))) := by
  intro a w hf _
  unfold execOp
  rw [ho]
  simp only [hf.ev hx, hf.ev hy]
  simp [eqGuard, binOp, Op.intArith, wrap_wr]
theorem D_subw {t t' : TypeId} {x y : Operand} {m n : Int} (ho : o.op = .binOp .sub t x y t') (hx : ev L x = some (.int .i64 m)) (hy : ev L y = some (.int .i64 n)) : RunV P N w0 H L o (.int .i64 (wr (m - n))) := by
  intro a w hf _
  unfold execOp
  rw [ho]
  simp only [hf.ev hx, hf.ev hy]
  simp [eqGuard, binOp, Op.intArith, wrap_wr]

/-- the same data, told otherwise -/
theorem D_eq {α : Type} [Gd α] {cs : List Value} {x x' : α} (i : Nat) (hk : H[i]? = some (ov cs x)) (e : x = x') (k : D N w0 (H.set i (ov cs x')) L K) : D N w0 H L K := by
  subst e
  have : H.set i (ov cs x) = H := by
    apply List.ext_getElem?
    intro j
    rw [List.getElem?_set]
    split
    · rename_i h
      subst h
      split
      · rw [hk]
      · rename_i h; rw [List.getElem?_eq_none (by omega)]
    · rfl
  rw [this] at k
  exact k

/-- a field of a field of an element -/
theorem D_fa' {t j off q i : Nat} {x : Operand} {p : Addr} (hf' : fieldOff P t j = some off) (ho : o.op = .fieldAddr t x j) (hx : ev L x = some (.pointer (some (p.add i)))) (hq : i + off = q) : RunV P N w0 H L o (.pointer (some (p.add q))) := by
  have h := D_fa (N := N) (w0 := w0) (H := H) hf' ho hx
  rw [add_add, hq] at h
  exact h

/-- an element of an owned list is replaced -/
theorem soG {α : Type} [Gd α] [Tid α] {t n : Nat} {x y : Operand} {v yv : Value} {l : List α} {j : Nat} {z : α} {yc : List Value} (hnα : Gd.n α = n) (hz : sizeTy P t = some n) (ho : o.op = .store t x y) (hx : ev L x = some (.pointer (some (elemA v (j * n))))) (hy : ev L y = some yv) (hyc : yv.cells = yc.toArray) (hd : o.dst = none)
    (hj : j < l.length) (r : D N w0 (ov [v] (l.set j z) :: H) L K) : D N w0 (ov [v] l :: ov yc z :: H) L (fun a w => o.wp P a w K Q) := by
  subst hnα
  refine D_gen0 hd (fun a w hf hs => ?_)
  have hv : ∃ g cap, v = .slice (some ⟨g, 0, none⟩) l.length cap := by
    obtain ⟨fp, hok, _⟩ := hs.at (k := 0) rfl
    rcases hok with ⟨_, h2, _⟩ | ⟨g, cap, cur, fps, h1, _⟩
    · rw [h2] at hj; simp at hj
    · simp only [List.cons.injEq, and_true] at h1; exact ⟨g, cap, h1⟩
  obtain ⟨g, cap, rfl⟩ := hv
  obtain ⟨_, hokz, _⟩ := hs.at (k := 1) rfl
  have hyl : yc.length = Gd.n α := cells_len hokz
  have hy1 : ∀ u ∈ yc, u.oneCell' = true := cells_one hokz
  obtain ⟨fp0, hok0, _⟩ := hs.at (k := 0) rfl
  rcases hok0 with ⟨h1, _⟩ | ⟨g', cap', cur, fps, h1, h2, h3, h4, h5, h6, h7, h8⟩
  · simp at h1
  · simp only [List.cons.injEq, and_true, Value.slice.injEq, Option.some.injEq, Addr.mk.injEq] at h1
    obtain ⟨e1, _, e2⟩ := h1
    subst e1; subst e2
    have hcur : cur.toList.toArray = cur := by simp
    have hroom : j * Gd.n α + yc.length ≤ cur.toList.length := by
      rw [hyl]
      simp only [Array.length_toList, h5]
      have := Nat.mul_le_mul_right (Gd.n α) (show j + 1 ≤ cap by omega)
      rw [Nat.add_mul, Nat.one_mul] at this
      exact this
    obtain ⟨w', hr, hh', kb, hsz⟩ := storeCells_bx (P := P) (g := g) (i := j * Gd.n α) (cur := cur.toList) (vs := yc) (t := Tid.id α) (w := w) (by rw [hcur]; exact h2) hroom hy1
    refine ⟨w', ?_, fun a' hf' => r a' w' hf' (hs.two ?_)⟩
    · have hadr : elemA (.slice (some ⟨g, 0, none⟩) l.length cap) (j * Gd.n α) = ⟨g, j * Gd.n α, none⟩ := by simp [elemA, add_none]
      have hxe := hf.ev hx
      rw [hadr] at hxe
      unfold sizeTy at hz
      simp only [Option.map_eq_some_iff] at hz
      obtain ⟨ti, hi, hsz2⟩ := hz
      unfold execOp
      rw [ho]
      simp [Instr.storeAt, Instr.sureAddr, storeVar, hxe, hf.ev hy, sizeOf, typeInfo, hi, hsz2, hyc, hyl, hr]
    · intro f1 f2 ok1 ok2 hnd hlt
      rcases ok1 with ⟨e, _⟩ | ⟨g1, cap1, cur1, fps1, k1, k2, k3, k4, k5, k6, k7, k8⟩
      · simp at e
      · simp only [List.cons.injEq, and_true, Value.slice.injEq, Option.some.injEq, Addr.mk.injEq] at k1
        obtain ⟨e1, _, e2⟩ := k1
        subst e1; subst e2
        rw [h2] at k2
        simp only [Option.some.injEq, Obj.cells.injEq, true_and, and_true] at k2
        subst k2
        subst k6
        have hnd' := hnd
        rw [List.nodup_append] at hnd'
        obtain ⟨nd1, nd2, dis⟩ := hnd'
        have hg1 : g ∉ fps1.flatten := (List.nodup_cons.1 nd1).1
        have hg2 : g ∉ f2 := fun hm => dis g (by simp) g hm rfl
        have hsame : ∀ q, q < w.heap.size → q ≠ g → w'.heap[q]? = w.heap[q]? := fun q hq hne => kb.block q hq (by simpa using hne)
        refine ⟨g :: (fps1.set j f2).flatten, ⟨kb.os, kb.tape, kb.output, kb.size, fun q hq hnq => hsame q hq (fun e => hnq (by simp [e]))⟩, ?_, ?_, ?_⟩
        · refine .inr ⟨g, cap, (cur.toList.take (j * Gd.n α) ++ yc ++ cur.toList.drop (j * Gd.n α + yc.length)).toArray, fps1.set j f2, by simp, hh', by simpa using k3, k4, ?_, rfl, by simpa using k7, ?_⟩
          · simp only [List.size_toArray, List.length_append, List.length_take, List.length_drop]
            simp only [Array.length_toList] at hroom ⊢
            omega
          · intro i q f hq hfi
            have hcellsAt : ∀ i', ((cur.toList.take (j * Gd.n α) ++ yc ++ cur.toList.drop (j * Gd.n α + yc.length)).toArray.toList.drop (i' * Gd.n α)).take (Gd.n α) = if i' = j then yc else (cur.toList.drop (i' * Gd.n α)).take (Gd.n α) := fun i' => by
              apply List.ext_getElem?
              intro t
              simp only [List.toList_toArray]
              rw [slice_get]
              by_cases ht : t < Gd.n α
              · rw [if_pos ht, splice_get _ _ _ _ hroom]
                by_cases hij : i' = j
                · subst hij
                  rw [if_neg (by omega), if_pos (by omega), if_pos rfl]
                  congr 1
                  omega
                · rw [if_neg hij, slice_get, if_pos ht]
                  rcases block_other hij ht with hb | hb
                  · rw [if_pos hb]
                  · rw [if_neg (by omega), if_neg (by omega)]
              · rw [if_neg ht]
                by_cases hij : i' = j
                · rw [if_pos hij, List.getElem?_eq_none (by omega)]
                · rw [if_neg hij, slice_get, if_neg ht]
            rw [hcellsAt i]
            by_cases hij : i = j
            · subst hij
              rw [if_pos rfl]
              rw [List.getElem?_set_self (by omega)] at hq
              rw [List.getElem?_set_self (by rw [k7]; omega)] at hfi
              simp only [Option.some.injEq] at hq hfi
              subst hq; subst hfi
              exact Gd.ow_loc ok2 (fun g' hg' => hsame g' (hlt g' (by simp [hg'])) (fun e => hg2 (e ▸ hg')))
            · rw [if_neg hij]
              rw [List.getElem?_set_ne (fun e => hij e.symm)] at hq hfi
              have := k8 i q f hq hfi
              refine Gd.ow_loc this (fun g' hg' => hsame g' (hlt g' ?_) (fun e => hg1 (e ▸ mem_of_idx hfi hg')))
              simp [mem_of_idx hfi hg']
        · rw [List.nodup_cons]
          refine ⟨fun hm => ?_, nodup_flatten_set (List.nodup_cons.1 nd1).2 nd2 (fun q hq hm => dis q (by simp [hm]) q hq rfl)⟩
          rcases sub_mem_flatten hm with hm | hm
          · exact hg1 hm
          · exact hg2 hm
        · intro q hq
          rcases List.mem_cons.1 hq with e | hq
          · subst e; exact ⟨.inl (by simp), by rw [hsz]; exact hlt q (by simp)⟩
          · rcases sub_mem_flatten hq with hq | hq
            · exact ⟨.inl (by simp [hq]), by rw [hsz]; exact hlt q (by simp [hq])⟩
            · exact ⟨.inl (by simp [hq]), by rw [hsz]; exact hlt q (by simp [hq])⟩

theorem flatten_nils (n : Nat) : (List.replicate n ([] : List Nat)).flatten = [] := by
  rw [List.flatten_eq_nil_iff]; intro l hl; exact List.eq_of_mem_replicate hl

/-- a made list of whatever elements -/
theorem D_mkG {α : Type} [Gd α] [Tid α] {t m : Nat} {x : Operand} {b : Nat} {n : Nat} {z : Value} {z0 : α} {zc : List Value} (ht : sliceTy P t = some (Tid.id α, m, b)) (hz : zeroTy P (Tid.id α) = some z) (hm : Gd.n α = m) (ho : o.op = .makeSlice t x x) (hx : ev L x = some (.int .i64 (n : Int))) (hd : o.dst = some d) (hN : Nat.blt d N = true)
    (hzc : z.cells = zc.toArray) (hz0 : ∀ w, Gd.ow w zc z0 [])
    (hb : b * n ≤ 281474976710656) (hn : n ≤ 9223372036854775807) (k : ∀ v, D N w0 (ov [v] (List.replicate n z0) :: H) ((d, v) :: L) K) : D N w0 H L (fun a w => o.wp P a w K Q) := by
  subst hm
  unfold sliceTy at ht
  split at ht
  · rename_i e he
    simp only [Option.map_eq_some_iff, Prod.mk.injEq] at ht
    obtain ⟨i, hi, rfl, hsz, hby⟩ := ht
    unfold zeroTy at hz
    rw [hi] at hz
    simp only [Option.bind_some] at hz
    refine D_gen hd hN (fun a w hf hs => ?_)
    have hbz : (i.bytes : Int) * (n : Int) ≤ 281474976710656 := by
      rw [hby, ← Int.natCast_mul]; omega
    have hr := run_make (P := P) w t (Tid.id α) i z he hi hz .i64 .i64 n n (by omega) (Int.le_refl _) hbz (by omega)
    simp only [Int.toNat_natCast, hsz] at hr
    have hzl : zc.length = Gd.n α := cells_len (hz0 w)
    refine ⟨_, w.alloc (.cells (madeCells z.cells (n * Gd.n α)) (Tid.id α)), ?_, fun a' hf' => k _ a' _ hf' (hs.push (fp := [w.heap.size]) (Ex.alloc w _) (c := ov [.slice (some ⟨w.heap.size, 0, none⟩) n n] (List.replicate n z0)) ?_ (by simp) (fun g hg => by simp only [List.mem_singleton] at hg; subst hg; simp))⟩
    · unfold execOp
      rw [ho]
      simp only [hf.ev hx]
      rw [Sem.run_bind, hr]
      rfl
    · refine .inr ⟨w.heap.size, n, madeCells z.cells (n * Gd.n α), List.replicate n [], by simp, heap_alloc_new w _, by simp, by simp only [maxLen]; omega, by simp [madeCells], by rw [flatten_nils], by simp, fun i q f hq hf => ?_⟩
      have e1 := List.eq_of_mem_replicate (List.mem_of_getElem? hq)
      have e2 := List.eq_of_mem_replicate (List.mem_of_getElem? hf)
      subst e1; subst e2
      have hlt := lt_of_some hq
      simp only [List.length_replicate] at hlt
      have : ((madeCells z.cells (n * Gd.n α)).toList.drop (i * Gd.n α)).take (Gd.n α) = zc := by
        apply List.ext_getElem?
        intro t
        rw [slice_get]
        by_cases htn : t < Gd.n α
        · rw [if_pos htn, hzc]
          have hlt2 : i * Gd.n α + t < n * Gd.n α := by
            have := Nat.mul_le_mul_right (Gd.n α) (show i + 1 ≤ n from hlt)
            rw [Nat.add_mul, Nat.one_mul] at this
            omega
          have hmod : (i * Gd.n α + t) % Gd.n α = t := by
            rw [Nat.add_comm, Nat.add_mul_mod_self_right, Nat.mod_eq_of_lt htn]
          unfold madeCells
          simp [hlt2, hzl, hmod, htn]
        · rw [if_neg htn, List.getElem?_eq_none (by omega)]
      rw [this]
      exact hz0 _
  · cases ht

/-- '[]T{x}': one element in a block of its own -/
theorem run_bs {t e n b : Nat} {x : Operand} {v : Value} {cs : List Value} {z : Value} (ht : sliceTy P t = some (e, n, b)) (hz : zeroTy P e = some z) (hzn : z.cells.size = n) (hpos : 0 < n) (hsm : n ≤ 16777216) (ho : o.op = .buildSlice t 1 #[(0, x)]) (hx : ev L x = some v)
    (hc : v.cells = cs.toArray) (hl : cs.length = n) {a : Act} (hf : Fits a N L) (w : World) : (execOp a.eval o).run P w = .ok (.value (.slice (some ⟨w.heap.size, 0, none⟩) 1 1)) (w.alloc (.cells cs.toArray e)) := by
  unfold sliceTy at ht
  split at ht
  · rename_i e' he
    simp only [Option.map_eq_some_iff, Prod.mk.injEq] at ht
    obtain ⟨i, hi, rfl, hsz, hby⟩ := ht
    unfold zeroTy at hz
    rw [hi] at hz
    simp only [Option.bind_some] at hz
    have hfill : Instr.fill (fun i' => some (i' * i.size, i.size)) ((Array.range (1 * i.size)).map (z.cells[· % z.cells.size]!)) [(0, v)] = some cs.toArray := by
      have hvs : v.cells.size = i.size := by rw [hc, hsz]; simpa using hl
      simp only [Instr.fill, hc]
      rw [if_neg (by simp [hl, hsz])]
      congr 1
      apply Array.ext_getElem?
      intro q
      rw [← Array.foldl_toList]
      have key : ∀ (l : List Value) (p : Nat) (acc : Array Value), ((l.zipIdx p).foldl (fun (c : Array Value) x => c.setIfInBounds (0 * i.size + x.2) x.1) acc)[q]? = if p ≤ q ∧ q < p + l.length ∧ q < acc.size then l[q - p]? else acc[q]? := by
        intro l
        induction l with
        | nil =>
          intro p acc
          simp only [List.zipIdx_nil, List.foldl_nil, List.length_nil]
          rw [if_neg (by omega)]
        | cons u l ih =>
          intro p acc
          simp only [List.zipIdx_cons, List.foldl_cons]
          rw [ih]
          simp only [Nat.zero_mul, Nat.zero_add, Array.size_setIfInBounds, List.length_cons]
          by_cases h1 : p + 1 ≤ q ∧ q < p + 1 + l.length ∧ q < acc.size
          · rw [if_pos h1, if_pos (by omega)]
            have : q - p = (q - (p + 1)) + 1 := by omega
            rw [this, List.getElem?_cons_succ]
          · rw [if_neg h1]
            by_cases h2 : p = q
            · subst h2
              by_cases h3 : p < acc.size
              · rw [if_pos (by omega)]
                simp [h3]
              · rw [if_neg (by omega)]
                rw [Array.getElem?_eq_none (by simp; omega), Array.getElem?_eq_none (by omega)]
            · rw [Array.getElem?_setIfInBounds_ne h2, if_neg (by omega)]
      have hzip : cs.toArray.zipIdx.toList = cs.zipIdx 0 := by simp
      rw [hzip, key]
      simp only [Nat.zero_le, Nat.zero_add, true_and, Nat.sub_zero, Array.size_map, Array.size_range, Nat.one_mul, hsz, hl]
      by_cases hq : q < n
      · rw [if_pos ⟨hq, hq⟩]; simp
      · rw [if_neg (by omega), Array.getElem?_eq_none (by simp; omega), Array.getElem?_eq_none (by simp; omega)]
    have hb := run_buildSlice (P := P) w t e' 1 #[(0, v)] cs.toArray i z he hi hz (by rw [hsz]; omega) (by rw [hsz]; omega) hfill
    unfold execOp
    rw [ho]
    simp only [List.map_toArray, List.map_cons, List.map_nil, hf.ev hx]
    rw [Sem.run_bind, hb]
    rfl
  · cases ht

theorem D_bs {t e n b : Nat} {x : Operand} {v : Value} {cs : List Value} {z : Value} (ht : sliceTy P t = some (e, n, b)) (hz : zeroTy P e = some z) (hzn : z.cells.size = n) (hpos : 0 < n) (hsm : n ≤ 16777216) (ho : o.op = .buildSlice t 1 #[(0, x)]) (hx : ev L x = some v) (hd : o.dst = some d) (hN : Nat.blt d N = true)
    (hc : v.cells = cs.toArray) (hl : cs.length = n) (k : ∀ g, D N w0 (bx g cs :: H) ((d, .slice (some ⟨g, 0, none⟩) 1 1) :: L) K) : D N w0 H L (fun a w => o.wp P a w K Q) :=
  D_gen hd hN (fun _ w hf hs => ⟨.slice (some ⟨w.heap.size, 0, none⟩) 1 1, w.alloc (.cells cs.toArray e), run_bs ht hz hzn hpos hsm ho hx hc hl hf w, fun a' hf' => k _ a' _ hf' (bx_new hs rfl)⟩)

/-- a list of one flat element -/
theorem D_bsl {α : Type} [Fl α] [Tid α] {t b : Nat} {x : Operand} {y : α} {z : Value} (ht : sliceTy P t = some (Tid.id α, 1, b)) (hz : zeroTy P (Tid.id α) = some z) (hzn : z.cells.size = 1) (ho : o.op = .buildSlice t 1 #[(0, x)]) (hx : ev L x = some (Fl.enc y)) (hd : o.dst = some d) (hN : Nat.blt d N = true)
    (k : ∀ v, D N w0 (ov [v] [y] :: H) ((d, v) :: L) K) : D N w0 H L (fun a w => o.wp P a w K Q) := by
  have hone : (Fl.enc y).oneCell' = true := Fl.one y
  have hcells : (Fl.enc y).cells = [Fl.enc y].toArray := by
    generalize Fl.enc y = u at hone
    cases u <;> first | rfl | cases hone
  refine D_gen hd hN (fun _ w hf hs => ⟨.slice (some ⟨w.heap.size, 0, none⟩) 1 1, w.alloc (.cells [Fl.enc y].toArray (Tid.id α)), run_bs ht hz hzn (by omega) (by omega) ho hx hcells rfl hf w, fun a' hf' => k _ a' _ hf'
    (hs.push (fp := [w.heap.size]) (Ex.alloc w _) (c := ov [.slice (some ⟨w.heap.size, 0, none⟩) 1 1] [y]) ?_ (by simp) (fun g hg => by simp only [List.mem_singleton] at hg; subst hg; simp))⟩)
  exact owF_mk (l := [y]) (cap := 1) (heap_alloc_new w _) (by simp) (by simp [maxLen]) (by simp) (fun i u hu => by
    cases i with
    | zero => simp only [List.getElem?_cons_zero, Option.some.injEq] at hu; subst hu; rfl
    | succ i => simp at hu)

/-- '[]T{}' -/
theorem D_bs0 {α : Type} [Gd α] [Tid α] {t n b : Nat} (ht : sliceTy P t = some (Tid.id α, n, b)) (ho : o.op = .buildSlice t 0 #[]) (hd : o.dst = some d) (hN : Nat.blt d N = true)
    (k : ∀ v, D N w0 (ov [v] ([] : List α) :: H) ((d, v) :: L) K) : D N w0 H L (fun a w => o.wp P a w K Q) := by
  unfold sliceTy at ht
  split at ht
  · rename_i e' he
    simp only [Option.map_eq_some_iff, Prod.mk.injEq] at ht
    obtain ⟨i, hi, e1, hsz, hby⟩ := ht
    subst e1
    refine D_gen hd hN (fun a w hf hs => ⟨.slice (some ⟨w.heap.size, 0, none⟩) 0 0, w.alloc (.cells #[] (Tid.id α)), ?_, fun a' hf' => k _ a' _ hf'
      (hs.push (fp := [w.heap.size]) (Ex.alloc w _) (c := ov [.slice (some ⟨w.heap.size, 0, none⟩) 0 0] ([] : List α)) ?_ (by simp) (fun g hg => by simp only [List.mem_singleton] at hg; subst hg; simp))⟩)
    · unfold execOp
      rw [ho]
      simp [Instr.buildSlice, run_underlying he, sizeOf, typeInfo, hi, Instr.fill, newRow, Array.range_zero']
    · exact .inr ⟨w.heap.size, 0, #[], [], rfl, heap_alloc_new w _, by simp, by simp [maxLen], by simp, by simp, rfl, fun i x f hx => by simp at hx⟩
  · cases ht

/-- what append leaves of an owned list, cell by cell -/
theorem ow_row {α : Type} [Gd α] [Tid α] {w : World} {v : Value} {l : List α} {fp : List Nat} {base : Nat} (h : Gd.ow w [v] l fp) (hb : ∀ g ∈ fp, base ≤ g) :
    ∃ xs fps, w.ownsRow base (Tid.id α) (Gd.n α) v l.length xs ∧ fps.length = l.length ∧ (∀ (i : Nat) (x : α) (f : List Nat), l[i]? = some x → fps[i]? = some f → Gd.ow w ((xs.drop (i * Gd.n α)).take (Gd.n α)) x f) ∧
      ((v.ownBlock = none ∧ fp = [] ∧ fps = []) ∨ ∃ g, v.ownBlock = some g ∧ fp = g :: fps.flatten) := by
  rcases h with ⟨h1, h2, h3⟩ | ⟨g, cap, cur, fps, h1, h2, h3, h4, h5, h6, h7, h8⟩
  · simp only [List.cons.injEq, and_true] at h1
    subst h1; subst h2; subst h3
    exact ⟨[], [], ⟨by simp, .inl ⟨rfl, rfl⟩⟩, rfl, fun i x f hx => by simp at hx, .inl ⟨rfl, rfl, rfl⟩⟩
  · simp only [List.cons.injEq, and_true] at h1
    subst h1; subst h6
    have hle : l.length * Gd.n α ≤ cur.toList.length := by
      simp only [Array.length_toList, h5]
      exact Nat.mul_le_mul_right _ h3
    refine ⟨cur.toList.take (l.length * Gd.n α), fps, ⟨by rw [List.length_take]; omega, .inr ⟨g, cap, cur, rfl, hb g (by simp), h2, h3, h4, h5, rfl⟩⟩, h7, fun i x f hx hf => ?_, .inr ⟨g, rfl, rfl⟩⟩
    have hlt := lt_of_some hx
    have e : ((cur.toList.take (l.length * Gd.n α)).drop (i * Gd.n α)).take (Gd.n α) = (cur.toList.drop (i * Gd.n α)).take (Gd.n α) := by
      apply List.ext_getElem?
      intro t
      rw [slice_get, slice_get]
      by_cases ht : t < Gd.n α
      · rw [if_pos ht, if_pos ht, List.getElem?_take]
        have := Nat.mul_le_mul_right (Gd.n α) (show i + 1 ≤ l.length from hlt)
        rw [Nat.add_mul, Nat.one_mul] at this
        rw [if_pos (by omega)]
      · rw [if_neg ht, if_neg ht]
    rw [e]
    exact h8 i x f hx hf

theorem row_ow {α : Type} [Gd α] [Tid α] {w : World} {v : Value} {l : List α} {xs : List Value} {fps : List (List Nat)} {base : Nat} (h : w.ownsRow base (Tid.id α) (Gd.n α) v l.length xs) (h7 : fps.length = l.length)
    (h8 : ∀ (i : Nat) (x : α) (f : List Nat), l[i]? = some x → fps[i]? = some f → Gd.ow w ((xs.drop (i * Gd.n α)).take (Gd.n α)) x f) :
    ∃ fp, Gd.ow w [v] l fp ∧ ((v.ownBlock = none ∧ fp = [] ∧ l = []) ∨ ∃ g, v.ownBlock = some g ∧ fp = g :: fps.flatten ∧ base ≤ g ∧ g < w.heap.size) := by
  obtain ⟨hl, h⟩ := h
  rcases h with ⟨rfl, h0⟩ | ⟨g, cap, cur, rfl, hg, h2, h3, h4, h5, h6⟩
  · have : l = [] := List.eq_nil_of_length_eq_zero h0
    subst this
    exact ⟨[], .inl ⟨rfl, rfl, rfl⟩, .inl ⟨rfl, rfl, rfl⟩⟩
  · refine ⟨g :: fps.flatten, .inr ⟨g, cap, cur, fps, rfl, h2, h3, h4, h5, rfl, h7, fun i x f hx hf => ?_⟩, .inr ⟨g, rfl, rfl, hg, lt_of_heap h2⟩⟩
    have := h8 i x f hx hf
    have hlt := lt_of_some hx
    have e : ((cur.toList.take (l.length * Gd.n α)).drop (i * Gd.n α)).take (Gd.n α) = (cur.toList.drop (i * Gd.n α)).take (Gd.n α) := by
      apply List.ext_getElem?
      intro t
      rw [slice_get, slice_get]
      by_cases ht : t < Gd.n α
      · rw [if_pos ht, if_pos ht, List.getElem?_take]
        have := Nat.mul_le_mul_right (Gd.n α) (show i + 1 ≤ l.length from hlt)
        rw [Nat.add_mul, Nat.one_mul] at this
        rw [if_pos (by omega)]
      · rw [if_neg ht, if_neg ht]
    rw [← e, h6]
    exact this

/-- an element is appended -/
theorem D_ap {α : Type} [Gd α] [Tid α] {t n b g2 c : Nat} {s x : Operand} {v z : Value} {l : List α} {y : α} {yc : List Value} (ht : sliceTy P t = some (Tid.id α, n, b)) (hz : zeroTy P (Tid.id α) = some z) (hzn : z.cells.size = n) (hpos : 0 < n) (hnα : Gd.n α = n)
    (ho : o.op = .call ⟨.builtin .append, #[s, x], #[t, t]⟩) (hsv : ev L s = some v) (hx : ev L x = some (.slice (some ⟨g2, 0, none⟩) 1 c)) (hd : o.dst = some d) (hN : Nat.blt d N = true)
    (hlen : (l.length + 1) * b ≤ 140737488355328) (hmax : l.length + 1 ≤ 9223372036854775807)
    (k : ∀ v', D N w0 (ov [v'] (l ++ [y]) :: H) ((d, v') :: L) K) : D N w0 (ov [v] l :: ov yc y :: bx g2 yc :: H) L (fun a w => o.wp P a w K Q) := by
  subst hnα
  unfold sliceTy at ht
  split at ht
  · rename_i e' he
    simp only [Option.map_eq_some_iff, Prod.mk.injEq] at ht
    obtain ⟨i, hi, e1, hsz, hby⟩ := ht
    subst e1
    unfold zeroTy at hz
    rw [hi] at hz
    simp only [Option.bind_some] at hz
    refine D_gen hd hN (fun a w hf hs => ?_)
    have hs3 : St w0 (ov [v] l :: ov yc y :: H) w := (hs.perm (front_perm _ 2)).tail
    obtain ⟨f1, f2, hok0, hoky, hnd, hb0, close⟩ := hs3.open2
    have hnd' := hnd
    rw [List.nodup_append] at hnd'
    obtain ⟨nd1, nd2, dis⟩ := hnd'
    have hyl := cells_len hoky
    have hy1 := cells_one hoky
    obtain ⟨xs, fps, hown, h7, h8, hrow⟩ := ow_row (base := w0.heap.size) hok0 (fun g hg => (hb0 g (List.mem_append_left _ hg)).1)
    obtain ⟨v', w', hrun, hown', hgrow, _, hblk⟩ := run_append_own_at (P := P) w w0.heap.size t o.type (Tid.id α) i z (Gd.n α) b he hi hz hsz hby hzn hpos v l.length xs hown ⟨g2, 0, none⟩ 1 c yc (by rw [hyl]; omega)
      (fun j u hu => by rw [add_none, Nat.zero_add]; exact bx_cell (k := 2) rfl hu w hs) hy1 (by simp only [maxLen]; omega) hlen hs.bel.size
    have hxl : xs.length = l.length * Gd.n α := hown.1
    have hfr : ∀ g ∈ f1, some g = v.ownBlock ∨ g ∈ fps.flatten := fun g hg => by
      rcases hrow with ⟨_, e, _⟩ | ⟨g0, e0, e⟩
      · rw [e] at hg; cases hg
      · rw [e] at hg
        rcases List.mem_cons.1 hg with h | h
        · exact .inl (by rw [h, e0])
        · exact .inr h
    have hin : ∀ g ∈ fps.flatten, g ∈ f1 ∧ some g ≠ v.ownBlock := fun g hg => by
      rcases hrow with ⟨_, _, e⟩ | ⟨g0, e0, e⟩
      · rw [e] at hg; simp at hg
      · refine ⟨by rw [e]; simp [hg], fun h => ?_⟩
        rw [e0] at h
        simp only [Option.some.injEq] at h
        rw [e, ← h] at nd1
        exact (List.nodup_cons.1 nd1).1 hg
    have hnf2 : ∀ g ∈ f2, some g ≠ v.ownBlock := fun g hg h => by
      rcases hrow with ⟨e0, _⟩ | ⟨g0, e0, e⟩
      · rw [e0] at h; cases h
      · rw [e0] at h
        simp only [Option.some.injEq] at h
        exact dis g0 (by rw [e]; simp) g (h ▸ hg) h.symm
    refine ⟨v', w', ?_, fun a' hf' => k v' a' w' hf' ?_⟩
    · unfold execOp
      rw [ho]
      simp [resolve, invoke, builtin, hf.ev hsv, hf.ev hx, hrun]
    · have hown2 : w'.ownsRow w0.heap.size (Tid.id α) (Gd.n α) v' (l ++ [y]).length (xs ++ yc) := by simpa using hown'
      have hcl : ∀ (i : Nat) (x : α) (f : List Nat), (l ++ [y])[i]? = some x → (fps ++ [f2])[i]? = some f → Gd.ow w' (((xs ++ yc).drop (i * Gd.n α)).take (Gd.n α)) x f := fun i q f hq hf => by
        have hilt := lt_of_some hq
        simp only [List.length_append, List.length_singleton] at hilt
        by_cases hi : i < l.length
        · rw [List.getElem?_append_left hi] at hq
          rw [List.getElem?_append_left (by omega)] at hf
          have e : ((xs ++ yc).drop (i * Gd.n α)).take (Gd.n α) = (xs.drop (i * Gd.n α)).take (Gd.n α) := by
            apply List.ext_getElem?
            intro t
            rw [slice_get, slice_get]
            by_cases ht : t < Gd.n α
            · rw [if_pos ht, if_pos ht]
              have := Nat.mul_le_mul_right (Gd.n α) (show i + 1 ≤ l.length from hi)
              rw [Nat.add_mul, Nat.one_mul] at this
              rw [List.getElem?_append_left (by omega)]
            · rw [if_neg ht, if_neg ht]
          rw [e]
          refine Gd.ow_loc (h8 i q f hq hf) (fun g hg => ?_)
          have hm := hin g (mem_of_idx hf hg)
          exact hgrow.block g (hb0 g (List.mem_append_left _ hm.1)).2 hm.2
        · have hil : i = l.length := by omega
          subst hil
          rw [List.getElem?_append_right (by omega)] at hq
          rw [List.getElem?_append_right (by omega), h7] at hf
          simp only [Nat.sub_self, List.getElem?_cons_zero, Option.some.injEq] at hq hf
          subst hq; subst hf
          have e : ((xs ++ yc).drop (l.length * Gd.n α)).take (Gd.n α) = yc := by
            rw [← hxl, List.drop_left, ← hyl, List.take_length]
          rw [e]
          exact Gd.ow_loc hoky (fun g hg => hgrow.block g (hb0 g (List.mem_append_right _ hg)).2 (hnf2 g hg))
      obtain ⟨fp, hok, hfp⟩ := row_ow (α := α) (fps := fps ++ [f2]) hown2 (by simp [h7]) hcl
      rcases hfp with ⟨_, _, e⟩ | ⟨g, e0, e, hbg, hgl⟩
      · simp at e
      · refine close w' (ov [v'] (l ++ [y])) fp ⟨hgrow.os, hgrow.tape, hgrow.output, hgrow.size, fun q hq hnq => hgrow.block q hq (fun e2 => ?_)⟩ hok ?_ ?_
        · rcases hrow with ⟨e3, _⟩ | ⟨g0, e3, e4⟩
          · rw [e3] at e2; cases e2
          · rw [e3] at e2
            simp only [Option.some.injEq] at e2
            exact hnq (by rw [e4, e2]; simp)
        · rw [e, List.nodup_cons]
          simp only [List.flatten_append, List.flatten_cons, List.flatten_nil, List.append_nil]
          refine ⟨fun hm => ?_, ?_⟩
          · rcases hblk with hb | hb
            · rw [e0] at hb
              rcases List.mem_append.1 hm with hm | hm
              · exact (hin g hm).2 hb
              · exact hnf2 g hm hb
            · rw [e0] at hb
              simp only [Option.some.injEq] at hb
              have : g < w.heap.size := by
                rcases List.mem_append.1 hm with hm | hm
                · exact (hb0 g (List.mem_append_left _ (hin g hm).1)).2
                · exact (hb0 g (List.mem_append_right _ hm)).2
              omega
          · rw [List.nodup_append]
            refine ⟨?_, nd2, fun a ha b hb e2 => dis a (hin a ha).1 b hb e2⟩
            rcases hrow with ⟨_, _, e3⟩ | ⟨g0, _, e3⟩
            · rw [e3]; simp
            · rw [e3] at nd1; exact (List.nodup_cons.1 nd1).2
        · intro q hq
          rw [e] at hq
          simp only [List.flatten_append, List.flatten_cons, List.flatten_nil, List.append_nil] at hq
          rcases List.mem_cons.1 hq with h | h
          · subst h
            refine ⟨?_, hgl⟩
            rcases hblk with hb | hb
            · rw [e0] at hb
              rcases hrow with ⟨e3, _⟩ | ⟨g0, e3, e4⟩
              · rw [e3] at hb; cases hb
              · rw [e3] at hb
                simp only [Option.some.injEq] at hb
                exact .inl (by rw [e4, hb]; simp)
            · rw [e0] at hb
              simp only [Option.some.injEq] at hb
              exact .inr (by omega)
          · have hm : q ∈ f1 ++ f2 := by
              rcases List.mem_append.1 h with h | h
              · exact List.mem_append_left _ (hin q h).1
              · exact List.mem_append_right _ h
            exact ⟨.inl hm, Nat.lt_of_lt_of_le (hb0 q hm).2 hgrow.size⟩
  · cases ht
end
end Go.Sy
