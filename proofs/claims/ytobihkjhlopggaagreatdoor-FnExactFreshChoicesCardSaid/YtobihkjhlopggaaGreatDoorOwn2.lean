/-
  Owned lists of whatever elements: made, an element replaced, an element appended, a list appended.
  Conditions: none.
-/
import Derived.Test.YtobihkjhlopggaaGreatDoorSym
import Derived.Great.BuildSlice
import Derived.Test.YtobihkjhlopggaaGreatDoorData
import Derived.Laws.Tables
import Derived.Laws.Small
import Derived.Laws.Shifts
import Derived.Laws.Entries
import Derived.Laws.Strings
namespace Go.Sy
open Go Go.RowKit
theorem slice_get (cur : List Value) (i n t : Nat) : ((cur.drop (i * n)).take n)[t]? = if t < n then cur[i * n + t]? else none := by
 rw [List.getElem?_take, List.getElem?_drop]
theorem splice_get (cur yc : List Value) (p q : Nat) (hp : p + yc.length ≤ cur.length) :
  (cur.take p ++ yc ++ cur.drop (p + yc.length))[q]? = if q < p then cur[q]? else if q < p + yc.length then yc[q - p]? else cur[q]? := by
 have hm : min p cur.length = p := by omega
 by_cases h1 : q < p
 ·rw [if_pos h1, List.append_assoc, List.getElem?_append_left (by simp; omega), List.getElem?_take, if_pos h1]
 ·rw [if_neg h1]
  by_cases h2 : q < p + yc.length
  ·rw [if_pos h2, List.append_assoc, List.getElem?_append_right (by simp; omega), List.getElem?_append_left (by simp [hm]; omega)];simp [hm]
  ·rw [if_neg h2, List.getElem?_append_right (by simp [hm]; omega), List.getElem?_drop];simp only [List.length_append, List.length_take, hm]
   congr 1
   omega
theorem block_other {i j n t : Nat} (hne : i ≠ j) (ht : t < n) : i * n + t < j * n ∨ j * n + n ≤ i * n + t := by
 rcases Nat.lt_or_gt_of_ne hne with h | h
 ·left
  have := Nat.mul_le_mul_right n (show i + 1 ≤ j from h);rw [Nat.add_mul, Nat.one_mul] at this;omega
 ·right
  have := Nat.mul_le_mul_right n (show j + 1 ≤ i from h);rw [Nat.add_mul, Nat.one_mul] at this;omega
theorem sub_mem_flatten {l : List (List Nat)} {j : Nat} {f : List Nat} {g : Nat} (h : g ∈ (l.set j f).flatten) : g ∈ l.flatten ∨ g ∈ f := by
 obtain ⟨q, hq, hg⟩ := List.mem_flatten.1 h
 rcases List.mem_or_eq_of_mem_set hq with h | h
 ·exact .inl (List.mem_flatten.2 ⟨q, h, hg⟩)
 ·exact .inr (h ▸ hg)
theorem nodup_flatten_set : ∀ {l : List (List Nat)} {j : Nat} {f : List Nat}, l.flatten.Nodup → f.Nodup → (∀ g ∈ f, g ∉ l.flatten) → (l.set j f).flatten.Nodup
 | [], _, _, _, _, _ => by simp
 | x :: l, 0, f, h, hf, hd => by
  simp only [List.set_cons_zero, List.flatten_cons] at *;rw [List.nodup_append] at *;refine ⟨hf, h.2.1, fun a ha b hb e => ?_⟩;subst e;exact hd a ha (List.mem_append_right _ hb)
 | x :: l, j + 1, f, h, hf, hd => by
  simp only [List.set_cons_succ, List.flatten_cons] at *;rw [List.nodup_append] at *;refine ⟨h.1, nodup_flatten_set h.2.1 hf (fun g hg hm => hd g hg (List.mem_append_right _ hm)), fun a ha b hb e => ?_⟩;subst e
  rcases sub_mem_flatten hb with hb | hb
  ·exact h.2.2 a ha a hb rfl
  ·exact hd a hb (List.mem_append_left _ ha)
theorem cells_len {α : Type} [Gd α] {w : World} {cs : List Value} {x : α} {f : List Nat} (h : Gd.ow w cs x f) : cs.length = Gd.n α := Gd.rd_len (Gd.ow_rd h)
theorem cells_one {α : Type} [Gd α] {w : World} {cs : List Value} {x : α} {f : List Nat} (h : Gd.ow w cs x f) : ∀ u ∈ cs, u.oneCell' = true := Gd.rd_one (Gd.ow_rd h)
section
variable {P : Program} {N : Nat} {w0 : World} {H : List Chunk} {L : Fm} {ops : Array Oper} {Q : Exit → Act → World → Prop} {o : Oper} {rest : List Oper} {d : Nat} {K : Act → World → Prop}
theorem St.open2 {w : World} {c1 c2 : Chunk} (h : St w0 (c1 :: c2 :: H) w) :
  ∃ f1 f2, c1.ok w f1 ∧ c2.ok w f2 ∧ (f1 ++ f2).Nodup ∧ (∀ g ∈ f1 ++ f2, w0.heap.size ≤ g ∧ g < w.heap.size) ∧
   ∀ (w' : World) (c : Chunk) (fp : List Nat), Kb f1 w w' → c.ok w' fp → fp.Nodup → (∀ g ∈ fp, (g ∈ f1 ++ f2 ∨ w.heap.size ≤ g) ∧ g < w'.heap.size) → St w0 (c :: H) w' := by
 obtain ⟨F, ⟨f1, F', e1, h1, f2, F2, e2, h2, hH⟩, hn, hb⟩ := h.own;subst e2; subst e1;rw [← List.append_assoc] at hn hb;have hn' := hn;rw [List.nodup_append] at hn';obtain ⟨n12, n3, dis⟩ := hn';refine ⟨f1, f2, h1, h2, n12, fun g hg => hb g (List.mem_append_left _ hg), fun w' c fp kb hok hnf hbf => ?_⟩;have hnot : ∀ g ∈ F2, g ∉ f1 := fun g hg hf => dis g (List.mem_append_left _ hf) g hg rfl
 refine ⟨⟨kb.os.trans h.bel.os, kb.tape.trans h.bel.tape, kb.output.trans h.bel.output, Nat.le_trans h.bel.size kb.size, fun g hg => ?_⟩,
  fp ++ F2, ⟨fp, F2, rfl, hok, hH.loc (fun g hg => kb.block g (hb g (List.mem_append_right _ hg)).2 (hnot g hg))⟩, ?_, ?_⟩
 ·rw [kb.block g (Nat.lt_of_lt_of_le hg h.bel.size) (fun hf => by have := (hb g (by simp [hf])).1; omega)];exact h.bel.block g hg
 ·rw [List.nodup_append];refine ⟨hnf, n3, fun a ha b hb2 e => ?_⟩;subst e
  rcases (hbf a ha).1 with hf | hf
  ·exact dis a hf a hb2 rfl
  ·have := (hb a (List.mem_append_right _ hb2)).2; omega
 ·intro g hg
  rcases List.mem_append.1 hg with hg | hg
  ·refine ⟨?_, (hbf g hg).2⟩
   rcases (hbf g hg).1 with hf | hf
   ·exact (hb g (List.mem_append_left _ hf)).1
   ·exact Nat.le_trans h.bel.size hf
  ·exact ⟨(hb g (List.mem_append_right _ hg)).1, Nat.lt_of_lt_of_le (hb g (List.mem_append_right _ hg)).2 kb.size⟩
theorem St.two {w w' : World} {c1 c2 c : Chunk} (h : St w0 (c1 :: c2 :: H) w)
  (hc : ∀ f1 f2, c1.ok w f1 → c2.ok w f2 → (f1 ++ f2).Nodup → (∀ g ∈ f1 ++ f2, g < w.heap.size) → ∃ fp, Kb f1 w w' ∧ c.ok w' fp ∧ fp.Nodup ∧ ∀ g ∈ fp, (g ∈ f1 ++ f2 ∨ w.heap.size ≤ g) ∧ g < w'.heap.size) : St w0 (c :: H) w' := by
 obtain ⟨f1, f2, h1, h2, hn, hb, close⟩ := h.open2;obtain ⟨fp, kb, hok, hnf, hbf⟩ := hc f1 f2 h1 h2 hn (fun g hg => (hb g hg).2);exact close w' c fp kb hok hnf hbf
def star (c1 c2 : Chunk) : Chunk where
 ok w fp := ∃ f1 f2, fp = f1 ++ f2 ∧ c1.ok w f1 ∧ c2.ok w f2
 loc := fun w w' fp ⟨f1, f2, e, h1, h2⟩ hs => by
  subst e;exact ⟨f1, f2, rfl, c1.loc _ _ _ h1 (fun g hg => hs g (by simp [hg])), c2.loc _ _ _ h2 (fun g hg => hs g (by simp [hg]))⟩
theorem St.star {w : World} {c1 c2 : Chunk} (h : St w0 (c1 :: c2 :: H) w) : St w0 (Sy.star c1 c2 :: H) w :=
 h.two (fun f1 f2 h1 h2 hn hb => ⟨f1 ++ f2, Kb.of_ex (Ex.refl w), ⟨f1, f2, rfl, h1, h2⟩, hn, fun g hg => ⟨.inl hg, hb g hg⟩⟩)
theorem St.split {w : World} {c1 c2 : Chunk} (h : St w0 (Sy.star c1 c2 :: H) w) : St w0 (c1 :: c2 :: H) w := by
 obtain ⟨F, ⟨fp, F', e, ⟨f1, f2, e2, h1, h2⟩, hH⟩, hn, hb⟩ := h.own;subst e2; subst e;exact ⟨h.bel, f1 ++ (f2 ++ F'), ⟨f1, f2 ++ F', rfl, h1, f2, F', rfl, h2, hH⟩, by rw [← List.append_assoc]; exact hn, fun g hg => hb g (by rw [List.append_assoc]; exact hg)⟩
theorem St.conv {w : World} {c c' : Chunk} (h : St w0 (c :: H) w) (hc : ∀ fp, c.ok w fp → ∃ fp', c'.ok w fp' ∧ List.Perm fp fp') : St w0 (c' :: H) w := by
 obtain ⟨fp, hok, hn, hb, put⟩ := h.set (k := 0) rfl;obtain ⟨fp', hok', hp⟩ := hc fp hok;exact put w c' fp' (Kb.of_ex (Ex.refl w)) hok' (hp.nodup_iff.1 hn) (fun g hg => ⟨.inl (hp.mem_iff.2 hg), (hb g (hp.mem_iff.2 hg)).2⟩)
theorem D_unpair {α β : Type} [Gd α] [Gd β] {c : Chunk} {c1 c2 : List Value} {x : α} {y : β} (e : c = ov (c1 ++ c2) (x, y)) (hl : c1.length = Gd.n α) (k : D N w0 (ov c1 x :: ov c2 y :: H) L K) : D N w0 (c :: H) L K := by
 subst e;intro a w hf h;refine k a w hf (St.split (St.conv (c' := star (ov c1 x) (ov c2 y)) h ?_));rintro fp ⟨d1, d2, f1, f2, e1, e2, h1, h2⟩;have hl1 : d1.length = c1.length := by rw [hl]; exact cells_len h1
 obtain ⟨r1, r2⟩ := List.append_inj e1.symm hl1;subst r1; subst r2; subst e2;exact ⟨f1 ++ f2, ⟨f1, f2, rfl, h1, h2⟩, List.Perm.refl _⟩
theorem D_fi (y : Int) (k : D N w0 (ov [.int .i64 y] y :: H) L K) : D N w0 H L K := D_flat y k
theorem D_fbool (y : Bool) (k : D N w0 (ov [.bool y] y :: H) L K) : D N w0 H L K := D_flat y k
theorem D_fs (y : ByteArray) (k : D N w0 (ov [.string y] y :: H) L K) : D N w0 H L K := D_flat y k
theorem onil : ∀ u ∈ ([] : List Value), u.oneCell' = true := fun _ h => by cases h
theorem ocons {v : Value} {l : List Value} (h : v.oneCell' = true) (hl : ∀ u ∈ l, u.oneCell' = true) : ∀ u ∈ v :: l, u.oneCell' = true := fun u hu => by
 rcases List.mem_cons.1 hu with e | hu
 ·rw [e]; exact h
 ·exact hl u hu
theorem one_rd {α : Type} [Gd α] [Tid α] {w : World} {v : Value} {l : List α} (h : Gd.rd w [v] l) : v.oneCell' = true := Gd.rd_one h v (by simp)
theorem one_own {α : Type} [Gd α] [Tid α] {w : World} {k : Nat} {v : Value} {l : List α} (hs : St w0 H w) (hk : H[k]? = some (ov [v] l)) : v.oneCell' = true := one_rd (rO hs hk)
theorem cells_of_one {v : Value} (h : v.oneCell' = true) : v.cells = #[v] := by cases v <;> first | rfl | cases h
theorem rd_cell {α : Type} [Gd α] [Tid α] {w : World} {es : List Value} {l : List α} (h : Gd.rd w es l) : ∃ u, es = [u] := by
 obtain ⟨a, cap, e, _⟩ := h;exact ⟨_, e⟩
theorem not_t {b : Bool} (h : (!b) = true) : b = false := by simpa using h
theorem not_f {b : Bool} (h : (!b) = false) : b = true := by simpa using h
theorem D_eq {α : Type} [Gd α] {cs : List Value} {x x' : α} (i : Nat) (hk : H[i]? = some (ov cs x)) (e : x = x') (k : D N w0 (H.set i (ov cs x')) L K) : D N w0 H L K := by
 subst e;have : H.set i (ov cs x) = H := by
  apply List.ext_getElem?
  intro j;rw [List.getElem?_set]
  split
  ·rename_i h;subst h
   split
   ·rw [hk]
   ·rename_i h; rw [List.getElem?_eq_none (by omega)]
  ·rfl
 rw [this] at k;exact k
theorem D_fa' {t j off q i : Nat} {x : Operand} {p : Addr} (hf' : fieldOff P t j = some off) (ho : o.op = .fieldAddr t x j) (hx : ev L x = some (.pointer (some (p.add i)))) (hq : i + off = q) : RunV P N w0 H L o (.pointer (some (p.add q))) := by
 have h := D_fa (N := N) (w0 := w0) (H := H) hf' ho hx;rw [add_add, hq] at h;exact h
theorem soG {α : Type} [Gd α] [Tid α] {t n : Nat} {x y : Operand} {v yv : Value} {l : List α} {j : Nat} {z : α} {yc : List Value} (hnα : Gd.n α = n) (hz : sizeTy P t = some n) (ho : o.op = .store t x y) (hx : ev L x = some (.pointer (some (elemA v (j * n))))) (hy : ev L y = some yv) (hyc : yv.cells = yc.toArray) (hd : o.dst = none)
  (hj : j < l.length) (r : D N w0 (ov [v] (l.set j z) :: H) L K) : D N w0 (ov [v] l :: ov yc z :: H) L (fun a w => o.wp P a w K Q) := by
 subst hnα;refine D_gen0 hd (fun a w hf hs => ?_);have hv : ∃ g cap, v = .slice (some ⟨g, 0, none⟩) l.length cap := by
  obtain ⟨fp, hok, _⟩ := hs.at (k := 0) rfl
  rcases hok with ⟨_, h2, _⟩ | ⟨g, cap, cur, fps, h1, _⟩
  ·rw [h2] at hj; simp at hj
  ·simp only [List.cons.injEq, and_true] at h1; exact ⟨g, cap, h1⟩
 obtain ⟨g, cap, rfl⟩ := hv;obtain ⟨_, hokz, _⟩ := hs.at (k := 1) rfl;have hyl : yc.length = Gd.n α := cells_len hokz;have hy1 : ∀ u ∈ yc, u.oneCell' = true := cells_one hokz;obtain ⟨fp0, hok0, _⟩ := hs.at (k := 0) rfl
 rcases hok0 with ⟨h1, _⟩ | ⟨g', cap', cur, fps, h1, h2, h3, h4, h5, h6, h7, h8⟩
 ·simp at h1
 ·simp only [List.cons.injEq, and_true, Value.slice.injEq, Option.some.injEq, Addr.mk.injEq] at h1;obtain ⟨e1, _, e2⟩ := h1;subst e1; subst e2;have hcur : cur.toList.toArray = cur := by simp
  have hroom : j * Gd.n α + yc.length ≤ cur.toList.length := by
   rw [hyl];simp only [Array.length_toList, h5];have := Nat.mul_le_mul_right (Gd.n α) (show j + 1 ≤ cap by omega);rw [Nat.add_mul, Nat.one_mul] at this;exact this
  obtain ⟨w', hr, hh', kb, hsz⟩ := storeCells_bx (P := P) (g := g) (i := j * Gd.n α) (cur := cur.toList) (vs := yc) (t := Tid.id α) (w := w) (by rw [hcur]; exact h2) hroom hy1;refine ⟨w', ?_, fun a' hf' => r a' w' hf' (hs.two ?_)⟩
  ·have hadr : elemA (.slice (some ⟨g, 0, none⟩) l.length cap) (j * Gd.n α) = ⟨g, j * Gd.n α, none⟩ := by simp [elemA, add_none]
   have hxe := hf.ev hx;rw [hadr] at hxe;unfold sizeTy at hz;simp only [Option.map_eq_some_iff] at hz;obtain ⟨ti, hi, hsz2⟩ := hz;unfold execOp;rw [ho];simp [Instr.storeAt, Instr.sureAddr, storeVar, hxe, hf.ev hy, sizeOf, typeInfo, hi, hsz2, hyc, hyl, hr]
  ·intro f1 f2 ok1 ok2 hnd hlt
   rcases ok1 with ⟨e, _⟩ | ⟨g1, cap1, cur1, fps1, k1, k2, k3, k4, k5, k6, k7, k8⟩
   ·simp at e
   ·simp only [List.cons.injEq, and_true, Value.slice.injEq, Option.some.injEq, Addr.mk.injEq] at k1;obtain ⟨e1, _, e2⟩ := k1;subst e1; subst e2;rw [h2] at k2;simp only [Option.some.injEq, Obj.cells.injEq, true_and, and_true] at k2;subst k2;subst k6;have hnd' := hnd;rw [List.nodup_append] at hnd';obtain ⟨nd1, nd2, dis⟩ := hnd';have hg1 : g ∉ fps1.flatten := (List.nodup_cons.1 nd1).1;have hg2 : g ∉ f2 := fun hm => dis g (by simp) g hm rfl
    have hsame : ∀ q, q < w.heap.size → q ≠ g → w'.heap[q]? = w.heap[q]? := fun q hq hne => kb.block q hq (by simpa using hne)
    refine ⟨g :: (fps1.set j f2).flatten, ⟨kb.os, kb.tape, kb.output, kb.size, fun q hq hnq => hsame q hq (fun e => hnq (by simp [e]))⟩, ?_, ?_, ?_⟩
    ·refine .inr ⟨g, cap, (cur.toList.take (j * Gd.n α) ++ yc ++ cur.toList.drop (j * Gd.n α + yc.length)).toArray, fps1.set j f2, by simp, hh', by simpa using k3, k4, ?_, rfl, by simpa using k7, ?_⟩
     ·simp only [List.size_toArray, List.length_append, List.length_take, List.length_drop];simp only [Array.length_toList] at hroom ⊢;omega
     ·intro i q f hq hfi;have hcellsAt : ∀ i', ((cur.toList.take (j * Gd.n α) ++ yc ++ cur.toList.drop (j * Gd.n α + yc.length)).toArray.toList.drop (i' * Gd.n α)).take (Gd.n α) = if i' = j then yc else (cur.toList.drop (i' * Gd.n α)).take (Gd.n α) := fun i' => by
       apply List.ext_getElem?
       intro t;simp only [List.toList_toArray];rw [slice_get]
       by_cases ht : t < Gd.n α
       ·rw [if_pos ht, splice_get _ _ _ _ hroom]
        by_cases hij : i' = j
        ·subst hij;rw [if_neg (by omega), if_pos (by omega), if_pos rfl]
         congr 1
         omega
        ·rw [if_neg hij, slice_get, if_pos ht]
         rcases block_other hij ht with hb | hb
         ·rw [if_pos hb]
         ·rw [if_neg (by omega), if_neg (by omega)]
       ·rw [if_neg ht]
        by_cases hij : i' = j
        ·rw [if_pos hij, List.getElem?_eq_none (by omega)]
        ·rw [if_neg hij, slice_get, if_neg ht]
      rw [hcellsAt i]
      by_cases hij : i = j
      ·subst hij;rw [if_pos rfl];rw [List.getElem?_set_self (by omega)] at hq;rw [List.getElem?_set_self (by rw [k7]; omega)] at hfi;simp only [Option.some.injEq] at hq hfi;subst hq; subst hfi;exact Gd.ow_loc ok2 (fun g' hg' => hsame g' (hlt g' (by simp [hg'])) (fun e => hg2 (e ▸ hg')))
      ·rw [if_neg hij];rw [List.getElem?_set_ne (fun e => hij e.symm)] at hq hfi;have := k8 i q f hq hfi;refine Gd.ow_loc this (fun g' hg' => hsame g' (hlt g' ?_) (fun e => hg1 (e ▸ mem_of_idx hfi hg')));simp [mem_of_idx hfi hg']
    ·rw [List.nodup_cons];refine ⟨fun hm => ?_, nodup_flatten_set (List.nodup_cons.1 nd1).2 nd2 (fun q hq hm => dis q (by simp [hm]) q hq rfl)⟩
     rcases sub_mem_flatten hm with hm | hm
     ·exact hg1 hm
     ·exact hg2 hm
    ·intro q hq
     rcases List.mem_cons.1 hq with e | hq
     ·subst e; exact ⟨.inl (by simp), by rw [hsz]; exact hlt q (by simp)⟩
     ·rcases sub_mem_flatten hq with hq | hq
      ·exact ⟨.inl (by simp [hq]), by rw [hsz]; exact hlt q (by simp [hq])⟩
      ·exact ⟨.inl (by simp [hq]), by rw [hsz]; exact hlt q (by simp [hq])⟩
theorem flatten_nils (n : Nat) : (List.replicate n ([] : List Nat)).flatten = [] := by
 rw [List.flatten_eq_nil_iff]; intro l hl; exact List.eq_of_mem_replicate hl
theorem D_mkG {α : Type} [Gd α] [Tid α] {t m : Nat} {x : Operand} {b : Nat} {n : Nat} {z : Value} {z0 : α} {zc : List Value} (ht : sliceTy P t = some (Tid.id α, m, b)) (hz : zeroTy P (Tid.id α) = some z) (hm : Gd.n α = m) (ho : o.op = .makeSlice t x x) (hx : ev L x = some (.int .i64 (n : Int))) (hd : o.dst = some d) (hN : Nat.blt d N = true)
  (hzc : z.cells = zc.toArray) (hz0 : ∀ w, Gd.ow w zc z0 [])
  (hb : b * n ≤ 281474976710656) (hn : n ≤ 9223372036854775807) (k : ∀ v, D N w0 (ov [v] (List.replicate n z0) :: H) ((d, v) :: L) K) : D N w0 H L (fun a w => o.wp P a w K Q) := by
 subst hm;unfold sliceTy at ht
 split at ht
 ·rename_i e he;simp only [Option.map_eq_some_iff, Prod.mk.injEq] at ht;obtain ⟨i, hi, rfl, hsz, hby⟩ := ht;unfold zeroTy at hz;rw [hi] at hz;simp only [Option.bind_some] at hz;refine D_gen hd hN (fun a w hf hs => ?_);have hbz : (i.bytes : Int) * (n : Int) ≤ 281474976710656 := by
   rw [hby, ← Int.natCast_mul]; omega
  have hr := run_make (P := P) w t (Tid.id α) i z he hi hz .i64 .i64 n n (by omega) (Int.le_refl _) hbz (by omega);simp only [Int.toNat_natCast, hsz] at hr;have hzl : zc.length = Gd.n α := cells_len (hz0 w);refine ⟨_, w.alloc (.cells (madeCells z.cells (n * Gd.n α)) (Tid.id α)), ?_, fun a' hf' => k _ a' _ hf' (hs.push (fp := [w.heap.size]) (Ex.alloc w _) (c := ov [.slice (some ⟨w.heap.size, 0, none⟩) n n] (List.replicate n z0)) ?_ (by simp) (fun g hg => by simp only [List.mem_singleton] at hg; subst hg; simp))⟩
  ·unfold execOp;rw [ho];simp only [hf.ev hx];rw [Sem.run_bind, hr];rfl
  ·refine .inr ⟨w.heap.size, n, madeCells z.cells (n * Gd.n α), List.replicate n [], by simp, heap_alloc_new w _, by simp, by simp only [maxLen]; omega, by simp [madeCells], by rw [flatten_nils], by simp, fun i q f hq hf => ?_⟩;have e1 := List.eq_of_mem_replicate (List.mem_of_getElem? hq);have e2 := List.eq_of_mem_replicate (List.mem_of_getElem? hf);subst e1; subst e2;have hlt := lS hq;simp only [List.length_replicate] at hlt;have : ((madeCells z.cells (n * Gd.n α)).toList.drop (i * Gd.n α)).take (Gd.n α) = zc := by
    apply List.ext_getElem?
    intro t;rw [slice_get]
    by_cases htn : t < Gd.n α
    ·rw [if_pos htn, hzc];have hlt2 : i * Gd.n α + t < n * Gd.n α := by
      have := Nat.mul_le_mul_right (Gd.n α) (show i + 1 ≤ n from hlt);rw [Nat.add_mul, Nat.one_mul] at this;omega
     have hmod : (i * Gd.n α + t) % Gd.n α = t := by
      rw [Nat.add_comm, Nat.add_mul_mod_self_right, Nat.mod_eq_of_lt htn]
     unfold madeCells;simp [hlt2, hzl, hmod, htn]
    ·rw [if_neg htn, List.getElem?_eq_none (by omega)]
   rw [this];exact hz0 _
 ·cases ht
theorem run_bs {t e n b : Nat} {x : Operand} {v : Value} {cs : List Value} {z : Value} (ht : sliceTy P t = some (e, n, b)) (hz : zeroTy P e = some z) (hzn : z.cells.size = n) (hpos : 0 < n) (hsm : n ≤ 16777216) (ho : o.op = .buildSlice t 1 #[(0, x)]) (hx : ev L x = some v)
  (hc : v.cells = cs.toArray) (hl : cs.length = n) {a : Act} (hf : Fits a N L) (w : World) : (execOp a.eval o).run P w = .ok (.value (.slice (some ⟨w.heap.size, 0, none⟩) 1 1)) (w.alloc (.cells cs.toArray e)) := by
 unfold sliceTy at ht
 split at ht
 ·rename_i e' he;simp only [Option.map_eq_some_iff, Prod.mk.injEq] at ht;obtain ⟨i, hi, rfl, hsz, hby⟩ := ht;unfold zeroTy at hz;rw [hi] at hz;simp only [Option.bind_some] at hz;have hfill : Instr.fill (fun i' => some (i' * i.size, i.size)) ((Array.range (1 * i.size)).map (z.cells[· % z.cells.size]!)) [(0, v)] = some cs.toArray := by
   have hvs : v.cells.size = i.size := by rw [hc, hsz]; simpa using hl
   simp only [Instr.fill, hc];rw [if_neg (by simp [hl, hsz])]
   congr 1
   apply Array.ext_getElem?
   intro q;rw [← Array.foldl_toList];have key : ∀ (l : List Value) (p : Nat) (acc : Array Value), ((l.zipIdx p).foldl (fun (c : Array Value) x => c.setIfInBounds (0 * i.size + x.2) x.1) acc)[q]? = if p ≤ q ∧ q < p + l.length ∧ q < acc.size then l[q - p]? else acc[q]? := by
    intro l
    induction l with
    | nil =>
     intro p acc;simp only [List.zipIdx_nil, List.foldl_nil, List.length_nil];rw [if_neg (by omega)]
    | cons u l ih =>
     intro p acc;simp only [List.zipIdx_cons, List.foldl_cons];rw [ih];simp only [Nat.zero_mul, Nat.zero_add, Array.size_setIfInBounds, List.length_cons]
     by_cases h1 : p + 1 ≤ q ∧ q < p + 1 + l.length ∧ q < acc.size
     ·rw [if_pos h1, if_pos (by omega)];have : q - p = (q - (p + 1)) + 1 := by omega
      rw [this, List.getElem?_cons_succ]
     ·rw [if_neg h1]
      by_cases h2 : p = q
      ·subst h2
       by_cases h3 : p < acc.size
       ·rw [if_pos (by omega)];simp [h3]
       ·rw [if_neg (by omega)];rw [Array.getElem?_eq_none (by simp; omega), Array.getElem?_eq_none (by omega)]
      ·rw [Array.getElem?_setIfInBounds_ne h2, if_neg (by omega)]
   have hzip : cs.toArray.zipIdx.toList = cs.zipIdx 0 := by simp
   rw [hzip, key];simp only [Nat.zero_le, Nat.zero_add, true_and, Nat.sub_zero, Array.size_map, Array.size_range, Nat.one_mul, hsz, hl]
   by_cases hq : q < n
   ·rw [if_pos ⟨hq, hq⟩]; simp
   ·rw [if_neg (by omega), Array.getElem?_eq_none (by simp; omega), Array.getElem?_eq_none (by simp; omega)]
  have hb := run_buildSlice (P := P) w t e' 1 #[(0, v)] cs.toArray i z he hi hz (by rw [hsz]; omega) (by rw [hsz]; omega) hfill;unfold execOp;rw [ho];simp only [List.map_toArray, List.map_cons, List.map_nil, hf.ev hx];rw [Sem.run_bind, hb];rfl
 ·cases ht
theorem D_bs {t e n b : Nat} {x : Operand} {v : Value} {cs : List Value} {z : Value} (ht : sliceTy P t = some (e, n, b)) (hz : zeroTy P e = some z) (hzn : z.cells.size = n) (hpos : 0 < n) (hsm : n ≤ 16777216) (ho : o.op = .buildSlice t 1 #[(0, x)]) (hx : ev L x = some v) (hd : o.dst = some d) (hN : Nat.blt d N = true)
  (hc : v.cells = cs.toArray) (hl : cs.length = n) (k : ∀ g, D N w0 (bx g cs :: H) ((d, .slice (some ⟨g, 0, none⟩) 1 1) :: L) K) : D N w0 H L (fun a w => o.wp P a w K Q) :=
 D_gen hd hN (fun _ w hf hs => ⟨.slice (some ⟨w.heap.size, 0, none⟩) 1 1, w.alloc (.cells cs.toArray e), run_bs ht hz hzn hpos hsm ho hx hc hl hf w, fun a' hf' => k _ a' _ hf' (bx_new hs rfl)⟩)
theorem D_bs1 {α : Type} [Gd α] [Tid α] {t n b : Nat} {x : Operand} {v z : Value} {y : α} {yc : List Value} (ht : sliceTy P t = some (Tid.id α, n, b)) (hz : zeroTy P (Tid.id α) = some z) (hzn : z.cells.size = n) (hpos : 0 < n) (hsm : n ≤ 16777216) (hnα : Gd.n α = n)
  (ho : o.op = .buildSlice t 1 #[(0, x)]) (hx : ev L x = some v) (hd : o.dst = some d) (hN : Nat.blt d N = true) (hc : v.cells = yc.toArray)
  (k : ∀ v', D N w0 (ov [v'] [y] :: H) ((d, v') :: L) K) : D N w0 (ov yc y :: H) L (fun a w => o.wp P a w K Q) := by
 subst hnα;refine D_gen hd hN (fun a w hf hs => ?_);obtain ⟨fp, hok, hnd, hb, put⟩ := hs.set (k := 0) rfl;have hyl : yc.length = Gd.n α := cells_len hok;refine ⟨.slice (some ⟨w.heap.size, 0, none⟩) 1 1, w.alloc (.cells yc.toArray (Tid.id α)), run_bs ht hz hzn hpos hsm ho hx hc hyl hf w, fun a' hf' => k _ a' _ hf' (put _ (ov [.slice (some ⟨w.heap.size, 0, none⟩) 1 1] [y]) (w.heap.size :: fp) (Kb.of_ex (Ex.alloc w _)) ?_ ?_ ?_)⟩
 ·refine .inr ⟨w.heap.size, 1, yc.toArray, [fp], rfl, heap_alloc_new w _, by simp, by simp [maxLen], by simp [hyl], by simp, rfl, fun i u f hu hfp => ?_⟩
  cases i with
  | zero =>
   simp only [List.getElem?_cons_zero, Option.some.injEq] at hu hfp;subst hu; subst hfp;have e : (yc.toArray.toList.drop (0 * Gd.n α)).take (Gd.n α) = yc := by
    rw [Nat.zero_mul];simp only [List.drop_zero];rw [← hyl];exact List.take_length
   rw [e];exact Gd.ow_loc hok (fun g hg => (Ex.alloc w _).block g (hb g hg).2)
  | succ i => simp at hu
 ·rw [List.nodup_cons];exact ⟨fun h => by have := (hb _ h).2; omega, hnd⟩
 ·intro g hg;have hsz : (w.alloc (.cells yc.toArray (Tid.id α))).heap.size = w.heap.size + 1 := by simp
  rcases List.mem_cons.1 hg with e | h
  ·subst e; exact ⟨.inr (Nat.le_refl _), by omega⟩
  ·exact ⟨.inl h, by have := (hb g h).2; omega⟩
theorem D_bs0 {α : Type} [Gd α] [Tid α] {t n b : Nat} (ht : sliceTy P t = some (Tid.id α, n, b)) (ho : o.op = .buildSlice t 0 #[]) (hd : o.dst = some d) (hN : Nat.blt d N = true)
  (k : ∀ v, D N w0 (ov [v] ([] : List α) :: H) ((d, v) :: L) K) : D N w0 H L (fun a w => o.wp P a w K Q) := by
 unfold sliceTy at ht
 split at ht
 ·rename_i e' he;simp only [Option.map_eq_some_iff, Prod.mk.injEq] at ht;obtain ⟨i, hi, e1, hsz, hby⟩ := ht;subst e1;refine D_gen hd hN (fun a w hf hs => ⟨.slice (some ⟨w.heap.size, 0, none⟩) 0 0, w.alloc (.cells #[] (Tid.id α)), ?_, fun a' hf' => k _ a' _ hf'
   (hs.push (fp := [w.heap.size]) (Ex.alloc w _) (c := ov [.slice (some ⟨w.heap.size, 0, none⟩) 0 0] ([] : List α)) ?_ (by simp) (fun g hg => by simp only [List.mem_singleton] at hg; subst hg; simp))⟩)
  ·unfold execOp;rw [ho];simp [Instr.buildSlice, run_underlying he, sizeOf, typeInfo, hi, Instr.fill, newRow, Array.range_zero']
  ·exact .inr ⟨w.heap.size, 0, #[], [], rfl, heap_alloc_new w _, by simp, by simp [maxLen], by simp, by simp, rfl, fun i x f hx => by simp at hx⟩
 ·cases ht
theorem ow_row {α : Type} [Gd α] [Tid α] {w : World} {v : Value} {l : List α} {fp : List Nat} {base : Nat} (h : Gd.ow w [v] l fp) (hb : ∀ g ∈ fp, base ≤ g) :
  ∃ xs fps, w.ownsRow base (Tid.id α) (Gd.n α) v l.length xs ∧ fps.length = l.length ∧ (∀ (i : Nat) (x : α) (f : List Nat), l[i]? = some x → fps[i]? = some f → Gd.ow w ((xs.drop (i * Gd.n α)).take (Gd.n α)) x f) ∧
   ((v.ownBlock = none ∧ fp = [] ∧ fps = []) ∨ ∃ g, v.ownBlock = some g ∧ fp = g :: fps.flatten) := by
 rcases h with ⟨h1, h2, h3⟩ | ⟨g, cap, cur, fps, h1, h2, h3, h4, h5, h6, h7, h8⟩
 ·simp only [List.cons.injEq, and_true] at h1;subst h1; subst h2; subst h3;exact ⟨[], [], ⟨by simp, .inl ⟨rfl, rfl⟩⟩, rfl, fun i x f hx => by simp at hx, .inl ⟨rfl, rfl, rfl⟩⟩
 ·simp only [List.cons.injEq, and_true] at h1;subst h1; subst h6;have hle : l.length * Gd.n α ≤ cur.toList.length := by
   simp only [Array.length_toList, h5];exact Nat.mul_le_mul_right _ h3
  refine ⟨cur.toList.take (l.length * Gd.n α), fps, ⟨by rw [List.length_take]; omega, .inr ⟨g, cap, cur, rfl, hb g (by simp), h2, h3, h4, h5, rfl⟩⟩, h7, fun i x f hx hf => ?_, .inr ⟨g, rfl, rfl⟩⟩;have hlt := lS hx;have e : ((cur.toList.take (l.length * Gd.n α)).drop (i * Gd.n α)).take (Gd.n α) = (cur.toList.drop (i * Gd.n α)).take (Gd.n α) := by
   apply List.ext_getElem?
   intro t;rw [slice_get, slice_get]
   by_cases ht : t < Gd.n α
   ·rw [if_pos ht, if_pos ht, List.getElem?_take];have := Nat.mul_le_mul_right (Gd.n α) (show i + 1 ≤ l.length from hlt);rw [Nat.add_mul, Nat.one_mul] at this;rw [if_pos (by omega)]
   ·rw [if_neg ht, if_neg ht]
  rw [e];exact h8 i x f hx hf
theorem row_ow {α : Type} [Gd α] [Tid α] {w : World} {v : Value} {l : List α} {xs : List Value} {fps : List (List Nat)} {base : Nat} (h : w.ownsRow base (Tid.id α) (Gd.n α) v l.length xs) (h7 : fps.length = l.length)
  (h8 : ∀ (i : Nat) (x : α) (f : List Nat), l[i]? = some x → fps[i]? = some f → Gd.ow w ((xs.drop (i * Gd.n α)).take (Gd.n α)) x f) :
  ∃ fp, Gd.ow w [v] l fp ∧ ((v.ownBlock = none ∧ fp = [] ∧ l = []) ∨ ∃ g, v.ownBlock = some g ∧ fp = g :: fps.flatten ∧ base ≤ g ∧ g < w.heap.size) := by
 obtain ⟨hl, h⟩ := h
 rcases h with ⟨rfl, h0⟩ | ⟨g, cap, cur, rfl, hg, h2, h3, h4, h5, h6⟩
 ·have : l = [] := List.eq_nil_of_length_eq_zero h0;subst this;exact ⟨[], .inl ⟨rfl, rfl, rfl⟩, .inl ⟨rfl, rfl, rfl⟩⟩
 ·refine ⟨g :: fps.flatten, .inr ⟨g, cap, cur, fps, rfl, h2, h3, h4, h5, rfl, h7, fun i x f hx hf => ?_⟩, .inr ⟨g, rfl, rfl, hg, lt_of_heap h2⟩⟩;have := h8 i x f hx hf;have hlt := lS hx;have e : ((cur.toList.take (l.length * Gd.n α)).drop (i * Gd.n α)).take (Gd.n α) = (cur.toList.drop (i * Gd.n α)).take (Gd.n α) := by
   apply List.ext_getElem?
   intro t;rw [slice_get, slice_get]
   by_cases ht : t < Gd.n α
   ·rw [if_pos ht, if_pos ht, List.getElem?_take];have := Nat.mul_le_mul_right (Gd.n α) (show i + 1 ≤ l.length from hlt);rw [Nat.add_mul, Nat.one_mul] at this;rw [if_pos (by omega)]
   ·rw [if_neg ht, if_neg ht]
  rw [← e, h6];exact this
theorem D_ap {α : Type} [Gd α] [Tid α] {t n b g2 c : Nat} {s x : Operand} {v z : Value} {l : List α} {y : α} {yc : List Value} (ht : sliceTy P t = some (Tid.id α, n, b)) (hz : zeroTy P (Tid.id α) = some z) (hzn : z.cells.size = n) (hpos : 0 < n) (hnα : Gd.n α = n)
  (ho : o.op = .call ⟨.builtin .append, #[s, x], #[t, t]⟩) (hsv : ev L s = some v) (hx : ev L x = some (.slice (some ⟨g2, 0, none⟩) 1 c)) (hd : o.dst = some d) (hN : Nat.blt d N = true)
  (hlen : (l.length + 1) * b ≤ 140737488355328) (hmax : l.length + 1 ≤ 9223372036854775807)
  (k : ∀ v', D N w0 (ov [v'] (l ++ [y]) :: H) ((d, v') :: L) K) : D N w0 (ov [v] l :: ov yc y :: bx g2 yc :: H) L (fun a w => o.wp P a w K Q) := by
 subst hnα;unfold sliceTy at ht
 split at ht
 ·rename_i e' he;simp only [Option.map_eq_some_iff, Prod.mk.injEq] at ht;obtain ⟨i, hi, e1, hsz, hby⟩ := ht;subst e1;unfold zeroTy at hz;rw [hi] at hz;simp only [Option.bind_some] at hz;refine D_gen hd hN (fun a w hf hs => ?_);have hs3 : St w0 (ov [v] l :: ov yc y :: H) w := (hs.perm (front_perm _ 2)).tail;obtain ⟨f1, f2, hok0, hoky, hnd, hb0, close⟩ := hs3.open2;have hnd' := hnd;rw [List.nodup_append] at hnd';obtain ⟨nd1, nd2, dis⟩ := hnd';have hyl := cells_len hoky;have hy1 := cells_one hoky;obtain ⟨xs, fps, hown, h7, h8, hrow⟩ := ow_row (base := w0.heap.size) hok0 (fun g hg => (hb0 g (List.mem_append_left _ hg)).1);obtain ⟨v', w', hrun, hown', hgrow, _, hblk⟩ := run_append_own_at (P := P) w w0.heap.size t o.type (Tid.id α) i z (Gd.n α) b he hi hz hsz hby hzn hpos v l.length xs hown ⟨g2, 0, none⟩ 1 c yc (by rw [hyl]; omega)
   (fun j u hu => by rw [add_none, Nat.zero_add]; exact bx_cell (k := 2) rfl hu w hs) hy1 (by simp only [maxLen]; omega) hlen hs.bel.size
  have hxl : xs.length = l.length * Gd.n α := hown.1;have hfr : ∀ g ∈ f1, some g = v.ownBlock ∨ g ∈ fps.flatten := fun g hg => by
   rcases hrow with ⟨_, e, _⟩ | ⟨g0, e0, e⟩
   ·rw [e] at hg; cases hg
   ·rw [e] at hg
    rcases List.mem_cons.1 hg with h | h
    ·exact .inl (by rw [h, e0])
    ·exact .inr h
  have hin : ∀ g ∈ fps.flatten, g ∈ f1 ∧ some g ≠ v.ownBlock := fun g hg => by
   rcases hrow with ⟨_, _, e⟩ | ⟨g0, e0, e⟩
   ·rw [e] at hg; simp at hg
   ·refine ⟨by rw [e]; simp [hg], fun h => ?_⟩;rw [e0] at h;simp only [Option.some.injEq] at h;rw [e, ← h] at nd1;exact (List.nodup_cons.1 nd1).1 hg
  have hnf2 : ∀ g ∈ f2, some g ≠ v.ownBlock := fun g hg h => by
   rcases hrow with ⟨e0, _⟩ | ⟨g0, e0, e⟩
   ·rw [e0] at h; cases h
   ·rw [e0] at h;simp only [Option.some.injEq] at h;exact dis g0 (by rw [e]; simp) g (h ▸ hg) h.symm
  refine ⟨v', w', ?_, fun a' hf' => k v' a' w' hf' ?_⟩
  ·unfold execOp;rw [ho];simp [resolve, invoke, builtin, hf.ev hsv, hf.ev hx, hrun]
  ·have hown2 : w'.ownsRow w0.heap.size (Tid.id α) (Gd.n α) v' (l ++ [y]).length (xs ++ yc) := by simpa using hown'
   have hcl : ∀ (i : Nat) (x : α) (f : List Nat), (l ++ [y])[i]? = some x → (fps ++ [f2])[i]? = some f → Gd.ow w' (((xs ++ yc).drop (i * Gd.n α)).take (Gd.n α)) x f := fun i q f hq hf => by
    have hilt := lS hq;simp only [List.length_append, List.length_singleton] at hilt
    by_cases hi : i < l.length
    ·rw [List.getElem?_append_left hi] at hq;rw [List.getElem?_append_left (by omega)] at hf;have e : ((xs ++ yc).drop (i * Gd.n α)).take (Gd.n α) = (xs.drop (i * Gd.n α)).take (Gd.n α) := by
      apply List.ext_getElem?
      intro t;rw [slice_get, slice_get]
      by_cases ht : t < Gd.n α
      ·rw [if_pos ht, if_pos ht];have := Nat.mul_le_mul_right (Gd.n α) (show i + 1 ≤ l.length from hi);rw [Nat.add_mul, Nat.one_mul] at this;rw [List.getElem?_append_left (by omega)]
      ·rw [if_neg ht, if_neg ht]
     rw [e];refine Gd.ow_loc (h8 i q f hq hf) (fun g hg => ?_);have hm := hin g (mem_of_idx hf hg);exact hgrow.block g (hb0 g (List.mem_append_left _ hm.1)).2 hm.2
    ·have hil : i = l.length := by omega
     subst hil;rw [List.getElem?_append_right (by omega)] at hq;rw [List.getElem?_append_right (by omega), h7] at hf;simp only [Nat.sub_self, List.getElem?_cons_zero, Option.some.injEq] at hq hf;subst hq; subst hf;have e : ((xs ++ yc).drop (l.length * Gd.n α)).take (Gd.n α) = yc := by
      rw [← hxl, List.drop_left, ← hyl, List.take_length]
     rw [e];exact Gd.ow_loc hoky (fun g hg => hgrow.block g (hb0 g (List.mem_append_right _ hg)).2 (hnf2 g hg))
   obtain ⟨fp, hok, hfp⟩ := row_ow (α := α) (fps := fps ++ [f2]) hown2 (by simp [h7]) hcl
   rcases hfp with ⟨_, _, e⟩ | ⟨g, e0, e, hbg, hgl⟩
   ·simp at e
   ·refine close w' (ov [v'] (l ++ [y])) fp ⟨hgrow.os, hgrow.tape, hgrow.output, hgrow.size, fun q hq hnq => hgrow.block q hq (fun e2 => ?_)⟩ hok ?_ ?_
    ·rcases hrow with ⟨e3, _⟩ | ⟨g0, e3, e4⟩
     ·rw [e3] at e2; cases e2
     ·rw [e3] at e2;simp only [Option.some.injEq] at e2;exact hnq (by rw [e4, e2]; simp)
    ·rw [e, List.nodup_cons];simp only [List.flatten_append, List.flatten_cons, List.flatten_nil, List.append_nil];refine ⟨fun hm => ?_, ?_⟩
     ·rcases hblk with hb | hb
      ·rw [e0] at hb
       rcases List.mem_append.1 hm with hm | hm
       ·exact (hin g hm).2 hb
       ·exact hnf2 g hm hb
      ·rw [e0] at hb;simp only [Option.some.injEq] at hb;have : g < w.heap.size := by
        rcases List.mem_append.1 hm with hm | hm
        ·exact (hb0 g (List.mem_append_left _ (hin g hm).1)).2
        ·exact (hb0 g (List.mem_append_right _ hm)).2
       omega
     ·rw [List.nodup_append];refine ⟨?_, nd2, fun a ha b hb e2 => dis a (hin a ha).1 b hb e2⟩
      rcases hrow with ⟨_, _, e3⟩ | ⟨g0, _, e3⟩
      ·rw [e3]; simp
      ·rw [e3] at nd1; exact (List.nodup_cons.1 nd1).2
    ·intro q hq;rw [e] at hq;simp only [List.flatten_append, List.flatten_cons, List.flatten_nil, List.append_nil] at hq
     rcases List.mem_cons.1 hq with h | h
     ·subst h;refine ⟨?_, hgl⟩
      rcases hblk with hb | hb
      ·rw [e0] at hb
       rcases hrow with ⟨e3, _⟩ | ⟨g0, e3, e4⟩
       ·rw [e3] at hb; cases hb
       ·rw [e3] at hb;simp only [Option.some.injEq] at hb;exact .inl (by rw [e4, hb]; simp)
      ·rw [e0] at hb;simp only [Option.some.injEq] at hb;exact .inr (by omega)
     ·have hm : q ∈ f1 ++ f2 := by
       rcases List.mem_append.1 h with h | h
       ·exact List.mem_append_left _ (hin q h).1
       ·exact List.mem_append_right _ h
      exact ⟨.inl hm, Nat.lt_of_lt_of_le (hb0 q hm).2 hgrow.size⟩
 ·cases ht
end
end Go.Sy
namespace Go.Sy
open Go Go.RowKit
def evp (L : Fm) : List (Nat × Operand) → Option (List (Nat × Value))
 | [] => some []
 | (i, x) :: ps => match ev L x, evp L ps with
  | some v, some vs => some ((i, v) :: vs)
  | _, _ => none
theorem evp_sound {a : Act} {N : Nat} {L : Fm} (h : Fits a N L) : ∀ {ps : List (Nat × Operand)} {vs : List (Nat × Value)}, evp L ps = some vs → ps.map (fun x => (x.1, a.eval x.2)) = vs
 | [], vs, he => by simpa [evp] using he
 | (i, x) :: ps, vs, he => by
  simp only [evp] at he
  split at he
  ·rename_i v ws h1 h2;simp only [Option.some.injEq] at he;subst he;simp [h.ev h1, evp_sound h h2]
  ·cases he
section
variable {P : Program} {N : Nat} {w0 : World} {H : List Chunk} {L : Fm} {ops : Array Oper} {Q : Exit → Act → World → Prop} {o : Oper} {rest : List Oper} {d : Nat} {K : Act → World → Prop}
theorem run_append_nil (w : World) (base : Nat) (t ty e : TypeId) (i : TypeInfo) (size : Nat) (ht : P.underlying t = some (.slice e)) (hi : P.info? e = some i)
  (v : Value) (n : Nat) (xs : List Value) (hown : w.ownsRow base e size v n xs) (c : Nat) : (Builtin.append_ #[t, t] ty #[v, .slice none 0 c]).run P w = .ok v w := by
 rcases hown.2 with ⟨rfl, rfl⟩ | ⟨g, cap, cur, rfl, _, _, hnc, _⟩
 ·simp [Builtin.append_, run_underlying ht, sizeOf, typeInfo, hi, Builtin.lenOf, Builtin.firstCells]
 ·simp [Builtin.append_, run_underlying ht, sizeOf, typeInfo, hi, Builtin.lenOf, Builtin.firstCells, hnc, storeCells]
theorem D_apl {α : Type} [Fl α] [Tid α] {t b : Nat} {s x : Operand} {v u z : Value} {l ys : List α} (ht : sliceTy P t = some (Tid.id α, 1, b)) (hz : zeroTy P (Tid.id α) = some z) (hzn : z.cells.size = 1)
  (ho : o.op = .call ⟨.builtin .append, #[s, x], #[t, t]⟩) (hsv : ev L s = some v) (hx : ev L x = some u) (hd : o.dst = some d) (hN : Nat.blt d N = true)
  (hr : ∀ w, St w0 (ov [v] l :: H) w → Gd.rd w [u] ys) (hlen : (l.length + ys.length) * b ≤ 140737488355328) (hmax : l.length + ys.length ≤ 9223372036854775807)
  (k : ∀ v', D N w0 (ov [v'] (l ++ ys) :: H) ((d, v') :: L) K) : D N w0 (ov [v] l :: H) L (fun a w => o.wp P a w K Q) := by
 unfold sliceTy at ht
 split at ht
 ·rename_i e' he;simp only [Option.map_eq_some_iff, Prod.mk.injEq] at ht;obtain ⟨i, hi, e1, hsz, hby⟩ := ht;subst e1;unfold zeroTy at hz;rw [hi] at hz;simp only [Option.bind_some] at hz;refine D_gen hd hN (fun a w hf hs => ?_);obtain ⟨A, cap, hu, hm, hel⟩ := hr w hs;simp only [List.cons.injEq, and_true] at hu;subst hu;obtain ⟨f1, hok0, nd1, hb0, close⟩ := hs.set (k := 0) rfl;obtain ⟨xs, fps, hown, h7, h8, hrow⟩ := ow_row (base := w0.heap.size) hok0 (fun g hg => (hb0 g hg).1)
  cases A with
  | none =>
   have hys : ys = [] := by
    cases ys with
    | nil => rfl
    | cons y ys =>
     obtain ⟨ad, es, e, _⟩ := hel 0 y rfl
     cases e
   subst hys;refine ⟨v, w, ?_, fun a' hf' => ?_⟩
   ·have := run_append_nil (P := P) w w0.heap.size t o.type (Tid.id α) i 1 he hi v l.length xs hown cap;unfold execOp;rw [ho];simp only [List.length_nil] at hx;simp [resolve, invoke, builtin, hf.ev hsv, hf.ev hx, this]
   ·have hk := k v;rw [List.append_nil] at hk;exact hk a' w hf' hs
  | some ad =>
   have hcells : ∀ (j : Nat) u, (ys.map Fl.enc)[j]? = some u → w.cell? (ad.add j) = some u := by
    intro j u hu;rw [List.getElem?_map] at hu;simp only [Option.map_eq_some_iff] at hu;obtain ⟨y, hy, rfl⟩ := hu;obtain ⟨ad', es, e, hc, hrd⟩ := hel j y hy;simp only [Option.some.injEq] at e;subst e;have hrd' : es = [Fl.enc y] := hrd;subst hrd';have := hc 0 (Fl.enc y) rfl;have e1 : j * Gd.n α + 0 = j := by show j * 1 + 0 = j; omega
    rw [e1] at this;exact this
   obtain ⟨v', w', hrun, hown', hgrow, _, hblk⟩ := run_append_own_at (P := P) w w0.heap.size t o.type (Tid.id α) i z 1 b he hi hz hsz hby hzn (by omega) v l.length xs hown ad ys.length cap (ys.map Fl.enc) (by simp)
    hcells (fun u hu => by
     obtain ⟨y, _, rfl⟩ := List.mem_map.1 hu;exact Fl.one y) (by simp only [maxLen]; omega) hlen hs.bel.size
   have hxl : xs.length = l.length := by
    have := hown.1;have h1 : Gd.n α = 1 := rfl;rw [h1] at this;omega
   refine ⟨v', w', ?_, fun a' hf' => k v' a' w' hf' ?_⟩
   ·unfold execOp;rw [ho];simp [resolve, invoke, builtin, hf.ev hsv, hf.ev hx, hrun]
   ·have hown2 : w'.ownsRow w0.heap.size (Tid.id α) (Gd.n α) v' (l ++ ys).length (xs ++ ys.map Fl.enc) := by
     show w'.ownsRow w0.heap.size (Tid.id α) 1 v' (l ++ ys).length (xs ++ ys.map Fl.enc);simpa using hown'
    have hcl : ∀ (i : Nat) (x : α) (f : List Nat), (l ++ ys)[i]? = some x → (List.replicate (l ++ ys).length ([] : List Nat))[i]? = some f → Gd.ow w' (((xs ++ ys.map Fl.enc).drop (i * Gd.n α)).take (Gd.n α)) x f := fun i q f hq hf => by
     have ef : f = [] := List.eq_of_mem_replicate (List.mem_of_getElem? hf);subst ef;refine ⟨?_, rfl⟩;show ((xs ++ ys.map Fl.enc).drop (i * 1)).take 1 = [Fl.enc q];rw [Nat.mul_one];have hget : (xs ++ ys.map Fl.enc)[i]? = some (Fl.enc q) := by
      by_cases hil : i < l.length
      ·rw [List.getElem?_append_left (by omega)];rw [List.getElem?_append_left hil] at hq;obtain ⟨f', hf'⟩ := sL (l := fps) (i := i) (by omega);obtain ⟨e1, _⟩ := h8 i q f' hq hf';have e1' : (xs.drop (i * 1)).take 1 = [Fl.enc q] := e1;have : ((xs.drop (i * 1)).take 1)[0]? = some (Fl.enc q) := by rw [e1']; rfl
       rw [List.getElem?_take, if_pos (by omega), List.getElem?_drop] at this;simpa using this
      ·rw [List.getElem?_append_right (by omega), hxl, List.getElem?_map];rw [List.getElem?_append_right (by omega)] at hq;rw [hq]; rfl
     have hlt := lS hget;rw [List.drop_eq_getElem_cons hlt];rw [List.getElem?_eq_getElem hlt] at hget;simp only [Option.some.injEq] at hget;rw [hget]; rfl
    obtain ⟨fp, hok, hfp⟩ := row_ow (α := α) (fps := List.replicate (l ++ ys).length []) hown2 (by simp) hcl;rw [flatten_nils] at hfp;have hkb : Kb f1 w w' := ⟨hgrow.os, hgrow.tape, hgrow.output, hgrow.size, fun q hq hnq => hgrow.block q hq (fun e2 => by
     rcases hrow with ⟨e3, _⟩ | ⟨g0, e3, e4⟩
     ·rw [e3] at e2; cases e2
     ·rw [e3] at e2;simp only [Option.some.injEq] at e2;exact hnq (by rw [e4, e2]; simp))⟩
    rcases hfp with ⟨_, e, _⟩ | ⟨g, e0, e, hbg, hgl⟩
    ·subst e;exact close w' (ov [v'] (l ++ ys)) [] hkb hok (by simp) (fun g hg => by cases hg)
    ·subst e;refine close w' (ov [v'] (l ++ ys)) [g] hkb hok (by simp) (fun q hq => ?_);simp only [List.mem_singleton] at hq;subst hq;refine ⟨?_, hgl⟩
     rcases hblk with hb | hb
     ·rw [e0] at hb
      rcases hrow with ⟨e3, _⟩ | ⟨g0, e3, e4⟩
      ·rw [e3] at hb; cases hb
      ·rw [e3] at hb;simp only [Option.some.injEq] at hb;exact .inl (by rw [e4, hb]; simp)
     ·rw [e0] at hb;simp only [Option.some.injEq] at hb;exact .inr (by omega)
 ·cases ht
theorem D_build {t : TypeId} {ps : List (Nat × Operand)} {vs : List (Nat × Value)} {cs : List Value} (hev : evp L ps = some vs) (hb : ∀ w, (Instr.build t vs.toArray).run P w = .ok (.agg cs.toArray) w) (ho : o.op = .build t ps.toArray) : RunV P N w0 H L o (.agg cs.toArray) := by
 intro a w hf _;unfold execOp;rw [ho];have hm : (ps.toArray.map fun (x : Nat × Operand) => (x.1, a.eval x.2)) = vs.toArray := by
  rw [List.map_toArray, evp_sound hf hev]
 simp only;rw [Sem.run_bind];have e2 : (ps.toArray.map fun (x : Nat × Operand) => match x with | (i, x) => (i, a.eval x)) = vs.toArray := hm;rw [e2, hb w];rfl
end
end Go.Sy
namespace Go.Sy
open Go Go.RowKit
def fronts {α : Type} : List α → List Nat → List α
 | l, [] => l
 | l, k :: ks => fronts (front l k) ks
theorem fronts_perm {α : Type} : ∀ (ks : List Nat) (l : List α), List.Perm l (fronts l ks)
 | [], l => List.Perm.refl l
 | k :: ks, l => (front_perm l k).trans (fronts_perm ks (front l k))
def pkl {α : Type} : List α → List Nat → List α
 | _, [] => []
 | l, i :: F => match l[i]? with
  | some x => x :: pkl l F
  | none => pkl l F
def pkO {α : Type} : List (Option α) → List Nat → List α
 | _, [] => []
 | m, i :: F => match m[i]? with
  | some (some x) => x :: pkO (m.set i none) F
  | _ => pkO m F
def nodupB : List Nat → Bool
 | [] => true
 | i :: F => F.all (fun j => !Nat.beq i j) && nodupB F
theorem fm_set {α : Type} : ∀ {m : List (Option α)} {i : Nat} {x : α}, m[i]? = some (some x) → List.Perm (m.filterMap id) (x :: (m.set i none).filterMap id)
 | [], _, _, h => by simp at h
 | y :: m, 0, x, h => by
  simp only [List.getElem?_cons_zero, Option.some.injEq] at h;subst h;exact List.Perm.refl _
 | y :: m, i + 1, x, h => by
  simp only [List.getElem?_cons_succ] at h;have ih := fm_set h
  cases y with
  | none => simpa using ih
  | some z => exact (List.Perm.cons z (by simpa using ih)).trans (List.Perm.swap _ _ _)
theorem pkO_perm {α : Type} : ∀ (F : List Nat) (m : List (Option α)), ∃ X, List.Perm (m.filterMap id) (pkO m F ++ X)
 | [], m => ⟨_, List.Perm.refl _⟩
 | i :: F, m => by
  unfold pkO
  split
  ·rename_i x hx;obtain ⟨X, hX⟩ := pkO_perm F (m.set i none);exact ⟨X, (fm_set hx).trans (hX.cons x)⟩
  ·exact pkO_perm F m
theorem pkl_pkO {α : Type} (l : List α) : ∀ (F : List Nat) (m : List (Option α)), nodupB F = true → (∀ i ∈ F, m[i]? = (l[i]?).map some) → pkl l F = pkO m F
 | [], _, _, _ => rfl
 | i :: F, m, hn, hm => by
  simp only [nodupB, Bool.and_eq_true, List.all_eq_true, Bool.not_eq_true'] at hn;unfold pkl pkO;rw [hm i (by simp)]
  cases hx : l[i]? with
  | none => exact pkl_pkO l F m hn.2 (fun j hj => hm j (by simp [hj]))
  | some x =>
   simp only [Option.map_some]
   congr 1
   refine pkl_pkO l F _ hn.2 (fun j hj => ?_);have hne : i ≠ j := Nat.ne_of_beq_eq_false (hn.1 j hj);rw [List.getElem?_set_ne hne];exact hm j (by simp [hj])
theorem pkl_perm {α : Type} (l : List α) (F : List Nat) (hn : nodupB F = true) : ∃ X, List.Perm l (pkl l F ++ X) := by
 obtain ⟨X, hX⟩ := pkO_perm F (l.map some);refine ⟨X, ?_⟩;rw [pkl_pkO l F (l.map some) hn (fun i _ => by simp)];have : (l.map some).filterMap id = l := by simp
 rwa [this] at hX
theorem flatten_out {fps : List (List Nat)} {i : Nat} {f : List Nat} : fps[i]? = some f → List.Perm fps.flatten (f ++ (fps.set i []).flatten) := by
 induction fps generalizing i with
 | nil => intro h; simp at h
 | cons x fps ih =>
  intro h
  cases i with
  | zero =>
   simp only [List.getElem?_cons_zero, Option.some.injEq] at h;subst h;simp
  | succ i =>
   simp only [List.getElem?_cons_succ] at h;simp only [List.flatten_cons, List.set_cons_succ];refine ((ih h).append_left x).trans ?_;rw [← List.append_assoc, ← List.append_assoc];exact List.Perm.append_right _ List.perm_append_comm
theorem flatten_in {fps : List (List Nat)} {i : Nat} {f : List Nat} (h : fps[i]? = some []) : List.Perm (fps.set i f).flatten (f ++ fps.flatten) := by
 have hlt := lS h;have h1 : (fps.set i f)[i]? = some f := by rw [List.getElem?_set_self hlt]
 have h2 := flatten_out h1;rw [List.set_set] at h2;have h3 : fps.set i [] = fps := by
  apply List.ext_getElem?
  intro j;rw [List.getElem?_set]
  split
  ·rename_i e; subst e; rw [h]
  ·rfl
 rw [h3] at h2;exact h2
section
variable {P : Program} {N : Nat} {w0 : World} {H : List Chunk} {L : Fm} {ops : Array Oper} {Q : Exit → Act → World → Prop} {o : Oper} {rest : List Oper} {d : Nat} {K : Act → World → Prop}
theorem St.drops {w : World} : ∀ (n : Nat) {H : List Chunk}, St w0 H w → St w0 (H.drop n) w
 | 0, _, h => h
 | n + 1, [], h => h
 | n + 1, c :: H, h => St.drops n h.tail
theorem St.fd {w : World} {H' : List Chunk} (ks : List Nat) (n : Nat) (h : St w0 H w) (e : (fronts H ks).drop n = H') : St w0 H' w := e ▸ (h.perm (fronts_perm ks H)).drops n
theorem St.pk {w : World} {H' : List Chunk} (F : List Nat) (h : St w0 H w) (hn : nodupB F = true) (e : pkl H F = H') : St w0 H' w := by
 obtain ⟨X, hX⟩ := pkl_perm H F hn;exact e ▸ (h.perm hX).dropEnd
theorem D_pk {H' : List Chunk} (F : List Nat) (hn : nodupB F = true) (e : pkl H F = H') (k : D N w0 H' L K) : D N w0 H L K := fun a w hf hs => k a w hf (hs.pk F hn e)
def opn {α : Type} : List α → Option (List α)
 | [] => some []
 | x :: l => match opn l with
  | some r => some (x :: r)
  | none => none
theorem opn_eq {α : Type} : ∀ {l r : List α}, opn l = some r → l = r
 | [], r, h => by simpa [opn] using h
 | x :: l, r, h => by
  simp only [opn] at h
  split at h
  ·rename_i r' h1;simp only [Option.some.injEq] at h;rw [opn_eq h1, h]
  ·cases h
def pko (H : List Chunk) (F : List Nat) : Option (List Chunk) := cond (nodupB F) (opn (pkl H F)) none
theorem pko_parts {H H' : List Chunk} {F : List Nat} (e : pko H F = some H') : nodupB F = true ∧ pkl H F = H' := by
 unfold pko at e
 cases h : nodupB F with
 | true => rw [h] at e; exact ⟨rfl, opn_eq e⟩
 | false => rw [h] at e; cases e
theorem D_pkO {H' : List Chunk} (F : List Nat) (e : pko H F = some H') (k : D N w0 H' L K) : D N w0 H L K := D_pk F (pko_parts e).1 (pko_parts e).2 k
theorem Dh (H' : List Chunk) (e : H = H') (k : D N w0 H' L K) : D N w0 H L K := e ▸ k
theorem D_fd {H' : List Chunk} (ks : List Nat) (n : Nat) (e : (fronts H ks).drop n = H') (k : D N w0 H' L K) : D N w0 H L K := fun a w hf hs => k a w hf (hs.fd ks n e)
def hl {α : Type} [Gd α] [Tid α] (v : Value) (l : List α) (i : Nat) (es : List Value) : Chunk where
 ok w fp := ∃ (g cap : Nat) (cur : Array Value) (fps : List (List Nat)), v = .slice (some ⟨g, 0, none⟩) l.length cap ∧ w.heap[g]? = some (.cells cur (Tid.id α) (0, 0)) ∧ l.length ≤ cap ∧ cap ≤ maxLen ∧ cur.size = cap * Gd.n α ∧
  fps.length = l.length ∧ fps[i]? = some [] ∧ fp = g :: fps.flatten ∧ (cur.toList.drop (i * Gd.n α)).take (Gd.n α) = es ∧
  ∀ (j : Nat) (x : α) (f : List Nat), j ≠ i → l[j]? = some x → fps[j]? = some f → Gd.ow w ((cur.toList.drop (j * Gd.n α)).take (Gd.n α)) x f
 loc := fun w w' fp ⟨g, cap, cur, fps, h1, h2, h3, h4, h5, h6, h7, h8, h9, h10⟩ hs => by
  subst h8;exact ⟨g, cap, cur, fps, h1, by rw [hs g (by simp)]; exact h2, h3, h4, h5, h6, h7, rfl, h9, fun j x f hj hx hf =>
   Gd.ow_loc (h10 j x f hj hx hf) (fun k hk => hs k (List.mem_cons_of_mem _ (mem_of_idx hf hk)))⟩
theorem D_take {α : Type} [Gd α] [Tid α] {v : Value} {l : List α} {i : Nat} {x : α} (hi : l[i]? = some x) (k : ∀ es, D N w0 (ov es x :: hl v l i es :: H) L K) : D N w0 (ov [v] l :: H) L K := by
 intro a w hf hs;obtain ⟨fp0, hok0, _⟩ := hs.at (k := 0) rfl
 rcases hok0 with ⟨_, e, _⟩ | ⟨g, cap, cur, fps, h1, h2, h3, h4, h5, h6, h7, h8⟩
 ·subst e; simp at hi
 ·simp only [List.cons.injEq, and_true] at h1;subst h1;refine k ((cur.toList.drop (i * Gd.n α)).take (Gd.n α)) a w hf (St.split (St.conv (c' := star _ _) hs ?_));intro fp hfp
  rcases hfp with ⟨e, _⟩ | ⟨g1, cap1, cur1, fps1, k1, k2, k3, k4, k5, k6, k7, k8⟩
  ·simp at e
  ·simp only [List.cons.injEq, and_true, Value.slice.injEq, Option.some.injEq, Addr.mk.injEq] at k1;obtain ⟨e1, _, e2⟩ := k1;subst e1; subst e2;rw [h2] at k2;simp only [Option.some.injEq, Obj.cells.injEq, true_and, and_true] at k2;subst k2;obtain ⟨f, hf2⟩ := sL (l := fps1) (i := i) (by rw [k7]; exact lS hi);refine ⟨f ++ (g :: (fps1.set i []).flatten), ⟨f, g :: (fps1.set i []).flatten, rfl, k8 i x f hi hf2, ?_⟩, ?_⟩
   ·refine ⟨g, cap, cur, fps1.set i [], rfl, h2, k3, k4, k5, by simpa using k7, by rw [List.getElem?_set_self (lS hf2)], rfl, rfl, fun j y f' hj hy hf' => ?_⟩;rw [List.getElem?_set_ne (fun e => hj e.symm)] at hf';exact k8 j y f' hy hf'
   ·subst k6;refine ((flatten_out hf2).cons g).trans ?_;exact (List.perm_middle (l₁ := f) (l₂ := (fps1.set i []).flatten) (a := g)).symm
theorem D_put {α : Type} [Gd α] [Tid α] {v : Value} {l : List α} {i : Nat} {x : α} {es : List Value} (k : D N w0 (ov [v] (l.set i x) :: H) L K) : D N w0 (ov es x :: hl v l i es :: H) L K := by
 intro a w hf hs;refine k a w hf (St.conv (c := star (ov es x) (hl v l i es)) hs.star ?_);rintro fp ⟨f, f2, rfl, h1, g, cap, cur, fps, k1, k2, k3, k4, k5, k6, k7, k8, k9, k10⟩;subst k8;refine ⟨g :: (fps.set i f).flatten, .inr ⟨g, cap, cur, fps.set i f, by simpa using k1, k2, by simpa using k3, k4, k5, rfl, by simpa using k6, fun j y f' hy hf' => ?_⟩, ?_⟩
 ·by_cases hj : j = i
  ·subst hj;have hlt : j < l.length := by have := lS hy; simpa using this
   rw [List.getElem?_set_self hlt] at hy;rw [List.getElem?_set_self (by rw [k6]; exact hlt)] at hf';simp only [Option.some.injEq] at hy hf';subst hy; subst hf';rw [k9]; exact h1
  ·rw [List.getElem?_set_ne (fun e => hj e.symm)] at hy hf';exact k10 j y f' hj hy hf'
 ·refine List.Perm.trans ?_ ((flatten_in (f := f) k7).symm.cons g);exact List.perm_middle
theorem hl_at {α : Type} [Gd α] [Tid α] {v : Value} {l : List α} {i k n : Nat} {es : List Value} {w : World} (hn : Gd.n α = n) (hs : St w0 H w) (hk : H[k]? = some (hl v l i es)) : AtE w (elemA v (i * n)) es := by
 subst hn;obtain ⟨fp, ⟨g, cap, cur, fps, h1, h2, h3, h4, h5, h6, h7, h8, h9, h10⟩, _⟩ := hs.at hk;subst h1;intro j u hu;rw [← h9, List.getElem?_take] at hu
 split at hu
 ·rw [List.getElem?_drop] at hu;simp only [elemA];rw [add_add, add_none, Nat.zero_add, cell_of_heap h2];simpa using hu
 ·cases hu
theorem D_ixh {α : Type} [Gd α] [Tid α] {t : TypeId} {e n b : Nat} {x i : Operand} {v : Value} {l : List α} {j : Nat} {es : List Value} {z : Int} (k : Nat) (ht : sliceTy P t = some (e, n, b)) (ho : o.op = .indexAddr t x i) (hx : ev L x = some v) (hi : ev L i = some (.int .i64 z))
  (hk : H[k]? = some (hl v l j es)) (hj : z = (j : Int)) : RunV P N w0 H L o (.pointer (some (elemA v (j * n)))) := by
 intro a w hf hs;obtain ⟨fp, ⟨g, cap, cur, fps, h1, h2, h3, h4, h5, h6, h7, h8, h9, h10⟩, _⟩ := hs.at hk;have hlt : j < l.length := by rw [← h6]; exact lS h7
 unfold execOp;rw [ho];simp only [hf.ev hx, hf.ev hi];rw [Sem.run_bind, run_ix ht h1 (by omega) (by omega)];subst hj;simp
theorem lh {α : Type} [Gd α] [Tid α] {t n f : Nat} {x : Operand} {v u : Value} {l : List α} {j : Nat} {es : List Value} (k : Nat) (hn : Gd.n α = n) (ht : oneTy P t = true) (ho : o.op = .load t x) (hx : ev L x = some (.pointer (some ((elemA v (j * n)).add f))))
  (hk : H[k]? = some (hl v l j es)) (hv : es[f]? = some u) : RunV P N w0 H L o u :=
 D_ld1 ht ho hx (fun w hs => hl_at hn hs hk f u hv)
theorem sh {α : Type} [Gd α] [Tid α] {t n f : Nat} {x y : Operand} {v u : Value} {l : List α} {j : Nat} {es : List Value} {p : Addr} (k : Nat) (hn : Gd.n α = n) (hz : sizeTy P t = some 1) (ho : o.op = .store t x y) (hx : ev L x = some (.pointer (some p))) (hp : p = (elemA v (j * n)).add f) (hy : ev L y = some u) (h1u : u.oneCell' = true) (hd : o.dst = none)
  (hk : H[k]? = some (hl v l j es)) (hf' : f < es.length) (r : D N w0 (H.set k (hl v l j (es.set f u))) L K) : D N w0 H L (fun a w => o.wp P a w K Q) := by
 subst hn;refine D_gen0 hd (fun a w hf hs => ?_);obtain ⟨fp, ⟨g, cap, cur, fps, h1, h2, h3, h4, h5, h6, h7, h8, h9, h10⟩, hnd, hb, put⟩ := hs.set hk;subst h1; subst h8;have hjl : j < l.length := by rw [← h6]; exact lS h7
 have hesl : es.length = Gd.n α := by
  rw [← h9, List.length_take, List.length_drop, Array.length_toList, h5];have := Nat.mul_le_mul_right (Gd.n α) (show j + 1 ≤ cap by omega);rw [Nat.add_mul, Nat.one_mul] at this;omega
 have hroom : j * Gd.n α + f + 1 ≤ cur.toList.length := by
  simp only [Array.length_toList, h5];have := Nat.mul_le_mul_right (Gd.n α) (show j + 1 ≤ cap by omega);rw [Nat.add_mul, Nat.one_mul] at this;omega
 have hcur : cur.toList.toArray = cur := by simp
 have hadr : p = ⟨g, j * Gd.n α + f, none⟩ := by rw [hp]; simp only [elemA]; rw [add_add, add_none, Nat.zero_add]
 obtain ⟨w', hr, hh', kb, hsz⟩ := storeCells_bx (P := P) (g := g) (i := j * Gd.n α + f) (cur := cur.toList) (vs := [u]) (t := Tid.id α) (w := w) (by rw [hcur]; exact h2) (by simpa using hroom) (by simpa using h1u);have hg1 : g ∉ fps.flatten := (List.nodup_cons.1 hnd).1;have hsame : ∀ q, q < w.heap.size → q ≠ g → w'.heap[q]? = w.heap[q]? := fun q hq hne => kb.block q hq (by simpa using hne)
 have hget : ∀ q, (cur.toList.take (j * Gd.n α + f) ++ [u] ++ cur.toList.drop (j * Gd.n α + f + [u].length))[q]? = if q = j * Gd.n α + f then some u else cur.toList[q]? := fun q => by
  rw [splice_get _ _ _ _ (by simpa using hroom)]
  by_cases e : q = j * Gd.n α + f
  ·subst e;rw [if_neg (by omega), if_pos (by simp), if_pos rfl];simp
  ·rw [if_neg e]
   by_cases hq : q < j * Gd.n α + f
   ·rw [if_pos hq]
   ·rw [if_neg hq, if_neg (by simp; omega)]
 refine ⟨w', ?_, fun a' hf2 => r a' w' hf2 (put w' (hl (.slice (some ⟨g, 0, none⟩) l.length cap) l j (es.set f u)) (g :: fps.flatten) ⟨kb.os, kb.tape, kb.output, kb.size, fun q hq hnq => hsame q hq (fun e => hnq (by simp [e]))⟩ ?_ hnd
  (fun q hq => ⟨.inl hq, by rw [hsz]; exact (hb q hq).2⟩))⟩
 ·have hcells : u.cells = #[u] := cells_of_one h1u;unfold sizeTy at hz;simp only [Option.map_eq_some_iff] at hz;obtain ⟨ti, hi, hsz2⟩ := hz;have hxe := hf.ev hx;rw [hadr] at hxe;unfold execOp;rw [ho];simp [Instr.storeAt, Instr.sureAddr, storeVar, hxe, hf.ev hy, sizeOf, typeInfo, hi, hsz2, hcells, hr]
 ·refine ⟨g, cap, _, fps, rfl, hh', h3, h4, ?_, h6, h7, rfl, ?_, fun q y f2 hq hy hf2 => ?_⟩
  ·simp only [List.size_toArray, List.length_append, List.length_take, List.length_drop, List.length_singleton];simp only [Array.length_toList] at hroom ⊢;omega
  ·apply List.ext_getElem?
   intro q;simp only [List.toList_toArray];rw [slice_get, hget, List.getElem?_set]
   by_cases hqn : q < Gd.n α
   ·rw [if_pos hqn]
    by_cases hqf : f = q
    ·subst hqf;rw [if_pos rfl, if_pos rfl, if_pos (by omega)]
    ·rw [if_neg (by omega), if_neg hqf, ← h9, slice_get, if_pos hqn]
   ·rw [if_neg hqn]
    by_cases hqf : f = q
    ·subst hqf; omega
    ·rw [if_neg hqf, List.getElem?_eq_none (by omega)]
  ·have e : (((cur.toList.take (j * Gd.n α + f) ++ [u] ++ cur.toList.drop (j * Gd.n α + f + [u].length)).toArray.toList.drop (q * Gd.n α)).take (Gd.n α)) = (cur.toList.drop (q * Gd.n α)).take (Gd.n α) := by
    apply List.ext_getElem?
    intro s;simp only [List.toList_toArray];rw [slice_get, slice_get]
    by_cases hs : s < Gd.n α
    ·rw [if_pos hs, if_pos hs, hget, if_neg];intro e
     rcases block_other hq hs with hb | hb
     ·omega
     ·omega
    ·rw [if_neg hs, if_neg hs]
   rw [e];refine Gd.ow_loc (h10 q y f2 hq hy hf2) (fun g' hg' => hsame g' ((hb g' ?_).2) (fun e => hg1 (e ▸ mem_of_idx hf2 hg')));simp [mem_of_idx hf2 hg']
theorem cm {f : Nat} {as : List Operand} {vs : List Value} {tys : Array TypeId} {v : Value} {c c' : Chunk} (hb : hasBody P f = true)
  (ho : o.op = .call ⟨.value (.func f), as.toArray, tys⟩) (ha : evs L as = some vs) (hd : o.dst = some d) (hN : Nat.blt d N = true)
  (hc : ∀ w, St w0 (c :: H) w → Calls P f vs.toArray w fun e w' => e = .returned v ∧ St w0 (c' :: H) w')
  (k : D N w0 (c' :: H) ((d, v) :: L) K) : D N w0 (c :: H) L (fun a w => o.wp P a w K Q) :=
 D_call (σ := Unit) (val := fun _ => v) (H' := fun _ => c' :: H) (J := fun _ => True) hb ho ha hd hN
  (fun w hs => (hc w hs).mono fun _ _ ⟨he, hx⟩ => ⟨(), he, trivial, hx⟩) (fun _ _ => k)
end
theorem enterS {P : Program} {f : Nat} {fn : Func} {c : Code} {vs : List Value} {w0 w : World} {H : List Chunk} {R : Ending → World → Prop} (N : Nat) (hf : P.funcs[f]? = some fn) (hb : fn.body = some c) (hN : fn.ntmps = N) (hl : Nat.ble vs.length N = true) (hs : St w0 H w)
  (h : D N w0 H (args0 0 vs) (c.wp P (bodyPost P fn R))) : Calls P f vs.toArray w R := by
 refine calls_of_wp hf hb (h _ _ ?_ hs);have hl' := Nat.le_of_ble_eq_true hl;refine ⟨rfl, by simp [hN]; omega, fun i v hv => ?_⟩;obtain ⟨_, h2⟩ := look_args0 vs 0 i v hv;simp only [Nat.sub_zero] at h2;have hlt := lS h2;simp only [Array.getD_eq_getD_getElem?];rw [Array.getElem?_append_left (by simpa using hlt)];simp [h2]
end Go.Sy
namespace Go.Sy
open Go Go.RowKit
def Rows (w : World) (v : Value) (hs : List Value) : Prop := ∀ (i : Nat) u, hs[i]? = some u → w.cell? (elemA v (i * 1)) = some u
theorem Rows.loc {w w' : World} {v : Value} {hs : List Value} {g n cap : Nat} (hv : v = .slice (some ⟨g, 0, none⟩) n cap) (h : Rows w v hs) (hg : w'.heap[g]? = w.heap[g]?) : Rows w' v hs := by
 subst hv;intro i u hu;have := h i u hu;simp only [elemA, add_none] at this ⊢;unfold World.cell? at this ⊢;simpa [hg] using this
section
variable {P : Program} {N : Nat} {w0 : World} {H : List Chunk} {L : Fm} {ops : Array Oper} {Q : Exit → Act → World → Prop} {o : Oper} {rest : List Oper} {d : Nat} {K : Act → World → Prop}
end
end Go.Sy
namespace Go.Sy
open Go Go.RowKit
section
variable {P : Program} {N : Nat} {w0 : World} {H : List Chunk} {L : Fm} {o : Oper}
end
def placeTy (P : Program) (t : Nat) : Option (List (Nat × Nat) × List Value) :=
 match P.info? t, P.underlying t with
 | some it, some (.struct fields) => match it.zero, fields.toList.mapM (fun f => (P.info? f.type).map fun i => (f.offset, i.size)) with
  | some z, some pl => some (pl, z.cells.toList)
  | _, _ => none
 | _, _ => none
def fillL (pl : List (Nat × Nat)) : List Value → List (Nat × List Value) → Option (List Value)
 | c, [] => some c
 | c, (i, xs) :: rest => match pl[i]? with
  | none => none
  | some (off, size) => bif Nat.beq xs.length size && Nat.ble (off + xs.length) c.length then fillL pl (c.take off ++ xs ++ c.drop (off + xs.length)) rest else none
def CellsOf : List (Nat × Value) → List (Nat × List Value) → Prop
 | [], [] => True
 | (i, v) :: a, (j, c) :: b => i = j ∧ v.cells = c.toArray ∧ CellsOf a b
 | _, _ => False
theorem foldSet (q off : Nat) : ∀ (l : List Value) (p : Nat) (acc : Array Value), ((l.zipIdx p).foldl (fun (c : Array Value) x => c.setIfInBounds (off + x.2) x.1) acc)[q]? = if off + p ≤ q ∧ q < off + p + l.length ∧ q < acc.size then l[q - (off + p)]? else acc[q]? := by
 intro l
 induction l with
 | nil =>
  intro p acc;simp only [List.zipIdx_nil, List.foldl_nil, List.length_nil];rw [if_neg (by omega)]
 | cons u l ih =>
  intro p acc;simp only [List.zipIdx_cons, List.foldl_cons];rw [ih];simp only [Array.size_setIfInBounds, List.length_cons]
  by_cases h1 : off + (p + 1) ≤ q ∧ q < off + (p + 1) + l.length ∧ q < acc.size
  ·rw [if_pos h1, if_pos (by omega)];have : q - (off + p) = (q - (off + (p + 1))) + 1 := by omega
   rw [this, List.getElem?_cons_succ]
  ·rw [if_neg h1]
   by_cases h2 : off + p = q
   ·subst h2
    by_cases h3 : off + p < acc.size
    ·rw [if_pos (by omega)];simp [h3]
    ·rw [if_neg (by omega)];rw [Array.getElem?_eq_none (by simp; omega), Array.getElem?_eq_none (by omega)]
   ·rw [Array.getElem?_setIfInBounds_ne h2, if_neg (by omega)]
theorem fill_L {pl : List (Nat × Nat)} : ∀ {vs : List (Nat × Value)} {xs : List (Nat × List Value)} {c cs : List Value}, CellsOf vs xs → fillL pl c xs = some cs → Instr.fill (pl.toArray[·]?) c.toArray vs = some cs.toArray
 | [], [], c, cs, _, h => by
  simp only [fillL, Option.some.injEq] at h;subst h; rfl
 | (i, v) :: vs, (j, x) :: xs, c, cs, hc, h => by
  obtain ⟨rfl, hv, hc⟩ := hc;simp only [fillL] at h;unfold Instr.fill;simp only [List.getElem?_toArray]
  cases hp : pl[i]? with
  | none => rw [hp] at h; cases h
  | some os =>
   obtain ⟨off, size⟩ := os;rw [hp] at h;simp only at h ⊢
   cases hb : Nat.beq x.length size && Nat.ble (off + x.length) c.length with
   | false => rw [hb] at h; cases h
   | true =>
    rw [hb] at h;simp only [cond_true] at h;rw [Bool.and_eq_true] at hb;have h1 : x.length = size := Nat.eq_of_beq_eq_true hb.1;have h2 : off + x.length ≤ c.length := Nat.le_of_ble_eq_true hb.2;rw [hv];rw [if_neg (by simp [h1]; omega)];have e : (x.toArray.zipIdx.foldl (fun (cs : Array Value) (y : Value × Nat) => cs.setIfInBounds (off + y.2) y.1) c.toArray) = (c.take off ++ x ++ c.drop (off + x.length)).toArray := by
     rw [← Array.foldl_toList];have hzip : x.toArray.zipIdx.toList = x.zipIdx 0 := by simp
     rw [hzip]
     apply Array.ext_getElem?
     intro q;rw [foldSet];simp only [Nat.add_zero, List.size_toArray, List.getElem?_toArray];rw [splice_get _ _ _ _ h2]
     by_cases h3 : q < off
     ·rw [if_neg (by omega), if_pos h3]
     ·rw [if_neg h3]
      by_cases h4 : q < off + x.length
      ·rw [if_pos (by omega), if_pos h4]
      ·rw [if_neg (by omega), if_neg h4]
    have e' : (x.toArray.zipIdx.foldl (fun (cs : Array Value) (y : Value × Nat) => match y with | (c, j) => cs.setIfInBounds (off + j) c) c.toArray) = (c.take off ++ x ++ c.drop (off + x.length)).toArray := e;rw [e'];have hq := fill_L hc h;simpa using hq
 | [], _ :: _, _, _, hc, _ => hc.elim
 | _ :: _, [], _, _, hc, _ => hc.elim
section
variable {P : Program} {N : Nat} {w0 : World} {H : List Chunk} {L : Fm} {o : Oper}
theorem D_built {t : TypeId} {ps : List (Nat × Operand)} {vs : List (Nat × Value)} {xs : List (Nat × List Value)} {cs z : List Value} {pl : List (Nat × Nat)} (ht : placeTy P t = some (pl, z)) (hev : evp L ps = some vs) (hc : CellsOf vs xs) (hf : fillL pl z xs = some cs) (ho : o.op = .build t ps.toArray) : RunV P N w0 H L o (.agg cs.toArray) := by
 refine D_build hev (fun w => run_build w t vs.toArray cs.toArray ?_) ho;unfold placeTy at ht;unfold Program.built
 split at ht
 ·rename_i it fields h1 h2;rw [h1, h2];simp only
  split at ht
  ·rename_i zv pl' h3 h4;simp only [Option.some.injEq, Prod.mk.injEq] at ht;obtain ⟨rfl, rfl⟩ := ht;rw [h3, h4];simp only;have := fill_L hc hf;simpa using this
  ·cases ht
 ·cases ht
end
end Go.Sy
namespace Go.Sy
open Go Go.RowKit
def Res2 {α β : Type} [Gd α] [Gd β] (w : World) (x : α) (y : β) (e : Ending) (w' : World) : Prop :=
 ∃ c1 c2 f1 f2, e = .returned (.tuple #[Gd.vl α c1, Gd.vl β c2]) ∧ Gd.ow w' c1 x f1 ∧ Gd.ow w' c2 y f2 ∧ (f1 ++ f2).Nodup ∧ (∀ g ∈ f1 ++ f2, w.heap.size ≤ g) ∧ Ex w w'
section
variable {P : Program} {N : Nat} {w0 : World} {H : List Chunk} {L : Fm} {ops : Array Oper} {Q : Exit → Act → World → Prop} {o : Oper} {rest : List Oper} {d : Nat} {K : Act → World → Prop}
theorem D_re (i : Nat) {v v' : Value} (h : look L i = some v) (e : v = v') (hN : Nat.blt i N = true) (k : D N w0 H ((i, v') :: L) K) : D N w0 H L K := by
 subst e;refine fun a w hfit hs => k a w ⟨hfit.dfr, hfit.size, fun j u hv => ?_⟩ hs
 simp only [look] at hv
 cases hb : Nat.beq i j with
 | true =>
  have e : i = j := Nat.eq_of_beq_eq_true hb;subst e;rw [hb] at hv;simp only [cond_true, Option.some.injEq] at hv;rw [← hv]; exact hfit.at_ i _ h
 | false => rw [hb] at hv; exact hfit.at_ j u hv
theorem cr2 {α β : Type} [Gd α] [Gd β] {f : Nat} {as : List Operand} {vs : List Value} {tys : Array TypeId} {x : α} {y : β} (hb : hasBody P f = true)
  (ho : o.op = .call ⟨.value (.func f), as.toArray, tys⟩) (ha : evs L as = some vs) (hd : o.dst = some d) (hN : Nat.blt d N = true)
  (hc : ∀ w, St w0 H w → Calls P f vs.toArray w (Res2 w x y))
  (k : ∀ c1 c2, D N w0 (ov c1 x :: ov c2 y :: H) ((d, .tuple #[Gd.vl α c1, Gd.vl β c2]) :: L) K) : D N w0 H L (fun a w => o.wp P a w K Q) :=
 D_call (σ := List Value × List Value) (val := fun c => .tuple #[Gd.vl α c.1, Gd.vl β c.2]) (H' := fun c => ov c.1 x :: ov c.2 y :: H) (J := fun _ => True) hb ho ha hd hN
  (fun w hs => (hc w hs).mono fun _ _ ⟨c1, c2, f1, f2, he, h1, h2, hn, hb, hx⟩ => ⟨(c1, c2), he, trivial,
   St.split (hs.push hx (c := Sy.star (ov c1 x) (ov c2 y)) (fp := f1 ++ f2) ⟨f1, f2, rfl, h1, h2⟩ hn (fun g hg => ⟨hb g hg, by
    rcases List.mem_append.1 hg with h | h
    ·exact Gd.ow_lt h1 g h
    ·exact Gd.ow_lt h2 g h⟩))⟩) (fun c _ => k c.1 c.2)
theorem res2_of {α β : Type} [Gd α] [Gd β] {w : World} {c1 c2 : List Value} {x x' : α} {y y' : β} (hs : St w0 (ov c1 x' :: ov c2 y' :: H) w) (e1 : x' = x) (e2 : y' = y) : Res2 w0 x y (.returned (.tuple #[Gd.vl α c1, Gd.vl β c2])) w := by
 subst e1; subst e2;obtain ⟨fp, hok, hn, hb⟩ := hs.star.at (k := 0) rfl;obtain ⟨f1, f2, e, h1, h2⟩ := hok;subst e;exact ⟨c1, c2, f1, f2, rfl, h1, h2, hn, fun g hg => (hb g hg).1, hs.bel⟩
def resv (tmps : Array Value) : ResultVar → Sem Value
 | .tmp t => pure (tmps.getD t undef)
 | .cell a t => do loadVar t (← asAddr (tmps.getD a undef))
theorem results_resv (fn : Func) (tmps : Array Value) : results fn tmps = (do let vs ← fn.results.mapM (resv tmps); pure (if h : vs.size = 1 then vs[0] else .tuple vs)) := rfl
def RV (P : Program) (N : Nat) (w0 : World) (H : List Chunk) (L : Fm) (r : ResultVar) (v : Value) : Prop :=
 ∀ a w, Fits a N L → St w0 H w → Sem.run P (resv a.tmps r) w = Result.ok v w
theorem rvt {t : Tmp} {v : Value} (h : look L t = some v) : RV P N w0 H L (.tmp t) v := fun a w hf _ => by
 simp only [resv, hf.at_ t v h]; rfl
theorem rvc {t : Tmp} {ty : TypeId} {g : Nat} {cs : List Value} (k : Nat) (ha : aggTy P ty = some cs.length) (hv : look L t = some (.pointer (some ⟨g, 0, none⟩))) (hk : H[k]? = some (bx g cs)) : RV P N w0 H L (.cell t ty) (.agg cs.toArray) := fun a w hf hs => by
 have hat : AtE w ⟨g, 0, none⟩ cs := fun j u hu => by
  rw [add_none, Nat.zero_add];exact bx_cell hk hu w hs
 have hl := run_loadA ha hat;have e := hf.at_ t _ hv;simp only [Instr.loadAt, Instr.sureAddr, Sem.run_bind, Sem.run_pure, Result.andThen_ok] at hl;simp only [resv, e];simp [hl, asAddr]
theorem R_2g {fn : Func} {R : Ending → World → Prop} {r1 r2 : ResultVar} {v1 v2 : Value} (hr : fn.results = #[r1, r2]) (h1 : RV P N w0 H L r1 v1) (h2 : RV P N w0 H L r2 v2) (h : ∀ w, St w0 H w → R (.returned (.tuple #[v1, v2])) w) : D N w0 H L (bodyPost P fn R .ret) :=
 fun a w hf hs => by
  refine bodyPost_ret (v := .tuple #[v1, v2]) ?_ hf.dfr (h w hs);have e1 := h1 a w hf hs;have e2 := h2 a w hf hs;have key : Sem.run P (fn.results.mapM (resv a.tmps)) w = Result.ok #[v1, v2] w := by
   rw [hr];simp only [List.mapM_toArray, List.mapM_cons, List.mapM_nil, Sem.run_bind, Sem.run_map, bind_pure_comp, map_pure];simp [e1, e2]
  rw [results_resv, Sem.run_bind, key];rfl
theorem C_join {c : Code} (I : Act → World → Prop) (h : D N w0 H L (c.wp P (Exit.then I Q))) (k : ∀ a w, I a w → Q .normal a w) : D N w0 H L (c.wp P Q) :=
 fun a w hf hs => Code.wp_mono (fun e a w he => by
  cases e with
  | normal => exact k a w he
  | _ => exact he) (h a w hf hs)
def Each (p : Nat → Prop) : List Nat → Prop
 | [] => True
 | i :: l => p i ∧ Each p l
theorem Each.get {p : Nat → Prop} : ∀ {l : List Nat}, Each p l → ∀ i ∈ l, p i
 | [], _, _, h => by cases h
 | _ :: l, ⟨h, hl⟩, i, hi => by
  rcases List.mem_cons.1 hi with e | e
  ·subst e; exact h
  ·exact Each.get hl i e
theorem tyN {H0 : List Chunk} {z : List Nat} {n : Nat} {listed : Array Bool} (l : List Nat) (hl : Nat.blt 0 l.length = true) (hrd : Region.ready .any ops listed = l)
  (k : Each (fun i => ∃ o, ops[i]? = some o ∧ gd ops L o = some true ∧ D N w0 H L (fun a w => o.wp P a w (fun a' w' => (i ∉ z → St w0 H0 w') ∧ AnyH P ops Q w0 H0 z n (listed.setIfInBounds i true) a' w') (NoPanic Q))) l) : D N w0 H L (AnyH P ops Q w0 H0 z (n + 1) listed) := by
 intro a w hf hs hz hc;refine ⟨fun h0 => ?_, fun j hj => ?_⟩
 ·rw [h0] at hrd;subst hrd
  cases hl
 ·have hj2 := hj;rw [hrd] at hj;obtain ⟨o, ho, hg, hk⟩ := k.get j hj;unfold wpOp;simp only [ho, gd_sound hf hg, if_true];exact .inl (Oper.wp_mono (fun a' w' h' => ⟨h'.1, h'.2 hz (closed_set hc hj2)⟩) (hk a w hf hs))
theorem D_rem {t t' : TypeId} {x y : Operand} {m n : Int} (ho : o.op = .binOp .rem t x y t') (hx : ev L x = some (.int .i64 m)) (hy : ev L y = some (.int .i64 n)) (hn : (n == 0) = false) : RunV P N w0 H L o (.int .i64 (m.tmod n)) := by
 intro a w hf _;have hn' : ¬ n = 0 := by simpa using hn
 unfold execOp;rw [ho];simp [hf.ev hx, hf.ev hy, eqGuard, binOp, Op.intDiv, hn']
end
end Go.Sy
namespace Go.Sy
open Go Go.RowKit
def fz (wz wb : World) : Chunk where
 ok w fp := ∀ (p : Addr) (v : Value), wb.cell? p = some v → (p.block ∈ fp ∧ w.cell? p = some v) ∨ wz.cell? p = some v
 loc := fun w w' fp h hs p v hv => by
  rcases h p v hv with ⟨h1, h2⟩ | h2
  ·refine .inl ⟨h1, ?_⟩;have := hs p.block h1;unfold World.cell? at h2 ⊢;rw [this];exact h2
  ·exact .inr h2
def over (wb w : World) (l : List Nat) : World :=
 { wb with heap := ((List.range (max w.heap.size wb.heap.size)).map fun g => ((if l.contains g then w.heap[g]? else wb.heap[g]?).getD (.cells #[] 0 (0, 0)))).toArray }
theorem over_in {wb w : World} {l : List Nat} {g : Nat} (h : g ∈ l) (hlt : g < w.heap.size) : (over wb w l).heap[g]? = w.heap[g]? := by
 have hc : l.contains g = true := by simpa using h
 have hm : g < max w.heap.size wb.heap.size := by omega
 simp only [over, List.getElem?_toArray, List.getElem?_map, List.getElem?_range hm, Option.map_some, hc, if_true];rw [Array.getElem?_eq_getElem hlt];rfl
theorem over_out {wb w : World} {l : List Nat} {p : Addr} {v : Value} (h : p.block ∉ l) : (over wb w l).cell? p = some v ↔ wb.cell? p = some v := by
 have hc : l.contains p.block = false := by simpa using h
 unfold World.cell?
 by_cases hm : p.block < max w.heap.size wb.heap.size
 ·simp only [over, List.getElem?_toArray, List.getElem?_map, List.getElem?_range hm, Option.map_some, hc]
  cases hb : wb.heap[p.block]? with
  | none => simp
  | some o => simp
 ·have h1 : wb.heap[p.block]? = none := Array.getElem?_eq_none (by omega);have h2 : (over wb w l).heap[p.block]? = none := by
   apply Array.getElem?_eq_none
   simp only [over, List.size_toArray, List.length_map, List.length_range];omega
  rw [h1, h2]
theorem cell_block {w w' : World} {p : Addr} (h : w'.heap[p.block]? = w.heap[p.block]?) : w'.cell? p = w.cell? p := by
 unfold World.cell?;rw [h]
section
variable {P : Program} {N : Nat} {w0 : World} {H : List Chunk} {L : Fm} {ops : Array Oper} {Q : Exit → Act → World → Prop} {o : Oper} {rest : List Oper} {d : Nat} {K : Act → World → Prop}
theorem fz_sub {w wz wb : World} {k : Nat} (hz : Sbw wz w0) (hs : St w0 H w) (hk : H[k]? = some (fz wz wb)) : Sbw wb w := fun p v hv => by
 obtain ⟨fp, hok, _⟩ := hs.at hk
 rcases hok p v hv with ⟨_, h⟩ | h
 ·exact h
 ·exact Ex.cell hs.bel (hz p v h)
theorem rd_fz {α : Type} [Gd α] {w wz wb : World} {cs : List Value} {x : α} (k : Nat) (hz : Sbw wz w0) (hs : St w0 H w) (hk : H[k]? = some (fz wz wb)) (h : Gd.rd wb cs x) : Gd.rd w cs x := Gd.rd_sub (fz_sub hz hs hk) h
theorem fz_start (w wz : World) : St w [fz wz wz] w := (St.start w).nul (c := fz wz wz) (fun _ _ h => .inr h)
theorem D_frzG {c : Chunk} {wz wb : World} {φ : World → Prop} (hz : Sbw wz w0) (hc : ∀ w fp wb', c.ok w fp → (∀ g ∈ fp, g < w.heap.size) → Sbw wb wb' → (∀ g ∈ fp, wb'.heap[g]? = w.heap[g]?) → φ wb')
  (k : ∀ wb', Sbw wb wb' → φ wb' → D N w0 (fz wz wb' :: H) L K) : D N w0 (c :: fz wz wb :: H) L K := by
 intro a w hf hs;obtain ⟨f1, f2, h1, h2, hn, hb, close⟩ := hs.open2;have hbel : ∀ (p : Addr) (v : Value), wz.cell? p = some v → w.cell? p = some v := fun p v hv => Ex.cell hs.bel (hz p v hv)
 have hin : ∀ g ∈ f1 ++ f2, (over wb w (f1 ++ f2)).heap[g]? = w.heap[g]? := fun g hg => over_in hg (hb g hg).2
 have hsub : Sbw wb (over wb w (f1 ++ f2)) := fun p v hv => by
  by_cases hp : p.block ∈ f1 ++ f2
  ·rw [cell_block (hin _ hp)]
   rcases h2 p v hv with ⟨_, h⟩ | h
   ·exact h
   ·exact hbel p v h
  ·exact (over_out hp).2 hv
 refine k (over wb w (f1 ++ f2)) hsub (hc w f1 _ h1 (fun g hg => (hb g (by simp [hg])).2) hsub (fun g hg => hin g (by simp [hg]))) a w hf (close w (fz wz (over wb w (f1 ++ f2))) (f1 ++ f2) (Kb.of_ex (Ex.refl w)) ?_ hn (fun g hg => ⟨.inl hg, (hb g hg).2⟩));intro p v hv
 by_cases hp : p.block ∈ f1 ++ f2
 ·rw [cell_block (hin _ hp)] at hv;exact .inl ⟨hp, hv⟩
 ·rw [over_out hp] at hv
  rcases h2 p v hv with ⟨h, _⟩ | h
  ·exact absurd (List.mem_append_right _ h) hp
  ·exact .inr h
theorem D_frz {α : Type} [Gd α] {wz wb : World} {cs : List Value} {y : α} (hz : Sbw wz w0) (k : ∀ wb', Sbw wb wb' → Gd.rd wb' cs y → D N w0 (fz wz wb' :: H) L K) : D N w0 (ov cs y :: fz wz wb :: H) L K :=
 D_frzG hz (fun w fp wb' hok _ _ hs => Gd.ow_rd (Gd.ow_loc hok hs)) k
def Z (_ : World) (α : Type) : Type := α
instance instZ {wb : World} {α : Type} [Gd α] : Gd (Z wb α) where
 n := Gd.n α
 st := Gd.st α
 rd := fun _ cs (x : α) => Gd.rd wb cs x
 ow := fun _ cs (x : α) fp => Gd.rd wb cs x ∧ fp = []
 rd_len := fun h => Gd.rd_len (α := α) h
 rd_one := fun h => Gd.rd_one (α := α) h
 rd_sub := fun _ h => h
 ow_loc := fun h _ => h
 ow_lt := fun h g hg => by rw [h.2] at hg; cases hg
 ow_rd := fun h => h.1
instance instTZ {wb : World} {α : Type} [Tid α] : Tid (Z wb α) := ⟨Tid.id α⟩
abbrev oz {α : Type} [Gd α] [Tid α] (wb : World) (v : Value) (l : List α) : Chunk := ov (α := List (Z wb α)) [v] l
abbrev oe {α : Type} [Gd α] (wb : World) (cs : List Value) (y : α) : Chunk := ov (α := Z wb α) cs y
abbrev ozh {α : Type} [Gd α] [Tid α] (wb : World) (v : Value) (l : List α) (i : Nat) (es : List Value) : Chunk := hl (α := Z wb α) v l i es
theorem D_zel {α : Type} [Gd α] {wb : World} {cs : List Value} {y : α} (h : Gd.rd wb cs y) (k : D N w0 (oe wb cs y :: H) L K) : D N w0 H L K :=
 fun a w hf hs => k a w hf (hs.nul (c := oe wb cs y) ⟨h, rfl⟩)
theorem ow_zup {α : Type} [Gd α] [Tid α] {w wb wb' : World} {v : Value} {l : List α} {fp : List Nat} (hu : Sbw wb wb') (h : Gd.ow (α := List (Z wb α)) w [v] l fp) : Gd.ow (α := List (Z wb' α)) w [v] l fp := by
 rcases h with h | ⟨g, cap, cur, fps, h1, h2, h3, h4, h5, h6, h7, h8⟩
 ·exact .inl h
 ·refine .inr ⟨g, cap, cur, fps, h1, h2, h3, h4, h5, h6, h7, fun i x f hx hf => ?_⟩;obtain ⟨k1, k2⟩ := h8 i x f hx hf;exact ⟨Gd.rd_sub (α := α) hu k1, k2⟩
theorem St.setEq {w : World} {c c' : Chunk} {k : Nat} (hs : St w0 H w) (hk : H[k]? = some c) (hc : ∀ fp, c.ok w fp → c'.ok w fp) : St w0 (H.set k c') w := by
 obtain ⟨fp, hok, hn, hb, put⟩ := hs.set hk;exact put w c' fp (Kb.of_ex (Ex.refl w)) (hc fp hok) hn (fun g hg => ⟨.inl hg, (hb g hg).2⟩)
theorem D_zup {α : Type} [Gd α] [Tid α] {wb wb' : World} {v : Value} {l : List α} (i : Nat) (hu : Sbw wb wb') (hk : H[i]? = some (oz wb v l)) (k : D N w0 (H.set i (oz wb' v l)) L K) : D N w0 H L K :=
 fun a w hf hs => k a w hf (hs.setEq hk fun _ h => ow_zup hu h)
theorem ow_zfrz {α : Type} [Gd α] [Tid α] {w wb wb' : World} {v : Value} {l : List α} {fp : List Nat} (hu : Sbw wb wb') (h : Gd.ow (α := List (Z wb α)) w [v] l fp) (hs : ∀ g ∈ fp, wb'.heap[g]? = w.heap[g]?) : Gd.rd wb' [v] l := by
 rcases h with ⟨h1, h2, _⟩ | ⟨g, cap, cur, fps, h1, h2, h3, h4, h5, h6, h7, h8⟩
 ·subst h2;rw [h1];exact rd_nil (α := α)
 ·refine ⟨some ⟨g, 0, none⟩, cap, h1, ⟨h3, h4⟩, fun i y hy => ?_⟩;obtain ⟨f, hf⟩ := sL (l := fps) (i := i) (by rw [h7]; exact lS hy);obtain ⟨k1, _⟩ := h8 i y f hy hf;refine ⟨_, (cur.toList.drop (i * Gd.n α)).take (Gd.n α), rfl, fun j u hu' => ?_, Gd.rd_sub (α := α) hu k1⟩;have hg : wb'.heap[g]? = some (.cells cur (Tid.id α) (0, 0)) := by rw [hs g (by rw [h6]; simp)]; exact h2
  rw [add_none, cell_of_heap hg];rw [List.getElem?_take] at hu'
  split at hu'
  ·rw [List.getElem?_drop] at hu';simpa using hu'
  ·cases hu'
theorem D_zfrz {α : Type} [Gd α] [Tid α] {wz wb : World} {v : Value} {l : List α} (hz : Sbw wz w0) (k : ∀ wb', Sbw wb wb' → Gd.rd wb' [v] l → D N w0 (fz wz wb' :: H) L K) : D N w0 (oz wb v l :: fz wz wb :: H) L K :=
 D_frzG hz (fun w fp wb' hok _ hu hs => ow_zfrz hu hok hs) k
theorem rd_zl {α : Type} [Gd α] [Tid α] {w wz wb : World} {v : Value} {l : List α} {i j : Nat} (hz : Sbw wz w0) (hs : St w0 H w) (hk : H[i]? = some (oz wb v l)) (hj : H[j]? = some (fz wz wb)) : Gd.rd w [v] l := by
 obtain ⟨a, cap, e, hm, hx⟩ := rO (α := List (Z wb α)) hs hk;refine ⟨a, cap, e, hm, fun q x hq => ?_⟩;obtain ⟨ad, es, h1, h2, h3⟩ := hx q x hq;exact ⟨ad, es, h1, h2, rd_fz (α := α) j hz hs hj (show Gd.rd (α := α) wb es x from h3)⟩
theorem AtE.sub {w w' : World} {p : Addr} {es : List Value} (h : AtE w p es) (e : Sbw w w') : AtE w' p es := fun j u hu => e _ _ (h j u hu)
theorem lrz {t : TypeId} {x : Operand} {p : Addr} {es : List Value} {v : Value} {j : Nat} {wz wb : World} (k : Nat) (hz : Sbw wz w0) (hk : H[k]? = some (fz wz wb)) (ht : oneTy P t = true) (ho : o.op = .load t x) (hx : ev L x = some (.pointer (some (p.add j))))
  (ha : AtE wb p es) (hv : es[j]? = some v) : RunV P N w0 H L o v := D_ld1 ht ho hx (fun _ hs => fz_sub hz hs hk _ _ (ha j v hv))
theorem lrza {t : TypeId} {x : Operand} {p : Addr} {es : List Value} {wz wb : World} (k : Nat) (hz : Sbw wz w0) (hk : H[k]? = some (fz wz wb)) (ht : aggTy P t = some es.length) (ho : o.op = .load t x) (hx : ev L x = some (.pointer (some p)))
  (ha : AtE wb p es) : RunV P N w0 H L o (.agg es.toArray) := D_ldA ht ho hx (fun _ hs => ha.sub (fz_sub hz hs hk))
def Zok (wz wb w w' : World) : Prop := Ex w w' ∧ Sbw wz wb ∧ ∃ fp, fp.Nodup ∧ (∀ g ∈ fp, w.heap.size ≤ g ∧ g < w'.heap.size) ∧ (fz wz wb).ok w' fp
def RdZ {α : Type} [Gd α] (wz w : World) (x : α) (e : Ending) (w' : World) : Prop := ∃ cs wb, e = .returned (Gd.vl α cs) ∧ Zok wz wb w w' ∧ Gd.rd wb cs x
theorem zok_of {w wz wb : World} {k : Nat} (hs : St w0 H w) (hk : H[k]? = some (fz wz wb)) (hu : Sbw wz wb) : Zok wz wb w0 w := by
 obtain ⟨fp, hok, hn, hb⟩ := hs.at hk;exact ⟨hs.bel, hu, fp, hn, hb, hok⟩
theorem zok_join {w w' wz wb wb' : World} (hs : St w0 (fz wz wb :: H) w) (hz : Zok wb wb' w w') : St w0 (fz wz wb' :: H) w' := by
 obtain ⟨hx, hu, fp, hn, hb, hok⟩ := hz;obtain ⟨f1, hok1, hn1, hb1, put⟩ := (hs.ext hx).set (k := 0) rfl;obtain ⟨f0, hok0, hn0, hb0, put0⟩ := hs.set (k := 0) rfl;have h2 : St w0 (fz wz wb :: H) w' := hs.ext hx;refine put0 w' (fz wz wb') (f0 ++ fp) (Kb.of_ex hx) ?_ ?_ ?_
 ·intro p v hv
  rcases hok p v hv with ⟨h, h'⟩ | h
  ·exact .inl ⟨List.mem_append_right _ h, h'⟩
  ·rcases hok0 p v h with ⟨h, h'⟩ | h
   ·exact .inl ⟨List.mem_append_left _ h, Ex.cell hx h'⟩
   ·exact .inr h
 ·rw [List.nodup_append];refine ⟨hn0, hn, fun a ha b hb' e => ?_⟩;have := (hb0 a ha).2;have := (hb b hb').1;omega
 ·intro g hg
  rcases List.mem_append.1 hg with h | h
  ·exact ⟨.inl h, Nat.lt_of_lt_of_le (hb0 g h).2 hx.size⟩
  ·exact ⟨.inr (hb g h).1, (hb g h).2⟩
theorem cz {α : Type} [Gd α] {f : Nat} {as : List Operand} {vs : List Value} {tys : Array TypeId} {x : α} {wz wb : World} (hb : hasBody P f = true)
  (ho : o.op = .call ⟨.value (.func f), as.toArray, tys⟩) (ha : evs L as = some vs) (hd : o.dst = some d) (hN : Nat.blt d N = true) (hz : Sbw wz w0)
  (hc : ∀ w, Sbw wb w → Calls P f vs.toArray w (RdZ wb w x))
  (k : ∀ cs wb', Sbw wb wb' → Gd.rd wb' cs x → D N w0 (fz wz wb' :: H) ((d, Gd.vl α cs) :: L) K) : D N w0 (fz wz wb :: H) L (fun a w => o.wp P a w K Q) :=
 D_call (σ := List Value × World) (val := fun s => Gd.vl α s.1) (H' := fun s => fz wz s.2 :: H) (J := fun s => Sbw wb s.2 ∧ Gd.rd s.2 s.1 x) hb ho ha hd hN
  (fun w hs => (hc w (fz_sub (k := 0) hz hs rfl)).mono fun _ _ ⟨cs, wb', he, hzk, hr⟩ => ⟨(cs, wb'), he, ⟨hzk.2.1, hr⟩, zok_join hs hzk⟩) (fun s hj => k s.1 s.2 hj.1 hj.2)
theorem Res.z {α : Type} [Gd α] {w w' wz : World} {x : α} {e : Ending} (h : Res w x e w') (hz : Sbw wz w) : RdZ wz w x e w' := by
 obtain ⟨cs, fp, he, how, hn, hb, hx⟩ := h;have hlt := Gd.ow_lt how;have hin : ∀ g ∈ fp, (over wz w' fp).heap[g]? = w'.heap[g]? := fun g hg => over_in hg (hlt g hg)
 have hnot : ∀ (p : Addr) (v : Value), wz.cell? p = some v → p.block ∉ fp := fun p v hv hp => by
  have := lt_of_cell (hz p v hv);have := hb _ hp;omega
 refine ⟨cs, over wz w' fp, he, ⟨hx, fun p v hv => (over_out (hnot p v hv)).2 hv, fp, hn, fun g hg => ⟨hb g hg, hlt g hg⟩, fun p v hv => ?_⟩, Gd.ow_rd (Gd.ow_loc how hin)⟩
 by_cases hp : p.block ∈ fp
 ·rw [cell_block (hin _ hp)] at hv;exact .inl ⟨hp, hv⟩
 ·exact .inr ((over_out hp).1 hv)
end
def slP (v : Value) (m : Nat) : Value := match v with | .slice a _ c => .slice a m c | v => v
theorem rd_slPr {α : Type} [Gd α] [Tid α] {w : World} {v : Value} {l : List α} {m : Nat} (h : Gd.rd w [v] l) (hm : m ≤ l.length) : Gd.rd w [slP v m] (l.take m) := by
 obtain ⟨a, c, e, ⟨h1, h2⟩, hx⟩ := h;simp only [List.cons.injEq, and_true] at e;subst e;have hl : (l.take m).length = m := by rw [List.length_take]; omega
 refine ⟨a, c, by rw [hl]; rfl, ⟨by omega, h2⟩, fun i y hy => ?_⟩;have hlt := lS hy;rw [List.getElem?_take, if_pos (by omega)] at hy;exact hx i y hy
section
variable {P : Program} {N : Nat} {w0 : World} {H : List Chunk} {L : Fm} {ops : Array Oper} {Q : Exit → Act → World → Prop} {o : Oper} {rest : List Oper} {d : Nat} {K : Act → World → Prop}
theorem slice_und {t e n b : Nat} (ht : sliceTy P t = some (e, n, b)) : P.underlying t = some (.slice e) ∧ ∀ w, (sizeOf e).run P w = .ok n w := by
 unfold sliceTy at ht
 split at ht
 ·rename_i e' he;simp only [Option.map_eq_some_iff, Prod.mk.injEq] at ht;obtain ⟨i, hi, e1, hsz, hby⟩ := ht;subst e1;exact ⟨he, fun w => by simp [sizeOf, typeInfo, hi, hsz]⟩
 ·cases ht
theorem D_slpr {α : Type} [Gd α] [Tid α] {t e n b m : Nat} {x y : Operand} {v : Value} {l : List α} {z : Int} (ht : sliceTy P t = some (e, n, b)) (ho : o.op = .slice t x none (some y) none) (hx : ev L x = some v) (hy : ev L y = some (.int .i64 z)) (hz : z = (m : Int))
  (hr : ∀ w, St w0 H w → Gd.rd w [v] l) (hm : m ≤ l.length) : RunV P N w0 H L o (slP v m) := by
 intro a w hf hs;obtain ⟨a0, c, e, ⟨hc, _⟩, _⟩ := hr w hs;simp only [List.cons.injEq, and_true] at e;subst e;obtain ⟨hu, hsz⟩ := slice_und ht;subst hz;unfold execOp;rw [ho];have hm2 : (0 : Int) ≤ (m : Int) ∧ (m : Int) ≤ (c : Int) := by omega
 have e0 : (if c = 0 then a0 else a0.map (·.add (0 * n))) = a0 := by
  split
  ·rfl
  ·cases a0 with
   | none => rfl
   | some ad => simp [add_zero]
 simp [Instr.sliceAt, Instr.slice, run_underlying hu, hf.ev hx, hf.ev hy, Instr.sliceBounds, Instr.sliceBound, asIntOf, hsz, slP, hm2, show m ≤ c from by omega];simpa using e0
theorem lha {α : Type} [Gd α] [Tid α] {t n : Nat} {x : Operand} {v : Value} {l : List α} {j : Nat} {es : List Value} (k : Nat) (hn : Gd.n α = n) (ht : aggTy P t = some es.length) (ho : o.op = .load t x) (hx : ev L x = some (.pointer (some (elemA v (j * n)))))
  (hk : H[k]? = some (hl v l j es)) : RunV P N w0 H L o (.agg es.toArray) := D_ldA ht ho hx (fun _ hs => hl_at hn hs hk)
theorem set_same {β : Type} {l : List β} {i : Nat} {x : β} (h : l[i]? = some x) : l.set i x = l := by
 apply List.ext_getElem?
 intro j;rw [List.getElem?_set]
 split
 ·rename_i e;subst e;rw [if_pos (lS h), h]
 ·rfl
theorem D_apz {α : Type} [Gd α] [Tid α] {wb : World} {t n b g2 c : Nat} {s x : Operand} {v z : Value} {l : List α} {y : α} {yc : List Value} (ht : sliceTy P t = some (Tid.id α, n, b)) (hz : zeroTy P (Tid.id α) = some z) (hzn : z.cells.size = n) (hpos : 0 < n) (hnα : Gd.n α = n)
  (ho : o.op = .call ⟨.builtin .append, #[s, x], #[t, t]⟩) (hsv : ev L s = some v) (hx : ev L x = some (.slice (some ⟨g2, 0, none⟩) 1 c)) (hd : o.dst = some d) (hN : Nat.blt d N = true)
  (hlen : (l.length + 1) * b ≤ 140737488355328) (hmax : l.length + 1 ≤ 9223372036854775807)
  (k : ∀ v', D N w0 (oz wb v' (l ++ [y]) :: H) ((d, v') :: L) K) : D N w0 (oz wb v l :: oe wb yc y :: bx g2 yc :: H) L (fun a w => o.wp P a w K Q) :=
 D_ap (α := Z wb α) ht hz hzn hpos hnα ho hsv hx hd hN hlen hmax k
theorem D_bs0z {α : Type} [Gd α] [Tid α] (wb : World) {t n b : Nat} (ht : sliceTy P t = some (Tid.id α, n, b)) (ho : o.op = .buildSlice t 0 #[]) (hd : o.dst = some d) (hN : Nat.blt d N = true)
  (k : ∀ v, D N w0 (oz wb v ([] : List α) :: H) ((d, v) :: L) K) : D N w0 H L (fun a w => o.wp P a w K Q) := D_bs0 (α := Z wb α) ht ho hd hN k
theorem D_bs1z {α : Type} [Gd α] [Tid α] {wb : World} {t n b : Nat} {x : Operand} {v z : Value} {y : α} {yc : List Value} (ht : sliceTy P t = some (Tid.id α, n, b)) (hz : zeroTy P (Tid.id α) = some z) (hzn : z.cells.size = n) (hpos : 0 < n) (hsm : n ≤ 16777216) (hnα : Gd.n α = n)
  (ho : o.op = .buildSlice t 1 #[(0, x)]) (hx : ev L x = some v) (hd : o.dst = some d) (hN : Nat.blt d N = true) (hc : v.cells = yc.toArray)
  (k : ∀ v', D N w0 (oz wb v' [y] :: H) ((d, v') :: L) K) : D N w0 (oe wb yc y :: H) L (fun a w => o.wp P a w K Q) := D_bs1 (α := Z wb α) ht hz hzn hpos hsm hnα ho hx hd hN hc k
theorem D_nilz {α : Type} [Gd α] [Tid α] (wb : World) (k : D N w0 (oz wb (.slice none 0 0) ([] : List α) :: H) L K) : D N w0 H L K := D_nil (α := Z wb α) k
theorem D_lenz {α : Type} [Gd α] [Tid α] {wb : World} {t : TypeId} {x : Operand} {v : Value} {l : List α} {e3 : Nat × Nat × Nat} (k : Nat) (ht : sliceTy P t = some e3) (ho : o.op = .call ⟨.builtin .len, #[x], #[t]⟩) (hx : ev L x = some v)
  (hk : H[k]? = some (oz wb v l)) : RunV P N w0 H L o (.int .i64 (l.length : Int)) := D_leno (α := Z wb α) k ht ho hx hk
theorem D_ozeq {α : Type} [Gd α] [Tid α] {wb : World} {v : Value} {l l' : List α} (i : Nat) (hk : H[i]? = some (oz wb v l)) (e : l = l') (k : D N w0 (H.set i (oz wb v l')) L K) : D N w0 H L K := D_eq (α := List (Z wb α)) i hk e k
theorem soZ {α : Type} [Gd α] [Tid α] {wb : World} {t n : Nat} {x y : Operand} {v yv : Value} {l : List α} {j : Nat} {z : α} {yc : List Value} (hnα : Gd.n α = n) (hz : sizeTy P t = some n) (ho : o.op = .store t x y) (hx : ev L x = some (.pointer (some (elemA v (j * n))))) (hy : ev L y = some yv) (hyc : yv.cells = yc.toArray) (hd : o.dst = none)
  (hj : j < l.length) (r : D N w0 (oz wb v (l.set j z) :: H) L K) : D N w0 (oz wb v l :: oe wb yc z :: H) L (fun a w => o.wp P a w K Q) := soG (α := Z wb α) hnα hz ho hx hy hyc hd hj r
theorem D_takez {α : Type} [Gd α] [Tid α] {wb : World} {v : Value} {l : List α} {i : Nat} {x : α} (hi : l[i]? = some x) (k : ∀ es, Gd.rd wb es x → D N w0 (ozh wb v l i es :: H) L K) : D N w0 (oz wb v l :: H) L K :=
 D_take (α := Z wb α) hi fun es a w hf hs => by
  obtain ⟨fp, hok, _⟩ := hs.at (k := 0) rfl;exact k es hok.1 a w hf hs.tail
theorem D_putz {α : Type} [Gd α] [Tid α] {wb : World} {v : Value} {l : List α} {i : Nat} {x : α} {es : List Value} (h : Gd.rd wb es x) (k : D N w0 (oz wb v (l.set i x) :: H) L K) : D N w0 (ozh wb v l i es :: H) L K :=
 D_zel h (D_put (α := Z wb α) k)
theorem D_putz' {α : Type} [Gd α] [Tid α] {wb : World} {v : Value} {l : List α} {i : Nat} {x : α} {es : List Value} (hi : l[i]? = some x) (h : Gd.rd wb es x) (k : D N w0 (oz wb v l :: H) L K) : D N w0 (ozh wb v l i es :: H) L K :=
 D_putz h (by rw [set_same hi]; exact k)
theorem D_ixz {α : Type} [Gd α] [Tid α] {wb : World} {t : TypeId} {e n b : Nat} {x i : Operand} {v : Value} {l : List α} {j : Nat} {es : List Value} {z : Int} (k : Nat) (ht : sliceTy P t = some (e, n, b)) (ho : o.op = .indexAddr t x i) (hx : ev L x = some v) (hi : ev L i = some (.int .i64 z))
  (hk : H[k]? = some (ozh wb v l j es)) (hj : z = (j : Int)) : RunV P N w0 H L o (.pointer (some (elemA v (j * n)))) := D_ixh (α := Z wb α) k ht ho hx hi hk hj
theorem lza {α : Type} [Gd α] [Tid α] {wb : World} {t n : Nat} {x : Operand} {v : Value} {l : List α} {j : Nat} {es : List Value} (k : Nat) (hn : Gd.n α = n) (ht : aggTy P t = some es.length) (ho : o.op = .load t x) (hx : ev L x = some (.pointer (some (elemA v (j * n)))))
  (hk : H[k]? = some (ozh wb v l j es)) : RunV P N w0 H L o (.agg es.toArray) := lha (α := Z wb α) k hn ht ho hx hk
end
end Go.Sy
namespace Go.Sy
open Go Go.RowKit
def sB (s : ByteArray) (k : Nat) : Int := ((s.data[k]?).getD 0).toNat
section
variable {P : Program} {N : Nat} {w0 : World} {H : List Chunk} {L : Fm} {o : Oper}
theorem D_lens {t : TypeId} {x : Operand} {s : ByteArray} (ht : P.underlying t = some .string) (ho : o.op = .call ⟨.builtin .len, #[x], #[t]⟩) (hx : ev L x = some (.string s)) : RunV P N w0 H L o (.int .i64 (s.size : Int)) := by
 intro a w hf _;unfold execOp;rw [ho];simp [resolve, invoke, builtin, Builtin.len_, hf.ev hx, run_underlying ht, goInt]
theorem D_sidx {t : TypeId} {x i : Operand} {s : ByteArray} {j : Nat} {z : Int} (ht : P.underlying t = some .string) (ho : o.op = .index t x i) (hx : ev L x = some (.string s)) (hi : ev L i = some (.int .i64 z)) (hz : z = (j : Int)) (hj : j < s.size) : RunV P N w0 H L o (.int .u8 (sB s j)) := by
 intro a w hf _;subst hz;have h1 : s[j]? = some (s[j]'hj) := getElem?_pos s j hj;have h2 : sB s j = ((s[j]'hj).toNat : Int) := by
  unfold sB;have : s.data[j]? = some (s[j]'hj) := by
   rw [Array.getElem?_eq_getElem hj]; rfl
  rw [this]; rfl
 unfold execOp;rw [ho];simp [Instr.index, asIntOf, hf.ev hx, hf.ev hi, run_underlying ht, h1, h2]
theorem bytes_eq (a b : ByteArray) : (a.toList == b.toList) = decide (a = b) := by
 rw [Bool.eq_iff_iff];simp only [beq_iff_eq, decide_eq_true_eq]
 constructor
 ·intro h;have h1 : a.toList = a.data.toList := ByteArray.toList_eq a;have h2 : b.toList = b.data.toList := ByteArray.toList_eq b;rw [h1, h2] at h
  cases a; cases b
  simp only at h
  congr 1
  exact Array.toList_inj.1 h
 ·intro h; rw [h]
theorem D_eqS {t t' : TypeId} {x y : Operand} {m n : ByteArray} (ho : o.op = .binOp .eql t x y t') (hx : ev L x = some (.string m)) (hy : ev L y = some (.string n)) : RunV P N w0 H L o (.bool (decide (m = n))) := by
 intro a w hf _;unfold execOp;rw [ho];simp only [hf.ev hx, hf.ev hy];simp [eqGuard, binOp, Op.stringOp, bytes_eq]
theorem D_neS {t t' : TypeId} {x y : Operand} {m n : ByteArray} (ho : o.op = .binOp .neq t x y t') (hx : ev L x = some (.string m)) (hy : ev L y = some (.string n)) : RunV P N w0 H L o (.bool (!(decide (m = n)))) := by
 intro a w hf _;unfold execOp;rw [ho];simp only [hf.ev hx, hf.ev hy];simp [eqGuard, binOp, Op.stringOp, bytes_eq]
theorem sB_rng (s : ByteArray) (k : Nat) : 0 ≤ sB s k ∧ sB s k ≤ 255 := by
 unfold sB;have := ((s.data[k]?).getD 0).toNat_lt;omega
theorem D_cvt {t t' : TypeId} {x : Operand} {s : ByteArray} {k : Nat} (ht : P.underlying t' = some (.int .i64)) (hu : ∃ u, P.underlying t = some u) (ho : o.op = .convert t t' x) (hx : ev L x = some (.int .u8 (sB s k))) : RunV P N w0 H L o (.int .i64 (sB s k)) := by
 intro a w hf _;obtain ⟨u, hu⟩ := hu;have hr := sB_rng s k;unfold execOp;rw [ho];simp [convert, hf.ev hx, run_underlying ht, run_underlying hu, Conv.intToInt, IntWalk.i64_in _ (show -9223372036854775808 ≤ sB s k ∧ sB s k ≤ 9223372036854775807 by omega)]
theorem at_sub {w : World} {p : Addr} {es es' : List Value} {f n : Nat} (h : AtE w p es) (e : (es.drop f).take n = es') : AtE w (p.add f) es' := by
 subst e;intro j u hu;rw [List.getElem?_take] at hu
 split at hu
 ·rw [List.getElem?_drop] at hu;rw [add_add];exact h (f + j) u hu
 ·cases hu
end
end Go.Sy
namespace Go.Sy
open Go Go.RowKit
theorem fill_flat : ∀ (vs : List Value) (pre tail : List Value), tail.length = vs.length → (∀ v ∈ vs, v.cells = #[v]) →
  Instr.fill (fun i => some (i * 1, 1)) (pre ++ tail).toArray ((vs.zipIdx pre.length).map (fun p => (p.2, p.1))) = some (pre ++ vs).toArray
 | [], pre, [], _, _ => by simp [Instr.fill]
 | [], pre, _ :: _, h, _ => by simp at h
 | v :: vs, pre, [], h, _ => by simp at h
 | v :: vs, pre, t :: tail, h, hc => by
  have hv := hc v (by simp);have ih := fill_flat vs (pre ++ [v]) tail (by simpa using h) (fun u hu => hc u (by simp [hu]));simp only [List.zipIdx_cons, List.map_cons, Instr.fill, hv];have hs : ¬ ((decide ((#[v] : Array Value).size ≠ 1) || decide (pre.length * 1 + (#[v] : Array Value).size > (pre ++ t :: tail).toArray.size)) = true) := by simp
  rw [if_neg hs];have e : ((#[v] : Array Value).zipIdx.foldl (fun cs x => cs.setIfInBounds (pre.length * 1 + x.2) x.1) (pre ++ t :: tail).toArray) = ((pre ++ [v]) ++ tail).toArray := by
   simp
  have e2 : (pre ++ [v]).length = pre.length + 1 := by simp
  rw [e2] at ih;simp only [List.append_assoc, List.cons_append, List.nil_append] at ih e;rw [← ih]
  congr 1
def ltS (a b : ByteArray) : Bool := Op.bytesLess a.toList b.toList
section
variable {P : Program} {N : Nat} {w0 : World} {H : List Chunk} {L : Fm} {Q : Exit → Act → World → Prop} {o : Oper} {d : Nat} {K : Act → World → Prop}
theorem cells_1 {v : Value} (h : v.oneCell' = true) : v.cells = #[v] := by
 cases v <;> first | rfl | cases h
theorem D_bsn {α : Type} [Fl α] [Tid α] {t b n : Nat} {xs : List Operand} {ys : List α} {z : Value} (ht : sliceTy P t = some (Tid.id α, 1, b)) (hz : zeroTy P (Tid.id α) = some z) (hzn : z.cells.size = 1)
  (ho : o.op = .buildSlice t n ((xs.zipIdx 0).map (fun p => (p.2, p.1))).toArray) (hx : evs L xs = some (ys.map Fl.enc)) (hn : ys.length = n) (hn0 : 0 < n) (hn1 : n ≤ 1000) (hd : o.dst = some d) (hN : Nat.blt d N = true)
  (k : ∀ v, D N w0 (ov [v] ys :: H) ((d, v) :: L) K) : D N w0 H L (fun a w => o.wp P a w K Q) := by
 unfold sliceTy at ht
 split at ht
 ·rename_i e' he;simp only [Option.map_eq_some_iff, Prod.mk.injEq] at ht;obtain ⟨i, hi, e1, hsz, hby⟩ := ht;subst e1;unfold zeroTy at hz;rw [hi] at hz;simp only [Option.bind_some] at hz;refine D_gen hd hN (fun a w hf hs => ⟨.slice (some ⟨w.heap.size, 0, none⟩) n n, w.alloc (.cells (ys.map Fl.enc).toArray (Tid.id α)), ?_, fun a' hf' => k _ a' _ hf'
   (hs.push (fp := [w.heap.size]) (Ex.alloc w _) (c := ov [.slice (some ⟨w.heap.size, 0, none⟩) n n] ys) ?_ (by simp) (fun g hg => by simp only [List.mem_singleton] at hg; subst hg; simp))⟩)
  ·have hev := hf.evs hx;have hparts : ((((xs.zipIdx 0).map (fun p => (p.2, p.1))).toArray.map fun (p : Nat × Operand) => (p.1, a.eval p.2))).toList = ((ys.map Fl.enc).zipIdx 0).map (fun p => (p.2, p.1)) := by
    rw [← hev];simp only [List.map_toArray, List.map_map]
    apply List.ext_getElem?
    intro q;simp only [List.getElem?_map, List.getElem?_zipIdx]
    cases xs[q]? <;> simp
   have hcells : ∀ v ∈ ys.map (Fl.enc (α := α)), v.cells = #[v] := fun v hv => by
    obtain ⟨y, _, rfl⟩ := List.mem_map.1 hv;exact cells_1 (Fl.one y)
   have hbase : ((Array.range (n * 1)).map (z.cells[· % z.cells.size]!)) = ([] ++ ((List.range n).map (z.cells[· % z.cells.size]!))).toArray := by
    simp [Array.toList_range, ← Array.toList_inj]
   have hfl := fill_flat (ys.map Fl.enc) [] ((List.range n).map (z.cells[· % z.cells.size]!)) (by simp [hn]) hcells;have hb := run_buildSlice (P := P) w t (Tid.id α) n (((xs.zipIdx 0).map (fun p => (p.2, p.1))).toArray.map fun (p : Nat × Operand) => (p.1, a.eval p.2)) (ys.map Fl.enc).toArray i z he hi hz (by rw [hsz]; omega) (by rw [hsz]; omega) (by
    rw [hparts, hsz, hbase];simpa using hfl)
   unfold execOp;rw [ho];simp only;rw [Sem.run_bind, hb];rfl
  ·rw [← hn];refine owF_mk (l := ys) (cap := ys.length) (heap_alloc_new w _) (by simp) (by simp [maxLen]; omega) (by simp) (fun i u hu => ?_);simp [hu]
 ·cases ht
theorem D_cat {t t' : TypeId} {x y : Operand} {m n : ByteArray} (ho : o.op = .binOp .add t x y t') (hx : ev L x = some (.string m)) (hy : ev L y = some (.string n)) (hl : m.size + n.size ≤ 9223372036854775807) : RunV P N w0 H L o (.string (m ++ n)) := by
 intro a w hf _;unfold execOp;rw [ho];simp only [hf.ev hx, hf.ev hy];have h2 : ¬ ((m.size : Int) + (n.size : Int) > IntKind.i64.max) := by
  have : IntKind.i64.max = 9223372036854775807 := rfl;omega
 simp [eqGuard, binOp, Op.stringOp, h2];omega
theorem D_ltS {t t' : TypeId} {x y : Operand} {m n : ByteArray} (ho : o.op = .binOp .lss t x y t') (hx : ev L x = some (.string m)) (hy : ev L y = some (.string n)) : RunV P N w0 H L o (.bool (ltS m n)) := by
 intro a w hf _;unfold execOp;rw [ho];simp only [hf.ev hx, hf.ev hy];simp [eqGuard, binOp, Op.stringOp, ltS]
theorem D_geS {t t' : TypeId} {x y : Operand} {m n : ByteArray} (ho : o.op = .binOp .geq t x y t') (hx : ev L x = some (.string m)) (hy : ev L y = some (.string n)) : RunV P N w0 H L o (.bool (!(ltS m n))) := by
 intro a w hf _;unfold execOp;rw [ho];simp only [hf.ev hx, hf.ev hy];simp [eqGuard, binOp, Op.stringOp, ltS]
theorem D_gtS {t t' : TypeId} {x y : Operand} {m n : ByteArray} (ho : o.op = .binOp .gtr t x y t') (hx : ev L x = some (.string m)) (hy : ev L y = some (.string n)) : RunV P N w0 H L o (.bool (!(ltS m n || decide (m = n)))) := by
 intro a w hf _;unfold execOp;rw [ho];simp only [hf.ev hx, hf.ev hy];simp [eqGuard, binOp, Op.stringOp, ltS, bytes_eq]
theorem D_neg {t : TypeId} {x : Operand} {m r : Int} (ho : o.op = .unOp .neg t x) (hx : ev L x = some (.int .i64 m)) (he : -m = r) (hr : -9223372036854775808 ≤ r ∧ r ≤ 9223372036854775807) : RunV P N w0 H L o (.int .i64 r) := by
 intro a w hf _;subst he;unfold execOp;rw [ho];simp [hf.ev hx, Op.unary, Op.intArith, IntWalk.i64_in _ hr]
theorem D_quo {t t' : TypeId} {x y : Operand} {m n : Int} (ho : o.op = .binOp .quo t x y t') (hx : ev L x = some (.int .i64 m)) (hy : ev L y = some (.int .i64 n)) (h0 : 0 ≤ m ∧ m ≤ 9223372036854775807) (hn : 1 ≤ n) : RunV P N w0 H L o (.int .i64 (m / n)) := by
 intro a w hf _;have hn' : ¬ n = 0 := by omega
 have e : m.tdiv n = m / n := Int.tdiv_eq_ediv_of_nonneg h0.1;have hle : m / n ≤ m := Int.ediv_le_self _ h0.1;have hge : 0 ≤ m / n := Int.ediv_nonneg h0.1 (by omega);unfold execOp;rw [ho];simp [hf.ev hx, hf.ev hy, eqGuard, binOp, Op.intDiv, hn', e, IntWalk.i64_in _ (show -9223372036854775808 ≤ m / n ∧ m / n ≤ 9223372036854775807 by omega)]
theorem D_cv8 {t t' : TypeId} {x : Operand} {m : Int} (ht : P.underlying t' = some (.int .u8)) (hu : ∃ u, P.underlying t = some u) (ho : o.op = .convert t t' x) (hx : ev L x = some (.int .i64 m)) (hr : 0 ≤ m ∧ m ≤ 255) : RunV P N w0 H L o (.int .u8 m) := by
 intro a w hf _;obtain ⟨u, hu⟩ := hu;have e : IntKind.u8.wrap m = m := by
  have h1 : IntKind.u8.bits = 8 := rfl;have h2 : IntKind.u8.signed = false := rfl;simp only [IntKind.wrap, h1, h2];simp;omega
 unfold execOp;rw [ho];simp [convert, hf.ev hx, run_underlying ht, run_underlying hu, Conv.intToInt, e]
theorem D_cvbs {t t' e g : Nat} {x : Operand} {m : Int} (k : Nat) (hs' : P.underlying t = some (.slice e)) (he : P.underlying e = some (.int .u8)) (ht : P.underlying t' = some .string) (ho : o.op = .convert t t' x) (hx : ev L x = some (.slice (some ⟨g, 0, none⟩) 1 1))
  (hk : H[k]? = some (bx g [.int .u8 m])) : RunV P N w0 H L o (.string ⟨#[UInt8.ofNat m.toNat]⟩) := by
 intro a w hf hs;have hl := run_loadCells_list (P := P) w ⟨g, 0, none⟩ [.int .u8 m] (fun j u hu => by rw [add_none, Nat.zero_add]; exact bx_cell hk hu w hs);simp only [List.length_singleton] at hl;unfold execOp;rw [ho];simp only [hf.ev hx];simp [convert, run_underlying hs', run_underlying he, run_underlying ht, Conv.bytesToString, hl];rfl
theorem D_sslc {t : TypeId} {x y : Operand} {s : ByteArray} {k : Nat} {z : Int} (ht : P.underlying t = some .string) (ho : o.op = .slice t x (some y) none none) (hx : ev L x = some (.string s)) (hy : ev L y = some (.int .i64 z)) (hz : z = (k : Int)) (hk : k ≤ s.size) : RunV P N w0 H L o (.string (s.extract k s.size)) := by
 intro a w hf _;subst hz;unfold execOp;rw [ho];have h2 : (0 : Int) ≤ (k : Int) ∧ (k : Int) ≤ ((s.size : Nat) : Int) := by omega
 simp [Instr.sliceAt, Instr.slice, run_underlying ht, hf.ev hx, hf.ev hy, Instr.sliceBounds, Instr.sliceBound, asIntOf, h2, hk]
end
end Go.Sy
namespace Go.Sy
open Go Go.RowKit
section
variable {P : Program} {N : Nat} {w0 : World} {H : List Chunk} {L : Fm} {Q : Exit → Act → World → Prop} {o : Oper} {d : Nat} {K : Act → World → Prop}
theorem bx_at {g k : Nat} {cs : List Value} {w : World} (hs : St w0 H w) (hk : H[k]? = some (bx g cs)) : AtE w ⟨g, 0, none⟩ cs := fun j u hu => by
 rw [add_none, Nat.zero_add];exact bx_cell hk hu w hs
theorem D_mf {f : Nat} {cap : List Operand} {vs : List Value} (ho : o.op = .makeFunc (.func f) #[] cap.toArray) (ha : evs L cap = some vs) : RunV P N w0 H L o (.func (.func f) #[] vs.toArray) := by
 intro a w hf _;have he : (cap.toArray.map a.eval) = vs.toArray := by rw [List.map_toArray, hf.evs ha]
 unfold execOp;rw [ho];simp [Instr.makeFunc, he]
end
end Go.Sy
namespace Go.Sy
open Go Go.RowKit
inductive Lv where
  | val (v : Value)
  | rd (p : Value → World → Prop) (ext : ∀ v w w', p v w → Ex w w' → p v w')
def Lv.p : Lv → Value → World → Prop
 | .val u, v, _ => v = u
 | .rd p _, v, w => p v w
theorem Lv.ext : ∀ {l : Lv} {v : Value} {w w' : World}, l.p v w → Ex w w' → l.p v w'
 | .val _, _, _, _, h, _ => h
 | .rd _ e, _, _, _, h, x => e _ _ _ h x
def Lv.of {α : Type} [Gd α] (g : List Value → Value) (x : α) : Lv := .rd (fun v w => ∃ cs, v = g cs ∧ Gd.rd w cs x) fun _ _ _ ⟨cs, h1, h2⟩ e => ⟨cs, h1, Gd.rd_ext e h2⟩
structure Fop where
  i : Nat
  d : Nat
  es : List Nat
  lv : Lv
def fopAt : List Fop → Nat → Option Fop
 | [], _ => none
 | c :: cs, e => bif Nat.beq c.i e then some c else fopAt cs e
def dAt (cs : List Fop) (e : Nat) : Nat := match fopAt cs e with | some c => c.d | none => 0
def lAt (cs : List Fop) (e : Nat) : Lv := match fopAt cs e with | some c => c.lv | none => .val undef
section
variable {P : Program} {ops : Array Oper} {N : Nat} {w0 : World} {H : List Chunk} {L : Fm} {Q : Exit → Act → World → Prop}
def HopR (P : Program) (N : Nat) (wb : World) (o : Oper) (c : Fop) (Q : Exit → Act → World → Prop) (cs : List Fop) : List Nat → Fm → Prop
 | [], L => D N wb [] L (fun a w => o.wp P a w (fun a' w' => a'.defers = [] ∧ Ex wb w' ∧ c.lv.p (a'.tmps.getD c.d undef) w') Q)
 | e :: es, L => ∀ v, (lAt cs e).p v wb → HopR P N wb o c Q cs es ((dAt cs e, v) :: L)
def Hops (P : Program) (ops : Array Oper) (N : Nat) (w0 : World) (H : List Chunk) (L : Fm) (Q : Exit → Act → World → Prop) (cs0 : List Fop) : List Fop → Prop
 | [] => True
 | c :: cs => (∃ o, ops[c.i]? = some o ∧ ∀ wb, St w0 H wb → HopR P N wb o c Q cs0 c.es L) ∧ Hops P ops N w0 H L Q cs0 cs
theorem Hops.mem {cs0 : List Fop} : ∀ {cs : List Fop}, Hops P ops N w0 H L Q cs0 cs → ∀ c ∈ cs, ∃ o, ops[c.i]? = some o ∧ ∀ wb, St w0 H wb → HopR P N wb o c Q cs0 c.es L
 | _ :: _, h, c, hc => by
  rcases List.mem_cons.1 hc with rfl | hc
  ·exact h.1
  ·exact Hops.mem h.2 c hc
theorem Fits.add {a : Act} (h : Fits a N L) (d : Nat) : Fits a N ((d, a.tmps.getD d undef) :: L) := ⟨h.dfr, h.size, fun i v hv => by
 simp only [look] at hv
 cases hb : Nat.beq d i with
 | true =>
  rw [hb] at hv;simp only [cond_true, Option.some.injEq] at hv;rw [← Nat.eq_of_beq_eq_true hb]; exact hv
 | false =>
  rw [hb] at hv;exact h.at_ i v hv⟩
theorem HopR.run {wb : World} {o : Oper} {c : Fop} {cs : List Fop} {a : Act} : ∀ {es : List Nat} {L : Fm}, HopR P N wb o c Q cs es L → Fits a N L → (∀ e ∈ es, (lAt cs e).p (a.tmps.getD (dAt cs e) undef) wb) →
  o.wp P a wb (fun a' w' => a'.defers = [] ∧ Ex wb w' ∧ c.lv.p (a'.tmps.getD c.d undef) w') Q
 | [], _, h, hf, _ => h a wb hf (St.start wb)
 | e :: _, _, h, hf, he => HopR.run (h _ (he e (List.mem_cons_self ..))) (hf.add _) (fun x hx => he x (List.mem_cons_of_mem _ hx))
structure FopOk (N : Nat) (ops : Array Oper) (listed : Array Bool) (ls : List Nat) (cs : List Fop) (c : Fop) (o : Oper) : Prop where
  dst : o.dst = some c.d
  gd : o.guard = none
  aft : ∀ e ∈ o.after, Region.binds .any e = true → listed.getD e.on false = true ∨ (e.on < c.i ∧ ∃ x ∈ cs, x.i = e.on)
  es : ∀ e ∈ c.es, (∃ x ∈ cs, fopAt cs e = some x ∧ x.i = e) ∧ e ∈ deps ops c.i
  lt : Nat.blt c.d N = true
  un : listed.getD c.i true = false
  ls : c.d ∉ ls
theorem unl {listed : Array Bool} {j : Nat} (h0 : listed.getD j true = false) : listed.getD j false = false := by
 rcases Nat.lt_or_ge j listed.size with h' | h'
 ·simp [h'] at h0 ⊢; exact h0
 ·simp [Array.getElem?_eq_none h'] at h0
end
end Go.Sy
namespace Go.Sy
open Go Go.RowKit
section
variable {P : Program} {N : Nat} {w0 : World} {H : List Chunk} {L : Fm} {ops : Array Oper} {Q : Exit → Act → World → Prop} {o o2 : Oper} {rest : List Oper} {d d2 : Nat} {K : Act → World → Prop}
theorem ntp_parts (h : ntp N ops L o = some d) : gd ops L o = some false ∧ o.dst = some d ∧ Nat.blt d N = true := by
 unfold ntp at h
 split at h
 ·rename_i d' h1 h2
  cases hb : Nat.blt d' N with
  | false => rw [hb] at h; cases h
  | true =>
   rw [hb] at h;simp only [cond_true, Option.some.injEq] at h;subst h;exact ⟨h1, h2, hb⟩
 ·cases h
theorem tN {z : List Nat} {n : Nat} {listed : Array Bool} (i : Nat) (hi : ops[i]? = some o) (hb : tkB ops listed i = true) (h : ntp N ops L o = some d) (k : D N w0 H ((d, undef) :: L) (AnyH P ops Q w0 H z n (listed.setIfInBounds i true))) : D N w0 H L (AnyH P ops Q w0 H z (n + 1) listed) := by
 simp only [tkB, Bool.and_eq_true] at hb;obtain ⟨h1, h2, h3⟩ := ntp_parts h;exact tn i hi hb.1.1 hb.1.2 hb.2 h1 h2 h3 (fun _ hs => hs) k
theorem tR {z : List Nat} {n : Nat} {listed : Array Bool} (i : Nat) {v : Value} (hi : ops[i]? = some o) (hb : tkB ops listed i = true) (h : stp N ops L o = some (d, v)) (k : D N w0 H ((d, v) :: L) (AnyH P ops Q w0 H z n (listed.setIfInBounds i true))) : D N w0 H L (AnyH P ops Q w0 H z (n + 1) listed) := by
 simp only [tkB, Bool.and_eq_true] at hb;unfold stp at h
 split at h
 ·rename_i d' v' h1 h2 h3
  cases hb2 : Nat.blt d' N with
  | false => rw [hb2] at h; cases h
  | true =>
   rw [hb2] at h;simp only [cond_true, Option.some.injEq, Prod.mk.injEq] at h;obtain ⟨e1, e2⟩ := h;subst e1; subst e2;exact tk i hi hb.1.1 hb.1.2 hb.2 (by unfold hdr; rw [h1, h2]; simp only [hb2, cond_true]) (fun _ hs => hs) (rp h3) k
 ·cases h
theorem fl {t j off g i q u : Nat} {x x2 : Operand} {cs : List Value} {v : Value} (k : Nat) (hf : fieldOff P t j = some off) (hu : oneTy P u = true) (h : hdr N ops L o = some d) (ho : o.op = .fieldAddr t x j) (hx : ev L x = some (.pointer (some ⟨g, i, none⟩))) (hq : i + off = q)
  (h2 : hdr N ops ((d, .pointer (some ⟨g, q, none⟩)) :: L) o2 = some d2) (ho2 : o2.op = .load u x2) (hx2 : ev ((d, .pointer (some ⟨g, q, none⟩)) :: L) x2 = some (.pointer (some ⟨g, q, none⟩))) (hk : H[k]? = some (bx g cs)) (hv : cs[q]? = some v)
  (r : D N w0 H ((d2, v) :: (d, .pointer (some ⟨g, q, none⟩)) :: L) (wpList P ops Q rest)) : D N w0 H L (wpList P ops Q (o :: o2 :: rest)) :=
 q1 h (Db hf ho hx hq) (q1 h2 (lb k hu ho2 hx2 hk hv) r)
theorem ad {t t' : TypeId} {x y : Operand} {m n : Int} (r : Nat) (h : hdr N ops L o = some d) (ho : o.op = .binOp .add t x y t') (hx : ev L x = some (.int .i64 m)) (hy : ev L y = some (.int .i64 n)) (he : m + n = (r : Int)) (hr : (r : Int) ≤ 9223372036854775807)
  (k : D N w0 H ((d, .int .i64 (r : Int)) :: L) (wpList P ops Q rest)) : D N w0 H L (wpList P ops Q (o :: rest)) :=
 q1 h (D_add ho hx hy he ⟨by omega, hr⟩) k
theorem bG {x y : Int} (h : x = y) : (x != y) = false := by simpa using h
section
variable {c : Operand} {x y : Code} {p : Prop} {b : Bool} {m n : Int}
theorem Cd [Decidable p] (hc : ev L c = some (.bool (decide p))) (ht : p → D N w0 H L (x.wp P Q)) (hf : ¬ p → D N w0 H L (y.wp P Q)) : D N w0 H L ((Code.cond c x y).wp P Q) := Ci _ hc (fun h => ht (_root_.of_decide_eq_true h)) (fun h => hf (_root_.of_decide_eq_false h))
theorem Cnd [Decidable p] (hc : ev L c = some (.bool (!(decide p)))) (ht : ¬ p → D N w0 H L (x.wp P Q)) (hf : p → D N w0 H L (y.wp P Q)) : D N w0 H L ((Code.cond c x y).wp P Q) := Ci _ hc (fun h => ht (odF (not_t h))) (fun h => hf (odT (not_f h)))
theorem Ce (hc : ev L c = some (.bool (m == n))) (ht : m = n → D N w0 H L (x.wp P Q)) (hf : m ≠ n → D N w0 H L (y.wp P Q)) : D N w0 H L ((Code.cond c x y).wp P Q) := Ci _ hc (fun h => ht (eq_of_beq h)) (fun h => hf (ne_of_beq_false h))
theorem Cn (hc : ev L c = some (.bool (m != n))) (ht : m ≠ n → D N w0 H L (x.wp P Q)) (hf : m = n → D N w0 H L (y.wp P Q)) : D N w0 H L ((Code.cond c x y).wp P Q) := Ci _ hc (fun h => ht (bne_iff_ne.1 h)) (fun h => hf (eq_of_bne_f h))
theorem CN (hc : ev L c = some (.bool (!b))) (ht : b = false → D N w0 H L (x.wp P Q)) (hf : b = true → D N w0 H L (y.wp P Q)) : D N w0 H L ((Code.cond c x y).wp P Q) := Ci _ hc (fun h => ht (not_t h)) (fun h => hf (not_f h))
theorem gxd [Decidable p] (i : Nat) (h : look L i = some (.bool (decide p))) (hN : Nat.blt i N = true) (ht : p → D N w0 H ((i, .bool true) :: L) K) (hf : ¬ p → D N w0 H ((i, .bool false) :: L) K) : D N w0 H L K := gs i h hN (fun h => ht (_root_.of_decide_eq_true h)) (fun h => hf (_root_.of_decide_eq_false h))
theorem gxnd [Decidable p] (i : Nat) (h : look L i = some (.bool (!(decide p)))) (hN : Nat.blt i N = true) (ht : ¬ p → D N w0 H ((i, .bool true) :: L) K) (hf : p → D N w0 H ((i, .bool false) :: L) K) : D N w0 H L K := gs i h hN (fun h => ht (odF (not_t h))) (fun h => hf (odT (not_f h)))
theorem gxe (i : Nat) (h : look L i = some (.bool (m == n))) (hN : Nat.blt i N = true) (ht : m = n → D N w0 H ((i, .bool true) :: L) K) (hf : m ≠ n → D N w0 H ((i, .bool false) :: L) K) : D N w0 H L K := gs i h hN (fun h => ht (eq_of_beq h)) (fun h => hf (ne_of_beq_false h))
theorem gxn (i : Nat) (h : look L i = some (.bool (m != n))) (hN : Nat.blt i N = true) (ht : m ≠ n → D N w0 H ((i, .bool true) :: L) K) (hf : m = n → D N w0 H ((i, .bool false) :: L) K) : D N w0 H L K := gs i h hN (fun h => ht (bne_iff_ne.1 h)) (fun h => hf (eq_of_bne_f h))
theorem gxN (i : Nat) (h : look L i = some (.bool (!b))) (hN : Nat.blt i N = true) (ht : b = false → D N w0 H ((i, .bool true) :: L) K) (hf : b = true → D N w0 H ((i, .bool false) :: L) K) : D N w0 H L K := gs i h hN (fun h => ht (not_t h)) (fun h => hf (not_f h))
end
end
end Go.Sy
