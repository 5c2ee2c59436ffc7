/-
  Lists of structs appended to lists: copied where their elements are flat, moved where they are owned; lists whose elements move out.
  Conditions: none.
-/
import Derived.Test.YtobihkjhlopggaaGreatDoorOwn2
namespace Go.Sy
open Go Go.RowKit
def elc {α : Type} [Gd α] (cs : List Value) (ys : List α) : Chunk where
 ok w fp := ∃ fps : List (List Nat), fp = fps.flatten ∧ fps.length = ys.length ∧ cs.length = ys.length * Gd.n α ∧ (∀ u ∈ cs, u.oneCell' = true) ∧ ∀ (i : Nat) (x : α) (f : List Nat), ys[i]? = some x → fps[i]? = some f → Gd.ow w ((cs.drop (i * Gd.n α)).take (Gd.n α)) x f
 loc := fun w w' fp ⟨fps, h1, h2, h3, h4, h5⟩ hs => by
  subst h1;exact ⟨fps, rfl, h2, h3, h4, fun i x f hx hf => Gd.ow_loc (h5 i x f hx hf) (fun g hg => hs g (mem_of_idx hf hg))⟩
def blk (g : Nat) (ob : Obj) : Chunk where
 ok w fp := fp = [g] ∧ w.heap[g]? = some ob
 loc := fun w w' fp ⟨h1, h2⟩ hs => by
  subst h1;exact ⟨rfl, by rw [hs g (by simp)]; exact h2⟩
section
variable {P : Program} {N : Nat} {w0 : World} {H : List Chunk} {L : Fm} {ops : Array Oper} {Q : Exit → Act → World → Prop} {o : Oper} {rest : List Oper} {d : Nat} {K : Act → World → Prop}
theorem gen_at {a : Act} {w : World} (hd : o.dst = some d) (hN : Nat.blt d N = true) (hf : Fits a N L)
  (hr : ∃ v w', (execOp a.eval o).run P w = .ok (.value v) w' ∧ ∀ a', Fits a' N ((d, v) :: L) → K a' w') : o.wp P a w K Q := by
 obtain ⟨v, w', h1, h2⟩ := hr;unfold Oper.wp;rw [h1];simp only [Oper.upon_value];rw [hd];exact h2 _ (hf.put hN v)
theorem ape_at {α : Type} [Gd α] [Tid α] {t n b : Nat} {s x : Operand} {v z : Value} {ad : Addr} {cap : Nat} {l ys : List α} {yc : List Value} (ht : sliceTy P t = some (Tid.id α, n, b)) (hz : zeroTy P (Tid.id α) = some z) (hzn : z.cells.size = n) (hpos : 0 < n) (hnα : Gd.n α = n)
  (ho : o.op = .call ⟨.builtin .append, #[s, x], #[t, t]⟩) (hsv : ev L s = some v) (hx : ev L x = some (.slice (some ad) ys.length cap)) (hd : o.dst = some d) (hN : Nat.blt d N = true)
  (hlen : (l.length + ys.length) * b ≤ 140737488355328) (hmax : l.length + ys.length ≤ 9223372036854775807)
  (k : ∀ v', D N w0 (ov [v'] (l ++ ys) :: H) ((d, v') :: L) K) (a : Act) (w : World) (hf : Fits a N L) (hs : St w0 (ov [v] l :: elc yc ys :: H) w) (hcell : ∀ (j : Nat) u, yc[j]? = some u → w.cell? (ad.add j) = some u) : o.wp P a w K Q := by
 subst hnα;unfold sliceTy at ht
 split at ht
 ·rename_i e' he;simp only [Option.map_eq_some_iff, Prod.mk.injEq] at ht;obtain ⟨i, hi, e1, hsz, hby⟩ := ht;subst e1;unfold zeroTy at hz;rw [hi] at hz;simp only [Option.bind_some] at hz;refine gen_at hd hN hf ?_;obtain ⟨f1, f2, hok0, hoky, hnd, hb0, close⟩ := hs.open2;obtain ⟨fq, ef2, hq7, hyl, hy1, hq8⟩ := hoky;subst ef2;have hnd' := hnd;rw [List.nodup_append] at hnd';obtain ⟨nd1, nd2, dis⟩ := hnd';obtain ⟨xs, fps, hown, h7, h8, hrow⟩ := ow_row (base := w0.heap.size) hok0 (fun g hg => (hb0 g (List.mem_append_left _ hg)).1);obtain ⟨v', w', hrun, hown', hgrow, _, hblk⟩ := run_append_own_at (P := P) w w0.heap.size t o.type (Tid.id α) i z (Gd.n α) b he hi hz hsz hby hzn hpos v l.length xs hown ad ys.length cap yc hyl
   hcell hy1 (by simp only [maxLen]; omega) hlen hs.bel.size
  have hxl : xs.length = l.length * Gd.n α := hown.1;have hfr : ∀ g ∈ f1, some g = v.ownBlock ∨ g ∈ fps.flatten := fun g hg => by
   rcases hrow with ⟨_, e, _⟩ | ⟨g0, e0, e⟩
   ·rw [e] at hg; cases hg
   ·rw [e] at hg
    rcases List.mem_cons.1 hg with h | h
    ·exact .inl (by rw [h, e0])
    ·exact .inr h
  have hin : ∀ g ∈ fps.flatten, g ∈ f1 ∧ some g ≠ v.ownBlock := fun g hg => by
   rcases hrow with ⟨_, _, e⟩ | ⟨g0, e0, e⟩
   ·rw [e] at hg; simp at hg
   ·refine ⟨by rw [e]; simp [hg], fun h => ?_⟩;rw [e0] at h;simp only [Option.some.injEq] at h;rw [e, ← h] at nd1;exact (List.nodup_cons.1 nd1).1 hg
  have hnf2 : ∀ g ∈ fq.flatten, some g ≠ v.ownBlock := fun g hg h => by
   rcases hrow with ⟨e0, _⟩ | ⟨g0, e0, e⟩
   ·rw [e0] at h; cases h
   ·rw [e0] at h;simp only [Option.some.injEq] at h;exact dis g0 (by rw [e]; simp) g (h ▸ hg) h.symm
  refine ⟨v', w', ?_, fun a' hf' => k v' a' w' hf' ?_⟩
  ·unfold execOp;rw [ho];simp [resolve, invoke, builtin, hf.ev hsv, hf.ev hx, hrun]
  ·have hown2 : w'.ownsRow w0.heap.size (Tid.id α) (Gd.n α) v' (l ++ ys).length (xs ++ yc) := by simpa using hown'
   have hcl : ∀ (i : Nat) (x : α) (f : List Nat), (l ++ ys)[i]? = some x → (fps ++ fq)[i]? = some f → Gd.ow w' (((xs ++ yc).drop (i * Gd.n α)).take (Gd.n α)) x f := fun i q f hq hf => by
    have hilt := lS hq;simp only [List.length_append] at hilt
    by_cases hi : i < l.length
    ·rw [List.getElem?_append_left hi] at hq;rw [List.getElem?_append_left (by omega)] at hf;have e : ((xs ++ yc).drop (i * Gd.n α)).take (Gd.n α) = (xs.drop (i * Gd.n α)).take (Gd.n α) := by
      apply List.ext_getElem?
      intro t;rw [slice_get, slice_get]
      by_cases ht : t < Gd.n α
      ·rw [if_pos ht, if_pos ht];have := Nat.mul_le_mul_right (Gd.n α) (show i + 1 ≤ l.length from hi);rw [Nat.add_mul, Nat.one_mul] at this;rw [List.getElem?_append_left (by omega)]
      ·rw [if_neg ht, if_neg ht]
     rw [e];refine Gd.ow_loc (h8 i q f hq hf) (fun g hg => ?_);have hm := hin g (mem_of_idx hf hg);exact hgrow.block g (hb0 g (List.mem_append_left _ hm.1)).2 hm.2
    ·rw [List.getElem?_append_right (by omega)] at hq;rw [List.getElem?_append_right (by omega), h7] at hf;have e : ((xs ++ yc).drop (i * Gd.n α)).take (Gd.n α) = (yc.drop ((i - l.length) * Gd.n α)).take (Gd.n α) := by
      have hm : i * Gd.n α = xs.length + (i - l.length) * Gd.n α := by rw [hxl, ← Nat.add_mul]; congr 1; omega
      rw [hm, List.drop_append, List.drop_eq_nil_of_le (by omega), List.nil_append]
      congr 2
      omega
     rw [e];exact Gd.ow_loc (hq8 _ q f hq hf) (fun g hg => hgrow.block g (hb0 g (List.mem_append_right _ (mem_of_idx hf hg))).2 (hnf2 g (mem_of_idx hf hg)))
   obtain ⟨fp, hok, hfp⟩ := row_ow (α := α) (fps := fps ++ fq) hown2 (by simp [h7, hq7]) hcl
   rcases hfp with ⟨_, _, e⟩ | ⟨g, e0, e, hbg, hgl⟩
   ·obtain ⟨e1, e2⟩ := List.append_eq_nil_iff.1 e;rename_i efp;subst efp;exact close w' (ov [v'] (l ++ ys)) [] ⟨hgrow.os, hgrow.tape, hgrow.output, hgrow.size, fun q hq hnq => hgrow.block q hq (fun e2 => by
     rcases hrow with ⟨e3, _⟩ | ⟨g0, e3, e4⟩
     ·rw [e3] at e2; cases e2
     ·rw [e3] at e2;simp only [Option.some.injEq] at e2;exact hnq (by rw [e4, e2]; simp))⟩ hok (by simp) (fun g hg => by cases hg)
   ·refine close w' (ov [v'] (l ++ ys)) fp ⟨hgrow.os, hgrow.tape, hgrow.output, hgrow.size, fun q hq hnq => hgrow.block q hq (fun e2 => ?_)⟩ hok ?_ ?_
    ·rcases hrow with ⟨e3, _⟩ | ⟨g0, e3, e4⟩
     ·rw [e3] at e2; cases e2
     ·rw [e3] at e2;simp only [Option.some.injEq] at e2;exact hnq (by rw [e4, e2]; simp)
    ·rw [e, List.nodup_cons];simp only [List.flatten_append];refine ⟨fun hm => ?_, ?_⟩
     ·rcases hblk with hb | hb
      ·rw [e0] at hb
       rcases List.mem_append.1 hm with hm | hm
       ·exact (hin g hm).2 hb
       ·exact hnf2 g hm hb
      ·rw [e0] at hb;simp only [Option.some.injEq] at hb;have : g < w.heap.size := by
        rcases List.mem_append.1 hm with hm | hm
        ·exact (hb0 g (List.mem_append_left _ (hin g hm).1)).2
        ·exact (hb0 g (List.mem_append_right _ hm)).2
       omega
     ·rw [List.nodup_append];refine ⟨?_, nd2, fun a ha b hb e2 => dis a (hin a ha).1 b hb e2⟩
      rcases hrow with ⟨_, _, e3⟩ | ⟨g0, _, e3⟩
      ·rw [e3]; simp
      ·rw [e3] at nd1; exact (List.nodup_cons.1 nd1).2
    ·intro q hq;rw [e] at hq;simp only [List.flatten_append] at hq
     rcases List.mem_cons.1 hq with h | h
     ·subst h;refine ⟨?_, hgl⟩
      rcases hblk with hb | hb
      ·rw [e0] at hb
       rcases hrow with ⟨e3, _⟩ | ⟨g0, e3, e4⟩
       ·rw [e3] at hb; cases hb
       ·rw [e3] at hb;simp only [Option.some.injEq] at hb;exact .inl (by rw [e4, hb]; simp)
      ·rw [e0] at hb;simp only [Option.some.injEq] at hb;exact .inr (by omega)
     ·have hm : q ∈ f1 ++ fq.flatten := by
       rcases List.mem_append.1 h with h | h
       ·exact List.mem_append_left _ (hin q h).1
       ·exact List.mem_append_right _ h
      exact ⟨.inl hm, Nat.lt_of_lt_of_le (hb0 q hm).2 hgrow.size⟩
 ·cases ht
theorem apn_at {α : Type} [Gd α] [Tid α] {t n b c : Nat} {s x : Operand} {v : Value} {l : List α} (ht : sliceTy P t = some (Tid.id α, n, b))
  (ho : o.op = .call ⟨.builtin .append, #[s, x], #[t, t]⟩) (hsv : ev L s = some v) (hx : ev L x = some (.slice none 0 c)) (hd : o.dst = some d) (hN : Nat.blt d N = true)
  (k : D N w0 (ov [v] l :: H) ((d, v) :: L) K) (a : Act) (w : World) (hf : Fits a N L) (hs : St w0 (ov [v] l :: H) w) : o.wp P a w K Q := by
 unfold sliceTy at ht
 split at ht
 ·rename_i e' he;simp only [Option.map_eq_some_iff, Prod.mk.injEq] at ht;obtain ⟨i, hi, e1, hsz, hby⟩ := ht;subst e1;obtain ⟨f1, hok0, nd1, hb0, close⟩ := hs.set (k := 0) rfl;obtain ⟨xs, fps, hown, h7, h8, hrow⟩ := ow_row (base := w0.heap.size) hok0 (fun g hg => (hb0 g hg).1);refine gen_at hd hN hf ⟨v, w, ?_, fun a' hf' => k a' w hf' hs⟩;have := run_append_nil (P := P) w w0.heap.size t o.type (Tid.id α) i (Gd.n α) he hi v l.length xs hown c;unfold execOp;rw [ho];simp [resolve, invoke, builtin, hf.ev hsv, hf.ev hx, this]
 ·cases ht
class Flt (α : Type) [Gd α] where
  flat : ∀ {w w' : World} {cs : List Value} {x : α}, Gd.rd w cs x → Gd.ow w' cs x []
theorem rd_cells {α : Type} [Gd α] [Tid α] {w : World} {ad : Addr} {m cap : Nat} {ys : List α} (hn : 0 < Gd.n α) (h : Gd.rd w [.slice (some ad) m cap] ys) : m = ys.length ∧ ∃ cs : List Value, cs.length = ys.length * Gd.n α ∧ (∀ (j : Nat) u, cs[j]? = some u → w.cell? (ad.add j) = some u) ∧ ∀ (i : Nat) (x : α), ys[i]? = some x → Gd.rd w ((cs.drop (i * Gd.n α)).take (Gd.n α)) x := by
 obtain ⟨A, cap', hu, hm, hel⟩ := h;simp only [List.cons.injEq, and_true, Value.slice.injEq] at hu;obtain ⟨e1, e2, e3⟩ := hu;subst e1;refine ⟨e2, (List.range (ys.length * Gd.n α)).map (fun j => (w.cell? (ad.add j)).getD undef), by simp, ?_, ?_⟩
 ·intro j u hu;rw [List.getElem?_map] at hu;simp only [Option.map_eq_some_iff] at hu;obtain ⟨j', hj', e⟩ := hu;have hjl : j < ys.length * Gd.n α := by have := lS hj'; simpa using this
  have ej : j' = j := by
   rw [List.getElem?_range hjl] at hj';exact (Option.some.inj hj').symm
  subst ej;have hi : j' / Gd.n α < ys.length := Nat.div_lt_of_lt_mul (by rw [Nat.mul_comm]; exact hjl);obtain ⟨y, hy⟩ := sL (l := ys) hi;obtain ⟨ad', es, ea, hc, hr⟩ := hel _ y hy;simp only [Option.some.injEq] at ea;subst ea;have hel2 : j' % Gd.n α < es.length := by rw [Gd.rd_len hr]; exact Nat.mod_lt _ hn
  have := hc (j' % Gd.n α) _ (List.getElem?_eq_getElem hel2);rw [Nat.mul_comm, Nat.div_add_mod] at this;rw [this] at e;rw [this, ← e]; rfl
 ·intro i x hx;obtain ⟨ad', es, ea, hc, hr⟩ := hel i x hx;simp only [Option.some.injEq] at ea;subst ea;have hlt := lS hx;have e : (((List.range (ys.length * Gd.n α)).map (fun j => (w.cell? (ad.add j)).getD undef)).drop (i * Gd.n α)).take (Gd.n α) = es := by
   apply List.ext_getElem?
   intro t;rw [slice_get]
   by_cases ht : t < Gd.n α
   ·have := Nat.mul_le_mul_right (Gd.n α) (show i + 1 ≤ ys.length from hlt);rw [Nat.add_mul, Nat.one_mul] at this;rw [if_pos ht, List.getElem?_map, List.getElem?_range (by omega), List.getElem?_eq_getElem (by rw [Gd.rd_len hr]; exact ht)];have hq := hc t _ (List.getElem?_eq_getElem (by rw [Gd.rd_len hr]; exact ht));simp [hq]
   ·rw [if_neg ht, List.getElem?_eq_none (by rw [Gd.rd_len hr]; omega)]
  rw [e]; exact hr
theorem D_apf {α : Type} [Gd α] [Tid α] [Flt α] {t n b : Nat} {s x : Operand} {v u z : Value} {l ys : List α} (ht : sliceTy P t = some (Tid.id α, n, b)) (hz : zeroTy P (Tid.id α) = some z) (hzn : z.cells.size = n) (hpos : 0 < n) (hnα : Gd.n α = n)
  (ho : o.op = .call ⟨.builtin .append, #[s, x], #[t, t]⟩) (hsv : ev L s = some v) (hx : ev L x = some u) (hd : o.dst = some d) (hN : Nat.blt d N = true)
  (hr : ∀ w, St w0 (ov [v] l :: H) w → Gd.rd w [u] ys) (hlen : (l.length + ys.length) * b ≤ 140737488355328) (hmax : l.length + ys.length ≤ 9223372036854775807)
  (k : ∀ v', D N w0 (ov [v'] (l ++ ys) :: H) ((d, v') :: L) K) : D N w0 (ov [v] l :: H) L (fun a w => o.wp P a w K Q) := by
 intro a w hf hs;have hrd := hr w hs;obtain ⟨A, cap, hu, hm, hel⟩ := hrd;simp only [List.cons.injEq, and_true] at hu;subst hu
 cases A with
 | none =>
  have hys : ys = [] := by
   cases ys with
   | nil => rfl
   | cons y ys =>
    obtain ⟨ad, es, e, _⟩ := hel 0 y rfl
    cases e
  subst hys;have := k v;rw [List.append_nil] at this;exact apn_at ht ho hsv hx hd hN this a w hf hs
 | some ad =>
  obtain ⟨_, cs, c1, c2, c3⟩ := rd_cells (by omega) (hr w hs);have hone : ∀ u ∈ cs, u.oneCell' = true := by
   intro q hq;obtain ⟨j, hj⟩ := List.getElem?_of_mem hq;have hjl : j < ys.length * Gd.n α := by have := lS hj; omega
   have hn0 : 0 < Gd.n α := by omega
   have hi : j / Gd.n α < ys.length := Nat.div_lt_of_lt_mul (by rw [Nat.mul_comm]; exact hjl);obtain ⟨y, hy⟩ := sL (l := ys) hi;refine Gd.rd_one (c3 _ y hy) q (List.mem_of_getElem? (i := j % Gd.n α) ?_);rw [List.getElem?_take, if_pos (Nat.mod_lt _ hn0), List.getElem?_drop, Nat.mul_comm, Nat.div_add_mod];exact hj
  have hs2 : St w0 (elc cs ys :: ov [v] l :: H) w := hs.nul ⟨List.replicate ys.length [], by simp, by simp, c1, hone, fun i y f hy hf => by
   have ef : f = [] := List.eq_of_mem_replicate (List.mem_of_getElem? hf);subst ef;exact Flt.flat (c3 i y hy)⟩
  exact ape_at ht hz hzn hpos hnα ho hsv hx hd hN hlen hmax k a w hf (hs2.perm (List.Perm.swap _ _ _)) c2
inductive Mo (α : Type) where
  | no : Mo α
  | so : α → Mo α
instance instMo {α : Type} [Gd α] : Gd (Mo α) where
 n := Gd.n α
 st := Gd.st α
 rd := fun w cs x => cs.length = Gd.n α ∧ (∀ u ∈ cs, u.oneCell' = true) ∧ ∀ y, x = .so y → Gd.rd w cs y
 ow := fun w cs x fp => cs.length = Gd.n α ∧ (∀ u ∈ cs, u.oneCell' = true) ∧ (x = .no → fp = []) ∧ ∀ y, x = .so y → Gd.ow w cs y fp
 rd_len := fun h => h.1
 rd_one := fun h => h.2.1
 rd_sub := fun e h => ⟨h.1, h.2.1, fun y hy => Gd.rd_sub e (h.2.2 y hy)⟩
 ow_loc := fun h hs => ⟨h.1, h.2.1, h.2.2.1, fun y hy => Gd.ow_loc (h.2.2.2 y hy) hs⟩
 ow_lt := fun {w cs x fp} h g hg => by
  cases x with
  | no => rw [h.2.2.1 rfl] at hg; cases hg
  | so y => exact Gd.ow_lt (h.2.2.2 y rfl) g hg
 ow_rd := fun h => ⟨h.1, h.2.1, fun y hy => Gd.ow_rd (h.2.2.2 y hy)⟩
instance {α : Type} [Tid α] : Tid (Mo α) := ⟨Tid.id α⟩
instance instFltZ {wb : World} {α : Type} [Gd α] : Flt (Z wb α) := ⟨fun h => ⟨h, rfl⟩⟩
theorem rd_toZ {α : Type} [Gd α] [Tid α] {w wb : World} {u : Value} {ys : List α} (hs : Sbw wb w) (h : Gd.rd wb [u] ys) : Gd.rd (α := List (Z wb α)) w [u] ys := by
 obtain ⟨A, cap, hu, hm, hel⟩ := h;exact ⟨A, cap, hu, hm, fun i x hi => by
  obtain ⟨ad, es, ha, hj, hr⟩ := hel i x hi;exact ⟨ad, es, ha, fun j u hu => hs _ _ (hj j u hu), hr⟩⟩
theorem D_apzl {α : Type} [Gd α] [Tid α] {wz wb : World} {t n b : Nat} {s x : Operand} {v u z : Value} {l ys : List α} (i : Nat) (hi : H[i]? = some (fz wz wb)) (hz' : Sbw wz w0) (hr : Gd.rd wb [u] ys) (ht : sliceTy P t = some (Tid.id α, n, b)) (hz : zeroTy P (Tid.id α) = some z) (hzn : z.cells.size = n) (hpos : 0 < n) (hnα : Gd.n α = n)
  (ho : o.op = .call ⟨.builtin .append, #[s, x], #[t, t]⟩) (hsv : ev L s = some v) (hx : ev L x = some u) (hd : o.dst = some d) (hN : Nat.blt d N = true)
  (hlen : (l.length + ys.length) * b ≤ 140737488355328) (hmax : l.length + ys.length ≤ 9223372036854775807)
  (k : ∀ v', D N w0 (oz wb v' (l ++ ys) :: H) ((d, v') :: L) K) : D N w0 (oz wb v l :: H) L (fun a w => o.wp P a w K Q) :=
 D_apf (α := Z wb α) ht hz hzn hpos hnα ho hsv hx hd hN (fun w hs => rd_toZ (α := α) (wb := wb) (fz_sub (k := i + 1) hz' hs (by rw [List.getElem?_cons_succ]; exact hi)) hr) hlen hmax k
theorem czt {α : Type} [Gd α] {f : Nat} {as : List Operand} {vs : List Value} {tys : Array TypeId} {x : α} {wz wb : World} (hb : hasBody P f = true)
  (ho : o.op = .call ⟨.value (.func f), as.toArray, tys⟩) (ha : evs L as = some vs) (hd : o.dst = some d) (hN : Nat.blt d N = true) (hz : Sbw wz w0)
  (hc : ∀ w, Sbw wb w → Ex w0 w → Calls P f vs.toArray w (RdZ wb w x))
  (k : ∀ cs wb', Sbw wb wb' → Gd.rd wb' cs x → D N w0 (fz wz wb' :: H) ((d, Gd.vl α cs) :: L) K) : D N w0 (fz wz wb :: H) L (fun a w => o.wp P a w K Q) :=
 D_call (σ := List Value × World) (val := fun s => Gd.vl α s.1) (H' := fun s => fz wz s.2 :: H) (J := fun s => Sbw wb s.2 ∧ Gd.rd s.2 s.1 x) hb ho ha hd hN
  (fun w hs => (hc w (fz_sub (k := 0) hz hs rfl) hs.bel).mono fun _ _ ⟨cs, wb', he, hzk, hr⟩ => ⟨(cs, wb'), he, ⟨hzk.2.1, hr⟩, zok_join hs hzk⟩) (fun s hj => k s.1 s.2 hj.1 hj.2)
end
end Go.Sy
