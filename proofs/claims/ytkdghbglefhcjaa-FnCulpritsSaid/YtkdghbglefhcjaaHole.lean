/-
  An element taken out of its owned list, changed, and put back; chunks in another order; functions that write to what they are given.
  Conditions: none.
-/
import Derived.Test.YtkdghbglefhcjaaOwn3
namespace Go.Sy
open Go Go.RowKit

def fronts {α : Type} : List α → List Nat → List α
  | l, [] => l
  | l, k :: ks => fronts (front l k) ks

theorem fronts_perm {α : Type} : ∀ (ks : List Nat) (l : List α), List.Perm l (fronts l ks)
  | [], l => List.Perm.refl l
  | k :: ks, l => (front_perm l k).trans (fronts_perm ks (front l k))

/-- the listed places, each once -/
def pkl {α : Type} : List α → List Nat → List α
  | _, [] => []
  | l, i :: F => match l[i]? with
    | some x => x :: pkl l F
    | none => pkl l F
def pkO {α : Type} : List (Option α) → List Nat → List α
  | _, [] => []
  | m, i :: F => match m[i]? with
    | some (some x) => x :: pkO (m.set i none) F
    | _ => pkO m F
def nodupB : List Nat → Bool
  | [] => true
  | i :: F => F.all (fun j => !Nat.beq i j) && nodupB F
theorem fm_set {α : Type} : ∀ {m : List (Option α)} {i : Nat} {x : α}, m[i]? = some (some x) → List.Perm (m.filterMap id) (x :: (m.set i none).filterMap id)
  | [], _, _, h => by simp at h
  | y :: m, 0, x, h => by
    simp only [List.getElem?_cons_zero, Option.some.injEq] at h
    subst h
    exact List.Perm.refl _
  | y :: m, i + 1, x, h => by
    simp only [List.getElem?_cons_succ] at h
    have ih := fm_set h
    cases y with
    | none => simpa using ih
    | some z => exact (List.Perm.cons z (by simpa using ih)).trans (List.Perm.swap _ _ _)
theorem pkO_perm {α : Type} : ∀ (F : List Nat) (m : List (Option α)), ∃ X, List.Perm (m.filterMap id) (pkO m F ++ X)
  | [], m => ⟨_, List.Perm.refl _⟩
  | i :: F, m => by
    unfold pkO
    split
    · rename_i x hx
      obtain ⟨X, hX⟩ := pkO_perm F (m.set i none)
      exact ⟨X, (fm_set hx).trans (hX.cons x)⟩
    · exact pkO_perm F m
theorem pkl_pkO {α : Type} (l : List α) : ∀ (F : List Nat) (m : List (Option α)), nodupB F = true → (∀ i ∈ F, m[i]? = (l[i]?).map some) → pkl l F = pkO m F
  | [], _, _, _ => rfl
  | i :: F, m, hn, hm => by
    simp only [nodupB, Bool.and_eq_true, List.all_eq_true, Bool.not_eq_true'] at hn
    unfold pkl pkO
    rw [hm i (by simp)]
    cases hx : l[i]? with
    | none => exact pkl_pkO l F m hn.2 (fun j hj => hm j (by simp [hj]))
    | some x =>
      simp only [Option.map_some]
      congr 1
      refine pkl_pkO l F _ hn.2 (fun j hj => ?_)
      have hne : i ≠ j := Nat.ne_of_beq_eq_false (hn.1 j hj)
      rw [List.getElem?_set_ne hne]
      exact hm j (by simp [hj])
theorem pkl_perm {α : Type} (l : List α) (F : List Nat) (hn : nodupB F = true) : ∃ X, List.Perm l (pkl l F ++ X) := by
  obtain ⟨X, hX⟩ := pkO_perm F (l.map some)
  refine ⟨X, ?_⟩
  rw [pkl_pkO l F (l.map some) hn (fun i _ => by simp)]
  have : (l.map some).filterMap id = l := by simp
  rwa [this] at hX

theorem flatten_out {fps : List (List Nat)} {i : Nat} {f : List Nat} : fps[i]? = some f → List.Perm fps.flatten (f ++ (fps.set i []).flatten) := by
  induction fps generalizing i with
  | nil => intro h; simp at h
  | cons x fps ih =>
    intro h
    cases i with
    | zero =>
      simp only [List.getElem?_cons_zero, Option.some.injEq] at h
      subst h
      simp
    | succ i =>
      simp only [List.getElem?_cons_succ] at h
      simp only [List.flatten_cons, List.set_cons_succ]
      refine ((ih h).append_left x).trans ?_
      rw [← List.append_assoc, ← List.append_assoc]
      exact List.Perm.append_right _ List.perm_append_comm

theorem flatten_in {fps : List (List Nat)} {i : Nat} {f : List Nat} (h : fps[i]? = some []) : List.Perm (fps.set i f).flatten (f ++ fps.flatten) := by
  have hlt := lt_of_some h
  have h1 : (fps.set i f)[i]? = some f := by rw [List.getElem?_set_self hlt]
  have h2 := flatten_out h1
  rw [List.set_set] at h2
  have h3 : fps.set i [] = fps := by
    apply List.ext_getElem?
    intro j
    rw [List.getElem?_set]
    split
    · rename_i e; subst e; rw [h]
    · rfl
  rw [h3] at h2
  exact h2

section
variable {P : Program} {N : Nat} {w0 : World} {H : List Chunk} {L : Fm} {ops : Array Oper} {Q : Exit → Act → World → Prop} {o : Oper} {rest : List Oper} {d : Nat} {K : Act → World → Prop}

theorem St.drops {w : World} : ∀ (n : Nat) {H : List Chunk}, St w0 H w → St w0 (H.drop n) w
  | 0, _, h => h
  | n + 1, [], h => h
  | n + 1, c :: H, h => St.drops n h.tail

theorem St.fd {w : World} {H' : List Chunk} (ks : List Nat) (n : Nat) (h : St w0 H w) (e : (fronts H ks).drop n = H') : St w0 H' w := e ▸ (h.perm (fronts_perm ks H)).drops n
theorem St.pk {w : World} {H' : List Chunk} (F : List Nat) (h : St w0 H w) (hn : nodupB F = true) (e : pkl H F = H') : St w0 H' w := by
  obtain ⟨X, hX⟩ := pkl_perm H F hn
  exact e ▸ (h.perm hX).dropEnd
theorem D_pk {H' : List Chunk} (F : List Nat) (hn : nodupB F = true) (e : pkl H F = H') (k : D N w0 H' L K) : D N w0 H L K := fun a w hf hs => k a w hf (hs.pk F hn e)
theorem D_H (H' : List Chunk) (e : H = H') (k : D N w0 H' L K) : D N w0 H L K := e ▸ k
theorem D_fd {H' : List Chunk} (ks : List Nat) (n : Nat) (e : (fronts H ks).drop n = H') (k : D N w0 H' L K) : D N w0 H L K := fun a w hf hs => k a w hf (hs.fd ks n e)

/-- a list without its i-th element, whose cells are es -/
def hl {α : Type} [Gd α] [Tid α] (v : Value) (l : List α) (i : Nat) (es : List Value) : Chunk where
  ok w fp := ∃ (g cap : Nat) (cur : Array Value) (fps : List (List Nat)), v = .slice (some ⟨g, 0, none⟩) l.length cap ∧ w.heap[g]? = some (.cells cur (Tid.id α) (0, 0)) ∧ l.length ≤ cap ∧ cap ≤ maxLen ∧ cur.size = cap * Gd.n α ∧
    fps.length = l.length ∧ fps[i]? = some [] ∧ fp = g :: fps.flatten ∧ (cur.toList.drop (i * Gd.n α)).take (Gd.n α) = es ∧
    ∀ (j : Nat) (x : α) (f : List Nat), j ≠ i → l[j]? = some x → fps[j]? = some f → Gd.ow w ((cur.toList.drop (j * Gd.n α)).take (Gd.n α)) x f
  loc := fun w w' fp ⟨g, cap, cur, fps, h1, h2, h3, h4, h5, h6, h7, h8, h9, h10⟩ hs => by
    subst h8
    exact ⟨g, cap, cur, fps, h1, by rw [hs g (by simp)]; exact h2, h3, h4, h5, h6, h7, rfl, h9, fun j x f hj hx hf =>
      Gd.ow_loc (h10 j x f hj hx hf) (fun k hk => hs k (List.mem_cons_of_mem _ (mem_of_idx hf hk)))⟩

/-- an element is taken out -/
theorem D_take {α : Type} [Gd α] [Tid α] {v : Value} {l : List α} {i : Nat} {x : α} (hi : l[i]? = some x) (k : ∀ es, D N w0 (ov es x :: hl v l i es :: H) L K) : D N w0 (ov [v] l :: H) L K := by
  intro a w hf hs
  obtain ⟨fp0, hok0, _⟩ := hs.at (k := 0) rfl
  rcases hok0 with ⟨_, e, _⟩ | ⟨g, cap, cur, fps, h1, h2, h3, h4, h5, h6, h7, h8⟩
  · subst e; simp at hi
  · simp only [List.cons.injEq, and_true] at h1
    subst h1
    refine k ((cur.toList.drop (i * Gd.n α)).take (Gd.n α)) a w hf (St.split (St.conv (c' := star _ _) hs ?_))
    intro fp hfp
    rcases hfp with ⟨e, _⟩ | ⟨g1, cap1, cur1, fps1, k1, k2, k3, k4, k5, k6, k7, k8⟩
    · simp at e
    · simp only [List.cons.injEq, and_true, Value.slice.injEq, Option.some.injEq, Addr.mk.injEq] at k1
      obtain ⟨e1, _, e2⟩ := k1
      subst e1; subst e2
      rw [h2] at k2
      simp only [Option.some.injEq, Obj.cells.injEq, true_and, and_true] at k2
      subst k2
      obtain ⟨f, hf2⟩ := some_of_lt (l := fps1) (i := i) (by rw [k7]; exact lt_of_some hi)
      refine ⟨f ++ (g :: (fps1.set i []).flatten), ⟨f, g :: (fps1.set i []).flatten, rfl, k8 i x f hi hf2, ?_⟩, ?_⟩
      · refine ⟨g, cap, cur, fps1.set i [], rfl, h2, k3, k4, k5, by simpa using k7, by rw [List.getElem?_set_self (lt_of_some hf2)], rfl, rfl, fun j y f' hj hy hf' => ?_⟩
        rw [List.getElem?_set_ne (fun e => hj e.symm)] at hf'
        exact k8 j y f' hy hf'
      · subst k6
        refine ((flatten_out hf2).cons g).trans ?_
        exact (List.perm_middle (l₁ := f) (l₂ := (fps1.set i []).flatten) (a := g)).symm

/-- and put back -/
theorem D_put {α : Type} [Gd α] [Tid α] {v : Value} {l : List α} {i : Nat} {x : α} {es : List Value} (k : D N w0 (ov [v] (l.set i x) :: H) L K) : D N w0 (ov es x :: hl v l i es :: H) L K := by
  intro a w hf hs
  refine k a w hf (St.conv (c := star (ov es x) (hl v l i es)) hs.star ?_)
  rintro fp ⟨f, f2, rfl, h1, g, cap, cur, fps, k1, k2, k3, k4, k5, k6, k7, k8, k9, k10⟩
  subst k8
  refine ⟨g :: (fps.set i f).flatten, .inr ⟨g, cap, cur, fps.set i f, by simpa using k1, k2, by simpa using k3, k4, k5, rfl, by simpa using k6, fun j y f' hy hf' => ?_⟩, ?_⟩
  · by_cases hj : j = i
    · subst hj
      have hlt : j < l.length := by have := lt_of_some hy; simpa using this
      rw [List.getElem?_set_self hlt] at hy
      rw [List.getElem?_set_self (by rw [k6]; exact hlt)] at hf'
      simp only [Option.some.injEq] at hy hf'
      subst hy; subst hf'
      rw [k9]; exact h1
    · rw [List.getElem?_set_ne (fun e => hj e.symm)] at hy hf'
      exact k10 j y f' hj hy hf'
  · refine List.Perm.trans ?_ ((flatten_in (f := f) k7).symm.cons g)
    exact List.perm_middle

theorem hl_at {α : Type} [Gd α] [Tid α] {v : Value} {l : List α} {i k n : Nat} {es : List Value} {w : World} (hn : Gd.n α = n) (hs : St w0 H w) (hk : H[k]? = some (hl v l i es)) : AtE w (elemA v (i * n)) es := by
  subst hn
  obtain ⟨fp, ⟨g, cap, cur, fps, h1, h2, h3, h4, h5, h6, h7, h8, h9, h10⟩, _⟩ := hs.at hk
  subst h1
  intro j u hu
  rw [← h9, List.getElem?_take] at hu
  split at hu
  · rw [List.getElem?_drop] at hu
    simp only [elemA]
    rw [add_add, add_none, Nat.zero_add, cell_of_heap h2]
    simpa using hu
  · cases hu

/-- the address of the element that is out -/
theorem D_ixh {α : Type} [Gd α] [Tid α] {t : TypeId} {e n b : Nat} {x i : Operand} {v : Value} {l : List α} {j : Nat} {es : List Value} {z : Int} (k : Nat) (ht : sliceTy P t = some (e, n, b)) (ho : o.op = .indexAddr t x i) (hx : ev L x = some v) (hi : ev L i = some (.int .i64 z))
    (hk : H[k]? = some (hl v l j es)) (hj : z = (j : Int)) : RunV P N w0 H L o (.pointer (some (elemA v (j * n)))) := by
  intro a w hf hs
  obtain ⟨fp, ⟨g, cap, cur, fps, h1, h2, h3, h4, h5, h6, h7, h8, h9, h10⟩, _⟩ := hs.at hk
  have hlt : j < l.length := by rw [← h6]; exact lt_of_some h7
  unfold execOp
  rw [ho]
  simp only [hf.ev hx, hf.ev hi]
  rw [Sem.run_bind, run_ix ht h1 (by omega) (by omega)]
  subst hj
  simp

theorem lh0 {α : Type} [Gd α] [Tid α] {t n : Nat} {x : Operand} {v u : Value} {l : List α} {j : Nat} {es : List Value} (k : Nat) (hn : Gd.n α = n) (ht : oneTy P t = true) (ho : o.op = .load t x) (hx : ev L x = some (.pointer (some (elemA v (j * n)))))
    (hk : H[k]? = some (hl v l j es)) (hv : es[0]? = some u) : RunV P N w0 H L o u :=
  D_ld1 ht ho hx (fun w hs => by have := hl_at hn hs hk 0 u hv; rwa [add_zero] at this)
theorem lh {α : Type} [Gd α] [Tid α] {t n f : Nat} {x : Operand} {v u : Value} {l : List α} {j : Nat} {es : List Value} (k : Nat) (hn : Gd.n α = n) (ht : oneTy P t = true) (ho : o.op = .load t x) (hx : ev L x = some (.pointer (some ((elemA v (j * n)).add f))))
    (hk : H[k]? = some (hl v l j es)) (hv : es[f]? = some u) : RunV P N w0 H L o u :=
  D_ld1 ht ho hx (fun w hs => hl_at hn hs hk f u hv)

/-- a store into a cell of the element that is out -/
theorem sh {α : Type} [Gd α] [Tid α] {t n f : Nat} {x y : Operand} {v u : Value} {l : List α} {j : Nat} {es : List Value} {p : Addr} (k : Nat) (hn : Gd.n α = n) (hz : sizeTy P t = some 1) (ho : o.op = .store t x y) (hx : ev L x = some (.pointer (some p))) (hp : p = (elemA v (j * n)).add f) (hy : ev L y = some u) (h1u : u.oneCell' = true) (hd : o.dst = none)
    (hk : H[k]? = some (hl v l j es)) (hf' : f < es.length) (r : D N w0 (H.set k (hl v l j (es.set f u))) L K) : D N w0 H L (fun a w => o.wp P a w K Q) := by
  subst hn
  refine D_gen0 hd (fun a w hf hs => ?_)
  obtain ⟨fp, ⟨g, cap, cur, fps, h1, h2, h3, h4, h5, h6, h7, h8, h9, h10⟩, hnd, hb, put⟩ := hs.set hk
  subst h1; subst h8
  have hjl : j < l.length := by rw [← h6]; exact lt_of_some h7
  have hesl : es.length = Gd.n α := by
    rw [← h9, List.length_take, List.length_drop, Array.length_toList, h5]
    have := Nat.mul_le_mul_right (Gd.n α) (show j + 1 ≤ cap by omega)
    rw [Nat.add_mul, Nat.one_mul] at this
    omega
  have hroom : j * Gd.n α + f + 1 ≤ cur.toList.length := by
    simp only [Array.length_toList, h5]
    have := Nat.mul_le_mul_right (Gd.n α) (show j + 1 ≤ cap by omega)
    rw [Nat.add_mul, Nat.one_mul] at this
    omega
  have hcur : cur.toList.toArray = cur := by simp
  have hadr : p = ⟨g, j * Gd.n α + f, none⟩ := by rw [hp]; simp only [elemA]; rw [add_add, add_none, Nat.zero_add]
  obtain ⟨w', hr, hh', kb, hsz⟩ := storeCells_bx (P := P) (g := g) (i := j * Gd.n α + f) (cur := cur.toList) (vs := [u]) (t := Tid.id α) (w := w) (by rw [hcur]; exact h2) (by simpa using hroom) (by simpa using h1u)
  have hg1 : g ∉ fps.flatten := (List.nodup_cons.1 hnd).1
  have hsame : ∀ q, q < w.heap.size → q ≠ g → w'.heap[q]? = w.heap[q]? := fun q hq hne => kb.block q hq (by simpa using hne)
  have hget : ∀ q, (cur.toList.take (j * Gd.n α + f) ++ [u] ++ cur.toList.drop (j * Gd.n α + f + [u].length))[q]? = if q = j * Gd.n α + f then some u else cur.toList[q]? := fun q => by
    rw [splice_get _ _ _ _ (by simpa using hroom)]
    by_cases e : q = j * Gd.n α + f
    · subst e
      rw [if_neg (by omega), if_pos (by simp), if_pos rfl]
      simp
    · rw [if_neg e]
      by_cases hq : q < j * Gd.n α + f
      · rw [if_pos hq]
      · rw [if_neg hq, if_neg (by simp; omega)]
  refine ⟨w', ?_, fun a' hf2 => r a' w' hf2 (put w' (hl (.slice (some ⟨g, 0, none⟩) l.length cap) l j (es.set f u)) (g :: fps.flatten) ⟨kb.os, kb.tape, kb.output, kb.size, fun q hq hnq => hsame q hq (fun e => hnq (by simp [e]))⟩ ?_ hnd
    (fun q hq => ⟨.inl hq, by rw [hsz]; exact (hb q hq).2⟩))⟩
  · have hcells : u.cells = #[u] := cells_of_one h1u
    unfold sizeTy at hz
    simp only [Option.map_eq_some_iff] at hz
    obtain ⟨ti, hi, hsz2⟩ := hz
    have hxe := hf.ev hx
    rw [hadr] at hxe
    unfold execOp
    rw [ho]
    simp [Instr.storeAt, Instr.sureAddr, storeVar, hxe, hf.ev hy, sizeOf, typeInfo, hi, hsz2, hcells, hr]
  · refine ⟨g, cap, _, fps, rfl, hh', h3, h4, ?_, h6, h7, rfl, ?_, fun q y f2 hq hy hf2 => ?_⟩
    · simp only [List.size_toArray, List.length_append, List.length_take, List.length_drop, List.length_singleton]
      simp only [Array.length_toList] at hroom ⊢
      omega
    · apply List.ext_getElem?
      intro q
      simp only [List.toList_toArray]
      rw [slice_get, hget, List.getElem?_set]
      by_cases hqn : q < Gd.n α
      · rw [if_pos hqn]
        by_cases hqf : f = q
        · subst hqf
          rw [if_pos rfl, if_pos rfl, if_pos (by omega)]
        · rw [if_neg (by omega), if_neg hqf, ← h9, slice_get, if_pos hqn]
      · rw [if_neg hqn]
        by_cases hqf : f = q
        · subst hqf; omega
        · rw [if_neg hqf, List.getElem?_eq_none (by omega)]
    · have e : (((cur.toList.take (j * Gd.n α + f) ++ [u] ++ cur.toList.drop (j * Gd.n α + f + [u].length)).toArray.toList.drop (q * Gd.n α)).take (Gd.n α)) = (cur.toList.drop (q * Gd.n α)).take (Gd.n α) := by
        apply List.ext_getElem?
        intro s
        simp only [List.toList_toArray]
        rw [slice_get, slice_get]
        by_cases hs : s < Gd.n α
        · rw [if_pos hs, if_pos hs, hget, if_neg]
          intro e
          rcases block_other hq hs with hb | hb
          · omega
          · omega
        · rw [if_neg hs, if_neg hs]
      rw [e]
      refine Gd.ow_loc (h10 q y f2 hq hy hf2) (fun g' hg' => hsame g' ((hb g' ?_).2) (fun e => hg1 (e ▸ mem_of_idx hf2 hg')))
      simp [mem_of_idx hf2 hg']

/-- a call that writes to an owned chunk in front -/
theorem cm {f : Nat} {as : List Operand} {vs : List Value} {tys : Array TypeId} {v : Value} {c c' : Chunk} (hb : hasBody P f = true)
    (ho : o.op = .call ⟨.value (.func f), as.toArray, tys⟩) (ha : evs L as = some vs) (hd : o.dst = some d) (hN : Nat.blt d N = true)
    (hc : ∀ w, St w0 (c :: H) w → Calls P f vs.toArray w fun e w' => e = .returned v ∧ St w0 (c' :: H) w')
    (k : D N w0 (c' :: H) ((d, v) :: L) K) : D N w0 (c :: H) L (fun a w => o.wp P a w K Q) :=
  D_call (σ := Unit) (val := fun _ => v) (H' := fun _ => c' :: H) (J := fun _ => True) hb ho ha hd hN
    (fun w hs => (hc w hs).mono fun _ _ ⟨he, hx⟩ => ⟨(), he, trivial, hx⟩) (fun _ _ => k)
end

theorem enterS {P : Program} {f : Nat} {fn : Func} {c : Code} {vs : List Value} {w0 w : World} {H : List Chunk} {R : Ending → World → Prop} (N : Nat) (hf : P.funcs[f]? = some fn) (hb : fn.body = some c) (hN : fn.ntmps = N) (hl : Nat.ble vs.length N = true) (hs : St w0 H w)
    (h : D N w0 H (args0 0 vs) (c.wp P (bodyPost P fn R))) : Calls P f vs.toArray w R := by
  refine calls_of_wp hf hb (h _ _ ?_ hs)
  have hl' := Nat.le_of_ble_eq_true hl
  refine ⟨rfl, by simp [hN]; omega, fun i v hv => ?_⟩
  obtain ⟨_, h2⟩ := look_args0 vs 0 i v hv
  simp only [Nat.sub_zero] at h2
  have hlt := lt_of_some h2
  simp only [Array.getD_eq_getD_getElem?]
  rw [Array.getElem?_append_left (by simpa using hlt)]
  simp [h2]
end Go.Sy
