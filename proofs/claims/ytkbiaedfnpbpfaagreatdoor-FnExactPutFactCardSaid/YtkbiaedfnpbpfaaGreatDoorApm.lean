/-
  Lists of structs appended to lists: copied where their elements are flat, moved where they are owned; lists whose elements move out.
  Conditions: none.
-/
import Derived.Test.YtkbiaedfnpbpfaaGreatDoorOwn2
namespace Go.Sy
open Go Go.RowKit
def blk (g : Nat) (ob : Obj) : Chunk where
  ok w fp := fp = [g] ∧ w.heap[g]? = some ob
  loc := fun w w' fp ⟨h1, h2⟩ hs => by
    subst h1
    exact ⟨rfl, by rw [hs g (by simp)]; exact h2⟩
section
variable {P : Program} {N : Nat} {w0 : World} {H : List Chunk} {L : Fm} {ops : Array Oper} {Q : Exit → Act → World → Prop} {o : Oper} {rest : List Oper} {d : Nat} {K : Act → World → Prop}
/-- a list of flat structs is copied behind a list -/
class Flt (α : Type) [Gd α] where
  flat : ∀ {w w' : World} {cs : List Value} {x : α}, Gd.rd w cs x → Gd.ow w' cs x []
/-! ### lists whose elements move out, one behind another -/
inductive Mo (α : Type) where
  | no : Mo α
  | so : α → Mo α
instance instMo {α : Type} [Gd α] : Gd (Mo α) where
  n := Gd.n α
  st := Gd.st α
  rd := fun w cs x => cs.length = Gd.n α ∧ (∀ u ∈ cs, u.oneCell' = true) ∧ ∀ y, x = .so y → Gd.rd w cs y
  ow := fun w cs x fp => cs.length = Gd.n α ∧ (∀ u ∈ cs, u.oneCell' = true) ∧ (x = .no → fp = []) ∧ ∀ y, x = .so y → Gd.ow w cs y fp
  rd_len := fun h => h.1
  rd_one := fun h => h.2.1
  rd_sub := fun e h => ⟨h.1, h.2.1, fun y hy => Gd.rd_sub e (h.2.2 y hy)⟩
  ow_loc := fun h hs => ⟨h.1, h.2.1, h.2.2.1, fun y hy => Gd.ow_loc (h.2.2.2 y hy) hs⟩
  ow_lt := fun {w cs x fp} h g hg => by
    cases x with
    | no => rw [h.2.2.1 rfl] at hg; cases hg
    | so y => exact Gd.ow_lt (h.2.2.2 y rfl) g hg
  ow_rd := fun h => ⟨h.1, h.2.1, fun y hy => Gd.ow_rd (h.2.2.2 y hy)⟩
instance {α : Type} [Tid α] : Tid (Mo α) := ⟨Tid.id α⟩
def mvT {α : Type} (l : List α) (k : Nat) : List (Mo α) := (l.take k).map (fun _ => .no) ++ (l.drop k).map .so
theorem mvT_len {α : Type} (l : List α) (k : Nat) : (mvT l k).length = l.length := by
  unfold mvT
  simp only [List.length_append, List.length_map, List.length_take, List.length_drop]
  omega
theorem mvT_zero {α : Type} (l : List α) : mvT l 0 = l.map .so := by simp [mvT]
theorem mvT_get {α : Type} {l : List α} {k : Nat} {x : α} (h : l[k]? = some x) : (mvT l k)[k]? = some (.so x) := by
  have hlt := lS h
  unfold mvT
  rw [List.getElem?_append_right (by simp; omega)]
  simp only [List.length_map, List.length_take, Nat.min_eq_left (Nat.le_of_lt hlt), Nat.sub_self, List.getElem?_map, List.getElem?_drop, Nat.add_zero, h]
  rfl
theorem mvT_set {α : Type} {l : List α} {k : Nat} (h : k < l.length) : (mvT l k).set k .no = mvT l (k + 1) := by
  have hd : l.drop k = l[k] :: l.drop (k + 1) := List.drop_eq_getElem_cons h
  have ht : l.take (k + 1) = l.take k ++ [l[k]] := by
    rw [List.take_add_one, List.getElem?_eq_getElem h]; rfl
  unfold mvT
  rw [hd, ht, List.set_append_right _ _ (by simp; omega)]
  have e : k - ((l.take k).map (fun _ => (Mo.no : Mo α))).length = 0 := by simp; omega
  rw [e, List.map_cons, List.set_cons_zero, List.map_append, List.append_assoc]
  rfl
theorem D_mo {α : Type} [Gd α] [Tid α] {v : Value} {l : List α} (k : D N w0 (ov [v] (mvT l 0) :: H) L K) : D N w0 (ov [v] l :: H) L K := by
  intro a w hf hs
  refine k a w hf (St.conv hs ?_)
  intro fp hfp
  refine ⟨fp, ?_, List.Perm.refl _⟩
  rcases hfp with ⟨h1, h2, h3⟩ | ⟨g, cap, cur, fps, h1, h2, h3, h4, h5, h6, h7, h8⟩
  · subst h2
    exact .inl ⟨h1, rfl, h3⟩
  · refine .inr ⟨g, cap, cur, fps, by rw [mvT_len]; exact h1, h2, by rw [mvT_len]; exact h3, h4, h5, h6, by rw [mvT_len]; exact h7, fun i x f hx hf => ?_⟩
    rw [mvT_zero, List.getElem?_map] at hx
    simp only [Option.map_eq_some_iff] at hx
    obtain ⟨y, hy, rfl⟩ := hx
    have ho := h8 i y f hy hf
    refine ⟨cells_len ho, cells_one ho, ?_, ?_⟩
    · intro e; cases e
    · intro z hz; cases hz; exact ho
theorem D_mt {α : Type} [Gd α] [Tid α] {v : Value} {l : List α} {i : Nat} {x : α} (hi : l[i]? = some x) (k : ∀ es, D N w0 (ov es x :: hl v (mvT l i) i es :: H) L K) : D N w0 (ov [v] (mvT l i) :: H) L K := by
  refine D_take (mvT_get hi) fun es => ?_
  intro a w hf hs
  refine k es a w hf (St.conv hs ?_)
  intro fp hfp
  exact ⟨fp, hfp.2.2.2 x rfl, List.Perm.refl _⟩
theorem D_mn {α : Type} [Gd α] [Tid α] {v : Value} {l : List α} {i : Nat} {es : List Value} (hi : i < l.length) (h1 : ∀ u ∈ es, u.oneCell' = true) (hl_ : es.length = Gd.n α) (k : D N w0 (ov [v] (mvT l (i + 1)) :: H) L K) : D N w0 (hl v (mvT l i) i es :: H) L K := by
  intro a w hf hs
  have h2 : D N w0 (ov es (Mo.no : Mo α) :: hl v (mvT l i) i es :: H) L K := D_put (x := (Mo.no : Mo α)) (by
    have e : (mvT l i).set i (Mo.no : Mo α) = mvT l (i + 1) := mvT_set hi
    rw [e]; exact k)
  exact h2 a w hf (hs.nul (c := ov es (Mo.no : Mo α)) ⟨hl_, h1, fun _ => rfl, fun y hy => by cases hy⟩)
theorem lhs {α : Type} [Gd α] [Tid α] {t n f m : Nat} {x : Operand} {v : Value} {l : List α} {j : Nat} {es fs : List Value} (k : Nat) (hn : Gd.n α = n) (ht : aggTy P t = some fs.length) (ho : o.op = .load t x) (hx : ev L x = some (.pointer (some ((elemA v (j * n)).add f))))
    (hk : H[k]? = some (hl v l j es)) (he : (es.drop f).take m = fs) : RunV P N w0 H L o (.agg fs.toArray) := D_ldA ht ho hx (fun _ hs => at_sub (hl_at hn hs hk) he)
/-! ### a struct behind a pointer -/
def pb {α : Type} [Gd α] (g : Nat) (x : α) : Chunk where
  ok w fp := ∃ cs, (star (bx g cs) (ov cs x)).ok w fp
  loc := fun w w' fp ⟨cs, h⟩ hs => ⟨cs, (star (bx g cs) (ov cs x)).loc w w' fp h hs⟩
theorem D_pbc {α : Type} [Gd α] {g : Nat} {cs : List Value} {x : α} (k : D N w0 (pb g x :: H) L K) : D N w0 (bx g cs :: ov cs x :: H) L K := fun a w hf hs =>
  k a w hf (St.conv hs.star fun fp h => ⟨fp, ⟨cs, h⟩, List.Perm.refl _⟩)
theorem D_pbo {α : Type} [Gd α] {g : Nat} {x : α} (k : ∀ cs, D N w0 (bx g cs :: ov cs x :: H) L K) : D N w0 (pb g x :: H) L K := by
  intro a w hf hs
  obtain ⟨fp, ⟨cs, hc⟩, hn, hb, put⟩ := hs.set (k := 0) rfl
  exact k cs a w hf (put w (star (bx g cs) (ov cs x)) fp (Kb.of_ex (Ex.refl w)) hc hn (fun q hq => ⟨.inl hq, (hb q hq).2⟩)).split
theorem res_0 {fn : Func} (hr : fn.results = #[]) (tmps : Array Value) (w : World) : (results fn tmps).run P w = .ok (.tuple #[]) w := by
  rw [results_resv, hr]; simp [Sem.run_bind, Sem.run_pure]
theorem Rn {fn : Func} {R : Ending → World → Prop} (hr : fn.results = #[]) (h : ∀ w, St w0 H w → R (.returned (.tuple #[])) w) : D N w0 H L (bodyPost P fn R .normal) :=
  fun a w hf hs => bodyPost_end (res_0 hr _ _) hf.dfr (h w hs)
end
end Go.Sy
