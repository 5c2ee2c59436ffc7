/-
  Lists and tables given by functions of the place.
  Conditions: none.
-/
import Derived.Test.YtkdghbglefhcjaaMx
import Derived.Laws.Tables
namespace Go.Sy
open Go Go.RowKit

def vec {α : Type} (n : Nat) (g : Nat → α) : List α := (List.range n).map g
abbrev mat {α : Type} (n : Nat) (f : Nat → Nat → α) : List (List α) := vec n (fun i => vec n (f i))
def upd {α : Type} (g : Nat → α) (j : Nat) (b : α) : Nat → α := fun i => if i = j then b else g i
def upd2 {α : Type} (f : Nat → Nat → α) (i j : Nat) (b : α) : Nat → Nat → α := upd f i (upd (f i) j b)

theorem vec_len {α : Type} (n : Nat) (g : Nat → α) : (vec n g).length = n := by simp [vec]
theorem vec_get {α : Type} {n j : Nat} {g : Nat → α} (h : j < n) : (vec n g)[j]? = some (g j) := by simp [vec, h]
theorem vec_rep {α : Type} (n : Nat) (z : α) : List.replicate n z = vec n (fun _ => z) := by
  apply List.ext_getElem?
  intro i
  by_cases h : i < n
  · rw [vec_get h, List.getElem?_replicate, if_pos h]
  · rw [List.getElem?_eq_none (by simp; omega), List.getElem?_eq_none (by rw [vec_len]; omega)]
theorem vec_congr {α : Type} {n : Nat} {g h : Nat → α} (e : ∀ i, i < n → g i = h i) : vec n g = vec n h := by
  unfold vec
  apply List.map_congr_left
  intro i hi
  exact e i (by simpa using hi)
theorem vec_set {α : Type} (n j : Nat) (g : Nat → α) (b : α) : (vec n g).set j b = vec n (upd g j b) := by
  apply List.ext_getElem?
  intro i
  rw [List.getElem?_set]
  by_cases h : i < n
  · rw [vec_get h, vec_get h]
    unfold upd
    by_cases e : j = i
    · subst e
      rw [if_pos rfl, if_pos (by rw [vec_len]; exact h), if_pos rfl]
    · rw [if_neg e, if_neg (fun e2 => e e2.symm)]
  · rw [List.getElem?_eq_none (l := vec n (upd g j b)) (by rw [vec_len]; omega)]
    split
    · rw [if_neg (by rw [vec_len]; omega)]
    · exact List.getElem?_eq_none (by rw [vec_len]; omega)
theorem mat_set {α : Type} (n i j : Nat) (f : Nat → Nat → α) (b : α) : (mat n f).set i ((vec n (f i)).set j b) = mat n (upd2 f i j b) := by
  rw [vec_set, vec_set]
  refine vec_congr fun k _ => ?_
  unfold upd2 upd
  split <;> rfl
theorem upd_self {α : Type} (g : Nat → α) (j : Nat) (b : α) : upd g j b j = b := by simp [upd]
theorem upd_ne {α : Type} {g : Nat → α} {i j : Nat} {b : α} (h : i ≠ j) : upd g j b i = g i := by simp [upd, h]

section
variable {P : Program} {N : Nat} {w0 : World} {H : List Chunk} {L : Fm} {o : Oper}
theorem lenv {α : Type} [Gd α] [Tid α] {t : TypeId} {x : Operand} {v : Value} {l : List α} {n : Nat} {e3 : Nat × Nat × Nat} (ht : sliceTy P t = some e3) (ho : o.op = .call ⟨.builtin .len, #[x], #[t]⟩) (hx : ev L x = some v)
    (hr : ∀ w, St w0 H w → Gd.rd w [v] l) (hl : l.length = n) : RunV P N w0 H L o (.int .i64 (n : Int)) := hl ▸ D_lenr ht ho hx hr
end

/-! ### a struct is built -/
def placeTy (P : Program) (t : Nat) : Option (List (Nat × Nat) × List Value) :=
  match P.info? t, P.underlying t with
  | some it, some (.struct fields) => match it.zero, fields.toList.mapM (fun f => (P.info? f.type).map fun i => (f.offset, i.size)) with
    | some z, some pl => some (pl, z.cells.toList)
    | _, _ => none
  | _, _ => none
def fillL (pl : List (Nat × Nat)) : List Value → List (Nat × List Value) → Option (List Value)
  | c, [] => some c
  | c, (i, xs) :: rest => match pl[i]? with
    | none => none
    | some (off, size) => bif Nat.beq xs.length size && Nat.ble (off + xs.length) c.length then fillL pl (c.take off ++ xs ++ c.drop (off + xs.length)) rest else none
def CellsOf : List (Nat × Value) → List (Nat × List Value) → Prop
  | [], [] => True
  | (i, v) :: a, (j, c) :: b => i = j ∧ v.cells = c.toArray ∧ CellsOf a b
  | _, _ => False

theorem foldSet (q off : Nat) : ∀ (l : List Value) (p : Nat) (acc : Array Value), ((l.zipIdx p).foldl (fun (c : Array Value) x => c.setIfInBounds (off + x.2) x.1) acc)[q]? = if off + p ≤ q ∧ q < off + p + l.length ∧ q < acc.size then l[q - (off + p)]? else acc[q]? := by
  intro l
  induction l with
  | nil =>
    intro p acc
    simp only [List.zipIdx_nil, List.foldl_nil, List.length_nil]
    rw [if_neg (by omega)]
  | cons u l ih =>
    intro p acc
    simp only [List.zipIdx_cons, List.foldl_cons]
    rw [ih]
    simp only [Array.size_setIfInBounds, List.length_cons]
    by_cases h1 : off + (p + 1) ≤ q ∧ q < off + (p + 1) + l.length ∧ q < acc.size
    · rw [if_pos h1, if_pos (by omega)]
      have : q - (off + p) = (q - (off + (p + 1))) + 1 := by omega
      rw [this, List.getElem?_cons_succ]
    · rw [if_neg h1]
      by_cases h2 : off + p = q
      · subst h2
        by_cases h3 : off + p < acc.size
        · rw [if_pos (by omega)]
          simp [h3]
        · rw [if_neg (by omega)]
          rw [Array.getElem?_eq_none (by simp; omega), Array.getElem?_eq_none (by omega)]
      · rw [Array.getElem?_setIfInBounds_ne h2, if_neg (by omega)]

theorem fill_L {pl : List (Nat × Nat)} : ∀ {vs : List (Nat × Value)} {xs : List (Nat × List Value)} {c cs : List Value}, CellsOf vs xs → fillL pl c xs = some cs → Instr.fill (pl.toArray[·]?) c.toArray vs = some cs.toArray
  | [], [], c, cs, _, h => by
    simp only [fillL, Option.some.injEq] at h
    subst h; rfl
  | (i, v) :: vs, (j, x) :: xs, c, cs, hc, h => by
    obtain ⟨rfl, hv, hc⟩ := hc
    simp only [fillL] at h
    unfold Instr.fill
    simp only [List.getElem?_toArray]
    cases hp : pl[i]? with
    | none => rw [hp] at h; cases h
    | some os =>
      obtain ⟨off, size⟩ := os
      rw [hp] at h
      simp only at h ⊢
      cases hb : Nat.beq x.length size && Nat.ble (off + x.length) c.length with
      | false => rw [hb] at h; cases h
      | true =>
        rw [hb] at h
        simp only [cond_true] at h
        rw [Bool.and_eq_true] at hb
        have h1 : x.length = size := Nat.eq_of_beq_eq_true hb.1
        have h2 : off + x.length ≤ c.length := Nat.le_of_ble_eq_true hb.2
        rw [hv]
        rw [if_neg (by simp [h1]; omega)]
        have e : (x.toArray.zipIdx.foldl (fun (cs : Array Value) (y : Value × Nat) => cs.setIfInBounds (off + y.2) y.1) c.toArray) = (c.take off ++ x ++ c.drop (off + x.length)).toArray := by
          rw [← Array.foldl_toList]
          have hzip : x.toArray.zipIdx.toList = x.zipIdx 0 := by simp
          rw [hzip]
          apply Array.ext_getElem?
          intro q
          rw [foldSet]
          simp only [Nat.add_zero, List.size_toArray, List.getElem?_toArray]
          rw [splice_get _ _ _ _ h2]
          by_cases h3 : q < off
          · rw [if_neg (by omega), if_pos h3]
          · rw [if_neg h3]
            by_cases h4 : q < off + x.length
            · rw [if_pos (by omega), if_pos h4]
            · rw [if_neg (by omega), if_neg h4]
        have e' : (x.toArray.zipIdx.foldl (fun (cs : Array Value) (y : Value × Nat) => match y with | (c, j) => cs.setIfInBounds (off + j) c) c.toArray) = (c.take off ++ x ++ c.drop (off + x.length)).toArray := e
        rw [e']
        have hq := fill_L hc h
        simpa using hq
  | [], _ :: _, _, _, hc, _ => hc.elim
  | _ :: _, [], _, _, hc, _ => hc.elim

section
variable {P : Program} {N : Nat} {w0 : World} {H : List Chunk} {L : Fm} {o : Oper}
theorem D_built {t : TypeId} {ps : List (Nat × Operand)} {vs : List (Nat × Value)} {xs : List (Nat × List Value)} {cs z : List Value} {pl : List (Nat × Nat)} (ht : placeTy P t = some (pl, z)) (hev : evp L ps = some vs) (hc : CellsOf vs xs) (hf : fillL pl z xs = some cs) (ho : o.op = .build t ps.toArray) : RunV P N w0 H L o (.agg cs.toArray) := by
  refine D_build hev (fun w => run_build w t vs.toArray cs.toArray ?_) ho
  unfold placeTy at ht
  unfold Program.built
  split at ht
  · rename_i it fields h1 h2
    rw [h1, h2]
    simp only
    split at ht
    · rename_i zv pl' h3 h4
      simp only [Option.some.injEq, Prod.mk.injEq] at ht
      obtain ⟨rfl, rfl⟩ := ht
      rw [h3, h4]
      simp only
      have := fill_L hc hf
      simpa using this
    · cases ht
  · cases ht
end
end Go.Sy
