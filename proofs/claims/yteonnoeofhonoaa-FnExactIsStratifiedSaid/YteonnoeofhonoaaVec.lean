/-
  Lists and tables given by functions of the place.
  Conditions: none.
-/
import Derived.Test.YteonnoeofhonoaaMx
namespace Go.Sy
open Go Go.RowKit

def vec {α : Type} (n : Nat) (g : Nat → α) : List α := (List.range n).map g
abbrev mat {α : Type} (n : Nat) (f : Nat → Nat → α) : List (List α) := vec n (fun i => vec n (f i))
def upd {α : Type} (g : Nat → α) (j : Nat) (b : α) : Nat → α := fun i => if i = j then b else g i
def upd2 {α : Type} (f : Nat → Nat → α) (i j : Nat) (b : α) : Nat → Nat → α := upd f i (upd (f i) j b)

theorem vec_len {α : Type} (n : Nat) (g : Nat → α) : (vec n g).length = n := by simp [vec]
theorem vec_get {α : Type} {n j : Nat} {g : Nat → α} (h : j < n) : (vec n g)[j]? = some (g j) := by simp [vec, h]
theorem vec_rep {α : Type} (n : Nat) (z : α) : List.replicate n z = vec n (fun _ => z) := by
  apply List.ext_getElem?
  intro i
  by_cases h : i < n
  · rw [vec_get h, List.getElem?_replicate, if_pos h]
  · rw [List.getElem?_eq_none (by simp; omega), List.getElem?_eq_none (by rw [vec_len]; omega)]
theorem vec_congr {α : Type} {n : Nat} {g h : Nat → α} (e : ∀ i, i < n → g i = h i) : vec n g = vec n h := by
  unfold vec
  apply List.map_congr_left
  intro i hi
  exact e i (by simpa using hi)
theorem vec_set {α : Type} (n j : Nat) (g : Nat → α) (b : α) : (vec n g).set j b = vec n (upd g j b) := by
  apply List.ext_getElem?
  intro i
  rw [List.getElem?_set]
  by_cases h : i < n
  · rw [vec_get h, vec_get h]
    unfold upd
    by_cases e : j = i
    · subst e
      rw [if_pos rfl, if_pos (by rw [vec_len]; exact h), if_pos rfl]
    · rw [if_neg e, if_neg (fun e2 => e e2.symm)]
  · rw [List.getElem?_eq_none (l := vec n (upd g j b)) (by rw [vec_len]; omega)]
    split
    · rw [if_neg (by rw [vec_len]; omega)]
    · exact List.getElem?_eq_none (by rw [vec_len]; omega)
theorem mat_set {α : Type} (n i j : Nat) (f : Nat → Nat → α) (b : α) : (mat n f).set i ((vec n (f i)).set j b) = mat n (upd2 f i j b) := by
  rw [vec_set, vec_set]
  refine vec_congr fun k _ => ?_
  unfold upd2 upd
  split <;> rfl
theorem upd_self {α : Type} (g : Nat → α) (j : Nat) (b : α) : upd g j b j = b := by simp [upd]
theorem upd_ne {α : Type} {g : Nat → α} {i j : Nat} {b : α} (h : i ≠ j) : upd g j b i = g i := by simp [upd, h]

section
variable {P : Program} {N : Nat} {w0 : World} {H : List Chunk} {L : Fm} {o : Oper}
theorem lenv {α : Type} [Gd α] [Tid α] {t : TypeId} {x : Operand} {v : Value} {l : List α} {n : Nat} {e3 : Nat × Nat × Nat} (ht : sliceTy P t = some e3) (ho : o.op = .call ⟨.builtin .len, #[x], #[t]⟩) (hx : ev L x = some v)
    (hr : ∀ w, St w0 H w → Gd.rd w [v] l) (hl : l.length = n) : RunV P N w0 H L o (.int .i64 (n : Int)) := hl ▸ D_lenr ht ho hx hr
end
end Go.Sy
