/-
  Lists of structs appended to lists: copied where their elements are flat, moved where they are owned; lists whose elements move out.
  Conditions: none.
-/
import Derived.Test.YtobihkjhlopggaaGreatDoorOwn2
namespace Go.Sy
open Go Go.RowKit
section
variable {P : Program} {N : Nat} {w0 : World} {H : List Chunk} {L : Fm} {ops : Array Oper} {Q : Exit → Act → World → Prop} {o : Oper} {rest : List Oper} {d : Nat} {K : Act → World → Prop}
/-- a list of flat structs is copied behind a list -/
class Flt (α : Type) [Gd α] where
  flat : ∀ {w w' : World} {cs : List Value} {x : α}, Gd.rd w cs x → Gd.ow w' cs x []
/-! ### lists whose elements move out, one behind another -/
inductive Mo (α : Type) where
  | no : Mo α
  | so : α → Mo α
instance instMo {α : Type} [Gd α] : Gd (Mo α) where
  n := Gd.n α
  st := Gd.st α
  rd := fun w cs x => cs.length = Gd.n α ∧ (∀ u ∈ cs, u.oneCell' = true) ∧ ∀ y, x = .so y → Gd.rd w cs y
  ow := fun w cs x fp => cs.length = Gd.n α ∧ (∀ u ∈ cs, u.oneCell' = true) ∧ (x = .no → fp = []) ∧ ∀ y, x = .so y → Gd.ow w cs y fp
  rd_len := fun h => h.1
  rd_one := fun h => h.2.1
  rd_sub := fun e h => ⟨h.1, h.2.1, fun y hy => Gd.rd_sub e (h.2.2 y hy)⟩
  ow_loc := fun h hs => ⟨h.1, h.2.1, h.2.2.1, fun y hy => Gd.ow_loc (h.2.2.2 y hy) hs⟩
  ow_lt := fun {w cs x fp} h g hg => by
    cases x with
    | no => rw [h.2.2.1 rfl] at hg; cases hg
    | so y => exact Gd.ow_lt (h.2.2.2 y rfl) g hg
  ow_rd := fun h => ⟨h.1, h.2.1, fun y hy => Gd.ow_rd (h.2.2.2 y hy)⟩
instance {α : Type} [Tid α] : Tid (Mo α) := ⟨Tid.id α⟩
/-! ### a struct behind a pointer -/
/-! ### a list behind a list, both of frozen elements -/
instance instFltZ {wb : World} {α : Type} [Gd α] : Flt (Z wb α) := ⟨fun h => ⟨h, rfl⟩⟩
/-! ### calls whose results are frozen, of functions that read tables -/
end
end Go.Sy
