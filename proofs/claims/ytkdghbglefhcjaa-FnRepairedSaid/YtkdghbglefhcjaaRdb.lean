/-
  How the arguments of the laws read.
  Conditions: none.
-/
import Derived.Test.YtkdghbglefhcjaaRow
import Derived.Test.YtkdghbglefhcjaaTypes
namespace Go.Sy
open Go Go.Proofs Go.ChangeShapes Go.WideShapes Go.ChangeAt Go.RowKit Go.Deep
theorem laidOut : laidOutB Try.prog = true := by kernel_rfl
theorem len_1 {α : Type} {l : List α} (h : l.length = 1) : ∃ a, l = [a] := List.length_eq_one_iff.1 h
theorem len_2 {α : Type} {l : List α} (h : l.length = 2) : ∃ a b, l = [a, b] := by
  match l, h with
  | [a, b], _ => exact ⟨a, b, rfl⟩
theorem len_3 {α : Type} {l : List α} (h : l.length = 3) : ∃ a b c, l = [a, b, c] := by
  match l, h with
  | [a, b, c], _ => exact ⟨a, b, c, rfl⟩
theorem len_4 {α : Type} {l : List α} (h : l.length = 4) : ∃ a b c d, l = [a, b, c, d] := by
  match l, h with
  | [a, b, c, d], _ => exact ⟨a, b, c, d, rfl⟩
def structOf (P : Program) (t : Nat) : Option Nat := match P.underlying t with | some (.struct _) => some (P.cellsOf t) | _ => none
def fieldOf (P : Program) (t i : Nat) : Option (Nat × Nat × Nat) := match P.underlying t with | some (.struct fs) => (fs[i]?).map (fun f => (f.type, f.offset, P.cellsOf f.type)) | _ => none
theorem trod_fields {H : Type} {enc : TypeId × Value → H} {P : Program} {w : World} {base : Nat} {spare : Nat → Bool} {held : Bool} {fuel t k : Nat} {cs : List Value} {x : DataW H × List MemPlace} (hk : structOf P t = some k) (h : DataW.trod enc P w base spare held fuel t cs = some x) :
    cs.length = k ∧ ∀ i ft off sz, fieldOf P t i = some (ft, off, sz) → ∃ n y, DataW.trod enc P w base spare held n ft ((cs.drop off).take sz) = some y := by
  unfold structOf at hk
  split at hk
  · rename_i fs hu
    simp only [Option.some.injEq] at hk
    obtain ⟨xs, n, _, _, hlen, hxl, hf⟩ := DataW.trod_struct hu h
    refine ⟨hlen.trans hk, fun i ft off sz hi => ?_⟩
    unfold fieldOf at hi
    rw [hu] at hi
    simp only [Option.map_eq_some_iff, Prod.mk.injEq] at hi
    obtain ⟨f, hfi, rfl, rfl, rfl⟩ := hi
    have hlt : i < xs.length := by rw [hxl]; exact (Array.getElem?_eq_some_iff.1 hfi).1
    exact ⟨n, xs[i], (hf i f hfi).trans (List.getElem?_eq_getElem hlt)⟩
  · cases hk
def fieldsOf (P : Program) (t : Nat) : Array Field := match P.underlying t with | some (.struct fs) => fs | _ => #[]
def fieldAt (P : Program) (t i : Nat) : Field := (fieldsOf P t).getD i default
theorem u_int : Try.prog.underlying 3 = some (.int .i64) := by kernel_rfl

instance : Dk UInt8 := ⟨fun _ => True⟩
theorem rdb5 : Rdb Try.prog 5 UInt8 := by
  intro H enc w base spare held fuel cs x h
  obtain ⟨n, rfl, _, hwf⟩ := DataW.trod_int (k := .u8) (by kernel_rfl) h
  have h2 : 0 ≤ n ∧ n ≤ 255 := by simpa [Lit.wf, IntKind.min, IntKind.max, IntKind.signed, IntKind.bits] using hwf
  obtain ⟨m, rfl⟩ := Int.eq_ofNat_of_zero_le h2.1
  have h3 : m < 256 := by omega
  have e : (UInt8.ofNat m).toNat = m := by rw [UInt8.toNat_ofNat']; exact Nat.mod_eq_of_lt h3
  refine ⟨UInt8.ofNat m, ?_, trivial⟩
  show [_] = [Value.int .u8 ((UInt8.ofNat m).toNat : Int)]
  rw [e]

theorem rdb22 : Rdb Try.prog 22 (List UInt8) := rdb_list (α := UInt8) (e := 5) (by kernel_rfl) (by kernel_rfl) rdb5
end Go.Sy
