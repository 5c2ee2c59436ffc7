/-
  The data of the chapters on beliefs, as plain Lean structures.
  Conditions: none.
-/
namespace Go.Sy

/-- int64's wrap -/
def wr (z : Int) : Int := (z + 9223372036854775808) % 18446744073709551616 - 9223372036854775808
theorem wr_in {z : Int} (h : -9223372036854775808 ≤ z ∧ z ≤ 9223372036854775807) : wr z = z := by unfold wr; omega
theorem wr_range (z : Int) : -9223372036854775808 ≤ wr z ∧ wr z ≤ 9223372036854775807 := by unfold wr; omega

structure Reason where
  For : Int
  In : List Int
  Out : List Int
instance : Inhabited Reason := ⟨⟨default, default, default⟩⟩
instance : DecidableEq Reason := fun a b => decidable_of_iff (a.For = b.For ∧ a.In = b.In ∧ a.Out = b.Out) (by cases a; cases b; simp)

structure Beliefs where
  Nodes : Int
  Reasons : List Reason
instance : Inhabited Beliefs := ⟨⟨default, default⟩⟩
instance : DecidableEq Beliefs := fun a b => decidable_of_iff (a.Nodes = b.Nodes ∧ a.Reasons = b.Reasons) (by cases a; cases b; simp)

structure Frame where
  Beliefs : Beliefs
  Assumed : List Int
  Bad : List Int
instance : Inhabited Frame := ⟨⟨default, default, default⟩⟩
instance : DecidableEq Frame := fun a b => decidable_of_iff (a.Beliefs = b.Beliefs ∧ a.Assumed = b.Assumed ∧ a.Bad = b.Bad) (by cases a; cases b; simp)

end Go.Sy
