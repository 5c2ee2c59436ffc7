/-
  Contracts of functions of the program, walked (printed by a program of ours).
  Conditions: those that each theorem states.
-/
import Derived.Test.YtkdghbglefhcjaaCur1
import Derived.Test.YtkdghbglefhcjaaOne
set_option linter.unusedVariables false
set_option maxRecDepth 20000
namespace Go.Sy.Law1
open Go Go.RowKit Go.Proofs Go.Sy
theorem mixed : Try.prog.follows .mixedOrders = true := by kernel_rfl
theorem s_22 : sliceTy Try.prog 22 = some (5, 1, 1) := by kernel_rfl
open Go.Sy.Bel1 Go.Sy.Bel2 Go.Sy.Bel3 Go.Sy.Bel4 Go.Sy.Bel5 Go.Sy.Bel6 Go.Sy.Bel7 Go.Sy.Bel8 Go.Sy.Bel9 Go.Sy.Belb Go.Sy.Beld Go.Sy.Cur1
theorem laws_big (w : World) (v_code : Value) (code : (List UInt8)) (h_code : Gd.rd w [v_code] code) : Calls Try.prog 6 [v_code].toArray w (Val w (.bool (decide (4096 < code.length)))) := by
  have hm1 := rd_max h_code
  refine enter 6 Try.func6 rfl rfl rfl ?_
  refine C_seq ?_
  refine C_reg ?_
  refine p1 rfl ?_
  refine D_end ?_
  refine x_then ?_
  refine C_seq ?_
  refine C_reg ?_
  refine p1 rfl ?_
  refine q1 rfl (D_len s_22 rfl rfl (rd_sl h_code)) ?_
  refine p1 rfl <| p1 rfl ?_
  refine D_end ?_
  refine x_then ?_
  refine C_ret ?_
  refine R_1 rfl rfl fun w' hs => ⟨congrArg (fun z => Ending.returned (Value.bool z)) ?_, hs.bel⟩
  show ((decide ((4096 : Int) < ((code.length : Nat) : Int))) : Bool) = decide (4096 < code.length)
  first | rfl | (simp; omega)
end Go.Sy.Law1
