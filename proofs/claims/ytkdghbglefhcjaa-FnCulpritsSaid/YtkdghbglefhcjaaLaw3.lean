/-
  Contracts of functions of the program, walked (printed by a program of ours).
  Conditions: those that each theorem states.
-/
import Derived.Test.YtkdghbglefhcjaaLaw1
import Derived.Test.YtkdghbglefhcjaaLw2
import Derived.Test.YtkdghbglefhcjaaReb
set_option linter.unusedVariables false
set_option maxRecDepth 20000
namespace Go.Sy.Law3
open Go Go.RowKit Go.Proofs Go.Sy
theorem mixed : Try.prog.follows .mixedOrders = true := by kernel_rfl
theorem s_22 : sliceTy Try.prog 22 = some (5, 1, 1) := by kernel_rfl
theorem o_5 : oneTy Try.prog 5 = true := by kernel_rfl
theorem ui_3 : Try.prog.underlying 3 = some (.int .i64) := by kernel_rfl
theorem u8_5 : Try.prog.underlying 5 = some (.int .u8) := by kernel_rfl
open Go.Sy.Bel1 Go.Sy.Bel2 Go.Sy.Bel3 Go.Sy.Bel4 Go.Sy.Bel5 Go.Sy.Bel6 Go.Sy.Bel7 Go.Sy.Bel8 Go.Sy.Bel9 Go.Sy.Belb Go.Sy.Belc Go.Sy.Beld Go.Sy.Cur1 Go.Sy.Law1
theorem laws_at (w : World) (v_code : Value) (code : (List UInt8)) (i : Int) (h_code : Gd.rd w [v_code] code) (h0 : 0 ≤ i) : Calls Try.prog 8 [v_code, (.int .i64 i)].toArray w (Val w (.int .i64 (atC code i))) := by
  have hm1 := rd_max h_code
  refine enter 14 Try.func8 rfl rfl rfl ?_
  refine C_seq ?_
  refine C_reg ?_
  refine p1 rfl ?_
  refine D_end ?_
  refine x_then ?_
  refine C_seq ?_
  refine C_seq ?_
  refine C_reg ?_
  refine p1 rfl <| p1 rfl ?_
  refine q1 rfl (D_len s_22 rfl rfl (rd_sl h_code)) ?_
  refine p1 rfl ?_
  refine D_end ?_
  refine x_then ?_
  refine C_if _ rfl (fun h2 => ?_) (fun h2 => ?_)
  · have pr2 : (((code.length : Nat) : Int) : Int) ≤ i := of_decide_eq_true h2
    refine C_seq ?_
    refine C_reg ?_
    refine p1 rfl ?_
    refine D_end ?_
    refine x_then ?_
    refine C_ret ?_
    refine x_then_ret ?_
    refine R_1 rfl rfl fun w' hs => ⟨congrArg (fun z => Ending.returned (Value.int .i64 z)) ?_, hs.bel⟩
    show (0 : Int) = atC code i
    exact atC_no (by omega)
  · have pr2 : ¬ (((code.length : Nat) : Int) : Int) ≤ i := of_decide_eq_false h2
    refine C_skip ?_
    refine x_then ?_
    refine C_seq ?_
    refine C_reg ?_
    refine p1 rfl <| p1 rfl ?_
    obtain ⟨eb, heb⟩ := some_of_lt (l := code) (i := (i.toNat)) (by omega)
    obtain ⟨es3, at4, hr5⟩ := rd_elem (n := 1) rfl h_code heb
    obtain rfl : es3 = [.int .u8 (eb.toNat : Int)] := hr5
    have hm6 := eb.toNat_lt
    refine q1 rfl (D_ix (l := code) (j := (i.toNat)) s_22 rfl rfl rfl (fun w' hs => (rd_at hs h_code)) (Int.toNat_of_nonneg (by omega)).symm (lt_of_some heb)) ?_
    refine q1 rfl (lr0 o_5 rfl rfl at4 rfl) ?_
    refine q1 rfl (D_cvu ui_3 ⟨_, u8_5⟩ rfl rfl) ?_
    refine p1 rfl ?_
    refine D_end ?_
    refine x_then ?_
    refine C_ret ?_
    refine R_1 rfl rfl fun w' hs => ⟨congrArg (fun z => Ending.returned (Value.int .i64 z)) ?_, hs.bel⟩
    show ((eb.toNat : Int) : Int) = atC code i
    exact atC_of heb
end Go.Sy.Law3
