/-
  Contracts of functions of the program, walked (printed by a program of ours).
  Conditions: those that each theorem states.
-/
import Derived.Test.YtkdghbglefhcjaaBel1
set_option linter.unusedVariables false
set_option maxRecDepth 20000
namespace Go.Sy.Bel2
open Go Go.RowKit Go.Proofs Go.Sy
theorem mixed : Try.prog.follows .mixedOrders = true := by kernel_rfl
theorem f_31_1 : fieldOff Try.prog 31 1 = some 1 := by kernel_rfl
theorem o_27 : oneTy Try.prog 27 = true := by kernel_rfl
theorem s_27 : sliceTy Try.prog 27 = some (3, 1, 8) := by kernel_rfl
theorem f_31_2 : fieldOff Try.prog 31 2 = some 2 := by kernel_rfl
open Go.Sy.Bel1
theorem impl_IsPremise (w : World) (c_r : List Value) (r : Reason) (h_r : Gd.rd w c_r r) : Calls Try.prog 38 [(.agg c_r.toArray)].toArray w (Val w (.bool (isPremise r))) := by
  obtain ⟨u1, u3, rfl, hu2, hu4⟩ := open_Reason h_r
  have hm5 := rd_max hu2
  have hm6 := rd_max hu4
  refine enter 13 Try.func38 rfl rfl rfl ?_
  refine C_seq ?_
  refine C_reg ?_
  refine li rfl (D_box rfl rfl rfl rfl rfl fun g7 => ?_)
  refine p1 rfl ?_
  refine D_end ?_
  refine x_then ?_
  refine D_H ([bx g7 [(.int .i64 r.For), u1, u3]]) rfl ?_
  refine C_seq ?_
  refine C_reg ?_
  refine q1 rfl (D_fb f_31_1 rfl rfl (q := 1) rfl) ?_
  refine q1 rfl (lb 0 o_27 rfl rfl rfl rfl) ?_
  refine q1 rfl (D_len s_27 rfl rfl (rd_sl hu2)) ?_
  refine p1 rfl <| p1 rfl ?_
  refine gs 7 rfl rfl (fun h8 => ?_) (fun h8 => ?_)
  · have pr8 : (((r.In.length : Nat) : Int) : Int) = 0 := eq_of_beq h8
    refine q1 rfl (D_fb f_31_2 rfl rfl (q := 2) rfl) ?_
    refine q1 rfl (lb 0 o_27 rfl rfl rfl rfl) ?_
    refine q1 rfl (D_len s_27 rfl rfl (rd_sl hu4)) ?_
    refine p1 rfl <| p1 rfl <| p1 rfl ?_
    refine D_end ?_
    refine x_then ?_
    refine C_ret ?_
    refine R_1 rfl rfl fun w' hs => ⟨congrArg (fun z => Ending.returned (Value.bool z)) ?_, hs.bel⟩
    show (((((r.Out.length : Nat) : Int) : Int) == 0) : Bool) = isPremise r
    rw [Bool.eq_iff_iff]; simp_all [isPremise]; try omega
  · have pr8 : (((r.In.length : Nat) : Int) : Int) ≠ 0 := ne_of_beq_false h8
    refine n1 rfl ?_
    refine n1 rfl ?_
    refine n1 rfl ?_
    refine n1 rfl ?_
    refine p1 rfl <| p1 rfl ?_
    refine D_end ?_
    refine x_then ?_
    refine C_ret ?_
    refine R_1 rfl rfl fun w' hs => ⟨congrArg (fun z => Ending.returned (Value.bool z)) ?_, hs.bel⟩
    show (false : Bool) = isPremise r
    rw [Bool.eq_iff_iff]; simp_all [isPremise]; try omega

theorem spec_IsPremise (w : World) (c_r : List Value) (r : Reason) (h_r : Gd.rd w c_r r) : Calls Try.prog 46 [(.agg c_r.toArray)].toArray w (Val w (.bool (isPremise r))) := by
  obtain ⟨u1, u3, rfl, hu2, hu4⟩ := open_Reason h_r
  have hm5 := rd_max hu2
  have hm6 := rd_max hu4
  refine enter 13 Try.func46 rfl rfl rfl ?_
  refine C_seq ?_
  refine C_reg ?_
  refine li rfl (D_box rfl rfl rfl rfl rfl fun g7 => ?_)
  refine p1 rfl ?_
  refine D_end ?_
  refine x_then ?_
  refine D_H ([bx g7 [(.int .i64 r.For), u1, u3]]) rfl ?_
  refine C_seq ?_
  refine C_reg ?_
  refine q1 rfl (D_fb f_31_1 rfl rfl (q := 1) rfl) ?_
  refine q1 rfl (lb 0 o_27 rfl rfl rfl rfl) ?_
  refine q1 rfl (D_len s_27 rfl rfl (rd_sl hu2)) ?_
  refine p1 rfl <| p1 rfl ?_
  refine gs 7 rfl rfl (fun h8 => ?_) (fun h8 => ?_)
  · have pr8 : (((r.In.length : Nat) : Int) : Int) = 0 := eq_of_beq h8
    refine q1 rfl (D_fb f_31_2 rfl rfl (q := 2) rfl) ?_
    refine q1 rfl (lb 0 o_27 rfl rfl rfl rfl) ?_
    refine q1 rfl (D_len s_27 rfl rfl (rd_sl hu4)) ?_
    refine p1 rfl <| p1 rfl <| p1 rfl ?_
    refine D_end ?_
    refine x_then ?_
    refine C_ret ?_
    refine R_1 rfl rfl fun w' hs => ⟨congrArg (fun z => Ending.returned (Value.bool z)) ?_, hs.bel⟩
    show (((((r.Out.length : Nat) : Int) : Int) == 0) : Bool) = isPremise r
    rw [Bool.eq_iff_iff]; simp_all [isPremise]; try omega
  · have pr8 : (((r.In.length : Nat) : Int) : Int) ≠ 0 := ne_of_beq_false h8
    refine n1 rfl ?_
    refine n1 rfl ?_
    refine n1 rfl ?_
    refine n1 rfl ?_
    refine p1 rfl <| p1 rfl ?_
    refine D_end ?_
    refine x_then ?_
    refine C_ret ?_
    refine R_1 rfl rfl fun w' hs => ⟨congrArg (fun z => Ending.returned (Value.bool z)) ?_, hs.bel⟩
    show (false : Bool) = isPremise r
    rw [Bool.eq_iff_iff]; simp_all [isPremise]; try omega
end Go.Sy.Bel2
