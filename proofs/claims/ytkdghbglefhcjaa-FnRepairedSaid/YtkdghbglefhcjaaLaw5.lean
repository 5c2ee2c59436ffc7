/-
  Contracts of functions of the program, walked (printed by a program of ours).
  Conditions: those that each theorem states.
-/
import Derived.Test.YtkdghbglefhcjaaLaw1
import Derived.Test.YtkdghbglefhcjaaCur3
import Derived.Test.YtkdghbglefhcjaaLw2
import Derived.Test.YtkdghbglefhcjaaReb
import Derived.Test.YtkdghbglefhcjaaCas
set_option linter.unusedVariables false
set_option maxRecDepth 20000
namespace Go.Sy.Law5
open Go Go.RowKit Go.Proofs Go.Sy
theorem mixed : Try.prog.follows .mixedOrders = true := by kernel_rfl
theorem s_27 : sliceTy Try.prog 27 = some (3, 1, 8) := by kernel_rfl
theorem o_3 : oneTy Try.prog 3 = true := by kernel_rfl
open Go.Sy.Bel1 Go.Sy.Bel2 Go.Sy.Bel3 Go.Sy.Bel4 Go.Sy.Bel5 Go.Sy.Bel6 Go.Sy.Bel7 Go.Sy.Bel8 Go.Sy.Bel9 Go.Sy.Belb Go.Sy.Beld Go.Sy.Cur1 Go.Sy.Law1 Go.Sy.Cur3
theorem laws_hasInt (w : World) (v_l : Value) (l : (List Int)) (x : Int) (h_l : Gd.rd w [v_l] l) : Calls Try.prog 13 [v_l, (.int .i64 x)].toArray w (Val w (.bool (l.contains x))) := by
  have hm1 := rd_max h_l
  refine enter 18 Try.func13 rfl rfl rfl ?_
  refine C_seq ?_
  refine C_reg ?_
  refine p1 rfl ?_
  refine D_end ?_
  refine x_then ?_
  refine C_seq ?_
  refine C_seq ?_
  refine C_reg ?_
  refine p1 rfl ?_
  refine D_end ?_
  refine x_then ?_
  refine C_block ?_
  refine C_loop (fun m_ ac w' => ∃ (k : Nat), (k ≤ l.length) ∧ (∀ i, i < k → l[i]? ≠ some x) ∧ m_ = l.length - k ∧ Fits ac 18 [(0, v_l), (1, (.int .i64 x)), (5, (.int .i64 ((k : Nat) : Int)))] ∧ St w ([]) w') ?_ ?_
  · refine fun ac w' hf hs => ⟨_, 0, ?_, ?_, rfl, hf.weak ⟨rfl, rfl, rfl, trivial⟩, hs⟩
    · first | assumption | omega | simp
    · intro i hi; omega
  · rintro m_ ac w' ⟨k, hk, hi, rfl, hf, hs⟩
    refine D.use ?_ hf hs
    clear hf hs ac w'
    refine C_seq ?_
    refine C_seq ?_
    refine C_reg ?_
    refine p1 rfl <| p1 rfl ?_
    refine q1 rfl (D_len s_27 rfl rfl (rd_sl h_l)) ?_
    refine p1 rfl ?_
    refine D_end ?_
    refine x_then ?_
    refine C_if _ rfl (fun h2 => ?_) (fun h2 => ?_)
    · have pr2 : (((k : Nat) : Int) : Int) < ((l.length : Nat) : Int) := of_decide_eq_true h2
      refine C_skip ?_
      refine x_then ?_
      refine C_seq ?_
      refine C_block ?_
      refine C_seq ?_
      refine C_reg ?_
      refine p1 rfl <| p1 rfl ?_
      obtain ⟨x3, hx4⟩ := some_of_lt (l := l) (i := k) (by omega)
      obtain ⟨es5, at6, hr7⟩ := rd_elem (n := 1) rfl h_l hx4
      obtain rfl : es5 = [.int .i64 x3] := hr7
      refine q1 rfl (D_ix (l := l) (j := k) s_27 rfl rfl rfl (fun w' hs => (rd_at hs h_l)) rfl (lt_of_some hx4)) ?_
      refine q1 rfl (lr0 o_3 rfl rfl at6 rfl) ?_
      refine p1 rfl <| p1 rfl ?_
      refine D_end ?_
      refine x_then ?_
      refine C_if _ rfl (fun h8 => ?_) (fun h8 => ?_)
      · have pr8 : (x3 : Int) = x := eq_of_beq h8
        refine C_seq ?_
        refine C_reg ?_
        refine p1 rfl ?_
        refine D_end ?_
        refine x_then ?_
        refine C_ret ?_
        refine x_blk_ret ?_
        refine x_then_ret ?_
        refine x_then_ret ?_
        refine x_blk_ret ?_
        refine x_then_ret ?_
        refine R_1 rfl rfl fun w' hs => ⟨congrArg (fun z => Ending.returned (Value.bool z)) ?_, hs.bel⟩
        show (true : Bool) = l.contains x
        exact has_y hx4 (by omega)
      · have pr8 : (x3 : Int) ≠ x := ne_of_beq_false h8
        refine C_skip ?_
        refine x_blk ?_
        refine x_then ?_
        refine C_reg ?_
        refine p1 rfl ?_
        refine q1 rfl (D_add rfl rfl rfl (r := ((k + 1 : Nat) : Int)) (by omega) (by omega)) ?_
        refine p1 rfl ?_
        refine D_end ?_
        refine x_then ?_
        refine fun ac w' hf hs => ⟨_, ?_, k + 1, ?_, ?_, rfl, hf.weak ⟨rfl, rfl, rfl, trivial⟩, hs⟩
        · omega
        · first | assumption | omega | simp
        · refine forall_step hi ?_; intro e; have := hx4.symm.trans e; simp only [Option.some.injEq] at this; omega
    · have pr2 : ¬ (((k : Nat) : Int) : Int) < ((l.length : Nat) : Int) := of_decide_eq_false h2
      refine C_exit ?_
      refine x_then_exit ?_
      refine x_then_exit ?_
      refine x_blk_eq ?_
      refine x_then ?_
      refine C_seq ?_
      refine C_reg ?_
      refine p1 rfl ?_
      refine D_end ?_
      refine x_then ?_
      refine C_ret ?_
      refine R_1 rfl rfl fun w' hs => ⟨congrArg (fun z => Ending.returned (Value.bool z)) ?_, hs.bel⟩
      show (false : Bool) = l.contains x
      exact has_n (fun i h => hi i (by omega))
end Go.Sy.Law5
