/-
  Contracts of functions of the program, walked (printed by a program of ours).
  Conditions: those that each theorem states.
-/
import Derived.Test.YtkdghbglefhcjaaBel9
import Derived.Test.YtkdghbglefhcjaaGraph
set_option linter.unusedVariables false
set_option maxRecDepth 20000
namespace Go.Sy.Belb
open Go Go.RowKit Go.Proofs Go.Sy
theorem mixed : Try.prog.follows .mixedOrders = true := by kernel_rfl
theorem s_27 : sliceTy Try.prog 27 = some (3, 1, 8) := by kernel_rfl
theorem o_3 : oneTy Try.prog 3 = true := by kernel_rfl
theorem y_3 : zeroTy Try.prog 3 = some (.int .i64 0) := by kernel_rfl
open Go.Sy.Bel1 Go.Sy.Bel2 Go.Sy.Bel3 Go.Sy.Bel4 Go.Sy.Bel5 Go.Sy.Bel6 Go.Sy.Bel7 Go.Sy.Bel8 Go.Sy.Bel9
theorem impl_chosen (w : World) (v_l : Value) (l : (List Int)) (set : Int) (h_l : Gd.rd w [v_l] l) (hl : l.length ≤ 1048576) : Calls Try.prog 32 [v_l, (.int .i64 set)].toArray w (Res w (chs l set : List Int)) := by
  have hm1 := rd_max h_l
  refine enter 26 Try.func32 rfl rfl rfl ?_
  refine C_seq ?_
  refine C_reg ?_
  refine p1 rfl ?_
  refine D_end ?_
  refine x_then ?_
  refine C_seq ?_
  refine C_reg ?_
  refine p1 rfl ?_
  refine D_end ?_
  refine x_then ?_
  refine C_seq ?_
  refine C_seq ?_
  refine C_reg ?_
  refine p1 rfl ?_
  refine q1 rfl (D_len s_27 rfl rfl (rd_sl h_l)) ?_
  refine p1 rfl ?_
  refine D_end ?_
  refine x_then ?_
  refine C_block ?_
  refine C_loop (fun m_ ac w' => ∃ (k : Nat), ∃ (v : Value), (k ≤ l.length) ∧ m_ = l.length - k ∧ Fits ac 26 [(1, (.int .i64 set)), (5, v), (8, v_l), (9, (.int .i64 ((l.length : Nat) : Int))), (10, (.int .i64 ((k : Nat) : Int)))] ∧ St w ([ov [v] (chsT l set k : (List Int))]) w') ?_ ?_
  · refine D_nil (α := Int) ?_
    refine D_eq 0 rfl (show ([] : (List Int)) = chsT l set 0 from by rfl) ?_
    refine fun ac w' hf hs => ⟨_, 0, (.slice none 0 0), ?_, rfl, hf.weak ⟨rfl, rfl, rfl, rfl, rfl, trivial⟩, hs⟩
    · first | assumption | omega | simp
  · rintro m_ ac w' ⟨k, v, hk, rfl, hf, hs⟩
    refine D.use ?_ hf hs
    clear hf hs ac w'
    have hcl : (chsT l set k).length ≤ k := keepT_len _ _ _
    refine C_seq ?_
    refine C_reg ?_
    refine p1 rfl ?_
    refine D_end ?_
    refine x_then ?_
    refine D_H ([ov [v] (chsT l set k : (List Int))]) rfl ?_
    refine C_seq ?_
    refine C_if _ rfl (fun h2 => ?_) (fun h2 => ?_)
    · have pr2 : (((k : Nat) : Int) : Int) < ((l.length : Nat) : Int) := of_decide_eq_true h2
      refine C_skip ?_
      refine x_then ?_
      refine C_seq ?_
      refine C_block ?_
      refine C_seq ?_
      refine C_reg ?_
      refine p1 rfl ?_
      obtain ⟨x3, hx4⟩ := some_of_lt (l := l) (i := k) (by omega)
      obtain ⟨es5, at6, hr7⟩ := rd_elem (n := 1) rfl h_l hx4
      obtain rfl : es5 = [.int .i64 x3] := hr7
      refine q1 rfl (D_ix (l := l) (j := k) s_27 rfl rfl rfl (fun w' hs => (rd_at hs h_l)) rfl (lt_of_some hx4)) ?_
      refine q1 rfl (lr0 o_3 rfl rfl at6 rfl) ?_
      refine p1 rfl <| p1 rfl ?_
      refine D_end ?_
      refine x_then ?_
      refine C_seq ?_
      refine C_reg ?_
      refine p1 rfl <| p1 rfl ?_
      refine q1 rfl (D_shr (k := k) rfl rfl rfl) ?_
      refine q1 rfl (D_and rfl rfl rfl) ?_
      refine p1 rfl ?_
      refine D_end ?_
      refine x_then ?_
      refine C_if _ rfl (fun h8 => ?_) (fun h8 => ?_)
      · have pr8 : ((andZ (shrZ set k) 1) : Int) = 1 := eq_of_beq h8
        refine C_reg ?_
        refine p1 rfl <| p1 rfl ?_
        refine li rfl (D_bs s_27 y_3 rfl (by decide) (by decide) rfl rfl rfl rfl rfl rfl fun g9 => ?_)
        refine D_fi x3 ?_
        refine D_pk (H' := [ov [v] (chsT l set k : (List Int)), ov [(.int .i64 x3)] (x3 : Int), bx g9 [(.int .i64 x3)]]) [2, 0, 1] rfl rfl ?_
        refine li rfl (D_ap s_27 y_3 rfl (by decide) rfl rfl rfl rfl rfl rfl (by first | omega | (simp; omega)) (by first | omega | (simp; omega)) fun v10 => ?_)
        refine p1 rfl ?_
        refine D_end ?_
        refine x_blk ?_
        refine x_then ?_
        refine D_weak [(1, (.int .i64 set)), (5, v10), (8, v_l), (9, (.int .i64 ((l.length : Nat) : Int))), (10, (.int .i64 ((k : Nat) : Int)))] ⟨rfl, rfl, rfl, rfl, rfl, trivial⟩ ?_
        refine D_H ([ov [v10] ((chsT l set k) ++ [x3] : (List Int))]) rfl ?_
        refine C_reg ?_
        refine q1 rfl (D_add rfl rfl rfl (r := ((k + 1 : Nat) : Int)) (by omega) (by omega)) ?_
        refine p1 rfl ?_
        refine D_end ?_
        refine x_then ?_
        refine D_eq 0 rfl (show ((chsT l set k) ++ [x3] : (List Int)) = chsT l set (k + 1) from by first | exact keepT_t hx4 h8 | exact keepT_f h8) ?_
        refine fun ac w' hf hs => ⟨_, ?_, k + 1, v10, ?_, rfl, hf.weak ⟨rfl, rfl, rfl, rfl, rfl, trivial⟩, hs⟩
        · omega
        · first | assumption | omega | simp
      · have pr8 : ((andZ (shrZ set k) 1) : Int) ≠ 1 := ne_of_beq_false h8
        refine C_skip ?_
        refine x_blk ?_
        refine x_then ?_
        refine C_reg ?_
        refine q1 rfl (D_add rfl rfl rfl (r := ((k + 1 : Nat) : Int)) (by omega) (by omega)) ?_
        refine p1 rfl ?_
        refine D_end ?_
        refine x_then ?_
        refine D_eq 0 rfl (show (chsT l set k : (List Int)) = chsT l set (k + 1) from by first | exact keepT_t hx4 h8 | exact keepT_f h8) ?_
        refine fun ac w' hf hs => ⟨_, ?_, k + 1, v, ?_, rfl, hf.weak ⟨rfl, rfl, rfl, rfl, rfl, trivial⟩, hs⟩
        · omega
        · first | assumption | omega | simp
    · have pr2 : ¬ (((k : Nat) : Int) : Int) < ((l.length : Nat) : Int) := of_decide_eq_false h2
      refine C_exit ?_
      refine x_then_exit ?_
      refine x_then_exit ?_
      refine x_blk_eq ?_
      refine x_then ?_
      refine C_seq ?_
      refine C_reg ?_
      refine p1 rfl <| p1 rfl ?_
      refine D_end ?_
      refine x_then ?_
      refine C_ret ?_
      refine R_1 rfl rfl fun w' hs => res_of (k := 0) hs rfl ?_
      show chsT l set k = chs l set
      exact keepT_done (by omega) hk
end Go.Sy.Belb
