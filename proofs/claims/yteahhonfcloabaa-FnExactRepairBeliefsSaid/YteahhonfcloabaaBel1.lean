/-
  Contracts of functions of the program, walked (printed by a program of ours).
  Conditions: those that each theorem states.
-/
import Derived.Test.YteahhonfcloabaaProg
import Derived.Test.YteahhonfcloabaaTypes
import Derived.Test.YteahhonfcloabaaBase
set_option linter.unusedVariables false
set_option maxRecDepth 20000
namespace Go.Sy.Bel1
open Go Go.RowKit Go.Proofs Go.Sy
theorem mixed : Try.prog.follows .mixedOrders = true := by kernel_rfl
theorem s_25 : sliceTy Try.prog 25 = some (3, 1, 8) := by kernel_rfl
theorem f_66_1 : fieldOff Try.prog 66 1 = some 1 := by kernel_rfl
theorem o_25 : oneTy Try.prog 25 = true := by kernel_rfl
theorem b_78 : hasBody Try.prog 78 = true := by kernel_rfl
theorem f_66_2 : fieldOff Try.prog 66 2 = some 2 := by kernel_rfl
theorem s_22 : sliceTy Try.prog 22 = some (66, 3, 56) := by kernel_rfl
theorem a_66 : aggTy Try.prog 66 = some 3 := by kernel_rfl
theorem b_57 : hasBody Try.prog 57 = true := by kernel_rfl
theorem f_24_1 : fieldOff Try.prog 24 1 = some 1 := by kernel_rfl
theorem o_22 : oneTy Try.prog 22 = true := by kernel_rfl
theorem b_33 : hasBody Try.prog 33 = true := by kernel_rfl
theorem y_3 : zeroTy Try.prog 3 = some (.int .i64 0) := by kernel_rfl
theorem o_3 : oneTy Try.prog 3 = true := by kernel_rfl
theorem z_3 : sizeTy Try.prog 3 = some 1 := by kernel_rfl
theorem y_67 : zeroTy Try.prog 67 = some (.agg #[(.int .i64 0), (.slice none 0 0), (.slice none 0 0)]) := by kernel_rfl
theorem f_66_0 : fieldOff Try.prog 66 0 = some 0 := by kernel_rfl
theorem f_67_0 : fieldOff Try.prog 67 0 = some 0 := by kernel_rfl
theorem b_12 : hasBody Try.prog 12 = true := by kernel_rfl
theorem f_67_1 : fieldOff Try.prog 67 1 = some 1 := by kernel_rfl
theorem z_25 : sizeTy Try.prog 25 = some 1 := by kernel_rfl
theorem f_67_2 : fieldOff Try.prog 67 2 = some 2 := by kernel_rfl
theorem a_67 : aggTy Try.prog 67 = some 3 := by kernel_rfl
theorem z_67 : sizeTy Try.prog 67 = some 3 := by kernel_rfl
theorem s_28 : sliceTy Try.prog 28 = some (67, 3, 56) := by kernel_rfl
theorem b_59 : hasBody Try.prog 59 = true := by kernel_rfl
theorem y_30 : zeroTy Try.prog 30 = some (.agg #[(.int .i64 0), (.slice none 0 0)]) := by kernel_rfl
theorem f_24_0 : fieldOff Try.prog 24 0 = some 0 := by kernel_rfl
theorem f_30_0 : fieldOff Try.prog 30 0 = some 0 := by kernel_rfl
theorem b_36 : hasBody Try.prog 36 = true := by kernel_rfl
theorem f_30_1 : fieldOff Try.prog 30 1 = some 1 := by kernel_rfl
theorem z_28 : sizeTy Try.prog 28 = some 1 := by kernel_rfl
theorem a_30 : aggTy Try.prog 30 = some 2 := by kernel_rfl
theorem z_30 : sizeTy Try.prog 30 = some 2 := by kernel_rfl
theorem b_14 : hasBody Try.prog 14 = true := by kernel_rfl
theorem b_63 : hasBody Try.prog 63 = true := by kernel_rfl
theorem o_28 : oneTy Try.prog 28 = true := by kernel_rfl
theorem b_39 : hasBody Try.prog 39 = true := by kernel_rfl
theorem b_66 : hasBody Try.prog 66 = true := by kernel_rfl
theorem b_69 : hasBody Try.prog 69 = true := by kernel_rfl
theorem b_42 : hasBody Try.prog 42 = true := by kernel_rfl
theorem laws_szIntS (w : World) (v_a : Value) (a : (List Int)) (left : Int) (h_a : Gd.rd w [v_a] a) (h0 : 0 ≤ left) (h1 : left ≤ 1048576) : Calls Try.prog 78 [v_a, (.int .i64 left)].toArray w (Val w (.int .i64 (szm a.length left))) := by
  have hm1 := rd_max h_a
  refine enter 12 Try.func78 rfl rfl rfl ?_
  refine C_seq ?_
  refine C_reg ?_
  refine p1 rfl ?_
  refine D_end ?_
  refine x_then ?_
  refine C_seq ?_
  refine C_reg ?_
  refine p1 rfl <| p1 rfl ?_
  refine q1 rfl (D_len s_25 rfl rfl (rd_sl h_a)) ?_
  refine q1 rfl (D_sub rfl rfl rfl rfl (by omega)) ?_
  refine p1 rfl ?_
  refine D_end ?_
  refine x_then ?_
  refine C_seq ?_
  refine C_seq ?_
  refine C_reg ?_
  refine p1 rfl <| p1 rfl ?_
  refine D_end ?_
  refine x_then ?_
  refine C_if _ rfl (fun h2 => ?_) (fun h2 => ?_)
  · have pr2 : ((left - ((a.length : Nat) : Int)) : Int) < 0 := of_decide_eq_true h2
    refine C_seq ?_
    refine C_reg ?_
    refine p1 rfl ?_
    refine D_end ?_
    refine x_then ?_
    refine C_ret ?_
    refine x_then_ret ?_
    refine R_1 rfl rfl fun w' hs => ⟨congrArg (fun z => Ending.returned (Value.int .i64 z)) ?_, hs.bel⟩
    show ((-1) : Int) = szm a.length left
    exact (szm_neg (by omega)).symm
  · have pr2 : ¬ ((left - ((a.length : Nat) : Int)) : Int) < 0 := of_decide_eq_false h2
    refine C_skip ?_
    refine x_then ?_
    refine C_seq ?_
    refine C_reg ?_
    refine p1 rfl <| p1 rfl ?_
    refine D_end ?_
    refine x_then ?_
    refine C_ret ?_
    refine R_1 rfl rfl fun w' hs => ⟨congrArg (fun z => Ending.returned (Value.int .i64 z)) ?_, hs.bel⟩
    show ((left - ((a.length : Nat) : Int)) : Int) = szm a.length left
    exact (szm_pos (by omega)).symm

theorem laws_szReason (w : World) (c_a : List Value) (a : Reason) (left : Int) (h_a : Gd.rd w c_a a) (h0 : 0 ≤ left) (h1 : left ≤ 1048576) : Calls Try.prog 57 [(.agg c_a.toArray), (.int .i64 left)].toArray w (Val w (.int .i64 (szm (szR a) left))) := by
  obtain ⟨u1, u3, rfl, hu2, hu4⟩ := open_Reason h_a
  have hm5 := rd_max hu2
  have hm6 := rd_max hu4
  refine enter 18 Try.func57 rfl rfl rfl ?_
  refine C_seq ?_
  refine C_reg ?_
  refine li rfl (D_box rfl rfl rfl rfl rfl fun g7 => ?_)
  refine p1 rfl ?_
  refine D_end ?_
  refine x_then ?_
  refine D_H ([bx g7 [(.int .i64 a.For), u1, u3]]) rfl ?_
  refine C_seq ?_
  refine C_reg ?_
  refine q1 rfl (D_fb f_66_1 rfl rfl (q := 1) rfl) ?_
  refine q1 rfl (lb 0 o_25 rfl rfl rfl rfl) ?_
  refine p1 rfl ?_
  refine li rfl (cv b_78 rfl rfl rfl rfl (fun w' hs => (laws_szIntS w' u1 a.In left (rd_at hs hu2) (by first | assumption | omega | (unfold szm at *; split at * <;> omega)) (by first | assumption | omega | (unfold szm at *; split at * <;> omega)))) ?_)
  refine p1 rfl ?_
  refine D_end ?_
  refine x_then ?_
  refine C_seq ?_
  refine C_seq ?_
  refine C_reg ?_
  refine p1 rfl <| p1 rfl ?_
  refine D_end ?_
  refine x_then ?_
  refine C_if _ rfl (fun h8 => ?_) (fun h8 => ?_)
  · have pr8 : ((szm a.In.length left) : Int) < 0 := of_decide_eq_true h8
    refine C_seq ?_
    refine C_reg ?_
    refine p1 rfl ?_
    refine D_end ?_
    refine x_then ?_
    refine C_ret ?_
    refine x_then_ret ?_
    refine R_1 rfl rfl fun w' hs => ⟨congrArg (fun z => Ending.returned (Value.int .i64 z)) ?_, hs.bel⟩
    show ((-1) : Int) = szm (szR a) left
    unfold szR szm at *; repeat (split at * <;> try omega)
  · have pr8 : ¬ ((szm a.In.length left) : Int) < 0 := of_decide_eq_false h8
    have pr8z := szm_val (n := a.In.length) (left := left) pr8
    refine C_skip ?_
    refine x_then ?_
    refine C_seq ?_
    refine C_reg ?_
    refine q1 rfl (D_fb f_66_2 rfl rfl (q := 2) rfl) ?_
    refine q1 rfl (lb 0 o_25 rfl rfl rfl rfl) ?_
    refine p1 rfl ?_
    refine li rfl (cv b_78 rfl rfl rfl rfl (fun w' hs => (laws_szIntS w' u3 a.Out (szm a.In.length left) (rd_at hs hu4) (by first | assumption | omega | (unfold szm at *; split at * <;> omega)) (by first | assumption | omega | (unfold szm at *; split at * <;> omega)))) ?_)
    refine p1 rfl ?_
    refine D_end ?_
    refine x_then ?_
    refine C_seq ?_
    refine C_seq ?_
    refine C_reg ?_
    refine p1 rfl <| p1 rfl ?_
    refine D_end ?_
    refine x_then ?_
    refine C_if _ rfl (fun h9 => ?_) (fun h9 => ?_)
    · have pr9 : ((szm a.Out.length (szm a.In.length left)) : Int) < 0 := of_decide_eq_true h9
      refine C_seq ?_
      refine C_reg ?_
      refine p1 rfl ?_
      refine D_end ?_
      refine x_then ?_
      refine D_weak [(4, (.int .i64 (-1)))] ⟨rfl, trivial⟩ ?_
      refine D_sel (H' := []) [false] rfl ?_
      refine C_ret ?_
      refine x_then_ret ?_
      refine R_1 rfl rfl fun w' hs => ⟨congrArg (fun z => Ending.returned (Value.int .i64 z)) ?_, hs.bel⟩
      show ((-1) : Int) = szm (szR a) left
      unfold szR szm at *; repeat (split at * <;> try omega)
    · have pr9 : ¬ ((szm a.Out.length (szm a.In.length left)) : Int) < 0 := of_decide_eq_false h9
      have pr9z := szm_val (n := a.Out.length) (left := (szm a.In.length left)) pr9
      refine C_skip ?_
      refine x_then ?_
      refine D_weak [(1, (.int .i64 (szm a.Out.length (szm a.In.length left))))] ⟨rfl, trivial⟩ ?_
      refine D_sel (H' := []) [false] rfl ?_
      refine C_seq ?_
      refine C_reg ?_
      refine p1 rfl <| p1 rfl ?_
      refine D_end ?_
      refine x_then ?_
      refine C_ret ?_
      refine R_1 rfl rfl fun w' hs => ⟨congrArg (fun z => Ending.returned (Value.int .i64 z)) ?_, hs.bel⟩
      show ((szm a.Out.length (szm a.In.length left)) : Int) = szm (szR a) left
      unfold szR szm at *; repeat (split at * <;> try omega)

theorem laws_szReasonS (w : World) (v_a : Value) (a : (List Reason)) (left : Int) (h_a : Gd.rd w [v_a] a) (h0 : 0 ≤ left) (h1 : left ≤ 1048576) : Calls Try.prog 33 [v_a, (.int .i64 left)].toArray w (Val w (.int .i64 (szm (szRs a) left))) := by
  have hm1 := rd_max h_a
  refine enter 27 Try.func33 rfl rfl rfl ?_
  refine C_seq ?_
  refine C_reg ?_
  refine p1 rfl ?_
  refine D_end ?_
  refine x_then ?_
  refine C_seq ?_
  refine C_reg ?_
  refine p1 rfl <| p1 rfl ?_
  refine q1 rfl (D_len s_22 rfl rfl (rd_sl h_a)) ?_
  refine q1 rfl (D_sub rfl rfl rfl rfl (by omega)) ?_
  refine p1 rfl ?_
  refine D_end ?_
  refine x_then ?_
  refine C_seq ?_
  refine C_seq ?_
  refine C_reg ?_
  refine p1 rfl <| p1 rfl ?_
  refine D_end ?_
  refine x_then ?_
  refine C_if _ rfl (fun h2 => ?_) (fun h2 => ?_)
  · have pr2 : ((left - ((a.length : Nat) : Int)) : Int) < 0 := of_decide_eq_true h2
    refine C_seq ?_
    refine C_reg ?_
    refine p1 rfl ?_
    refine D_end ?_
    refine x_then ?_
    refine C_ret ?_
    refine x_then_ret ?_
    refine R_1 rfl rfl fun w' hs => ⟨congrArg (fun z => Ending.returned (Value.int .i64 z)) ?_, hs.bel⟩
    show ((-1) : Int) = szm (szRs a) left
    refine (szm_neg ?_).symm; unfold szRs; omega
  · have pr2 : ¬ ((left - ((a.length : Nat) : Int)) : Int) < 0 := of_decide_eq_false h2
    refine C_skip ?_
    refine x_then ?_
    refine C_seq ?_
    refine C_seq ?_
    refine C_reg ?_
    refine p1 rfl ?_
    refine D_end ?_
    refine x_then ?_
    refine C_block ?_
    refine C_loop (fun m_ ac w' => ∃ (k : Nat), ∃ (lf : Int), (k ≤ a.length) ∧ (0 ≤ lf ∧ lf = left - a.length - ((a.take k).map szR).sum) ∧ m_ = a.length - k ∧ Fits ac 27 [(0, v_a), (1, (.int .i64 lf)), (5, (.int .i64 ((k : Nat) : Int)))] ∧ St w ([]) w') ?_ ?_
    · refine fun ac w' hf hs => ⟨_, 0, (left - ((a.length : Nat) : Int)), ?_, ?_, rfl, hf.weak ⟨rfl, rfl, rfl, trivial⟩, hs⟩
      · first | assumption | omega | simp
      · simp; omega
    · rintro m_ ac w' ⟨k, lf, hk, hl, rfl, hf, hs⟩
      refine D.use ?_ hf hs
      clear hf hs ac w'
      have ht := sum_take_le a k
      refine C_seq ?_
      refine C_seq ?_
      refine C_reg ?_
      refine p1 rfl <| p1 rfl ?_
      refine q1 rfl (D_len s_22 rfl rfl (rd_sl h_a)) ?_
      refine p1 rfl ?_
      refine D_end ?_
      refine x_then ?_
      refine C_if _ rfl (fun h3 => ?_) (fun h3 => ?_)
      · have pr3 : (((k : Nat) : Int) : Int) < ((a.length : Nat) : Int) := of_decide_eq_true h3
        refine C_skip ?_
        refine x_then ?_
        refine C_seq ?_
        refine C_block ?_
        refine C_seq ?_
        refine C_reg ?_
        refine p1 rfl <| p1 rfl ?_
        obtain ⟨x4, hx5⟩ := some_of_lt (l := a) (i := k) (by omega)
        obtain ⟨es6, at7, hr8⟩ := rd_elem (n := 3) rfl h_a hx5
        obtain ⟨u9, u11, rfl, hu10, hu12⟩ := open_Reason hr8
        have hm13 := rd_max hu10
        have hm14 := rd_max hu12
        refine q1 rfl (D_ix (l := a) (j := k) s_22 rfl rfl rfl (fun w' hs => (rd_at hs h_a)) rfl (lt_of_some hx5)) ?_
        refine q1 rfl (lra a_66 rfl rfl at7) ?_
        refine p1 rfl ?_
        refine li rfl (cv b_57 rfl rfl rfl rfl (fun w' hs => (laws_szReason w' [(.int .i64 x4.For), u9, u11] x4 lf (rd_at hs hr8) (by first | assumption | omega | (unfold szm at *; split at * <;> omega)) (by first | assumption | omega | (unfold szm at *; split at * <;> omega)))) ?_)
        refine p1 rfl ?_
        refine D_end ?_
        refine x_then ?_
        refine C_seq ?_
        refine C_reg ?_
        refine p1 rfl <| p1 rfl ?_
        refine D_end ?_
        refine x_then ?_
        refine C_if _ rfl (fun h15 => ?_) (fun h15 => ?_)
        · have pr15 : ((szm (szR x4) lf) : Int) < 0 := of_decide_eq_true h15
          refine C_seq ?_
          refine C_reg ?_
          refine p1 rfl ?_
          refine D_end ?_
          refine x_then ?_
          refine D_weak [(4, (.int .i64 (-1)))] ⟨rfl, trivial⟩ ?_
          refine C_ret ?_
          refine x_blk_ret ?_
          refine x_then_ret ?_
          refine x_then_ret ?_
          refine x_blk_ret ?_
          refine x_then_ret ?_
          refine R_1 rfl rfl fun w' hs => ⟨congrArg (fun z => Ending.returned (Value.int .i64 z)) ?_, hs.bel⟩
          show ((-1) : Int) = szm (szRs a) left
          refine (szm_neg ?_).symm; have := sum_take (l := a) (by assumption); have := sum_take_le a (k + 1); unfold szRs; unfold szm at *; split at * <;> omega
        · have pr15 : ¬ ((szm (szR x4) lf) : Int) < 0 := of_decide_eq_false h15
          have pr15z := szm_val (n := (szR x4)) (left := lf) pr15
          refine C_skip ?_
          refine x_blk ?_
          refine x_then ?_
          refine C_reg ?_
          refine p1 rfl ?_
          refine q1 rfl (D_add rfl rfl rfl (r := ((k + 1 : Nat) : Int)) (by omega) (by omega)) ?_
          refine p1 rfl ?_
          refine D_end ?_
          refine x_then ?_
          refine fun ac w' hf hs => ⟨_, ?_, k + 1, (szm (szR x4) lf), ?_, ?_, rfl, hf.weak ⟨rfl, rfl, rfl, trivial⟩, hs⟩
          · omega
          · first | assumption | omega | simp
          · have hst := sum_take (l := a) (k := k) (by assumption); rw [hst]; unfold szm at *; split at * <;> omega
      · have pr3 : ¬ (((k : Nat) : Int) : Int) < ((a.length : Nat) : Int) := of_decide_eq_false h3
        refine C_exit ?_
        refine x_then_exit ?_
        refine x_then_exit ?_
        refine x_blk_eq ?_
        refine x_then ?_
        refine C_seq ?_
        refine C_reg ?_
        refine p1 rfl <| p1 rfl ?_
        refine D_end ?_
        refine x_then ?_
        refine C_ret ?_
        refine R_1 rfl rfl fun w' hs => ⟨congrArg (fun z => Ending.returned (Value.int .i64 z)) ?_, hs.bel⟩
        show (lf : Int) = szm (szRs a) left
        rw [szm_pos]; all_goals (unfold szRs; rw [List.take_of_length_le (by omega)] at hl; omega)

theorem laws_szBeliefs (w : World) (c_a : List Value) (a : Beliefs) (left : Int) (h_a : Gd.rd w c_a a) (h0 : 0 ≤ left) (h1 : left ≤ 1048576) : Calls Try.prog 9 [(.agg c_a.toArray), (.int .i64 left)].toArray w (Val w (.int .i64 (szm (szB a) left))) := by
  obtain ⟨u1, rfl, hu2⟩ := open_Beliefs h_a
  have hm3 := rd_max hu2
  refine enter 12 Try.func9 rfl rfl rfl ?_
  refine C_seq ?_
  refine C_reg ?_
  refine li rfl (D_box rfl rfl rfl rfl rfl fun g4 => ?_)
  refine p1 rfl ?_
  refine D_end ?_
  refine x_then ?_
  refine D_H ([bx g4 [(.int .i64 a.Nodes), u1]]) rfl ?_
  refine C_seq ?_
  refine C_reg ?_
  refine q1 rfl (D_fb f_24_1 rfl rfl (q := 1) rfl) ?_
  refine q1 rfl (lb 0 o_22 rfl rfl rfl rfl) ?_
  refine p1 rfl ?_
  refine li rfl (cv b_33 rfl rfl rfl rfl (fun w' hs => (laws_szReasonS w' u1 a.Reasons left (rd_at hs hu2) (by first | assumption | omega | (unfold szm at *; split at * <;> omega)) (by first | assumption | omega | (unfold szm at *; split at * <;> omega)))) ?_)
  refine p1 rfl ?_
  refine D_end ?_
  refine x_then ?_
  refine C_seq ?_
  refine C_seq ?_
  refine C_reg ?_
  refine p1 rfl <| p1 rfl ?_
  refine D_end ?_
  refine x_then ?_
  refine C_if _ rfl (fun h5 => ?_) (fun h5 => ?_)
  · have pr5 : ((szm (szRs a.Reasons) left) : Int) < 0 := of_decide_eq_true h5
    refine C_seq ?_
    refine C_reg ?_
    refine p1 rfl ?_
    refine D_end ?_
    refine x_then ?_
    refine C_ret ?_
    refine x_then_ret ?_
    refine R_1 rfl rfl fun w' hs => ⟨congrArg (fun z => Ending.returned (Value.int .i64 z)) ?_, hs.bel⟩
    show ((-1) : Int) = szm (szB a) left
    unfold szB szm at *; repeat (split at * <;> try omega)
  · have pr5 : ¬ ((szm (szRs a.Reasons) left) : Int) < 0 := of_decide_eq_false h5
    have pr5z := szm_val (n := (szRs a.Reasons)) (left := left) pr5
    refine C_skip ?_
    refine x_then ?_
    refine C_seq ?_
    refine C_reg ?_
    refine p1 rfl <| p1 rfl ?_
    refine D_end ?_
    refine x_then ?_
    refine C_ret ?_
    refine R_1 rfl rfl fun w' hs => ⟨congrArg (fun z => Ending.returned (Value.int .i64 z)) ?_, hs.bel⟩
    show ((szm (szRs a.Reasons) left) : Int) = szm (szB a) left
    unfold szB szm at *; repeat (split at * <;> try omega)

theorem laws_toIntS (w : World) (v_a : Value) (a : (List Int)) (h_a : Gd.rd w [v_a] a) (hn : a.length ≤ 1048576) : Calls Try.prog 12 [v_a].toArray w (Res w (a : List Int)) := by
  have hm1 := rd_max h_a
  refine enter 22 Try.func12 rfl rfl rfl ?_
  refine C_seq ?_
  refine C_reg ?_
  refine p1 rfl ?_
  refine D_end ?_
  refine x_then ?_
  refine C_seq ?_
  refine C_reg ?_
  refine p1 rfl ?_
  refine q1 rfl (D_len s_25 rfl rfl (rd_sl h_a)) ?_
  refine li rfl (D_mk (α := Int) (z := 0) s_25 y_3 rfl rfl rfl rfl (by omega) (by omega) fun v2 => ?_)
  refine p1 rfl ?_
  refine D_end ?_
  refine x_then ?_
  refine D_H ([ov [v2] (List.replicate a.length 0 : (List Int))]) rfl ?_
  refine C_seq ?_
  refine C_seq ?_
  refine C_reg ?_
  refine p1 rfl ?_
  refine D_end ?_
  refine x_then ?_
  refine C_block ?_
  refine C_loop (fun m_ ac w' => ∃ (k : Nat), ∃ (v : Value), (k ≤ a.length) ∧ m_ = a.length - k ∧ Fits ac 22 [(0, v_a), (3, v), (4, (.int .i64 ((k : Nat) : Int)))] ∧ St w ([ov [v] (cp a 0 k : (List Int))]) w') ?_ ?_
  · refine D_eq 0 rfl (show (List.replicate a.length 0 : (List Int)) = cp a 0 0 from by rw [cp_zero]) ?_
    refine fun ac w' hf hs => ⟨_, 0, v2, ?_, rfl, hf.weak ⟨rfl, rfl, rfl, trivial⟩, hs⟩
    · first | assumption | omega | simp
  · rintro m_ ac w' ⟨k, v, hk, rfl, hf, hs⟩
    refine D.use ?_ hf hs
    clear hf hs ac w'
    have hcl := cp_len a 0 k hk
    refine C_seq ?_
    refine C_seq ?_
    refine C_reg ?_
    refine p1 rfl <| p1 rfl ?_
    refine q1 rfl (D_len s_25 rfl rfl (rd_sl h_a)) ?_
    refine p1 rfl ?_
    refine D_end ?_
    refine x_then ?_
    refine D_H ([ov [v] (cp a 0 k : (List Int))]) rfl ?_
    refine C_if _ rfl (fun h3 => ?_) (fun h3 => ?_)
    · have pr3 : (((k : Nat) : Int) : Int) < ((a.length : Nat) : Int) := of_decide_eq_true h3
      refine C_skip ?_
      refine x_then ?_
      refine C_seq ?_
      refine C_block ?_
      refine C_reg ?_
      refine p1 rfl <| p1 rfl <| p1 rfl <| p1 rfl ?_
      obtain ⟨x4, hx5⟩ := some_of_lt (l := a) (i := k) (by omega)
      obtain ⟨es6, at7, hr8⟩ := rd_elem (n := 1) rfl h_a hx5
      obtain rfl : es6 = [.int .i64 x4] := hr8
      refine q1 rfl (D_ix (l := a) (j := k) s_25 rfl rfl rfl (fun w' hs => (rd_at hs h_a)) rfl (lt_of_some hx5)) ?_
      refine q1 rfl (lr0 o_3 rfl rfl at7 rfl) ?_
      obtain ⟨x9, hx10⟩ := some_of_lt (l := (cp a 0 k)) (i := k) (by omega)
      refine q1 rfl (D_ix (l := (cp a 0 k)) (j := k) s_25 rfl rfl rfl (fun w' hs => (rd_own (k := 0) hs rfl)) rfl (lt_of_some hx10)) ?_
      refine li rfl (so (α := Int) (z := x4) 0 z_3 rfl rfl rfl rfl rfl (lt_of_some hx10) ?_)
      refine D_end ?_
      refine x_blk ?_
      refine x_then ?_
      refine D_H ([ov [v] ((cp a 0 k).set k x4 : (List Int))]) rfl ?_
      refine C_reg ?_
      refine p1 rfl ?_
      refine q1 rfl (D_add rfl rfl rfl (r := ((k + 1 : Nat) : Int)) (by omega) (by omega)) ?_
      refine p1 rfl ?_
      refine D_end ?_
      refine x_then ?_
      refine D_eq 0 rfl (show ((cp a 0 k).set k x4 : (List Int)) = cp a 0 (k + 1) from by rw [cp_set (by assumption)]) ?_
      refine fun ac w' hf hs => ⟨_, ?_, k + 1, v, ?_, rfl, hf.weak ⟨rfl, rfl, rfl, trivial⟩, hs⟩
      · omega
      · first | assumption | omega | simp
    · have pr3 : ¬ (((k : Nat) : Int) : Int) < ((a.length : Nat) : Int) := of_decide_eq_false h3
      refine C_exit ?_
      refine x_then_exit ?_
      refine x_then_exit ?_
      refine x_blk_eq ?_
      refine x_then ?_
      refine C_seq ?_
      refine C_reg ?_
      refine p1 rfl <| p1 rfl ?_
      refine D_end ?_
      refine x_then ?_
      refine C_ret ?_
      refine R_1 rfl rfl fun w' hs => res_of (k := 0) hs rfl ?_
      show cp a 0 k = a
      exact cp_done (by omega)

theorem laws_toReason (w : World) (c_a : List Value) (a : Reason) (h_a : Gd.rd w c_a a) (hn : szR a ≤ 1048576) : Calls Try.prog 59 [(.agg c_a.toArray)].toArray w (Res w (a : Reason)) := by
  obtain ⟨u1, u3, rfl, hu2, hu4⟩ := open_Reason h_a
  have hm5 := rd_max hu2
  have hm6 := rd_max hu4
  unfold szR at hn
  refine enter 16 Try.func59 rfl rfl rfl ?_
  refine C_seq ?_
  refine C_reg ?_
  refine li rfl (D_box rfl rfl rfl rfl rfl fun g7 => ?_)
  refine li rfl (D_alloc y_67 rfl rfl rfl rfl fun g8 => ?_)
  refine D_end ?_
  refine x_then ?_
  refine D_H ([bx g8 [(.int .i64 0), (.slice none 0 0), (.slice none 0 0)], bx g7 [(.int .i64 a.For), u1, u3]]) rfl ?_
  refine C_seq ?_
  refine C_reg ?_
  refine li rfl (D_alloc y_67 rfl rfl rfl rfl fun g9 => ?_)
  refine D_end ?_
  refine x_then ?_
  refine D_H ([bx g9 [(.int .i64 0), (.slice none 0 0), (.slice none 0 0)], bx g8 [(.int .i64 0), (.slice none 0 0), (.slice none 0 0)], bx g7 [(.int .i64 a.For), u1, u3]]) rfl ?_
  refine C_seq ?_
  refine C_reg ?_
  refine q1 rfl (D_fb f_66_0 rfl rfl (q := 0) rfl) ?_
  refine q1 rfl (lb 2 o_3 rfl rfl rfl rfl) ?_
  refine q1 rfl (D_fb f_67_0 rfl rfl (q := 0) rfl) ?_
  refine li rfl (D_stb (vs := [(.int .i64 a.For)]) (cs' := [(.int .i64 a.For), (.slice none 0 0), (.slice none 0 0)]) 0 z_3 rfl rfl rfl rfl rfl rfl (ocons rfl onil) (by simp) rfl ?_)
  refine D_end ?_
  refine x_then ?_
  refine D_H ([bx g9 [(.int .i64 a.For), (.slice none 0 0), (.slice none 0 0)], bx g8 [(.int .i64 0), (.slice none 0 0), (.slice none 0 0)], bx g7 [(.int .i64 a.For), u1, u3]]) rfl ?_
  refine C_seq ?_
  refine C_reg ?_
  refine q1 rfl (D_fb f_66_1 rfl rfl (q := 1) rfl) ?_
  refine q1 rfl (lb 2 o_25 rfl rfl rfl rfl) ?_
  refine li rfl (crl b_12 rfl rfl rfl rfl (fun w' hs => (laws_toIntS w' u1 a.In (rd_at hs hu2) (by first | assumption | omega | (unfold szm at *; split at * <;> omega)))) fun v10 => ?_)
  refine q1 rfl (D_fb f_67_1 rfl rfl (q := 1) rfl) ?_
  refine D_pre (fun w' hs => one_own (k := 0) hs rfl) ?_
  intro ho11
  refine li rfl (D_stb (vs := [v10]) (cs' := [(.int .i64 a.For), v10, (.slice none 0 0)]) 1 z_25 rfl rfl rfl rfl rfl (cells_of_one ho11) (ocons ho11 onil) (by simp) rfl ?_)
  refine D_end ?_
  refine x_then ?_
  refine D_H ([ov [v10] (a.In : (List Int)), bx g9 [(.int .i64 a.For), v10, (.slice none 0 0)], bx g8 [(.int .i64 0), (.slice none 0 0), (.slice none 0 0)], bx g7 [(.int .i64 a.For), u1, u3]]) rfl ?_
  refine C_seq ?_
  refine C_reg ?_
  refine q1 rfl (D_fb f_66_2 rfl rfl (q := 2) rfl) ?_
  refine q1 rfl (lb 3 o_25 rfl rfl rfl rfl) ?_
  refine li rfl (crl b_12 rfl rfl rfl rfl (fun w' hs => (laws_toIntS w' u3 a.Out (rd_at hs hu4) (by first | assumption | omega | (unfold szm at *; split at * <;> omega)))) fun v12 => ?_)
  refine q1 rfl (D_fb f_67_2 rfl rfl (q := 2) rfl) ?_
  refine D_pre (fun w' hs => one_own (k := 0) hs rfl) ?_
  intro ho13
  refine li rfl (D_stb (vs := [v12]) (cs' := [(.int .i64 a.For), v10, v12]) 2 z_25 rfl rfl rfl rfl rfl (cells_of_one ho13) (ocons ho13 onil) (by simp) rfl ?_)
  refine D_end ?_
  refine x_then ?_
  refine D_H ([ov [v12] (a.Out : (List Int)), ov [v10] (a.In : (List Int)), bx g9 [(.int .i64 a.For), v10, v12], bx g8 [(.int .i64 0), (.slice none 0 0), (.slice none 0 0)], bx g7 [(.int .i64 a.For), u1, u3]]) rfl ?_
  refine C_seq ?_
  refine C_reg ?_
  refine q1 rfl (lbw 2 a_67 rfl rfl rfl) ?_
  refine li rfl (D_stb (vs := [(.int .i64 a.For), v10, v12]) (cs' := [(.int .i64 a.For), v10, v12]) 3 z_67 rfl rfl rfl rfl rfl rfl (ocons rfl (ocons ho11 (ocons ho13 onil))) (by simp) rfl ?_)
  refine D_end ?_
  refine x_then ?_
  refine D_weak [(2, (.pointer (some ⟨g8, 0, none⟩)))] ⟨rfl, trivial⟩ ?_
  refine D_sel (H' := [ov [v12] (a.Out : (List Int)), ov [v10] (a.In : (List Int)), bx g8 [(.int .i64 a.For), v10, v12]]) [true, true, false, true, false] rfl ?_
  refine C_ret ?_
  refine D_pk (H' := [ov [v10] (a.In : (List Int)), ov [v12] (a.Out : (List Int)), bx g8 [(.int .i64 a.For), v10, v12]]) [1, 0, 2] rfl rfl ?_
  refine pk_Reason (r := (⟨a.For, a.In, a.Out⟩ : Reason)) ?_
  refine R_c 1 a_67 rfl rfl rfl fun w' hs => res_of (k := 0) hs rfl ?_
  show (⟨a.For, a.In, a.Out⟩ : Reason) = a
  rfl

theorem laws_toReasonS (w : World) (v_a : Value) (a : (List Reason)) (h_a : Gd.rd w [v_a] a) (hn : szRs a ≤ 1048576) : Calls Try.prog 36 [v_a].toArray w (Res w (a : List Reason)) := by
  have hm1 := rd_max h_a
  unfold szRs at hn
  refine enter 23 Try.func36 rfl rfl rfl ?_
  refine C_seq ?_
  refine C_reg ?_
  refine p1 rfl ?_
  refine D_end ?_
  refine x_then ?_
  refine C_seq ?_
  refine C_reg ?_
  refine p1 rfl ?_
  refine q1 rfl (D_len s_22 rfl rfl (rd_sl h_a)) ?_
  refine li rfl (D_mkG (α := Reason) (z0 := z0_Reason) s_28 y_67 rfl rfl rfl rfl rfl rfl zz_Reason (by omega) (by omega) fun v2 => ?_)
  refine p1 rfl ?_
  refine D_end ?_
  refine x_then ?_
  refine D_H ([ov [v2] (List.replicate a.length z0_Reason : (List Reason))]) rfl ?_
  refine C_seq ?_
  refine C_seq ?_
  refine C_reg ?_
  refine p1 rfl ?_
  refine D_end ?_
  refine x_then ?_
  refine C_block ?_
  refine C_loop (fun m_ ac w' => ∃ (k : Nat), ∃ (v : Value), (k ≤ a.length) ∧ m_ = a.length - k ∧ Fits ac 23 [(0, v_a), (3, v), (4, (.int .i64 ((k : Nat) : Int)))] ∧ St w ([ov [v] (cp a z0_Reason k : (List Reason))]) w') ?_ ?_
  · refine D_eq 0 rfl (show (List.replicate a.length z0_Reason : (List Reason)) = cp a z0_Reason 0 from by rw [cp_zero]) ?_
    refine fun ac w' hf hs => ⟨_, 0, v2, ?_, rfl, hf.weak ⟨rfl, rfl, rfl, trivial⟩, hs⟩
    · first | assumption | omega | simp
  · rintro m_ ac w' ⟨k, v, hk, rfl, hf, hs⟩
    refine D.use ?_ hf hs
    clear hf hs ac w'
    have hcl := cp_len a z0_Reason k hk
    refine C_seq ?_
    refine C_seq ?_
    refine C_reg ?_
    refine p1 rfl <| p1 rfl ?_
    refine q1 rfl (D_len s_22 rfl rfl (rd_sl h_a)) ?_
    refine p1 rfl ?_
    refine D_end ?_
    refine x_then ?_
    refine D_H ([ov [v] (cp a z0_Reason k : (List Reason))]) rfl ?_
    refine C_if _ rfl (fun h3 => ?_) (fun h3 => ?_)
    · have pr3 : (((k : Nat) : Int) : Int) < ((a.length : Nat) : Int) := of_decide_eq_true h3
      refine C_skip ?_
      refine x_then ?_
      refine C_seq ?_
      refine C_block ?_
      refine C_reg ?_
      refine p1 rfl <| p1 rfl <| p1 rfl <| p1 rfl ?_
      obtain ⟨x4, hx5⟩ := some_of_lt (l := a) (i := k) (by omega)
      have hle := szR_le (mem_idx hx5)
      obtain ⟨es6, at7, hr8⟩ := rd_elem (n := 3) rfl h_a hx5
      obtain ⟨u9, u11, rfl, hu10, hu12⟩ := open_Reason hr8
      have hm13 := rd_max hu10
      have hm14 := rd_max hu12
      refine q1 rfl (D_ix (l := a) (j := k) s_22 rfl rfl rfl (fun w' hs => (rd_at hs h_a)) rfl (lt_of_some hx5)) ?_
      refine q1 rfl (lra a_66 rfl rfl at7) ?_
      refine li rfl (crs rfl b_59 rfl rfl rfl rfl (fun w' hs => (laws_toReason w' [(.int .i64 x4.For), u9, u11] x4 (rd_at hs hr8) (by first | assumption | omega | (unfold szm at *; split at * <;> omega)))) fun cs15 => ?_)
      refine D_pre (fun w' hs => shape_Reason (rd_own (k := 0) hs rfl)) ?_
      rintro ⟨v16, v17, rfl, ho18, ho19⟩
      obtain ⟨x20, hx21⟩ := some_of_lt (l := (cp a z0_Reason k)) (i := k) (by omega)
      refine q1 rfl (D_ix (l := (cp a z0_Reason k)) (j := k) s_28 rfl rfl rfl (fun w' hs => (rd_own (k := 1) hs rfl)) rfl (lt_of_some hx21)) ?_
      refine D_pk (H' := [ov [v] (cp a z0_Reason k : (List Reason)), ov [(.int .i64 x4.For), v16, v17] (x4 : Reason)]) [1, 0] rfl rfl ?_
      refine li rfl (soG (α := Reason) rfl z_67 rfl rfl rfl rfl rfl (lt_of_some hx21) ?_)
      refine D_end ?_
      refine x_blk ?_
      refine x_then ?_
      refine D_H ([ov [v] ((cp a z0_Reason k).set k x4 : (List Reason))]) rfl ?_
      refine C_reg ?_
      refine p1 rfl ?_
      refine q1 rfl (D_add rfl rfl rfl (r := ((k + 1 : Nat) : Int)) (by omega) (by omega)) ?_
      refine p1 rfl ?_
      refine D_end ?_
      refine x_then ?_
      refine D_eq 0 rfl (show ((cp a z0_Reason k).set k x4 : (List Reason)) = cp a z0_Reason (k + 1) from by rw [cp_set (by assumption)]) ?_
      refine fun ac w' hf hs => ⟨_, ?_, k + 1, v, ?_, rfl, hf.weak ⟨rfl, rfl, rfl, trivial⟩, hs⟩
      · omega
      · first | assumption | omega | simp
    · have pr3 : ¬ (((k : Nat) : Int) : Int) < ((a.length : Nat) : Int) := of_decide_eq_false h3
      refine C_exit ?_
      refine x_then_exit ?_
      refine x_then_exit ?_
      refine x_blk_eq ?_
      refine x_then ?_
      refine C_seq ?_
      refine C_reg ?_
      refine p1 rfl <| p1 rfl ?_
      refine D_end ?_
      refine x_then ?_
      refine C_ret ?_
      refine R_1 rfl rfl fun w' hs => res_of (k := 0) hs rfl ?_
      show cp a z0_Reason k = a
      exact cp_done (by omega)

theorem laws_toBeliefs (w : World) (c_a : List Value) (a : Beliefs) (h_a : Gd.rd w c_a a) (hn : szB a ≤ 1048576) : Calls Try.prog 11 [(.agg c_a.toArray)].toArray w (Res w (a : Beliefs)) := by
  obtain ⟨u1, rfl, hu2⟩ := open_Beliefs h_a
  have hm3 := rd_max hu2
  unfold szB at hn
  refine enter 12 Try.func11 rfl rfl rfl ?_
  refine C_seq ?_
  refine C_reg ?_
  refine li rfl (D_box rfl rfl rfl rfl rfl fun g4 => ?_)
  refine li rfl (D_alloc y_30 rfl rfl rfl rfl fun g5 => ?_)
  refine D_end ?_
  refine x_then ?_
  refine D_H ([bx g5 [(.int .i64 0), (.slice none 0 0)], bx g4 [(.int .i64 a.Nodes), u1]]) rfl ?_
  refine C_seq ?_
  refine C_reg ?_
  refine li rfl (D_alloc y_30 rfl rfl rfl rfl fun g6 => ?_)
  refine D_end ?_
  refine x_then ?_
  refine D_H ([bx g6 [(.int .i64 0), (.slice none 0 0)], bx g5 [(.int .i64 0), (.slice none 0 0)], bx g4 [(.int .i64 a.Nodes), u1]]) rfl ?_
  refine C_seq ?_
  refine C_reg ?_
  refine q1 rfl (D_fb f_24_0 rfl rfl (q := 0) rfl) ?_
  refine q1 rfl (lb 2 o_3 rfl rfl rfl rfl) ?_
  refine q1 rfl (D_fb f_30_0 rfl rfl (q := 0) rfl) ?_
  refine li rfl (D_stb (vs := [(.int .i64 a.Nodes)]) (cs' := [(.int .i64 a.Nodes), (.slice none 0 0)]) 0 z_3 rfl rfl rfl rfl rfl rfl (ocons rfl onil) (by simp) rfl ?_)
  refine D_end ?_
  refine x_then ?_
  refine D_H ([bx g6 [(.int .i64 a.Nodes), (.slice none 0 0)], bx g5 [(.int .i64 0), (.slice none 0 0)], bx g4 [(.int .i64 a.Nodes), u1]]) rfl ?_
  refine C_seq ?_
  refine C_reg ?_
  refine q1 rfl (D_fb f_24_1 rfl rfl (q := 1) rfl) ?_
  refine q1 rfl (lb 2 o_22 rfl rfl rfl rfl) ?_
  refine li rfl (crl b_36 rfl rfl rfl rfl (fun w' hs => (laws_toReasonS w' u1 a.Reasons (rd_at hs hu2) (by first | assumption | omega | (unfold szm at *; split at * <;> omega)))) fun v7 => ?_)
  refine q1 rfl (D_fb f_30_1 rfl rfl (q := 1) rfl) ?_
  refine D_pre (fun w' hs => one_own (k := 0) hs rfl) ?_
  intro ho8
  refine li rfl (D_stb (vs := [v7]) (cs' := [(.int .i64 a.Nodes), v7]) 1 z_28 rfl rfl rfl rfl rfl (cells_of_one ho8) (ocons ho8 onil) (by simp) rfl ?_)
  refine D_end ?_
  refine x_then ?_
  refine D_H ([ov [v7] (a.Reasons : (List Reason)), bx g6 [(.int .i64 a.Nodes), v7], bx g5 [(.int .i64 0), (.slice none 0 0)], bx g4 [(.int .i64 a.Nodes), u1]]) rfl ?_
  refine C_seq ?_
  refine C_reg ?_
  refine q1 rfl (lbw 1 a_30 rfl rfl rfl) ?_
  refine li rfl (D_stb (vs := [(.int .i64 a.Nodes), v7]) (cs' := [(.int .i64 a.Nodes), v7]) 2 z_30 rfl rfl rfl rfl rfl rfl (ocons rfl (ocons ho8 onil)) (by simp) rfl ?_)
  refine D_end ?_
  refine x_then ?_
  refine D_H ([ov [v7] (a.Reasons : (List Reason)), bx g6 [(.int .i64 a.Nodes), v7], bx g5 [(.int .i64 a.Nodes), v7], bx g4 [(.int .i64 a.Nodes), u1]]) rfl ?_
  refine C_ret ?_
  refine pk_Beliefs (r := (⟨a.Nodes, a.Reasons⟩ : Beliefs)) ?_
  refine R_c 2 a_30 rfl rfl rfl fun w' hs => res_of (k := 0) hs rfl ?_
  show (⟨a.Nodes, a.Reasons⟩ : Beliefs) = a
  rfl

theorem laws_eqIntS (w : World) (v_a : Value) (a : (List Int)) (v_b : Value) (b : (List Int)) (h_a : Gd.rd w [v_a] a) (h_b : Gd.rd w [v_b] b) : Calls Try.prog 14 [v_a, v_b].toArray w (Val w (.bool (decide (a = b)))) := by
  have hm1 := rd_max h_a
  have hm2 := rd_max h_b
  refine enter 26 Try.func14 rfl rfl rfl ?_
  refine C_seq ?_
  refine C_reg ?_
  refine p1 rfl ?_
  refine D_end ?_
  refine x_then ?_
  refine C_seq ?_
  refine C_seq ?_
  refine C_reg ?_
  refine p1 rfl ?_
  refine q1 rfl (D_len s_25 rfl rfl (rd_sl h_a)) ?_
  refine p1 rfl ?_
  refine q1 rfl (D_len s_25 rfl rfl (rd_sl h_b)) ?_
  refine p1 rfl ?_
  refine D_end ?_
  refine x_then ?_
  refine C_if _ rfl (fun h3 => ?_) (fun h3 => ?_)
  · have pr3 : (((a.length : Nat) : Int) : Int) ≠ ((b.length : Nat) : Int) := bne_iff_ne.1 h3
    refine C_seq ?_
    refine C_reg ?_
    refine p1 rfl ?_
    refine D_end ?_
    refine x_then ?_
    refine C_ret ?_
    refine x_then_ret ?_
    refine R_1 rfl rfl fun w' hs => ⟨congrArg (fun z => Ending.returned (Value.bool z)) ?_, hs.bel⟩
    show (false : Bool) = decide (a = b)
    simp; intro e; subst e; simp_all
  · have pr3 : (((a.length : Nat) : Int) : Int) = ((b.length : Nat) : Int) := eq_of_bne_f h3
    refine C_skip ?_
    refine x_then ?_
    refine C_seq ?_
    refine C_seq ?_
    refine C_reg ?_
    refine p1 rfl ?_
    refine D_end ?_
    refine x_then ?_
    refine C_block ?_
    refine C_loop (fun m_ ac w' => ∃ (k : Nat), (k ≤ a.length) ∧ (∀ i, i < k → a[i]? = b[i]?) ∧ m_ = a.length - k ∧ Fits ac 26 [(0, v_a), (1, v_b), (5, (.int .i64 ((k : Nat) : Int)))] ∧ St w ([]) w') ?_ ?_
    · refine fun ac w' hf hs => ⟨_, 0, ?_, ?_, rfl, hf.weak ⟨rfl, rfl, rfl, trivial⟩, hs⟩
      · first | assumption | omega | simp
      · intro i hi; omega
    · rintro m_ ac w' ⟨k, hk, hi, rfl, hf, hs⟩
      refine D.use ?_ hf hs
      clear hf hs ac w'
      refine C_seq ?_
      refine C_seq ?_
      refine C_reg ?_
      refine p1 rfl <| p1 rfl ?_
      refine q1 rfl (D_len s_25 rfl rfl (rd_sl h_a)) ?_
      refine p1 rfl ?_
      refine D_end ?_
      refine x_then ?_
      refine C_if _ rfl (fun h4 => ?_) (fun h4 => ?_)
      · have pr4 : (((k : Nat) : Int) : Int) < ((a.length : Nat) : Int) := of_decide_eq_true h4
        refine C_skip ?_
        refine x_then ?_
        refine C_seq ?_
        refine C_block ?_
        refine C_seq ?_
        refine C_draw mixed [] (by kernel_rfl) ?_
        refine tk 0 rfl (by kernel_rfl) (by kernel_rfl) (by kernel_rfl) rfl (fun _ hs => hs) (rp rfl) ?_
        refine tk 1 rfl (by kernel_rfl) (by kernel_rfl) (by kernel_rfl) rfl (fun _ hs => hs) (rp rfl) ?_
        obtain ⟨x5, hx6⟩ := some_of_lt (l := a) (i := k) (by omega)
        obtain ⟨es7, at8, hr9⟩ := rd_elem (n := 1) rfl h_a hx6
        obtain rfl : es7 = [.int .i64 x5] := hr9
        refine tk 2 rfl (by kernel_rfl) (by kernel_rfl) (by kernel_rfl) rfl (fun _ hs => hs) (D_ix (l := a) (j := k) s_25 rfl rfl rfl (fun w' hs => (rd_at hs h_a)) rfl (lt_of_some hx6)) ?_
        refine tk 3 rfl (by kernel_rfl) (by kernel_rfl) (by kernel_rfl) rfl (fun _ hs => hs) (lr0 o_3 rfl rfl at8 rfl) ?_
        refine tk 4 rfl (by kernel_rfl) (by kernel_rfl) (by kernel_rfl) rfl (fun _ hs => hs) (rp rfl) ?_
        refine tk 5 rfl (by kernel_rfl) (by kernel_rfl) (by kernel_rfl) rfl (fun _ hs => hs) (rp rfl) ?_
        obtain ⟨x10, hx11⟩ := some_of_lt (l := b) (i := k) (by omega)
        obtain ⟨es12, at13, hr14⟩ := rd_elem (n := 1) rfl h_b hx11
        obtain rfl : es12 = [.int .i64 x10] := hr14
        refine tk 6 rfl (by kernel_rfl) (by kernel_rfl) (by kernel_rfl) rfl (fun _ hs => hs) (D_ix (l := b) (j := k) s_25 rfl rfl rfl (fun w' hs => (rd_at hs h_b)) rfl (lt_of_some hx11)) ?_
        refine tk 7 rfl (by kernel_rfl) (by kernel_rfl) (by kernel_rfl) rfl (fun _ hs => hs) (lr0 o_3 rfl rfl at13 rfl) ?_
        refine tk 8 rfl (by kernel_rfl) (by kernel_rfl) (by kernel_rfl) rfl (fun _ hs => hs) (rp rfl) ?_
        refine tE (by kernel_rfl) ?_
        refine x_then ?_
        refine C_if _ rfl (fun h15 => ?_) (fun h15 => ?_)
        · have pr15 : (x5 : Int) ≠ x10 := bne_iff_ne.1 h15
          refine C_seq ?_
          refine C_reg ?_
          refine p1 rfl ?_
          refine D_end ?_
          refine x_then ?_
          refine D_weak [(4, (.bool false))] ⟨rfl, trivial⟩ ?_
          refine C_ret ?_
          refine x_blk_ret ?_
          refine x_then_ret ?_
          refine x_then_ret ?_
          refine x_blk_ret ?_
          refine x_then_ret ?_
          refine R_1 rfl rfl fun w' hs => ⟨congrArg (fun z => Ending.returned (Value.bool z)) ?_, hs.bel⟩
          show (false : Bool) = decide (a = b)
          simp; intro e; subst e; simp_all
        · have pr15 : (x5 : Int) = x10 := eq_of_bne_f h15
          refine C_skip ?_
          refine x_blk ?_
          refine x_then ?_
          refine C_reg ?_
          refine p1 rfl ?_
          refine q1 rfl (D_add rfl rfl rfl (r := ((k + 1 : Nat) : Int)) (by omega) (by omega)) ?_
          refine p1 rfl ?_
          refine D_end ?_
          refine x_then ?_
          refine fun ac w' hf hs => ⟨_, ?_, k + 1, ?_, ?_, rfl, hf.weak ⟨rfl, rfl, rfl, trivial⟩, hs⟩
          · omega
          · first | assumption | omega | simp
          · exact idx_step hi (by assumption) (by assumption) (by simp_all)
      · have pr4 : ¬ (((k : Nat) : Int) : Int) < ((a.length : Nat) : Int) := of_decide_eq_false h4
        refine C_exit ?_
        refine x_then_exit ?_
        refine x_then_exit ?_
        refine x_blk_eq ?_
        refine x_then ?_
        refine C_seq ?_
        refine C_reg ?_
        refine p1 rfl ?_
        refine D_end ?_
        refine x_then ?_
        refine C_ret ?_
        refine R_1 rfl rfl fun w' hs => ⟨congrArg (fun z => Ending.returned (Value.bool z)) ?_, hs.bel⟩
        show (true : Bool) = decide (a = b)
        simp; exact eq_of_idx (by omega) (fun i h => hi i (by omega))

theorem laws_eqReason (w : World) (c_a : List Value) (a : Reason) (c_b : List Value) (b : Reason) (h_a : Gd.rd w c_a a) (h_b : Gd.rd w c_b b) : Calls Try.prog 63 [(.agg c_a.toArray), (.agg c_b.toArray)].toArray w (Val w (.bool (decide (a = b)))) := by
  obtain ⟨u1, u3, rfl, hu2, hu4⟩ := open_Reason h_a
  have hm5 := rd_max hu2
  have hm6 := rd_max hu4
  obtain ⟨u7, u9, rfl, hu8, hu10⟩ := open_Reason h_b
  have hm11 := rd_max hu8
  have hm12 := rd_max hu10
  refine enter 22 Try.func63 rfl rfl rfl ?_
  refine C_seq ?_
  refine C_reg ?_
  refine li rfl (D_box rfl rfl rfl rfl rfl fun g13 => ?_)
  refine li rfl (D_box rfl rfl rfl rfl rfl fun g14 => ?_)
  refine p1 rfl ?_
  refine D_end ?_
  refine x_then ?_
  refine D_H ([bx g14 [(.int .i64 b.For), u7, u9], bx g13 [(.int .i64 a.For), u1, u3]]) rfl ?_
  refine C_seq ?_
  refine C_seq ?_
  refine C_reg ?_
  refine q1 rfl (D_fb f_67_0 rfl rfl (q := 0) rfl) ?_
  refine q1 rfl (lb 1 o_3 rfl rfl rfl rfl) ?_
  refine q1 rfl (D_fb f_67_0 rfl rfl (q := 0) rfl) ?_
  refine q1 rfl (lb 0 o_3 rfl rfl rfl rfl) ?_
  refine p1 rfl ?_
  refine D_end ?_
  refine x_then ?_
  refine C_if _ rfl (fun h15 => ?_) (fun h15 => ?_)
  · have pr15 : (a.For : Int) ≠ b.For := bne_iff_ne.1 h15
    refine C_seq ?_
    refine C_reg ?_
    refine p1 rfl ?_
    refine D_end ?_
    refine x_then ?_
    refine C_ret ?_
    refine x_then_ret ?_
    refine R_1 rfl rfl fun w' hs => ⟨congrArg (fun z => Ending.returned (Value.bool z)) ?_, hs.bel⟩
    show (false : Bool) = decide (a = b)
    cases a; cases b; simp_all
  · have pr15 : (a.For : Int) = b.For := eq_of_bne_f h15
    refine C_skip ?_
    refine x_then ?_
    refine C_seq ?_
    refine C_seq ?_
    refine C_reg ?_
    refine q1 rfl (D_fb f_67_1 rfl rfl (q := 1) rfl) ?_
    refine q1 rfl (lb 1 o_25 rfl rfl rfl rfl) ?_
    refine q1 rfl (D_fb f_67_1 rfl rfl (q := 1) rfl) ?_
    refine q1 rfl (lb 0 o_25 rfl rfl rfl rfl) ?_
    refine li rfl (cv b_14 rfl rfl rfl rfl (fun w' hs => (laws_eqIntS w' u1 a.In u7 b.In (rd_at hs hu2) (rd_at hs hu8))) ?_)
    refine p1 rfl ?_
    refine D_end ?_
    refine x_then ?_
    refine C_if _ rfl (fun h16 => ?_) (fun h16 => ?_)
    · have h16n : (decide (a.In = b.In)) = false := not_t h16
      refine C_seq ?_
      refine C_reg ?_
      refine p1 rfl ?_
      refine D_end ?_
      refine x_then ?_
      refine D_weak [(4, (.bool false))] ⟨rfl, trivial⟩ ?_
      refine D_sel (H' := []) [false, false] rfl ?_
      refine C_ret ?_
      refine x_then_ret ?_
      refine R_1 rfl rfl fun w' hs => ⟨congrArg (fun z => Ending.returned (Value.bool z)) ?_, hs.bel⟩
      show (false : Bool) = decide (a = b)
      cases a; cases b; simp_all
    · have h16n : (decide (a.In = b.In)) = true := not_f h16
      refine C_skip ?_
      refine x_then ?_
      refine C_seq ?_
      refine C_seq ?_
      refine C_reg ?_
      refine q1 rfl (D_fb f_67_2 rfl rfl (q := 2) rfl) ?_
      refine q1 rfl (lb 1 o_25 rfl rfl rfl rfl) ?_
      refine q1 rfl (D_fb f_67_2 rfl rfl (q := 2) rfl) ?_
      refine q1 rfl (lb 0 o_25 rfl rfl rfl rfl) ?_
      refine li rfl (cv b_14 rfl rfl rfl rfl (fun w' hs => (laws_eqIntS w' u3 a.Out u9 b.Out (rd_at hs hu4) (rd_at hs hu10))) ?_)
      refine p1 rfl ?_
      refine D_end ?_
      refine x_then ?_
      refine D_weak [(21, (.bool (!(decide (a.Out = b.Out)))))] ⟨rfl, trivial⟩ ?_
      refine D_sel (H' := []) [false, false] rfl ?_
      refine C_if _ rfl (fun h17 => ?_) (fun h17 => ?_)
      · have h17n : (decide (a.Out = b.Out)) = false := not_t h17
        refine C_seq ?_
        refine C_reg ?_
        refine p1 rfl ?_
        refine D_end ?_
        refine x_then ?_
        refine C_ret ?_
        refine x_then_ret ?_
        refine R_1 rfl rfl fun w' hs => ⟨congrArg (fun z => Ending.returned (Value.bool z)) ?_, hs.bel⟩
        show (false : Bool) = decide (a = b)
        cases a; cases b; simp_all
      · have h17n : (decide (a.Out = b.Out)) = true := not_f h17
        refine C_skip ?_
        refine x_then ?_
        refine C_seq ?_
        refine C_reg ?_
        refine p1 rfl ?_
        refine D_end ?_
        refine x_then ?_
        refine C_ret ?_
        refine R_1 rfl rfl fun w' hs => ⟨congrArg (fun z => Ending.returned (Value.bool z)) ?_, hs.bel⟩
        show (true : Bool) = decide (a = b)
        cases a; cases b; simp_all

theorem laws_eqReasonS (w : World) (v_a : Value) (a : (List Reason)) (v_b : Value) (b : (List Reason)) (h_a : Gd.rd w [v_a] a) (h_b : Gd.rd w [v_b] b) : Calls Try.prog 39 [v_a, v_b].toArray w (Val w (.bool (decide (a = b)))) := by
  have hm1 := rd_max h_a
  have hm2 := rd_max h_b
  refine enter 27 Try.func39 rfl rfl rfl ?_
  refine C_seq ?_
  refine C_reg ?_
  refine p1 rfl ?_
  refine D_end ?_
  refine x_then ?_
  refine C_seq ?_
  refine C_seq ?_
  refine C_reg ?_
  refine p1 rfl ?_
  refine q1 rfl (D_len s_28 rfl rfl (rd_sl h_a)) ?_
  refine p1 rfl ?_
  refine q1 rfl (D_len s_28 rfl rfl (rd_sl h_b)) ?_
  refine p1 rfl ?_
  refine D_end ?_
  refine x_then ?_
  refine C_if _ rfl (fun h3 => ?_) (fun h3 => ?_)
  · have pr3 : (((a.length : Nat) : Int) : Int) ≠ ((b.length : Nat) : Int) := bne_iff_ne.1 h3
    refine C_seq ?_
    refine C_reg ?_
    refine p1 rfl ?_
    refine D_end ?_
    refine x_then ?_
    refine C_ret ?_
    refine x_then_ret ?_
    refine R_1 rfl rfl fun w' hs => ⟨congrArg (fun z => Ending.returned (Value.bool z)) ?_, hs.bel⟩
    show (false : Bool) = decide (a = b)
    simp; intro e; subst e; simp_all
  · have pr3 : (((a.length : Nat) : Int) : Int) = ((b.length : Nat) : Int) := eq_of_bne_f h3
    refine C_skip ?_
    refine x_then ?_
    refine C_seq ?_
    refine C_seq ?_
    refine C_reg ?_
    refine p1 rfl ?_
    refine D_end ?_
    refine x_then ?_
    refine C_block ?_
    refine C_loop (fun m_ ac w' => ∃ (k : Nat), (k ≤ a.length) ∧ (∀ i, i < k → a[i]? = b[i]?) ∧ m_ = a.length - k ∧ Fits ac 27 [(0, v_a), (1, v_b), (5, (.int .i64 ((k : Nat) : Int)))] ∧ St w ([]) w') ?_ ?_
    · refine fun ac w' hf hs => ⟨_, 0, ?_, ?_, rfl, hf.weak ⟨rfl, rfl, rfl, trivial⟩, hs⟩
      · first | assumption | omega | simp
      · intro i hi; omega
    · rintro m_ ac w' ⟨k, hk, hi, rfl, hf, hs⟩
      refine D.use ?_ hf hs
      clear hf hs ac w'
      refine C_seq ?_
      refine C_seq ?_
      refine C_reg ?_
      refine p1 rfl <| p1 rfl ?_
      refine q1 rfl (D_len s_28 rfl rfl (rd_sl h_a)) ?_
      refine p1 rfl ?_
      refine D_end ?_
      refine x_then ?_
      refine C_if _ rfl (fun h4 => ?_) (fun h4 => ?_)
      · have pr4 : (((k : Nat) : Int) : Int) < ((a.length : Nat) : Int) := of_decide_eq_true h4
        refine C_skip ?_
        refine x_then ?_
        refine C_seq ?_
        refine C_block ?_
        refine C_seq ?_
        refine C_draw mixed [8, 9] (by kernel_rfl) ?_
        refine tk 0 rfl (by kernel_rfl) (by kernel_rfl) (by kernel_rfl) rfl (fun _ hs => hs) (rp rfl) ?_
        refine tk 1 rfl (by kernel_rfl) (by kernel_rfl) (by kernel_rfl) rfl (fun _ hs => hs) (rp rfl) ?_
        obtain ⟨x5, hx6⟩ := some_of_lt (l := a) (i := k) (by omega)
        obtain ⟨es7, at8, hr9⟩ := rd_elem (n := 3) rfl h_a hx6
        obtain ⟨u10, u12, rfl, hu11, hu13⟩ := open_Reason hr9
        have hm14 := rd_max hu11
        have hm15 := rd_max hu13
        refine tk 2 rfl (by kernel_rfl) (by kernel_rfl) (by kernel_rfl) rfl (fun _ hs => hs) (D_ix (l := a) (j := k) s_28 rfl rfl rfl (fun w' hs => (rd_at hs h_a)) rfl (lt_of_some hx6)) ?_
        refine tk 3 rfl (by kernel_rfl) (by kernel_rfl) (by kernel_rfl) rfl (fun _ hs => hs) (lra a_67 rfl rfl at8) ?_
        refine tk 4 rfl (by kernel_rfl) (by kernel_rfl) (by kernel_rfl) rfl (fun _ hs => hs) (rp rfl) ?_
        refine tk 5 rfl (by kernel_rfl) (by kernel_rfl) (by kernel_rfl) rfl (fun _ hs => hs) (rp rfl) ?_
        obtain ⟨x16, hx17⟩ := some_of_lt (l := b) (i := k) (by omega)
        obtain ⟨es18, at19, hr20⟩ := rd_elem (n := 3) rfl h_b hx17
        obtain ⟨u21, u23, rfl, hu22, hu24⟩ := open_Reason hr20
        have hm25 := rd_max hu22
        have hm26 := rd_max hu24
        refine tk 6 rfl (by kernel_rfl) (by kernel_rfl) (by kernel_rfl) rfl (fun _ hs => hs) (D_ix (l := b) (j := k) s_28 rfl rfl rfl (fun w' hs => (rd_at hs h_b)) rfl (lt_of_some hx17)) ?_
        refine tk 7 rfl (by kernel_rfl) (by kernel_rfl) (by kernel_rfl) rfl (fun _ hs => hs) (lra a_67 rfl rfl at19) ?_
        refine ty 8 rfl (by kernel_rfl) rfl (cv b_63 rfl rfl rfl rfl (fun w' hs => (laws_eqReason w' [(.int .i64 x5.For), u10, u12] x5 [(.int .i64 x16.For), u21, u23] x16 (rd_at hs hr9) (rd_at hs hr20))) ?_)
        refine tZ rfl ?_
        refine ty 9 rfl (by kernel_rfl) rfl (sv rfl rfl (rp rfl) ?_)
        refine tZ rfl ?_
        refine tE (by kernel_rfl) ?_
        refine x_then ?_
        refine C_if _ rfl (fun h27 => ?_) (fun h27 => ?_)
        · have h27n : (decide (x5 = x16)) = false := not_t h27
          refine C_seq ?_
          refine C_reg ?_
          refine p1 rfl ?_
          refine D_end ?_
          refine x_then ?_
          refine D_weak [(4, (.bool false))] ⟨rfl, trivial⟩ ?_
          refine C_ret ?_
          refine x_blk_ret ?_
          refine x_then_ret ?_
          refine x_then_ret ?_
          refine x_blk_ret ?_
          refine x_then_ret ?_
          refine R_1 rfl rfl fun w' hs => ⟨congrArg (fun z => Ending.returned (Value.bool z)) ?_, hs.bel⟩
          show (false : Bool) = decide (a = b)
          simp; intro e; subst e; simp_all
        · have h27n : (decide (x5 = x16)) = true := not_f h27
          refine C_skip ?_
          refine x_blk ?_
          refine x_then ?_
          refine C_reg ?_
          refine p1 rfl ?_
          refine q1 rfl (D_add rfl rfl rfl (r := ((k + 1 : Nat) : Int)) (by omega) (by omega)) ?_
          refine p1 rfl ?_
          refine D_end ?_
          refine x_then ?_
          refine fun ac w' hf hs => ⟨_, ?_, k + 1, ?_, ?_, rfl, hf.weak ⟨rfl, rfl, rfl, trivial⟩, hs⟩
          · omega
          · first | assumption | omega | simp
          · exact idx_step hi (by assumption) (by assumption) (by simp_all)
      · have pr4 : ¬ (((k : Nat) : Int) : Int) < ((a.length : Nat) : Int) := of_decide_eq_false h4
        refine C_exit ?_
        refine x_then_exit ?_
        refine x_then_exit ?_
        refine x_blk_eq ?_
        refine x_then ?_
        refine C_seq ?_
        refine C_reg ?_
        refine p1 rfl ?_
        refine D_end ?_
        refine x_then ?_
        refine C_ret ?_
        refine R_1 rfl rfl fun w' hs => ⟨congrArg (fun z => Ending.returned (Value.bool z)) ?_, hs.bel⟩
        show (true : Bool) = decide (a = b)
        simp; exact eq_of_idx (by omega) (fun i h => hi i (by omega))

theorem laws_eqBeliefs (w : World) (c_a : List Value) (a : Beliefs) (c_b : List Value) (b : Beliefs) (h_a : Gd.rd w c_a a) (h_b : Gd.rd w c_b b) : Calls Try.prog 15 [(.agg c_a.toArray), (.agg c_b.toArray)].toArray w (Val w (.bool (decide (a = b)))) := by
  obtain ⟨u1, rfl, hu2⟩ := open_Beliefs h_a
  have hm3 := rd_max hu2
  obtain ⟨u4, rfl, hu5⟩ := open_Beliefs h_b
  have hm6 := rd_max hu5
  refine enter 16 Try.func15 rfl rfl rfl ?_
  refine C_seq ?_
  refine C_reg ?_
  refine li rfl (D_box rfl rfl rfl rfl rfl fun g7 => ?_)
  refine li rfl (D_box rfl rfl rfl rfl rfl fun g8 => ?_)
  refine p1 rfl ?_
  refine D_end ?_
  refine x_then ?_
  refine D_H ([bx g8 [(.int .i64 b.Nodes), u4], bx g7 [(.int .i64 a.Nodes), u1]]) rfl ?_
  refine C_seq ?_
  refine C_seq ?_
  refine C_reg ?_
  refine q1 rfl (D_fb f_30_0 rfl rfl (q := 0) rfl) ?_
  refine q1 rfl (lb 1 o_3 rfl rfl rfl rfl) ?_
  refine q1 rfl (D_fb f_30_0 rfl rfl (q := 0) rfl) ?_
  refine q1 rfl (lb 0 o_3 rfl rfl rfl rfl) ?_
  refine p1 rfl ?_
  refine D_end ?_
  refine x_then ?_
  refine C_if _ rfl (fun h9 => ?_) (fun h9 => ?_)
  · have pr9 : (a.Nodes : Int) ≠ b.Nodes := bne_iff_ne.1 h9
    refine C_seq ?_
    refine C_reg ?_
    refine p1 rfl ?_
    refine D_end ?_
    refine x_then ?_
    refine C_ret ?_
    refine x_then_ret ?_
    refine R_1 rfl rfl fun w' hs => ⟨congrArg (fun z => Ending.returned (Value.bool z)) ?_, hs.bel⟩
    show (false : Bool) = decide (a = b)
    cases a; cases b; simp_all
  · have pr9 : (a.Nodes : Int) = b.Nodes := eq_of_bne_f h9
    refine C_skip ?_
    refine x_then ?_
    refine C_seq ?_
    refine C_seq ?_
    refine C_reg ?_
    refine q1 rfl (D_fb f_30_1 rfl rfl (q := 1) rfl) ?_
    refine q1 rfl (lb 1 o_28 rfl rfl rfl rfl) ?_
    refine q1 rfl (D_fb f_30_1 rfl rfl (q := 1) rfl) ?_
    refine q1 rfl (lb 0 o_28 rfl rfl rfl rfl) ?_
    refine li rfl (cv b_39 rfl rfl rfl rfl (fun w' hs => (laws_eqReasonS w' u1 a.Reasons u4 b.Reasons (rd_at hs hu2) (rd_at hs hu5))) ?_)
    refine p1 rfl ?_
    refine D_end ?_
    refine x_then ?_
    refine D_weak [(15, (.bool (!(decide (a.Reasons = b.Reasons)))))] ⟨rfl, trivial⟩ ?_
    refine D_sel (H' := []) [false, false] rfl ?_
    refine C_if _ rfl (fun h10 => ?_) (fun h10 => ?_)
    · have h10n : (decide (a.Reasons = b.Reasons)) = false := not_t h10
      refine C_seq ?_
      refine C_reg ?_
      refine p1 rfl ?_
      refine D_end ?_
      refine x_then ?_
      refine C_ret ?_
      refine x_then_ret ?_
      refine R_1 rfl rfl fun w' hs => ⟨congrArg (fun z => Ending.returned (Value.bool z)) ?_, hs.bel⟩
      show (false : Bool) = decide (a = b)
      cases a; cases b; simp_all
    · have h10n : (decide (a.Reasons = b.Reasons)) = true := not_f h10
      refine C_skip ?_
      refine x_then ?_
      refine C_seq ?_
      refine C_reg ?_
      refine p1 rfl ?_
      refine D_end ?_
      refine x_then ?_
      refine C_ret ?_
      refine R_1 rfl rfl fun w' hs => ⟨congrArg (fun z => Ending.returned (Value.bool z)) ?_, hs.bel⟩
      show (true : Bool) = decide (a = b)
      cases a; cases b; simp_all

theorem impl_ascendingNodes (w : World) (v_l : Value) (l : (List Int)) (n : Int) (h_l : Gd.rd w [v_l] l) : Calls Try.prog 69 [v_l, (.int .i64 n)].toArray w (Val w (.bool (asc l n))) := by
  have hm1 := rd_max h_l
  refine enter 35 Try.func69 rfl rfl rfl ?_
  refine C_seq ?_
  refine C_reg ?_
  refine p1 rfl ?_
  refine D_end ?_
  refine x_then ?_
  refine C_seq ?_
  refine C_seq ?_
  refine C_reg ?_
  refine p1 rfl ?_
  refine q1 rfl (D_len s_25 rfl rfl (rd_sl h_l)) ?_
  refine p1 rfl ?_
  refine D_end ?_
  refine x_then ?_
  refine C_block ?_
  refine C_loop (fun m_ ac w' => ∃ (k : Nat), (k ≤ l.length) ∧ (∀ i, i < k → ascAt l n i = true) ∧ m_ = l.length - k ∧ Fits ac 35 [(0, v_l), (1, (.int .i64 n)), (7, v_l), (8, (.int .i64 ((l.length : Nat) : Int))), (9, (.int .i64 ((k : Nat) : Int)))] ∧ St w ([]) w') ?_ ?_
  · refine fun ac w' hf hs => ⟨_, 0, ?_, ?_, rfl, hf.weak ⟨rfl, rfl, rfl, rfl, rfl, trivial⟩, hs⟩
    · first | assumption | omega | simp
    · intro i hi; omega
  · rintro m_ ac w' ⟨k, hk, hi, rfl, hf, hs⟩
    refine D.use ?_ hf hs
    clear hf hs ac w'
    refine C_seq ?_
    refine C_reg ?_
    refine p1 rfl ?_
    refine D_end ?_
    refine x_then ?_
    refine C_seq ?_
    refine C_if _ rfl (fun h2 => ?_) (fun h2 => ?_)
    · have pr2 : (((k : Nat) : Int) : Int) < ((l.length : Nat) : Int) := of_decide_eq_true h2
      refine C_skip ?_
      refine x_then ?_
      refine C_seq ?_
      refine C_block ?_
      refine C_seq ?_
      refine C_reg ?_
      refine p1 rfl ?_
      obtain ⟨x3, hx4⟩ := some_of_lt (l := l) (i := k) (by omega)
      obtain ⟨es5, at6, hr7⟩ := rd_elem (n := 1) rfl h_l hx4
      obtain rfl : es5 = [.int .i64 x3] := hr7
      refine q1 rfl (D_ix (l := l) (j := k) s_25 rfl rfl rfl (fun w' hs => (rd_at hs h_l)) rfl (lt_of_some hx4)) ?_
      refine q1 rfl (lr0 o_3 rfl rfl at6 rfl) ?_
      refine p1 rfl <| p1 rfl ?_
      refine D_end ?_
      refine x_then ?_
      refine C_seq ?_
      refine C_reg ?_
      refine p1 rfl <| p1 rfl <| p1 rfl ?_
      refine gs 16 rfl rfl (fun h8 => ?_) (fun h8 => ?_)
      · have pr8 : (x3 : Int) < 0 := of_decide_eq_true h8
        refine n1 rfl ?_
        refine n1 rfl ?_
        refine n1 rfl ?_
        refine p1 rfl <| p1 rfl ?_
        refine n1 rfl ?_
        refine n1 rfl ?_
        refine n1 rfl ?_
        refine n1 rfl ?_
        refine n1 rfl ?_
        refine n1 rfl ?_
        refine n1 rfl ?_
        refine n1 rfl ?_
        refine n1 rfl ?_
        refine n1 rfl ?_
        refine n1 rfl ?_
        refine p1 rfl ?_
        refine D_end ?_
        refine x_then ?_
        refine D_weak [(0, v_l), (1, (.int .i64 n)), (7, v_l), (8, (.int .i64 ((l.length : Nat) : Int))), (9, (.int .i64 ((k : Nat) : Int))), (33, (.bool true))] ⟨rfl, rfl, rfl, rfl, rfl, rfl, trivial⟩ ?_
        refine C_t rfl ?_
        refine C_seq ?_
        refine C_reg ?_
        refine p1 rfl ?_
        refine D_end ?_
        refine x_then ?_
        refine C_ret ?_
        refine x_blk_ret ?_
        refine x_then_ret ?_
        refine x_then_ret ?_
        refine x_blk_ret ?_
        refine x_then_ret ?_
        refine R_1 rfl rfl fun w' hs => ⟨congrArg (fun z => Ending.returned (Value.bool z)) ?_, hs.bel⟩
        show (false : Bool) = asc l n
        first | exact (asc_bad (k := k) (by omega) (by simp_all [ascAt]; try omega)).symm | exact (asc_all (fun i hi2 => hi i (by omega))).symm
      · have pr8 : ¬ (x3 : Int) < 0 := of_decide_eq_false h8
        refine p1 rfl <| p1 rfl <| p1 rfl <| p1 rfl <| p1 rfl ?_
        refine gs 21 rfl rfl (fun h9 => ?_) (fun h9 => ?_)
        · have pr9 : (n : Int) ≤ x3 := of_decide_eq_true h9
          refine n1 rfl ?_
          refine n1 rfl ?_
          refine n1 rfl ?_
          refine n1 rfl ?_
          refine n1 rfl ?_
          refine n1 rfl ?_
          refine n1 rfl ?_
          refine n1 rfl ?_
          refine n1 rfl ?_
          refine n1 rfl ?_
          refine n1 rfl ?_
          refine p1 rfl ?_
          refine D_end ?_
          refine x_then ?_
          refine D_weak [(0, v_l), (1, (.int .i64 n)), (7, v_l), (8, (.int .i64 ((l.length : Nat) : Int))), (9, (.int .i64 ((k : Nat) : Int))), (33, (.bool true))] ⟨rfl, rfl, rfl, rfl, rfl, rfl, trivial⟩ ?_
          refine C_t rfl ?_
          refine C_seq ?_
          refine C_reg ?_
          refine p1 rfl ?_
          refine D_end ?_
          refine x_then ?_
          refine C_ret ?_
          refine x_blk_ret ?_
          refine x_then_ret ?_
          refine x_then_ret ?_
          refine x_blk_ret ?_
          refine x_then_ret ?_
          refine R_1 rfl rfl fun w' hs => ⟨congrArg (fun z => Ending.returned (Value.bool z)) ?_, hs.bel⟩
          show (false : Bool) = asc l n
          first | exact (asc_bad (k := k) (by omega) (by simp_all [ascAt]; try omega)).symm | exact (asc_all (fun i hi2 => hi i (by omega))).symm
        · have pr9 : ¬ (n : Int) ≤ x3 := of_decide_eq_false h9
          refine p1 rfl <| p1 rfl <| p1 rfl ?_
          refine gs 24 rfl rfl (fun h10 => ?_) (fun h10 => ?_)
          · have pr10 : (0 : Int) < ((k : Nat) : Int) := of_decide_eq_true h10
            refine p1 rfl <| p1 rfl ?_
            refine q1 rfl (D_sub rfl rfl rfl (r := ((k - 1 : Nat) : Int)) (by omega) (by omega)) ?_
            obtain ⟨x11, hx12⟩ := some_of_lt (l := l) (i := (k - 1)) (by omega)
            obtain ⟨es13, at14, hr15⟩ := rd_elem (n := 1) rfl h_l hx12
            obtain rfl : es13 = [.int .i64 x11] := hr15
            refine q1 rfl (D_ix (l := l) (j := (k - 1)) s_25 rfl rfl rfl (fun w' hs => (rd_at hs h_l)) rfl (lt_of_some hx12)) ?_
            refine q1 rfl (lr0 o_3 rfl rfl at14 rfl) ?_
            refine p1 rfl <| p1 rfl <| p1 rfl <| p1 rfl ?_
            refine D_end ?_
            refine x_then ?_
            refine D_weak [(0, v_l), (1, (.int .i64 n)), (7, v_l), (8, (.int .i64 ((l.length : Nat) : Int))), (9, (.int .i64 ((k : Nat) : Int))), (33, (.bool (decide ((x3 : Int) ≤ x11))))] ⟨rfl, rfl, rfl, rfl, rfl, rfl, trivial⟩ ?_
            refine C_if _ rfl (fun h16 => ?_) (fun h16 => ?_)
            · have pr16 : (x3 : Int) ≤ x11 := of_decide_eq_true h16
              refine C_seq ?_
              refine C_reg ?_
              refine p1 rfl ?_
              refine D_end ?_
              refine x_then ?_
              refine C_ret ?_
              refine x_blk_ret ?_
              refine x_then_ret ?_
              refine x_then_ret ?_
              refine x_blk_ret ?_
              refine x_then_ret ?_
              refine R_1 rfl rfl fun w' hs => ⟨congrArg (fun z => Ending.returned (Value.bool z)) ?_, hs.bel⟩
              show (false : Bool) = asc l n
              first | exact (asc_bad (k := k) (by omega) (by simp_all [ascAt]; try omega)).symm | exact (asc_all (fun i hi2 => hi i (by omega))).symm
            · have pr16 : ¬ (x3 : Int) ≤ x11 := of_decide_eq_false h16
              refine C_skip ?_
              refine x_blk ?_
              refine x_then ?_
              refine C_reg ?_
              refine q1 rfl (D_add rfl rfl rfl (r := ((k + 1 : Nat) : Int)) (by omega) (by omega)) ?_
              refine p1 rfl ?_
              refine D_end ?_
              refine x_then ?_
              refine fun ac w' hf hs => ⟨_, ?_, k + 1, ?_, ?_, rfl, hf.weak ⟨rfl, rfl, rfl, rfl, rfl, trivial⟩, hs⟩
              · omega
              · first | assumption | omega | simp
              · exact forall_step hi (by simp_all [ascAt]; try omega)
          · have pr10 : ¬ (0 : Int) < ((k : Nat) : Int) := of_decide_eq_false h10
            refine n1 rfl ?_
            refine n1 rfl ?_
            refine n1 rfl ?_
            refine n1 rfl ?_
            refine n1 rfl ?_
            refine n1 rfl ?_
            refine n1 rfl ?_
            refine p1 rfl <| p1 rfl ?_
            refine D_end ?_
            refine x_then ?_
            refine D_weak [(0, v_l), (1, (.int .i64 n)), (7, v_l), (8, (.int .i64 ((l.length : Nat) : Int))), (9, (.int .i64 ((k : Nat) : Int))), (33, (.bool false))] ⟨rfl, rfl, rfl, rfl, rfl, rfl, trivial⟩ ?_
            refine C_f rfl ?_
            refine C_skip ?_
            refine x_blk ?_
            refine x_then ?_
            refine C_reg ?_
            refine q1 rfl (D_add rfl rfl rfl (r := ((k + 1 : Nat) : Int)) (by omega) (by omega)) ?_
            refine p1 rfl ?_
            refine D_end ?_
            refine x_then ?_
            refine fun ac w' hf hs => ⟨_, ?_, k + 1, ?_, ?_, rfl, hf.weak ⟨rfl, rfl, rfl, rfl, rfl, trivial⟩, hs⟩
            · omega
            · first | assumption | omega | simp
            · exact forall_step hi (by simp_all [ascAt]; try omega)
    · have pr2 : ¬ (((k : Nat) : Int) : Int) < ((l.length : Nat) : Int) := of_decide_eq_false h2
      refine C_exit ?_
      refine x_then_exit ?_
      refine x_then_exit ?_
      refine x_blk_eq ?_
      refine x_then ?_
      refine C_seq ?_
      refine C_reg ?_
      refine p1 rfl ?_
      refine D_end ?_
      refine x_then ?_
      refine C_ret ?_
      refine R_1 rfl rfl fun w' hs => ⟨congrArg (fun z => Ending.returned (Value.bool z)) ?_, hs.bel⟩
      show (true : Bool) = asc l n
      first | exact (asc_bad (k := k) (by omega) (by simp_all [ascAt]; try omega)).symm | exact (asc_all (fun i hi2 => hi i (by omega))).symm

theorem spec_l1In (w : World) (x : Int) (least : Int) (most : Int) : Calls Try.prog 66 [(.int .i64 x), (.int .i64 least), (.int .i64 most)].toArray w (Val w (.bool (inR x least most))) := by
  refine enter 15 Try.func66 rfl rfl rfl ?_
  refine C_seq ?_
  refine C_reg ?_
  refine p1 rfl ?_
  refine D_end ?_
  refine x_then ?_
  refine C_seq ?_
  refine C_reg ?_
  refine p1 rfl <| p1 rfl <| p1 rfl <| p1 rfl ?_
  refine gs 10 rfl rfl (fun h1 => ?_) (fun h1 => ?_)
  · have pr1 : (least : Int) ≤ x := of_decide_eq_true h1
    refine p1 rfl <| p1 rfl <| p1 rfl <| p1 rfl <| p1 rfl ?_
    refine D_end ?_
    refine x_then ?_
    refine C_ret ?_
    refine R_1 rfl rfl fun w' hs => ⟨congrArg (fun z => Ending.returned (Value.bool z)) ?_, hs.bel⟩
    show ((decide ((x : Int) ≤ most)) : Bool) = inR x least most
    simp_all [inR]; try omega
  · have pr1 : ¬ (least : Int) ≤ x := of_decide_eq_false h1
    refine n1 rfl ?_
    refine n1 rfl ?_
    refine n1 rfl ?_
    refine p1 rfl <| p1 rfl ?_
    refine D_end ?_
    refine x_then ?_
    refine C_ret ?_
    refine R_1 rfl rfl fun w' hs => ⟨congrArg (fun z => Ending.returned (Value.bool z)) ?_, hs.bel⟩
    show (false : Bool) = inR x least most
    simp_all [inR]; try omega

theorem spec_l11List (w : World) (v_l : Value) (l : (List Int)) (n : Int) (h_l : Gd.rd w [v_l] l) : Calls Try.prog 42 [v_l, (.int .i64 n)].toArray w (Val w (.bool (ascW l n))) := by
  have hm1 := rd_max h_l
  refine enter 36 Try.func42 rfl rfl rfl ?_
  refine C_seq ?_
  refine C_reg ?_
  refine p1 rfl ?_
  refine D_end ?_
  refine x_then ?_
  refine C_seq ?_
  refine C_seq ?_
  refine C_reg ?_
  refine p1 rfl ?_
  refine D_end ?_
  refine x_then ?_
  refine C_block ?_
  refine C_loop (fun m_ ac w' => ∃ (k : Nat), (k ≤ l.length) ∧ (∀ i, i < k → ascAtW l n i = true) ∧ m_ = l.length - k ∧ Fits ac 36 [(0, v_l), (1, (.int .i64 n)), (5, (.int .i64 ((k : Nat) : Int)))] ∧ St w ([]) w') ?_ ?_
  · refine fun ac w' hf hs => ⟨_, 0, ?_, ?_, rfl, hf.weak ⟨rfl, rfl, rfl, trivial⟩, hs⟩
    · first | assumption | omega | simp
    · intro i hi; omega
  · rintro m_ ac w' ⟨k, hk, hi, rfl, hf, hs⟩
    refine D.use ?_ hf hs
    clear hf hs ac w'
    refine C_seq ?_
    refine C_seq ?_
    refine C_reg ?_
    refine p1 rfl <| p1 rfl ?_
    refine q1 rfl (D_len s_25 rfl rfl (rd_sl h_l)) ?_
    refine p1 rfl ?_
    refine D_end ?_
    refine x_then ?_
    refine C_if _ rfl (fun h2 => ?_) (fun h2 => ?_)
    · have pr2 : (((k : Nat) : Int) : Int) < ((l.length : Nat) : Int) := of_decide_eq_true h2
      refine C_skip ?_
      refine x_then ?_
      refine C_seq ?_
      refine C_block ?_
      refine C_seq ?_
      refine C_draw mixed [6, 7, 8, 9, 10, 11, 21, 22, 23] (by kernel_rfl) ?_
      refine tk 0 rfl (by kernel_rfl) (by kernel_rfl) (by kernel_rfl) rfl (fun _ hs => hs) (rp rfl) ?_
      refine tk 1 rfl (by kernel_rfl) (by kernel_rfl) (by kernel_rfl) rfl (fun _ hs => hs) (rp rfl) ?_
      obtain ⟨x3, hx4⟩ := some_of_lt (l := l) (i := k) (by omega)
      obtain ⟨es5, at6, hr7⟩ := rd_elem (n := 1) rfl h_l hx4
      obtain rfl : es5 = [.int .i64 x3] := hr7
      refine tk 2 rfl (by kernel_rfl) (by kernel_rfl) (by kernel_rfl) rfl (fun _ hs => hs) (D_ix (l := l) (j := k) s_25 rfl rfl rfl (fun w' hs => (rd_at hs h_l)) rfl (lt_of_some hx4)) ?_
      refine tk 3 rfl (by kernel_rfl) (by kernel_rfl) (by kernel_rfl) rfl (fun _ hs => hs) (lr0 o_3 rfl rfl at6 rfl) ?_
      refine tk 4 rfl (by kernel_rfl) (by kernel_rfl) (by kernel_rfl) rfl (fun _ hs => hs) (rp rfl) ?_
      refine tk 5 rfl (by kernel_rfl) (by kernel_rfl) (by kernel_rfl) rfl (fun _ hs => hs) (D_subw rfl rfl rfl) ?_
      refine ty 6 rfl (by kernel_rfl) rfl (cv b_66 rfl rfl rfl rfl (fun w' hs => (spec_l1In w' x3 0 (wr (n - 1)))) ?_)
      refine tZ rfl ?_
      refine ty 7 rfl (by kernel_rfl) rfl (sv rfl rfl (rp rfl) ?_)
      refine tZ rfl ?_
      refine ty 8 rfl (by kernel_rfl) rfl (sv rfl rfl (rp rfl) ?_)
      refine tZ rfl ?_
      refine gs 20 rfl rfl (fun h8 => ?_) (fun h8 => ?_)
      · have h8n : (inR x3 0 (wr (n - 1))) = false := not_t h8
        refine tn 9 rfl (by kernel_rfl) (by kernel_rfl) (by kernel_rfl) rfl rfl rfl (fun _ hs => hs) ?_
        refine tn 10 rfl (by kernel_rfl) (by kernel_rfl) (by kernel_rfl) rfl rfl rfl (fun _ hs => hs) ?_
        refine tn 11 rfl (by kernel_rfl) (by kernel_rfl) (by kernel_rfl) rfl rfl rfl (fun _ hs => hs) ?_
        refine tn 12 rfl (by kernel_rfl) (by kernel_rfl) (by kernel_rfl) rfl rfl rfl (fun _ hs => hs) ?_
        refine tn 13 rfl (by kernel_rfl) (by kernel_rfl) (by kernel_rfl) rfl rfl rfl (fun _ hs => hs) ?_
        refine tn 14 rfl (by kernel_rfl) (by kernel_rfl) (by kernel_rfl) rfl rfl rfl (fun _ hs => hs) ?_
        refine tn 15 rfl (by kernel_rfl) (by kernel_rfl) (by kernel_rfl) rfl rfl rfl (fun _ hs => hs) ?_
        refine tn 16 rfl (by kernel_rfl) (by kernel_rfl) (by kernel_rfl) rfl rfl rfl (fun _ hs => hs) ?_
        refine tn 17 rfl (by kernel_rfl) (by kernel_rfl) (by kernel_rfl) rfl rfl rfl (fun _ hs => hs) ?_
        refine tn 18 rfl (by kernel_rfl) (by kernel_rfl) (by kernel_rfl) rfl rfl rfl (fun _ hs => hs) ?_
        refine tn 19 rfl (by kernel_rfl) (by kernel_rfl) (by kernel_rfl) rfl rfl rfl (fun _ hs => hs) ?_
        refine tn 20 rfl (by kernel_rfl) (by kernel_rfl) (by kernel_rfl) rfl rfl rfl (fun _ hs => hs) ?_
        refine tn 21 rfl (by kernel_rfl) (by kernel_rfl) (by kernel_rfl) rfl rfl rfl (fun _ hs => hs) ?_
        refine tn 22 rfl (by kernel_rfl) (by kernel_rfl) (by kernel_rfl) rfl rfl rfl (fun _ hs => hs) ?_
        refine ty 23 rfl (by kernel_rfl) rfl (sv rfl rfl (rp rfl) ?_)
        refine tZ rfl ?_
        refine tE (by kernel_rfl) ?_
        refine x_then ?_
        refine D_weak [(0, v_l), (1, (.int .i64 n)), (5, (.int .i64 ((k : Nat) : Int))), (35, (.bool true))] ⟨rfl, rfl, rfl, rfl, trivial⟩ ?_
        refine C_t rfl ?_
        refine C_seq ?_
        refine C_reg ?_
        refine p1 rfl ?_
        refine D_end ?_
        refine x_then ?_
        refine C_ret ?_
        refine x_blk_ret ?_
        refine x_then_ret ?_
        refine x_then_ret ?_
        refine x_blk_ret ?_
        refine x_then_ret ?_
        refine R_1 rfl rfl fun w' hs => ⟨congrArg (fun z => Ending.returned (Value.bool z)) ?_, hs.bel⟩
        show (false : Bool) = ascW l n
        first | exact (ascW_bad (k := k) (by omega) (by simp_all [ascAtW, inR]; try omega)).symm | exact (ascW_all (fun i hi2 => hi i (by omega))).symm
      · have h8n : (inR x3 0 (wr (n - 1))) = true := not_f h8
        refine ty 9 rfl (by kernel_rfl) rfl (sv rfl rfl (rp rfl) ?_)
        refine tZ rfl ?_
        refine ty 10 rfl (by kernel_rfl) rfl (sv rfl rfl (rp rfl) ?_)
        refine tZ rfl ?_
        refine ty 11 rfl (by kernel_rfl) rfl (sv rfl rfl (rp rfl) ?_)
        refine tZ rfl ?_
        refine gs 23 rfl rfl (fun h9 => ?_) (fun h9 => ?_)
        · have pr9 : (0 : Int) < ((k : Nat) : Int) := of_decide_eq_true h9
          refine tk 12 rfl (by kernel_rfl) (by kernel_rfl) (by kernel_rfl) rfl (fun _ hs => hs) (rp rfl) ?_
          refine tk 13 rfl (by kernel_rfl) (by kernel_rfl) (by kernel_rfl) rfl (fun _ hs => hs) (rp rfl) ?_
          refine tk 14 rfl (by kernel_rfl) (by kernel_rfl) (by kernel_rfl) rfl (fun _ hs => hs) (D_sub rfl rfl rfl (r := ((k - 1 : Nat) : Int)) (by omega) (by omega)) ?_
          obtain ⟨x10, hx11⟩ := some_of_lt (l := l) (i := (k - 1)) (by omega)
          obtain ⟨es12, at13, hr14⟩ := rd_elem (n := 1) rfl h_l hx11
          obtain rfl : es12 = [.int .i64 x10] := hr14
          refine tk 15 rfl (by kernel_rfl) (by kernel_rfl) (by kernel_rfl) rfl (fun _ hs => hs) (D_ix (l := l) (j := (k - 1)) s_25 rfl rfl rfl (fun w' hs => (rd_at hs h_l)) rfl (lt_of_some hx11)) ?_
          refine tk 16 rfl (by kernel_rfl) (by kernel_rfl) (by kernel_rfl) rfl (fun _ hs => hs) (lr0 o_3 rfl rfl at13 rfl) ?_
          refine tk 17 rfl (by kernel_rfl) (by kernel_rfl) (by kernel_rfl) rfl (fun _ hs => hs) (rp rfl) ?_
          refine tk 18 rfl (by kernel_rfl) (by kernel_rfl) (by kernel_rfl) rfl (fun _ hs => hs) (rp rfl) ?_
          refine tk 19 rfl (by kernel_rfl) (by kernel_rfl) (by kernel_rfl) rfl (fun _ hs => hs) (D_ix (l := l) (j := k) s_25 rfl rfl rfl (fun w' hs => (rd_at hs h_l)) rfl (lt_of_some hx4)) ?_
          refine tk 20 rfl (by kernel_rfl) (by kernel_rfl) (by kernel_rfl) rfl (fun _ hs => hs) (lr0 o_3 rfl rfl at6 rfl) ?_
          refine ty 21 rfl (by kernel_rfl) rfl (sv rfl rfl (rp rfl) ?_)
          refine tZ rfl ?_
          refine ty 22 rfl (by kernel_rfl) rfl (sv rfl rfl (rp rfl) ?_)
          refine tZ rfl ?_
          refine ty 23 rfl (by kernel_rfl) rfl (sv rfl rfl (rp rfl) ?_)
          refine tZ rfl ?_
          refine tE (by kernel_rfl) ?_
          refine x_then ?_
          refine D_weak [(0, v_l), (1, (.int .i64 n)), (5, (.int .i64 ((k : Nat) : Int))), (35, (.bool (decide ((x3 : Int) ≤ x10))))] ⟨rfl, rfl, rfl, rfl, trivial⟩ ?_
          refine C_if _ rfl (fun h15 => ?_) (fun h15 => ?_)
          · have pr15 : (x3 : Int) ≤ x10 := of_decide_eq_true h15
            refine C_seq ?_
            refine C_reg ?_
            refine p1 rfl ?_
            refine D_end ?_
            refine x_then ?_
            refine C_ret ?_
            refine x_blk_ret ?_
            refine x_then_ret ?_
            refine x_then_ret ?_
            refine x_blk_ret ?_
            refine x_then_ret ?_
            refine R_1 rfl rfl fun w' hs => ⟨congrArg (fun z => Ending.returned (Value.bool z)) ?_, hs.bel⟩
            show (false : Bool) = ascW l n
            first | exact (ascW_bad (k := k) (by omega) (by simp_all [ascAtW, inR]; try omega)).symm | exact (ascW_all (fun i hi2 => hi i (by omega))).symm
          · have pr15 : ¬ (x3 : Int) ≤ x10 := of_decide_eq_false h15
            refine C_skip ?_
            refine x_blk ?_
            refine x_then ?_
            refine C_reg ?_
            refine p1 rfl ?_
            refine q1 rfl (D_add rfl rfl rfl (r := ((k + 1 : Nat) : Int)) (by omega) (by omega)) ?_
            refine p1 rfl ?_
            refine D_end ?_
            refine x_then ?_
            refine fun ac w' hf hs => ⟨_, ?_, k + 1, ?_, ?_, rfl, hf.weak ⟨rfl, rfl, rfl, trivial⟩, hs⟩
            · omega
            · first | assumption | omega | simp
            · exact forall_step hi (by simp_all [ascAtW, inR]; try omega)
        · have pr9 : ¬ (0 : Int) < ((k : Nat) : Int) := of_decide_eq_false h9
          refine tn 12 rfl (by kernel_rfl) (by kernel_rfl) (by kernel_rfl) rfl rfl rfl (fun _ hs => hs) ?_
          refine tn 13 rfl (by kernel_rfl) (by kernel_rfl) (by kernel_rfl) rfl rfl rfl (fun _ hs => hs) ?_
          refine tn 14 rfl (by kernel_rfl) (by kernel_rfl) (by kernel_rfl) rfl rfl rfl (fun _ hs => hs) ?_
          refine tn 15 rfl (by kernel_rfl) (by kernel_rfl) (by kernel_rfl) rfl rfl rfl (fun _ hs => hs) ?_
          refine tn 16 rfl (by kernel_rfl) (by kernel_rfl) (by kernel_rfl) rfl rfl rfl (fun _ hs => hs) ?_
          refine tn 17 rfl (by kernel_rfl) (by kernel_rfl) (by kernel_rfl) rfl rfl rfl (fun _ hs => hs) ?_
          refine tn 18 rfl (by kernel_rfl) (by kernel_rfl) (by kernel_rfl) rfl rfl rfl (fun _ hs => hs) ?_
          refine tn 19 rfl (by kernel_rfl) (by kernel_rfl) (by kernel_rfl) rfl rfl rfl (fun _ hs => hs) ?_
          refine tn 20 rfl (by kernel_rfl) (by kernel_rfl) (by kernel_rfl) rfl rfl rfl (fun _ hs => hs) ?_
          refine tn 21 rfl (by kernel_rfl) (by kernel_rfl) (by kernel_rfl) rfl rfl rfl (fun _ hs => hs) ?_
          refine ty 22 rfl (by kernel_rfl) rfl (sv rfl rfl (rp rfl) ?_)
          refine tZ rfl ?_
          refine ty 23 rfl (by kernel_rfl) rfl (sv rfl rfl (rp rfl) ?_)
          refine tZ rfl ?_
          refine tE (by kernel_rfl) ?_
          refine x_then ?_
          refine D_weak [(0, v_l), (1, (.int .i64 n)), (5, (.int .i64 ((k : Nat) : Int))), (35, (.bool false))] ⟨rfl, rfl, rfl, rfl, trivial⟩ ?_
          refine C_f rfl ?_
          refine C_skip ?_
          refine x_blk ?_
          refine x_then ?_
          refine C_reg ?_
          refine p1 rfl ?_
          refine q1 rfl (D_add rfl rfl rfl (r := ((k + 1 : Nat) : Int)) (by omega) (by omega)) ?_
          refine p1 rfl ?_
          refine D_end ?_
          refine x_then ?_
          refine fun ac w' hf hs => ⟨_, ?_, k + 1, ?_, ?_, rfl, hf.weak ⟨rfl, rfl, rfl, trivial⟩, hs⟩
          · omega
          · first | assumption | omega | simp
          · exact forall_step hi (by simp_all [ascAtW, inR]; try omega)
    · have pr2 : ¬ (((k : Nat) : Int) : Int) < ((l.length : Nat) : Int) := of_decide_eq_false h2
      refine C_exit ?_
      refine x_then_exit ?_
      refine x_then_exit ?_
      refine x_blk_eq ?_
      refine x_then ?_
      refine C_seq ?_
      refine C_reg ?_
      refine p1 rfl ?_
      refine D_end ?_
      refine x_then ?_
      refine C_ret ?_
      refine R_1 rfl rfl fun w' hs => ⟨congrArg (fun z => Ending.returned (Value.bool z)) ?_, hs.bel⟩
      show (true : Bool) = ascW l n
      first | exact (ascW_bad (k := k) (by omega) (by simp_all [ascAtW, inR]; try omega)).symm | exact (ascW_all (fun i hi2 => hi i (by omega))).symm

set_option maxHeartbeats 4000000 in
theorem impl_IsBeliefs (w : World) (c_b : List Value) (b : Beliefs) (h_b : Gd.rd w c_b b) : Calls Try.prog 80 [(.agg c_b.toArray)].toArray w (Val w (.bool (isBeliefs b))) := by
  obtain ⟨u1, rfl, hu2⟩ := open_Beliefs h_b
  have hm3 := rd_max hu2
  refine enter 53 Try.func80 rfl rfl rfl ?_
  refine C_seq ?_
  refine C_reg ?_
  refine li rfl (D_box rfl rfl rfl rfl rfl fun g4 => ?_)
  refine p1 rfl ?_
  refine D_end ?_
  refine x_then ?_
  refine D_H ([bx g4 [(.int .i64 b.Nodes), u1]]) rfl ?_
  refine C_seq ?_
  refine C_seq ?_
  refine C_reg ?_
  refine q1 rfl (D_fb f_30_0 rfl rfl (q := 0) rfl) ?_
  refine q1 rfl (lb 0 o_3 rfl rfl rfl rfl) ?_
  refine p1 rfl <| p1 rfl ?_
  refine gs 8 rfl rfl (fun h5 => ?_) (fun h5 => ?_)
  · have pr5 : (b.Nodes : Int) < 0 := of_decide_eq_true h5
    refine n1 rfl ?_
    refine n1 rfl ?_
    refine n1 rfl ?_
    refine p1 rfl <| p1 rfl ?_
    refine n1 rfl ?_
    refine n1 rfl ?_
    refine n1 rfl ?_
    refine n1 rfl ?_
    refine p1 rfl ?_
    refine D_end ?_
    refine x_then ?_
    refine D_weak [(1, (.pointer (some ⟨g4, 0, none⟩))), (18, (.bool true))] ⟨rfl, rfl, trivial⟩ ?_
    refine C_t rfl ?_
    refine C_seq ?_
    refine C_reg ?_
    refine p1 rfl ?_
    refine D_end ?_
    refine x_then ?_
    refine C_ret ?_
    refine x_then_ret ?_
    refine R_1 rfl rfl fun w' hs => ⟨congrArg (fun z => Ending.returned (Value.bool z)) ?_, hs.bel⟩
    show (false : Bool) = isBeliefs b
    exact isB_hd (by omega)
  · have pr5 : ¬ (b.Nodes : Int) < 0 := of_decide_eq_false h5
    refine q1 rfl (D_fb f_30_0 rfl rfl (q := 0) rfl) ?_
    refine q1 rfl (lb 0 o_3 rfl rfl rfl rfl) ?_
    refine p1 rfl <| p1 rfl <| p1 rfl ?_
    refine gs 13 rfl rfl (fun h6 => ?_) (fun h6 => ?_)
    · have pr6 : (24 : Int) < b.Nodes := of_decide_eq_true h6
      refine n1 rfl ?_
      refine n1 rfl ?_
      refine n1 rfl ?_
      refine n1 rfl ?_
      refine p1 rfl ?_
      refine D_end ?_
      refine x_then ?_
      refine D_weak [(1, (.pointer (some ⟨g4, 0, none⟩))), (18, (.bool true))] ⟨rfl, rfl, trivial⟩ ?_
      refine C_t rfl ?_
      refine C_seq ?_
      refine C_reg ?_
      refine p1 rfl ?_
      refine D_end ?_
      refine x_then ?_
      refine C_ret ?_
      refine x_then_ret ?_
      refine R_1 rfl rfl fun w' hs => ⟨congrArg (fun z => Ending.returned (Value.bool z)) ?_, hs.bel⟩
      show (false : Bool) = isBeliefs b
      exact isB_hd (by omega)
    · have pr6 : ¬ (24 : Int) < b.Nodes := of_decide_eq_false h6
      refine q1 rfl (D_fb f_30_1 rfl rfl (q := 1) rfl) ?_
      refine q1 rfl (lb 0 o_28 rfl rfl rfl rfl) ?_
      refine q1 rfl (D_len s_28 rfl rfl (rd_sl hu2)) ?_
      refine p1 rfl <| p1 rfl ?_
      refine D_end ?_
      refine x_then ?_
      refine D_weak [(1, (.pointer (some ⟨g4, 0, none⟩))), (18, (.bool (decide ((60 : Int) < ((b.Reasons.length : Nat) : Int)))))] ⟨rfl, rfl, trivial⟩ ?_
      refine C_if _ rfl (fun h7 => ?_) (fun h7 => ?_)
      · have pr7 : (60 : Int) < ((b.Reasons.length : Nat) : Int) := of_decide_eq_true h7
        refine C_seq ?_
        refine C_reg ?_
        refine p1 rfl ?_
        refine D_end ?_
        refine x_then ?_
        refine C_ret ?_
        refine x_then_ret ?_
        refine R_1 rfl rfl fun w' hs => ⟨congrArg (fun z => Ending.returned (Value.bool z)) ?_, hs.bel⟩
        show (false : Bool) = isBeliefs b
        exact isB_hd (by omega)
      · have pr7 : ¬ (60 : Int) < ((b.Reasons.length : Nat) : Int) := of_decide_eq_false h7
        refine C_skip ?_
        refine x_then ?_
        refine C_seq ?_
        refine C_seq ?_
        refine C_reg ?_
        refine q1 rfl (D_fb f_30_1 rfl rfl (q := 1) rfl) ?_
        refine q1 rfl (lb 0 o_28 rfl rfl rfl rfl) ?_
        refine q1 rfl (D_len s_28 rfl rfl (rd_sl hu2)) ?_
        refine p1 rfl ?_
        refine D_end ?_
        refine x_then ?_
        refine C_block ?_
        refine C_loop (fun m_ ac w' => ∃ (k : Nat), (k ≤ b.Reasons.length) ∧ (∀ i, i < k → ∀ r, b.Reasons[i]? = some r → isReason r b.Nodes = true) ∧ m_ = b.Reasons.length - k ∧ Fits ac 53 [(1, (.pointer (some ⟨g4, 0, none⟩))), (20, u1), (21, (.int .i64 ((b.Reasons.length : Nat) : Int))), (22, (.int .i64 ((k : Nat) : Int)))] ∧ St w ([bx g4 [(.int .i64 b.Nodes), u1]]) w') ?_ ?_
        · refine fun ac w' hf hs => ⟨_, 0, ?_, ?_, rfl, hf.weak ⟨rfl, rfl, rfl, rfl, trivial⟩, hs⟩
          · first | assumption | omega | simp
          · intro i hi; omega
        · rintro m_ ac w' ⟨k, hk, hi, rfl, hf, hs⟩
          refine D.use ?_ hf hs
          clear hf hs ac w'
          refine C_seq ?_
          refine C_reg ?_
          refine p1 rfl ?_
          refine D_end ?_
          refine x_then ?_
          refine C_seq ?_
          refine C_if _ rfl (fun h8 => ?_) (fun h8 => ?_)
          · have pr8 : (((k : Nat) : Int) : Int) < ((b.Reasons.length : Nat) : Int) := of_decide_eq_true h8
            refine C_skip ?_
            refine x_then ?_
            refine C_seq ?_
            refine C_block ?_
            refine C_seq ?_
            refine C_reg ?_
            obtain ⟨x9, hx10⟩ := some_of_lt (l := b.Reasons) (i := k) (by omega)
            obtain ⟨es11, at12, hr13⟩ := rd_elem (n := 3) rfl hu2 hx10
            obtain ⟨u14, u17, rfl, hu15, hu18⟩ := open_Reason hr13
            have hm19 := rd_max hu15
            have hm20 := rd_max hu18
            refine q1 rfl (D_ix (l := b.Reasons) (j := k) s_28 rfl rfl rfl (fun w' hs => (rd_at hs hu2)) rfl (lt_of_some hx10)) ?_
            refine q1 rfl (lra a_67 rfl rfl at12) ?_
            refine li rfl (D_alloc y_67 rfl rfl rfl rfl fun g21 => ?_)
            refine li rfl (D_stb (vs := [(.int .i64 x9.For), u14, u17]) (cs' := [(.int .i64 x9.For), u14, u17]) 0 z_67 rfl rfl rfl rfl rfl rfl (ocons rfl (ocons (one_rd hu15) (ocons (one_rd hu18) onil))) (by simp) rfl ?_)
            refine D_end ?_
            refine x_then ?_
            refine D_H ([bx g21 [(.int .i64 x9.For), u14, u17], bx g4 [(.int .i64 b.Nodes), u1]]) rfl ?_
            refine C_seq ?_
            refine C_reg ?_
            refine q1 rfl (D_fb f_67_0 rfl rfl (q := 0) rfl) ?_
            refine q1 rfl (lb 0 o_3 rfl rfl rfl rfl) ?_
            refine p1 rfl <| p1 rfl ?_
            refine gs 29 rfl rfl (fun h22 => ?_) (fun h22 => ?_)
            · have pr22 : (x9.For : Int) < 0 := of_decide_eq_true h22
              refine n1 rfl ?_
              refine n1 rfl ?_
              refine n1 rfl ?_
              refine n1 rfl ?_
              refine n1 rfl ?_
              refine p1 rfl <| p1 rfl ?_
              refine n1 rfl ?_
              refine n1 rfl ?_
              refine n1 rfl ?_
              refine n1 rfl ?_
              refine n1 rfl ?_
              refine n1 rfl ?_
              refine p1 rfl <| p1 rfl ?_
              refine n1 rfl ?_
              refine n1 rfl ?_
              refine n1 rfl ?_
              refine n1 rfl ?_
              refine n1 rfl ?_
              refine n1 rfl ?_
              refine p1 rfl ?_
              refine D_end ?_
              refine x_then ?_
              refine D_weak [(1, (.pointer (some ⟨g4, 0, none⟩))), (20, u1), (21, (.int .i64 ((b.Reasons.length : Nat) : Int))), (22, (.int .i64 ((k : Nat) : Int))), (51, (.bool true))] ⟨rfl, rfl, rfl, rfl, rfl, trivial⟩ ?_
              refine D_sel (H' := [bx g4 [(.int .i64 b.Nodes), u1]]) [false, true] rfl ?_
              refine C_t rfl ?_
              refine C_seq ?_
              refine C_reg ?_
              refine p1 rfl ?_
              refine D_end ?_
              refine x_then ?_
              refine C_ret ?_
              refine x_blk_ret ?_
              refine x_then_ret ?_
              refine x_then_ret ?_
              refine x_blk_ret ?_
              refine x_then_ret ?_
              refine R_1 rfl rfl fun w' hs => ⟨congrArg (fun z => Ending.returned (Value.bool z)) ?_, hs.bel⟩
              show (false : Bool) = isBeliefs b
              exact isB_bad (by assumption) (by simp_all [isReason]; try omega)
            · have pr22 : ¬ (x9.For : Int) < 0 := of_decide_eq_false h22
              refine q1 rfl (D_fb f_67_0 rfl rfl (q := 0) rfl) ?_
              refine q1 rfl (lb 0 o_3 rfl rfl rfl rfl) ?_
              refine q1 rfl (D_fb f_30_0 rfl rfl (q := 0) rfl) ?_
              refine q1 rfl (lb 1 o_3 rfl rfl rfl rfl) ?_
              refine p1 rfl <| p1 rfl <| p1 rfl ?_
              refine gs 36 rfl rfl (fun h23 => ?_) (fun h23 => ?_)
              · have pr23 : (b.Nodes : Int) ≤ x9.For := of_decide_eq_true h23
                refine n1 rfl ?_
                refine n1 rfl ?_
                refine n1 rfl ?_
                refine n1 rfl ?_
                refine n1 rfl ?_
                refine n1 rfl ?_
                refine p1 rfl <| p1 rfl ?_
                refine n1 rfl ?_
                refine n1 rfl ?_
                refine n1 rfl ?_
                refine n1 rfl ?_
                refine n1 rfl ?_
                refine n1 rfl ?_
                refine p1 rfl ?_
                refine D_end ?_
                refine x_then ?_
                refine D_weak [(1, (.pointer (some ⟨g4, 0, none⟩))), (20, u1), (21, (.int .i64 ((b.Reasons.length : Nat) : Int))), (22, (.int .i64 ((k : Nat) : Int))), (51, (.bool true))] ⟨rfl, rfl, rfl, rfl, rfl, trivial⟩ ?_
                refine D_sel (H' := [bx g4 [(.int .i64 b.Nodes), u1]]) [false, true] rfl ?_
                refine C_t rfl ?_
                refine C_seq ?_
                refine C_reg ?_
                refine p1 rfl ?_
                refine D_end ?_
                refine x_then ?_
                refine C_ret ?_
                refine x_blk_ret ?_
                refine x_then_ret ?_
                refine x_then_ret ?_
                refine x_blk_ret ?_
                refine x_then_ret ?_
                refine R_1 rfl rfl fun w' hs => ⟨congrArg (fun z => Ending.returned (Value.bool z)) ?_, hs.bel⟩
                show (false : Bool) = isBeliefs b
                exact isB_bad (by assumption) (by simp_all [isReason]; try omega)
              · have pr23 : ¬ (b.Nodes : Int) ≤ x9.For := of_decide_eq_false h23
                refine q1 rfl (D_fb f_67_1 rfl rfl (q := 1) rfl) ?_
                refine q1 rfl (lb 0 o_25 rfl rfl rfl rfl) ?_
                refine q1 rfl (D_fb f_30_0 rfl rfl (q := 0) rfl) ?_
                refine q1 rfl (lb 1 o_3 rfl rfl rfl rfl) ?_
                refine li rfl (cv b_69 rfl rfl rfl rfl (fun w' hs => (impl_ascendingNodes w' u14 x9.In b.Nodes (rd_at hs hu15))) ?_)
                refine p1 rfl <| p1 rfl <| p1 rfl ?_
                refine gs 44 rfl rfl (fun h24 => ?_) (fun h24 => ?_)
                · have h24n : (asc x9.In b.Nodes) = false := not_t h24
                  refine n1 rfl ?_
                  refine n1 rfl ?_
                  refine n1 rfl ?_
                  refine n1 rfl ?_
                  refine n1 rfl ?_
                  refine n1 rfl ?_
                  refine p1 rfl ?_
                  refine D_end ?_
                  refine x_then ?_
                  refine D_weak [(1, (.pointer (some ⟨g4, 0, none⟩))), (20, u1), (21, (.int .i64 ((b.Reasons.length : Nat) : Int))), (22, (.int .i64 ((k : Nat) : Int))), (51, (.bool true))] ⟨rfl, rfl, rfl, rfl, rfl, trivial⟩ ?_
                  refine D_sel (H' := [bx g4 [(.int .i64 b.Nodes), u1]]) [false, true] rfl ?_
                  refine C_t rfl ?_
                  refine C_seq ?_
                  refine C_reg ?_
                  refine p1 rfl ?_
                  refine D_end ?_
                  refine x_then ?_
                  refine C_ret ?_
                  refine x_blk_ret ?_
                  refine x_then_ret ?_
                  refine x_then_ret ?_
                  refine x_blk_ret ?_
                  refine x_then_ret ?_
                  refine R_1 rfl rfl fun w' hs => ⟨congrArg (fun z => Ending.returned (Value.bool z)) ?_, hs.bel⟩
                  show (false : Bool) = isBeliefs b
                  exact isB_bad (by assumption) (by simp_all [isReason]; try omega)
                · have h24n : (asc x9.In b.Nodes) = true := not_f h24
                  refine q1 rfl (D_fb f_67_2 rfl rfl (q := 2) rfl) ?_
                  refine q1 rfl (lb 0 o_25 rfl rfl rfl rfl) ?_
                  refine q1 rfl (D_fb f_30_0 rfl rfl (q := 0) rfl) ?_
                  refine q1 rfl (lb 1 o_3 rfl rfl rfl rfl) ?_
                  refine li rfl (cv b_69 rfl rfl rfl rfl (fun w' hs => (impl_ascendingNodes w' u17 x9.Out b.Nodes (rd_at hs hu18))) ?_)
                  refine p1 rfl <| p1 rfl ?_
                  refine D_end ?_
                  refine x_then ?_
                  refine D_weak [(1, (.pointer (some ⟨g4, 0, none⟩))), (20, u1), (21, (.int .i64 ((b.Reasons.length : Nat) : Int))), (22, (.int .i64 ((k : Nat) : Int))), (51, (.bool (!(asc x9.Out b.Nodes))))] ⟨rfl, rfl, rfl, rfl, rfl, trivial⟩ ?_
                  refine D_sel (H' := [bx g4 [(.int .i64 b.Nodes), u1]]) [false, true] rfl ?_
                  refine C_if _ rfl (fun h25 => ?_) (fun h25 => ?_)
                  · have h25n : (asc x9.Out b.Nodes) = false := not_t h25
                    refine C_seq ?_
                    refine C_reg ?_
                    refine p1 rfl ?_
                    refine D_end ?_
                    refine x_then ?_
                    refine C_ret ?_
                    refine x_blk_ret ?_
                    refine x_then_ret ?_
                    refine x_then_ret ?_
                    refine x_blk_ret ?_
                    refine x_then_ret ?_
                    refine R_1 rfl rfl fun w' hs => ⟨congrArg (fun z => Ending.returned (Value.bool z)) ?_, hs.bel⟩
                    show (false : Bool) = isBeliefs b
                    exact isB_bad (by assumption) (by simp_all [isReason]; try omega)
                  · have h25n : (asc x9.Out b.Nodes) = true := not_f h25
                    refine C_skip ?_
                    refine x_blk ?_
                    refine x_then ?_
                    refine C_reg ?_
                    refine q1 rfl (D_add rfl rfl rfl (r := ((k + 1 : Nat) : Int)) (by omega) (by omega)) ?_
                    refine p1 rfl ?_
                    refine D_end ?_
                    refine x_then ?_
                    refine fun ac w' hf hs => ⟨_, ?_, k + 1, ?_, ?_, rfl, hf.weak ⟨rfl, rfl, rfl, rfl, trivial⟩, hs⟩
                    · omega
                    · first | assumption | omega | simp
                    · refine forall_step hi ?_; intro r hr; simp_all [isReason]; try omega
          · have pr8 : ¬ (((k : Nat) : Int) : Int) < ((b.Reasons.length : Nat) : Int) := of_decide_eq_false h8
            refine C_exit ?_
            refine x_then_exit ?_
            refine x_then_exit ?_
            refine x_blk_eq ?_
            refine x_then ?_
            refine C_seq ?_
            refine C_reg ?_
            refine p1 rfl ?_
            refine D_end ?_
            refine x_then ?_
            refine C_ret ?_
            refine R_1 rfl rfl fun w' hs => ⟨congrArg (fun z => Ending.returned (Value.bool z)) ?_, hs.bel⟩
            show (true : Bool) = isBeliefs b
            exact isB_ok (by omega) (fun i h => hi i (by omega))

theorem spec_IsBeliefs (w : World) (c_b : List Value) (b : Beliefs) (h_b : Gd.rd w c_b b) : Calls Try.prog 85 [(.agg c_b.toArray)].toArray w (Val w (.bool (isBeliefs b))) := by
  obtain ⟨u1, rfl, hu2⟩ := open_Beliefs h_b
  have hm3 := rd_max hu2
  refine enter 49 Try.func85 rfl rfl rfl ?_
  refine C_seq ?_
  refine C_reg ?_
  refine li rfl (D_box rfl rfl rfl rfl rfl fun g4 => ?_)
  refine p1 rfl ?_
  refine D_end ?_
  refine x_then ?_
  refine D_H ([bx g4 [(.int .i64 b.Nodes), u1]]) rfl ?_
  refine C_seq ?_
  refine C_seq ?_
  refine C_reg ?_
  refine p1 rfl ?_
  refine D_end ?_
  refine x_then ?_
  refine C_block ?_
  refine C_loop (fun m_ ac w' => ∃ (k : Nat), (k ≤ b.Reasons.length) ∧ (∀ i, i < k → ∀ r, b.Reasons[i]? = some r → isReasonW r b.Nodes = true) ∧ m_ = b.Reasons.length - k ∧ Fits ac 49 [(1, (.pointer (some ⟨g4, 0, none⟩))), (3, (.int .i64 ((k : Nat) : Int)))] ∧ St w ([bx g4 [(.int .i64 b.Nodes), u1]]) w') ?_ ?_
  · refine fun ac w' hf hs => ⟨_, 0, ?_, ?_, rfl, hf.weak ⟨rfl, rfl, trivial⟩, hs⟩
    · first | assumption | omega | simp
    · intro i hi; omega
  · rintro m_ ac w' ⟨k, hk, hi, rfl, hf, hs⟩
    refine D.use ?_ hf hs
    clear hf hs ac w'
    refine C_seq ?_
    refine C_seq ?_
    refine C_reg ?_
    refine p1 rfl ?_
    refine q1 rfl (D_fb f_30_1 rfl rfl (q := 1) rfl) ?_
    refine q1 rfl (lb 0 o_28 rfl rfl rfl rfl) ?_
    refine q1 rfl (D_len s_28 rfl rfl (rd_sl hu2)) ?_
    refine p1 rfl ?_
    refine D_end ?_
    refine x_then ?_
    refine C_if _ rfl (fun h5 => ?_) (fun h5 => ?_)
    · have pr5 : (((k : Nat) : Int) : Int) < ((b.Reasons.length : Nat) : Int) := of_decide_eq_true h5
      refine C_skip ?_
      refine x_then ?_
      refine C_seq ?_
      refine C_block ?_
      refine C_seq ?_
      refine C_reg ?_
      refine q1 rfl (D_fb f_30_1 rfl rfl (q := 1) rfl) ?_
      refine q1 rfl (lb 0 o_28 rfl rfl rfl rfl) ?_
      refine p1 rfl ?_
      obtain ⟨x6, hx7⟩ := some_of_lt (l := b.Reasons) (i := k) (by omega)
      obtain ⟨es8, at9, hr10⟩ := rd_elem (n := 3) rfl hu2 hx7
      obtain ⟨u11, u13, rfl, hu12, hu14⟩ := open_Reason hr10
      have hm15 := rd_max hu12
      have hm16 := rd_max hu14
      refine q1 rfl (D_ix (l := b.Reasons) (j := k) s_28 rfl rfl rfl (fun w' hs => (rd_at hs hu2)) rfl (lt_of_some hx7)) ?_
      refine q1 rfl (lra a_67 rfl rfl at9) ?_
      refine li rfl (D_alloc y_67 rfl rfl rfl rfl fun g17 => ?_)
      refine li rfl (D_stb (vs := [(.int .i64 x6.For), u11, u13]) (cs' := [(.int .i64 x6.For), u11, u13]) 0 z_67 rfl rfl rfl rfl rfl rfl (ocons rfl (ocons (one_rd hu12) (ocons (one_rd hu14) onil))) (by simp) rfl ?_)
      refine D_end ?_
      refine x_then ?_
      refine D_H ([bx g17 [(.int .i64 x6.For), u11, u13], bx g4 [(.int .i64 b.Nodes), u1]]) rfl ?_
      refine C_seq ?_
      refine C_reg ?_
      refine q1 rfl (D_fb f_67_0 rfl rfl (q := 0) rfl) ?_
      refine q1 rfl (lb 0 o_3 rfl rfl rfl rfl) ?_
      refine q1 rfl (D_fb f_30_0 rfl rfl (q := 0) rfl) ?_
      refine q1 rfl (lb 1 o_3 rfl rfl rfl rfl) ?_
      refine q1 rfl (D_subw rfl rfl rfl) ?_
      refine li rfl (cv b_66 rfl rfl rfl rfl (fun w' hs => (spec_l1In w' x6.For 0 (wr (b.Nodes - 1)))) ?_)
      refine p1 rfl <| p1 rfl ?_
      refine gs 24 rfl rfl (fun h18 => ?_) (fun h18 => ?_)
      · have h18n : (inR x6.For 0 (wr (b.Nodes - 1))) = false := not_t h18
        refine n1 rfl ?_
        refine n1 rfl ?_
        refine n1 rfl ?_
        refine n1 rfl ?_
        refine n1 rfl ?_
        refine n1 rfl ?_
        refine p1 rfl <| p1 rfl ?_
        refine n1 rfl ?_
        refine n1 rfl ?_
        refine n1 rfl ?_
        refine n1 rfl ?_
        refine n1 rfl ?_
        refine n1 rfl ?_
        refine p1 rfl ?_
        refine D_end ?_
        refine x_then ?_
        refine D_weak [(1, (.pointer (some ⟨g4, 0, none⟩))), (3, (.int .i64 ((k : Nat) : Int))), (39, (.bool true))] ⟨rfl, rfl, rfl, trivial⟩ ?_
        refine D_sel (H' := [bx g4 [(.int .i64 b.Nodes), u1]]) [false, true] rfl ?_
        refine C_t rfl ?_
        refine C_seq ?_
        refine C_reg ?_
        refine p1 rfl ?_
        refine D_end ?_
        refine x_then ?_
        refine C_ret ?_
        refine x_blk_ret ?_
        refine x_then_ret ?_
        refine x_then_ret ?_
        refine x_blk_ret ?_
        refine x_then_ret ?_
        refine R_1 rfl rfl fun w' hs => ⟨congrArg (fun z => Ending.returned (Value.bool z)) ?_, hs.bel⟩
        show (false : Bool) = isBeliefs b
        rw [← isBeliefsW_eq]; exact isBW_bad (by assumption) (by simp_all [isReasonW])
      · have h18n : (inR x6.For 0 (wr (b.Nodes - 1))) = true := not_f h18
        refine q1 rfl (D_fb f_67_1 rfl rfl (q := 1) rfl) ?_
        refine q1 rfl (lb 0 o_25 rfl rfl rfl rfl) ?_
        refine q1 rfl (D_fb f_30_0 rfl rfl (q := 0) rfl) ?_
        refine q1 rfl (lb 1 o_3 rfl rfl rfl rfl) ?_
        refine li rfl (cv b_42 rfl rfl rfl rfl (fun w' hs => (spec_l11List w' u11 x6.In b.Nodes (rd_at hs hu12))) ?_)
        refine p1 rfl <| p1 rfl <| p1 rfl ?_
        refine gs 32 rfl rfl (fun h19 => ?_) (fun h19 => ?_)
        · have h19n : (ascW x6.In b.Nodes) = false := not_t h19
          refine n1 rfl ?_
          refine n1 rfl ?_
          refine n1 rfl ?_
          refine n1 rfl ?_
          refine n1 rfl ?_
          refine n1 rfl ?_
          refine p1 rfl ?_
          refine D_end ?_
          refine x_then ?_
          refine D_weak [(1, (.pointer (some ⟨g4, 0, none⟩))), (3, (.int .i64 ((k : Nat) : Int))), (39, (.bool true))] ⟨rfl, rfl, rfl, trivial⟩ ?_
          refine D_sel (H' := [bx g4 [(.int .i64 b.Nodes), u1]]) [false, true] rfl ?_
          refine C_t rfl ?_
          refine C_seq ?_
          refine C_reg ?_
          refine p1 rfl ?_
          refine D_end ?_
          refine x_then ?_
          refine C_ret ?_
          refine x_blk_ret ?_
          refine x_then_ret ?_
          refine x_then_ret ?_
          refine x_blk_ret ?_
          refine x_then_ret ?_
          refine R_1 rfl rfl fun w' hs => ⟨congrArg (fun z => Ending.returned (Value.bool z)) ?_, hs.bel⟩
          show (false : Bool) = isBeliefs b
          rw [← isBeliefsW_eq]; exact isBW_bad (by assumption) (by simp_all [isReasonW])
        · have h19n : (ascW x6.In b.Nodes) = true := not_f h19
          refine q1 rfl (D_fb f_67_2 rfl rfl (q := 2) rfl) ?_
          refine q1 rfl (lb 0 o_25 rfl rfl rfl rfl) ?_
          refine q1 rfl (D_fb f_30_0 rfl rfl (q := 0) rfl) ?_
          refine q1 rfl (lb 1 o_3 rfl rfl rfl rfl) ?_
          refine li rfl (cv b_42 rfl rfl rfl rfl (fun w' hs => (spec_l11List w' u13 x6.Out b.Nodes (rd_at hs hu14))) ?_)
          refine p1 rfl <| p1 rfl ?_
          refine D_end ?_
          refine x_then ?_
          refine D_weak [(1, (.pointer (some ⟨g4, 0, none⟩))), (3, (.int .i64 ((k : Nat) : Int))), (39, (.bool (!(ascW x6.Out b.Nodes))))] ⟨rfl, rfl, rfl, trivial⟩ ?_
          refine D_sel (H' := [bx g4 [(.int .i64 b.Nodes), u1]]) [false, true] rfl ?_
          refine C_if _ rfl (fun h20 => ?_) (fun h20 => ?_)
          · have h20n : (ascW x6.Out b.Nodes) = false := not_t h20
            refine C_seq ?_
            refine C_reg ?_
            refine p1 rfl ?_
            refine D_end ?_
            refine x_then ?_
            refine C_ret ?_
            refine x_blk_ret ?_
            refine x_then_ret ?_
            refine x_then_ret ?_
            refine x_blk_ret ?_
            refine x_then_ret ?_
            refine R_1 rfl rfl fun w' hs => ⟨congrArg (fun z => Ending.returned (Value.bool z)) ?_, hs.bel⟩
            show (false : Bool) = isBeliefs b
            rw [← isBeliefsW_eq]; exact isBW_bad (by assumption) (by simp_all [isReasonW])
          · have h20n : (ascW x6.Out b.Nodes) = true := not_f h20
            refine C_skip ?_
            refine x_blk ?_
            refine x_then ?_
            refine C_reg ?_
            refine p1 rfl ?_
            refine q1 rfl (D_add rfl rfl rfl (r := ((k + 1 : Nat) : Int)) (by omega) (by omega)) ?_
            refine p1 rfl ?_
            refine D_end ?_
            refine x_then ?_
            refine fun ac w' hf hs => ⟨_, ?_, k + 1, ?_, ?_, rfl, hf.weak ⟨rfl, rfl, trivial⟩, hs⟩
            · omega
            · first | assumption | omega | simp
            · refine forall_step hi ?_; intro r hr; simp_all [isReasonW]
    · have pr5 : ¬ (((k : Nat) : Int) : Int) < ((b.Reasons.length : Nat) : Int) := of_decide_eq_false h5
      refine C_exit ?_
      refine x_then_exit ?_
      refine x_then_exit ?_
      refine x_blk_eq ?_
      refine x_then ?_
      refine C_seq ?_
      refine C_reg ?_
      refine q1 rfl (D_fb f_30_0 rfl rfl (q := 0) rfl) ?_
      refine q1 rfl (lb 0 o_3 rfl rfl rfl rfl) ?_
      refine li rfl (cv b_66 rfl rfl rfl rfl (fun w' hs => (spec_l1In w' b.Nodes 0 24)) ?_)
      refine p1 rfl ?_
      refine gs 43 rfl rfl (fun h21 => ?_) (fun h21 => ?_)
      · refine q1 rfl (D_fb f_30_1 rfl rfl (q := 1) rfl) ?_
        refine q1 rfl (lb 0 o_28 rfl rfl rfl rfl) ?_
        refine q1 rfl (D_len s_28 rfl rfl (rd_sl hu2)) ?_
        refine p1 rfl <| p1 rfl <| p1 rfl ?_
        refine D_end ?_
        refine x_then ?_
        refine D_weak [(2, (.bool (decide ((((b.Reasons.length : Nat) : Int) : Int) ≤ 60))))] ⟨rfl, trivial⟩ ?_
        refine D_sel (H' := []) [false] rfl ?_
        refine C_ret ?_
        refine R_1 rfl rfl fun w' hs => ⟨congrArg (fun z => Ending.returned (Value.bool z)) ?_, hs.bel⟩
        show ((decide ((((b.Reasons.length : Nat) : Int) : Int) ≤ 60)) : Bool) = isBeliefs b
        rw [← isBeliefsW_eq]; exact isBW_ok (fun i h => hi i (by omega)) (by simp_all; try omega)
      · refine n1 rfl ?_
        refine n1 rfl ?_
        refine n1 rfl ?_
        refine n1 rfl ?_
        refine p1 rfl <| p1 rfl ?_
        refine D_end ?_
        refine x_then ?_
        refine D_weak [(2, (.bool false))] ⟨rfl, trivial⟩ ?_
        refine D_sel (H' := []) [false] rfl ?_
        refine C_ret ?_
        refine R_1 rfl rfl fun w' hs => ⟨congrArg (fun z => Ending.returned (Value.bool z)) ?_, hs.bel⟩
        show (false : Bool) = isBeliefs b
        rw [← isBeliefsW_eq]; exact isBW_ok (fun i h => hi i (by omega)) (by simp_all; try omega)
end Go.Sy.Bel1
