/-
  Contracts of functions of the program, walked (printed by a program of ours).
  Conditions: those that each theorem states.
-/
import Derived.Test.YtbdgibigmfmfeaaDoorProg
import Derived.Test.YtbdgibigmfmfeaaDoorTypes
import Derived.Test.YtbdgibigmfmfeaaDoorBase
set_option linter.unusedVariables false
set_option maxRecDepth 20000
namespace Go.Sy.Bel1
open Go Go.RowKit Go.Proofs Go.Sy
theorem mixed : Tryd.prog.follows .mixedOrders = true := by kernel_rfl
theorem s_22 : sliceTy Tryd.prog 22 = some (3, 1, 8) := by kernel_rfl
theorem f_24_1 : fieldOff Tryd.prog 24 1 = some 1 := by kernel_rfl
theorem o_22 : oneTy Tryd.prog 22 = true := by kernel_rfl
theorem b_9 : hasBody Tryd.prog 9 = true := by kernel_rfl
theorem f_24_2 : fieldOff Tryd.prog 24 2 = some 2 := by kernel_rfl
theorem y_3 : zeroTy Tryd.prog 3 = some (.int .i64 0) := by kernel_rfl
theorem o_3 : oneTy Tryd.prog 3 = true := by kernel_rfl
theorem z_3 : sizeTy Tryd.prog 3 = some 1 := by kernel_rfl
theorem y_27 : zeroTy Tryd.prog 27 = some (.agg #[(.int .i64 0), (.slice none 0 0), (.slice none 0 0)]) := by kernel_rfl
theorem f_24_0 : fieldOff Tryd.prog 24 0 = some 0 := by kernel_rfl
theorem f_27_0 : fieldOff Tryd.prog 27 0 = some 0 := by kernel_rfl
theorem b_12 : hasBody Tryd.prog 12 = true := by kernel_rfl
theorem f_27_1 : fieldOff Tryd.prog 27 1 = some 1 := by kernel_rfl
theorem z_22 : sizeTy Tryd.prog 22 = some 1 := by kernel_rfl
theorem f_27_2 : fieldOff Tryd.prog 27 2 = some 2 := by kernel_rfl
theorem a_27 : aggTy Tryd.prog 27 = some 3 := by kernel_rfl
theorem z_27 : sizeTy Tryd.prog 27 = some 3 := by kernel_rfl
theorem b_14 : hasBody Tryd.prog 14 = true := by kernel_rfl
theorem laws_szIntS (w : World) (v_a : Value) (a : (List Int)) (left : Int) (h_a : Gd.rd w [v_a] a) (h0 : 0 ≤ left) (h1 : left ≤ 1048576) : Calls Tryd.prog 9 [v_a, (.int .i64 left)].toArray w (Val w (.int .i64 (szm a.length left))) := by
  have hm1 := rd_max h_a
  refine enter 12 Tryd.func9 rfl rfl rfl ?_
  refine C_seq ?_
  refine C_reg ?_
  refine p1 rfl ?_
  refine D_end ?_
  refine x_then ?_
  refine C_seq ?_
  refine C_reg ?_
  refine p1 rfl <| p1 rfl ?_
  refine q1 rfl (D_len s_22 rfl rfl (rd_sl h_a)) ?_
  refine q1 rfl (D_sub rfl rfl rfl rfl (by omega)) ?_
  refine p1 rfl ?_
  refine D_end ?_
  refine x_then ?_
  refine C_seq ?_
  refine C_seq ?_
  refine C_reg ?_
  refine p1 rfl <| p1 rfl ?_
  refine D_end ?_
  refine x_then ?_
  refine C_if _ rfl (fun h2 => ?_) (fun h2 => ?_)
  · have pr2 : ((left - ((a.length : Nat) : Int)) : Int) < 0 := of_decide_eq_true h2
    refine C_seq ?_
    refine C_reg ?_
    refine p1 rfl ?_
    refine D_end ?_
    refine x_then ?_
    refine C_ret ?_
    refine x_then_ret ?_
    refine R_1 rfl rfl fun w' hs => ⟨congrArg (fun z => Ending.returned (Value.int .i64 z)) ?_, hs.bel⟩
    show ((-1) : Int) = szm a.length left
    exact (szm_neg (by omega)).symm
  · have pr2 : ¬ ((left - ((a.length : Nat) : Int)) : Int) < 0 := of_decide_eq_false h2
    refine C_skip ?_
    refine x_then ?_
    refine C_seq ?_
    refine C_reg ?_
    refine p1 rfl <| p1 rfl ?_
    refine D_end ?_
    refine x_then ?_
    refine C_ret ?_
    refine R_1 rfl rfl fun w' hs => ⟨congrArg (fun z => Ending.returned (Value.int .i64 z)) ?_, hs.bel⟩
    show ((left - ((a.length : Nat) : Int)) : Int) = szm a.length left
    exact (szm_pos (by omega)).symm

theorem laws_szReason (w : World) (c_a : List Value) (a : Reason) (left : Int) (h_a : Gd.rd w c_a a) (h0 : 0 ≤ left) (h1 : left ≤ 1048576) : Calls Tryd.prog 4 [(.agg c_a.toArray), (.int .i64 left)].toArray w (Val w (.int .i64 (szm (szR a) left))) := by
  obtain ⟨u1, u3, rfl, hu2, hu4⟩ := open_Reason h_a
  have hm5 := rd_max hu2
  have hm6 := rd_max hu4
  refine enter 18 Tryd.func4 rfl rfl rfl ?_
  refine C_seq ?_
  refine C_reg ?_
  refine li rfl (D_box rfl rfl rfl rfl rfl fun g7 => ?_)
  refine p1 rfl ?_
  refine D_end ?_
  refine x_then ?_
  refine D_H ([bx g7 [(.int .i64 a.For), u1, u3]]) rfl ?_
  refine C_seq ?_
  refine C_reg ?_
  refine q1 rfl (D_fb f_24_1 rfl rfl (q := 1) rfl) ?_
  refine q1 rfl (lb 0 o_22 rfl rfl rfl rfl) ?_
  refine p1 rfl ?_
  refine li rfl (cv b_9 rfl rfl rfl rfl (fun w' hs => (laws_szIntS w' u1 a.In left (rd_at hs hu2) (by first | assumption | omega | (unfold szm at *; split at * <;> omega)) (by first | assumption | omega | (unfold szm at *; split at * <;> omega)))) ?_)
  refine p1 rfl ?_
  refine D_end ?_
  refine x_then ?_
  refine C_seq ?_
  refine C_seq ?_
  refine C_reg ?_
  refine p1 rfl <| p1 rfl ?_
  refine D_end ?_
  refine x_then ?_
  refine C_if _ rfl (fun h8 => ?_) (fun h8 => ?_)
  · have pr8 : ((szm a.In.length left) : Int) < 0 := of_decide_eq_true h8
    refine C_seq ?_
    refine C_reg ?_
    refine p1 rfl ?_
    refine D_end ?_
    refine x_then ?_
    refine C_ret ?_
    refine x_then_ret ?_
    refine R_1 rfl rfl fun w' hs => ⟨congrArg (fun z => Ending.returned (Value.int .i64 z)) ?_, hs.bel⟩
    show ((-1) : Int) = szm (szR a) left
    unfold szR szm at *; repeat (split at * <;> try omega)
  · have pr8 : ¬ ((szm a.In.length left) : Int) < 0 := of_decide_eq_false h8
    have pr8z := szm_val (n := a.In.length) (left := left) pr8
    refine C_skip ?_
    refine x_then ?_
    refine C_seq ?_
    refine C_reg ?_
    refine q1 rfl (D_fb f_24_2 rfl rfl (q := 2) rfl) ?_
    refine q1 rfl (lb 0 o_22 rfl rfl rfl rfl) ?_
    refine p1 rfl ?_
    refine li rfl (cv b_9 rfl rfl rfl rfl (fun w' hs => (laws_szIntS w' u3 a.Out (szm a.In.length left) (rd_at hs hu4) (by first | assumption | omega | (unfold szm at *; split at * <;> omega)) (by first | assumption | omega | (unfold szm at *; split at * <;> omega)))) ?_)
    refine p1 rfl ?_
    refine D_end ?_
    refine x_then ?_
    refine C_seq ?_
    refine C_seq ?_
    refine C_reg ?_
    refine p1 rfl <| p1 rfl ?_
    refine D_end ?_
    refine x_then ?_
    refine C_if _ rfl (fun h9 => ?_) (fun h9 => ?_)
    · have pr9 : ((szm a.Out.length (szm a.In.length left)) : Int) < 0 := of_decide_eq_true h9
      refine C_seq ?_
      refine C_reg ?_
      refine p1 rfl ?_
      refine D_end ?_
      refine x_then ?_
      refine D_weak [(4, (.int .i64 (-1)))] ⟨rfl, trivial⟩ ?_
      refine D_sel (H' := []) [false] rfl ?_
      refine C_ret ?_
      refine x_then_ret ?_
      refine R_1 rfl rfl fun w' hs => ⟨congrArg (fun z => Ending.returned (Value.int .i64 z)) ?_, hs.bel⟩
      show ((-1) : Int) = szm (szR a) left
      unfold szR szm at *; repeat (split at * <;> try omega)
    · have pr9 : ¬ ((szm a.Out.length (szm a.In.length left)) : Int) < 0 := of_decide_eq_false h9
      have pr9z := szm_val (n := a.Out.length) (left := (szm a.In.length left)) pr9
      refine C_skip ?_
      refine x_then ?_
      refine D_weak [(1, (.int .i64 (szm a.Out.length (szm a.In.length left))))] ⟨rfl, trivial⟩ ?_
      refine D_sel (H' := []) [false] rfl ?_
      refine C_seq ?_
      refine C_reg ?_
      refine p1 rfl <| p1 rfl ?_
      refine D_end ?_
      refine x_then ?_
      refine C_ret ?_
      refine R_1 rfl rfl fun w' hs => ⟨congrArg (fun z => Ending.returned (Value.int .i64 z)) ?_, hs.bel⟩
      show ((szm a.Out.length (szm a.In.length left)) : Int) = szm (szR a) left
      unfold szR szm at *; repeat (split at * <;> try omega)

theorem laws_toIntS (w : World) (v_a : Value) (a : (List Int)) (h_a : Gd.rd w [v_a] a) (hn : a.length ≤ 1048576) : Calls Tryd.prog 12 [v_a].toArray w (Res w (a : List Int)) := by
  have hm1 := rd_max h_a
  refine enter 22 Tryd.func12 rfl rfl rfl ?_
  refine C_seq ?_
  refine C_reg ?_
  refine p1 rfl ?_
  refine D_end ?_
  refine x_then ?_
  refine C_seq ?_
  refine C_reg ?_
  refine p1 rfl ?_
  refine q1 rfl (D_len s_22 rfl rfl (rd_sl h_a)) ?_
  refine li rfl (D_mk (α := Int) (z := 0) s_22 y_3 rfl rfl rfl rfl (by omega) (by omega) fun v2 => ?_)
  refine p1 rfl ?_
  refine D_end ?_
  refine x_then ?_
  refine D_H ([ov [v2] (List.replicate a.length 0 : (List Int))]) rfl ?_
  refine C_seq ?_
  refine C_seq ?_
  refine C_reg ?_
  refine p1 rfl ?_
  refine D_end ?_
  refine x_then ?_
  refine C_block ?_
  refine C_loop (fun m_ ac w' => ∃ (k : Nat), ∃ (v : Value), (k ≤ a.length) ∧ m_ = a.length - k ∧ Fits ac 22 [(0, v_a), (3, v), (4, (.int .i64 ((k : Nat) : Int)))] ∧ St w ([ov [v] (cp a 0 k : (List Int))]) w') ?_ ?_
  · refine D_eq 0 rfl (show (List.replicate a.length 0 : (List Int)) = cp a 0 0 from by rw [cp_zero]) ?_
    refine fun ac w' hf hs => ⟨_, 0, v2, ?_, rfl, hf.weak ⟨rfl, rfl, rfl, trivial⟩, hs⟩
    · first | assumption | omega | simp
  · rintro m_ ac w' ⟨k, v, hk, rfl, hf, hs⟩
    refine D.use ?_ hf hs
    clear hf hs ac w'
    have hcl := cp_len a 0 k hk
    refine C_seq ?_
    refine C_seq ?_
    refine C_reg ?_
    refine p1 rfl <| p1 rfl ?_
    refine q1 rfl (D_len s_22 rfl rfl (rd_sl h_a)) ?_
    refine p1 rfl ?_
    refine D_end ?_
    refine x_then ?_
    refine D_H ([ov [v] (cp a 0 k : (List Int))]) rfl ?_
    refine C_if _ rfl (fun h3 => ?_) (fun h3 => ?_)
    · have pr3 : (((k : Nat) : Int) : Int) < ((a.length : Nat) : Int) := of_decide_eq_true h3
      refine C_skip ?_
      refine x_then ?_
      refine C_seq ?_
      refine C_block ?_
      refine C_reg ?_
      refine p1 rfl <| p1 rfl <| p1 rfl <| p1 rfl ?_
      obtain ⟨x4, hx5⟩ := some_of_lt (l := a) (i := k) (by omega)
      obtain ⟨es6, at7, hr8⟩ := rd_elem (n := 1) rfl h_a hx5
      obtain rfl : es6 = [.int .i64 x4] := hr8
      refine q1 rfl (D_ix (l := a) (j := k) s_22 rfl rfl rfl (fun w' hs => (rd_at hs h_a)) rfl (lt_of_some hx5)) ?_
      refine q1 rfl (lr0 o_3 rfl rfl at7 rfl) ?_
      obtain ⟨x9, hx10⟩ := some_of_lt (l := (cp a 0 k)) (i := k) (by omega)
      refine q1 rfl (D_ix (l := (cp a 0 k)) (j := k) s_22 rfl rfl rfl (fun w' hs => (rd_own (k := 0) hs rfl)) rfl (lt_of_some hx10)) ?_
      refine li rfl (so (α := Int) (z := x4) 0 z_3 rfl rfl rfl rfl rfl (lt_of_some hx10) ?_)
      refine D_end ?_
      refine x_blk ?_
      refine x_then ?_
      refine D_H ([ov [v] ((cp a 0 k).set k x4 : (List Int))]) rfl ?_
      refine C_reg ?_
      refine p1 rfl ?_
      refine q1 rfl (D_add rfl rfl rfl (r := ((k + 1 : Nat) : Int)) (by omega) (by omega)) ?_
      refine p1 rfl ?_
      refine D_end ?_
      refine x_then ?_
      refine D_eq 0 rfl (show ((cp a 0 k).set k x4 : (List Int)) = cp a 0 (k + 1) from by rw [cp_set (by assumption)]) ?_
      refine fun ac w' hf hs => ⟨_, ?_, k + 1, v, ?_, rfl, hf.weak ⟨rfl, rfl, rfl, trivial⟩, hs⟩
      · omega
      · first | assumption | omega | simp
    · have pr3 : ¬ (((k : Nat) : Int) : Int) < ((a.length : Nat) : Int) := of_decide_eq_false h3
      refine C_exit ?_
      refine x_then_exit ?_
      refine x_then_exit ?_
      refine x_blk_eq ?_
      refine x_then ?_
      refine C_seq ?_
      refine C_reg ?_
      refine p1 rfl <| p1 rfl ?_
      refine D_end ?_
      refine x_then ?_
      refine C_ret ?_
      refine R_1 rfl rfl fun w' hs => res_of (k := 0) hs rfl ?_
      show cp a 0 k = a
      exact cp_done (by omega)

theorem laws_toReason (w : World) (c_a : List Value) (a : Reason) (h_a : Gd.rd w c_a a) (hn : szR a ≤ 1048576) : Calls Tryd.prog 6 [(.agg c_a.toArray)].toArray w (Res w (a : Reason)) := by
  obtain ⟨u1, u3, rfl, hu2, hu4⟩ := open_Reason h_a
  have hm5 := rd_max hu2
  have hm6 := rd_max hu4
  unfold szR at hn
  refine enter 16 Tryd.func6 rfl rfl rfl ?_
  refine C_seq ?_
  refine C_reg ?_
  refine li rfl (D_box rfl rfl rfl rfl rfl fun g7 => ?_)
  refine li rfl (D_alloc y_27 rfl rfl rfl rfl fun g8 => ?_)
  refine D_end ?_
  refine x_then ?_
  refine D_H ([bx g8 [(.int .i64 0), (.slice none 0 0), (.slice none 0 0)], bx g7 [(.int .i64 a.For), u1, u3]]) rfl ?_
  refine C_seq ?_
  refine C_reg ?_
  refine li rfl (D_alloc y_27 rfl rfl rfl rfl fun g9 => ?_)
  refine D_end ?_
  refine x_then ?_
  refine D_H ([bx g9 [(.int .i64 0), (.slice none 0 0), (.slice none 0 0)], bx g8 [(.int .i64 0), (.slice none 0 0), (.slice none 0 0)], bx g7 [(.int .i64 a.For), u1, u3]]) rfl ?_
  refine C_seq ?_
  refine C_reg ?_
  refine q1 rfl (D_fb f_24_0 rfl rfl (q := 0) rfl) ?_
  refine q1 rfl (lb 2 o_3 rfl rfl rfl rfl) ?_
  refine q1 rfl (D_fb f_27_0 rfl rfl (q := 0) rfl) ?_
  refine li rfl (D_stb (vs := [(.int .i64 a.For)]) (cs' := [(.int .i64 a.For), (.slice none 0 0), (.slice none 0 0)]) 0 z_3 rfl rfl rfl rfl rfl rfl (ocons rfl onil) (by simp) rfl ?_)
  refine D_end ?_
  refine x_then ?_
  refine D_H ([bx g9 [(.int .i64 a.For), (.slice none 0 0), (.slice none 0 0)], bx g8 [(.int .i64 0), (.slice none 0 0), (.slice none 0 0)], bx g7 [(.int .i64 a.For), u1, u3]]) rfl ?_
  refine C_seq ?_
  refine C_reg ?_
  refine q1 rfl (D_fb f_24_1 rfl rfl (q := 1) rfl) ?_
  refine q1 rfl (lb 2 o_22 rfl rfl rfl rfl) ?_
  refine li rfl (crl b_12 rfl rfl rfl rfl (fun w' hs => (laws_toIntS w' u1 a.In (rd_at hs hu2) (by first | assumption | omega | (unfold szm at *; split at * <;> omega)))) fun v10 => ?_)
  refine q1 rfl (D_fb f_27_1 rfl rfl (q := 1) rfl) ?_
  refine D_pre (fun w' hs => one_own (k := 0) hs rfl) ?_
  intro ho11
  refine li rfl (D_stb (vs := [v10]) (cs' := [(.int .i64 a.For), v10, (.slice none 0 0)]) 1 z_22 rfl rfl rfl rfl rfl (cells_of_one ho11) (ocons ho11 onil) (by simp) rfl ?_)
  refine D_end ?_
  refine x_then ?_
  refine D_H ([ov [v10] (a.In : (List Int)), bx g9 [(.int .i64 a.For), v10, (.slice none 0 0)], bx g8 [(.int .i64 0), (.slice none 0 0), (.slice none 0 0)], bx g7 [(.int .i64 a.For), u1, u3]]) rfl ?_
  refine C_seq ?_
  refine C_reg ?_
  refine q1 rfl (D_fb f_24_2 rfl rfl (q := 2) rfl) ?_
  refine q1 rfl (lb 3 o_22 rfl rfl rfl rfl) ?_
  refine li rfl (crl b_12 rfl rfl rfl rfl (fun w' hs => (laws_toIntS w' u3 a.Out (rd_at hs hu4) (by first | assumption | omega | (unfold szm at *; split at * <;> omega)))) fun v12 => ?_)
  refine q1 rfl (D_fb f_27_2 rfl rfl (q := 2) rfl) ?_
  refine D_pre (fun w' hs => one_own (k := 0) hs rfl) ?_
  intro ho13
  refine li rfl (D_stb (vs := [v12]) (cs' := [(.int .i64 a.For), v10, v12]) 2 z_22 rfl rfl rfl rfl rfl (cells_of_one ho13) (ocons ho13 onil) (by simp) rfl ?_)
  refine D_end ?_
  refine x_then ?_
  refine D_H ([ov [v12] (a.Out : (List Int)), ov [v10] (a.In : (List Int)), bx g9 [(.int .i64 a.For), v10, v12], bx g8 [(.int .i64 0), (.slice none 0 0), (.slice none 0 0)], bx g7 [(.int .i64 a.For), u1, u3]]) rfl ?_
  refine C_seq ?_
  refine C_reg ?_
  refine q1 rfl (lbw 2 a_27 rfl rfl rfl) ?_
  refine li rfl (D_stb (vs := [(.int .i64 a.For), v10, v12]) (cs' := [(.int .i64 a.For), v10, v12]) 3 z_27 rfl rfl rfl rfl rfl rfl (ocons rfl (ocons ho11 (ocons ho13 onil))) (by simp) rfl ?_)
  refine D_end ?_
  refine x_then ?_
  refine D_weak [(2, (.pointer (some ⟨g8, 0, none⟩)))] ⟨rfl, trivial⟩ ?_
  refine D_sel (H' := [ov [v12] (a.Out : (List Int)), ov [v10] (a.In : (List Int)), bx g8 [(.int .i64 a.For), v10, v12]]) [true, true, false, true, false] rfl ?_
  refine C_ret ?_
  refine D_pk (H' := [ov [v10] (a.In : (List Int)), ov [v12] (a.Out : (List Int)), bx g8 [(.int .i64 a.For), v10, v12]]) [1, 0, 2] rfl rfl ?_
  refine pk_Reason (r := (⟨a.For, a.In, a.Out⟩ : Reason)) ?_
  refine R_c 1 a_27 rfl rfl rfl fun w' hs => res_of (k := 0) hs rfl ?_
  show (⟨a.For, a.In, a.Out⟩ : Reason) = a
  rfl

theorem laws_eqIntS (w : World) (v_a : Value) (a : (List Int)) (v_b : Value) (b : (List Int)) (h_a : Gd.rd w [v_a] a) (h_b : Gd.rd w [v_b] b) : Calls Tryd.prog 14 [v_a, v_b].toArray w (Val w (.bool (decide (a = b)))) := by
  have hm1 := rd_max h_a
  have hm2 := rd_max h_b
  refine enter 26 Tryd.func14 rfl rfl rfl ?_
  refine C_seq ?_
  refine C_reg ?_
  refine p1 rfl ?_
  refine D_end ?_
  refine x_then ?_
  refine C_seq ?_
  refine C_seq ?_
  refine C_reg ?_
  refine p1 rfl ?_
  refine q1 rfl (D_len s_22 rfl rfl (rd_sl h_a)) ?_
  refine p1 rfl ?_
  refine q1 rfl (D_len s_22 rfl rfl (rd_sl h_b)) ?_
  refine p1 rfl ?_
  refine D_end ?_
  refine x_then ?_
  refine C_if _ rfl (fun h3 => ?_) (fun h3 => ?_)
  · have pr3 : (((a.length : Nat) : Int) : Int) ≠ ((b.length : Nat) : Int) := bne_iff_ne.1 h3
    refine C_seq ?_
    refine C_reg ?_
    refine p1 rfl ?_
    refine D_end ?_
    refine x_then ?_
    refine C_ret ?_
    refine x_then_ret ?_
    refine R_1 rfl rfl fun w' hs => ⟨congrArg (fun z => Ending.returned (Value.bool z)) ?_, hs.bel⟩
    show (false : Bool) = decide (a = b)
    simp; intro e; subst e; simp_all
  · have pr3 : (((a.length : Nat) : Int) : Int) = ((b.length : Nat) : Int) := eq_of_bne_f h3
    refine C_skip ?_
    refine x_then ?_
    refine C_seq ?_
    refine C_seq ?_
    refine C_reg ?_
    refine p1 rfl ?_
    refine D_end ?_
    refine x_then ?_
    refine C_block ?_
    refine C_loop (fun m_ ac w' => ∃ (k : Nat), (k ≤ a.length) ∧ (∀ i, i < k → a[i]? = b[i]?) ∧ m_ = a.length - k ∧ Fits ac 26 [(0, v_a), (1, v_b), (5, (.int .i64 ((k : Nat) : Int)))] ∧ St w ([]) w') ?_ ?_
    · refine fun ac w' hf hs => ⟨_, 0, ?_, ?_, rfl, hf.weak ⟨rfl, rfl, rfl, trivial⟩, hs⟩
      · first | assumption | omega | simp
      · intro i hi; omega
    · rintro m_ ac w' ⟨k, hk, hi, rfl, hf, hs⟩
      refine D.use ?_ hf hs
      clear hf hs ac w'
      refine C_seq ?_
      refine C_seq ?_
      refine C_reg ?_
      refine p1 rfl <| p1 rfl ?_
      refine q1 rfl (D_len s_22 rfl rfl (rd_sl h_a)) ?_
      refine p1 rfl ?_
      refine D_end ?_
      refine x_then ?_
      refine C_if _ rfl (fun h4 => ?_) (fun h4 => ?_)
      · have pr4 : (((k : Nat) : Int) : Int) < ((a.length : Nat) : Int) := of_decide_eq_true h4
        refine C_skip ?_
        refine x_then ?_
        refine C_seq ?_
        refine C_block ?_
        refine C_seq ?_
        refine C_draw mixed [] (by kernel_rfl) ?_
        refine tk 0 rfl (by kernel_rfl) (by kernel_rfl) (by kernel_rfl) rfl (fun _ hs => hs) (rp rfl) ?_
        refine tk 1 rfl (by kernel_rfl) (by kernel_rfl) (by kernel_rfl) rfl (fun _ hs => hs) (rp rfl) ?_
        obtain ⟨x5, hx6⟩ := some_of_lt (l := a) (i := k) (by omega)
        obtain ⟨es7, at8, hr9⟩ := rd_elem (n := 1) rfl h_a hx6
        obtain rfl : es7 = [.int .i64 x5] := hr9
        refine tk 2 rfl (by kernel_rfl) (by kernel_rfl) (by kernel_rfl) rfl (fun _ hs => hs) (D_ix (l := a) (j := k) s_22 rfl rfl rfl (fun w' hs => (rd_at hs h_a)) rfl (lt_of_some hx6)) ?_
        refine tk 3 rfl (by kernel_rfl) (by kernel_rfl) (by kernel_rfl) rfl (fun _ hs => hs) (lr0 o_3 rfl rfl at8 rfl) ?_
        refine tk 4 rfl (by kernel_rfl) (by kernel_rfl) (by kernel_rfl) rfl (fun _ hs => hs) (rp rfl) ?_
        refine tk 5 rfl (by kernel_rfl) (by kernel_rfl) (by kernel_rfl) rfl (fun _ hs => hs) (rp rfl) ?_
        obtain ⟨x10, hx11⟩ := some_of_lt (l := b) (i := k) (by omega)
        obtain ⟨es12, at13, hr14⟩ := rd_elem (n := 1) rfl h_b hx11
        obtain rfl : es12 = [.int .i64 x10] := hr14
        refine tk 6 rfl (by kernel_rfl) (by kernel_rfl) (by kernel_rfl) rfl (fun _ hs => hs) (D_ix (l := b) (j := k) s_22 rfl rfl rfl (fun w' hs => (rd_at hs h_b)) rfl (lt_of_some hx11)) ?_
        refine tk 7 rfl (by kernel_rfl) (by kernel_rfl) (by kernel_rfl) rfl (fun _ hs => hs) (lr0 o_3 rfl rfl at13 rfl) ?_
        refine tk 8 rfl (by kernel_rfl) (by kernel_rfl) (by kernel_rfl) rfl (fun _ hs => hs) (rp rfl) ?_
        refine tE (by kernel_rfl) ?_
        refine x_then ?_
        refine C_if _ rfl (fun h15 => ?_) (fun h15 => ?_)
        · have pr15 : (x5 : Int) ≠ x10 := bne_iff_ne.1 h15
          refine C_seq ?_
          refine C_reg ?_
          refine p1 rfl ?_
          refine D_end ?_
          refine x_then ?_
          refine D_weak [(4, (.bool false))] ⟨rfl, trivial⟩ ?_
          refine C_ret ?_
          refine x_blk_ret ?_
          refine x_then_ret ?_
          refine x_then_ret ?_
          refine x_blk_ret ?_
          refine x_then_ret ?_
          refine R_1 rfl rfl fun w' hs => ⟨congrArg (fun z => Ending.returned (Value.bool z)) ?_, hs.bel⟩
          show (false : Bool) = decide (a = b)
          simp; intro e; subst e; simp_all
        · have pr15 : (x5 : Int) = x10 := eq_of_bne_f h15
          refine C_skip ?_
          refine x_blk ?_
          refine x_then ?_
          refine C_reg ?_
          refine p1 rfl ?_
          refine q1 rfl (D_add rfl rfl rfl (r := ((k + 1 : Nat) : Int)) (by omega) (by omega)) ?_
          refine p1 rfl ?_
          refine D_end ?_
          refine x_then ?_
          refine fun ac w' hf hs => ⟨_, ?_, k + 1, ?_, ?_, rfl, hf.weak ⟨rfl, rfl, rfl, trivial⟩, hs⟩
          · omega
          · first | assumption | omega | simp
          · exact idx_step hi (by assumption) (by assumption) (by simp_all)
      · have pr4 : ¬ (((k : Nat) : Int) : Int) < ((a.length : Nat) : Int) := of_decide_eq_false h4
        refine C_exit ?_
        refine x_then_exit ?_
        refine x_then_exit ?_
        refine x_blk_eq ?_
        refine x_then ?_
        refine C_seq ?_
        refine C_reg ?_
        refine p1 rfl ?_
        refine D_end ?_
        refine x_then ?_
        refine C_ret ?_
        refine R_1 rfl rfl fun w' hs => ⟨congrArg (fun z => Ending.returned (Value.bool z)) ?_, hs.bel⟩
        show (true : Bool) = decide (a = b)
        simp; exact eq_of_idx (by omega) (fun i h => hi i (by omega))

theorem laws_eqReason (w : World) (c_a : List Value) (a : Reason) (c_b : List Value) (b : Reason) (h_a : Gd.rd w c_a a) (h_b : Gd.rd w c_b b) : Calls Tryd.prog 8 [(.agg c_a.toArray), (.agg c_b.toArray)].toArray w (Val w (.bool (decide (a = b)))) := by
  obtain ⟨u1, u3, rfl, hu2, hu4⟩ := open_Reason h_a
  have hm5 := rd_max hu2
  have hm6 := rd_max hu4
  obtain ⟨u7, u9, rfl, hu8, hu10⟩ := open_Reason h_b
  have hm11 := rd_max hu8
  have hm12 := rd_max hu10
  refine enter 22 Tryd.func8 rfl rfl rfl ?_
  refine C_seq ?_
  refine C_reg ?_
  refine li rfl (D_box rfl rfl rfl rfl rfl fun g13 => ?_)
  refine li rfl (D_box rfl rfl rfl rfl rfl fun g14 => ?_)
  refine p1 rfl ?_
  refine D_end ?_
  refine x_then ?_
  refine D_H ([bx g14 [(.int .i64 b.For), u7, u9], bx g13 [(.int .i64 a.For), u1, u3]]) rfl ?_
  refine C_seq ?_
  refine C_seq ?_
  refine C_reg ?_
  refine q1 rfl (D_fb f_27_0 rfl rfl (q := 0) rfl) ?_
  refine q1 rfl (lb 1 o_3 rfl rfl rfl rfl) ?_
  refine q1 rfl (D_fb f_27_0 rfl rfl (q := 0) rfl) ?_
  refine q1 rfl (lb 0 o_3 rfl rfl rfl rfl) ?_
  refine p1 rfl ?_
  refine D_end ?_
  refine x_then ?_
  refine C_if _ rfl (fun h15 => ?_) (fun h15 => ?_)
  · have pr15 : (a.For : Int) ≠ b.For := bne_iff_ne.1 h15
    refine C_seq ?_
    refine C_reg ?_
    refine p1 rfl ?_
    refine D_end ?_
    refine x_then ?_
    refine C_ret ?_
    refine x_then_ret ?_
    refine R_1 rfl rfl fun w' hs => ⟨congrArg (fun z => Ending.returned (Value.bool z)) ?_, hs.bel⟩
    show (false : Bool) = decide (a = b)
    cases a; cases b; simp_all
  · have pr15 : (a.For : Int) = b.For := eq_of_bne_f h15
    refine C_skip ?_
    refine x_then ?_
    refine C_seq ?_
    refine C_seq ?_
    refine C_reg ?_
    refine q1 rfl (D_fb f_27_1 rfl rfl (q := 1) rfl) ?_
    refine q1 rfl (lb 1 o_22 rfl rfl rfl rfl) ?_
    refine q1 rfl (D_fb f_27_1 rfl rfl (q := 1) rfl) ?_
    refine q1 rfl (lb 0 o_22 rfl rfl rfl rfl) ?_
    refine li rfl (cv b_14 rfl rfl rfl rfl (fun w' hs => (laws_eqIntS w' u1 a.In u7 b.In (rd_at hs hu2) (rd_at hs hu8))) ?_)
    refine p1 rfl ?_
    refine D_end ?_
    refine x_then ?_
    refine C_if _ rfl (fun h16 => ?_) (fun h16 => ?_)
    · have h16n : (decide (a.In = b.In)) = false := not_t h16
      refine C_seq ?_
      refine C_reg ?_
      refine p1 rfl ?_
      refine D_end ?_
      refine x_then ?_
      refine D_weak [(4, (.bool false))] ⟨rfl, trivial⟩ ?_
      refine D_sel (H' := []) [false, false] rfl ?_
      refine C_ret ?_
      refine x_then_ret ?_
      refine R_1 rfl rfl fun w' hs => ⟨congrArg (fun z => Ending.returned (Value.bool z)) ?_, hs.bel⟩
      show (false : Bool) = decide (a = b)
      cases a; cases b; simp_all
    · have h16n : (decide (a.In = b.In)) = true := not_f h16
      refine C_skip ?_
      refine x_then ?_
      refine C_seq ?_
      refine C_seq ?_
      refine C_reg ?_
      refine q1 rfl (D_fb f_27_2 rfl rfl (q := 2) rfl) ?_
      refine q1 rfl (lb 1 o_22 rfl rfl rfl rfl) ?_
      refine q1 rfl (D_fb f_27_2 rfl rfl (q := 2) rfl) ?_
      refine q1 rfl (lb 0 o_22 rfl rfl rfl rfl) ?_
      refine li rfl (cv b_14 rfl rfl rfl rfl (fun w' hs => (laws_eqIntS w' u3 a.Out u9 b.Out (rd_at hs hu4) (rd_at hs hu10))) ?_)
      refine p1 rfl ?_
      refine D_end ?_
      refine x_then ?_
      refine D_weak [(21, (.bool (!(decide (a.Out = b.Out)))))] ⟨rfl, trivial⟩ ?_
      refine D_sel (H' := []) [false, false] rfl ?_
      refine C_if _ rfl (fun h17 => ?_) (fun h17 => ?_)
      · have h17n : (decide (a.Out = b.Out)) = false := not_t h17
        refine C_seq ?_
        refine C_reg ?_
        refine p1 rfl ?_
        refine D_end ?_
        refine x_then ?_
        refine C_ret ?_
        refine x_then_ret ?_
        refine R_1 rfl rfl fun w' hs => ⟨congrArg (fun z => Ending.returned (Value.bool z)) ?_, hs.bel⟩
        show (false : Bool) = decide (a = b)
        cases a; cases b; simp_all
      · have h17n : (decide (a.Out = b.Out)) = true := not_f h17
        refine C_skip ?_
        refine x_then ?_
        refine C_seq ?_
        refine C_reg ?_
        refine p1 rfl ?_
        refine D_end ?_
        refine x_then ?_
        refine C_ret ?_
        refine R_1 rfl rfl fun w' hs => ⟨congrArg (fun z => Ending.returned (Value.bool z)) ?_, hs.bel⟩
        show (true : Bool) = decide (a = b)
        cases a; cases b; simp_all
end Go.Sy.Bel1
