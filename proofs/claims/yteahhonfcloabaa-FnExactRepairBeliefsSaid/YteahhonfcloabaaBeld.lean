/-
  Contracts of functions of the program, walked (printed by a program of ours).
  Conditions: those that each theorem states.
-/
import Derived.Test.YteahhonfcloabaaBelc
import Derived.Test.YteahhonfcloabaaGraph
set_option linter.unusedVariables false
set_option maxRecDepth 20000
namespace Go.Sy.Beld
open Go Go.RowKit Go.Proofs Go.Sy
theorem mixed : Try.prog.follows .mixedOrders = true := by kernel_rfl
theorem a_30 : aggTy Try.prog 30 = some 2 := by kernel_rfl
theorem b_60 : hasBody Try.prog 60 = true := by kernel_rfl
theorem b_62 : hasBody Try.prog 62 = true := by kernel_rfl
theorem b_61 : hasBody Try.prog 61 = true := by kernel_rfl
theorem s_25 : sliceTy Try.prog 25 = some (3, 1, 8) := by kernel_rfl
theorem b_58 : hasBody Try.prog 58 = true := by kernel_rfl
theorem b_37 : hasBody Try.prog 37 = true := by kernel_rfl
theorem o_3 : oneTy Try.prog 3 = true := by kernel_rfl
theorem b_38 : hasBody Try.prog 38 = true := by kernel_rfl
theorem y_3 : zeroTy Try.prog 3 = some (.int .i64 0) := by kernel_rfl
theorem b_34 : hasBody Try.prog 34 = true := by kernel_rfl
theorem b_35 : hasBody Try.prog 35 = true := by kernel_rfl
theorem b_46 : hasBody Try.prog 46 = true := by kernel_rfl
theorem b_48 : hasBody Try.prog 48 = true := by kernel_rfl
theorem b_47 : hasBody Try.prog 47 = true := by kernel_rfl
theorem b_41 : hasBody Try.prog 41 = true := by kernel_rfl
theorem f_30_1 : fieldOff Try.prog 30 1 = some 1 := by kernel_rfl
theorem o_28 : oneTy Try.prog 28 = true := by kernel_rfl
theorem s_28 : sliceTy Try.prog 28 = some (67, 3, 56) := by kernel_rfl
theorem b_42 : hasBody Try.prog 42 = true := by kernel_rfl
theorem b_43 : hasBody Try.prog 43 = true := by kernel_rfl
theorem b_45 : hasBody Try.prog 45 = true := by kernel_rfl
theorem b_44 : hasBody Try.prog 44 = true := by kernel_rfl
open Go.Sy.Bel1 Go.Sy.Bel2 Go.Sy.Bel3 Go.Sy.Bel4 Go.Sy.Bel5 Go.Sy.Bel6 Go.Sy.Bel7 Go.Sy.Bel8 Go.Sy.Bel9 Go.Sy.Belb Go.Sy.Belc
theorem impl_FoundationOf (w : World) (c_b : List Value) (b : Beliefs) (x : Int) (h_b : Gd.rd w c_b b) : Calls Try.prog 37 [(.agg c_b.toArray), (.int .i64 x)].toArray w (Res w (foundOf b x : List Int)) := by
  obtain ⟨u1, rfl, hu2⟩ := open_Beliefs h_b
  have hm3 := rd_max hu2
  refine enter 13 Try.func37 rfl rfl rfl ?_
  refine C_seq ?_
  refine C_reg ?_
  refine li rfl (D_box rfl rfl rfl rfl rfl fun g4 => ?_)
  refine p1 rfl ?_
  refine D_end ?_
  refine x_then ?_
  refine D_H ([bx g4 [(.int .i64 b.Nodes), u1]]) rfl ?_
  refine C_seq ?_
  refine C_seq ?_
  refine C_reg ?_
  refine q1 rfl (lbw 0 a_30 rfl rfl rfl) ?_
  refine li rfl (cv b_60 rfl rfl rfl rfl (fun w' hs => (impl_IsStratified w' [(.int .i64 b.Nodes), u1] b (rd_at hs h_b))) ?_)
  refine p1 rfl ?_
  refine D_end ?_
  refine x_then ?_
  refine C_if _ rfl (fun h5 => ?_) (fun h5 => ?_)
  · have h5n : (isStrat b) = false := not_t h5
    refine C_seq ?_
    refine C_reg ?_
    refine p1 rfl ?_
    refine D_end ?_
    refine x_then ?_
    refine C_ret ?_
    refine x_then_ret ?_
    refine D_nil (α := Int) ?_
    refine R_1 rfl rfl fun w' hs => res_of (k := 0) hs rfl ?_
    show [] = foundOf b x
    exact found_f h5n
  · have h5n : (isStrat b) = true := not_f h5
    refine C_skip ?_
    refine x_then ?_
    refine C_seq ?_
    have hst : isStrat b = true := by assumption
    have hsol := strat_has hst
    have ho := isB_ok2 (strat_b hst)
    have hbn := okB_nodes ho
    have hrl : b.Reasons.length ≤ 1048576 := by have := isB_len (strat_b hst); omega
    refine C_draw mixed [4, 5] (by kernel_rfl) ?_
    refine tk 0 rfl (by kernel_rfl) (by kernel_rfl) (by kernel_rfl) rfl (fun _ hs => hs) (lbw 0 a_30 rfl rfl rfl) ?_
    refine tk 1 rfl (by kernel_rfl) (by kernel_rfl) (by kernel_rfl) rfl (fun _ hs => hs) (lbw 0 a_30 rfl rfl rfl) ?_
    refine tk 3 rfl (by kernel_rfl) (by kernel_rfl) (by kernel_rfl) rfl (fun _ hs => hs) (rp rfl) ?_
    refine ty 2 rfl (by kernel_rfl) rfl (crl b_62 rfl rfl rfl rfl (fun w' hs => (impl_rounds w' [(.int .i64 b.Nodes), u1] b (rd_at hs h_b) (by first | assumption | omega | (unfold szm at *; split at * <;> omega)) (by first | assumption | omega | (unfold szm at *; split at * <;> omega)) (by first | assumption | omega | (unfold szm at *; split at * <;> omega)))) fun v6 => ?_)
    refine tS (fun _ hs => hs.pk [1] rfl rfl) ?_
    refine ty 4 rfl (by kernel_rfl) rfl (crl b_61 rfl rfl rfl rfl (fun w' hs => impl_foundation_nil 25 w' [(.int .i64 b.Nodes), u1] b v6 (vec b.Nodes.toNat (rnds b)) x (rd_at hs h_b) (rd_own (k := 0) hs rfl) (by first | assumption | omega) (vec_len _ _) (rnds_25 ho hsol _) (Good.nil b) (by first | assumption | omega)) fun v7 => ?_)
    refine tZ rfl ?_
    refine ty 5 rfl (by kernel_rfl) rfl (sv rfl rfl (rp rfl) ?_)
    refine tZ rfl ?_
    refine tE (by kernel_rfl) ?_
    refine x_then ?_
    refine D_H ([ov [v7] (fndG b (suppL b (vec b.Nodes.toNat (rnds b))) 25 x ([] : List Int) : (List Int)), ov [v6] (vec b.Nodes.toNat (rnds b) : (List Int)), bx g4 [(.int .i64 b.Nodes), u1]]) rfl ?_
    refine C_ret ?_
    refine R_1 rfl rfl fun w' hs => res_of (k := 0) hs rfl ?_
    show fndG b (suppL b (vec b.Nodes.toNat (rnds b))) 25 x ([] : List Int) = foundOf b x
    exact found_t hst

theorem spec_FoundationOf (w : World) (c_b : List Value) (b : Beliefs) (x : Int) (h_b : Gd.rd w c_b b) (hrl : b.Reasons.length ≤ 1048576) : Calls Try.prog 34 [(.agg c_b.toArray), (.int .i64 x)].toArray w (Res w (foundOf b x : List Int)) := by
  obtain ⟨u1, rfl, hu2⟩ := open_Beliefs h_b
  have hm3 := rd_max hu2
  refine enter 9 Try.func34 rfl rfl rfl ?_
  refine C_seq ?_
  refine C_reg ?_
  refine li rfl (D_box rfl rfl rfl rfl rfl fun g4 => ?_)
  refine p1 rfl ?_
  refine D_end ?_
  refine x_then ?_
  refine D_H ([bx g4 [(.int .i64 b.Nodes), u1]]) rfl ?_
  refine C_seq ?_
  refine C_reg ?_
  refine q1 rfl (lbw 0 a_30 rfl rfl rfl) ?_
  refine p1 rfl ?_
  refine li rfl (D_bs0 (α := Int) s_25 rfl rfl rfl fun v5 => ?_)
  refine li rfl (cmv b_58 rfl rfl rfl rfl (fun w' hs => spec_l11Found 25 _ _ w' [(.int .i64 b.Nodes), u1] b x v5 ([]) h_b (rnds_25' b _) (Good.nil b) (by first | assumption | omega) hs) fun v6 => ?_)
  refine p1 rfl ?_
  refine D_end ?_
  refine x_then ?_
  refine D_H ([ov [v6] (fndG b (suppOf b) 25 x ([] : List Int) : (List Int)), bx g4 [(.int .i64 b.Nodes), u1]]) rfl ?_
  refine C_ret ?_
  refine R_1 rfl rfl fun w' hs => res_of (k := 0) hs rfl ?_
  show fndG b (suppOf b) 25 x ([] : List Int) = foundOf b x
  rfl

theorem impl_CulpritsOf (w : World) (c_b : List Value) (b : Beliefs) (x : Int) (v_free : Value) (free : (List Int)) (h_b : Gd.rd w c_b b) (h_free : Gd.rd w [v_free] free) (hfl : free.length ≤ 1048576) : Calls Try.prog 13 [(.agg c_b.toArray), (.int .i64 x), v_free].toArray w (Res w (culps b x free : List Int)) := by
  obtain ⟨u1, rfl, hu2⟩ := open_Beliefs h_b
  have hm3 := rd_max hu2
  have hm4 := rd_max h_free
  refine enter 29 Try.func13 rfl rfl rfl ?_
  refine C_seq ?_
  refine C_reg ?_
  refine li rfl (D_box rfl rfl rfl rfl rfl fun g5 => ?_)
  refine p1 rfl ?_
  refine D_end ?_
  refine x_then ?_
  refine D_H ([bx g5 [(.int .i64 b.Nodes), u1]]) rfl ?_
  refine C_seq ?_
  refine C_reg ?_
  refine q1 rfl (lbw 0 a_30 rfl rfl rfl) ?_
  refine p1 rfl ?_
  refine li rfl (crl b_37 rfl rfl rfl rfl (fun w' hs => (impl_FoundationOf w' [(.int .i64 b.Nodes), u1] b x (rd_at hs h_b))) fun v6 => ?_)
  refine p1 rfl ?_
  refine D_end ?_
  refine x_then ?_
  refine D_H ([ov [v6] (foundOf b x : (List Int)), bx g5 [(.int .i64 b.Nodes), u1]]) rfl ?_
  refine C_seq ?_
  refine C_reg ?_
  refine p1 rfl ?_
  refine D_end ?_
  refine x_then ?_
  refine C_seq ?_
  refine C_seq ?_
  refine C_reg ?_
  refine p1 rfl ?_
  refine q1 rfl (D_len s_25 rfl rfl (rd_sl h_free)) ?_
  refine p1 rfl ?_
  refine D_end ?_
  refine x_then ?_
  refine C_block ?_
  refine C_loop (fun m_ ac w' => ∃ (k : Nat), ∃ (v : Value), (k ≤ free.length) ∧ m_ = free.length - k ∧ Fits ac 29 [(7, v6), (8, v), (14, v_free), (15, (.int .i64 ((free.length : Nat) : Int))), (16, (.int .i64 ((k : Nat) : Int)))] ∧ St w ([ov [v] (filtT (inF b x) free k : (List Int)), ov [v6] (foundOf b x : (List Int)), bx g5 [(.int .i64 b.Nodes), u1]]) w') ?_ ?_
  · refine D_nil (α := Int) ?_
    refine D_eq 0 rfl (show ([] : (List Int)) = filtT (inF b x) free 0 from by rfl) ?_
    refine fun ac w' hf hs => ⟨_, 0, (.slice none 0 0), ?_, rfl, hf.weak ⟨rfl, rfl, rfl, rfl, rfl, trivial⟩, hs⟩
    · first | assumption | omega | simp
  · rintro m_ ac w' ⟨k, v, hk, rfl, hf, hs⟩
    refine D.use ?_ hf hs
    clear hf hs ac w'
    have hcl := filtT_len (inF b x) free k
    refine C_seq ?_
    refine C_reg ?_
    refine p1 rfl ?_
    refine D_end ?_
    refine x_then ?_
    refine D_H ([ov [v] (filtT (inF b x) free k : (List Int)), ov [v6] (foundOf b x : (List Int)), bx g5 [(.int .i64 b.Nodes), u1]]) rfl ?_
    refine C_seq ?_
    refine C_if _ rfl (fun h7 => ?_) (fun h7 => ?_)
    · have pr7 : (((k : Nat) : Int) : Int) < ((free.length : Nat) : Int) := of_decide_eq_true h7
      refine C_skip ?_
      refine x_then ?_
      refine C_seq ?_
      refine C_block ?_
      refine C_seq ?_
      refine C_reg ?_
      obtain ⟨x8, hx9⟩ := some_of_lt (l := free) (i := k) (by omega)
      obtain ⟨es10, at11, hr12⟩ := rd_elem (n := 1) rfl h_free hx9
      obtain rfl : es10 = [.int .i64 x8] := hr12
      refine q1 rfl (D_ix (l := free) (j := k) s_25 rfl rfl rfl (fun w' hs => (rd_at hs h_free)) rfl (lt_of_some hx9)) ?_
      refine q1 rfl (lr0 o_3 rfl rfl at11 rfl) ?_
      refine p1 rfl ?_
      refine D_end ?_
      refine x_then ?_
      refine C_seq ?_
      refine C_reg ?_
      refine p1 rfl <| p1 rfl ?_
      refine li rfl (cv b_38 rfl rfl rfl rfl (fun w' hs => (impl_hasInt w' v6 (foundOf b x) x8 (rd_own (k := 1) hs rfl))) ?_)
      refine D_end ?_
      refine x_then ?_
      refine C_if _ rfl (fun h13 => ?_) (fun h13 => ?_)
      · refine C_reg ?_
        refine p1 rfl <| p1 rfl ?_
        refine li rfl (D_bs s_25 y_3 rfl (by decide) (by decide) rfl rfl rfl rfl rfl rfl fun g14 => ?_)
        refine D_fi x8 ?_
        refine D_pk (H' := [ov [v] (filtT (inF b x) free k : (List Int)), ov [(.int .i64 x8)] (x8 : Int), bx g14 [(.int .i64 x8)], ov [v6] (foundOf b x : (List Int)), bx g5 [(.int .i64 b.Nodes), u1]]) [2, 0, 1, 3, 4] rfl rfl ?_
        refine li rfl (D_ap s_25 y_3 rfl (by decide) rfl rfl rfl rfl rfl rfl (by first | omega | (simp; omega)) (by first | omega | (simp; omega)) fun v15 => ?_)
        refine p1 rfl ?_
        refine D_end ?_
        refine x_blk ?_
        refine x_then ?_
        refine D_H ([ov [v15] ((filtT (inF b x) free k) ++ [x8] : (List Int)), ov [v6] (foundOf b x : (List Int)), bx g5 [(.int .i64 b.Nodes), u1]]) rfl ?_
        refine C_reg ?_
        refine q1 rfl (D_add rfl rfl rfl (r := ((k + 1 : Nat) : Int)) (by omega) (by omega)) ?_
        refine p1 rfl ?_
        refine D_end ?_
        refine x_then ?_
        refine D_eq 0 rfl (show ((filtT (inF b x) free k) ++ [x8] : (List Int)) = filtT (inF b x) free (k + 1) from by first | exact filtT_t hx9 h13 | exact filtT_f hx9 h13) ?_
        refine fun ac w' hf hs => ⟨_, ?_, k + 1, v15, ?_, rfl, hf.weak ⟨rfl, rfl, rfl, rfl, rfl, trivial⟩, hs⟩
        · omega
        · first | assumption | omega | simp
      · refine C_skip ?_
        refine x_blk ?_
        refine x_then ?_
        refine C_reg ?_
        refine q1 rfl (D_add rfl rfl rfl (r := ((k + 1 : Nat) : Int)) (by omega) (by omega)) ?_
        refine p1 rfl ?_
        refine D_end ?_
        refine x_then ?_
        refine D_eq 0 rfl (show (filtT (inF b x) free k : (List Int)) = filtT (inF b x) free (k + 1) from by first | exact filtT_t hx9 h13 | exact filtT_f hx9 h13) ?_
        refine fun ac w' hf hs => ⟨_, ?_, k + 1, v, ?_, rfl, hf.weak ⟨rfl, rfl, rfl, rfl, rfl, trivial⟩, hs⟩
        · omega
        · first | assumption | omega | simp
    · have pr7 : ¬ (((k : Nat) : Int) : Int) < ((free.length : Nat) : Int) := of_decide_eq_false h7
      refine C_exit ?_
      refine x_then_exit ?_
      refine x_then_exit ?_
      refine x_blk_eq ?_
      refine x_then ?_
      refine C_seq ?_
      refine C_reg ?_
      refine p1 rfl <| p1 rfl ?_
      refine D_end ?_
      refine x_then ?_
      refine C_ret ?_
      refine R_1 rfl rfl fun w' hs => res_of (k := 0) hs rfl ?_
      show filtT (inF b x) free k = culps b x free
      exact filtT_done (by omega)

theorem spec_CulpritsOf (w : World) (c_b : List Value) (b : Beliefs) (x : Int) (v_free : Value) (free : (List Int)) (h_b : Gd.rd w c_b b) (h_free : Gd.rd w [v_free] free) (hfl : free.length ≤ 1048576) (hrl : b.Reasons.length ≤ 1048576) : Calls Try.prog 10 [(.agg c_b.toArray), (.int .i64 x), v_free].toArray w (Res w (culps b x free : List Int)) := by
  obtain ⟨u1, rfl, hu2⟩ := open_Beliefs h_b
  have hm3 := rd_max hu2
  have hm4 := rd_max h_free
  refine enter 34 Try.func10 rfl rfl rfl ?_
  refine C_seq ?_
  refine C_reg ?_
  refine li rfl (D_box rfl rfl rfl rfl rfl fun g5 => ?_)
  refine p1 rfl ?_
  refine D_end ?_
  refine x_then ?_
  refine D_H ([bx g5 [(.int .i64 b.Nodes), u1]]) rfl ?_
  refine C_seq ?_
  refine C_reg ?_
  refine li rfl (D_bs0 (α := Int) s_25 rfl rfl rfl fun v6 => ?_)
  refine p1 rfl ?_
  refine D_end ?_
  refine x_then ?_
  refine D_H ([ov [v6] ([] : (List Int)), bx g5 [(.int .i64 b.Nodes), u1]]) rfl ?_
  refine C_seq ?_
  refine C_reg ?_
  refine q1 rfl (lbw 1 a_30 rfl rfl rfl) ?_
  refine p1 rfl ?_
  refine li rfl (crl b_34 rfl rfl rfl rfl (fun w' hs => (spec_FoundationOf w' [(.int .i64 b.Nodes), u1] b x (rd_at hs h_b) (by first | assumption | omega | (unfold szm at *; split at * <;> omega)))) fun v7 => ?_)
  refine p1 rfl ?_
  refine D_end ?_
  refine x_then ?_
  refine D_H ([ov [v7] (foundOf b x : (List Int)), ov [v6] ([] : (List Int)), bx g5 [(.int .i64 b.Nodes), u1]]) rfl ?_
  refine C_seq ?_
  refine C_seq ?_
  refine C_reg ?_
  refine p1 rfl ?_
  refine D_end ?_
  refine x_then ?_
  refine C_block ?_
  refine C_loop (fun m_ ac w' => ∃ (k : Nat), ∃ (v : Value), (k ≤ free.length) ∧ m_ = free.length - k ∧ Fits ac 34 [(2, v_free), (7, v), (8, v7), (9, (.int .i64 ((k : Nat) : Int)))] ∧ St w ([ov [v7] (foundOf b x : (List Int)), ov [v] (filtT (inF b x) free k : (List Int)), bx g5 [(.int .i64 b.Nodes), u1]]) w') ?_ ?_
  · refine D_eq 1 rfl (show ([] : (List Int)) = filtT (inF b x) free 0 from by rfl) ?_
    refine fun ac w' hf hs => ⟨_, 0, v6, ?_, rfl, hf.weak ⟨rfl, rfl, rfl, rfl, trivial⟩, hs⟩
    · first | assumption | omega | simp
  · rintro m_ ac w' ⟨k, v, hk, rfl, hf, hs⟩
    refine D.use ?_ hf hs
    clear hf hs ac w'
    have hcl := filtT_len (inF b x) free k
    refine C_seq ?_
    refine C_seq ?_
    refine C_reg ?_
    refine p1 rfl <| p1 rfl ?_
    refine q1 rfl (D_len s_25 rfl rfl (rd_sl h_free)) ?_
    refine p1 rfl ?_
    refine D_end ?_
    refine x_then ?_
    refine D_H ([ov [v7] (foundOf b x : (List Int)), ov [v] (filtT (inF b x) free k : (List Int)), bx g5 [(.int .i64 b.Nodes), u1]]) rfl ?_
    refine C_if _ rfl (fun h8 => ?_) (fun h8 => ?_)
    · have pr8 : (((k : Nat) : Int) : Int) < ((free.length : Nat) : Int) := of_decide_eq_true h8
      refine C_skip ?_
      refine x_then ?_
      refine C_seq ?_
      refine C_block ?_
      refine C_seq ?_
      refine C_reg ?_
      refine p1 rfl <| p1 rfl <| p1 rfl ?_
      obtain ⟨x9, hx10⟩ := some_of_lt (l := free) (i := k) (by omega)
      obtain ⟨es11, at12, hr13⟩ := rd_elem (n := 1) rfl h_free hx10
      obtain rfl : es11 = [.int .i64 x9] := hr13
      refine q1 rfl (D_ix (l := free) (j := k) s_25 rfl rfl rfl (fun w' hs => (rd_at hs h_free)) rfl (lt_of_some hx10)) ?_
      refine q1 rfl (lr0 o_3 rfl rfl at12 rfl) ?_
      refine li rfl (cv b_35 rfl rfl rfl rfl (fun w' hs => (spec_l1Has w' v7 (foundOf b x) x9 (rd_own (k := 0) hs rfl))) ?_)
      refine D_end ?_
      refine x_then ?_
      refine C_if _ rfl (fun h14 => ?_) (fun h14 => ?_)
      · refine C_reg ?_
        refine p1 rfl <| p1 rfl <| p1 rfl ?_
        refine q1 rfl (D_ix (l := free) (j := k) s_25 rfl rfl rfl (fun w' hs => (rd_at hs h_free)) rfl (lt_of_some hx10)) ?_
        refine q1 rfl (lr0 o_3 rfl rfl at12 rfl) ?_
        refine li rfl (D_bs s_25 y_3 rfl (by decide) (by decide) rfl rfl rfl rfl rfl rfl fun g15 => ?_)
        refine D_fi x9 ?_
        refine D_pk (H' := [ov [v] (filtT (inF b x) free k : (List Int)), ov [(.int .i64 x9)] (x9 : Int), bx g15 [(.int .i64 x9)], ov [v7] (foundOf b x : (List Int)), bx g5 [(.int .i64 b.Nodes), u1]]) [3, 0, 1, 2, 4] rfl rfl ?_
        refine li rfl (D_ap s_25 y_3 rfl (by decide) rfl rfl rfl rfl rfl rfl (by first | omega | (simp; omega)) (by first | omega | (simp; omega)) fun v16 => ?_)
        refine p1 rfl ?_
        refine D_end ?_
        refine x_blk ?_
        refine x_then ?_
        refine D_weak [(2, v_free), (7, v16), (8, v7), (9, (.int .i64 ((k : Nat) : Int)))] ⟨rfl, rfl, rfl, rfl, trivial⟩ ?_
        refine D_H ([ov [v16] ((filtT (inF b x) free k) ++ [x9] : (List Int)), ov [v7] (foundOf b x : (List Int)), bx g5 [(.int .i64 b.Nodes), u1]]) rfl ?_
        refine C_reg ?_
        refine p1 rfl ?_
        refine q1 rfl (D_add rfl rfl rfl (r := ((k + 1 : Nat) : Int)) (by omega) (by omega)) ?_
        refine p1 rfl ?_
        refine D_end ?_
        refine x_then ?_
        refine D_eq 0 rfl (show ((filtT (inF b x) free k) ++ [x9] : (List Int)) = filtT (inF b x) free (k + 1) from by first | exact filtT_t hx10 h14 | exact filtT_f hx10 h14) ?_
        refine fun ac w' hf hs => ⟨_, ?_, k + 1, v16, ?_, rfl, hf.weak ⟨rfl, rfl, rfl, rfl, trivial⟩, hs.pk [1, 0, 2] rfl rfl⟩
        · omega
        · first | assumption | omega | simp
      · refine C_skip ?_
        refine x_blk ?_
        refine x_then ?_
        refine C_reg ?_
        refine p1 rfl ?_
        refine q1 rfl (D_add rfl rfl rfl (r := ((k + 1 : Nat) : Int)) (by omega) (by omega)) ?_
        refine p1 rfl ?_
        refine D_end ?_
        refine x_then ?_
        refine D_eq 1 rfl (show (filtT (inF b x) free k : (List Int)) = filtT (inF b x) free (k + 1) from by first | exact filtT_t hx10 h14 | exact filtT_f hx10 h14) ?_
        refine fun ac w' hf hs => ⟨_, ?_, k + 1, v, ?_, rfl, hf.weak ⟨rfl, rfl, rfl, rfl, trivial⟩, hs⟩
        · omega
        · first | assumption | omega | simp
    · have pr8 : ¬ (((k : Nat) : Int) : Int) < ((free.length : Nat) : Int) := of_decide_eq_false h8
      refine C_exit ?_
      refine x_then_exit ?_
      refine x_then_exit ?_
      refine x_blk_eq ?_
      refine x_then ?_
      refine C_seq ?_
      refine C_reg ?_
      refine p1 rfl <| p1 rfl ?_
      refine D_end ?_
      refine x_then ?_
      refine C_ret ?_
      refine R_1 rfl rfl fun w' hs => res_of (k := 1) hs rfl ?_
      show filtT (inF b x) free k = culps b x free
      exact filtT_done (by omega)

theorem spec_l12Part (w : World) (v_a : Value) (a : (List Int)) (v_b : Value) (b : (List Int)) (h_a : Gd.rd w [v_a] a) (h_b : Gd.rd w [v_b] b) : Calls Try.prog 43 [v_a, v_b].toArray w (Val w (.bool (a.all (fun x => b.contains x)))) := by
  have hm1 := rd_max h_a
  have hm2 := rd_max h_b
  refine enter 19 Try.func43 rfl rfl rfl ?_
  refine C_seq ?_
  refine C_reg ?_
  refine p1 rfl ?_
  refine D_end ?_
  refine x_then ?_
  refine C_seq ?_
  refine C_seq ?_
  refine C_reg ?_
  refine p1 rfl ?_
  refine D_end ?_
  refine x_then ?_
  refine C_block ?_
  refine C_loop (fun m_ ac w' => ∃ (k : Nat), (k ≤ a.length) ∧ (∀ i, i < k → ∀ y, a[i]? = some y → b.contains y = true) ∧ m_ = a.length - k ∧ Fits ac 19 [(0, v_a), (1, v_b), (5, (.int .i64 ((k : Nat) : Int)))] ∧ St w ([]) w') ?_ ?_
  · refine fun ac w' hf hs => ⟨_, 0, ?_, ?_, rfl, hf.weak ⟨rfl, rfl, rfl, trivial⟩, hs⟩
    · first | assumption | omega | simp
    · intro i hi; omega
  · rintro m_ ac w' ⟨k, hk, hi, rfl, hf, hs⟩
    refine D.use ?_ hf hs
    clear hf hs ac w'
    refine C_seq ?_
    refine C_seq ?_
    refine C_reg ?_
    refine p1 rfl <| p1 rfl ?_
    refine q1 rfl (D_len s_25 rfl rfl (rd_sl h_a)) ?_
    refine p1 rfl ?_
    refine D_end ?_
    refine x_then ?_
    refine C_if _ rfl (fun h3 => ?_) (fun h3 => ?_)
    · have pr3 : (((k : Nat) : Int) : Int) < ((a.length : Nat) : Int) := of_decide_eq_true h3
      refine C_skip ?_
      refine x_then ?_
      refine C_seq ?_
      refine C_block ?_
      refine C_seq ?_
      refine C_reg ?_
      refine p1 rfl <| p1 rfl <| p1 rfl ?_
      obtain ⟨y2, hy2⟩ := some_of_lt (l := a) (i := k) (by omega)
      obtain ⟨es4, at5, hr6⟩ := rd_elem (n := 1) rfl h_a hy2
      obtain rfl : es4 = [.int .i64 y2] := hr6
      refine q1 rfl (D_ix (l := a) (j := k) s_25 rfl rfl rfl (fun w' hs => (rd_at hs h_a)) rfl (lt_of_some hy2)) ?_
      refine q1 rfl (lr0 o_3 rfl rfl at5 rfl) ?_
      refine li rfl (cv b_35 rfl rfl rfl rfl (fun w' hs => (spec_l1Has w' v_b b y2 (rd_at hs h_b))) ?_)
      refine p1 rfl ?_
      refine D_end ?_
      refine x_then ?_
      refine C_if _ rfl (fun h7 => ?_) (fun h7 => ?_)
      · have h7n : (b.contains y2) = false := not_t h7
        refine C_seq ?_
        refine C_reg ?_
        refine p1 rfl ?_
        refine D_end ?_
        refine x_then ?_
        refine C_ret ?_
        refine x_blk_ret ?_
        refine x_then_ret ?_
        refine x_then_ret ?_
        refine x_blk_ret ?_
        refine x_then_ret ?_
        refine R_1 rfl rfl fun w' hs => ⟨congrArg (fun z => Ending.returned (Value.bool z)) ?_, hs.bel⟩
        show (false : Bool) = a.all (fun x => b.contains x)
        exact (all_bad (p := fun x => b.contains x) hy2 h7n).symm
      · have h7n : (b.contains y2) = true := not_f h7
        refine C_skip ?_
        refine x_blk ?_
        refine x_then ?_
        refine C_reg ?_
        refine p1 rfl ?_
        refine q1 rfl (D_add rfl rfl rfl (r := ((k + 1 : Nat) : Int)) (by omega) (by omega)) ?_
        refine p1 rfl ?_
        refine D_end ?_
        refine x_then ?_
        refine fun ac w' hf hs => ⟨_, ?_, k + 1, ?_, ?_, rfl, hf.weak ⟨rfl, rfl, rfl, trivial⟩, hs⟩
        · omega
        · first | assumption | omega | simp
        · refine forall_step hi ?_; intro y hy; obtain rfl : y = y2 := Option.some.inj (hy.symm.trans hy2); exact h7n
    · have pr3 : ¬ (((k : Nat) : Int) : Int) < ((a.length : Nat) : Int) := of_decide_eq_false h3
      refine C_exit ?_
      refine x_then_exit ?_
      refine x_then_exit ?_
      refine x_blk_eq ?_
      refine x_then ?_
      refine C_seq ?_
      refine C_reg ?_
      refine p1 rfl ?_
      refine D_end ?_
      refine x_then ?_
      refine C_ret ?_
      refine R_1 rfl rfl fun w' hs => ⟨congrArg (fun z => Ending.returned (Value.bool z)) ?_, hs.bel⟩
      show (true : Bool) = a.all (fun x => b.contains x)
      exact (all_of_idx (p := fun x => b.contains x) (fun i h => hi i (by omega))).symm

theorem impl_IsRepair (w : World) (c_b : List Value) (b : Beliefs) (v_bad : Value) (bad : (List Int)) (v_free : Value) (free : (List Int)) (v_l : Value) (l : (List Int)) (h_b : Gd.rd w c_b b) (h_bad : Gd.rd w [v_bad] bad) (h_free : Gd.rd w [v_free] free) (h_l : Gd.rd w [v_l] l) : Calls Try.prog 20 [(.agg c_b.toArray), v_bad, v_free, v_l].toArray w (Val w (.bool (isRep b bad free l))) := by
  obtain ⟨u1, rfl, hu2⟩ := open_Beliefs h_b
  have hm3 := rd_max hu2
  have hm4 := rd_max h_bad
  have hm5 := rd_max h_free
  have hm6 := rd_max h_l
  refine enter 48 Try.func20 rfl rfl rfl ?_
  refine C_seq ?_
  refine C_reg ?_
  refine li rfl (D_box rfl rfl rfl rfl rfl fun g7 => ?_)
  refine p1 rfl ?_
  refine D_end ?_
  refine x_then ?_
  refine D_H ([bx g7 [(.int .i64 b.Nodes), u1]]) rfl ?_
  refine C_seq ?_
  refine C_seq ?_
  refine C_reg ?_
  refine q1 rfl (lbw 0 a_30 rfl rfl rfl) ?_
  refine p1 rfl <| p1 rfl ?_
  refine li rfl (cv b_46 rfl rfl rfl rfl (fun w' hs => (impl_IsCase w' [(.int .i64 b.Nodes), u1] b v_bad bad v_free free (rd_at hs h_b) (rd_at hs h_bad) (rd_at hs h_free))) ?_)
  refine p1 rfl ?_
  refine D_end ?_
  refine x_then ?_
  refine C_if _ rfl (fun h8 => ?_) (fun h8 => ?_)
  · have h8n : (isCase b bad free) = false := not_t h8
    refine C_seq ?_
    refine C_reg ?_
    refine p1 rfl ?_
    refine D_end ?_
    refine x_then ?_
    refine C_ret ?_
    refine x_then_ret ?_
    refine R_1 rfl rfl fun w' hs => ⟨congrArg (fun z => Ending.returned (Value.bool z)) ?_, hs.bel⟩
    show (false : Bool) = isRep b bad free l
    exact rep_n1 h8n
  · have h8n : (isCase b bad free) = true := not_f h8
    refine C_skip ?_
    refine x_then ?_
    refine C_seq ?_
    refine C_seq ?_
    have hcs : isCase b bad free = true := by assumption
    have hst := case_s hcs
    have hsol := strat_has hst
    have ho := isB_ok2 (strat_b hst)
    have hsz := szB_small (strat_b hst)
    have hbl := case_bl hcs
    have hrl : b.Reasons.length ≤ 1048576 := by have := isB_len (strat_b hst); omega
    refine C_reg ?_
    refine p1 rfl ?_
    refine q1 rfl (D_len s_25 rfl rfl (rd_sl h_l)) ?_
    refine p1 rfl ?_
    refine D_end ?_
    refine x_then ?_
    refine C_block ?_
    refine C_loop (fun m_ ac w' => ∃ (k : Nat), (k ≤ l.length) ∧ (∀ i, i < k → repAt l free i = true) ∧ m_ = l.length - k ∧ Fits ac 48 [(1, v_bad), (2, v_free), (3, v_l), (4, (.pointer (some ⟨g7, 0, none⟩))), (16, v_l), (17, (.int .i64 ((l.length : Nat) : Int))), (18, (.int .i64 ((k : Nat) : Int)))] ∧ St w ([bx g7 [(.int .i64 b.Nodes), u1]]) w') ?_ ?_
    · refine fun ac w' hf hs => ⟨_, 0, ?_, ?_, rfl, hf.weak ⟨rfl, rfl, rfl, rfl, rfl, rfl, rfl, trivial⟩, hs⟩
      · first | assumption | omega | simp
      · intro i hi; omega
    · rintro m_ ac w' ⟨k, hk, hi, rfl, hf, hs⟩
      refine D.use ?_ hf hs
      clear hf hs ac w'
      refine C_seq ?_
      refine C_reg ?_
      refine p1 rfl ?_
      refine D_end ?_
      refine x_then ?_
      refine C_seq ?_
      refine C_if _ rfl (fun h9 => ?_) (fun h9 => ?_)
      · have pr9 : (((k : Nat) : Int) : Int) < ((l.length : Nat) : Int) := of_decide_eq_true h9
        refine C_skip ?_
        refine x_then ?_
        refine C_seq ?_
        refine C_block ?_
        refine C_seq ?_
        refine C_reg ?_
        refine p1 rfl ?_
        obtain ⟨y2, hy2⟩ := some_of_lt (l := l) (i := k) (by omega)
        obtain ⟨es10, at11, hr12⟩ := rd_elem (n := 1) rfl h_l hy2
        obtain rfl : es10 = [.int .i64 y2] := hr12
        refine q1 rfl (D_ix (l := l) (j := k) s_25 rfl rfl rfl (fun w' hs => (rd_at hs h_l)) rfl (lt_of_some hy2)) ?_
        refine q1 rfl (lr0 o_3 rfl rfl at11 rfl) ?_
        refine p1 rfl <| p1 rfl ?_
        refine D_end ?_
        refine x_then ?_
        refine C_seq ?_
        refine C_reg ?_
        refine p1 rfl <| p1 rfl ?_
        refine li rfl (cv b_38 rfl rfl rfl rfl (fun w' hs => (impl_hasInt w' v_free free y2 (rd_at hs h_free))) ?_)
        refine p1 rfl <| p1 rfl ?_
        refine gs 27 rfl rfl (fun h13 => ?_) (fun h13 => ?_)
        · have h13n : (free.contains y2) = false := not_t h13
          refine n1 rfl ?_
          refine n1 rfl ?_
          refine n1 rfl ?_
          refine n1 rfl ?_
          refine n1 rfl ?_
          refine n1 rfl ?_
          refine n1 rfl ?_
          refine n1 rfl ?_
          refine n1 rfl ?_
          refine n1 rfl ?_
          refine n1 rfl ?_
          refine p1 rfl ?_
          refine D_end ?_
          refine x_then ?_
          refine D_weak [(1, v_bad), (2, v_free), (3, v_l), (4, (.pointer (some ⟨g7, 0, none⟩))), (16, v_l), (17, (.int .i64 ((l.length : Nat) : Int))), (18, (.int .i64 ((k : Nat) : Int))), (39, (.bool true))] ⟨rfl, rfl, rfl, rfl, rfl, rfl, rfl, rfl, trivial⟩ ?_
          refine C_t rfl ?_
          refine C_seq ?_
          refine C_reg ?_
          refine p1 rfl ?_
          refine D_end ?_
          refine x_then ?_
          refine C_ret ?_
          refine x_blk_ret ?_
          refine x_then_ret ?_
          refine x_then_ret ?_
          refine x_blk_ret ?_
          refine x_then_ret ?_
          refine R_1 rfl rfl fun w' hs => ⟨congrArg (fun z => Ending.returned (Value.bool z)) ?_, hs.bel⟩
          show (false : Bool) = isRep b bad free l
          exact rep_n2 hcs (by omega) (repAt_f1 hy2 (not_t (by assumption)))
        · have h13n : (free.contains y2) = true := not_f h13
          refine p1 rfl <| p1 rfl <| p1 rfl ?_
          refine gs 30 rfl rfl (fun h14 => ?_) (fun h14 => ?_)
          · have pr14 : (0 : Int) < ((k : Nat) : Int) := of_decide_eq_true h14
            refine p1 rfl <| p1 rfl ?_
            refine q1 rfl (D_sub rfl rfl rfl (r := ((k - 1 : Nat) : Int)) (by omega) (by omega)) ?_
            obtain ⟨y1, hy1⟩ := some_of_lt (l := l) (i := (k - 1)) (by omega)
            obtain ⟨es15, at16, hr17⟩ := rd_elem (n := 1) rfl h_l hy1
            obtain rfl : es15 = [.int .i64 y1] := hr17
            refine q1 rfl (D_ix (l := l) (j := (k - 1)) s_25 rfl rfl rfl (fun w' hs => (rd_at hs h_l)) rfl (lt_of_some hy1)) ?_
            refine q1 rfl (lr0 o_3 rfl rfl at16 rfl) ?_
            refine p1 rfl <| p1 rfl <| p1 rfl <| p1 rfl ?_
            refine D_end ?_
            refine x_then ?_
            refine D_weak [(1, v_bad), (2, v_free), (3, v_l), (4, (.pointer (some ⟨g7, 0, none⟩))), (16, v_l), (17, (.int .i64 ((l.length : Nat) : Int))), (18, (.int .i64 ((k : Nat) : Int))), (39, (.bool (decide ((y2 : Int) ≤ y1))))] ⟨rfl, rfl, rfl, rfl, rfl, rfl, rfl, rfl, trivial⟩ ?_
            refine C_if _ rfl (fun h18 => ?_) (fun h18 => ?_)
            · have pr18 : (y2 : Int) ≤ y1 := of_decide_eq_true h18
              refine C_seq ?_
              refine C_reg ?_
              refine p1 rfl ?_
              refine D_end ?_
              refine x_then ?_
              refine C_ret ?_
              refine x_blk_ret ?_
              refine x_then_ret ?_
              refine x_then_ret ?_
              refine x_blk_ret ?_
              refine x_then_ret ?_
              refine R_1 rfl rfl fun w' hs => ⟨congrArg (fun z => Ending.returned (Value.bool z)) ?_, hs.bel⟩
              show (false : Bool) = isRep b bad free l
              exact rep_n2 hcs (by omega) (repAt_f2 hy2 (by omega) hy1 (by omega))
            · have pr18 : ¬ (y2 : Int) ≤ y1 := of_decide_eq_false h18
              refine C_skip ?_
              refine x_blk ?_
              refine x_then ?_
              refine C_reg ?_
              refine q1 rfl (D_add rfl rfl rfl (r := ((k + 1 : Nat) : Int)) (by omega) (by omega)) ?_
              refine p1 rfl ?_
              refine D_end ?_
              refine x_then ?_
              refine fun ac w' hf hs => ⟨_, ?_, k + 1, ?_, ?_, rfl, hf.weak ⟨rfl, rfl, rfl, rfl, rfl, rfl, rfl, trivial⟩, hs⟩
              · omega
              · first | assumption | omega | simp
              · refine forall_step hi ?_; first | exact repAt_t1 hy2 (not_f (by assumption)) hy1 (by omega) | exact repAt_t0 hy2 (not_f (by assumption)) (by omega)
          · have pr14 : ¬ (0 : Int) < ((k : Nat) : Int) := of_decide_eq_false h14
            refine n1 rfl ?_
            refine n1 rfl ?_
            refine n1 rfl ?_
            refine n1 rfl ?_
            refine n1 rfl ?_
            refine n1 rfl ?_
            refine n1 rfl ?_
            refine p1 rfl <| p1 rfl ?_
            refine D_end ?_
            refine x_then ?_
            refine D_weak [(1, v_bad), (2, v_free), (3, v_l), (4, (.pointer (some ⟨g7, 0, none⟩))), (16, v_l), (17, (.int .i64 ((l.length : Nat) : Int))), (18, (.int .i64 ((k : Nat) : Int))), (39, (.bool false))] ⟨rfl, rfl, rfl, rfl, rfl, rfl, rfl, rfl, trivial⟩ ?_
            refine C_f rfl ?_
            refine C_skip ?_
            refine x_blk ?_
            refine x_then ?_
            refine C_reg ?_
            refine q1 rfl (D_add rfl rfl rfl (r := ((k + 1 : Nat) : Int)) (by omega) (by omega)) ?_
            refine p1 rfl ?_
            refine D_end ?_
            refine x_then ?_
            refine fun ac w' hf hs => ⟨_, ?_, k + 1, ?_, ?_, rfl, hf.weak ⟨rfl, rfl, rfl, rfl, rfl, rfl, rfl, trivial⟩, hs⟩
            · omega
            · first | assumption | omega | simp
            · refine forall_step hi ?_; first | exact repAt_t1 hy2 (not_f (by assumption)) hy1 (by omega) | exact repAt_t0 hy2 (not_f (by assumption)) (by omega)
      · have pr9 : ¬ (((k : Nat) : Int) : Int) < ((l.length : Nat) : Int) := of_decide_eq_false h9
        refine C_exit ?_
        refine x_then_exit ?_
        refine x_then_exit ?_
        refine x_blk_eq ?_
        refine x_then ?_
        refine C_seq ?_
        refine C_reg ?_
        refine q1 rfl (lbw 0 a_30 rfl rfl rfl) ?_
        refine p1 rfl ?_
        refine li rfl (crs rfl b_48 rfl rfl rfl rfl (fun w' hs => (impl_DropReasons w' [(.int .i64 b.Nodes), u1] b v_l l (rd_at hs h_b) (rd_at hs h_l) (by first | assumption | omega | (unfold szm at *; split at * <;> omega)))) fun cs19 => ?_)
        refine D_pre (fun w' hs => shape_Beliefs (rd_own (k := 0) hs rfl)) ?_
        rintro ⟨v20, rfl, ho21⟩
        refine p1 rfl ?_
        refine li rfl (crl b_47 rfl rfl rfl rfl (fun w' hs => (impl_badIn w' [(.int .i64 ((dropR b l).Nodes)), v20] (dropR b l) v_bad bad (rd_own (k := 0) hs rfl) (rd_at hs h_bad) ((dropR_sub b l).ok ho) ((dropR_sub b l).sol hsol) (Nat.le_trans (dropR_sub b l).2.1 hrl) (show asc bad b.Nodes = true from case_a hcs))) fun v22 => ?_)
        refine q1 rfl (D_leno 0 s_25 rfl rfl rfl) ?_
        refine p1 rfl <| p1 rfl ?_
        refine D_end ?_
        refine x_then ?_
        refine D_weak [(8, (.bool (((((badL (dropR b l) bad).length : Nat) : Int) : Int) == 0)))] ⟨rfl, trivial⟩ ?_
        refine D_sel (H' := []) [false, false, false] rfl ?_
        refine C_ret ?_
        refine R_1 rfl rfl fun w' hs => ⟨congrArg (fun z => Ending.returned (Value.bool z)) ?_, hs.bel⟩
        show ((((((badL (dropR b l) bad).length : Nat) : Int) : Int) == 0) : Bool) = isRep b bad free l
        exact rep_y hcs (fun i h => hi i (by omega))

theorem spec_IsRepair (w : World) (c_b : List Value) (b : Beliefs) (v_bad : Value) (bad : (List Int)) (v_free : Value) (free : (List Int)) (v_l : Value) (l : (List Int)) (h_b : Gd.rd w c_b b) (h_bad : Gd.rd w [v_bad] bad) (h_free : Gd.rd w [v_free] free) (h_l : Gd.rd w [v_l] l) : Calls Try.prog 19 [(.agg c_b.toArray), v_bad, v_free, v_l].toArray w (Val w (.bool (isRep b bad free l))) := by
  obtain ⟨u1, rfl, hu2⟩ := open_Beliefs h_b
  have hm3 := rd_max hu2
  have hm4 := rd_max h_bad
  have hm5 := rd_max h_free
  have hm6 := rd_max h_l
  refine enter 34 Try.func19 rfl rfl rfl ?_
  refine C_seq ?_
  refine C_reg ?_
  refine li rfl (D_box rfl rfl rfl rfl rfl fun g7 => ?_)
  refine p1 rfl ?_
  refine D_end ?_
  refine x_then ?_
  refine D_H ([bx g7 [(.int .i64 b.Nodes), u1]]) rfl ?_
  refine C_seq ?_
  refine C_reg ?_
  refine q1 rfl (lbw 0 a_30 rfl rfl rfl) ?_
  refine p1 rfl <| p1 rfl ?_
  refine li rfl (cv b_41 rfl rfl rfl rfl (fun w' hs => (spec_IsCase w' [(.int .i64 b.Nodes), u1] b v_bad bad v_free free (rd_at hs h_b) (rd_at hs h_bad) (rd_at hs h_free))) ?_)
  refine p1 rfl ?_
  refine gs 13 rfl rfl (fun h8 => ?_) (fun h8 => ?_)
  · refine p1 rfl ?_
    refine q1 rfl (D_fb f_30_1 rfl rfl (q := 1) rfl) ?_
    refine q1 rfl (lb 0 o_28 rfl rfl rfl rfl) ?_
    refine q1 rfl (D_len s_28 rfl rfl (rd_sl hu2)) ?_
    refine li rfl (cv b_42 rfl rfl rfl rfl (fun w' hs => (spec_l11List w' v_l l ((b.Reasons.length : Nat) : Int) (rd_at hs h_l))) ?_)
    refine p1 rfl <| p1 rfl ?_
    refine gs 20 rfl rfl (fun h9 => ?_) (fun h9 => ?_)
    · refine p1 rfl <| p1 rfl ?_
      refine li rfl (cv b_43 rfl rfl rfl rfl (fun w' hs => (spec_l12Part w' v_l l v_free free (rd_at hs h_l) (rd_at hs h_free))) ?_)
      refine p1 rfl <| p1 rfl ?_
      refine gs 25 rfl rfl (fun h10 => ?_) (fun h10 => ?_)
      · have hcs : isCase b bad free = true := by assumption
        have hst := case_s hcs
        have hsol := strat_has hst
        have ho := isB_ok2 (strat_b hst)
        have hsz := szB_small (strat_b hst)
        have hbl := case_bl hcs
        have hrl : b.Reasons.length ≤ 1048576 := by have := isB_len (strat_b hst); omega
        refine q1 rfl (lbw 0 a_30 rfl rfl rfl) ?_
        refine p1 rfl ?_
        refine li rfl (crs rfl b_45 rfl rfl rfl rfl (fun w' hs => (spec_l11Without w' [(.int .i64 b.Nodes), u1] b v_l l (rd_at hs h_b) (rd_at hs h_l) (by first | assumption | omega | (unfold szm at *; split at * <;> omega)))) fun cs11 => ?_)
        refine D_pre (fun w' hs => shape_Beliefs (rd_own (k := 0) hs rfl)) ?_
        rintro ⟨v12, rfl, ho13⟩
        refine p1 rfl ?_
        refine li rfl (crl b_44 rfl rfl rfl rfl (fun w' hs => (spec_l12Bad w' [(.int .i64 ((dropR b l).Nodes)), v12] (dropR b l) v_bad bad (rd_own (k := 0) hs rfl) (rd_at hs h_bad) (by omega))) fun v14 => ?_)
        refine q1 rfl (D_leno 0 s_25 rfl rfl rfl) ?_
        refine p1 rfl <| p1 rfl <| p1 rfl ?_
        refine D_end ?_
        refine x_then ?_
        refine D_weak [(8, (.bool (((((bad.filter (inL (labelsOf (dropR b l)))).length : Nat) : Int) : Int) == 0)))] ⟨rfl, trivial⟩ ?_
        refine D_sel (H' := []) [false, false, false] rfl ?_
        refine C_ret ?_
        refine R_1 rfl rfl fun w' hs => ⟨congrArg (fun z => Ending.returned (Value.bool z)) ?_, hs.bel⟩
        show ((((((bad.filter (inL (labelsOf (dropR b l)))).length : Nat) : Int) : Int) == 0) : Bool) = isRep b bad free l
        exact rep_y2 hcs ((ascW_slen hst).symm.trans (by assumption)) (by assumption)
      · refine n1 rfl ?_
        refine n1 rfl ?_
        refine n1 rfl ?_
        refine n1 rfl ?_
        refine n1 rfl ?_
        refine n1 rfl ?_
        refine n1 rfl ?_
        refine p1 rfl <| p1 rfl ?_
        refine D_end ?_
        refine x_then ?_
        refine D_weak [(8, (.bool false))] ⟨rfl, trivial⟩ ?_
        refine D_sel (H' := []) [false] rfl ?_
        refine C_ret ?_
        refine R_1 rfl rfl fun w' hs => ⟨congrArg (fun z => Ending.returned (Value.bool z)) ?_, hs.bel⟩
        show (false : Bool) = isRep b bad free l
        exact rep_n4 (by assumption)
    · refine n1 rfl ?_
      refine n1 rfl ?_
      refine n1 rfl ?_
      refine p1 rfl <| p1 rfl ?_
      refine n1 rfl ?_
      refine n1 rfl ?_
      refine n1 rfl ?_
      refine n1 rfl ?_
      refine n1 rfl ?_
      refine n1 rfl ?_
      refine n1 rfl ?_
      refine p1 rfl <| p1 rfl ?_
      refine D_end ?_
      refine x_then ?_
      refine D_weak [(8, (.bool false))] ⟨rfl, trivial⟩ ?_
      refine D_sel (H' := []) [false] rfl ?_
      refine C_ret ?_
      refine R_1 rfl rfl fun w' hs => ⟨congrArg (fun z => Ending.returned (Value.bool z)) ?_, hs.bel⟩
      show (false : Bool) = isRep b bad free l
      exact rep_n3 ((ascW_slen (case_s (by assumption))).symm.trans (by assumption))
  · refine n1 rfl ?_
    refine n1 rfl ?_
    refine n1 rfl ?_
    refine n1 rfl ?_
    refine n1 rfl ?_
    refine p1 rfl <| p1 rfl ?_
    refine n1 rfl ?_
    refine n1 rfl ?_
    refine n1 rfl ?_
    refine p1 rfl <| p1 rfl ?_
    refine n1 rfl ?_
    refine n1 rfl ?_
    refine n1 rfl ?_
    refine n1 rfl ?_
    refine n1 rfl ?_
    refine n1 rfl ?_
    refine n1 rfl ?_
    refine p1 rfl <| p1 rfl ?_
    refine D_end ?_
    refine x_then ?_
    refine D_weak [(8, (.bool false))] ⟨rfl, trivial⟩ ?_
    refine D_sel (H' := []) [false] rfl ?_
    refine C_ret ?_
    refine R_1 rfl rfl fun w' hs => ⟨congrArg (fun z => Ending.returned (Value.bool z)) ?_, hs.bel⟩
    show (false : Bool) = isRep b bad free l
    exact rep_n1 (by assumption)
end Go.Sy.Beld
