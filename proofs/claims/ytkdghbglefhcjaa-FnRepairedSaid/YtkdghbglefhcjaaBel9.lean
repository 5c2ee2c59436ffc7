/-
  Contracts of functions of the program, walked (printed by a program of ours).
  Conditions: those that each theorem states.
-/
import Derived.Test.YtkdghbglefhcjaaBel8
import Derived.Test.YtkdghbglefhcjaaGraph
set_option linter.unusedVariables false
set_option maxRecDepth 20000
namespace Go.Sy.Bel9
open Go Go.RowKit Go.Proofs Go.Sy
theorem mixed : Try.prog.follows .mixedOrders = true := by kernel_rfl
theorem a_26 : aggTy Try.prog 26 = some 2 := by kernel_rfl
theorem b_43 : hasBody Try.prog 43 = true := by kernel_rfl
theorem s_27 : sliceTy Try.prog 27 = some (3, 1, 8) := by kernel_rfl
theorem o_3 : oneTy Try.prog 3 = true := by kernel_rfl
theorem s_63 : sliceTy Try.prog 63 = some (4, 1, 1) := by kernel_rfl
theorem o_4 : oneTy Try.prog 4 = true := by kernel_rfl
theorem y_3 : zeroTy Try.prog 3 = some (.int .i64 0) := by kernel_rfl
theorem b_18 : hasBody Try.prog 18 = true := by kernel_rfl
theorem b_24 : hasBody Try.prog 24 = true := by kernel_rfl
open Go.Sy.Bel1 Go.Sy.Bel2 Go.Sy.Bel3 Go.Sy.Bel4 Go.Sy.Bel5 Go.Sy.Bel6 Go.Sy.Bel7 Go.Sy.Bel8
theorem impl_badIn (w : World) (c_b : List Value) (b : Beliefs) (v_bad : Value) (bad : (List Int)) (h_b : Gd.rd w c_b b) (h_bad : Gd.rd w [v_bad] bad) (ho : okB b = true) (hsol : HasSol b) (hrl : b.Reasons.length ≤ 1048576) (ha : asc bad b.Nodes = true) : Calls Try.prog 24 [(.agg c_b.toArray), v_bad].toArray w (Res w (badL b bad : List Int)) := by
  obtain ⟨u1, rfl, hu2⟩ := open_Beliefs h_b
  have hm3 := rd_max hu2
  have hm4 := rd_max h_bad
  have hbn := okB_nodes ho
  have hbl := asc_len ha
  refine enter 27 Try.func24 rfl rfl rfl ?_
  refine C_seq ?_
  refine C_reg ?_
  refine li rfl (D_box rfl rfl rfl rfl rfl fun g5 => ?_)
  refine p1 rfl ?_
  refine D_end ?_
  refine x_then ?_
  refine D_H ([bx g5 [(.int .i64 b.Nodes), u1]]) rfl ?_
  refine C_seq ?_
  refine C_reg ?_
  refine q1 rfl (lbw 0 a_26 rfl rfl rfl) ?_
  refine li rfl (crl b_43 rfl rfl rfl rfl (fun w' hs => (impl_labels w' [(.int .i64 b.Nodes), u1] b (rd_at hs h_b) (by first | assumption | omega | (unfold szm at *; split at * <;> omega)) (by first | assumption | omega | (unfold szm at *; split at * <;> omega)) (by first | assumption | omega | (unfold szm at *; split at * <;> omega)))) fun v6 => ?_)
  refine p1 rfl ?_
  refine D_end ?_
  refine x_then ?_
  refine D_H ([ov [v6] (vec b.Nodes.toNat (lbs b) : (List Bool)), bx g5 [(.int .i64 b.Nodes), u1]]) rfl ?_
  refine C_seq ?_
  refine C_reg ?_
  refine p1 rfl ?_
  refine D_end ?_
  refine x_then ?_
  refine C_seq ?_
  refine C_seq ?_
  refine C_reg ?_
  refine p1 rfl ?_
  refine q1 rfl (D_len s_27 rfl rfl (rd_sl h_bad)) ?_
  refine p1 rfl ?_
  refine D_end ?_
  refine x_then ?_
  refine C_block ?_
  refine C_loop (fun m_ ac w' => ∃ (k : Nat), ∃ (v : Value), (k ≤ bad.length) ∧ m_ = bad.length - k ∧ Fits ac 27 [(5, v6), (6, v), (11, v_bad), (12, (.int .i64 ((bad.length : Nat) : Int))), (13, (.int .i64 ((k : Nat) : Int)))] ∧ St w ([ov [v] (filtT (fun x => lbs b x.toNat) bad k : (List Int)), ov [v6] (vec b.Nodes.toNat (lbs b) : (List Bool)), bx g5 [(.int .i64 b.Nodes), u1]]) w') ?_ ?_
  · refine D_nil (α := Int) ?_
    refine D_eq 0 rfl (show ([] : (List Int)) = filtT (fun x => lbs b x.toNat) bad 0 from by rfl) ?_
    refine fun ac w' hf hs => ⟨_, 0, (.slice none 0 0), ?_, rfl, hf.weak ⟨rfl, rfl, rfl, rfl, rfl, trivial⟩, hs⟩
    · first | assumption | omega | simp
  · rintro m_ ac w' ⟨k, v, hk, rfl, hf, hs⟩
    refine D.use ?_ hf hs
    clear hf hs ac w'
    have hcl := filtT_len (fun x => lbs b x.toNat) bad k
    refine C_seq ?_
    refine C_reg ?_
    refine p1 rfl ?_
    refine D_end ?_
    refine x_then ?_
    refine D_H ([ov [v] (filtT (fun x => lbs b x.toNat) bad k : (List Int)), ov [v6] (vec b.Nodes.toNat (lbs b) : (List Bool)), bx g5 [(.int .i64 b.Nodes), u1]]) rfl ?_
    refine C_seq ?_
    refine C_if _ rfl (fun h7 => ?_) (fun h7 => ?_)
    · have pr7 : (((k : Nat) : Int) : Int) < ((bad.length : Nat) : Int) := of_decide_eq_true h7
      refine C_skip ?_
      refine x_then ?_
      refine C_seq ?_
      refine C_block ?_
      refine C_seq ?_
      refine C_reg ?_
      obtain ⟨y0, hy0⟩ := some_of_lt (l := bad) (i := k) (by omega)
      have hyn := asc_at ha hy0
      obtain ⟨es8, at9, hr10⟩ := rd_elem (n := 1) rfl h_bad hy0
      obtain rfl : es8 = [.int .i64 y0] := hr10
      refine q1 rfl (D_ix (l := bad) (j := k) s_27 rfl rfl rfl (fun w' hs => (rd_at hs h_bad)) rfl (lt_of_some hy0)) ?_
      refine q1 rfl (lr0 o_3 rfl rfl at9 rfl) ?_
      refine p1 rfl ?_
      refine D_end ?_
      refine x_then ?_
      refine C_seq ?_
      refine C_reg ?_
      refine p1 rfl <| p1 rfl ?_
      have hx12 : (vec b.Nodes.toNat (lbs b))[(y0.toNat)]? = some ((lbs b) (y0.toNat)) := vec_get (by omega)
      refine q1 rfl (D_ix (l := (vec b.Nodes.toNat (lbs b))) (j := (y0.toNat)) s_63 rfl rfl rfl (fun w' hs => (rd_own (k := 1) hs rfl)) (Int.toNat_of_nonneg (by omega)).symm (lt_of_some hx12)) ?_
      refine q1 rfl (lo (α := Bool) 1 o_4 rfl rfl rfl hx12) ?_
      refine D_end ?_
      refine x_then ?_
      refine C_if _ rfl (fun h13 => ?_) (fun h13 => ?_)
      · refine C_reg ?_
        refine p1 rfl <| p1 rfl ?_
        refine li rfl (D_bs s_27 y_3 rfl (by decide) (by decide) rfl rfl rfl rfl rfl rfl fun g14 => ?_)
        refine D_fi y0 ?_
        refine D_pk (H' := [ov [v] (filtT (fun x => lbs b x.toNat) bad k : (List Int)), ov [(.int .i64 y0)] (y0 : Int), bx g14 [(.int .i64 y0)], ov [v6] (vec b.Nodes.toNat (lbs b) : (List Bool)), bx g5 [(.int .i64 b.Nodes), u1]]) [2, 0, 1, 3, 4] rfl rfl ?_
        refine li rfl (D_ap s_27 y_3 rfl (by decide) rfl rfl rfl rfl rfl rfl (by first | omega | (simp; omega)) (by first | omega | (simp; omega)) fun v15 => ?_)
        refine p1 rfl ?_
        refine D_end ?_
        refine x_blk ?_
        refine x_then ?_
        refine D_H ([ov [v15] ((filtT (fun x => lbs b x.toNat) bad k) ++ [y0] : (List Int)), ov [v6] (vec b.Nodes.toNat (lbs b) : (List Bool)), bx g5 [(.int .i64 b.Nodes), u1]]) rfl ?_
        refine C_reg ?_
        refine q1 rfl (D_add rfl rfl rfl (r := ((k + 1 : Nat) : Int)) (by omega) (by omega)) ?_
        refine p1 rfl ?_
        refine D_end ?_
        refine x_then ?_
        refine D_eq 0 rfl (show ((filtT (fun x => lbs b x.toNat) bad k) ++ [y0] : (List Int)) = filtT (fun x => lbs b x.toNat) bad (k + 1) from by first | exact filtT_t hy0 (by assumption) | exact filtT_f hy0 (by assumption)) ?_
        refine fun ac w' hf hs => ⟨_, ?_, k + 1, v15, ?_, rfl, hf.weak ⟨rfl, rfl, rfl, rfl, rfl, trivial⟩, hs⟩
        · omega
        · first | assumption | omega | simp
      · refine C_skip ?_
        refine x_blk ?_
        refine x_then ?_
        refine C_reg ?_
        refine q1 rfl (D_add rfl rfl rfl (r := ((k + 1 : Nat) : Int)) (by omega) (by omega)) ?_
        refine p1 rfl ?_
        refine D_end ?_
        refine x_then ?_
        refine D_eq 0 rfl (show (filtT (fun x => lbs b x.toNat) bad k : (List Int)) = filtT (fun x => lbs b x.toNat) bad (k + 1) from by first | exact filtT_t hy0 (by assumption) | exact filtT_f hy0 (by assumption)) ?_
        refine fun ac w' hf hs => ⟨_, ?_, k + 1, v, ?_, rfl, hf.weak ⟨rfl, rfl, rfl, rfl, rfl, trivial⟩, hs⟩
        · omega
        · first | assumption | omega | simp
    · have pr7 : ¬ (((k : Nat) : Int) : Int) < ((bad.length : Nat) : Int) := of_decide_eq_false h7
      refine C_exit ?_
      refine x_then_exit ?_
      refine x_then_exit ?_
      refine x_blk_eq ?_
      refine x_then ?_
      refine C_seq ?_
      refine C_reg ?_
      refine p1 rfl <| p1 rfl ?_
      refine D_end ?_
      refine x_then ?_
      refine C_ret ?_
      refine R_1 rfl rfl fun w' hs => res_of (k := 0) hs rfl ?_
      show filtT (fun x => lbs b x.toNat) bad k = badL b bad
      exact filtT_done (by omega)

theorem impl_ClashesOf (w : World) (c_b : List Value) (b : Beliefs) (v_bad : Value) (bad : (List Int)) (h_b : Gd.rd w c_b b) (h_bad : Gd.rd w [v_bad] bad) : Calls Try.prog 11 [(.agg c_b.toArray), v_bad].toArray w (Res w (clashes b bad : List Int)) := by
  obtain ⟨u1, rfl, hu2⟩ := open_Beliefs h_b
  have hm3 := rd_max hu2
  have hm4 := rd_max h_bad
  refine enter 12 Try.func11 rfl rfl rfl ?_
  refine C_seq ?_
  refine C_reg ?_
  refine li rfl (D_box rfl rfl rfl rfl rfl fun g5 => ?_)
  refine p1 rfl ?_
  refine D_end ?_
  refine x_then ?_
  refine D_H ([bx g5 [(.int .i64 b.Nodes), u1]]) rfl ?_
  refine C_seq ?_
  refine C_seq ?_
  refine C_reg ?_
  refine q1 rfl (lbw 0 a_26 rfl rfl rfl) ?_
  refine p1 rfl ?_
  refine li rfl (cv b_18 rfl rfl rfl rfl (fun w' hs => (impl_IsCase w' [(.int .i64 b.Nodes), u1] b v_bad bad (.slice none 0 0) [] (rd_at hs h_b) (rd_at hs h_bad) rd_nil)) ?_)
  refine p1 rfl ?_
  refine D_end ?_
  refine x_then ?_
  refine C_if _ rfl (fun h6 => ?_) (fun h6 => ?_)
  · have h6n : (isCase b bad ([])) = false := not_t h6
    refine C_seq ?_
    refine C_reg ?_
    refine p1 rfl ?_
    refine D_end ?_
    refine x_then ?_
    refine C_ret ?_
    refine x_then_ret ?_
    refine D_nil (α := Int) ?_
    refine R_1 rfl rfl fun w' hs => res_of (k := 0) hs rfl ?_
    show [] = clashes b bad
    exact clashes_f h6n
  · have h6n : (isCase b bad ([])) = true := not_f h6
    refine C_skip ?_
    refine x_then ?_
    refine C_seq ?_
    refine C_reg ?_
    refine q1 rfl (lbw 0 a_26 rfl rfl rfl) ?_
    refine p1 rfl ?_
    refine li rfl (crl b_24 rfl rfl rfl rfl (fun w' hs => (impl_badIn w' [(.int .i64 b.Nodes), u1] b v_bad bad (rd_at hs h_b) (rd_at hs h_bad) (isB_ok2 (strat_b (case_s (by assumption)))) (strat_has (case_s (by assumption))) (by have := isB_len (strat_b (case_s (b := b) (by assumption))); omega) (case_a (by assumption)))) fun v7 => ?_)
    refine p1 rfl ?_
    refine D_end ?_
    refine x_then ?_
    refine D_H ([ov [v7] (badL b bad : (List Int)), bx g5 [(.int .i64 b.Nodes), u1]]) rfl ?_
    refine C_ret ?_
    refine R_1 rfl rfl fun w' hs => res_of (k := 0) hs rfl ?_
    show badL b bad = clashes b bad
    exact clashes_t (by assumption)
end Go.Sy.Bel9
