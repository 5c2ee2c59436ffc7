/-
  Contracts of functions of the program, walked (printed by a program of ours).
  Conditions: those that each theorem states.
-/
import Derived.Test.YteahhonfcloabaaBel8
import Derived.Test.YteahhonfcloabaaGraph
set_option linter.unusedVariables false
set_option maxRecDepth 20000
namespace Go.Sy.Bel9
open Go Go.RowKit Go.Proofs Go.Sy
theorem mixed : Try.prog.follows .mixedOrders = true := by kernel_rfl
theorem a_30 : aggTy Try.prog 30 = some 2 := by kernel_rfl
theorem b_71 : hasBody Try.prog 71 = true := by kernel_rfl
theorem s_25 : sliceTy Try.prog 25 = some (3, 1, 8) := by kernel_rfl
theorem o_3 : oneTy Try.prog 3 = true := by kernel_rfl
theorem s_75 : sliceTy Try.prog 75 = some (4, 1, 1) := by kernel_rfl
theorem o_4 : oneTy Try.prog 4 = true := by kernel_rfl
theorem y_3 : zeroTy Try.prog 3 = some (.int .i64 0) := by kernel_rfl
theorem b_67 : hasBody Try.prog 67 = true := by kernel_rfl
theorem b_66 : hasBody Try.prog 66 = true := by kernel_rfl
open Go.Sy.Bel1 Go.Sy.Bel2 Go.Sy.Bel3 Go.Sy.Bel4 Go.Sy.Bel5 Go.Sy.Bel6 Go.Sy.Bel7 Go.Sy.Bel8
theorem impl_badIn (w : World) (c_b : List Value) (b : Beliefs) (v_bad : Value) (bad : (List Int)) (h_b : Gd.rd w c_b b) (h_bad : Gd.rd w [v_bad] bad) (ho : okB b = true) (hsol : HasSol b) (hrl : b.Reasons.length ≤ 1048576) (ha : asc bad b.Nodes = true) : Calls Try.prog 47 [(.agg c_b.toArray), v_bad].toArray w (Res w (badL b bad : List Int)) := by
  obtain ⟨u1, rfl, hu2⟩ := open_Beliefs h_b
  have hm3 := rd_max hu2
  have hm4 := rd_max h_bad
  have hbn := okB_nodes ho
  have hbl := asc_len ha
  refine enter 27 Try.func47 rfl rfl rfl ?_
  refine C_seq ?_
  refine C_reg ?_
  refine li rfl (D_box rfl rfl rfl rfl rfl fun g5 => ?_)
  refine p1 rfl ?_
  refine D_end ?_
  refine x_then ?_
  refine D_H ([bx g5 [(.int .i64 b.Nodes), u1]]) rfl ?_
  refine C_seq ?_
  refine C_reg ?_
  refine q1 rfl (lbw 0 a_30 rfl rfl rfl) ?_
  refine li rfl (crl b_71 rfl rfl rfl rfl (fun w' hs => (impl_labels w' [(.int .i64 b.Nodes), u1] b (rd_at hs h_b) (by first | assumption | omega | (unfold szm at *; split at * <;> omega)) (by first | assumption | omega | (unfold szm at *; split at * <;> omega)) (by first | assumption | omega | (unfold szm at *; split at * <;> omega)))) fun v6 => ?_)
  refine p1 rfl ?_
  refine D_end ?_
  refine x_then ?_
  refine D_H ([ov [v6] (vec b.Nodes.toNat (lbs b) : (List Bool)), bx g5 [(.int .i64 b.Nodes), u1]]) rfl ?_
  refine C_seq ?_
  refine C_reg ?_
  refine p1 rfl ?_
  refine D_end ?_
  refine x_then ?_
  refine C_seq ?_
  refine C_seq ?_
  refine C_reg ?_
  refine p1 rfl ?_
  refine q1 rfl (D_len s_25 rfl rfl (rd_sl h_bad)) ?_
  refine p1 rfl ?_
  refine D_end ?_
  refine x_then ?_
  refine C_block ?_
  refine C_loop (fun m_ ac w' => ∃ (k : Nat), ∃ (v : Value), (k ≤ bad.length) ∧ m_ = bad.length - k ∧ Fits ac 27 [(5, v6), (6, v), (11, v_bad), (12, (.int .i64 ((bad.length : Nat) : Int))), (13, (.int .i64 ((k : Nat) : Int)))] ∧ St w ([ov [v] (filtT (fun x => lbs b x.toNat) bad k : (List Int)), ov [v6] (vec b.Nodes.toNat (lbs b) : (List Bool)), bx g5 [(.int .i64 b.Nodes), u1]]) w') ?_ ?_
  · refine D_nil (α := Int) ?_
    refine D_eq 0 rfl (show ([] : (List Int)) = filtT (fun x => lbs b x.toNat) bad 0 from by rfl) ?_
    refine fun ac w' hf hs => ⟨_, 0, (.slice none 0 0), ?_, rfl, hf.weak ⟨rfl, rfl, rfl, rfl, rfl, trivial⟩, hs⟩
    · first | assumption | omega | simp
  · rintro m_ ac w' ⟨k, v, hk, rfl, hf, hs⟩
    refine D.use ?_ hf hs
    clear hf hs ac w'
    have hcl := filtT_len (fun x => lbs b x.toNat) bad k
    refine C_seq ?_
    refine C_reg ?_
    refine p1 rfl ?_
    refine D_end ?_
    refine x_then ?_
    refine D_H ([ov [v] (filtT (fun x => lbs b x.toNat) bad k : (List Int)), ov [v6] (vec b.Nodes.toNat (lbs b) : (List Bool)), bx g5 [(.int .i64 b.Nodes), u1]]) rfl ?_
    refine C_seq ?_
    refine C_if _ rfl (fun h7 => ?_) (fun h7 => ?_)
    · have pr7 : (((k : Nat) : Int) : Int) < ((bad.length : Nat) : Int) := of_decide_eq_true h7
      refine C_skip ?_
      refine x_then ?_
      refine C_seq ?_
      refine C_block ?_
      refine C_seq ?_
      refine C_reg ?_
      obtain ⟨y0, hy0⟩ := some_of_lt (l := bad) (i := k) (by omega)
      have hyn := asc_at ha hy0
      obtain ⟨es8, at9, hr10⟩ := rd_elem (n := 1) rfl h_bad hy0
      obtain rfl : es8 = [.int .i64 y0] := hr10
      refine q1 rfl (D_ix (l := bad) (j := k) s_25 rfl rfl rfl (fun w' hs => (rd_at hs h_bad)) rfl (lt_of_some hy0)) ?_
      refine q1 rfl (lr0 o_3 rfl rfl at9 rfl) ?_
      refine p1 rfl ?_
      refine D_end ?_
      refine x_then ?_
      refine C_seq ?_
      refine C_reg ?_
      refine p1 rfl <| p1 rfl ?_
      have hx12 : (vec b.Nodes.toNat (lbs b))[(y0.toNat)]? = some ((lbs b) (y0.toNat)) := vec_get (by omega)
      refine q1 rfl (D_ix (l := (vec b.Nodes.toNat (lbs b))) (j := (y0.toNat)) s_75 rfl rfl rfl (fun w' hs => (rd_own (k := 1) hs rfl)) (Int.toNat_of_nonneg (by omega)).symm (lt_of_some hx12)) ?_
      refine q1 rfl (lo (α := Bool) 1 o_4 rfl rfl rfl hx12) ?_
      refine D_end ?_
      refine x_then ?_
      refine C_if _ rfl (fun h13 => ?_) (fun h13 => ?_)
      · refine C_reg ?_
        refine p1 rfl <| p1 rfl ?_
        refine li rfl (D_bs s_25 y_3 rfl (by decide) (by decide) rfl rfl rfl rfl rfl rfl fun g14 => ?_)
        refine D_fi y0 ?_
        refine D_pk (H' := [ov [v] (filtT (fun x => lbs b x.toNat) bad k : (List Int)), ov [(.int .i64 y0)] (y0 : Int), bx g14 [(.int .i64 y0)], ov [v6] (vec b.Nodes.toNat (lbs b) : (List Bool)), bx g5 [(.int .i64 b.Nodes), u1]]) [2, 0, 1, 3, 4] rfl rfl ?_
        refine li rfl (D_ap s_25 y_3 rfl (by decide) rfl rfl rfl rfl rfl rfl (by first | omega | (simp; omega)) (by first | omega | (simp; omega)) fun v15 => ?_)
        refine p1 rfl ?_
        refine D_end ?_
        refine x_blk ?_
        refine x_then ?_
        refine D_H ([ov [v15] ((filtT (fun x => lbs b x.toNat) bad k) ++ [y0] : (List Int)), ov [v6] (vec b.Nodes.toNat (lbs b) : (List Bool)), bx g5 [(.int .i64 b.Nodes), u1]]) rfl ?_
        refine C_reg ?_
        refine q1 rfl (D_add rfl rfl rfl (r := ((k + 1 : Nat) : Int)) (by omega) (by omega)) ?_
        refine p1 rfl ?_
        refine D_end ?_
        refine x_then ?_
        refine D_eq 0 rfl (show ((filtT (fun x => lbs b x.toNat) bad k) ++ [y0] : (List Int)) = filtT (fun x => lbs b x.toNat) bad (k + 1) from by first | exact filtT_t hy0 (by assumption) | exact filtT_f hy0 (by assumption)) ?_
        refine fun ac w' hf hs => ⟨_, ?_, k + 1, v15, ?_, rfl, hf.weak ⟨rfl, rfl, rfl, rfl, rfl, trivial⟩, hs⟩
        · omega
        · first | assumption | omega | simp
      · refine C_skip ?_
        refine x_blk ?_
        refine x_then ?_
        refine C_reg ?_
        refine q1 rfl (D_add rfl rfl rfl (r := ((k + 1 : Nat) : Int)) (by omega) (by omega)) ?_
        refine p1 rfl ?_
        refine D_end ?_
        refine x_then ?_
        refine D_eq 0 rfl (show (filtT (fun x => lbs b x.toNat) bad k : (List Int)) = filtT (fun x => lbs b x.toNat) bad (k + 1) from by first | exact filtT_t hy0 (by assumption) | exact filtT_f hy0 (by assumption)) ?_
        refine fun ac w' hf hs => ⟨_, ?_, k + 1, v, ?_, rfl, hf.weak ⟨rfl, rfl, rfl, rfl, rfl, trivial⟩, hs⟩
        · omega
        · first | assumption | omega | simp
    · have pr7 : ¬ (((k : Nat) : Int) : Int) < ((bad.length : Nat) : Int) := of_decide_eq_false h7
      refine C_exit ?_
      refine x_then_exit ?_
      refine x_then_exit ?_
      refine x_blk_eq ?_
      refine x_then ?_
      refine C_seq ?_
      refine C_reg ?_
      refine p1 rfl <| p1 rfl ?_
      refine D_end ?_
      refine x_then ?_
      refine C_ret ?_
      refine R_1 rfl rfl fun w' hs => res_of (k := 0) hs rfl ?_
      show filtT (fun x => lbs b x.toNat) bad k = badL b bad
      exact filtT_done (by omega)

theorem spec_l12Bad (w : World) (c_b : List Value) (b : Beliefs) (v_bad : Value) (bad : (List Int)) (h_b : Gd.rd w c_b b) (h_bad : Gd.rd w [v_bad] bad) (hbl : bad.length ≤ 1048576) : Calls Try.prog 44 [(.agg c_b.toArray), v_bad].toArray w (Res w (bad.filter (inL (labelsOf b)) : List Int)) := by
  obtain ⟨u1, rfl, hu2⟩ := open_Beliefs h_b
  have hm3 := rd_max hu2
  have hm4 := rd_max h_bad
  refine enter 42 Try.func44 rfl rfl rfl ?_
  refine C_seq ?_
  refine C_reg ?_
  refine li rfl (D_box rfl rfl rfl rfl rfl fun g5 => ?_)
  refine p1 rfl ?_
  refine D_end ?_
  refine x_then ?_
  refine D_H ([bx g5 [(.int .i64 b.Nodes), u1]]) rfl ?_
  refine C_seq ?_
  refine C_reg ?_
  refine li rfl (D_bs0 (α := Int) s_25 rfl rfl rfl fun v6 => ?_)
  refine p1 rfl ?_
  refine D_end ?_
  refine x_then ?_
  refine D_H ([ov [v6] ([] : (List Int)), bx g5 [(.int .i64 b.Nodes), u1]]) rfl ?_
  refine C_seq ?_
  refine C_reg ?_
  refine q1 rfl (lbw 1 a_30 rfl rfl rfl) ?_
  refine li rfl (crl b_67 rfl rfl rfl rfl (fun w' hs => (spec_LabelsOf w' [(.int .i64 b.Nodes), u1] b (rd_at hs h_b))) fun v7 => ?_)
  refine p1 rfl ?_
  refine D_end ?_
  refine x_then ?_
  refine D_H ([ov [v7] (labelsOf b : (List Bool)), ov [v6] ([] : (List Int)), bx g5 [(.int .i64 b.Nodes), u1]]) rfl ?_
  refine C_seq ?_
  refine C_seq ?_
  refine C_reg ?_
  refine p1 rfl ?_
  refine D_end ?_
  refine x_then ?_
  refine C_block ?_
  refine C_loop (fun m_ ac w' => ∃ (k : Nat), ∃ (v : Value), (k ≤ bad.length) ∧ m_ = bad.length - k ∧ Fits ac 42 [(1, v_bad), (5, v), (6, v7), (7, (.int .i64 ((k : Nat) : Int)))] ∧ St w ([ov [v7] (labelsOf b : (List Bool)), ov [v] (filtT (inL (labelsOf b)) bad k : (List Int)), bx g5 [(.int .i64 b.Nodes), u1]]) w') ?_ ?_
  · refine D_eq 1 rfl (show ([] : (List Int)) = filtT (inL (labelsOf b)) bad 0 from by rfl) ?_
    refine fun ac w' hf hs => ⟨_, 0, v6, ?_, rfl, hf.weak ⟨rfl, rfl, rfl, rfl, trivial⟩, hs⟩
    · first | assumption | omega | simp
  · rintro m_ ac w' ⟨k, v, hk, rfl, hf, hs⟩
    refine D.use ?_ hf hs
    clear hf hs ac w'
    have hcl := filtT_len (inL (labelsOf b)) bad k
    refine C_seq ?_
    refine C_seq ?_
    refine C_reg ?_
    have hll := labelsOf_len (b := b)
    refine p1 rfl <| p1 rfl ?_
    refine q1 rfl (D_len s_25 rfl rfl (rd_sl h_bad)) ?_
    refine p1 rfl ?_
    refine D_end ?_
    refine x_then ?_
    refine D_H ([ov [v7] (labelsOf b : (List Bool)), ov [v] (filtT (inL (labelsOf b)) bad k : (List Int)), bx g5 [(.int .i64 b.Nodes), u1]]) rfl ?_
    refine C_if _ rfl (fun h8 => ?_) (fun h8 => ?_)
    · have pr8 : (((k : Nat) : Int) : Int) < ((bad.length : Nat) : Int) := of_decide_eq_true h8
      refine C_skip ?_
      refine x_then ?_
      refine C_seq ?_
      refine C_block ?_
      refine C_seq ?_
      refine C_reg ?_
      refine p1 rfl <| p1 rfl ?_
      obtain ⟨y0, hy0⟩ := some_of_lt (l := bad) (i := k) (by omega)
      obtain ⟨es9, at10, hr11⟩ := rd_elem (n := 1) rfl h_bad hy0
      obtain rfl : es9 = [.int .i64 y0] := hr11
      refine q1 rfl (D_ix (l := bad) (j := k) s_25 rfl rfl rfl (fun w' hs => (rd_at hs h_bad)) rfl (lt_of_some hy0)) ?_
      refine q1 rfl (lr0 o_3 rfl rfl at10 rfl) ?_
      refine p1 rfl ?_
      refine q1 rfl (D_leno 0 s_75 rfl rfl rfl) ?_
      refine q1 rfl (D_sub rfl rfl rfl (r := ((((labelsOf b).length : Nat) : Int) - 1)) (by omega) (by omega)) ?_
      refine li rfl (cv b_66 rfl rfl rfl rfl (fun w' hs => (spec_l1In w' y0 0 ((((labelsOf b).length : Nat) : Int) - 1))) ?_)
      refine p1 rfl ?_
      refine gs 25 rfl rfl (fun h12 => ?_) (fun h12 => ?_)
      · refine p1 rfl <| p1 rfl <| p1 rfl ?_
        refine q1 rfl (D_ix (l := bad) (j := k) s_25 rfl rfl rfl (fun w' hs => (rd_at hs h_bad)) rfl (lt_of_some hy0)) ?_
        refine q1 rfl (lr0 o_3 rfl rfl at10 rfl) ?_
        have hyr := inR_t (x := y0) (by assumption)
        obtain ⟨ua, hua⟩ := some_of_lt (l := (labelsOf b)) (i := (y0.toNat)) (by omega)
        refine q1 rfl (D_ix (l := (labelsOf b)) (j := (y0.toNat)) s_75 rfl rfl rfl (fun w' hs => (rd_own (k := 0) hs rfl)) (Int.toNat_of_nonneg (by omega)).symm (lt_of_some hua)) ?_
        refine q1 rfl (lo (α := Bool) 0 o_4 rfl rfl rfl hua) ?_
        refine p1 rfl ?_
        refine D_end ?_
        refine x_then ?_
        refine D_weak [(1, v_bad), (5, v), (6, v7), (7, (.int .i64 ((k : Nat) : Int))), (33, (.bool ua))] ⟨rfl, rfl, rfl, rfl, rfl, trivial⟩ ?_
        refine C_if _ rfl (fun h13 => ?_) (fun h13 => ?_)
        · refine C_reg ?_
          refine p1 rfl <| p1 rfl <| p1 rfl ?_
          refine q1 rfl (D_ix (l := bad) (j := k) s_25 rfl rfl rfl (fun w' hs => (rd_at hs h_bad)) rfl (lt_of_some hy0)) ?_
          refine q1 rfl (lr0 o_3 rfl rfl at10 rfl) ?_
          refine li rfl (D_bs s_25 y_3 rfl (by decide) (by decide) rfl rfl rfl rfl rfl rfl fun g14 => ?_)
          refine D_fi y0 ?_
          refine D_pk (H' := [ov [v] (filtT (inL (labelsOf b)) bad k : (List Int)), ov [(.int .i64 y0)] (y0 : Int), bx g14 [(.int .i64 y0)], ov [v7] (labelsOf b : (List Bool)), bx g5 [(.int .i64 b.Nodes), u1]]) [3, 0, 1, 2, 4] rfl rfl ?_
          refine li rfl (D_ap s_25 y_3 rfl (by decide) rfl rfl rfl rfl rfl rfl (by first | omega | (simp; omega)) (by first | omega | (simp; omega)) fun v15 => ?_)
          refine p1 rfl ?_
          refine D_end ?_
          refine x_blk ?_
          refine x_then ?_
          refine D_H ([ov [v15] ((filtT (inL (labelsOf b)) bad k) ++ [y0] : (List Int)), ov [v7] (labelsOf b : (List Bool)), bx g5 [(.int .i64 b.Nodes), u1]]) rfl ?_
          refine C_reg ?_
          refine p1 rfl ?_
          refine q1 rfl (D_add rfl rfl rfl (r := ((k + 1 : Nat) : Int)) (by omega) (by omega)) ?_
          refine p1 rfl ?_
          refine D_end ?_
          refine x_then ?_
          refine D_eq 0 rfl (show ((filtT (inL (labelsOf b)) bad k) ++ [y0] : (List Int)) = filtT (inL (labelsOf b)) bad (k + 1) from by first | exact filtT_f hy0 (inL_out (by assumption)) | exact filtT_t hy0 ((inL_of (by omega) hua).trans (by assumption)) | exact filtT_f hy0 ((inL_of (by omega) hua).trans (by assumption))) ?_
          refine fun ac w' hf hs => ⟨_, ?_, k + 1, v15, ?_, rfl, hf.weak ⟨rfl, rfl, rfl, rfl, trivial⟩, hs.pk [1, 0, 2] rfl rfl⟩
          · omega
          · first | assumption | omega | simp
        · refine C_skip ?_
          refine x_blk ?_
          refine x_then ?_
          refine C_reg ?_
          refine p1 rfl ?_
          refine q1 rfl (D_add rfl rfl rfl (r := ((k + 1 : Nat) : Int)) (by omega) (by omega)) ?_
          refine p1 rfl ?_
          refine D_end ?_
          refine x_then ?_
          refine D_eq 1 rfl (show (filtT (inL (labelsOf b)) bad k : (List Int)) = filtT (inL (labelsOf b)) bad (k + 1) from by first | exact filtT_f hy0 (inL_out (by assumption)) | exact filtT_t hy0 ((inL_of (by omega) hua).trans (by assumption)) | exact filtT_f hy0 ((inL_of (by omega) hua).trans (by assumption))) ?_
          refine fun ac w' hf hs => ⟨_, ?_, k + 1, v, ?_, rfl, hf.weak ⟨rfl, rfl, rfl, rfl, trivial⟩, hs⟩
          · omega
          · first | assumption | omega | simp
      · refine n1 rfl ?_
        refine n1 rfl ?_
        refine n1 rfl ?_
        refine n1 rfl ?_
        refine n1 rfl ?_
        refine n1 rfl ?_
        refine n1 rfl ?_
        refine p1 rfl ?_
        refine D_end ?_
        refine x_then ?_
        refine D_weak [(1, v_bad), (5, v), (6, v7), (7, (.int .i64 ((k : Nat) : Int))), (33, (.bool false))] ⟨rfl, rfl, rfl, rfl, rfl, trivial⟩ ?_
        refine C_f rfl ?_
        refine C_skip ?_
        refine x_blk ?_
        refine x_then ?_
        refine C_reg ?_
        refine p1 rfl ?_
        refine q1 rfl (D_add rfl rfl rfl (r := ((k + 1 : Nat) : Int)) (by omega) (by omega)) ?_
        refine p1 rfl ?_
        refine D_end ?_
        refine x_then ?_
        refine D_eq 1 rfl (show (filtT (inL (labelsOf b)) bad k : (List Int)) = filtT (inL (labelsOf b)) bad (k + 1) from by first | exact filtT_f hy0 (inL_out (by assumption)) | exact filtT_t hy0 ((inL_of (by omega) hua).trans (by assumption)) | exact filtT_f hy0 ((inL_of (by omega) hua).trans (by assumption))) ?_
        refine fun ac w' hf hs => ⟨_, ?_, k + 1, v, ?_, rfl, hf.weak ⟨rfl, rfl, rfl, rfl, trivial⟩, hs⟩
        · omega
        · first | assumption | omega | simp
    · have pr8 : ¬ (((k : Nat) : Int) : Int) < ((bad.length : Nat) : Int) := of_decide_eq_false h8
      refine C_exit ?_
      refine x_then_exit ?_
      refine x_then_exit ?_
      refine x_blk_eq ?_
      refine x_then ?_
      refine C_seq ?_
      refine C_reg ?_
      refine p1 rfl <| p1 rfl ?_
      refine D_end ?_
      refine x_then ?_
      refine C_ret ?_
      refine R_1 rfl rfl fun w' hs => res_of (k := 1) hs rfl ?_
      show filtT (inL (labelsOf b)) bad k = bad.filter (inL (labelsOf b))
      exact filtT_done (by omega)
end Go.Sy.Bel9
