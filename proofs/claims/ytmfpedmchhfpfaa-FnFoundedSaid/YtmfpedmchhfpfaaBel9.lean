/-
  Contracts of functions of the program, walked (printed by a program of ours).
  Conditions: those that each theorem states.
-/
import Derived.Test.YtmfpedmchhfpfaaBel8
import Derived.Test.YtmfpedmchhfpfaaBad
set_option linter.unusedVariables false
set_option maxRecDepth 20000
namespace Go.Sy.Bel9
open Go Go.RowKit Go.Proofs Go.Sy
theorem mixed : Try.prog.follows .mixedOrders = true := by kernel_rfl
theorem a_26 : aggTy Try.prog 26 = some 2 := by kernel_rfl
theorem b_15 : hasBody Try.prog 15 = true := by kernel_rfl
theorem b_35 : hasBody Try.prog 35 = true := by kernel_rfl
theorem s_28 : sliceTy Try.prog 28 = some (3, 1, 8) := by kernel_rfl
theorem y_3 : zeroTy Try.prog 3 = some (.int .i64 0) := by kernel_rfl
theorem b_21 : hasBody Try.prog 21 = true := by kernel_rfl
theorem s_34 : sliceTy Try.prog 34 = some (4, 1, 1) := by kernel_rfl
theorem o_4 : oneTy Try.prog 4 = true := by kernel_rfl
theorem ub_4 : Try.prog.underlying 4 = some .bool := by kernel_rfl
theorem b_18 : hasBody Try.prog 18 = true := by kernel_rfl
theorem b_44 : hasBody Try.prog 44 = true := by kernel_rfl
open Go.Sy.Bel1 Go.Sy.Bel4 Go.Sy.Bel5 Go.Sy.Bel6 Go.Sy.Bel7 Go.Sy.Bel8
theorem impl_ConsequencesOf (w : World) (c_b : List Value) (b : Beliefs) (k : Int) (h_b : Gd.rd w c_b b) (hb : szB b ≤ 1048576) : Calls Try.prog 23 [(.agg c_b.toArray), (.int .i64 k)].toArray w (Res w (conseq b k : List Int)) := by
  obtain ⟨u1, rfl, hu2⟩ := open_Beliefs h_b
  have hm3 := rd_max hu2
  refine enter 39 Try.func23 rfl rfl rfl ?_
  refine C_seq ?_
  refine C_reg ?_
  refine li rfl (D_box rfl rfl rfl rfl rfl fun g4 => ?_)
  refine p1 rfl ?_
  refine D_end ?_
  refine x_then ?_
  refine D_H ([bx g4 [(.int .i64 b.Nodes), u1]]) rfl ?_
  refine C_seq ?_
  refine C_seq ?_
  refine C_reg ?_
  refine q1 rfl (lbw 0 a_26 rfl rfl rfl) ?_
  refine li rfl (cv b_15 rfl rfl rfl rfl (fun w' hs => (impl_IsStratified w' [(.int .i64 b.Nodes), u1] b (rd_at hs h_b))) ?_)
  refine p1 rfl ?_
  refine D_end ?_
  refine x_then ?_
  refine C_if _ rfl (fun h5 => ?_) (fun h5 => ?_)
  · have h5n : (isStrat b) = false := not_t h5
    refine C_seq ?_
    refine C_reg ?_
    refine p1 rfl ?_
    refine D_end ?_
    refine x_then ?_
    refine C_ret ?_
    refine x_then_ret ?_
    refine D_nil (α := Int) ?_
    refine R_1 rfl rfl fun w' hs => res_of (k := 0) hs rfl ?_
    show [] = conseq b k
    exact conseq_f h5n
  · have h5n : (isStrat b) = true := not_f h5
    refine C_skip ?_
    refine x_then ?_
    refine C_seq ?_
    have hst : isStrat b = true := by assumption
    have hsol := strat_has hst
    have ho := isB_ok2 (strat_b hst)
    have hbn := okB_nodes ho
    have hrl : b.Reasons.length ≤ 1048576 := by have := isB_len (strat_b hst); omega
    have hdn : (dropR b [k]).Nodes = b.Nodes := rfl
    refine C_join (fun ac w' => ∃ (v6 : Value), ∃ (v12 : Value), Fits ac 39 [(5, v6), (6, v12)] ∧ St w ([ov [v12] (vec (dropR b ([k])).Nodes.toNat (lbs (dropR b ([k]))) : (List Bool)), ov [v6] (vec b.Nodes.toNat (lbs b) : (List Bool)), bx g4 [(.int .i64 b.Nodes), u1]]) w') ?_ ?_
    · refine C_draw mixed [5, 6, 7, 8] (by kernel_rfl) ?_
      refine tk 0 rfl (by kernel_rfl) (by kernel_rfl) (by kernel_rfl) rfl (fun _ hs => hs) (lbw 0 a_26 rfl rfl rfl) ?_
      refine tk 2 rfl (by kernel_rfl) (by kernel_rfl) (by kernel_rfl) rfl (fun _ hs => hs) (lbw 0 a_26 rfl rfl rfl) ?_
      refine tk 3 rfl (by kernel_rfl) (by kernel_rfl) (by kernel_rfl) rfl (fun _ hs => hs) (rp rfl) ?_
      refine tyN [1, 4] rfl (by kernel_rfl) ⟨⟨_, rfl, rfl, ?_⟩, ⟨_, rfl, rfl, ?_⟩, trivial⟩
      · refine id (crl b_35 rfl rfl rfl rfl (fun w' hs => (impl_labels w' [(.int .i64 b.Nodes), u1] b (rd_at hs h_b) (by first | exact ho | exact (dropR_sub b [k]).ok ho) (by first | exact hsol | exact (dropR_sub b [k]).sol hsol) (by first | exact hrl | exact Nat.le_trans (dropR_sub b [k]).2.1 hrl))) fun v6 => ?_)
        refine tS (fun _ hs => hs.pk [1] rfl rfl) ?_
        refine ty 4 rfl (by kernel_rfl) rfl (D_bsl (y := k) s_28 y_3 rfl rfl rfl rfl rfl fun v8 => ?_)
        refine tS (fun _ hs => hs.pk [2] rfl rfl) ?_
        refine ty 5 rfl (by kernel_rfl) rfl (crs rfl b_21 rfl rfl rfl rfl (fun w' hs => (impl_DropReasons w' [(.int .i64 b.Nodes), u1] b v8 ([k]) (rd_at hs h_b) (rd_own (k := 0) hs rfl) (by first | assumption | omega | (unfold szm at *; split at * <;> omega)))) fun cs9 => ?_)
        refine D_pre (fun w' hs => shape_Beliefs (rd_own (k := 0) hs rfl)) ?_
        rintro ⟨v10, rfl, ho11⟩
        refine tZ rfl ?_
        refine ty 6 rfl (by kernel_rfl) rfl (crl b_35 rfl rfl rfl rfl (fun w' hs => (impl_labels w' [(.int .i64 ((dropR b ([k])).Nodes)), v10] (dropR b ([k])) (rd_own (k := 0) hs rfl) (by first | exact ho | exact (dropR_sub b [k]).ok ho) (by first | exact hsol | exact (dropR_sub b [k]).sol hsol) (by first | exact hrl | exact Nat.le_trans (dropR_sub b [k]).2.1 hrl))) fun v12 => ?_)
        refine tZ rfl ?_
        refine ty 7 rfl (by kernel_rfl) rfl (sv rfl rfl (rp rfl) ?_)
        refine tZ rfl ?_
        refine ty 8 rfl (by kernel_rfl) rfl (sv rfl rfl (rp rfl) ?_)
        refine tZ rfl ?_
        refine tE (by kernel_rfl) ?_
        refine x_then ?_
        refine fun ac w' hf hs => ⟨v6, v12, hf.weak ⟨rfl, rfl, trivial⟩, hs.pk [0, 3, 4] rfl rfl⟩
      · refine id (D_bsl (y := k) s_28 y_3 rfl rfl rfl rfl rfl fun v14 => ?_)
        refine tS (fun _ hs => hs.pk [1] rfl rfl) ?_
        refine ty 1 rfl (by kernel_rfl) rfl (crl b_35 rfl rfl rfl rfl (fun w' hs => (impl_labels w' [(.int .i64 b.Nodes), u1] b (rd_at hs h_b) (by first | exact ho | exact (dropR_sub b [k]).ok ho) (by first | exact hsol | exact (dropR_sub b [k]).sol hsol) (by first | exact hrl | exact Nat.le_trans (dropR_sub b [k]).2.1 hrl))) fun v15 => ?_)
        refine tS (fun _ hs => hs.pk [2] rfl rfl) ?_
        refine ty 5 rfl (by kernel_rfl) rfl (crs rfl b_21 rfl rfl rfl rfl (fun w' hs => (impl_DropReasons w' [(.int .i64 b.Nodes), u1] b v14 ([k]) (rd_at hs h_b) (rd_own (k := 1) hs rfl) (by first | assumption | omega | (unfold szm at *; split at * <;> omega)))) fun cs16 => ?_)
        refine D_pre (fun w' hs => shape_Beliefs (rd_own (k := 0) hs rfl)) ?_
        rintro ⟨v17, rfl, ho18⟩
        refine tZ rfl ?_
        refine ty 6 rfl (by kernel_rfl) rfl (crl b_35 rfl rfl rfl rfl (fun w' hs => (impl_labels w' [(.int .i64 ((dropR b ([k])).Nodes)), v17] (dropR b ([k])) (rd_own (k := 0) hs rfl) (by first | exact ho | exact (dropR_sub b [k]).ok ho) (by first | exact hsol | exact (dropR_sub b [k]).sol hsol) (by first | exact hrl | exact Nat.le_trans (dropR_sub b [k]).2.1 hrl))) fun v19 => ?_)
        refine tZ rfl ?_
        refine ty 7 rfl (by kernel_rfl) rfl (sv rfl rfl (rp rfl) ?_)
        refine tZ rfl ?_
        refine ty 8 rfl (by kernel_rfl) rfl (sv rfl rfl (rp rfl) ?_)
        refine tZ rfl ?_
        refine tE (by kernel_rfl) ?_
        refine x_then ?_
        refine fun ac w' hf hs => ⟨v15, v19, hf.weak ⟨rfl, rfl, trivial⟩, hs.pk [0, 2, 4] rfl rfl⟩
    rintro ac w' ⟨v6, v12, hf, hs⟩
    refine D.use ?_ hf hs
    clear hf hs ac w'
    refine x_then ?_
    refine D_H ([ov [v12] (vec (dropR b ([k])).Nodes.toNat (lbs (dropR b ([k]))) : (List Bool)), ov [v6] (vec b.Nodes.toNat (lbs b) : (List Bool)), bx g4 [(.int .i64 b.Nodes), u1]]) rfl ?_
    refine C_seq ?_
    refine C_reg ?_
    refine p1 rfl ?_
    refine D_end ?_
    refine x_then ?_
    refine C_seq ?_
    refine C_seq ?_
    refine C_reg ?_
    refine p1 rfl ?_
    refine q1 rfl (lenv s_34 rfl rfl (fun w' hs => (rd_own (k := 1) hs rfl)) (vec_len _ _)) ?_
    refine p1 rfl ?_
    refine D_end ?_
    refine x_then ?_
    refine C_block ?_
    refine C_loop (fun m_ ac w' => ∃ (i : Nat), ∃ (v : Value), (i ≤ b.Nodes.toNat) ∧ m_ = b.Nodes.toNat - i ∧ Fits ac 39 [(5, v6), (6, v12), (7, v), (20, (.int .i64 ((b.Nodes.toNat : Nat) : Int))), (21, (.int .i64 ((i : Nat) : Int)))] ∧ St w ([ov [v] (fidx (dif b (dropR b [k])) i : (List Int)), ov [v12] (vec (dropR b ([k])).Nodes.toNat (lbs (dropR b ([k]))) : (List Bool)), ov [v6] (vec b.Nodes.toNat (lbs b) : (List Bool)), bx g4 [(.int .i64 b.Nodes), u1]]) w') ?_ ?_
    · refine D_nil (α := Int) ?_
      refine D_eq 0 rfl (show ([] : (List Int)) = fidx (dif b (dropR b [k])) 0 from by rfl) ?_
      refine fun ac w' hf hs => ⟨_, 0, (.slice none 0 0), ?_, rfl, hf.weak ⟨rfl, rfl, rfl, rfl, rfl, trivial⟩, hs⟩
      · first | assumption | omega | simp
    · rintro m_ ac w' ⟨i, v, hi, rfl, hf, hs⟩
      refine D.use ?_ hf hs
      clear hf hs ac w'
      have hcl := fidx_len (dif b (dropR b [k])) i
      refine C_seq ?_
      refine C_reg ?_
      refine p1 rfl ?_
      refine D_end ?_
      refine x_then ?_
      refine D_H ([ov [v] (fidx (dif b (dropR b [k])) i : (List Int)), ov [v12] (vec (dropR b ([k])).Nodes.toNat (lbs (dropR b ([k]))) : (List Bool)), ov [v6] (vec b.Nodes.toNat (lbs b) : (List Bool)), bx g4 [(.int .i64 b.Nodes), u1]]) rfl ?_
      refine C_seq ?_
      refine C_if _ rfl (fun h20 => ?_) (fun h20 => ?_)
      · have pr20 : (((i : Nat) : Int) : Int) < ((b.Nodes.toNat : Nat) : Int) := of_decide_eq_true h20
        refine C_skip ?_
        refine x_then ?_
        refine C_seq ?_
        refine C_block ?_
        refine C_seq ?_
        refine C_reg ?_
        refine p1 rfl <| p1 rfl ?_
        refine D_end ?_
        refine x_then ?_
        refine C_seq ?_
        refine C_draw mixed [] (by kernel_rfl) ?_
        refine tk 0 rfl (by kernel_rfl) (by kernel_rfl) (by kernel_rfl) rfl (fun _ hs => hs) (rp rfl) ?_
        refine tk 1 rfl (by kernel_rfl) (by kernel_rfl) (by kernel_rfl) rfl (fun _ hs => hs) (rp rfl) ?_
        have hx22 : (vec b.Nodes.toNat (lbs b))[i]? = some ((lbs b) i) := vec_get (by omega)
        refine tk 2 rfl (by kernel_rfl) (by kernel_rfl) (by kernel_rfl) rfl (fun _ hs => hs) (D_ix (l := (vec b.Nodes.toNat (lbs b))) (j := i) s_34 rfl rfl rfl (fun w' hs => (rd_own (k := 2) hs rfl)) rfl (lt_of_some hx22)) ?_
        refine tk 3 rfl (by kernel_rfl) (by kernel_rfl) (by kernel_rfl) rfl (fun _ hs => hs) (lo (α := Bool) 2 o_4 rfl rfl rfl hx22) ?_
        refine tk 4 rfl (by kernel_rfl) (by kernel_rfl) (by kernel_rfl) rfl (fun _ hs => hs) (rp rfl) ?_
        refine tk 5 rfl (by kernel_rfl) (by kernel_rfl) (by kernel_rfl) rfl (fun _ hs => hs) (rp rfl) ?_
        have hx24 : (vec (dropR b ([k])).Nodes.toNat (lbs (dropR b ([k]))))[i]? = some ((lbs (dropR b ([k]))) i) := vec_get (by omega)
        refine tk 6 rfl (by kernel_rfl) (by kernel_rfl) (by kernel_rfl) rfl (fun _ hs => hs) (D_ix (l := (vec (dropR b ([k])).Nodes.toNat (lbs (dropR b ([k]))))) (j := i) s_34 rfl rfl rfl (fun w' hs => (rd_own (k := 1) hs rfl)) rfl (lt_of_some hx24)) ?_
        refine tk 7 rfl (by kernel_rfl) (by kernel_rfl) (by kernel_rfl) rfl (fun _ hs => hs) (lo (α := Bool) 1 o_4 rfl rfl rfl hx24) ?_
        refine tk 8 rfl (by kernel_rfl) (by kernel_rfl) (by kernel_rfl) rfl (fun _ hs => hs) (D_neB ub_4 rfl rfl rfl) ?_
        refine tE (by kernel_rfl) ?_
        refine x_then ?_
        refine C_if _ rfl (fun h25 => ?_) (fun h25 => ?_)
        · refine C_reg ?_
          refine p1 rfl <| p1 rfl ?_
          refine li rfl (D_bs s_28 y_3 rfl (by decide) (by decide) rfl rfl rfl rfl rfl rfl fun g26 => ?_)
          refine D_fi ((i : Nat) : Int) ?_
          refine D_pk (H' := [ov [v] (fidx (dif b (dropR b [k])) i : (List Int)), ov [(.int .i64 ((i : Nat) : Int))] (((i : Nat) : Int) : Int), bx g26 [(.int .i64 ((i : Nat) : Int))], ov [v12] (vec (dropR b ([k])).Nodes.toNat (lbs (dropR b ([k]))) : (List Bool)), ov [v6] (vec b.Nodes.toNat (lbs b) : (List Bool)), bx g4 [(.int .i64 b.Nodes), u1]]) [2, 0, 1, 3, 4, 5] rfl rfl ?_
          refine li rfl (D_ap s_28 y_3 rfl (by decide) rfl rfl rfl rfl rfl rfl (by first | omega | (simp; omega)) (by first | omega | (simp; omega)) fun v27 => ?_)
          refine p1 rfl ?_
          refine D_end ?_
          refine x_blk ?_
          refine x_then ?_
          refine D_weak [(5, v6), (6, v12), (7, v27), (20, (.int .i64 ((b.Nodes.toNat : Nat) : Int))), (21, (.int .i64 ((i : Nat) : Int)))] ⟨rfl, rfl, rfl, rfl, rfl, trivial⟩ ?_
          refine D_H ([ov [v27] ((fidx (dif b (dropR b [k])) i) ++ [((i : Nat) : Int)] : (List Int)), ov [v12] (vec (dropR b ([k])).Nodes.toNat (lbs (dropR b ([k]))) : (List Bool)), ov [v6] (vec b.Nodes.toNat (lbs b) : (List Bool)), bx g4 [(.int .i64 b.Nodes), u1]]) rfl ?_
          refine C_reg ?_
          refine q1 rfl (D_add rfl rfl rfl (r := ((i + 1 : Nat) : Int)) (by omega) (by omega)) ?_
          refine p1 rfl ?_
          refine D_end ?_
          refine x_then ?_
          refine D_eq 0 rfl (show ((fidx (dif b (dropR b [k])) i) ++ [((i : Nat) : Int)] : (List Int)) = fidx (dif b (dropR b [k])) (i + 1) from by first | exact fidx_t h25 | exact fidx_f h25) ?_
          refine fun ac w' hf hs => ⟨_, ?_, i + 1, v27, ?_, rfl, hf.weak ⟨rfl, rfl, rfl, rfl, rfl, trivial⟩, hs⟩
          · omega
          · first | assumption | omega | simp
        · have pr25 : ((lbs b) i) = ((lbs (dropR b ([k]))) i) := beq_of_not h25
          refine C_skip ?_
          refine x_blk ?_
          refine x_then ?_
          refine C_reg ?_
          refine q1 rfl (D_add rfl rfl rfl (r := ((i + 1 : Nat) : Int)) (by omega) (by omega)) ?_
          refine p1 rfl ?_
          refine D_end ?_
          refine x_then ?_
          refine D_eq 0 rfl (show (fidx (dif b (dropR b [k])) i : (List Int)) = fidx (dif b (dropR b [k])) (i + 1) from by first | exact fidx_t h25 | exact fidx_f h25) ?_
          refine fun ac w' hf hs => ⟨_, ?_, i + 1, v, ?_, rfl, hf.weak ⟨rfl, rfl, rfl, rfl, rfl, trivial⟩, hs⟩
          · omega
          · first | assumption | omega | simp
      · have pr20 : ¬ (((i : Nat) : Int) : Int) < ((b.Nodes.toNat : Nat) : Int) := of_decide_eq_false h20
        refine C_exit ?_
        refine x_then_exit ?_
        refine x_then_exit ?_
        refine x_blk_eq ?_
        refine x_then ?_
        refine C_seq ?_
        refine C_reg ?_
        refine p1 rfl <| p1 rfl ?_
        refine D_end ?_
        refine x_then ?_
        refine C_ret ?_
        refine R_1 rfl rfl fun w' hs => res_of (k := 0) hs rfl ?_
        show fidx (dif b (dropR b [k])) i = conseq b k
        rw [show i = b.Nodes.toNat by omega]; exact conseq_t hst

theorem spec_ConsequencesOf (w : World) (c_b : List Value) (b : Beliefs) (k : Int) (h_b : Gd.rd w c_b b) (hb : szB b ≤ 1048576) : Calls Try.prog 24 [(.agg c_b.toArray), (.int .i64 k)].toArray w (Res w (conseq b k : List Int)) := by
  obtain ⟨u1, rfl, hu2⟩ := open_Beliefs h_b
  have hm3 := rd_max hu2
  refine enter 43 Try.func24 rfl rfl rfl ?_
  refine C_seq ?_
  refine C_reg ?_
  refine li rfl (D_box rfl rfl rfl rfl rfl fun g4 => ?_)
  refine p1 rfl ?_
  refine D_end ?_
  refine x_then ?_
  refine D_H ([bx g4 [(.int .i64 b.Nodes), u1]]) rfl ?_
  refine C_seq ?_
  refine C_reg ?_
  refine li rfl (D_bs0 (α := Int) s_28 rfl rfl rfl fun v5 => ?_)
  refine p1 rfl ?_
  refine D_end ?_
  refine x_then ?_
  refine D_H ([ov [v5] ([] : (List Int)), bx g4 [(.int .i64 b.Nodes), u1]]) rfl ?_
  refine C_seq ?_
  refine C_reg ?_
  refine q1 rfl (lbw 1 a_26 rfl rfl rfl) ?_
  refine li rfl (crl b_18 rfl rfl rfl rfl (fun w' hs => (spec_LabelsOf w' [(.int .i64 b.Nodes), u1] b (rd_at hs h_b))) fun v6 => ?_)
  refine p1 rfl ?_
  refine D_end ?_
  refine x_then ?_
  refine D_H ([ov [v6] (labelsOf b : (List Bool)), ov [v5] ([] : (List Int)), bx g4 [(.int .i64 b.Nodes), u1]]) rfl ?_
  refine C_seq ?_
  refine C_reg ?_
  refine q1 rfl (lbw 2 a_26 rfl rfl rfl) ?_
  refine p1 rfl ?_
  refine li rfl (D_bsl (y := k) s_28 y_3 rfl rfl rfl rfl rfl fun v8 => ?_)
  refine li rfl (crs rfl b_44 rfl rfl rfl rfl (fun w' hs => (spec_l11Without w' [(.int .i64 b.Nodes), u1] b v8 ([k]) (rd_at hs h_b) (rd_own (k := 0) hs rfl) (by first | assumption | omega | (unfold szm at *; split at * <;> omega)))) fun cs9 => ?_)
  refine D_pre (fun w' hs => shape_Beliefs (rd_own (k := 0) hs rfl)) ?_
  rintro ⟨v10, rfl, ho11⟩
  refine li rfl (crl b_18 rfl rfl rfl rfl (fun w' hs => (spec_LabelsOf w' [(.int .i64 ((dropR b ([k])).Nodes)), v10] (dropR b ([k])) (rd_own (k := 0) hs rfl))) fun v12 => ?_)
  refine p1 rfl ?_
  refine D_end ?_
  refine x_then ?_
  refine D_H ([ov [v12] (labelsOf (dropR b ([k])) : (List Bool)), ov [(.int .i64 ((dropR b ([k])).Nodes)), v10] (dropR b ([k]) : Beliefs), ov [v8] ([k] : (List Int)), ov [v6] (labelsOf b : (List Bool)), ov [v5] ([] : (List Int)), bx g4 [(.int .i64 b.Nodes), u1]]) rfl ?_
  refine C_seq ?_
  refine C_seq ?_
  refine C_reg ?_
  refine p1 rfl ?_
  refine D_end ?_
  refine x_then ?_
  refine C_block ?_
  refine C_loop (fun m_ ac w' => ∃ (i : Nat), ∃ (v : Value), (i ≤ (labelsOf b).length) ∧ (i ≤ (labelsOf (dropR b [k])).length) ∧ m_ = (labelsOf b).length - i ∧ Fits ac 43 [(5, v), (6, v6), (7, v12), (8, (.int .i64 ((i : Nat) : Int)))] ∧ St w ([ov [v12] (labelsOf (dropR b ([k])) : (List Bool)), ov [(.int .i64 ((dropR b ([k])).Nodes)), v10] (dropR b ([k]) : Beliefs), ov [v8] ([k] : (List Int)), ov [v6] (labelsOf b : (List Bool)), ov [v] (fidx (difL (labelsOf b) (labelsOf (dropR b [k]))) i : (List Int)), bx g4 [(.int .i64 b.Nodes), u1]]) w') ?_ ?_
  · refine D_eq 4 rfl (show ([] : (List Int)) = fidx (difL (labelsOf b) (labelsOf (dropR b [k]))) 0 from by rfl) ?_
    refine fun ac w' hf hs => ⟨_, 0, v5, ?_, ?_, rfl, hf.weak ⟨rfl, rfl, rfl, rfl, trivial⟩, hs⟩
    · first | assumption | omega | simp
    · first | assumption | omega | simp
  · rintro m_ ac w' ⟨i, v, hi, hi2, rfl, hf, hs⟩
    refine D.use ?_ hf hs
    clear hf hs ac w'
    have hcl := fidx_len (difL (labelsOf b) (labelsOf (dropR b [k]))) i
    refine C_seq ?_
    refine C_seq ?_
    refine C_reg ?_
    have hl1 := labelsOf_len (b := b)
    have hl2 := labelsOf_len (b := dropR b [k])
    refine p1 rfl <| p1 rfl ?_
    refine q1 rfl (D_leno 3 s_34 rfl rfl rfl) ?_
    refine p1 rfl <| p1 rfl ?_
    refine gs 21 rfl rfl (fun h13 => ?_) (fun h13 => ?_)
    · have pr13 : (((i : Nat) : Int) : Int) < (((labelsOf b).length : Nat) : Int) := of_decide_eq_true h13
      refine p1 rfl <| p1 rfl ?_
      refine q1 rfl (D_leno 0 s_34 rfl rfl rfl) ?_
      refine p1 rfl <| p1 rfl ?_
      refine D_end ?_
      refine x_then ?_
      refine D_H ([ov [v12] (labelsOf (dropR b ([k])) : (List Bool)), ov [(.int .i64 ((dropR b ([k])).Nodes)), v10] (dropR b ([k]) : Beliefs), ov [v8] ([k] : (List Int)), ov [v6] (labelsOf b : (List Bool)), ov [v] (fidx (difL (labelsOf b) (labelsOf (dropR b [k]))) i : (List Int)), bx g4 [(.int .i64 b.Nodes), u1]]) rfl ?_
      refine C_if _ rfl (fun h14 => ?_) (fun h14 => ?_)
      · have pr14 : (((i : Nat) : Int) : Int) < (((labelsOf (dropR b ([k]))).length : Nat) : Int) := of_decide_eq_true h14
        refine C_skip ?_
        refine x_then ?_
        refine C_seq ?_
        refine C_block ?_
        refine C_seq ?_
        refine C_draw mixed [] (by kernel_rfl) ?_
        refine tk 0 rfl (by kernel_rfl) (by kernel_rfl) (by kernel_rfl) rfl (fun _ hs => hs) (rp rfl) ?_
        refine tk 1 rfl (by kernel_rfl) (by kernel_rfl) (by kernel_rfl) rfl (fun _ hs => hs) (rp rfl) ?_
        obtain ⟨ua, hua⟩ := some_of_lt (l := (labelsOf b)) (i := i) (by omega)
        refine tk 2 rfl (by kernel_rfl) (by kernel_rfl) (by kernel_rfl) rfl (fun _ hs => hs) (D_ix (l := (labelsOf b)) (j := i) s_34 rfl rfl rfl (fun w' hs => (rd_own (k := 3) hs rfl)) rfl (lt_of_some hua)) ?_
        refine tk 3 rfl (by kernel_rfl) (by kernel_rfl) (by kernel_rfl) rfl (fun _ hs => hs) (lo (α := Bool) 3 o_4 rfl rfl rfl hua) ?_
        refine tk 4 rfl (by kernel_rfl) (by kernel_rfl) (by kernel_rfl) rfl (fun _ hs => hs) (rp rfl) ?_
        refine tk 5 rfl (by kernel_rfl) (by kernel_rfl) (by kernel_rfl) rfl (fun _ hs => hs) (rp rfl) ?_
        obtain ⟨ub, hub⟩ := some_of_lt (l := (labelsOf (dropR b ([k])))) (i := i) (by omega)
        refine tk 6 rfl (by kernel_rfl) (by kernel_rfl) (by kernel_rfl) rfl (fun _ hs => hs) (D_ix (l := (labelsOf (dropR b ([k])))) (j := i) s_34 rfl rfl rfl (fun w' hs => (rd_own (k := 0) hs rfl)) rfl (lt_of_some hub)) ?_
        refine tk 7 rfl (by kernel_rfl) (by kernel_rfl) (by kernel_rfl) rfl (fun _ hs => hs) (lo (α := Bool) 0 o_4 rfl rfl rfl hub) ?_
        refine tk 8 rfl (by kernel_rfl) (by kernel_rfl) (by kernel_rfl) rfl (fun _ hs => hs) (D_neB ub_4 rfl rfl rfl) ?_
        refine tE (by kernel_rfl) ?_
        refine x_then ?_
        refine D_weak [(5, v), (6, v6), (7, v12), (8, (.int .i64 ((i : Nat) : Int))), (37, (.bool (!(ua == ub))))] ⟨rfl, rfl, rfl, rfl, rfl, trivial⟩ ?_
        refine C_if _ rfl (fun h15 => ?_) (fun h15 => ?_)
        · refine C_reg ?_
          refine p1 rfl <| p1 rfl ?_
          refine li rfl (D_bs s_28 y_3 rfl (by decide) (by decide) rfl rfl rfl rfl rfl rfl fun g16 => ?_)
          refine D_fi ((i : Nat) : Int) ?_
          refine D_pk (H' := [ov [v] (fidx (difL (labelsOf b) (labelsOf (dropR b [k]))) i : (List Int)), ov [(.int .i64 ((i : Nat) : Int))] (((i : Nat) : Int) : Int), bx g16 [(.int .i64 ((i : Nat) : Int))], ov [v12] (labelsOf (dropR b ([k])) : (List Bool)), ov [(.int .i64 ((dropR b ([k])).Nodes)), v10] (dropR b ([k]) : Beliefs), ov [v8] ([k] : (List Int)), ov [v6] (labelsOf b : (List Bool)), bx g4 [(.int .i64 b.Nodes), u1]]) [6, 0, 1, 2, 3, 4, 5, 7] rfl rfl ?_
          refine li rfl (D_ap s_28 y_3 rfl (by decide) rfl rfl rfl rfl rfl rfl (by first | omega | (simp; omega)) (by first | omega | (simp; omega)) fun v17 => ?_)
          refine p1 rfl ?_
          refine D_end ?_
          refine x_blk ?_
          refine x_then ?_
          refine D_H ([ov [v17] ((fidx (difL (labelsOf b) (labelsOf (dropR b [k]))) i) ++ [((i : Nat) : Int)] : (List Int)), ov [v12] (labelsOf (dropR b ([k])) : (List Bool)), ov [(.int .i64 ((dropR b ([k])).Nodes)), v10] (dropR b ([k]) : Beliefs), ov [v8] ([k] : (List Int)), ov [v6] (labelsOf b : (List Bool)), bx g4 [(.int .i64 b.Nodes), u1]]) rfl ?_
          refine C_reg ?_
          refine p1 rfl ?_
          refine q1 rfl (D_add rfl rfl rfl (r := ((i + 1 : Nat) : Int)) (by omega) (by omega)) ?_
          refine p1 rfl ?_
          refine D_end ?_
          refine x_then ?_
          refine D_eq 0 rfl (show ((fidx (difL (labelsOf b) (labelsOf (dropR b [k]))) i) ++ [((i : Nat) : Int)] : (List Int)) = fidx (difL (labelsOf b) (labelsOf (dropR b [k]))) (i + 1) from by first | exact fidx_t (difL_of hua hub h15) | exact fidx_f (difL_of hua hub h15)) ?_
          refine fun ac w' hf hs => ⟨_, ?_, i + 1, v17, ?_, ?_, rfl, hf.weak ⟨rfl, rfl, rfl, rfl, trivial⟩, hs.pk [1, 2, 3, 4, 0, 5] rfl rfl⟩
          · omega
          · first | assumption | omega | simp
          · first | assumption | omega | simp
        · have pr15 : ua = ub := beq_of_not h15
          refine C_skip ?_
          refine x_blk ?_
          refine x_then ?_
          refine C_reg ?_
          refine p1 rfl ?_
          refine q1 rfl (D_add rfl rfl rfl (r := ((i + 1 : Nat) : Int)) (by omega) (by omega)) ?_
          refine p1 rfl ?_
          refine D_end ?_
          refine x_then ?_
          refine D_eq 4 rfl (show (fidx (difL (labelsOf b) (labelsOf (dropR b [k]))) i : (List Int)) = fidx (difL (labelsOf b) (labelsOf (dropR b [k]))) (i + 1) from by first | exact fidx_t (difL_of hua hub h15) | exact fidx_f (difL_of hua hub h15)) ?_
          refine fun ac w' hf hs => ⟨_, ?_, i + 1, v, ?_, ?_, rfl, hf.weak ⟨rfl, rfl, rfl, rfl, trivial⟩, hs⟩
          · omega
          · first | assumption | omega | simp
          · first | assumption | omega | simp
      · have pr14 : ¬ (((i : Nat) : Int) : Int) < (((labelsOf (dropR b ([k]))).length : Nat) : Int) := of_decide_eq_false h14
        refine C_exit ?_
        refine x_then_exit ?_
        refine x_then_exit ?_
        refine x_blk_eq ?_
        refine x_then ?_
        refine C_seq ?_
        refine C_reg ?_
        refine p1 rfl <| p1 rfl ?_
        refine D_end ?_
        refine x_then ?_
        refine D_weak [(4, v)] ⟨rfl, trivial⟩ ?_
        refine D_sel (H' := [ov [v] (fidx (difL (labelsOf b) (labelsOf (dropR b [k]))) i : (List Int))]) [false, false, false, false, true, false] rfl ?_
        refine C_ret ?_
        refine R_1 rfl rfl fun w' hs => res_of (k := 0) hs rfl ?_
        show fidx (difL (labelsOf b) (labelsOf (dropR b [k]))) i = conseq b k
        exact conseq_w (by omega) hi hi2
    · have pr13 : ¬ (((i : Nat) : Int) : Int) < (((labelsOf b).length : Nat) : Int) := of_decide_eq_false h13
      refine n1 rfl ?_
      refine n1 rfl ?_
      refine n1 rfl ?_
      refine n1 rfl ?_
      refine p1 rfl ?_
      refine D_end ?_
      refine x_then ?_
      refine D_H ([ov [v12] (labelsOf (dropR b ([k])) : (List Bool)), ov [(.int .i64 ((dropR b ([k])).Nodes)), v10] (dropR b ([k]) : Beliefs), ov [v8] ([k] : (List Int)), ov [v6] (labelsOf b : (List Bool)), ov [v] (fidx (difL (labelsOf b) (labelsOf (dropR b [k]))) i : (List Int)), bx g4 [(.int .i64 b.Nodes), u1]]) rfl ?_
      refine C_f rfl ?_
      refine C_exit ?_
      refine x_then_exit ?_
      refine x_then_exit ?_
      refine x_blk_eq ?_
      refine x_then ?_
      refine C_seq ?_
      refine C_reg ?_
      refine p1 rfl <| p1 rfl ?_
      refine D_end ?_
      refine x_then ?_
      refine D_weak [(4, v)] ⟨rfl, trivial⟩ ?_
      refine D_sel (H' := [ov [v] (fidx (difL (labelsOf b) (labelsOf (dropR b [k]))) i : (List Int))]) [false, false, false, false, true, false] rfl ?_
      refine C_ret ?_
      refine R_1 rfl rfl fun w' hs => res_of (k := 0) hs rfl ?_
      show fidx (difL (labelsOf b) (labelsOf (dropR b [k]))) i = conseq b k
      exact conseq_w (by omega) hi hi2
end Go.Sy.Bel9
