/-
  Contracts of functions of the program, walked (printed by a program of ours).
  Conditions: those that each theorem states.
-/
import Derived.Test.YtkdghbglefhcjaaCur1
import Derived.Test.YtkdghbglefhcjaaCas
set_option linter.unusedVariables false
set_option maxRecDepth 20000
namespace Go.Sy.Cur3
open Go Go.RowKit Go.Proofs Go.Sy
theorem mixed : Try.prog.follows .mixedOrders = true := by kernel_rfl
theorem y_26 : zeroTy Try.prog 26 = some (.agg #[(.int .i64 0), (.slice none 0 0)]) := by kernel_rfl
theorem b_39 : hasBody Try.prog 39 = true := by kernel_rfl
theorem z_26 : sizeTy Try.prog 26 = some 2 := by kernel_rfl
theorem f_26_0 : fieldOff Try.prog 26 0 = some 0 := by kernel_rfl
theorem o_3 : oneTy Try.prog 3 = true := by kernel_rfl
theorem b_40 : hasBody Try.prog 40 = true := by kernel_rfl
theorem s_27 : sliceTy Try.prog 27 = some (3, 1, 8) := by kernel_rfl
theorem y_3 : zeroTy Try.prog 3 = some (.int .i64 0) := by kernel_rfl
theorem a_26 : aggTy Try.prog 26 = some 2 := by kernel_rfl
theorem b_41 : hasBody Try.prog 41 = true := by kernel_rfl
theorem b_42 : hasBody Try.prog 42 = true := by kernel_rfl
theorem b_22 : hasBody Try.prog 22 = true := by kernel_rfl
theorem b_21 : hasBody Try.prog 21 = true := by kernel_rfl
open Go.Sy.Bel1 Go.Sy.Bel2 Go.Sy.Bel3 Go.Sy.Bel4 Go.Sy.Bel5 Go.Sy.Bel6 Go.Sy.Bel7 Go.Sy.Bel8 Go.Sy.Bel9 Go.Sy.Belb Go.Sy.Beld Go.Sy.Cur1
set_option maxHeartbeats 4000000 in
theorem spec_l12Draw (w0 : World) (Hs : List Chunk) (w : World) (g_c : Nat) (v_c : Value) (code : List UInt8) (h_c : Gd.rd w0 [v_c] code) (hst : St w0 (cu g_c v_c code.length :: Hs) w) : Calls Try.prog 21 [(.pointer (some ⟨g_c, 0, none⟩))].toArray w (fun e w' => ∃ (ya : Beliefs) (yb : List Int) (yc : List Int) (c1 c2 c3 : List Value), (isCase ya yb yc = true ∧ drawn ya 6 true ∧ yc.length ≤ 6) ∧ e = .returned (.tuple #[Gd.vl (Beliefs) c1, Gd.vl (List Int) c2, Gd.vl (List Int) c3]) ∧ St w0 (ov c1 ya :: ov c2 yb :: ov c3 yc :: cu g_c v_c code.length :: Hs) w') := by
  have hm1 := rd_max h_c
  refine enterS 50 Try.func21 rfl rfl rfl hst ?_
  refine C_seq ?_
  refine C_reg ?_
  refine li rfl (D_alloc y_26 rfl rfl rfl rfl fun g2 => ?_)
  refine p1 rfl <| p1 rfl ?_
  refine D_end ?_
  refine x_then ?_
  refine D_H (bx g2 [(.int .i64 0), (.slice none 0 0)] :: cu g_c v_c code.length :: Hs) rfl ?_
  refine C_seq ?_
  refine C_reg ?_
  refine p1 rfl ?_
  refine D_fd [1] 0 rfl ?_
  refine li rfl (ccR (α := Beliefs) b_39 rfl rfl rfl rfl (fun w' hs => spec_l11Good _ _ w' g_c v_c code 6 h_c (by first | assumption | omega) (by first | assumption | omega) hs) fun y3 cs4 hy3 => ?_)
  have hy3l := hy3.1
  have hy3r := hy3.2
  refine D_pre (fun w' hs => shape_Beliefs (rd_own (k := 0) hs rfl)) ?_
  rintro ⟨v5, rfl, ho6⟩
  refine D_re 11 (v' := (.agg #[(.int .i64 y3.Nodes), v5])) rfl rfl rfl ?_
  refine li rfl (D_alloc y_26 rfl rfl rfl rfl fun g7 => ?_)
  refine li rfl (D_stb (vs := [(.int .i64 y3.Nodes), v5]) (cs' := [(.int .i64 y3.Nodes), v5]) 0 z_26 rfl rfl rfl rfl rfl rfl (ocons rfl (ocons ho6 onil)) (by simp) rfl ?_)
  refine D_end ?_
  refine x_then ?_
  refine D_H (bx g7 [(.int .i64 y3.Nodes), v5] :: ov [(.int .i64 y3.Nodes), v5] (y3 : Beliefs) :: cu g_c v_c code.length :: bx g2 [(.int .i64 0), (.slice none 0 0)] :: Hs) rfl ?_
  refine C_seq ?_
  have hdn := hy3.2.1
  have hdm := hy3.2.2.1
  have hdl := hy3.2.2.2.2.1
  have hil := idxs_len isPremise y3.Reasons
  refine C_reg ?_
  refine p1 rfl ?_
  refine q1 rfl (D_fb f_26_0 rfl rfl (q := 0) rfl) ?_
  refine q1 rfl (lb 0 o_3 rfl rfl rfl rfl) ?_
  refine D_fd [2] 0 rfl ?_
  refine li rfl (ccR (α := List Int) b_40 rfl rfl rfl rfl (fun w' hs => spec_l11Nodes _ _ w' g_c v_c code y3.Nodes 2 h_c (by first | assumption | omega) (by first | assumption | omega) hs) fun y8 cs9 hy8 => ?_)
  have hy8l := hy8.1
  have hy8r := hy8.2
  refine D_pre (fun w' hs => rd_cell (rd_own (k := 0) hs rfl)) ?_
  rintro ⟨v10, rfl⟩
  refine D_re 15 (v' := v10) rfl rfl rfl ?_
  refine p1 rfl ?_
  refine D_end ?_
  refine x_then ?_
  refine D_H (ov [v10] (y8 : (List Int)) :: cu g_c v_c code.length :: bx g7 [(.int .i64 y3.Nodes), v5] :: ov [(.int .i64 y3.Nodes), v5] (y3 : Beliefs) :: bx g2 [(.int .i64 0), (.slice none 0 0)] :: Hs) rfl ?_
  refine C_seq ?_
  refine C_seq ?_
  refine C_reg ?_
  refine p1 rfl ?_
  refine q1 rfl (D_leno 0 s_27 rfl rfl rfl) ?_
  refine p1 rfl ?_
  refine D_end ?_
  refine x_then ?_
  refine C_if _ rfl (fun h11 => ?_) (fun h11 => ?_)
  · have pr11 : (((y8.length : Nat) : Int) : Int) = 0 := eq_of_beq h11
    refine C_reg ?_
    refine q1 rfl (D_fb f_26_0 rfl rfl (q := 0) rfl) ?_
    refine q1 rfl (lb 2 o_3 rfl rfl rfl rfl) ?_
    refine q1 rfl (D_sub rfl rfl rfl rfl (by omega)) ?_
    refine li rfl (D_bsl (y := (y3.Nodes - 1)) s_27 y_3 rfl rfl rfl rfl rfl fun v13 => ?_)
    refine p1 rfl ?_
    refine D_end ?_
    refine x_then ?_
    refine D_weak [(0, (.pointer (some ⟨g_c, 0, none⟩))), (2, (.pointer (some ⟨g2, 0, none⟩))), (5, (.pointer (some ⟨g7, 0, none⟩))), (6, v13)] ⟨rfl, rfl, rfl, rfl, trivial⟩ ?_
    refine D_H (ov [v13] ([(y3.Nodes - 1)] : (List Int)) :: ov [v10] (y8 : (List Int)) :: cu g_c v_c code.length :: bx g7 [(.int .i64 y3.Nodes), v5] :: ov [(.int .i64 y3.Nodes), v5] (y3 : Beliefs) :: bx g2 [(.int .i64 0), (.slice none 0 0)] :: Hs) rfl ?_
    refine C_seq ?_
    refine C_reg ?_
    refine q1 rfl (lbw 3 a_26 rfl rfl rfl) ?_
    refine li rfl (crl b_41 rfl rfl rfl rfl (fun w' hs => (spec_PremisesOf w' [(.int .i64 y3.Nodes), v5] y3 (rd_own (k := 4) hs rfl) (by first | assumption | omega | (unfold szm at *; split at * <;> omega)))) fun v14 => ?_)
    refine p1 rfl ?_
    refine D_end ?_
    refine x_then ?_
    refine D_H (ov [v14] (idxs isPremise y3.Reasons : (List Int)) :: ov [v13] ([(y3.Nodes - 1)] : (List Int)) :: ov [v10] (y8 : (List Int)) :: cu g_c v_c code.length :: bx g7 [(.int .i64 y3.Nodes), v5] :: ov [(.int .i64 y3.Nodes), v5] (y3 : Beliefs) :: bx g2 [(.int .i64 0), (.slice none 0 0)] :: Hs) rfl ?_
    refine C_seq ?_
    refine C_reg ?_
    refine li rfl (D_bs0 (α := Int) s_27 rfl rfl rfl fun v15 => ?_)
    refine p1 rfl ?_
    refine D_end ?_
    refine x_then ?_
    refine D_H (ov [v15] ([] : (List Int)) :: ov [v14] (idxs isPremise y3.Reasons : (List Int)) :: ov [v13] ([(y3.Nodes - 1)] : (List Int)) :: ov [v10] (y8 : (List Int)) :: cu g_c v_c code.length :: bx g7 [(.int .i64 y3.Nodes), v5] :: ov [(.int .i64 y3.Nodes), v5] (y3 : Beliefs) :: bx g2 [(.int .i64 0), (.slice none 0 0)] :: Hs) rfl ?_
    refine C_seq ?_
    refine C_seq ?_
    refine C_reg ?_
    refine p1 rfl ?_
    refine D_end ?_
    refine x_then ?_
    refine C_block ?_
    refine C_loop (fun m_ ac w' => ∃ (k : Nat), ∃ (l : List Int), ∃ (v : Value), (k ≤ (idxs isPremise y3.Reasons).length) ∧ (l.length ≤ 6) ∧ (List.Sublist l ((idxs isPremise y3.Reasons).take k)) ∧ m_ = (idxs isPremise y3.Reasons).length - k ∧ Fits ac 50 [(0, (.pointer (some ⟨g_c, 0, none⟩))), (2, (.pointer (some ⟨g2, 0, none⟩))), (5, (.pointer (some ⟨g7, 0, none⟩))), (6, v13), (7, v14), (8, v), (9, (.int .i64 ((k : Nat) : Int)))] ∧ St w0 (ov [v] (l : (List Int)) :: ov [v14] (idxs isPremise y3.Reasons : (List Int)) :: ov [v13] ([(y3.Nodes - 1)] : (List Int)) :: ov [v10] (y8 : (List Int)) :: cu g_c v_c code.length :: bx g7 [(.int .i64 y3.Nodes), v5] :: ov [(.int .i64 y3.Nodes), v5] (y3 : Beliefs) :: bx g2 [(.int .i64 0), (.slice none 0 0)] :: Hs) w') ?_ ?_
    · refine D_eq 0 rfl (show ([] : (List Int)) = ([]) from by first | rfl | simp | (simp; omega)) ?_
      refine fun ac w' hf hs => ⟨_, 0, [], v15, ?_, ?_, ?_, rfl, hf.weak ⟨rfl, rfl, rfl, rfl, rfl, rfl, rfl, trivial⟩, hs⟩
      · first | assumption | omega | simp
      · simp
      · exact List.nil_sublist _
    · rintro m_ ac w' ⟨k, l, v, hk, hl6, hsub, rfl, hf, hs⟩
      refine D.use ?_ hf hs
      clear hf hs ac w'
      refine C_seq ?_
      refine C_seq ?_
      refine C_reg ?_
      refine p1 rfl <| p1 rfl ?_
      refine q1 rfl (D_leno 1 s_27 rfl rfl rfl) ?_
      refine p1 rfl <| p1 rfl ?_
      refine gs 30 rfl rfl (fun h16 => ?_) (fun h16 => ?_)
      · have pr16 : (((k : Nat) : Int) : Int) < (((idxs isPremise y3.Reasons).length : Nat) : Int) := of_decide_eq_true h16
        refine p1 rfl ?_
        refine q1 rfl (D_leno 0 s_27 rfl rfl rfl) ?_
        refine p1 rfl <| p1 rfl ?_
        refine D_end ?_
        refine x_then ?_
        refine D_H (ov [v] (l : (List Int)) :: ov [v14] (idxs isPremise y3.Reasons : (List Int)) :: ov [v13] ([(y3.Nodes - 1)] : (List Int)) :: ov [v10] (y8 : (List Int)) :: cu g_c v_c code.length :: bx g7 [(.int .i64 y3.Nodes), v5] :: ov [(.int .i64 y3.Nodes), v5] (y3 : Beliefs) :: bx g2 [(.int .i64 0), (.slice none 0 0)] :: Hs) rfl ?_
        refine C_if _ rfl (fun h17 => ?_) (fun h17 => ?_)
        · have pr17 : (((l.length : Nat) : Int) : Int) < 6 := of_decide_eq_true h17
          refine C_skip ?_
          refine x_then ?_
          refine C_seq ?_
          refine C_block ?_
          refine C_seq ?_
          refine C_reg ?_
          refine p1 rfl ?_
          refine D_fd [4] 0 rfl ?_
          refine li rfl (ccB b_42 rfl rfl rfl rfl (fun w' hs => spec_l1Once _ _ w' g_c v_c code 4 h_c hs) fun y18 => ?_)
          refine p1 rfl ?_
          refine D_end ?_
          refine x_then ?_
          refine D_H (cu g_c v_c code.length :: ov [v] (l : (List Int)) :: ov [v14] (idxs isPremise y3.Reasons : (List Int)) :: ov [v13] ([(y3.Nodes - 1)] : (List Int)) :: ov [v10] (y8 : (List Int)) :: bx g7 [(.int .i64 y3.Nodes), v5] :: ov [(.int .i64 y3.Nodes), v5] (y3 : Beliefs) :: bx g2 [(.int .i64 0), (.slice none 0 0)] :: Hs) rfl ?_
          refine C_if _ rfl (fun h19 => ?_) (fun h19 => ?_)
          · have h19n : y18 = false := not_t h19
            refine C_reg ?_
            refine p1 rfl <| p1 rfl <| p1 rfl ?_
            obtain ⟨pe, hpe⟩ := some_of_lt (l := (idxs isPremise y3.Reasons)) (i := k) (by omega)
            refine q1 rfl (D_ix (l := (idxs isPremise y3.Reasons)) (j := k) s_27 rfl rfl rfl (fun w' hs => (rd_own (k := 2) hs rfl)) rfl (lt_of_some hpe)) ?_
            refine q1 rfl (lo (α := Int) 2 o_3 rfl rfl rfl hpe) ?_
            refine li rfl (D_bs s_27 y_3 rfl (by decide) (by decide) rfl rfl rfl rfl rfl rfl fun g20 => ?_)
            refine D_fi pe ?_
            refine D_fd [1, 1, 3] 0 rfl ?_
            refine li rfl (D_ap s_27 y_3 rfl (by decide) rfl rfl rfl rfl rfl rfl (by first | omega | (simp; omega)) (by first | omega | (simp; omega)) fun v21 => ?_)
            refine p1 rfl ?_
            refine D_end ?_
            refine x_blk ?_
            refine x_then ?_
            refine D_weak [(0, (.pointer (some ⟨g_c, 0, none⟩))), (2, (.pointer (some ⟨g2, 0, none⟩))), (5, (.pointer (some ⟨g7, 0, none⟩))), (6, v13), (7, v14), (8, v21), (9, (.int .i64 ((k : Nat) : Int)))] ⟨rfl, rfl, rfl, rfl, rfl, rfl, rfl, trivial⟩ ?_
            refine D_H (ov [v21] (l ++ [pe] : (List Int)) :: cu g_c v_c code.length :: ov [v14] (idxs isPremise y3.Reasons : (List Int)) :: ov [v13] ([(y3.Nodes - 1)] : (List Int)) :: ov [v10] (y8 : (List Int)) :: bx g7 [(.int .i64 y3.Nodes), v5] :: ov [(.int .i64 y3.Nodes), v5] (y3 : Beliefs) :: bx g2 [(.int .i64 0), (.slice none 0 0)] :: Hs) rfl ?_
            refine C_reg ?_
            refine p1 rfl ?_
            refine q1 rfl (D_add rfl rfl rfl (r := ((k + 1 : Nat) : Int)) (by omega) (by omega)) ?_
            refine p1 rfl ?_
            refine D_end ?_
            refine x_then ?_
            refine D_eq 0 rfl (show (l ++ [pe] : (List Int)) = (l ++ [pe]) from by first | rfl | simp | (simp; omega)) ?_
            refine fun ac w' hf hs => ⟨_, ?_, k + 1, l ++ [pe], v21, ?_, ?_, ?_, rfl, hf.weak ⟨rfl, rfl, rfl, rfl, rfl, rfl, rfl, trivial⟩, hs.fd [7, 7, 7, 4, 7, 7, 7, 7] 0 rfl⟩
            · omega
            · first | assumption | omega | simp
            · first | (simp; omega) | omega
            · first | exact sub_yes hsub hpe | exact sub_no hsub
          · have h19n : y18 = true := not_f h19
            refine C_skip ?_
            refine x_blk ?_
            refine x_then ?_
            refine C_reg ?_
            refine p1 rfl ?_
            refine q1 rfl (D_add rfl rfl rfl (r := ((k + 1 : Nat) : Int)) (by omega) (by omega)) ?_
            refine p1 rfl ?_
            refine D_end ?_
            refine x_then ?_
            refine fun ac w' hf hs => ⟨_, ?_, k + 1, l, v, ?_, ?_, ?_, rfl, hf.weak ⟨rfl, rfl, rfl, rfl, rfl, rfl, rfl, trivial⟩, hs.fd [7, 7, 7, 3, 7, 7, 7, 7] 0 rfl⟩
            · omega
            · first | assumption | omega | simp
            · first | (simp; omega) | omega
            · first | exact sub_yes hsub hpe | exact sub_no hsub
        · have pr17 : ¬ (((l.length : Nat) : Int) : Int) < 6 := of_decide_eq_false h17
          refine C_exit ?_
          refine x_then_exit ?_
          refine x_then_exit ?_
          refine x_blk_eq ?_
          refine x_then ?_
          refine C_seq ?_
          refine C_reg ?_
          refine q1 rfl (lbw 5 a_26 rfl rfl rfl) ?_
          refine p1 rfl <| p1 rfl ?_
          refine li rfl (D_stb (vs := [(.int .i64 y3.Nodes), v5]) (cs' := [(.int .i64 y3.Nodes), v5]) 7 z_26 rfl rfl rfl rfl rfl rfl (ocons rfl (ocons ho6 onil)) (by simp) rfl ?_)
          refine p1 rfl <| p1 rfl ?_
          refine D_end ?_
          refine x_then ?_
          refine D_weak [(2, (.pointer (some ⟨g2, 0, none⟩))), (3, v13), (4, v)] ⟨rfl, rfl, rfl, trivial⟩ ?_
          refine D_H (ov [v] (l : (List Int)) :: ov [v14] (idxs isPremise y3.Reasons : (List Int)) :: ov [v13] ([(y3.Nodes - 1)] : (List Int)) :: ov [v10] (y8 : (List Int)) :: cu g_c v_c code.length :: bx g7 [(.int .i64 y3.Nodes), v5] :: ov [(.int .i64 y3.Nodes), v5] (y3 : Beliefs) :: bx g2 [(.int .i64 y3.Nodes), v5] :: Hs) rfl ?_
          refine C_ret ?_
          refine R_3g rfl (rvc (cs := [(.int .i64 y3.Nodes), v5]) 7 a_26 rfl rfl) (rvt rfl) (rvt rfl) fun w' hs => ⟨y3, ([(y3.Nodes - 1)]), l, [(.int .i64 y3.Nodes), v5], [v13], [v], ?_, rfl, hs.fd [4, 1, 3, 6, 7, 7, 7, 7] 4 rfl⟩
          exact ⟨dc_case hy3.1 (by first | assumption | exact asc_one (by omega) | exact hy8.1) hsub (by omega), hy3.2, by omega⟩
      · have pr16 : ¬ (((k : Nat) : Int) : Int) < (((idxs isPremise y3.Reasons).length : Nat) : Int) := of_decide_eq_false h16
        refine n1 rfl ?_
        refine n1 rfl ?_
        refine n1 rfl ?_
        refine p1 rfl ?_
        refine D_end ?_
        refine x_then ?_
        refine D_H (ov [v] (l : (List Int)) :: ov [v14] (idxs isPremise y3.Reasons : (List Int)) :: ov [v13] ([(y3.Nodes - 1)] : (List Int)) :: ov [v10] (y8 : (List Int)) :: cu g_c v_c code.length :: bx g7 [(.int .i64 y3.Nodes), v5] :: ov [(.int .i64 y3.Nodes), v5] (y3 : Beliefs) :: bx g2 [(.int .i64 0), (.slice none 0 0)] :: Hs) rfl ?_
        refine C_f rfl ?_
        refine C_exit ?_
        refine x_then_exit ?_
        refine x_then_exit ?_
        refine x_blk_eq ?_
        refine x_then ?_
        refine C_seq ?_
        refine C_reg ?_
        refine q1 rfl (lbw 5 a_26 rfl rfl rfl) ?_
        refine p1 rfl <| p1 rfl ?_
        refine li rfl (D_stb (vs := [(.int .i64 y3.Nodes), v5]) (cs' := [(.int .i64 y3.Nodes), v5]) 7 z_26 rfl rfl rfl rfl rfl rfl (ocons rfl (ocons ho6 onil)) (by simp) rfl ?_)
        refine p1 rfl <| p1 rfl ?_
        refine D_end ?_
        refine x_then ?_
        refine D_weak [(2, (.pointer (some ⟨g2, 0, none⟩))), (3, v13), (4, v)] ⟨rfl, rfl, rfl, trivial⟩ ?_
        refine D_H (ov [v] (l : (List Int)) :: ov [v14] (idxs isPremise y3.Reasons : (List Int)) :: ov [v13] ([(y3.Nodes - 1)] : (List Int)) :: ov [v10] (y8 : (List Int)) :: cu g_c v_c code.length :: bx g7 [(.int .i64 y3.Nodes), v5] :: ov [(.int .i64 y3.Nodes), v5] (y3 : Beliefs) :: bx g2 [(.int .i64 y3.Nodes), v5] :: Hs) rfl ?_
        refine C_ret ?_
        refine R_3g rfl (rvc (cs := [(.int .i64 y3.Nodes), v5]) 7 a_26 rfl rfl) (rvt rfl) (rvt rfl) fun w' hs => ⟨y3, ([(y3.Nodes - 1)]), l, [(.int .i64 y3.Nodes), v5], [v13], [v], ?_, rfl, hs.fd [4, 1, 3, 6, 7, 7, 7, 7] 4 rfl⟩
        exact ⟨dc_case hy3.1 (by first | assumption | exact asc_one (by omega) | exact hy8.1) hsub (by omega), hy3.2, by omega⟩
  · have pr11 : (((y8.length : Nat) : Int) : Int) ≠ 0 := ne_of_beq_false h11
    refine C_skip ?_
    refine x_then ?_
    refine C_seq ?_
    refine C_reg ?_
    refine q1 rfl (lbw 2 a_26 rfl rfl rfl) ?_
    refine li rfl (crl b_41 rfl rfl rfl rfl (fun w' hs => (spec_PremisesOf w' [(.int .i64 y3.Nodes), v5] y3 (rd_own (k := 3) hs rfl) (by first | assumption | omega | (unfold szm at *; split at * <;> omega)))) fun v22 => ?_)
    refine p1 rfl ?_
    refine D_end ?_
    refine x_then ?_
    refine D_H (ov [v22] (idxs isPremise y3.Reasons : (List Int)) :: ov [v10] (y8 : (List Int)) :: cu g_c v_c code.length :: bx g7 [(.int .i64 y3.Nodes), v5] :: ov [(.int .i64 y3.Nodes), v5] (y3 : Beliefs) :: bx g2 [(.int .i64 0), (.slice none 0 0)] :: Hs) rfl ?_
    refine C_seq ?_
    refine C_reg ?_
    refine li rfl (D_bs0 (α := Int) s_27 rfl rfl rfl fun v23 => ?_)
    refine p1 rfl ?_
    refine D_end ?_
    refine x_then ?_
    refine D_H (ov [v23] ([] : (List Int)) :: ov [v22] (idxs isPremise y3.Reasons : (List Int)) :: ov [v10] (y8 : (List Int)) :: cu g_c v_c code.length :: bx g7 [(.int .i64 y3.Nodes), v5] :: ov [(.int .i64 y3.Nodes), v5] (y3 : Beliefs) :: bx g2 [(.int .i64 0), (.slice none 0 0)] :: Hs) rfl ?_
    refine C_seq ?_
    refine C_seq ?_
    refine C_reg ?_
    refine p1 rfl ?_
    refine D_end ?_
    refine x_then ?_
    refine C_block ?_
    refine C_loop (fun m_ ac w' => ∃ (k : Nat), ∃ (l : List Int), ∃ (v : Value), (k ≤ (idxs isPremise y3.Reasons).length) ∧ (l.length ≤ 6) ∧ (List.Sublist l ((idxs isPremise y3.Reasons).take k)) ∧ m_ = (idxs isPremise y3.Reasons).length - k ∧ Fits ac 50 [(0, (.pointer (some ⟨g_c, 0, none⟩))), (2, (.pointer (some ⟨g2, 0, none⟩))), (5, (.pointer (some ⟨g7, 0, none⟩))), (6, v10), (7, v22), (8, v), (9, (.int .i64 ((k : Nat) : Int)))] ∧ St w0 (ov [v] (l : (List Int)) :: ov [v22] (idxs isPremise y3.Reasons : (List Int)) :: ov [v10] (y8 : (List Int)) :: cu g_c v_c code.length :: bx g7 [(.int .i64 y3.Nodes), v5] :: ov [(.int .i64 y3.Nodes), v5] (y3 : Beliefs) :: bx g2 [(.int .i64 0), (.slice none 0 0)] :: Hs) w') ?_ ?_
    · refine D_eq 0 rfl (show ([] : (List Int)) = ([]) from by first | rfl | simp | (simp; omega)) ?_
      refine fun ac w' hf hs => ⟨_, 0, [], v23, ?_, ?_, ?_, rfl, hf.weak ⟨rfl, rfl, rfl, rfl, rfl, rfl, rfl, trivial⟩, hs⟩
      · first | assumption | omega | simp
      · simp
      · exact List.nil_sublist _
    · rintro m_ ac w' ⟨k, l, v, hk, hl6, hsub, rfl, hf, hs⟩
      refine D.use ?_ hf hs
      clear hf hs ac w'
      refine C_seq ?_
      refine C_seq ?_
      refine C_reg ?_
      refine p1 rfl <| p1 rfl ?_
      refine q1 rfl (D_leno 1 s_27 rfl rfl rfl) ?_
      refine p1 rfl <| p1 rfl ?_
      refine gs 30 rfl rfl (fun h24 => ?_) (fun h24 => ?_)
      · have pr24 : (((k : Nat) : Int) : Int) < (((idxs isPremise y3.Reasons).length : Nat) : Int) := of_decide_eq_true h24
        refine p1 rfl ?_
        refine q1 rfl (D_leno 0 s_27 rfl rfl rfl) ?_
        refine p1 rfl <| p1 rfl ?_
        refine D_end ?_
        refine x_then ?_
        refine D_H (ov [v] (l : (List Int)) :: ov [v22] (idxs isPremise y3.Reasons : (List Int)) :: ov [v10] (y8 : (List Int)) :: cu g_c v_c code.length :: bx g7 [(.int .i64 y3.Nodes), v5] :: ov [(.int .i64 y3.Nodes), v5] (y3 : Beliefs) :: bx g2 [(.int .i64 0), (.slice none 0 0)] :: Hs) rfl ?_
        refine C_if _ rfl (fun h25 => ?_) (fun h25 => ?_)
        · have pr25 : (((l.length : Nat) : Int) : Int) < 6 := of_decide_eq_true h25
          refine C_skip ?_
          refine x_then ?_
          refine C_seq ?_
          refine C_block ?_
          refine C_seq ?_
          refine C_reg ?_
          refine p1 rfl ?_
          refine D_fd [3] 0 rfl ?_
          refine li rfl (ccB b_42 rfl rfl rfl rfl (fun w' hs => spec_l1Once _ _ w' g_c v_c code 4 h_c hs) fun y26 => ?_)
          refine p1 rfl ?_
          refine D_end ?_
          refine x_then ?_
          refine D_H (cu g_c v_c code.length :: ov [v] (l : (List Int)) :: ov [v22] (idxs isPremise y3.Reasons : (List Int)) :: ov [v10] (y8 : (List Int)) :: bx g7 [(.int .i64 y3.Nodes), v5] :: ov [(.int .i64 y3.Nodes), v5] (y3 : Beliefs) :: bx g2 [(.int .i64 0), (.slice none 0 0)] :: Hs) rfl ?_
          refine C_if _ rfl (fun h27 => ?_) (fun h27 => ?_)
          · have h27n : y26 = false := not_t h27
            refine C_reg ?_
            refine p1 rfl <| p1 rfl <| p1 rfl ?_
            obtain ⟨pe, hpe⟩ := some_of_lt (l := (idxs isPremise y3.Reasons)) (i := k) (by omega)
            refine q1 rfl (D_ix (l := (idxs isPremise y3.Reasons)) (j := k) s_27 rfl rfl rfl (fun w' hs => (rd_own (k := 2) hs rfl)) rfl (lt_of_some hpe)) ?_
            refine q1 rfl (lo (α := Int) 2 o_3 rfl rfl rfl hpe) ?_
            refine li rfl (D_bs s_27 y_3 rfl (by decide) (by decide) rfl rfl rfl rfl rfl rfl fun g28 => ?_)
            refine D_fi pe ?_
            refine D_fd [1, 1, 3] 0 rfl ?_
            refine li rfl (D_ap s_27 y_3 rfl (by decide) rfl rfl rfl rfl rfl rfl (by first | omega | (simp; omega)) (by first | omega | (simp; omega)) fun v29 => ?_)
            refine p1 rfl ?_
            refine D_end ?_
            refine x_blk ?_
            refine x_then ?_
            refine D_weak [(0, (.pointer (some ⟨g_c, 0, none⟩))), (2, (.pointer (some ⟨g2, 0, none⟩))), (5, (.pointer (some ⟨g7, 0, none⟩))), (6, v10), (7, v22), (8, v29), (9, (.int .i64 ((k : Nat) : Int)))] ⟨rfl, rfl, rfl, rfl, rfl, rfl, rfl, trivial⟩ ?_
            refine D_H (ov [v29] (l ++ [pe] : (List Int)) :: cu g_c v_c code.length :: ov [v22] (idxs isPremise y3.Reasons : (List Int)) :: ov [v10] (y8 : (List Int)) :: bx g7 [(.int .i64 y3.Nodes), v5] :: ov [(.int .i64 y3.Nodes), v5] (y3 : Beliefs) :: bx g2 [(.int .i64 0), (.slice none 0 0)] :: Hs) rfl ?_
            refine C_reg ?_
            refine p1 rfl ?_
            refine q1 rfl (D_add rfl rfl rfl (r := ((k + 1 : Nat) : Int)) (by omega) (by omega)) ?_
            refine p1 rfl ?_
            refine D_end ?_
            refine x_then ?_
            refine D_eq 0 rfl (show (l ++ [pe] : (List Int)) = (l ++ [pe]) from by first | rfl | simp | (simp; omega)) ?_
            refine fun ac w' hf hs => ⟨_, ?_, k + 1, l ++ [pe], v29, ?_, ?_, ?_, rfl, hf.weak ⟨rfl, rfl, rfl, rfl, rfl, rfl, rfl, trivial⟩, hs.fd [6, 6, 6, 4, 6, 6, 6] 0 rfl⟩
            · omega
            · first | assumption | omega | simp
            · first | (simp; omega) | omega
            · first | exact sub_yes hsub hpe | exact sub_no hsub
          · have h27n : y26 = true := not_f h27
            refine C_skip ?_
            refine x_blk ?_
            refine x_then ?_
            refine C_reg ?_
            refine p1 rfl ?_
            refine q1 rfl (D_add rfl rfl rfl (r := ((k + 1 : Nat) : Int)) (by omega) (by omega)) ?_
            refine p1 rfl ?_
            refine D_end ?_
            refine x_then ?_
            refine fun ac w' hf hs => ⟨_, ?_, k + 1, l, v, ?_, ?_, ?_, rfl, hf.weak ⟨rfl, rfl, rfl, rfl, rfl, rfl, rfl, trivial⟩, hs.fd [6, 6, 6, 3, 6, 6, 6] 0 rfl⟩
            · omega
            · first | assumption | omega | simp
            · first | (simp; omega) | omega
            · first | exact sub_yes hsub hpe | exact sub_no hsub
        · have pr25 : ¬ (((l.length : Nat) : Int) : Int) < 6 := of_decide_eq_false h25
          refine C_exit ?_
          refine x_then_exit ?_
          refine x_then_exit ?_
          refine x_blk_eq ?_
          refine x_then ?_
          refine C_seq ?_
          refine C_reg ?_
          refine q1 rfl (lbw 4 a_26 rfl rfl rfl) ?_
          refine p1 rfl <| p1 rfl ?_
          refine li rfl (D_stb (vs := [(.int .i64 y3.Nodes), v5]) (cs' := [(.int .i64 y3.Nodes), v5]) 6 z_26 rfl rfl rfl rfl rfl rfl (ocons rfl (ocons ho6 onil)) (by simp) rfl ?_)
          refine p1 rfl <| p1 rfl ?_
          refine D_end ?_
          refine x_then ?_
          refine D_weak [(2, (.pointer (some ⟨g2, 0, none⟩))), (3, v10), (4, v)] ⟨rfl, rfl, rfl, trivial⟩ ?_
          refine D_H (ov [v] (l : (List Int)) :: ov [v22] (idxs isPremise y3.Reasons : (List Int)) :: ov [v10] (y8 : (List Int)) :: cu g_c v_c code.length :: bx g7 [(.int .i64 y3.Nodes), v5] :: ov [(.int .i64 y3.Nodes), v5] (y3 : Beliefs) :: bx g2 [(.int .i64 y3.Nodes), v5] :: Hs) rfl ?_
          refine C_ret ?_
          refine R_3g rfl (rvc (cs := [(.int .i64 y3.Nodes), v5]) 6 a_26 rfl rfl) (rvt rfl) (rvt rfl) fun w' hs => ⟨y3, y8, l, [(.int .i64 y3.Nodes), v5], [v10], [v], ?_, rfl, hs.fd [3, 1, 3, 5, 6, 6, 6] 3 rfl⟩
          exact ⟨dc_case hy3.1 (by first | assumption | exact asc_one (by omega) | exact hy8.1) hsub (by omega), hy3.2, by omega⟩
      · have pr24 : ¬ (((k : Nat) : Int) : Int) < (((idxs isPremise y3.Reasons).length : Nat) : Int) := of_decide_eq_false h24
        refine n1 rfl ?_
        refine n1 rfl ?_
        refine n1 rfl ?_
        refine p1 rfl ?_
        refine D_end ?_
        refine x_then ?_
        refine D_H (ov [v] (l : (List Int)) :: ov [v22] (idxs isPremise y3.Reasons : (List Int)) :: ov [v10] (y8 : (List Int)) :: cu g_c v_c code.length :: bx g7 [(.int .i64 y3.Nodes), v5] :: ov [(.int .i64 y3.Nodes), v5] (y3 : Beliefs) :: bx g2 [(.int .i64 0), (.slice none 0 0)] :: Hs) rfl ?_
        refine C_f rfl ?_
        refine C_exit ?_
        refine x_then_exit ?_
        refine x_then_exit ?_
        refine x_blk_eq ?_
        refine x_then ?_
        refine C_seq ?_
        refine C_reg ?_
        refine q1 rfl (lbw 4 a_26 rfl rfl rfl) ?_
        refine p1 rfl <| p1 rfl ?_
        refine li rfl (D_stb (vs := [(.int .i64 y3.Nodes), v5]) (cs' := [(.int .i64 y3.Nodes), v5]) 6 z_26 rfl rfl rfl rfl rfl rfl (ocons rfl (ocons ho6 onil)) (by simp) rfl ?_)
        refine p1 rfl <| p1 rfl ?_
        refine D_end ?_
        refine x_then ?_
        refine D_weak [(2, (.pointer (some ⟨g2, 0, none⟩))), (3, v10), (4, v)] ⟨rfl, rfl, rfl, trivial⟩ ?_
        refine D_H (ov [v] (l : (List Int)) :: ov [v22] (idxs isPremise y3.Reasons : (List Int)) :: ov [v10] (y8 : (List Int)) :: cu g_c v_c code.length :: bx g7 [(.int .i64 y3.Nodes), v5] :: ov [(.int .i64 y3.Nodes), v5] (y3 : Beliefs) :: bx g2 [(.int .i64 y3.Nodes), v5] :: Hs) rfl ?_
        refine C_ret ?_
        refine R_3g rfl (rvc (cs := [(.int .i64 y3.Nodes), v5]) 6 a_26 rfl rfl) (rvt rfl) (rvt rfl) fun w' hs => ⟨y3, y8, l, [(.int .i64 y3.Nodes), v5], [v10], [v], ?_, rfl, hs.fd [3, 1, 3, 5, 6, 6, 6] 3 rfl⟩
        exact ⟨dc_case hy3.1 (by first | assumption | exact asc_one (by omega) | exact hy8.1) hsub (by omega), hy3.2, by omega⟩

theorem spec_DrawGoodCase (w : World) (v_code : Value) (code : (List UInt8)) (h_code : Gd.rd w [v_code] code) : Calls Try.prog 7 [v_code].toArray w (fun e w' => ∃ (ya : Beliefs) (yb : List Int) (yc : List Int), (isCase ya yb yc = true ∧ drawn ya 6 true ∧ yc.length ≤ 6) ∧ Rd3 w ya yb yc e w') := by
  have hm1 := rd_max h_code
  refine enter 11 Try.func7 rfl rfl rfl ?_
  refine C_seq ?_
  refine C_reg ?_
  refine li rfl (D_alloc y_26 rfl rfl rfl rfl fun g2 => ?_)
  refine p1 rfl <| p1 rfl ?_
  refine D_end ?_
  refine x_then ?_
  refine D_H ([bx g2 [(.int .i64 0), (.slice none 0 0)]]) rfl ?_
  refine C_seq ?_
  refine C_reg ?_
  refine p1 rfl ?_
  refine li rfl (ccN b_22 rfl rfl rfl rfl (fun w' hs => (spec_l1New w' v_code code (rd_at hs h_code))) fun g3 => ?_)
  refine li rfl (ccR3 (α := Beliefs) (β := List Int) (γ := List Int) b_21 rfl rfl rfl rfl (fun w' hs => spec_l12Draw _ _ w' g3 v_code code h_code hs) fun y4 y5 y6 cs7 cs8 cs9 hy4 => ?_)
  have hy4l := hy4.1
  have hy4r := hy4.2
  refine D_pre (fun w' hs => shape_Beliefs (rd_own (k := 0) hs rfl)) ?_
  rintro ⟨v10, rfl, ho11⟩
  refine D_pre (fun w' hs => rd_cell (rd_own (k := 1) hs rfl)) ?_
  rintro ⟨v12, rfl⟩
  refine D_pre (fun w' hs => rd_cell (rd_own (k := 2) hs rfl)) ?_
  rintro ⟨v13, rfl⟩
  refine D_re 7 (v' := (.tuple #[(.agg #[(.int .i64 y4.Nodes), v10]), v12, v13])) rfl rfl rfl ?_
  refine p1 rfl <| p1 rfl <| p1 rfl ?_
  refine li rfl (D_stb (vs := [(.int .i64 y4.Nodes), v10]) (cs' := [(.int .i64 y4.Nodes), v10]) 4 z_26 rfl rfl rfl rfl rfl rfl (ocons rfl (ocons ho11 onil)) (by simp) rfl ?_)
  refine p1 rfl <| p1 rfl ?_
  refine D_end ?_
  refine x_then ?_
  refine D_H ([ov [(.int .i64 y4.Nodes), v10] (y4 : Beliefs), ov [v12] (y5 : (List Int)), ov [v13] (y6 : (List Int)), cu g3 v_code code.length, bx g2 [(.int .i64 y4.Nodes), v10]]) rfl ?_
  refine C_ret ?_
  refine R_3g rfl (rvc (cs := [(.int .i64 y4.Nodes), v10]) 4 a_26 rfl rfl) (rvt rfl) (rvt rfl) fun w' hs => ⟨y4, y5, y6, ?_, [(.int .i64 y4.Nodes), v10], [v12], [v13], rfl, (rd_own (k := 0) hs rfl), (rd_own (k := 1) hs rfl), (rd_own (k := 2) hs rfl), hs.bel⟩
  exact hy4
end Go.Sy.Cur3
