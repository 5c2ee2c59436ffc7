/-
  Contracts of functions of the program, walked (printed by a program of ours).
  Conditions: those that each theorem states.
-/
import Derived.Test.YtmfpedmchhfpfaaCur1
import Derived.Test.YtmfpedmchhfpfaaLw3
import Derived.Test.YtmfpedmchhfpfaaSlc
set_option linter.unusedVariables false
set_option maxRecDepth 20000
namespace Go.Sy.Cur2
open Go Go.RowKit Go.Proofs Go.Sy
theorem mixed : Try.prog.follows .mixedOrders = true := by kernel_rfl
theorem s_28 : sliceTy Try.prog 28 = some (3, 1, 8) := by kernel_rfl
theorem b_43 : hasBody Try.prog 43 = true := by kernel_rfl
theorem o_3 : oneTy Try.prog 3 = true := by kernel_rfl
theorem y_26 : zeroTy Try.prog 26 = some (.agg #[(.int .i64 0), (.slice none 0 0)]) := by kernel_rfl
theorem b_47 : hasBody Try.prog 47 = true := by kernel_rfl
theorem z_26 : sizeTy Try.prog 26 = some 2 := by kernel_rfl
theorem y_3 : zeroTy Try.prog 3 = some (.int .i64 0) := by kernel_rfl
theorem b_54 : hasBody Try.prog 54 = true := by kernel_rfl
theorem f_26_0 : fieldOff Try.prog 26 0 = some 0 := by kernel_rfl
theorem z_3 : sizeTy Try.prog 3 = some 1 := by kernel_rfl
theorem a_26 : aggTy Try.prog 26 = some 2 := by kernel_rfl
theorem f_26_1 : fieldOff Try.prog 26 1 = some 1 := by kernel_rfl
theorem o_24 : oneTy Try.prog 24 = true := by kernel_rfl
theorem pl_31 : placeTy Try.prog 31 = some ([(0, 1), (1, 1), (2, 1)], [(.int .i64 0), (.slice none 0 0), (.slice none 0 0)]) := by kernel_rfl
theorem s_24 : sliceTy Try.prog 24 = some (31, 3, 56) := by kernel_rfl
theorem y_31 : zeroTy Try.prog 31 = some (.agg #[(.int .i64 0), (.slice none 0 0), (.slice none 0 0)]) := by kernel_rfl
theorem z_24 : sizeTy Try.prog 24 = some 1 := by kernel_rfl
theorem b_29 : hasBody Try.prog 29 = true := by kernel_rfl
theorem b_42 : hasBody Try.prog 42 = true := by kernel_rfl
theorem b_46 : hasBody Try.prog 46 = true := by kernel_rfl
open Go.Sy.Bel1 Go.Sy.Bel4 Go.Sy.Bel5 Go.Sy.Bel6 Go.Sy.Bel7 Go.Sy.Bel8 Go.Sy.Bel9 Go.Sy.Bela Go.Sy.Belc Go.Sy.Beld Go.Sy.Cur1
theorem spec_l1Int (w0 : World) (Hs : List Chunk) (w : World) (g_c : Nat) (v_c : Value) (code : List UInt8) (v_list : Value) (list : (List Int)) (h_c : Gd.rd w0 [v_c] code) (h_list : ∀ w', St w0 (cu g_c v_c code.length :: Hs) w' → Gd.rd w' [v_list] list) (hp : 0 < list.length) (hst : St w0 (cu g_c v_c code.length :: Hs) w) : Calls Try.prog 54 [(.pointer (some ⟨g_c, 0, none⟩)), v_list].toArray w (fun e w' => ∃ y : Int, (y ∈ list) ∧ e = .returned (.int .i64 y) ∧ St w0 (cu g_c v_c code.length :: Hs) w') := by
  have hm1 := rd_max h_c
  have hm2 := rd_max (h_list w hst)
  refine enterS 12 Try.func54 rfl rfl rfl hst ?_
  refine C_seq ?_
  refine C_reg ?_
  refine p1 rfl ?_
  refine D_end ?_
  refine x_then ?_
  refine D_H (cu g_c v_c code.length :: Hs) rfl ?_
  refine C_seq ?_
  refine C_reg ?_
  refine p1 rfl <| p1 rfl <| p1 rfl ?_
  refine q1 rfl (D_lenr s_28 rfl rfl (fun w' hs => (h_list w' hs))) ?_
  refine li rfl (ccI b_43 rfl rfl rfl rfl (fun w' hs => spec_l1Below _ _ w' g_c v_c code ((list.length : Nat) : Int) h_c hs) fun y3 hy3 => ?_)
  have hy3l := hy3.1
  have hy3r := hy3.2
  obtain ⟨e0, he0⟩ := some_of_lt (l := list) (i := (y3.toNat)) (by omega)
  refine q1 rfl (D_ix (l := list) (j := (y3.toNat)) s_28 rfl rfl rfl (fun w' hs => (h_list w' hs)) (Int.toNat_of_nonneg (by omega)).symm (lt_of_some he0)) ?_
  refine q1 rfl (lrd (α := Int) o_3 rfl rfl (fun w' hs => (h_list w' hs)) he0) ?_
  refine p1 rfl ?_
  refine D_end ?_
  refine x_then ?_
  refine C_ret ?_
  refine R_1 rfl rfl fun w' hs => ⟨e0, ?_, rfl, hs⟩
  exact List.mem_of_getElem? he0

theorem spec_l11Any (w0 : World) (Hs : List Chunk) (w : World) (g_c : Nat) (v_c : Value) (code : List UInt8) (h_c : Gd.rd w0 [v_c] code) (hst : St w0 (cu g_c v_c code.length :: Hs) w) : Calls Try.prog 42 [(.pointer (some ⟨g_c, 0, none⟩))].toArray w (fun e w' => ∃ (y : Beliefs) (cs : List Value), (szB y ≤ 2000) ∧ e = .returned (Gd.vl (Beliefs) cs) ∧ St w0 (ov cs y :: cu g_c v_c code.length :: Hs) w') := by
  have hm1 := rd_max h_c
  refine enterS 52 Try.func42 rfl rfl rfl hst ?_
  refine C_seq ?_
  refine C_reg ?_
  refine li rfl (D_alloc y_26 rfl rfl rfl rfl fun g2 => ?_)
  refine D_end ?_
  refine x_then ?_
  refine D_H (bx g2 [(.int .i64 0), (.slice none 0 0)] :: cu g_c v_c code.length :: Hs) rfl ?_
  refine C_seq ?_
  refine C_reg ?_
  refine p1 rfl ?_
  refine D_fd [1] 0 rfl ?_
  refine li rfl (ccR (α := Beliefs) b_47 rfl rfl rfl rfl (fun w' hs => spec_l11Draw _ _ w' g_c v_c code 6 true h_c (by first | assumption | omega) (by first | assumption | omega) hs) fun y3 cs4 hy3 => ?_)
  refine D_pre (fun w' hs => shape_Beliefs (rd_own (k := 0) hs rfl)) ?_
  rintro ⟨v5, rfl, ho6⟩
  refine D_re 6 (v' := (.agg #[(.int .i64 y3.Nodes), v5])) rfl rfl rfl ?_
  refine li rfl (D_alloc y_26 rfl rfl rfl rfl fun g7 => ?_)
  refine li rfl (D_stb (vs := [(.int .i64 y3.Nodes), v5]) (cs' := [(.int .i64 y3.Nodes), v5]) 0 z_26 rfl rfl rfl rfl rfl rfl (ocons rfl (ocons ho6 onil)) (by simp) rfl ?_)
  refine D_end ?_
  refine x_then ?_
  refine D_H (bx g7 [(.int .i64 y3.Nodes), v5] :: ov [(.int .i64 y3.Nodes), v5] (y3 : Beliefs) :: cu g_c v_c code.length :: bx g2 [(.int .i64 0), (.slice none 0 0)] :: Hs) rfl ?_
  refine C_seq ?_
  refine C_seq ?_
  have hdl := hy3.2.2.2.1
  refine C_reg ?_
  refine p1 rfl ?_
  refine D_fd [2] 0 rfl ?_
  refine li rfl (ccI b_43 rfl rfl rfl rfl (fun w' hs => spec_l1Below _ _ w' g_c v_c code 12 h_c hs) fun y8 hy8 => ?_)
  have hy8l := hy8.1
  have hy8r := hy8.2
  refine D_end ?_
  refine x_then ?_
  refine D_H (cu g_c v_c code.length :: bx g7 [(.int .i64 y3.Nodes), v5] :: ov [(.int .i64 y3.Nodes), v5] (y3 : Beliefs) :: bx g2 [(.int .i64 0), (.slice none 0 0)] :: Hs) rfl ?_
  refine C_block ?_
  refine C_seq ?_
  refine C_reg ?_
  refine p1 rfl <| p1 rfl ?_
  refine D_end ?_
  refine x_then ?_
  refine C_if _ rfl (fun h9 => ?_) (fun h9 => ?_)
  · have pr9 : (y8 : Int) = 0 := eq_of_beq h9
    refine C_reg ?_
    refine p1 rfl ?_
    refine li rfl (D_bsn (α := Int) (xs := [.const (.int .i64 (-1)), .const (.int .i64 (0)), .const (.int .i64 (1)), .const (.int .i64 (24)), .const (.int .i64 (25))]) (ys := [(-1), 0, 1, 24, 25]) s_28 y_3 rfl rfl rfl rfl (by decide) (by decide) rfl rfl fun v10 => ?_)
    refine D_fd [1] 0 rfl ?_
    refine li rfl (ccI b_54 rfl rfl rfl rfl (fun w' hs => spec_l1Int _ _ w' g_c v_c code v10 ([(-1), 0, 1, 24, 25]) h_c (fun w' hs => (rd_own (k := 1) hs rfl)) (by simp) hs) fun y11 hy11 => ?_)
    refine q1 rfl (D_fb f_26_0 rfl rfl (q := 0) rfl) ?_
    refine li rfl (D_stb (vs := [(.int .i64 y11)]) (cs' := [(.int .i64 y11), v5]) 2 z_3 rfl rfl rfl rfl rfl rfl (ocons rfl onil) (by simp) rfl ?_)
    refine D_end ?_
    refine x_blk ?_
    refine x_then ?_
    refine D_H (cu g_c v_c code.length :: ov [v10] ([(-1), 0, 1, 24, 25] : (List Int)) :: bx g7 [(.int .i64 y11), v5] :: ov [(.int .i64 y3.Nodes), v5] (y3 : Beliefs) :: bx g2 [(.int .i64 0), (.slice none 0 0)] :: Hs) rfl ?_
    refine C_seq ?_
    refine C_reg ?_
    refine q1 rfl (lbw 2 a_26 rfl rfl rfl) ?_
    refine li rfl (D_stb (vs := [(.int .i64 y11), v5]) (cs' := [(.int .i64 y11), v5]) 4 z_26 rfl rfl rfl rfl rfl rfl (ocons rfl (ocons ho6 onil)) (by simp) rfl ?_)
    refine D_end ?_
    refine x_then ?_
    refine D_H (cu g_c v_c code.length :: ov [v10] ([(-1), 0, 1, 24, 25] : (List Int)) :: bx g7 [(.int .i64 y11), v5] :: ov [(.int .i64 y3.Nodes), v5] (y3 : Beliefs) :: bx g2 [(.int .i64 y11), v5] :: Hs) rfl ?_
    refine C_ret ?_
    refine D_fd [3] 0 rfl ?_
    refine D_unpair (α := Int) (β := (List Reason)) (c1 := [(.int .i64 y3.Nodes)]) (c2 := [v5]) (x := y3.Nodes) (y := (y3.Reasons)) rfl rfl ?_
    refine D_fd [] 1 rfl ?_
    refine pk_Beliefs (r := (⟨y11, y3.Reasons⟩ : Beliefs)) ?_
    refine R_c (cs := [(.int .i64 y11), v5]) 4 a_26 rfl rfl rfl fun w' hs => ⟨(⟨y11, y3.Reasons⟩ : Beliefs), [(.int .i64 y11), v5], ?_, rfl, hs.fd [1, 1, 4, 4, 4] 3 rfl⟩
    first | exact any_a hy3 _ | exact any_b hy3 _ _ _ _ | exact any_c hy3 _ hk _ | exact any_d hy3
  · have pr9 : (y8 : Int) ≠ 0 := ne_of_beq_false h9
    refine C_seq ?_
    refine C_reg ?_
    refine p1 rfl <| p1 rfl ?_
    refine D_end ?_
    refine x_then ?_
    refine C_if _ rfl (fun h12 => ?_) (fun h12 => ?_)
    · have pr12 : (y8 : Int) = 1 := eq_of_beq h12
      refine C_draw mixed [10, 11, 12] (by kernel_rfl) ?_
      refine tk 0 rfl (by kernel_rfl) (by kernel_rfl) (by kernel_rfl) rfl (fun _ hs => hs) (D_fb f_26_1 rfl rfl (q := 1) rfl) ?_
      refine tk 1 rfl (by kernel_rfl) (by kernel_rfl) (by kernel_rfl) rfl (fun _ hs => hs) (lb 1 o_24 rfl rfl rfl rfl) ?_
      refine tk 2 rfl (by kernel_rfl) (by kernel_rfl) (by kernel_rfl) rfl (fun _ hs => hs) (rp rfl) ?_
      refine tk 5 rfl (by kernel_rfl) (by kernel_rfl) (by kernel_rfl) rfl (fun _ hs => hs) (rp rfl) ?_
      refine ty 3 rfl (by kernel_rfl) rfl (D_bsn (α := Int) (xs := [.const (.int .i64 (-1)), .const (.int .i64 (0)), .const (.int .i64 (5)), .const (.int .i64 (99))]) (ys := [(-1), 0, 5, 99]) s_28 y_3 rfl rfl rfl rfl (by decide) (by decide) rfl rfl fun v13 => ?_)
      refine tS (fun _ hs => hs.fd [] 1 rfl) ?_
      refine D_fd [1] 0 rfl ?_
      refine ty 4 rfl (by kernel_rfl) rfl (ccI b_54 rfl rfl rfl rfl (fun w' hs => spec_l1Int _ _ w' g_c v_c code v13 ([(-1), 0, 5, 99]) h_c (fun w' hs => (rd_own (k := 1) hs rfl)) (by simp) hs) fun y14 hy14 => ?_)
      refine tS (fun _ hs => hs.fd [4, 4, 4, 3, 4] 1 rfl) ?_
      refine ty 6 rfl (by kernel_rfl) rfl (ccI b_43 rfl rfl rfl rfl (fun w' hs => spec_l1Below _ _ w' g_c v_c code 2 h_c hs) fun y15 hy15 => ?_)
      have hy15l := hy15.1
      have hy15r := hy15.2
      refine tS (fun _ hs => hs.fd [4, 4, 4, 3, 4] 1 rfl) ?_
      refine ty 7 rfl (by kernel_rfl) rfl (D_bsn (α := Int) (xs := [.const (.int .i64 (0)), .tmp 23]) (ys := [0, y15]) s_28 y_3 rfl rfl rfl rfl (by decide) (by decide) rfl rfl fun v16 => ?_)
      refine tS (fun _ hs => hs.fd [5, 5, 5, 4, 5, 5] 2 rfl) ?_
      refine D_pre (fun w' hs => one_own (k := 0) hs rfl) ?_
      intro ho18
      refine ty 8 rfl (by kernel_rfl) rfl (sv rfl rfl (D_built (vs := [(0, (.int .i64 y14)), (1, v16)]) (xs := [(0, [(.int .i64 y14)]), (1, [v16])]) (cs := [(.int .i64 y14), v16, (.slice none 0 0)]) pl_31 rfl ⟨rfl, rfl, ⟨rfl, (cells_of_one ho18), trivial⟩⟩ rfl rfl) ?_)
      refine tS (fun _ hs => hs.fd [5, 5, 5, 4, 5, 5] 2 rfl) ?_
      refine ty 9 rfl (by kernel_rfl) rfl (D_bs s_24 y_31 rfl (by decide) (by decide) rfl rfl rfl rfl rfl rfl fun g19 => ?_)
      refine tS (fun _ hs => hs.fd [6, 6, 6, 5, 6, 6, 6] 3 rfl) ?_
      refine D_fd [5] 0 rfl ?_
      refine D_unpair (α := Int) (β := (List Reason)) (c1 := [(.int .i64 y3.Nodes)]) (c2 := [v5]) (x := y3.Nodes) (y := (y3.Reasons)) rfl rfl ?_
      refine D_fd [] 1 rfl ?_
      refine D_nil (α := Int) ?_
      refine D_fd [0, 3] 0 rfl ?_
      refine pk_Reason (r := (⟨y14, [0, y15], []⟩ : Reason)) ?_
      refine D_fd [2, 1, 2] 0 rfl ?_
      refine ty 10 rfl (by kernel_rfl) rfl (D_ap s_24 y_31 rfl (by decide) rfl rfl rfl rfl rfl rfl (by first | omega | (simp; omega)) (by first | omega | (simp; omega)) fun v20 => ?_)
      refine tZ rfl ?_
      refine ty 11 rfl (by kernel_rfl) rfl (sv rfl rfl (D_fb f_26_1 rfl rfl (q := 1) rfl) ?_)
      refine tZ rfl ?_
      refine D_pre (fun w' hs => one_own (k := 0) hs rfl) ?_
      intro ho21
      refine ty 12 rfl (by kernel_rfl) rfl (D_stb (vs := [v20]) (cs' := [(.int .i64 y3.Nodes), v20]) 3 z_24 rfl rfl rfl rfl rfl (cells_of_one ho21) (ocons ho21 onil) (by simp) rfl ?_)
      refine tZ rfl ?_
      refine tE (by kernel_rfl) ?_
      refine x_blk ?_
      refine x_then ?_
      refine D_weak [(2, (.pointer (some ⟨g2, 0, none⟩))), (3, (.pointer (some ⟨g7, 0, none⟩)))] ⟨rfl, rfl, trivial⟩ ?_
      refine D_H (ov [v20] (y3.Reasons ++ [(⟨y14, [0, y15], []⟩ : Reason)] : (List Reason)) :: cu g_c v_c code.length :: ov [v13] ([(-1), 0, 5, 99] : (List Int)) :: bx g7 [(.int .i64 y3.Nodes), v20] :: bx g2 [(.int .i64 0), (.slice none 0 0)] :: Hs) rfl ?_
      refine C_seq ?_
      refine C_reg ?_
      refine q1 rfl (lbw 3 a_26 rfl rfl rfl) ?_
      refine li rfl (D_stb (vs := [(.int .i64 y3.Nodes), v20]) (cs' := [(.int .i64 y3.Nodes), v20]) 4 z_26 rfl rfl rfl rfl rfl rfl (ocons rfl (ocons ho21 onil)) (by simp) rfl ?_)
      refine D_end ?_
      refine x_then ?_
      refine D_H (ov [v20] (y3.Reasons ++ [(⟨y14, [0, y15], []⟩ : Reason)] : (List Reason)) :: cu g_c v_c code.length :: ov [v13] ([(-1), 0, 5, 99] : (List Int)) :: bx g7 [(.int .i64 y3.Nodes), v20] :: bx g2 [(.int .i64 y3.Nodes), v20] :: Hs) rfl ?_
      refine C_ret ?_
      refine pk_Beliefs (r := (⟨y3.Nodes, y3.Reasons ++ [(⟨y14, [0, y15], []⟩ : Reason)]⟩ : Beliefs)) ?_
      refine R_c (cs := [(.int .i64 y3.Nodes), v20]) 4 a_26 rfl rfl rfl fun w' hs => ⟨(⟨y3.Nodes, y3.Reasons ++ [(⟨y14, [0, y15], []⟩ : Reason)]⟩ : Beliefs), [(.int .i64 y3.Nodes), v20], ?_, rfl, hs.fd [1, 1, 4, 4, 4] 3 rfl⟩
      first | exact any_a hy3 _ | exact any_b hy3 _ _ _ _ | exact any_c hy3 _ hk _ | exact any_d hy3
    · have pr12 : (y8 : Int) ≠ 1 := ne_of_beq_false h12
      refine C_seq ?_
      refine C_reg ?_
      refine p1 rfl <| p1 rfl ?_
      refine D_end ?_
      refine x_then ?_
      refine C_if _ rfl (fun h22 => ?_) (fun h22 => ?_)
      · have pr22 : (y8 : Int) = 2 := eq_of_beq h22
        refine C_seq ?_
        refine C_seq ?_
        refine C_reg ?_
        refine p1 rfl ?_
        refine D_end ?_
        refine x_then ?_
        refine C_block ?_
        refine D_fd [2] 0 rfl ?_
        refine D_unpair (α := Int) (β := (List Reason)) (c1 := [(.int .i64 y3.Nodes)]) (c2 := [v5]) (x := y3.Nodes) (y := (y3.Reasons)) rfl rfl ?_
        refine D_fd [] 1 rfl ?_
        refine C_loop (fun m_ ac w' => ∃ (k : Nat), ∃ (v : Value), (k ≤ 60) ∧ m_ = 60 - k ∧ Fits ac 52 [(0, (.pointer (some ⟨g_c, 0, none⟩))), (2, (.pointer (some ⟨g2, 0, none⟩))), (3, (.pointer (some ⟨g7, 0, none⟩))), (4, (.int .i64 ((k : Nat) : Int)))] ∧ St w0 (ov [v] (y3.Reasons ++ List.replicate k (⟨0, [], []⟩ : Reason) : (List Reason)) :: cu g_c v_c code.length :: bx g7 [(.int .i64 y3.Nodes), v] :: bx g2 [(.int .i64 0), (.slice none 0 0)] :: Hs) w') ?_ ?_
        · refine D_eq 0 rfl (show (y3.Reasons : (List Reason)) = y3.Reasons ++ List.replicate 0 (⟨0, [], []⟩ : Reason) from by simp) ?_
          refine fun ac w' hf hs => ⟨_, 0, v5, ?_, rfl, hf.weak ⟨rfl, rfl, rfl, rfl, trivial⟩, hs⟩
          · first | assumption | omega | simp
        · rintro m_ ac w' ⟨k, v, hk, rfl, hf, hs⟩
          refine D.use ?_ hf hs
          clear hf hs ac w'
          refine C_seq ?_
          refine C_seq ?_
          refine C_reg ?_
          refine p1 rfl <| p1 rfl ?_
          refine D_end ?_
          refine x_then ?_
          refine D_H (ov [v] (y3.Reasons ++ List.replicate k (⟨0, [], []⟩ : Reason) : (List Reason)) :: cu g_c v_c code.length :: bx g7 [(.int .i64 y3.Nodes), v] :: bx g2 [(.int .i64 0), (.slice none 0 0)] :: Hs) rfl ?_
          refine C_if _ rfl (fun h23 => ?_) (fun h23 => ?_)
          · have pr23 : (((k : Nat) : Int) : Int) < 60 := of_decide_eq_true h23
            refine C_skip ?_
            refine x_then ?_
            refine C_seq ?_
            refine C_block ?_
            refine C_reg ?_
            refine q1 rfl (D_fb f_26_1 rfl rfl (q := 1) rfl) ?_
            refine q1 rfl (lb 2 o_24 rfl rfl rfl rfl) ?_
            refine q1 rfl (D_build (vs := []) (cs := [(.int .i64 0), (.slice none 0 0), (.slice none 0 0)]) rfl (fun _ => by kernel_rfl) rfl) ?_
            refine li rfl (D_bs s_24 y_31 rfl (by decide) (by decide) rfl rfl rfl rfl rfl rfl fun g24 => ?_)
            refine D_nil (α := Int) ?_
            refine D_nil (α := Int) ?_
            refine pk_Reason (r := (⟨0, [], []⟩ : Reason)) ?_
            refine D_fd [1, 1, 2] 0 rfl ?_
            refine li rfl (D_ap s_24 y_31 rfl (by decide) rfl rfl rfl rfl rfl rfl (by first | omega | (simp; omega)) (by first | omega | (simp; omega)) fun v25 => ?_)
            refine q1 rfl (D_fb f_26_1 rfl rfl (q := 1) rfl) ?_
            refine D_pre (fun w' hs => one_own (k := 0) hs rfl) ?_
            intro ho26
            refine li rfl (D_stb (vs := [v25]) (cs' := [(.int .i64 y3.Nodes), v25]) 2 z_24 rfl rfl rfl rfl rfl (cells_of_one ho26) (ocons ho26 onil) (by simp) rfl ?_)
            refine D_end ?_
            refine x_blk ?_
            refine x_then ?_
            refine D_H (ov [v25] ((y3.Reasons ++ List.replicate k (⟨0, [], []⟩ : Reason)) ++ [(⟨0, [], []⟩ : Reason)] : (List Reason)) :: cu g_c v_c code.length :: bx g7 [(.int .i64 y3.Nodes), v25] :: bx g2 [(.int .i64 0), (.slice none 0 0)] :: Hs) rfl ?_
            refine C_reg ?_
            refine p1 rfl ?_
            refine q1 rfl (D_add rfl rfl rfl (r := ((k + 1 : Nat) : Int)) (by omega) (by omega)) ?_
            refine p1 rfl ?_
            refine D_end ?_
            refine x_then ?_
            refine D_eq 0 rfl (show ((y3.Reasons ++ List.replicate k (⟨0, [], []⟩ : Reason)) ++ [(⟨0, [], []⟩ : Reason)] : (List Reason)) = y3.Reasons ++ List.replicate (k + 1) (⟨0, [], []⟩ : Reason) from by rw [List.append_assoc, ← List.replicate_succ']) ?_
            refine fun ac w' hf hs => ⟨_, ?_, k + 1, v25, ?_, rfl, hf.weak ⟨rfl, rfl, rfl, rfl, trivial⟩, hs⟩
            · omega
            · first | assumption | omega | simp
          · have pr23 : ¬ (((k : Nat) : Int) : Int) < 60 := of_decide_eq_false h23
            refine C_exit ?_
            refine x_then_exit ?_
            refine x_then_exit ?_
            refine x_blk_eq ?_
            refine x_then ?_
            refine C_draw mixed [10] (by kernel_rfl) ?_
            refine tk 0 rfl (by kernel_rfl) (by kernel_rfl) (by kernel_rfl) rfl (fun _ hs => hs) (D_fb f_26_1 rfl rfl (q := 1) rfl) ?_
            refine tk 1 rfl (by kernel_rfl) (by kernel_rfl) (by kernel_rfl) rfl (fun _ hs => hs) (lb 2 o_24 rfl rfl rfl rfl) ?_
            refine tk 2 rfl (by kernel_rfl) (by kernel_rfl) (by kernel_rfl) rfl (fun _ hs => hs) (rp rfl) ?_
            refine tk 3 rfl (by kernel_rfl) (by kernel_rfl) (by kernel_rfl) rfl (fun _ hs => hs) (D_fb f_26_1 rfl rfl (q := 1) rfl) ?_
            refine tk 4 rfl (by kernel_rfl) (by kernel_rfl) (by kernel_rfl) rfl (fun _ hs => hs) (lb 2 o_24 rfl rfl rfl rfl) ?_
            refine tk 5 rfl (by kernel_rfl) (by kernel_rfl) (by kernel_rfl) rfl (fun _ hs => hs) (D_leno 0 s_24 rfl rfl rfl) ?_
            refine ty 6 rfl (by kernel_rfl) rfl (D_bsn (α := Int) (xs := [.const (.int .i64 (59)), .const (.int .i64 (60)), .tmp 46]) (ys := [59, 60, (((y3.Reasons ++ List.replicate k (⟨0, [], []⟩ : Reason)).length : Nat) : Int)]) s_28 y_3 rfl rfl rfl rfl (by decide) (by decide) rfl rfl fun v27 => ?_)
            refine tS (fun _ hs => hs.fd [] 1 rfl) ?_
            refine D_fd [2] 0 rfl ?_
            refine ty 7 rfl (by kernel_rfl) rfl (ccI b_54 rfl rfl rfl rfl (fun w' hs => spec_l1Int _ _ w' g_c v_c code v27 ([59, 60, (((y3.Reasons ++ List.replicate k (⟨0, [], []⟩ : Reason)).length : Nat) : Int)]) h_c (fun w' hs => (rd_own (k := 1) hs rfl)) (by simp) hs) fun y28 hy28 => ?_)
            refine tS (fun _ hs => hs.fd [4, 4, 2, 4, 4] 1 rfl) ?_
            have hq5 : 0 ≤ y28 ∧ y28.toNat ≤ (y3.Reasons ++ List.replicate k (⟨0, [], []⟩ : Reason)).length := by have hq := hy28; simp only [List.mem_cons, List.not_mem_nil, or_false, List.length_append, List.length_replicate] at hq ⊢; omega
            refine tk 8 rfl (by kernel_rfl) (by kernel_rfl) (by kernel_rfl) rfl (fun _ hs => hs.fd [4, 4, 2, 4, 4] 1 rfl) (D_slp (l := (y3.Reasons ++ List.replicate k (⟨0, [], []⟩ : Reason))) (m := y28.toNat) 0 s_24 rfl rfl rfl (Int.toNat_of_nonneg (by omega)).symm rfl (hq5.2)) ?_
            refine tk 9 rfl (by kernel_rfl) (by kernel_rfl) (by kernel_rfl) rfl (fun _ hs => hs.fd [4, 4, 2, 4, 4] 1 rfl) (D_fb f_26_1 rfl rfl (q := 1) rfl) ?_
            refine D_fd [2] 0 rfl ?_
            refine D_slc (m := y28.toNat) (hq5.2) ?_
            refine D_pre (fun w' hs => one_own (k := 0) hs rfl) ?_
            intro ho29
            refine ty 10 rfl (by kernel_rfl) rfl (D_stb (vs := [(slP v y28.toNat)]) (cs' := [(.int .i64 y3.Nodes), (slP v y28.toNat)]) 3 z_24 rfl rfl rfl rfl rfl (cells_of_one ho29) (ocons ho29 onil) (by simp) rfl ?_)
            refine tZ rfl ?_
            refine tE (by kernel_rfl) ?_
            refine x_blk ?_
            refine x_then ?_
            refine D_H (ov [(slP v y28.toNat)] ((y3.Reasons ++ List.replicate k (⟨0, [], []⟩ : Reason)).take y28.toNat : (List Reason)) :: cu g_c v_c code.length :: ov [v27] ([59, 60, (((y3.Reasons ++ List.replicate k (⟨0, [], []⟩ : Reason)).length : Nat) : Int)] : (List Int)) :: bx g7 [(.int .i64 y3.Nodes), (slP v y28.toNat)] :: bx g2 [(.int .i64 0), (.slice none 0 0)] :: Hs) rfl ?_
            refine C_seq ?_
            refine C_reg ?_
            refine q1 rfl (lbw 3 a_26 rfl rfl rfl) ?_
            refine li rfl (D_stb (vs := [(.int .i64 y3.Nodes), (slP v y28.toNat)]) (cs' := [(.int .i64 y3.Nodes), (slP v y28.toNat)]) 4 z_26 rfl rfl rfl rfl rfl rfl (ocons rfl (ocons ho29 onil)) (by simp) rfl ?_)
            refine D_end ?_
            refine x_then ?_
            refine D_weak [(2, (.pointer (some ⟨g2, 0, none⟩)))] ⟨rfl, trivial⟩ ?_
            refine D_H (ov [(slP v y28.toNat)] ((y3.Reasons ++ List.replicate k (⟨0, [], []⟩ : Reason)).take y28.toNat : (List Reason)) :: cu g_c v_c code.length :: ov [v27] ([59, 60, (((y3.Reasons ++ List.replicate k (⟨0, [], []⟩ : Reason)).length : Nat) : Int)] : (List Int)) :: bx g7 [(.int .i64 y3.Nodes), (slP v y28.toNat)] :: bx g2 [(.int .i64 y3.Nodes), (slP v y28.toNat)] :: Hs) rfl ?_
            refine C_ret ?_
            refine pk_Beliefs (r := (⟨y3.Nodes, (y3.Reasons ++ List.replicate k (⟨0, [], []⟩ : Reason)).take y28.toNat⟩ : Beliefs)) ?_
            refine R_c (cs := [(.int .i64 y3.Nodes), (slP v y28.toNat)]) 4 a_26 rfl rfl rfl fun w' hs => ⟨(⟨y3.Nodes, (y3.Reasons ++ List.replicate k (⟨0, [], []⟩ : Reason)).take y28.toNat⟩ : Beliefs), [(.int .i64 y3.Nodes), (slP v y28.toNat)], ?_, rfl, hs.fd [1, 1, 4, 4, 4] 3 rfl⟩
            first | exact any_a hy3 _ | exact any_b hy3 _ _ _ _ | exact any_c hy3 _ hk _ | exact any_d hy3
      · have pr22 : (y8 : Int) ≠ 2 := ne_of_beq_false h22
        refine C_skip ?_
        refine x_blk ?_
        refine x_then ?_
        refine C_seq ?_
        refine C_reg ?_
        refine q1 rfl (lbw 1 a_26 rfl rfl rfl) ?_
        refine li rfl (D_stb (vs := [(.int .i64 y3.Nodes), v5]) (cs' := [(.int .i64 y3.Nodes), v5]) 3 z_26 rfl rfl rfl rfl rfl rfl (ocons rfl (ocons ho6 onil)) (by simp) rfl ?_)
        refine D_end ?_
        refine x_then ?_
        refine D_H (cu g_c v_c code.length :: bx g7 [(.int .i64 y3.Nodes), v5] :: ov [(.int .i64 y3.Nodes), v5] (y3 : Beliefs) :: bx g2 [(.int .i64 y3.Nodes), v5] :: Hs) rfl ?_
        refine C_ret ?_
        refine R_c (cs := [(.int .i64 y3.Nodes), v5]) 3 a_26 rfl rfl rfl fun w' hs => ⟨y3, [(.int .i64 y3.Nodes), v5], ?_, rfl, hs.fd [0, 2, 3, 3] 2 rfl⟩
        first | exact any_a hy3 _ | exact any_b hy3 _ _ _ _ | exact any_c hy3 _ hk _ | exact any_d hy3

theorem spec_DrawConsequencesOf (w : World) (v_code : Value) (code : (List UInt8)) (h_code : Gd.rd w [v_code] code) : Calls Try.prog 22 [v_code].toArray w (fun e w' => ∃ (ya : Beliefs) (yb : Int), (szB ya ≤ 2000) ∧ Rd2 w ya yb e w') := by
  have hm1 := rd_max h_code
  refine enter 18 Try.func22 rfl rfl rfl ?_
  refine C_seq ?_
  refine C_reg ?_
  refine li rfl (D_alloc y_26 rfl rfl rfl rfl fun g2 => ?_)
  refine p1 rfl ?_
  refine D_end ?_
  refine x_then ?_
  refine D_H ([bx g2 [(.int .i64 0), (.slice none 0 0)]]) rfl ?_
  refine C_seq ?_
  refine C_reg ?_
  refine p1 rfl ?_
  refine li rfl (ccN b_29 rfl rfl rfl rfl (fun w' hs => (spec_l1New w' v_code code (rd_at hs h_code))) fun g3 => ?_)
  refine p1 rfl ?_
  refine D_end ?_
  refine x_then ?_
  refine D_H ([cu g3 v_code code.length, bx g2 [(.int .i64 0), (.slice none 0 0)]]) rfl ?_
  refine C_seq ?_
  refine C_reg ?_
  refine p1 rfl ?_
  refine li rfl (ccR (α := Beliefs) b_42 rfl rfl rfl rfl (fun w' hs => spec_l11Any _ _ w' g3 v_code code h_code hs) fun y4 cs5 hy4 => ?_)
  refine D_pre (fun w' hs => shape_Beliefs (rd_own (k := 0) hs rfl)) ?_
  rintro ⟨v6, rfl, ho7⟩
  refine D_re 9 (v' := (.agg #[(.int .i64 y4.Nodes), v6])) rfl rfl rfl ?_
  refine li rfl (D_alloc y_26 rfl rfl rfl rfl fun g8 => ?_)
  refine li rfl (D_stb (vs := [(.int .i64 y4.Nodes), v6]) (cs' := [(.int .i64 y4.Nodes), v6]) 0 z_26 rfl rfl rfl rfl rfl rfl (ocons rfl (ocons ho7 onil)) (by simp) rfl ?_)
  refine D_end ?_
  refine x_then ?_
  refine D_H ([bx g8 [(.int .i64 y4.Nodes), v6], ov [(.int .i64 y4.Nodes), v6] (y4 : Beliefs), cu g3 v_code code.length, bx g2 [(.int .i64 0), (.slice none 0 0)]]) rfl ?_
  refine C_seq ?_
  have hsl := szB_len y4
  refine C_drawW ([bx g8 [(.int .i64 y4.Nodes), v6], ov [(.int .i64 y4.Nodes), v6] (y4 : Beliefs), cu g3 v_code code.length]) mixed [] (by kernel_rfl) ?_
  refine tk 0 rfl (by kernel_rfl) (by kernel_rfl) (by kernel_rfl) rfl (fun _ hs => hs.pk [0, 1, 2] rfl rfl) (lbw 0 a_26 rfl rfl rfl) ?_
  refine tk 1 rfl (by kernel_rfl) (by kernel_rfl) (by kernel_rfl) rfl (fun _ hs => hs.pk [0, 1, 2] rfl rfl) (rp rfl) ?_
  refine tk 2 rfl (by kernel_rfl) (by kernel_rfl) (by kernel_rfl) rfl (fun _ hs => hs.pk [0, 1, 2] rfl rfl) (D_fb f_26_1 rfl rfl (q := 1) rfl) ?_
  refine tk 3 rfl (by kernel_rfl) (by kernel_rfl) (by kernel_rfl) rfl (fun _ hs => hs.pk [0, 1, 2] rfl rfl) (lb 0 o_24 rfl rfl rfl rfl) ?_
  refine tk 4 rfl (by kernel_rfl) (by kernel_rfl) (by kernel_rfl) rfl (fun _ hs => hs.pk [0, 1, 2] rfl rfl) (D_lenr s_24 rfl rfl (fun w' hs => (by obtain ⟨z1_, e_, hz1_⟩ := open_Beliefs (rd_own (k := 1) hs rfl); cases e_; exact hz1_))) ?_
  refine tk 5 rfl (by kernel_rfl) (by kernel_rfl) (by kernel_rfl) rfl (fun _ hs => hs.pk [0, 1, 2] rfl rfl) (D_add rfl rfl rfl (r := ((y4.Reasons.length + 2 : Nat) : Int)) (by omega) (by omega)) ?_
  refine D_pk (H' := [cu g3 v_code code.length, bx g8 [(.int .i64 y4.Nodes), v6], ov [(.int .i64 y4.Nodes), v6] (y4 : Beliefs), bx g2 [(.int .i64 0), (.slice none 0 0)]]) [2, 0, 1, 3] rfl rfl ?_
  refine ty 6 rfl (by kernel_rfl) rfl (ccI b_43 rfl rfl rfl rfl (fun w' hs => spec_l1Below _ _ w' g3 v_code code ((y4.Reasons.length + 2 : Nat) : Int) h_code hs) fun y9 hy9 => ?_)
  have hy9l := hy9.1
  have hy9r := hy9.2
  refine tS (fun _ hs => hs.pk [1, 2, 0] rfl rfl) ?_
  refine tk 7 rfl (by kernel_rfl) (by kernel_rfl) (by kernel_rfl) rfl (fun _ hs => hs.pk [1, 2, 0] rfl rfl) (D_sub rfl rfl rfl rfl (by omega)) ?_
  refine ty 8 rfl (by kernel_rfl) rfl (D_stb (vs := [(.int .i64 y4.Nodes), v6]) (cs' := [(.int .i64 y4.Nodes), v6]) 3 z_26 rfl rfl rfl rfl rfl rfl (ocons rfl (ocons ho7 onil)) (by simp) rfl ?_)
  refine tS (fun _ hs => hs.pk [1, 2, 0] rfl rfl) ?_
  refine tk 9 rfl (by kernel_rfl) (by kernel_rfl) (by kernel_rfl) rfl (fun _ hs => hs.pk [1, 2, 0] rfl rfl) (rp rfl) ?_
  refine tE (by kernel_rfl) ?_
  refine x_then ?_
  refine D_weak [(2, (.pointer (some ⟨g2, 0, none⟩))), (3, (.int .i64 (y9 - 1)))] ⟨rfl, rfl, trivial⟩ ?_
  refine D_sel (H' := [cu g3 v_code code.length, ov [(.int .i64 y4.Nodes), v6] (y4 : Beliefs), bx g2 [(.int .i64 y4.Nodes), v6]]) [true, false, true, true] rfl ?_
  refine C_ret ?_
  refine R_2g rfl (rvc (cs := [(.int .i64 y4.Nodes), v6]) 2 a_26 rfl rfl) (rvt rfl) fun w' hs => ⟨y4, (y9 - 1), ?_, [(.int .i64 y4.Nodes), v6], [(.int .i64 (y9 - 1))], rfl, (rd_own (k := 1) hs rfl), rfl, hs.bel⟩
  exact hy4

theorem spec_DrawIsFoundation (w : World) (v_code : Value) (code : (List UInt8)) (h_code : Gd.rd w [v_code] code) : Calls Try.prog 27 [v_code].toArray w (fun e w' => ∃ (ya : Beliefs) (yb : Int) (yc : List Int), (szB ya ≤ 2000) ∧ Rd3 w ya yb yc e w') := by
  have hm1 := rd_max h_code
  refine enter 41 Try.func27 rfl rfl rfl ?_
  refine C_seq ?_
  refine C_reg ?_
  refine li rfl (D_alloc y_26 rfl rfl rfl rfl fun g2 => ?_)
  refine p1 rfl <| p1 rfl ?_
  refine D_end ?_
  refine x_then ?_
  refine D_H ([bx g2 [(.int .i64 0), (.slice none 0 0)]]) rfl ?_
  refine C_seq ?_
  refine C_reg ?_
  refine p1 rfl ?_
  refine li rfl (ccN b_29 rfl rfl rfl rfl (fun w' hs => (spec_l1New w' v_code code (rd_at hs h_code))) fun g3 => ?_)
  refine p1 rfl ?_
  refine D_end ?_
  refine x_then ?_
  refine D_H ([cu g3 v_code code.length, bx g2 [(.int .i64 0), (.slice none 0 0)]]) rfl ?_
  refine C_seq ?_
  refine C_reg ?_
  refine p1 rfl ?_
  refine li rfl (ccR (α := Beliefs) b_42 rfl rfl rfl rfl (fun w' hs => spec_l11Any _ _ w' g3 v_code code h_code hs) fun y4 cs5 hy4 => ?_)
  refine D_pre (fun w' hs => shape_Beliefs (rd_own (k := 0) hs rfl)) ?_
  rintro ⟨v6, rfl, ho7⟩
  refine D_re 12 (v' := (.agg #[(.int .i64 y4.Nodes), v6])) rfl rfl rfl ?_
  refine li rfl (D_alloc y_26 rfl rfl rfl rfl fun g8 => ?_)
  refine li rfl (D_stb (vs := [(.int .i64 y4.Nodes), v6]) (cs' := [(.int .i64 y4.Nodes), v6]) 0 z_26 rfl rfl rfl rfl rfl rfl (ocons rfl (ocons ho7 onil)) (by simp) rfl ?_)
  refine D_end ?_
  refine x_then ?_
  refine D_H ([bx g8 [(.int .i64 y4.Nodes), v6], ov [(.int .i64 y4.Nodes), v6] (y4 : Beliefs), cu g3 v_code code.length, bx g2 [(.int .i64 0), (.slice none 0 0)]]) rfl ?_
  refine C_seq ?_
  have hsl := szB_len y4
  refine C_reg ?_
  refine p1 rfl ?_
  refine D_pk (H' := [cu g3 v_code code.length, bx g8 [(.int .i64 y4.Nodes), v6], ov [(.int .i64 y4.Nodes), v6] (y4 : Beliefs), bx g2 [(.int .i64 0), (.slice none 0 0)]]) [2, 0, 1, 3] rfl rfl ?_
  refine li rfl (ccI b_43 rfl rfl rfl rfl (fun w' hs => spec_l1Below _ _ w' g3 v_code code 7 h_code hs) fun y9 hy9 => ?_)
  have hy9l := hy9.1
  have hy9r := hy9.2
  refine p1 rfl ?_
  refine D_end ?_
  refine x_then ?_
  refine C_seq ?_
  refine C_reg ?_
  refine q1 rfl (lbw 1 a_26 rfl rfl rfl) ?_
  refine p1 rfl ?_
  refine li rfl (crl b_46 rfl rfl rfl rfl (fun w' hs => (spec_FoundationOf w' [(.int .i64 y4.Nodes), v6] y4 y9 (rd_own (k := 2) hs rfl) (by first | assumption | omega | (unfold szm at *; split at * <;> omega)))) fun v10 => ?_)
  refine p1 rfl ?_
  refine D_end ?_
  refine x_then ?_
  refine D_H ([ov [v10] (foundOf y4 y9 : (List Int)), cu g3 v_code code.length, bx g8 [(.int .i64 y4.Nodes), v6], ov [(.int .i64 y4.Nodes), v6] (y4 : Beliefs), bx g2 [(.int .i64 0), (.slice none 0 0)]]) rfl ?_
  refine C_seq ?_
  refine C_seq ?_
  have hfl := found_len (b := y4) y9
  refine C_reg ?_
  refine p1 rfl ?_
  refine D_pk (H' := [cu g3 v_code code.length, ov [v10] (foundOf y4 y9 : (List Int)), bx g8 [(.int .i64 y4.Nodes), v6], ov [(.int .i64 y4.Nodes), v6] (y4 : Beliefs), bx g2 [(.int .i64 0), (.slice none 0 0)]]) [1, 0, 2, 3, 4] rfl rfl ?_
  refine li rfl (ccI b_43 rfl rfl rfl rfl (fun w' hs => spec_l1Below _ _ w' g3 v_code code 5 h_code hs) fun y11 hy11 => ?_)
  have hy11l := hy11.1
  have hy11r := hy11.2
  refine D_end ?_
  refine x_then ?_
  refine C_block ?_
  refine C_seq ?_
  refine C_reg ?_
  refine p1 rfl <| p1 rfl ?_
  refine D_end ?_
  refine x_then ?_
  refine C_if _ rfl (fun h12 => ?_) (fun h12 => ?_)
  · have pr12 : (y11 : Int) = 0 := eq_of_beq h12
    refine C_reg ?_
    refine p1 rfl <| p1 rfl ?_
    refine q1 rfl (D_fb f_26_1 rfl rfl (q := 1) rfl) ?_
    refine q1 rfl (lb 2 o_24 rfl rfl rfl rfl) ?_
    refine q1 rfl (D_lenr s_24 rfl rfl (fun w' hs => (by obtain ⟨z1_, e_, hz1_⟩ := open_Beliefs (rd_own (k := 3) hs rfl); cases e_; exact hz1_))) ?_
    refine q1 rfl (D_add rfl rfl rfl (r := ((y4.Reasons.length + 1 : Nat) : Int)) (by omega) (by omega)) ?_
    refine li rfl (ccI b_43 rfl rfl rfl rfl (fun w' hs => spec_l1Below _ _ w' g3 v_code code ((y4.Reasons.length + 1 : Nat) : Int) h_code hs) fun y13 hy13 => ?_)
    have hy13l := hy13.1
    have hy13r := hy13.2
    refine li rfl (D_bs s_28 y_3 rfl (by decide) (by decide) rfl rfl rfl rfl rfl rfl fun g14 => ?_)
    refine D_fi y13 ?_
    refine D_pk (H' := [ov [v10] (foundOf y4 y9 : (List Int)), ov [(.int .i64 y13)] (y13 : Int), bx g14 [(.int .i64 y13)], cu g3 v_code code.length, bx g8 [(.int .i64 y4.Nodes), v6], ov [(.int .i64 y4.Nodes), v6] (y4 : Beliefs), bx g2 [(.int .i64 0), (.slice none 0 0)]]) [3, 0, 1, 2, 4, 5, 6] rfl rfl ?_
    refine li rfl (D_ap s_28 y_3 rfl (by decide) rfl rfl rfl rfl rfl rfl (by first | omega | (simp; omega)) (by first | omega | (simp; omega)) fun v15 => ?_)
    refine p1 rfl ?_
    refine D_end ?_
    refine x_blk ?_
    refine x_then ?_
    refine D_weak [(2, (.pointer (some ⟨g2, 0, none⟩))), (6, (.pointer (some ⟨g8, 0, none⟩))), (7, (.int .i64 y9)), (8, v15)] ⟨rfl, rfl, rfl, rfl, trivial⟩ ?_
    refine D_H ([ov [v15] ((foundOf y4 y9) ++ [y13] : (List Int)), cu g3 v_code code.length, bx g8 [(.int .i64 y4.Nodes), v6], ov [(.int .i64 y4.Nodes), v6] (y4 : Beliefs), bx g2 [(.int .i64 0), (.slice none 0 0)]]) rfl ?_
    refine C_seq ?_
    refine C_reg ?_
    refine q1 rfl (lbw 2 a_26 rfl rfl rfl) ?_
    refine p1 rfl <| p1 rfl ?_
    refine li rfl (D_stb (vs := [(.int .i64 y4.Nodes), v6]) (cs' := [(.int .i64 y4.Nodes), v6]) 4 z_26 rfl rfl rfl rfl rfl rfl (ocons rfl (ocons ho7 onil)) (by simp) rfl ?_)
    refine p1 rfl <| p1 rfl ?_
    refine D_end ?_
    refine x_then ?_
    refine D_H ([ov [v15] ((foundOf y4 y9) ++ [y13] : (List Int)), cu g3 v_code code.length, bx g8 [(.int .i64 y4.Nodes), v6], ov [(.int .i64 y4.Nodes), v6] (y4 : Beliefs), bx g2 [(.int .i64 y4.Nodes), v6]]) rfl ?_
    refine C_ret ?_
    refine R_3g rfl (rvc (cs := [(.int .i64 y4.Nodes), v6]) 4 a_26 rfl rfl) (rvt rfl) (rvt rfl) fun w' hs => ⟨y4, y9, ((foundOf y4 y9) ++ [y13]), ?_, [(.int .i64 y4.Nodes), v6], [(.int .i64 y9)], [v15], rfl, (rd_own (k := 3) hs rfl), rfl, (rd_own (k := 0) hs rfl), hs.bel⟩
    exact hy4
  · have pr12 : (y11 : Int) ≠ 0 := ne_of_beq_false h12
    refine C_seq ?_
    refine C_reg ?_
    refine p1 rfl <| p1 rfl ?_
    refine D_end ?_
    refine x_then ?_
    refine D_weak [(2, (.pointer (some ⟨g2, 0, none⟩))), (6, (.pointer (some ⟨g8, 0, none⟩))), (7, (.int .i64 y9)), (8, v10), (31, (.bool ((y11 : Int) == 1)))] ⟨rfl, rfl, rfl, rfl, rfl, trivial⟩ ?_
    refine C_if _ rfl (fun h16 => ?_) (fun h16 => ?_)
    · have pr16 : (y11 : Int) = 1 := eq_of_beq h16
      refine C_seq ?_
      refine C_reg ?_
      refine p1 rfl ?_
      refine q1 rfl (D_leno 1 s_28 rfl rfl rfl) ?_
      refine p1 rfl ?_
      refine D_end ?_
      refine x_then ?_
      refine C_if _ rfl (fun h17 => ?_) (fun h17 => ?_)
      · have pr17 : (1 : Int) < (((foundOf y4 y9).length : Nat) : Int) := of_decide_eq_true h17
        refine C_reg ?_
        refine p1 rfl ?_
        refine q1 rfl (D_slt (l := (foundOf y4 y9)) (m := 1) 1 s_28 rfl rfl rfl rfl rfl (by omega)) ?_
        refine p1 rfl ?_
        refine D_end ?_
        refine x_blk ?_
        refine x_then ?_
        refine C_seq ?_
        refine C_reg ?_
        refine q1 rfl (lbw 2 a_26 rfl rfl rfl) ?_
        refine p1 rfl <| p1 rfl ?_
        refine li rfl (D_stb (vs := [(.int .i64 y4.Nodes), v6]) (cs' := [(.int .i64 y4.Nodes), v6]) 4 z_26 rfl rfl rfl rfl rfl rfl (ocons rfl (ocons ho7 onil)) (by simp) rfl ?_)
        refine p1 rfl <| p1 rfl ?_
        refine D_end ?_
        refine x_then ?_
        refine D_H ([cu g3 v_code code.length, ov [v10] (foundOf y4 y9 : (List Int)), bx g8 [(.int .i64 y4.Nodes), v6], ov [(.int .i64 y4.Nodes), v6] (y4 : Beliefs), bx g2 [(.int .i64 y4.Nodes), v6]]) rfl ?_
        refine C_ret ?_
        refine R_3g rfl (rvc (cs := [(.int .i64 y4.Nodes), v6]) 4 a_26 rfl rfl) (rvt rfl) (rvt rfl) fun w' hs => ⟨y4, y9, ((foundOf y4 y9).drop 1), ?_, [(.int .i64 y4.Nodes), v6], [(.int .i64 y9)], [(slT v10 1 1)], rfl, (rd_own (k := 3) hs rfl), rfl, (rd_slT (k := 1) hs rfl rfl (by omega)), hs.bel⟩
        exact hy4
      · have pr17 : ¬ (1 : Int) < (((foundOf y4 y9).length : Nat) : Int) := of_decide_eq_false h17
        refine C_skip ?_
        refine x_blk ?_
        refine x_then ?_
        refine C_seq ?_
        refine C_reg ?_
        refine q1 rfl (lbw 2 a_26 rfl rfl rfl) ?_
        refine p1 rfl <| p1 rfl ?_
        refine li rfl (D_stb (vs := [(.int .i64 y4.Nodes), v6]) (cs' := [(.int .i64 y4.Nodes), v6]) 4 z_26 rfl rfl rfl rfl rfl rfl (ocons rfl (ocons ho7 onil)) (by simp) rfl ?_)
        refine p1 rfl <| p1 rfl ?_
        refine D_end ?_
        refine x_then ?_
        refine D_H ([cu g3 v_code code.length, ov [v10] (foundOf y4 y9 : (List Int)), bx g8 [(.int .i64 y4.Nodes), v6], ov [(.int .i64 y4.Nodes), v6] (y4 : Beliefs), bx g2 [(.int .i64 y4.Nodes), v6]]) rfl ?_
        refine C_ret ?_
        refine R_3g rfl (rvc (cs := [(.int .i64 y4.Nodes), v6]) 4 a_26 rfl rfl) (rvt rfl) (rvt rfl) fun w' hs => ⟨y4, y9, (foundOf y4 y9), ?_, [(.int .i64 y4.Nodes), v6], [(.int .i64 y9)], [v10], rfl, (rd_own (k := 3) hs rfl), rfl, (rd_own (k := 1) hs rfl), hs.bel⟩
        exact hy4
    · have pr16 : (y11 : Int) ≠ 1 := ne_of_beq_false h16
      refine C_skip ?_
      refine x_blk ?_
      refine x_then ?_
      refine C_seq ?_
      refine C_reg ?_
      refine q1 rfl (lbw 2 a_26 rfl rfl rfl) ?_
      refine p1 rfl <| p1 rfl ?_
      refine li rfl (D_stb (vs := [(.int .i64 y4.Nodes), v6]) (cs' := [(.int .i64 y4.Nodes), v6]) 4 z_26 rfl rfl rfl rfl rfl rfl (ocons rfl (ocons ho7 onil)) (by simp) rfl ?_)
      refine p1 rfl <| p1 rfl ?_
      refine D_end ?_
      refine x_then ?_
      refine D_H ([cu g3 v_code code.length, ov [v10] (foundOf y4 y9 : (List Int)), bx g8 [(.int .i64 y4.Nodes), v6], ov [(.int .i64 y4.Nodes), v6] (y4 : Beliefs), bx g2 [(.int .i64 y4.Nodes), v6]]) rfl ?_
      refine C_ret ?_
      refine R_3g rfl (rvc (cs := [(.int .i64 y4.Nodes), v6]) 4 a_26 rfl rfl) (rvt rfl) (rvt rfl) fun w' hs => ⟨y4, y9, (foundOf y4 y9), ?_, [(.int .i64 y4.Nodes), v6], [(.int .i64 y9)], [v10], rfl, (rd_own (k := 3) hs rfl), rfl, (rd_own (k := 1) hs rfl), hs.bel⟩
      exact hy4
end Go.Sy.Cur2
