/-
  Contracts of functions of the program, walked (printed by a program of ours).
  Conditions: those that each theorem states.
-/
import Derived.Test.YteahhonfcloabaaBel2
set_option linter.unusedVariables false
set_option maxRecDepth 20000
namespace Go.Sy.Bel3
open Go Go.RowKit Go.Proofs Go.Sy
theorem mixed : Try.prog.follows .mixedOrders = true := by kernel_rfl
theorem s_25 : sliceTy Try.prog 25 = some (3, 1, 8) := by kernel_rfl
theorem z_3 : sizeTy Try.prog 3 = some 1 := by kernel_rfl
theorem o_3 : oneTy Try.prog 3 = true := by kernel_rfl
theorem s_28 : sliceTy Try.prog 28 = some (67, 3, 56) := by kernel_rfl
theorem f_67_0 : fieldOff Try.prog 67 0 = some 0 := by kernel_rfl
theorem f_67_1 : fieldOff Try.prog 67 1 = some 1 := by kernel_rfl
theorem o_25 : oneTy Try.prog 25 = true := by kernel_rfl
theorem b_17 : hasBody Try.prog 17 = true := by kernel_rfl
theorem f_67_2 : fieldOff Try.prog 67 2 = some 2 := by kernel_rfl
theorem f_30_1 : fieldOff Try.prog 30 1 = some 1 := by kernel_rfl
theorem o_28 : oneTy Try.prog 28 = true := by kernel_rfl
theorem b_40 : hasBody Try.prog 40 = true := by kernel_rfl
theorem b_18 : hasBody Try.prog 18 = true := by kernel_rfl
theorem b_56 : hasBody Try.prog 56 = true := by kernel_rfl
open Go.Sy.Bel1 Go.Sy.Bel2
theorem laws_markIntS (w0 : World) (Hs : List Chunk) (w : World) (v_a : Value) (a : (List Int)) (k : Int) (h0 : 0 ≤ k) (h1 : k + a.length ≤ 4611686018427387904) (hst : St w0 (ov [v_a] (a : (List Int)) :: Hs) w) : Calls Try.prog 17 [v_a, (.int .i64 k)].toArray w (fun e w' => e = .returned (.int .i64 (k + a.length)) ∧ St w0 (ov [v_a] (mkI k a : (List Int)) :: Hs) w') := by
  have hm1 := rd_max (rd_own (k := 0) hst rfl)
  refine enterS 19 Try.func17 rfl rfl rfl hst ?_
  refine C_seq ?_
  refine C_reg ?_
  refine p1 rfl ?_
  refine D_end ?_
  refine x_then ?_
  refine D_H (ov [v_a] (a : (List Int)) :: Hs) rfl ?_
  refine C_seq ?_
  refine C_seq ?_
  refine C_reg ?_
  refine p1 rfl ?_
  refine D_end ?_
  refine x_then ?_
  refine C_block ?_
  refine C_loop (fun m_ ac w' => ∃ (i : Nat), ∃ (kk : Int), (i ≤ a.length) ∧ (kk = k + i) ∧ m_ = a.length - i ∧ Fits ac 19 [(0, v_a), (1, (.int .i64 kk)), (5, (.int .i64 ((i : Nat) : Int)))] ∧ St w0 (ov [v_a] (mapAt fI cI k a i : (List Int)) :: Hs) w') ?_ ?_
  · refine D_eq 0 rfl (show (a : (List Int)) = mapAt fI cI k a 0 from by rw [mapAt_zero]) ?_
    refine fun ac w' hf hs => ⟨_, 0, k, ?_, ?_, rfl, hf.weak ⟨rfl, rfl, rfl, trivial⟩, hs⟩
    · first | assumption | omega | simp
    · first | assumption | omega | simp
  · rintro m_ ac w' ⟨i, kk, hi, hk, rfl, hf, hs⟩
    refine D.use ?_ hf hs
    clear hf hs ac w'
    have hcl := mapAt_len (f := fI) (c := cI) (k := k) hi
    refine C_seq ?_
    refine C_seq ?_
    refine C_reg ?_
    refine p1 rfl <| p1 rfl ?_
    refine q1 rfl (D_leno 0 s_25 rfl rfl rfl) ?_
    refine p1 rfl ?_
    refine D_end ?_
    refine x_then ?_
    refine D_H (ov [v_a] (mapAt fI cI k a i : (List Int)) :: Hs) rfl ?_
    refine C_if _ rfl (fun h2 => ?_) (fun h2 => ?_)
    · have pr2 : (((i : Nat) : Int) : Int) < (((mapAt fI cI k a i).length : Nat) : Int) := of_decide_eq_true h2
      refine C_skip ?_
      refine x_then ?_
      refine C_seq ?_
      refine C_block ?_
      refine C_seq ?_
      refine C_reg ?_
      refine p1 rfl <| p1 rfl <| p1 rfl ?_
      obtain ⟨x3, hx4⟩ := some_of_lt (l := (mapAt fI cI k a i)) (i := i) (by omega)
      refine q1 rfl (D_ix (l := (mapAt fI cI k a i)) (j := i) s_25 rfl rfl rfl (fun w' hs => (rd_own (k := 0) hs rfl)) rfl (lt_of_some hx4)) ?_
      refine li rfl (so (α := Int) (z := kk) 0 z_3 rfl rfl rfl rfl rfl (lt_of_some hx4) ?_)
      refine D_end ?_
      refine x_then ?_
      refine D_H (ov [v_a] ((mapAt fI cI k a i).set i kk : (List Int)) :: Hs) rfl ?_
      refine C_reg ?_
      refine p1 rfl ?_
      refine q1 rfl (D_add rfl rfl rfl rfl (by omega)) ?_
      refine p1 rfl ?_
      refine D_end ?_
      refine x_blk ?_
      refine x_then ?_
      refine C_reg ?_
      refine p1 rfl ?_
      refine q1 rfl (D_add rfl rfl rfl (r := ((i + 1 : Nat) : Int)) (by omega) (by omega)) ?_
      refine p1 rfl ?_
      refine D_end ?_
      refine x_then ?_
      refine D_eq 0 rfl (show ((mapAt fI cI k a i).set i kk : (List Int)) = mapAt fI cI k a (i + 1) from by exact mkI_set (by omega) hk) ?_
      refine fun ac w' hf hs => ⟨_, ?_, i + 1, (kk + 1), ?_, ?_, rfl, hf.weak ⟨rfl, rfl, rfl, trivial⟩, hs⟩
      · omega
      · first | assumption | omega | simp
      · first | assumption | omega | simp
    · have pr2 : ¬ (((i : Nat) : Int) : Int) < (((mapAt fI cI k a i).length : Nat) : Int) := of_decide_eq_false h2
      refine C_exit ?_
      refine x_then_exit ?_
      refine x_then_exit ?_
      refine x_blk_eq ?_
      refine x_then ?_
      refine C_seq ?_
      refine C_reg ?_
      refine p1 rfl <| p1 rfl ?_
      refine D_end ?_
      refine x_then ?_
      refine C_ret ?_
      refine D_eq 0 rfl (show (mapAt fI cI k a i : (List Int)) = mkI k a from by exact mapAt_done (by omega)) ?_
      refine R_1 rfl rfl fun w' hs => ⟨congrArg (fun z => Ending.returned (Value.int .i64 z)) ?_, hs⟩
      show (kk : Int) = k + a.length
      omega

theorem laws_heldIntS (w : World) (v_a : Value) (a : (List Int)) (k : Int) (h_a : Gd.rd w [v_a] a) (h0 : 0 ≤ k) (h1 : k + a.length ≤ 4611686018427387904) (he : a = mkI k a) : Calls Try.prog 18 [v_a, (.int .i64 k)].toArray w (Val w (.int .i64 (k + a.length))) := by
  have hm1 := rd_max h_a
  refine enter 21 Try.func18 rfl rfl rfl ?_
  refine C_seq ?_
  refine C_reg ?_
  refine p1 rfl ?_
  refine D_end ?_
  refine x_then ?_
  refine C_seq ?_
  refine C_seq ?_
  refine C_reg ?_
  refine p1 rfl ?_
  refine D_end ?_
  refine x_then ?_
  refine C_block ?_
  refine C_loop (fun m_ ac w' => ∃ (i : Nat), ∃ (kk : Int), (i ≤ a.length) ∧ (kk = k + i) ∧ m_ = a.length - i ∧ Fits ac 21 [(0, v_a), (1, (.int .i64 kk)), (5, (.int .i64 ((i : Nat) : Int)))] ∧ St w ([]) w') ?_ ?_
  · refine fun ac w' hf hs => ⟨_, 0, k, ?_, ?_, rfl, hf.weak ⟨rfl, rfl, rfl, trivial⟩, hs⟩
    · first | assumption | omega | simp
    · first | assumption | omega | simp
  · rintro m_ ac w' ⟨i, kk, hi, hk, rfl, hf, hs⟩
    refine D.use ?_ hf hs
    clear hf hs ac w'
    refine C_seq ?_
    refine C_seq ?_
    refine C_reg ?_
    refine p1 rfl <| p1 rfl ?_
    refine q1 rfl (D_len s_25 rfl rfl (rd_sl h_a)) ?_
    refine p1 rfl ?_
    refine D_end ?_
    refine x_then ?_
    refine C_if _ rfl (fun h2 => ?_) (fun h2 => ?_)
    · have pr2 : (((i : Nat) : Int) : Int) < ((a.length : Nat) : Int) := of_decide_eq_true h2
      refine C_skip ?_
      refine x_then ?_
      refine C_seq ?_
      refine C_block ?_
      refine C_seq ?_
      refine C_seq ?_
      refine C_reg ?_
      refine p1 rfl <| p1 rfl ?_
      obtain ⟨x3, hx4⟩ := some_of_lt (l := a) (i := i) (by omega)
      obtain ⟨es5, at6, hr7⟩ := rd_elem (n := 1) rfl h_a hx4
      obtain rfl : es5 = [.int .i64 x3] := hr7
      refine q1 rfl (D_ix (l := a) (j := i) s_25 rfl rfl rfl (fun w' hs => (rd_at hs h_a)) rfl (lt_of_some hx4)) ?_
      refine q1 rfl (lr0 o_3 rfl rfl at6 rfl) ?_
      refine p1 rfl <| p1 rfl ?_
      refine D_end ?_
      refine x_then ?_
      refine C_if _ rfl (fun h8 => ?_) (fun h8 => ?_)
      · have pr8 : (x3 : Int) ≠ kk := bne_iff_ne.1 h8
        refine C_seq ?_
        refine C_reg ?_
        refine p1 rfl ?_
        refine D_end ?_
        refine x_then ?_
        refine C_ret ?_
        refine x_then_ret ?_
        refine x_blk_ret ?_
        refine x_then_ret ?_
        refine x_then_ret ?_
        refine x_blk_ret ?_
        refine x_then_ret ?_
        refine R_1 rfl rfl fun w' hs => ⟨congrArg (fun z => Ending.returned (Value.int .i64 z)) ?_, hs.bel⟩
        show ((-1) : Int) = k + a.length
        exfalso; have := mkI_fix he hx4; omega
      · have pr8 : (x3 : Int) = kk := eq_of_bne_f h8
        refine C_skip ?_
        refine x_then ?_
        refine C_reg ?_
        refine p1 rfl ?_
        refine q1 rfl (D_add rfl rfl rfl rfl (by omega)) ?_
        refine p1 rfl ?_
        refine D_end ?_
        refine x_blk ?_
        refine x_then ?_
        refine C_reg ?_
        refine p1 rfl ?_
        refine q1 rfl (D_add rfl rfl rfl (r := ((i + 1 : Nat) : Int)) (by omega) (by omega)) ?_
        refine p1 rfl ?_
        refine D_end ?_
        refine x_then ?_
        refine fun ac w' hf hs => ⟨_, ?_, i + 1, (kk + 1), ?_, ?_, rfl, hf.weak ⟨rfl, rfl, rfl, trivial⟩, hs⟩
        · omega
        · first | assumption | omega | simp
        · first | assumption | omega | simp
    · have pr2 : ¬ (((i : Nat) : Int) : Int) < ((a.length : Nat) : Int) := of_decide_eq_false h2
      refine C_exit ?_
      refine x_then_exit ?_
      refine x_then_exit ?_
      refine x_blk_eq ?_
      refine x_then ?_
      refine C_seq ?_
      refine C_reg ?_
      refine p1 rfl <| p1 rfl ?_
      refine D_end ?_
      refine x_then ?_
      refine C_ret ?_
      refine R_1 rfl rfl fun w' hs => ⟨congrArg (fun z => Ending.returned (Value.int .i64 z)) ?_, hs.bel⟩
      show (kk : Int) = k + a.length
      omega

theorem laws_markReasonS (w0 : World) (Hs : List Chunk) (w : World) (v_a : Value) (a : (List Reason)) (k : Int) (h0 : 0 ≤ k) (h1 : k + sumC cR a ≤ 4611686018427387904) (hst : St w0 (ov [v_a] (a : (List Reason)) :: Hs) w) : Calls Try.prog 40 [v_a, (.int .i64 k)].toArray w (fun e w' => e = .returned (.int .i64 (k + sumC cR a)) ∧ St w0 (ov [v_a] (mkRs k a : (List Reason)) :: Hs) w') := by
  have hm1 := rd_max (rd_own (k := 0) hst rfl)
  refine enterS 34 Try.func40 rfl rfl rfl hst ?_
  refine C_seq ?_
  refine C_reg ?_
  refine p1 rfl ?_
  refine D_end ?_
  refine x_then ?_
  refine D_H (ov [v_a] (a : (List Reason)) :: Hs) rfl ?_
  refine C_seq ?_
  refine C_seq ?_
  refine C_reg ?_
  refine p1 rfl ?_
  refine D_end ?_
  refine x_then ?_
  refine C_block ?_
  refine C_loop (fun m_ ac w' => ∃ (i : Nat), ∃ (kk : Int), (i ≤ a.length) ∧ (kk = k + sumC cR (a.take i)) ∧ m_ = a.length - i ∧ Fits ac 34 [(0, v_a), (1, (.int .i64 kk)), (5, (.int .i64 ((i : Nat) : Int)))] ∧ St w0 (ov [v_a] (mapAt fR cR k a i : (List Reason)) :: Hs) w') ?_ ?_
  · refine D_eq 0 rfl (show (a : (List Reason)) = mapAt fR cR k a 0 from by rw [mapAt_zero]) ?_
    refine fun ac w' hf hs => ⟨_, 0, k, ?_, ?_, rfl, hf.weak ⟨rfl, rfl, rfl, trivial⟩, hs⟩
    · first | assumption | omega | simp
    · simp [sumC]
  · rintro m_ ac w' ⟨i, kk, hi, hk, rfl, hf, hs⟩
    refine D.use ?_ hf hs
    clear hf hs ac w'
    have hcl := mapAt_len (f := fR) (c := cR) (k := k) hi
    refine C_seq ?_
    refine C_seq ?_
    refine C_reg ?_
    refine p1 rfl <| p1 rfl ?_
    refine q1 rfl (D_leno 0 s_28 rfl rfl rfl) ?_
    refine p1 rfl ?_
    refine D_end ?_
    refine x_then ?_
    refine D_H (ov [v_a] (mapAt fR cR k a i : (List Reason)) :: Hs) rfl ?_
    refine C_if _ rfl (fun h2 => ?_) (fun h2 => ?_)
    · have pr2 : (((i : Nat) : Int) : Int) < (((mapAt fR cR k a i).length : Nat) : Int) := of_decide_eq_true h2
      refine C_skip ?_
      refine x_then ?_
      refine C_seq ?_
      refine C_block ?_
      refine C_seq ?_
      refine C_reg ?_
      refine p1 rfl <| p1 rfl <| p1 rfl ?_
      obtain ⟨x3, hx4⟩ := some_of_lt (l := (mapAt fR cR k a i)) (i := i) (by omega)
      refine D_take hx4 fun es5 => ?_
      refine D_pre (fun w' hs => shape_Reason (rd_own (k := 0) hs rfl)) ?_
      rintro ⟨v6, v7, rfl, ho8, ho9⟩
      refine q1 rfl (D_ixh 1 s_28 rfl rfl rfl rfl rfl) ?_
      have hstep := mkR_step hi hx4 hk
      refine q1 rfl (D_fa f_67_0 rfl rfl) ?_
      refine D_unpair (α := Int) (β := (List Int) × (List Int)) (c1 := [(.int .i64 x3.For)]) (c2 := [v6, v7]) (x := x3.For) (y := (x3.In, x3.Out)) rfl rfl ?_
      refine D_fd [] 1 rfl ?_
      refine D_unpair (α := (List Int)) (β := (List Int)) (c1 := [v6]) (c2 := [v7]) (x := x3.In) (y := (x3.Out)) rfl rfl ?_
      refine D_fd [1] 0 rfl ?_
      refine li rfl (sh (n := 3) (f := 0) 2 rfl z_3 rfl rfl rfl rfl rfl rfl rfl (by simp) ?_)
      refine D_end ?_
      refine x_then ?_
      refine C_seq ?_
      refine C_reg ?_
      refine p1 rfl ?_
      refine q1 rfl (D_add rfl rfl rfl rfl (by omega)) ?_
      refine p1 rfl ?_
      refine D_end ?_
      refine x_then ?_
      refine C_seq ?_
      refine C_reg ?_
      refine p1 rfl <| p1 rfl ?_
      refine q1 rfl (D_ixh 2 s_28 rfl rfl rfl rfl rfl) ?_
      refine q1 rfl (D_fa f_67_1 rfl rfl) ?_
      refine q1 rfl (lh (n := 3) 2 rfl o_25 rfl rfl rfl rfl) ?_
      refine p1 rfl ?_
      refine D_fd [1] 0 rfl ?_
      refine li rfl (cm b_17 rfl rfl rfl rfl (fun w' hs => laws_markIntS _ _ w' v6 x3.In (kk + 1) (by first | assumption | omega | (simp only; omega)) (by first | assumption | omega | (simp only; omega)) hs) ?_)
      refine p1 rfl ?_
      refine D_end ?_
      refine x_then ?_
      refine D_weak [(0, v_a), (1, (.int .i64 ((kk + 1) + x3.In.length))), (5, (.int .i64 ((i : Nat) : Int)))] ⟨rfl, rfl, rfl, trivial⟩ ?_
      refine C_reg ?_
      refine p1 rfl <| p1 rfl ?_
      refine q1 rfl (D_ixh 2 s_28 rfl rfl rfl rfl rfl) ?_
      refine q1 rfl (D_fa f_67_2 rfl rfl) ?_
      refine q1 rfl (lh (n := 3) 2 rfl o_25 rfl rfl rfl rfl) ?_
      refine p1 rfl ?_
      refine D_fd [1] 0 rfl ?_
      refine li rfl (cm b_17 rfl rfl rfl rfl (fun w' hs => laws_markIntS _ _ w' v7 x3.Out ((kk + 1) + x3.In.length) (by first | assumption | omega | (simp only; omega)) (by first | assumption | omega | (simp only; omega)) hs) ?_)
      refine p1 rfl ?_
      refine D_end ?_
      refine x_blk ?_
      refine x_then ?_
      refine C_reg ?_
      refine p1 rfl ?_
      refine q1 rfl (D_add rfl rfl rfl (r := ((i + 1 : Nat) : Int)) (by omega) (by omega)) ?_
      refine p1 rfl ?_
      refine D_end ?_
      refine x_then ?_
      refine D_fd [0, 1] 0 rfl ?_
      refine pk_Reason (r := (⟨kk, mkI (kk + 1) x3.In, mkI ((kk + 1) + x3.In.length) x3.Out⟩ : Reason)) ?_
      refine D_put ?_
      refine D_eq 0 rfl (show ((mapAt fR cR k a i).set i (⟨kk, mkI (kk + 1) x3.In, mkI ((kk + 1) + x3.In.length) x3.Out⟩ : Reason) : (List Reason)) = mapAt fR cR k a (i + 1) from by exact mkR_set hi hx4 hk rfl) ?_
      refine fun ac w' hf hs => ⟨_, ?_, i + 1, (((kk + 1) + x3.In.length) + x3.Out.length), ?_, ?_, rfl, hf.weak ⟨rfl, rfl, rfl, trivial⟩, hs⟩
      · omega
      · first | assumption | omega | simp
      · omega
    · have pr2 : ¬ (((i : Nat) : Int) : Int) < (((mapAt fR cR k a i).length : Nat) : Int) := of_decide_eq_false h2
      refine C_exit ?_
      refine x_then_exit ?_
      refine x_then_exit ?_
      refine x_blk_eq ?_
      refine x_then ?_
      refine C_seq ?_
      refine C_reg ?_
      refine p1 rfl <| p1 rfl ?_
      refine D_end ?_
      refine x_then ?_
      refine C_ret ?_
      refine D_eq 0 rfl (show (mapAt fR cR k a i : (List Reason)) = mkRs k a from by exact mapAt_done (by omega)) ?_
      refine R_1 rfl rfl fun w' hs => ⟨congrArg (fun z => Ending.returned (Value.int .i64 z)) ?_, hs⟩
      show (kk : Int) = k + sumC cR a
      rw [List.take_of_length_le (by omega)] at hk; exact hk

theorem laws_markBeliefs (w0 : World) (Hs : List Chunk) (w : World) (c_a : List Value) (a : Beliefs) (k : Int) (h0 : 0 ≤ k) (h1 : k + sumC cR a.Reasons ≤ 4611686018427387904) (hst : St w0 (ov c_a (a : Beliefs) :: Hs) w) : Calls Try.prog 16 [(.agg c_a.toArray), (.int .i64 k)].toArray w (fun e w' => e = .returned (.int .i64 (k + sumC cR a.Reasons)) ∧ St w0 (ov c_a (mkB k a : Beliefs) :: Hs) w') := by
  obtain ⟨v1, rfl, ho_v1⟩ := shape_Beliefs (rd_own (k := 0) hst rfl)
  refine enterS 10 Try.func16 rfl rfl rfl hst ?_
  refine C_seq ?_
  refine C_reg ?_
  refine li rfl (D_box rfl rfl rfl rfl rfl fun g2 => ?_)
  refine p1 rfl ?_
  refine D_end ?_
  refine x_then ?_
  refine D_H (bx g2 [(.int .i64 a.Nodes), v1] :: ov [(.int .i64 a.Nodes), v1] (a : Beliefs) :: Hs) rfl ?_
  refine C_seq ?_
  refine C_reg ?_
  refine q1 rfl (D_fb f_30_1 rfl rfl (q := 1) rfl) ?_
  refine q1 rfl (lb 0 o_28 rfl rfl rfl rfl) ?_
  refine p1 rfl ?_
  refine D_fd [1] 0 rfl ?_
  refine D_unpair (α := Int) (β := (List Reason)) (c1 := [(.int .i64 a.Nodes)]) (c2 := [v1]) (x := a.Nodes) (y := (a.Reasons)) rfl rfl ?_
  refine D_fd [] 1 rfl ?_
  refine li rfl (cm b_40 rfl rfl rfl rfl (fun w' hs => laws_markReasonS _ _ w' v1 a.Reasons k (by first | assumption | omega | (simp only; omega)) (by first | assumption | omega | (simp only; omega)) hs) ?_)
  refine p1 rfl ?_
  refine D_end ?_
  refine x_then ?_
  refine D_H (ov [v1] (mkRs k a.Reasons : (List Reason)) :: bx g2 [(.int .i64 a.Nodes), v1] :: Hs) rfl ?_
  refine C_seq ?_
  refine C_reg ?_
  refine p1 rfl <| p1 rfl ?_
  refine D_end ?_
  refine x_then ?_
  refine C_ret ?_
  refine pk_Beliefs (r := (⟨a.Nodes, mkRs k a.Reasons⟩ : Beliefs)) ?_
  refine D_eq 0 rfl (show ((⟨a.Nodes, mkRs k a.Reasons⟩ : Beliefs) : Beliefs) = mkB k a from by rfl) ?_
  refine R_1 rfl rfl fun w' hs => ⟨congrArg (fun z => Ending.returned (Value.int .i64 z)) ?_, hs.fd [0, 1] 1 rfl⟩
  show ((k + sumC cR a.Reasons) : Int) = k + sumC cR a.Reasons
  rfl

theorem laws_heldReasonS (w : World) (v_a : Value) (a : (List Reason)) (k : Int) (h_a : Gd.rd w [v_a] a) (h0 : 0 ≤ k) (h1 : k + sumC cR a ≤ 4611686018427387904) (he : a = mkRs k a) : Calls Try.prog 56 [v_a, (.int .i64 k)].toArray w (Val w (.int .i64 (k + sumC cR a))) := by
  have hm1 := rd_max h_a
  refine enter 40 Try.func56 rfl rfl rfl ?_
  refine C_seq ?_
  refine C_reg ?_
  refine p1 rfl ?_
  refine D_end ?_
  refine x_then ?_
  refine C_seq ?_
  refine C_seq ?_
  refine C_reg ?_
  refine p1 rfl ?_
  refine D_end ?_
  refine x_then ?_
  refine C_block ?_
  refine C_loop (fun m_ ac w' => ∃ (i : Nat), ∃ (kk : Int), (i ≤ a.length) ∧ (kk = k + sumC cR (a.take i)) ∧ m_ = a.length - i ∧ Fits ac 40 [(0, v_a), (1, (.int .i64 kk)), (5, (.int .i64 ((i : Nat) : Int)))] ∧ St w ([]) w') ?_ ?_
  · refine fun ac w' hf hs => ⟨_, 0, k, ?_, ?_, rfl, hf.weak ⟨rfl, rfl, rfl, trivial⟩, hs⟩
    · first | assumption | omega | simp
    · simp [sumC]
  · rintro m_ ac w' ⟨i, kk, hi, hk, rfl, hf, hs⟩
    refine D.use ?_ hf hs
    clear hf hs ac w'
    refine C_seq ?_
    refine C_seq ?_
    refine C_reg ?_
    refine p1 rfl <| p1 rfl ?_
    refine q1 rfl (D_len s_28 rfl rfl (rd_sl h_a)) ?_
    refine p1 rfl ?_
    refine D_end ?_
    refine x_then ?_
    refine C_if _ rfl (fun h2 => ?_) (fun h2 => ?_)
    · have pr2 : (((i : Nat) : Int) : Int) < ((a.length : Nat) : Int) := of_decide_eq_true h2
      refine C_skip ?_
      refine x_then ?_
      refine C_seq ?_
      refine C_block ?_
      refine C_seq ?_
      refine C_seq ?_
      refine C_reg ?_
      refine p1 rfl <| p1 rfl ?_
      obtain ⟨x3, hx4⟩ := some_of_lt (l := a) (i := i) (by omega)
      obtain ⟨es5, at6, hr7⟩ := rd_elem (n := 3) rfl h_a hx4
      obtain ⟨u9, u11, rfl, hu10, hu12⟩ := open_Reason hr7
      have hm13 := rd_max hu10
      have hm14 := rd_max hu12
      refine q1 rfl (D_ix (l := a) (j := i) s_28 rfl rfl rfl (fun w' hs => (rd_at hs h_a)) rfl (lt_of_some hx4)) ?_
      have hfx := mkRs_fix he hx4
      rw [← hk] at hfx
      have hID : x3.For = kk := by rw [hfx]; rfl
      have hIn : x3.In = mkI (kk + 1) x3.In := congrArg Reason.In hfx
      have hOut : x3.Out = mkI (kk + 1 + x3.In.length) x3.Out := congrArg Reason.Out hfx
      have hstep := heldR_step hx4 hk
      refine q1 rfl (D_fa f_67_0 rfl rfl) ?_
      refine q1 rfl (lr o_3 rfl rfl at6 rfl) ?_
      refine p1 rfl <| p1 rfl ?_
      refine D_end ?_
      refine x_then ?_
      refine C_if _ rfl (fun h15 => ?_) (fun h15 => ?_)
      · have pr15 : (x3.For : Int) ≠ kk := bne_iff_ne.1 h15
        refine C_seq ?_
        refine C_reg ?_
        refine p1 rfl ?_
        refine D_end ?_
        refine x_then ?_
        refine C_ret ?_
        refine x_then_ret ?_
        refine x_blk_ret ?_
        refine x_then_ret ?_
        refine x_then_ret ?_
        refine x_blk_ret ?_
        refine x_then_ret ?_
        refine R_1 rfl rfl fun w' hs => ⟨congrArg (fun z => Ending.returned (Value.int .i64 z)) ?_, hs.bel⟩
        show ((-1) : Int) = k + sumC cR a
        exfalso; omega
      · have pr15 : (x3.For : Int) = kk := eq_of_bne_f h15
        refine C_skip ?_
        refine x_then ?_
        refine C_seq ?_
        refine C_reg ?_
        refine p1 rfl ?_
        refine q1 rfl (D_add rfl rfl rfl rfl (by omega)) ?_
        refine p1 rfl ?_
        refine D_end ?_
        refine x_then ?_
        refine C_seq ?_
        refine C_reg ?_
        refine p1 rfl <| p1 rfl ?_
        refine q1 rfl (D_ix (l := a) (j := i) s_28 rfl rfl rfl (fun w' hs => (rd_at hs h_a)) rfl (lt_of_some hx4)) ?_
        refine q1 rfl (D_fa f_67_1 rfl rfl) ?_
        refine q1 rfl (lr o_25 rfl rfl at6 rfl) ?_
        refine p1 rfl ?_
        refine li rfl (cv b_18 rfl rfl rfl rfl (fun w' hs => (laws_heldIntS w' u9 x3.In (kk + 1) (rd_at hs hu10) (by first | assumption | omega | (unfold szm at *; split at * <;> omega)) (by first | assumption | omega | (unfold szm at *; split at * <;> omega)) (by first | assumption | omega | (unfold szm at *; split at * <;> omega)))) ?_)
        refine p1 rfl ?_
        refine D_end ?_
        refine x_then ?_
        refine D_weak [(0, v_a), (1, (.int .i64 ((kk + 1) + x3.In.length))), (5, (.int .i64 ((i : Nat) : Int)))] ⟨rfl, rfl, rfl, trivial⟩ ?_
        refine C_seq ?_
        refine C_seq ?_
        refine C_reg ?_
        refine p1 rfl <| p1 rfl ?_
        refine D_end ?_
        refine x_then ?_
        refine C_if _ rfl (fun h16 => ?_) (fun h16 => ?_)
        · have pr16 : (((kk + 1) + x3.In.length) : Int) < 0 := of_decide_eq_true h16
          refine C_seq ?_
          refine C_reg ?_
          refine p1 rfl ?_
          refine D_end ?_
          refine x_then ?_
          refine C_ret ?_
          refine x_then_ret ?_
          refine x_blk_ret ?_
          refine x_then_ret ?_
          refine x_then_ret ?_
          refine x_blk_ret ?_
          refine x_then_ret ?_
          refine R_1 rfl rfl fun w' hs => ⟨congrArg (fun z => Ending.returned (Value.int .i64 z)) ?_, hs.bel⟩
          show ((-1) : Int) = k + sumC cR a
          exfalso; omega
        · have pr16 : ¬ (((kk + 1) + x3.In.length) : Int) < 0 := of_decide_eq_false h16
          refine C_skip ?_
          refine x_then ?_
          refine C_seq ?_
          refine C_reg ?_
          refine p1 rfl <| p1 rfl ?_
          refine q1 rfl (D_ix (l := a) (j := i) s_28 rfl rfl rfl (fun w' hs => (rd_at hs h_a)) rfl (lt_of_some hx4)) ?_
          refine q1 rfl (D_fa f_67_2 rfl rfl) ?_
          refine q1 rfl (lr o_25 rfl rfl at6 rfl) ?_
          refine p1 rfl ?_
          refine li rfl (cv b_18 rfl rfl rfl rfl (fun w' hs => (laws_heldIntS w' u11 x3.Out ((kk + 1) + x3.In.length) (rd_at hs hu12) (by first | assumption | omega | (unfold szm at *; split at * <;> omega)) (by first | assumption | omega | (unfold szm at *; split at * <;> omega)) (by first | assumption | omega | (unfold szm at *; split at * <;> omega)))) ?_)
          refine p1 rfl ?_
          refine D_end ?_
          refine x_then ?_
          refine C_seq ?_
          refine C_reg ?_
          refine p1 rfl <| p1 rfl ?_
          refine D_end ?_
          refine x_then ?_
          refine C_if _ rfl (fun h17 => ?_) (fun h17 => ?_)
          · have pr17 : ((((kk + 1) + x3.In.length) + x3.Out.length) : Int) < 0 := of_decide_eq_true h17
            refine C_seq ?_
            refine C_reg ?_
            refine p1 rfl ?_
            refine D_end ?_
            refine x_then ?_
            refine C_ret ?_
            refine x_blk_ret ?_
            refine x_then_ret ?_
            refine x_then_ret ?_
            refine x_blk_ret ?_
            refine x_then_ret ?_
            refine R_1 rfl rfl fun w' hs => ⟨congrArg (fun z => Ending.returned (Value.int .i64 z)) ?_, hs.bel⟩
            show ((-1) : Int) = k + sumC cR a
            exfalso; omega
          · have pr17 : ¬ ((((kk + 1) + x3.In.length) + x3.Out.length) : Int) < 0 := of_decide_eq_false h17
            refine C_skip ?_
            refine x_blk ?_
            refine x_then ?_
            refine C_reg ?_
            refine p1 rfl ?_
            refine q1 rfl (D_add rfl rfl rfl (r := ((i + 1 : Nat) : Int)) (by omega) (by omega)) ?_
            refine p1 rfl ?_
            refine D_end ?_
            refine x_then ?_
            refine fun ac w' hf hs => ⟨_, ?_, i + 1, (((kk + 1) + x3.In.length) + x3.Out.length), ?_, ?_, rfl, hf.weak ⟨rfl, rfl, rfl, trivial⟩, hs⟩
            · omega
            · first | assumption | omega | simp
            · omega
    · have pr2 : ¬ (((i : Nat) : Int) : Int) < ((a.length : Nat) : Int) := of_decide_eq_false h2
      refine C_exit ?_
      refine x_then_exit ?_
      refine x_then_exit ?_
      refine x_blk_eq ?_
      refine x_then ?_
      refine C_seq ?_
      refine C_reg ?_
      refine p1 rfl <| p1 rfl ?_
      refine D_end ?_
      refine x_then ?_
      refine C_ret ?_
      refine R_1 rfl rfl fun w' hs => ⟨congrArg (fun z => Ending.returned (Value.int .i64 z)) ?_, hs.bel⟩
      show (kk : Int) = k + sumC cR a
      rw [List.take_of_length_le (by omega)] at hk; exact hk

theorem laws_heldBeliefs (w : World) (c_a : List Value) (a : Beliefs) (k : Int) (h_a : Gd.rd w c_a a) (h0 : 0 ≤ k) (h1 : k + sumC cR a.Reasons ≤ 4611686018427387904) (he : a.Reasons = mkRs k a.Reasons) : Calls Try.prog 32 [(.agg c_a.toArray), (.int .i64 k)].toArray w (Val w (.int .i64 (k + sumC cR a.Reasons))) := by
  obtain ⟨u1, rfl, hu2⟩ := open_Beliefs h_a
  have hm3 := rd_max hu2
  refine enter 12 Try.func32 rfl rfl rfl ?_
  refine C_seq ?_
  refine C_reg ?_
  refine li rfl (D_box rfl rfl rfl rfl rfl fun g4 => ?_)
  refine p1 rfl ?_
  refine D_end ?_
  refine x_then ?_
  refine D_H ([bx g4 [(.int .i64 a.Nodes), u1]]) rfl ?_
  refine C_seq ?_
  refine C_reg ?_
  refine q1 rfl (D_fb f_30_1 rfl rfl (q := 1) rfl) ?_
  refine q1 rfl (lb 0 o_28 rfl rfl rfl rfl) ?_
  refine p1 rfl ?_
  refine li rfl (cv b_56 rfl rfl rfl rfl (fun w' hs => (laws_heldReasonS w' u1 a.Reasons k (rd_at hs hu2) (by first | assumption | omega | (unfold szm at *; split at * <;> omega)) (by first | assumption | omega | (unfold szm at *; split at * <;> omega)) (by first | assumption | omega | (unfold szm at *; split at * <;> omega)))) ?_)
  refine p1 rfl ?_
  refine D_end ?_
  refine x_then ?_
  refine C_seq ?_
  refine C_seq ?_
  refine C_reg ?_
  refine p1 rfl <| p1 rfl ?_
  refine D_end ?_
  refine x_then ?_
  refine C_if _ rfl (fun h5 => ?_) (fun h5 => ?_)
  · have pr5 : ((k + sumC cR a.Reasons) : Int) < 0 := of_decide_eq_true h5
    refine C_seq ?_
    refine C_reg ?_
    refine p1 rfl ?_
    refine D_end ?_
    refine x_then ?_
    refine C_ret ?_
    refine x_then_ret ?_
    refine R_1 rfl rfl fun w' hs => ⟨congrArg (fun z => Ending.returned (Value.int .i64 z)) ?_, hs.bel⟩
    show ((-1) : Int) = k + sumC cR a.Reasons
    exfalso; omega
  · have pr5 : ¬ ((k + sumC cR a.Reasons) : Int) < 0 := of_decide_eq_false h5
    refine C_skip ?_
    refine x_then ?_
    refine C_seq ?_
    refine C_reg ?_
    refine p1 rfl <| p1 rfl ?_
    refine D_end ?_
    refine x_then ?_
    refine C_ret ?_
    refine R_1 rfl rfl fun w' hs => ⟨congrArg (fun z => Ending.returned (Value.int .i64 z)) ?_, hs.bel⟩
    show ((k + sumC cR a.Reasons) : Int) = k + sumC cR a.Reasons
    rfl
end Go.Sy.Bel3
