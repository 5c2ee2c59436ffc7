/-
  Contracts of functions of the program, walked (printed by a program of ours).
  Conditions: those that each theorem states.
-/
import Derived.Test.YtagkjljaemfieaaBel2
set_option linter.unusedVariables false
set_option maxRecDepth 20000
namespace Go.Sy.Bel3
open Go Go.RowKit Go.Proofs Go.Sy
theorem mixed : Try.prog.follows .mixedOrders = true := by kernel_rfl
theorem s_23 : sliceTy Try.prog 23 = some (3, 1, 8) := by kernel_rfl
theorem z_3 : sizeTy Try.prog 3 = some 1 := by kernel_rfl
theorem o_3 : oneTy Try.prog 3 = true := by kernel_rfl
theorem s_37 : sliceTy Try.prog 37 = some (28, 3, 56) := by kernel_rfl
theorem f_28_0 : fieldOff Try.prog 28 0 = some 0 := by kernel_rfl
theorem f_28_1 : fieldOff Try.prog 28 1 = some 1 := by kernel_rfl
theorem o_23 : oneTy Try.prog 23 = true := by kernel_rfl
theorem b_31 : hasBody Try.prog 31 = true := by kernel_rfl
theorem f_28_2 : fieldOff Try.prog 28 2 = some 2 := by kernel_rfl
theorem f_39_1 : fieldOff Try.prog 39 1 = some 1 := by kernel_rfl
theorem o_37 : oneTy Try.prog 37 = true := by kernel_rfl
theorem b_55 : hasBody Try.prog 55 = true := by kernel_rfl
theorem a_28 : aggTy Try.prog 28 = some 3 := by kernel_rfl
theorem y_28 : zeroTy Try.prog 28 = some (.agg #[(.int .i64 0), (.slice none 0 0), (.slice none 0 0)]) := by kernel_rfl
theorem z_28 : sizeTy Try.prog 28 = some 3 := by kernel_rfl
theorem b_15 : hasBody Try.prog 15 = true := by kernel_rfl
theorem y_3 : zeroTy Try.prog 3 = some (.int .i64 0) := by kernel_rfl
theorem b_13 : hasBody Try.prog 13 = true := by kernel_rfl
theorem a_34 : aggTy Try.prog 34 = some 2 := by kernel_rfl
theorem b_17 : hasBody Try.prog 17 = true := by kernel_rfl
theorem b_19 : hasBody Try.prog 19 = true := by kernel_rfl
theorem b_27 : hasBody Try.prog 27 = true := by kernel_rfl
theorem y_39 : zeroTy Try.prog 39 = some (.agg #[(.int .i64 0), (.slice none 0 0)]) := by kernel_rfl
theorem z_39 : sizeTy Try.prog 39 = some 2 := by kernel_rfl
theorem a_39 : aggTy Try.prog 39 = some 2 := by kernel_rfl
theorem b_28 : hasBody Try.prog 28 = true := by kernel_rfl
theorem b_29 : hasBody Try.prog 29 = true := by kernel_rfl
theorem b_21 : hasBody Try.prog 21 = true := by kernel_rfl
theorem b_30 : hasBody Try.prog 30 = true := by kernel_rfl
theorem b_32 : hasBody Try.prog 32 = true := by kernel_rfl
open Go.Sy.Bel1 Go.Sy.Bel2
theorem laws_markIntS (w0 : World) (Hs : List Chunk) (w : World) (v_a : Value) (a : (List Int)) (k : Int) (h0 : 0 ≤ k) (h1 : k + a.length ≤ 4611686018427387904) (hst : St w0 (ov [v_a] (a : (List Int)) :: Hs) w) : Calls Try.prog 31 [v_a, (.int .i64 k)].toArray w (fun e w' => e = .returned (.int .i64 (k + a.length)) ∧ St w0 (ov [v_a] (mkI k a : (List Int)) :: Hs) w') := by
  have hm1 := rd_max (rd_own (k := 0) hst rfl)
  refine enterS 19 Try.func31 rfl rfl rfl hst ?_
  refine C_seq ?_
  refine C_reg ?_
  refine p1 rfl ?_
  refine D_end ?_
  refine x_then ?_
  refine C_seq ?_
  refine C_seq ?_
  refine C_reg ?_
  refine p1 rfl ?_
  refine D_end ?_
  refine x_then ?_
  refine C_block ?_
  refine C_loop (fun m_ ac w' => ∃ (i : Nat), ∃ (kk : Int), (i ≤ a.length) ∧ (kk = k + i) ∧ m_ = a.length - i ∧ Fits ac 19 [(0, v_a), (1, (.int .i64 kk)), (5, (.int .i64 ((i : Nat) : Int)))] ∧ St w0 (ov [v_a] (mapAt fI cI k a i : (List Int)) :: Hs) w') ?_ ?_
  · refine D_eq 0 rfl (show (a : (List Int)) = mapAt fI cI k a 0 from by rw [mapAt_zero]) ?_
    refine fun ac w' hf hs => ⟨_, 0, k, ?_, ?_, rfl, hf.weak ⟨rfl, rfl, rfl, trivial⟩, hs⟩
    · first | assumption | omega | simp
    · first | assumption | omega | simp
  · rintro m_ ac w' ⟨i, kk, hi, hk, rfl, hf, hs⟩
    refine D.use ?_ hf hs
    clear hf hs ac w'
    have hcl := mapAt_len (f := fI) (c := cI) (k := k) hi
    refine C_seq ?_
    refine C_seq ?_
    refine C_reg ?_
    refine p1 rfl <| p1 rfl ?_
    refine q1 rfl (D_leno 0 s_23 rfl rfl rfl) ?_
    refine p1 rfl ?_
    refine D_end ?_
    refine x_then ?_
    refine C_if _ rfl (fun h2 => ?_) (fun h2 => ?_)
    · have pr2 : (((i : Nat) : Int) : Int) < (((mapAt fI cI k a i).length : Nat) : Int) := of_decide_eq_true h2
      refine C_skip ?_
      refine x_then ?_
      refine C_seq ?_
      refine C_block ?_
      refine C_seq ?_
      refine C_reg ?_
      refine p1 rfl <| p1 rfl <| p1 rfl ?_
      obtain ⟨x3, hx4⟩ := some_of_lt (l := (mapAt fI cI k a i)) (i := i) (by omega)
      refine q1 rfl (D_ix (l := (mapAt fI cI k a i)) (j := i) s_23 rfl rfl rfl (fun w' hs => (rd_own (k := 0) hs rfl)) rfl (lt_of_some hx4)) ?_
      refine li rfl (so (α := Int) (z := kk) 0 z_3 rfl rfl rfl rfl rfl (lt_of_some hx4) ?_)
      refine D_end ?_
      refine x_then ?_
      refine C_reg ?_
      refine p1 rfl ?_
      refine q1 rfl (D_add rfl rfl rfl rfl (by omega)) ?_
      refine p1 rfl ?_
      refine D_end ?_
      refine x_blk ?_
      refine x_then ?_
      refine C_reg ?_
      refine p1 rfl ?_
      refine q1 rfl (D_add rfl rfl rfl (r := ((i + 1 : Nat) : Int)) (by omega) (by omega)) ?_
      refine p1 rfl ?_
      refine D_end ?_
      refine x_then ?_
      refine D_eq 0 rfl (show ((mapAt fI cI k a i).set i kk : (List Int)) = mapAt fI cI k a (i + 1) from by exact mkI_set (by omega) hk) ?_
      refine fun ac w' hf hs => ⟨_, ?_, i + 1, (kk + 1), ?_, ?_, rfl, hf.weak ⟨rfl, rfl, rfl, trivial⟩, hs⟩
      · omega
      · first | assumption | omega | simp
      · first | assumption | omega | simp
    · have pr2 : ¬ (((i : Nat) : Int) : Int) < (((mapAt fI cI k a i).length : Nat) : Int) := of_decide_eq_false h2
      refine C_exit ?_
      refine x_then_exit ?_
      refine x_then_exit ?_
      refine x_blk_eq ?_
      refine x_then ?_
      refine C_seq ?_
      refine C_reg ?_
      refine p1 rfl <| p1 rfl ?_
      refine D_end ?_
      refine x_then ?_
      refine C_ret ?_
      refine D_eq 0 rfl (show (mapAt fI cI k a i : (List Int)) = mkI k a from by exact mapAt_done (by omega)) ?_
      refine R_1 rfl rfl fun w' hs => ⟨congrArg (fun z => Ending.returned (Value.int .i64 z)) ?_, hs⟩
      show (kk : Int) = k + a.length
      omega

theorem laws_heldIntS (w : World) (v_a : Value) (a : (List Int)) (k : Int) (h_a : Gd.rd w [v_a] a) (h0 : 0 ≤ k) (h1 : k + a.length ≤ 4611686018427387904) (he : a = mkI k a) : Calls Try.prog 32 [v_a, (.int .i64 k)].toArray w (Val w (.int .i64 (k + a.length))) := by
  have hm1 := rd_max h_a
  refine enter 21 Try.func32 rfl rfl rfl ?_
  refine C_seq ?_
  refine C_reg ?_
  refine p1 rfl ?_
  refine D_end ?_
  refine x_then ?_
  refine C_seq ?_
  refine C_seq ?_
  refine C_reg ?_
  refine p1 rfl ?_
  refine D_end ?_
  refine x_then ?_
  refine C_block ?_
  refine C_loop (fun m_ ac w' => ∃ (i : Nat), ∃ (kk : Int), (i ≤ a.length) ∧ (kk = k + i) ∧ m_ = a.length - i ∧ Fits ac 21 [(0, v_a), (1, (.int .i64 kk)), (5, (.int .i64 ((i : Nat) : Int)))] ∧ St w ([]) w') ?_ ?_
  · refine fun ac w' hf hs => ⟨_, 0, k, ?_, ?_, rfl, hf.weak ⟨rfl, rfl, rfl, trivial⟩, hs⟩
    · first | assumption | omega | simp
    · first | assumption | omega | simp
  · rintro m_ ac w' ⟨i, kk, hi, hk, rfl, hf, hs⟩
    refine D.use ?_ hf hs
    clear hf hs ac w'
    refine C_seq ?_
    refine C_seq ?_
    refine C_reg ?_
    refine p1 rfl <| p1 rfl ?_
    refine q1 rfl (D_len s_23 rfl rfl (rd_sl h_a)) ?_
    refine p1 rfl ?_
    refine D_end ?_
    refine x_then ?_
    refine C_if _ rfl (fun h2 => ?_) (fun h2 => ?_)
    · have pr2 : (((i : Nat) : Int) : Int) < ((a.length : Nat) : Int) := of_decide_eq_true h2
      refine C_skip ?_
      refine x_then ?_
      refine C_seq ?_
      refine C_block ?_
      refine C_seq ?_
      refine C_seq ?_
      refine C_reg ?_
      refine p1 rfl <| p1 rfl ?_
      obtain ⟨x3, hx4⟩ := some_of_lt (l := a) (i := i) (by omega)
      obtain ⟨es5, at6, hr7⟩ := rd_elem (n := 1) rfl h_a hx4
      obtain rfl : es5 = [.int .i64 x3] := hr7
      refine q1 rfl (D_ix (l := a) (j := i) s_23 rfl rfl rfl (fun w' hs => (rd_at hs h_a)) rfl (lt_of_some hx4)) ?_
      refine q1 rfl (lr0 o_3 rfl rfl at6 rfl) ?_
      refine p1 rfl <| p1 rfl ?_
      refine D_end ?_
      refine x_then ?_
      refine C_if _ rfl (fun h8 => ?_) (fun h8 => ?_)
      · have pr8 : (x3 : Int) ≠ kk := bne_iff_ne.1 h8
        refine C_seq ?_
        refine C_reg ?_
        refine p1 rfl ?_
        refine D_end ?_
        refine x_then ?_
        refine C_ret ?_
        refine x_then_ret ?_
        refine x_blk_ret ?_
        refine x_then_ret ?_
        refine x_then_ret ?_
        refine x_blk_ret ?_
        refine x_then_ret ?_
        refine R_1 rfl rfl fun w' hs => ⟨congrArg (fun z => Ending.returned (Value.int .i64 z)) ?_, hs.bel⟩
        show ((-1) : Int) = k + a.length
        exfalso; have := mkI_fix he hx4; omega
      · have pr8 : (x3 : Int) = kk := eq_of_bne_f h8
        refine C_skip ?_
        refine x_then ?_
        refine C_reg ?_
        refine p1 rfl ?_
        refine q1 rfl (D_add rfl rfl rfl rfl (by omega)) ?_
        refine p1 rfl ?_
        refine D_end ?_
        refine x_blk ?_
        refine x_then ?_
        refine C_reg ?_
        refine p1 rfl ?_
        refine q1 rfl (D_add rfl rfl rfl (r := ((i + 1 : Nat) : Int)) (by omega) (by omega)) ?_
        refine p1 rfl ?_
        refine D_end ?_
        refine x_then ?_
        refine fun ac w' hf hs => ⟨_, ?_, i + 1, (kk + 1), ?_, ?_, rfl, hf.weak ⟨rfl, rfl, rfl, trivial⟩, hs⟩
        · omega
        · first | assumption | omega | simp
        · first | assumption | omega | simp
    · have pr2 : ¬ (((i : Nat) : Int) : Int) < ((a.length : Nat) : Int) := of_decide_eq_false h2
      refine C_exit ?_
      refine x_then_exit ?_
      refine x_then_exit ?_
      refine x_blk_eq ?_
      refine x_then ?_
      refine C_seq ?_
      refine C_reg ?_
      refine p1 rfl <| p1 rfl ?_
      refine D_end ?_
      refine x_then ?_
      refine C_ret ?_
      refine R_1 rfl rfl fun w' hs => ⟨congrArg (fun z => Ending.returned (Value.int .i64 z)) ?_, hs.bel⟩
      show (kk : Int) = k + a.length
      omega

theorem laws_markReasonS (w0 : World) (Hs : List Chunk) (w : World) (v_a : Value) (a : (List Reason)) (k : Int) (h0 : 0 ≤ k) (h1 : k + sumC cR a ≤ 4611686018427387904) (hst : St w0 (ov [v_a] (a : (List Reason)) :: Hs) w) : Calls Try.prog 55 [v_a, (.int .i64 k)].toArray w (fun e w' => e = .returned (.int .i64 (k + sumC cR a)) ∧ St w0 (ov [v_a] (mkRs k a : (List Reason)) :: Hs) w') := by
  have hm1 := rd_max (rd_own (k := 0) hst rfl)
  refine enterS 34 Try.func55 rfl rfl rfl hst ?_
  refine C_seq ?_
  refine C_reg ?_
  refine p1 rfl ?_
  refine D_end ?_
  refine x_then ?_
  refine C_seq ?_
  refine C_seq ?_
  refine C_reg ?_
  refine p1 rfl ?_
  refine D_end ?_
  refine x_then ?_
  refine C_block ?_
  refine C_loop (fun m_ ac w' => ∃ (i : Nat), ∃ (kk : Int), (i ≤ a.length) ∧ (kk = k + sumC cR (a.take i)) ∧ m_ = a.length - i ∧ Fits ac 34 [(0, v_a), (1, (.int .i64 kk)), (5, (.int .i64 ((i : Nat) : Int)))] ∧ St w0 (ov [v_a] (mapAt fR cR k a i : (List Reason)) :: Hs) w') ?_ ?_
  · refine D_eq 0 rfl (show (a : (List Reason)) = mapAt fR cR k a 0 from by rw [mapAt_zero]) ?_
    refine fun ac w' hf hs => ⟨_, 0, k, ?_, ?_, rfl, hf.weak ⟨rfl, rfl, rfl, trivial⟩, hs⟩
    · first | assumption | omega | simp
    · simp [sumC]
  · rintro m_ ac w' ⟨i, kk, hi, hk, rfl, hf, hs⟩
    refine D.use ?_ hf hs
    clear hf hs ac w'
    have hcl := mapAt_len (f := fR) (c := cR) (k := k) hi
    refine C_seq ?_
    refine C_seq ?_
    refine C_reg ?_
    refine p1 rfl <| p1 rfl ?_
    refine q1 rfl (D_leno 0 s_37 rfl rfl rfl) ?_
    refine p1 rfl ?_
    refine D_end ?_
    refine x_then ?_
    refine C_if _ rfl (fun h2 => ?_) (fun h2 => ?_)
    · have pr2 : (((i : Nat) : Int) : Int) < (((mapAt fR cR k a i).length : Nat) : Int) := of_decide_eq_true h2
      refine C_skip ?_
      refine x_then ?_
      refine C_seq ?_
      refine C_block ?_
      refine C_seq ?_
      refine C_reg ?_
      refine p1 rfl <| p1 rfl <| p1 rfl ?_
      obtain ⟨x3, hx4⟩ := some_of_lt (l := (mapAt fR cR k a i)) (i := i) (by omega)
      refine D_take hx4 fun es5 => ?_
      refine D_pre (fun w' hs => shape_Reason (rd_own (k := 0) hs rfl)) ?_
      rintro ⟨v6, v7, rfl, ho8, ho9⟩
      refine q1 rfl (D_ixh 1 s_37 rfl rfl rfl rfl rfl) ?_
      have hstep := mkR_step hi hx4 hk
      refine q1 rfl (D_fa f_28_0 rfl rfl) ?_
      refine D_unpair (α := Int) (β := (List Int) × (List Int)) (c1 := [(.int .i64 x3.For)]) (c2 := [v6, v7]) (x := x3.For) (y := (x3.In, x3.Out)) rfl rfl ?_
      refine D_fd [] 1 rfl ?_
      refine D_unpair (α := (List Int)) (β := (List Int)) (c1 := [v6]) (c2 := [v7]) (x := x3.In) (y := (x3.Out)) rfl rfl ?_
      refine D_fd [1] 0 rfl ?_
      refine li rfl (sh (n := 3) (f := 0) 2 rfl z_3 rfl rfl rfl rfl rfl rfl rfl (by simp) ?_)
      refine D_end ?_
      refine x_then ?_
      refine C_seq ?_
      refine C_reg ?_
      refine p1 rfl ?_
      refine q1 rfl (D_add rfl rfl rfl rfl (by omega)) ?_
      refine p1 rfl ?_
      refine D_end ?_
      refine x_then ?_
      refine C_seq ?_
      refine C_reg ?_
      refine p1 rfl <| p1 rfl ?_
      refine q1 rfl (D_ixh 2 s_37 rfl rfl rfl rfl rfl) ?_
      refine q1 rfl (D_fa f_28_1 rfl rfl) ?_
      refine q1 rfl (lh (n := 3) 2 rfl o_23 rfl rfl rfl rfl) ?_
      refine p1 rfl ?_
      refine D_fd [1] 0 rfl ?_
      refine li rfl (cm b_31 rfl rfl rfl rfl (fun w' hs => laws_markIntS _ _ w' v6 x3.In (kk + 1) (by first | assumption | omega) (by first | assumption | omega) hs) ?_)
      refine p1 rfl ?_
      refine D_end ?_
      refine x_then ?_
      refine C_reg ?_
      refine p1 rfl <| p1 rfl ?_
      refine q1 rfl (D_ixh 2 s_37 rfl rfl rfl rfl rfl) ?_
      refine q1 rfl (D_fa f_28_2 rfl rfl) ?_
      refine q1 rfl (lh (n := 3) 2 rfl o_23 rfl rfl rfl rfl) ?_
      refine p1 rfl ?_
      refine D_fd [1] 0 rfl ?_
      refine li rfl (cm b_31 rfl rfl rfl rfl (fun w' hs => laws_markIntS _ _ w' v7 x3.Out ((kk + 1) + x3.In.length) (by first | assumption | omega) (by first | assumption | omega) hs) ?_)
      refine p1 rfl ?_
      refine D_end ?_
      refine x_blk ?_
      refine x_then ?_
      refine C_reg ?_
      refine p1 rfl ?_
      refine q1 rfl (D_add rfl rfl rfl (r := ((i + 1 : Nat) : Int)) (by omega) (by omega)) ?_
      refine p1 rfl ?_
      refine D_end ?_
      refine x_then ?_
      refine D_fd [0, 1] 0 rfl ?_
      refine pk_Reason (r := (⟨kk, mkI (kk + 1) x3.In, mkI ((kk + 1) + x3.In.length) x3.Out⟩ : Reason)) ?_
      refine D_put ?_
      refine D_eq 0 rfl (show ((mapAt fR cR k a i).set i (⟨kk, mkI (kk + 1) x3.In, mkI ((kk + 1) + x3.In.length) x3.Out⟩ : Reason) : (List Reason)) = mapAt fR cR k a (i + 1) from by exact mkR_set hi hx4 hk rfl) ?_
      refine fun ac w' hf hs => ⟨_, ?_, i + 1, (((kk + 1) + x3.In.length) + x3.Out.length), ?_, ?_, rfl, hf.weak ⟨rfl, rfl, rfl, trivial⟩, hs⟩
      · omega
      · first | assumption | omega | simp
      · omega
    · have pr2 : ¬ (((i : Nat) : Int) : Int) < (((mapAt fR cR k a i).length : Nat) : Int) := of_decide_eq_false h2
      refine C_exit ?_
      refine x_then_exit ?_
      refine x_then_exit ?_
      refine x_blk_eq ?_
      refine x_then ?_
      refine C_seq ?_
      refine C_reg ?_
      refine p1 rfl <| p1 rfl ?_
      refine D_end ?_
      refine x_then ?_
      refine C_ret ?_
      refine D_eq 0 rfl (show (mapAt fR cR k a i : (List Reason)) = mkRs k a from by exact mapAt_done (by omega)) ?_
      refine R_1 rfl rfl fun w' hs => ⟨congrArg (fun z => Ending.returned (Value.int .i64 z)) ?_, hs⟩
      show (kk : Int) = k + sumC cR a
      rw [List.take_of_length_le (by omega)] at hk; exact hk

theorem laws_markBeliefs (w0 : World) (Hs : List Chunk) (w : World) (c_a : List Value) (a : Beliefs) (k : Int) (h0 : 0 ≤ k) (h1 : k + sumC cR a.Reasons ≤ 4611686018427387904) (hst : St w0 (ov c_a (a : Beliefs) :: Hs) w) : Calls Try.prog 30 [(.agg c_a.toArray), (.int .i64 k)].toArray w (fun e w' => e = .returned (.int .i64 (k + sumC cR a.Reasons)) ∧ St w0 (ov c_a (mkB k a : Beliefs) :: Hs) w') := by
  obtain ⟨v1, rfl, ho_v1⟩ := shape_Beliefs (rd_own (k := 0) hst rfl)
  refine enterS 10 Try.func30 rfl rfl rfl hst ?_
  refine C_seq ?_
  refine C_reg ?_
  refine li rfl (D_box rfl rfl rfl rfl rfl fun g2 => ?_)
  refine p1 rfl ?_
  refine D_end ?_
  refine x_then ?_
  refine C_seq ?_
  refine C_reg ?_
  refine q1 rfl (D_fb f_39_1 rfl rfl (q := 1) rfl) ?_
  refine q1 rfl (lb 0 o_37 rfl rfl rfl rfl) ?_
  refine p1 rfl ?_
  refine D_fd [1] 0 rfl ?_
  refine D_unpair (α := Int) (β := (List Reason)) (c1 := [(.int .i64 a.Nodes)]) (c2 := [v1]) (x := a.Nodes) (y := (a.Reasons)) rfl rfl ?_
  refine D_fd [] 1 rfl ?_
  refine li rfl (cm b_55 rfl rfl rfl rfl (fun w' hs => laws_markReasonS _ _ w' v1 a.Reasons k (by first | assumption | omega) (by first | assumption | omega) hs) ?_)
  refine p1 rfl ?_
  refine D_end ?_
  refine x_then ?_
  refine C_seq ?_
  refine C_reg ?_
  refine p1 rfl <| p1 rfl ?_
  refine D_end ?_
  refine x_then ?_
  refine C_ret ?_
  refine pk_Beliefs (r := (⟨a.Nodes, mkRs k a.Reasons⟩ : Beliefs)) ?_
  refine D_eq 0 rfl (show ((⟨a.Nodes, mkRs k a.Reasons⟩ : Beliefs) : Beliefs) = mkB k a from by rfl) ?_
  refine R_1 rfl rfl fun w' hs => ⟨congrArg (fun z => Ending.returned (Value.int .i64 z)) ?_, hs.fd [0, 1] 1 rfl⟩
  show ((k + sumC cR a.Reasons) : Int) = k + sumC cR a.Reasons
  rfl

theorem impl_PremisesOf (w : World) (c_b : List Value) (b : Beliefs) (h_b : Gd.rd w c_b b) (hn : b.Reasons.length ≤ 1048576) : Calls Try.prog 28 [(.agg c_b.toArray)].toArray w (Res w (idxs isPremise b.Reasons : List Int)) := by
  obtain ⟨u1, rfl, hu2⟩ := open_Beliefs h_b
  have hm3 := rd_max hu2
  refine enter 22 Try.func28 rfl rfl rfl ?_
  refine C_seq ?_
  refine C_reg ?_
  refine li rfl (D_box rfl rfl rfl rfl rfl fun g4 => ?_)
  refine p1 rfl ?_
  refine D_end ?_
  refine x_then ?_
  refine C_seq ?_
  refine C_reg ?_
  refine p1 rfl ?_
  refine D_end ?_
  refine x_then ?_
  refine C_seq ?_
  refine C_seq ?_
  refine C_reg ?_
  refine q1 rfl (D_fb f_39_1 rfl rfl (q := 1) rfl) ?_
  refine q1 rfl (lb 0 o_37 rfl rfl rfl rfl) ?_
  refine q1 rfl (D_len s_37 rfl rfl (rd_sl hu2)) ?_
  refine p1 rfl ?_
  refine D_end ?_
  refine x_then ?_
  refine C_block ?_
  refine C_loop (fun m_ ac w' => ∃ (k : Nat), ∃ (v : Value), (k ≤ b.Reasons.length) ∧ m_ = b.Reasons.length - k ∧ Fits ac 22 [(3, v), (7, u1), (8, (.int .i64 ((b.Reasons.length : Nat) : Int))), (9, (.int .i64 ((k : Nat) : Int)))] ∧ St w ([ov [v] (idxT isPremise b.Reasons k : (List Int)), bx g4 [(.int .i64 b.Nodes), u1]]) w') ?_ ?_
  · refine D_nil (α := Int) ?_
    refine D_eq 0 rfl (show ([] : (List Int)) = idxT isPremise b.Reasons 0 from by rw [idxT_zero]) ?_
    refine fun ac w' hf hs => ⟨_, 0, (.slice none 0 0), ?_, rfl, hf.weak ⟨rfl, rfl, rfl, rfl, trivial⟩, hs⟩
    · first | assumption | omega | simp
  · rintro m_ ac w' ⟨k, v, hk, rfl, hf, hs⟩
    refine D.use ?_ hf hs
    clear hf hs ac w'
    have hcl := idxT_len isPremise b.Reasons k
    refine C_seq ?_
    refine C_reg ?_
    refine p1 rfl ?_
    refine D_end ?_
    refine x_then ?_
    refine C_seq ?_
    refine C_if _ rfl (fun h5 => ?_) (fun h5 => ?_)
    · have pr5 : (((k : Nat) : Int) : Int) < ((b.Reasons.length : Nat) : Int) := of_decide_eq_true h5
      refine C_skip ?_
      refine x_then ?_
      refine C_seq ?_
      refine C_block ?_
      refine C_seq ?_
      refine C_reg ?_
      refine p1 rfl ?_
      obtain ⟨x6, hx7⟩ := some_of_lt (l := b.Reasons) (i := k) (by omega)
      obtain ⟨es8, at9, hr10⟩ := rd_elem (n := 3) rfl hu2 hx7
      obtain ⟨u11, u13, rfl, hu12, hu14⟩ := open_Reason hr10
      have hm15 := rd_max hu12
      have hm16 := rd_max hu14
      refine q1 rfl (D_ix (l := b.Reasons) (j := k) s_37 rfl rfl rfl (fun w' hs => (rd_at hs hu2)) rfl (lt_of_some hx7)) ?_
      refine q1 rfl (lra a_28 rfl rfl at9) ?_
      refine li rfl (D_alloc y_28 rfl rfl rfl rfl fun g17 => ?_)
      refine p1 rfl ?_
      refine li rfl (D_stb (vs := [(.int .i64 x6.For), u11, u13]) (cs' := [(.int .i64 x6.For), u11, u13]) 0 z_28 rfl rfl rfl rfl rfl rfl (ocons rfl (ocons (one_rd hu12) (ocons (one_rd hu14) onil))) (by simp) rfl ?_)
      refine D_end ?_
      refine x_then ?_
      refine C_seq ?_
      refine C_reg ?_
      refine q1 rfl (lbw 0 a_28 rfl rfl rfl) ?_
      refine li rfl (cv b_15 rfl rfl rfl rfl (fun w' hs => (impl_IsPremise w' [(.int .i64 x6.For), u11, u13] x6 (rd_at hs hr10))) ?_)
      refine D_end ?_
      refine x_then ?_
      refine C_if _ rfl (fun h18 => ?_) (fun h18 => ?_)
      · refine C_reg ?_
        refine p1 rfl <| p1 rfl ?_
        refine li rfl (D_bs s_23 y_3 rfl (by decide) (by decide) rfl rfl rfl rfl rfl rfl fun g19 => ?_)
        refine D_fi ((k : Nat) : Int) ?_
        refine D_fd [1, 1, 3] 0 rfl ?_
        refine li rfl (D_ap s_23 y_3 rfl (by decide) rfl rfl rfl rfl rfl rfl (by first | omega | (simp; omega)) (by first | omega | (simp; omega)) fun v20 => ?_)
        refine p1 rfl ?_
        refine D_end ?_
        refine x_blk ?_
        refine x_then ?_
        refine C_reg ?_
        refine q1 rfl (D_add rfl rfl rfl (r := ((k + 1 : Nat) : Int)) (by omega) (by omega)) ?_
        refine p1 rfl ?_
        refine D_end ?_
        refine x_then ?_
        refine D_eq 0 rfl (show ((idxT isPremise b.Reasons k) ++ [((k : Nat) : Int)] : (List Int)) = idxT isPremise b.Reasons (k + 1) from by first | exact idxT_t hx7 h18 | exact idxT_f hx7 h18) ?_
        refine fun ac w' hf hs => ⟨_, ?_, k + 1, v20, ?_, rfl, hf.weak ⟨rfl, rfl, rfl, rfl, trivial⟩, hs.fd [2, 1, 2] 1 rfl⟩
        · omega
        · first | assumption | omega | simp
      · refine C_skip ?_
        refine x_blk ?_
        refine x_then ?_
        refine C_reg ?_
        refine q1 rfl (D_add rfl rfl rfl (r := ((k + 1 : Nat) : Int)) (by omega) (by omega)) ?_
        refine p1 rfl ?_
        refine D_end ?_
        refine x_then ?_
        refine D_eq 1 rfl (show (idxT isPremise b.Reasons k : (List Int)) = idxT isPremise b.Reasons (k + 1) from by first | exact idxT_t hx7 h18 | exact idxT_f hx7 h18) ?_
        refine fun ac w' hf hs => ⟨_, ?_, k + 1, v, ?_, rfl, hf.weak ⟨rfl, rfl, rfl, rfl, trivial⟩, hs.fd [] 1 rfl⟩
        · omega
        · first | assumption | omega | simp
    · have pr5 : ¬ (((k : Nat) : Int) : Int) < ((b.Reasons.length : Nat) : Int) := of_decide_eq_false h5
      refine C_exit ?_
      refine x_then_exit ?_
      refine x_then_exit ?_
      refine x_blk_eq ?_
      refine x_then ?_
      refine C_seq ?_
      refine C_reg ?_
      refine p1 rfl <| p1 rfl ?_
      refine D_end ?_
      refine x_then ?_
      refine C_ret ?_
      refine R_1 rfl rfl fun w' hs => res_of (k := 0) hs rfl ?_
      show idxT isPremise b.Reasons k = idxs isPremise b.Reasons
      exact idxT_done (by omega)

theorem spec_PremisesOf (w : World) (c_b : List Value) (b : Beliefs) (h_b : Gd.rd w c_b b) (hn : b.Reasons.length ≤ 1048576) : Calls Try.prog 27 [(.agg c_b.toArray)].toArray w (Res w (idxs isPremise b.Reasons : List Int)) := by
  obtain ⟨u1, rfl, hu2⟩ := open_Beliefs h_b
  have hm3 := rd_max hu2
  refine enter 24 Try.func27 rfl rfl rfl ?_
  refine C_seq ?_
  refine C_reg ?_
  refine li rfl (D_box rfl rfl rfl rfl rfl fun g4 => ?_)
  refine p1 rfl ?_
  refine D_end ?_
  refine x_then ?_
  refine C_seq ?_
  refine C_reg ?_
  refine li rfl (D_bs0 (α := Int) s_23 rfl rfl rfl fun v5 => ?_)
  refine p1 rfl ?_
  refine D_end ?_
  refine x_then ?_
  refine C_seq ?_
  refine C_seq ?_
  refine C_reg ?_
  refine p1 rfl ?_
  refine D_end ?_
  refine x_then ?_
  refine C_block ?_
  refine C_loop (fun m_ ac w' => ∃ (k : Nat), ∃ (v : Value), (k ≤ b.Reasons.length) ∧ m_ = b.Reasons.length - k ∧ Fits ac 24 [(1, (.pointer (some ⟨g4, 0, none⟩))), (3, v), (4, (.int .i64 ((k : Nat) : Int)))] ∧ St w ([ov [v] (idxT isPremise b.Reasons k : (List Int)), bx g4 [(.int .i64 b.Nodes), u1]]) w') ?_ ?_
  · refine D_eq 0 rfl (show ([] : (List Int)) = idxT isPremise b.Reasons 0 from by rw [idxT_zero]) ?_
    refine fun ac w' hf hs => ⟨_, 0, v5, ?_, rfl, hf.weak ⟨rfl, rfl, rfl, trivial⟩, hs⟩
    · first | assumption | omega | simp
  · rintro m_ ac w' ⟨k, v, hk, rfl, hf, hs⟩
    refine D.use ?_ hf hs
    clear hf hs ac w'
    have hcl := idxT_len isPremise b.Reasons k
    refine C_seq ?_
    refine C_seq ?_
    refine C_reg ?_
    refine p1 rfl ?_
    refine q1 rfl (D_fb f_39_1 rfl rfl (q := 1) rfl) ?_
    refine q1 rfl (lb 1 o_37 rfl rfl rfl rfl) ?_
    refine q1 rfl (D_len s_37 rfl rfl (rd_sl hu2)) ?_
    refine p1 rfl ?_
    refine D_end ?_
    refine x_then ?_
    refine C_if _ rfl (fun h6 => ?_) (fun h6 => ?_)
    · have pr6 : (((k : Nat) : Int) : Int) < ((b.Reasons.length : Nat) : Int) := of_decide_eq_true h6
      refine C_skip ?_
      refine x_then ?_
      refine C_seq ?_
      refine C_block ?_
      refine C_seq ?_
      refine C_reg ?_
      refine q1 rfl (D_fb f_39_1 rfl rfl (q := 1) rfl) ?_
      refine q1 rfl (lb 1 o_37 rfl rfl rfl rfl) ?_
      refine p1 rfl ?_
      obtain ⟨x7, hx8⟩ := some_of_lt (l := b.Reasons) (i := k) (by omega)
      obtain ⟨es9, at10, hr11⟩ := rd_elem (n := 3) rfl hu2 hx8
      obtain ⟨u12, u14, rfl, hu13, hu15⟩ := open_Reason hr11
      have hm16 := rd_max hu13
      have hm17 := rd_max hu15
      refine q1 rfl (D_ix (l := b.Reasons) (j := k) s_37 rfl rfl rfl (fun w' hs => (rd_at hs hu2)) rfl (lt_of_some hx8)) ?_
      refine q1 rfl (lra a_28 rfl rfl at10) ?_
      refine li rfl (cv b_13 rfl rfl rfl rfl (fun w' hs => (spec_IsPremise w' [(.int .i64 x7.For), u12, u14] x7 (rd_at hs hr11))) ?_)
      refine D_end ?_
      refine x_then ?_
      refine C_if _ rfl (fun h18 => ?_) (fun h18 => ?_)
      · refine C_reg ?_
        refine p1 rfl <| p1 rfl ?_
        refine li rfl (D_bs s_23 y_3 rfl (by decide) (by decide) rfl rfl rfl rfl rfl rfl fun g19 => ?_)
        refine D_fi ((k : Nat) : Int) ?_
        refine D_fd [1, 1, 2] 0 rfl ?_
        refine li rfl (D_ap s_23 y_3 rfl (by decide) rfl rfl rfl rfl rfl rfl (by first | omega | (simp; omega)) (by first | omega | (simp; omega)) fun v20 => ?_)
        refine p1 rfl ?_
        refine D_end ?_
        refine x_blk ?_
        refine x_then ?_
        refine C_reg ?_
        refine p1 rfl ?_
        refine q1 rfl (D_add rfl rfl rfl (r := ((k + 1 : Nat) : Int)) (by omega) (by omega)) ?_
        refine p1 rfl ?_
        refine D_end ?_
        refine x_then ?_
        refine D_eq 0 rfl (show ((idxT isPremise b.Reasons k) ++ [((k : Nat) : Int)] : (List Int)) = idxT isPremise b.Reasons (k + 1) from by first | exact idxT_t hx8 h18 | exact idxT_f hx8 h18) ?_
        refine fun ac w' hf hs => ⟨_, ?_, k + 1, v20, ?_, rfl, hf.weak ⟨rfl, rfl, rfl, trivial⟩, hs⟩
        · omega
        · first | assumption | omega | simp
      · refine C_skip ?_
        refine x_blk ?_
        refine x_then ?_
        refine C_reg ?_
        refine p1 rfl ?_
        refine q1 rfl (D_add rfl rfl rfl (r := ((k + 1 : Nat) : Int)) (by omega) (by omega)) ?_
        refine p1 rfl ?_
        refine D_end ?_
        refine x_then ?_
        refine D_eq 0 rfl (show (idxT isPremise b.Reasons k : (List Int)) = idxT isPremise b.Reasons (k + 1) from by first | exact idxT_t hx8 h18 | exact idxT_f hx8 h18) ?_
        refine fun ac w' hf hs => ⟨_, ?_, k + 1, v, ?_, rfl, hf.weak ⟨rfl, rfl, rfl, trivial⟩, hs⟩
        · omega
        · first | assumption | omega | simp
    · have pr6 : ¬ (((k : Nat) : Int) : Int) < ((b.Reasons.length : Nat) : Int) := of_decide_eq_false h6
      refine C_exit ?_
      refine x_then_exit ?_
      refine x_then_exit ?_
      refine x_blk_eq ?_
      refine x_then ?_
      refine C_seq ?_
      refine C_reg ?_
      refine p1 rfl <| p1 rfl ?_
      refine D_end ?_
      refine x_then ?_
      refine C_ret ?_
      refine R_1 rfl rfl fun w' hs => res_of (k := 0) hs rfl ?_
      show idxT isPremise b.Reasons k = idxs isPremise b.Reasons
      exact idxT_done (by omega)

theorem laws_FnExactPremisesOf (w : World) (c_aB : List Value) (aB : Beliefs) (h_aB : Gd.rd w c_aB aB) : Calls Try.prog 7 [(.agg c_aB.toArray)].toArray w (Val w (.bool (true))) := by
  obtain ⟨u1, rfl, hu2⟩ := open_Beliefs h_aB
  have hm3 := rd_max hu2
  refine enter 69 Try.func7 rfl rfl rfl ?_
  refine C_seq ?_
  refine C_reg ?_
  refine li rfl (D_box rfl rfl rfl rfl rfl fun g4 => ?_)
  refine p1 rfl ?_
  refine D_end ?_
  refine x_then ?_
  refine C_seq ?_
  refine C_reg ?_
  refine p1 rfl ?_
  refine D_end ?_
  refine x_then ?_
  refine C_seq ?_
  refine C_reg ?_
  refine q1 rfl (lbw 0 a_34 rfl rfl rfl) ?_
  have hz1 := szB_len aB
  have hz2 := szB_sum aB
  have hz3 := idxs_len isPremise aB.Reasons
  refine p1 rfl ?_
  refine li rfl (cv b_17 rfl rfl rfl rfl (fun w' hs => (laws_szBeliefs w' [(.int .i64 aB.Nodes), u1] aB 1048576 (rd_at hs h_aB) (by first | assumption | omega | (unfold szm at *; split at * <;> omega)) (by first | assumption | omega | (unfold szm at *; split at * <;> omega)))) ?_)
  refine p1 rfl ?_
  refine D_end ?_
  refine x_then ?_
  refine C_seq ?_
  refine C_seq ?_
  refine C_reg ?_
  refine p1 rfl <| p1 rfl ?_
  refine D_end ?_
  refine x_then ?_
  refine C_if _ rfl (fun h5 => ?_) (fun h5 => ?_)
  · have pr5 : ((szm (szB aB) 1048576) : Int) < 0 := of_decide_eq_true h5
    refine C_seq ?_
    refine C_reg ?_
    refine p1 rfl ?_
    refine D_end ?_
    refine x_then ?_
    refine C_ret ?_
    refine x_then_ret ?_
    refine R_1 rfl rfl fun w' hs => ⟨congrArg (fun z => Ending.returned (Value.bool z)) ?_, hs.bel⟩
    show (true : Bool) = true
    first | rfl | (exfalso; omega) | (exfalso; simp only [mapS_len, sumB_mk, sumR_mk] at *; omega) | exact absurd h5 (by simp [mapS_len])
  · have pr5 : ¬ ((szm (szB aB) 1048576) : Int) < 0 := of_decide_eq_false h5
    have pr5z := szm_val (n := (szB aB)) (left := 1048576) pr5
    refine C_skip ?_
    refine x_then ?_
    refine C_seq ?_
    refine C_reg ?_
    refine q1 rfl (lbw 0 a_34 rfl rfl rfl) ?_
    refine li rfl (crs rfl b_19 rfl rfl rfl rfl (fun w' hs => (laws_toBeliefs w' [(.int .i64 aB.Nodes), u1] aB (rd_at hs h_aB) (by first | assumption | omega | (unfold szm at *; split at * <;> omega)))) fun cs6 => ?_)
    refine D_pre (fun w' hs => shape_Beliefs (rd_own (k := 0) hs rfl)) ?_
    rintro ⟨v7, rfl, ho8⟩
    refine li rfl (crl b_27 rfl rfl rfl rfl (fun w' hs => (spec_PremisesOf w' [(.int .i64 aB.Nodes), v7] aB (rd_own (k := 0) hs rfl) (by first | assumption | omega | (unfold szm at *; split at * <;> omega)))) fun v9 => ?_)
    refine p1 rfl ?_
    refine D_end ?_
    refine x_then ?_
    refine C_seq ?_
    refine C_reg ?_
    refine q1 rfl (lbw 2 a_34 rfl rfl rfl) ?_
    refine li rfl (crs rfl b_19 rfl rfl rfl rfl (fun w' hs => (laws_toBeliefs w' [(.int .i64 aB.Nodes), u1] aB (rd_at hs h_aB) (by first | assumption | omega | (unfold szm at *; split at * <;> omega)))) fun cs10 => ?_)
    refine D_pre (fun w' hs => shape_Beliefs (rd_own (k := 0) hs rfl)) ?_
    rintro ⟨v11, rfl, ho12⟩
    refine li rfl (D_alloc y_39 rfl rfl rfl rfl fun g13 => ?_)
    refine li rfl (D_stb (vs := [(.int .i64 aB.Nodes), v11]) (cs' := [(.int .i64 aB.Nodes), v11]) 0 z_39 rfl rfl rfl rfl rfl rfl (ocons rfl (ocons ho12 onil)) (by simp) rfl ?_)
    refine D_end ?_
    refine x_then ?_
    refine C_seq ?_
    refine C_reg ?_
    refine q1 rfl (lbw 0 a_39 rfl rfl rfl) ?_
    refine li rfl (crl b_28 rfl rfl rfl rfl (fun w' hs => (impl_PremisesOf w' [(.int .i64 aB.Nodes), v11] aB (rd_own (k := 1) hs rfl) (by first | assumption | omega | (unfold szm at *; split at * <;> omega)))) fun v14 => ?_)
    refine p1 rfl ?_
    refine D_end ?_
    refine x_then ?_
    refine C_seq ?_
    refine C_seq ?_
    refine C_reg ?_
    refine p1 rfl <| p1 rfl ?_
    refine li rfl (cv b_29 rfl rfl rfl rfl (fun w' hs => (laws_eqIntS w' v14 (idxs isPremise aB.Reasons) v9 (idxs isPremise aB.Reasons) (rd_own (k := 0) hs rfl) (rd_own (k := 3) hs rfl))) ?_)
    refine p1 rfl ?_
    refine D_end ?_
    refine x_then ?_
    refine C_if _ rfl (fun h15 => ?_) (fun h15 => ?_)
    · have h15n : (decide ((idxs isPremise aB.Reasons) = (idxs isPremise aB.Reasons))) = false := not_t h15
      refine C_seq ?_
      refine C_reg ?_
      refine p1 rfl ?_
      refine D_end ?_
      refine x_then ?_
      refine C_ret ?_
      refine x_then_ret ?_
      refine R_1 rfl rfl fun w' hs => ⟨congrArg (fun z => Ending.returned (Value.bool z)) ?_, hs.bel⟩
      show (false : Bool) = true
      first | rfl | (exfalso; omega) | (exfalso; simp only [mapS_len, sumB_mk, sumR_mk] at *; omega) | exact absurd h15 (by simp [mapS_len])
    · have h15n : (decide ((idxs isPremise aB.Reasons) = (idxs isPremise aB.Reasons))) = true := not_f h15
      refine C_skip ?_
      refine x_then ?_
      refine C_seq ?_
      refine C_seq ?_
      refine C_draw mixed 5 (by kernel_rfl) ?_
      refine tk 0 rfl (by kernel_rfl) (by kernel_rfl) (by kernel_rfl) rfl (fun _ hs => hs) (lbw 1 a_39 rfl rfl rfl) ?_
      refine tk 1 rfl (by kernel_rfl) (by kernel_rfl) (by kernel_rfl) rfl (fun _ hs => hs) (lbw 5 a_34 rfl rfl rfl) ?_
      refine ty 2 rfl (by kernel_rfl) rfl (crs rfl b_19 rfl rfl rfl rfl (fun w' hs => (laws_toBeliefs w' [(.int .i64 aB.Nodes), u1] aB (rd_at hs h_aB) (by first | assumption | omega | (unfold szm at *; split at * <;> omega)))) fun cs16 => ?_)
      refine D_pre (fun w' hs => shape_Beliefs (rd_own (k := 0) hs rfl)) ?_
      rintro ⟨v17, rfl, ho18⟩
      refine tS (fun _ hs => hs.fd [] 1 rfl) ?_
      refine ty 3 rfl (by kernel_rfl) rfl (cv b_21 rfl rfl rfl rfl (fun w' hs => (laws_eqBeliefs w' [(.int .i64 aB.Nodes), v11] aB [(.int .i64 aB.Nodes), v17] aB (rd_own (k := 3) hs rfl) (rd_own (k := 0) hs rfl))) ?_)
      refine tS (fun _ hs => hs.fd [] 1 rfl) ?_
      refine tk 4 rfl (by kernel_rfl) (by kernel_rfl) (by kernel_rfl) rfl (fun _ hs => hs.fd [] 1 rfl) (rp rfl) ?_
      refine tE (by kernel_rfl) ?_
      refine x_then ?_
      refine C_if _ rfl (fun h19 => ?_) (fun h19 => ?_)
      · have h19n : (decide (aB = aB)) = false := not_t h19
        refine C_seq ?_
        refine C_reg ?_
        refine p1 rfl ?_
        refine D_end ?_
        refine x_then ?_
        refine C_ret ?_
        refine x_then_ret ?_
        refine R_1 rfl rfl fun w' hs => ⟨congrArg (fun z => Ending.returned (Value.bool z)) ?_, hs.bel⟩
        show (false : Bool) = true
        first | rfl | (exfalso; omega) | (exfalso; simp only [mapS_len, sumB_mk, sumR_mk] at *; omega) | exact absurd h19 (by simp [mapS_len])
      · have h19n : (decide (aB = aB)) = true := not_f h19
        refine C_skip ?_
        refine x_then ?_
        refine C_seq ?_
        refine C_reg ?_
        refine p1 rfl ?_
        refine D_end ?_
        refine x_then ?_
        refine C_seq ?_
        refine C_reg ?_
        refine q1 rfl (lbw 2 a_39 rfl rfl rfl) ?_
        refine p1 rfl ?_
        refine D_fd [3] 0 rfl ?_
        refine li rfl (cm b_30 rfl rfl rfl rfl (fun w' hs => laws_markBeliefs _ _ w' [(.int .i64 aB.Nodes), v11] aB 1 (by first | assumption | omega) (by first | assumption | omega) hs) ?_)
        refine p1 rfl ?_
        refine D_end ?_
        refine x_then ?_
        refine C_seq ?_
        refine C_seq ?_
        refine C_reg ?_
        refine p1 rfl <| p1 rfl <| p1 rfl ?_
        refine gs 37 rfl rfl (fun h20 => ?_) (fun h20 => ?_)
        · have pr20 : ((1 + sumC cR aB.Reasons) : Int) < 0 := of_decide_eq_true h20
          refine n1 rfl ?_
          refine n1 rfl ?_
          refine n1 rfl ?_
          refine n1 rfl ?_
          refine p1 rfl ?_
          refine D_end ?_
          refine x_then ?_
          refine C_t rfl ?_
          refine C_seq ?_
          refine C_reg ?_
          refine p1 rfl ?_
          refine D_end ?_
          refine x_then ?_
          refine C_ret ?_
          refine x_then_ret ?_
          refine R_1 rfl rfl fun w' hs => ⟨congrArg (fun z => Ending.returned (Value.bool z)) ?_, hs.bel⟩
          show (false : Bool) = true
          first | rfl | (exfalso; omega) | (exfalso; simp only [mapS_len, sumB_mk, sumR_mk] at *; omega) | exact absurd h20 (by simp [mapS_len])
        · have pr20 : ¬ ((1 + sumC cR aB.Reasons) : Int) < 0 := of_decide_eq_false h20
          refine p1 rfl <| p1 rfl ?_
          refine li rfl (cv b_29 rfl rfl rfl rfl (fun w' hs => (laws_eqIntS w' v14 (idxs isPremise aB.Reasons) v9 (idxs isPremise aB.Reasons) (rd_own (k := 2) hs rfl) (rd_own (k := 4) hs rfl))) ?_)
          refine p1 rfl <| p1 rfl ?_
          refine D_end ?_
          refine x_then ?_
          refine C_if _ rfl (fun h21 => ?_) (fun h21 => ?_)
          · have h21n : (decide ((idxs isPremise aB.Reasons) = (idxs isPremise aB.Reasons))) = false := not_t h21
            refine C_seq ?_
            refine C_reg ?_
            refine p1 rfl ?_
            refine D_end ?_
            refine x_then ?_
            refine C_ret ?_
            refine x_then_ret ?_
            refine R_1 rfl rfl fun w' hs => ⟨congrArg (fun z => Ending.returned (Value.bool z)) ?_, hs.bel⟩
            show (false : Bool) = true
            first | rfl | (exfalso; omega) | (exfalso; simp only [mapS_len, sumB_mk, sumR_mk] at *; omega) | exact absurd h21 (by simp [mapS_len])
          · have h21n : (decide ((idxs isPremise aB.Reasons) = (idxs isPremise aB.Reasons))) = true := not_f h21
            refine C_skip ?_
            refine x_then ?_
            refine C_seq ?_
            refine C_reg ?_
            refine p1 rfl ?_
            refine D_end ?_
            refine x_then ?_
            refine C_seq ?_
            refine C_reg ?_
            refine p1 rfl <| p1 rfl ?_
            refine D_fd [2] 0 rfl ?_
            refine li rfl (cm b_31 rfl rfl rfl rfl (fun w' hs => laws_markIntS _ _ w' v14 (idxs isPremise aB.Reasons) 1 (by first | assumption | omega) (by first | assumption | omega) hs) ?_)
            refine p1 rfl ?_
            refine D_end ?_
            refine x_then ?_
            refine C_seq ?_
            refine C_reg ?_
            refine p1 rfl ?_
            refine D_end ?_
            refine x_then ?_
            refine C_seq ?_
            refine C_reg ?_
            refine p1 rfl <| p1 rfl ?_
            refine li rfl (cv b_32 rfl rfl rfl rfl (fun w' hs => (laws_heldIntS w' v14 (mkI 1 (idxs isPremise aB.Reasons)) 1 (rd_own (k := 0) hs rfl) (by first | assumption | omega | (unfold szm at *; split at * <;> omega)) (by rw [mapS_len]; omega) (mkI_idem _ _))) ?_)
            refine p1 rfl ?_
            refine D_end ?_
            refine x_then ?_
            refine C_seq ?_
            refine C_seq ?_
            refine C_reg ?_
            refine p1 rfl <| p1 rfl ?_
            refine D_end ?_
            refine x_then ?_
            refine C_if _ rfl (fun h22 => ?_) (fun h22 => ?_)
            · have pr22 : ((1 + (mkI 1 (idxs isPremise aB.Reasons)).length) : Int) < 0 := of_decide_eq_true h22
              refine C_seq ?_
              refine C_reg ?_
              refine p1 rfl ?_
              refine D_end ?_
              refine x_then ?_
              refine C_ret ?_
              refine x_then_ret ?_
              refine R_1 rfl rfl fun w' hs => ⟨congrArg (fun z => Ending.returned (Value.bool z)) ?_, hs.bel⟩
              show (false : Bool) = true
              first | rfl | (exfalso; omega) | (exfalso; simp only [mapS_len, sumB_mk, sumR_mk] at *; omega) | exact absurd h22 (by simp [mapS_len])
            · have pr22 : ¬ ((1 + (mkI 1 (idxs isPremise aB.Reasons)).length) : Int) < 0 := of_decide_eq_false h22
              refine C_skip ?_
              refine x_then ?_
              refine C_seq ?_
              refine C_seq ?_
              refine C_reg ?_
              refine p1 rfl <| p1 rfl <| p1 rfl ?_
              refine D_end ?_
              refine x_then ?_
              refine C_if _ rfl (fun h23 => ?_) (fun h23 => ?_)
              · have pr23 : ((1 + (mkI 1 (idxs isPremise aB.Reasons)).length) : Int) ≠ (1 + (idxs isPremise aB.Reasons).length) := bne_iff_ne.1 h23
                refine C_seq ?_
                refine C_reg ?_
                refine p1 rfl ?_
                refine D_end ?_
                refine x_then ?_
                refine C_ret ?_
                refine x_then_ret ?_
                refine R_1 rfl rfl fun w' hs => ⟨congrArg (fun z => Ending.returned (Value.bool z)) ?_, hs.bel⟩
                show (false : Bool) = true
                first | rfl | (exfalso; omega) | (exfalso; simp only [mapS_len, sumB_mk, sumR_mk] at *; omega) | exact absurd h23 (by simp [mapS_len])
              · have pr23 : ((1 + (mkI 1 (idxs isPremise aB.Reasons)).length) : Int) = (1 + (idxs isPremise aB.Reasons).length) := eq_of_bne_f h23
                refine C_skip ?_
                refine x_then ?_
                refine C_seq ?_
                refine C_reg ?_
                refine q1 rfl (lbw 6 a_34 rfl rfl rfl) ?_
                refine li rfl (crs rfl b_19 rfl rfl rfl rfl (fun w' hs => (laws_toBeliefs w' [(.int .i64 aB.Nodes), u1] aB (rd_at hs h_aB) (by first | assumption | omega | (unfold szm at *; split at * <;> omega)))) fun cs24 => ?_)
                refine D_pre (fun w' hs => shape_Beliefs (rd_own (k := 0) hs rfl)) ?_
                rintro ⟨v25, rfl, ho26⟩
                refine li rfl (crl b_28 rfl rfl rfl rfl (fun w' hs => (impl_PremisesOf w' [(.int .i64 aB.Nodes), v25] aB (rd_own (k := 0) hs rfl) (by first | assumption | omega | (unfold szm at *; split at * <;> omega)))) fun v27 => ?_)
                refine p1 rfl ?_
                refine D_end ?_
                refine x_then ?_
                refine C_seq ?_
                refine C_seq ?_
                refine C_reg ?_
                refine p1 rfl <| p1 rfl ?_
                refine li rfl (cv b_29 rfl rfl rfl rfl (fun w' hs => (laws_eqIntS w' v27 (idxs isPremise aB.Reasons) v9 (idxs isPremise aB.Reasons) (rd_own (k := 0) hs rfl) (rd_own (k := 6) hs rfl))) ?_)
                refine p1 rfl ?_
                refine D_end ?_
                refine x_then ?_
                refine C_if _ rfl (fun h28 => ?_) (fun h28 => ?_)
                · have h28n : (decide ((idxs isPremise aB.Reasons) = (idxs isPremise aB.Reasons))) = false := not_t h28
                  refine C_seq ?_
                  refine C_reg ?_
                  refine p1 rfl ?_
                  refine D_end ?_
                  refine x_then ?_
                  refine C_ret ?_
                  refine x_then_ret ?_
                  refine R_1 rfl rfl fun w' hs => ⟨congrArg (fun z => Ending.returned (Value.bool z)) ?_, hs.bel⟩
                  show (false : Bool) = true
                  first | rfl | (exfalso; omega) | (exfalso; simp only [mapS_len, sumB_mk, sumR_mk] at *; omega) | exact absurd h28 (by simp [mapS_len])
                · have h28n : (decide ((idxs isPremise aB.Reasons) = (idxs isPremise aB.Reasons))) = true := not_f h28
                  refine C_skip ?_
                  refine x_then ?_
                  refine C_seq ?_
                  refine C_reg ?_
                  refine p1 rfl ?_
                  refine D_end ?_
                  refine x_then ?_
                  refine C_seq ?_
                  refine C_reg ?_
                  refine p1 rfl <| p1 rfl ?_
                  refine li rfl (cv b_32 rfl rfl rfl rfl (fun w' hs => (laws_heldIntS w' v14 (mkI 1 (idxs isPremise aB.Reasons)) 1 (rd_own (k := 2) hs rfl) (by first | assumption | omega | (unfold szm at *; split at * <;> omega)) (by rw [mapS_len]; omega) (mkI_idem _ _))) ?_)
                  refine p1 rfl ?_
                  refine D_end ?_
                  refine x_then ?_
                  refine C_seq ?_
                  refine C_seq ?_
                  refine C_reg ?_
                  refine p1 rfl <| p1 rfl ?_
                  refine D_end ?_
                  refine x_then ?_
                  refine C_if _ rfl (fun h29 => ?_) (fun h29 => ?_)
                  · have pr29 : ((1 + (mkI 1 (idxs isPremise aB.Reasons)).length) : Int) < 0 := of_decide_eq_true h29
                    refine C_seq ?_
                    refine C_reg ?_
                    refine p1 rfl ?_
                    refine D_end ?_
                    refine x_then ?_
                    refine C_ret ?_
                    refine x_then_ret ?_
                    refine R_1 rfl rfl fun w' hs => ⟨congrArg (fun z => Ending.returned (Value.bool z)) ?_, hs.bel⟩
                    show (false : Bool) = true
                    first | rfl | (exfalso; omega) | (exfalso; simp only [mapS_len, sumB_mk, sumR_mk] at *; omega) | exact absurd h29 (by simp [mapS_len])
                  · have pr29 : ¬ ((1 + (mkI 1 (idxs isPremise aB.Reasons)).length) : Int) < 0 := of_decide_eq_false h29
                    refine C_skip ?_
                    refine x_then ?_
                    refine C_seq ?_
                    refine C_seq ?_
                    refine C_reg ?_
                    refine p1 rfl <| p1 rfl <| p1 rfl ?_
                    refine D_end ?_
                    refine x_then ?_
                    refine C_if _ rfl (fun h30 => ?_) (fun h30 => ?_)
                    · have pr30 : ((1 + (mkI 1 (idxs isPremise aB.Reasons)).length) : Int) ≠ (1 + (idxs isPremise aB.Reasons).length) := bne_iff_ne.1 h30
                      refine C_seq ?_
                      refine C_reg ?_
                      refine p1 rfl ?_
                      refine D_end ?_
                      refine x_then ?_
                      refine C_ret ?_
                      refine x_then_ret ?_
                      refine R_1 rfl rfl fun w' hs => ⟨congrArg (fun z => Ending.returned (Value.bool z)) ?_, hs.bel⟩
                      show (false : Bool) = true
                      first | rfl | (exfalso; omega) | (exfalso; simp only [mapS_len, sumB_mk, sumR_mk] at *; omega) | exact absurd h30 (by simp [mapS_len])
                    · have pr30 : ((1 + (mkI 1 (idxs isPremise aB.Reasons)).length) : Int) = (1 + (idxs isPremise aB.Reasons).length) := eq_of_bne_f h30
                      refine C_skip ?_
                      refine x_then ?_
                      refine C_seq ?_
                      refine C_reg ?_
                      refine p1 rfl ?_
                      refine D_end ?_
                      refine x_then ?_
                      refine C_ret ?_
                      refine R_1 rfl rfl fun w' hs => ⟨congrArg (fun z => Ending.returned (Value.bool z)) ?_, hs.bel⟩
                      show (true : Bool) = true
                      first | rfl | (exfalso; omega) | (exfalso; simp only [mapS_len, sumB_mk, sumR_mk] at *; omega) | exact absurd h30 (by simp [mapS_len])
end Go.Sy.Bel3
