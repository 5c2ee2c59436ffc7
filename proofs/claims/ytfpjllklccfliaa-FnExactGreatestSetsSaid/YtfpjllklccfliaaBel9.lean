/-
  Contracts of functions of the program, walked (printed by a program of ours).
  Conditions: those that each theorem states.
-/
import Derived.Test.YtfpjllklccfliaaBel8
import Derived.Test.YtfpjllklccfliaaBad
set_option linter.unusedVariables false
set_option maxRecDepth 20000
namespace Go.Sy.Bel9
open Go Go.RowKit Go.Proofs Go.Sy
theorem mixed : Try.prog.follows .mixedOrders = true := by kernel_rfl
theorem s_42 : sliceTy Try.prog 42 = some (4, 1, 1) := by kernel_rfl
theorem o_4 : oneTy Try.prog 4 = true := by kernel_rfl
theorem ub_4 : Try.prog.underlying 4 = some .bool := by kernel_rfl
theorem z_4 : sizeTy Try.prog 4 = some 1 := by kernel_rfl
theorem a_24 : aggTy Try.prog 24 = some 2 := by kernel_rfl
theorem b_18 : hasBody Try.prog 18 = true := by kernel_rfl
theorem b_20 : hasBody Try.prog 20 = true := by kernel_rfl
theorem b_19 : hasBody Try.prog 19 = true := by kernel_rfl
theorem y_32 : zeroTy Try.prog 32 = some (.agg #[(.int .i64 0), (.slice none 0 0)]) := by kernel_rfl
theorem z_32 : sizeTy Try.prog 32 = some 2 := by kernel_rfl
theorem a_32 : aggTy Try.prog 32 = some 2 := by kernel_rfl
theorem b_21 : hasBody Try.prog 21 = true := by kernel_rfl
theorem b_22 : hasBody Try.prog 22 = true := by kernel_rfl
theorem b_23 : hasBody Try.prog 23 = true := by kernel_rfl
theorem b_24 : hasBody Try.prog 24 = true := by kernel_rfl
theorem b_25 : hasBody Try.prog 25 = true := by kernel_rfl
theorem b_26 : hasBody Try.prog 26 = true := by kernel_rfl
theorem b_50 : hasBody Try.prog 50 = true := by kernel_rfl
theorem s_25 : sliceTy Try.prog 25 = some (3, 1, 8) := by kernel_rfl
theorem o_3 : oneTy Try.prog 3 = true := by kernel_rfl
theorem y_3 : zeroTy Try.prog 3 = some (.int .i64 0) := by kernel_rfl
theorem b_61 : hasBody Try.prog 61 = true := by kernel_rfl
theorem b_62 : hasBody Try.prog 62 = true := by kernel_rfl
theorem b_54 : hasBody Try.prog 54 = true := by kernel_rfl
theorem b_59 : hasBody Try.prog 59 = true := by kernel_rfl
theorem b_60 : hasBody Try.prog 60 = true := by kernel_rfl
theorem b_28 : hasBody Try.prog 28 = true := by kernel_rfl
theorem b_32 : hasBody Try.prog 32 = true := by kernel_rfl
theorem b_33 : hasBody Try.prog 33 = true := by kernel_rfl
theorem b_13 : hasBody Try.prog 13 = true := by kernel_rfl
theorem b_16 : hasBody Try.prog 16 = true := by kernel_rfl
theorem b_17 : hasBody Try.prog 17 = true := by kernel_rfl
theorem b_49 : hasBody Try.prog 49 = true := by kernel_rfl
theorem b_64 : hasBody Try.prog 64 = true := by kernel_rfl
theorem b_63 : hasBody Try.prog 63 = true := by kernel_rfl
theorem b_34 : hasBody Try.prog 34 = true := by kernel_rfl
theorem b_35 : hasBody Try.prog 35 = true := by kernel_rfl
open Go.Sy.Bel1 Go.Sy.Bel2 Go.Sy.Bel3 Go.Sy.Bel4 Go.Sy.Bel5 Go.Sy.Bel6 Go.Sy.Bel7 Go.Sy.Bel8
theorem laws_eqBoolS (w : World) (v_a : Value) (a : (List Bool)) (v_b : Value) (b : (List Bool)) (h_a : Gd.rd w [v_a] a) (h_b : Gd.rd w [v_b] b) : Calls Try.prog 22 [v_a, v_b].toArray w (Val w (.bool (decide (a = b)))) := by
  have hm1 := rd_max h_a
  have hm2 := rd_max h_b
  refine enter 26 Try.func22 rfl rfl rfl ?_
  refine C_seq ?_
  refine C_reg ?_
  refine p1 rfl ?_
  refine D_end ?_
  refine x_then ?_
  refine C_seq ?_
  refine C_seq ?_
  refine C_reg ?_
  refine p1 rfl ?_
  refine q1 rfl (D_len s_42 rfl rfl (rd_sl h_a)) ?_
  refine p1 rfl ?_
  refine q1 rfl (D_len s_42 rfl rfl (rd_sl h_b)) ?_
  refine p1 rfl ?_
  refine D_end ?_
  refine x_then ?_
  refine C_if _ rfl (fun h3 => ?_) (fun h3 => ?_)
  · have pr3 : (((a.length : Nat) : Int) : Int) ≠ ((b.length : Nat) : Int) := bne_iff_ne.1 h3
    refine C_seq ?_
    refine C_reg ?_
    refine p1 rfl ?_
    refine D_end ?_
    refine x_then ?_
    refine C_ret ?_
    refine x_then_ret ?_
    refine R_1 rfl rfl fun w' hs => ⟨congrArg (fun z => Ending.returned (Value.bool z)) ?_, hs.bel⟩
    show (false : Bool) = decide (a = b)
    simp; intro e; subst e; simp_all
  · have pr3 : (((a.length : Nat) : Int) : Int) = ((b.length : Nat) : Int) := eq_of_bne_f h3
    refine C_skip ?_
    refine x_then ?_
    refine C_seq ?_
    refine C_seq ?_
    refine C_reg ?_
    refine p1 rfl ?_
    refine D_end ?_
    refine x_then ?_
    refine C_block ?_
    refine C_loop (fun m_ ac w' => ∃ (k : Nat), (k ≤ a.length) ∧ (∀ i, i < k → a[i]? = b[i]?) ∧ m_ = a.length - k ∧ Fits ac 26 [(0, v_a), (1, v_b), (5, (.int .i64 ((k : Nat) : Int)))] ∧ St w ([]) w') ?_ ?_
    · refine fun ac w' hf hs => ⟨_, 0, ?_, ?_, rfl, hf.weak ⟨rfl, rfl, rfl, trivial⟩, hs⟩
      · first | assumption | omega | simp
      · intro i hi; omega
    · rintro m_ ac w' ⟨k, hk, hi, rfl, hf, hs⟩
      refine D.use ?_ hf hs
      clear hf hs ac w'
      refine C_seq ?_
      refine C_seq ?_
      refine C_reg ?_
      refine p1 rfl <| p1 rfl ?_
      refine q1 rfl (D_len s_42 rfl rfl (rd_sl h_a)) ?_
      refine p1 rfl ?_
      refine D_end ?_
      refine x_then ?_
      refine C_if _ rfl (fun h4 => ?_) (fun h4 => ?_)
      · have pr4 : (((k : Nat) : Int) : Int) < ((a.length : Nat) : Int) := of_decide_eq_true h4
        refine C_skip ?_
        refine x_then ?_
        refine C_seq ?_
        refine C_block ?_
        refine C_seq ?_
        refine C_draw mixed [] (by kernel_rfl) ?_
        refine tk 0 rfl (by kernel_rfl) (by kernel_rfl) (by kernel_rfl) rfl (fun _ hs => hs) (rp rfl) ?_
        refine tk 1 rfl (by kernel_rfl) (by kernel_rfl) (by kernel_rfl) rfl (fun _ hs => hs) (rp rfl) ?_
        obtain ⟨x5, hx6⟩ := some_of_lt (l := a) (i := k) (by omega)
        obtain ⟨es7, at8, hr9⟩ := rd_elem (n := 1) rfl h_a hx6
        obtain rfl : es7 = [.bool x5] := hr9
        refine tk 2 rfl (by kernel_rfl) (by kernel_rfl) (by kernel_rfl) rfl (fun _ hs => hs) (D_ix (l := a) (j := k) s_42 rfl rfl rfl (fun w' hs => (rd_at hs h_a)) rfl (lt_of_some hx6)) ?_
        refine tk 3 rfl (by kernel_rfl) (by kernel_rfl) (by kernel_rfl) rfl (fun _ hs => hs) (lr0 o_4 rfl rfl at8 rfl) ?_
        refine tk 4 rfl (by kernel_rfl) (by kernel_rfl) (by kernel_rfl) rfl (fun _ hs => hs) (rp rfl) ?_
        refine tk 5 rfl (by kernel_rfl) (by kernel_rfl) (by kernel_rfl) rfl (fun _ hs => hs) (rp rfl) ?_
        obtain ⟨x10, hx11⟩ := some_of_lt (l := b) (i := k) (by omega)
        obtain ⟨es12, at13, hr14⟩ := rd_elem (n := 1) rfl h_b hx11
        obtain rfl : es12 = [.bool x10] := hr14
        refine tk 6 rfl (by kernel_rfl) (by kernel_rfl) (by kernel_rfl) rfl (fun _ hs => hs) (D_ix (l := b) (j := k) s_42 rfl rfl rfl (fun w' hs => (rd_at hs h_b)) rfl (lt_of_some hx11)) ?_
        refine tk 7 rfl (by kernel_rfl) (by kernel_rfl) (by kernel_rfl) rfl (fun _ hs => hs) (lr0 o_4 rfl rfl at13 rfl) ?_
        refine tk 8 rfl (by kernel_rfl) (by kernel_rfl) (by kernel_rfl) rfl (fun _ hs => hs) (D_neB ub_4 rfl rfl rfl) ?_
        refine tE (by kernel_rfl) ?_
        refine x_then ?_
        refine C_if _ rfl (fun h15 => ?_) (fun h15 => ?_)
        · refine C_seq ?_
          refine C_reg ?_
          refine p1 rfl ?_
          refine D_end ?_
          refine x_then ?_
          refine D_weak [(4, (.bool false))] ⟨rfl, trivial⟩ ?_
          refine C_ret ?_
          refine x_blk_ret ?_
          refine x_then_ret ?_
          refine x_then_ret ?_
          refine x_blk_ret ?_
          refine x_then_ret ?_
          refine R_1 rfl rfl fun w' hs => ⟨congrArg (fun z => Ending.returned (Value.bool z)) ?_, hs.bel⟩
          show (false : Bool) = decide (a = b)
          simp; intro e; subst e; simp_all
        · have pr15 : x5 = x10 := beq_of_not h15
          refine C_skip ?_
          refine x_blk ?_
          refine x_then ?_
          refine C_reg ?_
          refine p1 rfl ?_
          refine q1 rfl (D_add rfl rfl rfl (r := ((k + 1 : Nat) : Int)) (by omega) (by omega)) ?_
          refine p1 rfl ?_
          refine D_end ?_
          refine x_then ?_
          refine fun ac w' hf hs => ⟨_, ?_, k + 1, ?_, ?_, rfl, hf.weak ⟨rfl, rfl, rfl, trivial⟩, hs⟩
          · omega
          · first | assumption | omega | simp
          · exact idx_step hi (by assumption) (by assumption) (by simp_all)
      · have pr4 : ¬ (((k : Nat) : Int) : Int) < ((a.length : Nat) : Int) := of_decide_eq_false h4
        refine C_exit ?_
        refine x_then_exit ?_
        refine x_then_exit ?_
        refine x_blk_eq ?_
        refine x_then ?_
        refine C_seq ?_
        refine C_reg ?_
        refine p1 rfl ?_
        refine D_end ?_
        refine x_then ?_
        refine C_ret ?_
        refine R_1 rfl rfl fun w' hs => ⟨congrArg (fun z => Ending.returned (Value.bool z)) ?_, hs.bel⟩
        show (true : Bool) = decide (a = b)
        simp; exact eq_of_idx (by omega) (fun i h => hi i (by omega))

theorem laws_markBoolS (w0 : World) (Hs : List Chunk) (w : World) (v_a : Value) (a : (List Bool)) (k : Int) (h0 : 0 ≤ k) (h1 : k + a.length ≤ 4611686018427387904) (hst : St w0 (ov [v_a] (a : (List Bool)) :: Hs) w) : Calls Try.prog 25 [v_a, (.int .i64 k)].toArray w (fun e w' => e = .returned (.int .i64 (k + a.length)) ∧ St w0 (ov [v_a] (mkBo k a : (List Bool)) :: Hs) w') := by
  have hm1 := rd_max (rd_own (k := 0) hst rfl)
  refine enterS 21 Try.func25 rfl rfl rfl hst ?_
  refine C_seq ?_
  refine C_reg ?_
  refine p1 rfl ?_
  refine D_end ?_
  refine x_then ?_
  refine D_H (ov [v_a] (a : (List Bool)) :: Hs) rfl ?_
  refine C_seq ?_
  refine C_seq ?_
  refine C_reg ?_
  refine p1 rfl ?_
  refine D_end ?_
  refine x_then ?_
  refine C_block ?_
  refine C_loop (fun m_ ac w' => ∃ (i : Nat), ∃ (kk : Int), (i ≤ a.length) ∧ (kk = k + i) ∧ m_ = a.length - i ∧ Fits ac 21 [(0, v_a), (1, (.int .i64 kk)), (5, (.int .i64 ((i : Nat) : Int)))] ∧ St w0 (ov [v_a] (mapAt fBo cBo k a i : (List Bool)) :: Hs) w') ?_ ?_
  · refine D_eq 0 rfl (show (a : (List Bool)) = mapAt fBo cBo k a 0 from by rw [mapAt_zero]) ?_
    refine fun ac w' hf hs => ⟨_, 0, k, ?_, ?_, rfl, hf.weak ⟨rfl, rfl, rfl, trivial⟩, hs⟩
    · first | assumption | omega | simp
    · first | assumption | omega | simp
  · rintro m_ ac w' ⟨i, kk, hi, hk, rfl, hf, hs⟩
    refine D.use ?_ hf hs
    clear hf hs ac w'
    have hcl := mapAt_len (f := fBo) (c := cBo) (k := k) hi
    refine C_seq ?_
    refine C_seq ?_
    refine C_reg ?_
    refine p1 rfl <| p1 rfl ?_
    refine q1 rfl (D_leno 0 s_42 rfl rfl rfl) ?_
    refine p1 rfl ?_
    refine D_end ?_
    refine x_then ?_
    refine D_H (ov [v_a] (mapAt fBo cBo k a i : (List Bool)) :: Hs) rfl ?_
    refine C_if _ rfl (fun h2 => ?_) (fun h2 => ?_)
    · have pr2 : (((i : Nat) : Int) : Int) < (((mapAt fBo cBo k a i).length : Nat) : Int) := of_decide_eq_true h2
      refine C_skip ?_
      refine x_then ?_
      refine C_seq ?_
      refine C_block ?_
      refine C_seq ?_
      refine C_reg ?_
      refine p1 rfl <| p1 rfl <| p1 rfl ?_
      refine q1 rfl (D_rem rfl rfl rfl rfl) ?_
      refine p1 rfl ?_
      obtain ⟨x3, hx4⟩ := some_of_lt (l := (mapAt fBo cBo k a i)) (i := i) (by omega)
      refine q1 rfl (D_ix (l := (mapAt fBo cBo k a i)) (j := i) s_42 rfl rfl rfl (fun w' hs => (rd_own (k := 0) hs rfl)) rfl (lt_of_some hx4)) ?_
      refine li rfl (so (α := Bool) (z := (((Int.tmod kk 3) : Int) == 0)) 0 z_4 rfl rfl rfl rfl rfl (lt_of_some hx4) ?_)
      refine D_end ?_
      refine x_then ?_
      refine D_H (ov [v_a] ((mapAt fBo cBo k a i).set i (((Int.tmod kk 3) : Int) == 0) : (List Bool)) :: Hs) rfl ?_
      refine C_reg ?_
      refine p1 rfl ?_
      refine q1 rfl (D_add rfl rfl rfl rfl (by omega)) ?_
      refine p1 rfl ?_
      refine D_end ?_
      refine x_blk ?_
      refine x_then ?_
      refine C_reg ?_
      refine p1 rfl ?_
      refine q1 rfl (D_add rfl rfl rfl (r := ((i + 1 : Nat) : Int)) (by omega) (by omega)) ?_
      refine p1 rfl ?_
      refine D_end ?_
      refine x_then ?_
      refine D_eq 0 rfl (show ((mapAt fBo cBo k a i).set i (((Int.tmod kk 3) : Int) == 0) : (List Bool)) = mapAt fBo cBo k a (i + 1) from by exact mkBo_set (by omega) hk) ?_
      refine fun ac w' hf hs => ⟨_, ?_, i + 1, (kk + 1), ?_, ?_, rfl, hf.weak ⟨rfl, rfl, rfl, trivial⟩, hs⟩
      · omega
      · first | assumption | omega | simp
      · first | assumption | omega | simp
    · have pr2 : ¬ (((i : Nat) : Int) : Int) < (((mapAt fBo cBo k a i).length : Nat) : Int) := of_decide_eq_false h2
      refine C_exit ?_
      refine x_then_exit ?_
      refine x_then_exit ?_
      refine x_blk_eq ?_
      refine x_then ?_
      refine C_seq ?_
      refine C_reg ?_
      refine p1 rfl <| p1 rfl ?_
      refine D_end ?_
      refine x_then ?_
      refine C_ret ?_
      refine D_eq 0 rfl (show (mapAt fBo cBo k a i : (List Bool)) = mkBo k a from by exact mapAt_done (by omega)) ?_
      refine R_1 rfl rfl fun w' hs => ⟨congrArg (fun z => Ending.returned (Value.int .i64 z)) ?_, hs⟩
      show (kk : Int) = k + a.length
      omega

theorem laws_heldBoolS (w : World) (v_a : Value) (a : (List Bool)) (k : Int) (h_a : Gd.rd w [v_a] a) (h0 : 0 ≤ k) (h1 : k + a.length ≤ 4611686018427387904) (he : a = mkBo k a) : Calls Try.prog 26 [v_a, (.int .i64 k)].toArray w (Val w (.int .i64 (k + a.length))) := by
  have hm1 := rd_max h_a
  refine enter 23 Try.func26 rfl rfl rfl ?_
  refine C_seq ?_
  refine C_reg ?_
  refine p1 rfl ?_
  refine D_end ?_
  refine x_then ?_
  refine C_seq ?_
  refine C_seq ?_
  refine C_reg ?_
  refine p1 rfl ?_
  refine D_end ?_
  refine x_then ?_
  refine C_block ?_
  refine C_loop (fun m_ ac w' => ∃ (i : Nat), ∃ (kk : Int), (i ≤ a.length) ∧ (kk = k + i) ∧ m_ = a.length - i ∧ Fits ac 23 [(0, v_a), (1, (.int .i64 kk)), (5, (.int .i64 ((i : Nat) : Int)))] ∧ St w ([]) w') ?_ ?_
  · refine fun ac w' hf hs => ⟨_, 0, k, ?_, ?_, rfl, hf.weak ⟨rfl, rfl, rfl, trivial⟩, hs⟩
    · first | assumption | omega | simp
    · first | assumption | omega | simp
  · rintro m_ ac w' ⟨i, kk, hi, hk, rfl, hf, hs⟩
    refine D.use ?_ hf hs
    clear hf hs ac w'
    refine C_seq ?_
    refine C_seq ?_
    refine C_reg ?_
    refine p1 rfl <| p1 rfl ?_
    refine q1 rfl (D_len s_42 rfl rfl (rd_sl h_a)) ?_
    refine p1 rfl ?_
    refine D_end ?_
    refine x_then ?_
    refine C_if _ rfl (fun h2 => ?_) (fun h2 => ?_)
    · have pr2 : (((i : Nat) : Int) : Int) < ((a.length : Nat) : Int) := of_decide_eq_true h2
      refine C_skip ?_
      refine x_then ?_
      refine C_seq ?_
      refine C_block ?_
      refine C_seq ?_
      refine C_seq ?_
      refine C_reg ?_
      refine p1 rfl <| p1 rfl ?_
      obtain ⟨x3, hx4⟩ := some_of_lt (l := a) (i := i) (by omega)
      obtain ⟨es5, at6, hr7⟩ := rd_elem (n := 1) rfl h_a hx4
      obtain rfl : es5 = [.bool x3] := hr7
      refine q1 rfl (D_ix (l := a) (j := i) s_42 rfl rfl rfl (fun w' hs => (rd_at hs h_a)) rfl (lt_of_some hx4)) ?_
      refine q1 rfl (lr0 o_4 rfl rfl at6 rfl) ?_
      refine p1 rfl ?_
      refine q1 rfl (D_rem rfl rfl rfl rfl) ?_
      refine p1 rfl ?_
      refine q1 rfl (D_neB ub_4 rfl rfl rfl) ?_
      refine D_end ?_
      refine x_then ?_
      refine C_if _ rfl (fun h8 => ?_) (fun h8 => ?_)
      · refine C_seq ?_
        refine C_reg ?_
        refine p1 rfl ?_
        refine D_end ?_
        refine x_then ?_
        refine D_weak [(4, (.int .i64 (-1)))] ⟨rfl, trivial⟩ ?_
        refine C_ret ?_
        refine x_then_ret ?_
        refine x_blk_ret ?_
        refine x_then_ret ?_
        refine x_then_ret ?_
        refine x_blk_ret ?_
        refine x_then_ret ?_
        refine R_1 rfl rfl fun w' hs => ⟨congrArg (fun z => Ending.returned (Value.int .i64 z)) ?_, hs.bel⟩
        show ((-1) : Int) = k + a.length
        exfalso; have hfx := mkBo_fix he hx4; rw [← hk] at hfx; rw [hfx] at h8; simp at h8
      · have pr8 : x3 = (((Int.tmod kk 3) : Int) == 0) := beq_of_not h8
        refine C_skip ?_
        refine x_then ?_
        refine C_reg ?_
        refine p1 rfl ?_
        refine q1 rfl (D_add rfl rfl rfl rfl (by omega)) ?_
        refine p1 rfl ?_
        refine D_end ?_
        refine x_blk ?_
        refine x_then ?_
        refine C_reg ?_
        refine p1 rfl ?_
        refine q1 rfl (D_add rfl rfl rfl (r := ((i + 1 : Nat) : Int)) (by omega) (by omega)) ?_
        refine p1 rfl ?_
        refine D_end ?_
        refine x_then ?_
        refine fun ac w' hf hs => ⟨_, ?_, i + 1, (kk + 1), ?_, ?_, rfl, hf.weak ⟨rfl, rfl, rfl, trivial⟩, hs⟩
        · omega
        · first | assumption | omega | simp
        · first | assumption | omega | simp
    · have pr2 : ¬ (((i : Nat) : Int) : Int) < ((a.length : Nat) : Int) := of_decide_eq_false h2
      refine C_exit ?_
      refine x_then_exit ?_
      refine x_then_exit ?_
      refine x_blk_eq ?_
      refine x_then ?_
      refine C_seq ?_
      refine C_reg ?_
      refine p1 rfl <| p1 rfl ?_
      refine D_end ?_
      refine x_then ?_
      refine C_ret ?_
      refine R_1 rfl rfl fun w' hs => ⟨congrArg (fun z => Ending.returned (Value.int .i64 z)) ?_, hs.bel⟩
      show (kk : Int) = k + a.length
      omega

set_option maxHeartbeats 4000000 in
theorem laws_FnExactLabelsOf (w : World) (c_aB : List Value) (aB : Beliefs) (h_aB : Gd.rd w c_aB aB) : Calls Try.prog 4 [(.agg c_aB.toArray)].toArray w (Val w (.bool (true))) := by
  obtain ⟨u1, rfl, hu2⟩ := open_Beliefs h_aB
  have hm3 := rd_max hu2
  have hz1 := szB_len aB
  have hz2 := szB_sum aB
  have hz3 := labelsOf_len (b := aB)
  refine enter 69 Try.func4 rfl rfl rfl ?_
  refine C_seq ?_
  refine C_reg ?_
  refine li rfl (D_box rfl rfl rfl rfl rfl fun g4 => ?_)
  refine p1 rfl ?_
  refine D_end ?_
  refine x_then ?_
  refine D_H ([bx g4 [(.int .i64 aB.Nodes), u1]]) rfl ?_
  refine C_seq ?_
  refine C_reg ?_
  refine p1 rfl ?_
  refine D_end ?_
  refine x_then ?_
  refine C_seq ?_
  refine C_reg ?_
  refine q1 rfl (lbw 0 a_24 rfl rfl rfl) ?_
  refine p1 rfl ?_
  refine li rfl (cv b_18 rfl rfl rfl rfl (fun w' hs => (laws_szBeliefs w' [(.int .i64 aB.Nodes), u1] aB 1048576 (rd_at hs h_aB) (by first | assumption | omega | (unfold szm at *; split at * <;> omega)) (by first | assumption | omega | (unfold szm at *; split at * <;> omega)))) ?_)
  refine p1 rfl ?_
  refine D_end ?_
  refine x_then ?_
  refine C_seq ?_
  refine C_seq ?_
  refine C_reg ?_
  refine p1 rfl <| p1 rfl ?_
  refine D_end ?_
  refine x_then ?_
  refine C_if _ rfl (fun h5 => ?_) (fun h5 => ?_)
  · have pr5 : ((szm (szB aB) 1048576) : Int) < 0 := of_decide_eq_true h5
    refine C_seq ?_
    refine C_reg ?_
    refine p1 rfl ?_
    refine D_end ?_
    refine x_then ?_
    refine C_ret ?_
    refine x_then_ret ?_
    refine R_1 rfl rfl fun w' hs => ⟨congrArg (fun z => Ending.returned (Value.bool z)) ?_, hs.bel⟩
    show (true : Bool) = true
    first | rfl | (exfalso; omega) | (exfalso; simp only [mapS_len, sumB_mk, sumR_mk] at *; omega) | exact absurd h5 (by simp [mapS_len])
  · have pr5 : ¬ ((szm (szB aB) 1048576) : Int) < 0 := of_decide_eq_false h5
    have pr5z := szm_val (n := (szB aB)) (left := 1048576) pr5
    refine C_skip ?_
    refine x_then ?_
    refine C_seq ?_
    refine C_reg ?_
    refine q1 rfl (lbw 0 a_24 rfl rfl rfl) ?_
    refine li rfl (crs rfl b_20 rfl rfl rfl rfl (fun w' hs => (laws_toBeliefs w' [(.int .i64 aB.Nodes), u1] aB (rd_at hs h_aB) (by first | assumption | omega | (unfold szm at *; split at * <;> omega)))) fun cs6 => ?_)
    refine D_pre (fun w' hs => shape_Beliefs (rd_own (k := 0) hs rfl)) ?_
    rintro ⟨v7, rfl, ho8⟩
    refine li rfl (crl b_19 rfl rfl rfl rfl (fun w' hs => (spec_LabelsOf w' [(.int .i64 aB.Nodes), v7] aB (rd_own (k := 0) hs rfl))) fun v9 => ?_)
    refine p1 rfl ?_
    refine D_end ?_
    refine x_then ?_
    refine D_H ([ov [v9] (labelsOf aB : (List Bool)), ov [(.int .i64 aB.Nodes), v7] (aB : Beliefs), bx g4 [(.int .i64 aB.Nodes), u1]]) rfl ?_
    refine C_seq ?_
    refine C_reg ?_
    refine q1 rfl (lbw 2 a_24 rfl rfl rfl) ?_
    refine li rfl (crs rfl b_20 rfl rfl rfl rfl (fun w' hs => (laws_toBeliefs w' [(.int .i64 aB.Nodes), u1] aB (rd_at hs h_aB) (by first | assumption | omega | (unfold szm at *; split at * <;> omega)))) fun cs10 => ?_)
    refine D_pre (fun w' hs => shape_Beliefs (rd_own (k := 0) hs rfl)) ?_
    rintro ⟨v11, rfl, ho12⟩
    refine li rfl (D_alloc y_32 rfl rfl rfl rfl fun g13 => ?_)
    refine li rfl (D_stb (vs := [(.int .i64 aB.Nodes), v11]) (cs' := [(.int .i64 aB.Nodes), v11]) 0 z_32 rfl rfl rfl rfl rfl rfl (ocons rfl (ocons ho12 onil)) (by simp) rfl ?_)
    refine D_end ?_
    refine x_then ?_
    refine D_H ([bx g13 [(.int .i64 aB.Nodes), v11], ov [(.int .i64 aB.Nodes), v11] (aB : Beliefs), ov [v9] (labelsOf aB : (List Bool)), ov [(.int .i64 aB.Nodes), v7] (aB : Beliefs), bx g4 [(.int .i64 aB.Nodes), u1]]) rfl ?_
    refine C_seq ?_
    refine C_reg ?_
    refine q1 rfl (lbw 0 a_32 rfl rfl rfl) ?_
    refine li rfl (crl b_21 rfl rfl rfl rfl (fun w' hs => (impl_LabelsOf w' [(.int .i64 aB.Nodes), v11] aB (rd_own (k := 1) hs rfl))) fun v14 => ?_)
    refine p1 rfl ?_
    refine D_end ?_
    refine x_then ?_
    refine D_weak [(1, (.pointer (some ⟨g4, 0, none⟩))), (4, v9), (5, (.pointer (some ⟨g13, 0, none⟩))), (6, v14)] ⟨rfl, rfl, rfl, rfl, trivial⟩ ?_
    refine D_sel (H' := [ov [v14] (labelsOf aB : (List Bool)), bx g13 [(.int .i64 aB.Nodes), v11], ov [(.int .i64 aB.Nodes), v11] (aB : Beliefs), ov [v9] (labelsOf aB : (List Bool)), bx g4 [(.int .i64 aB.Nodes), u1]]) [true, true, true, true, false, true] rfl ?_
    refine C_seq ?_
    refine C_seq ?_
    refine C_reg ?_
    refine p1 rfl <| p1 rfl ?_
    refine li rfl (cv b_22 rfl rfl rfl rfl (fun w' hs => (laws_eqBoolS w' v14 (labelsOf aB) v9 (labelsOf aB) (rd_own (k := 0) hs rfl) (rd_own (k := 3) hs rfl))) ?_)
    refine p1 rfl ?_
    refine D_end ?_
    refine x_then ?_
    refine C_if _ rfl (fun h15 => ?_) (fun h15 => ?_)
    · have h15n : (decide ((labelsOf aB) = (labelsOf aB))) = false := not_t h15
      refine C_seq ?_
      refine C_reg ?_
      refine p1 rfl ?_
      refine D_end ?_
      refine x_then ?_
      refine C_ret ?_
      refine x_then_ret ?_
      refine R_1 rfl rfl fun w' hs => ⟨congrArg (fun z => Ending.returned (Value.bool z)) ?_, hs.bel⟩
      show (false : Bool) = true
      first | rfl | (exfalso; omega) | (exfalso; simp only [mapS_len, sumB_mk, sumR_mk] at *; omega) | exact absurd h15 (by simp [mapS_len])
    · have h15n : (decide ((labelsOf aB) = (labelsOf aB))) = true := not_f h15
      refine C_skip ?_
      refine x_then ?_
      refine C_seq ?_
      refine C_seq ?_
      refine C_draw mixed [3, 4] (by kernel_rfl) ?_
      refine tk 0 rfl (by kernel_rfl) (by kernel_rfl) (by kernel_rfl) rfl (fun _ hs => hs) (lbw 1 a_32 rfl rfl rfl) ?_
      refine tk 1 rfl (by kernel_rfl) (by kernel_rfl) (by kernel_rfl) rfl (fun _ hs => hs) (lbw 4 a_24 rfl rfl rfl) ?_
      refine ty 2 rfl (by kernel_rfl) rfl (crs rfl b_20 rfl rfl rfl rfl (fun w' hs => (laws_toBeliefs w' [(.int .i64 aB.Nodes), u1] aB (rd_at hs h_aB) (by first | assumption | omega | (unfold szm at *; split at * <;> omega)))) fun cs16 => ?_)
      refine D_pre (fun w' hs => shape_Beliefs (rd_own (k := 0) hs rfl)) ?_
      rintro ⟨v17, rfl, ho18⟩
      refine tS (fun _ hs => hs.pk [1, 2, 3, 4, 5] rfl rfl) ?_
      refine ty 3 rfl (by kernel_rfl) rfl (cv b_23 rfl rfl rfl rfl (fun w' hs => (laws_eqBeliefs w' [(.int .i64 aB.Nodes), v11] aB [(.int .i64 aB.Nodes), v17] aB (rd_own (k := 3) hs rfl) (rd_own (k := 0) hs rfl))) ?_)
      refine tZ rfl ?_
      refine ty 4 rfl (by kernel_rfl) rfl (sv rfl rfl (rp rfl) ?_)
      refine tZ rfl ?_
      refine tE (by kernel_rfl) ?_
      refine x_then ?_
      refine D_H ([ov [(.int .i64 aB.Nodes), v17] (aB : Beliefs), ov [v14] (labelsOf aB : (List Bool)), bx g13 [(.int .i64 aB.Nodes), v11], ov [(.int .i64 aB.Nodes), v11] (aB : Beliefs), ov [v9] (labelsOf aB : (List Bool)), bx g4 [(.int .i64 aB.Nodes), u1]]) rfl ?_
      refine C_if _ rfl (fun h19 => ?_) (fun h19 => ?_)
      · have h19n : (decide (aB = aB)) = false := not_t h19
        refine C_seq ?_
        refine C_reg ?_
        refine p1 rfl ?_
        refine D_end ?_
        refine x_then ?_
        refine C_ret ?_
        refine x_then_ret ?_
        refine R_1 rfl rfl fun w' hs => ⟨congrArg (fun z => Ending.returned (Value.bool z)) ?_, hs.bel⟩
        show (false : Bool) = true
        first | rfl | (exfalso; omega) | (exfalso; simp only [mapS_len, sumB_mk, sumR_mk] at *; omega) | exact absurd h19 (by simp [mapS_len])
      · have h19n : (decide (aB = aB)) = true := not_f h19
        refine C_skip ?_
        refine x_then ?_
        refine C_seq ?_
        refine C_reg ?_
        refine p1 rfl ?_
        refine D_end ?_
        refine x_then ?_
        refine C_seq ?_
        refine C_reg ?_
        refine q1 rfl (lbw 2 a_32 rfl rfl rfl) ?_
        refine p1 rfl ?_
        refine D_pk (H' := [ov [(.int .i64 aB.Nodes), v11] (aB : Beliefs), ov [(.int .i64 aB.Nodes), v17] (aB : Beliefs), ov [v14] (labelsOf aB : (List Bool)), bx g13 [(.int .i64 aB.Nodes), v11], ov [v9] (labelsOf aB : (List Bool)), bx g4 [(.int .i64 aB.Nodes), u1]]) [3, 0, 1, 2, 4, 5] rfl rfl ?_
        refine li rfl (cm b_24 rfl rfl rfl rfl (fun w' hs => laws_markBeliefs _ _ w' [(.int .i64 aB.Nodes), v11] aB 1 (by first | assumption | omega | (simp only; omega)) (by first | assumption | omega | (simp only; omega)) hs) ?_)
        refine p1 rfl ?_
        refine D_end ?_
        refine x_then ?_
        refine D_H ([ov [(.int .i64 aB.Nodes), v11] (mkB 1 aB : Beliefs), ov [(.int .i64 aB.Nodes), v17] (aB : Beliefs), ov [v14] (labelsOf aB : (List Bool)), bx g13 [(.int .i64 aB.Nodes), v11], ov [v9] (labelsOf aB : (List Bool)), bx g4 [(.int .i64 aB.Nodes), u1]]) rfl ?_
        refine C_seq ?_
        refine C_seq ?_
        refine C_reg ?_
        refine p1 rfl <| p1 rfl <| p1 rfl ?_
        refine gs 37 rfl rfl (fun h20 => ?_) (fun h20 => ?_)
        · have pr20 : ((1 + sumC cR aB.Reasons) : Int) < 0 := of_decide_eq_true h20
          refine n1 rfl ?_
          refine n1 rfl ?_
          refine n1 rfl ?_
          refine n1 rfl ?_
          refine p1 rfl ?_
          refine D_end ?_
          refine x_then ?_
          refine D_weak [(1, (.pointer (some ⟨g4, 0, none⟩))), (4, v9), (6, v14), (42, (.bool true))] ⟨rfl, rfl, rfl, rfl, trivial⟩ ?_
          refine D_sel (H' := [ov [v14] (labelsOf aB : (List Bool)), ov [v9] (labelsOf aB : (List Bool)), bx g4 [(.int .i64 aB.Nodes), u1]]) [false, false, true, false, true, true] rfl ?_
          refine C_t rfl ?_
          refine C_seq ?_
          refine C_reg ?_
          refine p1 rfl ?_
          refine D_end ?_
          refine x_then ?_
          refine C_ret ?_
          refine x_then_ret ?_
          refine R_1 rfl rfl fun w' hs => ⟨congrArg (fun z => Ending.returned (Value.bool z)) ?_, hs.bel⟩
          show (false : Bool) = true
          first | rfl | (exfalso; omega) | (exfalso; simp only [mapS_len, sumB_mk, sumR_mk] at *; omega) | exact absurd h20 (by simp [mapS_len])
        · have pr20 : ¬ ((1 + sumC cR aB.Reasons) : Int) < 0 := of_decide_eq_false h20
          refine p1 rfl <| p1 rfl ?_
          refine li rfl (cv b_22 rfl rfl rfl rfl (fun w' hs => (laws_eqBoolS w' v14 (labelsOf aB) v9 (labelsOf aB) (rd_own (k := 2) hs rfl) (rd_own (k := 4) hs rfl))) ?_)
          refine p1 rfl <| p1 rfl ?_
          refine D_end ?_
          refine x_then ?_
          refine D_weak [(1, (.pointer (some ⟨g4, 0, none⟩))), (4, v9), (6, v14), (42, (.bool (!(decide ((labelsOf aB) = (labelsOf aB))))))] ⟨rfl, rfl, rfl, rfl, trivial⟩ ?_
          refine D_sel (H' := [ov [v14] (labelsOf aB : (List Bool)), ov [v9] (labelsOf aB : (List Bool)), bx g4 [(.int .i64 aB.Nodes), u1]]) [false, false, true, false, true, true] rfl ?_
          refine C_if _ rfl (fun h21 => ?_) (fun h21 => ?_)
          · have h21n : (decide ((labelsOf aB) = (labelsOf aB))) = false := not_t h21
            refine C_seq ?_
            refine C_reg ?_
            refine p1 rfl ?_
            refine D_end ?_
            refine x_then ?_
            refine C_ret ?_
            refine x_then_ret ?_
            refine R_1 rfl rfl fun w' hs => ⟨congrArg (fun z => Ending.returned (Value.bool z)) ?_, hs.bel⟩
            show (false : Bool) = true
            first | rfl | (exfalso; omega) | (exfalso; simp only [mapS_len, sumB_mk, sumR_mk] at *; omega) | exact absurd h21 (by simp [mapS_len])
          · have h21n : (decide ((labelsOf aB) = (labelsOf aB))) = true := not_f h21
            refine C_skip ?_
            refine x_then ?_
            refine C_seq ?_
            refine C_reg ?_
            refine p1 rfl ?_
            refine D_end ?_
            refine x_then ?_
            refine C_seq ?_
            refine C_reg ?_
            refine p1 rfl <| p1 rfl ?_
            refine li rfl (cm b_25 rfl rfl rfl rfl (fun w' hs => laws_markBoolS _ _ w' v14 (labelsOf aB) 1 (by first | assumption | omega | (simp only; omega)) (by first | assumption | omega | (simp only; omega)) hs) ?_)
            refine p1 rfl ?_
            refine D_end ?_
            refine x_then ?_
            refine D_H ([ov [v14] (mkBo 1 (labelsOf aB) : (List Bool)), ov [v9] (labelsOf aB : (List Bool)), bx g4 [(.int .i64 aB.Nodes), u1]]) rfl ?_
            refine C_seq ?_
            refine C_reg ?_
            refine p1 rfl ?_
            refine D_end ?_
            refine x_then ?_
            refine C_seq ?_
            refine C_reg ?_
            refine p1 rfl <| p1 rfl ?_
            refine li rfl (cv b_26 rfl rfl rfl rfl (fun w' hs => (laws_heldBoolS w' v14 (mkBo 1 (labelsOf aB)) 1 (rd_own (k := 0) hs rfl) (by first | assumption | omega | (unfold szm at *; split at * <;> omega)) (by rw [mapS_len]; omega) (mkBo_idem _ _))) ?_)
            refine p1 rfl ?_
            refine D_end ?_
            refine x_then ?_
            refine C_seq ?_
            refine C_seq ?_
            refine C_reg ?_
            refine p1 rfl <| p1 rfl ?_
            refine D_end ?_
            refine x_then ?_
            refine C_if _ rfl (fun h22 => ?_) (fun h22 => ?_)
            · have pr22 : ((1 + (mkBo 1 (labelsOf aB)).length) : Int) < 0 := of_decide_eq_true h22
              refine C_seq ?_
              refine C_reg ?_
              refine p1 rfl ?_
              refine D_end ?_
              refine x_then ?_
              refine C_ret ?_
              refine x_then_ret ?_
              refine R_1 rfl rfl fun w' hs => ⟨congrArg (fun z => Ending.returned (Value.bool z)) ?_, hs.bel⟩
              show (false : Bool) = true
              first | rfl | (exfalso; omega) | (exfalso; simp only [mapS_len, sumB_mk, sumR_mk] at *; omega) | exact absurd h22 (by simp [mapS_len])
            · have pr22 : ¬ ((1 + (mkBo 1 (labelsOf aB)).length) : Int) < 0 := of_decide_eq_false h22
              refine C_skip ?_
              refine x_then ?_
              refine C_seq ?_
              refine C_seq ?_
              refine C_reg ?_
              refine p1 rfl <| p1 rfl <| p1 rfl ?_
              refine D_end ?_
              refine x_then ?_
              refine C_if _ rfl (fun h23 => ?_) (fun h23 => ?_)
              · have pr23 : ((1 + (mkBo 1 (labelsOf aB)).length) : Int) ≠ (1 + (labelsOf aB).length) := bne_iff_ne.1 h23
                refine C_seq ?_
                refine C_reg ?_
                refine p1 rfl ?_
                refine D_end ?_
                refine x_then ?_
                refine D_weak [(2, (.bool false))] ⟨rfl, trivial⟩ ?_
                refine D_sel (H' := []) [false, false, false] rfl ?_
                refine C_ret ?_
                refine x_then_ret ?_
                refine R_1 rfl rfl fun w' hs => ⟨congrArg (fun z => Ending.returned (Value.bool z)) ?_, hs.bel⟩
                show (false : Bool) = true
                first | rfl | (exfalso; omega) | (exfalso; simp only [mapS_len, sumB_mk, sumR_mk] at *; omega) | exact absurd h23 (by simp [mapS_len])
              · have pr23 : ((1 + (mkBo 1 (labelsOf aB)).length) : Int) = (1 + (labelsOf aB).length) := eq_of_bne_f h23
                refine C_skip ?_
                refine x_then ?_
                refine C_seq ?_
                refine C_reg ?_
                refine q1 rfl (lbw 2 a_24 rfl rfl rfl) ?_
                refine li rfl (crs rfl b_20 rfl rfl rfl rfl (fun w' hs => (laws_toBeliefs w' [(.int .i64 aB.Nodes), u1] aB (rd_at hs h_aB) (by first | assumption | omega | (unfold szm at *; split at * <;> omega)))) fun cs24 => ?_)
                refine D_pre (fun w' hs => shape_Beliefs (rd_own (k := 0) hs rfl)) ?_
                rintro ⟨v25, rfl, ho26⟩
                refine li rfl (crl b_21 rfl rfl rfl rfl (fun w' hs => (impl_LabelsOf w' [(.int .i64 aB.Nodes), v25] aB (rd_own (k := 0) hs rfl))) fun v27 => ?_)
                refine p1 rfl ?_
                refine D_end ?_
                refine x_then ?_
                refine D_weak [(4, v9), (6, v14), (8, (.int .i64 (1 + (labelsOf aB).length))), (10, v27)] ⟨rfl, rfl, rfl, rfl, trivial⟩ ?_
                refine D_sel (H' := [ov [v27] (labelsOf aB : (List Bool)), ov [v14] (mkBo 1 (labelsOf aB) : (List Bool)), ov [v9] (labelsOf aB : (List Bool))]) [true, false, true, true, false] rfl ?_
                refine C_seq ?_
                refine C_seq ?_
                refine C_reg ?_
                refine p1 rfl <| p1 rfl ?_
                refine li rfl (cv b_22 rfl rfl rfl rfl (fun w' hs => (laws_eqBoolS w' v27 (labelsOf aB) v9 (labelsOf aB) (rd_own (k := 0) hs rfl) (rd_own (k := 2) hs rfl))) ?_)
                refine p1 rfl ?_
                refine D_end ?_
                refine x_then ?_
                refine C_if _ rfl (fun h28 => ?_) (fun h28 => ?_)
                · have h28n : (decide ((labelsOf aB) = (labelsOf aB))) = false := not_t h28
                  refine C_seq ?_
                  refine C_reg ?_
                  refine p1 rfl ?_
                  refine D_end ?_
                  refine x_then ?_
                  refine C_ret ?_
                  refine x_then_ret ?_
                  refine R_1 rfl rfl fun w' hs => ⟨congrArg (fun z => Ending.returned (Value.bool z)) ?_, hs.bel⟩
                  show (false : Bool) = true
                  first | rfl | (exfalso; omega) | (exfalso; simp only [mapS_len, sumB_mk, sumR_mk] at *; omega) | exact absurd h28 (by simp [mapS_len])
                · have h28n : (decide ((labelsOf aB) = (labelsOf aB))) = true := not_f h28
                  refine C_skip ?_
                  refine x_then ?_
                  refine C_seq ?_
                  refine C_reg ?_
                  refine p1 rfl ?_
                  refine D_end ?_
                  refine x_then ?_
                  refine C_seq ?_
                  refine C_reg ?_
                  refine p1 rfl <| p1 rfl ?_
                  refine li rfl (cv b_26 rfl rfl rfl rfl (fun w' hs => (laws_heldBoolS w' v14 (mkBo 1 (labelsOf aB)) 1 (rd_own (k := 1) hs rfl) (by first | assumption | omega | (unfold szm at *; split at * <;> omega)) (by rw [mapS_len]; omega) (mkBo_idem _ _))) ?_)
                  refine p1 rfl ?_
                  refine D_end ?_
                  refine x_then ?_
                  refine C_seq ?_
                  refine C_seq ?_
                  refine C_reg ?_
                  refine p1 rfl <| p1 rfl ?_
                  refine D_end ?_
                  refine x_then ?_
                  refine C_if _ rfl (fun h29 => ?_) (fun h29 => ?_)
                  · have pr29 : ((1 + (mkBo 1 (labelsOf aB)).length) : Int) < 0 := of_decide_eq_true h29
                    refine C_seq ?_
                    refine C_reg ?_
                    refine p1 rfl ?_
                    refine D_end ?_
                    refine x_then ?_
                    refine C_ret ?_
                    refine x_then_ret ?_
                    refine R_1 rfl rfl fun w' hs => ⟨congrArg (fun z => Ending.returned (Value.bool z)) ?_, hs.bel⟩
                    show (false : Bool) = true
                    first | rfl | (exfalso; omega) | (exfalso; simp only [mapS_len, sumB_mk, sumR_mk] at *; omega) | exact absurd h29 (by simp [mapS_len])
                  · have pr29 : ¬ ((1 + (mkBo 1 (labelsOf aB)).length) : Int) < 0 := of_decide_eq_false h29
                    refine C_skip ?_
                    refine x_then ?_
                    refine C_seq ?_
                    refine C_seq ?_
                    refine C_reg ?_
                    refine p1 rfl <| p1 rfl <| p1 rfl ?_
                    refine D_end ?_
                    refine x_then ?_
                    refine D_weak [(68, (.bool (((1 + (mkBo 1 (labelsOf aB)).length) : Int) != (1 + (labelsOf aB).length))))] ⟨rfl, trivial⟩ ?_
                    refine D_sel (H' := []) [false, false, false] rfl ?_
                    refine C_if _ rfl (fun h30 => ?_) (fun h30 => ?_)
                    · have pr30 : ((1 + (mkBo 1 (labelsOf aB)).length) : Int) ≠ (1 + (labelsOf aB).length) := bne_iff_ne.1 h30
                      refine C_seq ?_
                      refine C_reg ?_
                      refine p1 rfl ?_
                      refine D_end ?_
                      refine x_then ?_
                      refine C_ret ?_
                      refine x_then_ret ?_
                      refine R_1 rfl rfl fun w' hs => ⟨congrArg (fun z => Ending.returned (Value.bool z)) ?_, hs.bel⟩
                      show (false : Bool) = true
                      first | rfl | (exfalso; omega) | (exfalso; simp only [mapS_len, sumB_mk, sumR_mk] at *; omega) | exact absurd h30 (by simp [mapS_len])
                    · have pr30 : ((1 + (mkBo 1 (labelsOf aB)).length) : Int) = (1 + (labelsOf aB).length) := eq_of_bne_f h30
                      refine C_skip ?_
                      refine x_then ?_
                      refine C_seq ?_
                      refine C_reg ?_
                      refine p1 rfl ?_
                      refine D_end ?_
                      refine x_then ?_
                      refine C_ret ?_
                      refine R_1 rfl rfl fun w' hs => ⟨congrArg (fun z => Ending.returned (Value.bool z)) ?_, hs.bel⟩
                      show (true : Bool) = true
                      first | rfl | (exfalso; omega) | (exfalso; simp only [mapS_len, sumB_mk, sumR_mk] at *; omega) | exact absurd h30 (by simp [mapS_len])

theorem impl_badIn (w : World) (c_b : List Value) (b : Beliefs) (v_bad : Value) (bad : (List Int)) (h_b : Gd.rd w c_b b) (h_bad : Gd.rd w [v_bad] bad) (ho : okB b = true) (hsol : HasSol b) (hrl : b.Reasons.length ≤ 1048576) (ha : asc bad b.Nodes = true) : Calls Try.prog 62 [(.agg c_b.toArray), v_bad].toArray w (Res w (badL b bad : List Int)) := by
  obtain ⟨u1, rfl, hu2⟩ := open_Beliefs h_b
  have hm3 := rd_max hu2
  have hm4 := rd_max h_bad
  have hbn := okB_nodes ho
  have hbl := asc_len ha
  refine enter 27 Try.func62 rfl rfl rfl ?_
  refine C_seq ?_
  refine C_reg ?_
  refine li rfl (D_box rfl rfl rfl rfl rfl fun g5 => ?_)
  refine p1 rfl ?_
  refine D_end ?_
  refine x_then ?_
  refine D_H ([bx g5 [(.int .i64 b.Nodes), u1]]) rfl ?_
  refine C_seq ?_
  refine C_reg ?_
  refine q1 rfl (lbw 0 a_32 rfl rfl rfl) ?_
  refine li rfl (crl b_50 rfl rfl rfl rfl (fun w' hs => (impl_labels w' [(.int .i64 b.Nodes), u1] b (rd_at hs h_b) (by first | assumption | omega | (unfold szm at *; split at * <;> omega)) (by first | assumption | omega | (unfold szm at *; split at * <;> omega)) (by first | assumption | omega | (unfold szm at *; split at * <;> omega)))) fun v6 => ?_)
  refine p1 rfl ?_
  refine D_end ?_
  refine x_then ?_
  refine D_H ([ov [v6] (vec b.Nodes.toNat (lbs b) : (List Bool)), bx g5 [(.int .i64 b.Nodes), u1]]) rfl ?_
  refine C_seq ?_
  refine C_reg ?_
  refine p1 rfl ?_
  refine D_end ?_
  refine x_then ?_
  refine C_seq ?_
  refine C_seq ?_
  refine C_reg ?_
  refine p1 rfl ?_
  refine q1 rfl (D_len s_25 rfl rfl (rd_sl h_bad)) ?_
  refine p1 rfl ?_
  refine D_end ?_
  refine x_then ?_
  refine C_block ?_
  refine C_loop (fun m_ ac w' => ∃ (k : Nat), ∃ (v : Value), (k ≤ bad.length) ∧ m_ = bad.length - k ∧ Fits ac 27 [(5, v6), (6, v), (11, v_bad), (12, (.int .i64 ((bad.length : Nat) : Int))), (13, (.int .i64 ((k : Nat) : Int)))] ∧ St w ([ov [v] (filtT (fun x => lbs b x.toNat) bad k : (List Int)), ov [v6] (vec b.Nodes.toNat (lbs b) : (List Bool)), bx g5 [(.int .i64 b.Nodes), u1]]) w') ?_ ?_
  · refine D_nil (α := Int) ?_
    refine D_eq 0 rfl (show ([] : (List Int)) = filtT (fun x => lbs b x.toNat) bad 0 from by rfl) ?_
    refine fun ac w' hf hs => ⟨_, 0, (.slice none 0 0), ?_, rfl, hf.weak ⟨rfl, rfl, rfl, rfl, rfl, trivial⟩, hs⟩
    · first | assumption | omega | simp
  · rintro m_ ac w' ⟨k, v, hk, rfl, hf, hs⟩
    refine D.use ?_ hf hs
    clear hf hs ac w'
    have hcl := filtT_len (fun x => lbs b x.toNat) bad k
    refine C_seq ?_
    refine C_reg ?_
    refine p1 rfl ?_
    refine D_end ?_
    refine x_then ?_
    refine D_H ([ov [v] (filtT (fun x => lbs b x.toNat) bad k : (List Int)), ov [v6] (vec b.Nodes.toNat (lbs b) : (List Bool)), bx g5 [(.int .i64 b.Nodes), u1]]) rfl ?_
    refine C_seq ?_
    refine C_if _ rfl (fun h7 => ?_) (fun h7 => ?_)
    · have pr7 : (((k : Nat) : Int) : Int) < ((bad.length : Nat) : Int) := of_decide_eq_true h7
      refine C_skip ?_
      refine x_then ?_
      refine C_seq ?_
      refine C_block ?_
      refine C_seq ?_
      refine C_reg ?_
      obtain ⟨y0, hy0⟩ := some_of_lt (l := bad) (i := k) (by omega)
      have hyn := asc_at ha hy0
      obtain ⟨es8, at9, hr10⟩ := rd_elem (n := 1) rfl h_bad hy0
      obtain rfl : es8 = [.int .i64 y0] := hr10
      refine q1 rfl (D_ix (l := bad) (j := k) s_25 rfl rfl rfl (fun w' hs => (rd_at hs h_bad)) rfl (lt_of_some hy0)) ?_
      refine q1 rfl (lr0 o_3 rfl rfl at9 rfl) ?_
      refine p1 rfl ?_
      refine D_end ?_
      refine x_then ?_
      refine C_seq ?_
      refine C_reg ?_
      refine p1 rfl <| p1 rfl ?_
      have hx12 : (vec b.Nodes.toNat (lbs b))[(y0.toNat)]? = some ((lbs b) (y0.toNat)) := vec_get (by omega)
      refine q1 rfl (D_ix (l := (vec b.Nodes.toNat (lbs b))) (j := (y0.toNat)) s_42 rfl rfl rfl (fun w' hs => (rd_own (k := 1) hs rfl)) (Int.toNat_of_nonneg (by omega)).symm (lt_of_some hx12)) ?_
      refine q1 rfl (lo (α := Bool) 1 o_4 rfl rfl rfl hx12) ?_
      refine D_end ?_
      refine x_then ?_
      refine C_if _ rfl (fun h13 => ?_) (fun h13 => ?_)
      · refine C_reg ?_
        refine p1 rfl <| p1 rfl ?_
        refine li rfl (D_bs s_25 y_3 rfl (by decide) (by decide) rfl rfl rfl rfl rfl rfl fun g14 => ?_)
        refine D_fi y0 ?_
        refine D_pk (H' := [ov [v] (filtT (fun x => lbs b x.toNat) bad k : (List Int)), ov [(.int .i64 y0)] (y0 : Int), bx g14 [(.int .i64 y0)], ov [v6] (vec b.Nodes.toNat (lbs b) : (List Bool)), bx g5 [(.int .i64 b.Nodes), u1]]) [2, 0, 1, 3, 4] rfl rfl ?_
        refine li rfl (D_ap s_25 y_3 rfl (by decide) rfl rfl rfl rfl rfl rfl (by first | omega | (simp; omega)) (by first | omega | (simp; omega)) fun v15 => ?_)
        refine p1 rfl ?_
        refine D_end ?_
        refine x_blk ?_
        refine x_then ?_
        refine D_H ([ov [v15] ((filtT (fun x => lbs b x.toNat) bad k) ++ [y0] : (List Int)), ov [v6] (vec b.Nodes.toNat (lbs b) : (List Bool)), bx g5 [(.int .i64 b.Nodes), u1]]) rfl ?_
        refine C_reg ?_
        refine q1 rfl (D_add rfl rfl rfl (r := ((k + 1 : Nat) : Int)) (by omega) (by omega)) ?_
        refine p1 rfl ?_
        refine D_end ?_
        refine x_then ?_
        refine D_eq 0 rfl (show ((filtT (fun x => lbs b x.toNat) bad k) ++ [y0] : (List Int)) = filtT (fun x => lbs b x.toNat) bad (k + 1) from by first | exact filtT_t hy0 (by assumption) | exact filtT_f hy0 (by assumption)) ?_
        refine fun ac w' hf hs => ⟨_, ?_, k + 1, v15, ?_, rfl, hf.weak ⟨rfl, rfl, rfl, rfl, rfl, trivial⟩, hs⟩
        · omega
        · first | assumption | omega | simp
      · refine C_skip ?_
        refine x_blk ?_
        refine x_then ?_
        refine C_reg ?_
        refine q1 rfl (D_add rfl rfl rfl (r := ((k + 1 : Nat) : Int)) (by omega) (by omega)) ?_
        refine p1 rfl ?_
        refine D_end ?_
        refine x_then ?_
        refine D_eq 0 rfl (show (filtT (fun x => lbs b x.toNat) bad k : (List Int)) = filtT (fun x => lbs b x.toNat) bad (k + 1) from by first | exact filtT_t hy0 (by assumption) | exact filtT_f hy0 (by assumption)) ?_
        refine fun ac w' hf hs => ⟨_, ?_, k + 1, v, ?_, rfl, hf.weak ⟨rfl, rfl, rfl, rfl, rfl, trivial⟩, hs⟩
        · omega
        · first | assumption | omega | simp
    · have pr7 : ¬ (((k : Nat) : Int) : Int) < ((bad.length : Nat) : Int) := of_decide_eq_false h7
      refine C_exit ?_
      refine x_then_exit ?_
      refine x_then_exit ?_
      refine x_blk_eq ?_
      refine x_then ?_
      refine C_seq ?_
      refine C_reg ?_
      refine p1 rfl <| p1 rfl ?_
      refine D_end ?_
      refine x_then ?_
      refine C_ret ?_
      refine R_1 rfl rfl fun w' hs => res_of (k := 0) hs rfl ?_
      show filtT (fun x => lbs b x.toNat) bad k = badL b bad
      exact filtT_done (by omega)

theorem impl_ClashesOf (w : World) (c_b : List Value) (b : Beliefs) (v_bad : Value) (bad : (List Int)) (h_b : Gd.rd w c_b b) (h_bad : Gd.rd w [v_bad] bad) : Calls Try.prog 33 [(.agg c_b.toArray), v_bad].toArray w (Res w (clashes b bad : List Int)) := by
  obtain ⟨u1, rfl, hu2⟩ := open_Beliefs h_b
  have hm3 := rd_max hu2
  have hm4 := rd_max h_bad
  refine enter 12 Try.func33 rfl rfl rfl ?_
  refine C_seq ?_
  refine C_reg ?_
  refine li rfl (D_box rfl rfl rfl rfl rfl fun g5 => ?_)
  refine p1 rfl ?_
  refine D_end ?_
  refine x_then ?_
  refine D_H ([bx g5 [(.int .i64 b.Nodes), u1]]) rfl ?_
  refine C_seq ?_
  refine C_seq ?_
  refine C_reg ?_
  refine q1 rfl (lbw 0 a_32 rfl rfl rfl) ?_
  refine p1 rfl ?_
  refine li rfl (cv b_61 rfl rfl rfl rfl (fun w' hs => (impl_IsCase w' [(.int .i64 b.Nodes), u1] b v_bad bad (.slice none 0 0) [] (rd_at hs h_b) (rd_at hs h_bad) rd_nil)) ?_)
  refine p1 rfl ?_
  refine D_end ?_
  refine x_then ?_
  refine C_if _ rfl (fun h6 => ?_) (fun h6 => ?_)
  · have h6n : (isCase b bad ([])) = false := not_t h6
    refine C_seq ?_
    refine C_reg ?_
    refine p1 rfl ?_
    refine D_end ?_
    refine x_then ?_
    refine C_ret ?_
    refine x_then_ret ?_
    refine D_nil (α := Int) ?_
    refine R_1 rfl rfl fun w' hs => res_of (k := 0) hs rfl ?_
    show [] = clashes b bad
    exact clashes_f h6n
  · have h6n : (isCase b bad ([])) = true := not_f h6
    refine C_skip ?_
    refine x_then ?_
    refine C_seq ?_
    refine C_reg ?_
    refine q1 rfl (lbw 0 a_32 rfl rfl rfl) ?_
    refine p1 rfl ?_
    refine li rfl (crl b_62 rfl rfl rfl rfl (fun w' hs => (impl_badIn w' [(.int .i64 b.Nodes), u1] b v_bad bad (rd_at hs h_b) (rd_at hs h_bad) (isB_ok2 (strat_b (case_s (by assumption)))) (strat_has (case_s (by assumption))) (by have := isB_len (strat_b (case_s (b := b) (by assumption))); omega) (case_a (by assumption)))) fun v7 => ?_)
    refine p1 rfl ?_
    refine D_end ?_
    refine x_then ?_
    refine D_H ([ov [v7] (badL b bad : (List Int)), bx g5 [(.int .i64 b.Nodes), u1]]) rfl ?_
    refine C_ret ?_
    refine R_1 rfl rfl fun w' hs => res_of (k := 0) hs rfl ?_
    show badL b bad = clashes b bad
    exact clashes_t (by assumption)

theorem spec_l12Bad (w : World) (c_b : List Value) (b : Beliefs) (v_bad : Value) (bad : (List Int)) (h_b : Gd.rd w c_b b) (h_bad : Gd.rd w [v_bad] bad) (hbl : bad.length ≤ 1048576) : Calls Try.prog 60 [(.agg c_b.toArray), v_bad].toArray w (Res w (bad.filter (inL (labelsOf b)) : List Int)) := by
  obtain ⟨u1, rfl, hu2⟩ := open_Beliefs h_b
  have hm3 := rd_max hu2
  have hm4 := rd_max h_bad
  refine enter 42 Try.func60 rfl rfl rfl ?_
  refine C_seq ?_
  refine C_reg ?_
  refine li rfl (D_box rfl rfl rfl rfl rfl fun g5 => ?_)
  refine p1 rfl ?_
  refine D_end ?_
  refine x_then ?_
  refine D_H ([bx g5 [(.int .i64 b.Nodes), u1]]) rfl ?_
  refine C_seq ?_
  refine C_reg ?_
  refine li rfl (D_bs0 (α := Int) s_25 rfl rfl rfl fun v6 => ?_)
  refine p1 rfl ?_
  refine D_end ?_
  refine x_then ?_
  refine D_H ([ov [v6] ([] : (List Int)), bx g5 [(.int .i64 b.Nodes), u1]]) rfl ?_
  refine C_seq ?_
  refine C_reg ?_
  refine q1 rfl (lbw 1 a_32 rfl rfl rfl) ?_
  refine li rfl (crl b_19 rfl rfl rfl rfl (fun w' hs => (spec_LabelsOf w' [(.int .i64 b.Nodes), u1] b (rd_at hs h_b))) fun v7 => ?_)
  refine p1 rfl ?_
  refine D_end ?_
  refine x_then ?_
  refine D_H ([ov [v7] (labelsOf b : (List Bool)), ov [v6] ([] : (List Int)), bx g5 [(.int .i64 b.Nodes), u1]]) rfl ?_
  refine C_seq ?_
  refine C_seq ?_
  refine C_reg ?_
  refine p1 rfl ?_
  refine D_end ?_
  refine x_then ?_
  refine C_block ?_
  refine C_loop (fun m_ ac w' => ∃ (k : Nat), ∃ (v : Value), (k ≤ bad.length) ∧ m_ = bad.length - k ∧ Fits ac 42 [(1, v_bad), (5, v), (6, v7), (7, (.int .i64 ((k : Nat) : Int)))] ∧ St w ([ov [v7] (labelsOf b : (List Bool)), ov [v] (filtT (inL (labelsOf b)) bad k : (List Int)), bx g5 [(.int .i64 b.Nodes), u1]]) w') ?_ ?_
  · refine D_eq 1 rfl (show ([] : (List Int)) = filtT (inL (labelsOf b)) bad 0 from by rfl) ?_
    refine fun ac w' hf hs => ⟨_, 0, v6, ?_, rfl, hf.weak ⟨rfl, rfl, rfl, rfl, trivial⟩, hs⟩
    · first | assumption | omega | simp
  · rintro m_ ac w' ⟨k, v, hk, rfl, hf, hs⟩
    refine D.use ?_ hf hs
    clear hf hs ac w'
    have hcl := filtT_len (inL (labelsOf b)) bad k
    refine C_seq ?_
    refine C_seq ?_
    refine C_reg ?_
    have hll := labelsOf_len (b := b)
    refine p1 rfl <| p1 rfl ?_
    refine q1 rfl (D_len s_25 rfl rfl (rd_sl h_bad)) ?_
    refine p1 rfl ?_
    refine D_end ?_
    refine x_then ?_
    refine D_H ([ov [v7] (labelsOf b : (List Bool)), ov [v] (filtT (inL (labelsOf b)) bad k : (List Int)), bx g5 [(.int .i64 b.Nodes), u1]]) rfl ?_
    refine C_if _ rfl (fun h8 => ?_) (fun h8 => ?_)
    · have pr8 : (((k : Nat) : Int) : Int) < ((bad.length : Nat) : Int) := of_decide_eq_true h8
      refine C_skip ?_
      refine x_then ?_
      refine C_seq ?_
      refine C_block ?_
      refine C_seq ?_
      refine C_reg ?_
      refine p1 rfl <| p1 rfl ?_
      obtain ⟨y0, hy0⟩ := some_of_lt (l := bad) (i := k) (by omega)
      obtain ⟨es9, at10, hr11⟩ := rd_elem (n := 1) rfl h_bad hy0
      obtain rfl : es9 = [.int .i64 y0] := hr11
      refine q1 rfl (D_ix (l := bad) (j := k) s_25 rfl rfl rfl (fun w' hs => (rd_at hs h_bad)) rfl (lt_of_some hy0)) ?_
      refine q1 rfl (lr0 o_3 rfl rfl at10 rfl) ?_
      refine p1 rfl ?_
      refine q1 rfl (D_leno 0 s_42 rfl rfl rfl) ?_
      refine q1 rfl (D_sub rfl rfl rfl (r := ((((labelsOf b).length : Nat) : Int) - 1)) (by omega) (by omega)) ?_
      refine li rfl (cv b_54 rfl rfl rfl rfl (fun w' hs => (spec_l1In w' y0 0 ((((labelsOf b).length : Nat) : Int) - 1))) ?_)
      refine p1 rfl ?_
      refine gs 25 rfl rfl (fun h12 => ?_) (fun h12 => ?_)
      · refine p1 rfl <| p1 rfl <| p1 rfl ?_
        refine q1 rfl (D_ix (l := bad) (j := k) s_25 rfl rfl rfl (fun w' hs => (rd_at hs h_bad)) rfl (lt_of_some hy0)) ?_
        refine q1 rfl (lr0 o_3 rfl rfl at10 rfl) ?_
        have hyr := inR_t (x := y0) (by assumption)
        obtain ⟨ua, hua⟩ := some_of_lt (l := (labelsOf b)) (i := (y0.toNat)) (by omega)
        refine q1 rfl (D_ix (l := (labelsOf b)) (j := (y0.toNat)) s_42 rfl rfl rfl (fun w' hs => (rd_own (k := 0) hs rfl)) (Int.toNat_of_nonneg (by omega)).symm (lt_of_some hua)) ?_
        refine q1 rfl (lo (α := Bool) 0 o_4 rfl rfl rfl hua) ?_
        refine p1 rfl ?_
        refine D_end ?_
        refine x_then ?_
        refine D_weak [(1, v_bad), (5, v), (6, v7), (7, (.int .i64 ((k : Nat) : Int))), (33, (.bool ua))] ⟨rfl, rfl, rfl, rfl, rfl, trivial⟩ ?_
        refine C_if _ rfl (fun h13 => ?_) (fun h13 => ?_)
        · refine C_reg ?_
          refine p1 rfl <| p1 rfl <| p1 rfl ?_
          refine q1 rfl (D_ix (l := bad) (j := k) s_25 rfl rfl rfl (fun w' hs => (rd_at hs h_bad)) rfl (lt_of_some hy0)) ?_
          refine q1 rfl (lr0 o_3 rfl rfl at10 rfl) ?_
          refine li rfl (D_bs s_25 y_3 rfl (by decide) (by decide) rfl rfl rfl rfl rfl rfl fun g14 => ?_)
          refine D_fi y0 ?_
          refine D_pk (H' := [ov [v] (filtT (inL (labelsOf b)) bad k : (List Int)), ov [(.int .i64 y0)] (y0 : Int), bx g14 [(.int .i64 y0)], ov [v7] (labelsOf b : (List Bool)), bx g5 [(.int .i64 b.Nodes), u1]]) [3, 0, 1, 2, 4] rfl rfl ?_
          refine li rfl (D_ap s_25 y_3 rfl (by decide) rfl rfl rfl rfl rfl rfl (by first | omega | (simp; omega)) (by first | omega | (simp; omega)) fun v15 => ?_)
          refine p1 rfl ?_
          refine D_end ?_
          refine x_blk ?_
          refine x_then ?_
          refine D_H ([ov [v15] ((filtT (inL (labelsOf b)) bad k) ++ [y0] : (List Int)), ov [v7] (labelsOf b : (List Bool)), bx g5 [(.int .i64 b.Nodes), u1]]) rfl ?_
          refine C_reg ?_
          refine p1 rfl ?_
          refine q1 rfl (D_add rfl rfl rfl (r := ((k + 1 : Nat) : Int)) (by omega) (by omega)) ?_
          refine p1 rfl ?_
          refine D_end ?_
          refine x_then ?_
          refine D_eq 0 rfl (show ((filtT (inL (labelsOf b)) bad k) ++ [y0] : (List Int)) = filtT (inL (labelsOf b)) bad (k + 1) from by first | exact filtT_f hy0 (inL_out (by assumption)) | exact filtT_t hy0 ((inL_of (by omega) hua).trans (by assumption)) | exact filtT_f hy0 ((inL_of (by omega) hua).trans (by assumption))) ?_
          refine fun ac w' hf hs => ⟨_, ?_, k + 1, v15, ?_, rfl, hf.weak ⟨rfl, rfl, rfl, rfl, trivial⟩, hs.pk [1, 0, 2] rfl rfl⟩
          · omega
          · first | assumption | omega | simp
        · refine C_skip ?_
          refine x_blk ?_
          refine x_then ?_
          refine C_reg ?_
          refine p1 rfl ?_
          refine q1 rfl (D_add rfl rfl rfl (r := ((k + 1 : Nat) : Int)) (by omega) (by omega)) ?_
          refine p1 rfl ?_
          refine D_end ?_
          refine x_then ?_
          refine D_eq 1 rfl (show (filtT (inL (labelsOf b)) bad k : (List Int)) = filtT (inL (labelsOf b)) bad (k + 1) from by first | exact filtT_f hy0 (inL_out (by assumption)) | exact filtT_t hy0 ((inL_of (by omega) hua).trans (by assumption)) | exact filtT_f hy0 ((inL_of (by omega) hua).trans (by assumption))) ?_
          refine fun ac w' hf hs => ⟨_, ?_, k + 1, v, ?_, rfl, hf.weak ⟨rfl, rfl, rfl, rfl, trivial⟩, hs⟩
          · omega
          · first | assumption | omega | simp
      · refine n1 rfl ?_
        refine n1 rfl ?_
        refine n1 rfl ?_
        refine n1 rfl ?_
        refine n1 rfl ?_
        refine n1 rfl ?_
        refine n1 rfl ?_
        refine p1 rfl ?_
        refine D_end ?_
        refine x_then ?_
        refine D_weak [(1, v_bad), (5, v), (6, v7), (7, (.int .i64 ((k : Nat) : Int))), (33, (.bool false))] ⟨rfl, rfl, rfl, rfl, rfl, trivial⟩ ?_
        refine C_f rfl ?_
        refine C_skip ?_
        refine x_blk ?_
        refine x_then ?_
        refine C_reg ?_
        refine p1 rfl ?_
        refine q1 rfl (D_add rfl rfl rfl (r := ((k + 1 : Nat) : Int)) (by omega) (by omega)) ?_
        refine p1 rfl ?_
        refine D_end ?_
        refine x_then ?_
        refine D_eq 1 rfl (show (filtT (inL (labelsOf b)) bad k : (List Int)) = filtT (inL (labelsOf b)) bad (k + 1) from by first | exact filtT_f hy0 (inL_out (by assumption)) | exact filtT_t hy0 ((inL_of (by omega) hua).trans (by assumption)) | exact filtT_f hy0 ((inL_of (by omega) hua).trans (by assumption))) ?_
        refine fun ac w' hf hs => ⟨_, ?_, k + 1, v, ?_, rfl, hf.weak ⟨rfl, rfl, rfl, rfl, trivial⟩, hs⟩
        · omega
        · first | assumption | omega | simp
    · have pr8 : ¬ (((k : Nat) : Int) : Int) < ((bad.length : Nat) : Int) := of_decide_eq_false h8
      refine C_exit ?_
      refine x_then_exit ?_
      refine x_then_exit ?_
      refine x_blk_eq ?_
      refine x_then ?_
      refine C_seq ?_
      refine C_reg ?_
      refine p1 rfl <| p1 rfl ?_
      refine D_end ?_
      refine x_then ?_
      refine C_ret ?_
      refine R_1 rfl rfl fun w' hs => res_of (k := 1) hs rfl ?_
      show filtT (inL (labelsOf b)) bad k = bad.filter (inL (labelsOf b))
      exact filtT_done (by omega)

theorem spec_ClashesOf (w : World) (c_b : List Value) (b : Beliefs) (v_bad : Value) (bad : (List Int)) (h_b : Gd.rd w c_b b) (h_bad : Gd.rd w [v_bad] bad) : Calls Try.prog 32 [(.agg c_b.toArray), v_bad].toArray w (Res w (clashes b bad : List Int)) := by
  obtain ⟨u1, rfl, hu2⟩ := open_Beliefs h_b
  have hm3 := rd_max hu2
  have hm4 := rd_max h_bad
  refine enter 13 Try.func32 rfl rfl rfl ?_
  refine C_seq ?_
  refine C_reg ?_
  refine li rfl (D_box rfl rfl rfl rfl rfl fun g5 => ?_)
  refine p1 rfl ?_
  refine D_end ?_
  refine x_then ?_
  refine D_H ([bx g5 [(.int .i64 b.Nodes), u1]]) rfl ?_
  refine C_seq ?_
  refine C_seq ?_
  refine C_reg ?_
  refine q1 rfl (lbw 0 a_32 rfl rfl rfl) ?_
  refine p1 rfl ?_
  refine li rfl (cv b_59 rfl rfl rfl rfl (fun w' hs => (spec_IsCase w' [(.int .i64 b.Nodes), u1] b v_bad bad (.slice none 0 0) [] (rd_at hs h_b) (rd_at hs h_bad) rd_nil)) ?_)
  refine p1 rfl ?_
  refine D_end ?_
  refine x_then ?_
  refine C_if _ rfl (fun h6 => ?_) (fun h6 => ?_)
  · have h6n : (isCase b bad ([])) = false := not_t h6
    refine C_seq ?_
    refine C_reg ?_
    refine li rfl (D_bs0 (α := Int) s_25 rfl rfl rfl fun v7 => ?_)
    refine p1 rfl ?_
    refine D_end ?_
    refine x_then ?_
    refine D_H ([ov [v7] ([] : (List Int)), bx g5 [(.int .i64 b.Nodes), u1]]) rfl ?_
    refine C_ret ?_
    refine x_then_ret ?_
    refine R_1 rfl rfl fun w' hs => res_of (k := 0) hs rfl ?_
    show [] = clashes b bad
    exact clashes_f h6n
  · have h6n : (isCase b bad ([])) = true := not_f h6
    refine C_skip ?_
    refine x_then ?_
    refine C_seq ?_
    refine C_reg ?_
    refine q1 rfl (lbw 0 a_32 rfl rfl rfl) ?_
    refine p1 rfl ?_
    refine li rfl (crl b_60 rfl rfl rfl rfl (fun w' hs => (spec_l12Bad w' [(.int .i64 b.Nodes), u1] b v_bad bad (rd_at hs h_b) (rd_at hs h_bad) (by have := case_bl (b := b) (bad := bad) (by assumption); omega))) fun v8 => ?_)
    refine p1 rfl ?_
    refine D_end ?_
    refine x_then ?_
    refine D_H ([ov [v8] (bad.filter (inL (labelsOf b)) : (List Int)), bx g5 [(.int .i64 b.Nodes), u1]]) rfl ?_
    refine C_ret ?_
    refine R_1 rfl rfl fun w' hs => res_of (k := 0) hs rfl ?_
    show bad.filter (inL (labelsOf b)) = clashes b bad
    exact clashes_w (by assumption)

set_option maxHeartbeats 4000000 in
theorem laws_FnExactClashesOf (w : World) (c_aB : List Value) (aB : Beliefs) (v_aBad : Value) (aBad : (List Int)) (h_aB : Gd.rd w c_aB aB) (h_aBad : Gd.rd w [v_aBad] aBad) : Calls Try.prog 7 [(.agg c_aB.toArray), v_aBad].toArray w (Val w (.bool (true))) := by
  obtain ⟨u1, rfl, hu2⟩ := open_Beliefs h_aB
  have hm3 := rd_max hu2
  have hm4 := rd_max h_aBad
  have hz1 := szB_len aB
  have hz2 := szB_sum aB
  have hz3 := clashes_len aB aBad
  refine enter 90 Try.func7 rfl rfl rfl ?_
  refine C_seq ?_
  refine C_reg ?_
  refine li rfl (D_box rfl rfl rfl rfl rfl fun g5 => ?_)
  refine p1 rfl ?_
  refine D_end ?_
  refine x_then ?_
  refine D_H ([bx g5 [(.int .i64 aB.Nodes), u1]]) rfl ?_
  refine C_seq ?_
  refine C_seq ?_
  refine C_reg ?_
  refine p1 rfl ?_
  refine q1 rfl (D_len s_25 rfl rfl (rd_sl h_aBad)) ?_
  refine p1 rfl ?_
  refine D_end ?_
  refine x_then ?_
  refine C_if _ rfl (fun h6 => ?_) (fun h6 => ?_)
  · have pr6 : (1048576 : Int) < ((aBad.length : Nat) : Int) := of_decide_eq_true h6
    refine C_seq ?_
    refine C_reg ?_
    refine p1 rfl ?_
    refine D_end ?_
    refine x_then ?_
    refine C_ret ?_
    refine x_then_ret ?_
    refine R_1 rfl rfl fun w' hs => ⟨congrArg (fun z => Ending.returned (Value.bool z)) ?_, hs.bel⟩
    show (true : Bool) = true
    first | rfl | (exfalso; omega) | (exfalso; simp only [mapS_len, sumB_mk, sumR_mk] at *; omega) | exact absurd h6 (by simp [mapS_len])
  · have pr6 : ¬ (1048576 : Int) < ((aBad.length : Nat) : Int) := of_decide_eq_false h6
    refine C_skip ?_
    refine x_then ?_
    refine C_seq ?_
    refine C_reg ?_
    refine p1 rfl ?_
    refine D_end ?_
    refine x_then ?_
    refine C_seq ?_
    refine C_reg ?_
    refine q1 rfl (lbw 0 a_24 rfl rfl rfl) ?_
    refine p1 rfl ?_
    refine li rfl (cv b_18 rfl rfl rfl rfl (fun w' hs => (laws_szBeliefs w' [(.int .i64 aB.Nodes), u1] aB 1048576 (rd_at hs h_aB) (by first | assumption | omega | (unfold szm at *; split at * <;> omega)) (by first | assumption | omega | (unfold szm at *; split at * <;> omega)))) ?_)
    refine p1 rfl ?_
    refine D_end ?_
    refine x_then ?_
    refine C_seq ?_
    refine C_seq ?_
    refine C_reg ?_
    refine p1 rfl <| p1 rfl ?_
    refine D_end ?_
    refine x_then ?_
    refine C_if _ rfl (fun h7 => ?_) (fun h7 => ?_)
    · have pr7 : ((szm (szB aB) 1048576) : Int) < 0 := of_decide_eq_true h7
      refine C_seq ?_
      refine C_reg ?_
      refine p1 rfl ?_
      refine D_end ?_
      refine x_then ?_
      refine C_ret ?_
      refine x_then_ret ?_
      refine R_1 rfl rfl fun w' hs => ⟨congrArg (fun z => Ending.returned (Value.bool z)) ?_, hs.bel⟩
      show (true : Bool) = true
      first | rfl | (exfalso; omega) | (exfalso; simp only [mapS_len, sumB_mk, sumR_mk] at *; omega) | exact absurd h7 (by simp [mapS_len])
    · have pr7 : ¬ ((szm (szB aB) 1048576) : Int) < 0 := of_decide_eq_false h7
      have pr7z := szm_val (n := (szB aB)) (left := 1048576) pr7
      refine C_skip ?_
      refine x_then ?_
      refine C_seq ?_
      refine C_reg ?_
      refine q1 rfl (lbw 0 a_24 rfl rfl rfl) ?_
      refine li rfl (crs rfl b_20 rfl rfl rfl rfl (fun w' hs => (laws_toBeliefs w' [(.int .i64 aB.Nodes), u1] aB (rd_at hs h_aB) (by first | assumption | omega | (unfold szm at *; split at * <;> omega)))) fun cs8 => ?_)
      refine D_pre (fun w' hs => shape_Beliefs (rd_own (k := 0) hs rfl)) ?_
      rintro ⟨v9, rfl, ho10⟩
      refine p1 rfl ?_
      refine li rfl (crl b_28 rfl rfl rfl rfl (fun w' hs => (laws_toIntS w' v_aBad aBad (rd_at hs h_aBad) (by first | assumption | omega | (unfold szm at *; split at * <;> omega)))) fun v11 => ?_)
      refine li rfl (crl b_32 rfl rfl rfl rfl (fun w' hs => (spec_ClashesOf w' [(.int .i64 aB.Nodes), v9] aB v11 aBad (rd_own (k := 1) hs rfl) (rd_own (k := 0) hs rfl))) fun v12 => ?_)
      refine p1 rfl ?_
      refine D_end ?_
      refine x_then ?_
      refine D_weak [(1, v_aBad), (2, (.pointer (some ⟨g5, 0, none⟩))), (6, v12)] ⟨rfl, rfl, rfl, trivial⟩ ?_
      refine D_sel (H' := [ov [v12] (clashes aB aBad : (List Int)), bx g5 [(.int .i64 aB.Nodes), u1]]) [true, false, false, true] rfl ?_
      refine C_seq ?_
      refine C_reg ?_
      refine q1 rfl (lbw 1 a_24 rfl rfl rfl) ?_
      refine li rfl (crs rfl b_20 rfl rfl rfl rfl (fun w' hs => (laws_toBeliefs w' [(.int .i64 aB.Nodes), u1] aB (rd_at hs h_aB) (by first | assumption | omega | (unfold szm at *; split at * <;> omega)))) fun cs13 => ?_)
      refine D_pre (fun w' hs => shape_Beliefs (rd_own (k := 0) hs rfl)) ?_
      rintro ⟨v14, rfl, ho15⟩
      refine li rfl (D_alloc y_32 rfl rfl rfl rfl fun g16 => ?_)
      refine li rfl (D_stb (vs := [(.int .i64 aB.Nodes), v14]) (cs' := [(.int .i64 aB.Nodes), v14]) 0 z_32 rfl rfl rfl rfl rfl rfl (ocons rfl (ocons ho15 onil)) (by simp) rfl ?_)
      refine D_end ?_
      refine x_then ?_
      refine D_H ([bx g16 [(.int .i64 aB.Nodes), v14], ov [(.int .i64 aB.Nodes), v14] (aB : Beliefs), ov [v12] (clashes aB aBad : (List Int)), bx g5 [(.int .i64 aB.Nodes), u1]]) rfl ?_
      refine C_seq ?_
      refine C_reg ?_
      refine p1 rfl ?_
      refine li rfl (crl b_28 rfl rfl rfl rfl (fun w' hs => (laws_toIntS w' v_aBad aBad (rd_at hs h_aBad) (by first | assumption | omega | (unfold szm at *; split at * <;> omega)))) fun v17 => ?_)
      refine p1 rfl ?_
      refine D_end ?_
      refine x_then ?_
      refine D_H ([ov [v17] (aBad : (List Int)), bx g16 [(.int .i64 aB.Nodes), v14], ov [(.int .i64 aB.Nodes), v14] (aB : Beliefs), ov [v12] (clashes aB aBad : (List Int)), bx g5 [(.int .i64 aB.Nodes), u1]]) rfl ?_
      refine C_seq ?_
      refine C_reg ?_
      refine q1 rfl (lbw 1 a_32 rfl rfl rfl) ?_
      refine p1 rfl ?_
      refine li rfl (crl b_33 rfl rfl rfl rfl (fun w' hs => (impl_ClashesOf w' [(.int .i64 aB.Nodes), v14] aB v17 aBad (rd_own (k := 2) hs rfl) (rd_own (k := 0) hs rfl))) fun v18 => ?_)
      refine p1 rfl ?_
      refine D_end ?_
      refine x_then ?_
      refine D_H ([ov [v18] (clashes aB aBad : (List Int)), ov [v17] (aBad : (List Int)), bx g16 [(.int .i64 aB.Nodes), v14], ov [(.int .i64 aB.Nodes), v14] (aB : Beliefs), ov [v12] (clashes aB aBad : (List Int)), bx g5 [(.int .i64 aB.Nodes), u1]]) rfl ?_
      refine C_seq ?_
      refine C_seq ?_
      refine C_reg ?_
      refine p1 rfl <| p1 rfl ?_
      refine li rfl (cv b_13 rfl rfl rfl rfl (fun w' hs => (laws_eqIntS w' v18 (clashes aB aBad) v12 (clashes aB aBad) (rd_own (k := 0) hs rfl) (rd_own (k := 4) hs rfl))) ?_)
      refine p1 rfl ?_
      refine D_end ?_
      refine x_then ?_
      refine C_if _ rfl (fun h19 => ?_) (fun h19 => ?_)
      · have h19n : (decide ((clashes aB aBad) = (clashes aB aBad))) = false := not_t h19
        refine C_seq ?_
        refine C_reg ?_
        refine p1 rfl ?_
        refine D_end ?_
        refine x_then ?_
        refine D_weak [(4, (.bool false))] ⟨rfl, trivial⟩ ?_
        refine D_sel (H' := []) [false, false, false, false, false, false] rfl ?_
        refine C_ret ?_
        refine x_then_ret ?_
        refine R_1 rfl rfl fun w' hs => ⟨congrArg (fun z => Ending.returned (Value.bool z)) ?_, hs.bel⟩
        show (false : Bool) = true
        first | rfl | (exfalso; omega) | (exfalso; simp only [mapS_len, sumB_mk, sumR_mk] at *; omega) | exact absurd h19 (by simp [mapS_len])
      · have h19n : (decide ((clashes aB aBad) = (clashes aB aBad))) = true := not_f h19
        refine C_skip ?_
        refine x_then ?_
        refine C_seq ?_
        refine C_seq ?_
        refine C_draw mixed [3, 4] (by kernel_rfl) ?_
        refine tk 0 rfl (by kernel_rfl) (by kernel_rfl) (by kernel_rfl) rfl (fun _ hs => hs) (lbw 2 a_32 rfl rfl rfl) ?_
        refine tk 1 rfl (by kernel_rfl) (by kernel_rfl) (by kernel_rfl) rfl (fun _ hs => hs) (lbw 5 a_24 rfl rfl rfl) ?_
        refine ty 2 rfl (by kernel_rfl) rfl (crs rfl b_20 rfl rfl rfl rfl (fun w' hs => (laws_toBeliefs w' [(.int .i64 aB.Nodes), u1] aB (rd_at hs h_aB) (by first | assumption | omega | (unfold szm at *; split at * <;> omega)))) fun cs20 => ?_)
        refine D_pre (fun w' hs => shape_Beliefs (rd_own (k := 0) hs rfl)) ?_
        rintro ⟨v21, rfl, ho22⟩
        refine tS (fun _ hs => hs.pk [1, 2, 3, 4, 5, 6] rfl rfl) ?_
        refine ty 3 rfl (by kernel_rfl) rfl (cv b_23 rfl rfl rfl rfl (fun w' hs => (laws_eqBeliefs w' [(.int .i64 aB.Nodes), v14] aB [(.int .i64 aB.Nodes), v21] aB (rd_own (k := 4) hs rfl) (rd_own (k := 0) hs rfl))) ?_)
        refine tZ rfl ?_
        refine ty 4 rfl (by kernel_rfl) rfl (sv rfl rfl (rp rfl) ?_)
        refine tZ rfl ?_
        refine tE (by kernel_rfl) ?_
        refine x_then ?_
        refine D_weak [(1, v_aBad), (2, (.pointer (some ⟨g5, 0, none⟩))), (6, v12), (7, (.pointer (some ⟨g16, 0, none⟩))), (8, v17), (9, v18), (42, (.bool (!(decide (aB = aB)))))] ⟨rfl, rfl, rfl, rfl, rfl, rfl, rfl, trivial⟩ ?_
        refine D_sel (H' := [ov [v18] (clashes aB aBad : (List Int)), ov [v17] (aBad : (List Int)), bx g16 [(.int .i64 aB.Nodes), v14], ov [(.int .i64 aB.Nodes), v14] (aB : Beliefs), ov [v12] (clashes aB aBad : (List Int)), bx g5 [(.int .i64 aB.Nodes), u1]]) [false, true, true, true, true, true, true] rfl ?_
        refine C_if _ rfl (fun h23 => ?_) (fun h23 => ?_)
        · have h23n : (decide (aB = aB)) = false := not_t h23
          refine C_seq ?_
          refine C_reg ?_
          refine p1 rfl ?_
          refine D_end ?_
          refine x_then ?_
          refine C_ret ?_
          refine x_then_ret ?_
          refine R_1 rfl rfl fun w' hs => ⟨congrArg (fun z => Ending.returned (Value.bool z)) ?_, hs.bel⟩
          show (false : Bool) = true
          first | rfl | (exfalso; omega) | (exfalso; simp only [mapS_len, sumB_mk, sumR_mk] at *; omega) | exact absurd h23 (by simp [mapS_len])
        · have h23n : (decide (aB = aB)) = true := not_f h23
          refine C_skip ?_
          refine x_then ?_
          refine C_seq ?_
          refine C_seq ?_
          refine C_reg ?_
          refine p1 rfl <| p1 rfl ?_
          refine li rfl (crl b_28 rfl rfl rfl rfl (fun w' hs => (laws_toIntS w' v_aBad aBad (rd_at hs h_aBad) (by first | assumption | omega | (unfold szm at *; split at * <;> omega)))) fun v24 => ?_)
          refine li rfl (cv b_13 rfl rfl rfl rfl (fun w' hs => (laws_eqIntS w' v17 aBad v24 aBad (rd_own (k := 2) hs rfl) (rd_own (k := 0) hs rfl))) ?_)
          refine p1 rfl ?_
          refine D_end ?_
          refine x_then ?_
          refine D_H ([ov [v24] (aBad : (List Int)), ov [v18] (clashes aB aBad : (List Int)), ov [v17] (aBad : (List Int)), bx g16 [(.int .i64 aB.Nodes), v14], ov [(.int .i64 aB.Nodes), v14] (aB : Beliefs), ov [v12] (clashes aB aBad : (List Int)), bx g5 [(.int .i64 aB.Nodes), u1]]) rfl ?_
          refine C_if _ rfl (fun h25 => ?_) (fun h25 => ?_)
          · have h25n : (decide (aBad = aBad)) = false := not_t h25
            refine C_seq ?_
            refine C_reg ?_
            refine p1 rfl ?_
            refine D_end ?_
            refine x_then ?_
            refine C_ret ?_
            refine x_then_ret ?_
            refine R_1 rfl rfl fun w' hs => ⟨congrArg (fun z => Ending.returned (Value.bool z)) ?_, hs.bel⟩
            show (false : Bool) = true
            first | rfl | (exfalso; omega) | (exfalso; simp only [mapS_len, sumB_mk, sumR_mk] at *; omega) | exact absurd h25 (by simp [mapS_len])
          · have h25n : (decide (aBad = aBad)) = true := not_f h25
            refine C_skip ?_
            refine x_then ?_
            refine C_seq ?_
            refine C_reg ?_
            refine p1 rfl ?_
            refine D_end ?_
            refine x_then ?_
            refine C_seq ?_
            refine C_reg ?_
            refine q1 rfl (lbw 3 a_32 rfl rfl rfl) ?_
            refine p1 rfl ?_
            refine D_pk (H' := [ov [(.int .i64 aB.Nodes), v14] (aB : Beliefs), ov [v24] (aBad : (List Int)), ov [v18] (clashes aB aBad : (List Int)), ov [v17] (aBad : (List Int)), bx g16 [(.int .i64 aB.Nodes), v14], ov [v12] (clashes aB aBad : (List Int)), bx g5 [(.int .i64 aB.Nodes), u1]]) [4, 0, 1, 2, 3, 5, 6] rfl rfl ?_
            refine li rfl (cm b_24 rfl rfl rfl rfl (fun w' hs => laws_markBeliefs _ _ w' [(.int .i64 aB.Nodes), v14] aB 1 (by first | assumption | omega | (simp only; omega)) (by first | assumption | omega | (simp only; omega)) hs) ?_)
            refine p1 rfl ?_
            refine D_end ?_
            refine x_then ?_
            refine D_H ([ov [(.int .i64 aB.Nodes), v14] (mkB 1 aB : Beliefs), ov [v24] (aBad : (List Int)), ov [v18] (clashes aB aBad : (List Int)), ov [v17] (aBad : (List Int)), bx g16 [(.int .i64 aB.Nodes), v14], ov [v12] (clashes aB aBad : (List Int)), bx g5 [(.int .i64 aB.Nodes), u1]]) rfl ?_
            refine C_seq ?_
            refine C_reg ?_
            refine p1 rfl <| p1 rfl ?_
            refine D_pk (H' := [ov [v17] (aBad : (List Int)), ov [(.int .i64 aB.Nodes), v14] (mkB 1 aB : Beliefs), ov [v24] (aBad : (List Int)), ov [v18] (clashes aB aBad : (List Int)), bx g16 [(.int .i64 aB.Nodes), v14], ov [v12] (clashes aB aBad : (List Int)), bx g5 [(.int .i64 aB.Nodes), u1]]) [3, 0, 1, 2, 4, 5, 6] rfl rfl ?_
            refine li rfl (cm b_16 rfl rfl rfl rfl (fun w' hs => laws_markIntS _ _ w' v17 aBad (1 + sumC cR aB.Reasons) (by first | assumption | omega | (simp only; omega)) (by first | assumption | omega | (simp only; omega)) hs) ?_)
            refine p1 rfl ?_
            refine D_end ?_
            refine x_then ?_
            refine D_H ([ov [v17] (mkI (1 + sumC cR aB.Reasons) aBad : (List Int)), ov [(.int .i64 aB.Nodes), v14] (mkB 1 aB : Beliefs), ov [v24] (aBad : (List Int)), ov [v18] (clashes aB aBad : (List Int)), bx g16 [(.int .i64 aB.Nodes), v14], ov [v12] (clashes aB aBad : (List Int)), bx g5 [(.int .i64 aB.Nodes), u1]]) rfl ?_
            refine C_seq ?_
            refine C_seq ?_
            refine C_reg ?_
            refine p1 rfl <| p1 rfl <| p1 rfl ?_
            refine gs 56 rfl rfl (fun h26 => ?_) (fun h26 => ?_)
            · have pr26 : (((1 + sumC cR aB.Reasons) + aBad.length) : Int) < 0 := of_decide_eq_true h26
              refine n1 rfl ?_
              refine n1 rfl ?_
              refine n1 rfl ?_
              refine n1 rfl ?_
              refine p1 rfl ?_
              refine D_end ?_
              refine x_then ?_
              refine D_weak [(1, v_aBad), (2, (.pointer (some ⟨g5, 0, none⟩))), (6, v12), (9, v18), (61, (.bool true))] ⟨rfl, rfl, rfl, rfl, rfl, trivial⟩ ?_
              refine D_sel (H' := [ov [v18] (clashes aB aBad : (List Int)), ov [v12] (clashes aB aBad : (List Int)), bx g5 [(.int .i64 aB.Nodes), u1]]) [false, false, false, true, false, true, true] rfl ?_
              refine C_t rfl ?_
              refine C_seq ?_
              refine C_reg ?_
              refine p1 rfl ?_
              refine D_end ?_
              refine x_then ?_
              refine C_ret ?_
              refine x_then_ret ?_
              refine R_1 rfl rfl fun w' hs => ⟨congrArg (fun z => Ending.returned (Value.bool z)) ?_, hs.bel⟩
              show (false : Bool) = true
              first | rfl | (exfalso; omega) | (exfalso; simp only [mapS_len, sumB_mk, sumR_mk] at *; omega) | exact absurd h26 (by simp [mapS_len])
            · have pr26 : ¬ (((1 + sumC cR aB.Reasons) + aBad.length) : Int) < 0 := of_decide_eq_false h26
              refine p1 rfl <| p1 rfl ?_
              refine li rfl (cv b_13 rfl rfl rfl rfl (fun w' hs => (laws_eqIntS w' v18 (clashes aB aBad) v12 (clashes aB aBad) (rd_own (k := 3) hs rfl) (rd_own (k := 5) hs rfl))) ?_)
              refine p1 rfl <| p1 rfl ?_
              refine D_end ?_
              refine x_then ?_
              refine D_weak [(1, v_aBad), (2, (.pointer (some ⟨g5, 0, none⟩))), (6, v12), (9, v18), (61, (.bool (!(decide ((clashes aB aBad) = (clashes aB aBad))))))] ⟨rfl, rfl, rfl, rfl, rfl, trivial⟩ ?_
              refine D_sel (H' := [ov [v18] (clashes aB aBad : (List Int)), ov [v12] (clashes aB aBad : (List Int)), bx g5 [(.int .i64 aB.Nodes), u1]]) [false, false, false, true, false, true, true] rfl ?_
              refine C_if _ rfl (fun h27 => ?_) (fun h27 => ?_)
              · have h27n : (decide ((clashes aB aBad) = (clashes aB aBad))) = false := not_t h27
                refine C_seq ?_
                refine C_reg ?_
                refine p1 rfl ?_
                refine D_end ?_
                refine x_then ?_
                refine C_ret ?_
                refine x_then_ret ?_
                refine R_1 rfl rfl fun w' hs => ⟨congrArg (fun z => Ending.returned (Value.bool z)) ?_, hs.bel⟩
                show (false : Bool) = true
                first | rfl | (exfalso; omega) | (exfalso; simp only [mapS_len, sumB_mk, sumR_mk] at *; omega) | exact absurd h27 (by simp [mapS_len])
              · have h27n : (decide ((clashes aB aBad) = (clashes aB aBad))) = true := not_f h27
                refine C_skip ?_
                refine x_then ?_
                refine C_seq ?_
                refine C_reg ?_
                refine p1 rfl ?_
                refine D_end ?_
                refine x_then ?_
                refine C_seq ?_
                refine C_reg ?_
                refine p1 rfl <| p1 rfl ?_
                refine li rfl (cm b_16 rfl rfl rfl rfl (fun w' hs => laws_markIntS _ _ w' v18 (clashes aB aBad) 1 (by first | assumption | omega | (simp only; omega)) (by first | assumption | omega | (simp only; omega)) hs) ?_)
                refine p1 rfl ?_
                refine D_end ?_
                refine x_then ?_
                refine D_H ([ov [v18] (mkI 1 (clashes aB aBad) : (List Int)), ov [v12] (clashes aB aBad : (List Int)), bx g5 [(.int .i64 aB.Nodes), u1]]) rfl ?_
                refine C_seq ?_
                refine C_reg ?_
                refine p1 rfl ?_
                refine D_end ?_
                refine x_then ?_
                refine C_seq ?_
                refine C_reg ?_
                refine p1 rfl <| p1 rfl ?_
                refine li rfl (cv b_17 rfl rfl rfl rfl (fun w' hs => (laws_heldIntS w' v18 (mkI 1 (clashes aB aBad)) 1 (rd_own (k := 0) hs rfl) (by first | assumption | omega | (unfold szm at *; split at * <;> omega)) (by rw [mapS_len]; omega) (mkI_idem _ _))) ?_)
                refine p1 rfl ?_
                refine D_end ?_
                refine x_then ?_
                refine C_seq ?_
                refine C_seq ?_
                refine C_reg ?_
                refine p1 rfl <| p1 rfl ?_
                refine D_end ?_
                refine x_then ?_
                refine C_if _ rfl (fun h28 => ?_) (fun h28 => ?_)
                · have pr28 : ((1 + (mkI 1 (clashes aB aBad)).length) : Int) < 0 := of_decide_eq_true h28
                  refine C_seq ?_
                  refine C_reg ?_
                  refine p1 rfl ?_
                  refine D_end ?_
                  refine x_then ?_
                  refine D_weak [(4, (.bool false))] ⟨rfl, trivial⟩ ?_
                  refine D_sel (H' := []) [false, false, false] rfl ?_
                  refine C_ret ?_
                  refine x_then_ret ?_
                  refine R_1 rfl rfl fun w' hs => ⟨congrArg (fun z => Ending.returned (Value.bool z)) ?_, hs.bel⟩
                  show (false : Bool) = true
                  first | rfl | (exfalso; omega) | (exfalso; simp only [mapS_len, sumB_mk, sumR_mk] at *; omega) | exact absurd h28 (by simp [mapS_len])
                · have pr28 : ¬ ((1 + (mkI 1 (clashes aB aBad)).length) : Int) < 0 := of_decide_eq_false h28
                  refine C_skip ?_
                  refine x_then ?_
                  refine C_seq ?_
                  refine C_seq ?_
                  refine C_reg ?_
                  refine p1 rfl <| p1 rfl <| p1 rfl ?_
                  refine D_end ?_
                  refine x_then ?_
                  refine C_if _ rfl (fun h29 => ?_) (fun h29 => ?_)
                  · have pr29 : ((1 + (mkI 1 (clashes aB aBad)).length) : Int) ≠ (1 + (clashes aB aBad).length) := bne_iff_ne.1 h29
                    refine C_seq ?_
                    refine C_reg ?_
                    refine p1 rfl ?_
                    refine D_end ?_
                    refine x_then ?_
                    refine D_weak [(4, (.bool false))] ⟨rfl, trivial⟩ ?_
                    refine D_sel (H' := []) [false, false, false] rfl ?_
                    refine C_ret ?_
                    refine x_then_ret ?_
                    refine R_1 rfl rfl fun w' hs => ⟨congrArg (fun z => Ending.returned (Value.bool z)) ?_, hs.bel⟩
                    show (false : Bool) = true
                    first | rfl | (exfalso; omega) | (exfalso; simp only [mapS_len, sumB_mk, sumR_mk] at *; omega) | exact absurd h29 (by simp [mapS_len])
                  · have pr29 : ((1 + (mkI 1 (clashes aB aBad)).length) : Int) = (1 + (clashes aB aBad).length) := eq_of_bne_f h29
                    refine C_skip ?_
                    refine x_then ?_
                    refine C_seq ?_
                    refine C_reg ?_
                    refine q1 rfl (lbw 2 a_24 rfl rfl rfl) ?_
                    refine li rfl (crs rfl b_20 rfl rfl rfl rfl (fun w' hs => (laws_toBeliefs w' [(.int .i64 aB.Nodes), u1] aB (rd_at hs h_aB) (by first | assumption | omega | (unfold szm at *; split at * <;> omega)))) fun cs30 => ?_)
                    refine D_pre (fun w' hs => shape_Beliefs (rd_own (k := 0) hs rfl)) ?_
                    rintro ⟨v31, rfl, ho32⟩
                    refine p1 rfl ?_
                    refine li rfl (crl b_28 rfl rfl rfl rfl (fun w' hs => (laws_toIntS w' v_aBad aBad (rd_at hs h_aBad) (by first | assumption | omega | (unfold szm at *; split at * <;> omega)))) fun v33 => ?_)
                    refine li rfl (crl b_33 rfl rfl rfl rfl (fun w' hs => (impl_ClashesOf w' [(.int .i64 aB.Nodes), v31] aB v33 aBad (rd_own (k := 1) hs rfl) (rd_own (k := 0) hs rfl))) fun v34 => ?_)
                    refine p1 rfl ?_
                    refine D_end ?_
                    refine x_then ?_
                    refine D_weak [(6, v12), (9, v18), (11, (.int .i64 (1 + (clashes aB aBad).length))), (13, v34)] ⟨rfl, rfl, rfl, rfl, trivial⟩ ?_
                    refine D_sel (H' := [ov [v34] (clashes aB aBad : (List Int)), ov [v18] (mkI 1 (clashes aB aBad) : (List Int)), ov [v12] (clashes aB aBad : (List Int))]) [true, false, false, true, true, false] rfl ?_
                    refine C_seq ?_
                    refine C_seq ?_
                    refine C_reg ?_
                    refine p1 rfl <| p1 rfl ?_
                    refine li rfl (cv b_13 rfl rfl rfl rfl (fun w' hs => (laws_eqIntS w' v34 (clashes aB aBad) v12 (clashes aB aBad) (rd_own (k := 0) hs rfl) (rd_own (k := 2) hs rfl))) ?_)
                    refine p1 rfl ?_
                    refine D_end ?_
                    refine x_then ?_
                    refine C_if _ rfl (fun h35 => ?_) (fun h35 => ?_)
                    · have h35n : (decide ((clashes aB aBad) = (clashes aB aBad))) = false := not_t h35
                      refine C_seq ?_
                      refine C_reg ?_
                      refine p1 rfl ?_
                      refine D_end ?_
                      refine x_then ?_
                      refine C_ret ?_
                      refine x_then_ret ?_
                      refine R_1 rfl rfl fun w' hs => ⟨congrArg (fun z => Ending.returned (Value.bool z)) ?_, hs.bel⟩
                      show (false : Bool) = true
                      first | rfl | (exfalso; omega) | (exfalso; simp only [mapS_len, sumB_mk, sumR_mk] at *; omega) | exact absurd h35 (by simp [mapS_len])
                    · have h35n : (decide ((clashes aB aBad) = (clashes aB aBad))) = true := not_f h35
                      refine C_skip ?_
                      refine x_then ?_
                      refine C_seq ?_
                      refine C_reg ?_
                      refine p1 rfl ?_
                      refine D_end ?_
                      refine x_then ?_
                      refine C_seq ?_
                      refine C_reg ?_
                      refine p1 rfl <| p1 rfl ?_
                      refine li rfl (cv b_17 rfl rfl rfl rfl (fun w' hs => (laws_heldIntS w' v18 (mkI 1 (clashes aB aBad)) 1 (rd_own (k := 1) hs rfl) (by first | assumption | omega | (unfold szm at *; split at * <;> omega)) (by rw [mapS_len]; omega) (mkI_idem _ _))) ?_)
                      refine p1 rfl ?_
                      refine D_end ?_
                      refine x_then ?_
                      refine C_seq ?_
                      refine C_seq ?_
                      refine C_reg ?_
                      refine p1 rfl <| p1 rfl ?_
                      refine D_end ?_
                      refine x_then ?_
                      refine C_if _ rfl (fun h36 => ?_) (fun h36 => ?_)
                      · have pr36 : ((1 + (mkI 1 (clashes aB aBad)).length) : Int) < 0 := of_decide_eq_true h36
                        refine C_seq ?_
                        refine C_reg ?_
                        refine p1 rfl ?_
                        refine D_end ?_
                        refine x_then ?_
                        refine C_ret ?_
                        refine x_then_ret ?_
                        refine R_1 rfl rfl fun w' hs => ⟨congrArg (fun z => Ending.returned (Value.bool z)) ?_, hs.bel⟩
                        show (false : Bool) = true
                        first | rfl | (exfalso; omega) | (exfalso; simp only [mapS_len, sumB_mk, sumR_mk] at *; omega) | exact absurd h36 (by simp [mapS_len])
                      · have pr36 : ¬ ((1 + (mkI 1 (clashes aB aBad)).length) : Int) < 0 := of_decide_eq_false h36
                        refine C_skip ?_
                        refine x_then ?_
                        refine C_seq ?_
                        refine C_seq ?_
                        refine C_reg ?_
                        refine p1 rfl <| p1 rfl <| p1 rfl ?_
                        refine D_end ?_
                        refine x_then ?_
                        refine D_weak [(89, (.bool (((1 + (mkI 1 (clashes aB aBad)).length) : Int) != (1 + (clashes aB aBad).length))))] ⟨rfl, trivial⟩ ?_
                        refine D_sel (H' := []) [false, false, false] rfl ?_
                        refine C_if _ rfl (fun h37 => ?_) (fun h37 => ?_)
                        · have pr37 : ((1 + (mkI 1 (clashes aB aBad)).length) : Int) ≠ (1 + (clashes aB aBad).length) := bne_iff_ne.1 h37
                          refine C_seq ?_
                          refine C_reg ?_
                          refine p1 rfl ?_
                          refine D_end ?_
                          refine x_then ?_
                          refine C_ret ?_
                          refine x_then_ret ?_
                          refine R_1 rfl rfl fun w' hs => ⟨congrArg (fun z => Ending.returned (Value.bool z)) ?_, hs.bel⟩
                          show (false : Bool) = true
                          first | rfl | (exfalso; omega) | (exfalso; simp only [mapS_len, sumB_mk, sumR_mk] at *; omega) | exact absurd h37 (by simp [mapS_len])
                        · have pr37 : ((1 + (mkI 1 (clashes aB aBad)).length) : Int) = (1 + (clashes aB aBad).length) := eq_of_bne_f h37
                          refine C_skip ?_
                          refine x_then ?_
                          refine C_seq ?_
                          refine C_reg ?_
                          refine p1 rfl ?_
                          refine D_end ?_
                          refine x_then ?_
                          refine C_ret ?_
                          refine R_1 rfl rfl fun w' hs => ⟨congrArg (fun z => Ending.returned (Value.bool z)) ?_, hs.bel⟩
                          show (true : Bool) = true
                          first | rfl | (exfalso; omega) | (exfalso; simp only [mapS_len, sumB_mk, sumR_mk] at *; omega) | exact absurd h37 (by simp [mapS_len])

theorem impl_ConsequencesOf (w : World) (c_b : List Value) (b : Beliefs) (k : Int) (h_b : Gd.rd w c_b b) (hb : szB b ≤ 1048576) : Calls Try.prog 35 [(.agg c_b.toArray), (.int .i64 k)].toArray w (Res w (conseq b k : List Int)) := by
  obtain ⟨u1, rfl, hu2⟩ := open_Beliefs h_b
  have hm3 := rd_max hu2
  refine enter 39 Try.func35 rfl rfl rfl ?_
  refine C_seq ?_
  refine C_reg ?_
  refine li rfl (D_box rfl rfl rfl rfl rfl fun g4 => ?_)
  refine p1 rfl ?_
  refine D_end ?_
  refine x_then ?_
  refine D_H ([bx g4 [(.int .i64 b.Nodes), u1]]) rfl ?_
  refine C_seq ?_
  refine C_seq ?_
  refine C_reg ?_
  refine q1 rfl (lbw 0 a_32 rfl rfl rfl) ?_
  refine li rfl (cv b_49 rfl rfl rfl rfl (fun w' hs => (impl_IsStratified w' [(.int .i64 b.Nodes), u1] b (rd_at hs h_b))) ?_)
  refine p1 rfl ?_
  refine D_end ?_
  refine x_then ?_
  refine C_if _ rfl (fun h5 => ?_) (fun h5 => ?_)
  · have h5n : (isStrat b) = false := not_t h5
    refine C_seq ?_
    refine C_reg ?_
    refine p1 rfl ?_
    refine D_end ?_
    refine x_then ?_
    refine C_ret ?_
    refine x_then_ret ?_
    refine D_nil (α := Int) ?_
    refine R_1 rfl rfl fun w' hs => res_of (k := 0) hs rfl ?_
    show [] = conseq b k
    exact conseq_f h5n
  · have h5n : (isStrat b) = true := not_f h5
    refine C_skip ?_
    refine x_then ?_
    refine C_seq ?_
    have hst : isStrat b = true := by assumption
    have hsol := strat_has hst
    have ho := isB_ok2 (strat_b hst)
    have hbn := okB_nodes ho
    have hrl : b.Reasons.length ≤ 1048576 := by have := isB_len (strat_b hst); omega
    have hdn : (dropR b [k]).Nodes = b.Nodes := rfl
    refine C_join (fun ac w' => ∃ (v6 : Value), ∃ (v12 : Value), Fits ac 39 [(5, v6), (6, v12)] ∧ St w ([ov [v12] (vec (dropR b ([k])).Nodes.toNat (lbs (dropR b ([k]))) : (List Bool)), ov [v6] (vec b.Nodes.toNat (lbs b) : (List Bool)), bx g4 [(.int .i64 b.Nodes), u1]]) w') ?_ ?_
    · refine C_draw mixed [5, 6, 7, 8] (by kernel_rfl) ?_
      refine tk 0 rfl (by kernel_rfl) (by kernel_rfl) (by kernel_rfl) rfl (fun _ hs => hs) (lbw 0 a_32 rfl rfl rfl) ?_
      refine tk 2 rfl (by kernel_rfl) (by kernel_rfl) (by kernel_rfl) rfl (fun _ hs => hs) (lbw 0 a_32 rfl rfl rfl) ?_
      refine tk 3 rfl (by kernel_rfl) (by kernel_rfl) (by kernel_rfl) rfl (fun _ hs => hs) (rp rfl) ?_
      refine tyN [1, 4] rfl (by kernel_rfl) ⟨⟨_, rfl, rfl, ?_⟩, ⟨_, rfl, rfl, ?_⟩, trivial⟩
      · refine id (crl b_50 rfl rfl rfl rfl (fun w' hs => (impl_labels w' [(.int .i64 b.Nodes), u1] b (rd_at hs h_b) (by first | exact ho | exact (dropR_sub b [k]).ok ho) (by first | exact hsol | exact (dropR_sub b [k]).sol hsol) (by first | exact hrl | exact Nat.le_trans (dropR_sub b [k]).2.1 hrl))) fun v6 => ?_)
        refine tS (fun _ hs => hs.pk [1] rfl rfl) ?_
        refine ty 4 rfl (by kernel_rfl) rfl (D_bsl (y := k) s_25 y_3 rfl rfl rfl rfl rfl fun v8 => ?_)
        refine tS (fun _ hs => hs.pk [2] rfl rfl) ?_
        refine ty 5 rfl (by kernel_rfl) rfl (crs rfl b_64 rfl rfl rfl rfl (fun w' hs => (impl_DropReasons w' [(.int .i64 b.Nodes), u1] b v8 ([k]) (rd_at hs h_b) (rd_own (k := 0) hs rfl) (by first | assumption | omega | (unfold szm at *; split at * <;> omega)))) fun cs9 => ?_)
        refine D_pre (fun w' hs => shape_Beliefs (rd_own (k := 0) hs rfl)) ?_
        rintro ⟨v10, rfl, ho11⟩
        refine tZ rfl ?_
        refine ty 6 rfl (by kernel_rfl) rfl (crl b_50 rfl rfl rfl rfl (fun w' hs => (impl_labels w' [(.int .i64 ((dropR b ([k])).Nodes)), v10] (dropR b ([k])) (rd_own (k := 0) hs rfl) (by first | exact ho | exact (dropR_sub b [k]).ok ho) (by first | exact hsol | exact (dropR_sub b [k]).sol hsol) (by first | exact hrl | exact Nat.le_trans (dropR_sub b [k]).2.1 hrl))) fun v12 => ?_)
        refine tZ rfl ?_
        refine ty 7 rfl (by kernel_rfl) rfl (sv rfl rfl (rp rfl) ?_)
        refine tZ rfl ?_
        refine ty 8 rfl (by kernel_rfl) rfl (sv rfl rfl (rp rfl) ?_)
        refine tZ rfl ?_
        refine tE (by kernel_rfl) ?_
        refine x_then ?_
        refine fun ac w' hf hs => ⟨v6, v12, hf.weak ⟨rfl, rfl, trivial⟩, hs.pk [0, 3, 4] rfl rfl⟩
      · refine id (D_bsl (y := k) s_25 y_3 rfl rfl rfl rfl rfl fun v14 => ?_)
        refine tS (fun _ hs => hs.pk [1] rfl rfl) ?_
        refine ty 1 rfl (by kernel_rfl) rfl (crl b_50 rfl rfl rfl rfl (fun w' hs => (impl_labels w' [(.int .i64 b.Nodes), u1] b (rd_at hs h_b) (by first | exact ho | exact (dropR_sub b [k]).ok ho) (by first | exact hsol | exact (dropR_sub b [k]).sol hsol) (by first | exact hrl | exact Nat.le_trans (dropR_sub b [k]).2.1 hrl))) fun v15 => ?_)
        refine tS (fun _ hs => hs.pk [2] rfl rfl) ?_
        refine ty 5 rfl (by kernel_rfl) rfl (crs rfl b_64 rfl rfl rfl rfl (fun w' hs => (impl_DropReasons w' [(.int .i64 b.Nodes), u1] b v14 ([k]) (rd_at hs h_b) (rd_own (k := 1) hs rfl) (by first | assumption | omega | (unfold szm at *; split at * <;> omega)))) fun cs16 => ?_)
        refine D_pre (fun w' hs => shape_Beliefs (rd_own (k := 0) hs rfl)) ?_
        rintro ⟨v17, rfl, ho18⟩
        refine tZ rfl ?_
        refine ty 6 rfl (by kernel_rfl) rfl (crl b_50 rfl rfl rfl rfl (fun w' hs => (impl_labels w' [(.int .i64 ((dropR b ([k])).Nodes)), v17] (dropR b ([k])) (rd_own (k := 0) hs rfl) (by first | exact ho | exact (dropR_sub b [k]).ok ho) (by first | exact hsol | exact (dropR_sub b [k]).sol hsol) (by first | exact hrl | exact Nat.le_trans (dropR_sub b [k]).2.1 hrl))) fun v19 => ?_)
        refine tZ rfl ?_
        refine ty 7 rfl (by kernel_rfl) rfl (sv rfl rfl (rp rfl) ?_)
        refine tZ rfl ?_
        refine ty 8 rfl (by kernel_rfl) rfl (sv rfl rfl (rp rfl) ?_)
        refine tZ rfl ?_
        refine tE (by kernel_rfl) ?_
        refine x_then ?_
        refine fun ac w' hf hs => ⟨v15, v19, hf.weak ⟨rfl, rfl, trivial⟩, hs.pk [0, 2, 4] rfl rfl⟩
    rintro ac w' ⟨v6, v12, hf, hs⟩
    refine D.use ?_ hf hs
    clear hf hs ac w'
    refine x_then ?_
    refine D_H ([ov [v12] (vec (dropR b ([k])).Nodes.toNat (lbs (dropR b ([k]))) : (List Bool)), ov [v6] (vec b.Nodes.toNat (lbs b) : (List Bool)), bx g4 [(.int .i64 b.Nodes), u1]]) rfl ?_
    refine C_seq ?_
    refine C_reg ?_
    refine p1 rfl ?_
    refine D_end ?_
    refine x_then ?_
    refine C_seq ?_
    refine C_seq ?_
    refine C_reg ?_
    refine p1 rfl ?_
    refine q1 rfl (lenv s_42 rfl rfl (fun w' hs => (rd_own (k := 1) hs rfl)) (vec_len _ _)) ?_
    refine p1 rfl ?_
    refine D_end ?_
    refine x_then ?_
    refine C_block ?_
    refine C_loop (fun m_ ac w' => ∃ (i : Nat), ∃ (v : Value), (i ≤ b.Nodes.toNat) ∧ m_ = b.Nodes.toNat - i ∧ Fits ac 39 [(5, v6), (6, v12), (7, v), (20, (.int .i64 ((b.Nodes.toNat : Nat) : Int))), (21, (.int .i64 ((i : Nat) : Int)))] ∧ St w ([ov [v] (fidx (dif b (dropR b [k])) i : (List Int)), ov [v12] (vec (dropR b ([k])).Nodes.toNat (lbs (dropR b ([k]))) : (List Bool)), ov [v6] (vec b.Nodes.toNat (lbs b) : (List Bool)), bx g4 [(.int .i64 b.Nodes), u1]]) w') ?_ ?_
    · refine D_nil (α := Int) ?_
      refine D_eq 0 rfl (show ([] : (List Int)) = fidx (dif b (dropR b [k])) 0 from by rfl) ?_
      refine fun ac w' hf hs => ⟨_, 0, (.slice none 0 0), ?_, rfl, hf.weak ⟨rfl, rfl, rfl, rfl, rfl, trivial⟩, hs⟩
      · first | assumption | omega | simp
    · rintro m_ ac w' ⟨i, v, hi, rfl, hf, hs⟩
      refine D.use ?_ hf hs
      clear hf hs ac w'
      have hcl := fidx_len (dif b (dropR b [k])) i
      refine C_seq ?_
      refine C_reg ?_
      refine p1 rfl ?_
      refine D_end ?_
      refine x_then ?_
      refine D_H ([ov [v] (fidx (dif b (dropR b [k])) i : (List Int)), ov [v12] (vec (dropR b ([k])).Nodes.toNat (lbs (dropR b ([k]))) : (List Bool)), ov [v6] (vec b.Nodes.toNat (lbs b) : (List Bool)), bx g4 [(.int .i64 b.Nodes), u1]]) rfl ?_
      refine C_seq ?_
      refine C_if _ rfl (fun h20 => ?_) (fun h20 => ?_)
      · have pr20 : (((i : Nat) : Int) : Int) < ((b.Nodes.toNat : Nat) : Int) := of_decide_eq_true h20
        refine C_skip ?_
        refine x_then ?_
        refine C_seq ?_
        refine C_block ?_
        refine C_seq ?_
        refine C_reg ?_
        refine p1 rfl <| p1 rfl ?_
        refine D_end ?_
        refine x_then ?_
        refine C_seq ?_
        refine C_draw mixed [] (by kernel_rfl) ?_
        refine tk 0 rfl (by kernel_rfl) (by kernel_rfl) (by kernel_rfl) rfl (fun _ hs => hs) (rp rfl) ?_
        refine tk 1 rfl (by kernel_rfl) (by kernel_rfl) (by kernel_rfl) rfl (fun _ hs => hs) (rp rfl) ?_
        have hx22 : (vec b.Nodes.toNat (lbs b))[i]? = some ((lbs b) i) := vec_get (by omega)
        refine tk 2 rfl (by kernel_rfl) (by kernel_rfl) (by kernel_rfl) rfl (fun _ hs => hs) (D_ix (l := (vec b.Nodes.toNat (lbs b))) (j := i) s_42 rfl rfl rfl (fun w' hs => (rd_own (k := 2) hs rfl)) rfl (lt_of_some hx22)) ?_
        refine tk 3 rfl (by kernel_rfl) (by kernel_rfl) (by kernel_rfl) rfl (fun _ hs => hs) (lo (α := Bool) 2 o_4 rfl rfl rfl hx22) ?_
        refine tk 4 rfl (by kernel_rfl) (by kernel_rfl) (by kernel_rfl) rfl (fun _ hs => hs) (rp rfl) ?_
        refine tk 5 rfl (by kernel_rfl) (by kernel_rfl) (by kernel_rfl) rfl (fun _ hs => hs) (rp rfl) ?_
        have hx24 : (vec (dropR b ([k])).Nodes.toNat (lbs (dropR b ([k]))))[i]? = some ((lbs (dropR b ([k]))) i) := vec_get (by omega)
        refine tk 6 rfl (by kernel_rfl) (by kernel_rfl) (by kernel_rfl) rfl (fun _ hs => hs) (D_ix (l := (vec (dropR b ([k])).Nodes.toNat (lbs (dropR b ([k]))))) (j := i) s_42 rfl rfl rfl (fun w' hs => (rd_own (k := 1) hs rfl)) rfl (lt_of_some hx24)) ?_
        refine tk 7 rfl (by kernel_rfl) (by kernel_rfl) (by kernel_rfl) rfl (fun _ hs => hs) (lo (α := Bool) 1 o_4 rfl rfl rfl hx24) ?_
        refine tk 8 rfl (by kernel_rfl) (by kernel_rfl) (by kernel_rfl) rfl (fun _ hs => hs) (D_neB ub_4 rfl rfl rfl) ?_
        refine tE (by kernel_rfl) ?_
        refine x_then ?_
        refine C_if _ rfl (fun h25 => ?_) (fun h25 => ?_)
        · refine C_reg ?_
          refine p1 rfl <| p1 rfl ?_
          refine li rfl (D_bs s_25 y_3 rfl (by decide) (by decide) rfl rfl rfl rfl rfl rfl fun g26 => ?_)
          refine D_fi ((i : Nat) : Int) ?_
          refine D_pk (H' := [ov [v] (fidx (dif b (dropR b [k])) i : (List Int)), ov [(.int .i64 ((i : Nat) : Int))] (((i : Nat) : Int) : Int), bx g26 [(.int .i64 ((i : Nat) : Int))], ov [v12] (vec (dropR b ([k])).Nodes.toNat (lbs (dropR b ([k]))) : (List Bool)), ov [v6] (vec b.Nodes.toNat (lbs b) : (List Bool)), bx g4 [(.int .i64 b.Nodes), u1]]) [2, 0, 1, 3, 4, 5] rfl rfl ?_
          refine li rfl (D_ap s_25 y_3 rfl (by decide) rfl rfl rfl rfl rfl rfl (by first | omega | (simp; omega)) (by first | omega | (simp; omega)) fun v27 => ?_)
          refine p1 rfl ?_
          refine D_end ?_
          refine x_blk ?_
          refine x_then ?_
          refine D_weak [(5, v6), (6, v12), (7, v27), (20, (.int .i64 ((b.Nodes.toNat : Nat) : Int))), (21, (.int .i64 ((i : Nat) : Int)))] ⟨rfl, rfl, rfl, rfl, rfl, trivial⟩ ?_
          refine D_H ([ov [v27] ((fidx (dif b (dropR b [k])) i) ++ [((i : Nat) : Int)] : (List Int)), ov [v12] (vec (dropR b ([k])).Nodes.toNat (lbs (dropR b ([k]))) : (List Bool)), ov [v6] (vec b.Nodes.toNat (lbs b) : (List Bool)), bx g4 [(.int .i64 b.Nodes), u1]]) rfl ?_
          refine C_reg ?_
          refine q1 rfl (D_add rfl rfl rfl (r := ((i + 1 : Nat) : Int)) (by omega) (by omega)) ?_
          refine p1 rfl ?_
          refine D_end ?_
          refine x_then ?_
          refine D_eq 0 rfl (show ((fidx (dif b (dropR b [k])) i) ++ [((i : Nat) : Int)] : (List Int)) = fidx (dif b (dropR b [k])) (i + 1) from by first | exact fidx_t h25 | exact fidx_f h25) ?_
          refine fun ac w' hf hs => ⟨_, ?_, i + 1, v27, ?_, rfl, hf.weak ⟨rfl, rfl, rfl, rfl, rfl, trivial⟩, hs⟩
          · omega
          · first | assumption | omega | simp
        · have pr25 : ((lbs b) i) = ((lbs (dropR b ([k]))) i) := beq_of_not h25
          refine C_skip ?_
          refine x_blk ?_
          refine x_then ?_
          refine C_reg ?_
          refine q1 rfl (D_add rfl rfl rfl (r := ((i + 1 : Nat) : Int)) (by omega) (by omega)) ?_
          refine p1 rfl ?_
          refine D_end ?_
          refine x_then ?_
          refine D_eq 0 rfl (show (fidx (dif b (dropR b [k])) i : (List Int)) = fidx (dif b (dropR b [k])) (i + 1) from by first | exact fidx_t h25 | exact fidx_f h25) ?_
          refine fun ac w' hf hs => ⟨_, ?_, i + 1, v, ?_, rfl, hf.weak ⟨rfl, rfl, rfl, rfl, rfl, trivial⟩, hs⟩
          · omega
          · first | assumption | omega | simp
      · have pr20 : ¬ (((i : Nat) : Int) : Int) < ((b.Nodes.toNat : Nat) : Int) := of_decide_eq_false h20
        refine C_exit ?_
        refine x_then_exit ?_
        refine x_then_exit ?_
        refine x_blk_eq ?_
        refine x_then ?_
        refine C_seq ?_
        refine C_reg ?_
        refine p1 rfl <| p1 rfl ?_
        refine D_end ?_
        refine x_then ?_
        refine C_ret ?_
        refine R_1 rfl rfl fun w' hs => res_of (k := 0) hs rfl ?_
        show fidx (dif b (dropR b [k])) i = conseq b k
        rw [show i = b.Nodes.toNat by omega]; exact conseq_t hst

theorem spec_ConsequencesOf (w : World) (c_b : List Value) (b : Beliefs) (k : Int) (h_b : Gd.rd w c_b b) (hb : szB b ≤ 1048576) : Calls Try.prog 34 [(.agg c_b.toArray), (.int .i64 k)].toArray w (Res w (conseq b k : List Int)) := by
  obtain ⟨u1, rfl, hu2⟩ := open_Beliefs h_b
  have hm3 := rd_max hu2
  refine enter 43 Try.func34 rfl rfl rfl ?_
  refine C_seq ?_
  refine C_reg ?_
  refine li rfl (D_box rfl rfl rfl rfl rfl fun g4 => ?_)
  refine p1 rfl ?_
  refine D_end ?_
  refine x_then ?_
  refine D_H ([bx g4 [(.int .i64 b.Nodes), u1]]) rfl ?_
  refine C_seq ?_
  refine C_reg ?_
  refine li rfl (D_bs0 (α := Int) s_25 rfl rfl rfl fun v5 => ?_)
  refine p1 rfl ?_
  refine D_end ?_
  refine x_then ?_
  refine D_H ([ov [v5] ([] : (List Int)), bx g4 [(.int .i64 b.Nodes), u1]]) rfl ?_
  refine C_seq ?_
  refine C_reg ?_
  refine q1 rfl (lbw 1 a_32 rfl rfl rfl) ?_
  refine li rfl (crl b_19 rfl rfl rfl rfl (fun w' hs => (spec_LabelsOf w' [(.int .i64 b.Nodes), u1] b (rd_at hs h_b))) fun v6 => ?_)
  refine p1 rfl ?_
  refine D_end ?_
  refine x_then ?_
  refine D_H ([ov [v6] (labelsOf b : (List Bool)), ov [v5] ([] : (List Int)), bx g4 [(.int .i64 b.Nodes), u1]]) rfl ?_
  refine C_seq ?_
  refine C_reg ?_
  refine q1 rfl (lbw 2 a_32 rfl rfl rfl) ?_
  refine p1 rfl ?_
  refine li rfl (D_bsl (y := k) s_25 y_3 rfl rfl rfl rfl rfl fun v8 => ?_)
  refine li rfl (crs rfl b_63 rfl rfl rfl rfl (fun w' hs => (spec_l11Without w' [(.int .i64 b.Nodes), u1] b v8 ([k]) (rd_at hs h_b) (rd_own (k := 0) hs rfl) (by first | assumption | omega | (unfold szm at *; split at * <;> omega)))) fun cs9 => ?_)
  refine D_pre (fun w' hs => shape_Beliefs (rd_own (k := 0) hs rfl)) ?_
  rintro ⟨v10, rfl, ho11⟩
  refine li rfl (crl b_19 rfl rfl rfl rfl (fun w' hs => (spec_LabelsOf w' [(.int .i64 ((dropR b ([k])).Nodes)), v10] (dropR b ([k])) (rd_own (k := 0) hs rfl))) fun v12 => ?_)
  refine p1 rfl ?_
  refine D_end ?_
  refine x_then ?_
  refine D_H ([ov [v12] (labelsOf (dropR b ([k])) : (List Bool)), ov [(.int .i64 ((dropR b ([k])).Nodes)), v10] (dropR b ([k]) : Beliefs), ov [v8] ([k] : (List Int)), ov [v6] (labelsOf b : (List Bool)), ov [v5] ([] : (List Int)), bx g4 [(.int .i64 b.Nodes), u1]]) rfl ?_
  refine C_seq ?_
  refine C_seq ?_
  refine C_reg ?_
  refine p1 rfl ?_
  refine D_end ?_
  refine x_then ?_
  refine C_block ?_
  refine C_loop (fun m_ ac w' => ∃ (i : Nat), ∃ (v : Value), (i ≤ (labelsOf b).length) ∧ (i ≤ (labelsOf (dropR b [k])).length) ∧ m_ = (labelsOf b).length - i ∧ Fits ac 43 [(5, v), (6, v6), (7, v12), (8, (.int .i64 ((i : Nat) : Int)))] ∧ St w ([ov [v12] (labelsOf (dropR b ([k])) : (List Bool)), ov [(.int .i64 ((dropR b ([k])).Nodes)), v10] (dropR b ([k]) : Beliefs), ov [v8] ([k] : (List Int)), ov [v6] (labelsOf b : (List Bool)), ov [v] (fidx (difL (labelsOf b) (labelsOf (dropR b [k]))) i : (List Int)), bx g4 [(.int .i64 b.Nodes), u1]]) w') ?_ ?_
  · refine D_eq 4 rfl (show ([] : (List Int)) = fidx (difL (labelsOf b) (labelsOf (dropR b [k]))) 0 from by rfl) ?_
    refine fun ac w' hf hs => ⟨_, 0, v5, ?_, ?_, rfl, hf.weak ⟨rfl, rfl, rfl, rfl, trivial⟩, hs⟩
    · first | assumption | omega | simp
    · first | assumption | omega | simp
  · rintro m_ ac w' ⟨i, v, hi, hi2, rfl, hf, hs⟩
    refine D.use ?_ hf hs
    clear hf hs ac w'
    have hcl := fidx_len (difL (labelsOf b) (labelsOf (dropR b [k]))) i
    refine C_seq ?_
    refine C_seq ?_
    refine C_reg ?_
    have hl1 := labelsOf_len (b := b)
    have hl2 := labelsOf_len (b := dropR b [k])
    refine p1 rfl <| p1 rfl ?_
    refine q1 rfl (D_leno 3 s_42 rfl rfl rfl) ?_
    refine p1 rfl <| p1 rfl ?_
    refine gs 21 rfl rfl (fun h13 => ?_) (fun h13 => ?_)
    · have pr13 : (((i : Nat) : Int) : Int) < (((labelsOf b).length : Nat) : Int) := of_decide_eq_true h13
      refine p1 rfl <| p1 rfl ?_
      refine q1 rfl (D_leno 0 s_42 rfl rfl rfl) ?_
      refine p1 rfl <| p1 rfl ?_
      refine D_end ?_
      refine x_then ?_
      refine D_H ([ov [v12] (labelsOf (dropR b ([k])) : (List Bool)), ov [(.int .i64 ((dropR b ([k])).Nodes)), v10] (dropR b ([k]) : Beliefs), ov [v8] ([k] : (List Int)), ov [v6] (labelsOf b : (List Bool)), ov [v] (fidx (difL (labelsOf b) (labelsOf (dropR b [k]))) i : (List Int)), bx g4 [(.int .i64 b.Nodes), u1]]) rfl ?_
      refine C_if _ rfl (fun h14 => ?_) (fun h14 => ?_)
      · have pr14 : (((i : Nat) : Int) : Int) < (((labelsOf (dropR b ([k]))).length : Nat) : Int) := of_decide_eq_true h14
        refine C_skip ?_
        refine x_then ?_
        refine C_seq ?_
        refine C_block ?_
        refine C_seq ?_
        refine C_draw mixed [] (by kernel_rfl) ?_
        refine tk 0 rfl (by kernel_rfl) (by kernel_rfl) (by kernel_rfl) rfl (fun _ hs => hs) (rp rfl) ?_
        refine tk 1 rfl (by kernel_rfl) (by kernel_rfl) (by kernel_rfl) rfl (fun _ hs => hs) (rp rfl) ?_
        obtain ⟨ua, hua⟩ := some_of_lt (l := (labelsOf b)) (i := i) (by omega)
        refine tk 2 rfl (by kernel_rfl) (by kernel_rfl) (by kernel_rfl) rfl (fun _ hs => hs) (D_ix (l := (labelsOf b)) (j := i) s_42 rfl rfl rfl (fun w' hs => (rd_own (k := 3) hs rfl)) rfl (lt_of_some hua)) ?_
        refine tk 3 rfl (by kernel_rfl) (by kernel_rfl) (by kernel_rfl) rfl (fun _ hs => hs) (lo (α := Bool) 3 o_4 rfl rfl rfl hua) ?_
        refine tk 4 rfl (by kernel_rfl) (by kernel_rfl) (by kernel_rfl) rfl (fun _ hs => hs) (rp rfl) ?_
        refine tk 5 rfl (by kernel_rfl) (by kernel_rfl) (by kernel_rfl) rfl (fun _ hs => hs) (rp rfl) ?_
        obtain ⟨ub, hub⟩ := some_of_lt (l := (labelsOf (dropR b ([k])))) (i := i) (by omega)
        refine tk 6 rfl (by kernel_rfl) (by kernel_rfl) (by kernel_rfl) rfl (fun _ hs => hs) (D_ix (l := (labelsOf (dropR b ([k])))) (j := i) s_42 rfl rfl rfl (fun w' hs => (rd_own (k := 0) hs rfl)) rfl (lt_of_some hub)) ?_
        refine tk 7 rfl (by kernel_rfl) (by kernel_rfl) (by kernel_rfl) rfl (fun _ hs => hs) (lo (α := Bool) 0 o_4 rfl rfl rfl hub) ?_
        refine tk 8 rfl (by kernel_rfl) (by kernel_rfl) (by kernel_rfl) rfl (fun _ hs => hs) (D_neB ub_4 rfl rfl rfl) ?_
        refine tE (by kernel_rfl) ?_
        refine x_then ?_
        refine D_weak [(5, v), (6, v6), (7, v12), (8, (.int .i64 ((i : Nat) : Int))), (37, (.bool (!(ua == ub))))] ⟨rfl, rfl, rfl, rfl, rfl, trivial⟩ ?_
        refine C_if _ rfl (fun h15 => ?_) (fun h15 => ?_)
        · refine C_reg ?_
          refine p1 rfl <| p1 rfl ?_
          refine li rfl (D_bs s_25 y_3 rfl (by decide) (by decide) rfl rfl rfl rfl rfl rfl fun g16 => ?_)
          refine D_fi ((i : Nat) : Int) ?_
          refine D_pk (H' := [ov [v] (fidx (difL (labelsOf b) (labelsOf (dropR b [k]))) i : (List Int)), ov [(.int .i64 ((i : Nat) : Int))] (((i : Nat) : Int) : Int), bx g16 [(.int .i64 ((i : Nat) : Int))], ov [v12] (labelsOf (dropR b ([k])) : (List Bool)), ov [(.int .i64 ((dropR b ([k])).Nodes)), v10] (dropR b ([k]) : Beliefs), ov [v8] ([k] : (List Int)), ov [v6] (labelsOf b : (List Bool)), bx g4 [(.int .i64 b.Nodes), u1]]) [6, 0, 1, 2, 3, 4, 5, 7] rfl rfl ?_
          refine li rfl (D_ap s_25 y_3 rfl (by decide) rfl rfl rfl rfl rfl rfl (by first | omega | (simp; omega)) (by first | omega | (simp; omega)) fun v17 => ?_)
          refine p1 rfl ?_
          refine D_end ?_
          refine x_blk ?_
          refine x_then ?_
          refine D_H ([ov [v17] ((fidx (difL (labelsOf b) (labelsOf (dropR b [k]))) i) ++ [((i : Nat) : Int)] : (List Int)), ov [v12] (labelsOf (dropR b ([k])) : (List Bool)), ov [(.int .i64 ((dropR b ([k])).Nodes)), v10] (dropR b ([k]) : Beliefs), ov [v8] ([k] : (List Int)), ov [v6] (labelsOf b : (List Bool)), bx g4 [(.int .i64 b.Nodes), u1]]) rfl ?_
          refine C_reg ?_
          refine p1 rfl ?_
          refine q1 rfl (D_add rfl rfl rfl (r := ((i + 1 : Nat) : Int)) (by omega) (by omega)) ?_
          refine p1 rfl ?_
          refine D_end ?_
          refine x_then ?_
          refine D_eq 0 rfl (show ((fidx (difL (labelsOf b) (labelsOf (dropR b [k]))) i) ++ [((i : Nat) : Int)] : (List Int)) = fidx (difL (labelsOf b) (labelsOf (dropR b [k]))) (i + 1) from by first | exact fidx_t (difL_of hua hub h15) | exact fidx_f (difL_of hua hub h15)) ?_
          refine fun ac w' hf hs => ⟨_, ?_, i + 1, v17, ?_, ?_, rfl, hf.weak ⟨rfl, rfl, rfl, rfl, trivial⟩, hs.pk [1, 2, 3, 4, 0, 5] rfl rfl⟩
          · omega
          · first | assumption | omega | simp
          · first | assumption | omega | simp
        · have pr15 : ua = ub := beq_of_not h15
          refine C_skip ?_
          refine x_blk ?_
          refine x_then ?_
          refine C_reg ?_
          refine p1 rfl ?_
          refine q1 rfl (D_add rfl rfl rfl (r := ((i + 1 : Nat) : Int)) (by omega) (by omega)) ?_
          refine p1 rfl ?_
          refine D_end ?_
          refine x_then ?_
          refine D_eq 4 rfl (show (fidx (difL (labelsOf b) (labelsOf (dropR b [k]))) i : (List Int)) = fidx (difL (labelsOf b) (labelsOf (dropR b [k]))) (i + 1) from by first | exact fidx_t (difL_of hua hub h15) | exact fidx_f (difL_of hua hub h15)) ?_
          refine fun ac w' hf hs => ⟨_, ?_, i + 1, v, ?_, ?_, rfl, hf.weak ⟨rfl, rfl, rfl, rfl, trivial⟩, hs⟩
          · omega
          · first | assumption | omega | simp
          · first | assumption | omega | simp
      · have pr14 : ¬ (((i : Nat) : Int) : Int) < (((labelsOf (dropR b ([k]))).length : Nat) : Int) := of_decide_eq_false h14
        refine C_exit ?_
        refine x_then_exit ?_
        refine x_then_exit ?_
        refine x_blk_eq ?_
        refine x_then ?_
        refine C_seq ?_
        refine C_reg ?_
        refine p1 rfl <| p1 rfl ?_
        refine D_end ?_
        refine x_then ?_
        refine D_weak [(4, v)] ⟨rfl, trivial⟩ ?_
        refine D_sel (H' := [ov [v] (fidx (difL (labelsOf b) (labelsOf (dropR b [k]))) i : (List Int))]) [false, false, false, false, true, false] rfl ?_
        refine C_ret ?_
        refine R_1 rfl rfl fun w' hs => res_of (k := 0) hs rfl ?_
        show fidx (difL (labelsOf b) (labelsOf (dropR b [k]))) i = conseq b k
        exact conseq_w (by omega) hi hi2
    · have pr13 : ¬ (((i : Nat) : Int) : Int) < (((labelsOf b).length : Nat) : Int) := of_decide_eq_false h13
      refine n1 rfl ?_
      refine n1 rfl ?_
      refine n1 rfl ?_
      refine n1 rfl ?_
      refine p1 rfl ?_
      refine D_end ?_
      refine x_then ?_
      refine D_H ([ov [v12] (labelsOf (dropR b ([k])) : (List Bool)), ov [(.int .i64 ((dropR b ([k])).Nodes)), v10] (dropR b ([k]) : Beliefs), ov [v8] ([k] : (List Int)), ov [v6] (labelsOf b : (List Bool)), ov [v] (fidx (difL (labelsOf b) (labelsOf (dropR b [k]))) i : (List Int)), bx g4 [(.int .i64 b.Nodes), u1]]) rfl ?_
      refine C_f rfl ?_
      refine C_exit ?_
      refine x_then_exit ?_
      refine x_then_exit ?_
      refine x_blk_eq ?_
      refine x_then ?_
      refine C_seq ?_
      refine C_reg ?_
      refine p1 rfl <| p1 rfl ?_
      refine D_end ?_
      refine x_then ?_
      refine D_weak [(4, v)] ⟨rfl, trivial⟩ ?_
      refine D_sel (H' := [ov [v] (fidx (difL (labelsOf b) (labelsOf (dropR b [k]))) i : (List Int))]) [false, false, false, false, true, false] rfl ?_
      refine C_ret ?_
      refine R_1 rfl rfl fun w' hs => res_of (k := 0) hs rfl ?_
      show fidx (difL (labelsOf b) (labelsOf (dropR b [k]))) i = conseq b k
      exact conseq_w (by omega) hi hi2

set_option maxHeartbeats 4000000 in
theorem laws_FnExactConsequencesOf (w : World) (c_aB : List Value) (aB : Beliefs) (aK : Int) (h_aB : Gd.rd w c_aB aB) : Calls Try.prog 8 [(.agg c_aB.toArray), (.int .i64 aK)].toArray w (Val w (.bool (true))) := by
  obtain ⟨u1, rfl, hu2⟩ := open_Beliefs h_aB
  have hm3 := rd_max hu2
  have hz1 := szB_len aB
  have hz2 := szB_sum aB
  have hz3 := conseq_len aB aK
  refine enter 74 Try.func8 rfl rfl rfl ?_
  refine C_seq ?_
  refine C_reg ?_
  refine li rfl (D_box rfl rfl rfl rfl rfl fun g4 => ?_)
  refine p1 rfl ?_
  refine D_end ?_
  refine x_then ?_
  refine D_H ([bx g4 [(.int .i64 aB.Nodes), u1]]) rfl ?_
  refine C_seq ?_
  refine C_reg ?_
  refine p1 rfl ?_
  refine D_end ?_
  refine x_then ?_
  refine C_seq ?_
  refine C_reg ?_
  refine q1 rfl (lbw 0 a_24 rfl rfl rfl) ?_
  refine p1 rfl ?_
  refine li rfl (cv b_18 rfl rfl rfl rfl (fun w' hs => (laws_szBeliefs w' [(.int .i64 aB.Nodes), u1] aB 1048576 (rd_at hs h_aB) (by first | assumption | omega | (unfold szm at *; split at * <;> omega)) (by first | assumption | omega | (unfold szm at *; split at * <;> omega)))) ?_)
  refine p1 rfl ?_
  refine D_end ?_
  refine x_then ?_
  refine C_seq ?_
  refine C_seq ?_
  refine C_reg ?_
  refine p1 rfl <| p1 rfl ?_
  refine D_end ?_
  refine x_then ?_
  refine C_if _ rfl (fun h5 => ?_) (fun h5 => ?_)
  · have pr5 : ((szm (szB aB) 1048576) : Int) < 0 := of_decide_eq_true h5
    refine C_seq ?_
    refine C_reg ?_
    refine p1 rfl ?_
    refine D_end ?_
    refine x_then ?_
    refine C_ret ?_
    refine x_then_ret ?_
    refine R_1 rfl rfl fun w' hs => ⟨congrArg (fun z => Ending.returned (Value.bool z)) ?_, hs.bel⟩
    show (true : Bool) = true
    first | rfl | (exfalso; omega) | (exfalso; simp only [mapS_len, sumB_mk, sumR_mk] at *; omega) | exact absurd h5 (by simp [mapS_len])
  · have pr5 : ¬ ((szm (szB aB) 1048576) : Int) < 0 := of_decide_eq_false h5
    have pr5z := szm_val (n := (szB aB)) (left := 1048576) pr5
    refine C_skip ?_
    refine x_then ?_
    refine C_seq ?_
    refine C_reg ?_
    refine q1 rfl (lbw 0 a_24 rfl rfl rfl) ?_
    refine li rfl (crs rfl b_20 rfl rfl rfl rfl (fun w' hs => (laws_toBeliefs w' [(.int .i64 aB.Nodes), u1] aB (rd_at hs h_aB) (by first | assumption | omega | (unfold szm at *; split at * <;> omega)))) fun cs6 => ?_)
    refine D_pre (fun w' hs => shape_Beliefs (rd_own (k := 0) hs rfl)) ?_
    rintro ⟨v7, rfl, ho8⟩
    refine p1 rfl ?_
    refine li rfl (crl b_34 rfl rfl rfl rfl (fun w' hs => (spec_ConsequencesOf w' [(.int .i64 aB.Nodes), v7] aB aK (rd_own (k := 0) hs rfl) (by first | assumption | omega | (unfold szm at *; split at * <;> omega)))) fun v9 => ?_)
    refine p1 rfl ?_
    refine D_end ?_
    refine x_then ?_
    refine D_H ([ov [v9] (conseq aB aK : (List Int)), ov [(.int .i64 aB.Nodes), v7] (aB : Beliefs), bx g4 [(.int .i64 aB.Nodes), u1]]) rfl ?_
    refine C_seq ?_
    refine C_reg ?_
    refine q1 rfl (lbw 2 a_24 rfl rfl rfl) ?_
    refine li rfl (crs rfl b_20 rfl rfl rfl rfl (fun w' hs => (laws_toBeliefs w' [(.int .i64 aB.Nodes), u1] aB (rd_at hs h_aB) (by first | assumption | omega | (unfold szm at *; split at * <;> omega)))) fun cs10 => ?_)
    refine D_pre (fun w' hs => shape_Beliefs (rd_own (k := 0) hs rfl)) ?_
    rintro ⟨v11, rfl, ho12⟩
    refine li rfl (D_alloc y_32 rfl rfl rfl rfl fun g13 => ?_)
    refine li rfl (D_stb (vs := [(.int .i64 aB.Nodes), v11]) (cs' := [(.int .i64 aB.Nodes), v11]) 0 z_32 rfl rfl rfl rfl rfl rfl (ocons rfl (ocons ho12 onil)) (by simp) rfl ?_)
    refine D_end ?_
    refine x_then ?_
    refine D_H ([bx g13 [(.int .i64 aB.Nodes), v11], ov [(.int .i64 aB.Nodes), v11] (aB : Beliefs), ov [v9] (conseq aB aK : (List Int)), ov [(.int .i64 aB.Nodes), v7] (aB : Beliefs), bx g4 [(.int .i64 aB.Nodes), u1]]) rfl ?_
    refine C_seq ?_
    refine C_reg ?_
    refine q1 rfl (lbw 0 a_32 rfl rfl rfl) ?_
    refine p1 rfl ?_
    refine li rfl (crl b_35 rfl rfl rfl rfl (fun w' hs => (impl_ConsequencesOf w' [(.int .i64 aB.Nodes), v11] aB aK (rd_own (k := 1) hs rfl) (by first | assumption | omega | (unfold szm at *; split at * <;> omega)))) fun v14 => ?_)
    refine p1 rfl ?_
    refine D_end ?_
    refine x_then ?_
    refine D_weak [(1, (.int .i64 aK)), (2, (.pointer (some ⟨g4, 0, none⟩))), (6, v9), (7, (.pointer (some ⟨g13, 0, none⟩))), (8, v14)] ⟨rfl, rfl, rfl, rfl, rfl, trivial⟩ ?_
    refine D_sel (H' := [ov [v14] (conseq aB aK : (List Int)), bx g13 [(.int .i64 aB.Nodes), v11], ov [(.int .i64 aB.Nodes), v11] (aB : Beliefs), ov [v9] (conseq aB aK : (List Int)), bx g4 [(.int .i64 aB.Nodes), u1]]) [true, true, true, true, false, true] rfl ?_
    refine C_seq ?_
    refine C_seq ?_
    refine C_reg ?_
    refine p1 rfl <| p1 rfl ?_
    refine li rfl (cv b_13 rfl rfl rfl rfl (fun w' hs => (laws_eqIntS w' v14 (conseq aB aK) v9 (conseq aB aK) (rd_own (k := 0) hs rfl) (rd_own (k := 3) hs rfl))) ?_)
    refine p1 rfl ?_
    refine D_end ?_
    refine x_then ?_
    refine C_if _ rfl (fun h15 => ?_) (fun h15 => ?_)
    · have h15n : (decide ((conseq aB aK) = (conseq aB aK))) = false := not_t h15
      refine C_seq ?_
      refine C_reg ?_
      refine p1 rfl ?_
      refine D_end ?_
      refine x_then ?_
      refine C_ret ?_
      refine x_then_ret ?_
      refine R_1 rfl rfl fun w' hs => ⟨congrArg (fun z => Ending.returned (Value.bool z)) ?_, hs.bel⟩
      show (false : Bool) = true
      first | rfl | (exfalso; omega) | (exfalso; simp only [mapS_len, sumB_mk, sumR_mk] at *; omega) | exact absurd h15 (by simp [mapS_len])
    · have h15n : (decide ((conseq aB aK) = (conseq aB aK))) = true := not_f h15
      refine C_skip ?_
      refine x_then ?_
      refine C_seq ?_
      refine C_seq ?_
      refine C_draw mixed [3, 4] (by kernel_rfl) ?_
      refine tk 0 rfl (by kernel_rfl) (by kernel_rfl) (by kernel_rfl) rfl (fun _ hs => hs) (lbw 1 a_32 rfl rfl rfl) ?_
      refine tk 1 rfl (by kernel_rfl) (by kernel_rfl) (by kernel_rfl) rfl (fun _ hs => hs) (lbw 4 a_24 rfl rfl rfl) ?_
      refine ty 2 rfl (by kernel_rfl) rfl (crs rfl b_20 rfl rfl rfl rfl (fun w' hs => (laws_toBeliefs w' [(.int .i64 aB.Nodes), u1] aB (rd_at hs h_aB) (by first | assumption | omega | (unfold szm at *; split at * <;> omega)))) fun cs16 => ?_)
      refine D_pre (fun w' hs => shape_Beliefs (rd_own (k := 0) hs rfl)) ?_
      rintro ⟨v17, rfl, ho18⟩
      refine tS (fun _ hs => hs.pk [1, 2, 3, 4, 5] rfl rfl) ?_
      refine ty 3 rfl (by kernel_rfl) rfl (cv b_23 rfl rfl rfl rfl (fun w' hs => (laws_eqBeliefs w' [(.int .i64 aB.Nodes), v11] aB [(.int .i64 aB.Nodes), v17] aB (rd_own (k := 3) hs rfl) (rd_own (k := 0) hs rfl))) ?_)
      refine tZ rfl ?_
      refine ty 4 rfl (by kernel_rfl) rfl (sv rfl rfl (rp rfl) ?_)
      refine tZ rfl ?_
      refine tE (by kernel_rfl) ?_
      refine x_then ?_
      refine D_H ([ov [(.int .i64 aB.Nodes), v17] (aB : Beliefs), ov [v14] (conseq aB aK : (List Int)), bx g13 [(.int .i64 aB.Nodes), v11], ov [(.int .i64 aB.Nodes), v11] (aB : Beliefs), ov [v9] (conseq aB aK : (List Int)), bx g4 [(.int .i64 aB.Nodes), u1]]) rfl ?_
      refine C_if _ rfl (fun h19 => ?_) (fun h19 => ?_)
      · have h19n : (decide (aB = aB)) = false := not_t h19
        refine C_seq ?_
        refine C_reg ?_
        refine p1 rfl ?_
        refine D_end ?_
        refine x_then ?_
        refine C_ret ?_
        refine x_then_ret ?_
        refine R_1 rfl rfl fun w' hs => ⟨congrArg (fun z => Ending.returned (Value.bool z)) ?_, hs.bel⟩
        show (false : Bool) = true
        first | rfl | (exfalso; omega) | (exfalso; simp only [mapS_len, sumB_mk, sumR_mk] at *; omega) | exact absurd h19 (by simp [mapS_len])
      · have h19n : (decide (aB = aB)) = true := not_f h19
        refine C_skip ?_
        refine x_then ?_
        refine C_seq ?_
        refine C_reg ?_
        refine p1 rfl ?_
        refine D_end ?_
        refine x_then ?_
        refine C_seq ?_
        refine C_reg ?_
        refine q1 rfl (lbw 2 a_32 rfl rfl rfl) ?_
        refine p1 rfl ?_
        refine D_pk (H' := [ov [(.int .i64 aB.Nodes), v11] (aB : Beliefs), ov [(.int .i64 aB.Nodes), v17] (aB : Beliefs), ov [v14] (conseq aB aK : (List Int)), bx g13 [(.int .i64 aB.Nodes), v11], ov [v9] (conseq aB aK : (List Int)), bx g4 [(.int .i64 aB.Nodes), u1]]) [3, 0, 1, 2, 4, 5] rfl rfl ?_
        refine li rfl (cm b_24 rfl rfl rfl rfl (fun w' hs => laws_markBeliefs _ _ w' [(.int .i64 aB.Nodes), v11] aB 1 (by first | assumption | omega | (simp only; omega)) (by first | assumption | omega | (simp only; omega)) hs) ?_)
        refine p1 rfl ?_
        refine D_end ?_
        refine x_then ?_
        refine D_H ([ov [(.int .i64 aB.Nodes), v11] (mkB 1 aB : Beliefs), ov [(.int .i64 aB.Nodes), v17] (aB : Beliefs), ov [v14] (conseq aB aK : (List Int)), bx g13 [(.int .i64 aB.Nodes), v11], ov [v9] (conseq aB aK : (List Int)), bx g4 [(.int .i64 aB.Nodes), u1]]) rfl ?_
        refine C_seq ?_
        refine C_seq ?_
        refine C_reg ?_
        refine p1 rfl <| p1 rfl <| p1 rfl ?_
        refine gs 41 rfl rfl (fun h20 => ?_) (fun h20 => ?_)
        · have pr20 : ((1 + sumC cR aB.Reasons) : Int) < 0 := of_decide_eq_true h20
          refine n1 rfl ?_
          refine n1 rfl ?_
          refine n1 rfl ?_
          refine n1 rfl ?_
          refine p1 rfl ?_
          refine D_end ?_
          refine x_then ?_
          refine D_weak [(1, (.int .i64 aK)), (2, (.pointer (some ⟨g4, 0, none⟩))), (6, v9), (8, v14), (46, (.bool true))] ⟨rfl, rfl, rfl, rfl, rfl, trivial⟩ ?_
          refine D_sel (H' := [ov [v14] (conseq aB aK : (List Int)), ov [v9] (conseq aB aK : (List Int)), bx g4 [(.int .i64 aB.Nodes), u1]]) [false, false, true, false, true, true] rfl ?_
          refine C_t rfl ?_
          refine C_seq ?_
          refine C_reg ?_
          refine p1 rfl ?_
          refine D_end ?_
          refine x_then ?_
          refine C_ret ?_
          refine x_then_ret ?_
          refine R_1 rfl rfl fun w' hs => ⟨congrArg (fun z => Ending.returned (Value.bool z)) ?_, hs.bel⟩
          show (false : Bool) = true
          first | rfl | (exfalso; omega) | (exfalso; simp only [mapS_len, sumB_mk, sumR_mk] at *; omega) | exact absurd h20 (by simp [mapS_len])
        · have pr20 : ¬ ((1 + sumC cR aB.Reasons) : Int) < 0 := of_decide_eq_false h20
          refine p1 rfl <| p1 rfl ?_
          refine li rfl (cv b_13 rfl rfl rfl rfl (fun w' hs => (laws_eqIntS w' v14 (conseq aB aK) v9 (conseq aB aK) (rd_own (k := 2) hs rfl) (rd_own (k := 4) hs rfl))) ?_)
          refine p1 rfl <| p1 rfl ?_
          refine D_end ?_
          refine x_then ?_
          refine D_weak [(1, (.int .i64 aK)), (2, (.pointer (some ⟨g4, 0, none⟩))), (6, v9), (8, v14), (46, (.bool (!(decide ((conseq aB aK) = (conseq aB aK))))))] ⟨rfl, rfl, rfl, rfl, rfl, trivial⟩ ?_
          refine D_sel (H' := [ov [v14] (conseq aB aK : (List Int)), ov [v9] (conseq aB aK : (List Int)), bx g4 [(.int .i64 aB.Nodes), u1]]) [false, false, true, false, true, true] rfl ?_
          refine C_if _ rfl (fun h21 => ?_) (fun h21 => ?_)
          · have h21n : (decide ((conseq aB aK) = (conseq aB aK))) = false := not_t h21
            refine C_seq ?_
            refine C_reg ?_
            refine p1 rfl ?_
            refine D_end ?_
            refine x_then ?_
            refine C_ret ?_
            refine x_then_ret ?_
            refine R_1 rfl rfl fun w' hs => ⟨congrArg (fun z => Ending.returned (Value.bool z)) ?_, hs.bel⟩
            show (false : Bool) = true
            first | rfl | (exfalso; omega) | (exfalso; simp only [mapS_len, sumB_mk, sumR_mk] at *; omega) | exact absurd h21 (by simp [mapS_len])
          · have h21n : (decide ((conseq aB aK) = (conseq aB aK))) = true := not_f h21
            refine C_skip ?_
            refine x_then ?_
            refine C_seq ?_
            refine C_reg ?_
            refine p1 rfl ?_
            refine D_end ?_
            refine x_then ?_
            refine C_seq ?_
            refine C_reg ?_
            refine p1 rfl <| p1 rfl ?_
            refine li rfl (cm b_16 rfl rfl rfl rfl (fun w' hs => laws_markIntS _ _ w' v14 (conseq aB aK) 1 (by first | assumption | omega | (simp only; omega)) (by first | assumption | omega | (simp only; omega)) hs) ?_)
            refine p1 rfl ?_
            refine D_end ?_
            refine x_then ?_
            refine D_H ([ov [v14] (mkI 1 (conseq aB aK) : (List Int)), ov [v9] (conseq aB aK : (List Int)), bx g4 [(.int .i64 aB.Nodes), u1]]) rfl ?_
            refine C_seq ?_
            refine C_reg ?_
            refine p1 rfl ?_
            refine D_end ?_
            refine x_then ?_
            refine C_seq ?_
            refine C_reg ?_
            refine p1 rfl <| p1 rfl ?_
            refine li rfl (cv b_17 rfl rfl rfl rfl (fun w' hs => (laws_heldIntS w' v14 (mkI 1 (conseq aB aK)) 1 (rd_own (k := 0) hs rfl) (by first | assumption | omega | (unfold szm at *; split at * <;> omega)) (by rw [mapS_len]; omega) (mkI_idem _ _))) ?_)
            refine p1 rfl ?_
            refine D_end ?_
            refine x_then ?_
            refine C_seq ?_
            refine C_seq ?_
            refine C_reg ?_
            refine p1 rfl <| p1 rfl ?_
            refine D_end ?_
            refine x_then ?_
            refine C_if _ rfl (fun h22 => ?_) (fun h22 => ?_)
            · have pr22 : ((1 + (mkI 1 (conseq aB aK)).length) : Int) < 0 := of_decide_eq_true h22
              refine C_seq ?_
              refine C_reg ?_
              refine p1 rfl ?_
              refine D_end ?_
              refine x_then ?_
              refine D_weak [(4, (.bool false))] ⟨rfl, trivial⟩ ?_
              refine D_sel (H' := []) [false, false, false] rfl ?_
              refine C_ret ?_
              refine x_then_ret ?_
              refine R_1 rfl rfl fun w' hs => ⟨congrArg (fun z => Ending.returned (Value.bool z)) ?_, hs.bel⟩
              show (false : Bool) = true
              first | rfl | (exfalso; omega) | (exfalso; simp only [mapS_len, sumB_mk, sumR_mk] at *; omega) | exact absurd h22 (by simp [mapS_len])
            · have pr22 : ¬ ((1 + (mkI 1 (conseq aB aK)).length) : Int) < 0 := of_decide_eq_false h22
              refine C_skip ?_
              refine x_then ?_
              refine C_seq ?_
              refine C_seq ?_
              refine C_reg ?_
              refine p1 rfl <| p1 rfl <| p1 rfl ?_
              refine D_end ?_
              refine x_then ?_
              refine C_if _ rfl (fun h23 => ?_) (fun h23 => ?_)
              · have pr23 : ((1 + (mkI 1 (conseq aB aK)).length) : Int) ≠ (1 + (conseq aB aK).length) := bne_iff_ne.1 h23
                refine C_seq ?_
                refine C_reg ?_
                refine p1 rfl ?_
                refine D_end ?_
                refine x_then ?_
                refine D_weak [(4, (.bool false))] ⟨rfl, trivial⟩ ?_
                refine D_sel (H' := []) [false, false, false] rfl ?_
                refine C_ret ?_
                refine x_then_ret ?_
                refine R_1 rfl rfl fun w' hs => ⟨congrArg (fun z => Ending.returned (Value.bool z)) ?_, hs.bel⟩
                show (false : Bool) = true
                first | rfl | (exfalso; omega) | (exfalso; simp only [mapS_len, sumB_mk, sumR_mk] at *; omega) | exact absurd h23 (by simp [mapS_len])
              · have pr23 : ((1 + (mkI 1 (conseq aB aK)).length) : Int) = (1 + (conseq aB aK).length) := eq_of_bne_f h23
                refine C_skip ?_
                refine x_then ?_
                refine C_seq ?_
                refine C_reg ?_
                refine q1 rfl (lbw 2 a_24 rfl rfl rfl) ?_
                refine li rfl (crs rfl b_20 rfl rfl rfl rfl (fun w' hs => (laws_toBeliefs w' [(.int .i64 aB.Nodes), u1] aB (rd_at hs h_aB) (by first | assumption | omega | (unfold szm at *; split at * <;> omega)))) fun cs24 => ?_)
                refine D_pre (fun w' hs => shape_Beliefs (rd_own (k := 0) hs rfl)) ?_
                rintro ⟨v25, rfl, ho26⟩
                refine p1 rfl ?_
                refine li rfl (crl b_35 rfl rfl rfl rfl (fun w' hs => (impl_ConsequencesOf w' [(.int .i64 aB.Nodes), v25] aB aK (rd_own (k := 0) hs rfl) (by first | assumption | omega | (unfold szm at *; split at * <;> omega)))) fun v27 => ?_)
                refine p1 rfl ?_
                refine D_end ?_
                refine x_then ?_
                refine D_weak [(6, v9), (8, v14), (10, (.int .i64 (1 + (conseq aB aK).length))), (12, v27)] ⟨rfl, rfl, rfl, rfl, trivial⟩ ?_
                refine D_sel (H' := [ov [v27] (conseq aB aK : (List Int)), ov [v14] (mkI 1 (conseq aB aK) : (List Int)), ov [v9] (conseq aB aK : (List Int))]) [true, false, true, true, false] rfl ?_
                refine C_seq ?_
                refine C_seq ?_
                refine C_reg ?_
                refine p1 rfl <| p1 rfl ?_
                refine li rfl (cv b_13 rfl rfl rfl rfl (fun w' hs => (laws_eqIntS w' v27 (conseq aB aK) v9 (conseq aB aK) (rd_own (k := 0) hs rfl) (rd_own (k := 2) hs rfl))) ?_)
                refine p1 rfl ?_
                refine D_end ?_
                refine x_then ?_
                refine C_if _ rfl (fun h28 => ?_) (fun h28 => ?_)
                · have h28n : (decide ((conseq aB aK) = (conseq aB aK))) = false := not_t h28
                  refine C_seq ?_
                  refine C_reg ?_
                  refine p1 rfl ?_
                  refine D_end ?_
                  refine x_then ?_
                  refine C_ret ?_
                  refine x_then_ret ?_
                  refine R_1 rfl rfl fun w' hs => ⟨congrArg (fun z => Ending.returned (Value.bool z)) ?_, hs.bel⟩
                  show (false : Bool) = true
                  first | rfl | (exfalso; omega) | (exfalso; simp only [mapS_len, sumB_mk, sumR_mk] at *; omega) | exact absurd h28 (by simp [mapS_len])
                · have h28n : (decide ((conseq aB aK) = (conseq aB aK))) = true := not_f h28
                  refine C_skip ?_
                  refine x_then ?_
                  refine C_seq ?_
                  refine C_reg ?_
                  refine p1 rfl ?_
                  refine D_end ?_
                  refine x_then ?_
                  refine C_seq ?_
                  refine C_reg ?_
                  refine p1 rfl <| p1 rfl ?_
                  refine li rfl (cv b_17 rfl rfl rfl rfl (fun w' hs => (laws_heldIntS w' v14 (mkI 1 (conseq aB aK)) 1 (rd_own (k := 1) hs rfl) (by first | assumption | omega | (unfold szm at *; split at * <;> omega)) (by rw [mapS_len]; omega) (mkI_idem _ _))) ?_)
                  refine p1 rfl ?_
                  refine D_end ?_
                  refine x_then ?_
                  refine C_seq ?_
                  refine C_seq ?_
                  refine C_reg ?_
                  refine p1 rfl <| p1 rfl ?_
                  refine D_end ?_
                  refine x_then ?_
                  refine C_if _ rfl (fun h29 => ?_) (fun h29 => ?_)
                  · have pr29 : ((1 + (mkI 1 (conseq aB aK)).length) : Int) < 0 := of_decide_eq_true h29
                    refine C_seq ?_
                    refine C_reg ?_
                    refine p1 rfl ?_
                    refine D_end ?_
                    refine x_then ?_
                    refine C_ret ?_
                    refine x_then_ret ?_
                    refine R_1 rfl rfl fun w' hs => ⟨congrArg (fun z => Ending.returned (Value.bool z)) ?_, hs.bel⟩
                    show (false : Bool) = true
                    first | rfl | (exfalso; omega) | (exfalso; simp only [mapS_len, sumB_mk, sumR_mk] at *; omega) | exact absurd h29 (by simp [mapS_len])
                  · have pr29 : ¬ ((1 + (mkI 1 (conseq aB aK)).length) : Int) < 0 := of_decide_eq_false h29
                    refine C_skip ?_
                    refine x_then ?_
                    refine C_seq ?_
                    refine C_seq ?_
                    refine C_reg ?_
                    refine p1 rfl <| p1 rfl <| p1 rfl ?_
                    refine D_end ?_
                    refine x_then ?_
                    refine D_weak [(73, (.bool (((1 + (mkI 1 (conseq aB aK)).length) : Int) != (1 + (conseq aB aK).length))))] ⟨rfl, trivial⟩ ?_
                    refine D_sel (H' := []) [false, false, false] rfl ?_
                    refine C_if _ rfl (fun h30 => ?_) (fun h30 => ?_)
                    · have pr30 : ((1 + (mkI 1 (conseq aB aK)).length) : Int) ≠ (1 + (conseq aB aK).length) := bne_iff_ne.1 h30
                      refine C_seq ?_
                      refine C_reg ?_
                      refine p1 rfl ?_
                      refine D_end ?_
                      refine x_then ?_
                      refine C_ret ?_
                      refine x_then_ret ?_
                      refine R_1 rfl rfl fun w' hs => ⟨congrArg (fun z => Ending.returned (Value.bool z)) ?_, hs.bel⟩
                      show (false : Bool) = true
                      first | rfl | (exfalso; omega) | (exfalso; simp only [mapS_len, sumB_mk, sumR_mk] at *; omega) | exact absurd h30 (by simp [mapS_len])
                    · have pr30 : ((1 + (mkI 1 (conseq aB aK)).length) : Int) = (1 + (conseq aB aK).length) := eq_of_bne_f h30
                      refine C_skip ?_
                      refine x_then ?_
                      refine C_seq ?_
                      refine C_reg ?_
                      refine p1 rfl ?_
                      refine D_end ?_
                      refine x_then ?_
                      refine C_ret ?_
                      refine R_1 rfl rfl fun w' hs => ⟨congrArg (fun z => Ending.returned (Value.bool z)) ?_, hs.bel⟩
                      show (true : Bool) = true
                      first | rfl | (exfalso; omega) | (exfalso; simp only [mapS_len, sumB_mk, sumR_mk] at *; omega) | exact absurd h30 (by simp [mapS_len])
end Go.Sy.Bel9
