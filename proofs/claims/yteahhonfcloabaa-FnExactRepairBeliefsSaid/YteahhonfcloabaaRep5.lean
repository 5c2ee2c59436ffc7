/-
  Contracts of functions of the program, walked (printed by a program of ours).
  Conditions: those that each theorem states.
-/
import Derived.Test.YteahhonfcloabaaRep4
import Derived.Test.YteahhonfcloabaaRp
set_option linter.unusedVariables false
set_option maxRecDepth 20000
namespace Go.Sy.Rep5
open Go Go.RowKit Go.Proofs Go.Sy
theorem mixed : Try.prog.follows .mixedOrders = true := by kernel_rfl
theorem s_44 : sliceTy Try.prog 44 = some (25, 1, 24) := by kernel_rfl
theorem o_25 : oneTy Try.prog 25 = true := by kernel_rfl
theorem b_14 : hasBody Try.prog 14 = true := by kernel_rfl
theorem b_17 : hasBody Try.prog 17 = true := by kernel_rfl
theorem b_18 : hasBody Try.prog 18 = true := by kernel_rfl
theorem a_30 : aggTy Try.prog 30 = some 2 := by kernel_rfl
theorem b_26 : hasBody Try.prog 26 = true := by kernel_rfl
theorem b_25 : hasBody Try.prog 25 = true := by kernel_rfl
theorem s_25 : sliceTy Try.prog 25 = some (3, 1, 8) := by kernel_rfl
theorem y_30 : zeroTy Try.prog 30 = some (.agg #[(.int .i64 0), (.slice none 0 0)]) := by kernel_rfl
theorem b_22 : hasBody Try.prog 22 = true := by kernel_rfl
theorem b_55 : hasBody Try.prog 55 = true := by kernel_rfl
theorem z_30 : sizeTy Try.prog 30 = some 2 := by kernel_rfl
theorem b_48 : hasBody Try.prog 48 = true := by kernel_rfl
theorem b_21 : hasBody Try.prog 21 = true := by kernel_rfl
theorem b_54 : hasBody Try.prog 54 = true := by kernel_rfl
theorem b_45 : hasBody Try.prog 45 = true := by kernel_rfl
theorem o_3 : oneTy Try.prog 3 = true := by kernel_rfl
theorem b_38 : hasBody Try.prog 38 = true := by kernel_rfl
theorem y_3 : zeroTy Try.prog 3 = some (.int .i64 0) := by kernel_rfl
theorem b_35 : hasBody Try.prog 35 = true := by kernel_rfl
theorem a_24 : aggTy Try.prog 24 = some 2 := by kernel_rfl
theorem b_9 : hasBody Try.prog 9 = true := by kernel_rfl
theorem b_11 : hasBody Try.prog 11 = true := by kernel_rfl
theorem b_12 : hasBody Try.prog 12 = true := by kernel_rfl
theorem b_30 : hasBody Try.prog 30 = true := by kernel_rfl
theorem b_31 : hasBody Try.prog 31 = true := by kernel_rfl
theorem b_15 : hasBody Try.prog 15 = true := by kernel_rfl
theorem ub_4 : Try.prog.underlying 4 = some .bool := by kernel_rfl
theorem b_16 : hasBody Try.prog 16 = true := by kernel_rfl
theorem b_32 : hasBody Try.prog 32 = true := by kernel_rfl
open Go.Sy.Bel1 Go.Sy.Bel2 Go.Sy.Bel3 Go.Sy.Bel4 Go.Sy.Bel5 Go.Sy.Bel6 Go.Sy.Bel7 Go.Sy.Bel8 Go.Sy.Bel9 Go.Sy.Belb Go.Sy.Belc Go.Sy.Beld Go.Sy.Sorts Go.Sy.Rep1 Go.Sy.Rep2 Go.Sy.Rep3 Go.Sy.Rep4
theorem laws_eqIntSS (w : World) (v_a : Value) (a : (List (List Int))) (v_b : Value) (b : (List (List Int))) (h_a : Gd.rd w [v_a] a) (h_b : Gd.rd w [v_b] b) : Calls Try.prog 27 [v_a, v_b].toArray w (Val w (.bool (decide (a = b)))) := by
  have hm1 := rd_max h_a
  have hm2 := rd_max h_b
  refine enter 27 Try.func27 rfl rfl rfl ?_
  refine C_seq ?_
  refine C_reg ?_
  refine p1 rfl ?_
  refine D_end ?_
  refine x_then ?_
  refine C_seq ?_
  refine C_seq ?_
  refine C_reg ?_
  refine p1 rfl ?_
  refine q1 rfl (D_len s_44 rfl rfl (rd_sl h_a)) ?_
  refine p1 rfl ?_
  refine q1 rfl (D_len s_44 rfl rfl (rd_sl h_b)) ?_
  refine p1 rfl ?_
  refine D_end ?_
  refine x_then ?_
  refine C_if _ rfl (fun h3 => ?_) (fun h3 => ?_)
  · have pr3 : (((a.length : Nat) : Int) : Int) ≠ ((b.length : Nat) : Int) := bne_iff_ne.1 h3
    refine C_seq ?_
    refine C_reg ?_
    refine p1 rfl ?_
    refine D_end ?_
    refine x_then ?_
    refine C_ret ?_
    refine x_then_ret ?_
    refine R_1 rfl rfl fun w' hs => ⟨congrArg (fun z => Ending.returned (Value.bool z)) ?_, hs.bel⟩
    show (false : Bool) = decide (a = b)
    symm; rw [decide_eq_false_iff_not]; intro e; subst e; omega
  · have pr3 : (((a.length : Nat) : Int) : Int) = ((b.length : Nat) : Int) := eq_of_bne_f h3
    refine C_skip ?_
    refine x_then ?_
    refine C_seq ?_
    refine C_seq ?_
    refine C_reg ?_
    refine p1 rfl ?_
    refine D_end ?_
    refine x_then ?_
    refine C_block ?_
    refine C_loop (fun m_ ac w' => ∃ (k : Nat), (k ≤ a.length) ∧ (∀ i, i < k → a[i]? = b[i]?) ∧ m_ = a.length - k ∧ Fits ac 27 [(0, v_a), (1, v_b), (5, (.int .i64 ((k : Nat) : Int)))] ∧ St w ([]) w') ?_ ?_
    · refine fun ac w' hf hs => ⟨_, 0, ?_, ?_, rfl, hf.weak ⟨rfl, rfl, rfl, trivial⟩, hs⟩
      · first | assumption | omega | simp
      · intro i hi; omega
    · rintro m_ ac w' ⟨k, hk, hi, rfl, hf, hs⟩
      refine D.use ?_ hf hs
      clear hf hs ac w'
      refine C_seq ?_
      refine C_seq ?_
      refine C_reg ?_
      refine p1 rfl <| p1 rfl ?_
      refine q1 rfl (D_len s_44 rfl rfl (rd_sl h_a)) ?_
      refine p1 rfl ?_
      refine D_end ?_
      refine x_then ?_
      refine C_if _ rfl (fun h4 => ?_) (fun h4 => ?_)
      · have pr4 : (((k : Nat) : Int) : Int) < ((a.length : Nat) : Int) := of_decide_eq_true h4
        refine C_skip ?_
        refine x_then ?_
        refine C_seq ?_
        refine C_block ?_
        refine C_seq ?_
        refine C_draw mixed [8, 9] (by kernel_rfl) ?_
        refine tk 0 rfl (by kernel_rfl) (by kernel_rfl) (by kernel_rfl) rfl (fun _ hs => hs) (rp rfl) ?_
        refine tk 1 rfl (by kernel_rfl) (by kernel_rfl) (by kernel_rfl) rfl (fun _ hs => hs) (rp rfl) ?_
        obtain ⟨x0, hx0⟩ := some_of_lt (l := a) (i := k) (by omega)
        obtain ⟨es5, at6, hr7⟩ := rd_elem (n := 1) rfl h_a hx0
        obtain ⟨u9, rfl⟩ := rd_cell hr7
        refine tk 2 rfl (by kernel_rfl) (by kernel_rfl) (by kernel_rfl) rfl (fun _ hs => hs) (D_ix (l := a) (j := k) s_44 rfl rfl rfl (fun w' hs => (rd_at hs h_a)) rfl (lt_of_some hx0)) ?_
        refine tk 3 rfl (by kernel_rfl) (by kernel_rfl) (by kernel_rfl) rfl (fun _ hs => hs) (lr0 o_25 rfl rfl at6 rfl) ?_
        refine tk 4 rfl (by kernel_rfl) (by kernel_rfl) (by kernel_rfl) rfl (fun _ hs => hs) (rp rfl) ?_
        refine tk 5 rfl (by kernel_rfl) (by kernel_rfl) (by kernel_rfl) rfl (fun _ hs => hs) (rp rfl) ?_
        obtain ⟨y0, hy0⟩ := some_of_lt (l := b) (i := k) (by omega)
        obtain ⟨es10, at11, hr12⟩ := rd_elem (n := 1) rfl h_b hy0
        obtain ⟨u13, rfl⟩ := rd_cell hr12
        refine tk 6 rfl (by kernel_rfl) (by kernel_rfl) (by kernel_rfl) rfl (fun _ hs => hs) (D_ix (l := b) (j := k) s_44 rfl rfl rfl (fun w' hs => (rd_at hs h_b)) rfl (lt_of_some hy0)) ?_
        refine tk 7 rfl (by kernel_rfl) (by kernel_rfl) (by kernel_rfl) rfl (fun _ hs => hs) (lr0 o_25 rfl rfl at11 rfl) ?_
        refine ty 8 rfl (by kernel_rfl) rfl (cv b_14 rfl rfl rfl rfl (fun w' hs => (laws_eqIntS w' u9 x0 u13 y0 (rd_at hs hr7) (rd_at hs hr12))) ?_)
        refine tZ rfl ?_
        refine ty 9 rfl (by kernel_rfl) rfl (sv rfl rfl (rp rfl) ?_)
        refine tZ rfl ?_
        refine tE (by kernel_rfl) ?_
        refine x_then ?_
        refine C_if _ rfl (fun h14 => ?_) (fun h14 => ?_)
        · have h14n : (decide (x0 = y0)) = false := not_t h14
          refine C_seq ?_
          refine C_reg ?_
          refine p1 rfl ?_
          refine D_end ?_
          refine x_then ?_
          refine D_weak [(4, (.bool false))] ⟨rfl, trivial⟩ ?_
          refine C_ret ?_
          refine x_blk_ret ?_
          refine x_then_ret ?_
          refine x_then_ret ?_
          refine x_blk_ret ?_
          refine x_then_ret ?_
          refine R_1 rfl rfl fun w' hs => ⟨congrArg (fun z => Ending.returned (Value.bool z)) ?_, hs.bel⟩
          show (false : Bool) = decide (a = b)
          symm; rw [decide_eq_false_iff_not]; intro e; subst e; have := Option.some.inj (hx0.symm.trans hy0); simp_all
        · have h14n : (decide (x0 = y0)) = true := not_f h14
          refine C_skip ?_
          refine x_blk ?_
          refine x_then ?_
          refine C_reg ?_
          refine p1 rfl ?_
          refine q1 rfl (D_add rfl rfl rfl (r := ((k + 1 : Nat) : Int)) (by omega) (by omega)) ?_
          refine p1 rfl ?_
          refine D_end ?_
          refine x_then ?_
          refine fun ac w' hf hs => ⟨_, ?_, k + 1, ?_, ?_, rfl, hf.weak ⟨rfl, rfl, rfl, trivial⟩, hs⟩
          · omega
          · first | assumption | omega | simp
          · exact idx_step hi hx0 hy0 (of_decide_eq_true (not_f (by assumption)))
      · have pr4 : ¬ (((k : Nat) : Int) : Int) < ((a.length : Nat) : Int) := of_decide_eq_false h4
        refine C_exit ?_
        refine x_then_exit ?_
        refine x_then_exit ?_
        refine x_blk_eq ?_
        refine x_then ?_
        refine C_seq ?_
        refine C_reg ?_
        refine p1 rfl ?_
        refine D_end ?_
        refine x_then ?_
        refine C_ret ?_
        refine R_1 rfl rfl fun w' hs => ⟨congrArg (fun z => Ending.returned (Value.bool z)) ?_, hs.bel⟩
        show (true : Bool) = decide (a = b)
        symm; rw [decide_eq_true_eq]; exact eq_of_idx (by omega) (fun i h => hi i (by omega))

theorem laws_markIntSS (w0 : World) (Hs : List Chunk) (w : World) (v_a : Value) (a : (List (List Int))) (k : Int) (h0 : 0 ≤ k) (h1 : k + sumC cII a ≤ 4611686018427387904) (hst : St w0 (ov [v_a] (a : (List (List Int))) :: Hs) w) : Calls Try.prog 28 [v_a, (.int .i64 k)].toArray w (fun e w' => e = .returned (.int .i64 (k + sumC cII a)) ∧ St w0 (ov [v_a] (mkII k a : (List (List Int))) :: Hs) w') := by
  have hm1 := rd_max (rd_own (k := 0) hst rfl)
  refine enterS 19 Try.func28 rfl rfl rfl hst ?_
  refine C_seq ?_
  refine C_reg ?_
  refine p1 rfl ?_
  refine D_end ?_
  refine x_then ?_
  refine D_H (ov [v_a] (a : (List (List Int))) :: Hs) rfl ?_
  refine C_seq ?_
  refine C_seq ?_
  refine C_reg ?_
  refine p1 rfl ?_
  refine D_end ?_
  refine x_then ?_
  refine C_block ?_
  refine C_loop (fun m_ ac w' => ∃ (i : Nat), ∃ (kk : Int), (i ≤ a.length) ∧ (kk = k + sumC cII (a.take i)) ∧ m_ = a.length - i ∧ Fits ac 19 [(0, v_a), (1, (.int .i64 kk)), (5, (.int .i64 ((i : Nat) : Int)))] ∧ St w0 (ov [v_a] (mapAt fII cII k a i : (List (List Int))) :: Hs) w') ?_ ?_
  · refine D_eq 0 rfl (show (a : (List (List Int))) = mapAt fII cII k a 0 from by rw [mapAt_zero]) ?_
    refine fun ac w' hf hs => ⟨_, 0, k, ?_, ?_, rfl, hf.weak ⟨rfl, rfl, rfl, trivial⟩, hs⟩
    · first | assumption | omega | simp
    · simp [sumC]
  · rintro m_ ac w' ⟨i, kk, hi, hk, rfl, hf, hs⟩
    refine D.use ?_ hf hs
    clear hf hs ac w'
    have hcl := mapAt_len (f := fII) (c := cII) (k := k) hi
    refine C_seq ?_
    refine C_seq ?_
    refine C_reg ?_
    refine p1 rfl <| p1 rfl ?_
    refine q1 rfl (D_leno 0 s_44 rfl rfl rfl) ?_
    refine p1 rfl ?_
    refine D_end ?_
    refine x_then ?_
    refine D_H (ov [v_a] (mapAt fII cII k a i : (List (List Int))) :: Hs) rfl ?_
    refine C_if _ rfl (fun h2 => ?_) (fun h2 => ?_)
    · have pr2 : (((i : Nat) : Int) : Int) < (((mapAt fII cII k a i).length : Nat) : Int) := of_decide_eq_true h2
      refine C_skip ?_
      refine x_then ?_
      refine C_seq ?_
      refine C_block ?_
      refine C_reg ?_
      refine p1 rfl <| p1 rfl ?_
      refine D_mopen fun hd3 hl4 => ?_
      obtain ⟨r5, hh6⟩ := some_of_lt (l := hd3) (i := i) (by omega)
      obtain ⟨x0, hx0⟩ := some_of_lt (l := (mapAt fII cII k a i)) (i := i) (by omega)
      refine q1 rfl (D_ix (l := (mapAt fII cII k a i)) (j := i) s_44 rfl rfl rfl (fun w' hs => (mx_rd (k := 0) hs rfl)) rfl (lt_of_some hx0)) ?_
      refine q1 rfl (lmx 0 o_25 rfl rfl rfl hh6) ?_
      refine p1 rfl ?_
      have hstep := mkII_step hi hx0 hk
      refine D_mtake hh6 hx0 ?_
      refine li rfl (cm b_17 rfl rfl rfl rfl (fun w' hs => laws_markIntS _ _ w' r5 x0 kk (by first | assumption | omega | (simp only; omega)) (by first | assumption | omega | (simp only; omega)) hs) ?_)
      refine D_mput ?_
      refine p1 rfl ?_
      refine D_end ?_
      refine x_blk ?_
      refine x_then ?_
      refine C_reg ?_
      refine p1 rfl ?_
      refine q1 rfl (D_add rfl rfl rfl (r := ((i + 1 : Nat) : Int)) (by omega) (by omega)) ?_
      refine p1 rfl ?_
      refine D_end ?_
      refine x_then ?_
      refine D_mclose ?_
      refine D_eq 0 rfl (show ((mapAt fII cII k a i).set i (mkI kk x0) : (List (List Int))) = mapAt fII cII k a (i + 1) from by exact mkII_set hi hx0 hk) ?_
      refine fun ac w' hf hs => ⟨_, ?_, i + 1, (kk + x0.length), ?_, ?_, rfl, hf.weak ⟨rfl, rfl, rfl, trivial⟩, hs⟩
      · omega
      · first | assumption | omega | simp
      · omega
    · have pr2 : ¬ (((i : Nat) : Int) : Int) < (((mapAt fII cII k a i).length : Nat) : Int) := of_decide_eq_false h2
      refine C_exit ?_
      refine x_then_exit ?_
      refine x_then_exit ?_
      refine x_blk_eq ?_
      refine x_then ?_
      refine C_seq ?_
      refine C_reg ?_
      refine p1 rfl <| p1 rfl ?_
      refine D_end ?_
      refine x_then ?_
      refine C_ret ?_
      refine D_eq 0 rfl (show (mapAt fII cII k a i : (List (List Int))) = mkII k a from by exact mapAt_done (by omega)) ?_
      refine R_1 rfl rfl fun w' hs => ⟨congrArg (fun z => Ending.returned (Value.int .i64 z)) ?_, hs⟩
      show (kk : Int) = k + sumC cII a
      rw [List.take_of_length_le (by omega)] at hk; exact hk

theorem laws_heldIntSS (w : World) (v_a : Value) (a : (List (List Int))) (k : Int) (h_a : Gd.rd w [v_a] a) (h0 : 0 ≤ k) (h1 : k + sumC cII a ≤ 4611686018427387904) (he : a = mkII k a) : Calls Try.prog 29 [v_a, (.int .i64 k)].toArray w (Val w (.int .i64 (k + sumC cII a))) := by
  have hm1 := rd_max h_a
  refine enter 21 Try.func29 rfl rfl rfl ?_
  refine C_seq ?_
  refine C_reg ?_
  refine p1 rfl ?_
  refine D_end ?_
  refine x_then ?_
  refine C_seq ?_
  refine C_seq ?_
  refine C_reg ?_
  refine p1 rfl ?_
  refine D_end ?_
  refine x_then ?_
  refine C_block ?_
  refine C_loop (fun m_ ac w' => ∃ (i : Nat), ∃ (kk : Int), (i ≤ a.length) ∧ (kk = k + sumC cII (a.take i)) ∧ m_ = a.length - i ∧ Fits ac 21 [(0, v_a), (1, (.int .i64 kk)), (5, (.int .i64 ((i : Nat) : Int)))] ∧ St w ([]) w') ?_ ?_
  · refine fun ac w' hf hs => ⟨_, 0, k, ?_, ?_, rfl, hf.weak ⟨rfl, rfl, rfl, trivial⟩, hs⟩
    · first | assumption | omega | simp
    · simp [sumC]
  · rintro m_ ac w' ⟨i, kk, hi, hk, rfl, hf, hs⟩
    refine D.use ?_ hf hs
    clear hf hs ac w'
    refine C_seq ?_
    refine C_seq ?_
    refine C_reg ?_
    refine p1 rfl <| p1 rfl ?_
    refine q1 rfl (D_len s_44 rfl rfl (rd_sl h_a)) ?_
    refine p1 rfl ?_
    refine D_end ?_
    refine x_then ?_
    refine C_if _ rfl (fun h2 => ?_) (fun h2 => ?_)
    · have pr2 : (((i : Nat) : Int) : Int) < ((a.length : Nat) : Int) := of_decide_eq_true h2
      refine C_skip ?_
      refine x_then ?_
      refine C_seq ?_
      refine C_block ?_
      refine C_seq ?_
      refine C_reg ?_
      refine p1 rfl <| p1 rfl ?_
      obtain ⟨x0, hx0⟩ := some_of_lt (l := a) (i := i) (by omega)
      obtain ⟨es3, at4, hr5⟩ := rd_elem (n := 1) rfl h_a hx0
      obtain ⟨u6, rfl⟩ := rd_cell hr5
      refine q1 rfl (D_ix (l := a) (j := i) s_44 rfl rfl rfl (fun w' hs => (rd_at hs h_a)) rfl (lt_of_some hx0)) ?_
      refine q1 rfl (lr0 o_25 rfl rfl at4 rfl) ?_
      refine p1 rfl ?_
      have hstep := mkII_held he hx0 hk
      refine li rfl (cv b_18 rfl rfl rfl rfl (fun w' hs => (laws_heldIntS w' u6 x0 kk (rd_at hs hr5) (by first | assumption | omega | (unfold szm at *; split at * <;> omega)) (by first | assumption | omega | (unfold szm at *; split at * <;> omega)) hstep.1)) ?_)
      refine p1 rfl ?_
      refine D_end ?_
      refine x_then ?_
      refine C_seq ?_
      refine C_reg ?_
      refine p1 rfl <| p1 rfl ?_
      refine D_end ?_
      refine x_then ?_
      refine C_if _ rfl (fun h7 => ?_) (fun h7 => ?_)
      · have pr7 : ((kk + x0.length) : Int) < 0 := of_decide_eq_true h7
        refine C_seq ?_
        refine C_reg ?_
        refine p1 rfl ?_
        refine D_end ?_
        refine x_then ?_
        refine D_weak [(4, (.int .i64 (-1)))] ⟨rfl, trivial⟩ ?_
        refine C_ret ?_
        refine x_blk_ret ?_
        refine x_then_ret ?_
        refine x_then_ret ?_
        refine x_blk_ret ?_
        refine x_then_ret ?_
        refine R_1 rfl rfl fun w' hs => ⟨congrArg (fun z => Ending.returned (Value.int .i64 z)) ?_, hs.bel⟩
        show ((-1) : Int) = k + sumC cII a
        exfalso; omega
      · have pr7 : ¬ ((kk + x0.length) : Int) < 0 := of_decide_eq_false h7
        refine C_skip ?_
        refine x_blk ?_
        refine x_then ?_
        refine C_reg ?_
        refine p1 rfl ?_
        refine q1 rfl (D_add rfl rfl rfl (r := ((i + 1 : Nat) : Int)) (by omega) (by omega)) ?_
        refine p1 rfl ?_
        refine D_end ?_
        refine x_then ?_
        refine fun ac w' hf hs => ⟨_, ?_, i + 1, (kk + x0.length), ?_, ?_, rfl, hf.weak ⟨rfl, rfl, rfl, trivial⟩, hs⟩
        · omega
        · first | assumption | omega | simp
        · omega
    · have pr2 : ¬ (((i : Nat) : Int) : Int) < ((a.length : Nat) : Int) := of_decide_eq_false h2
      refine C_exit ?_
      refine x_then_exit ?_
      refine x_then_exit ?_
      refine x_blk_eq ?_
      refine x_then ?_
      refine C_seq ?_
      refine C_reg ?_
      refine p1 rfl <| p1 rfl ?_
      refine D_end ?_
      refine x_then ?_
      refine C_ret ?_
      refine R_1 rfl rfl fun w' hs => ⟨congrArg (fun z => Ending.returned (Value.int .i64 z)) ?_, hs.bel⟩
      show (kk : Int) = k + sumC cII a
      rw [List.take_of_length_le (by omega)] at hk; exact hk

theorem impl_FirstRepair (w : World) (c_b : List Value) (b : Beliefs) (v_bad : Value) (bad : (List Int)) (v_free : Value) (free : (List Int)) (h_b : Gd.rd w c_b b) (h_bad : Gd.rd w [v_bad] bad) (h_free : Gd.rd w [v_free] free) : Calls Try.prog 22 [(.agg c_b.toArray), v_bad, v_free].toArray w (Res2 w (fstR b bad free : List Int) (hasR b bad free : Bool)) := by
  obtain ⟨u1, rfl, hu2⟩ := open_Beliefs h_b
  have hm3 := rd_max hu2
  have hm4 := rd_max h_bad
  have hm5 := rd_max h_free
  have hrl := leastR_len b bad free
  refine enter 19 Try.func22 rfl rfl rfl ?_
  refine C_seq ?_
  refine C_reg ?_
  refine li rfl (D_box rfl rfl rfl rfl rfl fun g6 => ?_)
  refine p1 rfl <| p1 rfl ?_
  refine D_end ?_
  refine x_then ?_
  refine D_H ([bx g6 [(.int .i64 b.Nodes), u1]]) rfl ?_
  refine C_seq ?_
  refine C_reg ?_
  refine q1 rfl (lbw 0 a_30 rfl rfl rfl) ?_
  refine p1 rfl <| p1 rfl ?_
  refine li rfl (crl b_26 rfl rfl rfl rfl (fun w' hs => (impl_LeastRepairs w' [(.int .i64 b.Nodes), u1] b v_bad bad v_free free (rd_at hs h_b) (rd_at hs h_bad) (rd_at hs h_free))) fun v7 => ?_)
  refine p1 rfl ?_
  refine D_end ?_
  refine x_then ?_
  refine D_H ([ov [v7] (leastR b bad free : (List (List Int))), bx g6 [(.int .i64 b.Nodes), u1]]) rfl ?_
  refine C_seq ?_
  refine C_seq ?_
  refine C_reg ?_
  refine p1 rfl ?_
  refine q1 rfl (D_leno 0 s_44 rfl rfl rfl) ?_
  refine p1 rfl ?_
  refine D_end ?_
  refine x_then ?_
  refine C_if _ rfl (fun h8 => ?_) (fun h8 => ?_)
  · have pr8 : ((((leastR b bad free).length : Nat) : Int) : Int) = 0 := eq_of_beq h8
    refine C_seq ?_
    refine C_reg ?_
    refine p1 rfl <| p1 rfl ?_
    refine D_end ?_
    refine x_then ?_
    refine C_ret ?_
    refine x_then_ret ?_
    refine D_nil (α := Int) ?_
    refine D_fbool false ?_
    refine D_pk (H' := [ov [(.slice none 0 0)] ([] : (List Int)), ov [(.bool false)] (false : Bool), ov [v7] (leastR b bad free : (List (List Int))), bx g6 [(.int .i64 b.Nodes), u1]]) [1, 0, 2, 3] rfl rfl ?_
    refine R_2g rfl (rvt rfl) (rvt rfl) fun w' hs => res2_of (c1 := [(.slice none 0 0)]) (c2 := [(.bool false)]) hs ?_ ?_
    · show ([] : List Int) = fstR b bad free
      first | exact fst_n (by assumption) | exact hasR_n (by assumption)
    · show (false : Bool) = hasR b bad free
      first | exact fst_n (by assumption) | exact hasR_n (by assumption)
  · have pr8 : ((((leastR b bad free).length : Nat) : Int) : Int) ≠ 0 := ne_of_beq_false h8
    refine C_skip ?_
    refine x_then ?_
    refine C_seq ?_
    refine C_reg ?_
    refine p1 rfl ?_
    refine D_mopen fun hd9 hl10 => ?_
    obtain ⟨r11, hh12⟩ := some_of_lt (l := hd9) (i := 0) (by omega)
    obtain ⟨x0, hx0⟩ := some_of_lt (l := (leastR b bad free)) (i := 0) (by omega)
    refine q1 rfl (D_ix (l := (leastR b bad free)) (j := 0) s_44 rfl rfl rfl (fun w' hs => (mx_rd (k := 0) hs rfl)) rfl (lt_of_some hx0)) ?_
    refine q1 rfl (lmx 0 o_25 rfl rfl rfl hh12) ?_
    refine p1 rfl <| p1 rfl ?_
    refine D_end ?_
    refine x_then ?_
    refine D_weak [(6, r11), (7, (.bool true))] ⟨rfl, rfl, trivial⟩ ?_
    refine D_sel [true, false] rfl ?_
    refine C_ret ?_
    refine D_mtake hh12 hx0 ?_
    refine D_pk [0] rfl rfl ?_
    refine D_fbool true ?_
    refine D_pk (H' := [ov [r11] (x0 : (List Int)), ov [(.bool true)] (true : Bool)]) [1, 0] rfl rfl ?_
    refine R_2g rfl (rvt rfl) (rvt rfl) fun w' hs => res2_of (c1 := [r11]) (c2 := [(.bool true)]) hs ?_ ?_
    · show (x0 : List Int) = fstR b bad free
      first | exact fst_y hx0 | exact hasR_y hx0
    · show (true : Bool) = hasR b bad free
      first | exact fst_y hx0 | exact hasR_y hx0

theorem spec_FirstRepair (w wz : World) (hz : Sbw wz w) (c_b : List Value) (b : Beliefs) (v_bad : Value) (bad : (List Int)) (v_free : Value) (free : (List Int)) (h_b : Gd.rd wz c_b b) (h_bad : Gd.rd wz [v_bad] bad) (h_free : Gd.rd wz [v_free] free) : Calls Try.prog 21 [(.agg c_b.toArray), v_bad, v_free].toArray w (RdZ2 wz w (fstR b bad free : List Int) (hasR b bad free : Bool)) := by
  obtain ⟨u1, rfl, hu2⟩ := open_Beliefs h_b
  have hm3 := rd_max hu2
  have hm4 := rd_max h_bad
  have hm5 := rd_max h_free
  have hrl := leastR_len b bad free
  refine enterS 20 Try.func21 rfl rfl rfl (fz_start w wz) ?_
  refine C_seq ?_
  refine C_reg ?_
  refine li rfl (D_box rfl rfl rfl rfl rfl fun g6 => ?_)
  refine p1 rfl <| p1 rfl ?_
  refine D_end ?_
  refine x_then ?_
  refine D_H ([bx g6 [(.int .i64 b.Nodes), u1], fz wz wz]) rfl ?_
  refine C_seq ?_
  refine C_reg ?_
  refine q1 rfl (lbw 0 a_30 rfl rfl rfl) ?_
  refine p1 rfl <| p1 rfl ?_
  refine D_pk (H' := [fz wz wz, bx g6 [(.int .i64 b.Nodes), u1]]) [1, 0] rfl rfl ?_
  refine li rfl (cz (α := List (List Int)) b_25 rfl rfl rfl rfl hz (fun w' hsb => spec_LeastRepairs w' _ hsb [(.int .i64 b.Nodes), u1] b v_bad bad v_free free h_b h_bad h_free) fun cs7 wb9 hu10 hr8 => ?_)
  have hb11 := Gd.rd_sub hu10 hu2
  have hb12 := Gd.rd_sub hu10 h_bad
  have hb13 := Gd.rd_sub hu10 h_free
  have hb14 := Gd.rd_sub hu10 h_b
  obtain ⟨v15, rfl⟩ := rd_cell hr8
  have hm16 := rd_max hr8
  refine D_re 12 (v' := v15) rfl rfl rfl ?_
  refine p1 rfl ?_
  refine D_end ?_
  refine x_then ?_
  refine D_H ([fz wz wb9, bx g6 [(.int .i64 b.Nodes), u1]]) rfl ?_
  refine C_seq ?_
  refine C_seq ?_
  refine C_reg ?_
  refine p1 rfl ?_
  refine q1 rfl (D_len s_44 rfl rfl (rd_sl hr8)) ?_
  refine p1 rfl ?_
  refine D_end ?_
  refine x_then ?_
  refine C_if _ rfl (fun h17 => ?_) (fun h17 => ?_)
  · have pr17 : ((((leastR b bad free).length : Nat) : Int) : Int) = 0 := eq_of_beq h17
    refine C_seq ?_
    refine C_reg ?_
    refine li rfl (D_bs0 (α := Int) s_25 rfl rfl rfl fun v18 => ?_)
    refine p1 rfl <| p1 rfl ?_
    refine D_end ?_
    refine x_then ?_
    refine D_H ([ov [v18] ([] : (List Int)), fz wz wb9, bx g6 [(.int .i64 b.Nodes), u1]]) rfl ?_
    refine C_ret ?_
    refine x_then_ret ?_
    refine D_frz hz fun wb19 hu20 hr21 => ?_
    have hb22 := Gd.rd_sub hu20 hb11
    have hb23 := Gd.rd_sub hu20 hb12
    have hb24 := Gd.rd_sub hu20 hb13
    have hb25 := Gd.rd_sub hu20 hr8
    have hb26 := Gd.rd_sub hu20 hb14
    have hm27 := rd_max hr21
    have hf28 : Gd.rd wb19 [v18] (fstR b bad free : List Int) := (show ([] : List Int) = fstR b bad free from by first | exact fst_n (by assumption) | exact hasR_n (by assumption)) ▸ hr21
    have hf29 : Gd.rd wb19 [(.bool false)] (hasR b bad free : Bool) := congrArg (fun z => [Value.bool z]) (show (false : Bool) = hasR b bad free from by first | exact fst_n (by assumption) | exact hasR_n (by assumption))
    exact R_2g rfl (rvt rfl) (rvt rfl) fun w' hs => ⟨[v18], [(.bool false)], wb19, rfl, zok_of (k := 0) hs rfl (hu10.trans hu20), hf28, hf29⟩
  · have pr17 : ((((leastR b bad free).length : Nat) : Int) : Int) ≠ 0 := ne_of_beq_false h17
    refine C_skip ?_
    refine x_then ?_
    refine C_seq ?_
    refine C_reg ?_
    refine p1 rfl ?_
    obtain ⟨x0, hx0⟩ := some_of_lt (l := (leastR b bad free)) (i := 0) (by omega)
    obtain ⟨es30, at31, hr32⟩ := rd_elem (n := 1) rfl hr8 hx0
    obtain ⟨u33, rfl⟩ := rd_cell hr32
    refine q1 rfl (D_ix (l := (leastR b bad free)) (j := 0) s_44 rfl rfl rfl (fun w' hs => (rd_fz 0 hz hs rfl hr8)) rfl (lt_of_some hx0)) ?_
    refine q1 rfl (lrz0 0 hz rfl o_25 rfl rfl at31 rfl) ?_
    refine p1 rfl <| p1 rfl ?_
    refine D_end ?_
    refine x_then ?_
    refine D_weak [(6, u33), (7, (.bool true))] ⟨rfl, rfl, trivial⟩ ?_
    refine D_sel (H' := [fz wz wb9]) [true, false] rfl ?_
    refine C_ret ?_
    have hf34 : Gd.rd wb9 [u33] (fstR b bad free : List Int) := (show (x0 : List Int) = fstR b bad free from by first | exact fst_y hx0 | exact hasR_y hx0) ▸ hr32
    have hf35 : Gd.rd wb9 [(.bool true)] (hasR b bad free : Bool) := congrArg (fun z => [Value.bool z]) (show (true : Bool) = hasR b bad free from by first | exact fst_y hx0 | exact hasR_y hx0)
    exact R_2g rfl (rvt rfl) (rvt rfl) fun w' hs => ⟨[u33], [(.bool true)], wb9, rfl, zok_of (k := 0) hs rfl hu10, hf34, hf35⟩

theorem impl_RepairBeliefs (w : World) (c_b : List Value) (b : Beliefs) (v_bad : Value) (bad : (List Int)) (v_free : Value) (free : (List Int)) (h_b : Gd.rd w c_b b) (h_bad : Gd.rd w [v_bad] bad) (h_free : Gd.rd w [v_free] free) (hb : szB b ≤ 1048576) : Calls Try.prog 31 [(.agg c_b.toArray), v_bad, v_free].toArray w (Res2 w (repB b bad free : Beliefs) (hasR b bad free : Bool)) := by
  obtain ⟨u1, rfl, hu2⟩ := open_Beliefs h_b
  have hm3 := rd_max hu2
  have hm4 := rd_max h_bad
  have hm5 := rd_max h_free
  refine enter 24 Try.func31 rfl rfl rfl ?_
  refine C_seq ?_
  refine C_reg ?_
  refine li rfl (D_box rfl rfl rfl rfl rfl fun g6 => ?_)
  refine li rfl (D_alloc y_30 rfl rfl rfl rfl fun g7 => ?_)
  refine p1 rfl ?_
  refine D_end ?_
  refine x_then ?_
  refine D_H ([bx g7 [(.int .i64 0), (.slice none 0 0)], bx g6 [(.int .i64 b.Nodes), u1]]) rfl ?_
  refine C_seq ?_
  refine C_reg ?_
  refine q1 rfl (lbw 1 a_30 rfl rfl rfl) ?_
  refine p1 rfl <| p1 rfl ?_
  refine li rfl (cr2 b_22 rfl rfl rfl rfl (fun w' hs => (impl_FirstRepair w' [(.int .i64 b.Nodes), u1] b v_bad bad v_free free (rd_at hs h_b) (rd_at hs h_bad) (rd_at hs h_free))) fun cs8 cs9 => ?_)
  refine D_pre (fun w' hs => rd_cell (rd_own (k := 0) hs rfl)) ?_
  rintro ⟨v10, rfl⟩
  refine D_pre (fun w' hs => show cs9 = [(.bool (hasR b bad free))] from rd_own (k := 1) hs rfl) ?_
  rintro rfl
  refine D_re 14 (v' := (.tuple #[v10, (.bool (hasR b bad free))])) rfl rfl rfl ?_
  refine D_pk (H' := [ov [v10] (fstR b bad free : (List Int)), bx g7 [(.int .i64 0), (.slice none 0 0)], bx g6 [(.int .i64 b.Nodes), u1]]) [0, 2, 3] rfl rfl ?_
  refine p1 rfl <| p1 rfl <| p1 rfl <| p1 rfl <| p1 rfl ?_
  refine D_end ?_
  refine x_then ?_
  refine C_seq ?_
  refine C_seq ?_
  refine C_reg ?_
  refine p1 rfl <| p1 rfl ?_
  refine D_end ?_
  refine x_then ?_
  refine C_if _ rfl (fun h11 => ?_) (fun h11 => ?_)
  · have h11n : (hasR b bad free) = false := not_t h11
    refine C_seq ?_
    refine C_reg ?_
    refine q1 rfl (lbw 2 a_30 rfl rfl rfl) ?_
    refine li rfl (crs rfl b_55 rfl rfl rfl rfl (fun w' hs => (impl_copyBeliefs w' [(.int .i64 b.Nodes), u1] b (rd_at hs h_b) hb)) fun cs12 => ?_)
    refine D_pre (fun w' hs => shape_Beliefs (rd_own (k := 0) hs rfl)) ?_
    rintro ⟨v13, rfl, ho14⟩
    refine li rfl (D_stb (vs := [(.int .i64 b.Nodes), v13]) (cs' := [(.int .i64 b.Nodes), v13]) 2 z_30 rfl rfl rfl rfl rfl rfl (ocons rfl (ocons ho14 onil)) (by simp) rfl ?_)
    refine p1 rfl ?_
    refine D_end ?_
    refine x_then ?_
    refine D_weak [(6, (.pointer (some ⟨g7, 0, none⟩))), (7, (.bool false))] ⟨rfl, rfl, trivial⟩ ?_
    refine D_sel (H' := [ov [(.int .i64 b.Nodes), v13] (b : Beliefs), bx g7 [(.int .i64 b.Nodes), v13]]) [true, false, true, false] rfl ?_
    refine C_ret ?_
    refine x_then_ret ?_
    refine D_fbool false ?_
    refine D_pk (H' := [ov [(.int .i64 b.Nodes), v13] (b : Beliefs), ov [(.bool false)] (false : Bool), bx g7 [(.int .i64 b.Nodes), v13]]) [1, 0, 2] rfl rfl ?_
    refine R_2g rfl (rvc (cs := [(.int .i64 b.Nodes), v13]) 2 a_30 rfl rfl) (rvt rfl) fun w' hs => res2_of (c1 := [(.int .i64 b.Nodes), v13]) (c2 := [(.bool false)]) hs ?_ ?_
    · show (b : Beliefs) = repB b bad free
      first | exact repB_f h11n | exact h11n.symm
    · show (false : Bool) = hasR b bad free
      first | exact repB_f h11n | exact h11n.symm
  · have h11n : (hasR b bad free) = true := not_f h11
    refine C_skip ?_
    refine x_then ?_
    refine C_seq ?_
    refine C_reg ?_
    refine q1 rfl (lbw 2 a_30 rfl rfl rfl) ?_
    refine p1 rfl ?_
    refine li rfl (crs rfl b_48 rfl rfl rfl rfl (fun w' hs => (impl_DropReasons w' [(.int .i64 b.Nodes), u1] b v10 (fstR b bad free) (rd_at hs h_b) (rd_own (k := 0) hs rfl) hb)) fun cs15 => ?_)
    refine D_pre (fun w' hs => shape_Beliefs (rd_own (k := 0) hs rfl)) ?_
    rintro ⟨v16, rfl, ho17⟩
    refine li rfl (D_stb (vs := [(.int .i64 ((dropR b (fstR b bad free)).Nodes)), v16]) (cs' := [(.int .i64 ((dropR b (fstR b bad free)).Nodes)), v16]) 2 z_30 rfl rfl rfl rfl rfl rfl (ocons rfl (ocons ho17 onil)) (by simp) rfl ?_)
    refine p1 rfl ?_
    refine D_end ?_
    refine x_then ?_
    refine D_weak [(6, (.pointer (some ⟨g7, 0, none⟩))), (7, (.bool true))] ⟨rfl, rfl, trivial⟩ ?_
    refine D_sel (H' := [ov [(.int .i64 ((dropR b (fstR b bad free)).Nodes)), v16] (dropR b (fstR b bad free) : Beliefs), bx g7 [(.int .i64 ((dropR b (fstR b bad free)).Nodes)), v16]]) [true, false, true, false] rfl ?_
    refine C_ret ?_
    refine D_fbool true ?_
    refine D_pk (H' := [ov [(.int .i64 ((dropR b (fstR b bad free)).Nodes)), v16] (dropR b (fstR b bad free) : Beliefs), ov [(.bool true)] (true : Bool), bx g7 [(.int .i64 ((dropR b (fstR b bad free)).Nodes)), v16]]) [1, 0, 2] rfl rfl ?_
    refine R_2g rfl (rvc (cs := [(.int .i64 ((dropR b (fstR b bad free)).Nodes)), v16]) 2 a_30 rfl rfl) (rvt rfl) fun w' hs => res2_of (c1 := [(.int .i64 ((dropR b (fstR b bad free)).Nodes)), v16]) (c2 := [(.bool true)]) hs ?_ ?_
    · show (dropR b (fstR b bad free) : Beliefs) = repB b bad free
      first | exact repB_t (not_f h11) | exact (not_f h11).symm
    · show (true : Bool) = hasR b bad free
      first | exact repB_t (not_f h11) | exact (not_f h11).symm

theorem spec_RepairBeliefs (w wz : World) (hz : Sbw wz w) (c_b : List Value) (b : Beliefs) (v_bad : Value) (bad : (List Int)) (v_free : Value) (free : (List Int)) (h_b : Gd.rd wz c_b b) (h_bad : Gd.rd wz [v_bad] bad) (h_free : Gd.rd wz [v_free] free) (hb : szB b ≤ 1048576) : Calls Try.prog 30 [(.agg c_b.toArray), v_bad, v_free].toArray w (RdZ2 wz w (repB b bad free : Beliefs) (hasR b bad free : Bool)) := by
  obtain ⟨u1, rfl, hu2⟩ := open_Beliefs h_b
  have hm3 := rd_max hu2
  have hm4 := rd_max h_bad
  have hm5 := rd_max h_free
  refine enterS 24 Try.func30 rfl rfl rfl (fz_start w wz) ?_
  refine C_seq ?_
  refine C_reg ?_
  refine li rfl (D_box rfl rfl rfl rfl rfl fun g6 => ?_)
  refine li rfl (D_alloc y_30 rfl rfl rfl rfl fun g7 => ?_)
  refine p1 rfl ?_
  refine D_end ?_
  refine x_then ?_
  refine D_H ([bx g7 [(.int .i64 0), (.slice none 0 0)], bx g6 [(.int .i64 b.Nodes), u1], fz wz wz]) rfl ?_
  refine C_seq ?_
  refine C_reg ?_
  refine q1 rfl (lbw 1 a_30 rfl rfl rfl) ?_
  refine p1 rfl <| p1 rfl ?_
  refine D_pk (H' := [fz wz wz, bx g7 [(.int .i64 0), (.slice none 0 0)], bx g6 [(.int .i64 b.Nodes), u1]]) [2, 0, 1] rfl rfl ?_
  refine li rfl (cz2 (α := List Int) (β := Bool) b_21 rfl rfl rfl rfl hz (fun w' hsb => spec_FirstRepair w' _ hsb [(.int .i64 b.Nodes), u1] b v_bad bad v_free free h_b h_bad h_free) fun cs8 cs9 wb12 hu13 hr10 hr11 => ?_)
  have hb14 := Gd.rd_sub hu13 hu2
  have hb15 := Gd.rd_sub hu13 h_bad
  have hb16 := Gd.rd_sub hu13 h_free
  have hb17 := Gd.rd_sub hu13 h_b
  obtain ⟨v18, rfl⟩ := rd_cell hr10
  have hm19 := rd_max hr10
  obtain rfl : cs9 = [(.bool (hasR b bad free))] := hr11
  refine D_re 14 (v' := (.tuple #[v18, (.bool (hasR b bad free))])) rfl rfl rfl ?_
  refine p1 rfl <| p1 rfl <| p1 rfl <| p1 rfl <| p1 rfl ?_
  refine D_end ?_
  refine x_then ?_
  refine D_H ([fz wz wb12, bx g7 [(.int .i64 0), (.slice none 0 0)], bx g6 [(.int .i64 b.Nodes), u1]]) rfl ?_
  refine C_seq ?_
  refine C_seq ?_
  refine C_reg ?_
  refine p1 rfl <| p1 rfl ?_
  refine D_end ?_
  refine x_then ?_
  refine C_if _ rfl (fun h20 => ?_) (fun h20 => ?_)
  · have h20n : (hasR b bad free) = false := not_t h20
    refine C_seq ?_
    refine C_reg ?_
    refine q1 rfl (lbw 2 a_30 rfl rfl rfl) ?_
    refine li rfl (crs rfl b_54 rfl rfl rfl rfl (fun w' hs => (spec_l11Copy w' [(.int .i64 b.Nodes), u1] b (rd_fz 0 hz hs rfl hb17) hb)) fun cs21 => ?_)
    refine D_pre (fun w' hs => shape_Beliefs (rd_own (k := 0) hs rfl)) ?_
    rintro ⟨v22, rfl, ho23⟩
    refine li rfl (D_stb (vs := [(.int .i64 b.Nodes), v22]) (cs' := [(.int .i64 b.Nodes), v22]) 2 z_30 rfl rfl rfl rfl rfl rfl (ocons rfl (ocons ho23 onil)) (by simp) rfl ?_)
    refine p1 rfl ?_
    refine D_end ?_
    refine x_then ?_
    refine D_weak [(6, (.pointer (some ⟨g7, 0, none⟩))), (7, (.bool false))] ⟨rfl, rfl, trivial⟩ ?_
    refine D_sel (H' := [ov [(.int .i64 b.Nodes), v22] (b : Beliefs), fz wz wb12, bx g7 [(.int .i64 b.Nodes), v22]]) [true, true, true, false] rfl ?_
    refine C_ret ?_
    refine x_then_ret ?_
    refine D_frz hz fun wb24 hu25 hr26 => ?_
    obtain ⟨zhu27_, e_, hu27⟩ := open_Beliefs hr26
    cases e_
    have hf28 : Gd.rd wb24 [(.int .i64 b.Nodes), v22] (repB b bad free : Beliefs) := (show (b : Beliefs) = repB b bad free from by first | exact repB_f h20n | exact h20n.symm) ▸ hr26
    have hf29 : Gd.rd wb24 [(.bool false)] (hasR b bad free : Bool) := congrArg (fun z => [Value.bool z]) (show (false : Bool) = hasR b bad free from by first | exact repB_f h20n | exact h20n.symm)
    exact R_2g rfl (rvc (cs := [(.int .i64 b.Nodes), v22]) 1 a_30 rfl rfl) (rvt rfl) fun w' hs => ⟨[(.int .i64 b.Nodes), v22], [(.bool false)], wb24, rfl, zok_of (k := 0) hs rfl (hu13.trans hu25), hf28, hf29⟩
  · have h20n : (hasR b bad free) = true := not_f h20
    refine C_skip ?_
    refine x_then ?_
    refine C_seq ?_
    refine C_reg ?_
    refine q1 rfl (lbw 2 a_30 rfl rfl rfl) ?_
    refine p1 rfl ?_
    refine li rfl (crs rfl b_45 rfl rfl rfl rfl (fun w' hs => (spec_l11Without w' [(.int .i64 b.Nodes), u1] b v18 (fstR b bad free) (rd_fz 0 hz hs rfl hb17) (rd_fz 0 hz hs rfl hr10) hb)) fun cs30 => ?_)
    refine D_pre (fun w' hs => shape_Beliefs (rd_own (k := 0) hs rfl)) ?_
    rintro ⟨v31, rfl, ho32⟩
    refine li rfl (D_stb (vs := [(.int .i64 ((dropR b (fstR b bad free)).Nodes)), v31]) (cs' := [(.int .i64 ((dropR b (fstR b bad free)).Nodes)), v31]) 2 z_30 rfl rfl rfl rfl rfl rfl (ocons rfl (ocons ho32 onil)) (by simp) rfl ?_)
    refine p1 rfl ?_
    refine D_end ?_
    refine x_then ?_
    refine D_weak [(6, (.pointer (some ⟨g7, 0, none⟩))), (7, (.bool true))] ⟨rfl, rfl, trivial⟩ ?_
    refine D_sel (H' := [ov [(.int .i64 ((dropR b (fstR b bad free)).Nodes)), v31] (dropR b (fstR b bad free) : Beliefs), fz wz wb12, bx g7 [(.int .i64 ((dropR b (fstR b bad free)).Nodes)), v31]]) [true, true, true, false] rfl ?_
    refine C_ret ?_
    refine D_frz hz fun wb33 hu34 hr35 => ?_
    obtain ⟨zhu36_, e_, hu36⟩ := open_Beliefs hr35
    cases e_
    have hf37 : Gd.rd wb33 [(.int .i64 ((dropR b (fstR b bad free)).Nodes)), v31] (repB b bad free : Beliefs) := (show (dropR b (fstR b bad free) : Beliefs) = repB b bad free from by first | exact repB_t (not_f h20) | exact (not_f h20).symm) ▸ hr35
    have hf38 : Gd.rd wb33 [(.bool true)] (hasR b bad free : Bool) := congrArg (fun z => [Value.bool z]) (show (true : Bool) = hasR b bad free from by first | exact repB_t (not_f h20) | exact (not_f h20).symm)
    exact R_2g rfl (rvc (cs := [(.int .i64 ((dropR b (fstR b bad free)).Nodes)), v31]) 1 a_30 rfl rfl) (rvt rfl) fun w' hs => ⟨[(.int .i64 ((dropR b (fstR b bad free)).Nodes)), v31], [(.bool true)], wb33, rfl, zok_of (k := 0) hs rfl (hu13.trans hu34), hf37, hf38⟩

theorem impl_BlamedOf (w : World) (c_b : List Value) (b : Beliefs) (v_bad : Value) (bad : (List Int)) (v_free : Value) (free : (List Int)) (h_b : Gd.rd w c_b b) (h_bad : Gd.rd w [v_bad] bad) (h_free : Gd.rd w [v_free] free) (hfl : free.length ≤ 1048576) : Calls Try.prog 24 [(.agg c_b.toArray), v_bad, v_free].toArray w (Res w (blamedR b bad free : List Int)) := by
  obtain ⟨u1, rfl, hu2⟩ := open_Beliefs h_b
  have hm3 := rd_max hu2
  have hm4 := rd_max h_bad
  have hm5 := rd_max h_free
  have hrl := leastR_len b bad free
  refine enter 39 Try.func24 rfl rfl rfl ?_
  refine C_seq ?_
  refine C_reg ?_
  refine li rfl (D_box rfl rfl rfl rfl rfl fun g6 => ?_)
  refine p1 rfl ?_
  refine D_end ?_
  refine x_then ?_
  refine D_H ([bx g6 [(.int .i64 b.Nodes), u1]]) rfl ?_
  refine C_seq ?_
  refine C_reg ?_
  refine q1 rfl (lbw 0 a_30 rfl rfl rfl) ?_
  refine p1 rfl <| p1 rfl ?_
  refine li rfl (crl b_26 rfl rfl rfl rfl (fun w' hs => (impl_LeastRepairs w' [(.int .i64 b.Nodes), u1] b v_bad bad v_free free (rd_at hs h_b) (rd_at hs h_bad) (rd_at hs h_free))) fun v7 => ?_)
  refine p1 rfl ?_
  refine D_end ?_
  refine x_then ?_
  refine D_H ([ov [v7] (leastR b bad free : (List (List Int))), bx g6 [(.int .i64 b.Nodes), u1]]) rfl ?_
  refine C_seq ?_
  refine C_reg ?_
  refine p1 rfl ?_
  refine D_end ?_
  refine x_then ?_
  refine C_seq ?_
  refine C_seq ?_
  refine C_reg ?_
  refine p1 rfl ?_
  refine q1 rfl (D_len s_25 rfl rfl (rd_sl h_free)) ?_
  refine p1 rfl ?_
  refine D_end ?_
  refine x_then ?_
  refine C_block ?_
  refine C_loop (fun m_ ac w' => ∃ (k : Nat), ∃ (v : Value), (k ≤ free.length) ∧ m_ = free.length - k ∧ Fits ac 39 [(7, v7), (8, v), (17, v_free), (18, (.int .i64 ((free.length : Nat) : Int))), (19, (.int .i64 ((k : Nat) : Int)))] ∧ St w ([ov [v] (filtT (blm b bad free) free k : (List Int)), ov [v7] (leastR b bad free : (List (List Int))), bx g6 [(.int .i64 b.Nodes), u1]]) w') ?_ ?_
  · refine D_nil (α := Int) ?_
    refine D_eq 0 rfl (show ([] : (List Int)) = filtT (blm b bad free) free 0 from by rfl) ?_
    refine fun ac w' hf hs => ⟨_, 0, (.slice none 0 0), ?_, rfl, hf.weak ⟨rfl, rfl, rfl, rfl, rfl, trivial⟩, hs⟩
    · first | assumption | omega | simp
  · rintro m_ ac w' ⟨k, v, hk, rfl, hf, hs⟩
    refine D.use ?_ hf hs
    clear hf hs ac w'
    have hcl := filtT_len (blm b bad free) free k
    refine C_seq ?_
    refine C_reg ?_
    refine p1 rfl ?_
    refine D_end ?_
    refine x_then ?_
    refine D_H ([ov [v] (filtT (blm b bad free) free k : (List Int)), ov [v7] (leastR b bad free : (List (List Int))), bx g6 [(.int .i64 b.Nodes), u1]]) rfl ?_
    refine C_seq ?_
    refine C_if _ rfl (fun h8 => ?_) (fun h8 => ?_)
    · have pr8 : (((k : Nat) : Int) : Int) < ((free.length : Nat) : Int) := of_decide_eq_true h8
      refine C_skip ?_
      refine x_then ?_
      refine C_seq ?_
      refine C_block ?_
      refine C_seq ?_
      refine C_reg ?_
      obtain ⟨f0, hf0⟩ := some_of_lt (l := free) (i := k) (by omega)
      obtain ⟨es9, at10, hr11⟩ := rd_elem (n := 1) rfl h_free hf0
      obtain rfl : es9 = [.int .i64 f0] := hr11
      refine q1 rfl (D_ix (l := free) (j := k) s_25 rfl rfl rfl (fun w' hs => (rd_at hs h_free)) rfl (lt_of_some hf0)) ?_
      refine q1 rfl (lr0 o_3 rfl rfl at10 rfl) ?_
      refine p1 rfl ?_
      refine D_end ?_
      refine x_then ?_
      refine C_seq ?_
      refine C_reg ?_
      refine p1 rfl ?_
      refine q1 rfl (D_leno 1 s_44 rfl rfl rfl) ?_
      refine p1 rfl ?_
      refine D_end ?_
      refine x_then ?_
      refine C_block ?_
      refine C_loop (fun m_ ac w' => ∃ (q : Nat), ∃ (v2 : Value), (q ≤ (leastR b bad free).length) ∧ (∀ i, i < q → ∀ y, (leastR b bad free)[i]? = some y → y.contains f0 = false) ∧ m_ = (leastR b bad free).length - q ∧ Fits ac 39 [(7, v7), (8, v2), (10, (.int .i64 f0)), (17, v_free), (18, (.int .i64 ((free.length : Nat) : Int))), (19, (.int .i64 ((k : Nat) : Int))), (23, v7), (24, (.int .i64 (((leastR b bad free).length : Nat) : Int))), (25, (.int .i64 ((q : Nat) : Int)))] ∧ St w ([ov [v2] (filtT (blm b bad free) free k : (List Int)), ov [v7] (leastR b bad free : (List (List Int))), bx g6 [(.int .i64 b.Nodes), u1]]) w') ?_ ?_
      · refine fun ac w' hf hs => ⟨_, 0, v, ?_, ?_, rfl, hf.weak ⟨rfl, rfl, rfl, rfl, rfl, rfl, rfl, rfl, rfl, trivial⟩, hs⟩
        · first | assumption | omega | simp
        · intro i hi; omega
      · rintro m_ ac w' ⟨q, v2, hq, hi, rfl, hf, hs⟩
        refine D.use ?_ hf hs
        clear hf hs ac w'
        refine C_seq ?_
        refine C_reg ?_
        refine p1 rfl ?_
        refine D_end ?_
        refine x_then ?_
        refine D_H ([ov [v2] (filtT (blm b bad free) free k : (List Int)), ov [v7] (leastR b bad free : (List (List Int))), bx g6 [(.int .i64 b.Nodes), u1]]) rfl ?_
        refine C_seq ?_
        refine C_if _ rfl (fun h12 => ?_) (fun h12 => ?_)
        · have pr12 : (((q : Nat) : Int) : Int) < (((leastR b bad free).length : Nat) : Int) := of_decide_eq_true h12
          refine C_skip ?_
          refine x_then ?_
          refine C_seq ?_
          refine C_block ?_
          refine C_seq ?_
          refine C_reg ?_
          refine D_pk (H' := [ov [v7] (leastR b bad free : (List (List Int))), ov [v2] (filtT (blm b bad free) free k : (List Int)), bx g6 [(.int .i64 b.Nodes), u1]]) [1, 0, 2] rfl rfl ?_
          refine D_mopen fun hd13 hl14 => ?_
          obtain ⟨r15, hh16⟩ := some_of_lt (l := hd13) (i := q) (by omega)
          obtain ⟨y0, hy0⟩ := some_of_lt (l := (leastR b bad free)) (i := q) (by omega)
          refine q1 rfl (D_ix (l := (leastR b bad free)) (j := q) s_44 rfl rfl rfl (fun w' hs => (mx_rd (k := 0) hs rfl)) rfl (lt_of_some hy0)) ?_
          refine q1 rfl (lmx 0 o_25 rfl rfl rfl hh16) ?_
          refine p1 rfl ?_
          refine D_end ?_
          refine x_then ?_
          refine C_seq ?_
          refine C_reg ?_
          refine p1 rfl <| p1 rfl ?_
          refine li rfl (cv b_38 rfl rfl rfl rfl (fun w' hs => (impl_hasInt w' r15 y0 f0 (mx_row (k := 0) hs rfl hh16 hy0))) ?_)
          refine D_end ?_
          refine x_then ?_
          refine C_if _ rfl (fun h17 => ?_) (fun h17 => ?_)
          · refine C_seq ?_
            refine C_reg ?_
            refine p1 rfl <| p1 rfl ?_
            refine li rfl (D_bs s_25 y_3 rfl (by decide) (by decide) rfl rfl rfl rfl rfl rfl fun g18 => ?_)
            refine D_fi f0 ?_
            refine D_pk [3, 0, 1, 2, 4] rfl rfl ?_
            refine li rfl (D_ap s_25 y_3 rfl (by decide) rfl rfl rfl rfl rfl rfl (by first | omega | (simp; omega)) (by first | omega | (simp; omega)) fun v19 => ?_)
            refine p1 rfl ?_
            refine D_end ?_
            refine x_then ?_
            refine D_weak [(7, v7), (8, v19), (17, v_free), (18, (.int .i64 ((free.length : Nat) : Int))), (19, (.int .i64 ((k : Nat) : Int)))] ⟨rfl, rfl, rfl, rfl, rfl, trivial⟩ ?_
            refine C_exit ?_
            refine x_blk_ne rfl ?_
            refine x_then_exit ?_
            refine x_then_exit ?_
            refine x_blk_eq ?_
            refine x_blk ?_
            refine x_then ?_
            refine C_reg ?_
            refine q1 rfl (D_add rfl rfl rfl (r := ((k + 1 : Nat) : Int)) (by omega) (by omega)) ?_
            refine p1 rfl ?_
            refine D_end ?_
            refine x_then ?_
            refine D_pk [1, 0, 2] rfl rfl ?_
            refine D_mclose ?_
            refine D_eq 1 rfl (show ((filtT (blm b bad free) free k) ++ [f0] : (List Int)) = filtT (blm b bad free) free (k + 1) from by first | exact filtT_t hf0 (blm_t hy0 (by assumption)) | exact filtT_f hf0 (blm_f (fun i h => hi i (by omega)))) ?_
            refine fun ac w' hf hs => ⟨_, ?_, k + 1, v19, ?_, rfl, hf.weak ⟨rfl, rfl, rfl, rfl, rfl, trivial⟩, hs.pk [1, 0, 2] rfl rfl⟩
            · omega
            · first | assumption | omega | simp
          · refine C_skip ?_
            refine x_blk ?_
            refine x_then ?_
            refine C_reg ?_
            refine q1 rfl (D_add rfl rfl rfl (r := ((q + 1 : Nat) : Int)) (by omega) (by omega)) ?_
            refine p1 rfl ?_
            refine D_end ?_
            refine x_then ?_
            refine D_mclose ?_
            refine fun ac w' hf hs => ⟨_, ?_, q + 1, v2, ?_, ?_, rfl, hf.weak ⟨rfl, rfl, rfl, rfl, rfl, rfl, rfl, rfl, rfl, trivial⟩, hs.pk [1, 0, 2] rfl rfl⟩
            · omega
            · first | assumption | omega | simp
            · exact blm_step hi hy0 (by assumption)
        · have pr12 : ¬ (((q : Nat) : Int) : Int) < (((leastR b bad free).length : Nat) : Int) := of_decide_eq_false h12
          refine C_exit ?_
          refine x_then_exit ?_
          refine x_then_exit ?_
          refine x_blk_eq ?_
          refine x_blk ?_
          refine x_then ?_
          refine C_reg ?_
          refine q1 rfl (D_add rfl rfl rfl (r := ((k + 1 : Nat) : Int)) (by omega) (by omega)) ?_
          refine p1 rfl ?_
          refine D_end ?_
          refine x_then ?_
          refine D_eq 0 rfl (show (filtT (blm b bad free) free k : (List Int)) = filtT (blm b bad free) free (k + 1) from by first | exact filtT_t hf0 (blm_t hy0 (by assumption)) | exact filtT_f hf0 (blm_f (fun i h => hi i (by omega)))) ?_
          refine fun ac w' hf hs => ⟨_, ?_, k + 1, v2, ?_, rfl, hf.weak ⟨rfl, rfl, rfl, rfl, rfl, trivial⟩, hs⟩
          · omega
          · first | assumption | omega | simp
    · have pr8 : ¬ (((k : Nat) : Int) : Int) < ((free.length : Nat) : Int) := of_decide_eq_false h8
      refine C_exit ?_
      refine x_then_exit ?_
      refine x_then_exit ?_
      refine x_blk_eq ?_
      refine x_then ?_
      refine C_seq ?_
      refine C_reg ?_
      refine p1 rfl <| p1 rfl ?_
      refine D_end ?_
      refine x_then ?_
      refine C_ret ?_
      refine R_1 rfl rfl fun w' hs => res_of (k := 0) hs rfl ?_
      show filtT (blm b bad free) free k = blamedR b bad free
      exact filtT_done (by omega)

theorem spec_BlamedOf (w wz : World) (hz : Sbw wz w) (c_b : List Value) (b : Beliefs) (v_bad : Value) (bad : (List Int)) (v_free : Value) (free : (List Int)) (h_b : Gd.rd wz c_b b) (h_bad : Gd.rd wz [v_bad] bad) (h_free : Gd.rd wz [v_free] free) (hfl : free.length ≤ 1048576) : Calls Try.prog 23 [(.agg c_b.toArray), v_bad, v_free].toArray w (RdZ wz w (blamedR b bad free : List Int)) := by
  obtain ⟨u1, rfl, hu2⟩ := open_Beliefs h_b
  have hm3 := rd_max hu2
  have hm4 := rd_max h_bad
  have hm5 := rd_max h_free
  have hrl := leastR_len b bad free
  refine enterS 45 Try.func23 rfl rfl rfl (fz_start w wz) ?_
  refine C_seq ?_
  refine C_reg ?_
  refine li rfl (D_box rfl rfl rfl rfl rfl fun g6 => ?_)
  refine p1 rfl ?_
  refine D_end ?_
  refine x_then ?_
  refine D_H ([bx g6 [(.int .i64 b.Nodes), u1], fz wz wz]) rfl ?_
  refine C_seq ?_
  refine C_reg ?_
  refine li rfl (D_bs0 (α := Int) s_25 rfl rfl rfl fun v7 => ?_)
  refine p1 rfl ?_
  refine D_end ?_
  refine x_then ?_
  refine D_H ([ov [v7] ([] : (List Int)), bx g6 [(.int .i64 b.Nodes), u1], fz wz wz]) rfl ?_
  refine C_seq ?_
  refine C_reg ?_
  refine q1 rfl (lbw 1 a_30 rfl rfl rfl) ?_
  refine p1 rfl <| p1 rfl ?_
  refine D_pk (H' := [fz wz wz, ov [v7] ([] : (List Int)), bx g6 [(.int .i64 b.Nodes), u1]]) [2, 0, 1] rfl rfl ?_
  refine li rfl (cz (α := List (List Int)) b_25 rfl rfl rfl rfl hz (fun w' hsb => spec_LeastRepairs w' _ hsb [(.int .i64 b.Nodes), u1] b v_bad bad v_free free h_b h_bad h_free) fun cs8 wb10 hu11 hr9 => ?_)
  have hb12 := Gd.rd_sub hu11 hu2
  have hb13 := Gd.rd_sub hu11 h_bad
  have hb14 := Gd.rd_sub hu11 h_free
  have hb15 := Gd.rd_sub hu11 h_b
  obtain ⟨v16, rfl⟩ := rd_cell hr9
  have hm17 := rd_max hr9
  refine D_re 15 (v' := v16) rfl rfl rfl ?_
  refine p1 rfl ?_
  refine D_end ?_
  refine x_then ?_
  refine D_H ([fz wz wb10, ov [v7] ([] : (List Int)), bx g6 [(.int .i64 b.Nodes), u1]]) rfl ?_
  refine C_seq ?_
  refine C_seq ?_
  refine C_reg ?_
  refine p1 rfl ?_
  refine D_end ?_
  refine x_then ?_
  refine C_block ?_
  refine C_loop (fun m_ ac w' => ∃ (wb18 : World), ∃ (k : Nat), ∃ (v : Value), (Sbw wb10 wb18) ∧ (k ≤ free.length) ∧ m_ = free.length - k ∧ Fits ac 45 [(2, v_free), (7, v), (8, v16), (9, (.int .i64 ((k : Nat) : Int)))] ∧ St w ([fz wz wb18, ov [v] (filtT (blm b bad free) free k : (List Int)), bx g6 [(.int .i64 b.Nodes), u1]]) w') ?_ ?_
  · refine D_eq 1 rfl (show ([] : (List Int)) = filtT (blm b bad free) free 0 from by rfl) ?_
    refine fun ac w' hf hs => ⟨_, wb10, 0, v7, (Sbw.refl _), ?_, rfl, hf.weak ⟨rfl, rfl, rfl, rfl, trivial⟩, hs⟩
    · first | assumption | omega | simp
  · rintro m_ ac w' ⟨wb18, k, v, hu19, hk, rfl, hf, hs⟩
    refine D.use ?_ hf hs
    clear hf hs ac w'
    have hb20 := Gd.rd_sub hu19 hb12
    have hb21 := Gd.rd_sub hu19 hb14
    have hb22 := Gd.rd_sub hu19 hr9
    have hb23 := Gd.rd_sub hu19 hb15
    have hcl := filtT_len (blm b bad free) free k
    refine C_seq ?_
    refine C_seq ?_
    refine C_reg ?_
    refine p1 rfl <| p1 rfl ?_
    refine q1 rfl (D_len s_25 rfl rfl (rd_sl hb21)) ?_
    refine p1 rfl ?_
    refine D_end ?_
    refine x_then ?_
    refine D_H ([fz wz wb18, ov [v] (filtT (blm b bad free) free k : (List Int)), bx g6 [(.int .i64 b.Nodes), u1]]) rfl ?_
    refine C_if _ rfl (fun h24 => ?_) (fun h24 => ?_)
    · have pr24 : (((k : Nat) : Int) : Int) < ((free.length : Nat) : Int) := of_decide_eq_true h24
      refine C_skip ?_
      refine x_then ?_
      refine C_seq ?_
      refine C_block ?_
      refine C_seq ?_
      obtain ⟨f0, hf0⟩ := some_of_lt (l := free) (i := k) (by omega)
      obtain ⟨es25, at26, hr27⟩ := rd_elem (n := 1) rfl hb21 hf0
      obtain rfl : es25 = [.int .i64 f0] := hr27
      refine C_reg ?_
      refine p1 rfl ?_
      refine D_end ?_
      refine x_then ?_
      refine C_block ?_
      refine C_loop (fun m_ ac w' => ∃ (wb28 : World), ∃ (q : Nat), ∃ (v2 : Value), (Sbw wb18 wb28) ∧ (q ≤ (leastR b bad free).length) ∧ (∀ i, i < q → ∀ y, (leastR b bad free)[i]? = some y → y.contains f0 = false) ∧ m_ = (leastR b bad free).length - q ∧ Fits ac 45 [(2, v_free), (7, v2), (8, v16), (9, (.int .i64 ((k : Nat) : Int))), (10, (.int .i64 ((q : Nat) : Int)))] ∧ St w ([fz wz wb28, ov [v2] (filtT (blm b bad free) free k : (List Int)), bx g6 [(.int .i64 b.Nodes), u1]]) w') ?_ ?_
      · refine fun ac w' hf hs => ⟨_, wb18, 0, v, (Sbw.refl _), ?_, ?_, rfl, hf.weak ⟨rfl, rfl, rfl, rfl, rfl, trivial⟩, hs⟩
        · first | assumption | omega | simp
        · intro i hi; omega
      · rintro m_ ac w' ⟨wb28, q, v2, hu29, hq, hi, rfl, hf, hs⟩
        refine D.use ?_ hf hs
        clear hf hs ac w'
        have hb30 := Gd.rd_sub hu29 hb20
        have hb31 := Gd.rd_sub hu29 hb21
        have hb32 := Gd.rd_sub hu29 hb22
        have hb33 := Gd.rd_sub hu29 hb23
        have at34 := AtE.sub at26 hu29
        refine C_seq ?_
        refine C_seq ?_
        refine C_reg ?_
        refine p1 rfl <| p1 rfl ?_
        refine q1 rfl (D_len s_44 rfl rfl (rd_sl hb32)) ?_
        refine p1 rfl ?_
        refine D_end ?_
        refine x_then ?_
        refine D_H ([fz wz wb28, ov [v2] (filtT (blm b bad free) free k : (List Int)), bx g6 [(.int .i64 b.Nodes), u1]]) rfl ?_
        refine C_if _ rfl (fun h35 => ?_) (fun h35 => ?_)
        · have pr35 : (((q : Nat) : Int) : Int) < (((leastR b bad free).length : Nat) : Int) := of_decide_eq_true h35
          refine C_skip ?_
          refine x_then ?_
          refine C_seq ?_
          refine C_block ?_
          refine C_seq ?_
          refine C_draw mixed [8] (by kernel_rfl) ?_
          refine tk 0 rfl (by kernel_rfl) (by kernel_rfl) (by kernel_rfl) rfl (fun _ hs => hs) (rp rfl) ?_
          refine tk 1 rfl (by kernel_rfl) (by kernel_rfl) (by kernel_rfl) rfl (fun _ hs => hs) (rp rfl) ?_
          obtain ⟨y0, hy0⟩ := some_of_lt (l := (leastR b bad free)) (i := q) (by omega)
          obtain ⟨es36, at37, hr38⟩ := rd_elem (n := 1) rfl hb32 hy0
          obtain ⟨u39, rfl⟩ := rd_cell hr38
          refine tk 2 rfl (by kernel_rfl) (by kernel_rfl) (by kernel_rfl) rfl (fun _ hs => hs) (D_ix (l := (leastR b bad free)) (j := q) s_44 rfl rfl rfl (fun w' hs => (rd_fz 0 hz hs rfl hb32)) rfl (lt_of_some hy0)) ?_
          refine tk 3 rfl (by kernel_rfl) (by kernel_rfl) (by kernel_rfl) rfl (fun _ hs => hs) (lrz0 0 hz rfl o_25 rfl rfl at37 rfl) ?_
          refine tk 4 rfl (by kernel_rfl) (by kernel_rfl) (by kernel_rfl) rfl (fun _ hs => hs) (rp rfl) ?_
          refine tk 5 rfl (by kernel_rfl) (by kernel_rfl) (by kernel_rfl) rfl (fun _ hs => hs) (rp rfl) ?_
          refine tk 6 rfl (by kernel_rfl) (by kernel_rfl) (by kernel_rfl) rfl (fun _ hs => hs) (D_ix (l := free) (j := k) s_25 rfl rfl rfl (fun w' hs => (rd_fz 0 hz hs rfl hb31)) rfl (lt_of_some hf0)) ?_
          refine tk 7 rfl (by kernel_rfl) (by kernel_rfl) (by kernel_rfl) rfl (fun _ hs => hs) (lrz0 0 hz rfl o_3 rfl rfl at34 rfl) ?_
          refine ty 8 rfl (by kernel_rfl) rfl (cv b_35 rfl rfl rfl rfl (fun w' hs => (spec_l1Has w' u39 y0 f0 (rd_fz 0 hz hs rfl hr38))) ?_)
          refine tZ rfl ?_
          refine tE (by kernel_rfl) ?_
          refine x_then ?_
          refine C_if _ rfl (fun h40 => ?_) (fun h40 => ?_)
          · refine C_seq ?_
            refine C_reg ?_
            refine p1 rfl <| p1 rfl <| p1 rfl ?_
            refine q1 rfl (D_ix (l := free) (j := k) s_25 rfl rfl rfl (fun w' hs => (rd_fz 0 hz hs rfl hb31)) rfl (lt_of_some hf0)) ?_
            refine q1 rfl (lrz0 0 hz rfl o_3 rfl rfl at34 rfl) ?_
            refine li rfl (D_bs s_25 y_3 rfl (by decide) (by decide) rfl rfl rfl rfl rfl rfl fun g41 => ?_)
            refine D_fi f0 ?_
            refine D_pk (H' := [ov [v2] (filtT (blm b bad free) free k : (List Int)), ov [(.int .i64 f0)] (f0 : Int), bx g41 [(.int .i64 f0)], fz wz wb28, bx g6 [(.int .i64 b.Nodes), u1]]) [3, 0, 1, 2, 4] rfl rfl ?_
            refine li rfl (D_ap s_25 y_3 rfl (by decide) rfl rfl rfl rfl rfl rfl (by first | omega | (simp; omega)) (by first | omega | (simp; omega)) fun v42 => ?_)
            refine p1 rfl ?_
            refine D_end ?_
            refine x_then ?_
            refine D_weak [(2, v_free), (7, v42), (8, v16), (9, (.int .i64 ((k : Nat) : Int)))] ⟨rfl, rfl, rfl, rfl, trivial⟩ ?_
            refine D_H ([ov [v42] ((filtT (blm b bad free) free k) ++ [f0] : (List Int)), fz wz wb28, bx g6 [(.int .i64 b.Nodes), u1]]) rfl ?_
            refine C_exit ?_
            refine x_blk_ne rfl ?_
            refine x_then_exit ?_
            refine x_then_exit ?_
            refine x_blk_eq ?_
            refine x_blk ?_
            refine x_then ?_
            refine C_reg ?_
            refine p1 rfl ?_
            refine q1 rfl (D_add rfl rfl rfl (r := ((k + 1 : Nat) : Int)) (by omega) (by omega)) ?_
            refine p1 rfl ?_
            refine D_end ?_
            refine x_then ?_
            refine D_eq 0 rfl (show ((filtT (blm b bad free) free k) ++ [f0] : (List Int)) = filtT (blm b bad free) free (k + 1) from by first | exact filtT_t hf0 (blm_t hy0 (by assumption)) | exact filtT_f hf0 (blm_f (fun i h => hi i (by omega)))) ?_
            refine fun ac w' hf hs => ⟨_, ?_, wb28, k + 1, v42, (hu19.trans hu29), ?_, rfl, hf.weak ⟨rfl, rfl, rfl, rfl, trivial⟩, hs.pk [1, 0, 2] rfl rfl⟩
            · omega
            · first | assumption | omega | simp
          · refine C_skip ?_
            refine x_blk ?_
            refine x_then ?_
            refine C_reg ?_
            refine p1 rfl ?_
            refine q1 rfl (D_add rfl rfl rfl (r := ((q + 1 : Nat) : Int)) (by omega) (by omega)) ?_
            refine p1 rfl ?_
            refine D_end ?_
            refine x_then ?_
            refine fun ac w' hf hs => ⟨_, ?_, wb28, q + 1, v2, hu29, ?_, ?_, rfl, hf.weak ⟨rfl, rfl, rfl, rfl, rfl, trivial⟩, hs⟩
            · omega
            · first | assumption | omega | simp
            · exact blm_step hi hy0 (by assumption)
        · have pr35 : ¬ (((q : Nat) : Int) : Int) < (((leastR b bad free).length : Nat) : Int) := of_decide_eq_false h35
          refine C_exit ?_
          refine x_then_exit ?_
          refine x_then_exit ?_
          refine x_blk_eq ?_
          refine x_blk ?_
          refine x_then ?_
          refine C_reg ?_
          refine p1 rfl ?_
          refine q1 rfl (D_add rfl rfl rfl (r := ((k + 1 : Nat) : Int)) (by omega) (by omega)) ?_
          refine p1 rfl ?_
          refine D_end ?_
          refine x_then ?_
          refine D_eq 1 rfl (show (filtT (blm b bad free) free k : (List Int)) = filtT (blm b bad free) free (k + 1) from by first | exact filtT_t hf0 (blm_t hy0 (by assumption)) | exact filtT_f hf0 (blm_f (fun i h => hi i (by omega)))) ?_
          refine fun ac w' hf hs => ⟨_, ?_, wb28, k + 1, v2, (hu19.trans hu29), ?_, rfl, hf.weak ⟨rfl, rfl, rfl, rfl, trivial⟩, hs⟩
          · omega
          · first | assumption | omega | simp
    · have pr24 : ¬ (((k : Nat) : Int) : Int) < ((free.length : Nat) : Int) := of_decide_eq_false h24
      refine C_exit ?_
      refine x_then_exit ?_
      refine x_then_exit ?_
      refine x_blk_eq ?_
      refine x_then ?_
      refine C_seq ?_
      refine C_reg ?_
      refine p1 rfl <| p1 rfl ?_
      refine D_end ?_
      refine x_then ?_
      refine C_ret ?_
      refine D_pk (H' := [ov [v] (filtT (blm b bad free) free k : (List Int)), fz wz wb18, bx g6 [(.int .i64 b.Nodes), u1]]) [1, 0, 2] rfl rfl ?_
      refine D_frz hz fun wb43 hu44 hr45 => ?_
      have hb46 := Gd.rd_sub hu44 hb20
      have hb47 := Gd.rd_sub hu44 hb21
      have hb48 := Gd.rd_sub hu44 hb22
      have hb49 := Gd.rd_sub hu44 hb23
      have hm50 := rd_max hr45
      have hf51 : Gd.rd wb43 [v] (blamedR b bad free : List Int) := (show (filtT (blm b bad free) free k : List Int) = blamedR b bad free from by exact filtT_done (by omega)) ▸ hr45
      exact R_1 rfl rfl fun w' hs => ⟨[v], wb43, rfl, zok_of (k := 0) hs rfl ((hu11.trans hu19).trans hu44), hf51⟩

set_option maxHeartbeats 4000000 in
theorem laws_FnExactRepairBeliefs (w : World) (c_aB : List Value) (aB : Beliefs) (v_aBad : Value) (aBad : (List Int)) (v_aFree : Value) (aFree : (List Int)) (h_aB : Gd.rd w c_aB aB) (h_aBad : Gd.rd w [v_aBad] aBad) (h_aFree : Gd.rd w [v_aFree] aFree) : Calls Try.prog 8 [(.agg c_aB.toArray), v_aBad, v_aFree].toArray w (Val w (.bool (true))) := by
  obtain ⟨u1, rfl, hu2⟩ := open_Beliefs h_aB
  have hm3 := rd_max hu2
  have hm4 := rd_max h_aBad
  have hm5 := rd_max h_aFree
  have hz1 := szB_len aB
  have hz6 := szB_sum aB
  have hz2 := leastR_sum aB aBad aFree
  have hz3 := blamed_len aB aBad aFree
  have hz4 := fst_len aB aBad aFree
  have hz5 := repB_sum aB aBad aFree
  refine enterS 138 Try.func8 rfl rfl rfl (fz_start w w) ?_
  refine C_seq ?_
  refine C_reg ?_
  refine li rfl (D_box rfl rfl rfl rfl rfl fun g6 => ?_)
  refine p1 rfl ?_
  refine D_end ?_
  refine x_then ?_
  refine D_H ([bx g6 [(.int .i64 aB.Nodes), u1], fz w w]) rfl ?_
  refine C_seq ?_
  refine C_seq ?_
  refine C_reg ?_
  refine p1 rfl ?_
  refine q1 rfl (D_len s_25 rfl rfl (rd_sl h_aBad)) ?_
  refine p1 rfl ?_
  refine D_end ?_
  refine x_then ?_
  refine C_if _ rfl (fun h7 => ?_) (fun h7 => ?_)
  · have pr7 : (1048576 : Int) < ((aBad.length : Nat) : Int) := of_decide_eq_true h7
    refine C_seq ?_
    refine C_reg ?_
    refine p1 rfl ?_
    refine D_end ?_
    refine x_then ?_
    refine C_ret ?_
    refine x_then_ret ?_
    refine R_1 rfl rfl fun w' hs => ⟨congrArg (fun z => Ending.returned (Value.bool z)) ?_, hs.bel⟩
    show (true : Bool) = true
    first | rfl | (exfalso; omega) | (exfalso; simp only [mapS_len, sumB_mk, sumR_mk, sumII_mk] at *; omega) | exact absurd h7 (by simp [mapS_len])
  · have pr7 : ¬ (1048576 : Int) < ((aBad.length : Nat) : Int) := of_decide_eq_false h7
    refine C_skip ?_
    refine x_then ?_
    refine C_seq ?_
    refine C_seq ?_
    refine C_reg ?_
    refine p1 rfl ?_
    refine q1 rfl (D_len s_25 rfl rfl (rd_sl h_aFree)) ?_
    refine p1 rfl ?_
    refine D_end ?_
    refine x_then ?_
    refine C_if _ rfl (fun h8 => ?_) (fun h8 => ?_)
    · have pr8 : (1048576 : Int) < ((aFree.length : Nat) : Int) := of_decide_eq_true h8
      refine C_seq ?_
      refine C_reg ?_
      refine p1 rfl ?_
      refine D_end ?_
      refine x_then ?_
      refine C_ret ?_
      refine x_then_ret ?_
      refine R_1 rfl rfl fun w' hs => ⟨congrArg (fun z => Ending.returned (Value.bool z)) ?_, hs.bel⟩
      show (true : Bool) = true
      first | rfl | (exfalso; omega) | (exfalso; simp only [mapS_len, sumB_mk, sumR_mk, sumII_mk] at *; omega) | exact absurd h8 (by simp [mapS_len])
    · have pr8 : ¬ (1048576 : Int) < ((aFree.length : Nat) : Int) := of_decide_eq_false h8
      refine C_skip ?_
      refine x_then ?_
      refine C_seq ?_
      refine C_reg ?_
      refine p1 rfl ?_
      refine D_end ?_
      refine x_then ?_
      refine C_seq ?_
      refine C_reg ?_
      refine q1 rfl (lbw 0 a_24 rfl rfl rfl) ?_
      refine p1 rfl ?_
      refine li rfl (cv b_9 rfl rfl rfl rfl (fun w' hs => (laws_szBeliefs w' [(.int .i64 aB.Nodes), u1] aB 1048576 (rd_fz 1 (Sbw.refl _) hs rfl h_aB) (by first | assumption | omega | (unfold szm at *; split at * <;> omega)) (by first | assumption | omega | (unfold szm at *; split at * <;> omega)))) ?_)
      refine p1 rfl ?_
      refine D_end ?_
      refine x_then ?_
      refine C_seq ?_
      refine C_seq ?_
      refine C_reg ?_
      refine p1 rfl <| p1 rfl ?_
      refine D_end ?_
      refine x_then ?_
      refine C_if _ rfl (fun h9 => ?_) (fun h9 => ?_)
      · have pr9 : ((szm (szB aB) 1048576) : Int) < 0 := of_decide_eq_true h9
        refine C_seq ?_
        refine C_reg ?_
        refine p1 rfl ?_
        refine D_end ?_
        refine x_then ?_
        refine D_weak [(6, (.bool true))] ⟨rfl, trivial⟩ ?_
        refine D_sel (H' := [fz w w]) [false, true] rfl ?_
        refine C_ret ?_
        refine x_then_ret ?_
        refine R_1 rfl rfl fun w' hs => ⟨congrArg (fun z => Ending.returned (Value.bool z)) ?_, hs.bel⟩
        show (true : Bool) = true
        first | rfl | (exfalso; omega) | (exfalso; simp only [mapS_len, sumB_mk, sumR_mk, sumII_mk] at *; omega) | exact absurd h9 (by simp [mapS_len])
      · have pr9 : ¬ ((szm (szB aB) 1048576) : Int) < 0 := of_decide_eq_false h9
        have pr9z := szm_val (n := (szB aB)) (left := 1048576) pr9
        refine C_skip ?_
        refine x_then ?_
        refine C_seq ?_
        refine C_reg ?_
        refine q1 rfl (lbw 0 a_24 rfl rfl rfl) ?_
        refine li rfl (crs rfl b_11 rfl rfl rfl rfl (fun w' hs => (laws_toBeliefs w' [(.int .i64 aB.Nodes), u1] aB (rd_fz 1 (Sbw.refl _) hs rfl h_aB) (by first | assumption | omega | (unfold szm at *; split at * <;> omega)))) fun cs10 => ?_)
        refine D_pre (fun w' hs => shape_Beliefs (rd_own (k := 0) hs rfl)) ?_
        rintro ⟨v11, rfl, ho12⟩
        refine p1 rfl ?_
        refine li rfl (crl b_12 rfl rfl rfl rfl (fun w' hs => (laws_toIntS w' v_aBad aBad (rd_fz 2 (Sbw.refl _) hs rfl h_aBad) (by first | assumption | omega | (unfold szm at *; split at * <;> omega)))) fun v13 => ?_)
        refine p1 rfl ?_
        refine li rfl (crl b_12 rfl rfl rfl rfl (fun w' hs => (laws_toIntS w' v_aFree aFree (rd_fz 3 (Sbw.refl _) hs rfl h_aFree) (by first | assumption | omega | (unfold szm at *; split at * <;> omega)))) fun v14 => ?_)
        refine D_pk (H' := [ov [(.int .i64 aB.Nodes), v11] (aB : Beliefs), fz w w, ov [v14] (aFree : (List Int)), ov [v13] (aBad : (List Int)), bx g6 [(.int .i64 aB.Nodes), u1]]) [2, 4, 0, 1, 3] rfl rfl ?_
        refine D_frz (Sbw.refl _) fun wb15 hu16 hr17 => ?_
        have hb18 := Gd.rd_sub hu16 hu2
        have hb19 := Gd.rd_sub hu16 h_aBad
        have hb20 := Gd.rd_sub hu16 h_aFree
        have hb21 := Gd.rd_sub hu16 h_aB
        obtain ⟨zhu22_, e_, hu22⟩ := open_Beliefs hr17
        cases e_
        refine D_pk (H' := [ov [v13] (aBad : (List Int)), fz w wb15, ov [v14] (aFree : (List Int)), bx g6 [(.int .i64 aB.Nodes), u1]]) [2, 0, 1, 3] rfl rfl ?_
        refine D_frz (Sbw.refl _) fun wb23 hu24 hr25 => ?_
        have hb26 := Gd.rd_sub hu24 hb18
        have hb27 := Gd.rd_sub hu24 hb19
        have hb28 := Gd.rd_sub hu24 hb20
        have hb29 := Gd.rd_sub hu24 hu22
        have hb30 := Gd.rd_sub hu24 hb21
        have hb31 := Gd.rd_sub hu24 hr17
        have hm32 := rd_max hr25
        refine D_pk (H' := [ov [v14] (aFree : (List Int)), fz w wb23, bx g6 [(.int .i64 aB.Nodes), u1]]) [1, 0, 2] rfl rfl ?_
        refine D_frz (Sbw.refl _) fun wb33 hu34 hr35 => ?_
        have hb36 := Gd.rd_sub hu34 hb26
        have hb37 := Gd.rd_sub hu34 hb27
        have hb38 := Gd.rd_sub hu34 hb28
        have hb39 := Gd.rd_sub hu34 hb29
        have hb40 := Gd.rd_sub hu34 hr25
        have hb41 := Gd.rd_sub hu34 hb30
        have hb42 := Gd.rd_sub hu34 hb31
        have hm43 := rd_max hr35
        refine li rfl (cz2 (α := Beliefs) (β := Bool) b_30 rfl rfl rfl rfl (Sbw.refl _) (fun w' hsb => spec_RepairBeliefs w' _ hsb [(.int .i64 aB.Nodes), v11] aB v13 aBad v14 aFree hb42 hb40 hr35 (by first | assumption | omega)) fun cs44 cs45 wb48 hu49 hr46 hr47 => ?_)
        have hb50 := Gd.rd_sub hu49 hb36
        have hb51 := Gd.rd_sub hu49 hb37
        have hb52 := Gd.rd_sub hu49 hb38
        have hb53 := Gd.rd_sub hu49 hb39
        have hb54 := Gd.rd_sub hu49 hb40
        have hb55 := Gd.rd_sub hu49 hr35
        have hb56 := Gd.rd_sub hu49 hb41
        have hb57 := Gd.rd_sub hu49 hb42
        obtain ⟨u58, rfl, hu59⟩ := open_Beliefs hr46
        have hm60 := rd_max hu59
        obtain rfl : cs45 = [(.bool (hasR aB aBad aFree))] := hr47
        refine D_re 38 (v' := (.tuple #[(.agg #[(.int .i64 ((repB aB aBad aFree).Nodes)), u58]), (.bool (hasR aB aBad aFree))])) rfl rfl rfl ?_
        refine p1 rfl <| p1 rfl <| p1 rfl ?_
        refine li rfl (D_alloc y_30 rfl rfl rfl rfl fun g61 => ?_)
        refine li rfl (D_stb (vs := [(.int .i64 ((repB aB aBad aFree).Nodes)), u58]) (cs' := [(.int .i64 ((repB aB aBad aFree).Nodes)), u58]) 0 z_30 rfl rfl rfl rfl rfl rfl (ocons rfl (ocons (one_rd hu59) onil)) (by simp) rfl ?_)
        refine p1 rfl ?_
        refine D_end ?_
        refine x_then ?_
        refine D_weak [(1, v_aBad), (2, v_aFree), (3, (.pointer (some ⟨g6, 0, none⟩))), (8, (.pointer (some ⟨g61, 0, none⟩))), (9, (.bool (hasR aB aBad aFree)))] ⟨rfl, rfl, rfl, rfl, rfl, trivial⟩ ?_
        refine D_H ([bx g61 [(.int .i64 ((repB aB aBad aFree).Nodes)), u58], fz w wb48, bx g6 [(.int .i64 aB.Nodes), u1]]) rfl ?_
        refine C_seq ?_
        refine C_reg ?_
        refine q1 rfl (lbw 2 a_24 rfl rfl rfl) ?_
        refine li rfl (crs rfl b_11 rfl rfl rfl rfl (fun w' hs => (laws_toBeliefs w' [(.int .i64 aB.Nodes), u1] aB (rd_fz 1 (Sbw.refl _) hs rfl hb56) (by first | assumption | omega | (unfold szm at *; split at * <;> omega)))) fun cs62 => ?_)
        refine D_pre (fun w' hs => shape_Beliefs (rd_own (k := 0) hs rfl)) ?_
        rintro ⟨v63, rfl, ho64⟩
        refine li rfl (D_alloc y_30 rfl rfl rfl rfl fun g65 => ?_)
        refine li rfl (D_stb (vs := [(.int .i64 aB.Nodes), v63]) (cs' := [(.int .i64 aB.Nodes), v63]) 0 z_30 rfl rfl rfl rfl rfl rfl (ocons rfl (ocons ho64 onil)) (by simp) rfl ?_)
        refine D_end ?_
        refine x_then ?_
        refine D_H ([bx g65 [(.int .i64 aB.Nodes), v63], ov [(.int .i64 aB.Nodes), v63] (aB : Beliefs), bx g61 [(.int .i64 ((repB aB aBad aFree).Nodes)), u58], fz w wb48, bx g6 [(.int .i64 aB.Nodes), u1]]) rfl ?_
        refine C_seq ?_
        refine C_reg ?_
        refine p1 rfl ?_
        refine li rfl (crl b_12 rfl rfl rfl rfl (fun w' hs => (laws_toIntS w' v_aBad aBad (rd_fz 3 (Sbw.refl _) hs rfl hb51) (by first | assumption | omega | (unfold szm at *; split at * <;> omega)))) fun v66 => ?_)
        refine p1 rfl ?_
        refine D_end ?_
        refine x_then ?_
        refine D_H ([ov [v66] (aBad : (List Int)), bx g65 [(.int .i64 aB.Nodes), v63], ov [(.int .i64 aB.Nodes), v63] (aB : Beliefs), bx g61 [(.int .i64 ((repB aB aBad aFree).Nodes)), u58], fz w wb48, bx g6 [(.int .i64 aB.Nodes), u1]]) rfl ?_
        refine C_seq ?_
        refine C_reg ?_
        refine p1 rfl ?_
        refine li rfl (crl b_12 rfl rfl rfl rfl (fun w' hs => (laws_toIntS w' v_aFree aFree (rd_fz 4 (Sbw.refl _) hs rfl hb52) (by first | assumption | omega | (unfold szm at *; split at * <;> omega)))) fun v67 => ?_)
        refine p1 rfl ?_
        refine D_end ?_
        refine x_then ?_
        refine D_H ([ov [v67] (aFree : (List Int)), ov [v66] (aBad : (List Int)), bx g65 [(.int .i64 aB.Nodes), v63], ov [(.int .i64 aB.Nodes), v63] (aB : Beliefs), bx g61 [(.int .i64 ((repB aB aBad aFree).Nodes)), u58], fz w wb48, bx g6 [(.int .i64 aB.Nodes), u1]]) rfl ?_
        refine C_seq ?_
        refine C_reg ?_
        refine q1 rfl (lbw 2 a_30 rfl rfl rfl) ?_
        refine p1 rfl <| p1 rfl ?_
        refine li rfl (cr2 b_31 rfl rfl rfl rfl (fun w' hs => (impl_RepairBeliefs w' [(.int .i64 aB.Nodes), v63] aB v66 aBad v67 aFree (rd_own (k := 3) hs rfl) (rd_own (k := 1) hs rfl) (rd_own (k := 0) hs rfl) (by first | assumption | omega | (unfold szm at *; split at * <;> omega)))) fun cs68 cs69 => ?_)
        refine D_pre (fun w' hs => shape_Beliefs (rd_own (k := 0) hs rfl)) ?_
        rintro ⟨v70, rfl, ho71⟩
        refine D_pre (fun w' hs => show cs69 = [(.bool (hasR aB aBad aFree))] from rd_own (k := 1) hs rfl) ?_
        rintro rfl
        refine D_re 51 (v' := (.tuple #[(.agg #[(.int .i64 ((repB aB aBad aFree).Nodes)), v70]), (.bool (hasR aB aBad aFree))])) rfl rfl rfl ?_
        refine D_pk (H' := [ov [(.int .i64 ((repB aB aBad aFree).Nodes)), v70] (repB aB aBad aFree : Beliefs), ov [v67] (aFree : (List Int)), ov [v66] (aBad : (List Int)), bx g65 [(.int .i64 aB.Nodes), v63], ov [(.int .i64 aB.Nodes), v63] (aB : Beliefs), bx g61 [(.int .i64 ((repB aB aBad aFree).Nodes)), u58], fz w wb48, bx g6 [(.int .i64 aB.Nodes), u1]]) [0, 2, 3, 4, 5, 6, 7, 8] rfl rfl ?_
        refine p1 rfl <| p1 rfl <| p1 rfl ?_
        refine li rfl (D_alloc y_30 rfl rfl rfl rfl fun g72 => ?_)
        refine li rfl (D_stb (vs := [(.int .i64 ((repB aB aBad aFree).Nodes)), v70]) (cs' := [(.int .i64 ((repB aB aBad aFree).Nodes)), v70]) 0 z_30 rfl rfl rfl rfl rfl rfl (ocons rfl (ocons ho71 onil)) (by simp) rfl ?_)
        refine p1 rfl ?_
        refine D_end ?_
        refine x_then ?_
        refine D_H ([bx g72 [(.int .i64 ((repB aB aBad aFree).Nodes)), v70], ov [(.int .i64 ((repB aB aBad aFree).Nodes)), v70] (repB aB aBad aFree : Beliefs), ov [v67] (aFree : (List Int)), ov [v66] (aBad : (List Int)), bx g65 [(.int .i64 aB.Nodes), v63], ov [(.int .i64 aB.Nodes), v63] (aB : Beliefs), bx g61 [(.int .i64 ((repB aB aBad aFree).Nodes)), u58], fz w wb48, bx g6 [(.int .i64 aB.Nodes), u1]]) rfl ?_
        refine C_seq ?_
        refine C_seq ?_
        refine C_reg ?_
        refine q1 rfl (lbw 0 a_30 rfl rfl rfl) ?_
        refine q1 rfl (lbw 6 a_30 rfl rfl rfl) ?_
        refine li rfl (cv b_15 rfl rfl rfl rfl (fun w' hs => (laws_eqBeliefs w' [(.int .i64 ((repB aB aBad aFree).Nodes)), v70] (repB aB aBad aFree) [(.int .i64 ((repB aB aBad aFree).Nodes)), u58] (repB aB aBad aFree) (rd_own (k := 1) hs rfl) (rd_fz 7 (Sbw.refl _) hs rfl hr46))) ?_)
        refine p1 rfl <| p1 rfl ?_
        refine gs 58 rfl rfl (fun h73 => ?_) (fun h73 => ?_)
        · have h73n : (decide ((repB aB aBad aFree) = (repB aB aBad aFree))) = false := not_t h73
          refine n1 rfl ?_
          refine n1 rfl ?_
          refine n1 rfl ?_
          refine p1 rfl ?_
          refine D_end ?_
          refine x_then ?_
          refine D_weak [(1, v_aBad), (2, v_aFree), (3, (.pointer (some ⟨g6, 0, none⟩))), (8, (.pointer (some ⟨g61, 0, none⟩))), (9, (.bool (hasR aB aBad aFree))), (10, (.pointer (some ⟨g65, 0, none⟩))), (11, v66), (12, v67), (13, (.pointer (some ⟨g72, 0, none⟩))), (14, (.bool (hasR aB aBad aFree))), (62, (.bool true))] ⟨rfl, rfl, rfl, rfl, rfl, rfl, rfl, rfl, rfl, rfl, rfl, trivial⟩ ?_
          refine C_t rfl ?_
          refine C_seq ?_
          refine C_reg ?_
          refine p1 rfl ?_
          refine D_end ?_
          refine x_then ?_
          refine C_ret ?_
          refine x_then_ret ?_
          refine R_1 rfl rfl fun w' hs => ⟨congrArg (fun z => Ending.returned (Value.bool z)) ?_, hs.bel⟩
          show (false : Bool) = true
          first | rfl | (exfalso; omega) | (exfalso; simp only [mapS_len, sumB_mk, sumR_mk, sumII_mk] at *; omega) | exact absurd h73 (by simp [mapS_len])
        · have h73n : (decide ((repB aB aBad aFree) = (repB aB aBad aFree))) = true := not_f h73
          refine p1 rfl <| p1 rfl ?_
          refine q1 rfl (D_neB ub_4 rfl rfl rfl) ?_
          refine p1 rfl ?_
          refine D_end ?_
          refine x_then ?_
          refine D_weak [(1, v_aBad), (2, v_aFree), (3, (.pointer (some ⟨g6, 0, none⟩))), (8, (.pointer (some ⟨g61, 0, none⟩))), (9, (.bool (hasR aB aBad aFree))), (10, (.pointer (some ⟨g65, 0, none⟩))), (11, v66), (12, v67), (13, (.pointer (some ⟨g72, 0, none⟩))), (14, (.bool (hasR aB aBad aFree))), (62, (.bool (!((hasR aB aBad aFree) == (hasR aB aBad aFree)))))] ⟨rfl, rfl, rfl, rfl, rfl, rfl, rfl, rfl, rfl, rfl, rfl, trivial⟩ ?_
          refine C_if _ rfl (fun h74 => ?_) (fun h74 => ?_)
          · refine C_seq ?_
            refine C_reg ?_
            refine p1 rfl ?_
            refine D_end ?_
            refine x_then ?_
            refine C_ret ?_
            refine x_then_ret ?_
            refine R_1 rfl rfl fun w' hs => ⟨congrArg (fun z => Ending.returned (Value.bool z)) ?_, hs.bel⟩
            show (false : Bool) = true
            first | rfl | (exfalso; omega) | (exfalso; simp only [mapS_len, sumB_mk, sumR_mk, sumII_mk] at *; omega) | exact absurd h74 (by simp [mapS_len])
          · have pr74 : (hasR aB aBad aFree) = (hasR aB aBad aFree) := beq_of_not h74
            refine C_skip ?_
            refine x_then ?_
            refine C_seq ?_
            refine C_seq ?_
            refine C_draw mixed [3, 4] (by kernel_rfl) ?_
            refine tk 0 rfl (by kernel_rfl) (by kernel_rfl) (by kernel_rfl) rfl (fun _ hs => hs) (lbw 4 a_30 rfl rfl rfl) ?_
            refine tk 1 rfl (by kernel_rfl) (by kernel_rfl) (by kernel_rfl) rfl (fun _ hs => hs) (lbw 8 a_24 rfl rfl rfl) ?_
            refine ty 2 rfl (by kernel_rfl) rfl (crs rfl b_11 rfl rfl rfl rfl (fun w' hs => (laws_toBeliefs w' [(.int .i64 aB.Nodes), u1] aB (rd_fz 7 (Sbw.refl _) hs rfl hb56) (by first | assumption | omega | (unfold szm at *; split at * <;> omega)))) fun cs75 => ?_)
            refine D_pre (fun w' hs => shape_Beliefs (rd_own (k := 0) hs rfl)) ?_
            rintro ⟨v76, rfl, ho77⟩
            refine tS (fun _ hs => hs.pk [1, 2, 3, 4, 5, 6, 7, 8, 9] rfl rfl) ?_
            refine ty 3 rfl (by kernel_rfl) rfl (cv b_15 rfl rfl rfl rfl (fun w' hs => (laws_eqBeliefs w' [(.int .i64 aB.Nodes), v63] aB [(.int .i64 aB.Nodes), v76] aB (rd_own (k := 6) hs rfl) (rd_own (k := 0) hs rfl))) ?_)
            refine tZ rfl ?_
            refine ty 4 rfl (by kernel_rfl) rfl (sv rfl rfl (rp rfl) ?_)
            refine tZ rfl ?_
            refine tE (by kernel_rfl) ?_
            refine x_then ?_
            refine D_H ([ov [(.int .i64 aB.Nodes), v76] (aB : Beliefs), bx g72 [(.int .i64 ((repB aB aBad aFree).Nodes)), v70], ov [(.int .i64 ((repB aB aBad aFree).Nodes)), v70] (repB aB aBad aFree : Beliefs), ov [v67] (aFree : (List Int)), ov [v66] (aBad : (List Int)), bx g65 [(.int .i64 aB.Nodes), v63], ov [(.int .i64 aB.Nodes), v63] (aB : Beliefs), bx g61 [(.int .i64 ((repB aB aBad aFree).Nodes)), u58], fz w wb48, bx g6 [(.int .i64 aB.Nodes), u1]]) rfl ?_
            refine C_if _ rfl (fun h78 => ?_) (fun h78 => ?_)
            · have h78n : (decide (aB = aB)) = false := not_t h78
              refine C_seq ?_
              refine C_reg ?_
              refine p1 rfl ?_
              refine D_end ?_
              refine x_then ?_
              refine D_weak [(6, (.bool false))] ⟨rfl, trivial⟩ ?_
              refine D_sel (H' := [fz w wb48]) [false, false, false, false, false, false, false, false, true, false] rfl ?_
              refine C_ret ?_
              refine x_then_ret ?_
              refine R_1 rfl rfl fun w' hs => ⟨congrArg (fun z => Ending.returned (Value.bool z)) ?_, hs.bel⟩
              show (false : Bool) = true
              first | rfl | (exfalso; omega) | (exfalso; simp only [mapS_len, sumB_mk, sumR_mk, sumII_mk] at *; omega) | exact absurd h78 (by simp [mapS_len])
            · have h78n : (decide (aB = aB)) = true := not_f h78
              refine C_skip ?_
              refine x_then ?_
              refine C_seq ?_
              refine C_seq ?_
              refine C_reg ?_
              refine p1 rfl <| p1 rfl ?_
              refine li rfl (crl b_12 rfl rfl rfl rfl (fun w' hs => (laws_toIntS w' v_aBad aBad (rd_fz 8 (Sbw.refl _) hs rfl hb51) (by first | assumption | omega | (unfold szm at *; split at * <;> omega)))) fun v79 => ?_)
              refine li rfl (cv b_14 rfl rfl rfl rfl (fun w' hs => (laws_eqIntS w' v66 aBad v79 aBad (rd_own (k := 5) hs rfl) (rd_own (k := 0) hs rfl))) ?_)
              refine p1 rfl ?_
              refine D_end ?_
              refine x_then ?_
              refine D_H ([ov [v79] (aBad : (List Int)), ov [(.int .i64 aB.Nodes), v76] (aB : Beliefs), bx g72 [(.int .i64 ((repB aB aBad aFree).Nodes)), v70], ov [(.int .i64 ((repB aB aBad aFree).Nodes)), v70] (repB aB aBad aFree : Beliefs), ov [v67] (aFree : (List Int)), ov [v66] (aBad : (List Int)), bx g65 [(.int .i64 aB.Nodes), v63], ov [(.int .i64 aB.Nodes), v63] (aB : Beliefs), bx g61 [(.int .i64 ((repB aB aBad aFree).Nodes)), u58], fz w wb48, bx g6 [(.int .i64 aB.Nodes), u1]]) rfl ?_
              refine C_if _ rfl (fun h80 => ?_) (fun h80 => ?_)
              · have h80n : (decide (aBad = aBad)) = false := not_t h80
                refine C_seq ?_
                refine C_reg ?_
                refine p1 rfl ?_
                refine D_end ?_
                refine x_then ?_
                refine D_weak [(6, (.bool false))] ⟨rfl, trivial⟩ ?_
                refine D_sel (H' := [fz w wb48]) [false, false, false, false, false, false, false, false, false, true, false] rfl ?_
                refine C_ret ?_
                refine x_then_ret ?_
                refine R_1 rfl rfl fun w' hs => ⟨congrArg (fun z => Ending.returned (Value.bool z)) ?_, hs.bel⟩
                show (false : Bool) = true
                first | rfl | (exfalso; omega) | (exfalso; simp only [mapS_len, sumB_mk, sumR_mk, sumII_mk] at *; omega) | exact absurd h80 (by simp [mapS_len])
              · have h80n : (decide (aBad = aBad)) = true := not_f h80
                refine C_skip ?_
                refine x_then ?_
                refine C_seq ?_
                refine C_seq ?_
                refine C_reg ?_
                refine p1 rfl <| p1 rfl ?_
                refine li rfl (crl b_12 rfl rfl rfl rfl (fun w' hs => (laws_toIntS w' v_aFree aFree (rd_fz 9 (Sbw.refl _) hs rfl hb52) (by first | assumption | omega | (unfold szm at *; split at * <;> omega)))) fun v81 => ?_)
                refine li rfl (cv b_14 rfl rfl rfl rfl (fun w' hs => (laws_eqIntS w' v67 aFree v81 aFree (rd_own (k := 5) hs rfl) (rd_own (k := 0) hs rfl))) ?_)
                refine p1 rfl ?_
                refine D_end ?_
                refine x_then ?_
                refine D_weak [(1, v_aBad), (2, v_aFree), (3, (.pointer (some ⟨g6, 0, none⟩))), (8, (.pointer (some ⟨g61, 0, none⟩))), (9, (.bool (hasR aB aBad aFree))), (10, (.pointer (some ⟨g65, 0, none⟩))), (11, v66), (12, v67), (13, (.pointer (some ⟨g72, 0, none⟩))), (14, (.bool (hasR aB aBad aFree))), (77, (.bool (!(decide (aFree = aFree)))))] ⟨rfl, rfl, rfl, rfl, rfl, rfl, rfl, rfl, rfl, rfl, rfl, trivial⟩ ?_
                refine D_sel (H' := [bx g72 [(.int .i64 ((repB aB aBad aFree).Nodes)), v70], ov [(.int .i64 ((repB aB aBad aFree).Nodes)), v70] (repB aB aBad aFree : Beliefs), ov [v67] (aFree : (List Int)), ov [v66] (aBad : (List Int)), bx g65 [(.int .i64 aB.Nodes), v63], ov [(.int .i64 aB.Nodes), v63] (aB : Beliefs), bx g61 [(.int .i64 ((repB aB aBad aFree).Nodes)), u58], fz w wb48, bx g6 [(.int .i64 aB.Nodes), u1]]) [false, false, false, true, true, true, true, true, true, true, true, true] rfl ?_
                refine C_if _ rfl (fun h82 => ?_) (fun h82 => ?_)
                · have h82n : (decide (aFree = aFree)) = false := not_t h82
                  refine C_seq ?_
                  refine C_reg ?_
                  refine p1 rfl ?_
                  refine D_end ?_
                  refine x_then ?_
                  refine C_ret ?_
                  refine x_then_ret ?_
                  refine R_1 rfl rfl fun w' hs => ⟨congrArg (fun z => Ending.returned (Value.bool z)) ?_, hs.bel⟩
                  show (false : Bool) = true
                  first | rfl | (exfalso; omega) | (exfalso; simp only [mapS_len, sumB_mk, sumR_mk, sumII_mk] at *; omega) | exact absurd h82 (by simp [mapS_len])
                · have h82n : (decide (aFree = aFree)) = true := not_f h82
                  refine C_skip ?_
                  refine x_then ?_
                  refine C_seq ?_
                  refine C_reg ?_
                  refine p1 rfl ?_
                  refine D_end ?_
                  refine x_then ?_
                  refine C_seq ?_
                  refine C_reg ?_
                  refine q1 rfl (lbw 4 a_30 rfl rfl rfl) ?_
                  refine p1 rfl ?_
                  refine D_pk (H' := [ov [(.int .i64 aB.Nodes), v63] (aB : Beliefs), bx g72 [(.int .i64 ((repB aB aBad aFree).Nodes)), v70], ov [(.int .i64 ((repB aB aBad aFree).Nodes)), v70] (repB aB aBad aFree : Beliefs), ov [v67] (aFree : (List Int)), ov [v66] (aBad : (List Int)), bx g65 [(.int .i64 aB.Nodes), v63], bx g61 [(.int .i64 ((repB aB aBad aFree).Nodes)), u58], fz w wb48, bx g6 [(.int .i64 aB.Nodes), u1]]) [5, 0, 1, 2, 3, 4, 6, 7, 8] rfl rfl ?_
                  refine li rfl (cm b_16 rfl rfl rfl rfl (fun w' hs => laws_markBeliefs _ _ w' [(.int .i64 aB.Nodes), v63] aB 1 (by first | assumption | omega | (simp only; omega)) (by first | assumption | omega | (simp only; omega)) hs) ?_)
                  refine p1 rfl ?_
                  refine D_end ?_
                  refine x_then ?_
                  refine D_H ([ov [(.int .i64 aB.Nodes), v63] (mkB 1 aB : Beliefs), bx g72 [(.int .i64 ((repB aB aBad aFree).Nodes)), v70], ov [(.int .i64 ((repB aB aBad aFree).Nodes)), v70] (repB aB aBad aFree : Beliefs), ov [v67] (aFree : (List Int)), ov [v66] (aBad : (List Int)), bx g65 [(.int .i64 aB.Nodes), v63], bx g61 [(.int .i64 ((repB aB aBad aFree).Nodes)), u58], fz w wb48, bx g6 [(.int .i64 aB.Nodes), u1]]) rfl ?_
                  refine C_seq ?_
                  refine C_reg ?_
                  refine p1 rfl <| p1 rfl ?_
                  refine D_pk (H' := [ov [v66] (aBad : (List Int)), ov [(.int .i64 aB.Nodes), v63] (mkB 1 aB : Beliefs), bx g72 [(.int .i64 ((repB aB aBad aFree).Nodes)), v70], ov [(.int .i64 ((repB aB aBad aFree).Nodes)), v70] (repB aB aBad aFree : Beliefs), ov [v67] (aFree : (List Int)), bx g65 [(.int .i64 aB.Nodes), v63], bx g61 [(.int .i64 ((repB aB aBad aFree).Nodes)), u58], fz w wb48, bx g6 [(.int .i64 aB.Nodes), u1]]) [4, 0, 1, 2, 3, 5, 6, 7, 8] rfl rfl ?_
                  refine li rfl (cm b_17 rfl rfl rfl rfl (fun w' hs => laws_markIntS _ _ w' v66 aBad (1 + sumC cR aB.Reasons) (by first | assumption | omega | (simp only; omega)) (by first | assumption | omega | (simp only; omega)) hs) ?_)
                  refine p1 rfl ?_
                  refine D_end ?_
                  refine x_then ?_
                  refine D_H ([ov [v66] (mkI (1 + sumC cR aB.Reasons) aBad : (List Int)), ov [(.int .i64 aB.Nodes), v63] (mkB 1 aB : Beliefs), bx g72 [(.int .i64 ((repB aB aBad aFree).Nodes)), v70], ov [(.int .i64 ((repB aB aBad aFree).Nodes)), v70] (repB aB aBad aFree : Beliefs), ov [v67] (aFree : (List Int)), bx g65 [(.int .i64 aB.Nodes), v63], bx g61 [(.int .i64 ((repB aB aBad aFree).Nodes)), u58], fz w wb48, bx g6 [(.int .i64 aB.Nodes), u1]]) rfl ?_
                  refine C_seq ?_
                  refine C_reg ?_
                  refine p1 rfl <| p1 rfl ?_
                  refine D_pk (H' := [ov [v67] (aFree : (List Int)), ov [v66] (mkI (1 + sumC cR aB.Reasons) aBad : (List Int)), ov [(.int .i64 aB.Nodes), v63] (mkB 1 aB : Beliefs), bx g72 [(.int .i64 ((repB aB aBad aFree).Nodes)), v70], ov [(.int .i64 ((repB aB aBad aFree).Nodes)), v70] (repB aB aBad aFree : Beliefs), bx g65 [(.int .i64 aB.Nodes), v63], bx g61 [(.int .i64 ((repB aB aBad aFree).Nodes)), u58], fz w wb48, bx g6 [(.int .i64 aB.Nodes), u1]]) [4, 0, 1, 2, 3, 5, 6, 7, 8] rfl rfl ?_
                  refine li rfl (cm b_17 rfl rfl rfl rfl (fun w' hs => laws_markIntS _ _ w' v67 aFree ((1 + sumC cR aB.Reasons) + aBad.length) (by first | assumption | omega | (simp only; omega)) (by first | assumption | omega | (simp only; omega)) hs) ?_)
                  refine p1 rfl ?_
                  refine D_end ?_
                  refine x_then ?_
                  refine D_H ([ov [v67] (mkI ((1 + sumC cR aB.Reasons) + aBad.length) aFree : (List Int)), ov [v66] (mkI (1 + sumC cR aB.Reasons) aBad : (List Int)), ov [(.int .i64 aB.Nodes), v63] (mkB 1 aB : Beliefs), bx g72 [(.int .i64 ((repB aB aBad aFree).Nodes)), v70], ov [(.int .i64 ((repB aB aBad aFree).Nodes)), v70] (repB aB aBad aFree : Beliefs), bx g65 [(.int .i64 aB.Nodes), v63], bx g61 [(.int .i64 ((repB aB aBad aFree).Nodes)), u58], fz w wb48, bx g6 [(.int .i64 aB.Nodes), u1]]) rfl ?_
                  refine C_seq ?_
                  refine C_seq ?_
                  refine C_reg ?_
                  refine p1 rfl <| p1 rfl <| p1 rfl ?_
                  refine gs 89 rfl rfl (fun h83 => ?_) (fun h83 => ?_)
                  · have pr83 : ((((1 + sumC cR aB.Reasons) + aBad.length) + aFree.length) : Int) < 0 := of_decide_eq_true h83
                    refine n1 rfl ?_
                    refine n1 rfl ?_
                    refine n1 rfl ?_
                    refine n1 rfl ?_
                    refine p1 rfl <| p1 rfl ?_
                    refine n1 rfl ?_
                    refine n1 rfl ?_
                    refine n1 rfl ?_
                    refine p1 rfl ?_
                    refine D_end ?_
                    refine x_then ?_
                    refine D_weak [(1, v_aBad), (2, v_aFree), (3, (.pointer (some ⟨g6, 0, none⟩))), (8, (.pointer (some ⟨g61, 0, none⟩))), (9, (.bool (hasR aB aBad aFree))), (13, (.pointer (some ⟨g72, 0, none⟩))), (99, (.bool true))] ⟨rfl, rfl, rfl, rfl, rfl, rfl, rfl, trivial⟩ ?_
                    refine D_sel (H' := [bx g72 [(.int .i64 ((repB aB aBad aFree).Nodes)), v70], ov [(.int .i64 ((repB aB aBad aFree).Nodes)), v70] (repB aB aBad aFree : Beliefs), bx g61 [(.int .i64 ((repB aB aBad aFree).Nodes)), u58], fz w wb48, bx g6 [(.int .i64 aB.Nodes), u1]]) [false, false, false, true, true, false, true, true, true] rfl ?_
                    refine C_t rfl ?_
                    refine C_seq ?_
                    refine C_reg ?_
                    refine p1 rfl ?_
                    refine D_end ?_
                    refine x_then ?_
                    refine C_ret ?_
                    refine x_then_ret ?_
                    refine R_1 rfl rfl fun w' hs => ⟨congrArg (fun z => Ending.returned (Value.bool z)) ?_, hs.bel⟩
                    show (false : Bool) = true
                    first | rfl | (exfalso; omega) | (exfalso; simp only [mapS_len, sumB_mk, sumR_mk, sumII_mk] at *; omega) | exact absurd h83 (by simp [mapS_len])
                  · have pr83 : ¬ ((((1 + sumC cR aB.Reasons) + aBad.length) + aFree.length) : Int) < 0 := of_decide_eq_false h83
                    refine q1 rfl (lbw 3 a_30 rfl rfl rfl) ?_
                    refine q1 rfl (lbw 6 a_30 rfl rfl rfl) ?_
                    refine li rfl (cv b_15 rfl rfl rfl rfl (fun w' hs => (laws_eqBeliefs w' [(.int .i64 ((repB aB aBad aFree).Nodes)), v70] (repB aB aBad aFree) [(.int .i64 ((repB aB aBad aFree).Nodes)), u58] (repB aB aBad aFree) (rd_own (k := 4) hs rfl) (rd_fz 7 (Sbw.refl _) hs rfl hr46))) ?_)
                    refine p1 rfl <| p1 rfl <| p1 rfl ?_
                    refine gs 95 rfl rfl (fun h84 => ?_) (fun h84 => ?_)
                    · have h84n : (decide ((repB aB aBad aFree) = (repB aB aBad aFree))) = false := not_t h84
                      refine n1 rfl ?_
                      refine n1 rfl ?_
                      refine n1 rfl ?_
                      refine p1 rfl ?_
                      refine D_end ?_
                      refine x_then ?_
                      refine D_weak [(1, v_aBad), (2, v_aFree), (3, (.pointer (some ⟨g6, 0, none⟩))), (8, (.pointer (some ⟨g61, 0, none⟩))), (9, (.bool (hasR aB aBad aFree))), (13, (.pointer (some ⟨g72, 0, none⟩))), (99, (.bool true))] ⟨rfl, rfl, rfl, rfl, rfl, rfl, rfl, trivial⟩ ?_
                      refine D_sel (H' := [bx g72 [(.int .i64 ((repB aB aBad aFree).Nodes)), v70], ov [(.int .i64 ((repB aB aBad aFree).Nodes)), v70] (repB aB aBad aFree : Beliefs), bx g61 [(.int .i64 ((repB aB aBad aFree).Nodes)), u58], fz w wb48, bx g6 [(.int .i64 aB.Nodes), u1]]) [false, false, false, true, true, false, true, true, true] rfl ?_
                      refine C_t rfl ?_
                      refine C_seq ?_
                      refine C_reg ?_
                      refine p1 rfl ?_
                      refine D_end ?_
                      refine x_then ?_
                      refine C_ret ?_
                      refine x_then_ret ?_
                      refine R_1 rfl rfl fun w' hs => ⟨congrArg (fun z => Ending.returned (Value.bool z)) ?_, hs.bel⟩
                      show (false : Bool) = true
                      first | rfl | (exfalso; omega) | (exfalso; simp only [mapS_len, sumB_mk, sumR_mk, sumII_mk] at *; omega) | exact absurd h84 (by simp [mapS_len])
                    · have h84n : (decide ((repB aB aBad aFree) = (repB aB aBad aFree))) = true := not_f h84
                      refine p1 rfl <| p1 rfl ?_
                      refine q1 rfl (D_neB ub_4 rfl rfl rfl) ?_
                      refine p1 rfl ?_
                      refine D_end ?_
                      refine x_then ?_
                      refine D_weak [(1, v_aBad), (2, v_aFree), (3, (.pointer (some ⟨g6, 0, none⟩))), (8, (.pointer (some ⟨g61, 0, none⟩))), (9, (.bool (hasR aB aBad aFree))), (13, (.pointer (some ⟨g72, 0, none⟩))), (99, (.bool (!((hasR aB aBad aFree) == (hasR aB aBad aFree)))))] ⟨rfl, rfl, rfl, rfl, rfl, rfl, rfl, trivial⟩ ?_
                      refine D_sel (H' := [bx g72 [(.int .i64 ((repB aB aBad aFree).Nodes)), v70], ov [(.int .i64 ((repB aB aBad aFree).Nodes)), v70] (repB aB aBad aFree : Beliefs), bx g61 [(.int .i64 ((repB aB aBad aFree).Nodes)), u58], fz w wb48, bx g6 [(.int .i64 aB.Nodes), u1]]) [false, false, false, true, true, false, true, true, true] rfl ?_
                      refine C_if _ rfl (fun h85 => ?_) (fun h85 => ?_)
                      · refine C_seq ?_
                        refine C_reg ?_
                        refine p1 rfl ?_
                        refine D_end ?_
                        refine x_then ?_
                        refine C_ret ?_
                        refine x_then_ret ?_
                        refine R_1 rfl rfl fun w' hs => ⟨congrArg (fun z => Ending.returned (Value.bool z)) ?_, hs.bel⟩
                        show (false : Bool) = true
                        first | rfl | (exfalso; omega) | (exfalso; simp only [mapS_len, sumB_mk, sumR_mk, sumII_mk] at *; omega) | exact absurd h85 (by simp [mapS_len])
                      · have pr85 : (hasR aB aBad aFree) = (hasR aB aBad aFree) := beq_of_not h85
                        refine C_skip ?_
                        refine x_then ?_
                        refine C_seq ?_
                        refine C_reg ?_
                        refine p1 rfl ?_
                        refine D_end ?_
                        refine x_then ?_
                        refine C_seq ?_
                        refine C_reg ?_
                        refine q1 rfl (lbw 0 a_30 rfl rfl rfl) ?_
                        refine p1 rfl ?_
                        refine D_pk (H' := [ov [(.int .i64 ((repB aB aBad aFree).Nodes)), v70] (repB aB aBad aFree : Beliefs), bx g72 [(.int .i64 ((repB aB aBad aFree).Nodes)), v70], bx g61 [(.int .i64 ((repB aB aBad aFree).Nodes)), u58], fz w wb48, bx g6 [(.int .i64 aB.Nodes), u1]]) [1, 0, 2, 3, 4] rfl rfl ?_
                        refine li rfl (cm b_16 rfl rfl rfl rfl (fun w' hs => laws_markBeliefs _ _ w' [(.int .i64 ((repB aB aBad aFree).Nodes)), v70] (repB aB aBad aFree) 1 (by first | assumption | omega | (simp only; omega)) (by first | assumption | omega | (simp only; omega)) hs) ?_)
                        refine p1 rfl ?_
                        refine D_end ?_
                        refine x_then ?_
                        refine D_H ([ov [(.int .i64 ((repB aB aBad aFree).Nodes)), v70] (mkB 1 (repB aB aBad aFree) : Beliefs), bx g72 [(.int .i64 ((repB aB aBad aFree).Nodes)), v70], bx g61 [(.int .i64 ((repB aB aBad aFree).Nodes)), u58], fz w wb48, bx g6 [(.int .i64 aB.Nodes), u1]]) rfl ?_
                        refine C_seq ?_
                        refine C_reg ?_
                        refine p1 rfl ?_
                        refine D_end ?_
                        refine x_then ?_
                        refine C_seq ?_
                        refine C_reg ?_
                        refine q1 rfl (lbw 1 a_30 rfl rfl rfl) ?_
                        refine p1 rfl ?_
                        refine li rfl (cv b_32 rfl rfl rfl rfl (fun w' hs => (laws_heldBeliefs w' [(.int .i64 ((repB aB aBad aFree).Nodes)), v70] (mkB 1 (repB aB aBad aFree)) 1 (rd_own (k := 0) hs rfl) (by first | assumption | omega | (unfold szm at *; split at * <;> omega)) (by rw [sumB_mk]; omega) (mkRs_idem _ _))) ?_)
                        refine p1 rfl ?_
                        refine D_end ?_
                        refine x_then ?_
                        refine C_seq ?_
                        refine C_seq ?_
                        refine C_reg ?_
                        refine p1 rfl <| p1 rfl ?_
                        refine D_end ?_
                        refine x_then ?_
                        refine C_if _ rfl (fun h86 => ?_) (fun h86 => ?_)
                        · have pr86 : ((1 + sumC cR (mkB 1 (repB aB aBad aFree)).Reasons) : Int) < 0 := of_decide_eq_true h86
                          refine C_seq ?_
                          refine C_reg ?_
                          refine p1 rfl ?_
                          refine D_end ?_
                          refine x_then ?_
                          refine D_weak [(6, (.bool false))] ⟨rfl, trivial⟩ ?_
                          refine D_sel (H' := [fz w wb48]) [false, false, false, true, false] rfl ?_
                          refine C_ret ?_
                          refine x_then_ret ?_
                          refine R_1 rfl rfl fun w' hs => ⟨congrArg (fun z => Ending.returned (Value.bool z)) ?_, hs.bel⟩
                          show (false : Bool) = true
                          first | rfl | (exfalso; omega) | (exfalso; simp only [mapS_len, sumB_mk, sumR_mk, sumII_mk] at *; omega) | exact absurd h86 (by simp [mapS_len])
                        · have pr86 : ¬ ((1 + sumC cR (mkB 1 (repB aB aBad aFree)).Reasons) : Int) < 0 := of_decide_eq_false h86
                          refine C_skip ?_
                          refine x_then ?_
                          refine C_seq ?_
                          refine C_seq ?_
                          refine C_reg ?_
                          refine p1 rfl <| p1 rfl <| p1 rfl ?_
                          refine D_end ?_
                          refine x_then ?_
                          refine C_if _ rfl (fun h87 => ?_) (fun h87 => ?_)
                          · have pr87 : ((1 + sumC cR (mkB 1 (repB aB aBad aFree)).Reasons) : Int) ≠ (1 + sumC cR (repB aB aBad aFree).Reasons) := bne_iff_ne.1 h87
                            refine C_seq ?_
                            refine C_reg ?_
                            refine p1 rfl ?_
                            refine D_end ?_
                            refine x_then ?_
                            refine D_weak [(6, (.bool false))] ⟨rfl, trivial⟩ ?_
                            refine D_sel (H' := [fz w wb48]) [false, false, false, true, false] rfl ?_
                            refine C_ret ?_
                            refine x_then_ret ?_
                            refine R_1 rfl rfl fun w' hs => ⟨congrArg (fun z => Ending.returned (Value.bool z)) ?_, hs.bel⟩
                            show (false : Bool) = true
                            first | rfl | (exfalso; omega) | (exfalso; simp only [mapS_len, sumB_mk, sumR_mk, sumII_mk] at *; omega) | exact absurd h87 (by simp [mapS_len])
                          · have pr87 : ((1 + sumC cR (mkB 1 (repB aB aBad aFree)).Reasons) : Int) = (1 + sumC cR (repB aB aBad aFree).Reasons) := eq_of_bne_f h87
                            refine C_skip ?_
                            refine x_then ?_
                            refine C_seq ?_
                            refine C_reg ?_
                            refine q1 rfl (lbw 4 a_24 rfl rfl rfl) ?_
                            refine li rfl (crs rfl b_11 rfl rfl rfl rfl (fun w' hs => (laws_toBeliefs w' [(.int .i64 aB.Nodes), u1] aB (rd_fz 3 (Sbw.refl _) hs rfl hb56) (by first | assumption | omega | (unfold szm at *; split at * <;> omega)))) fun cs88 => ?_)
                            refine D_pre (fun w' hs => shape_Beliefs (rd_own (k := 0) hs rfl)) ?_
                            rintro ⟨v89, rfl, ho90⟩
                            refine p1 rfl ?_
                            refine li rfl (crl b_12 rfl rfl rfl rfl (fun w' hs => (laws_toIntS w' v_aBad aBad (rd_fz 4 (Sbw.refl _) hs rfl hb51) (by first | assumption | omega | (unfold szm at *; split at * <;> omega)))) fun v91 => ?_)
                            refine p1 rfl ?_
                            refine li rfl (crl b_12 rfl rfl rfl rfl (fun w' hs => (laws_toIntS w' v_aFree aFree (rd_fz 5 (Sbw.refl _) hs rfl hb52) (by first | assumption | omega | (unfold szm at *; split at * <;> omega)))) fun v92 => ?_)
                            refine li rfl (cr2 b_31 rfl rfl rfl rfl (fun w' hs => (impl_RepairBeliefs w' [(.int .i64 aB.Nodes), v89] aB v91 aBad v92 aFree (rd_own (k := 2) hs rfl) (rd_own (k := 1) hs rfl) (rd_own (k := 0) hs rfl) (by first | assumption | omega | (unfold szm at *; split at * <;> omega)))) fun cs93 cs94 => ?_)
                            refine D_pre (fun w' hs => shape_Beliefs (rd_own (k := 0) hs rfl)) ?_
                            rintro ⟨v95, rfl, ho96⟩
                            refine D_pre (fun w' hs => show cs94 = [(.bool (hasR aB aBad aFree))] from rd_own (k := 1) hs rfl) ?_
                            rintro rfl
                            refine D_re 118 (v' := (.tuple #[(.agg #[(.int .i64 ((repB aB aBad aFree).Nodes)), v95]), (.bool (hasR aB aBad aFree))])) rfl rfl rfl ?_
                            refine D_pk (H' := [ov [(.int .i64 ((repB aB aBad aFree).Nodes)), v95] (repB aB aBad aFree : Beliefs), ov [v92] (aFree : (List Int)), ov [v91] (aBad : (List Int)), ov [(.int .i64 aB.Nodes), v89] (aB : Beliefs), ov [(.int .i64 ((repB aB aBad aFree).Nodes)), v70] (mkB 1 (repB aB aBad aFree) : Beliefs), bx g72 [(.int .i64 ((repB aB aBad aFree).Nodes)), v70], bx g61 [(.int .i64 ((repB aB aBad aFree).Nodes)), u58], fz w wb48, bx g6 [(.int .i64 aB.Nodes), u1]]) [0, 2, 3, 4, 5, 6, 7, 8, 9] rfl rfl ?_
                            refine p1 rfl <| p1 rfl <| p1 rfl ?_
                            refine li rfl (D_alloc y_30 rfl rfl rfl rfl fun g97 => ?_)
                            refine li rfl (D_stb (vs := [(.int .i64 ((repB aB aBad aFree).Nodes)), v95]) (cs' := [(.int .i64 ((repB aB aBad aFree).Nodes)), v95]) 0 z_30 rfl rfl rfl rfl rfl rfl (ocons rfl (ocons ho96 onil)) (by simp) rfl ?_)
                            refine p1 rfl ?_
                            refine D_end ?_
                            refine x_then ?_
                            refine D_weak [(8, (.pointer (some ⟨g61, 0, none⟩))), (9, (.bool (hasR aB aBad aFree))), (13, (.pointer (some ⟨g72, 0, none⟩))), (16, (.int .i64 (1 + sumC cR (repB aB aBad aFree).Reasons))), (18, (.pointer (some ⟨g97, 0, none⟩))), (19, (.bool (hasR aB aBad aFree)))] ⟨rfl, rfl, rfl, rfl, rfl, rfl, trivial⟩ ?_
                            refine D_sel (H' := [bx g97 [(.int .i64 ((repB aB aBad aFree).Nodes)), v95], ov [(.int .i64 ((repB aB aBad aFree).Nodes)), v95] (repB aB aBad aFree : Beliefs), ov [(.int .i64 ((repB aB aBad aFree).Nodes)), v70] (mkB 1 (repB aB aBad aFree) : Beliefs), bx g72 [(.int .i64 ((repB aB aBad aFree).Nodes)), v70], bx g61 [(.int .i64 ((repB aB aBad aFree).Nodes)), u58], fz w wb48]) [true, true, false, false, false, true, true, true, true, false] rfl ?_
                            refine C_seq ?_
                            refine C_seq ?_
                            refine C_reg ?_
                            refine q1 rfl (lbw 0 a_30 rfl rfl rfl) ?_
                            refine q1 rfl (lbw 4 a_30 rfl rfl rfl) ?_
                            refine li rfl (cv b_15 rfl rfl rfl rfl (fun w' hs => (laws_eqBeliefs w' [(.int .i64 ((repB aB aBad aFree).Nodes)), v95] (repB aB aBad aFree) [(.int .i64 ((repB aB aBad aFree).Nodes)), u58] (repB aB aBad aFree) (rd_own (k := 1) hs rfl) (rd_fz 5 (Sbw.refl _) hs rfl hr46))) ?_)
                            refine p1 rfl <| p1 rfl ?_
                            refine gs 125 rfl rfl (fun h98 => ?_) (fun h98 => ?_)
                            · have h98n : (decide ((repB aB aBad aFree) = (repB aB aBad aFree))) = false := not_t h98
                              refine n1 rfl ?_
                              refine n1 rfl ?_
                              refine n1 rfl ?_
                              refine p1 rfl ?_
                              refine D_end ?_
                              refine x_then ?_
                              refine C_t rfl ?_
                              refine C_seq ?_
                              refine C_reg ?_
                              refine p1 rfl ?_
                              refine D_end ?_
                              refine x_then ?_
                              refine D_weak [(6, (.bool false))] ⟨rfl, trivial⟩ ?_
                              refine D_sel (H' := [fz w wb48]) [false, false, false, false, false, true] rfl ?_
                              refine C_ret ?_
                              refine x_then_ret ?_
                              refine R_1 rfl rfl fun w' hs => ⟨congrArg (fun z => Ending.returned (Value.bool z)) ?_, hs.bel⟩
                              show (false : Bool) = true
                              first | rfl | (exfalso; omega) | (exfalso; simp only [mapS_len, sumB_mk, sumR_mk, sumII_mk] at *; omega) | exact absurd h98 (by simp [mapS_len])
                            · have h98n : (decide ((repB aB aBad aFree) = (repB aB aBad aFree))) = true := not_f h98
                              refine p1 rfl <| p1 rfl ?_
                              refine q1 rfl (D_neB ub_4 rfl rfl rfl) ?_
                              refine p1 rfl ?_
                              refine D_end ?_
                              refine x_then ?_
                              refine C_if _ rfl (fun h99 => ?_) (fun h99 => ?_)
                              · refine C_seq ?_
                                refine C_reg ?_
                                refine p1 rfl ?_
                                refine D_end ?_
                                refine x_then ?_
                                refine D_weak [(6, (.bool false))] ⟨rfl, trivial⟩ ?_
                                refine D_sel (H' := [fz w wb48]) [false, false, false, false, false, true] rfl ?_
                                refine C_ret ?_
                                refine x_then_ret ?_
                                refine R_1 rfl rfl fun w' hs => ⟨congrArg (fun z => Ending.returned (Value.bool z)) ?_, hs.bel⟩
                                show (false : Bool) = true
                                first | rfl | (exfalso; omega) | (exfalso; simp only [mapS_len, sumB_mk, sumR_mk, sumII_mk] at *; omega) | exact absurd h99 (by simp [mapS_len])
                              · have pr99 : (hasR aB aBad aFree) = (hasR aB aBad aFree) := beq_of_not h99
                                refine C_skip ?_
                                refine x_then ?_
                                refine C_seq ?_
                                refine C_reg ?_
                                refine p1 rfl ?_
                                refine D_end ?_
                                refine x_then ?_
                                refine C_seq ?_
                                refine C_reg ?_
                                refine q1 rfl (lbw 3 a_30 rfl rfl rfl) ?_
                                refine p1 rfl ?_
                                refine li rfl (cv b_32 rfl rfl rfl rfl (fun w' hs => (laws_heldBeliefs w' [(.int .i64 ((repB aB aBad aFree).Nodes)), v70] (mkB 1 (repB aB aBad aFree)) 1 (rd_own (k := 2) hs rfl) (by first | assumption | omega | (unfold szm at *; split at * <;> omega)) (by rw [sumB_mk]; omega) (mkRs_idem _ _))) ?_)
                                refine p1 rfl ?_
                                refine D_end ?_
                                refine x_then ?_
                                refine D_weak [(16, (.int .i64 (1 + sumC cR (repB aB aBad aFree).Reasons))), (17, (.int .i64 (1 + sumC cR (mkB 1 (repB aB aBad aFree)).Reasons)))] ⟨rfl, rfl, trivial⟩ ?_
                                refine D_sel (H' := [fz w wb48]) [false, false, false, false, false, true] rfl ?_
                                refine C_seq ?_
                                refine C_seq ?_
                                refine C_reg ?_
                                refine p1 rfl <| p1 rfl ?_
                                refine D_end ?_
                                refine x_then ?_
                                refine C_if _ rfl (fun h100 => ?_) (fun h100 => ?_)
                                · have pr100 : ((1 + sumC cR (mkB 1 (repB aB aBad aFree)).Reasons) : Int) < 0 := of_decide_eq_true h100
                                  refine C_seq ?_
                                  refine C_reg ?_
                                  refine p1 rfl ?_
                                  refine D_end ?_
                                  refine x_then ?_
                                  refine C_ret ?_
                                  refine x_then_ret ?_
                                  refine R_1 rfl rfl fun w' hs => ⟨congrArg (fun z => Ending.returned (Value.bool z)) ?_, hs.bel⟩
                                  show (false : Bool) = true
                                  first | rfl | (exfalso; omega) | (exfalso; simp only [mapS_len, sumB_mk, sumR_mk, sumII_mk] at *; omega) | exact absurd h100 (by simp [mapS_len])
                                · have pr100 : ¬ ((1 + sumC cR (mkB 1 (repB aB aBad aFree)).Reasons) : Int) < 0 := of_decide_eq_false h100
                                  refine C_skip ?_
                                  refine x_then ?_
                                  refine C_seq ?_
                                  refine C_seq ?_
                                  refine C_reg ?_
                                  refine p1 rfl <| p1 rfl <| p1 rfl ?_
                                  refine D_end ?_
                                  refine x_then ?_
                                  refine C_if _ rfl (fun h101 => ?_) (fun h101 => ?_)
                                  · have pr101 : ((1 + sumC cR (mkB 1 (repB aB aBad aFree)).Reasons) : Int) ≠ (1 + sumC cR (repB aB aBad aFree).Reasons) := bne_iff_ne.1 h101
                                    refine C_seq ?_
                                    refine C_reg ?_
                                    refine p1 rfl ?_
                                    refine D_end ?_
                                    refine x_then ?_
                                    refine C_ret ?_
                                    refine x_then_ret ?_
                                    refine R_1 rfl rfl fun w' hs => ⟨congrArg (fun z => Ending.returned (Value.bool z)) ?_, hs.bel⟩
                                    show (false : Bool) = true
                                    first | rfl | (exfalso; omega) | (exfalso; simp only [mapS_len, sumB_mk, sumR_mk, sumII_mk] at *; omega) | exact absurd h101 (by simp [mapS_len])
                                  · have pr101 : ((1 + sumC cR (mkB 1 (repB aB aBad aFree)).Reasons) : Int) = (1 + sumC cR (repB aB aBad aFree).Reasons) := eq_of_bne_f h101
                                    refine C_skip ?_
                                    refine x_then ?_
                                    refine C_seq ?_
                                    refine C_reg ?_
                                    refine p1 rfl ?_
                                    refine D_end ?_
                                    refine x_then ?_
                                    refine C_ret ?_
                                    refine R_1 rfl rfl fun w' hs => ⟨congrArg (fun z => Ending.returned (Value.bool z)) ?_, hs.bel⟩
                                    show (true : Bool) = true
                                    first | rfl | (exfalso; omega) | (exfalso; simp only [mapS_len, sumB_mk, sumR_mk, sumII_mk] at *; omega) | exact absurd h101 (by simp [mapS_len])
end Go.Sy.Rep5
