/-
  Contracts of functions of the program, walked (printed by a program of ours).
  Conditions: those that each theorem states.
-/
import Derived.Test.YteahhonfcloabaaBel6
import Derived.Test.YteahhonfcloabaaGraph
set_option linter.unusedVariables false
set_option maxRecDepth 20000
namespace Go.Sy.Bel7
open Go Go.RowKit Go.Proofs Go.Sy
theorem mixed : Try.prog.follows .mixedOrders = true := by kernel_rfl
theorem f_67_1 : fieldOff Try.prog 67 1 = some 1 := by kernel_rfl
theorem o_25 : oneTy Try.prog 25 = true := by kernel_rfl
theorem s_25 : sliceTy Try.prog 25 = some (3, 1, 8) := by kernel_rfl
theorem o_3 : oneTy Try.prog 3 = true := by kernel_rfl
theorem f_67_2 : fieldOff Try.prog 67 2 = some 2 := by kernel_rfl
theorem a_30 : aggTy Try.prog 30 = some 2 := by kernel_rfl
theorem b_83 : hasBody Try.prog 83 = true := by kernel_rfl
theorem f_30_0 : fieldOff Try.prog 30 0 = some 0 := by kernel_rfl
theorem y_3 : zeroTy Try.prog 3 = some (.int .i64 0) := by kernel_rfl
theorem z_3 : sizeTy Try.prog 3 = some 1 := by kernel_rfl
theorem f_30_1 : fieldOff Try.prog 30 1 = some 1 := by kernel_rfl
theorem o_28 : oneTy Try.prog 28 = true := by kernel_rfl
theorem s_28 : sliceTy Try.prog 28 = some (67, 3, 56) := by kernel_rfl
theorem a_67 : aggTy Try.prog 67 = some 3 := by kernel_rfl
theorem y_67 : zeroTy Try.prog 67 = some (.agg #[(.int .i64 0), (.slice none 0 0), (.slice none 0 0)]) := by kernel_rfl
theorem z_67 : sizeTy Try.prog 67 = some 3 := by kernel_rfl
theorem f_67_0 : fieldOff Try.prog 67 0 = some 0 := by kernel_rfl
theorem b_84 : hasBody Try.prog 84 = true := by kernel_rfl
theorem b_101 : hasBody Try.prog 101 = true := by kernel_rfl
theorem b_102 : hasBody Try.prog 102 = true := by kernel_rfl
theorem b_64 : hasBody Try.prog 64 = true := by kernel_rfl
theorem b_103 : hasBody Try.prog 103 = true := by kernel_rfl
theorem b_104 : hasBody Try.prog 104 = true := by kernel_rfl
open Go.Sy.Bel1 Go.Sy.Bel2 Go.Sy.Bel3 Go.Sy.Bel4 Go.Sy.Bel5 Go.Sy.Bel6
theorem impl_supported (w : World) (c_r : List Value) (r : Reason) (v_rounds : Value) (rounds : (List Int)) (before : Int) (h_r : Gd.rd w c_r r) (h_rounds : Gd.rd w [v_rounds] rounds) (hr : isReason r (rounds.length : Int) = true) : Calls Try.prog 84 [(.agg c_r.toArray), v_rounds, (.int .i64 before)].toArray w (Val w (.bool (supL r rounds before))) := by
  obtain ⟨u1, u3, rfl, hu2, hu4⟩ := open_Reason h_r
  have hm5 := rd_max hu2
  have hm6 := rd_max hu4
  have hm7 := rd_max h_rounds
  refine enter 45 Try.func84 rfl rfl rfl ?_
  refine C_seq ?_
  refine C_reg ?_
  refine li rfl (D_box rfl rfl rfl rfl rfl fun g8 => ?_)
  refine p1 rfl ?_
  refine D_end ?_
  refine x_then ?_
  refine D_H ([bx g8 [(.int .i64 r.For), u1, u3]]) rfl ?_
  refine C_seq ?_
  refine C_seq ?_
  refine C_reg ?_
  refine q1 rfl (D_fb f_67_1 rfl rfl (q := 1) rfl) ?_
  refine q1 rfl (lb 0 o_25 rfl rfl rfl rfl) ?_
  refine q1 rfl (D_len s_25 rfl rfl (rd_sl hu2)) ?_
  refine p1 rfl ?_
  refine D_end ?_
  refine x_then ?_
  refine C_block ?_
  refine C_loop (fun m_ ac w' => ∃ (k : Nat), (k ≤ r.In.length) ∧ (∀ i, i < k → ∀ y, r.In[i]? = some y → befL rounds before y = true) ∧ m_ = r.In.length - k ∧ Fits ac 45 [(1, v_rounds), (2, (.int .i64 before)), (3, (.pointer (some ⟨g8, 0, none⟩))), (12, u1), (13, (.int .i64 ((r.In.length : Nat) : Int))), (14, (.int .i64 ((k : Nat) : Int)))] ∧ St w ([bx g8 [(.int .i64 r.For), u1, u3]]) w') ?_ ?_
  · refine fun ac w' hf hs => ⟨_, 0, ?_, ?_, rfl, hf.weak ⟨rfl, rfl, rfl, rfl, rfl, rfl, trivial⟩, hs⟩
    · first | assumption | omega | simp
    · intro i hi; omega
  · rintro m_ ac w' ⟨k, hk, hi, rfl, hf, hs⟩
    refine D.use ?_ hf hs
    clear hf hs ac w'
    refine C_seq ?_
    refine C_reg ?_
    refine p1 rfl ?_
    refine D_end ?_
    refine x_then ?_
    refine C_seq ?_
    refine C_if _ rfl (fun h9 => ?_) (fun h9 => ?_)
    · have pr9 : (((k : Nat) : Int) : Int) < ((r.In.length : Nat) : Int) := of_decide_eq_true h9
      refine C_skip ?_
      refine x_then ?_
      refine C_seq ?_
      refine C_block ?_
      refine C_seq ?_
      refine C_reg ?_
      obtain ⟨y2, hy2⟩ := some_of_lt (l := r.In) (i := k) (by omega)
      have hyn := asc_at (isR_in hr) hy2
      obtain ⟨es10, at11, hr12⟩ := rd_elem (n := 1) rfl hu2 hy2
      obtain rfl : es10 = [.int .i64 y2] := hr12
      refine q1 rfl (D_ix (l := r.In) (j := k) s_25 rfl rfl rfl (fun w' hs => (rd_at hs hu2)) rfl (lt_of_some hy2)) ?_
      refine q1 rfl (lr0 o_3 rfl rfl at11 rfl) ?_
      refine p1 rfl ?_
      refine D_end ?_
      refine x_then ?_
      refine C_seq ?_
      refine C_reg ?_
      refine p1 rfl <| p1 rfl ?_
      obtain ⟨z2, hz2⟩ := some_of_lt (l := rounds) (i := (y2.toNat)) (by omega)
      obtain ⟨es13, at14, hr15⟩ := rd_elem (n := 1) rfl h_rounds hz2
      obtain rfl : es13 = [.int .i64 z2] := hr15
      refine q1 rfl (D_ix (l := rounds) (j := (y2.toNat)) s_25 rfl rfl rfl (fun w' hs => (rd_at hs h_rounds)) (Int.toNat_of_nonneg (by omega)).symm (lt_of_some hz2)) ?_
      refine q1 rfl (lr0 o_3 rfl rfl at14 rfl) ?_
      refine p1 rfl <| p1 rfl ?_
      refine gs 23 rfl rfl (fun h16 => ?_) (fun h16 => ?_)
      · have pr16 : (z2 : Int) < 0 := of_decide_eq_true h16
        refine n1 rfl ?_
        refine n1 rfl ?_
        refine n1 rfl ?_
        refine n1 rfl ?_
        refine n1 rfl ?_
        refine n1 rfl ?_
        refine p1 rfl ?_
        refine D_end ?_
        refine x_then ?_
        refine D_weak [(1, v_rounds), (2, (.int .i64 before)), (3, (.pointer (some ⟨g8, 0, none⟩))), (12, u1), (13, (.int .i64 ((r.In.length : Nat) : Int))), (14, (.int .i64 ((k : Nat) : Int))), (30, (.bool true))] ⟨rfl, rfl, rfl, rfl, rfl, rfl, rfl, trivial⟩ ?_
        refine C_t rfl ?_
        refine C_seq ?_
        refine C_reg ?_
        refine p1 rfl ?_
        refine D_end ?_
        refine x_then ?_
        refine C_ret ?_
        refine x_blk_ret ?_
        refine x_then_ret ?_
        refine x_then_ret ?_
        refine x_blk_ret ?_
        refine x_then_ret ?_
        refine R_1 rfl rfl fun w' hs => ⟨congrArg (fun z => Ending.returned (Value.bool z)) ?_, hs.bel⟩
        show (false : Bool) = supL r rounds before
        exact supL_in hy2 (befL_f hz2 (by omega))
      · have pr16 : ¬ (z2 : Int) < 0 := of_decide_eq_false h16
        refine p1 rfl <| p1 rfl ?_
        refine q1 rfl (D_ix (l := rounds) (j := (y2.toNat)) s_25 rfl rfl rfl (fun w' hs => (rd_at hs h_rounds)) (Int.toNat_of_nonneg (by omega)).symm (lt_of_some hz2)) ?_
        refine q1 rfl (lr0 o_3 rfl rfl at14 rfl) ?_
        refine p1 rfl <| p1 rfl <| p1 rfl ?_
        refine D_end ?_
        refine x_then ?_
        refine D_weak [(1, v_rounds), (2, (.int .i64 before)), (3, (.pointer (some ⟨g8, 0, none⟩))), (12, u1), (13, (.int .i64 ((r.In.length : Nat) : Int))), (14, (.int .i64 ((k : Nat) : Int))), (30, (.bool (decide ((before : Int) ≤ z2))))] ⟨rfl, rfl, rfl, rfl, rfl, rfl, rfl, trivial⟩ ?_
        refine C_if _ rfl (fun h17 => ?_) (fun h17 => ?_)
        · have pr17 : (before : Int) ≤ z2 := of_decide_eq_true h17
          refine C_seq ?_
          refine C_reg ?_
          refine p1 rfl ?_
          refine D_end ?_
          refine x_then ?_
          refine C_ret ?_
          refine x_blk_ret ?_
          refine x_then_ret ?_
          refine x_then_ret ?_
          refine x_blk_ret ?_
          refine x_then_ret ?_
          refine R_1 rfl rfl fun w' hs => ⟨congrArg (fun z => Ending.returned (Value.bool z)) ?_, hs.bel⟩
          show (false : Bool) = supL r rounds before
          exact supL_in hy2 (befL_f hz2 (by omega))
        · have pr17 : ¬ (before : Int) ≤ z2 := of_decide_eq_false h17
          refine C_skip ?_
          refine x_blk ?_
          refine x_then ?_
          refine C_reg ?_
          refine q1 rfl (D_add rfl rfl rfl (r := ((k + 1 : Nat) : Int)) (by omega) (by omega)) ?_
          refine p1 rfl ?_
          refine D_end ?_
          refine x_then ?_
          refine fun ac w' hf hs => ⟨_, ?_, k + 1, ?_, ?_, rfl, hf.weak ⟨rfl, rfl, rfl, rfl, rfl, rfl, trivial⟩, hs⟩
          · omega
          · first | assumption | omega | simp
          · refine forall_step hi ?_; intro y hy; obtain rfl : y = y2 := Option.some.inj (hy.symm.trans hy2); exact befL_t hz2 (by omega)
    · have pr9 : ¬ (((k : Nat) : Int) : Int) < ((r.In.length : Nat) : Int) := of_decide_eq_false h9
      refine C_exit ?_
      refine x_then_exit ?_
      refine x_then_exit ?_
      refine x_blk_eq ?_
      refine x_then ?_
      refine C_seq ?_
      refine C_seq ?_
      refine C_reg ?_
      refine q1 rfl (D_fb f_67_2 rfl rfl (q := 2) rfl) ?_
      refine q1 rfl (lb 0 o_25 rfl rfl rfl rfl) ?_
      refine q1 rfl (D_len s_25 rfl rfl (rd_sl hu4)) ?_
      refine p1 rfl ?_
      refine D_end ?_
      refine x_then ?_
      refine C_block ?_
      refine C_loop (fun m_ ac w' => ∃ (m : Nat), (m ≤ r.Out.length) ∧ (∀ i, i < m → ∀ y, r.Out[i]? = some y → nonL rounds y = true) ∧ m_ = r.Out.length - m ∧ Fits ac 45 [(1, v_rounds), (33, u3), (34, (.int .i64 ((r.Out.length : Nat) : Int))), (35, (.int .i64 ((m : Nat) : Int)))] ∧ St w ([bx g8 [(.int .i64 r.For), u1, u3]]) w') ?_ ?_
      · refine fun ac w' hf hs => ⟨_, 0, ?_, ?_, rfl, hf.weak ⟨rfl, rfl, rfl, rfl, trivial⟩, hs⟩
        · first | assumption | omega | simp
        · intro i hi; omega
      · rintro m_ ac w' ⟨m, hm, ho, rfl, hf, hs⟩
        refine D.use ?_ hf hs
        clear hf hs ac w'
        refine C_seq ?_
        refine C_reg ?_
        refine p1 rfl ?_
        refine D_end ?_
        refine x_then ?_
        refine C_seq ?_
        refine C_if _ rfl (fun h18 => ?_) (fun h18 => ?_)
        · have pr18 : (((m : Nat) : Int) : Int) < ((r.Out.length : Nat) : Int) := of_decide_eq_true h18
          refine C_skip ?_
          refine x_then ?_
          refine C_seq ?_
          refine C_block ?_
          refine C_seq ?_
          refine C_reg ?_
          obtain ⟨y3, hy3⟩ := some_of_lt (l := r.Out) (i := m) (by omega)
          have hyn := asc_at (isR_out hr) hy3
          obtain ⟨es19, at20, hr21⟩ := rd_elem (n := 1) rfl hu4 hy3
          obtain rfl : es19 = [.int .i64 y3] := hr21
          refine q1 rfl (D_ix (l := r.Out) (j := m) s_25 rfl rfl rfl (fun w' hs => (rd_at hs hu4)) rfl (lt_of_some hy3)) ?_
          refine q1 rfl (lr0 o_3 rfl rfl at20 rfl) ?_
          refine p1 rfl ?_
          refine D_end ?_
          refine x_then ?_
          refine C_seq ?_
          refine C_reg ?_
          refine p1 rfl <| p1 rfl ?_
          obtain ⟨z3, hz3⟩ := some_of_lt (l := rounds) (i := (y3.toNat)) (by omega)
          obtain ⟨es22, at23, hr24⟩ := rd_elem (n := 1) rfl h_rounds hz3
          obtain rfl : es22 = [.int .i64 z3] := hr24
          refine q1 rfl (D_ix (l := rounds) (j := (y3.toNat)) s_25 rfl rfl rfl (fun w' hs => (rd_at hs h_rounds)) (Int.toNat_of_nonneg (by omega)).symm (lt_of_some hz3)) ?_
          refine q1 rfl (lr0 o_3 rfl rfl at23 rfl) ?_
          refine p1 rfl ?_
          refine D_end ?_
          refine x_then ?_
          refine C_if _ rfl (fun h25 => ?_) (fun h25 => ?_)
          · have pr25 : (0 : Int) ≤ z3 := of_decide_eq_true h25
            refine C_seq ?_
            refine C_reg ?_
            refine p1 rfl ?_
            refine D_end ?_
            refine x_then ?_
            refine C_ret ?_
            refine x_blk_ret ?_
            refine x_then_ret ?_
            refine x_then_ret ?_
            refine x_blk_ret ?_
            refine x_then_ret ?_
            refine R_1 rfl rfl fun w' hs => ⟨congrArg (fun z => Ending.returned (Value.bool z)) ?_, hs.bel⟩
            show (false : Bool) = supL r rounds before
            exact supL_out hy3 (nonL_f hz3 (by omega))
          · have pr25 : ¬ (0 : Int) ≤ z3 := of_decide_eq_false h25
            refine C_skip ?_
            refine x_blk ?_
            refine x_then ?_
            refine C_reg ?_
            refine q1 rfl (D_add rfl rfl rfl (r := ((m + 1 : Nat) : Int)) (by omega) (by omega)) ?_
            refine p1 rfl ?_
            refine D_end ?_
            refine x_then ?_
            refine fun ac w' hf hs => ⟨_, ?_, m + 1, ?_, ?_, rfl, hf.weak ⟨rfl, rfl, rfl, rfl, trivial⟩, hs⟩
            · omega
            · first | assumption | omega | simp
            · refine forall_step ho ?_; intro y hy; obtain rfl : y = y3 := Option.some.inj (hy.symm.trans hy3); exact nonL_t hz3 (by omega)
        · have pr18 : ¬ (((m : Nat) : Int) : Int) < ((r.Out.length : Nat) : Int) := of_decide_eq_false h18
          refine C_exit ?_
          refine x_then_exit ?_
          refine x_then_exit ?_
          refine x_blk_eq ?_
          refine x_then ?_
          refine C_seq ?_
          refine C_reg ?_
          refine p1 rfl ?_
          refine D_end ?_
          refine x_then ?_
          refine C_ret ?_
          refine R_1 rfl rfl fun w' hs => ⟨congrArg (fun z => Ending.returned (Value.bool z)) ?_, hs.bel⟩
          show (true : Bool) = supL r rounds before
          exact supL_y (fun i h => hi i (by omega)) (fun i h => ho i (by omega))

theorem spec_l11Before (w : World) (v_l : Value) (l : (List Int)) (v_rounds : Value) (rounds : (List Int)) (round : Int) (h_l : Gd.rd w [v_l] l) (h_rounds : Gd.rd w [v_rounds] rounds) (hl : asc l (rounds.length : Int) = true) : Calls Try.prog 101 [v_l, v_rounds, (.int .i64 round)].toArray w (Val w (.bool (l.all (befL rounds round)))) := by
  have hm1 := rd_max h_l
  have hm2 := rd_max h_rounds
  refine enter 33 Try.func101 rfl rfl rfl ?_
  refine C_seq ?_
  refine C_reg ?_
  refine p1 rfl ?_
  refine D_end ?_
  refine x_then ?_
  refine C_seq ?_
  refine C_seq ?_
  refine C_reg ?_
  refine p1 rfl ?_
  refine D_end ?_
  refine x_then ?_
  refine C_block ?_
  refine C_loop (fun m_ ac w' => ∃ (k : Nat), (k ≤ l.length) ∧ (∀ i, i < k → ∀ y, l[i]? = some y → befL rounds round y = true) ∧ m_ = l.length - k ∧ Fits ac 33 [(0, v_l), (1, v_rounds), (2, (.int .i64 round)), (7, (.int .i64 ((k : Nat) : Int)))] ∧ St w ([]) w') ?_ ?_
  · refine fun ac w' hf hs => ⟨_, 0, ?_, ?_, rfl, hf.weak ⟨rfl, rfl, rfl, rfl, trivial⟩, hs⟩
    · first | assumption | omega | simp
    · intro i hi; omega
  · rintro m_ ac w' ⟨k, hk, hi, rfl, hf, hs⟩
    refine D.use ?_ hf hs
    clear hf hs ac w'
    refine C_seq ?_
    refine C_seq ?_
    refine C_reg ?_
    refine p1 rfl <| p1 rfl ?_
    refine q1 rfl (D_len s_25 rfl rfl (rd_sl h_l)) ?_
    refine p1 rfl ?_
    refine D_end ?_
    refine x_then ?_
    refine C_if _ rfl (fun h3 => ?_) (fun h3 => ?_)
    · have pr3 : (((k : Nat) : Int) : Int) < ((l.length : Nat) : Int) := of_decide_eq_true h3
      refine C_skip ?_
      refine x_then ?_
      refine C_seq ?_
      refine C_block ?_
      refine C_seq ?_
      refine C_reg ?_
      refine p1 rfl <| p1 rfl <| p1 rfl ?_
      obtain ⟨y2, hy2⟩ := some_of_lt (l := l) (i := k) (by omega)
      have hyn := asc_at hl hy2
      obtain ⟨es4, at5, hr6⟩ := rd_elem (n := 1) rfl h_l hy2
      obtain rfl : es4 = [.int .i64 y2] := hr6
      refine q1 rfl (D_ix (l := l) (j := k) s_25 rfl rfl rfl (fun w' hs => (rd_at hs h_l)) rfl (lt_of_some hy2)) ?_
      refine q1 rfl (lr0 o_3 rfl rfl at5 rfl) ?_
      obtain ⟨z2, hz2⟩ := some_of_lt (l := rounds) (i := (y2.toNat)) (by omega)
      obtain ⟨es7, at8, hr9⟩ := rd_elem (n := 1) rfl h_rounds hz2
      obtain rfl : es7 = [.int .i64 z2] := hr9
      refine q1 rfl (D_ix (l := rounds) (j := (y2.toNat)) s_25 rfl rfl rfl (fun w' hs => (rd_at hs h_rounds)) (Int.toNat_of_nonneg (by omega)).symm (lt_of_some hz2)) ?_
      refine q1 rfl (lr0 o_3 rfl rfl at8 rfl) ?_
      refine p1 rfl <| p1 rfl ?_
      refine gs 22 rfl rfl (fun h10 => ?_) (fun h10 => ?_)
      · have pr10 : (z2 : Int) < 0 := of_decide_eq_true h10
        refine n1 rfl ?_
        refine n1 rfl ?_
        refine n1 rfl ?_
        refine n1 rfl ?_
        refine n1 rfl ?_
        refine n1 rfl ?_
        refine n1 rfl ?_
        refine n1 rfl ?_
        refine n1 rfl ?_
        refine p1 rfl ?_
        refine D_end ?_
        refine x_then ?_
        refine D_weak [(0, v_l), (1, v_rounds), (2, (.int .i64 round)), (7, (.int .i64 ((k : Nat) : Int))), (32, (.bool true))] ⟨rfl, rfl, rfl, rfl, rfl, trivial⟩ ?_
        refine C_t rfl ?_
        refine C_seq ?_
        refine C_reg ?_
        refine p1 rfl ?_
        refine D_end ?_
        refine x_then ?_
        refine C_ret ?_
        refine x_blk_ret ?_
        refine x_then_ret ?_
        refine x_then_ret ?_
        refine x_blk_ret ?_
        refine x_then_ret ?_
        refine R_1 rfl rfl fun w' hs => ⟨congrArg (fun z => Ending.returned (Value.bool z)) ?_, hs.bel⟩
        show (false : Bool) = l.all (befL rounds round)
        exact (all_bad hy2 (befL_f hz2 (by omega))).symm
      · have pr10 : ¬ (z2 : Int) < 0 := of_decide_eq_false h10
        refine p1 rfl <| p1 rfl <| p1 rfl ?_
        refine q1 rfl (D_ix (l := l) (j := k) s_25 rfl rfl rfl (fun w' hs => (rd_at hs h_l)) rfl (lt_of_some hy2)) ?_
        refine q1 rfl (lr0 o_3 rfl rfl at5 rfl) ?_
        refine q1 rfl (D_ix (l := rounds) (j := (y2.toNat)) s_25 rfl rfl rfl (fun w' hs => (rd_at hs h_rounds)) (Int.toNat_of_nonneg (by omega)).symm (lt_of_some hz2)) ?_
        refine q1 rfl (lr0 o_3 rfl rfl at8 rfl) ?_
        refine p1 rfl <| p1 rfl <| p1 rfl ?_
        refine D_end ?_
        refine x_then ?_
        refine D_weak [(0, v_l), (1, v_rounds), (2, (.int .i64 round)), (7, (.int .i64 ((k : Nat) : Int))), (32, (.bool (decide ((round : Int) ≤ z2))))] ⟨rfl, rfl, rfl, rfl, rfl, trivial⟩ ?_
        refine C_if _ rfl (fun h11 => ?_) (fun h11 => ?_)
        · have pr11 : (round : Int) ≤ z2 := of_decide_eq_true h11
          refine C_seq ?_
          refine C_reg ?_
          refine p1 rfl ?_
          refine D_end ?_
          refine x_then ?_
          refine C_ret ?_
          refine x_blk_ret ?_
          refine x_then_ret ?_
          refine x_then_ret ?_
          refine x_blk_ret ?_
          refine x_then_ret ?_
          refine R_1 rfl rfl fun w' hs => ⟨congrArg (fun z => Ending.returned (Value.bool z)) ?_, hs.bel⟩
          show (false : Bool) = l.all (befL rounds round)
          exact (all_bad hy2 (befL_f hz2 (by omega))).symm
        · have pr11 : ¬ (round : Int) ≤ z2 := of_decide_eq_false h11
          refine C_skip ?_
          refine x_blk ?_
          refine x_then ?_
          refine C_reg ?_
          refine p1 rfl ?_
          refine q1 rfl (D_add rfl rfl rfl (r := ((k + 1 : Nat) : Int)) (by omega) (by omega)) ?_
          refine p1 rfl ?_
          refine D_end ?_
          refine x_then ?_
          refine fun ac w' hf hs => ⟨_, ?_, k + 1, ?_, ?_, rfl, hf.weak ⟨rfl, rfl, rfl, rfl, trivial⟩, hs⟩
          · omega
          · first | assumption | omega | simp
          · refine forall_step hi ?_; intro y hy; obtain rfl : y = y2 := Option.some.inj (hy.symm.trans hy2); exact befL_t hz2 (by omega)
    · have pr3 : ¬ (((k : Nat) : Int) : Int) < ((l.length : Nat) : Int) := of_decide_eq_false h3
      refine C_exit ?_
      refine x_then_exit ?_
      refine x_then_exit ?_
      refine x_blk_eq ?_
      refine x_then ?_
      refine C_seq ?_
      refine C_reg ?_
      refine p1 rfl ?_
      refine D_end ?_
      refine x_then ?_
      refine C_ret ?_
      refine R_1 rfl rfl fun w' hs => ⟨congrArg (fun z => Ending.returned (Value.bool z)) ?_, hs.bel⟩
      show (true : Bool) = l.all (befL rounds round)
      exact (all_of_idx (fun i h => hi i (by omega))).symm

theorem spec_l11None (w : World) (v_l : Value) (l : (List Int)) (v_rounds : Value) (rounds : (List Int)) (h_l : Gd.rd w [v_l] l) (h_rounds : Gd.rd w [v_rounds] rounds) (hl : asc l (rounds.length : Int) = true) : Calls Try.prog 102 [v_l, v_rounds].toArray w (Val w (.bool (l.all (nonL rounds)))) := by
  have hm1 := rd_max h_l
  have hm2 := rd_max h_rounds
  refine enter 20 Try.func102 rfl rfl rfl ?_
  refine C_seq ?_
  refine C_reg ?_
  refine p1 rfl ?_
  refine D_end ?_
  refine x_then ?_
  refine C_seq ?_
  refine C_seq ?_
  refine C_reg ?_
  refine p1 rfl ?_
  refine D_end ?_
  refine x_then ?_
  refine C_block ?_
  refine C_loop (fun m_ ac w' => ∃ (k : Nat), (k ≤ l.length) ∧ (∀ i, i < k → ∀ y, l[i]? = some y → nonL rounds y = true) ∧ m_ = l.length - k ∧ Fits ac 20 [(0, v_l), (1, v_rounds), (5, (.int .i64 ((k : Nat) : Int)))] ∧ St w ([]) w') ?_ ?_
  · refine fun ac w' hf hs => ⟨_, 0, ?_, ?_, rfl, hf.weak ⟨rfl, rfl, rfl, trivial⟩, hs⟩
    · first | assumption | omega | simp
    · intro i hi; omega
  · rintro m_ ac w' ⟨k, hk, hi, rfl, hf, hs⟩
    refine D.use ?_ hf hs
    clear hf hs ac w'
    refine C_seq ?_
    refine C_seq ?_
    refine C_reg ?_
    refine p1 rfl <| p1 rfl ?_
    refine q1 rfl (D_len s_25 rfl rfl (rd_sl h_l)) ?_
    refine p1 rfl ?_
    refine D_end ?_
    refine x_then ?_
    refine C_if _ rfl (fun h3 => ?_) (fun h3 => ?_)
    · have pr3 : (((k : Nat) : Int) : Int) < ((l.length : Nat) : Int) := of_decide_eq_true h3
      refine C_skip ?_
      refine x_then ?_
      refine C_seq ?_
      refine C_block ?_
      refine C_seq ?_
      refine C_reg ?_
      refine p1 rfl <| p1 rfl <| p1 rfl ?_
      obtain ⟨y2, hy2⟩ := some_of_lt (l := l) (i := k) (by omega)
      have hyn := asc_at hl hy2
      obtain ⟨es4, at5, hr6⟩ := rd_elem (n := 1) rfl h_l hy2
      obtain rfl : es4 = [.int .i64 y2] := hr6
      refine q1 rfl (D_ix (l := l) (j := k) s_25 rfl rfl rfl (fun w' hs => (rd_at hs h_l)) rfl (lt_of_some hy2)) ?_
      refine q1 rfl (lr0 o_3 rfl rfl at5 rfl) ?_
      obtain ⟨z2, hz2⟩ := some_of_lt (l := rounds) (i := (y2.toNat)) (by omega)
      obtain ⟨es7, at8, hr9⟩ := rd_elem (n := 1) rfl h_rounds hz2
      obtain rfl : es7 = [.int .i64 z2] := hr9
      refine q1 rfl (D_ix (l := rounds) (j := (y2.toNat)) s_25 rfl rfl rfl (fun w' hs => (rd_at hs h_rounds)) (Int.toNat_of_nonneg (by omega)).symm (lt_of_some hz2)) ?_
      refine q1 rfl (lr0 o_3 rfl rfl at8 rfl) ?_
      refine p1 rfl ?_
      refine D_end ?_
      refine x_then ?_
      refine C_if _ rfl (fun h10 => ?_) (fun h10 => ?_)
      · have pr10 : (0 : Int) ≤ z2 := of_decide_eq_true h10
        refine C_seq ?_
        refine C_reg ?_
        refine p1 rfl ?_
        refine D_end ?_
        refine x_then ?_
        refine D_weak [(4, (.bool false))] ⟨rfl, trivial⟩ ?_
        refine C_ret ?_
        refine x_blk_ret ?_
        refine x_then_ret ?_
        refine x_then_ret ?_
        refine x_blk_ret ?_
        refine x_then_ret ?_
        refine R_1 rfl rfl fun w' hs => ⟨congrArg (fun z => Ending.returned (Value.bool z)) ?_, hs.bel⟩
        show (false : Bool) = l.all (nonL rounds)
        exact (all_bad hy2 (nonL_f hz2 (by omega))).symm
      · have pr10 : ¬ (0 : Int) ≤ z2 := of_decide_eq_false h10
        refine C_skip ?_
        refine x_blk ?_
        refine x_then ?_
        refine C_reg ?_
        refine p1 rfl ?_
        refine q1 rfl (D_add rfl rfl rfl (r := ((k + 1 : Nat) : Int)) (by omega) (by omega)) ?_
        refine p1 rfl ?_
        refine D_end ?_
        refine x_then ?_
        refine fun ac w' hf hs => ⟨_, ?_, k + 1, ?_, ?_, rfl, hf.weak ⟨rfl, rfl, rfl, trivial⟩, hs⟩
        · omega
        · first | assumption | omega | simp
        · refine forall_step hi ?_; intro y hy; obtain rfl : y = y2 := Option.some.inj (hy.symm.trans hy2); exact nonL_t hz2 (by omega)
    · have pr3 : ¬ (((k : Nat) : Int) : Int) < ((l.length : Nat) : Int) := of_decide_eq_false h3
      refine C_exit ?_
      refine x_then_exit ?_
      refine x_then_exit ?_
      refine x_blk_eq ?_
      refine x_then ?_
      refine C_seq ?_
      refine C_reg ?_
      refine p1 rfl ?_
      refine D_end ?_
      refine x_then ?_
      refine C_ret ?_
      refine R_1 rfl rfl fun w' hs => ⟨congrArg (fun z => Ending.returned (Value.bool z)) ?_, hs.bel⟩
      show (true : Bool) = l.all (nonL rounds)
      exact (all_of_idx (fun i h => hi i (by omega))).symm

set_option maxHeartbeats 4000000 in
theorem impl_rounds (w : World) (c_b : List Value) (b : Beliefs) (h_b : Gd.rd w c_b b) (ho : okB b = true) (hsol : HasSol b) (hrl : b.Reasons.length ≤ 1048576) : Calls Try.prog 62 [(.agg c_b.toArray)].toArray w (Res w (vec b.Nodes.toNat (rnds b) : List Int)) := by
  obtain ⟨u1, rfl, hu2⟩ := open_Beliefs h_b
  have hm3 := rd_max hu2
  have hbn := okB_nodes ho
  obtain ⟨n, hn⟩ : ∃ n : Nat, b.Nodes = (n : Int) := ⟨b.Nodes.toNat, by omega⟩
  refine enter 90 Try.func62 rfl rfl rfl ?_
  refine C_seq ?_
  refine C_reg ?_
  refine li rfl (D_box rfl rfl rfl rfl rfl fun g4 => ?_)
  refine p1 rfl ?_
  refine D_end ?_
  refine x_then ?_
  refine D_H ([bx g4 [(.int .i64 b.Nodes), u1]]) rfl ?_
  refine C_seq ?_
  refine C_reg ?_
  refine q1 rfl (lbw 0 a_30 rfl rfl rfl) ?_
  refine li rfl (crl b_83 rfl rfl rfl rfl (fun w' hs => (impl_strata w' [(.int .i64 b.Nodes), u1] b (rd_at hs h_b) (by first | assumption | omega | (unfold szm at *; split at * <;> omega)) (by first | assumption | omega | (unfold szm at *; split at * <;> omega)))) fun v5 => ?_)
  refine p1 rfl ?_
  refine D_end ?_
  refine x_then ?_
  refine D_H ([ov [v5] (vec b.Nodes.toNat (strat b) : (List Int)), bx g4 [(.int .i64 b.Nodes), u1]]) rfl ?_
  refine C_seq ?_
  refine C_reg ?_
  refine q1 rfl (D_fb f_30_0 rfl rfl (q := 0) rfl) ?_
  refine q1 rfl (lb 1 o_3 rfl rfl rfl rfl) ?_
  refine li rfl (D_mk (α := Int) (z := 0) s_25 y_3 rfl (congrArg (fun z => some (Value.int .i64 z)) hn) rfl rfl (by omega) (by omega) fun v6 => ?_)
  refine D_eq 0 rfl (vec_rep _ _) ?_
  refine p1 rfl ?_
  refine D_end ?_
  refine x_then ?_
  refine D_H ([ov [v6] (vec n (fun _ => 0) : (List Int)), ov [v5] (vec b.Nodes.toNat (strat b) : (List Int)), bx g4 [(.int .i64 b.Nodes), u1]]) rfl ?_
  refine C_seq ?_
  refine C_reg ?_
  refine p1 rfl ?_
  refine D_end ?_
  refine x_then ?_
  refine C_seq ?_
  refine C_seq ?_
  refine C_reg ?_
  refine p1 rfl ?_
  refine q1 rfl (lenv s_25 rfl rfl (fun w' hs => (rd_own (k := 0) hs rfl)) (vec_len _ _)) ?_
  refine p1 rfl ?_
  refine D_end ?_
  refine x_then ?_
  refine C_block ?_
  refine C_loop (fun m_ ac w' => ∃ (k : Nat), ∃ (top : Int), ∃ (ga : Nat → Int), (k ≤ n) ∧ (∀ x, x < n → ga x = if x < k then -1 else 0) ∧ (0 ≤ top ∧ top ≤ 23) ∧ (∀ x, x < k → strat b x ≤ top) ∧ m_ = n - k ∧ Fits ac 90 [(1, (.pointer (some ⟨g4, 0, none⟩))), (3, v5), (4, v6), (5, (.int .i64 top)), (20, (.int .i64 ((n : Nat) : Int))), (21, (.int .i64 ((k : Nat) : Int)))] ∧ St w ([ov [v6] (vec n ga : (List Int)), ov [v5] (vec b.Nodes.toNat (strat b) : (List Int)), bx g4 [(.int .i64 b.Nodes), u1]]) w') ?_ ?_
  · refine fun ac w' hf hs => ⟨_, 0, 0, (fun _ => 0), ?_, ?_, ?_, ?_, rfl, hf.weak ⟨rfl, rfl, rfl, rfl, rfl, rfl, trivial⟩, hs⟩
    · first | assumption | omega | simp
    · intro x hx; rw [if_neg (by omega)]
    · first | assumption | omega | simp
    · intro x hx; omega
  · rintro m_ ac w' ⟨k, top, ga, hk, hga, ht0, htp, rfl, hf, hs⟩
    refine D.use ?_ hf hs
    clear hf hs ac w'
    refine C_seq ?_
    refine C_reg ?_
    refine p1 rfl ?_
    refine D_end ?_
    refine x_then ?_
    refine D_H ([ov [v6] (vec n ga : (List Int)), ov [v5] (vec b.Nodes.toNat (strat b) : (List Int)), bx g4 [(.int .i64 b.Nodes), u1]]) rfl ?_
    refine C_seq ?_
    refine C_if _ rfl (fun h7 => ?_) (fun h7 => ?_)
    · have pr7 : (((k : Nat) : Int) : Int) < ((n : Nat) : Int) := of_decide_eq_true h7
      refine C_skip ?_
      refine x_then ?_
      refine C_seq ?_
      refine C_block ?_
      refine C_seq ?_
      refine C_reg ?_
      refine p1 rfl <| p1 rfl ?_
      refine D_end ?_
      refine x_then ?_
      refine C_seq ?_
      refine C_reg ?_
      refine p1 rfl <| p1 rfl ?_
      have hx9 : (vec n ga)[k]? = some (ga k) := vec_get (by omega)
      refine q1 rfl (D_ix (l := (vec n ga)) (j := k) s_25 rfl rfl rfl (fun w' hs => (rd_own (k := 0) hs rfl)) rfl (lt_of_some hx9)) ?_
      refine li rfl (so (α := Int) (z := (-1)) 0 z_3 rfl rfl rfl rfl rfl (lt_of_some hx9) ?_)
      refine D_eq 0 rfl (vec_set _ _ _ _) ?_
      refine D_end ?_
      refine x_then ?_
      refine D_H ([ov [v6] (vec n (upd ga k (-1)) : (List Int)), ov [v5] (vec b.Nodes.toNat (strat b) : (List Int)), bx g4 [(.int .i64 b.Nodes), u1]]) rfl ?_
      refine C_reg ?_
      refine p1 rfl <| p1 rfl <| p1 rfl ?_
      have hx11 : (vec b.Nodes.toNat (strat b))[k]? = some ((strat b) k) := vec_get (by omega)
      refine q1 rfl (D_ix (l := (vec b.Nodes.toNat (strat b))) (j := k) s_25 rfl rfl rfl (fun w' hs => (rd_own (k := 1) hs rfl)) rfl (lt_of_some hx11)) ?_
      refine q1 rfl (lo (α := Int) 1 o_3 rfl rfl rfl hx11) ?_
      have hlt := strat_lt hsol (x := k) (by omega)
      refine q1 rfl (D_max rfl rfl rfl) ?_
      refine p1 rfl ?_
      refine D_end ?_
      refine x_blk ?_
      refine x_then ?_
      refine C_reg ?_
      refine q1 rfl (D_add rfl rfl rfl (r := ((k + 1 : Nat) : Int)) (by omega) (by omega)) ?_
      refine p1 rfl ?_
      refine D_end ?_
      refine x_then ?_
      refine fun ac w' hf hs => ⟨_, ?_, k + 1, (max top ((strat b) k)), (upd ga k (-1)), ?_, ?_, ?_, ?_, rfl, hf.weak ⟨rfl, rfl, rfl, rfl, rfl, rfl, trivial⟩, hs⟩
      · omega
      · first | assumption | omega | simp
      · intro x hx; unfold upd; by_cases e : x = k; (· rw [if_pos e, if_pos (by omega)]); (· rw [if_neg e, hga x hx]; split <;> split <;> omega)
      · omega
      · refine forall_step (fun x h => ?_) ?_; (· have := htp x h; omega); (· omega)
    · have pr7 : ¬ (((k : Nat) : Int) : Int) < ((n : Nat) : Int) := of_decide_eq_false h7
      refine C_exit ?_
      refine x_then_exit ?_
      refine x_then_exit ?_
      refine x_blk_eq ?_
      refine x_then ?_
      refine C_seq ?_
      refine C_reg ?_
      refine p1 rfl ?_
      refine D_end ?_
      refine x_then ?_
      refine C_seq ?_
      refine C_seq ?_
      refine C_reg ?_
      refine p1 rfl ?_
      refine D_end ?_
      refine x_then ?_
      refine C_block ?_
      refine C_loop (fun m_ ac w' => ∃ (lev : Nat), ∃ (rd : Nat), ∃ (gb : Nat → Int), (Rch b ⟨lev, gb, rd⟩) ∧ ((lev : Int) ≤ top + 1) ∧ m_ = (top + 1 - lev).toNat + (n - cnt n (nn gb)) ∧ Fits ac 90 [(1, (.pointer (some ⟨g4, 0, none⟩))), (3, v5), (4, v6), (5, (.int .i64 top)), (7, (.int .i64 ((rd : Nat) : Int))), (8, (.int .i64 ((lev : Nat) : Int)))] ∧ St w ([ov [v6] (vec n gb : (List Int)), ov [v5] (vec b.Nodes.toNat (strat b) : (List Int)), bx g4 [(.int .i64 b.Nodes), u1]]) w') ?_ ?_
      · refine D_eq 0 rfl (show (vec n ga : (List Int)) = vec n (fun _ => -1) from by exact vec_congr (fun x hx => by rw [hga x hx, if_pos (by omega)])) ?_
        refine fun ac w' hf hs => ⟨_, 0, 0, (fun _ => -1), ?_, ?_, rfl, hf.weak ⟨rfl, rfl, rfl, rfl, rfl, rfl, trivial⟩, hs⟩
        · exact Rch.init b
        · first | assumption | omega | simp
      · rintro m_ ac w' ⟨lev, rd, gb, hR, hlv, rfl, hf, hs⟩
        refine D.use ?_ hf hs
        clear hf hs ac w'
        have hrd := hR.rd_le hn ho
        have hcl := cnt_le n (nn gb)
        simp only at hrd
        refine C_seq ?_
        refine C_seq ?_
        refine C_reg ?_
        refine p1 rfl <| p1 rfl <| p1 rfl ?_
        refine D_end ?_
        refine x_then ?_
        refine D_H ([ov [v6] (vec n gb : (List Int)), ov [v5] (vec b.Nodes.toNat (strat b) : (List Int)), bx g4 [(.int .i64 b.Nodes), u1]]) rfl ?_
        refine C_if _ rfl (fun h12 => ?_) (fun h12 => ?_)
        · have pr12 : (((lev : Nat) : Int) : Int) ≤ top := of_decide_eq_true h12
          refine C_skip ?_
          refine x_then ?_
          refine C_block ?_
          refine C_seq ?_
          refine C_reg ?_
          refine p1 rfl ?_
          refine D_end ?_
          refine x_then ?_
          refine C_seq ?_
          refine C_seq ?_
          refine C_reg ?_
          refine q1 rfl (D_fb f_30_1 rfl rfl (q := 1) rfl) ?_
          refine q1 rfl (lb 2 o_28 rfl rfl rfl rfl) ?_
          refine q1 rfl (D_len s_28 rfl rfl (rd_sl hu2)) ?_
          refine p1 rfl ?_
          refine D_end ?_
          refine x_then ?_
          refine C_block ?_
          refine C_loop (fun m_ ac w' => ∃ (k2 : Nat), ∃ (vc : Value), (k2 ≤ b.Reasons.length) ∧ m_ = b.Reasons.length - k2 ∧ Fits ac 90 [(1, (.pointer (some ⟨g4, 0, none⟩))), (3, v5), (4, v6), (5, (.int .i64 top)), (7, (.int .i64 ((rd : Nat) : Int))), (8, (.int .i64 ((lev : Nat) : Int))), (9, vc), (38, u1), (39, (.int .i64 ((b.Reasons.length : Nat) : Int))), (40, (.int .i64 ((k2 : Nat) : Int)))] ∧ St w ([ov [vc] (comeL b lev rd gb k2 : (List Int)), ov [v6] (vec n gb : (List Int)), ov [v5] (vec b.Nodes.toNat (strat b) : (List Int)), bx g4 [(.int .i64 b.Nodes), u1]]) w') ?_ ?_
          · refine D_nil (α := Int) ?_
            refine D_eq 0 rfl (show ([] : (List Int)) = comeL b lev rd gb 0 from by rfl) ?_
            refine fun ac w' hf hs => ⟨_, 0, (.slice none 0 0), ?_, rfl, hf.weak ⟨rfl, rfl, rfl, rfl, rfl, rfl, rfl, rfl, rfl, rfl, trivial⟩, hs⟩
            · first | assumption | omega | simp
          · rintro m_ ac w' ⟨k2, vc, hk2, rfl, hf, hs⟩
            refine D.use ?_ hf hs
            clear hf hs ac w'
            have hcl2 := comeL_len b lev rd gb k2
            refine C_seq ?_
            refine C_reg ?_
            refine p1 rfl ?_
            refine D_end ?_
            refine x_then ?_
            refine D_H ([ov [vc] (comeL b lev rd gb k2 : (List Int)), ov [v6] (vec n gb : (List Int)), ov [v5] (vec b.Nodes.toNat (strat b) : (List Int)), bx g4 [(.int .i64 b.Nodes), u1]]) rfl ?_
            refine C_seq ?_
            refine C_if _ rfl (fun h13 => ?_) (fun h13 => ?_)
            · have pr13 : (((k2 : Nat) : Int) : Int) < ((b.Reasons.length : Nat) : Int) := of_decide_eq_true h13
              refine C_skip ?_
              refine x_then ?_
              refine C_seq ?_
              refine C_block ?_
              refine C_seq ?_
              refine C_reg ?_
              obtain ⟨r0, hr0⟩ := some_of_lt (l := b.Reasons) (i := k2) (by omega)
              have hv0 := okB_r ho hr0
              have hF := isR_for hv0
              have hm0 := List.mem_of_getElem? hr0
              obtain ⟨es14, at15, hr16⟩ := rd_elem (n := 3) rfl hu2 hr0
              obtain ⟨u17, u19, rfl, hu18, hu20⟩ := open_Reason hr16
              have hm21 := rd_max hu18
              have hm22 := rd_max hu20
              refine q1 rfl (D_ix (l := b.Reasons) (j := k2) s_28 rfl rfl rfl (fun w' hs => (rd_at hs hu2)) rfl (lt_of_some hr0)) ?_
              refine q1 rfl (lra a_67 rfl rfl at15) ?_
              refine li rfl (D_alloc y_67 rfl rfl rfl rfl fun g23 => ?_)
              refine li rfl (D_stb (vs := [(.int .i64 r0.For), u17, u19]) (cs' := [(.int .i64 r0.For), u17, u19]) 0 z_67 rfl rfl rfl rfl rfl rfl (ocons rfl (ocons (one_rd hu18) (ocons (one_rd hu20) onil))) (by simp) rfl ?_)
              refine D_end ?_
              refine x_then ?_
              refine D_H ([bx g23 [(.int .i64 r0.For), u17, u19], ov [vc] (comeL b lev rd gb k2 : (List Int)), ov [v6] (vec n gb : (List Int)), ov [v5] (vec b.Nodes.toNat (strat b) : (List Int)), bx g4 [(.int .i64 b.Nodes), u1]]) rfl ?_
              refine C_seq ?_
              refine C_reg ?_
              refine p1 rfl ?_
              refine q1 rfl (D_fb f_67_0 rfl rfl (q := 0) rfl) ?_
              refine q1 rfl (lb 0 o_3 rfl rfl rfl rfl) ?_
              have hx25 : (vec b.Nodes.toNat (strat b))[(r0.For.toNat)]? = some ((strat b) (r0.For.toNat)) := vec_get (by omega)
              refine q1 rfl (D_ix (l := (vec b.Nodes.toNat (strat b))) (j := (r0.For.toNat)) s_25 rfl rfl rfl (fun w' hs => (rd_own (k := 3) hs rfl)) (Int.toNat_of_nonneg (by omega)).symm (lt_of_some hx25)) ?_
              refine q1 rfl (lo (α := Int) 3 o_3 rfl rfl rfl hx25) ?_
              refine p1 rfl <| p1 rfl <| p1 rfl ?_
              refine gs 51 rfl rfl (fun h26 => ?_) (fun h26 => ?_)
              · have pr26 : (((strat b) (r0.For.toNat)) : Int) = ((lev : Nat) : Int) := eq_of_beq h26
                refine p1 rfl ?_
                refine q1 rfl (D_fb f_67_0 rfl rfl (q := 0) rfl) ?_
                refine q1 rfl (lb 0 o_3 rfl rfl rfl rfl) ?_
                have hx28 : (vec n gb)[(r0.For.toNat)]? = some (gb (r0.For.toNat)) := vec_get (by omega)
                refine q1 rfl (D_ix (l := (vec n gb)) (j := (r0.For.toNat)) s_25 rfl rfl rfl (fun w' hs => (rd_own (k := 2) hs rfl)) (Int.toNat_of_nonneg (by omega)).symm (lt_of_some hx28)) ?_
                refine q1 rfl (lo (α := Int) 2 o_3 rfl rfl rfl hx28) ?_
                refine p1 rfl <| p1 rfl <| p1 rfl ?_
                refine gs 59 rfl rfl (fun h29 => ?_) (fun h29 => ?_)
                · have pr29 : ((gb (r0.For.toNat)) : Int) < 0 := of_decide_eq_true h29
                  refine q1 rfl (lbw 0 a_67 rfl rfl rfl) ?_
                  refine p1 rfl <| p1 rfl ?_
                  refine li rfl (cv b_84 rfl rfl rfl rfl (fun w' hs => (impl_supported w' [(.int .i64 r0.For), u17, u19] r0 v6 (vec n gb) ((rd : Nat) : Int) (rd_at hs hr16) (rd_own (k := 2) hs rfl) (by rw [vec_len, ← hn]; exact hv0))) ?_)
                  refine p1 rfl ?_
                  refine D_end ?_
                  refine x_then ?_
                  refine D_weak [(1, (.pointer (some ⟨g4, 0, none⟩))), (3, v5), (4, v6), (5, (.int .i64 top)), (7, (.int .i64 ((rd : Nat) : Int))), (8, (.int .i64 ((lev : Nat) : Int))), (9, vc), (11, (.pointer (some ⟨g23, 0, none⟩))), (38, u1), (39, (.int .i64 ((b.Reasons.length : Nat) : Int))), (40, (.int .i64 ((k2 : Nat) : Int))), (64, (.bool (supL r0 (vec n gb) ((rd : Nat) : Int))))] ⟨rfl, rfl, rfl, rfl, rfl, rfl, rfl, rfl, rfl, rfl, rfl, rfl, trivial⟩ ?_
                  refine C_if _ rfl (fun h30 => ?_) (fun h30 => ?_)
                  · refine C_reg ?_
                    refine p1 rfl ?_
                    refine q1 rfl (D_fb f_67_0 rfl rfl (q := 0) rfl) ?_
                    refine q1 rfl (lb 0 o_3 rfl rfl rfl rfl) ?_
                    refine li rfl (D_bs s_25 y_3 rfl (by decide) (by decide) rfl rfl rfl rfl rfl rfl fun g31 => ?_)
                    refine D_fi r0.For ?_
                    refine D_pk (H' := [ov [vc] (comeL b lev rd gb k2 : (List Int)), ov [(.int .i64 r0.For)] (r0.For : Int), bx g31 [(.int .i64 r0.For)], bx g23 [(.int .i64 r0.For), u17, u19], ov [v6] (vec n gb : (List Int)), ov [v5] (vec b.Nodes.toNat (strat b) : (List Int)), bx g4 [(.int .i64 b.Nodes), u1]]) [3, 0, 1, 2, 4, 5, 6] rfl rfl ?_
                    refine li rfl (D_ap s_25 y_3 rfl (by decide) rfl rfl rfl rfl rfl rfl (by first | omega | (simp; omega)) (by first | omega | (simp; omega)) fun v32 => ?_)
                    refine p1 rfl ?_
                    refine D_end ?_
                    refine x_blk ?_
                    refine x_then ?_
                    refine D_H ([ov [v32] ((comeL b lev rd gb k2) ++ [r0.For] : (List Int)), bx g23 [(.int .i64 r0.For), u17, u19], ov [v6] (vec n gb : (List Int)), ov [v5] (vec b.Nodes.toNat (strat b) : (List Int)), bx g4 [(.int .i64 b.Nodes), u1]]) rfl ?_
                    refine C_reg ?_
                    refine q1 rfl (D_add rfl rfl rfl (r := ((k2 + 1 : Nat) : Int)) (by omega) (by omega)) ?_
                    refine p1 rfl ?_
                    refine D_end ?_
                    refine x_then ?_
                    refine D_eq 0 rfl (show ((comeL b lev rd gb k2) ++ [r0.For] : (List Int)) = comeL b lev rd gb (k2 + 1) from by first | exact comeL_t hr0 (comesR_t hn ho hr0 (by omega) (by omega) (by assumption)) | exact comeL_f hr0 (comesR_f1 (by assumption)) | exact comeL_f hr0 (comesR_f2 (by assumption)) | exact comeL_f hr0 (comesR_f3 hn ho hr0 (by assumption))) ?_
                    refine fun ac w' hf hs => ⟨_, ?_, k2 + 1, v32, ?_, rfl, hf.weak ⟨rfl, rfl, rfl, rfl, rfl, rfl, rfl, rfl, rfl, rfl, trivial⟩, hs.pk [0, 2, 3, 4] rfl rfl⟩
                    · omega
                    · first | assumption | omega | simp
                  · refine C_skip ?_
                    refine x_blk ?_
                    refine x_then ?_
                    refine C_reg ?_
                    refine q1 rfl (D_add rfl rfl rfl (r := ((k2 + 1 : Nat) : Int)) (by omega) (by omega)) ?_
                    refine p1 rfl ?_
                    refine D_end ?_
                    refine x_then ?_
                    refine D_eq 1 rfl (show (comeL b lev rd gb k2 : (List Int)) = comeL b lev rd gb (k2 + 1) from by first | exact comeL_t hr0 (comesR_t hn ho hr0 (by omega) (by omega) (by assumption)) | exact comeL_f hr0 (comesR_f1 (by assumption)) | exact comeL_f hr0 (comesR_f2 (by assumption)) | exact comeL_f hr0 (comesR_f3 hn ho hr0 (by assumption))) ?_
                    refine fun ac w' hf hs => ⟨_, ?_, k2 + 1, vc, ?_, rfl, hf.weak ⟨rfl, rfl, rfl, rfl, rfl, rfl, rfl, rfl, rfl, rfl, trivial⟩, hs.pk [1, 2, 3, 4] rfl rfl⟩
                    · omega
                    · first | assumption | omega | simp
                · have pr29 : ¬ ((gb (r0.For.toNat)) : Int) < 0 := of_decide_eq_false h29
                  refine n1 rfl ?_
                  refine n1 rfl ?_
                  refine n1 rfl ?_
                  refine n1 rfl ?_
                  refine p1 rfl ?_
                  refine D_end ?_
                  refine x_then ?_
                  refine D_weak [(1, (.pointer (some ⟨g4, 0, none⟩))), (3, v5), (4, v6), (5, (.int .i64 top)), (7, (.int .i64 ((rd : Nat) : Int))), (8, (.int .i64 ((lev : Nat) : Int))), (9, vc), (11, (.pointer (some ⟨g23, 0, none⟩))), (38, u1), (39, (.int .i64 ((b.Reasons.length : Nat) : Int))), (40, (.int .i64 ((k2 : Nat) : Int))), (64, (.bool false))] ⟨rfl, rfl, rfl, rfl, rfl, rfl, rfl, rfl, rfl, rfl, rfl, rfl, trivial⟩ ?_
                  refine C_f rfl ?_
                  refine C_skip ?_
                  refine x_blk ?_
                  refine x_then ?_
                  refine C_reg ?_
                  refine q1 rfl (D_add rfl rfl rfl (r := ((k2 + 1 : Nat) : Int)) (by omega) (by omega)) ?_
                  refine p1 rfl ?_
                  refine D_end ?_
                  refine x_then ?_
                  refine D_eq 1 rfl (show (comeL b lev rd gb k2 : (List Int)) = comeL b lev rd gb (k2 + 1) from by first | exact comeL_t hr0 (comesR_t hn ho hr0 (by omega) (by omega) (by assumption)) | exact comeL_f hr0 (comesR_f1 (by assumption)) | exact comeL_f hr0 (comesR_f2 (by assumption)) | exact comeL_f hr0 (comesR_f3 hn ho hr0 (by assumption))) ?_
                  refine fun ac w' hf hs => ⟨_, ?_, k2 + 1, vc, ?_, rfl, hf.weak ⟨rfl, rfl, rfl, rfl, rfl, rfl, rfl, rfl, rfl, rfl, trivial⟩, hs.pk [1, 2, 3, 4] rfl rfl⟩
                  · omega
                  · first | assumption | omega | simp
              · have pr26 : (((strat b) (r0.For.toNat)) : Int) ≠ ((lev : Nat) : Int) := ne_of_beq_false h26
                refine n1 rfl ?_
                refine n1 rfl ?_
                refine n1 rfl ?_
                refine n1 rfl ?_
                refine n1 rfl ?_
                refine n1 rfl ?_
                refine p1 rfl <| p1 rfl ?_
                refine n1 rfl ?_
                refine n1 rfl ?_
                refine n1 rfl ?_
                refine n1 rfl ?_
                refine p1 rfl ?_
                refine D_end ?_
                refine x_then ?_
                refine D_weak [(1, (.pointer (some ⟨g4, 0, none⟩))), (3, v5), (4, v6), (5, (.int .i64 top)), (7, (.int .i64 ((rd : Nat) : Int))), (8, (.int .i64 ((lev : Nat) : Int))), (9, vc), (11, (.pointer (some ⟨g23, 0, none⟩))), (38, u1), (39, (.int .i64 ((b.Reasons.length : Nat) : Int))), (40, (.int .i64 ((k2 : Nat) : Int))), (64, (.bool false))] ⟨rfl, rfl, rfl, rfl, rfl, rfl, rfl, rfl, rfl, rfl, rfl, rfl, trivial⟩ ?_
                refine C_f rfl ?_
                refine C_skip ?_
                refine x_blk ?_
                refine x_then ?_
                refine C_reg ?_
                refine q1 rfl (D_add rfl rfl rfl (r := ((k2 + 1 : Nat) : Int)) (by omega) (by omega)) ?_
                refine p1 rfl ?_
                refine D_end ?_
                refine x_then ?_
                refine D_eq 1 rfl (show (comeL b lev rd gb k2 : (List Int)) = comeL b lev rd gb (k2 + 1) from by first | exact comeL_t hr0 (comesR_t hn ho hr0 (by omega) (by omega) (by assumption)) | exact comeL_f hr0 (comesR_f1 (by assumption)) | exact comeL_f hr0 (comesR_f2 (by assumption)) | exact comeL_f hr0 (comesR_f3 hn ho hr0 (by assumption))) ?_
                refine fun ac w' hf hs => ⟨_, ?_, k2 + 1, vc, ?_, rfl, hf.weak ⟨rfl, rfl, rfl, rfl, rfl, rfl, rfl, rfl, rfl, rfl, trivial⟩, hs.pk [1, 2, 3, 4] rfl rfl⟩
                · omega
                · first | assumption | omega | simp
            · have pr13 : ¬ (((k2 : Nat) : Int) : Int) < ((b.Reasons.length : Nat) : Int) := of_decide_eq_false h13
              refine C_exit ?_
              refine x_then_exit ?_
              refine x_then_exit ?_
              refine x_blk_eq ?_
              refine x_then ?_
              refine C_seq ?_
              refine C_seq ?_
              refine C_reg ?_
              refine p1 rfl ?_
              refine q1 rfl (D_leno 0 s_25 rfl rfl rfl) ?_
              refine p1 rfl ?_
              refine D_end ?_
              refine x_then ?_
              refine C_if _ rfl (fun h33 => ?_) (fun h33 => ?_)
              · have pr33 : ((((comeL b lev rd gb k2).length : Nat) : Int) : Int) = 0 := eq_of_beq h33
                refine C_seq ?_
                refine C_reg ?_
                refine p1 rfl ?_
                refine q1 rfl (D_add rfl rfl rfl (r := ((lev + 1 : Nat) : Int)) (by omega) (by omega)) ?_
                refine p1 rfl ?_
                refine D_end ?_
                refine x_then ?_
                refine C_exit ?_
                refine x_then_exit ?_
                refine x_blk_eq ?_
                refine x_then ?_
                refine fun ac w' hf hs => ⟨_, ?_, lev + 1, rd, gb, ?_, ?_, rfl, hf.weak ⟨rfl, rfl, rfl, rfl, rfl, rfl, trivial⟩, hs.pk [1, 2, 3] rfl rfl⟩
                · first | omega | (have e := upL_done (by omega) (comeL_mem (k := k2) (by omega)) hgc; have hc := up_cnt hn ho (lev := lev) (rd := rd) (g := gb) (by rw [comeL_any (k := k2) (by omega)]; exact decide_eq_true (by omega)); rw [← e] at hc; have := cnt_le n (nn gc); omega)
                · first | exact hR.next (by rw [comeL_any (k := k2) (by omega)]; exact decide_eq_false (by omega)) | exact hR.step (by rw [comeL_any (k := k2) (by omega)]; exact decide_eq_true (by omega)) (upL_done (by omega) (comeL_mem (by omega)) hgc)
                · omega
              · have pr33 : ((((comeL b lev rd gb k2).length : Nat) : Int) : Int) ≠ 0 := ne_of_beq_false h33
                refine C_skip ?_
                refine x_then ?_
                refine C_seq ?_
                refine C_seq ?_
                refine C_reg ?_
                refine p1 rfl ?_
                refine q1 rfl (D_leno 0 s_25 rfl rfl rfl) ?_
                refine p1 rfl ?_
                refine D_end ?_
                refine x_then ?_
                refine C_block ?_
                refine C_loop (fun m_ ac w' => ∃ (m : Nat), ∃ (gc : Nat → Int), (m ≤ (comeL b lev rd gb k2).length) ∧ (∀ x : Nat, gc x = if (x : Int) ∈ (comeL b lev rd gb k2).take m then (rd : Int) else gb x) ∧ m_ = (comeL b lev rd gb k2).length - m ∧ Fits ac 90 [(1, (.pointer (some ⟨g4, 0, none⟩))), (3, v5), (4, v6), (5, (.int .i64 top)), (7, (.int .i64 ((rd : Nat) : Int))), (8, (.int .i64 ((lev : Nat) : Int))), (76, vc), (77, (.int .i64 (((comeL b lev rd gb k2).length : Nat) : Int))), (78, (.int .i64 ((m : Nat) : Int)))] ∧ St w ([ov [vc] (comeL b lev rd gb k2 : (List Int)), ov [v6] (vec n gc : (List Int)), ov [v5] (vec b.Nodes.toNat (strat b) : (List Int)), bx g4 [(.int .i64 b.Nodes), u1]]) w') ?_ ?_
                · refine D_nil (α := Int) ?_
                  refine fun ac w' hf hs => ⟨_, 0, gb, ?_, ?_, rfl, hf.weak ⟨rfl, rfl, rfl, rfl, rfl, rfl, rfl, rfl, rfl, trivial⟩, hs.pk [1, 2, 3, 4] rfl rfl⟩
                  · first | assumption | omega | simp
                  · intro x; exact upL_zero x
                · rintro m_ ac w' ⟨m, gc, hm, hgc, rfl, hf, hs⟩
                  refine D.use ?_ hf hs
                  clear hf hs ac w'
                  refine C_seq ?_
                  refine C_reg ?_
                  refine p1 rfl ?_
                  refine D_end ?_
                  refine x_then ?_
                  refine D_H ([ov [vc] (comeL b lev rd gb k2 : (List Int)), ov [v6] (vec n gc : (List Int)), ov [v5] (vec b.Nodes.toNat (strat b) : (List Int)), bx g4 [(.int .i64 b.Nodes), u1]]) rfl ?_
                  refine C_seq ?_
                  refine C_if _ rfl (fun h34 => ?_) (fun h34 => ?_)
                  · have pr34 : (((m : Nat) : Int) : Int) < (((comeL b lev rd gb k2).length : Nat) : Int) := of_decide_eq_true h34
                    refine C_skip ?_
                    refine x_then ?_
                    refine C_seq ?_
                    refine C_block ?_
                    refine C_seq ?_
                    refine C_reg ?_
                    obtain ⟨y4, hy4⟩ := some_of_lt (l := (comeL b lev rd gb k2)) (i := m) (by omega)
                    have hyn := comeL_rng ho hy4
                    refine q1 rfl (D_ix (l := (comeL b lev rd gb k2)) (j := m) s_25 rfl rfl rfl (fun w' hs => (rd_own (k := 0) hs rfl)) rfl (lt_of_some hy4)) ?_
                    refine q1 rfl (lo (α := Int) 0 o_3 rfl rfl rfl hy4) ?_
                    refine p1 rfl ?_
                    refine D_end ?_
                    refine x_then ?_
                    refine C_reg ?_
                    refine p1 rfl <| p1 rfl <| p1 rfl ?_
                    have hx36 : (vec n gc)[(y4.toNat)]? = some (gc (y4.toNat)) := vec_get (by omega)
                    refine q1 rfl (D_ix (l := (vec n gc)) (j := (y4.toNat)) s_25 rfl rfl rfl (fun w' hs => (rd_own (k := 1) hs rfl)) (Int.toNat_of_nonneg (by omega)).symm (lt_of_some hx36)) ?_
                    refine li rfl (so (α := Int) (z := ((rd : Nat) : Int)) 1 z_3 rfl rfl rfl rfl rfl (lt_of_some hx36) ?_)
                    refine D_eq 1 rfl (vec_set _ _ _ _) ?_
                    refine D_end ?_
                    refine x_blk ?_
                    refine x_then ?_
                    refine D_H ([ov [vc] (comeL b lev rd gb k2 : (List Int)), ov [v6] (vec n (upd gc (y4.toNat) ((rd : Nat) : Int)) : (List Int)), ov [v5] (vec b.Nodes.toNat (strat b) : (List Int)), bx g4 [(.int .i64 b.Nodes), u1]]) rfl ?_
                    refine C_reg ?_
                    refine q1 rfl (D_add rfl rfl rfl (r := ((m + 1 : Nat) : Int)) (by omega) (by omega)) ?_
                    refine p1 rfl ?_
                    refine D_end ?_
                    refine x_then ?_
                    refine fun ac w' hf hs => ⟨_, ?_, m + 1, (upd gc (y4.toNat) ((rd : Nat) : Int)), ?_, ?_, rfl, hf.weak ⟨rfl, rfl, rfl, rfl, rfl, rfl, rfl, rfl, rfl, trivial⟩, hs⟩
                    · omega
                    · first | assumption | omega | simp
                    · exact upL_step hy4 hyn.1 hgc
                  · have pr34 : ¬ (((m : Nat) : Int) : Int) < (((comeL b lev rd gb k2).length : Nat) : Int) := of_decide_eq_false h34
                    refine C_exit ?_
                    refine x_then_exit ?_
                    refine x_then_exit ?_
                    refine x_blk_eq ?_
                    refine x_then ?_
                    refine C_reg ?_
                    refine p1 rfl ?_
                    refine q1 rfl (D_add rfl rfl rfl (r := ((rd + 1 : Nat) : Int)) (by omega) (by omega)) ?_
                    refine p1 rfl ?_
                    refine D_end ?_
                    refine x_blk ?_
                    refine x_then ?_
                    refine fun ac w' hf hs => ⟨_, ?_, lev, rd + 1, gc, ?_, ?_, rfl, hf.weak ⟨rfl, rfl, rfl, rfl, rfl, rfl, trivial⟩, hs.pk [1, 2, 3] rfl rfl⟩
                    · first | omega | (have e := upL_done (by omega) (comeL_mem (k := k2) (by omega)) hgc; have hc := up_cnt hn ho (lev := lev) (rd := rd) (g := gb) (by rw [comeL_any (k := k2) (by omega)]; exact decide_eq_true (by omega)); rw [← e] at hc; have := cnt_le n (nn gc); omega)
                    · first | exact hR.next (by rw [comeL_any (k := k2) (by omega)]; exact decide_eq_false (by omega)) | exact hR.step (by rw [comeL_any (k := k2) (by omega)]; exact decide_eq_true (by omega)) (upL_done (by omega) (comeL_mem (by omega)) hgc)
                    · omega
        · have pr12 : ¬ (((lev : Nat) : Int) : Int) ≤ top := of_decide_eq_false h12
          refine C_exit ?_
          refine x_then_exit ?_
          refine x_then_exit ?_
          refine x_blk_eq ?_
          refine x_then ?_
          refine C_seq ?_
          refine C_reg ?_
          refine p1 rfl <| p1 rfl ?_
          refine D_end ?_
          refine x_then ?_
          refine C_ret ?_
          refine R_1 rfl rfl fun w' hs => res_of (k := 0) hs rfl ?_
          show vec n gb = vec b.Nodes.toNat (rnds b)
          rw [show b.Nodes.toNat = n by omega, rnds_eq ho hsol hR (fun x hx => by have := htp x (by omega); show strat b x < (lev : Int); omega)]

set_option maxHeartbeats 4000000 in
theorem spec_l11Round (w : World) (c_b : List Value) (b : Beliefs) (v_strata : Value) (strata : (List Int)) (s : Int) (v_rounds : Value) (rounds : (List Int)) (round : Int) (h_b : Gd.rd w c_b b) (h_strata : Gd.rd w [v_strata] strata) (h_rounds : Gd.rd w [v_rounds] rounds) (ho : okB b = true) (hs1 : strata.length = b.Nodes.toNat) (hs2 : rounds.length = b.Nodes.toNat) : Calls Try.prog 104 [(.agg c_b.toArray), v_strata, (.int .i64 s), v_rounds, (.int .i64 round)].toArray w (Res w (fidx (comesZ b strata s rounds round) b.Nodes.toNat : List Int)) := by
  obtain ⟨u1, rfl, hu2⟩ := open_Beliefs h_b
  have hm3 := rd_max hu2
  have hm4 := rd_max h_strata
  have hm5 := rd_max h_rounds
  have hbn := okB_nodes ho
  obtain ⟨n, hn⟩ : ∃ n : Nat, b.Nodes = (n : Int) := ⟨b.Nodes.toNat, by omega⟩
  refine enter 69 Try.func104 rfl rfl rfl ?_
  refine C_seq ?_
  refine C_reg ?_
  refine li rfl (D_box rfl rfl rfl rfl rfl fun g6 => ?_)
  refine p1 rfl ?_
  refine D_end ?_
  refine x_then ?_
  refine D_H ([bx g6 [(.int .i64 b.Nodes), u1]]) rfl ?_
  refine C_seq ?_
  refine C_reg ?_
  refine li rfl (D_bs0 (α := Int) s_25 rfl rfl rfl fun v7 => ?_)
  refine p1 rfl ?_
  refine D_end ?_
  refine x_then ?_
  refine D_H ([ov [v7] ([] : (List Int)), bx g6 [(.int .i64 b.Nodes), u1]]) rfl ?_
  refine C_seq ?_
  refine C_seq ?_
  refine C_reg ?_
  refine p1 rfl ?_
  refine D_end ?_
  refine x_then ?_
  refine C_block ?_
  refine C_loop (fun m_ ac w' => ∃ (k : Nat), ∃ (v : Value), (k ≤ n) ∧ m_ = n - k ∧ Fits ac 69 [(1, v_strata), (2, (.int .i64 s)), (3, v_rounds), (4, (.int .i64 round)), (5, (.pointer (some ⟨g6, 0, none⟩))), (11, v), (12, (.int .i64 ((k : Nat) : Int)))] ∧ St w ([ov [v] (fidx (comesZ b strata s rounds round) k : (List Int)), bx g6 [(.int .i64 b.Nodes), u1]]) w') ?_ ?_
  · refine D_eq 0 rfl (show ([] : (List Int)) = fidx (comesZ b strata s rounds round) 0 from by rfl) ?_
    refine fun ac w' hf hs => ⟨_, 0, v7, ?_, rfl, hf.weak ⟨rfl, rfl, rfl, rfl, rfl, rfl, rfl, trivial⟩, hs⟩
    · first | assumption | omega | simp
  · rintro m_ ac w' ⟨k, v, hk, rfl, hf, hs⟩
    refine D.use ?_ hf hs
    clear hf hs ac w'
    have hcl := fidx_len (comesZ b strata s rounds round) k
    refine C_seq ?_
    refine C_seq ?_
    refine C_reg ?_
    refine p1 rfl ?_
    refine q1 rfl (D_fb f_30_0 rfl rfl (q := 0) rfl) ?_
    refine q1 rfl (lb 1 o_3 rfl rfl rfl rfl) ?_
    refine p1 rfl ?_
    refine D_end ?_
    refine x_then ?_
    refine D_H ([ov [v] (fidx (comesZ b strata s rounds round) k : (List Int)), bx g6 [(.int .i64 b.Nodes), u1]]) rfl ?_
    refine C_if _ rfl (fun h8 => ?_) (fun h8 => ?_)
    · have pr8 : (((k : Nat) : Int) : Int) < b.Nodes := of_decide_eq_true h8
      refine C_skip ?_
      refine x_then ?_
      refine C_seq ?_
      refine C_block ?_
      refine C_seq ?_
      refine C_seq ?_
      refine C_reg ?_
      refine p1 rfl <| p1 rfl ?_
      obtain ⟨z1, hz1⟩ := some_of_lt (l := strata) (i := k) (by omega)
      obtain ⟨es9, at10, hr11⟩ := rd_elem (n := 1) rfl h_strata hz1
      obtain rfl : es9 = [.int .i64 z1] := hr11
      refine q1 rfl (D_ix (l := strata) (j := k) s_25 rfl rfl rfl (fun w' hs => (rd_at hs h_strata)) rfl (lt_of_some hz1)) ?_
      refine q1 rfl (lr0 o_3 rfl rfl at10 rfl) ?_
      refine p1 rfl <| p1 rfl <| p1 rfl ?_
      refine gs 28 rfl rfl (fun h12 => ?_) (fun h12 => ?_)
      · have pr12 : (z1 : Int) ≠ s := bne_iff_ne.1 h12
        refine n1 rfl ?_
        refine n1 rfl ?_
        refine n1 rfl ?_
        refine n1 rfl ?_
        refine n1 rfl ?_
        refine p1 rfl ?_
        refine D_end ?_
        refine x_then ?_
        refine D_weak [(1, v_strata), (2, (.int .i64 s)), (3, v_rounds), (4, (.int .i64 round)), (5, (.pointer (some ⟨g6, 0, none⟩))), (11, v), (12, (.int .i64 ((k : Nat) : Int))), (34, (.bool true))] ⟨rfl, rfl, rfl, rfl, rfl, rfl, rfl, rfl, trivial⟩ ?_
        refine C_t rfl ?_
        refine C_exit ?_
        refine x_then_exit ?_
        refine x_blk_eq ?_
        refine x_then ?_
        refine C_reg ?_
        refine p1 rfl ?_
        refine q1 rfl (D_add rfl rfl rfl (r := ((k + 1 : Nat) : Int)) (by omega) (by omega)) ?_
        refine p1 rfl ?_
        refine D_end ?_
        refine x_then ?_
        refine D_eq 0 rfl (show (fidx (comesZ b strata s rounds round) k : (List Int)) = fidx (comesZ b strata s rounds round) (k + 1) from by first | exact fidx_t (comesZ_y hz1 (by omega) hz2 (by omega) hr0 (sup_yes (by assumption) (by assumption) (by assumption))) | exact fidx_f (comesZ_n1 hz1 (by omega)) | exact fidx_f (comesZ_n2 hz2 (by omega)) | exact fidx_f (comesZ_n3 (fun i h => hi i (by omega)))) ?_
        refine fun ac w' hf hs => ⟨_, ?_, k + 1, v, ?_, rfl, hf.weak ⟨rfl, rfl, rfl, rfl, rfl, rfl, rfl, trivial⟩, hs⟩
        · omega
        · first | assumption | omega | simp
      · have pr12 : (z1 : Int) = s := eq_of_bne_f h12
        refine p1 rfl <| p1 rfl ?_
        obtain ⟨z2, hz2⟩ := some_of_lt (l := rounds) (i := k) (by omega)
        obtain ⟨es13, at14, hr15⟩ := rd_elem (n := 1) rfl h_rounds hz2
        obtain rfl : es13 = [.int .i64 z2] := hr15
        refine q1 rfl (D_ix (l := rounds) (j := k) s_25 rfl rfl rfl (fun w' hs => (rd_at hs h_rounds)) rfl (lt_of_some hz2)) ?_
        refine q1 rfl (lr0 o_3 rfl rfl at14 rfl) ?_
        refine p1 rfl <| p1 rfl ?_
        refine D_end ?_
        refine x_then ?_
        refine D_weak [(1, v_strata), (2, (.int .i64 s)), (3, v_rounds), (4, (.int .i64 round)), (5, (.pointer (some ⟨g6, 0, none⟩))), (11, v), (12, (.int .i64 ((k : Nat) : Int))), (34, (.bool (decide ((0 : Int) ≤ z2))))] ⟨rfl, rfl, rfl, rfl, rfl, rfl, rfl, rfl, trivial⟩ ?_
        refine C_if _ rfl (fun h16 => ?_) (fun h16 => ?_)
        · have pr16 : (0 : Int) ≤ z2 := of_decide_eq_true h16
          refine C_exit ?_
          refine x_then_exit ?_
          refine x_blk_eq ?_
          refine x_then ?_
          refine C_reg ?_
          refine p1 rfl ?_
          refine q1 rfl (D_add rfl rfl rfl (r := ((k + 1 : Nat) : Int)) (by omega) (by omega)) ?_
          refine p1 rfl ?_
          refine D_end ?_
          refine x_then ?_
          refine D_eq 0 rfl (show (fidx (comesZ b strata s rounds round) k : (List Int)) = fidx (comesZ b strata s rounds round) (k + 1) from by first | exact fidx_t (comesZ_y hz1 (by omega) hz2 (by omega) hr0 (sup_yes (by assumption) (by assumption) (by assumption))) | exact fidx_f (comesZ_n1 hz1 (by omega)) | exact fidx_f (comesZ_n2 hz2 (by omega)) | exact fidx_f (comesZ_n3 (fun i h => hi i (by omega)))) ?_
          refine fun ac w' hf hs => ⟨_, ?_, k + 1, v, ?_, rfl, hf.weak ⟨rfl, rfl, rfl, rfl, rfl, rfl, rfl, trivial⟩, hs⟩
          · omega
          · first | assumption | omega | simp
        · have pr16 : ¬ (0 : Int) ≤ z2 := of_decide_eq_false h16
          refine C_skip ?_
          refine x_then ?_
          refine C_seq ?_
          refine C_reg ?_
          refine p1 rfl ?_
          refine D_end ?_
          refine x_then ?_
          refine C_block ?_
          refine C_loop (fun m_ ac w' => ∃ (i : Nat), (i ≤ b.Reasons.length) ∧ (∀ j, j < i → ∀ r, b.Reasons[j]? = some r → (decide (r.For = (k : Int)) && supL r rounds round) = false) ∧ m_ = b.Reasons.length - i ∧ Fits ac 69 [(1, v_strata), (2, (.int .i64 s)), (3, v_rounds), (4, (.int .i64 round)), (5, (.pointer (some ⟨g6, 0, none⟩))), (11, v), (12, (.int .i64 ((k : Nat) : Int))), (13, (.int .i64 ((i : Nat) : Int)))] ∧ St w ([ov [v] (fidx (comesZ b strata s rounds round) k : (List Int)), bx g6 [(.int .i64 b.Nodes), u1]]) w') ?_ ?_
          · refine fun ac w' hf hs => ⟨_, 0, ?_, ?_, rfl, hf.weak ⟨rfl, rfl, rfl, rfl, rfl, rfl, rfl, rfl, trivial⟩, hs⟩
            · first | assumption | omega | simp
            · intro j hj; omega
          · rintro m_ ac w' ⟨i, hi0, hi, rfl, hf, hs⟩
            refine D.use ?_ hf hs
            clear hf hs ac w'
            refine C_seq ?_
            refine C_seq ?_
            refine C_reg ?_
            refine p1 rfl ?_
            refine q1 rfl (D_fb f_30_1 rfl rfl (q := 1) rfl) ?_
            refine q1 rfl (lb 1 o_28 rfl rfl rfl rfl) ?_
            refine q1 rfl (D_len s_28 rfl rfl (rd_sl hu2)) ?_
            refine p1 rfl ?_
            refine D_end ?_
            refine x_then ?_
            refine C_if _ rfl (fun h17 => ?_) (fun h17 => ?_)
            · have pr17 : (((i : Nat) : Int) : Int) < ((b.Reasons.length : Nat) : Int) := of_decide_eq_true h17
              refine C_skip ?_
              refine x_then ?_
              refine C_seq ?_
              refine C_block ?_
              refine C_seq ?_
              refine C_reg ?_
              refine q1 rfl (D_fb f_30_1 rfl rfl (q := 1) rfl) ?_
              refine q1 rfl (lb 1 o_28 rfl rfl rfl rfl) ?_
              refine p1 rfl ?_
              obtain ⟨r0, hr0⟩ := some_of_lt (l := b.Reasons) (i := i) (by omega)
              have hv0 := okB_r ho hr0
              have hF := isR_for hv0
              have hm0 := List.mem_of_getElem? hr0
              obtain ⟨es18, at19, hr20⟩ := rd_elem (n := 3) rfl hu2 hr0
              obtain ⟨u21, u23, rfl, hu22, hu24⟩ := open_Reason hr20
              have hm25 := rd_max hu22
              have hm26 := rd_max hu24
              refine q1 rfl (D_ix (l := b.Reasons) (j := i) s_28 rfl rfl rfl (fun w' hs => (rd_at hs hu2)) rfl (lt_of_some hr0)) ?_
              refine q1 rfl (lra a_67 rfl rfl at19) ?_
              refine li rfl (D_alloc y_67 rfl rfl rfl rfl fun g27 => ?_)
              refine li rfl (D_stb (vs := [(.int .i64 r0.For), u21, u23]) (cs' := [(.int .i64 r0.For), u21, u23]) 0 z_67 rfl rfl rfl rfl rfl rfl (ocons rfl (ocons (one_rd hu22) (ocons (one_rd hu24) onil))) (by simp) rfl ?_)
              refine D_end ?_
              refine x_then ?_
              refine D_H ([bx g27 [(.int .i64 r0.For), u21, u23], ov [v] (fidx (comesZ b strata s rounds round) k : (List Int)), bx g6 [(.int .i64 b.Nodes), u1]]) rfl ?_
              refine C_seq ?_
              refine C_reg ?_
              refine q1 rfl (D_fb f_67_0 rfl rfl (q := 0) rfl) ?_
              refine q1 rfl (lb 0 o_3 rfl rfl rfl rfl) ?_
              refine p1 rfl <| p1 rfl <| p1 rfl ?_
              refine gs 51 rfl rfl (fun h28 => ?_) (fun h28 => ?_)
              · have pr28 : (r0.For : Int) = ((k : Nat) : Int) := eq_of_beq h28
                refine q1 rfl (D_fb f_67_1 rfl rfl (q := 1) rfl) ?_
                refine q1 rfl (lb 0 o_25 rfl rfl rfl rfl) ?_
                refine p1 rfl <| p1 rfl ?_
                refine li rfl (cv b_101 rfl rfl rfl rfl (fun w' hs => (spec_l11Before w' u21 r0.In v_rounds rounds round (rd_at hs hu22) (rd_at hs h_rounds) (by rw [show ((rounds.length : Nat) : Int) = b.Nodes by omega]; exact isR_in hv0))) ?_)
                refine p1 rfl <| p1 rfl ?_
                refine gs 58 rfl rfl (fun h29 => ?_) (fun h29 => ?_)
                · refine q1 rfl (D_fb f_67_2 rfl rfl (q := 2) rfl) ?_
                  refine q1 rfl (lb 0 o_25 rfl rfl rfl rfl) ?_
                  refine p1 rfl ?_
                  refine li rfl (cv b_102 rfl rfl rfl rfl (fun w' hs => (spec_l11None w' u23 r0.Out v_rounds rounds (rd_at hs hu24) (rd_at hs h_rounds) (by rw [show ((rounds.length : Nat) : Int) = b.Nodes by omega]; exact isR_out hv0))) ?_)
                  refine p1 rfl ?_
                  refine D_end ?_
                  refine x_then ?_
                  refine D_weak [(1, v_strata), (2, (.int .i64 s)), (3, v_rounds), (4, (.int .i64 round)), (5, (.pointer (some ⟨g6, 0, none⟩))), (11, v), (12, (.int .i64 ((k : Nat) : Int))), (13, (.int .i64 ((i : Nat) : Int))), (63, (.bool (r0.Out.all (nonL rounds))))] ⟨rfl, rfl, rfl, rfl, rfl, rfl, rfl, rfl, rfl, trivial⟩ ?_
                  refine D_sel (H' := [ov [v] (fidx (comesZ b strata s rounds round) k : (List Int)), bx g6 [(.int .i64 b.Nodes), u1]]) [false, true, true] rfl ?_
                  refine C_if _ rfl (fun h30 => ?_) (fun h30 => ?_)
                  · refine C_seq ?_
                    refine C_reg ?_
                    refine p1 rfl <| p1 rfl ?_
                    refine li rfl (D_bs s_25 y_3 rfl (by decide) (by decide) rfl rfl rfl rfl rfl rfl fun g31 => ?_)
                    refine D_fi ((k : Nat) : Int) ?_
                    refine D_pk (H' := [ov [v] (fidx (comesZ b strata s rounds round) k : (List Int)), ov [(.int .i64 ((k : Nat) : Int))] (((k : Nat) : Int) : Int), bx g31 [(.int .i64 ((k : Nat) : Int))], bx g6 [(.int .i64 b.Nodes), u1]]) [2, 0, 1, 3] rfl rfl ?_
                    refine li rfl (D_ap s_25 y_3 rfl (by decide) rfl rfl rfl rfl rfl rfl (by first | omega | (simp; omega)) (by first | omega | (simp; omega)) fun v32 => ?_)
                    refine p1 rfl ?_
                    refine D_end ?_
                    refine x_then ?_
                    refine D_H ([ov [v32] ((fidx (comesZ b strata s rounds round) k) ++ [((k : Nat) : Int)] : (List Int)), bx g6 [(.int .i64 b.Nodes), u1]]) rfl ?_
                    refine C_exit ?_
                    refine x_blk_ne rfl ?_
                    refine x_then_exit ?_
                    refine x_then_exit ?_
                    refine x_blk_eq ?_
                    refine x_blk ?_
                    refine x_then ?_
                    refine C_reg ?_
                    refine p1 rfl ?_
                    refine q1 rfl (D_add rfl rfl rfl (r := ((k + 1 : Nat) : Int)) (by omega) (by omega)) ?_
                    refine p1 rfl ?_
                    refine D_end ?_
                    refine x_then ?_
                    refine D_eq 0 rfl (show ((fidx (comesZ b strata s rounds round) k) ++ [((k : Nat) : Int)] : (List Int)) = fidx (comesZ b strata s rounds round) (k + 1) from by first | exact fidx_t (comesZ_y hz1 (by omega) hz2 (by omega) hr0 (sup_yes (by assumption) (by assumption) (by assumption))) | exact fidx_f (comesZ_n1 hz1 (by omega)) | exact fidx_f (comesZ_n2 hz2 (by omega)) | exact fidx_f (comesZ_n3 (fun i h => hi i (by omega)))) ?_
                    refine fun ac w' hf hs => ⟨_, ?_, k + 1, v32, ?_, rfl, hf.weak ⟨rfl, rfl, rfl, rfl, rfl, rfl, rfl, trivial⟩, hs⟩
                    · omega
                    · first | assumption | omega | simp
                  · refine C_skip ?_
                    refine x_blk ?_
                    refine x_then ?_
                    refine C_reg ?_
                    refine p1 rfl ?_
                    refine q1 rfl (D_add rfl rfl rfl (r := ((i + 1 : Nat) : Int)) (by omega) (by omega)) ?_
                    refine p1 rfl ?_
                    refine D_end ?_
                    refine x_then ?_
                    refine fun ac w' hf hs => ⟨_, ?_, i + 1, ?_, ?_, rfl, hf.weak ⟨rfl, rfl, rfl, rfl, rfl, rfl, rfl, rfl, trivial⟩, hs⟩
                    · omega
                    · first | assumption | omega | simp
                    · refine forall_step hi ?_; intro r hr; obtain rfl : r = r0 := Option.some.inj (hr.symm.trans hr0); first | exact sup_n1 (by assumption) | exact sup_n2 (by assumption) | exact sup_n3 (by assumption)
                · refine n1 rfl ?_
                  refine n1 rfl ?_
                  refine n1 rfl ?_
                  refine n1 rfl ?_
                  refine p1 rfl ?_
                  refine D_end ?_
                  refine x_then ?_
                  refine D_weak [(1, v_strata), (2, (.int .i64 s)), (3, v_rounds), (4, (.int .i64 round)), (5, (.pointer (some ⟨g6, 0, none⟩))), (11, v), (12, (.int .i64 ((k : Nat) : Int))), (13, (.int .i64 ((i : Nat) : Int))), (63, (.bool false))] ⟨rfl, rfl, rfl, rfl, rfl, rfl, rfl, rfl, rfl, trivial⟩ ?_
                  refine D_sel (H' := [ov [v] (fidx (comesZ b strata s rounds round) k : (List Int)), bx g6 [(.int .i64 b.Nodes), u1]]) [false, true, true] rfl ?_
                  refine C_f rfl ?_
                  refine C_skip ?_
                  refine x_blk ?_
                  refine x_then ?_
                  refine C_reg ?_
                  refine p1 rfl ?_
                  refine q1 rfl (D_add rfl rfl rfl (r := ((i + 1 : Nat) : Int)) (by omega) (by omega)) ?_
                  refine p1 rfl ?_
                  refine D_end ?_
                  refine x_then ?_
                  refine fun ac w' hf hs => ⟨_, ?_, i + 1, ?_, ?_, rfl, hf.weak ⟨rfl, rfl, rfl, rfl, rfl, rfl, rfl, rfl, trivial⟩, hs⟩
                  · omega
                  · first | assumption | omega | simp
                  · refine forall_step hi ?_; intro r hr; obtain rfl : r = r0 := Option.some.inj (hr.symm.trans hr0); first | exact sup_n1 (by assumption) | exact sup_n2 (by assumption) | exact sup_n3 (by assumption)
              · have pr28 : (r0.For : Int) ≠ ((k : Nat) : Int) := ne_of_beq_false h28
                refine n1 rfl ?_
                refine n1 rfl ?_
                refine n1 rfl ?_
                refine n1 rfl ?_
                refine n1 rfl ?_
                refine p1 rfl <| p1 rfl ?_
                refine n1 rfl ?_
                refine n1 rfl ?_
                refine n1 rfl ?_
                refine n1 rfl ?_
                refine p1 rfl ?_
                refine D_end ?_
                refine x_then ?_
                refine D_weak [(1, v_strata), (2, (.int .i64 s)), (3, v_rounds), (4, (.int .i64 round)), (5, (.pointer (some ⟨g6, 0, none⟩))), (11, v), (12, (.int .i64 ((k : Nat) : Int))), (13, (.int .i64 ((i : Nat) : Int))), (63, (.bool false))] ⟨rfl, rfl, rfl, rfl, rfl, rfl, rfl, rfl, rfl, trivial⟩ ?_
                refine D_sel (H' := [ov [v] (fidx (comesZ b strata s rounds round) k : (List Int)), bx g6 [(.int .i64 b.Nodes), u1]]) [false, true, true] rfl ?_
                refine C_f rfl ?_
                refine C_skip ?_
                refine x_blk ?_
                refine x_then ?_
                refine C_reg ?_
                refine p1 rfl ?_
                refine q1 rfl (D_add rfl rfl rfl (r := ((i + 1 : Nat) : Int)) (by omega) (by omega)) ?_
                refine p1 rfl ?_
                refine D_end ?_
                refine x_then ?_
                refine fun ac w' hf hs => ⟨_, ?_, i + 1, ?_, ?_, rfl, hf.weak ⟨rfl, rfl, rfl, rfl, rfl, rfl, rfl, rfl, trivial⟩, hs⟩
                · omega
                · first | assumption | omega | simp
                · refine forall_step hi ?_; intro r hr; obtain rfl : r = r0 := Option.some.inj (hr.symm.trans hr0); first | exact sup_n1 (by assumption) | exact sup_n2 (by assumption) | exact sup_n3 (by assumption)
            · have pr17 : ¬ (((i : Nat) : Int) : Int) < ((b.Reasons.length : Nat) : Int) := of_decide_eq_false h17
              refine C_exit ?_
              refine x_then_exit ?_
              refine x_then_exit ?_
              refine x_blk_eq ?_
              refine x_blk ?_
              refine x_then ?_
              refine C_reg ?_
              refine p1 rfl ?_
              refine q1 rfl (D_add rfl rfl rfl (r := ((k + 1 : Nat) : Int)) (by omega) (by omega)) ?_
              refine p1 rfl ?_
              refine D_end ?_
              refine x_then ?_
              refine D_eq 0 rfl (show (fidx (comesZ b strata s rounds round) k : (List Int)) = fidx (comesZ b strata s rounds round) (k + 1) from by first | exact fidx_t (comesZ_y hz1 (by omega) hz2 (by omega) hr0 (sup_yes (by assumption) (by assumption) (by assumption))) | exact fidx_f (comesZ_n1 hz1 (by omega)) | exact fidx_f (comesZ_n2 hz2 (by omega)) | exact fidx_f (comesZ_n3 (fun i h => hi i (by omega)))) ?_
              refine fun ac w' hf hs => ⟨_, ?_, k + 1, v, ?_, rfl, hf.weak ⟨rfl, rfl, rfl, rfl, rfl, rfl, rfl, trivial⟩, hs⟩
              · omega
              · first | assumption | omega | simp
    · have pr8 : ¬ (((k : Nat) : Int) : Int) < b.Nodes := of_decide_eq_false h8
      refine C_exit ?_
      refine x_then_exit ?_
      refine x_then_exit ?_
      refine x_blk_eq ?_
      refine x_then ?_
      refine C_seq ?_
      refine C_reg ?_
      refine p1 rfl <| p1 rfl ?_
      refine D_end ?_
      refine x_then ?_
      refine C_ret ?_
      refine R_1 rfl rfl fun w' hs => res_of (k := 0) hs rfl ?_
      show fidx (comesZ b strata s rounds round) k = fidx (comesZ b strata s rounds round) b.Nodes.toNat
      rw [show b.Nodes.toNat = n by omega, show k = n by omega]

set_option maxHeartbeats 4000000 in
theorem spec_RoundsOf (w : World) (c_b : List Value) (b : Beliefs) (h_b : Gd.rd w c_b b) : Calls Try.prog 87 [(.agg c_b.toArray)].toArray w (Res w (roundsOf b : List Int)) := by
  obtain ⟨u1, rfl, hu2⟩ := open_Beliefs h_b
  have hm3 := rd_max hu2
  refine enter 63 Try.func87 rfl rfl rfl ?_
  refine C_seq ?_
  refine C_reg ?_
  refine li rfl (D_box rfl rfl rfl rfl rfl fun g4 => ?_)
  refine p1 rfl ?_
  refine D_end ?_
  refine x_then ?_
  refine D_H ([bx g4 [(.int .i64 b.Nodes), u1]]) rfl ?_
  refine C_seq ?_
  refine C_seq ?_
  refine C_reg ?_
  refine q1 rfl (lbw 0 a_30 rfl rfl rfl) ?_
  refine li rfl (cv b_64 rfl rfl rfl rfl (fun w' hs => (spec_IsStratified w' [(.int .i64 b.Nodes), u1] b (rd_at hs h_b))) ?_)
  refine p1 rfl ?_
  refine D_end ?_
  refine x_then ?_
  refine C_if _ rfl (fun h5 => ?_) (fun h5 => ?_)
  · have h5n : (isStrat b) = false := not_t h5
    refine C_seq ?_
    refine C_reg ?_
    refine li rfl (D_bs0 (α := Int) s_25 rfl rfl rfl fun v6 => ?_)
    refine p1 rfl ?_
    refine D_end ?_
    refine x_then ?_
    refine D_H ([ov [v6] ([] : (List Int)), bx g4 [(.int .i64 b.Nodes), u1]]) rfl ?_
    refine C_ret ?_
    refine x_then_ret ?_
    refine R_1 rfl rfl fun w' hs => res_of (k := 0) hs rfl ?_
    show [] = roundsOf b
    exact roundsOf_f h5n
  · have h5n : (isStrat b) = true := not_f h5
    refine C_skip ?_
    refine x_then ?_
    refine C_seq ?_
    refine C_reg ?_
    have hst : isStrat b = true := by assumption
    have hsol := strat_has hst
    have ho := isB_ok2 (strat_b hst)
    have hbn := okB_nodes ho
    obtain ⟨n, hn⟩ : ∃ n : Nat, b.Nodes = (n : Int) := ⟨b.Nodes.toNat, by omega⟩
    refine q1 rfl (lbw 0 a_30 rfl rfl rfl) ?_
    refine li rfl (crl b_103 rfl rfl rfl rfl (fun w' hs => (spec_StrataOf w' [(.int .i64 b.Nodes), u1] b (rd_at hs h_b))) fun v7 => ?_)
    refine p1 rfl ?_
    refine D_end ?_
    refine x_then ?_
    refine D_H ([ov [v7] (strataOf b : (List Int)), bx g4 [(.int .i64 b.Nodes), u1]]) rfl ?_
    refine C_seq ?_
    refine C_reg ?_
    refine li rfl (D_bs0 (α := Int) s_25 rfl rfl rfl fun v8 => ?_)
    refine p1 rfl ?_
    refine D_end ?_
    refine x_then ?_
    refine D_H ([ov [v8] ([] : (List Int)), ov [v7] (strataOf b : (List Int)), bx g4 [(.int .i64 b.Nodes), u1]]) rfl ?_
    refine C_seq ?_
    refine C_seq ?_
    refine C_reg ?_
    refine p1 rfl ?_
    refine D_end ?_
    refine x_then ?_
    refine C_block ?_
    refine C_loop (fun m_ ac w' => ∃ (i : Nat), ∃ (v : Value), (i ≤ n) ∧ m_ = n - i ∧ Fits ac 63 [(1, (.pointer (some ⟨g4, 0, none⟩))), (3, v7), (4, v), (5, (.int .i64 ((i : Nat) : Int)))] ∧ St w ([ov [v] (List.replicate i (-1) : (List Int)), ov [v7] (strataOf b : (List Int)), bx g4 [(.int .i64 b.Nodes), u1]]) w') ?_ ?_
    · refine D_eq 0 rfl (show ([] : (List Int)) = List.replicate 0 (-1) from by rfl) ?_
      refine fun ac w' hf hs => ⟨_, 0, v8, ?_, rfl, hf.weak ⟨rfl, rfl, rfl, rfl, trivial⟩, hs⟩
      · first | assumption | omega | simp
    · rintro m_ ac w' ⟨i, v, hi, rfl, hf, hs⟩
      refine D.use ?_ hf hs
      clear hf hs ac w'
      refine C_seq ?_
      refine C_seq ?_
      refine C_reg ?_
      refine p1 rfl ?_
      refine q1 rfl (D_fb f_30_0 rfl rfl (q := 0) rfl) ?_
      refine q1 rfl (lb 2 o_3 rfl rfl rfl rfl) ?_
      refine p1 rfl ?_
      refine D_end ?_
      refine x_then ?_
      refine D_H ([ov [v] (List.replicate i (-1) : (List Int)), ov [v7] (strataOf b : (List Int)), bx g4 [(.int .i64 b.Nodes), u1]]) rfl ?_
      refine C_if _ rfl (fun h9 => ?_) (fun h9 => ?_)
      · have pr9 : (((i : Nat) : Int) : Int) < b.Nodes := of_decide_eq_true h9
        refine C_skip ?_
        refine x_then ?_
        refine C_seq ?_
        refine C_block ?_
        refine C_reg ?_
        refine p1 rfl ?_
        refine li rfl (D_bs s_25 y_3 rfl (by decide) (by decide) rfl rfl rfl rfl rfl rfl fun g10 => ?_)
        refine D_fi (-1) ?_
        refine D_pk (H' := [ov [v] (List.replicate i (-1) : (List Int)), ov [(.int .i64 (-1))] ((-1) : Int), bx g10 [(.int .i64 (-1))], ov [v7] (strataOf b : (List Int)), bx g4 [(.int .i64 b.Nodes), u1]]) [2, 0, 1, 3, 4] rfl rfl ?_
        refine li rfl (D_ap s_25 y_3 rfl (by decide) rfl rfl rfl rfl rfl rfl (by first | omega | (simp; omega)) (by first | omega | (simp; omega)) fun v11 => ?_)
        refine p1 rfl ?_
        refine D_end ?_
        refine x_blk ?_
        refine x_then ?_
        refine D_H ([ov [v11] ((List.replicate i (-1)) ++ [(-1)] : (List Int)), ov [v7] (strataOf b : (List Int)), bx g4 [(.int .i64 b.Nodes), u1]]) rfl ?_
        refine C_reg ?_
        refine p1 rfl ?_
        refine q1 rfl (D_add rfl rfl rfl (r := ((i + 1 : Nat) : Int)) (by omega) (by omega)) ?_
        refine p1 rfl ?_
        refine D_end ?_
        refine x_then ?_
        refine D_eq 0 rfl (show ((List.replicate i (-1)) ++ [(-1)] : (List Int)) = List.replicate (i + 1) (-1) from by exact rep_snoc i (-1)) ?_
        refine fun ac w' hf hs => ⟨_, ?_, i + 1, v11, ?_, rfl, hf.weak ⟨rfl, rfl, rfl, rfl, trivial⟩, hs⟩
        · omega
        · first | assumption | omega | simp
      · have pr9 : ¬ (((i : Nat) : Int) : Int) < b.Nodes := of_decide_eq_false h9
        refine C_exit ?_
        refine x_then_exit ?_
        refine x_then_exit ?_
        refine x_blk_eq ?_
        refine x_then ?_
        refine C_seq ?_
        refine C_reg ?_
        refine p1 rfl ?_
        refine D_end ?_
        refine x_then ?_
        refine C_seq ?_
        refine C_seq ?_
        refine C_reg ?_
        refine p1 rfl ?_
        refine D_end ?_
        refine x_then ?_
        refine C_block ?_
        refine C_loop (fun m_ ac w' => ∃ (lev : Nat), ∃ (rd : Nat), ∃ (ga : Nat → Int), (Rch b ⟨lev, ga, rd⟩) ∧ (lev ≤ n) ∧ m_ = n - lev ∧ Fits ac 63 [(1, (.pointer (some ⟨g4, 0, none⟩))), (3, v7), (4, v), (6, (.int .i64 ((rd : Nat) : Int))), (7, (.int .i64 ((lev : Nat) : Int)))] ∧ St w ([ov [v] (vec n ga : (List Int)), ov [v7] (strataOf b : (List Int)), bx g4 [(.int .i64 b.Nodes), u1]]) w') ?_ ?_
        · refine D_eq 0 rfl (show (List.replicate i (-1) : (List Int)) = vec n (fun _ => -1) from by rw [show i = n by omega]; exact vec_rep _ _) ?_
          refine fun ac w' hf hs => ⟨_, 0, 0, (fun _ => -1), ?_, ?_, rfl, hf.weak ⟨rfl, rfl, rfl, rfl, rfl, trivial⟩, hs⟩
          · exact Rch.init b
          · first | assumption | omega | simp
        · rintro m_ ac w' ⟨lev, rd, ga, hR, hlv, rfl, hf, hs⟩
          refine D.use ?_ hf hs
          clear hf hs ac w'
          refine C_seq ?_
          refine C_seq ?_
          refine C_reg ?_
          refine p1 rfl ?_
          refine q1 rfl (D_fb f_30_0 rfl rfl (q := 0) rfl) ?_
          refine q1 rfl (lb 2 o_3 rfl rfl rfl rfl) ?_
          refine p1 rfl ?_
          refine D_end ?_
          refine x_then ?_
          refine D_H ([ov [v] (vec n ga : (List Int)), ov [v7] (strataOf b : (List Int)), bx g4 [(.int .i64 b.Nodes), u1]]) rfl ?_
          refine C_if _ rfl (fun h12 => ?_) (fun h12 => ?_)
          · have pr12 : (((lev : Nat) : Int) : Int) < b.Nodes := of_decide_eq_true h12
            refine C_skip ?_
            refine x_then ?_
            refine C_seq ?_
            refine C_block ?_
            refine C_seq ?_
            refine C_reg ?_
            refine q1 rfl (lbw 2 a_30 rfl rfl rfl) ?_
            refine p1 rfl <| p1 rfl <| p1 rfl <| p1 rfl ?_
            refine li rfl (crl b_104 rfl rfl rfl rfl (fun w' hs => (spec_l11Round w' [(.int .i64 b.Nodes), u1] b v7 (strataOf b) ((lev : Nat) : Int) v (vec n ga) ((rd : Nat) : Int) (rd_at hs h_b) (rd_own (k := 1) hs rfl) (rd_own (k := 0) hs rfl) ho (strataOf_n hst) (by rw [vec_len]; omega))) fun v13 => ?_)
            refine p1 rfl ?_
            refine D_end ?_
            refine x_then ?_
            refine D_H ([ov [v13] (fidx (comesZ b (strataOf b) ((lev : Nat) : Int) (vec n ga) ((rd : Nat) : Int)) b.Nodes.toNat : (List Int)), ov [v] (vec n ga : (List Int)), ov [v7] (strataOf b : (List Int)), bx g4 [(.int .i64 b.Nodes), u1]]) rfl ?_
            refine C_block ?_
            refine C_loop (fun m_ ac w' => ∃ (cm : List Int), ∃ (vl : Value), ∃ (rd2 : Nat), ∃ (gb : Nat → Int), (Rch b ⟨lev, gb, rd2⟩) ∧ (cm = comeF b n lev rd2 gb) ∧ m_ = n - cnt n (nn gb) ∧ Fits ac 63 [(1, (.pointer (some ⟨g4, 0, none⟩))), (3, v7), (4, v), (6, (.int .i64 ((rd2 : Nat) : Int))), (7, (.int .i64 ((lev : Nat) : Int))), (8, vl)] ∧ St w ([ov [vl] (cm : (List Int)), ov [v] (vec n gb : (List Int)), ov [v7] (strataOf b : (List Int)), bx g4 [(.int .i64 b.Nodes), u1]]) w') ?_ ?_
            · refine D_eq 0 rfl (show (fidx (comesZ b (strataOf b) ((lev : Nat) : Int) (vec n ga) ((rd : Nat) : Int)) b.Nodes.toNat : (List Int)) = (fidx (comesZ b (strataOf b) ((lev : Nat) : Int) (vec n ga) ((rd : Nat) : Int)) b.Nodes.toNat) from by first | rfl | simp | (simp; omega)) ?_
              refine fun ac w' hf hs => ⟨_, fidx (comesZ b (strataOf b) ((lev : Nat) : Int) (vec n ga) ((rd : Nat) : Int)) b.Nodes.toNat, v13, rd, ga, ?_, ?_, rfl, hf.weak ⟨rfl, rfl, rfl, rfl, rfl, rfl, trivial⟩, hs⟩
              · first | assumption | omega | simp
              · exact comeF_eq hn hst
            · rintro m_ ac w' ⟨cm, vl, rd2, gb, hR2, hcm, rfl, hf, hs⟩
              refine D.use ?_ hf hs
              clear hf hs ac w'
              have hrd := hR2.rd_n hn ho
              simp only at hrd
              have hcml : cm.length ≤ n := by rw [hcm]; exact fidx_len (comes b lev rd2 gb) n
              refine C_seq ?_
              refine C_seq ?_
              refine C_reg ?_
              refine p1 rfl ?_
              refine q1 rfl (D_leno 0 s_25 rfl rfl rfl) ?_
              refine p1 rfl ?_
              refine D_end ?_
              refine x_then ?_
              refine D_H ([ov [vl] (cm : (List Int)), ov [v] (vec n gb : (List Int)), ov [v7] (strataOf b : (List Int)), bx g4 [(.int .i64 b.Nodes), u1]]) rfl ?_
              refine C_if _ rfl (fun h14 => ?_) (fun h14 => ?_)
              · have pr14 : (0 : Int) < ((cm.length : Nat) : Int) := of_decide_eq_true h14
                refine C_skip ?_
                refine x_then ?_
                refine C_block ?_
                refine C_seq ?_
                refine C_seq ?_
                refine C_reg ?_
                refine p1 rfl ?_
                refine D_end ?_
                refine x_then ?_
                refine C_block ?_
                refine C_loop (fun m_ ac w' => ∃ (m : Nat), ∃ (gc : Nat → Int), (m ≤ cm.length) ∧ (∀ x : Nat, gc x = if (x : Int) ∈ cm.take m then (rd2 : Int) else gb x) ∧ m_ = cm.length - m ∧ Fits ac 63 [(1, (.pointer (some ⟨g4, 0, none⟩))), (3, v7), (4, v), (6, (.int .i64 ((rd2 : Nat) : Int))), (7, (.int .i64 ((lev : Nat) : Int))), (8, vl), (9, (.int .i64 ((m : Nat) : Int)))] ∧ St w ([ov [vl] (cm : (List Int)), ov [v] (vec n gc : (List Int)), ov [v7] (strataOf b : (List Int)), bx g4 [(.int .i64 b.Nodes), u1]]) w') ?_ ?_
                · refine fun ac w' hf hs => ⟨_, 0, gb, ?_, ?_, rfl, hf.weak ⟨rfl, rfl, rfl, rfl, rfl, rfl, rfl, trivial⟩, hs⟩
                  · first | assumption | omega | simp
                  · intro x; exact upL_zero x
                · rintro m_ ac w' ⟨m, gc, hm, hgc, rfl, hf, hs⟩
                  refine D.use ?_ hf hs
                  clear hf hs ac w'
                  refine C_seq ?_
                  refine C_seq ?_
                  refine C_reg ?_
                  refine p1 rfl <| p1 rfl ?_
                  refine q1 rfl (D_leno 0 s_25 rfl rfl rfl) ?_
                  refine p1 rfl ?_
                  refine D_end ?_
                  refine x_then ?_
                  refine D_H ([ov [vl] (cm : (List Int)), ov [v] (vec n gc : (List Int)), ov [v7] (strataOf b : (List Int)), bx g4 [(.int .i64 b.Nodes), u1]]) rfl ?_
                  refine C_if _ rfl (fun h15 => ?_) (fun h15 => ?_)
                  · have pr15 : (((m : Nat) : Int) : Int) < ((cm.length : Nat) : Int) := of_decide_eq_true h15
                    refine C_skip ?_
                    refine x_then ?_
                    refine C_seq ?_
                    refine C_block ?_
                    refine C_reg ?_
                    refine p1 rfl <| p1 rfl <| p1 rfl ?_
                    obtain ⟨y4, hy4⟩ := some_of_lt (l := cm) (i := m) (by omega)
                    have hyn := comeF_rng (hcm ▸ hy4)
                    refine q1 rfl (D_ix (l := cm) (j := m) s_25 rfl rfl rfl (fun w' hs => (rd_own (k := 0) hs rfl)) rfl (lt_of_some hy4)) ?_
                    refine q1 rfl (lo (α := Int) 0 o_3 rfl rfl rfl hy4) ?_
                    refine p1 rfl ?_
                    have hx17 : (vec n gc)[(y4.toNat)]? = some (gc (y4.toNat)) := vec_get (by omega)
                    refine q1 rfl (D_ix (l := (vec n gc)) (j := (y4.toNat)) s_25 rfl rfl rfl (fun w' hs => (rd_own (k := 1) hs rfl)) (Int.toNat_of_nonneg (by omega)).symm (lt_of_some hx17)) ?_
                    refine li rfl (so (α := Int) (z := ((rd2 : Nat) : Int)) 1 z_3 rfl rfl rfl rfl rfl (lt_of_some hx17) ?_)
                    refine D_eq 1 rfl (vec_set _ _ _ _) ?_
                    refine D_end ?_
                    refine x_blk ?_
                    refine x_then ?_
                    refine D_H ([ov [vl] (cm : (List Int)), ov [v] (vec n (upd gc (y4.toNat) ((rd2 : Nat) : Int)) : (List Int)), ov [v7] (strataOf b : (List Int)), bx g4 [(.int .i64 b.Nodes), u1]]) rfl ?_
                    refine C_reg ?_
                    refine p1 rfl ?_
                    refine q1 rfl (D_add rfl rfl rfl (r := ((m + 1 : Nat) : Int)) (by omega) (by omega)) ?_
                    refine p1 rfl ?_
                    refine D_end ?_
                    refine x_then ?_
                    refine fun ac w' hf hs => ⟨_, ?_, m + 1, (upd gc (y4.toNat) ((rd2 : Nat) : Int)), ?_, ?_, rfl, hf.weak ⟨rfl, rfl, rfl, rfl, rfl, rfl, rfl, trivial⟩, hs⟩
                    · omega
                    · first | assumption | omega | simp
                    · exact upL_step hy4 hyn.1 hgc
                  · have pr15 : ¬ (((m : Nat) : Int) : Int) < ((cm.length : Nat) : Int) := of_decide_eq_false h15
                    refine C_exit ?_
                    refine x_then_exit ?_
                    refine x_then_exit ?_
                    refine x_blk_eq ?_
                    refine x_then ?_
                    refine C_seq ?_
                    refine C_reg ?_
                    refine p1 rfl ?_
                    refine q1 rfl (D_add rfl rfl rfl (r := ((rd2 + 1 : Nat) : Int)) (by omega) (by omega)) ?_
                    refine p1 rfl ?_
                    refine D_end ?_
                    refine x_then ?_
                    refine C_reg ?_
                    refine q1 rfl (lbw 3 a_30 rfl rfl rfl) ?_
                    refine p1 rfl <| p1 rfl <| p1 rfl <| p1 rfl ?_
                    refine li rfl (crl b_104 rfl rfl rfl rfl (fun w' hs => (spec_l11Round w' [(.int .i64 b.Nodes), u1] b v7 (strataOf b) ((lev : Nat) : Int) v (vec n gc) ((rd2 + 1 : Nat) : Int) (rd_at hs h_b) (rd_own (k := 2) hs rfl) (rd_own (k := 1) hs rfl) ho (strataOf_n hst) (by rw [vec_len]; omega))) fun v18 => ?_)
                    refine p1 rfl ?_
                    refine D_end ?_
                    refine x_blk ?_
                    refine x_then ?_
                    refine D_eq 0 rfl (show (fidx (comesZ b (strataOf b) ((lev : Nat) : Int) (vec n gc) ((rd2 + 1 : Nat) : Int)) b.Nodes.toNat : (List Int)) = (fidx (comesZ b (strataOf b) ((lev : Nat) : Int) (vec n gc) ((rd2 + 1 : Nat) : Int)) b.Nodes.toNat) from by first | rfl | simp | (simp; omega)) ?_
                    refine fun ac w' hf hs => ⟨_, ?_, fidx (comesZ b (strataOf b) ((lev : Nat) : Int) (vec n gc) ((rd2 + 1 : Nat) : Int)) b.Nodes.toNat, v18, rd2 + 1, gc, ?_, ?_, rfl, hf.weak ⟨rfl, rfl, rfl, rfl, rfl, rfl, trivial⟩, hs.pk [0, 2, 3, 4] rfl rfl⟩
                    · have e := (upL_done (by omega) (by rw [hcm]; exact comeF_mem hn ho) hgc); have hc := up_cnt hn ho (lev := lev) (rd := rd2) (g := gb) (by rw [comeF_any hn ho, ← hcm]; exact decide_eq_true (by omega)); rw [← e] at hc; have := cnt_le n (nn gc); omega
                    · exact hR2.step (by rw [comeF_any hn ho, ← hcm]; exact decide_eq_true (by omega)) (upL_done (by omega) (by rw [hcm]; exact comeF_mem hn ho) hgc)
                    · exact comeF_eq hn hst
              · have pr14 : ¬ (0 : Int) < ((cm.length : Nat) : Int) := of_decide_eq_false h14
                refine C_exit ?_
                refine x_then_exit ?_
                refine x_then_exit ?_
                refine x_blk_eq ?_
                refine x_blk ?_
                refine x_then ?_
                refine C_reg ?_
                refine p1 rfl ?_
                refine q1 rfl (D_add rfl rfl rfl (r := ((lev + 1 : Nat) : Int)) (by omega) (by omega)) ?_
                refine p1 rfl ?_
                refine D_end ?_
                refine x_then ?_
                refine fun ac w' hf hs => ⟨_, ?_, lev + 1, rd2, gb, ?_, ?_, rfl, hf.weak ⟨rfl, rfl, rfl, rfl, rfl, trivial⟩, hs.pk [1, 2, 3] rfl rfl⟩
                · omega
                · exact hR2.next (by rw [comeF_any hn ho, ← hcm]; exact decide_eq_false (by omega))
                · first | assumption | omega | simp
          · have pr12 : ¬ (((lev : Nat) : Int) : Int) < b.Nodes := of_decide_eq_false h12
            refine C_exit ?_
            refine x_then_exit ?_
            refine x_then_exit ?_
            refine x_blk_eq ?_
            refine x_then ?_
            refine C_seq ?_
            refine C_reg ?_
            refine p1 rfl <| p1 rfl ?_
            refine D_end ?_
            refine x_then ?_
            refine C_ret ?_
            refine R_1 rfl rfl fun w' hs => res_of (k := 0) hs rfl ?_
            show vec n ga = roundsOf b
            rw [roundsOf_t hst, show b.Nodes.toNat = n by omega, rnds_eq ho hsol hR (fun x hx => by have := strat_lt hsol hx; show strat b x < (lev : Int); omega)]
end Go.Sy.Bel7
