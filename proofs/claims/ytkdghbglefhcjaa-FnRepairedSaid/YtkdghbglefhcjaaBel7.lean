/-
  Contracts of functions of the program, walked (printed by a program of ours).
  Conditions: those that each theorem states.
-/
import Derived.Test.YtkdghbglefhcjaaBel6
import Derived.Test.YtkdghbglefhcjaaGraph
set_option linter.unusedVariables false
set_option maxRecDepth 20000
namespace Go.Sy.Bel7
open Go Go.RowKit Go.Proofs Go.Sy
theorem mixed : Try.prog.follows .mixedOrders = true := by kernel_rfl
theorem f_31_1 : fieldOff Try.prog 31 1 = some 1 := by kernel_rfl
theorem o_27 : oneTy Try.prog 27 = true := by kernel_rfl
theorem s_27 : sliceTy Try.prog 27 = some (3, 1, 8) := by kernel_rfl
theorem o_3 : oneTy Try.prog 3 = true := by kernel_rfl
theorem f_31_2 : fieldOff Try.prog 31 2 = some 2 := by kernel_rfl
theorem a_26 : aggTy Try.prog 26 = some 2 := by kernel_rfl
theorem b_67 : hasBody Try.prog 67 = true := by kernel_rfl
theorem f_26_0 : fieldOff Try.prog 26 0 = some 0 := by kernel_rfl
theorem y_3 : zeroTy Try.prog 3 = some (.int .i64 0) := by kernel_rfl
theorem z_3 : sizeTy Try.prog 3 = some 1 := by kernel_rfl
theorem f_26_1 : fieldOff Try.prog 26 1 = some 1 := by kernel_rfl
theorem o_24 : oneTy Try.prog 24 = true := by kernel_rfl
theorem s_24 : sliceTy Try.prog 24 = some (31, 3, 56) := by kernel_rfl
theorem a_31 : aggTy Try.prog 31 = some 3 := by kernel_rfl
theorem y_31 : zeroTy Try.prog 31 = some (.agg #[(.int .i64 0), (.slice none 0 0), (.slice none 0 0)]) := by kernel_rfl
theorem z_31 : sizeTy Try.prog 31 = some 3 := by kernel_rfl
theorem f_31_0 : fieldOff Try.prog 31 0 = some 0 := by kernel_rfl
theorem b_68 : hasBody Try.prog 68 = true := by kernel_rfl
open Go.Sy.Bel1 Go.Sy.Bel2 Go.Sy.Bel3 Go.Sy.Bel4 Go.Sy.Bel5 Go.Sy.Bel6
theorem impl_supported (w : World) (c_r : List Value) (r : Reason) (v_rounds : Value) (rounds : (List Int)) (before : Int) (h_r : Gd.rd w c_r r) (h_rounds : Gd.rd w [v_rounds] rounds) (hr : isReason r (rounds.length : Int) = true) : Calls Try.prog 68 [(.agg c_r.toArray), v_rounds, (.int .i64 before)].toArray w (Val w (.bool (supL r rounds before))) := by
  obtain ⟨u1, u3, rfl, hu2, hu4⟩ := open_Reason h_r
  have hm5 := rd_max hu2
  have hm6 := rd_max hu4
  have hm7 := rd_max h_rounds
  refine enter 45 Try.func68 rfl rfl rfl ?_
  refine C_seq ?_
  refine C_reg ?_
  refine li rfl (D_box rfl rfl rfl rfl rfl fun g8 => ?_)
  refine p1 rfl ?_
  refine D_end ?_
  refine x_then ?_
  refine D_H ([bx g8 [(.int .i64 r.For), u1, u3]]) rfl ?_
  refine C_seq ?_
  refine C_seq ?_
  refine C_reg ?_
  refine q1 rfl (D_fb f_31_1 rfl rfl (q := 1) rfl) ?_
  refine q1 rfl (lb 0 o_27 rfl rfl rfl rfl) ?_
  refine q1 rfl (D_len s_27 rfl rfl (rd_sl hu2)) ?_
  refine p1 rfl ?_
  refine D_end ?_
  refine x_then ?_
  refine C_block ?_
  refine C_loop (fun m_ ac w' => ∃ (k : Nat), (k ≤ r.In.length) ∧ (∀ i, i < k → ∀ y, r.In[i]? = some y → befL rounds before y = true) ∧ m_ = r.In.length - k ∧ Fits ac 45 [(1, v_rounds), (2, (.int .i64 before)), (3, (.pointer (some ⟨g8, 0, none⟩))), (12, u1), (13, (.int .i64 ((r.In.length : Nat) : Int))), (14, (.int .i64 ((k : Nat) : Int)))] ∧ St w ([bx g8 [(.int .i64 r.For), u1, u3]]) w') ?_ ?_
  · refine fun ac w' hf hs => ⟨_, 0, ?_, ?_, rfl, hf.weak ⟨rfl, rfl, rfl, rfl, rfl, rfl, trivial⟩, hs⟩
    · first | assumption | omega | simp
    · intro i hi; omega
  · rintro m_ ac w' ⟨k, hk, hi, rfl, hf, hs⟩
    refine D.use ?_ hf hs
    clear hf hs ac w'
    refine C_seq ?_
    refine C_reg ?_
    refine p1 rfl ?_
    refine D_end ?_
    refine x_then ?_
    refine C_seq ?_
    refine C_if _ rfl (fun h9 => ?_) (fun h9 => ?_)
    · have pr9 : (((k : Nat) : Int) : Int) < ((r.In.length : Nat) : Int) := of_decide_eq_true h9
      refine C_skip ?_
      refine x_then ?_
      refine C_seq ?_
      refine C_block ?_
      refine C_seq ?_
      refine C_reg ?_
      obtain ⟨y2, hy2⟩ := some_of_lt (l := r.In) (i := k) (by omega)
      have hyn := asc_at (isR_in hr) hy2
      obtain ⟨es10, at11, hr12⟩ := rd_elem (n := 1) rfl hu2 hy2
      obtain rfl : es10 = [.int .i64 y2] := hr12
      refine q1 rfl (D_ix (l := r.In) (j := k) s_27 rfl rfl rfl (fun w' hs => (rd_at hs hu2)) rfl (lt_of_some hy2)) ?_
      refine q1 rfl (lr0 o_3 rfl rfl at11 rfl) ?_
      refine p1 rfl ?_
      refine D_end ?_
      refine x_then ?_
      refine C_seq ?_
      refine C_reg ?_
      refine p1 rfl <| p1 rfl ?_
      obtain ⟨z2, hz2⟩ := some_of_lt (l := rounds) (i := (y2.toNat)) (by omega)
      obtain ⟨es13, at14, hr15⟩ := rd_elem (n := 1) rfl h_rounds hz2
      obtain rfl : es13 = [.int .i64 z2] := hr15
      refine q1 rfl (D_ix (l := rounds) (j := (y2.toNat)) s_27 rfl rfl rfl (fun w' hs => (rd_at hs h_rounds)) (Int.toNat_of_nonneg (by omega)).symm (lt_of_some hz2)) ?_
      refine q1 rfl (lr0 o_3 rfl rfl at14 rfl) ?_
      refine p1 rfl <| p1 rfl ?_
      refine gs 23 rfl rfl (fun h16 => ?_) (fun h16 => ?_)
      · have pr16 : (z2 : Int) < 0 := of_decide_eq_true h16
        refine n1 rfl ?_
        refine n1 rfl ?_
        refine n1 rfl ?_
        refine n1 rfl ?_
        refine n1 rfl ?_
        refine n1 rfl ?_
        refine p1 rfl ?_
        refine D_end ?_
        refine x_then ?_
        refine D_weak [(1, v_rounds), (2, (.int .i64 before)), (3, (.pointer (some ⟨g8, 0, none⟩))), (12, u1), (13, (.int .i64 ((r.In.length : Nat) : Int))), (14, (.int .i64 ((k : Nat) : Int))), (30, (.bool true))] ⟨rfl, rfl, rfl, rfl, rfl, rfl, rfl, trivial⟩ ?_
        refine C_t rfl ?_
        refine C_seq ?_
        refine C_reg ?_
        refine p1 rfl ?_
        refine D_end ?_
        refine x_then ?_
        refine C_ret ?_
        refine x_blk_ret ?_
        refine x_then_ret ?_
        refine x_then_ret ?_
        refine x_blk_ret ?_
        refine x_then_ret ?_
        refine R_1 rfl rfl fun w' hs => ⟨congrArg (fun z => Ending.returned (Value.bool z)) ?_, hs.bel⟩
        show (false : Bool) = supL r rounds before
        exact supL_in hy2 (befL_f hz2 (by omega))
      · have pr16 : ¬ (z2 : Int) < 0 := of_decide_eq_false h16
        refine p1 rfl <| p1 rfl ?_
        refine q1 rfl (D_ix (l := rounds) (j := (y2.toNat)) s_27 rfl rfl rfl (fun w' hs => (rd_at hs h_rounds)) (Int.toNat_of_nonneg (by omega)).symm (lt_of_some hz2)) ?_
        refine q1 rfl (lr0 o_3 rfl rfl at14 rfl) ?_
        refine p1 rfl <| p1 rfl <| p1 rfl ?_
        refine D_end ?_
        refine x_then ?_
        refine D_weak [(1, v_rounds), (2, (.int .i64 before)), (3, (.pointer (some ⟨g8, 0, none⟩))), (12, u1), (13, (.int .i64 ((r.In.length : Nat) : Int))), (14, (.int .i64 ((k : Nat) : Int))), (30, (.bool (decide ((before : Int) ≤ z2))))] ⟨rfl, rfl, rfl, rfl, rfl, rfl, rfl, trivial⟩ ?_
        refine C_if _ rfl (fun h17 => ?_) (fun h17 => ?_)
        · have pr17 : (before : Int) ≤ z2 := of_decide_eq_true h17
          refine C_seq ?_
          refine C_reg ?_
          refine p1 rfl ?_
          refine D_end ?_
          refine x_then ?_
          refine C_ret ?_
          refine x_blk_ret ?_
          refine x_then_ret ?_
          refine x_then_ret ?_
          refine x_blk_ret ?_
          refine x_then_ret ?_
          refine R_1 rfl rfl fun w' hs => ⟨congrArg (fun z => Ending.returned (Value.bool z)) ?_, hs.bel⟩
          show (false : Bool) = supL r rounds before
          exact supL_in hy2 (befL_f hz2 (by omega))
        · have pr17 : ¬ (before : Int) ≤ z2 := of_decide_eq_false h17
          refine C_skip ?_
          refine x_blk ?_
          refine x_then ?_
          refine C_reg ?_
          refine q1 rfl (D_add rfl rfl rfl (r := ((k + 1 : Nat) : Int)) (by omega) (by omega)) ?_
          refine p1 rfl ?_
          refine D_end ?_
          refine x_then ?_
          refine fun ac w' hf hs => ⟨_, ?_, k + 1, ?_, ?_, rfl, hf.weak ⟨rfl, rfl, rfl, rfl, rfl, rfl, trivial⟩, hs⟩
          · omega
          · first | assumption | omega | simp
          · refine forall_step hi ?_; intro y hy; obtain rfl : y = y2 := Option.some.inj (hy.symm.trans hy2); exact befL_t hz2 (by omega)
    · have pr9 : ¬ (((k : Nat) : Int) : Int) < ((r.In.length : Nat) : Int) := of_decide_eq_false h9
      refine C_exit ?_
      refine x_then_exit ?_
      refine x_then_exit ?_
      refine x_blk_eq ?_
      refine x_then ?_
      refine C_seq ?_
      refine C_seq ?_
      refine C_reg ?_
      refine q1 rfl (D_fb f_31_2 rfl rfl (q := 2) rfl) ?_
      refine q1 rfl (lb 0 o_27 rfl rfl rfl rfl) ?_
      refine q1 rfl (D_len s_27 rfl rfl (rd_sl hu4)) ?_
      refine p1 rfl ?_
      refine D_end ?_
      refine x_then ?_
      refine C_block ?_
      refine C_loop (fun m_ ac w' => ∃ (m : Nat), (m ≤ r.Out.length) ∧ (∀ i, i < m → ∀ y, r.Out[i]? = some y → nonL rounds y = true) ∧ m_ = r.Out.length - m ∧ Fits ac 45 [(1, v_rounds), (33, u3), (34, (.int .i64 ((r.Out.length : Nat) : Int))), (35, (.int .i64 ((m : Nat) : Int)))] ∧ St w ([bx g8 [(.int .i64 r.For), u1, u3]]) w') ?_ ?_
      · refine fun ac w' hf hs => ⟨_, 0, ?_, ?_, rfl, hf.weak ⟨rfl, rfl, rfl, rfl, trivial⟩, hs⟩
        · first | assumption | omega | simp
        · intro i hi; omega
      · rintro m_ ac w' ⟨m, hm, ho, rfl, hf, hs⟩
        refine D.use ?_ hf hs
        clear hf hs ac w'
        refine C_seq ?_
        refine C_reg ?_
        refine p1 rfl ?_
        refine D_end ?_
        refine x_then ?_
        refine C_seq ?_
        refine C_if _ rfl (fun h18 => ?_) (fun h18 => ?_)
        · have pr18 : (((m : Nat) : Int) : Int) < ((r.Out.length : Nat) : Int) := of_decide_eq_true h18
          refine C_skip ?_
          refine x_then ?_
          refine C_seq ?_
          refine C_block ?_
          refine C_seq ?_
          refine C_reg ?_
          obtain ⟨y3, hy3⟩ := some_of_lt (l := r.Out) (i := m) (by omega)
          have hyn := asc_at (isR_out hr) hy3
          obtain ⟨es19, at20, hr21⟩ := rd_elem (n := 1) rfl hu4 hy3
          obtain rfl : es19 = [.int .i64 y3] := hr21
          refine q1 rfl (D_ix (l := r.Out) (j := m) s_27 rfl rfl rfl (fun w' hs => (rd_at hs hu4)) rfl (lt_of_some hy3)) ?_
          refine q1 rfl (lr0 o_3 rfl rfl at20 rfl) ?_
          refine p1 rfl ?_
          refine D_end ?_
          refine x_then ?_
          refine C_seq ?_
          refine C_reg ?_
          refine p1 rfl <| p1 rfl ?_
          obtain ⟨z3, hz3⟩ := some_of_lt (l := rounds) (i := (y3.toNat)) (by omega)
          obtain ⟨es22, at23, hr24⟩ := rd_elem (n := 1) rfl h_rounds hz3
          obtain rfl : es22 = [.int .i64 z3] := hr24
          refine q1 rfl (D_ix (l := rounds) (j := (y3.toNat)) s_27 rfl rfl rfl (fun w' hs => (rd_at hs h_rounds)) (Int.toNat_of_nonneg (by omega)).symm (lt_of_some hz3)) ?_
          refine q1 rfl (lr0 o_3 rfl rfl at23 rfl) ?_
          refine p1 rfl ?_
          refine D_end ?_
          refine x_then ?_
          refine C_if _ rfl (fun h25 => ?_) (fun h25 => ?_)
          · have pr25 : (0 : Int) ≤ z3 := of_decide_eq_true h25
            refine C_seq ?_
            refine C_reg ?_
            refine p1 rfl ?_
            refine D_end ?_
            refine x_then ?_
            refine C_ret ?_
            refine x_blk_ret ?_
            refine x_then_ret ?_
            refine x_then_ret ?_
            refine x_blk_ret ?_
            refine x_then_ret ?_
            refine R_1 rfl rfl fun w' hs => ⟨congrArg (fun z => Ending.returned (Value.bool z)) ?_, hs.bel⟩
            show (false : Bool) = supL r rounds before
            exact supL_out hy3 (nonL_f hz3 (by omega))
          · have pr25 : ¬ (0 : Int) ≤ z3 := of_decide_eq_false h25
            refine C_skip ?_
            refine x_blk ?_
            refine x_then ?_
            refine C_reg ?_
            refine q1 rfl (D_add rfl rfl rfl (r := ((m + 1 : Nat) : Int)) (by omega) (by omega)) ?_
            refine p1 rfl ?_
            refine D_end ?_
            refine x_then ?_
            refine fun ac w' hf hs => ⟨_, ?_, m + 1, ?_, ?_, rfl, hf.weak ⟨rfl, rfl, rfl, rfl, trivial⟩, hs⟩
            · omega
            · first | assumption | omega | simp
            · refine forall_step ho ?_; intro y hy; obtain rfl : y = y3 := Option.some.inj (hy.symm.trans hy3); exact nonL_t hz3 (by omega)
        · have pr18 : ¬ (((m : Nat) : Int) : Int) < ((r.Out.length : Nat) : Int) := of_decide_eq_false h18
          refine C_exit ?_
          refine x_then_exit ?_
          refine x_then_exit ?_
          refine x_blk_eq ?_
          refine x_then ?_
          refine C_seq ?_
          refine C_reg ?_
          refine p1 rfl ?_
          refine D_end ?_
          refine x_then ?_
          refine C_ret ?_
          refine R_1 rfl rfl fun w' hs => ⟨congrArg (fun z => Ending.returned (Value.bool z)) ?_, hs.bel⟩
          show (true : Bool) = supL r rounds before
          exact supL_y (fun i h => hi i (by omega)) (fun i h => ho i (by omega))

set_option maxHeartbeats 4000000 in
theorem impl_rounds (w : World) (c_b : List Value) (b : Beliefs) (h_b : Gd.rd w c_b b) (ho : okB b = true) (hsol : HasSol b) (hrl : b.Reasons.length ≤ 1048576) : Calls Try.prog 52 [(.agg c_b.toArray)].toArray w (Res w (vec b.Nodes.toNat (rnds b) : List Int)) := by
  obtain ⟨u1, rfl, hu2⟩ := open_Beliefs h_b
  have hm3 := rd_max hu2
  have hbn := okB_nodes ho
  obtain ⟨n, hn⟩ : ∃ n : Nat, b.Nodes = (n : Int) := ⟨b.Nodes.toNat, by omega⟩
  refine enter 90 Try.func52 rfl rfl rfl ?_
  refine C_seq ?_
  refine C_reg ?_
  refine li rfl (D_box rfl rfl rfl rfl rfl fun g4 => ?_)
  refine p1 rfl ?_
  refine D_end ?_
  refine x_then ?_
  refine D_H ([bx g4 [(.int .i64 b.Nodes), u1]]) rfl ?_
  refine C_seq ?_
  refine C_reg ?_
  refine q1 rfl (lbw 0 a_26 rfl rfl rfl) ?_
  refine li rfl (crl b_67 rfl rfl rfl rfl (fun w' hs => (impl_strata w' [(.int .i64 b.Nodes), u1] b (rd_at hs h_b) (by first | assumption | omega | (unfold szm at *; split at * <;> omega)) (by first | assumption | omega | (unfold szm at *; split at * <;> omega)))) fun v5 => ?_)
  refine p1 rfl ?_
  refine D_end ?_
  refine x_then ?_
  refine D_H ([ov [v5] (vec b.Nodes.toNat (strat b) : (List Int)), bx g4 [(.int .i64 b.Nodes), u1]]) rfl ?_
  refine C_seq ?_
  refine C_reg ?_
  refine q1 rfl (D_fb f_26_0 rfl rfl (q := 0) rfl) ?_
  refine q1 rfl (lb 1 o_3 rfl rfl rfl rfl) ?_
  refine li rfl (D_mk (α := Int) (z := 0) s_27 y_3 rfl (congrArg (fun z => some (Value.int .i64 z)) hn) rfl rfl (by omega) (by omega) fun v6 => ?_)
  refine D_eq 0 rfl (vec_rep _ _) ?_
  refine p1 rfl ?_
  refine D_end ?_
  refine x_then ?_
  refine D_H ([ov [v6] (vec n (fun _ => 0) : (List Int)), ov [v5] (vec b.Nodes.toNat (strat b) : (List Int)), bx g4 [(.int .i64 b.Nodes), u1]]) rfl ?_
  refine C_seq ?_
  refine C_reg ?_
  refine p1 rfl ?_
  refine D_end ?_
  refine x_then ?_
  refine C_seq ?_
  refine C_seq ?_
  refine C_reg ?_
  refine p1 rfl ?_
  refine q1 rfl (lenv s_27 rfl rfl (fun w' hs => (rd_own (k := 0) hs rfl)) (vec_len _ _)) ?_
  refine p1 rfl ?_
  refine D_end ?_
  refine x_then ?_
  refine C_block ?_
  refine C_loop (fun m_ ac w' => ∃ (k : Nat), ∃ (top : Int), ∃ (ga : Nat → Int), (k ≤ n) ∧ (∀ x, x < n → ga x = if x < k then -1 else 0) ∧ (0 ≤ top ∧ top ≤ 23) ∧ (∀ x, x < k → strat b x ≤ top) ∧ m_ = n - k ∧ Fits ac 90 [(1, (.pointer (some ⟨g4, 0, none⟩))), (3, v5), (4, v6), (5, (.int .i64 top)), (20, (.int .i64 ((n : Nat) : Int))), (21, (.int .i64 ((k : Nat) : Int)))] ∧ St w ([ov [v6] (vec n ga : (List Int)), ov [v5] (vec b.Nodes.toNat (strat b) : (List Int)), bx g4 [(.int .i64 b.Nodes), u1]]) w') ?_ ?_
  · refine fun ac w' hf hs => ⟨_, 0, 0, (fun _ => 0), ?_, ?_, ?_, ?_, rfl, hf.weak ⟨rfl, rfl, rfl, rfl, rfl, rfl, trivial⟩, hs⟩
    · first | assumption | omega | simp
    · intro x hx; rw [if_neg (by omega)]
    · first | assumption | omega | simp
    · intro x hx; omega
  · rintro m_ ac w' ⟨k, top, ga, hk, hga, ht0, htp, rfl, hf, hs⟩
    refine D.use ?_ hf hs
    clear hf hs ac w'
    refine C_seq ?_
    refine C_reg ?_
    refine p1 rfl ?_
    refine D_end ?_
    refine x_then ?_
    refine D_H ([ov [v6] (vec n ga : (List Int)), ov [v5] (vec b.Nodes.toNat (strat b) : (List Int)), bx g4 [(.int .i64 b.Nodes), u1]]) rfl ?_
    refine C_seq ?_
    refine C_if _ rfl (fun h7 => ?_) (fun h7 => ?_)
    · have pr7 : (((k : Nat) : Int) : Int) < ((n : Nat) : Int) := of_decide_eq_true h7
      refine C_skip ?_
      refine x_then ?_
      refine C_seq ?_
      refine C_block ?_
      refine C_seq ?_
      refine C_reg ?_
      refine p1 rfl <| p1 rfl ?_
      refine D_end ?_
      refine x_then ?_
      refine C_seq ?_
      refine C_reg ?_
      refine p1 rfl <| p1 rfl ?_
      have hx9 : (vec n ga)[k]? = some (ga k) := vec_get (by omega)
      refine q1 rfl (D_ix (l := (vec n ga)) (j := k) s_27 rfl rfl rfl (fun w' hs => (rd_own (k := 0) hs rfl)) rfl (lt_of_some hx9)) ?_
      refine li rfl (so (α := Int) (z := (-1)) 0 z_3 rfl rfl rfl rfl rfl (lt_of_some hx9) ?_)
      refine D_eq 0 rfl (vec_set _ _ _ _) ?_
      refine D_end ?_
      refine x_then ?_
      refine D_H ([ov [v6] (vec n (upd ga k (-1)) : (List Int)), ov [v5] (vec b.Nodes.toNat (strat b) : (List Int)), bx g4 [(.int .i64 b.Nodes), u1]]) rfl ?_
      refine C_reg ?_
      refine p1 rfl <| p1 rfl <| p1 rfl ?_
      have hx11 : (vec b.Nodes.toNat (strat b))[k]? = some ((strat b) k) := vec_get (by omega)
      refine q1 rfl (D_ix (l := (vec b.Nodes.toNat (strat b))) (j := k) s_27 rfl rfl rfl (fun w' hs => (rd_own (k := 1) hs rfl)) rfl (lt_of_some hx11)) ?_
      refine q1 rfl (lo (α := Int) 1 o_3 rfl rfl rfl hx11) ?_
      have hlt := strat_lt hsol (x := k) (by omega)
      refine q1 rfl (D_max rfl rfl rfl) ?_
      refine p1 rfl ?_
      refine D_end ?_
      refine x_blk ?_
      refine x_then ?_
      refine C_reg ?_
      refine q1 rfl (D_add rfl rfl rfl (r := ((k + 1 : Nat) : Int)) (by omega) (by omega)) ?_
      refine p1 rfl ?_
      refine D_end ?_
      refine x_then ?_
      refine fun ac w' hf hs => ⟨_, ?_, k + 1, (max top ((strat b) k)), (upd ga k (-1)), ?_, ?_, ?_, ?_, rfl, hf.weak ⟨rfl, rfl, rfl, rfl, rfl, rfl, trivial⟩, hs⟩
      · omega
      · first | assumption | omega | simp
      · intro x hx; unfold upd; by_cases e : x = k; (· rw [if_pos e, if_pos (by omega)]); (· rw [if_neg e, hga x hx]; split <;> split <;> omega)
      · omega
      · refine forall_step (fun x h => ?_) ?_; (· have := htp x h; omega); (· omega)
    · have pr7 : ¬ (((k : Nat) : Int) : Int) < ((n : Nat) : Int) := of_decide_eq_false h7
      refine C_exit ?_
      refine x_then_exit ?_
      refine x_then_exit ?_
      refine x_blk_eq ?_
      refine x_then ?_
      refine C_seq ?_
      refine C_reg ?_
      refine p1 rfl ?_
      refine D_end ?_
      refine x_then ?_
      refine C_seq ?_
      refine C_seq ?_
      refine C_reg ?_
      refine p1 rfl ?_
      refine D_end ?_
      refine x_then ?_
      refine C_block ?_
      refine C_loop (fun m_ ac w' => ∃ (lev : Nat), ∃ (rd : Nat), ∃ (gb : Nat → Int), (Rch b ⟨lev, gb, rd⟩) ∧ ((lev : Int) ≤ top + 1) ∧ m_ = (top + 1 - lev).toNat + (n - cnt n (nn gb)) ∧ Fits ac 90 [(1, (.pointer (some ⟨g4, 0, none⟩))), (3, v5), (4, v6), (5, (.int .i64 top)), (7, (.int .i64 ((rd : Nat) : Int))), (8, (.int .i64 ((lev : Nat) : Int)))] ∧ St w ([ov [v6] (vec n gb : (List Int)), ov [v5] (vec b.Nodes.toNat (strat b) : (List Int)), bx g4 [(.int .i64 b.Nodes), u1]]) w') ?_ ?_
      · refine D_eq 0 rfl (show (vec n ga : (List Int)) = vec n (fun _ => -1) from by exact vec_congr (fun x hx => by rw [hga x hx, if_pos (by omega)])) ?_
        refine fun ac w' hf hs => ⟨_, 0, 0, (fun _ => -1), ?_, ?_, rfl, hf.weak ⟨rfl, rfl, rfl, rfl, rfl, rfl, trivial⟩, hs⟩
        · exact Rch.init b
        · first | assumption | omega | simp
      · rintro m_ ac w' ⟨lev, rd, gb, hR, hlv, rfl, hf, hs⟩
        refine D.use ?_ hf hs
        clear hf hs ac w'
        have hrd := hR.rd_le hn ho
        have hcl := cnt_le n (nn gb)
        simp only at hrd
        refine C_seq ?_
        refine C_seq ?_
        refine C_reg ?_
        refine p1 rfl <| p1 rfl <| p1 rfl ?_
        refine D_end ?_
        refine x_then ?_
        refine D_H ([ov [v6] (vec n gb : (List Int)), ov [v5] (vec b.Nodes.toNat (strat b) : (List Int)), bx g4 [(.int .i64 b.Nodes), u1]]) rfl ?_
        refine C_if _ rfl (fun h12 => ?_) (fun h12 => ?_)
        · have pr12 : (((lev : Nat) : Int) : Int) ≤ top := of_decide_eq_true h12
          refine C_skip ?_
          refine x_then ?_
          refine C_block ?_
          refine C_seq ?_
          refine C_reg ?_
          refine p1 rfl ?_
          refine D_end ?_
          refine x_then ?_
          refine C_seq ?_
          refine C_seq ?_
          refine C_reg ?_
          refine q1 rfl (D_fb f_26_1 rfl rfl (q := 1) rfl) ?_
          refine q1 rfl (lb 2 o_24 rfl rfl rfl rfl) ?_
          refine q1 rfl (D_len s_24 rfl rfl (rd_sl hu2)) ?_
          refine p1 rfl ?_
          refine D_end ?_
          refine x_then ?_
          refine C_block ?_
          refine C_loop (fun m_ ac w' => ∃ (k2 : Nat), ∃ (vc : Value), (k2 ≤ b.Reasons.length) ∧ m_ = b.Reasons.length - k2 ∧ Fits ac 90 [(1, (.pointer (some ⟨g4, 0, none⟩))), (3, v5), (4, v6), (5, (.int .i64 top)), (7, (.int .i64 ((rd : Nat) : Int))), (8, (.int .i64 ((lev : Nat) : Int))), (9, vc), (38, u1), (39, (.int .i64 ((b.Reasons.length : Nat) : Int))), (40, (.int .i64 ((k2 : Nat) : Int)))] ∧ St w ([ov [vc] (comeL b lev rd gb k2 : (List Int)), ov [v6] (vec n gb : (List Int)), ov [v5] (vec b.Nodes.toNat (strat b) : (List Int)), bx g4 [(.int .i64 b.Nodes), u1]]) w') ?_ ?_
          · refine D_nil (α := Int) ?_
            refine D_eq 0 rfl (show ([] : (List Int)) = comeL b lev rd gb 0 from by rfl) ?_
            refine fun ac w' hf hs => ⟨_, 0, (.slice none 0 0), ?_, rfl, hf.weak ⟨rfl, rfl, rfl, rfl, rfl, rfl, rfl, rfl, rfl, rfl, trivial⟩, hs⟩
            · first | assumption | omega | simp
          · rintro m_ ac w' ⟨k2, vc, hk2, rfl, hf, hs⟩
            refine D.use ?_ hf hs
            clear hf hs ac w'
            have hcl2 := comeL_len b lev rd gb k2
            refine C_seq ?_
            refine C_reg ?_
            refine p1 rfl ?_
            refine D_end ?_
            refine x_then ?_
            refine D_H ([ov [vc] (comeL b lev rd gb k2 : (List Int)), ov [v6] (vec n gb : (List Int)), ov [v5] (vec b.Nodes.toNat (strat b) : (List Int)), bx g4 [(.int .i64 b.Nodes), u1]]) rfl ?_
            refine C_seq ?_
            refine C_if _ rfl (fun h13 => ?_) (fun h13 => ?_)
            · have pr13 : (((k2 : Nat) : Int) : Int) < ((b.Reasons.length : Nat) : Int) := of_decide_eq_true h13
              refine C_skip ?_
              refine x_then ?_
              refine C_seq ?_
              refine C_block ?_
              refine C_seq ?_
              refine C_reg ?_
              obtain ⟨r0, hr0⟩ := some_of_lt (l := b.Reasons) (i := k2) (by omega)
              have hv0 := okB_r ho hr0
              have hF := isR_for hv0
              have hm0 := List.mem_of_getElem? hr0
              obtain ⟨es14, at15, hr16⟩ := rd_elem (n := 3) rfl hu2 hr0
              obtain ⟨u17, u19, rfl, hu18, hu20⟩ := open_Reason hr16
              have hm21 := rd_max hu18
              have hm22 := rd_max hu20
              refine q1 rfl (D_ix (l := b.Reasons) (j := k2) s_24 rfl rfl rfl (fun w' hs => (rd_at hs hu2)) rfl (lt_of_some hr0)) ?_
              refine q1 rfl (lra a_31 rfl rfl at15) ?_
              refine li rfl (D_alloc y_31 rfl rfl rfl rfl fun g23 => ?_)
              refine li rfl (D_stb (vs := [(.int .i64 r0.For), u17, u19]) (cs' := [(.int .i64 r0.For), u17, u19]) 0 z_31 rfl rfl rfl rfl rfl rfl (ocons rfl (ocons (one_rd hu18) (ocons (one_rd hu20) onil))) (by simp) rfl ?_)
              refine D_end ?_
              refine x_then ?_
              refine D_H ([bx g23 [(.int .i64 r0.For), u17, u19], ov [vc] (comeL b lev rd gb k2 : (List Int)), ov [v6] (vec n gb : (List Int)), ov [v5] (vec b.Nodes.toNat (strat b) : (List Int)), bx g4 [(.int .i64 b.Nodes), u1]]) rfl ?_
              refine C_seq ?_
              refine C_reg ?_
              refine p1 rfl ?_
              refine q1 rfl (D_fb f_31_0 rfl rfl (q := 0) rfl) ?_
              refine q1 rfl (lb 0 o_3 rfl rfl rfl rfl) ?_
              have hx25 : (vec b.Nodes.toNat (strat b))[(r0.For.toNat)]? = some ((strat b) (r0.For.toNat)) := vec_get (by omega)
              refine q1 rfl (D_ix (l := (vec b.Nodes.toNat (strat b))) (j := (r0.For.toNat)) s_27 rfl rfl rfl (fun w' hs => (rd_own (k := 3) hs rfl)) (Int.toNat_of_nonneg (by omega)).symm (lt_of_some hx25)) ?_
              refine q1 rfl (lo (α := Int) 3 o_3 rfl rfl rfl hx25) ?_
              refine p1 rfl <| p1 rfl <| p1 rfl ?_
              refine gs 51 rfl rfl (fun h26 => ?_) (fun h26 => ?_)
              · have pr26 : (((strat b) (r0.For.toNat)) : Int) = ((lev : Nat) : Int) := eq_of_beq h26
                refine p1 rfl ?_
                refine q1 rfl (D_fb f_31_0 rfl rfl (q := 0) rfl) ?_
                refine q1 rfl (lb 0 o_3 rfl rfl rfl rfl) ?_
                have hx28 : (vec n gb)[(r0.For.toNat)]? = some (gb (r0.For.toNat)) := vec_get (by omega)
                refine q1 rfl (D_ix (l := (vec n gb)) (j := (r0.For.toNat)) s_27 rfl rfl rfl (fun w' hs => (rd_own (k := 2) hs rfl)) (Int.toNat_of_nonneg (by omega)).symm (lt_of_some hx28)) ?_
                refine q1 rfl (lo (α := Int) 2 o_3 rfl rfl rfl hx28) ?_
                refine p1 rfl <| p1 rfl <| p1 rfl ?_
                refine gs 59 rfl rfl (fun h29 => ?_) (fun h29 => ?_)
                · have pr29 : ((gb (r0.For.toNat)) : Int) < 0 := of_decide_eq_true h29
                  refine q1 rfl (lbw 0 a_31 rfl rfl rfl) ?_
                  refine p1 rfl <| p1 rfl ?_
                  refine li rfl (cv b_68 rfl rfl rfl rfl (fun w' hs => (impl_supported w' [(.int .i64 r0.For), u17, u19] r0 v6 (vec n gb) ((rd : Nat) : Int) (rd_at hs hr16) (rd_own (k := 2) hs rfl) (by rw [vec_len, ← hn]; exact hv0))) ?_)
                  refine p1 rfl ?_
                  refine D_end ?_
                  refine x_then ?_
                  refine D_weak [(1, (.pointer (some ⟨g4, 0, none⟩))), (3, v5), (4, v6), (5, (.int .i64 top)), (7, (.int .i64 ((rd : Nat) : Int))), (8, (.int .i64 ((lev : Nat) : Int))), (9, vc), (11, (.pointer (some ⟨g23, 0, none⟩))), (38, u1), (39, (.int .i64 ((b.Reasons.length : Nat) : Int))), (40, (.int .i64 ((k2 : Nat) : Int))), (64, (.bool (supL r0 (vec n gb) ((rd : Nat) : Int))))] ⟨rfl, rfl, rfl, rfl, rfl, rfl, rfl, rfl, rfl, rfl, rfl, rfl, trivial⟩ ?_
                  refine C_if _ rfl (fun h30 => ?_) (fun h30 => ?_)
                  · refine C_reg ?_
                    refine p1 rfl ?_
                    refine q1 rfl (D_fb f_31_0 rfl rfl (q := 0) rfl) ?_
                    refine q1 rfl (lb 0 o_3 rfl rfl rfl rfl) ?_
                    refine li rfl (D_bs s_27 y_3 rfl (by decide) (by decide) rfl rfl rfl rfl rfl rfl fun g31 => ?_)
                    refine D_fi r0.For ?_
                    refine D_pk (H' := [ov [vc] (comeL b lev rd gb k2 : (List Int)), ov [(.int .i64 r0.For)] (r0.For : Int), bx g31 [(.int .i64 r0.For)], bx g23 [(.int .i64 r0.For), u17, u19], ov [v6] (vec n gb : (List Int)), ov [v5] (vec b.Nodes.toNat (strat b) : (List Int)), bx g4 [(.int .i64 b.Nodes), u1]]) [3, 0, 1, 2, 4, 5, 6] rfl rfl ?_
                    refine li rfl (D_ap s_27 y_3 rfl (by decide) rfl rfl rfl rfl rfl rfl (by first | omega | (simp; omega)) (by first | omega | (simp; omega)) fun v32 => ?_)
                    refine p1 rfl ?_
                    refine D_end ?_
                    refine x_blk ?_
                    refine x_then ?_
                    refine D_H ([ov [v32] ((comeL b lev rd gb k2) ++ [r0.For] : (List Int)), bx g23 [(.int .i64 r0.For), u17, u19], ov [v6] (vec n gb : (List Int)), ov [v5] (vec b.Nodes.toNat (strat b) : (List Int)), bx g4 [(.int .i64 b.Nodes), u1]]) rfl ?_
                    refine C_reg ?_
                    refine q1 rfl (D_add rfl rfl rfl (r := ((k2 + 1 : Nat) : Int)) (by omega) (by omega)) ?_
                    refine p1 rfl ?_
                    refine D_end ?_
                    refine x_then ?_
                    refine D_eq 0 rfl (show ((comeL b lev rd gb k2) ++ [r0.For] : (List Int)) = comeL b lev rd gb (k2 + 1) from by first | exact comeL_t hr0 (comesR_t hn ho hr0 (by omega) (by omega) (by assumption)) | exact comeL_f hr0 (comesR_f1 (by assumption)) | exact comeL_f hr0 (comesR_f2 (by assumption)) | exact comeL_f hr0 (comesR_f3 hn ho hr0 (by assumption))) ?_
                    refine fun ac w' hf hs => ⟨_, ?_, k2 + 1, v32, ?_, rfl, hf.weak ⟨rfl, rfl, rfl, rfl, rfl, rfl, rfl, rfl, rfl, rfl, trivial⟩, hs.pk [0, 2, 3, 4] rfl rfl⟩
                    · omega
                    · first | assumption | omega | simp
                  · refine C_skip ?_
                    refine x_blk ?_
                    refine x_then ?_
                    refine C_reg ?_
                    refine q1 rfl (D_add rfl rfl rfl (r := ((k2 + 1 : Nat) : Int)) (by omega) (by omega)) ?_
                    refine p1 rfl ?_
                    refine D_end ?_
                    refine x_then ?_
                    refine D_eq 1 rfl (show (comeL b lev rd gb k2 : (List Int)) = comeL b lev rd gb (k2 + 1) from by first | exact comeL_t hr0 (comesR_t hn ho hr0 (by omega) (by omega) (by assumption)) | exact comeL_f hr0 (comesR_f1 (by assumption)) | exact comeL_f hr0 (comesR_f2 (by assumption)) | exact comeL_f hr0 (comesR_f3 hn ho hr0 (by assumption))) ?_
                    refine fun ac w' hf hs => ⟨_, ?_, k2 + 1, vc, ?_, rfl, hf.weak ⟨rfl, rfl, rfl, rfl, rfl, rfl, rfl, rfl, rfl, rfl, trivial⟩, hs.pk [1, 2, 3, 4] rfl rfl⟩
                    · omega
                    · first | assumption | omega | simp
                · have pr29 : ¬ ((gb (r0.For.toNat)) : Int) < 0 := of_decide_eq_false h29
                  refine n1 rfl ?_
                  refine n1 rfl ?_
                  refine n1 rfl ?_
                  refine n1 rfl ?_
                  refine p1 rfl ?_
                  refine D_end ?_
                  refine x_then ?_
                  refine D_weak [(1, (.pointer (some ⟨g4, 0, none⟩))), (3, v5), (4, v6), (5, (.int .i64 top)), (7, (.int .i64 ((rd : Nat) : Int))), (8, (.int .i64 ((lev : Nat) : Int))), (9, vc), (11, (.pointer (some ⟨g23, 0, none⟩))), (38, u1), (39, (.int .i64 ((b.Reasons.length : Nat) : Int))), (40, (.int .i64 ((k2 : Nat) : Int))), (64, (.bool false))] ⟨rfl, rfl, rfl, rfl, rfl, rfl, rfl, rfl, rfl, rfl, rfl, rfl, trivial⟩ ?_
                  refine C_f rfl ?_
                  refine C_skip ?_
                  refine x_blk ?_
                  refine x_then ?_
                  refine C_reg ?_
                  refine q1 rfl (D_add rfl rfl rfl (r := ((k2 + 1 : Nat) : Int)) (by omega) (by omega)) ?_
                  refine p1 rfl ?_
                  refine D_end ?_
                  refine x_then ?_
                  refine D_eq 1 rfl (show (comeL b lev rd gb k2 : (List Int)) = comeL b lev rd gb (k2 + 1) from by first | exact comeL_t hr0 (comesR_t hn ho hr0 (by omega) (by omega) (by assumption)) | exact comeL_f hr0 (comesR_f1 (by assumption)) | exact comeL_f hr0 (comesR_f2 (by assumption)) | exact comeL_f hr0 (comesR_f3 hn ho hr0 (by assumption))) ?_
                  refine fun ac w' hf hs => ⟨_, ?_, k2 + 1, vc, ?_, rfl, hf.weak ⟨rfl, rfl, rfl, rfl, rfl, rfl, rfl, rfl, rfl, rfl, trivial⟩, hs.pk [1, 2, 3, 4] rfl rfl⟩
                  · omega
                  · first | assumption | omega | simp
              · have pr26 : (((strat b) (r0.For.toNat)) : Int) ≠ ((lev : Nat) : Int) := ne_of_beq_false h26
                refine n1 rfl ?_
                refine n1 rfl ?_
                refine n1 rfl ?_
                refine n1 rfl ?_
                refine n1 rfl ?_
                refine n1 rfl ?_
                refine p1 rfl <| p1 rfl ?_
                refine n1 rfl ?_
                refine n1 rfl ?_
                refine n1 rfl ?_
                refine n1 rfl ?_
                refine p1 rfl ?_
                refine D_end ?_
                refine x_then ?_
                refine D_weak [(1, (.pointer (some ⟨g4, 0, none⟩))), (3, v5), (4, v6), (5, (.int .i64 top)), (7, (.int .i64 ((rd : Nat) : Int))), (8, (.int .i64 ((lev : Nat) : Int))), (9, vc), (11, (.pointer (some ⟨g23, 0, none⟩))), (38, u1), (39, (.int .i64 ((b.Reasons.length : Nat) : Int))), (40, (.int .i64 ((k2 : Nat) : Int))), (64, (.bool false))] ⟨rfl, rfl, rfl, rfl, rfl, rfl, rfl, rfl, rfl, rfl, rfl, rfl, trivial⟩ ?_
                refine C_f rfl ?_
                refine C_skip ?_
                refine x_blk ?_
                refine x_then ?_
                refine C_reg ?_
                refine q1 rfl (D_add rfl rfl rfl (r := ((k2 + 1 : Nat) : Int)) (by omega) (by omega)) ?_
                refine p1 rfl ?_
                refine D_end ?_
                refine x_then ?_
                refine D_eq 1 rfl (show (comeL b lev rd gb k2 : (List Int)) = comeL b lev rd gb (k2 + 1) from by first | exact comeL_t hr0 (comesR_t hn ho hr0 (by omega) (by omega) (by assumption)) | exact comeL_f hr0 (comesR_f1 (by assumption)) | exact comeL_f hr0 (comesR_f2 (by assumption)) | exact comeL_f hr0 (comesR_f3 hn ho hr0 (by assumption))) ?_
                refine fun ac w' hf hs => ⟨_, ?_, k2 + 1, vc, ?_, rfl, hf.weak ⟨rfl, rfl, rfl, rfl, rfl, rfl, rfl, rfl, rfl, rfl, trivial⟩, hs.pk [1, 2, 3, 4] rfl rfl⟩
                · omega
                · first | assumption | omega | simp
            · have pr13 : ¬ (((k2 : Nat) : Int) : Int) < ((b.Reasons.length : Nat) : Int) := of_decide_eq_false h13
              refine C_exit ?_
              refine x_then_exit ?_
              refine x_then_exit ?_
              refine x_blk_eq ?_
              refine x_then ?_
              refine C_seq ?_
              refine C_seq ?_
              refine C_reg ?_
              refine p1 rfl ?_
              refine q1 rfl (D_leno 0 s_27 rfl rfl rfl) ?_
              refine p1 rfl ?_
              refine D_end ?_
              refine x_then ?_
              refine C_if _ rfl (fun h33 => ?_) (fun h33 => ?_)
              · have pr33 : ((((comeL b lev rd gb k2).length : Nat) : Int) : Int) = 0 := eq_of_beq h33
                refine C_seq ?_
                refine C_reg ?_
                refine p1 rfl ?_
                refine q1 rfl (D_add rfl rfl rfl (r := ((lev + 1 : Nat) : Int)) (by omega) (by omega)) ?_
                refine p1 rfl ?_
                refine D_end ?_
                refine x_then ?_
                refine C_exit ?_
                refine x_then_exit ?_
                refine x_blk_eq ?_
                refine x_then ?_
                refine fun ac w' hf hs => ⟨_, ?_, lev + 1, rd, gb, ?_, ?_, rfl, hf.weak ⟨rfl, rfl, rfl, rfl, rfl, rfl, trivial⟩, hs.pk [1, 2, 3] rfl rfl⟩
                · first | omega | (have e := upL_done (by omega) (comeL_mem (k := k2) (by omega)) hgc; have hc := up_cnt hn ho (lev := lev) (rd := rd) (g := gb) (by rw [comeL_any (k := k2) (by omega)]; exact decide_eq_true (by omega)); rw [← e] at hc; have := cnt_le n (nn gc); omega)
                · first | exact hR.next (by rw [comeL_any (k := k2) (by omega)]; exact decide_eq_false (by omega)) | exact hR.step (by rw [comeL_any (k := k2) (by omega)]; exact decide_eq_true (by omega)) (upL_done (by omega) (comeL_mem (by omega)) hgc)
                · omega
              · have pr33 : ((((comeL b lev rd gb k2).length : Nat) : Int) : Int) ≠ 0 := ne_of_beq_false h33
                refine C_skip ?_
                refine x_then ?_
                refine C_seq ?_
                refine C_seq ?_
                refine C_reg ?_
                refine p1 rfl ?_
                refine q1 rfl (D_leno 0 s_27 rfl rfl rfl) ?_
                refine p1 rfl ?_
                refine D_end ?_
                refine x_then ?_
                refine C_block ?_
                refine C_loop (fun m_ ac w' => ∃ (m : Nat), ∃ (gc : Nat → Int), (m ≤ (comeL b lev rd gb k2).length) ∧ (∀ x : Nat, gc x = if (x : Int) ∈ (comeL b lev rd gb k2).take m then (rd : Int) else gb x) ∧ m_ = (comeL b lev rd gb k2).length - m ∧ Fits ac 90 [(1, (.pointer (some ⟨g4, 0, none⟩))), (3, v5), (4, v6), (5, (.int .i64 top)), (7, (.int .i64 ((rd : Nat) : Int))), (8, (.int .i64 ((lev : Nat) : Int))), (76, vc), (77, (.int .i64 (((comeL b lev rd gb k2).length : Nat) : Int))), (78, (.int .i64 ((m : Nat) : Int)))] ∧ St w ([ov [vc] (comeL b lev rd gb k2 : (List Int)), ov [v6] (vec n gc : (List Int)), ov [v5] (vec b.Nodes.toNat (strat b) : (List Int)), bx g4 [(.int .i64 b.Nodes), u1]]) w') ?_ ?_
                · refine D_nil (α := Int) ?_
                  refine fun ac w' hf hs => ⟨_, 0, gb, ?_, ?_, rfl, hf.weak ⟨rfl, rfl, rfl, rfl, rfl, rfl, rfl, rfl, rfl, trivial⟩, hs.pk [1, 2, 3, 4] rfl rfl⟩
                  · first | assumption | omega | simp
                  · intro x; exact upL_zero x
                · rintro m_ ac w' ⟨m, gc, hm, hgc, rfl, hf, hs⟩
                  refine D.use ?_ hf hs
                  clear hf hs ac w'
                  refine C_seq ?_
                  refine C_reg ?_
                  refine p1 rfl ?_
                  refine D_end ?_
                  refine x_then ?_
                  refine D_H ([ov [vc] (comeL b lev rd gb k2 : (List Int)), ov [v6] (vec n gc : (List Int)), ov [v5] (vec b.Nodes.toNat (strat b) : (List Int)), bx g4 [(.int .i64 b.Nodes), u1]]) rfl ?_
                  refine C_seq ?_
                  refine C_if _ rfl (fun h34 => ?_) (fun h34 => ?_)
                  · have pr34 : (((m : Nat) : Int) : Int) < (((comeL b lev rd gb k2).length : Nat) : Int) := of_decide_eq_true h34
                    refine C_skip ?_
                    refine x_then ?_
                    refine C_seq ?_
                    refine C_block ?_
                    refine C_seq ?_
                    refine C_reg ?_
                    obtain ⟨y4, hy4⟩ := some_of_lt (l := (comeL b lev rd gb k2)) (i := m) (by omega)
                    have hyn := comeL_rng ho hy4
                    refine q1 rfl (D_ix (l := (comeL b lev rd gb k2)) (j := m) s_27 rfl rfl rfl (fun w' hs => (rd_own (k := 0) hs rfl)) rfl (lt_of_some hy4)) ?_
                    refine q1 rfl (lo (α := Int) 0 o_3 rfl rfl rfl hy4) ?_
                    refine p1 rfl ?_
                    refine D_end ?_
                    refine x_then ?_
                    refine C_reg ?_
                    refine p1 rfl <| p1 rfl <| p1 rfl ?_
                    have hx36 : (vec n gc)[(y4.toNat)]? = some (gc (y4.toNat)) := vec_get (by omega)
                    refine q1 rfl (D_ix (l := (vec n gc)) (j := (y4.toNat)) s_27 rfl rfl rfl (fun w' hs => (rd_own (k := 1) hs rfl)) (Int.toNat_of_nonneg (by omega)).symm (lt_of_some hx36)) ?_
                    refine li rfl (so (α := Int) (z := ((rd : Nat) : Int)) 1 z_3 rfl rfl rfl rfl rfl (lt_of_some hx36) ?_)
                    refine D_eq 1 rfl (vec_set _ _ _ _) ?_
                    refine D_end ?_
                    refine x_blk ?_
                    refine x_then ?_
                    refine D_H ([ov [vc] (comeL b lev rd gb k2 : (List Int)), ov [v6] (vec n (upd gc (y4.toNat) ((rd : Nat) : Int)) : (List Int)), ov [v5] (vec b.Nodes.toNat (strat b) : (List Int)), bx g4 [(.int .i64 b.Nodes), u1]]) rfl ?_
                    refine C_reg ?_
                    refine q1 rfl (D_add rfl rfl rfl (r := ((m + 1 : Nat) : Int)) (by omega) (by omega)) ?_
                    refine p1 rfl ?_
                    refine D_end ?_
                    refine x_then ?_
                    refine fun ac w' hf hs => ⟨_, ?_, m + 1, (upd gc (y4.toNat) ((rd : Nat) : Int)), ?_, ?_, rfl, hf.weak ⟨rfl, rfl, rfl, rfl, rfl, rfl, rfl, rfl, rfl, trivial⟩, hs⟩
                    · omega
                    · first | assumption | omega | simp
                    · exact upL_step hy4 hyn.1 hgc
                  · have pr34 : ¬ (((m : Nat) : Int) : Int) < (((comeL b lev rd gb k2).length : Nat) : Int) := of_decide_eq_false h34
                    refine C_exit ?_
                    refine x_then_exit ?_
                    refine x_then_exit ?_
                    refine x_blk_eq ?_
                    refine x_then ?_
                    refine C_reg ?_
                    refine p1 rfl ?_
                    refine q1 rfl (D_add rfl rfl rfl (r := ((rd + 1 : Nat) : Int)) (by omega) (by omega)) ?_
                    refine p1 rfl ?_
                    refine D_end ?_
                    refine x_blk ?_
                    refine x_then ?_
                    refine fun ac w' hf hs => ⟨_, ?_, lev, rd + 1, gc, ?_, ?_, rfl, hf.weak ⟨rfl, rfl, rfl, rfl, rfl, rfl, trivial⟩, hs.pk [1, 2, 3] rfl rfl⟩
                    · first | omega | (have e := upL_done (by omega) (comeL_mem (k := k2) (by omega)) hgc; have hc := up_cnt hn ho (lev := lev) (rd := rd) (g := gb) (by rw [comeL_any (k := k2) (by omega)]; exact decide_eq_true (by omega)); rw [← e] at hc; have := cnt_le n (nn gc); omega)
                    · first | exact hR.next (by rw [comeL_any (k := k2) (by omega)]; exact decide_eq_false (by omega)) | exact hR.step (by rw [comeL_any (k := k2) (by omega)]; exact decide_eq_true (by omega)) (upL_done (by omega) (comeL_mem (by omega)) hgc)
                    · omega
        · have pr12 : ¬ (((lev : Nat) : Int) : Int) ≤ top := of_decide_eq_false h12
          refine C_exit ?_
          refine x_then_exit ?_
          refine x_then_exit ?_
          refine x_blk_eq ?_
          refine x_then ?_
          refine C_seq ?_
          refine C_reg ?_
          refine p1 rfl <| p1 rfl ?_
          refine D_end ?_
          refine x_then ?_
          refine C_ret ?_
          refine R_1 rfl rfl fun w' hs => res_of (k := 0) hs rfl ?_
          show vec n gb = vec b.Nodes.toNat (rnds b)
          rw [show b.Nodes.toNat = n by omega, rnds_eq ho hsol hR (fun x hx => by have := htp x (by omega); show strat b x < (lev : Int); omega)]
end Go.Sy.Bel7
