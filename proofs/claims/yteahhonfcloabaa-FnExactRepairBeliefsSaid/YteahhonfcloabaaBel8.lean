/-
  Contracts of functions of the program, walked (printed by a program of ours).
  Conditions: those that each theorem states.
-/
import Derived.Test.YteahhonfcloabaaBel7
import Derived.Test.YteahhonfcloabaaGraph
set_option linter.unusedVariables false
set_option maxRecDepth 20000
namespace Go.Sy.Bel8
open Go Go.RowKit Go.Proofs Go.Sy
theorem mixed : Try.prog.follows .mixedOrders = true := by kernel_rfl
theorem f_30_0 : fieldOff Try.prog 30 0 = some 0 := by kernel_rfl
theorem o_3 : oneTy Try.prog 3 = true := by kernel_rfl
theorem s_25 : sliceTy Try.prog 25 = some (3, 1, 8) := by kernel_rfl
theorem f_30_1 : fieldOff Try.prog 30 1 = some 1 := by kernel_rfl
theorem o_28 : oneTy Try.prog 28 = true := by kernel_rfl
theorem s_28 : sliceTy Try.prog 28 = some (67, 3, 56) := by kernel_rfl
theorem a_67 : aggTy Try.prog 67 = some 3 := by kernel_rfl
theorem y_67 : zeroTy Try.prog 67 = some (.agg #[(.int .i64 0), (.slice none 0 0), (.slice none 0 0)]) := by kernel_rfl
theorem z_67 : sizeTy Try.prog 67 = some 3 := by kernel_rfl
theorem f_67_0 : fieldOff Try.prog 67 0 = some 0 := by kernel_rfl
theorem b_84 : hasBody Try.prog 84 = true := by kernel_rfl
theorem a_30 : aggTy Try.prog 30 = some 2 := by kernel_rfl
theorem b_87 : hasBody Try.prog 87 = true := by kernel_rfl
theorem b_66 : hasBody Try.prog 66 = true := by kernel_rfl
theorem f_67_1 : fieldOff Try.prog 67 1 = some 1 := by kernel_rfl
theorem o_25 : oneTy Try.prog 25 = true := by kernel_rfl
theorem b_101 : hasBody Try.prog 101 = true := by kernel_rfl
theorem f_67_2 : fieldOff Try.prog 67 2 = some 2 := by kernel_rfl
theorem b_102 : hasBody Try.prog 102 = true := by kernel_rfl
theorem b_62 : hasBody Try.prog 62 = true := by kernel_rfl
theorem s_75 : sliceTy Try.prog 75 = some (4, 1, 1) := by kernel_rfl
theorem y_4 : zeroTy Try.prog 4 = some (.bool false) := by kernel_rfl
open Go.Sy.Bel1 Go.Sy.Bel2 Go.Sy.Bel3 Go.Sy.Bel4 Go.Sy.Bel5 Go.Sy.Bel6 Go.Sy.Bel7
theorem impl_support (w : World) (c_b : List Value) (b : Beliefs) (v_rounds : Value) (rounds : (List Int)) (x : Int) (h_b : Gd.rd w c_b b) (h_rounds : Gd.rd w [v_rounds] rounds) (ho : okB b = true) (hl : rounds.length = b.Nodes.toNat) : Calls Try.prog 82 [(.agg c_b.toArray), v_rounds, (.int .i64 x)].toArray w (Val w (.int .i64 (suppL b rounds x))) := by
  obtain ⟨u1, rfl, hu2⟩ := open_Beliefs h_b
  have hm3 := rd_max hu2
  have hm4 := rd_max h_rounds
  have hbn := okB_nodes ho
  refine enter 47 Try.func82 rfl rfl rfl ?_
  refine C_seq ?_
  refine C_reg ?_
  refine li rfl (D_box rfl rfl rfl rfl rfl fun g5 => ?_)
  refine p1 rfl ?_
  refine D_end ?_
  refine x_then ?_
  refine D_H ([bx g5 [(.int .i64 b.Nodes), u1]]) rfl ?_
  refine C_seq ?_
  refine C_seq ?_
  refine C_reg ?_
  refine p1 rfl <| p1 rfl <| p1 rfl ?_
  refine gs 11 rfl rfl (fun h6 => ?_) (fun h6 => ?_)
  · have pr6 : (x : Int) < 0 := of_decide_eq_true h6
    refine n1 rfl ?_
    refine n1 rfl ?_
    refine n1 rfl ?_
    refine n1 rfl ?_
    refine p1 rfl <| p1 rfl ?_
    refine n1 rfl ?_
    refine n1 rfl ?_
    refine n1 rfl ?_
    refine n1 rfl ?_
    refine n1 rfl ?_
    refine p1 rfl ?_
    refine D_end ?_
    refine x_then ?_
    refine D_weak [(1, v_rounds), (2, (.int .i64 x)), (3, (.pointer (some ⟨g5, 0, none⟩))), (23, (.bool true))] ⟨rfl, rfl, rfl, rfl, trivial⟩ ?_
    refine C_t rfl ?_
    refine C_seq ?_
    refine C_reg ?_
    refine p1 rfl ?_
    refine D_end ?_
    refine x_then ?_
    refine C_ret ?_
    refine x_then_ret ?_
    refine R_1 rfl rfl fun w' hs => ⟨congrArg (fun z => Ending.returned (Value.int .i64 z)) ?_, hs.bel⟩
    show ((-1) : Int) = suppL b rounds x
    exact supp_n1 (by omega)
  · have pr6 : ¬ (x : Int) < 0 := of_decide_eq_false h6
    refine p1 rfl ?_
    refine q1 rfl (D_fb f_30_0 rfl rfl (q := 0) rfl) ?_
    refine q1 rfl (lb 0 o_3 rfl rfl rfl rfl) ?_
    refine p1 rfl <| p1 rfl <| p1 rfl ?_
    refine gs 17 rfl rfl (fun h7 => ?_) (fun h7 => ?_)
    · have pr7 : (b.Nodes : Int) ≤ x := of_decide_eq_true h7
      refine n1 rfl ?_
      refine n1 rfl ?_
      refine n1 rfl ?_
      refine n1 rfl ?_
      refine n1 rfl ?_
      refine p1 rfl ?_
      refine D_end ?_
      refine x_then ?_
      refine D_weak [(1, v_rounds), (2, (.int .i64 x)), (3, (.pointer (some ⟨g5, 0, none⟩))), (23, (.bool true))] ⟨rfl, rfl, rfl, rfl, trivial⟩ ?_
      refine C_t rfl ?_
      refine C_seq ?_
      refine C_reg ?_
      refine p1 rfl ?_
      refine D_end ?_
      refine x_then ?_
      refine C_ret ?_
      refine x_then_ret ?_
      refine R_1 rfl rfl fun w' hs => ⟨congrArg (fun z => Ending.returned (Value.int .i64 z)) ?_, hs.bel⟩
      show ((-1) : Int) = suppL b rounds x
      exact supp_n1 (by omega)
    · have pr7 : ¬ (b.Nodes : Int) ≤ x := of_decide_eq_false h7
      refine p1 rfl <| p1 rfl ?_
      obtain ⟨z0, hz0⟩ := some_of_lt (l := rounds) (i := (x.toNat)) (by omega)
      obtain ⟨es8, at9, hr10⟩ := rd_elem (n := 1) rfl h_rounds hz0
      obtain rfl : es8 = [.int .i64 z0] := hr10
      refine q1 rfl (D_ix (l := rounds) (j := (x.toNat)) s_25 rfl rfl rfl (fun w' hs => (rd_at hs h_rounds)) (Int.toNat_of_nonneg (by omega)).symm (lt_of_some hz0)) ?_
      refine q1 rfl (lr0 o_3 rfl rfl at9 rfl) ?_
      refine p1 rfl <| p1 rfl ?_
      refine D_end ?_
      refine x_then ?_
      refine D_weak [(1, v_rounds), (2, (.int .i64 x)), (3, (.pointer (some ⟨g5, 0, none⟩))), (23, (.bool (decide ((z0 : Int) < 0))))] ⟨rfl, rfl, rfl, rfl, trivial⟩ ?_
      refine C_if _ rfl (fun h11 => ?_) (fun h11 => ?_)
      · have pr11 : (z0 : Int) < 0 := of_decide_eq_true h11
        refine C_seq ?_
        refine C_reg ?_
        refine p1 rfl ?_
        refine D_end ?_
        refine x_then ?_
        refine C_ret ?_
        refine x_then_ret ?_
        refine R_1 rfl rfl fun w' hs => ⟨congrArg (fun z => Ending.returned (Value.int .i64 z)) ?_, hs.bel⟩
        show ((-1) : Int) = suppL b rounds x
        exact supp_n2 hz0 (by omega)
      · have pr11 : ¬ (z0 : Int) < 0 := of_decide_eq_false h11
        refine C_skip ?_
        refine x_then ?_
        refine C_seq ?_
        refine C_seq ?_
        refine C_reg ?_
        refine q1 rfl (D_fb f_30_1 rfl rfl (q := 1) rfl) ?_
        refine q1 rfl (lb 0 o_28 rfl rfl rfl rfl) ?_
        refine q1 rfl (D_len s_28 rfl rfl (rd_sl hu2)) ?_
        refine p1 rfl ?_
        refine D_end ?_
        refine x_then ?_
        refine C_block ?_
        refine C_loop (fun m_ ac w' => ∃ (k : Nat), (k ≤ b.Reasons.length) ∧ (∀ i, i < k → ∀ r, b.Reasons[i]? = some r → hasFor rounds x r = false) ∧ m_ = b.Reasons.length - k ∧ Fits ac 47 [(1, v_rounds), (2, (.int .i64 x)), (25, u1), (26, (.int .i64 ((b.Reasons.length : Nat) : Int))), (27, (.int .i64 ((k : Nat) : Int)))] ∧ St w ([bx g5 [(.int .i64 b.Nodes), u1]]) w') ?_ ?_
        · refine fun ac w' hf hs => ⟨_, 0, ?_, ?_, rfl, hf.weak ⟨rfl, rfl, rfl, rfl, rfl, trivial⟩, hs⟩
          · first | assumption | omega | simp
          · intro i hi; omega
        · rintro m_ ac w' ⟨k, hk, hi, rfl, hf, hs⟩
          refine D.use ?_ hf hs
          clear hf hs ac w'
          refine C_seq ?_
          refine C_reg ?_
          refine p1 rfl ?_
          refine D_end ?_
          refine x_then ?_
          refine C_seq ?_
          refine C_if _ rfl (fun h12 => ?_) (fun h12 => ?_)
          · have pr12 : (((k : Nat) : Int) : Int) < ((b.Reasons.length : Nat) : Int) := of_decide_eq_true h12
            refine C_skip ?_
            refine x_then ?_
            refine C_seq ?_
            refine C_block ?_
            refine C_seq ?_
            refine C_reg ?_
            refine p1 rfl ?_
            obtain ⟨r0, hr0⟩ := some_of_lt (l := b.Reasons) (i := k) (by omega)
            have hv0 := okB_r ho hr0
            obtain ⟨es13, at14, hr15⟩ := rd_elem (n := 3) rfl hu2 hr0
            obtain ⟨u17, u19, rfl, hu18, hu20⟩ := open_Reason hr15
            have hm21 := rd_max hu18
            have hm22 := rd_max hu20
            refine q1 rfl (D_ix (l := b.Reasons) (j := k) s_28 rfl rfl rfl (fun w' hs => (rd_at hs hu2)) rfl (lt_of_some hr0)) ?_
            refine q1 rfl (lra a_67 rfl rfl at14) ?_
            refine li rfl (D_alloc y_67 rfl rfl rfl rfl fun g23 => ?_)
            refine p1 rfl ?_
            refine li rfl (D_stb (vs := [(.int .i64 r0.For), u17, u19]) (cs' := [(.int .i64 r0.For), u17, u19]) 0 z_67 rfl rfl rfl rfl rfl rfl (ocons rfl (ocons (one_rd hu18) (ocons (one_rd hu20) onil))) (by simp) rfl ?_)
            refine D_end ?_
            refine x_then ?_
            refine D_H ([bx g23 [(.int .i64 r0.For), u17, u19], bx g5 [(.int .i64 b.Nodes), u1]]) rfl ?_
            refine C_seq ?_
            refine C_draw mixed [11, 12] (by kernel_rfl) ?_
            refine tk 0 rfl (by kernel_rfl) (by kernel_rfl) (by kernel_rfl) rfl (fun _ hs => hs) (D_fb f_67_0 rfl rfl (q := 0) rfl) ?_
            refine tk 1 rfl (by kernel_rfl) (by kernel_rfl) (by kernel_rfl) rfl (fun _ hs => hs) (lb 0 o_3 rfl rfl rfl rfl) ?_
            refine tk 2 rfl (by kernel_rfl) (by kernel_rfl) (by kernel_rfl) rfl (fun _ hs => hs) (rp rfl) ?_
            refine tk 3 rfl (by kernel_rfl) (by kernel_rfl) (by kernel_rfl) rfl (fun _ hs => hs) (rp rfl) ?_
            refine tk 4 rfl (by kernel_rfl) (by kernel_rfl) (by kernel_rfl) rfl (fun _ hs => hs) (rp rfl) ?_
            refine gs 36 rfl rfl (fun h24 => ?_) (fun h24 => ?_)
            · have pr24 : (r0.For : Int) = x := eq_of_beq h24
              refine tk 5 rfl (by kernel_rfl) (by kernel_rfl) (by kernel_rfl) rfl (fun _ hs => hs) (lbw 0 a_67 rfl rfl rfl) ?_
              refine tk 6 rfl (by kernel_rfl) (by kernel_rfl) (by kernel_rfl) rfl (fun _ hs => hs) (rp rfl) ?_
              refine tk 7 rfl (by kernel_rfl) (by kernel_rfl) (by kernel_rfl) rfl (fun _ hs => hs) (rp rfl) ?_
              refine tk 8 rfl (by kernel_rfl) (by kernel_rfl) (by kernel_rfl) rfl (fun _ hs => hs) (rp rfl) ?_
              refine tk 9 rfl (by kernel_rfl) (by kernel_rfl) (by kernel_rfl) rfl (fun _ hs => hs) (D_ix (l := rounds) (j := (x.toNat)) s_25 rfl rfl rfl (fun w' hs => (rd_at hs h_rounds)) (Int.toNat_of_nonneg (by omega)).symm (lt_of_some hz0)) ?_
              refine tk 10 rfl (by kernel_rfl) (by kernel_rfl) (by kernel_rfl) rfl (fun _ hs => hs) (lr0 o_3 rfl rfl at9 rfl) ?_
              refine ty 11 rfl (by kernel_rfl) rfl (cv b_84 rfl rfl rfl rfl (fun w' hs => (impl_supported w' [(.int .i64 r0.For), u17, u19] r0 v_rounds rounds z0 (rd_at hs hr15) (rd_at hs h_rounds) (by rw [show ((rounds.length : Nat) : Int) = b.Nodes by omega]; exact hv0))) ?_)
              refine tZ rfl ?_
              refine ty 12 rfl (by kernel_rfl) rfl (sv rfl rfl (rp rfl) ?_)
              refine tZ rfl ?_
              refine tE (by kernel_rfl) ?_
              refine x_then ?_
              refine D_weak [(1, v_rounds), (2, (.int .i64 x)), (7, (.int .i64 ((k : Nat) : Int))), (25, u1), (26, (.int .i64 ((b.Reasons.length : Nat) : Int))), (27, (.int .i64 ((k : Nat) : Int))), (44, (.bool (supL r0 rounds z0)))] ⟨rfl, rfl, rfl, rfl, rfl, rfl, rfl, trivial⟩ ?_
              refine D_sel (H' := [bx g5 [(.int .i64 b.Nodes), u1]]) [false, true] rfl ?_
              refine C_if _ rfl (fun h25 => ?_) (fun h25 => ?_)
              · refine C_seq ?_
                refine C_reg ?_
                refine p1 rfl <| p1 rfl ?_
                refine D_end ?_
                refine x_then ?_
                refine C_ret ?_
                refine x_blk_ret ?_
                refine x_then_ret ?_
                refine x_then_ret ?_
                refine x_blk_ret ?_
                refine x_then_ret ?_
                refine R_1 rfl rfl fun w' hs => ⟨congrArg (fun z => Ending.returned (Value.int .i64 z)) ?_, hs.bel⟩
                show (((k : Nat) : Int) : Int) = suppL b rounds x
                exact supp_y (by omega) hz0 (by omega) hi hr0 (hasFor_t hz0 (by assumption) (by assumption))
              · refine C_skip ?_
                refine x_blk ?_
                refine x_then ?_
                refine C_reg ?_
                refine q1 rfl (D_add rfl rfl rfl (r := ((k + 1 : Nat) : Int)) (by omega) (by omega)) ?_
                refine p1 rfl ?_
                refine D_end ?_
                refine x_then ?_
                refine fun ac w' hf hs => ⟨_, ?_, k + 1, ?_, ?_, rfl, hf.weak ⟨rfl, rfl, rfl, rfl, rfl, trivial⟩, hs⟩
                · omega
                · first | assumption | omega | simp
                · refine forall_step hi ?_; intro r hr; obtain rfl : r = r0 := Option.some.inj (hr.symm.trans hr0); first | exact hasFor_f1 (by assumption) | exact hasFor_f2 hz0 (by assumption)
            · have pr24 : (r0.For : Int) ≠ x := ne_of_beq_false h24
              refine tn 5 rfl (by kernel_rfl) (by kernel_rfl) (by kernel_rfl) rfl rfl rfl (fun _ hs => hs) ?_
              refine tn 6 rfl (by kernel_rfl) (by kernel_rfl) (by kernel_rfl) rfl rfl rfl (fun _ hs => hs) ?_
              refine tn 7 rfl (by kernel_rfl) (by kernel_rfl) (by kernel_rfl) rfl rfl rfl (fun _ hs => hs) ?_
              refine tn 8 rfl (by kernel_rfl) (by kernel_rfl) (by kernel_rfl) rfl rfl rfl (fun _ hs => hs) ?_
              refine tn 9 rfl (by kernel_rfl) (by kernel_rfl) (by kernel_rfl) rfl rfl rfl (fun _ hs => hs) ?_
              refine tn 10 rfl (by kernel_rfl) (by kernel_rfl) (by kernel_rfl) rfl rfl rfl (fun _ hs => hs) ?_
              refine tn 11 rfl (by kernel_rfl) (by kernel_rfl) (by kernel_rfl) rfl rfl rfl (fun _ hs => hs) ?_
              refine ty 12 rfl (by kernel_rfl) rfl (sv rfl rfl (rp rfl) ?_)
              refine tZ rfl ?_
              refine tE (by kernel_rfl) ?_
              refine x_then ?_
              refine D_weak [(1, v_rounds), (2, (.int .i64 x)), (7, (.int .i64 ((k : Nat) : Int))), (25, u1), (26, (.int .i64 ((b.Reasons.length : Nat) : Int))), (27, (.int .i64 ((k : Nat) : Int))), (44, (.bool false))] ⟨rfl, rfl, rfl, rfl, rfl, rfl, rfl, trivial⟩ ?_
              refine D_sel (H' := [bx g5 [(.int .i64 b.Nodes), u1]]) [false, true] rfl ?_
              refine C_f rfl ?_
              refine C_skip ?_
              refine x_blk ?_
              refine x_then ?_
              refine C_reg ?_
              refine q1 rfl (D_add rfl rfl rfl (r := ((k + 1 : Nat) : Int)) (by omega) (by omega)) ?_
              refine p1 rfl ?_
              refine D_end ?_
              refine x_then ?_
              refine fun ac w' hf hs => ⟨_, ?_, k + 1, ?_, ?_, rfl, hf.weak ⟨rfl, rfl, rfl, rfl, rfl, trivial⟩, hs⟩
              · omega
              · first | assumption | omega | simp
              · refine forall_step hi ?_; intro r hr; obtain rfl : r = r0 := Option.some.inj (hr.symm.trans hr0); first | exact hasFor_f1 (by assumption) | exact hasFor_f2 hz0 (by assumption)
          · have pr12 : ¬ (((k : Nat) : Int) : Int) < ((b.Reasons.length : Nat) : Int) := of_decide_eq_false h12
            refine C_exit ?_
            refine x_then_exit ?_
            refine x_then_exit ?_
            refine x_blk_eq ?_
            refine x_then ?_
            refine C_seq ?_
            refine C_reg ?_
            refine p1 rfl ?_
            refine D_end ?_
            refine x_then ?_
            refine C_ret ?_
            refine R_1 rfl rfl fun w' hs => ⟨congrArg (fun z => Ending.returned (Value.int .i64 z)) ?_, hs.bel⟩
            show ((-1) : Int) = suppL b rounds x
            exact supp_n3 (fun i h => hi i (by omega))

set_option maxHeartbeats 4000000 in
theorem spec_SupportOf (w : World) (c_b : List Value) (b : Beliefs) (x : Int) (h_b : Gd.rd w c_b b) : Calls Try.prog 79 [(.agg c_b.toArray), (.int .i64 x)].toArray w (Val w (.int .i64 (suppOf b x))) := by
  obtain ⟨u1, rfl, hu2⟩ := open_Beliefs h_b
  have hm3 := rd_max hu2
  refine enter 56 Try.func79 rfl rfl rfl ?_
  refine C_seq ?_
  refine C_reg ?_
  refine li rfl (D_box rfl rfl rfl rfl rfl fun g4 => ?_)
  refine p1 rfl ?_
  refine D_end ?_
  refine x_then ?_
  refine D_H ([bx g4 [(.int .i64 b.Nodes), u1]]) rfl ?_
  refine C_seq ?_
  refine C_reg ?_
  refine q1 rfl (lbw 0 a_30 rfl rfl rfl) ?_
  refine li rfl (crl b_87 rfl rfl rfl rfl (fun w' hs => (spec_RoundsOf w' [(.int .i64 b.Nodes), u1] b (rd_at hs h_b))) fun v5 => ?_)
  refine p1 rfl ?_
  refine D_end ?_
  refine x_then ?_
  refine D_H ([ov [v5] (roundsOf b : (List Int)), bx g4 [(.int .i64 b.Nodes), u1]]) rfl ?_
  refine C_seq ?_
  refine C_seq ?_
  refine C_reg ?_
  have hrl := roundsOf_len (b := b)
  refine p1 rfl <| p1 rfl ?_
  refine q1 rfl (D_leno 0 s_25 rfl rfl rfl) ?_
  refine q1 rfl (D_sub rfl rfl rfl (r := ((((roundsOf b).length : Nat) : Int) - 1)) (by omega) (by omega)) ?_
  refine li rfl (cv b_66 rfl rfl rfl rfl (fun w' hs => (spec_l1In w' x 0 ((((roundsOf b).length : Nat) : Int) - 1))) ?_)
  refine p1 rfl <| p1 rfl ?_
  refine gs 16 rfl rfl (fun h6 => ?_) (fun h6 => ?_)
  · have h6n : (inR x 0 ((((roundsOf b).length : Nat) : Int) - 1)) = false := not_t h6
    refine n1 rfl ?_
    refine n1 rfl ?_
    refine n1 rfl ?_
    refine n1 rfl ?_
    refine n1 rfl ?_
    refine p1 rfl ?_
    refine D_end ?_
    refine x_then ?_
    refine D_weak [(1, (.int .i64 x)), (2, (.pointer (some ⟨g4, 0, none⟩))), (5, v5), (22, (.bool true))] ⟨rfl, rfl, rfl, rfl, trivial⟩ ?_
    refine C_t rfl ?_
    refine C_seq ?_
    refine C_reg ?_
    refine p1 rfl ?_
    refine D_end ?_
    refine x_then ?_
    refine C_ret ?_
    refine x_then_ret ?_
    refine R_1 rfl rfl fun w' hs => ⟨congrArg (fun z => Ending.returned (Value.int .i64 z)) ?_, hs.bel⟩
    show ((-1) : Int) = suppOf b x
    exact roundsOf_out (by assumption)
  · have h6n : (inR x 0 ((((roundsOf b).length : Nat) : Int) - 1)) = true := not_f h6
    obtain ⟨hst, hx0, hx1, hl0⟩ := roundsOf_in (b := b) (by assumption)
    have ho := isB_ok2 (strat_b hst)
    have hbn := okB_nodes ho
    refine p1 rfl <| p1 rfl ?_
    obtain ⟨z0, hz0⟩ := some_of_lt (l := (roundsOf b)) (i := (x.toNat)) (by omega)
    refine q1 rfl (D_ix (l := (roundsOf b)) (j := (x.toNat)) s_25 rfl rfl rfl (fun w' hs => (rd_own (k := 0) hs rfl)) (Int.toNat_of_nonneg (by omega)).symm (lt_of_some hz0)) ?_
    refine q1 rfl (lo (α := Int) 0 o_3 rfl rfl rfl hz0) ?_
    refine p1 rfl <| p1 rfl ?_
    refine D_end ?_
    refine x_then ?_
    refine D_weak [(1, (.int .i64 x)), (2, (.pointer (some ⟨g4, 0, none⟩))), (5, v5), (22, (.bool (decide ((z0 : Int) < 0))))] ⟨rfl, rfl, rfl, rfl, trivial⟩ ?_
    refine C_if _ rfl (fun h7 => ?_) (fun h7 => ?_)
    · have pr7 : (z0 : Int) < 0 := of_decide_eq_true h7
      refine C_seq ?_
      refine C_reg ?_
      refine p1 rfl ?_
      refine D_end ?_
      refine x_then ?_
      refine C_ret ?_
      refine x_then_ret ?_
      refine R_1 rfl rfl fun w' hs => ⟨congrArg (fun z => Ending.returned (Value.int .i64 z)) ?_, hs.bel⟩
      show ((-1) : Int) = suppOf b x
      rw [← suppOf_t hst]; exact supp_n2 hz0 (by omega)
    · have pr7 : ¬ (z0 : Int) < 0 := of_decide_eq_false h7
      refine C_skip ?_
      refine x_then ?_
      refine C_seq ?_
      refine C_seq ?_
      refine C_reg ?_
      refine p1 rfl ?_
      refine D_end ?_
      refine x_then ?_
      refine C_block ?_
      refine C_loop (fun m_ ac w' => ∃ (k : Nat), (k ≤ b.Reasons.length) ∧ (∀ i, i < k → ∀ r, b.Reasons[i]? = some r → hasFor (roundsOf b) x r = false) ∧ m_ = b.Reasons.length - k ∧ Fits ac 56 [(1, (.int .i64 x)), (2, (.pointer (some ⟨g4, 0, none⟩))), (5, v5), (6, (.int .i64 ((k : Nat) : Int)))] ∧ St w ([ov [v5] (roundsOf b : (List Int)), bx g4 [(.int .i64 b.Nodes), u1]]) w') ?_ ?_
      · refine fun ac w' hf hs => ⟨_, 0, ?_, ?_, rfl, hf.weak ⟨rfl, rfl, rfl, rfl, trivial⟩, hs⟩
        · first | assumption | omega | simp
        · intro i hi; omega
      · rintro m_ ac w' ⟨k, hk, hi, rfl, hf, hs⟩
        refine D.use ?_ hf hs
        clear hf hs ac w'
        refine C_seq ?_
        refine C_seq ?_
        refine C_reg ?_
        refine p1 rfl ?_
        refine q1 rfl (D_fb f_30_1 rfl rfl (q := 1) rfl) ?_
        refine q1 rfl (lb 1 o_28 rfl rfl rfl rfl) ?_
        refine q1 rfl (D_len s_28 rfl rfl (rd_sl hu2)) ?_
        refine p1 rfl ?_
        refine D_end ?_
        refine x_then ?_
        refine C_if _ rfl (fun h8 => ?_) (fun h8 => ?_)
        · have pr8 : (((k : Nat) : Int) : Int) < ((b.Reasons.length : Nat) : Int) := of_decide_eq_true h8
          refine C_skip ?_
          refine x_then ?_
          refine C_seq ?_
          refine C_block ?_
          refine C_seq ?_
          refine C_reg ?_
          refine q1 rfl (D_fb f_30_1 rfl rfl (q := 1) rfl) ?_
          refine q1 rfl (lb 1 o_28 rfl rfl rfl rfl) ?_
          refine p1 rfl ?_
          obtain ⟨r0, hr0⟩ := some_of_lt (l := b.Reasons) (i := k) (by omega)
          have hv0 := okB_r ho hr0
          obtain ⟨es9, at10, hr11⟩ := rd_elem (n := 3) rfl hu2 hr0
          obtain ⟨u12, u14, rfl, hu13, hu15⟩ := open_Reason hr11
          have hm16 := rd_max hu13
          have hm17 := rd_max hu15
          refine q1 rfl (D_ix (l := b.Reasons) (j := k) s_28 rfl rfl rfl (fun w' hs => (rd_at hs hu2)) rfl (lt_of_some hr0)) ?_
          refine q1 rfl (lra a_67 rfl rfl at10) ?_
          refine li rfl (D_alloc y_67 rfl rfl rfl rfl fun g18 => ?_)
          refine li rfl (D_stb (vs := [(.int .i64 r0.For), u12, u14]) (cs' := [(.int .i64 r0.For), u12, u14]) 0 z_67 rfl rfl rfl rfl rfl rfl (ocons rfl (ocons (one_rd hu13) (ocons (one_rd hu15) onil))) (by simp) rfl ?_)
          refine D_end ?_
          refine x_then ?_
          refine D_H ([bx g18 [(.int .i64 r0.For), u12, u14], ov [v5] (roundsOf b : (List Int)), bx g4 [(.int .i64 b.Nodes), u1]]) rfl ?_
          refine C_seq ?_
          refine C_draw mixed [12, 13, 14, 18, 19] (by kernel_rfl) ?_
          refine tk 0 rfl (by kernel_rfl) (by kernel_rfl) (by kernel_rfl) rfl (fun _ hs => hs) (D_fb f_67_0 rfl rfl (q := 0) rfl) ?_
          refine tk 1 rfl (by kernel_rfl) (by kernel_rfl) (by kernel_rfl) rfl (fun _ hs => hs) (lb 0 o_3 rfl rfl rfl rfl) ?_
          refine tk 2 rfl (by kernel_rfl) (by kernel_rfl) (by kernel_rfl) rfl (fun _ hs => hs) (rp rfl) ?_
          refine tk 3 rfl (by kernel_rfl) (by kernel_rfl) (by kernel_rfl) rfl (fun _ hs => hs) (rp rfl) ?_
          refine tk 4 rfl (by kernel_rfl) (by kernel_rfl) (by kernel_rfl) rfl (fun _ hs => hs) (rp rfl) ?_
          refine gs 39 rfl rfl (fun h19 => ?_) (fun h19 => ?_)
          · have pr19 : (r0.For : Int) = x := eq_of_beq h19
            refine tk 5 rfl (by kernel_rfl) (by kernel_rfl) (by kernel_rfl) rfl (fun _ hs => hs) (D_fb f_67_1 rfl rfl (q := 1) rfl) ?_
            refine tk 6 rfl (by kernel_rfl) (by kernel_rfl) (by kernel_rfl) rfl (fun _ hs => hs) (lb 0 o_25 rfl rfl rfl rfl) ?_
            refine tk 7 rfl (by kernel_rfl) (by kernel_rfl) (by kernel_rfl) rfl (fun _ hs => hs) (rp rfl) ?_
            refine tk 8 rfl (by kernel_rfl) (by kernel_rfl) (by kernel_rfl) rfl (fun _ hs => hs) (rp rfl) ?_
            refine tk 9 rfl (by kernel_rfl) (by kernel_rfl) (by kernel_rfl) rfl (fun _ hs => hs) (rp rfl) ?_
            obtain ⟨z1, hz1⟩ := some_of_lt (l := (roundsOf b)) (i := (x.toNat)) (by omega)
            refine tk 10 rfl (by kernel_rfl) (by kernel_rfl) (by kernel_rfl) rfl (fun _ hs => hs) (D_ix (l := (roundsOf b)) (j := (x.toNat)) s_25 rfl rfl rfl (fun w' hs => (rd_own (k := 1) hs rfl)) (Int.toNat_of_nonneg (by omega)).symm (lt_of_some hz1)) ?_
            refine tk 11 rfl (by kernel_rfl) (by kernel_rfl) (by kernel_rfl) rfl (fun _ hs => hs) (lo (α := Int) 1 o_3 rfl rfl rfl hz1) ?_
            refine ty 12 rfl (by kernel_rfl) rfl (cv b_101 rfl rfl rfl rfl (fun w' hs => (spec_l11Before w' u12 r0.In v5 (roundsOf b) z1 (rd_at hs hu13) (rd_own (k := 1) hs rfl) (by rw [show (((roundsOf b).length : Nat) : Int) = b.Nodes by omega]; exact isR_in hv0))) ?_)
            refine tZ rfl ?_
            refine ty 13 rfl (by kernel_rfl) rfl (sv rfl rfl (rp rfl) ?_)
            refine tZ rfl ?_
            refine ty 14 rfl (by kernel_rfl) rfl (sv rfl rfl (rp rfl) ?_)
            refine tZ rfl ?_
            refine gs 49 rfl rfl (fun h20 => ?_) (fun h20 => ?_)
            · refine tk 15 rfl (by kernel_rfl) (by kernel_rfl) (by kernel_rfl) rfl (fun _ hs => hs) (D_fb f_67_2 rfl rfl (q := 2) rfl) ?_
              refine tk 16 rfl (by kernel_rfl) (by kernel_rfl) (by kernel_rfl) rfl (fun _ hs => hs) (lb 0 o_25 rfl rfl rfl rfl) ?_
              refine tk 17 rfl (by kernel_rfl) (by kernel_rfl) (by kernel_rfl) rfl (fun _ hs => hs) (rp rfl) ?_
              refine ty 18 rfl (by kernel_rfl) rfl (cv b_102 rfl rfl rfl rfl (fun w' hs => (spec_l11None w' u14 r0.Out v5 (roundsOf b) (rd_at hs hu15) (rd_own (k := 1) hs rfl) (by rw [show (((roundsOf b).length : Nat) : Int) = b.Nodes by omega]; exact isR_out hv0))) ?_)
              refine tZ rfl ?_
              refine ty 19 rfl (by kernel_rfl) rfl (sv rfl rfl (rp rfl) ?_)
              refine tZ rfl ?_
              refine tE (by kernel_rfl) ?_
              refine x_then ?_
              refine D_weak [(1, (.int .i64 x)), (2, (.pointer (some ⟨g4, 0, none⟩))), (5, v5), (6, (.int .i64 ((k : Nat) : Int))), (54, (.bool (r0.Out.all (nonL (roundsOf b)))))] ⟨rfl, rfl, rfl, rfl, rfl, trivial⟩ ?_
              refine D_sel (H' := [ov [v5] (roundsOf b : (List Int)), bx g4 [(.int .i64 b.Nodes), u1]]) [false, true, true] rfl ?_
              refine C_if _ rfl (fun h21 => ?_) (fun h21 => ?_)
              · refine C_seq ?_
                refine C_reg ?_
                refine p1 rfl <| p1 rfl ?_
                refine D_end ?_
                refine x_then ?_
                refine C_ret ?_
                refine x_blk_ret ?_
                refine x_then_ret ?_
                refine x_then_ret ?_
                refine x_blk_ret ?_
                refine x_then_ret ?_
                refine R_1 rfl rfl fun w' hs => ⟨congrArg (fun z => Ending.returned (Value.int .i64 z)) ?_, hs.bel⟩
                show (((k : Nat) : Int) : Int) = suppOf b x
                rw [← suppOf_t hst]; exact supp_y (by omega) hz0 (by omega) hi hr0 (hasFor_t hz1 (by assumption) (supL_p3 (by assumption) (by assumption)))
              · refine C_skip ?_
                refine x_blk ?_
                refine x_then ?_
                refine C_reg ?_
                refine p1 rfl ?_
                refine q1 rfl (D_add rfl rfl rfl (r := ((k + 1 : Nat) : Int)) (by omega) (by omega)) ?_
                refine p1 rfl ?_
                refine D_end ?_
                refine x_then ?_
                refine fun ac w' hf hs => ⟨_, ?_, k + 1, ?_, ?_, rfl, hf.weak ⟨rfl, rfl, rfl, rfl, trivial⟩, hs⟩
                · omega
                · first | assumption | omega | simp
                · refine forall_step hi ?_; intro r hr; obtain rfl : r = r0 := Option.some.inj (hr.symm.trans hr0); first | exact hasFor_f1 (by assumption) | exact hasFor_f2 hz1 (supL_p1 (by assumption)) | exact hasFor_f2 hz1 (supL_p2 (by assumption))
            · refine tn 15 rfl (by kernel_rfl) (by kernel_rfl) (by kernel_rfl) rfl rfl rfl (fun _ hs => hs) ?_
              refine tn 16 rfl (by kernel_rfl) (by kernel_rfl) (by kernel_rfl) rfl rfl rfl (fun _ hs => hs) ?_
              refine tn 17 rfl (by kernel_rfl) (by kernel_rfl) (by kernel_rfl) rfl rfl rfl (fun _ hs => hs) ?_
              refine tn 18 rfl (by kernel_rfl) (by kernel_rfl) (by kernel_rfl) rfl rfl rfl (fun _ hs => hs) ?_
              refine ty 19 rfl (by kernel_rfl) rfl (sv rfl rfl (rp rfl) ?_)
              refine tZ rfl ?_
              refine tE (by kernel_rfl) ?_
              refine x_then ?_
              refine D_weak [(1, (.int .i64 x)), (2, (.pointer (some ⟨g4, 0, none⟩))), (5, v5), (6, (.int .i64 ((k : Nat) : Int))), (54, (.bool false))] ⟨rfl, rfl, rfl, rfl, rfl, trivial⟩ ?_
              refine D_sel (H' := [ov [v5] (roundsOf b : (List Int)), bx g4 [(.int .i64 b.Nodes), u1]]) [false, true, true] rfl ?_
              refine C_f rfl ?_
              refine C_skip ?_
              refine x_blk ?_
              refine x_then ?_
              refine C_reg ?_
              refine p1 rfl ?_
              refine q1 rfl (D_add rfl rfl rfl (r := ((k + 1 : Nat) : Int)) (by omega) (by omega)) ?_
              refine p1 rfl ?_
              refine D_end ?_
              refine x_then ?_
              refine fun ac w' hf hs => ⟨_, ?_, k + 1, ?_, ?_, rfl, hf.weak ⟨rfl, rfl, rfl, rfl, trivial⟩, hs⟩
              · omega
              · first | assumption | omega | simp
              · refine forall_step hi ?_; intro r hr; obtain rfl : r = r0 := Option.some.inj (hr.symm.trans hr0); first | exact hasFor_f1 (by assumption) | exact hasFor_f2 hz1 (supL_p1 (by assumption)) | exact hasFor_f2 hz1 (supL_p2 (by assumption))
          · have pr19 : (r0.For : Int) ≠ x := ne_of_beq_false h19
            refine tn 5 rfl (by kernel_rfl) (by kernel_rfl) (by kernel_rfl) rfl rfl rfl (fun _ hs => hs) ?_
            refine tn 6 rfl (by kernel_rfl) (by kernel_rfl) (by kernel_rfl) rfl rfl rfl (fun _ hs => hs) ?_
            refine tn 7 rfl (by kernel_rfl) (by kernel_rfl) (by kernel_rfl) rfl rfl rfl (fun _ hs => hs) ?_
            refine tn 8 rfl (by kernel_rfl) (by kernel_rfl) (by kernel_rfl) rfl rfl rfl (fun _ hs => hs) ?_
            refine tn 9 rfl (by kernel_rfl) (by kernel_rfl) (by kernel_rfl) rfl rfl rfl (fun _ hs => hs) ?_
            refine tn 10 rfl (by kernel_rfl) (by kernel_rfl) (by kernel_rfl) rfl rfl rfl (fun _ hs => hs) ?_
            refine tn 11 rfl (by kernel_rfl) (by kernel_rfl) (by kernel_rfl) rfl rfl rfl (fun _ hs => hs) ?_
            refine tn 12 rfl (by kernel_rfl) (by kernel_rfl) (by kernel_rfl) rfl rfl rfl (fun _ hs => hs) ?_
            refine ty 13 rfl (by kernel_rfl) rfl (sv rfl rfl (rp rfl) ?_)
            refine tZ rfl ?_
            refine ty 14 rfl (by kernel_rfl) rfl (sv rfl rfl (rp rfl) ?_)
            refine tZ rfl ?_
            refine tn 15 rfl (by kernel_rfl) (by kernel_rfl) (by kernel_rfl) rfl rfl rfl (fun _ hs => hs) ?_
            refine tn 16 rfl (by kernel_rfl) (by kernel_rfl) (by kernel_rfl) rfl rfl rfl (fun _ hs => hs) ?_
            refine tn 17 rfl (by kernel_rfl) (by kernel_rfl) (by kernel_rfl) rfl rfl rfl (fun _ hs => hs) ?_
            refine tn 18 rfl (by kernel_rfl) (by kernel_rfl) (by kernel_rfl) rfl rfl rfl (fun _ hs => hs) ?_
            refine ty 19 rfl (by kernel_rfl) rfl (sv rfl rfl (rp rfl) ?_)
            refine tZ rfl ?_
            refine tE (by kernel_rfl) ?_
            refine x_then ?_
            refine D_weak [(1, (.int .i64 x)), (2, (.pointer (some ⟨g4, 0, none⟩))), (5, v5), (6, (.int .i64 ((k : Nat) : Int))), (54, (.bool false))] ⟨rfl, rfl, rfl, rfl, rfl, trivial⟩ ?_
            refine D_sel (H' := [ov [v5] (roundsOf b : (List Int)), bx g4 [(.int .i64 b.Nodes), u1]]) [false, true, true] rfl ?_
            refine C_f rfl ?_
            refine C_skip ?_
            refine x_blk ?_
            refine x_then ?_
            refine C_reg ?_
            refine p1 rfl ?_
            refine q1 rfl (D_add rfl rfl rfl (r := ((k + 1 : Nat) : Int)) (by omega) (by omega)) ?_
            refine p1 rfl ?_
            refine D_end ?_
            refine x_then ?_
            refine fun ac w' hf hs => ⟨_, ?_, k + 1, ?_, ?_, rfl, hf.weak ⟨rfl, rfl, rfl, rfl, trivial⟩, hs⟩
            · omega
            · first | assumption | omega | simp
            · refine forall_step hi ?_; intro r hr; obtain rfl : r = r0 := Option.some.inj (hr.symm.trans hr0); first | exact hasFor_f1 (by assumption) | exact hasFor_f2 hz1 (supL_p1 (by assumption)) | exact hasFor_f2 hz1 (supL_p2 (by assumption))
        · have pr8 : ¬ (((k : Nat) : Int) : Int) < ((b.Reasons.length : Nat) : Int) := of_decide_eq_false h8
          refine C_exit ?_
          refine x_then_exit ?_
          refine x_then_exit ?_
          refine x_blk_eq ?_
          refine x_then ?_
          refine C_seq ?_
          refine C_reg ?_
          refine p1 rfl ?_
          refine D_end ?_
          refine x_then ?_
          refine C_ret ?_
          refine R_1 rfl rfl fun w' hs => ⟨congrArg (fun z => Ending.returned (Value.int .i64 z)) ?_, hs.bel⟩
          show ((-1) : Int) = suppOf b x
          rw [← suppOf_t hst]; exact supp_n3 (fun i h => hi i (by omega))

theorem impl_labels (w : World) (c_b : List Value) (b : Beliefs) (h_b : Gd.rd w c_b b) (ho : okB b = true) (hsol : HasSol b) (hrl : b.Reasons.length ≤ 1048576) : Calls Try.prog 71 [(.agg c_b.toArray)].toArray w (Res w (vec b.Nodes.toNat (lbs b) : List Bool)) := by
  obtain ⟨u1, rfl, hu2⟩ := open_Beliefs h_b
  have hm3 := rd_max hu2
  have hbn := okB_nodes ho
  obtain ⟨n, hn⟩ : ∃ n : Nat, b.Nodes = (n : Int) := ⟨b.Nodes.toNat, by omega⟩
  refine enter 20 Try.func71 rfl rfl rfl ?_
  refine C_seq ?_
  refine C_reg ?_
  refine li rfl (D_box rfl rfl rfl rfl rfl fun g4 => ?_)
  refine p1 rfl ?_
  refine D_end ?_
  refine x_then ?_
  refine D_H ([bx g4 [(.int .i64 b.Nodes), u1]]) rfl ?_
  refine C_seq ?_
  refine C_reg ?_
  refine p1 rfl ?_
  refine D_end ?_
  refine x_then ?_
  refine C_seq ?_
  refine C_seq ?_
  refine C_reg ?_
  refine q1 rfl (lbw 0 a_30 rfl rfl rfl) ?_
  refine li rfl (crl b_62 rfl rfl rfl rfl (fun w' hs => (impl_rounds w' [(.int .i64 b.Nodes), u1] b (rd_at hs h_b) (by first | assumption | omega | (unfold szm at *; split at * <;> omega)) (by first | assumption | omega | (unfold szm at *; split at * <;> omega)) (by first | assumption | omega | (unfold szm at *; split at * <;> omega)))) fun v5 => ?_)
  refine q1 rfl (lenv s_25 rfl rfl (fun w' hs => (rd_own (k := 0) hs rfl)) (vec_len _ _)) ?_
  refine p1 rfl ?_
  refine D_end ?_
  refine x_then ?_
  refine D_H ([ov [v5] (vec b.Nodes.toNat (rnds b) : (List Int)), bx g4 [(.int .i64 b.Nodes), u1]]) rfl ?_
  refine C_block ?_
  refine C_loop (fun m_ ac w' => ∃ (k : Nat), ∃ (v : Value), (k ≤ b.Nodes.toNat) ∧ m_ = b.Nodes.toNat - k ∧ Fits ac 20 [(3, v), (7, v5), (8, (.int .i64 ((b.Nodes.toNat : Nat) : Int))), (9, (.int .i64 ((k : Nat) : Int)))] ∧ St w ([ov [v] (vec k (lbs b) : (List Bool)), ov [v5] (vec b.Nodes.toNat (rnds b) : (List Int)), bx g4 [(.int .i64 b.Nodes), u1]]) w') ?_ ?_
  · refine D_nil (α := Bool) ?_
    refine D_eq 0 rfl (show ([] : (List Bool)) = vec 0 (lbs b) from by rfl) ?_
    refine fun ac w' hf hs => ⟨_, 0, (.slice none 0 0), ?_, rfl, hf.weak ⟨rfl, rfl, rfl, rfl, trivial⟩, hs⟩
    · first | assumption | omega | simp
  · rintro m_ ac w' ⟨k, v, hk, rfl, hf, hs⟩
    refine D.use ?_ hf hs
    clear hf hs ac w'
    have hvl := vec_len k (lbs b)
    refine C_seq ?_
    refine C_reg ?_
    refine p1 rfl ?_
    refine D_end ?_
    refine x_then ?_
    refine D_H ([ov [v] (vec k (lbs b) : (List Bool)), ov [v5] (vec b.Nodes.toNat (rnds b) : (List Int)), bx g4 [(.int .i64 b.Nodes), u1]]) rfl ?_
    refine C_seq ?_
    refine C_if _ rfl (fun h6 => ?_) (fun h6 => ?_)
    · have pr6 : (((k : Nat) : Int) : Int) < ((b.Nodes.toNat : Nat) : Int) := of_decide_eq_true h6
      refine C_skip ?_
      refine x_then ?_
      refine C_seq ?_
      refine C_block ?_
      refine C_seq ?_
      refine C_reg ?_
      have hx8 : (vec b.Nodes.toNat (rnds b))[k]? = some ((rnds b) k) := vec_get (by omega)
      refine q1 rfl (D_ix (l := (vec b.Nodes.toNat (rnds b))) (j := k) s_25 rfl rfl rfl (fun w' hs => (rd_own (k := 1) hs rfl)) rfl (lt_of_some hx8)) ?_
      refine q1 rfl (lo (α := Int) 1 o_3 rfl rfl rfl hx8) ?_
      refine p1 rfl ?_
      refine D_end ?_
      refine x_then ?_
      refine C_reg ?_
      refine p1 rfl <| p1 rfl <| p1 rfl ?_
      refine li rfl (D_bs s_75 y_4 rfl (by decide) (by decide) rfl rfl rfl rfl rfl rfl fun g9 => ?_)
      refine D_fbool (decide ((0 : Int) ≤ ((rnds b) k))) ?_
      refine D_pk (H' := [ov [v] (vec k (lbs b) : (List Bool)), ov [(.bool (decide ((0 : Int) ≤ ((rnds b) k))))] ((decide ((0 : Int) ≤ ((rnds b) k))) : Bool), bx g9 [(.bool (decide ((0 : Int) ≤ ((rnds b) k))))], ov [v5] (vec b.Nodes.toNat (rnds b) : (List Int)), bx g4 [(.int .i64 b.Nodes), u1]]) [2, 0, 1, 3, 4] rfl rfl ?_
      refine li rfl (D_ap s_75 y_4 rfl (by decide) rfl rfl rfl rfl rfl rfl (by first | omega | (simp; omega)) (by first | omega | (simp; omega)) fun v10 => ?_)
      refine p1 rfl ?_
      refine D_end ?_
      refine x_blk ?_
      refine x_then ?_
      refine D_H ([ov [v10] ((vec k (lbs b)) ++ [(decide ((0 : Int) ≤ ((rnds b) k)))] : (List Bool)), ov [v5] (vec b.Nodes.toNat (rnds b) : (List Int)), bx g4 [(.int .i64 b.Nodes), u1]]) rfl ?_
      refine C_reg ?_
      refine q1 rfl (D_add rfl rfl rfl (r := ((k + 1 : Nat) : Int)) (by omega) (by omega)) ?_
      refine p1 rfl ?_
      refine D_end ?_
      refine x_then ?_
      refine D_eq 0 rfl (show ((vec k (lbs b)) ++ [(decide ((0 : Int) ≤ ((rnds b) k)))] : (List Bool)) = vec (k + 1) (lbs b) from by exact vec_snoc k (lbs b)) ?_
      refine fun ac w' hf hs => ⟨_, ?_, k + 1, v10, ?_, rfl, hf.weak ⟨rfl, rfl, rfl, rfl, trivial⟩, hs⟩
      · omega
      · first | assumption | omega | simp
    · have pr6 : ¬ (((k : Nat) : Int) : Int) < ((b.Nodes.toNat : Nat) : Int) := of_decide_eq_false h6
      refine C_exit ?_
      refine x_then_exit ?_
      refine x_then_exit ?_
      refine x_blk_eq ?_
      refine x_then ?_
      refine C_seq ?_
      refine C_reg ?_
      refine p1 rfl <| p1 rfl ?_
      refine D_end ?_
      refine x_then ?_
      refine C_ret ?_
      refine R_1 rfl rfl fun w' hs => res_of (k := 0) hs rfl ?_
      show vec k (lbs b) = vec b.Nodes.toNat (lbs b)
      rw [show k = b.Nodes.toNat by omega]

theorem spec_LabelsOf (w : World) (c_b : List Value) (b : Beliefs) (h_b : Gd.rd w c_b b) : Calls Try.prog 67 [(.agg c_b.toArray)].toArray w (Res w (labelsOf b : List Bool)) := by
  obtain ⟨u1, rfl, hu2⟩ := open_Beliefs h_b
  have hm3 := rd_max hu2
  refine enter 24 Try.func67 rfl rfl rfl ?_
  refine C_seq ?_
  refine C_reg ?_
  refine li rfl (D_box rfl rfl rfl rfl rfl fun g4 => ?_)
  refine p1 rfl ?_
  refine D_end ?_
  refine x_then ?_
  refine D_H ([bx g4 [(.int .i64 b.Nodes), u1]]) rfl ?_
  refine C_seq ?_
  refine C_reg ?_
  have hrl := roundsOf_len (b := b)
  refine q1 rfl (lbw 0 a_30 rfl rfl rfl) ?_
  refine li rfl (crl b_87 rfl rfl rfl rfl (fun w' hs => (spec_RoundsOf w' [(.int .i64 b.Nodes), u1] b (rd_at hs h_b))) fun v5 => ?_)
  refine p1 rfl ?_
  refine D_end ?_
  refine x_then ?_
  refine D_H ([ov [v5] (roundsOf b : (List Int)), bx g4 [(.int .i64 b.Nodes), u1]]) rfl ?_
  refine C_seq ?_
  refine C_reg ?_
  refine li rfl (D_bs0 (α := Bool) s_75 rfl rfl rfl fun v6 => ?_)
  refine p1 rfl ?_
  refine D_end ?_
  refine x_then ?_
  refine D_H ([ov [v6] ([] : (List Bool)), ov [v5] (roundsOf b : (List Int)), bx g4 [(.int .i64 b.Nodes), u1]]) rfl ?_
  refine C_seq ?_
  refine C_seq ?_
  refine C_reg ?_
  refine p1 rfl ?_
  refine D_end ?_
  refine x_then ?_
  refine C_block ?_
  refine C_loop (fun m_ ac w' => ∃ (k : Nat), ∃ (v : Value), (k ≤ (roundsOf b).length) ∧ m_ = (roundsOf b).length - k ∧ Fits ac 24 [(3, v5), (4, v), (5, (.int .i64 ((k : Nat) : Int)))] ∧ St w ([ov [v] (lbL (roundsOf b) k : (List Bool)), ov [v5] (roundsOf b : (List Int)), bx g4 [(.int .i64 b.Nodes), u1]]) w') ?_ ?_
  · refine D_eq 0 rfl (show ([] : (List Bool)) = lbL (roundsOf b) 0 from by rfl) ?_
    refine fun ac w' hf hs => ⟨_, 0, v6, ?_, rfl, hf.weak ⟨rfl, rfl, rfl, trivial⟩, hs⟩
    · first | assumption | omega | simp
  · rintro m_ ac w' ⟨k, v, hk, rfl, hf, hs⟩
    refine D.use ?_ hf hs
    clear hf hs ac w'
    have hvl := lbL_len (roundsOf b) k
    refine C_seq ?_
    refine C_seq ?_
    refine C_reg ?_
    refine p1 rfl <| p1 rfl ?_
    refine q1 rfl (D_leno 1 s_25 rfl rfl rfl) ?_
    refine p1 rfl ?_
    refine D_end ?_
    refine x_then ?_
    refine D_H ([ov [v] (lbL (roundsOf b) k : (List Bool)), ov [v5] (roundsOf b : (List Int)), bx g4 [(.int .i64 b.Nodes), u1]]) rfl ?_
    refine C_if _ rfl (fun h7 => ?_) (fun h7 => ?_)
    · have pr7 : (((k : Nat) : Int) : Int) < (((roundsOf b).length : Nat) : Int) := of_decide_eq_true h7
      refine C_skip ?_
      refine x_then ?_
      refine C_seq ?_
      refine C_block ?_
      refine C_reg ?_
      refine p1 rfl <| p1 rfl <| p1 rfl ?_
      obtain ⟨x8, hx9⟩ := some_of_lt (l := (roundsOf b)) (i := k) (by omega)
      refine q1 rfl (D_ix (l := (roundsOf b)) (j := k) s_25 rfl rfl rfl (fun w' hs => (rd_own (k := 1) hs rfl)) rfl (lt_of_some hx9)) ?_
      refine q1 rfl (lo (α := Int) 1 o_3 rfl rfl rfl hx9) ?_
      refine p1 rfl ?_
      refine li rfl (D_bs s_75 y_4 rfl (by decide) (by decide) rfl rfl rfl rfl rfl rfl fun g10 => ?_)
      refine D_fbool (decide ((0 : Int) ≤ x8)) ?_
      refine D_pk (H' := [ov [v] (lbL (roundsOf b) k : (List Bool)), ov [(.bool (decide ((0 : Int) ≤ x8)))] ((decide ((0 : Int) ≤ x8)) : Bool), bx g10 [(.bool (decide ((0 : Int) ≤ x8)))], ov [v5] (roundsOf b : (List Int)), bx g4 [(.int .i64 b.Nodes), u1]]) [2, 0, 1, 3, 4] rfl rfl ?_
      refine li rfl (D_ap s_75 y_4 rfl (by decide) rfl rfl rfl rfl rfl rfl (by first | omega | (simp; omega)) (by first | omega | (simp; omega)) fun v11 => ?_)
      refine p1 rfl ?_
      refine D_end ?_
      refine x_blk ?_
      refine x_then ?_
      refine D_H ([ov [v11] ((lbL (roundsOf b) k) ++ [(decide ((0 : Int) ≤ x8))] : (List Bool)), ov [v5] (roundsOf b : (List Int)), bx g4 [(.int .i64 b.Nodes), u1]]) rfl ?_
      refine C_reg ?_
      refine p1 rfl ?_
      refine q1 rfl (D_add rfl rfl rfl (r := ((k + 1 : Nat) : Int)) (by omega) (by omega)) ?_
      refine p1 rfl ?_
      refine D_end ?_
      refine x_then ?_
      refine D_eq 0 rfl (show ((lbL (roundsOf b) k) ++ [(decide ((0 : Int) ≤ x8))] : (List Bool)) = lbL (roundsOf b) (k + 1) from by exact lbL_step hx9) ?_
      refine fun ac w' hf hs => ⟨_, ?_, k + 1, v11, ?_, rfl, hf.weak ⟨rfl, rfl, rfl, trivial⟩, hs⟩
      · omega
      · first | assumption | omega | simp
    · have pr7 : ¬ (((k : Nat) : Int) : Int) < (((roundsOf b).length : Nat) : Int) := of_decide_eq_false h7
      refine C_exit ?_
      refine x_then_exit ?_
      refine x_then_exit ?_
      refine x_blk_eq ?_
      refine x_then ?_
      refine C_seq ?_
      refine C_reg ?_
      refine p1 rfl <| p1 rfl ?_
      refine D_end ?_
      refine x_then ?_
      refine C_ret ?_
      refine R_1 rfl rfl fun w' hs => res_of (k := 0) hs rfl ?_
      show lbL (roundsOf b) k = labelsOf b
      exact lbL_done (by omega)
end Go.Sy.Bel8
