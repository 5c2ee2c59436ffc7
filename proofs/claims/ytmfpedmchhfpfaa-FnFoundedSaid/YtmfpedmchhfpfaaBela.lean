/-
  Contracts of functions of the program, walked (printed by a program of ours).
  Conditions: those that each theorem states.
-/
import Derived.Test.YtmfpedmchhfpfaaBel9
import Derived.Test.YtmfpedmchhfpfaaLab
set_option linter.unusedVariables false
set_option maxRecDepth 20000
namespace Go.Sy.Bela
open Go Go.RowKit Go.Proofs Go.Sy
theorem mixed : Try.prog.follows .mixedOrders = true := by kernel_rfl
theorem f_31_1 : fieldOff Try.prog 31 1 = some 1 := by kernel_rfl
theorem o_28 : oneTy Try.prog 28 = true := by kernel_rfl
theorem s_28 : sliceTy Try.prog 28 = some (3, 1, 8) := by kernel_rfl
theorem o_3 : oneTy Try.prog 3 = true := by kernel_rfl
theorem s_34 : sliceTy Try.prog 34 = some (4, 1, 1) := by kernel_rfl
theorem o_4 : oneTy Try.prog 4 = true := by kernel_rfl
theorem f_31_2 : fieldOff Try.prog 31 2 = some 2 := by kernel_rfl
theorem a_26 : aggTy Try.prog 26 = some 2 := by kernel_rfl
theorem b_32 : hasBody Try.prog 32 = true := by kernel_rfl
theorem f_26_0 : fieldOff Try.prog 26 0 = some 0 := by kernel_rfl
theorem f_26_1 : fieldOff Try.prog 26 1 = some 1 := by kernel_rfl
theorem o_24 : oneTy Try.prog 24 = true := by kernel_rfl
theorem s_24 : sliceTy Try.prog 24 = some (31, 3, 56) := by kernel_rfl
theorem a_31 : aggTy Try.prog 31 = some 3 := by kernel_rfl
theorem y_31 : zeroTy Try.prog 31 = some (.agg #[(.int .i64 0), (.slice none 0 0), (.slice none 0 0)]) := by kernel_rfl
theorem z_31 : sizeTy Try.prog 31 = some 3 := by kernel_rfl
theorem f_31_0 : fieldOff Try.prog 31 0 = some 0 := by kernel_rfl
theorem b_36 : hasBody Try.prog 36 = true := by kernel_rfl
theorem y_4 : zeroTy Try.prog 4 = some (.bool false) := by kernel_rfl
theorem b_37 : hasBody Try.prog 37 = true := by kernel_rfl
theorem z_4 : sizeTy Try.prog 4 = some 1 := by kernel_rfl
open Go.Sy.Bel1 Go.Sy.Bel4 Go.Sy.Bel5 Go.Sy.Bel6 Go.Sy.Bel7 Go.Sy.Bel8 Go.Sy.Bel9
theorem impl_holds (w : World) (c_r : List Value) (r : Reason) (v_l : Value) (l : (List Bool)) (h_r : Gd.rd w c_r r) (h_l : Gd.rd w [v_l] l) (hr : isReason r (l.length : Int) = true) : Calls Try.prog 36 [(.agg c_r.toArray), v_l].toArray w (Val w (.bool (holdsL r l))) := by
  obtain ⟨u1, u3, rfl, hu2, hu4⟩ := open_Reason h_r
  have hm5 := rd_max hu2
  have hm6 := rd_max hu4
  have hm7 := rd_max h_l
  refine enter 34 Try.func36 rfl rfl rfl ?_
  refine C_seq ?_
  refine C_reg ?_
  refine li rfl (D_box rfl rfl rfl rfl rfl fun g8 => ?_)
  refine p1 rfl ?_
  refine D_end ?_
  refine x_then ?_
  refine D_H ([bx g8 [(.int .i64 r.For), u1, u3]]) rfl ?_
  refine C_seq ?_
  refine C_seq ?_
  refine C_reg ?_
  refine q1 rfl (D_fb f_31_1 rfl rfl (q := 1) rfl) ?_
  refine q1 rfl (lb 0 o_28 rfl rfl rfl rfl) ?_
  refine q1 rfl (D_len s_28 rfl rfl (rd_sl hu2)) ?_
  refine p1 rfl ?_
  refine D_end ?_
  refine x_then ?_
  refine C_block ?_
  refine C_loop (fun m_ ac w' => ∃ (k : Nat), (k ≤ r.In.length) ∧ (∀ i, i < k → ∀ y, r.In[i]? = some y → lI l y = true) ∧ m_ = r.In.length - k ∧ Fits ac 34 [(1, v_l), (2, (.pointer (some ⟨g8, 0, none⟩))), (10, u1), (11, (.int .i64 ((r.In.length : Nat) : Int))), (12, (.int .i64 ((k : Nat) : Int)))] ∧ St w ([bx g8 [(.int .i64 r.For), u1, u3]]) w') ?_ ?_
  · refine fun ac w' hf hs => ⟨_, 0, ?_, ?_, rfl, hf.weak ⟨rfl, rfl, rfl, rfl, rfl, trivial⟩, hs⟩
    · first | assumption | omega | simp
    · intro i hi; omega
  · rintro m_ ac w' ⟨k, hk, hi, rfl, hf, hs⟩
    refine D.use ?_ hf hs
    clear hf hs ac w'
    refine C_seq ?_
    refine C_reg ?_
    refine p1 rfl ?_
    refine D_end ?_
    refine x_then ?_
    refine C_seq ?_
    refine C_if _ rfl (fun h9 => ?_) (fun h9 => ?_)
    · have pr9 : (((k : Nat) : Int) : Int) < ((r.In.length : Nat) : Int) := of_decide_eq_true h9
      refine C_skip ?_
      refine x_then ?_
      refine C_seq ?_
      refine C_block ?_
      refine C_seq ?_
      refine C_reg ?_
      obtain ⟨y2, hy2⟩ := some_of_lt (l := r.In) (i := k) (by omega)
      have hyn := asc_at (isR_in hr) hy2
      obtain ⟨es10, at11, hr12⟩ := rd_elem (n := 1) rfl hu2 hy2
      obtain rfl : es10 = [.int .i64 y2] := hr12
      refine q1 rfl (D_ix (l := r.In) (j := k) s_28 rfl rfl rfl (fun w' hs => (rd_at hs hu2)) rfl (lt_of_some hy2)) ?_
      refine q1 rfl (lr0 o_3 rfl rfl at11 rfl) ?_
      refine p1 rfl ?_
      refine D_end ?_
      refine x_then ?_
      refine C_seq ?_
      refine C_reg ?_
      refine p1 rfl <| p1 rfl ?_
      obtain ⟨z2, hz2⟩ := some_of_lt (l := l) (i := (y2.toNat)) (by omega)
      obtain ⟨es13, at14, hr15⟩ := rd_elem (n := 1) rfl h_l hz2
      obtain rfl : es13 = [.bool z2] := hr15
      refine q1 rfl (D_ix (l := l) (j := (y2.toNat)) s_34 rfl rfl rfl (fun w' hs => (rd_at hs h_l)) (Int.toNat_of_nonneg (by omega)).symm (lt_of_some hz2)) ?_
      refine q1 rfl (lr0 o_4 rfl rfl at14 rfl) ?_
      refine p1 rfl ?_
      refine D_end ?_
      refine x_then ?_
      refine C_if _ rfl (fun h16 => ?_) (fun h16 => ?_)
      · have h16n : z2 = false := not_t h16
        refine C_seq ?_
        refine C_reg ?_
        refine p1 rfl ?_
        refine D_end ?_
        refine x_then ?_
        refine C_ret ?_
        refine x_blk_ret ?_
        refine x_then_ret ?_
        refine x_then_ret ?_
        refine x_blk_ret ?_
        refine x_then_ret ?_
        refine R_1 rfl rfl fun w' hs => ⟨congrArg (fun z => Ending.returned (Value.bool z)) ?_, hs.bel⟩
        show (false : Bool) = holdsL r l
        exact holds_in hy2 (by rw [lI_of hz2]; exact h16n)
      · have h16n : z2 = true := not_f h16
        refine C_skip ?_
        refine x_blk ?_
        refine x_then ?_
        refine C_reg ?_
        refine q1 rfl (D_add rfl rfl rfl (r := ((k + 1 : Nat) : Int)) (by omega) (by omega)) ?_
        refine p1 rfl ?_
        refine D_end ?_
        refine x_then ?_
        refine fun ac w' hf hs => ⟨_, ?_, k + 1, ?_, ?_, rfl, hf.weak ⟨rfl, rfl, rfl, rfl, rfl, trivial⟩, hs⟩
        · omega
        · first | assumption | omega | simp
        · refine forall_step hi ?_; intro y hy; obtain rfl : y = y2 := Option.some.inj (hy.symm.trans hy2); rw [lI_of hz2]; exact h16n
    · have pr9 : ¬ (((k : Nat) : Int) : Int) < ((r.In.length : Nat) : Int) := of_decide_eq_false h9
      refine C_exit ?_
      refine x_then_exit ?_
      refine x_then_exit ?_
      refine x_blk_eq ?_
      refine x_then ?_
      refine C_seq ?_
      refine C_seq ?_
      refine C_reg ?_
      refine q1 rfl (D_fb f_31_2 rfl rfl (q := 2) rfl) ?_
      refine q1 rfl (lb 0 o_28 rfl rfl rfl rfl) ?_
      refine q1 rfl (D_len s_28 rfl rfl (rd_sl hu4)) ?_
      refine p1 rfl ?_
      refine D_end ?_
      refine x_then ?_
      refine C_block ?_
      refine C_loop (fun m_ ac w' => ∃ (m : Nat), (m ≤ r.Out.length) ∧ (∀ i, i < m → ∀ y, r.Out[i]? = some y → lO l y = true) ∧ m_ = r.Out.length - m ∧ Fits ac 34 [(1, v_l), (23, u3), (24, (.int .i64 ((r.Out.length : Nat) : Int))), (25, (.int .i64 ((m : Nat) : Int)))] ∧ St w ([bx g8 [(.int .i64 r.For), u1, u3]]) w') ?_ ?_
      · refine fun ac w' hf hs => ⟨_, 0, ?_, ?_, rfl, hf.weak ⟨rfl, rfl, rfl, rfl, trivial⟩, hs⟩
        · first | assumption | omega | simp
        · intro i hi; omega
      · rintro m_ ac w' ⟨m, hm, ho, rfl, hf, hs⟩
        refine D.use ?_ hf hs
        clear hf hs ac w'
        refine C_seq ?_
        refine C_reg ?_
        refine p1 rfl ?_
        refine D_end ?_
        refine x_then ?_
        refine C_seq ?_
        refine C_if _ rfl (fun h17 => ?_) (fun h17 => ?_)
        · have pr17 : (((m : Nat) : Int) : Int) < ((r.Out.length : Nat) : Int) := of_decide_eq_true h17
          refine C_skip ?_
          refine x_then ?_
          refine C_seq ?_
          refine C_block ?_
          refine C_seq ?_
          refine C_reg ?_
          obtain ⟨y3, hy3⟩ := some_of_lt (l := r.Out) (i := m) (by omega)
          have hyn := asc_at (isR_out hr) hy3
          obtain ⟨es18, at19, hr20⟩ := rd_elem (n := 1) rfl hu4 hy3
          obtain rfl : es18 = [.int .i64 y3] := hr20
          refine q1 rfl (D_ix (l := r.Out) (j := m) s_28 rfl rfl rfl (fun w' hs => (rd_at hs hu4)) rfl (lt_of_some hy3)) ?_
          refine q1 rfl (lr0 o_3 rfl rfl at19 rfl) ?_
          refine p1 rfl ?_
          refine D_end ?_
          refine x_then ?_
          refine C_seq ?_
          refine C_reg ?_
          refine p1 rfl <| p1 rfl ?_
          obtain ⟨z3, hz3⟩ := some_of_lt (l := l) (i := (y3.toNat)) (by omega)
          obtain ⟨es21, at22, hr23⟩ := rd_elem (n := 1) rfl h_l hz3
          obtain rfl : es21 = [.bool z3] := hr23
          refine q1 rfl (D_ix (l := l) (j := (y3.toNat)) s_34 rfl rfl rfl (fun w' hs => (rd_at hs h_l)) (Int.toNat_of_nonneg (by omega)).symm (lt_of_some hz3)) ?_
          refine q1 rfl (lr0 o_4 rfl rfl at22 rfl) ?_
          refine D_end ?_
          refine x_then ?_
          refine C_if _ rfl (fun h24 => ?_) (fun h24 => ?_)
          · refine C_seq ?_
            refine C_reg ?_
            refine p1 rfl ?_
            refine D_end ?_
            refine x_then ?_
            refine C_ret ?_
            refine x_blk_ret ?_
            refine x_then_ret ?_
            refine x_then_ret ?_
            refine x_blk_ret ?_
            refine x_then_ret ?_
            refine R_1 rfl rfl fun w' hs => ⟨congrArg (fun z => Ending.returned (Value.bool z)) ?_, hs.bel⟩
            show (false : Bool) = holdsL r l
            exact holds_out hy3 (by rw [lO_of hz3, h24]; rfl)
          · refine C_skip ?_
            refine x_blk ?_
            refine x_then ?_
            refine C_reg ?_
            refine q1 rfl (D_add rfl rfl rfl (r := ((m + 1 : Nat) : Int)) (by omega) (by omega)) ?_
            refine p1 rfl ?_
            refine D_end ?_
            refine x_then ?_
            refine fun ac w' hf hs => ⟨_, ?_, m + 1, ?_, ?_, rfl, hf.weak ⟨rfl, rfl, rfl, rfl, trivial⟩, hs⟩
            · omega
            · first | assumption | omega | simp
            · refine forall_step ho ?_; intro y hy; obtain rfl : y = y3 := Option.some.inj (hy.symm.trans hy3); rw [lO_of hz3, h24]; rfl
        · have pr17 : ¬ (((m : Nat) : Int) : Int) < ((r.Out.length : Nat) : Int) := of_decide_eq_false h17
          refine C_exit ?_
          refine x_then_exit ?_
          refine x_then_exit ?_
          refine x_blk_eq ?_
          refine x_then ?_
          refine C_seq ?_
          refine C_reg ?_
          refine p1 rfl ?_
          refine D_end ?_
          refine x_then ?_
          refine C_ret ?_
          refine R_1 rfl rfl fun w' hs => ⟨congrArg (fun z => Ending.returned (Value.bool z)) ?_, hs.bel⟩
          show (true : Bool) = holdsL r l
          exact holds_y (fun i h => hi i (by omega)) (fun i h => ho i (by omega))

theorem impl_allPlaced (w : World) (v_l : Value) (l : (List Int)) (v_placed : Value) (placed : (List Bool)) (h_l : Gd.rd w [v_l] l) (h_placed : Gd.rd w [v_placed] placed) (hl : asc l (placed.length : Int) = true) : Calls Try.prog 37 [v_l, v_placed].toArray w (Val w (.bool (l.all (lI placed)))) := by
  have hm1 := rd_max h_l
  have hm2 := rd_max h_placed
  refine enter 19 Try.func37 rfl rfl rfl ?_
  refine C_seq ?_
  refine C_reg ?_
  refine p1 rfl ?_
  refine D_end ?_
  refine x_then ?_
  refine C_seq ?_
  refine C_seq ?_
  refine C_reg ?_
  refine p1 rfl ?_
  refine q1 rfl (D_len s_28 rfl rfl (rd_sl h_l)) ?_
  refine p1 rfl ?_
  refine D_end ?_
  refine x_then ?_
  refine C_block ?_
  refine C_loop (fun m_ ac w' => ∃ (k : Nat), (k ≤ l.length) ∧ (∀ i, i < k → ∀ y, l[i]? = some y → lI placed y = true) ∧ m_ = l.length - k ∧ Fits ac 19 [(1, v_placed), (7, v_l), (8, (.int .i64 ((l.length : Nat) : Int))), (9, (.int .i64 ((k : Nat) : Int)))] ∧ St w ([]) w') ?_ ?_
  · refine fun ac w' hf hs => ⟨_, 0, ?_, ?_, rfl, hf.weak ⟨rfl, rfl, rfl, rfl, trivial⟩, hs⟩
    · first | assumption | omega | simp
    · intro i hi; omega
  · rintro m_ ac w' ⟨k, hk, hi, rfl, hf, hs⟩
    refine D.use ?_ hf hs
    clear hf hs ac w'
    refine C_seq ?_
    refine C_reg ?_
    refine p1 rfl ?_
    refine D_end ?_
    refine x_then ?_
    refine C_seq ?_
    refine C_if _ rfl (fun h3 => ?_) (fun h3 => ?_)
    · have pr3 : (((k : Nat) : Int) : Int) < ((l.length : Nat) : Int) := of_decide_eq_true h3
      refine C_skip ?_
      refine x_then ?_
      refine C_seq ?_
      refine C_block ?_
      refine C_seq ?_
      refine C_reg ?_
      obtain ⟨y2, hy2⟩ := some_of_lt (l := l) (i := k) (by omega)
      have hyn := asc_at hl hy2
      obtain ⟨es4, at5, hr6⟩ := rd_elem (n := 1) rfl h_l hy2
      obtain rfl : es4 = [.int .i64 y2] := hr6
      refine q1 rfl (D_ix (l := l) (j := k) s_28 rfl rfl rfl (fun w' hs => (rd_at hs h_l)) rfl (lt_of_some hy2)) ?_
      refine q1 rfl (lr0 o_3 rfl rfl at5 rfl) ?_
      refine p1 rfl ?_
      refine D_end ?_
      refine x_then ?_
      refine C_seq ?_
      refine C_reg ?_
      refine p1 rfl <| p1 rfl ?_
      obtain ⟨z2, hz2⟩ := some_of_lt (l := placed) (i := (y2.toNat)) (by omega)
      obtain ⟨es7, at8, hr9⟩ := rd_elem (n := 1) rfl h_placed hz2
      obtain rfl : es7 = [.bool z2] := hr9
      refine q1 rfl (D_ix (l := placed) (j := (y2.toNat)) s_34 rfl rfl rfl (fun w' hs => (rd_at hs h_placed)) (Int.toNat_of_nonneg (by omega)).symm (lt_of_some hz2)) ?_
      refine q1 rfl (lr0 o_4 rfl rfl at8 rfl) ?_
      refine p1 rfl ?_
      refine D_end ?_
      refine x_then ?_
      refine C_if _ rfl (fun h10 => ?_) (fun h10 => ?_)
      · have h10n : z2 = false := not_t h10
        refine C_seq ?_
        refine C_reg ?_
        refine p1 rfl ?_
        refine D_end ?_
        refine x_then ?_
        refine C_ret ?_
        refine x_blk_ret ?_
        refine x_then_ret ?_
        refine x_then_ret ?_
        refine x_blk_ret ?_
        refine x_then_ret ?_
        refine R_1 rfl rfl fun w' hs => ⟨congrArg (fun z => Ending.returned (Value.bool z)) ?_, hs.bel⟩
        show (false : Bool) = l.all (lI placed)
        exact (all_bad hy2 (by rw [lI_of hz2]; exact h10n)).symm
      · have h10n : z2 = true := not_f h10
        refine C_skip ?_
        refine x_blk ?_
        refine x_then ?_
        refine C_reg ?_
        refine q1 rfl (D_add rfl rfl rfl (r := ((k + 1 : Nat) : Int)) (by omega) (by omega)) ?_
        refine p1 rfl ?_
        refine D_end ?_
        refine x_then ?_
        refine fun ac w' hf hs => ⟨_, ?_, k + 1, ?_, ?_, rfl, hf.weak ⟨rfl, rfl, rfl, rfl, trivial⟩, hs⟩
        · omega
        · first | assumption | omega | simp
        · refine forall_step hi ?_; intro y hy; obtain rfl : y = y2 := Option.some.inj (hy.symm.trans hy2); rw [lI_of hz2]; exact h10n
    · have pr3 : ¬ (((k : Nat) : Int) : Int) < ((l.length : Nat) : Int) := of_decide_eq_false h3
      refine C_exit ?_
      refine x_then_exit ?_
      refine x_then_exit ?_
      refine x_blk_eq ?_
      refine x_then ?_
      refine C_seq ?_
      refine C_reg ?_
      refine p1 rfl ?_
      refine D_end ?_
      refine x_then ?_
      refine C_ret ?_
      refine R_1 rfl rfl fun w' hs => ⟨congrArg (fun z => Ending.returned (Value.bool z)) ?_, hs.bel⟩
      show (true : Bool) = l.all (lI placed)
      exact (all_of_idx (fun i h => hi i (by omega))).symm

set_option maxHeartbeats 4000000 in
theorem impl_IsLabeling (w : World) (c_b : List Value) (b : Beliefs) (v_l : Value) (l : (List Bool)) (h_b : Gd.rd w c_b b) (h_l : Gd.rd w [v_l] l) : Calls Try.prog 16 [(.agg c_b.toArray), v_l].toArray w (Val w (.bool (isLab b l))) := by
  obtain ⟨u1, rfl, hu2⟩ := open_Beliefs h_b
  have hm3 := rd_max hu2
  have hm4 := rd_max h_l
  refine enter 98 Try.func16 rfl rfl rfl ?_
  refine C_seq ?_
  refine C_reg ?_
  refine li rfl (D_box rfl rfl rfl rfl rfl fun g5 => ?_)
  refine p1 rfl ?_
  refine D_end ?_
  refine x_then ?_
  refine D_H ([bx g5 [(.int .i64 b.Nodes), u1]]) rfl ?_
  refine C_seq ?_
  refine C_seq ?_
  refine C_reg ?_
  refine q1 rfl (lbw 0 a_26 rfl rfl rfl) ?_
  refine li rfl (cv b_32 rfl rfl rfl rfl (fun w' hs => (impl_IsBeliefs w' [(.int .i64 b.Nodes), u1] b (rd_at hs h_b))) ?_)
  refine p1 rfl <| p1 rfl ?_
  refine gs 15 rfl rfl (fun h6 => ?_) (fun h6 => ?_)
  · have h6n : (isBeliefs b) = false := not_t h6
    refine n1 rfl ?_
    refine n1 rfl ?_
    refine n1 rfl ?_
    refine n1 rfl ?_
    refine n1 rfl ?_
    refine p1 rfl ?_
    refine D_end ?_
    refine x_then ?_
    refine C_t rfl ?_
    refine C_seq ?_
    refine C_reg ?_
    refine p1 rfl ?_
    refine D_end ?_
    refine x_then ?_
    refine C_ret ?_
    refine x_then_ret ?_
    refine R_1 rfl rfl fun w' hs => ⟨congrArg (fun z => Ending.returned (Value.bool z)) ?_, hs.bel⟩
    show (false : Bool) = isLab b l
    exact lab_n1 (by assumption)
  · have h6n : (isBeliefs b) = true := not_f h6
    refine p1 rfl ?_
    refine q1 rfl (D_len s_34 rfl rfl (rd_sl h_l)) ?_
    refine q1 rfl (D_fb f_26_0 rfl rfl (q := 0) rfl) ?_
    refine q1 rfl (lb 0 o_3 rfl rfl rfl rfl) ?_
    refine p1 rfl <| p1 rfl ?_
    refine D_end ?_
    refine x_then ?_
    refine C_if _ rfl (fun h7 => ?_) (fun h7 => ?_)
    · have pr7 : (((l.length : Nat) : Int) : Int) ≠ b.Nodes := bne_iff_ne.1 h7
      refine C_seq ?_
      refine C_reg ?_
      refine p1 rfl ?_
      refine D_end ?_
      refine x_then ?_
      refine C_ret ?_
      refine x_then_ret ?_
      refine R_1 rfl rfl fun w' hs => ⟨congrArg (fun z => Ending.returned (Value.bool z)) ?_, hs.bel⟩
      show (false : Bool) = isLab b l
      exact lab_n2 (by omega)
    · have pr7 : (((l.length : Nat) : Int) : Int) = b.Nodes := eq_of_bne_f h7
      refine C_skip ?_
      refine x_then ?_
      refine C_seq ?_
      refine C_seq ?_
      have hib : isBeliefs b = true := by assumption
      have ho := isB_ok2 hib
      have hbn := okB_nodes ho
      obtain ⟨n, hn⟩ : ∃ n : Nat, b.Nodes = (n : Int) := ⟨b.Nodes.toNat, by omega⟩
      have hll : ((l.length : Nat) : Int) = b.Nodes := by omega
      refine C_reg ?_
      refine q1 rfl (D_fb f_26_1 rfl rfl (q := 1) rfl) ?_
      refine q1 rfl (lb 0 o_24 rfl rfl rfl rfl) ?_
      refine q1 rfl (D_len s_24 rfl rfl (rd_sl hu2)) ?_
      refine p1 rfl ?_
      refine D_end ?_
      refine x_then ?_
      refine C_block ?_
      refine C_loop (fun m_ ac w' => ∃ (k : Nat), (k ≤ b.Reasons.length) ∧ (∀ i, i < k → ∀ r, b.Reasons[i]? = some r → holdsL r l = true → atB l r.For.toNat = true) ∧ m_ = b.Reasons.length - k ∧ Fits ac 98 [(1, v_l), (2, (.pointer (some ⟨g5, 0, none⟩))), (23, u1), (24, (.int .i64 ((b.Reasons.length : Nat) : Int))), (25, (.int .i64 ((k : Nat) : Int)))] ∧ St w ([bx g5 [(.int .i64 b.Nodes), u1]]) w') ?_ ?_
      · refine fun ac w' hf hs => ⟨_, 0, ?_, ?_, rfl, hf.weak ⟨rfl, rfl, rfl, rfl, rfl, trivial⟩, hs⟩
        · first | assumption | omega | simp
        · intro i hi; omega
      · rintro m_ ac w' ⟨k, hk, hi, rfl, hf, hs⟩
        refine D.use ?_ hf hs
        clear hf hs ac w'
        refine C_seq ?_
        refine C_reg ?_
        refine p1 rfl ?_
        refine D_end ?_
        refine x_then ?_
        refine C_seq ?_
        refine C_if _ rfl (fun h8 => ?_) (fun h8 => ?_)
        · have pr8 : (((k : Nat) : Int) : Int) < ((b.Reasons.length : Nat) : Int) := of_decide_eq_true h8
          refine C_skip ?_
          refine x_then ?_
          refine C_seq ?_
          refine C_block ?_
          refine C_seq ?_
          refine C_reg ?_
          obtain ⟨r0, hr0⟩ := some_of_lt (l := b.Reasons) (i := k) (by omega)
          have hv0 := okB_r ho hr0
          have hF := isR_for hv0
          obtain ⟨es9, at10, hr11⟩ := rd_elem (n := 3) rfl hu2 hr0
          obtain ⟨u12, u14, rfl, hu13, hu15⟩ := open_Reason hr11
          have hm16 := rd_max hu13
          have hm17 := rd_max hu15
          refine q1 rfl (D_ix (l := b.Reasons) (j := k) s_24 rfl rfl rfl (fun w' hs => (rd_at hs hu2)) rfl (lt_of_some hr0)) ?_
          refine q1 rfl (lra a_31 rfl rfl at10) ?_
          refine li rfl (D_alloc y_31 rfl rfl rfl rfl fun g18 => ?_)
          refine li rfl (D_stb (vs := [(.int .i64 r0.For), u12, u14]) (cs' := [(.int .i64 r0.For), u12, u14]) 0 z_31 rfl rfl rfl rfl rfl rfl (ocons rfl (ocons (one_rd hu13) (ocons (one_rd hu15) onil))) (by simp) rfl ?_)
          refine D_end ?_
          refine x_then ?_
          refine D_H ([bx g18 [(.int .i64 r0.For), u12, u14], bx g5 [(.int .i64 b.Nodes), u1]]) rfl ?_
          refine C_seq ?_
          refine C_reg ?_
          refine p1 rfl ?_
          refine q1 rfl (D_fb f_31_0 rfl rfl (q := 0) rfl) ?_
          refine q1 rfl (lb 0 o_3 rfl rfl rfl rfl) ?_
          obtain ⟨v0, hv1⟩ := some_of_lt (l := l) (i := (r0.For.toNat)) (by omega)
          obtain ⟨es19, at20, hr21⟩ := rd_elem (n := 1) rfl h_l hv1
          obtain rfl : es19 = [.bool v0] := hr21
          refine q1 rfl (D_ix (l := l) (j := (r0.For.toNat)) s_34 rfl rfl rfl (fun w' hs => (rd_at hs h_l)) (Int.toNat_of_nonneg (by omega)).symm (lt_of_some hv1)) ?_
          refine q1 rfl (lr0 o_4 rfl rfl at20 rfl) ?_
          refine p1 rfl <| p1 rfl ?_
          refine gs 35 rfl rfl (fun h22 => ?_) (fun h22 => ?_)
          · have h22n : v0 = false := not_t h22
            refine q1 rfl (lbw 0 a_31 rfl rfl rfl) ?_
            refine p1 rfl ?_
            refine li rfl (cv b_36 rfl rfl rfl rfl (fun w' hs => (impl_holds w' [(.int .i64 r0.For), u12, u14] r0 v_l l (rd_at hs hr11) (rd_at hs h_l) (by rw [hll]; exact hv0))) ?_)
            refine p1 rfl ?_
            refine D_end ?_
            refine x_then ?_
            refine C_if _ rfl (fun h23 => ?_) (fun h23 => ?_)
            · refine C_seq ?_
              refine C_reg ?_
              refine p1 rfl ?_
              refine D_end ?_
              refine x_then ?_
              refine D_weak [(4, (.bool false))] ⟨rfl, trivial⟩ ?_
              refine D_sel (H' := [bx g5 [(.int .i64 b.Nodes), u1]]) [false, true] rfl ?_
              refine C_ret ?_
              refine x_blk_ret ?_
              refine x_then_ret ?_
              refine x_then_ret ?_
              refine x_blk_ret ?_
              refine x_then_ret ?_
              refine R_1 rfl rfl fun w' hs => ⟨congrArg (fun z => Ending.returned (Value.bool z)) ?_, hs.bel⟩
              show (false : Bool) = isLab b l
              exact lab_n3 hr0 (by assumption) hv1 (not_t (by assumption))
            · refine C_skip ?_
              refine x_blk ?_
              refine x_then ?_
              refine D_weak [(1, v_l), (2, (.pointer (some ⟨g5, 0, none⟩))), (23, u1), (24, (.int .i64 ((b.Reasons.length : Nat) : Int))), (25, (.int .i64 ((k : Nat) : Int)))] ⟨rfl, rfl, rfl, rfl, rfl, trivial⟩ ?_
              refine D_sel (H' := [bx g5 [(.int .i64 b.Nodes), u1]]) [false, true] rfl ?_
              refine C_reg ?_
              refine q1 rfl (D_add rfl rfl rfl (r := ((k + 1 : Nat) : Int)) (by omega) (by omega)) ?_
              refine p1 rfl ?_
              refine D_end ?_
              refine x_then ?_
              refine fun ac w' hf hs => ⟨_, ?_, k + 1, ?_, ?_, rfl, hf.weak ⟨rfl, rfl, rfl, rfl, rfl, trivial⟩, hs⟩
              · omega
              · first | assumption | omega | simp
              · refine forall_step hi ?_; intro r hr hh; obtain rfl : r = r0 := Option.some.inj (hr.symm.trans hr0); first | (rw [atB_of hv1]; exact not_f (by assumption)) | (rw [hh] at h23; cases h23)
          · have h22n : v0 = true := not_f h22
            refine n1 rfl ?_
            refine n1 rfl ?_
            refine n1 rfl ?_
            refine p1 rfl ?_
            refine D_end ?_
            refine x_then ?_
            refine C_f rfl ?_
            refine C_skip ?_
            refine x_blk ?_
            refine x_then ?_
            refine D_weak [(1, v_l), (2, (.pointer (some ⟨g5, 0, none⟩))), (23, u1), (24, (.int .i64 ((b.Reasons.length : Nat) : Int))), (25, (.int .i64 ((k : Nat) : Int)))] ⟨rfl, rfl, rfl, rfl, rfl, trivial⟩ ?_
            refine D_sel (H' := [bx g5 [(.int .i64 b.Nodes), u1]]) [false, true] rfl ?_
            refine C_reg ?_
            refine q1 rfl (D_add rfl rfl rfl (r := ((k + 1 : Nat) : Int)) (by omega) (by omega)) ?_
            refine p1 rfl ?_
            refine D_end ?_
            refine x_then ?_
            refine fun ac w' hf hs => ⟨_, ?_, k + 1, ?_, ?_, rfl, hf.weak ⟨rfl, rfl, rfl, rfl, rfl, trivial⟩, hs⟩
            · omega
            · first | assumption | omega | simp
            · refine forall_step hi ?_; intro r hr hh; obtain rfl : r = r0 := Option.some.inj (hr.symm.trans hr0); first | (rw [atB_of hv1]; exact not_f (by assumption)) | (rw [hh] at h22; cases h22)
        · have pr8 : ¬ (((k : Nat) : Int) : Int) < ((b.Reasons.length : Nat) : Int) := of_decide_eq_false h8
          refine C_exit ?_
          refine x_then_exit ?_
          refine x_then_exit ?_
          refine x_blk_eq ?_
          refine x_then ?_
          refine C_seq ?_
          refine C_reg ?_
          refine q1 rfl (D_fb f_26_0 rfl rfl (q := 0) rfl) ?_
          refine q1 rfl (lb 0 o_3 rfl rfl rfl rfl) ?_
          refine li rfl (D_mk (α := Bool) (z := false) s_34 y_4 rfl (congrArg (fun z => some (Value.int .i64 z)) hn) rfl rfl (by omega) (by omega) fun v24 => ?_)
          refine D_eq 0 rfl (vec_rep _ _) ?_
          refine p1 rfl ?_
          refine D_end ?_
          refine x_then ?_
          refine D_H ([ov [v24] (vec n (fun _ => false) : (List Bool)), bx g5 [(.int .i64 b.Nodes), u1]]) rfl ?_
          refine C_seq ?_
          refine C_seq ?_
          have hA := labA_of (fun i h => hi i (by omega))
          refine C_reg ?_
          refine p1 rfl ?_
          refine D_end ?_
          refine x_then ?_
          refine C_block ?_
          refine C_loop (fun m_ ac w' => ∃ (more : Bool), ∃ (ga : Nat → Bool), (LabS b l ga) ∧ (more = false → LabC b l ga) ∧ m_ = 2 * (n - cnt n ga) + (if more then 1 else 0) ∧ Fits ac 98 [(1, v_l), (2, (.pointer (some ⟨g5, 0, none⟩))), (7, v24), (8, (.bool more))] ∧ St w ([ov [v24] (vec n ga : (List Bool)), bx g5 [(.int .i64 b.Nodes), u1]]) w') ?_ ?_
          · refine fun ac w' hf hs => ⟨_, true, (fun _ => false), ?_, ?_, rfl, hf.weak ⟨rfl, rfl, rfl, rfl, trivial⟩, hs⟩
            · exact LabS.zero b l
            · intro e; cases e
          · rintro m_ ac w' ⟨more, ga, hG, hC, rfl, hf, hs⟩
            refine D.use ?_ hf hs
            clear hf hs ac w'
            refine C_seq ?_
            refine C_seq ?_
            refine C_reg ?_
            refine p1 rfl ?_
            refine D_end ?_
            refine x_then ?_
            refine D_H ([ov [v24] (vec n ga : (List Bool)), bx g5 [(.int .i64 b.Nodes), u1]]) rfl ?_
            refine C_if _ rfl (fun h25 => ?_) (fun h25 => ?_)
            · refine C_skip ?_
              refine x_then ?_
              refine C_block ?_
              refine C_seq ?_
              refine C_reg ?_
              refine p1 rfl ?_
              refine D_end ?_
              refine x_then ?_
              refine C_seq ?_
              refine C_reg ?_
              refine q1 rfl (D_fb f_26_1 rfl rfl (q := 1) rfl) ?_
              refine q1 rfl (lb 1 o_24 rfl rfl rfl rfl) ?_
              refine q1 rfl (D_len s_24 rfl rfl (rd_sl hu2)) ?_
              refine p1 rfl ?_
              refine D_end ?_
              refine x_then ?_
              refine C_block ?_
              refine C_loop (fun m_ ac w' => ∃ (k2 : Nat), ∃ (more2 : Bool), ∃ (gb : Nat → Bool), (k2 ≤ b.Reasons.length) ∧ (LabS b l gb) ∧ (LabE b l ga gb more2 k2 n) ∧ m_ = b.Reasons.length - k2 ∧ Fits ac 98 [(1, v_l), (2, (.pointer (some ⟨g5, 0, none⟩))), (7, v24), (8, (.bool more2)), (46, u1), (47, (.int .i64 ((b.Reasons.length : Nat) : Int))), (48, (.int .i64 ((k2 : Nat) : Int)))] ∧ St w ([ov [v24] (vec n gb : (List Bool)), bx g5 [(.int .i64 b.Nodes), u1]]) w') ?_ ?_
              · refine fun ac w' hf hs => ⟨_, 0, false, ga, ?_, ?_, ?_, rfl, hf.weak ⟨rfl, rfl, rfl, rfl, rfl, rfl, rfl, trivial⟩, hs⟩
                · first | assumption | omega | simp
                · first | assumption | omega | simp
                · exact LabE.zero b l ga n
              · rintro m_ ac w' ⟨k2, more2, gb, hk2, hG2, hE, rfl, hf, hs⟩
                refine D.use ?_ hf hs
                clear hf hs ac w'
                refine C_seq ?_
                refine C_reg ?_
                refine p1 rfl ?_
                refine D_end ?_
                refine x_then ?_
                refine D_H ([ov [v24] (vec n gb : (List Bool)), bx g5 [(.int .i64 b.Nodes), u1]]) rfl ?_
                refine C_seq ?_
                refine C_if _ rfl (fun h26 => ?_) (fun h26 => ?_)
                · have pr26 : (((k2 : Nat) : Int) : Int) < ((b.Reasons.length : Nat) : Int) := of_decide_eq_true h26
                  refine C_skip ?_
                  refine x_then ?_
                  refine C_seq ?_
                  refine C_block ?_
                  refine C_seq ?_
                  refine C_reg ?_
                  obtain ⟨r1, hr1⟩ := some_of_lt (l := b.Reasons) (i := k2) (by omega)
                  have hv0 := okB_r ho hr1
                  have hF := isR_for hv0
                  obtain ⟨es27, at28, hr29⟩ := rd_elem (n := 3) rfl hu2 hr1
                  obtain ⟨u30, u33, rfl, hu31, hu34⟩ := open_Reason hr29
                  have hm35 := rd_max hu31
                  have hm36 := rd_max hu34
                  refine q1 rfl (D_ix (l := b.Reasons) (j := k2) s_24 rfl rfl rfl (fun w' hs => (rd_at hs hu2)) rfl (lt_of_some hr1)) ?_
                  refine q1 rfl (lra a_31 rfl rfl at28) ?_
                  refine li rfl (D_alloc y_31 rfl rfl rfl rfl fun g37 => ?_)
                  refine li rfl (D_stb (vs := [(.int .i64 r1.For), u30, u33]) (cs' := [(.int .i64 r1.For), u30, u33]) 0 z_31 rfl rfl rfl rfl rfl rfl (ocons rfl (ocons (one_rd hu31) (ocons (one_rd hu34) onil))) (by simp) rfl ?_)
                  refine D_end ?_
                  refine x_then ?_
                  refine D_H ([bx g37 [(.int .i64 r1.For), u30, u33], ov [v24] (vec n gb : (List Bool)), bx g5 [(.int .i64 b.Nodes), u1]]) rfl ?_
                  refine C_seq ?_
                  refine C_reg ?_
                  refine p1 rfl ?_
                  refine q1 rfl (D_fb f_31_0 rfl rfl (q := 0) rfl) ?_
                  refine q1 rfl (lb 0 o_3 rfl rfl rfl rfl) ?_
                  obtain ⟨v1, hv2⟩ := some_of_lt (l := l) (i := (r1.For.toNat)) (by omega)
                  obtain ⟨es38, at39, hr40⟩ := rd_elem (n := 1) rfl h_l hv2
                  obtain rfl : es38 = [.bool v1] := hr40
                  refine q1 rfl (D_ix (l := l) (j := (r1.For.toNat)) s_34 rfl rfl rfl (fun w' hs => (rd_at hs h_l)) (Int.toNat_of_nonneg (by omega)).symm (lt_of_some hv2)) ?_
                  refine q1 rfl (lr0 o_4 rfl rfl at39 rfl) ?_
                  refine p1 rfl ?_
                  refine gs 57 rfl rfl (fun h41 => ?_) (fun h41 => ?_)
                  · refine p1 rfl ?_
                    refine q1 rfl (D_fb f_31_0 rfl rfl (q := 0) rfl) ?_
                    refine q1 rfl (lb 0 o_3 rfl rfl rfl rfl) ?_
                    have hx43 : (vec n gb)[(r1.For.toNat)]? = some (gb (r1.For.toNat)) := vec_get (by omega)
                    refine q1 rfl (D_ix (l := (vec n gb)) (j := (r1.For.toNat)) s_34 rfl rfl rfl (fun w' hs => (rd_own (k := 1) hs rfl)) (Int.toNat_of_nonneg (by omega)).symm (lt_of_some hx43)) ?_
                    refine q1 rfl (lo (α := Bool) 1 o_4 rfl rfl rfl hx43) ?_
                    refine p1 rfl <| p1 rfl <| p1 rfl ?_
                    refine gs 65 rfl rfl (fun h44 => ?_) (fun h44 => ?_)
                    · have h44n : (gb (r1.For.toNat)) = false := not_t h44
                      refine q1 rfl (lbw 0 a_31 rfl rfl rfl) ?_
                      refine p1 rfl ?_
                      refine li rfl (cv b_36 rfl rfl rfl rfl (fun w' hs => (impl_holds w' [(.int .i64 r1.For), u30, u33] r1 v_l l (rd_at hs hr29) (rd_at hs h_l) (by rw [hll]; exact hv0))) ?_)
                      refine p1 rfl <| p1 rfl ?_
                      refine gs 70 rfl rfl (fun h45 => ?_) (fun h45 => ?_)
                      · refine q1 rfl (D_fb f_31_1 rfl rfl (q := 1) rfl) ?_
                        refine q1 rfl (lb 0 o_28 rfl rfl rfl rfl) ?_
                        refine p1 rfl ?_
                        refine li rfl (cv b_37 rfl rfl rfl rfl (fun w' hs => (impl_allPlaced w' u30 r1.In v24 (vec n gb) (rd_at hs hu31) (rd_own (k := 1) hs rfl) (by rw [vec_len, ← hn]; exact isR_in hv0))) ?_)
                        refine p1 rfl ?_
                        refine D_end ?_
                        refine x_then ?_
                        refine D_weak [(1, v_l), (2, (.pointer (some ⟨g5, 0, none⟩))), (7, v24), (8, (.bool more2)), (10, (.pointer (some ⟨g37, 0, none⟩))), (46, u1), (47, (.int .i64 ((b.Reasons.length : Nat) : Int))), (48, (.int .i64 ((k2 : Nat) : Int))), (75, (.bool (r1.In.all (lI (vec n gb)))))] ⟨rfl, rfl, rfl, rfl, rfl, rfl, rfl, rfl, rfl, trivial⟩ ?_
                        refine C_if _ rfl (fun h46 => ?_) (fun h46 => ?_)
                        · refine C_seq ?_
                          refine C_reg ?_
                          refine p1 rfl ?_
                          refine q1 rfl (D_fb f_31_0 rfl rfl (q := 0) rfl) ?_
                          refine q1 rfl (lb 0 o_3 rfl rfl rfl rfl) ?_
                          refine q1 rfl (D_ix (l := (vec n gb)) (j := (r1.For.toNat)) s_34 rfl rfl rfl (fun w' hs => (rd_own (k := 1) hs rfl)) (Int.toNat_of_nonneg (by omega)).symm (lt_of_some hx43)) ?_
                          refine li rfl (so (α := Bool) (z := true) 1 z_4 rfl rfl rfl rfl rfl (lt_of_some hx43) ?_)
                          refine D_eq 1 rfl (vec_set _ _ _ _) ?_
                          refine D_end ?_
                          refine x_then ?_
                          refine D_H ([bx g37 [(.int .i64 r1.For), u30, u33], ov [v24] (vec n (upd gb (r1.For.toNat) true) : (List Bool)), bx g5 [(.int .i64 b.Nodes), u1]]) rfl ?_
                          refine C_reg ?_
                          refine p1 rfl ?_
                          refine D_end ?_
                          refine x_blk ?_
                          refine x_then ?_
                          refine C_reg ?_
                          refine q1 rfl (D_add rfl rfl rfl (r := ((k2 + 1 : Nat) : Int)) (by omega) (by omega)) ?_
                          refine p1 rfl ?_
                          refine D_end ?_
                          refine x_then ?_
                          refine fun ac w' hf hs => ⟨_, ?_, k2 + 1, true, (upd gb (r1.For.toNat) true), ?_, ?_, ?_, rfl, hf.weak ⟨rfl, rfl, rfl, rfl, rfl, rfl, rfl, trivial⟩, hs.pk [1, 2] rfl rfl⟩
                          · omega
                          · first | assumption | omega | simp
                          · first | exact hG2 | exact hG2.set (fun _ => Pl.of hG2 hr1 (by assumption) (by rw [← hn]; exact isR_in hv0) (by assumption))
                          · first | exact hE.keep hr1 (labR_1 hA hr1 hv2 (by assumption)) | exact hE.keep hr1 (labR_2 (not_f (by assumption))) | exact hE.keep hr1 (labR_3 (by assumption)) | exact hE.keep hr1 (labR_4 (n := n) (by rw [← hn]; exact isR_in hv0) (by assumption)) | exact hE.up (by omega) (not_t (by assumption)) _
                        · refine C_skip ?_
                          refine x_blk ?_
                          refine x_then ?_
                          refine C_reg ?_
                          refine q1 rfl (D_add rfl rfl rfl (r := ((k2 + 1 : Nat) : Int)) (by omega) (by omega)) ?_
                          refine p1 rfl ?_
                          refine D_end ?_
                          refine x_then ?_
                          refine fun ac w' hf hs => ⟨_, ?_, k2 + 1, more2, gb, ?_, ?_, ?_, rfl, hf.weak ⟨rfl, rfl, rfl, rfl, rfl, rfl, rfl, trivial⟩, hs.pk [1, 2] rfl rfl⟩
                          · omega
                          · first | assumption | omega | simp
                          · first | exact hG2 | exact hG2.set (fun _ => Pl.of hG2 hr1 (by assumption) (by rw [← hn]; exact isR_in hv0) (by assumption))
                          · first | exact hE.keep hr1 (labR_1 hA hr1 hv2 (by assumption)) | exact hE.keep hr1 (labR_2 (not_f (by assumption))) | exact hE.keep hr1 (labR_3 (by assumption)) | exact hE.keep hr1 (labR_4 (n := n) (by rw [← hn]; exact isR_in hv0) (by assumption)) | exact hE.up (by omega) (not_t (by assumption)) _
                      · refine n1 rfl ?_
                        refine n1 rfl ?_
                        refine n1 rfl ?_
                        refine n1 rfl ?_
                        refine p1 rfl ?_
                        refine D_end ?_
                        refine x_then ?_
                        refine D_weak [(1, v_l), (2, (.pointer (some ⟨g5, 0, none⟩))), (7, v24), (8, (.bool more2)), (10, (.pointer (some ⟨g37, 0, none⟩))), (46, u1), (47, (.int .i64 ((b.Reasons.length : Nat) : Int))), (48, (.int .i64 ((k2 : Nat) : Int))), (75, (.bool false))] ⟨rfl, rfl, rfl, rfl, rfl, rfl, rfl, rfl, rfl, trivial⟩ ?_
                        refine C_f rfl ?_
                        refine C_skip ?_
                        refine x_blk ?_
                        refine x_then ?_
                        refine C_reg ?_
                        refine q1 rfl (D_add rfl rfl rfl (r := ((k2 + 1 : Nat) : Int)) (by omega) (by omega)) ?_
                        refine p1 rfl ?_
                        refine D_end ?_
                        refine x_then ?_
                        refine fun ac w' hf hs => ⟨_, ?_, k2 + 1, more2, gb, ?_, ?_, ?_, rfl, hf.weak ⟨rfl, rfl, rfl, rfl, rfl, rfl, rfl, trivial⟩, hs.pk [1, 2] rfl rfl⟩
                        · omega
                        · first | assumption | omega | simp
                        · first | exact hG2 | exact hG2.set (fun _ => Pl.of hG2 hr1 (by assumption) (by rw [← hn]; exact isR_in hv0) (by assumption))
                        · first | exact hE.keep hr1 (labR_1 hA hr1 hv2 (by assumption)) | exact hE.keep hr1 (labR_2 (not_f (by assumption))) | exact hE.keep hr1 (labR_3 (by assumption)) | exact hE.keep hr1 (labR_4 (n := n) (by rw [← hn]; exact isR_in hv0) (by assumption)) | exact hE.up (by omega) (not_t (by assumption)) _
                    · have h44n : (gb (r1.For.toNat)) = true := not_f h44
                      refine n1 rfl ?_
                      refine n1 rfl ?_
                      refine n1 rfl ?_
                      refine p1 rfl <| p1 rfl ?_
                      refine n1 rfl ?_
                      refine n1 rfl ?_
                      refine n1 rfl ?_
                      refine n1 rfl ?_
                      refine p1 rfl ?_
                      refine D_end ?_
                      refine x_then ?_
                      refine D_weak [(1, v_l), (2, (.pointer (some ⟨g5, 0, none⟩))), (7, v24), (8, (.bool more2)), (10, (.pointer (some ⟨g37, 0, none⟩))), (46, u1), (47, (.int .i64 ((b.Reasons.length : Nat) : Int))), (48, (.int .i64 ((k2 : Nat) : Int))), (75, (.bool false))] ⟨rfl, rfl, rfl, rfl, rfl, rfl, rfl, rfl, rfl, trivial⟩ ?_
                      refine C_f rfl ?_
                      refine C_skip ?_
                      refine x_blk ?_
                      refine x_then ?_
                      refine C_reg ?_
                      refine q1 rfl (D_add rfl rfl rfl (r := ((k2 + 1 : Nat) : Int)) (by omega) (by omega)) ?_
                      refine p1 rfl ?_
                      refine D_end ?_
                      refine x_then ?_
                      refine fun ac w' hf hs => ⟨_, ?_, k2 + 1, more2, gb, ?_, ?_, ?_, rfl, hf.weak ⟨rfl, rfl, rfl, rfl, rfl, rfl, rfl, trivial⟩, hs.pk [1, 2] rfl rfl⟩
                      · omega
                      · first | assumption | omega | simp
                      · first | exact hG2 | exact hG2.set (fun _ => Pl.of hG2 hr1 (by assumption) (by rw [← hn]; exact isR_in hv0) (by assumption))
                      · first | exact hE.keep hr1 (labR_1 hA hr1 hv2 (by assumption)) | exact hE.keep hr1 (labR_2 (not_f (by assumption))) | exact hE.keep hr1 (labR_3 (by assumption)) | exact hE.keep hr1 (labR_4 (n := n) (by rw [← hn]; exact isR_in hv0) (by assumption)) | exact hE.up (by omega) (not_t (by assumption)) _
                  · refine n1 rfl ?_
                    refine n1 rfl ?_
                    refine n1 rfl ?_
                    refine n1 rfl ?_
                    refine n1 rfl ?_
                    refine n1 rfl ?_
                    refine p1 rfl <| p1 rfl ?_
                    refine n1 rfl ?_
                    refine n1 rfl ?_
                    refine n1 rfl ?_
                    refine p1 rfl <| p1 rfl ?_
                    refine n1 rfl ?_
                    refine n1 rfl ?_
                    refine n1 rfl ?_
                    refine n1 rfl ?_
                    refine p1 rfl ?_
                    refine D_end ?_
                    refine x_then ?_
                    refine D_weak [(1, v_l), (2, (.pointer (some ⟨g5, 0, none⟩))), (7, v24), (8, (.bool more2)), (10, (.pointer (some ⟨g37, 0, none⟩))), (46, u1), (47, (.int .i64 ((b.Reasons.length : Nat) : Int))), (48, (.int .i64 ((k2 : Nat) : Int))), (75, (.bool false))] ⟨rfl, rfl, rfl, rfl, rfl, rfl, rfl, rfl, rfl, trivial⟩ ?_
                    refine C_f rfl ?_
                    refine C_skip ?_
                    refine x_blk ?_
                    refine x_then ?_
                    refine C_reg ?_
                    refine q1 rfl (D_add rfl rfl rfl (r := ((k2 + 1 : Nat) : Int)) (by omega) (by omega)) ?_
                    refine p1 rfl ?_
                    refine D_end ?_
                    refine x_then ?_
                    refine fun ac w' hf hs => ⟨_, ?_, k2 + 1, more2, gb, ?_, ?_, ?_, rfl, hf.weak ⟨rfl, rfl, rfl, rfl, rfl, rfl, rfl, trivial⟩, hs.pk [1, 2] rfl rfl⟩
                    · omega
                    · first | assumption | omega | simp
                    · first | exact hG2 | exact hG2.set (fun _ => Pl.of hG2 hr1 (by assumption) (by rw [← hn]; exact isR_in hv0) (by assumption))
                    · first | exact hE.keep hr1 (labR_1 hA hr1 hv2 (by assumption)) | exact hE.keep hr1 (labR_2 (not_f (by assumption))) | exact hE.keep hr1 (labR_3 (by assumption)) | exact hE.keep hr1 (labR_4 (n := n) (by rw [← hn]; exact isR_in hv0) (by assumption)) | exact hE.up (by omega) (not_t (by assumption)) _
                · have pr26 : ¬ (((k2 : Nat) : Int) : Int) < ((b.Reasons.length : Nat) : Int) := of_decide_eq_false h26
                  refine C_exit ?_
                  refine x_then_exit ?_
                  refine x_then_exit ?_
                  refine x_blk_eq ?_
                  refine x_blk ?_
                  refine x_then ?_
                  refine fun ac w' hf hs => ⟨_, ?_, more2, gb, ?_, ?_, rfl, hf.weak ⟨rfl, rfl, rfl, rfl, trivial⟩, hs⟩
                  · rw [show more = true by assumption, if_pos rfl]; have e1 := hE.1; have e3 := cnt_le n gb; cases hmm : more2 with | true => (have e2 := hE.2.1 hmm; rw [if_pos rfl]; omega) | false => (rw [if_neg (by simp)]; omega)
                  · exact hG2
                  · exact hE.clo (by omega)
            · refine C_exit ?_
              refine x_then_exit ?_
              refine x_then_exit ?_
              refine x_blk_eq ?_
              refine x_then ?_
              refine C_seq ?_
              refine C_seq ?_
              refine C_reg ?_
              refine p1 rfl ?_
              refine q1 rfl (D_len s_34 rfl rfl (rd_sl h_l)) ?_
              refine p1 rfl ?_
              refine D_end ?_
              refine x_then ?_
              refine C_block ?_
              refine C_loop (fun m_ ac w' => ∃ (x : Nat), (x ≤ l.length) ∧ (∀ i, i < x → atB l i = true → Pl b l i) ∧ m_ = l.length - x ∧ Fits ac 98 [(1, v_l), (7, v24), (82, (.int .i64 ((l.length : Nat) : Int))), (83, (.int .i64 ((x : Nat) : Int)))] ∧ St w ([ov [v24] (vec n ga : (List Bool)), bx g5 [(.int .i64 b.Nodes), u1]]) w') ?_ ?_
              · refine fun ac w' hf hs => ⟨_, 0, ?_, ?_, rfl, hf.weak ⟨rfl, rfl, rfl, rfl, trivial⟩, hs⟩
                · first | assumption | omega | simp
                · intro i hi; omega
              · rintro m_ ac w' ⟨x, hx, hX, rfl, hf, hs⟩
                refine D.use ?_ hf hs
                clear hf hs ac w'
                refine C_seq ?_
                refine C_reg ?_
                refine p1 rfl ?_
                refine D_end ?_
                refine x_then ?_
                refine C_seq ?_
                refine C_if _ rfl (fun h47 => ?_) (fun h47 => ?_)
                · have pr47 : (((x : Nat) : Int) : Int) < ((l.length : Nat) : Int) := of_decide_eq_true h47
                  refine C_skip ?_
                  refine x_then ?_
                  refine C_seq ?_
                  refine C_block ?_
                  refine C_seq ?_
                  refine C_reg ?_
                  refine p1 rfl <| p1 rfl ?_
                  refine D_end ?_
                  refine x_then ?_
                  refine C_seq ?_
                  refine C_reg ?_
                  refine p1 rfl <| p1 rfl ?_
                  obtain ⟨v3, hv3⟩ := some_of_lt (l := l) (i := x) (by omega)
                  obtain ⟨es48, at49, hr50⟩ := rd_elem (n := 1) rfl h_l hv3
                  obtain rfl : es48 = [.bool v3] := hr50
                  refine q1 rfl (D_ix (l := l) (j := x) s_34 rfl rfl rfl (fun w' hs => (rd_at hs h_l)) rfl (lt_of_some hv3)) ?_
                  refine q1 rfl (lr0 o_4 rfl rfl at49 rfl) ?_
                  refine p1 rfl ?_
                  refine gs 90 rfl rfl (fun h51 => ?_) (fun h51 => ?_)
                  · refine p1 rfl <| p1 rfl ?_
                    have hx53 : (vec n ga)[x]? = some (ga x) := vec_get (by omega)
                    refine q1 rfl (D_ix (l := (vec n ga)) (j := x) s_34 rfl rfl rfl (fun w' hs => (rd_own (k := 0) hs rfl)) rfl (lt_of_some hx53)) ?_
                    refine q1 rfl (lo (α := Bool) 0 o_4 rfl rfl rfl hx53) ?_
                    refine p1 rfl <| p1 rfl ?_
                    refine D_end ?_
                    refine x_then ?_
                    refine C_if _ rfl (fun h54 => ?_) (fun h54 => ?_)
                    · have h54n : (ga x) = false := not_t h54
                      refine C_seq ?_
                      refine C_reg ?_
                      refine p1 rfl ?_
                      refine D_end ?_
                      refine x_then ?_
                      refine D_weak [(4, (.bool false))] ⟨rfl, trivial⟩ ?_
                      refine C_ret ?_
                      refine x_blk_ret ?_
                      refine x_then_ret ?_
                      refine x_then_ret ?_
                      refine x_blk_ret ?_
                      refine x_then_ret ?_
                      refine R_1 rfl rfl fun w' hs => ⟨congrArg (fun z => Ending.returned (Value.bool z)) ?_, hs.bel⟩
                      show (false : Bool) = isLab b l
                      exact lab_n4 (x := x) (by omega) (by rw [atB_of hv3]; assumption) (fun hp => by have hq := (hC (by assumption)).all _ hp; rw [hq] at h54; cases h54)
                    · have h54n : (ga x) = true := not_f h54
                      refine C_skip ?_
                      refine x_blk ?_
                      refine x_then ?_
                      refine C_reg ?_
                      refine q1 rfl (D_add rfl rfl rfl (r := ((x + 1 : Nat) : Int)) (by omega) (by omega)) ?_
                      refine p1 rfl ?_
                      refine D_end ?_
                      refine x_then ?_
                      refine fun ac w' hf hs => ⟨_, ?_, x + 1, ?_, ?_, rfl, hf.weak ⟨rfl, rfl, rfl, rfl, trivial⟩, hs⟩
                      · omega
                      · first | assumption | omega | simp
                      · refine forall_step hX ?_; intro hl; rw [atB_of hv3] at hl; first | exact hG _ (not_f (by assumption)) | (rw [hl] at h54; cases h54)
                  · refine n1 rfl ?_
                    refine n1 rfl ?_
                    refine n1 rfl ?_
                    refine n1 rfl ?_
                    refine n1 rfl ?_
                    refine p1 rfl ?_
                    refine D_end ?_
                    refine x_then ?_
                    refine C_f rfl ?_
                    refine C_skip ?_
                    refine x_blk ?_
                    refine x_then ?_
                    refine C_reg ?_
                    refine q1 rfl (D_add rfl rfl rfl (r := ((x + 1 : Nat) : Int)) (by omega) (by omega)) ?_
                    refine p1 rfl ?_
                    refine D_end ?_
                    refine x_then ?_
                    refine fun ac w' hf hs => ⟨_, ?_, x + 1, ?_, ?_, rfl, hf.weak ⟨rfl, rfl, rfl, rfl, trivial⟩, hs⟩
                    · omega
                    · first | assumption | omega | simp
                    · refine forall_step hX ?_; intro hl; rw [atB_of hv3] at hl; first | exact hG _ (not_f (by assumption)) | (rw [hl] at h51; cases h51)
                · have pr47 : ¬ (((x : Nat) : Int) : Int) < ((l.length : Nat) : Int) := of_decide_eq_false h47
                  refine C_exit ?_
                  refine x_then_exit ?_
                  refine x_then_exit ?_
                  refine x_blk_eq ?_
                  refine x_then ?_
                  refine C_seq ?_
                  refine C_reg ?_
                  refine p1 rfl ?_
                  refine D_end ?_
                  refine x_then ?_
                  refine C_ret ?_
                  refine R_1 rfl rfl fun w' hs => ⟨congrArg (fun z => Ending.returned (Value.bool z)) ?_, hs.bel⟩
                  show (true : Bool) = isLab b l
                  exact lab_y hib hll hA (fun x hx => hX x (by omega))
end Go.Sy.Bela
