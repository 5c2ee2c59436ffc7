/-
  Contracts of functions of the program, walked (printed by a program of ours).
  Conditions: those that each theorem states.
-/
import Derived.Test.YteonnoeofhonoaaBel9
import Derived.Test.YteonnoeofhonoaaLab
set_option linter.unusedVariables false
set_option maxRecDepth 20000
namespace Go.Sy.Bela
open Go Go.RowKit Go.Proofs Go.Sy
theorem mixed : Try.prog.follows .mixedOrders = true := by kernel_rfl
theorem f_45_1 : fieldOff Try.prog 45 1 = some 1 := by kernel_rfl
theorem o_25 : oneTy Try.prog 25 = true := by kernel_rfl
theorem s_25 : sliceTy Try.prog 25 = some (3, 1, 8) := by kernel_rfl
theorem o_3 : oneTy Try.prog 3 = true := by kernel_rfl
theorem s_52 : sliceTy Try.prog 52 = some (4, 1, 1) := by kernel_rfl
theorem o_4 : oneTy Try.prog 4 = true := by kernel_rfl
theorem f_45_2 : fieldOff Try.prog 45 2 = some 2 := by kernel_rfl
theorem a_29 : aggTy Try.prog 29 = some 2 := by kernel_rfl
theorem b_46 : hasBody Try.prog 46 = true := by kernel_rfl
theorem f_29_0 : fieldOff Try.prog 29 0 = some 0 := by kernel_rfl
theorem f_29_1 : fieldOff Try.prog 29 1 = some 1 := by kernel_rfl
theorem o_27 : oneTy Try.prog 27 = true := by kernel_rfl
theorem s_27 : sliceTy Try.prog 27 = some (45, 3, 56) := by kernel_rfl
theorem a_45 : aggTy Try.prog 45 = some 3 := by kernel_rfl
theorem y_45 : zeroTy Try.prog 45 = some (.agg #[(.int .i64 0), (.slice none 0 0), (.slice none 0 0)]) := by kernel_rfl
theorem z_45 : sizeTy Try.prog 45 = some 3 := by kernel_rfl
theorem f_45_0 : fieldOff Try.prog 45 0 = some 0 := by kernel_rfl
theorem b_57 : hasBody Try.prog 57 = true := by kernel_rfl
theorem y_4 : zeroTy Try.prog 4 = some (.bool false) := by kernel_rfl
theorem b_58 : hasBody Try.prog 58 = true := by kernel_rfl
theorem z_4 : sizeTy Try.prog 4 = some 1 := by kernel_rfl
theorem b_44 : hasBody Try.prog 44 = true := by kernel_rfl
theorem b_56 : hasBody Try.prog 56 = true := by kernel_rfl
theorem ub_4 : Try.prog.underlying 4 = some .bool := by kernel_rfl
theorem a_24 : aggTy Try.prog 24 = some 2 := by kernel_rfl
theorem b_9 : hasBody Try.prog 9 = true := by kernel_rfl
theorem b_11 : hasBody Try.prog 11 = true := by kernel_rfl
theorem b_30 : hasBody Try.prog 30 = true := by kernel_rfl
theorem b_29 : hasBody Try.prog 29 = true := by kernel_rfl
theorem y_29 : zeroTy Try.prog 29 = some (.agg #[(.int .i64 0), (.slice none 0 0)]) := by kernel_rfl
theorem z_29 : sizeTy Try.prog 29 = some 2 := by kernel_rfl
theorem b_31 : hasBody Try.prog 31 = true := by kernel_rfl
theorem b_14 : hasBody Try.prog 14 = true := by kernel_rfl
theorem b_32 : hasBody Try.prog 32 = true := by kernel_rfl
open Go.Sy.Bel1 Go.Sy.Bel2 Go.Sy.Bel3 Go.Sy.Bel4 Go.Sy.Bel5 Go.Sy.Bel6 Go.Sy.Bel9
theorem impl_holds (w : World) (c_r : List Value) (r : Reason) (v_l : Value) (l : (List Bool)) (h_r : Gd.rd w c_r r) (h_l : Gd.rd w [v_l] l) (hr : isReason r (l.length : Int) = true) : Calls Try.prog 57 [(.agg c_r.toArray), v_l].toArray w (Val w (.bool (holdsL r l))) := by
  obtain ⟨u1, u3, rfl, hu2, hu4⟩ := open_Reason h_r
  have hm5 := rd_max hu2
  have hm6 := rd_max hu4
  have hm7 := rd_max h_l
  refine enter 34 Try.func57 rfl rfl rfl ?_
  refine C_seq ?_
  refine C_reg ?_
  refine li rfl (D_box rfl rfl rfl rfl rfl fun g8 => ?_)
  refine p1 rfl ?_
  refine D_end ?_
  refine x_then ?_
  refine D_H ([bx g8 [(.int .i64 r.For), u1, u3]]) rfl ?_
  refine C_seq ?_
  refine C_seq ?_
  refine C_reg ?_
  refine q1 rfl (D_fb f_45_1 rfl rfl (q := 1) rfl) ?_
  refine q1 rfl (lb 0 o_25 rfl rfl rfl rfl) ?_
  refine q1 rfl (D_len s_25 rfl rfl (rd_sl hu2)) ?_
  refine p1 rfl ?_
  refine D_end ?_
  refine x_then ?_
  refine C_block ?_
  refine C_loop (fun m_ ac w' => ∃ (k : Nat), (k ≤ r.In.length) ∧ (∀ i, i < k → ∀ y, r.In[i]? = some y → lI l y = true) ∧ m_ = r.In.length - k ∧ Fits ac 34 [(1, v_l), (2, (.pointer (some ⟨g8, 0, none⟩))), (10, u1), (11, (.int .i64 ((r.In.length : Nat) : Int))), (12, (.int .i64 ((k : Nat) : Int)))] ∧ St w ([bx g8 [(.int .i64 r.For), u1, u3]]) w') ?_ ?_
  · refine fun ac w' hf hs => ⟨_, 0, ?_, ?_, rfl, hf.weak ⟨rfl, rfl, rfl, rfl, rfl, trivial⟩, hs⟩
    · first | assumption | omega | simp
    · intro i hi; omega
  · rintro m_ ac w' ⟨k, hk, hi, rfl, hf, hs⟩
    refine D.use ?_ hf hs
    clear hf hs ac w'
    refine C_seq ?_
    refine C_reg ?_
    refine p1 rfl ?_
    refine D_end ?_
    refine x_then ?_
    refine C_seq ?_
    refine C_if _ rfl (fun h9 => ?_) (fun h9 => ?_)
    · have pr9 : (((k : Nat) : Int) : Int) < ((r.In.length : Nat) : Int) := of_decide_eq_true h9
      refine C_skip ?_
      refine x_then ?_
      refine C_seq ?_
      refine C_block ?_
      refine C_seq ?_
      refine C_reg ?_
      obtain ⟨y2, hy2⟩ := some_of_lt (l := r.In) (i := k) (by omega)
      have hyn := asc_at (isR_in hr) hy2
      obtain ⟨es10, at11, hr12⟩ := rd_elem (n := 1) rfl hu2 hy2
      obtain rfl : es10 = [.int .i64 y2] := hr12
      refine q1 rfl (D_ix (l := r.In) (j := k) s_25 rfl rfl rfl (fun w' hs => (rd_at hs hu2)) rfl (lt_of_some hy2)) ?_
      refine q1 rfl (lr0 o_3 rfl rfl at11 rfl) ?_
      refine p1 rfl ?_
      refine D_end ?_
      refine x_then ?_
      refine C_seq ?_
      refine C_reg ?_
      refine p1 rfl <| p1 rfl ?_
      obtain ⟨z2, hz2⟩ := some_of_lt (l := l) (i := (y2.toNat)) (by omega)
      obtain ⟨es13, at14, hr15⟩ := rd_elem (n := 1) rfl h_l hz2
      obtain rfl : es13 = [.bool z2] := hr15
      refine q1 rfl (D_ix (l := l) (j := (y2.toNat)) s_52 rfl rfl rfl (fun w' hs => (rd_at hs h_l)) (Int.toNat_of_nonneg (by omega)).symm (lt_of_some hz2)) ?_
      refine q1 rfl (lr0 o_4 rfl rfl at14 rfl) ?_
      refine p1 rfl ?_
      refine D_end ?_
      refine x_then ?_
      refine C_if _ rfl (fun h16 => ?_) (fun h16 => ?_)
      · have h16n : z2 = false := not_t h16
        refine C_seq ?_
        refine C_reg ?_
        refine p1 rfl ?_
        refine D_end ?_
        refine x_then ?_
        refine C_ret ?_
        refine x_blk_ret ?_
        refine x_then_ret ?_
        refine x_then_ret ?_
        refine x_blk_ret ?_
        refine x_then_ret ?_
        refine R_1 rfl rfl fun w' hs => ⟨congrArg (fun z => Ending.returned (Value.bool z)) ?_, hs.bel⟩
        show (false : Bool) = holdsL r l
        exact holds_in hy2 (by rw [lI_of hz2]; exact h16n)
      · have h16n : z2 = true := not_f h16
        refine C_skip ?_
        refine x_blk ?_
        refine x_then ?_
        refine C_reg ?_
        refine q1 rfl (D_add rfl rfl rfl (r := ((k + 1 : Nat) : Int)) (by omega) (by omega)) ?_
        refine p1 rfl ?_
        refine D_end ?_
        refine x_then ?_
        refine fun ac w' hf hs => ⟨_, ?_, k + 1, ?_, ?_, rfl, hf.weak ⟨rfl, rfl, rfl, rfl, rfl, trivial⟩, hs⟩
        · omega
        · first | assumption | omega | simp
        · refine forall_step hi ?_; intro y hy; obtain rfl : y = y2 := Option.some.inj (hy.symm.trans hy2); rw [lI_of hz2]; exact h16n
    · have pr9 : ¬ (((k : Nat) : Int) : Int) < ((r.In.length : Nat) : Int) := of_decide_eq_false h9
      refine C_exit ?_
      refine x_then_exit ?_
      refine x_then_exit ?_
      refine x_blk_eq ?_
      refine x_then ?_
      refine C_seq ?_
      refine C_seq ?_
      refine C_reg ?_
      refine q1 rfl (D_fb f_45_2 rfl rfl (q := 2) rfl) ?_
      refine q1 rfl (lb 0 o_25 rfl rfl rfl rfl) ?_
      refine q1 rfl (D_len s_25 rfl rfl (rd_sl hu4)) ?_
      refine p1 rfl ?_
      refine D_end ?_
      refine x_then ?_
      refine C_block ?_
      refine C_loop (fun m_ ac w' => ∃ (m : Nat), (m ≤ r.Out.length) ∧ (∀ i, i < m → ∀ y, r.Out[i]? = some y → lO l y = true) ∧ m_ = r.Out.length - m ∧ Fits ac 34 [(1, v_l), (23, u3), (24, (.int .i64 ((r.Out.length : Nat) : Int))), (25, (.int .i64 ((m : Nat) : Int)))] ∧ St w ([bx g8 [(.int .i64 r.For), u1, u3]]) w') ?_ ?_
      · refine fun ac w' hf hs => ⟨_, 0, ?_, ?_, rfl, hf.weak ⟨rfl, rfl, rfl, rfl, trivial⟩, hs⟩
        · first | assumption | omega | simp
        · intro i hi; omega
      · rintro m_ ac w' ⟨m, hm, ho, rfl, hf, hs⟩
        refine D.use ?_ hf hs
        clear hf hs ac w'
        refine C_seq ?_
        refine C_reg ?_
        refine p1 rfl ?_
        refine D_end ?_
        refine x_then ?_
        refine C_seq ?_
        refine C_if _ rfl (fun h17 => ?_) (fun h17 => ?_)
        · have pr17 : (((m : Nat) : Int) : Int) < ((r.Out.length : Nat) : Int) := of_decide_eq_true h17
          refine C_skip ?_
          refine x_then ?_
          refine C_seq ?_
          refine C_block ?_
          refine C_seq ?_
          refine C_reg ?_
          obtain ⟨y3, hy3⟩ := some_of_lt (l := r.Out) (i := m) (by omega)
          have hyn := asc_at (isR_out hr) hy3
          obtain ⟨es18, at19, hr20⟩ := rd_elem (n := 1) rfl hu4 hy3
          obtain rfl : es18 = [.int .i64 y3] := hr20
          refine q1 rfl (D_ix (l := r.Out) (j := m) s_25 rfl rfl rfl (fun w' hs => (rd_at hs hu4)) rfl (lt_of_some hy3)) ?_
          refine q1 rfl (lr0 o_3 rfl rfl at19 rfl) ?_
          refine p1 rfl ?_
          refine D_end ?_
          refine x_then ?_
          refine C_seq ?_
          refine C_reg ?_
          refine p1 rfl <| p1 rfl ?_
          obtain ⟨z3, hz3⟩ := some_of_lt (l := l) (i := (y3.toNat)) (by omega)
          obtain ⟨es21, at22, hr23⟩ := rd_elem (n := 1) rfl h_l hz3
          obtain rfl : es21 = [.bool z3] := hr23
          refine q1 rfl (D_ix (l := l) (j := (y3.toNat)) s_52 rfl rfl rfl (fun w' hs => (rd_at hs h_l)) (Int.toNat_of_nonneg (by omega)).symm (lt_of_some hz3)) ?_
          refine q1 rfl (lr0 o_4 rfl rfl at22 rfl) ?_
          refine D_end ?_
          refine x_then ?_
          refine C_if _ rfl (fun h24 => ?_) (fun h24 => ?_)
          · refine C_seq ?_
            refine C_reg ?_
            refine p1 rfl ?_
            refine D_end ?_
            refine x_then ?_
            refine C_ret ?_
            refine x_blk_ret ?_
            refine x_then_ret ?_
            refine x_then_ret ?_
            refine x_blk_ret ?_
            refine x_then_ret ?_
            refine R_1 rfl rfl fun w' hs => ⟨congrArg (fun z => Ending.returned (Value.bool z)) ?_, hs.bel⟩
            show (false : Bool) = holdsL r l
            exact holds_out hy3 (by rw [lO_of hz3, h24]; rfl)
          · refine C_skip ?_
            refine x_blk ?_
            refine x_then ?_
            refine C_reg ?_
            refine q1 rfl (D_add rfl rfl rfl (r := ((m + 1 : Nat) : Int)) (by omega) (by omega)) ?_
            refine p1 rfl ?_
            refine D_end ?_
            refine x_then ?_
            refine fun ac w' hf hs => ⟨_, ?_, m + 1, ?_, ?_, rfl, hf.weak ⟨rfl, rfl, rfl, rfl, trivial⟩, hs⟩
            · omega
            · first | assumption | omega | simp
            · refine forall_step ho ?_; intro y hy; obtain rfl : y = y3 := Option.some.inj (hy.symm.trans hy3); rw [lO_of hz3, h24]; rfl
        · have pr17 : ¬ (((m : Nat) : Int) : Int) < ((r.Out.length : Nat) : Int) := of_decide_eq_false h17
          refine C_exit ?_
          refine x_then_exit ?_
          refine x_then_exit ?_
          refine x_blk_eq ?_
          refine x_then ?_
          refine C_seq ?_
          refine C_reg ?_
          refine p1 rfl ?_
          refine D_end ?_
          refine x_then ?_
          refine C_ret ?_
          refine R_1 rfl rfl fun w' hs => ⟨congrArg (fun z => Ending.returned (Value.bool z)) ?_, hs.bel⟩
          show (true : Bool) = holdsL r l
          exact holds_y (fun i h => hi i (by omega)) (fun i h => ho i (by omega))

theorem spec_l11Holds (w : World) (c_r : List Value) (r : Reason) (v_l : Value) (l : (List Bool)) (h_r : Gd.rd w c_r r) (h_l : Gd.rd w [v_l] l) (hr : isReason r (l.length : Int) = true) : Calls Try.prog 56 [(.agg c_r.toArray), v_l].toArray w (Val w (.bool (holdsL r l))) := by
  obtain ⟨u1, u3, rfl, hu2, hu4⟩ := open_Reason h_r
  have hm5 := rd_max hu2
  have hm6 := rd_max hu4
  have hm7 := rd_max h_l
  refine enter 38 Try.func56 rfl rfl rfl ?_
  refine C_seq ?_
  refine C_reg ?_
  refine li rfl (D_box rfl rfl rfl rfl rfl fun g8 => ?_)
  refine p1 rfl ?_
  refine D_end ?_
  refine x_then ?_
  refine D_H ([bx g8 [(.int .i64 r.For), u1, u3]]) rfl ?_
  refine C_seq ?_
  refine C_seq ?_
  refine C_reg ?_
  refine p1 rfl ?_
  refine D_end ?_
  refine x_then ?_
  refine C_block ?_
  refine C_loop (fun m_ ac w' => ∃ (k : Nat), (k ≤ r.In.length) ∧ (∀ i, i < k → ∀ y, r.In[i]? = some y → lI l y = true) ∧ m_ = r.In.length - k ∧ Fits ac 38 [(1, v_l), (2, (.pointer (some ⟨g8, 0, none⟩))), (5, (.int .i64 ((k : Nat) : Int)))] ∧ St w ([bx g8 [(.int .i64 r.For), u1, u3]]) w') ?_ ?_
  · refine fun ac w' hf hs => ⟨_, 0, ?_, ?_, rfl, hf.weak ⟨rfl, rfl, rfl, trivial⟩, hs⟩
    · first | assumption | omega | simp
    · intro i hi; omega
  · rintro m_ ac w' ⟨k, hk, hi, rfl, hf, hs⟩
    refine D.use ?_ hf hs
    clear hf hs ac w'
    refine C_seq ?_
    refine C_seq ?_
    refine C_reg ?_
    refine p1 rfl ?_
    refine q1 rfl (D_fb f_45_1 rfl rfl (q := 1) rfl) ?_
    refine q1 rfl (lb 0 o_25 rfl rfl rfl rfl) ?_
    refine q1 rfl (D_len s_25 rfl rfl (rd_sl hu2)) ?_
    refine p1 rfl ?_
    refine D_end ?_
    refine x_then ?_
    refine C_if _ rfl (fun h9 => ?_) (fun h9 => ?_)
    · have pr9 : (((k : Nat) : Int) : Int) < ((r.In.length : Nat) : Int) := of_decide_eq_true h9
      refine C_skip ?_
      refine x_then ?_
      refine C_seq ?_
      refine C_block ?_
      refine C_seq ?_
      refine C_reg ?_
      refine p1 rfl ?_
      refine q1 rfl (D_fb f_45_1 rfl rfl (q := 1) rfl) ?_
      refine q1 rfl (lb 0 o_25 rfl rfl rfl rfl) ?_
      refine p1 rfl ?_
      obtain ⟨y2, hy2⟩ := some_of_lt (l := r.In) (i := k) (by omega)
      have hyn := asc_at (isR_in hr) hy2
      obtain ⟨es10, at11, hr12⟩ := rd_elem (n := 1) rfl hu2 hy2
      obtain rfl : es10 = [.int .i64 y2] := hr12
      refine q1 rfl (D_ix (l := r.In) (j := k) s_25 rfl rfl rfl (fun w' hs => (rd_at hs hu2)) rfl (lt_of_some hy2)) ?_
      refine q1 rfl (lr0 o_3 rfl rfl at11 rfl) ?_
      obtain ⟨z2, hz2⟩ := some_of_lt (l := l) (i := (y2.toNat)) (by omega)
      obtain ⟨es13, at14, hr15⟩ := rd_elem (n := 1) rfl h_l hz2
      obtain rfl : es13 = [.bool z2] := hr15
      refine q1 rfl (D_ix (l := l) (j := (y2.toNat)) s_52 rfl rfl rfl (fun w' hs => (rd_at hs h_l)) (Int.toNat_of_nonneg (by omega)).symm (lt_of_some hz2)) ?_
      refine q1 rfl (lr0 o_4 rfl rfl at14 rfl) ?_
      refine p1 rfl ?_
      refine D_end ?_
      refine x_then ?_
      refine C_if _ rfl (fun h16 => ?_) (fun h16 => ?_)
      · have h16n : z2 = false := not_t h16
        refine C_seq ?_
        refine C_reg ?_
        refine p1 rfl ?_
        refine D_end ?_
        refine x_then ?_
        refine D_weak [(4, (.bool false))] ⟨rfl, trivial⟩ ?_
        refine C_ret ?_
        refine x_blk_ret ?_
        refine x_then_ret ?_
        refine x_then_ret ?_
        refine x_blk_ret ?_
        refine x_then_ret ?_
        refine R_1 rfl rfl fun w' hs => ⟨congrArg (fun z => Ending.returned (Value.bool z)) ?_, hs.bel⟩
        show (false : Bool) = holdsL r l
        exact holds_in hy2 (by rw [lI_of hz2]; exact h16n)
      · have h16n : z2 = true := not_f h16
        refine C_skip ?_
        refine x_blk ?_
        refine x_then ?_
        refine C_reg ?_
        refine p1 rfl ?_
        refine q1 rfl (D_add rfl rfl rfl (r := ((k + 1 : Nat) : Int)) (by omega) (by omega)) ?_
        refine p1 rfl ?_
        refine D_end ?_
        refine x_then ?_
        refine fun ac w' hf hs => ⟨_, ?_, k + 1, ?_, ?_, rfl, hf.weak ⟨rfl, rfl, rfl, trivial⟩, hs⟩
        · omega
        · first | assumption | omega | simp
        · refine forall_step hi ?_; intro y hy; obtain rfl : y = y2 := Option.some.inj (hy.symm.trans hy2); rw [lI_of hz2]; exact h16n
    · have pr9 : ¬ (((k : Nat) : Int) : Int) < ((r.In.length : Nat) : Int) := of_decide_eq_false h9
      refine C_exit ?_
      refine x_then_exit ?_
      refine x_then_exit ?_
      refine x_blk_eq ?_
      refine x_then ?_
      refine C_seq ?_
      refine C_seq ?_
      refine C_reg ?_
      refine p1 rfl ?_
      refine D_end ?_
      refine x_then ?_
      refine C_block ?_
      refine C_loop (fun m_ ac w' => ∃ (m : Nat), (m ≤ r.Out.length) ∧ (∀ i, i < m → ∀ y, r.Out[i]? = some y → lO l y = true) ∧ m_ = r.Out.length - m ∧ Fits ac 38 [(1, v_l), (2, (.pointer (some ⟨g8, 0, none⟩))), (6, (.int .i64 ((m : Nat) : Int)))] ∧ St w ([bx g8 [(.int .i64 r.For), u1, u3]]) w') ?_ ?_
      · refine fun ac w' hf hs => ⟨_, 0, ?_, ?_, rfl, hf.weak ⟨rfl, rfl, rfl, trivial⟩, hs⟩
        · first | assumption | omega | simp
        · intro i hi; omega
      · rintro m_ ac w' ⟨m, hm, ho, rfl, hf, hs⟩
        refine D.use ?_ hf hs
        clear hf hs ac w'
        refine C_seq ?_
        refine C_seq ?_
        refine C_reg ?_
        refine p1 rfl ?_
        refine q1 rfl (D_fb f_45_2 rfl rfl (q := 2) rfl) ?_
        refine q1 rfl (lb 0 o_25 rfl rfl rfl rfl) ?_
        refine q1 rfl (D_len s_25 rfl rfl (rd_sl hu4)) ?_
        refine p1 rfl ?_
        refine D_end ?_
        refine x_then ?_
        refine C_if _ rfl (fun h17 => ?_) (fun h17 => ?_)
        · have pr17 : (((m : Nat) : Int) : Int) < ((r.Out.length : Nat) : Int) := of_decide_eq_true h17
          refine C_skip ?_
          refine x_then ?_
          refine C_seq ?_
          refine C_block ?_
          refine C_seq ?_
          refine C_reg ?_
          refine p1 rfl ?_
          refine q1 rfl (D_fb f_45_2 rfl rfl (q := 2) rfl) ?_
          refine q1 rfl (lb 0 o_25 rfl rfl rfl rfl) ?_
          refine p1 rfl ?_
          obtain ⟨y3, hy3⟩ := some_of_lt (l := r.Out) (i := m) (by omega)
          have hyn := asc_at (isR_out hr) hy3
          obtain ⟨es18, at19, hr20⟩ := rd_elem (n := 1) rfl hu4 hy3
          obtain rfl : es18 = [.int .i64 y3] := hr20
          refine q1 rfl (D_ix (l := r.Out) (j := m) s_25 rfl rfl rfl (fun w' hs => (rd_at hs hu4)) rfl (lt_of_some hy3)) ?_
          refine q1 rfl (lr0 o_3 rfl rfl at19 rfl) ?_
          obtain ⟨z3, hz3⟩ := some_of_lt (l := l) (i := (y3.toNat)) (by omega)
          obtain ⟨es21, at22, hr23⟩ := rd_elem (n := 1) rfl h_l hz3
          obtain rfl : es21 = [.bool z3] := hr23
          refine q1 rfl (D_ix (l := l) (j := (y3.toNat)) s_52 rfl rfl rfl (fun w' hs => (rd_at hs h_l)) (Int.toNat_of_nonneg (by omega)).symm (lt_of_some hz3)) ?_
          refine q1 rfl (lr0 o_4 rfl rfl at22 rfl) ?_
          refine D_end ?_
          refine x_then ?_
          refine C_if _ rfl (fun h24 => ?_) (fun h24 => ?_)
          · refine C_seq ?_
            refine C_reg ?_
            refine p1 rfl ?_
            refine D_end ?_
            refine x_then ?_
            refine D_weak [(4, (.bool false))] ⟨rfl, trivial⟩ ?_
            refine C_ret ?_
            refine x_blk_ret ?_
            refine x_then_ret ?_
            refine x_then_ret ?_
            refine x_blk_ret ?_
            refine x_then_ret ?_
            refine R_1 rfl rfl fun w' hs => ⟨congrArg (fun z => Ending.returned (Value.bool z)) ?_, hs.bel⟩
            show (false : Bool) = holdsL r l
            exact holds_out hy3 (by rw [lO_of hz3, h24]; rfl)
          · refine C_skip ?_
            refine x_blk ?_
            refine x_then ?_
            refine C_reg ?_
            refine p1 rfl ?_
            refine q1 rfl (D_add rfl rfl rfl (r := ((m + 1 : Nat) : Int)) (by omega) (by omega)) ?_
            refine p1 rfl ?_
            refine D_end ?_
            refine x_then ?_
            refine fun ac w' hf hs => ⟨_, ?_, m + 1, ?_, ?_, rfl, hf.weak ⟨rfl, rfl, rfl, trivial⟩, hs⟩
            · omega
            · first | assumption | omega | simp
            · refine forall_step ho ?_; intro y hy; obtain rfl : y = y3 := Option.some.inj (hy.symm.trans hy3); rw [lO_of hz3, h24]; rfl
        · have pr17 : ¬ (((m : Nat) : Int) : Int) < ((r.Out.length : Nat) : Int) := of_decide_eq_false h17
          refine C_exit ?_
          refine x_then_exit ?_
          refine x_then_exit ?_
          refine x_blk_eq ?_
          refine x_then ?_
          refine C_seq ?_
          refine C_reg ?_
          refine p1 rfl ?_
          refine D_end ?_
          refine x_then ?_
          refine C_ret ?_
          refine R_1 rfl rfl fun w' hs => ⟨congrArg (fun z => Ending.returned (Value.bool z)) ?_, hs.bel⟩
          show (true : Bool) = holdsL r l
          exact holds_y (fun i h => hi i (by omega)) (fun i h => ho i (by omega))

theorem impl_allPlaced (w : World) (v_l : Value) (l : (List Int)) (v_placed : Value) (placed : (List Bool)) (h_l : Gd.rd w [v_l] l) (h_placed : Gd.rd w [v_placed] placed) (hl : asc l (placed.length : Int) = true) : Calls Try.prog 58 [v_l, v_placed].toArray w (Val w (.bool (l.all (lI placed)))) := by
  have hm1 := rd_max h_l
  have hm2 := rd_max h_placed
  refine enter 19 Try.func58 rfl rfl rfl ?_
  refine C_seq ?_
  refine C_reg ?_
  refine p1 rfl ?_
  refine D_end ?_
  refine x_then ?_
  refine C_seq ?_
  refine C_seq ?_
  refine C_reg ?_
  refine p1 rfl ?_
  refine q1 rfl (D_len s_25 rfl rfl (rd_sl h_l)) ?_
  refine p1 rfl ?_
  refine D_end ?_
  refine x_then ?_
  refine C_block ?_
  refine C_loop (fun m_ ac w' => ∃ (k : Nat), (k ≤ l.length) ∧ (∀ i, i < k → ∀ y, l[i]? = some y → lI placed y = true) ∧ m_ = l.length - k ∧ Fits ac 19 [(1, v_placed), (7, v_l), (8, (.int .i64 ((l.length : Nat) : Int))), (9, (.int .i64 ((k : Nat) : Int)))] ∧ St w ([]) w') ?_ ?_
  · refine fun ac w' hf hs => ⟨_, 0, ?_, ?_, rfl, hf.weak ⟨rfl, rfl, rfl, rfl, trivial⟩, hs⟩
    · first | assumption | omega | simp
    · intro i hi; omega
  · rintro m_ ac w' ⟨k, hk, hi, rfl, hf, hs⟩
    refine D.use ?_ hf hs
    clear hf hs ac w'
    refine C_seq ?_
    refine C_reg ?_
    refine p1 rfl ?_
    refine D_end ?_
    refine x_then ?_
    refine C_seq ?_
    refine C_if _ rfl (fun h3 => ?_) (fun h3 => ?_)
    · have pr3 : (((k : Nat) : Int) : Int) < ((l.length : Nat) : Int) := of_decide_eq_true h3
      refine C_skip ?_
      refine x_then ?_
      refine C_seq ?_
      refine C_block ?_
      refine C_seq ?_
      refine C_reg ?_
      obtain ⟨y2, hy2⟩ := some_of_lt (l := l) (i := k) (by omega)
      have hyn := asc_at hl hy2
      obtain ⟨es4, at5, hr6⟩ := rd_elem (n := 1) rfl h_l hy2
      obtain rfl : es4 = [.int .i64 y2] := hr6
      refine q1 rfl (D_ix (l := l) (j := k) s_25 rfl rfl rfl (fun w' hs => (rd_at hs h_l)) rfl (lt_of_some hy2)) ?_
      refine q1 rfl (lr0 o_3 rfl rfl at5 rfl) ?_
      refine p1 rfl ?_
      refine D_end ?_
      refine x_then ?_
      refine C_seq ?_
      refine C_reg ?_
      refine p1 rfl <| p1 rfl ?_
      obtain ⟨z2, hz2⟩ := some_of_lt (l := placed) (i := (y2.toNat)) (by omega)
      obtain ⟨es7, at8, hr9⟩ := rd_elem (n := 1) rfl h_placed hz2
      obtain rfl : es7 = [.bool z2] := hr9
      refine q1 rfl (D_ix (l := placed) (j := (y2.toNat)) s_52 rfl rfl rfl (fun w' hs => (rd_at hs h_placed)) (Int.toNat_of_nonneg (by omega)).symm (lt_of_some hz2)) ?_
      refine q1 rfl (lr0 o_4 rfl rfl at8 rfl) ?_
      refine p1 rfl ?_
      refine D_end ?_
      refine x_then ?_
      refine C_if _ rfl (fun h10 => ?_) (fun h10 => ?_)
      · have h10n : z2 = false := not_t h10
        refine C_seq ?_
        refine C_reg ?_
        refine p1 rfl ?_
        refine D_end ?_
        refine x_then ?_
        refine C_ret ?_
        refine x_blk_ret ?_
        refine x_then_ret ?_
        refine x_then_ret ?_
        refine x_blk_ret ?_
        refine x_then_ret ?_
        refine R_1 rfl rfl fun w' hs => ⟨congrArg (fun z => Ending.returned (Value.bool z)) ?_, hs.bel⟩
        show (false : Bool) = l.all (lI placed)
        exact (all_bad hy2 (by rw [lI_of hz2]; exact h10n)).symm
      · have h10n : z2 = true := not_f h10
        refine C_skip ?_
        refine x_blk ?_
        refine x_then ?_
        refine C_reg ?_
        refine q1 rfl (D_add rfl rfl rfl (r := ((k + 1 : Nat) : Int)) (by omega) (by omega)) ?_
        refine p1 rfl ?_
        refine D_end ?_
        refine x_then ?_
        refine fun ac w' hf hs => ⟨_, ?_, k + 1, ?_, ?_, rfl, hf.weak ⟨rfl, rfl, rfl, rfl, trivial⟩, hs⟩
        · omega
        · first | assumption | omega | simp
        · refine forall_step hi ?_; intro y hy; obtain rfl : y = y2 := Option.some.inj (hy.symm.trans hy2); rw [lI_of hz2]; exact h10n
    · have pr3 : ¬ (((k : Nat) : Int) : Int) < ((l.length : Nat) : Int) := of_decide_eq_false h3
      refine C_exit ?_
      refine x_then_exit ?_
      refine x_then_exit ?_
      refine x_blk_eq ?_
      refine x_then ?_
      refine C_seq ?_
      refine C_reg ?_
      refine p1 rfl ?_
      refine D_end ?_
      refine x_then ?_
      refine C_ret ?_
      refine R_1 rfl rfl fun w' hs => ⟨congrArg (fun z => Ending.returned (Value.bool z)) ?_, hs.bel⟩
      show (true : Bool) = l.all (lI placed)
      exact (all_of_idx (fun i h => hi i (by omega))).symm

set_option maxHeartbeats 4000000 in
theorem impl_IsLabeling (w : World) (c_b : List Value) (b : Beliefs) (v_l : Value) (l : (List Bool)) (h_b : Gd.rd w c_b b) (h_l : Gd.rd w [v_l] l) : Calls Try.prog 31 [(.agg c_b.toArray), v_l].toArray w (Val w (.bool (isLab b l))) := by
  obtain ⟨u1, rfl, hu2⟩ := open_Beliefs h_b
  have hm3 := rd_max hu2
  have hm4 := rd_max h_l
  refine enter 98 Try.func31 rfl rfl rfl ?_
  refine C_seq ?_
  refine C_reg ?_
  refine li rfl (D_box rfl rfl rfl rfl rfl fun g5 => ?_)
  refine p1 rfl ?_
  refine D_end ?_
  refine x_then ?_
  refine D_H ([bx g5 [(.int .i64 b.Nodes), u1]]) rfl ?_
  refine C_seq ?_
  refine C_seq ?_
  refine C_reg ?_
  refine q1 rfl (lbw 0 a_29 rfl rfl rfl) ?_
  refine li rfl (cv b_46 rfl rfl rfl rfl (fun w' hs => (impl_IsBeliefs w' [(.int .i64 b.Nodes), u1] b (rd_at hs h_b))) ?_)
  refine p1 rfl <| p1 rfl ?_
  refine gs 15 rfl rfl (fun h6 => ?_) (fun h6 => ?_)
  · have h6n : (isBeliefs b) = false := not_t h6
    refine n1 rfl ?_
    refine n1 rfl ?_
    refine n1 rfl ?_
    refine n1 rfl ?_
    refine n1 rfl ?_
    refine p1 rfl ?_
    refine D_end ?_
    refine x_then ?_
    refine C_t rfl ?_
    refine C_seq ?_
    refine C_reg ?_
    refine p1 rfl ?_
    refine D_end ?_
    refine x_then ?_
    refine C_ret ?_
    refine x_then_ret ?_
    refine R_1 rfl rfl fun w' hs => ⟨congrArg (fun z => Ending.returned (Value.bool z)) ?_, hs.bel⟩
    show (false : Bool) = isLab b l
    exact lab_n1 (by assumption)
  · have h6n : (isBeliefs b) = true := not_f h6
    refine p1 rfl ?_
    refine q1 rfl (D_len s_52 rfl rfl (rd_sl h_l)) ?_
    refine q1 rfl (D_fb f_29_0 rfl rfl (q := 0) rfl) ?_
    refine q1 rfl (lb 0 o_3 rfl rfl rfl rfl) ?_
    refine p1 rfl <| p1 rfl ?_
    refine D_end ?_
    refine x_then ?_
    refine C_if _ rfl (fun h7 => ?_) (fun h7 => ?_)
    · have pr7 : (((l.length : Nat) : Int) : Int) ≠ b.Nodes := bne_iff_ne.1 h7
      refine C_seq ?_
      refine C_reg ?_
      refine p1 rfl ?_
      refine D_end ?_
      refine x_then ?_
      refine C_ret ?_
      refine x_then_ret ?_
      refine R_1 rfl rfl fun w' hs => ⟨congrArg (fun z => Ending.returned (Value.bool z)) ?_, hs.bel⟩
      show (false : Bool) = isLab b l
      exact lab_n2 (by omega)
    · have pr7 : (((l.length : Nat) : Int) : Int) = b.Nodes := eq_of_bne_f h7
      refine C_skip ?_
      refine x_then ?_
      refine C_seq ?_
      refine C_seq ?_
      have hib : isBeliefs b = true := by assumption
      have ho := isB_ok2 hib
      have hbn := okB_nodes ho
      obtain ⟨n, hn⟩ : ∃ n : Nat, b.Nodes = (n : Int) := ⟨b.Nodes.toNat, by omega⟩
      have hll : ((l.length : Nat) : Int) = b.Nodes := by omega
      refine C_reg ?_
      refine q1 rfl (D_fb f_29_1 rfl rfl (q := 1) rfl) ?_
      refine q1 rfl (lb 0 o_27 rfl rfl rfl rfl) ?_
      refine q1 rfl (D_len s_27 rfl rfl (rd_sl hu2)) ?_
      refine p1 rfl ?_
      refine D_end ?_
      refine x_then ?_
      refine C_block ?_
      refine C_loop (fun m_ ac w' => ∃ (k : Nat), (k ≤ b.Reasons.length) ∧ (∀ i, i < k → ∀ r, b.Reasons[i]? = some r → holdsL r l = true → atB l r.For.toNat = true) ∧ m_ = b.Reasons.length - k ∧ Fits ac 98 [(1, v_l), (2, (.pointer (some ⟨g5, 0, none⟩))), (23, u1), (24, (.int .i64 ((b.Reasons.length : Nat) : Int))), (25, (.int .i64 ((k : Nat) : Int)))] ∧ St w ([bx g5 [(.int .i64 b.Nodes), u1]]) w') ?_ ?_
      · refine fun ac w' hf hs => ⟨_, 0, ?_, ?_, rfl, hf.weak ⟨rfl, rfl, rfl, rfl, rfl, trivial⟩, hs⟩
        · first | assumption | omega | simp
        · intro i hi; omega
      · rintro m_ ac w' ⟨k, hk, hi, rfl, hf, hs⟩
        refine D.use ?_ hf hs
        clear hf hs ac w'
        refine C_seq ?_
        refine C_reg ?_
        refine p1 rfl ?_
        refine D_end ?_
        refine x_then ?_
        refine C_seq ?_
        refine C_if _ rfl (fun h8 => ?_) (fun h8 => ?_)
        · have pr8 : (((k : Nat) : Int) : Int) < ((b.Reasons.length : Nat) : Int) := of_decide_eq_true h8
          refine C_skip ?_
          refine x_then ?_
          refine C_seq ?_
          refine C_block ?_
          refine C_seq ?_
          refine C_reg ?_
          obtain ⟨r0, hr0⟩ := some_of_lt (l := b.Reasons) (i := k) (by omega)
          have hv0 := okB_r ho hr0
          have hF := isR_for hv0
          obtain ⟨es9, at10, hr11⟩ := rd_elem (n := 3) rfl hu2 hr0
          obtain ⟨u12, u14, rfl, hu13, hu15⟩ := open_Reason hr11
          have hm16 := rd_max hu13
          have hm17 := rd_max hu15
          refine q1 rfl (D_ix (l := b.Reasons) (j := k) s_27 rfl rfl rfl (fun w' hs => (rd_at hs hu2)) rfl (lt_of_some hr0)) ?_
          refine q1 rfl (lra a_45 rfl rfl at10) ?_
          refine li rfl (D_alloc y_45 rfl rfl rfl rfl fun g18 => ?_)
          refine li rfl (D_stb (vs := [(.int .i64 r0.For), u12, u14]) (cs' := [(.int .i64 r0.For), u12, u14]) 0 z_45 rfl rfl rfl rfl rfl rfl (ocons rfl (ocons (one_rd hu13) (ocons (one_rd hu15) onil))) (by simp) rfl ?_)
          refine D_end ?_
          refine x_then ?_
          refine D_H ([bx g18 [(.int .i64 r0.For), u12, u14], bx g5 [(.int .i64 b.Nodes), u1]]) rfl ?_
          refine C_seq ?_
          refine C_reg ?_
          refine p1 rfl ?_
          refine q1 rfl (D_fb f_45_0 rfl rfl (q := 0) rfl) ?_
          refine q1 rfl (lb 0 o_3 rfl rfl rfl rfl) ?_
          obtain ⟨v0, hv1⟩ := some_of_lt (l := l) (i := (r0.For.toNat)) (by omega)
          obtain ⟨es19, at20, hr21⟩ := rd_elem (n := 1) rfl h_l hv1
          obtain rfl : es19 = [.bool v0] := hr21
          refine q1 rfl (D_ix (l := l) (j := (r0.For.toNat)) s_52 rfl rfl rfl (fun w' hs => (rd_at hs h_l)) (Int.toNat_of_nonneg (by omega)).symm (lt_of_some hv1)) ?_
          refine q1 rfl (lr0 o_4 rfl rfl at20 rfl) ?_
          refine p1 rfl <| p1 rfl ?_
          refine gs 35 rfl rfl (fun h22 => ?_) (fun h22 => ?_)
          · have h22n : v0 = false := not_t h22
            refine q1 rfl (lbw 0 a_45 rfl rfl rfl) ?_
            refine p1 rfl ?_
            refine li rfl (cv b_57 rfl rfl rfl rfl (fun w' hs => (impl_holds w' [(.int .i64 r0.For), u12, u14] r0 v_l l (rd_at hs hr11) (rd_at hs h_l) (by rw [hll]; exact hv0))) ?_)
            refine p1 rfl ?_
            refine D_end ?_
            refine x_then ?_
            refine C_if _ rfl (fun h23 => ?_) (fun h23 => ?_)
            · refine C_seq ?_
              refine C_reg ?_
              refine p1 rfl ?_
              refine D_end ?_
              refine x_then ?_
              refine D_weak [(4, (.bool false))] ⟨rfl, trivial⟩ ?_
              refine D_sel (H' := [bx g5 [(.int .i64 b.Nodes), u1]]) [false, true] rfl ?_
              refine C_ret ?_
              refine x_blk_ret ?_
              refine x_then_ret ?_
              refine x_then_ret ?_
              refine x_blk_ret ?_
              refine x_then_ret ?_
              refine R_1 rfl rfl fun w' hs => ⟨congrArg (fun z => Ending.returned (Value.bool z)) ?_, hs.bel⟩
              show (false : Bool) = isLab b l
              exact lab_n3 hr0 (by assumption) hv1 (not_t (by assumption))
            · refine C_skip ?_
              refine x_blk ?_
              refine x_then ?_
              refine D_weak [(1, v_l), (2, (.pointer (some ⟨g5, 0, none⟩))), (23, u1), (24, (.int .i64 ((b.Reasons.length : Nat) : Int))), (25, (.int .i64 ((k : Nat) : Int)))] ⟨rfl, rfl, rfl, rfl, rfl, trivial⟩ ?_
              refine D_sel (H' := [bx g5 [(.int .i64 b.Nodes), u1]]) [false, true] rfl ?_
              refine C_reg ?_
              refine q1 rfl (D_add rfl rfl rfl (r := ((k + 1 : Nat) : Int)) (by omega) (by omega)) ?_
              refine p1 rfl ?_
              refine D_end ?_
              refine x_then ?_
              refine fun ac w' hf hs => ⟨_, ?_, k + 1, ?_, ?_, rfl, hf.weak ⟨rfl, rfl, rfl, rfl, rfl, trivial⟩, hs⟩
              · omega
              · first | assumption | omega | simp
              · refine forall_step hi ?_; intro r hr hh; obtain rfl : r = r0 := Option.some.inj (hr.symm.trans hr0); first | (rw [atB_of hv1]; exact not_f (by assumption)) | (rw [hh] at h23; cases h23)
          · have h22n : v0 = true := not_f h22
            refine n1 rfl ?_
            refine n1 rfl ?_
            refine n1 rfl ?_
            refine p1 rfl ?_
            refine D_end ?_
            refine x_then ?_
            refine C_f rfl ?_
            refine C_skip ?_
            refine x_blk ?_
            refine x_then ?_
            refine D_weak [(1, v_l), (2, (.pointer (some ⟨g5, 0, none⟩))), (23, u1), (24, (.int .i64 ((b.Reasons.length : Nat) : Int))), (25, (.int .i64 ((k : Nat) : Int)))] ⟨rfl, rfl, rfl, rfl, rfl, trivial⟩ ?_
            refine D_sel (H' := [bx g5 [(.int .i64 b.Nodes), u1]]) [false, true] rfl ?_
            refine C_reg ?_
            refine q1 rfl (D_add rfl rfl rfl (r := ((k + 1 : Nat) : Int)) (by omega) (by omega)) ?_
            refine p1 rfl ?_
            refine D_end ?_
            refine x_then ?_
            refine fun ac w' hf hs => ⟨_, ?_, k + 1, ?_, ?_, rfl, hf.weak ⟨rfl, rfl, rfl, rfl, rfl, trivial⟩, hs⟩
            · omega
            · first | assumption | omega | simp
            · refine forall_step hi ?_; intro r hr hh; obtain rfl : r = r0 := Option.some.inj (hr.symm.trans hr0); first | (rw [atB_of hv1]; exact not_f (by assumption)) | (rw [hh] at h22; cases h22)
        · have pr8 : ¬ (((k : Nat) : Int) : Int) < ((b.Reasons.length : Nat) : Int) := of_decide_eq_false h8
          refine C_exit ?_
          refine x_then_exit ?_
          refine x_then_exit ?_
          refine x_blk_eq ?_
          refine x_then ?_
          refine C_seq ?_
          refine C_reg ?_
          refine q1 rfl (D_fb f_29_0 rfl rfl (q := 0) rfl) ?_
          refine q1 rfl (lb 0 o_3 rfl rfl rfl rfl) ?_
          refine li rfl (D_mk (α := Bool) (z := false) s_52 y_4 rfl (congrArg (fun z => some (Value.int .i64 z)) hn) rfl rfl (by omega) (by omega) fun v24 => ?_)
          refine D_eq 0 rfl (vec_rep _ _) ?_
          refine p1 rfl ?_
          refine D_end ?_
          refine x_then ?_
          refine D_H ([ov [v24] (vec n (fun _ => false) : (List Bool)), bx g5 [(.int .i64 b.Nodes), u1]]) rfl ?_
          refine C_seq ?_
          refine C_seq ?_
          have hA := labA_of (fun i h => hi i (by omega))
          refine C_reg ?_
          refine p1 rfl ?_
          refine D_end ?_
          refine x_then ?_
          refine C_block ?_
          refine C_loop (fun m_ ac w' => ∃ (more : Bool), ∃ (ga : Nat → Bool), (LabS b l ga) ∧ (more = false → LabC b l ga) ∧ m_ = 2 * (n - cnt n ga) + (if more then 1 else 0) ∧ Fits ac 98 [(1, v_l), (2, (.pointer (some ⟨g5, 0, none⟩))), (7, v24), (8, (.bool more))] ∧ St w ([ov [v24] (vec n ga : (List Bool)), bx g5 [(.int .i64 b.Nodes), u1]]) w') ?_ ?_
          · refine fun ac w' hf hs => ⟨_, true, (fun _ => false), ?_, ?_, rfl, hf.weak ⟨rfl, rfl, rfl, rfl, trivial⟩, hs⟩
            · exact LabS.zero b l
            · intro e; cases e
          · rintro m_ ac w' ⟨more, ga, hG, hC, rfl, hf, hs⟩
            refine D.use ?_ hf hs
            clear hf hs ac w'
            refine C_seq ?_
            refine C_seq ?_
            refine C_reg ?_
            refine p1 rfl ?_
            refine D_end ?_
            refine x_then ?_
            refine D_H ([ov [v24] (vec n ga : (List Bool)), bx g5 [(.int .i64 b.Nodes), u1]]) rfl ?_
            refine C_if _ rfl (fun h25 => ?_) (fun h25 => ?_)
            · refine C_skip ?_
              refine x_then ?_
              refine C_block ?_
              refine C_seq ?_
              refine C_reg ?_
              refine p1 rfl ?_
              refine D_end ?_
              refine x_then ?_
              refine C_seq ?_
              refine C_reg ?_
              refine q1 rfl (D_fb f_29_1 rfl rfl (q := 1) rfl) ?_
              refine q1 rfl (lb 1 o_27 rfl rfl rfl rfl) ?_
              refine q1 rfl (D_len s_27 rfl rfl (rd_sl hu2)) ?_
              refine p1 rfl ?_
              refine D_end ?_
              refine x_then ?_
              refine C_block ?_
              refine C_loop (fun m_ ac w' => ∃ (k2 : Nat), ∃ (more2 : Bool), ∃ (gb : Nat → Bool), (k2 ≤ b.Reasons.length) ∧ (LabS b l gb) ∧ (LabE b l ga gb more2 k2 n) ∧ m_ = b.Reasons.length - k2 ∧ Fits ac 98 [(1, v_l), (2, (.pointer (some ⟨g5, 0, none⟩))), (7, v24), (8, (.bool more2)), (46, u1), (47, (.int .i64 ((b.Reasons.length : Nat) : Int))), (48, (.int .i64 ((k2 : Nat) : Int)))] ∧ St w ([ov [v24] (vec n gb : (List Bool)), bx g5 [(.int .i64 b.Nodes), u1]]) w') ?_ ?_
              · refine fun ac w' hf hs => ⟨_, 0, false, ga, ?_, ?_, ?_, rfl, hf.weak ⟨rfl, rfl, rfl, rfl, rfl, rfl, rfl, trivial⟩, hs⟩
                · first | assumption | omega | simp
                · first | assumption | omega | simp
                · exact LabE.zero b l ga n
              · rintro m_ ac w' ⟨k2, more2, gb, hk2, hG2, hE, rfl, hf, hs⟩
                refine D.use ?_ hf hs
                clear hf hs ac w'
                refine C_seq ?_
                refine C_reg ?_
                refine p1 rfl ?_
                refine D_end ?_
                refine x_then ?_
                refine D_H ([ov [v24] (vec n gb : (List Bool)), bx g5 [(.int .i64 b.Nodes), u1]]) rfl ?_
                refine C_seq ?_
                refine C_if _ rfl (fun h26 => ?_) (fun h26 => ?_)
                · have pr26 : (((k2 : Nat) : Int) : Int) < ((b.Reasons.length : Nat) : Int) := of_decide_eq_true h26
                  refine C_skip ?_
                  refine x_then ?_
                  refine C_seq ?_
                  refine C_block ?_
                  refine C_seq ?_
                  refine C_reg ?_
                  obtain ⟨r1, hr1⟩ := some_of_lt (l := b.Reasons) (i := k2) (by omega)
                  have hv0 := okB_r ho hr1
                  have hF := isR_for hv0
                  obtain ⟨es27, at28, hr29⟩ := rd_elem (n := 3) rfl hu2 hr1
                  obtain ⟨u30, u33, rfl, hu31, hu34⟩ := open_Reason hr29
                  have hm35 := rd_max hu31
                  have hm36 := rd_max hu34
                  refine q1 rfl (D_ix (l := b.Reasons) (j := k2) s_27 rfl rfl rfl (fun w' hs => (rd_at hs hu2)) rfl (lt_of_some hr1)) ?_
                  refine q1 rfl (lra a_45 rfl rfl at28) ?_
                  refine li rfl (D_alloc y_45 rfl rfl rfl rfl fun g37 => ?_)
                  refine li rfl (D_stb (vs := [(.int .i64 r1.For), u30, u33]) (cs' := [(.int .i64 r1.For), u30, u33]) 0 z_45 rfl rfl rfl rfl rfl rfl (ocons rfl (ocons (one_rd hu31) (ocons (one_rd hu34) onil))) (by simp) rfl ?_)
                  refine D_end ?_
                  refine x_then ?_
                  refine D_H ([bx g37 [(.int .i64 r1.For), u30, u33], ov [v24] (vec n gb : (List Bool)), bx g5 [(.int .i64 b.Nodes), u1]]) rfl ?_
                  refine C_seq ?_
                  refine C_reg ?_
                  refine p1 rfl ?_
                  refine q1 rfl (D_fb f_45_0 rfl rfl (q := 0) rfl) ?_
                  refine q1 rfl (lb 0 o_3 rfl rfl rfl rfl) ?_
                  obtain ⟨v1, hv2⟩ := some_of_lt (l := l) (i := (r1.For.toNat)) (by omega)
                  obtain ⟨es38, at39, hr40⟩ := rd_elem (n := 1) rfl h_l hv2
                  obtain rfl : es38 = [.bool v1] := hr40
                  refine q1 rfl (D_ix (l := l) (j := (r1.For.toNat)) s_52 rfl rfl rfl (fun w' hs => (rd_at hs h_l)) (Int.toNat_of_nonneg (by omega)).symm (lt_of_some hv2)) ?_
                  refine q1 rfl (lr0 o_4 rfl rfl at39 rfl) ?_
                  refine p1 rfl ?_
                  refine gs 57 rfl rfl (fun h41 => ?_) (fun h41 => ?_)
                  · refine p1 rfl ?_
                    refine q1 rfl (D_fb f_45_0 rfl rfl (q := 0) rfl) ?_
                    refine q1 rfl (lb 0 o_3 rfl rfl rfl rfl) ?_
                    have hx43 : (vec n gb)[(r1.For.toNat)]? = some (gb (r1.For.toNat)) := vec_get (by omega)
                    refine q1 rfl (D_ix (l := (vec n gb)) (j := (r1.For.toNat)) s_52 rfl rfl rfl (fun w' hs => (rd_own (k := 1) hs rfl)) (Int.toNat_of_nonneg (by omega)).symm (lt_of_some hx43)) ?_
                    refine q1 rfl (lo (α := Bool) 1 o_4 rfl rfl rfl hx43) ?_
                    refine p1 rfl <| p1 rfl <| p1 rfl ?_
                    refine gs 65 rfl rfl (fun h44 => ?_) (fun h44 => ?_)
                    · have h44n : (gb (r1.For.toNat)) = false := not_t h44
                      refine q1 rfl (lbw 0 a_45 rfl rfl rfl) ?_
                      refine p1 rfl ?_
                      refine li rfl (cv b_57 rfl rfl rfl rfl (fun w' hs => (impl_holds w' [(.int .i64 r1.For), u30, u33] r1 v_l l (rd_at hs hr29) (rd_at hs h_l) (by rw [hll]; exact hv0))) ?_)
                      refine p1 rfl <| p1 rfl ?_
                      refine gs 70 rfl rfl (fun h45 => ?_) (fun h45 => ?_)
                      · refine q1 rfl (D_fb f_45_1 rfl rfl (q := 1) rfl) ?_
                        refine q1 rfl (lb 0 o_25 rfl rfl rfl rfl) ?_
                        refine p1 rfl ?_
                        refine li rfl (cv b_58 rfl rfl rfl rfl (fun w' hs => (impl_allPlaced w' u30 r1.In v24 (vec n gb) (rd_at hs hu31) (rd_own (k := 1) hs rfl) (by rw [vec_len, ← hn]; exact isR_in hv0))) ?_)
                        refine p1 rfl ?_
                        refine D_end ?_
                        refine x_then ?_
                        refine D_weak [(1, v_l), (2, (.pointer (some ⟨g5, 0, none⟩))), (7, v24), (8, (.bool more2)), (10, (.pointer (some ⟨g37, 0, none⟩))), (46, u1), (47, (.int .i64 ((b.Reasons.length : Nat) : Int))), (48, (.int .i64 ((k2 : Nat) : Int))), (75, (.bool (r1.In.all (lI (vec n gb)))))] ⟨rfl, rfl, rfl, rfl, rfl, rfl, rfl, rfl, rfl, trivial⟩ ?_
                        refine C_if _ rfl (fun h46 => ?_) (fun h46 => ?_)
                        · refine C_seq ?_
                          refine C_reg ?_
                          refine p1 rfl ?_
                          refine q1 rfl (D_fb f_45_0 rfl rfl (q := 0) rfl) ?_
                          refine q1 rfl (lb 0 o_3 rfl rfl rfl rfl) ?_
                          refine q1 rfl (D_ix (l := (vec n gb)) (j := (r1.For.toNat)) s_52 rfl rfl rfl (fun w' hs => (rd_own (k := 1) hs rfl)) (Int.toNat_of_nonneg (by omega)).symm (lt_of_some hx43)) ?_
                          refine li rfl (so (α := Bool) (z := true) 1 z_4 rfl rfl rfl rfl rfl (lt_of_some hx43) ?_)
                          refine D_eq 1 rfl (vec_set _ _ _ _) ?_
                          refine D_end ?_
                          refine x_then ?_
                          refine D_H ([bx g37 [(.int .i64 r1.For), u30, u33], ov [v24] (vec n (upd gb (r1.For.toNat) true) : (List Bool)), bx g5 [(.int .i64 b.Nodes), u1]]) rfl ?_
                          refine C_reg ?_
                          refine p1 rfl ?_
                          refine D_end ?_
                          refine x_blk ?_
                          refine x_then ?_
                          refine C_reg ?_
                          refine q1 rfl (D_add rfl rfl rfl (r := ((k2 + 1 : Nat) : Int)) (by omega) (by omega)) ?_
                          refine p1 rfl ?_
                          refine D_end ?_
                          refine x_then ?_
                          refine fun ac w' hf hs => ⟨_, ?_, k2 + 1, true, (upd gb (r1.For.toNat) true), ?_, ?_, ?_, rfl, hf.weak ⟨rfl, rfl, rfl, rfl, rfl, rfl, rfl, trivial⟩, hs.pk [1, 2] rfl rfl⟩
                          · omega
                          · first | assumption | omega | simp
                          · first | exact hG2 | exact hG2.set (fun _ => Pl.of hG2 hr1 (by assumption) (by rw [← hn]; exact isR_in hv0) (by assumption))
                          · first | exact hE.keep hr1 (labR_1 hA hr1 hv2 (by assumption)) | exact hE.keep hr1 (labR_2 (not_f (by assumption))) | exact hE.keep hr1 (labR_3 (by assumption)) | exact hE.keep hr1 (labR_4 (n := n) (by rw [← hn]; exact isR_in hv0) (by assumption)) | exact hE.up (by omega) (not_t (by assumption)) _
                        · refine C_skip ?_
                          refine x_blk ?_
                          refine x_then ?_
                          refine C_reg ?_
                          refine q1 rfl (D_add rfl rfl rfl (r := ((k2 + 1 : Nat) : Int)) (by omega) (by omega)) ?_
                          refine p1 rfl ?_
                          refine D_end ?_
                          refine x_then ?_
                          refine fun ac w' hf hs => ⟨_, ?_, k2 + 1, more2, gb, ?_, ?_, ?_, rfl, hf.weak ⟨rfl, rfl, rfl, rfl, rfl, rfl, rfl, trivial⟩, hs.pk [1, 2] rfl rfl⟩
                          · omega
                          · first | assumption | omega | simp
                          · first | exact hG2 | exact hG2.set (fun _ => Pl.of hG2 hr1 (by assumption) (by rw [← hn]; exact isR_in hv0) (by assumption))
                          · first | exact hE.keep hr1 (labR_1 hA hr1 hv2 (by assumption)) | exact hE.keep hr1 (labR_2 (not_f (by assumption))) | exact hE.keep hr1 (labR_3 (by assumption)) | exact hE.keep hr1 (labR_4 (n := n) (by rw [← hn]; exact isR_in hv0) (by assumption)) | exact hE.up (by omega) (not_t (by assumption)) _
                      · refine n1 rfl ?_
                        refine n1 rfl ?_
                        refine n1 rfl ?_
                        refine n1 rfl ?_
                        refine p1 rfl ?_
                        refine D_end ?_
                        refine x_then ?_
                        refine D_weak [(1, v_l), (2, (.pointer (some ⟨g5, 0, none⟩))), (7, v24), (8, (.bool more2)), (10, (.pointer (some ⟨g37, 0, none⟩))), (46, u1), (47, (.int .i64 ((b.Reasons.length : Nat) : Int))), (48, (.int .i64 ((k2 : Nat) : Int))), (75, (.bool false))] ⟨rfl, rfl, rfl, rfl, rfl, rfl, rfl, rfl, rfl, trivial⟩ ?_
                        refine C_f rfl ?_
                        refine C_skip ?_
                        refine x_blk ?_
                        refine x_then ?_
                        refine C_reg ?_
                        refine q1 rfl (D_add rfl rfl rfl (r := ((k2 + 1 : Nat) : Int)) (by omega) (by omega)) ?_
                        refine p1 rfl ?_
                        refine D_end ?_
                        refine x_then ?_
                        refine fun ac w' hf hs => ⟨_, ?_, k2 + 1, more2, gb, ?_, ?_, ?_, rfl, hf.weak ⟨rfl, rfl, rfl, rfl, rfl, rfl, rfl, trivial⟩, hs.pk [1, 2] rfl rfl⟩
                        · omega
                        · first | assumption | omega | simp
                        · first | exact hG2 | exact hG2.set (fun _ => Pl.of hG2 hr1 (by assumption) (by rw [← hn]; exact isR_in hv0) (by assumption))
                        · first | exact hE.keep hr1 (labR_1 hA hr1 hv2 (by assumption)) | exact hE.keep hr1 (labR_2 (not_f (by assumption))) | exact hE.keep hr1 (labR_3 (by assumption)) | exact hE.keep hr1 (labR_4 (n := n) (by rw [← hn]; exact isR_in hv0) (by assumption)) | exact hE.up (by omega) (not_t (by assumption)) _
                    · have h44n : (gb (r1.For.toNat)) = true := not_f h44
                      refine n1 rfl ?_
                      refine n1 rfl ?_
                      refine n1 rfl ?_
                      refine p1 rfl <| p1 rfl ?_
                      refine n1 rfl ?_
                      refine n1 rfl ?_
                      refine n1 rfl ?_
                      refine n1 rfl ?_
                      refine p1 rfl ?_
                      refine D_end ?_
                      refine x_then ?_
                      refine D_weak [(1, v_l), (2, (.pointer (some ⟨g5, 0, none⟩))), (7, v24), (8, (.bool more2)), (10, (.pointer (some ⟨g37, 0, none⟩))), (46, u1), (47, (.int .i64 ((b.Reasons.length : Nat) : Int))), (48, (.int .i64 ((k2 : Nat) : Int))), (75, (.bool false))] ⟨rfl, rfl, rfl, rfl, rfl, rfl, rfl, rfl, rfl, trivial⟩ ?_
                      refine C_f rfl ?_
                      refine C_skip ?_
                      refine x_blk ?_
                      refine x_then ?_
                      refine C_reg ?_
                      refine q1 rfl (D_add rfl rfl rfl (r := ((k2 + 1 : Nat) : Int)) (by omega) (by omega)) ?_
                      refine p1 rfl ?_
                      refine D_end ?_
                      refine x_then ?_
                      refine fun ac w' hf hs => ⟨_, ?_, k2 + 1, more2, gb, ?_, ?_, ?_, rfl, hf.weak ⟨rfl, rfl, rfl, rfl, rfl, rfl, rfl, trivial⟩, hs.pk [1, 2] rfl rfl⟩
                      · omega
                      · first | assumption | omega | simp
                      · first | exact hG2 | exact hG2.set (fun _ => Pl.of hG2 hr1 (by assumption) (by rw [← hn]; exact isR_in hv0) (by assumption))
                      · first | exact hE.keep hr1 (labR_1 hA hr1 hv2 (by assumption)) | exact hE.keep hr1 (labR_2 (not_f (by assumption))) | exact hE.keep hr1 (labR_3 (by assumption)) | exact hE.keep hr1 (labR_4 (n := n) (by rw [← hn]; exact isR_in hv0) (by assumption)) | exact hE.up (by omega) (not_t (by assumption)) _
                  · refine n1 rfl ?_
                    refine n1 rfl ?_
                    refine n1 rfl ?_
                    refine n1 rfl ?_
                    refine n1 rfl ?_
                    refine n1 rfl ?_
                    refine p1 rfl <| p1 rfl ?_
                    refine n1 rfl ?_
                    refine n1 rfl ?_
                    refine n1 rfl ?_
                    refine p1 rfl <| p1 rfl ?_
                    refine n1 rfl ?_
                    refine n1 rfl ?_
                    refine n1 rfl ?_
                    refine n1 rfl ?_
                    refine p1 rfl ?_
                    refine D_end ?_
                    refine x_then ?_
                    refine D_weak [(1, v_l), (2, (.pointer (some ⟨g5, 0, none⟩))), (7, v24), (8, (.bool more2)), (10, (.pointer (some ⟨g37, 0, none⟩))), (46, u1), (47, (.int .i64 ((b.Reasons.length : Nat) : Int))), (48, (.int .i64 ((k2 : Nat) : Int))), (75, (.bool false))] ⟨rfl, rfl, rfl, rfl, rfl, rfl, rfl, rfl, rfl, trivial⟩ ?_
                    refine C_f rfl ?_
                    refine C_skip ?_
                    refine x_blk ?_
                    refine x_then ?_
                    refine C_reg ?_
                    refine q1 rfl (D_add rfl rfl rfl (r := ((k2 + 1 : Nat) : Int)) (by omega) (by omega)) ?_
                    refine p1 rfl ?_
                    refine D_end ?_
                    refine x_then ?_
                    refine fun ac w' hf hs => ⟨_, ?_, k2 + 1, more2, gb, ?_, ?_, ?_, rfl, hf.weak ⟨rfl, rfl, rfl, rfl, rfl, rfl, rfl, trivial⟩, hs.pk [1, 2] rfl rfl⟩
                    · omega
                    · first | assumption | omega | simp
                    · first | exact hG2 | exact hG2.set (fun _ => Pl.of hG2 hr1 (by assumption) (by rw [← hn]; exact isR_in hv0) (by assumption))
                    · first | exact hE.keep hr1 (labR_1 hA hr1 hv2 (by assumption)) | exact hE.keep hr1 (labR_2 (not_f (by assumption))) | exact hE.keep hr1 (labR_3 (by assumption)) | exact hE.keep hr1 (labR_4 (n := n) (by rw [← hn]; exact isR_in hv0) (by assumption)) | exact hE.up (by omega) (not_t (by assumption)) _
                · have pr26 : ¬ (((k2 : Nat) : Int) : Int) < ((b.Reasons.length : Nat) : Int) := of_decide_eq_false h26
                  refine C_exit ?_
                  refine x_then_exit ?_
                  refine x_then_exit ?_
                  refine x_blk_eq ?_
                  refine x_blk ?_
                  refine x_then ?_
                  refine fun ac w' hf hs => ⟨_, ?_, more2, gb, ?_, ?_, rfl, hf.weak ⟨rfl, rfl, rfl, rfl, trivial⟩, hs⟩
                  · rw [show more = true by assumption, if_pos rfl]; have e1 := hE.1; have e3 := cnt_le n gb; cases hmm : more2 with | true => (have e2 := hE.2.1 hmm; rw [if_pos rfl]; omega) | false => (rw [if_neg (by simp)]; omega)
                  · exact hG2
                  · exact hE.clo (by omega)
            · refine C_exit ?_
              refine x_then_exit ?_
              refine x_then_exit ?_
              refine x_blk_eq ?_
              refine x_then ?_
              refine C_seq ?_
              refine C_seq ?_
              refine C_reg ?_
              refine p1 rfl ?_
              refine q1 rfl (D_len s_52 rfl rfl (rd_sl h_l)) ?_
              refine p1 rfl ?_
              refine D_end ?_
              refine x_then ?_
              refine C_block ?_
              refine C_loop (fun m_ ac w' => ∃ (x : Nat), (x ≤ l.length) ∧ (∀ i, i < x → atB l i = true → Pl b l i) ∧ m_ = l.length - x ∧ Fits ac 98 [(1, v_l), (7, v24), (82, (.int .i64 ((l.length : Nat) : Int))), (83, (.int .i64 ((x : Nat) : Int)))] ∧ St w ([ov [v24] (vec n ga : (List Bool)), bx g5 [(.int .i64 b.Nodes), u1]]) w') ?_ ?_
              · refine fun ac w' hf hs => ⟨_, 0, ?_, ?_, rfl, hf.weak ⟨rfl, rfl, rfl, rfl, trivial⟩, hs⟩
                · first | assumption | omega | simp
                · intro i hi; omega
              · rintro m_ ac w' ⟨x, hx, hX, rfl, hf, hs⟩
                refine D.use ?_ hf hs
                clear hf hs ac w'
                refine C_seq ?_
                refine C_reg ?_
                refine p1 rfl ?_
                refine D_end ?_
                refine x_then ?_
                refine C_seq ?_
                refine C_if _ rfl (fun h47 => ?_) (fun h47 => ?_)
                · have pr47 : (((x : Nat) : Int) : Int) < ((l.length : Nat) : Int) := of_decide_eq_true h47
                  refine C_skip ?_
                  refine x_then ?_
                  refine C_seq ?_
                  refine C_block ?_
                  refine C_seq ?_
                  refine C_reg ?_
                  refine p1 rfl <| p1 rfl ?_
                  refine D_end ?_
                  refine x_then ?_
                  refine C_seq ?_
                  refine C_reg ?_
                  refine p1 rfl <| p1 rfl ?_
                  obtain ⟨v3, hv3⟩ := some_of_lt (l := l) (i := x) (by omega)
                  obtain ⟨es48, at49, hr50⟩ := rd_elem (n := 1) rfl h_l hv3
                  obtain rfl : es48 = [.bool v3] := hr50
                  refine q1 rfl (D_ix (l := l) (j := x) s_52 rfl rfl rfl (fun w' hs => (rd_at hs h_l)) rfl (lt_of_some hv3)) ?_
                  refine q1 rfl (lr0 o_4 rfl rfl at49 rfl) ?_
                  refine p1 rfl ?_
                  refine gs 90 rfl rfl (fun h51 => ?_) (fun h51 => ?_)
                  · refine p1 rfl <| p1 rfl ?_
                    have hx53 : (vec n ga)[x]? = some (ga x) := vec_get (by omega)
                    refine q1 rfl (D_ix (l := (vec n ga)) (j := x) s_52 rfl rfl rfl (fun w' hs => (rd_own (k := 0) hs rfl)) rfl (lt_of_some hx53)) ?_
                    refine q1 rfl (lo (α := Bool) 0 o_4 rfl rfl rfl hx53) ?_
                    refine p1 rfl <| p1 rfl ?_
                    refine D_end ?_
                    refine x_then ?_
                    refine C_if _ rfl (fun h54 => ?_) (fun h54 => ?_)
                    · have h54n : (ga x) = false := not_t h54
                      refine C_seq ?_
                      refine C_reg ?_
                      refine p1 rfl ?_
                      refine D_end ?_
                      refine x_then ?_
                      refine D_weak [(4, (.bool false))] ⟨rfl, trivial⟩ ?_
                      refine C_ret ?_
                      refine x_blk_ret ?_
                      refine x_then_ret ?_
                      refine x_then_ret ?_
                      refine x_blk_ret ?_
                      refine x_then_ret ?_
                      refine R_1 rfl rfl fun w' hs => ⟨congrArg (fun z => Ending.returned (Value.bool z)) ?_, hs.bel⟩
                      show (false : Bool) = isLab b l
                      exact lab_n4 (x := x) (by omega) (by rw [atB_of hv3]; assumption) (fun hp => by have hq := (hC (by assumption)).all _ hp; rw [hq] at h54; cases h54)
                    · have h54n : (ga x) = true := not_f h54
                      refine C_skip ?_
                      refine x_blk ?_
                      refine x_then ?_
                      refine C_reg ?_
                      refine q1 rfl (D_add rfl rfl rfl (r := ((x + 1 : Nat) : Int)) (by omega) (by omega)) ?_
                      refine p1 rfl ?_
                      refine D_end ?_
                      refine x_then ?_
                      refine fun ac w' hf hs => ⟨_, ?_, x + 1, ?_, ?_, rfl, hf.weak ⟨rfl, rfl, rfl, rfl, trivial⟩, hs⟩
                      · omega
                      · first | assumption | omega | simp
                      · refine forall_step hX ?_; intro hl; rw [atB_of hv3] at hl; first | exact hG _ (not_f (by assumption)) | (rw [hl] at h54; cases h54)
                  · refine n1 rfl ?_
                    refine n1 rfl ?_
                    refine n1 rfl ?_
                    refine n1 rfl ?_
                    refine n1 rfl ?_
                    refine p1 rfl ?_
                    refine D_end ?_
                    refine x_then ?_
                    refine C_f rfl ?_
                    refine C_skip ?_
                    refine x_blk ?_
                    refine x_then ?_
                    refine C_reg ?_
                    refine q1 rfl (D_add rfl rfl rfl (r := ((x + 1 : Nat) : Int)) (by omega) (by omega)) ?_
                    refine p1 rfl ?_
                    refine D_end ?_
                    refine x_then ?_
                    refine fun ac w' hf hs => ⟨_, ?_, x + 1, ?_, ?_, rfl, hf.weak ⟨rfl, rfl, rfl, rfl, trivial⟩, hs⟩
                    · omega
                    · first | assumption | omega | simp
                    · refine forall_step hX ?_; intro hl; rw [atB_of hv3] at hl; first | exact hG _ (not_f (by assumption)) | (rw [hl] at h51; cases h51)
                · have pr47 : ¬ (((x : Nat) : Int) : Int) < ((l.length : Nat) : Int) := of_decide_eq_false h47
                  refine C_exit ?_
                  refine x_then_exit ?_
                  refine x_then_exit ?_
                  refine x_blk_eq ?_
                  refine x_then ?_
                  refine C_seq ?_
                  refine C_reg ?_
                  refine p1 rfl ?_
                  refine D_end ?_
                  refine x_then ?_
                  refine C_ret ?_
                  refine R_1 rfl rfl fun w' hs => ⟨congrArg (fun z => Ending.returned (Value.bool z)) ?_, hs.bel⟩
                  show (true : Bool) = isLab b l
                  exact lab_y hib hll hA (fun x hx => hX x (by omega))

set_option maxHeartbeats 4000000 in
theorem spec_IsLabeling (w : World) (c_b : List Value) (b : Beliefs) (v_l : Value) (l : (List Bool)) (h_b : Gd.rd w c_b b) (h_l : Gd.rd w [v_l] l) : Calls Try.prog 29 [(.agg c_b.toArray), v_l].toArray w (Val w (.bool (isLab b l))) := by
  obtain ⟨u1, rfl, hu2⟩ := open_Beliefs h_b
  have hm3 := rd_max hu2
  have hm4 := rd_max h_l
  refine enter 102 Try.func29 rfl rfl rfl ?_
  refine C_seq ?_
  refine C_reg ?_
  refine li rfl (D_box rfl rfl rfl rfl rfl fun g5 => ?_)
  refine p1 rfl ?_
  refine D_end ?_
  refine x_then ?_
  refine D_H ([bx g5 [(.int .i64 b.Nodes), u1]]) rfl ?_
  refine C_seq ?_
  refine C_seq ?_
  refine C_reg ?_
  refine q1 rfl (lbw 0 a_29 rfl rfl rfl) ?_
  refine li rfl (cv b_44 rfl rfl rfl rfl (fun w' hs => (spec_IsBeliefs w' [(.int .i64 b.Nodes), u1] b (rd_at hs h_b))) ?_)
  refine p1 rfl <| p1 rfl ?_
  refine gs 15 rfl rfl (fun h6 => ?_) (fun h6 => ?_)
  · have h6n : (isBeliefs b) = false := not_t h6
    refine n1 rfl ?_
    refine n1 rfl ?_
    refine n1 rfl ?_
    refine n1 rfl ?_
    refine n1 rfl ?_
    refine p1 rfl ?_
    refine D_end ?_
    refine x_then ?_
    refine C_t rfl ?_
    refine C_seq ?_
    refine C_reg ?_
    refine p1 rfl ?_
    refine D_end ?_
    refine x_then ?_
    refine C_ret ?_
    refine x_then_ret ?_
    refine R_1 rfl rfl fun w' hs => ⟨congrArg (fun z => Ending.returned (Value.bool z)) ?_, hs.bel⟩
    show (false : Bool) = isLab b l
    exact lab_n1 (by assumption)
  · have h6n : (isBeliefs b) = true := not_f h6
    refine p1 rfl ?_
    refine q1 rfl (D_len s_52 rfl rfl (rd_sl h_l)) ?_
    refine q1 rfl (D_fb f_29_0 rfl rfl (q := 0) rfl) ?_
    refine q1 rfl (lb 0 o_3 rfl rfl rfl rfl) ?_
    refine p1 rfl <| p1 rfl ?_
    refine D_end ?_
    refine x_then ?_
    refine C_if _ rfl (fun h7 => ?_) (fun h7 => ?_)
    · have pr7 : (((l.length : Nat) : Int) : Int) ≠ b.Nodes := bne_iff_ne.1 h7
      refine C_seq ?_
      refine C_reg ?_
      refine p1 rfl ?_
      refine D_end ?_
      refine x_then ?_
      refine C_ret ?_
      refine x_then_ret ?_
      refine R_1 rfl rfl fun w' hs => ⟨congrArg (fun z => Ending.returned (Value.bool z)) ?_, hs.bel⟩
      show (false : Bool) = isLab b l
      exact lab_n2 (by omega)
    · have pr7 : (((l.length : Nat) : Int) : Int) = b.Nodes := eq_of_bne_f h7
      refine C_skip ?_
      refine x_then ?_
      refine C_seq ?_
      have hib : isBeliefs b = true := by assumption
      have ho := isB_ok2 hib
      have hbn := okB_nodes ho
      obtain ⟨n, hn⟩ : ∃ n : Nat, b.Nodes = (n : Int) := ⟨b.Nodes.toNat, by omega⟩
      have hll : ((l.length : Nat) : Int) = b.Nodes := by omega
      refine C_reg ?_
      refine q1 rfl (D_fb f_29_0 rfl rfl (q := 0) rfl) ?_
      refine q1 rfl (lb 0 o_3 rfl rfl rfl rfl) ?_
      refine li rfl (D_mk (α := Bool) (z := false) s_52 y_4 rfl (congrArg (fun z => some (Value.int .i64 z)) hn) rfl rfl (by omega) (by omega) fun v8 => ?_)
      refine D_eq 0 rfl (vec_rep _ _) ?_
      refine p1 rfl ?_
      refine D_end ?_
      refine x_then ?_
      refine D_weak [(1, v_l), (2, (.pointer (some ⟨g5, 0, none⟩))), (5, v8)] ⟨rfl, rfl, rfl, trivial⟩ ?_
      refine D_H ([ov [v8] (vec n (fun _ => false) : (List Bool)), bx g5 [(.int .i64 b.Nodes), u1]]) rfl ?_
      refine C_seq ?_
      refine C_seq ?_
      refine C_reg ?_
      refine p1 rfl ?_
      refine D_end ?_
      refine x_then ?_
      refine C_block ?_
      refine C_loop (fun m_ ac w' => ∃ (q : Nat), ∃ (ga : Nat → Bool), (q ≤ n + 1) ∧ (LabS b l ga) ∧ (q ≤ cnt n ga ∨ LabC b l ga) ∧ (1 ≤ q → LabA b l) ∧ m_ = n + 1 - q ∧ Fits ac 102 [(1, v_l), (2, (.pointer (some ⟨g5, 0, none⟩))), (5, v8), (6, (.int .i64 ((q : Nat) : Int)))] ∧ St w ([ov [v8] (vec n ga : (List Bool)), bx g5 [(.int .i64 b.Nodes), u1]]) w') ?_ ?_
      · refine fun ac w' hf hs => ⟨_, 0, (fun _ => false), ?_, ?_, ?_, ?_, rfl, hf.weak ⟨rfl, rfl, rfl, rfl, trivial⟩, hs⟩
        · first | assumption | omega | simp
        · exact LabS.zero b l
        · exact .inl (Nat.zero_le _)
        · intro h; omega
      · rintro m_ ac w' ⟨q, ga, hq, hG, hQ, hQA, rfl, hf, hs⟩
        refine D.use ?_ hf hs
        clear hf hs ac w'
        refine C_seq ?_
        refine C_seq ?_
        refine C_reg ?_
        refine p1 rfl ?_
        refine q1 rfl (D_fb f_29_0 rfl rfl (q := 0) rfl) ?_
        refine q1 rfl (lb 1 o_3 rfl rfl rfl rfl) ?_
        refine p1 rfl ?_
        refine D_end ?_
        refine x_then ?_
        refine D_H ([ov [v8] (vec n ga : (List Bool)), bx g5 [(.int .i64 b.Nodes), u1]]) rfl ?_
        refine C_if _ rfl (fun h9 => ?_) (fun h9 => ?_)
        · have pr9 : (((q : Nat) : Int) : Int) ≤ b.Nodes := of_decide_eq_true h9
          refine C_skip ?_
          refine x_then ?_
          refine C_seq ?_
          refine C_block ?_
          refine C_seq ?_
          refine C_reg ?_
          refine p1 rfl ?_
          refine D_end ?_
          refine x_then ?_
          refine C_block ?_
          refine C_loop (fun m_ ac w' => ∃ (k : Nat), ∃ (gb : Nat → Bool), (k ≤ b.Reasons.length) ∧ (LabS b l gb) ∧ (LabI b l ga gb k) ∧ m_ = b.Reasons.length - k ∧ Fits ac 102 [(1, v_l), (2, (.pointer (some ⟨g5, 0, none⟩))), (5, v8), (6, (.int .i64 ((q : Nat) : Int))), (7, (.int .i64 ((k : Nat) : Int)))] ∧ St w ([ov [v8] (vec n gb : (List Bool)), bx g5 [(.int .i64 b.Nodes), u1]]) w') ?_ ?_
          · refine fun ac w' hf hs => ⟨_, 0, ga, ?_, ?_, ?_, rfl, hf.weak ⟨rfl, rfl, rfl, rfl, rfl, trivial⟩, hs⟩
            · first | assumption | omega | simp
            · first | assumption | omega | simp
            · exact LabI.zero b l ga
          · rintro m_ ac w' ⟨k, gb, hk, hG2, hP, rfl, hf, hs⟩
            refine D.use ?_ hf hs
            clear hf hs ac w'
            refine C_seq ?_
            refine C_seq ?_
            refine C_reg ?_
            refine p1 rfl ?_
            refine q1 rfl (D_fb f_29_1 rfl rfl (q := 1) rfl) ?_
            refine q1 rfl (lb 1 o_27 rfl rfl rfl rfl) ?_
            refine q1 rfl (D_len s_27 rfl rfl (rd_sl hu2)) ?_
            refine p1 rfl ?_
            refine D_end ?_
            refine x_then ?_
            refine D_H ([ov [v8] (vec n gb : (List Bool)), bx g5 [(.int .i64 b.Nodes), u1]]) rfl ?_
            refine C_if _ rfl (fun h10 => ?_) (fun h10 => ?_)
            · have pr10 : (((k : Nat) : Int) : Int) < ((b.Reasons.length : Nat) : Int) := of_decide_eq_true h10
              refine C_skip ?_
              refine x_then ?_
              refine C_seq ?_
              refine C_block ?_
              refine C_seq ?_
              refine C_reg ?_
              refine q1 rfl (D_fb f_29_1 rfl rfl (q := 1) rfl) ?_
              refine q1 rfl (lb 1 o_27 rfl rfl rfl rfl) ?_
              refine p1 rfl ?_
              obtain ⟨r0, hr0⟩ := some_of_lt (l := b.Reasons) (i := k) (by omega)
              have hv0 := okB_r ho hr0
              have hF := isR_for hv0
              obtain ⟨es11, at12, hr13⟩ := rd_elem (n := 3) rfl hu2 hr0
              obtain ⟨u14, u17, rfl, hu15, hu18⟩ := open_Reason hr13
              have hm19 := rd_max hu15
              have hm20 := rd_max hu18
              refine q1 rfl (D_ix (l := b.Reasons) (j := k) s_27 rfl rfl rfl (fun w' hs => (rd_at hs hu2)) rfl (lt_of_some hr0)) ?_
              refine q1 rfl (lra a_45 rfl rfl at12) ?_
              refine li rfl (D_alloc y_45 rfl rfl rfl rfl fun g21 => ?_)
              refine li rfl (D_stb (vs := [(.int .i64 r0.For), u14, u17]) (cs' := [(.int .i64 r0.For), u14, u17]) 0 z_45 rfl rfl rfl rfl rfl rfl (ocons rfl (ocons (one_rd hu15) (ocons (one_rd hu18) onil))) (by simp) rfl ?_)
              refine D_end ?_
              refine x_then ?_
              refine D_H ([bx g21 [(.int .i64 r0.For), u14, u17], ov [v8] (vec n gb : (List Bool)), bx g5 [(.int .i64 b.Nodes), u1]]) rfl ?_
              refine C_seq ?_
              refine C_seq ?_
              refine C_reg ?_
              refine q1 rfl (lbw 0 a_45 rfl rfl rfl) ?_
              refine p1 rfl ?_
              refine li rfl (cv b_56 rfl rfl rfl rfl (fun w' hs => (spec_l11Holds w' [(.int .i64 r0.For), u14, u17] r0 v_l l (rd_at hs hr13) (rd_at hs h_l) (by rw [hll]; exact hv0))) ?_)
              refine p1 rfl ?_
              refine gs 46 rfl rfl (fun h22 => ?_) (fun h22 => ?_)
              · refine p1 rfl ?_
                refine q1 rfl (D_fb f_45_0 rfl rfl (q := 0) rfl) ?_
                refine q1 rfl (lb 0 o_3 rfl rfl rfl rfl) ?_
                obtain ⟨v0, hv1⟩ := some_of_lt (l := l) (i := (r0.For.toNat)) (by omega)
                obtain ⟨es23, at24, hr25⟩ := rd_elem (n := 1) rfl h_l hv1
                obtain rfl : es23 = [.bool v0] := hr25
                refine q1 rfl (D_ix (l := l) (j := (r0.For.toNat)) s_52 rfl rfl rfl (fun w' hs => (rd_at hs h_l)) (Int.toNat_of_nonneg (by omega)).symm (lt_of_some hv1)) ?_
                refine q1 rfl (lr0 o_4 rfl rfl at24 rfl) ?_
                refine p1 rfl <| p1 rfl ?_
                refine D_end ?_
                refine x_then ?_
                refine D_weak [(1, v_l), (2, (.pointer (some ⟨g5, 0, none⟩))), (5, v8), (6, (.int .i64 ((q : Nat) : Int))), (7, (.int .i64 ((k : Nat) : Int))), (8, (.pointer (some ⟨g21, 0, none⟩))), (53, (.bool (!v0)))] ⟨rfl, rfl, rfl, rfl, rfl, rfl, rfl, trivial⟩ ?_
                refine C_if _ rfl (fun h26 => ?_) (fun h26 => ?_)
                · have h26n : v0 = false := not_t h26
                  refine C_seq ?_
                  refine C_reg ?_
                  refine p1 rfl ?_
                  refine D_end ?_
                  refine x_then ?_
                  refine C_ret ?_
                  refine x_then_ret ?_
                  refine x_blk_ret ?_
                  refine x_then_ret ?_
                  refine x_then_ret ?_
                  refine x_blk_ret ?_
                  refine x_blk_ret ?_
                  refine x_then_ret ?_
                  refine x_then_ret ?_
                  refine x_blk_ret ?_
                  refine x_then_ret ?_
                  refine R_1 rfl rfl fun w' hs => ⟨congrArg (fun z => Ending.returned (Value.bool z)) ?_, hs.bel⟩
                  show (false : Bool) = isLab b l
                  exact lab_n3 hr0 (by assumption) hv1 (not_t (by assumption))
                · have h26n : v0 = true := not_f h26
                  refine C_skip ?_
                  refine x_then ?_
                  refine C_seq ?_
                  have hAr : holdsL r0 l = true → atB l r0.For.toNat = true := by intro hh; first | (rw [atB_of hv1]; exact not_f (by assumption)) | (rw [hh] at h26; cases h26)
                  refine C_reg ?_
                  refine q1 rfl (lbw 0 a_45 rfl rfl rfl) ?_
                  refine p1 rfl ?_
                  refine li rfl (cv b_56 rfl rfl rfl rfl (fun w' hs => (spec_l11Holds w' [(.int .i64 r0.For), u14, u17] r0 v_l l (rd_at hs hr13) (rd_at hs h_l) (by rw [hll]; exact hv0))) ?_)
                  refine p1 rfl ?_
                  refine D_end ?_
                  refine x_then ?_
                  refine C_seq ?_
                  refine C_seq ?_
                  refine C_reg ?_
                  refine p1 rfl ?_
                  refine D_end ?_
                  refine x_then ?_
                  refine C_block ?_
                  refine C_loop (fun m_ ac w' => ∃ (m : Nat), ∃ (fine : Bool), (m ≤ r0.In.length) ∧ (fine = (holdsL r0 l && (r0.In.take m).all (lI (vec n gb)))) ∧ m_ = r0.In.length - m ∧ Fits ac 102 [(1, v_l), (2, (.pointer (some ⟨g5, 0, none⟩))), (5, v8), (6, (.int .i64 ((q : Nat) : Int))), (7, (.int .i64 ((k : Nat) : Int))), (8, (.pointer (some ⟨g21, 0, none⟩))), (9, (.bool fine)), (10, (.int .i64 ((m : Nat) : Int)))] ∧ St w ([bx g21 [(.int .i64 r0.For), u14, u17], ov [v8] (vec n gb : (List Bool)), bx g5 [(.int .i64 b.Nodes), u1]]) w') ?_ ?_
                  · refine fun ac w' hf hs => ⟨_, 0, (holdsL r0 l), ?_, ?_, rfl, hf.weak ⟨rfl, rfl, rfl, rfl, rfl, rfl, rfl, rfl, trivial⟩, hs⟩
                    · first | assumption | omega | simp
                    · simp
                  · rintro m_ ac w' ⟨m, fine, hm, hfi, rfl, hf, hs⟩
                    refine D.use ?_ hf hs
                    clear hf hs ac w'
                    refine C_seq ?_
                    refine C_seq ?_
                    refine C_reg ?_
                    refine p1 rfl ?_
                    refine q1 rfl (D_fb f_45_1 rfl rfl (q := 1) rfl) ?_
                    refine q1 rfl (lb 0 o_25 rfl rfl rfl rfl) ?_
                    refine q1 rfl (D_len s_25 rfl rfl (rd_sl hu15)) ?_
                    refine p1 rfl ?_
                    refine D_end ?_
                    refine x_then ?_
                    refine C_if _ rfl (fun h27 => ?_) (fun h27 => ?_)
                    · have pr27 : (((m : Nat) : Int) : Int) < ((r0.In.length : Nat) : Int) := of_decide_eq_true h27
                      refine C_skip ?_
                      refine x_then ?_
                      refine C_seq ?_
                      refine C_block ?_
                      refine C_reg ?_
                      refine p1 rfl <| p1 rfl ?_
                      refine gs 65 rfl rfl (fun h28 => ?_) (fun h28 => ?_)
                      · refine p1 rfl ?_
                        refine q1 rfl (D_fb f_45_1 rfl rfl (q := 1) rfl) ?_
                        refine q1 rfl (lb 0 o_25 rfl rfl rfl rfl) ?_
                        refine p1 rfl ?_
                        obtain ⟨y2, hy2⟩ := some_of_lt (l := r0.In) (i := m) (by omega)
                        have hyn := asc_at (isR_in hv0) hy2
                        obtain ⟨es29, at30, hr31⟩ := rd_elem (n := 1) rfl hu15 hy2
                        obtain rfl : es29 = [.int .i64 y2] := hr31
                        refine q1 rfl (D_ix (l := r0.In) (j := m) s_25 rfl rfl rfl (fun w' hs => (rd_at hs hu15)) rfl (lt_of_some hy2)) ?_
                        refine q1 rfl (lr0 o_3 rfl rfl at30 rfl) ?_
                        have hx33 : (vec n gb)[(y2.toNat)]? = some (gb (y2.toNat)) := vec_get (by omega)
                        refine q1 rfl (D_ix (l := (vec n gb)) (j := (y2.toNat)) s_52 rfl rfl rfl (fun w' hs => (rd_own (k := 1) hs rfl)) (Int.toNat_of_nonneg (by omega)).symm (lt_of_some hx33)) ?_
                        refine q1 rfl (lo (α := Bool) 1 o_4 rfl rfl rfl hx33) ?_
                        refine p1 rfl <| p1 rfl ?_
                        refine D_end ?_
                        refine x_blk ?_
                        refine x_then ?_
                        refine D_weak [(1, v_l), (2, (.pointer (some ⟨g5, 0, none⟩))), (5, v8), (6, (.int .i64 ((q : Nat) : Int))), (7, (.int .i64 ((k : Nat) : Int))), (8, (.pointer (some ⟨g21, 0, none⟩))), (9, (.bool (gb (y2.toNat)))), (10, (.int .i64 ((m : Nat) : Int)))] ⟨rfl, rfl, rfl, rfl, rfl, rfl, rfl, rfl, trivial⟩ ?_
                        refine C_reg ?_
                        refine p1 rfl ?_
                        refine q1 rfl (D_add rfl rfl rfl (r := ((m + 1 : Nat) : Int)) (by omega) (by omega)) ?_
                        refine p1 rfl ?_
                        refine D_end ?_
                        refine x_then ?_
                        refine fun ac w' hf hs => ⟨_, ?_, m + 1, (gb (y2.toNat)), ?_, ?_, rfl, hf.weak ⟨rfl, rfl, rfl, rfl, rfl, rfl, rfl, rfl, trivial⟩, hs⟩
                        · omega
                        · first | assumption | omega | simp
                        · first | exact fine_step hfi hy2 (by omega) (by rw [show fine = true by assumption]; rfl) | (rw [show fine = false by assumption] at hfi; obtain ⟨y2, hy2⟩ := some_of_lt (l := r0.In) (i := m) (by omega); have hyn := asc_at (isR_in hv0) hy2; exact fine_step hfi hy2 (by omega) rfl)
                      · refine n1 rfl ?_
                        refine n1 rfl ?_
                        refine n1 rfl ?_
                        refine n1 rfl ?_
                        refine n1 rfl ?_
                        refine n1 rfl ?_
                        refine n1 rfl ?_
                        refine n1 rfl ?_
                        refine p1 rfl <| p1 rfl ?_
                        refine D_end ?_
                        refine x_blk ?_
                        refine x_then ?_
                        refine D_weak [(1, v_l), (2, (.pointer (some ⟨g5, 0, none⟩))), (5, v8), (6, (.int .i64 ((q : Nat) : Int))), (7, (.int .i64 ((k : Nat) : Int))), (8, (.pointer (some ⟨g21, 0, none⟩))), (9, (.bool false)), (10, (.int .i64 ((m : Nat) : Int)))] ⟨rfl, rfl, rfl, rfl, rfl, rfl, rfl, rfl, trivial⟩ ?_
                        refine C_reg ?_
                        refine p1 rfl ?_
                        refine q1 rfl (D_add rfl rfl rfl (r := ((m + 1 : Nat) : Int)) (by omega) (by omega)) ?_
                        refine p1 rfl ?_
                        refine D_end ?_
                        refine x_then ?_
                        refine fun ac w' hf hs => ⟨_, ?_, m + 1, false, ?_, ?_, rfl, hf.weak ⟨rfl, rfl, rfl, rfl, rfl, rfl, rfl, rfl, trivial⟩, hs⟩
                        · omega
                        · first | assumption | omega | simp
                        · first | exact fine_step hfi hy2 (by omega) (by rw [show fine = true by assumption]; rfl) | (rw [show fine = false by assumption] at hfi; obtain ⟨y2, hy2⟩ := some_of_lt (l := r0.In) (i := m) (by omega); have hyn := asc_at (isR_in hv0) hy2; exact fine_step hfi hy2 (by omega) rfl)
                    · have pr27 : ¬ (((m : Nat) : Int) : Int) < ((r0.In.length : Nat) : Int) := of_decide_eq_false h27
                      refine C_exit ?_
                      refine x_then_exit ?_
                      refine x_then_exit ?_
                      refine x_blk_eq ?_
                      refine x_then ?_
                      refine C_draw mixed [12] (by kernel_rfl) ?_
                      refine tk 0 rfl (by kernel_rfl) (by kernel_rfl) (by kernel_rfl) rfl (fun _ hs => hs) (rp rfl) ?_
                      refine tk 1 rfl (by kernel_rfl) (by kernel_rfl) (by kernel_rfl) rfl (fun _ hs => hs) (D_fb f_45_0 rfl rfl (q := 0) rfl) ?_
                      refine tk 2 rfl (by kernel_rfl) (by kernel_rfl) (by kernel_rfl) rfl (fun _ hs => hs) (lb 0 o_3 rfl rfl rfl rfl) ?_
                      refine tk 3 rfl (by kernel_rfl) (by kernel_rfl) (by kernel_rfl) rfl (fun _ hs => hs) (rp rfl) ?_
                      refine tk 4 rfl (by kernel_rfl) (by kernel_rfl) (by kernel_rfl) rfl (fun _ hs => hs) (D_fb f_45_0 rfl rfl (q := 0) rfl) ?_
                      refine tk 5 rfl (by kernel_rfl) (by kernel_rfl) (by kernel_rfl) rfl (fun _ hs => hs) (lb 0 o_3 rfl rfl rfl rfl) ?_
                      have hx35 : (vec n gb)[(r0.For.toNat)]? = some (gb (r0.For.toNat)) := vec_get (by omega)
                      refine tk 6 rfl (by kernel_rfl) (by kernel_rfl) (by kernel_rfl) rfl (fun _ hs => hs) (D_ix (l := (vec n gb)) (j := (r0.For.toNat)) s_52 rfl rfl rfl (fun w' hs => (rd_own (k := 1) hs rfl)) (Int.toNat_of_nonneg (by omega)).symm (lt_of_some hx35)) ?_
                      refine tk 7 rfl (by kernel_rfl) (by kernel_rfl) (by kernel_rfl) rfl (fun _ hs => hs) (lo (α := Bool) 1 o_4 rfl rfl rfl hx35) ?_
                      refine tk 8 rfl (by kernel_rfl) (by kernel_rfl) (by kernel_rfl) rfl (fun _ hs => hs) (rp rfl) ?_
                      refine gs 83 rfl rfl (fun h36 => ?_) (fun h36 => ?_)
                      · refine tn 9 rfl (by kernel_rfl) (by kernel_rfl) (by kernel_rfl) rfl rfl rfl (fun _ hs => hs) ?_
                        refine tk 10 rfl (by kernel_rfl) (by kernel_rfl) (by kernel_rfl) rfl (fun _ hs => hs) (rp rfl) ?_
                        refine tk 11 rfl (by kernel_rfl) (by kernel_rfl) (by kernel_rfl) rfl (fun _ hs => hs) (D_ix (l := (vec n gb)) (j := (r0.For.toNat)) s_52 rfl rfl rfl (fun w' hs => (rd_own (k := 1) hs rfl)) (Int.toNat_of_nonneg (by omega)).symm (lt_of_some hx35)) ?_
                        refine ty 12 rfl (by kernel_rfl) rfl (so (α := Bool) (z := true) 1 z_4 rfl rfl rfl rfl rfl (lt_of_some hx35) ?_)
                        refine D_eq 1 rfl (vec_set _ _ _ _) ?_
                        refine tZ rfl ?_
                        refine tE (by kernel_rfl) ?_
                        refine x_blk ?_
                        refine x_then ?_
                        refine D_weak [(1, v_l), (2, (.pointer (some ⟨g5, 0, none⟩))), (5, v8), (6, (.int .i64 ((q : Nat) : Int))), (7, (.int .i64 ((k : Nat) : Int)))] ⟨rfl, rfl, rfl, rfl, rfl, trivial⟩ ?_
                        refine D_sel (H' := [ov [v8] (vec n (upd gb (r0.For.toNat) true) : (List Bool)), bx g5 [(.int .i64 b.Nodes), u1]]) [false, true, true] rfl ?_
                        refine C_reg ?_
                        refine p1 rfl ?_
                        refine q1 rfl (D_add rfl rfl rfl (r := ((k + 1 : Nat) : Int)) (by omega) (by omega)) ?_
                        refine p1 rfl ?_
                        refine D_end ?_
                        refine x_then ?_
                        refine fun ac w' hf hs => ⟨_, ?_, k + 1, (upd gb (r0.For.toNat) true), ?_, ?_, ?_, rfl, hf.weak ⟨rfl, rfl, rfl, rfl, rfl, trivial⟩, hs⟩
                        · omega
                        · first | assumption | omega | simp
                        · refine hG2.set (fun e => ?_); first | exact hG2 _ (by assumption) | (rw [e] at hfi; have hfi2 := hfi.symm; rw [Bool.and_eq_true, List.take_of_length_le (by omega)] at hfi2; exact Pl.of hG2 hr0 hfi2.1 (by rw [← hn]; exact isR_in hv0) hfi2.2)
                        · exact hP.next (fine := fine) hr0 (by rw [← hn]; exact isR_in hv0) (by rwa [show m = r0.In.length by omega] at hfi) (by first | (rw [show gb r0.For.toNat = true by assumption]; rfl) | (rw [show gb r0.For.toNat = false by assumption]; rfl)) hAr
                      · refine tk 9 rfl (by kernel_rfl) (by kernel_rfl) (by kernel_rfl) rfl (fun _ hs => hs) (rp rfl) ?_
                        refine tk 10 rfl (by kernel_rfl) (by kernel_rfl) (by kernel_rfl) rfl (fun _ hs => hs) (rp rfl) ?_
                        refine tk 11 rfl (by kernel_rfl) (by kernel_rfl) (by kernel_rfl) rfl (fun _ hs => hs) (D_ix (l := (vec n gb)) (j := (r0.For.toNat)) s_52 rfl rfl rfl (fun w' hs => (rd_own (k := 1) hs rfl)) (Int.toNat_of_nonneg (by omega)).symm (lt_of_some hx35)) ?_
                        refine ty 12 rfl (by kernel_rfl) rfl (so (α := Bool) (z := fine) 1 z_4 rfl rfl rfl rfl rfl (lt_of_some hx35) ?_)
                        refine D_eq 1 rfl (vec_set _ _ _ _) ?_
                        refine tZ rfl ?_
                        refine tE (by kernel_rfl) ?_
                        refine x_blk ?_
                        refine x_then ?_
                        refine D_weak [(1, v_l), (2, (.pointer (some ⟨g5, 0, none⟩))), (5, v8), (6, (.int .i64 ((q : Nat) : Int))), (7, (.int .i64 ((k : Nat) : Int)))] ⟨rfl, rfl, rfl, rfl, rfl, trivial⟩ ?_
                        refine D_sel (H' := [ov [v8] (vec n (upd gb (r0.For.toNat) fine) : (List Bool)), bx g5 [(.int .i64 b.Nodes), u1]]) [false, true, true] rfl ?_
                        refine C_reg ?_
                        refine p1 rfl ?_
                        refine q1 rfl (D_add rfl rfl rfl (r := ((k + 1 : Nat) : Int)) (by omega) (by omega)) ?_
                        refine p1 rfl ?_
                        refine D_end ?_
                        refine x_then ?_
                        refine fun ac w' hf hs => ⟨_, ?_, k + 1, (upd gb (r0.For.toNat) fine), ?_, ?_, ?_, rfl, hf.weak ⟨rfl, rfl, rfl, rfl, rfl, trivial⟩, hs⟩
                        · omega
                        · first | assumption | omega | simp
                        · refine hG2.set (fun e => ?_); first | exact hG2 _ (by assumption) | (rw [e] at hfi; have hfi2 := hfi.symm; rw [Bool.and_eq_true, List.take_of_length_le (by omega)] at hfi2; exact Pl.of hG2 hr0 hfi2.1 (by rw [← hn]; exact isR_in hv0) hfi2.2)
                        · exact hP.next (fine := fine) hr0 (by rw [← hn]; exact isR_in hv0) (by rwa [show m = r0.In.length by omega] at hfi) (by first | (rw [show gb r0.For.toNat = true by assumption]; rfl) | (rw [show gb r0.For.toNat = false by assumption]; rfl)) hAr
              · refine n1 rfl ?_
                refine n1 rfl ?_
                refine n1 rfl ?_
                refine n1 rfl ?_
                refine n1 rfl ?_
                refine n1 rfl ?_
                refine p1 rfl ?_
                refine D_end ?_
                refine x_then ?_
                refine D_weak [(1, v_l), (2, (.pointer (some ⟨g5, 0, none⟩))), (5, v8), (6, (.int .i64 ((q : Nat) : Int))), (7, (.int .i64 ((k : Nat) : Int))), (8, (.pointer (some ⟨g21, 0, none⟩))), (53, (.bool false))] ⟨rfl, rfl, rfl, rfl, rfl, rfl, rfl, trivial⟩ ?_
                refine C_f rfl ?_
                refine C_skip ?_
                refine x_then ?_
                refine C_seq ?_
                have hAr : holdsL r0 l = true → atB l r0.For.toNat = true := by intro hh; first | (rw [atB_of hv1]; exact not_f (by assumption)) | (rw [hh] at h22; cases h22)
                refine C_reg ?_
                refine q1 rfl (lbw 0 a_45 rfl rfl rfl) ?_
                refine p1 rfl ?_
                refine li rfl (cv b_56 rfl rfl rfl rfl (fun w' hs => (spec_l11Holds w' [(.int .i64 r0.For), u14, u17] r0 v_l l (rd_at hs hr13) (rd_at hs h_l) (by rw [hll]; exact hv0))) ?_)
                refine p1 rfl ?_
                refine D_end ?_
                refine x_then ?_
                refine C_seq ?_
                refine C_seq ?_
                refine C_reg ?_
                refine p1 rfl ?_
                refine D_end ?_
                refine x_then ?_
                refine C_block ?_
                refine C_loop (fun m_ ac w' => ∃ (m : Nat), ∃ (fine : Bool), (m ≤ r0.In.length) ∧ (fine = (holdsL r0 l && (r0.In.take m).all (lI (vec n gb)))) ∧ m_ = r0.In.length - m ∧ Fits ac 102 [(1, v_l), (2, (.pointer (some ⟨g5, 0, none⟩))), (5, v8), (6, (.int .i64 ((q : Nat) : Int))), (7, (.int .i64 ((k : Nat) : Int))), (8, (.pointer (some ⟨g21, 0, none⟩))), (9, (.bool fine)), (10, (.int .i64 ((m : Nat) : Int)))] ∧ St w ([bx g21 [(.int .i64 r0.For), u14, u17], ov [v8] (vec n gb : (List Bool)), bx g5 [(.int .i64 b.Nodes), u1]]) w') ?_ ?_
                · refine fun ac w' hf hs => ⟨_, 0, (holdsL r0 l), ?_, ?_, rfl, hf.weak ⟨rfl, rfl, rfl, rfl, rfl, rfl, rfl, rfl, trivial⟩, hs⟩
                  · first | assumption | omega | simp
                  · simp
                · rintro m_ ac w' ⟨m, fine, hm, hfi, rfl, hf, hs⟩
                  refine D.use ?_ hf hs
                  clear hf hs ac w'
                  refine C_seq ?_
                  refine C_seq ?_
                  refine C_reg ?_
                  refine p1 rfl ?_
                  refine q1 rfl (D_fb f_45_1 rfl rfl (q := 1) rfl) ?_
                  refine q1 rfl (lb 0 o_25 rfl rfl rfl rfl) ?_
                  refine q1 rfl (D_len s_25 rfl rfl (rd_sl hu15)) ?_
                  refine p1 rfl ?_
                  refine D_end ?_
                  refine x_then ?_
                  refine C_if _ rfl (fun h37 => ?_) (fun h37 => ?_)
                  · have pr37 : (((m : Nat) : Int) : Int) < ((r0.In.length : Nat) : Int) := of_decide_eq_true h37
                    refine C_skip ?_
                    refine x_then ?_
                    refine C_seq ?_
                    refine C_block ?_
                    refine C_reg ?_
                    refine p1 rfl <| p1 rfl ?_
                    refine gs 65 rfl rfl (fun h38 => ?_) (fun h38 => ?_)
                    · refine p1 rfl ?_
                      refine q1 rfl (D_fb f_45_1 rfl rfl (q := 1) rfl) ?_
                      refine q1 rfl (lb 0 o_25 rfl rfl rfl rfl) ?_
                      refine p1 rfl ?_
                      obtain ⟨y2, hy2⟩ := some_of_lt (l := r0.In) (i := m) (by omega)
                      have hyn := asc_at (isR_in hv0) hy2
                      obtain ⟨es39, at40, hr41⟩ := rd_elem (n := 1) rfl hu15 hy2
                      obtain rfl : es39 = [.int .i64 y2] := hr41
                      refine q1 rfl (D_ix (l := r0.In) (j := m) s_25 rfl rfl rfl (fun w' hs => (rd_at hs hu15)) rfl (lt_of_some hy2)) ?_
                      refine q1 rfl (lr0 o_3 rfl rfl at40 rfl) ?_
                      have hx43 : (vec n gb)[(y2.toNat)]? = some (gb (y2.toNat)) := vec_get (by omega)
                      refine q1 rfl (D_ix (l := (vec n gb)) (j := (y2.toNat)) s_52 rfl rfl rfl (fun w' hs => (rd_own (k := 1) hs rfl)) (Int.toNat_of_nonneg (by omega)).symm (lt_of_some hx43)) ?_
                      refine q1 rfl (lo (α := Bool) 1 o_4 rfl rfl rfl hx43) ?_
                      refine p1 rfl <| p1 rfl ?_
                      refine D_end ?_
                      refine x_blk ?_
                      refine x_then ?_
                      refine D_weak [(1, v_l), (2, (.pointer (some ⟨g5, 0, none⟩))), (5, v8), (6, (.int .i64 ((q : Nat) : Int))), (7, (.int .i64 ((k : Nat) : Int))), (8, (.pointer (some ⟨g21, 0, none⟩))), (9, (.bool (gb (y2.toNat)))), (10, (.int .i64 ((m : Nat) : Int)))] ⟨rfl, rfl, rfl, rfl, rfl, rfl, rfl, rfl, trivial⟩ ?_
                      refine C_reg ?_
                      refine p1 rfl ?_
                      refine q1 rfl (D_add rfl rfl rfl (r := ((m + 1 : Nat) : Int)) (by omega) (by omega)) ?_
                      refine p1 rfl ?_
                      refine D_end ?_
                      refine x_then ?_
                      refine fun ac w' hf hs => ⟨_, ?_, m + 1, (gb (y2.toNat)), ?_, ?_, rfl, hf.weak ⟨rfl, rfl, rfl, rfl, rfl, rfl, rfl, rfl, trivial⟩, hs⟩
                      · omega
                      · first | assumption | omega | simp
                      · first | exact fine_step hfi hy2 (by omega) (by rw [show fine = true by assumption]; rfl) | (rw [show fine = false by assumption] at hfi; obtain ⟨y2, hy2⟩ := some_of_lt (l := r0.In) (i := m) (by omega); have hyn := asc_at (isR_in hv0) hy2; exact fine_step hfi hy2 (by omega) rfl)
                    · refine n1 rfl ?_
                      refine n1 rfl ?_
                      refine n1 rfl ?_
                      refine n1 rfl ?_
                      refine n1 rfl ?_
                      refine n1 rfl ?_
                      refine n1 rfl ?_
                      refine n1 rfl ?_
                      refine p1 rfl <| p1 rfl ?_
                      refine D_end ?_
                      refine x_blk ?_
                      refine x_then ?_
                      refine D_weak [(1, v_l), (2, (.pointer (some ⟨g5, 0, none⟩))), (5, v8), (6, (.int .i64 ((q : Nat) : Int))), (7, (.int .i64 ((k : Nat) : Int))), (8, (.pointer (some ⟨g21, 0, none⟩))), (9, (.bool false)), (10, (.int .i64 ((m : Nat) : Int)))] ⟨rfl, rfl, rfl, rfl, rfl, rfl, rfl, rfl, trivial⟩ ?_
                      refine C_reg ?_
                      refine p1 rfl ?_
                      refine q1 rfl (D_add rfl rfl rfl (r := ((m + 1 : Nat) : Int)) (by omega) (by omega)) ?_
                      refine p1 rfl ?_
                      refine D_end ?_
                      refine x_then ?_
                      refine fun ac w' hf hs => ⟨_, ?_, m + 1, false, ?_, ?_, rfl, hf.weak ⟨rfl, rfl, rfl, rfl, rfl, rfl, rfl, rfl, trivial⟩, hs⟩
                      · omega
                      · first | assumption | omega | simp
                      · first | exact fine_step hfi hy2 (by omega) (by rw [show fine = true by assumption]; rfl) | (rw [show fine = false by assumption] at hfi; obtain ⟨y2, hy2⟩ := some_of_lt (l := r0.In) (i := m) (by omega); have hyn := asc_at (isR_in hv0) hy2; exact fine_step hfi hy2 (by omega) rfl)
                  · have pr37 : ¬ (((m : Nat) : Int) : Int) < ((r0.In.length : Nat) : Int) := of_decide_eq_false h37
                    refine C_exit ?_
                    refine x_then_exit ?_
                    refine x_then_exit ?_
                    refine x_blk_eq ?_
                    refine x_then ?_
                    refine C_draw mixed [12] (by kernel_rfl) ?_
                    refine tk 0 rfl (by kernel_rfl) (by kernel_rfl) (by kernel_rfl) rfl (fun _ hs => hs) (rp rfl) ?_
                    refine tk 1 rfl (by kernel_rfl) (by kernel_rfl) (by kernel_rfl) rfl (fun _ hs => hs) (D_fb f_45_0 rfl rfl (q := 0) rfl) ?_
                    refine tk 2 rfl (by kernel_rfl) (by kernel_rfl) (by kernel_rfl) rfl (fun _ hs => hs) (lb 0 o_3 rfl rfl rfl rfl) ?_
                    refine tk 3 rfl (by kernel_rfl) (by kernel_rfl) (by kernel_rfl) rfl (fun _ hs => hs) (rp rfl) ?_
                    refine tk 4 rfl (by kernel_rfl) (by kernel_rfl) (by kernel_rfl) rfl (fun _ hs => hs) (D_fb f_45_0 rfl rfl (q := 0) rfl) ?_
                    refine tk 5 rfl (by kernel_rfl) (by kernel_rfl) (by kernel_rfl) rfl (fun _ hs => hs) (lb 0 o_3 rfl rfl rfl rfl) ?_
                    have hx45 : (vec n gb)[(r0.For.toNat)]? = some (gb (r0.For.toNat)) := vec_get (by omega)
                    refine tk 6 rfl (by kernel_rfl) (by kernel_rfl) (by kernel_rfl) rfl (fun _ hs => hs) (D_ix (l := (vec n gb)) (j := (r0.For.toNat)) s_52 rfl rfl rfl (fun w' hs => (rd_own (k := 1) hs rfl)) (Int.toNat_of_nonneg (by omega)).symm (lt_of_some hx45)) ?_
                    refine tk 7 rfl (by kernel_rfl) (by kernel_rfl) (by kernel_rfl) rfl (fun _ hs => hs) (lo (α := Bool) 1 o_4 rfl rfl rfl hx45) ?_
                    refine tk 8 rfl (by kernel_rfl) (by kernel_rfl) (by kernel_rfl) rfl (fun _ hs => hs) (rp rfl) ?_
                    refine gs 83 rfl rfl (fun h46 => ?_) (fun h46 => ?_)
                    · refine tn 9 rfl (by kernel_rfl) (by kernel_rfl) (by kernel_rfl) rfl rfl rfl (fun _ hs => hs) ?_
                      refine tk 10 rfl (by kernel_rfl) (by kernel_rfl) (by kernel_rfl) rfl (fun _ hs => hs) (rp rfl) ?_
                      refine tk 11 rfl (by kernel_rfl) (by kernel_rfl) (by kernel_rfl) rfl (fun _ hs => hs) (D_ix (l := (vec n gb)) (j := (r0.For.toNat)) s_52 rfl rfl rfl (fun w' hs => (rd_own (k := 1) hs rfl)) (Int.toNat_of_nonneg (by omega)).symm (lt_of_some hx45)) ?_
                      refine ty 12 rfl (by kernel_rfl) rfl (so (α := Bool) (z := true) 1 z_4 rfl rfl rfl rfl rfl (lt_of_some hx45) ?_)
                      refine D_eq 1 rfl (vec_set _ _ _ _) ?_
                      refine tZ rfl ?_
                      refine tE (by kernel_rfl) ?_
                      refine x_blk ?_
                      refine x_then ?_
                      refine D_weak [(1, v_l), (2, (.pointer (some ⟨g5, 0, none⟩))), (5, v8), (6, (.int .i64 ((q : Nat) : Int))), (7, (.int .i64 ((k : Nat) : Int)))] ⟨rfl, rfl, rfl, rfl, rfl, trivial⟩ ?_
                      refine D_sel (H' := [ov [v8] (vec n (upd gb (r0.For.toNat) true) : (List Bool)), bx g5 [(.int .i64 b.Nodes), u1]]) [false, true, true] rfl ?_
                      refine C_reg ?_
                      refine p1 rfl ?_
                      refine q1 rfl (D_add rfl rfl rfl (r := ((k + 1 : Nat) : Int)) (by omega) (by omega)) ?_
                      refine p1 rfl ?_
                      refine D_end ?_
                      refine x_then ?_
                      refine fun ac w' hf hs => ⟨_, ?_, k + 1, (upd gb (r0.For.toNat) true), ?_, ?_, ?_, rfl, hf.weak ⟨rfl, rfl, rfl, rfl, rfl, trivial⟩, hs⟩
                      · omega
                      · first | assumption | omega | simp
                      · refine hG2.set (fun e => ?_); first | exact hG2 _ (by assumption) | (rw [e] at hfi; have hfi2 := hfi.symm; rw [Bool.and_eq_true, List.take_of_length_le (by omega)] at hfi2; exact Pl.of hG2 hr0 hfi2.1 (by rw [← hn]; exact isR_in hv0) hfi2.2)
                      · exact hP.next (fine := fine) hr0 (by rw [← hn]; exact isR_in hv0) (by rwa [show m = r0.In.length by omega] at hfi) (by first | (rw [show gb r0.For.toNat = true by assumption]; rfl) | (rw [show gb r0.For.toNat = false by assumption]; rfl)) hAr
                    · refine tk 9 rfl (by kernel_rfl) (by kernel_rfl) (by kernel_rfl) rfl (fun _ hs => hs) (rp rfl) ?_
                      refine tk 10 rfl (by kernel_rfl) (by kernel_rfl) (by kernel_rfl) rfl (fun _ hs => hs) (rp rfl) ?_
                      refine tk 11 rfl (by kernel_rfl) (by kernel_rfl) (by kernel_rfl) rfl (fun _ hs => hs) (D_ix (l := (vec n gb)) (j := (r0.For.toNat)) s_52 rfl rfl rfl (fun w' hs => (rd_own (k := 1) hs rfl)) (Int.toNat_of_nonneg (by omega)).symm (lt_of_some hx45)) ?_
                      refine ty 12 rfl (by kernel_rfl) rfl (so (α := Bool) (z := fine) 1 z_4 rfl rfl rfl rfl rfl (lt_of_some hx45) ?_)
                      refine D_eq 1 rfl (vec_set _ _ _ _) ?_
                      refine tZ rfl ?_
                      refine tE (by kernel_rfl) ?_
                      refine x_blk ?_
                      refine x_then ?_
                      refine D_weak [(1, v_l), (2, (.pointer (some ⟨g5, 0, none⟩))), (5, v8), (6, (.int .i64 ((q : Nat) : Int))), (7, (.int .i64 ((k : Nat) : Int)))] ⟨rfl, rfl, rfl, rfl, rfl, trivial⟩ ?_
                      refine D_sel (H' := [ov [v8] (vec n (upd gb (r0.For.toNat) fine) : (List Bool)), bx g5 [(.int .i64 b.Nodes), u1]]) [false, true, true] rfl ?_
                      refine C_reg ?_
                      refine p1 rfl ?_
                      refine q1 rfl (D_add rfl rfl rfl (r := ((k + 1 : Nat) : Int)) (by omega) (by omega)) ?_
                      refine p1 rfl ?_
                      refine D_end ?_
                      refine x_then ?_
                      refine fun ac w' hf hs => ⟨_, ?_, k + 1, (upd gb (r0.For.toNat) fine), ?_, ?_, ?_, rfl, hf.weak ⟨rfl, rfl, rfl, rfl, rfl, trivial⟩, hs⟩
                      · omega
                      · first | assumption | omega | simp
                      · refine hG2.set (fun e => ?_); first | exact hG2 _ (by assumption) | (rw [e] at hfi; have hfi2 := hfi.symm; rw [Bool.and_eq_true, List.take_of_length_le (by omega)] at hfi2; exact Pl.of hG2 hr0 hfi2.1 (by rw [← hn]; exact isR_in hv0) hfi2.2)
                      · exact hP.next (fine := fine) hr0 (by rw [← hn]; exact isR_in hv0) (by rwa [show m = r0.In.length by omega] at hfi) (by first | (rw [show gb r0.For.toNat = true by assumption]; rfl) | (rw [show gb r0.For.toNat = false by assumption]; rfl)) hAr
            · have pr10 : ¬ (((k : Nat) : Int) : Int) < ((b.Reasons.length : Nat) : Int) := of_decide_eq_false h10
              refine C_exit ?_
              refine x_then_exit ?_
              refine x_then_exit ?_
              refine x_blk_eq ?_
              refine x_blk ?_
              refine x_then ?_
              refine C_reg ?_
              refine p1 rfl ?_
              refine q1 rfl (D_add rfl rfl rfl (r := ((q + 1 : Nat) : Int)) (by omega) (by omega)) ?_
              refine p1 rfl ?_
              refine D_end ?_
              refine x_then ?_
              refine fun ac w' hf hs => ⟨_, ?_, q + 1, gb, ?_, ?_, ?_, ?_, rfl, hf.weak ⟨rfl, rfl, rfl, rfl, trivial⟩, hs⟩
              · omega
              · first | assumption | omega | simp
              · exact hG2
              · exact lab_pass hn ho hG2 (by rwa [show k = b.Reasons.length by omega] at hP) hQ
              · intro _; exact labA_of (fun i h r => hP.2.2 i r (by omega))
        · have pr9 : ¬ (((q : Nat) : Int) : Int) ≤ b.Nodes := of_decide_eq_false h9
          refine C_exit ?_
          refine x_then_exit ?_
          refine x_then_exit ?_
          refine x_blk_eq ?_
          refine x_then ?_
          refine C_seq ?_
          refine C_seq ?_
          have hC : LabC b l ga := by rcases hQ with h | h; (· have := cnt_le n ga; omega); (· exact h)
          have hA := hQA (by omega)
          refine C_reg ?_
          refine p1 rfl ?_
          refine D_end ?_
          refine x_then ?_
          refine C_block ?_
          refine C_loop (fun m_ ac w' => ∃ (x : Nat), (x ≤ n) ∧ (∀ i, i < x → atB l i = true → Pl b l i) ∧ m_ = n - x ∧ Fits ac 102 [(1, v_l), (2, (.pointer (some ⟨g5, 0, none⟩))), (5, v8), (11, (.int .i64 ((x : Nat) : Int)))] ∧ St w ([ov [v8] (vec n ga : (List Bool)), bx g5 [(.int .i64 b.Nodes), u1]]) w') ?_ ?_
          · refine fun ac w' hf hs => ⟨_, 0, ?_, ?_, rfl, hf.weak ⟨rfl, rfl, rfl, rfl, trivial⟩, hs⟩
            · first | assumption | omega | simp
            · intro i hi; omega
          · rintro m_ ac w' ⟨x, hx, hX, rfl, hf, hs⟩
            refine D.use ?_ hf hs
            clear hf hs ac w'
            refine C_seq ?_
            refine C_seq ?_
            refine C_reg ?_
            refine p1 rfl ?_
            refine q1 rfl (D_fb f_29_0 rfl rfl (q := 0) rfl) ?_
            refine q1 rfl (lb 1 o_3 rfl rfl rfl rfl) ?_
            refine p1 rfl ?_
            refine D_end ?_
            refine x_then ?_
            refine C_if _ rfl (fun h47 => ?_) (fun h47 => ?_)
            · have pr47 : (((x : Nat) : Int) : Int) < b.Nodes := of_decide_eq_true h47
              refine C_skip ?_
              refine x_then ?_
              refine C_seq ?_
              refine C_block ?_
              refine C_seq ?_
              refine C_draw mixed [] (by kernel_rfl) ?_
              refine tk 0 rfl (by kernel_rfl) (by kernel_rfl) (by kernel_rfl) rfl (fun _ hs => hs) (rp rfl) ?_
              refine tk 1 rfl (by kernel_rfl) (by kernel_rfl) (by kernel_rfl) rfl (fun _ hs => hs) (rp rfl) ?_
              obtain ⟨v3, hv3⟩ := some_of_lt (l := l) (i := x) (by omega)
              obtain ⟨es48, at49, hr50⟩ := rd_elem (n := 1) rfl h_l hv3
              obtain rfl : es48 = [.bool v3] := hr50
              refine tk 2 rfl (by kernel_rfl) (by kernel_rfl) (by kernel_rfl) rfl (fun _ hs => hs) (D_ix (l := l) (j := x) s_52 rfl rfl rfl (fun w' hs => (rd_at hs h_l)) rfl (lt_of_some hv3)) ?_
              refine tk 3 rfl (by kernel_rfl) (by kernel_rfl) (by kernel_rfl) rfl (fun _ hs => hs) (lr0 o_4 rfl rfl at49 rfl) ?_
              refine tk 4 rfl (by kernel_rfl) (by kernel_rfl) (by kernel_rfl) rfl (fun _ hs => hs) (rp rfl) ?_
              refine tk 5 rfl (by kernel_rfl) (by kernel_rfl) (by kernel_rfl) rfl (fun _ hs => hs) (rp rfl) ?_
              have hx52 : (vec n ga)[x]? = some (ga x) := vec_get (by omega)
              refine tk 6 rfl (by kernel_rfl) (by kernel_rfl) (by kernel_rfl) rfl (fun _ hs => hs) (D_ix (l := (vec n ga)) (j := x) s_52 rfl rfl rfl (fun w' hs => (rd_own (k := 0) hs rfl)) rfl (lt_of_some hx52)) ?_
              refine tk 7 rfl (by kernel_rfl) (by kernel_rfl) (by kernel_rfl) rfl (fun _ hs => hs) (lo (α := Bool) 0 o_4 rfl rfl rfl hx52) ?_
              refine tk 8 rfl (by kernel_rfl) (by kernel_rfl) (by kernel_rfl) rfl (fun _ hs => hs) (D_neB ub_4 rfl rfl rfl) ?_
              refine tE (by kernel_rfl) ?_
              refine x_then ?_
              refine C_if _ rfl (fun h53 => ?_) (fun h53 => ?_)
              · refine C_seq ?_
                refine C_reg ?_
                refine p1 rfl ?_
                refine D_end ?_
                refine x_then ?_
                refine D_weak [(4, (.bool false))] ⟨rfl, trivial⟩ ?_
                refine C_ret ?_
                refine x_blk_ret ?_
                refine x_then_ret ?_
                refine x_then_ret ?_
                refine x_blk_ret ?_
                refine x_then_ret ?_
                refine R_1 rfl rfl fun w' hs => ⟨congrArg (fun z => Ending.returned (Value.bool z)) ?_, hs.bel⟩
                show (false : Bool) = isLab b l
                cases hvv : v3 with | true => (exact lab_n4 (x := x) (by omega) (by rw [atB_of hv3]; exact hvv) (fun hp => by have hq := hC.all _ hp; rw [hvv, hq] at h53; cases h53)) | false => (exfalso; cases hg : ga x with | true => (have hq := pl_l hA (hG _ hg); rw [atB_of hv3, hvv] at hq; cases hq) | false => (rw [hvv, hg] at h53; cases h53))
              · have pr53 : v3 = (ga x) := beq_of_not h53
                refine C_skip ?_
                refine x_blk ?_
                refine x_then ?_
                refine C_reg ?_
                refine p1 rfl ?_
                refine q1 rfl (D_add rfl rfl rfl (r := ((x + 1 : Nat) : Int)) (by omega) (by omega)) ?_
                refine p1 rfl ?_
                refine D_end ?_
                refine x_then ?_
                refine fun ac w' hf hs => ⟨_, ?_, x + 1, ?_, ?_, rfl, hf.weak ⟨rfl, rfl, rfl, rfl, trivial⟩, hs⟩
                · omega
                · first | assumption | omega | simp
                · refine forall_step hX ?_; intro hl; rw [atB_of hv3] at hl; exact hG _ ((beq_of_not h53).symm.trans hl)
            · have pr47 : ¬ (((x : Nat) : Int) : Int) < b.Nodes := of_decide_eq_false h47
              refine C_exit ?_
              refine x_then_exit ?_
              refine x_then_exit ?_
              refine x_blk_eq ?_
              refine x_then ?_
              refine C_seq ?_
              refine C_reg ?_
              refine p1 rfl ?_
              refine D_end ?_
              refine x_then ?_
              refine C_ret ?_
              refine R_1 rfl rfl fun w' hs => ⟨congrArg (fun z => Ending.returned (Value.bool z)) ?_, hs.bel⟩
              show (true : Bool) = isLab b l
              exact lab_y hib hll hA (fun x hx => hX x (by omega))

theorem laws_FnExactIsLabeling (w : World) (c_aB : List Value) (aB : Beliefs) (v_aL : Value) (aL : (List Bool)) (h_aB : Gd.rd w c_aB aB) (h_aL : Gd.rd w [v_aL] aL) : Calls Try.prog 7 [(.agg c_aB.toArray), v_aL].toArray w (Val w (.bool (true))) := by
  obtain ⟨u1, rfl, hu2⟩ := open_Beliefs h_aB
  have hm3 := rd_max hu2
  have hm4 := rd_max h_aL
  have hz1 := szB_len aB
  have hz2 := szB_sum aB
  refine enter 43 Try.func7 rfl rfl rfl ?_
  refine C_seq ?_
  refine C_reg ?_
  refine li rfl (D_box rfl rfl rfl rfl rfl fun g5 => ?_)
  refine p1 rfl ?_
  refine D_end ?_
  refine x_then ?_
  refine D_H ([bx g5 [(.int .i64 aB.Nodes), u1]]) rfl ?_
  refine C_seq ?_
  refine C_seq ?_
  refine C_reg ?_
  refine p1 rfl ?_
  refine q1 rfl (D_len s_52 rfl rfl (rd_sl h_aL)) ?_
  refine p1 rfl ?_
  refine D_end ?_
  refine x_then ?_
  refine C_if _ rfl (fun h6 => ?_) (fun h6 => ?_)
  · have pr6 : (1048576 : Int) < ((aL.length : Nat) : Int) := of_decide_eq_true h6
    refine C_seq ?_
    refine C_reg ?_
    refine p1 rfl ?_
    refine D_end ?_
    refine x_then ?_
    refine C_ret ?_
    refine x_then_ret ?_
    refine R_1 rfl rfl fun w' hs => ⟨congrArg (fun z => Ending.returned (Value.bool z)) ?_, hs.bel⟩
    show (true : Bool) = true
    first | rfl | (exfalso; omega) | (exfalso; simp only [mapS_len, sumB_mk, sumR_mk] at *; omega) | exact absurd h6 (by simp [mapS_len])
  · have pr6 : ¬ (1048576 : Int) < ((aL.length : Nat) : Int) := of_decide_eq_false h6
    refine C_skip ?_
    refine x_then ?_
    refine C_seq ?_
    refine C_reg ?_
    refine p1 rfl ?_
    refine D_end ?_
    refine x_then ?_
    refine C_seq ?_
    refine C_reg ?_
    refine q1 rfl (lbw 0 a_24 rfl rfl rfl) ?_
    refine p1 rfl ?_
    refine li rfl (cv b_9 rfl rfl rfl rfl (fun w' hs => (laws_szBeliefs w' [(.int .i64 aB.Nodes), u1] aB 1048576 (rd_at hs h_aB) (by first | assumption | omega | (unfold szm at *; split at * <;> omega)) (by first | assumption | omega | (unfold szm at *; split at * <;> omega)))) ?_)
    refine p1 rfl ?_
    refine D_end ?_
    refine x_then ?_
    refine C_seq ?_
    refine C_seq ?_
    refine C_reg ?_
    refine p1 rfl <| p1 rfl ?_
    refine D_end ?_
    refine x_then ?_
    refine C_if _ rfl (fun h7 => ?_) (fun h7 => ?_)
    · have pr7 : ((szm (szB aB) 1048576) : Int) < 0 := of_decide_eq_true h7
      refine C_seq ?_
      refine C_reg ?_
      refine p1 rfl ?_
      refine D_end ?_
      refine x_then ?_
      refine C_ret ?_
      refine x_then_ret ?_
      refine R_1 rfl rfl fun w' hs => ⟨congrArg (fun z => Ending.returned (Value.bool z)) ?_, hs.bel⟩
      show (true : Bool) = true
      first | rfl | (exfalso; omega) | (exfalso; simp only [mapS_len, sumB_mk, sumR_mk] at *; omega) | exact absurd h7 (by simp [mapS_len])
    · have pr7 : ¬ ((szm (szB aB) 1048576) : Int) < 0 := of_decide_eq_false h7
      have pr7z := szm_val (n := (szB aB)) (left := 1048576) pr7
      refine C_skip ?_
      refine x_then ?_
      refine C_seq ?_
      refine C_reg ?_
      refine q1 rfl (lbw 0 a_24 rfl rfl rfl) ?_
      refine li rfl (crs rfl b_11 rfl rfl rfl rfl (fun w' hs => (laws_toBeliefs w' [(.int .i64 aB.Nodes), u1] aB (rd_at hs h_aB) (by first | assumption | omega | (unfold szm at *; split at * <;> omega)))) fun cs8 => ?_)
      refine D_pre (fun w' hs => shape_Beliefs (rd_own (k := 0) hs rfl)) ?_
      rintro ⟨v9, rfl, ho10⟩
      refine p1 rfl ?_
      refine li rfl (crl b_30 rfl rfl rfl rfl (fun w' hs => (laws_toBoolS w' v_aL aL (rd_at hs h_aL) (by first | assumption | omega | (unfold szm at *; split at * <;> omega)))) fun v11 => ?_)
      refine li rfl (cv b_29 rfl rfl rfl rfl (fun w' hs => (spec_IsLabeling w' [(.int .i64 aB.Nodes), v9] aB v11 aL (rd_own (k := 1) hs rfl) (rd_own (k := 0) hs rfl))) ?_)
      refine p1 rfl ?_
      refine D_end ?_
      refine x_then ?_
      refine D_weak [(1, v_aL), (2, (.pointer (some ⟨g5, 0, none⟩))), (6, (.bool (isLab aB aL)))] ⟨rfl, rfl, rfl, trivial⟩ ?_
      refine D_sel (H' := [bx g5 [(.int .i64 aB.Nodes), u1]]) [false, false, true] rfl ?_
      refine C_seq ?_
      refine C_reg ?_
      refine q1 rfl (lbw 0 a_24 rfl rfl rfl) ?_
      refine li rfl (crs rfl b_11 rfl rfl rfl rfl (fun w' hs => (laws_toBeliefs w' [(.int .i64 aB.Nodes), u1] aB (rd_at hs h_aB) (by first | assumption | omega | (unfold szm at *; split at * <;> omega)))) fun cs12 => ?_)
      refine D_pre (fun w' hs => shape_Beliefs (rd_own (k := 0) hs rfl)) ?_
      rintro ⟨v13, rfl, ho14⟩
      refine li rfl (D_alloc y_29 rfl rfl rfl rfl fun g15 => ?_)
      refine li rfl (D_stb (vs := [(.int .i64 aB.Nodes), v13]) (cs' := [(.int .i64 aB.Nodes), v13]) 0 z_29 rfl rfl rfl rfl rfl rfl (ocons rfl (ocons ho14 onil)) (by simp) rfl ?_)
      refine D_end ?_
      refine x_then ?_
      refine D_H ([bx g15 [(.int .i64 aB.Nodes), v13], ov [(.int .i64 aB.Nodes), v13] (aB : Beliefs), bx g5 [(.int .i64 aB.Nodes), u1]]) rfl ?_
      refine C_seq ?_
      refine C_reg ?_
      refine p1 rfl ?_
      refine li rfl (crl b_30 rfl rfl rfl rfl (fun w' hs => (laws_toBoolS w' v_aL aL (rd_at hs h_aL) (by first | assumption | omega | (unfold szm at *; split at * <;> omega)))) fun v16 => ?_)
      refine p1 rfl ?_
      refine D_end ?_
      refine x_then ?_
      refine D_H ([ov [v16] (aL : (List Bool)), bx g15 [(.int .i64 aB.Nodes), v13], ov [(.int .i64 aB.Nodes), v13] (aB : Beliefs), bx g5 [(.int .i64 aB.Nodes), u1]]) rfl ?_
      refine C_seq ?_
      refine C_reg ?_
      refine q1 rfl (lbw 1 a_29 rfl rfl rfl) ?_
      refine p1 rfl ?_
      refine li rfl (cv b_31 rfl rfl rfl rfl (fun w' hs => (impl_IsLabeling w' [(.int .i64 aB.Nodes), v13] aB v16 aL (rd_own (k := 2) hs rfl) (rd_own (k := 0) hs rfl))) ?_)
      refine p1 rfl ?_
      refine D_end ?_
      refine x_then ?_
      refine C_seq ?_
      refine C_seq ?_
      refine C_reg ?_
      refine p1 rfl <| p1 rfl ?_
      refine q1 rfl (D_neB ub_4 rfl rfl rfl) ?_
      refine D_end ?_
      refine x_then ?_
      refine C_if _ rfl (fun h17 => ?_) (fun h17 => ?_)
      · refine C_seq ?_
        refine C_reg ?_
        refine p1 rfl ?_
        refine D_end ?_
        refine x_then ?_
        refine D_weak [(4, (.bool false))] ⟨rfl, trivial⟩ ?_
        refine D_sel (H' := []) [false, false, false, false] rfl ?_
        refine C_ret ?_
        refine x_then_ret ?_
        refine R_1 rfl rfl fun w' hs => ⟨congrArg (fun z => Ending.returned (Value.bool z)) ?_, hs.bel⟩
        show (false : Bool) = true
        first | rfl | (exfalso; omega) | (exfalso; simp only [mapS_len, sumB_mk, sumR_mk] at *; omega) | exact absurd h17 (by simp [mapS_len])
      · have pr17 : (isLab aB aL) = (isLab aB aL) := beq_of_not h17
        refine C_skip ?_
        refine x_then ?_
        refine C_seq ?_
        refine C_seq ?_
        refine C_draw mixed [3] (by kernel_rfl) ?_
        refine tk 0 rfl (by kernel_rfl) (by kernel_rfl) (by kernel_rfl) rfl (fun _ hs => hs) (lbw 1 a_29 rfl rfl rfl) ?_
        refine tk 1 rfl (by kernel_rfl) (by kernel_rfl) (by kernel_rfl) rfl (fun _ hs => hs) (lbw 3 a_24 rfl rfl rfl) ?_
        refine ty 2 rfl (by kernel_rfl) rfl (crs rfl b_11 rfl rfl rfl rfl (fun w' hs => (laws_toBeliefs w' [(.int .i64 aB.Nodes), u1] aB (rd_at hs h_aB) (by first | assumption | omega | (unfold szm at *; split at * <;> omega)))) fun cs18 => ?_)
        refine D_pre (fun w' hs => shape_Beliefs (rd_own (k := 0) hs rfl)) ?_
        rintro ⟨v19, rfl, ho20⟩
        refine tS (fun _ hs => hs.pk [1, 2, 3, 4] rfl rfl) ?_
        refine ty 3 rfl (by kernel_rfl) rfl (cv b_14 rfl rfl rfl rfl (fun w' hs => (laws_eqBeliefs w' [(.int .i64 aB.Nodes), v13] aB [(.int .i64 aB.Nodes), v19] aB (rd_own (k := 3) hs rfl) (rd_own (k := 0) hs rfl))) ?_)
        refine tZ rfl ?_
        refine tk 4 rfl (by kernel_rfl) (by kernel_rfl) (by kernel_rfl) rfl (fun _ hs => hs.pk [1, 2, 3, 4] rfl rfl) (rp rfl) ?_
        refine tE (by kernel_rfl) ?_
        refine x_then ?_
        refine D_weak [(1, v_aL), (8, v16), (37, (.bool (!(decide (aB = aB)))))] ⟨rfl, rfl, rfl, trivial⟩ ?_
        refine D_sel (H' := [ov [v16] (aL : (List Bool))]) [false, true, false, false, false] rfl ?_
        refine C_if _ rfl (fun h21 => ?_) (fun h21 => ?_)
        · have h21n : (decide (aB = aB)) = false := not_t h21
          refine C_seq ?_
          refine C_reg ?_
          refine p1 rfl ?_
          refine D_end ?_
          refine x_then ?_
          refine C_ret ?_
          refine x_then_ret ?_
          refine R_1 rfl rfl fun w' hs => ⟨congrArg (fun z => Ending.returned (Value.bool z)) ?_, hs.bel⟩
          show (false : Bool) = true
          first | rfl | (exfalso; omega) | (exfalso; simp only [mapS_len, sumB_mk, sumR_mk] at *; omega) | exact absurd h21 (by simp [mapS_len])
        · have h21n : (decide (aB = aB)) = true := not_f h21
          refine C_skip ?_
          refine x_then ?_
          refine C_seq ?_
          refine C_seq ?_
          refine C_reg ?_
          refine p1 rfl <| p1 rfl ?_
          refine li rfl (crl b_30 rfl rfl rfl rfl (fun w' hs => (laws_toBoolS w' v_aL aL (rd_at hs h_aL) (by first | assumption | omega | (unfold szm at *; split at * <;> omega)))) fun v22 => ?_)
          refine li rfl (cv b_32 rfl rfl rfl rfl (fun w' hs => (laws_eqBoolS w' v16 aL v22 aL (rd_own (k := 1) hs rfl) (rd_own (k := 0) hs rfl))) ?_)
          refine p1 rfl ?_
          refine D_end ?_
          refine x_then ?_
          refine D_H ([ov [v22] (aL : (List Bool)), ov [v16] (aL : (List Bool))]) rfl ?_
          refine C_if _ rfl (fun h23 => ?_) (fun h23 => ?_)
          · have h23n : (decide (aL = aL)) = false := not_t h23
            refine C_seq ?_
            refine C_reg ?_
            refine p1 rfl ?_
            refine D_end ?_
            refine x_then ?_
            refine C_ret ?_
            refine x_then_ret ?_
            refine R_1 rfl rfl fun w' hs => ⟨congrArg (fun z => Ending.returned (Value.bool z)) ?_, hs.bel⟩
            show (false : Bool) = true
            first | rfl | (exfalso; omega) | (exfalso; simp only [mapS_len, sumB_mk, sumR_mk] at *; omega) | exact absurd h23 (by simp [mapS_len])
          · have h23n : (decide (aL = aL)) = true := not_f h23
            refine C_skip ?_
            refine x_then ?_
            refine C_seq ?_
            refine C_reg ?_
            refine p1 rfl ?_
            refine D_end ?_
            refine x_then ?_
            refine C_ret ?_
            refine R_1 rfl rfl fun w' hs => ⟨congrArg (fun z => Ending.returned (Value.bool z)) ?_, hs.bel⟩
            show (true : Bool) = true
            first | rfl | (exfalso; omega) | (exfalso; simp only [mapS_len, sumB_mk, sumR_mk] at *; omega) | exact absurd h23 (by simp [mapS_len])
end Go.Sy.Bela
