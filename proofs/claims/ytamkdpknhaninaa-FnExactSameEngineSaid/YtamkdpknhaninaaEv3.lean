/-
  Contracts of functions of the program, walked (printed by a program of ours).
  Conditions: those that each theorem states.
-/
import Derived.Test.YtamkdpknhaninaaEv2
set_option linter.unusedVariables false
set_option maxRecDepth 20000
namespace Go.Sy.Ev3
open Go Go.RowKit Go.Proofs Go.Sy
theorem mixed : Try.prog.follows .mixedOrders = true := by kernel_rfl
theorem s_22 : sliceTy Try.prog 22 = some (9, 1, 16) := by kernel_rfl
theorem o_9 : oneTy Try.prog 9 = true := by kernel_rfl
theorem s_69 : sliceTy Try.prog 69 = some (3, 1, 8) := by kernel_rfl
theorem o_3 : oneTy Try.prog 3 = true := by kernel_rfl
theorem f_29_0 : fieldOff Try.prog 29 0 = some 0 := by kernel_rfl
theorem f_29_1 : fieldOff Try.prog 29 1 = some 1 := by kernel_rfl
theorem o_22 : oneTy Try.prog 22 = true := by kernel_rfl
theorem b_65 : hasBody Try.prog 65 = true := by kernel_rfl
theorem b_60 : hasBody Try.prog 60 = true := by kernel_rfl
theorem f_98_0 : fieldOff Try.prog 98 0 = some 0 := by kernel_rfl
theorem f_98_1 : fieldOff Try.prog 98 1 = some 1 := by kernel_rfl
theorem f_100_0 : fieldOff Try.prog 100 0 = some 0 := by kernel_rfl
theorem f_100_2 : fieldOff Try.prog 100 2 = some 3 := by kernel_rfl
theorem f_100_3 : fieldOff Try.prog 100 3 = some 4 := by kernel_rfl
theorem f_100_1 : fieldOff Try.prog 100 1 = some 1 := by kernel_rfl
theorem a_98 : aggTy Try.prog 98 = some 2 := by kernel_rfl
theorem b_78 : hasBody Try.prog 78 = true := by kernel_rfl
theorem b_59 : hasBody Try.prog 59 = true := by kernel_rfl
theorem f_71_0 : fieldOff Try.prog 71 0 = some 0 := by kernel_rfl
theorem f_71_1 : fieldOff Try.prog 71 1 = some 1 := by kernel_rfl
theorem o_69 : oneTy Try.prog 69 = true := by kernel_rfl
theorem b_66 : hasBody Try.prog 66 = true := by kernel_rfl
theorem f_31_0 : fieldOff Try.prog 31 0 = some 0 := by kernel_rfl
theorem f_31_1 : fieldOff Try.prog 31 1 = some 1 := by kernel_rfl
theorem f_31_2 : fieldOff Try.prog 31 2 = some 2 := by kernel_rfl
theorem a_29 : aggTy Try.prog 29 = some 2 := by kernel_rfl
theorem b_32 : hasBody Try.prog 32 = true := by kernel_rfl
theorem f_66_0 : fieldOff Try.prog 66 0 = some 0 := by kernel_rfl
theorem f_66_1 : fieldOff Try.prog 66 1 = some 1 := by kernel_rfl
theorem f_66_2 : fieldOff Try.prog 66 2 = some 2 := by kernel_rfl
theorem o_63 : oneTy Try.prog 63 = true := by kernel_rfl
theorem s_63 : sliceTy Try.prog 63 = some (100, 5, 80) := by kernel_rfl
theorem f_66_3 : fieldOff Try.prog 66 3 = some 3 := by kernel_rfl
theorem o_64 : oneTy Try.prog 64 = true := by kernel_rfl
theorem s_64 : sliceTy Try.prog 64 = some (102, 3, 48) := by kernel_rfl
theorem a_100 : aggTy Try.prog 100 = some 5 := by kernel_rfl
theorem b_77 : hasBody Try.prog 77 = true := by kernel_rfl
theorem f_102_0 : fieldOff Try.prog 102 0 = some 0 := by kernel_rfl
theorem f_102_1 : fieldOff Try.prog 102 1 = some 1 := by kernel_rfl
theorem b_58 : hasBody Try.prog 58 = true := by kernel_rfl
theorem s_44 : sliceTy Try.prog 44 = some (66, 4, 72) := by kernel_rfl
theorem a_66 : aggTy Try.prog 66 = some 4 := by kernel_rfl
theorem b_64 : hasBody Try.prog 64 = true := by kernel_rfl
theorem s_47 : sliceTy Try.prog 47 = some (31, 4, 64) := by kernel_rfl
theorem b_40 : hasBody Try.prog 40 = true := by kernel_rfl
theorem f_49_0 : fieldOff Try.prog 49 0 = some 0 := by kernel_rfl
theorem o_44 : oneTy Try.prog 44 = true := by kernel_rfl
theorem b_39 : hasBody Try.prog 39 = true := by kernel_rfl
theorem f_49_1 : fieldOff Try.prog 49 1 = some 1 := by kernel_rfl
theorem o_45 : oneTy Try.prog 45 = true := by kernel_rfl
theorem s_45 : sliceTy Try.prog 45 = some (68, 3, 48) := by kernel_rfl
theorem f_49_2 : fieldOff Try.prog 49 2 = some 2 := by kernel_rfl
theorem f_49_3 : fieldOff Try.prog 49 3 = some 3 := by kernel_rfl
theorem o_46 : oneTy Try.prog 46 = true := by kernel_rfl
theorem s_46 : sliceTy Try.prog 46 = some (71, 2, 40) := by kernel_rfl
theorem f_49_4 : fieldOff Try.prog 49 4 = some 4 := by kernel_rfl
theorem o_4 : oneTy Try.prog 4 = true := by kernel_rfl
theorem ub_4 : Try.prog.underlying 4 = some .bool := by kernel_rfl
theorem f_68_1 : fieldOff Try.prog 68 1 = some 2 := by kernel_rfl
theorem f_68_0 : fieldOff Try.prog 68 0 = some 0 := by kernel_rfl
theorem a_71 : aggTy Try.prog 71 = some 2 := by kernel_rfl
theorem b_41 : hasBody Try.prog 41 = true := by kernel_rfl
theorem f_49_5 : fieldOff Try.prog 49 5 = some 5 := by kernel_rfl
theorem o_47 : oneTy Try.prog 47 = true := by kernel_rfl
theorem b_42 : hasBody Try.prog 42 = true := by kernel_rfl
theorem b_31 : hasBody Try.prog 31 = true := by kernel_rfl
theorem b_33 : hasBody Try.prog 33 = true := by kernel_rfl
theorem a_31 : aggTy Try.prog 31 = some 4 := by kernel_rfl
theorem b_34 : hasBody Try.prog 34 = true := by kernel_rfl
theorem a_41 : aggTy Try.prog 41 = some 6 := by kernel_rfl
theorem b_13 : hasBody Try.prog 13 = true := by kernel_rfl
theorem b_15 : hasBody Try.prog 15 = true := by kernel_rfl
theorem b_14 : hasBody Try.prog 14 = true := by kernel_rfl
theorem y_49 : zeroTy Try.prog 49 = some (.agg #[(.slice none 0 0), (.slice none 0 0), (.int .i64 0), (.slice none 0 0), (.bool false), (.slice none 0 0)]) := by kernel_rfl
theorem z_49 : sizeTy Try.prog 49 = some 6 := by kernel_rfl
theorem a_49 : aggTy Try.prog 49 = some 6 := by kernel_rfl
theorem b_16 : hasBody Try.prog 16 = true := by kernel_rfl
theorem b_17 : hasBody Try.prog 17 = true := by kernel_rfl
open Go.Sy.Bel1 Go.Sy.Ev1 Go.Sy.Ev2
theorem impl_sameTexts (w : World) (v_a : Value) (a : (List ByteArray)) (v_b : Value) (b : (List ByteArray)) (h_a : Gd.rd w [v_a] a) (h_b : Gd.rd w [v_b] b) : Calls Try.prog 65 [v_a, v_b].toArray w (Val w (.bool (decide (a = b)))) := by
  have hm1 := rd_max h_a
  have hm2 := rd_max h_b
  refine enter 26 Try.func65 rfl rfl rfl ?_
  refine C_seq ?_
  refine C_reg ?_
  refine p1 rfl ?_
  refine D_end ?_
  refine x_then ?_
  refine C_seq ?_
  refine C_seq ?_
  refine C_reg ?_
  refine p1 rfl ?_
  refine q1 rfl (D_len s_22 rfl rfl (rd_sl h_a)) ?_
  refine p1 rfl ?_
  refine q1 rfl (D_len s_22 rfl rfl (rd_sl h_b)) ?_
  refine p1 rfl ?_
  refine D_end ?_
  refine x_then ?_
  refine C_if _ rfl (fun h3 => ?_) (fun h3 => ?_)
  · have pr3 : (((a.length : Nat) : Int) : Int) ≠ ((b.length : Nat) : Int) := bne_iff_ne.1 h3
    refine C_seq ?_
    refine C_reg ?_
    refine p1 rfl ?_
    refine D_end ?_
    refine x_then ?_
    refine C_ret ?_
    refine x_then_ret ?_
    refine R_1 rfl rfl fun w' hs => ⟨congrArg (fun z => Ending.returned (Value.bool z)) ?_, hs.bel⟩
    show (false : Bool) = decide (a = b)
    simp; intro e; subst e; simp_all
  · have pr3 : (((a.length : Nat) : Int) : Int) = ((b.length : Nat) : Int) := eq_of_bne_f h3
    refine C_skip ?_
    refine x_then ?_
    refine C_seq ?_
    refine C_seq ?_
    refine C_reg ?_
    refine p1 rfl ?_
    refine q1 rfl (D_len s_22 rfl rfl (rd_sl h_a)) ?_
    refine p1 rfl ?_
    refine D_end ?_
    refine x_then ?_
    refine C_block ?_
    refine C_loop (fun m_ ac w' => ∃ (k : Nat), (k ≤ a.length) ∧ (∀ i, i < k → a[i]? = b[i]?) ∧ m_ = a.length - k ∧ Fits ac 26 [(0, v_a), (1, v_b), (12, (.int .i64 ((a.length : Nat) : Int))), (13, (.int .i64 ((k : Nat) : Int)))] ∧ St w ([]) w') ?_ ?_
    · refine fun ac w' hf hs => ⟨_, 0, ?_, ?_, rfl, hf.weak ⟨rfl, rfl, rfl, rfl, trivial⟩, hs⟩
      · first | assumption | omega | simp
      · intro i hi; omega
    · rintro m_ ac w' ⟨k, hk, hi, rfl, hf, hs⟩
      refine D.use ?_ hf hs
      clear hf hs ac w'
      refine C_seq ?_
      refine C_reg ?_
      refine p1 rfl ?_
      refine D_end ?_
      refine x_then ?_
      refine C_seq ?_
      refine C_if _ rfl (fun h4 => ?_) (fun h4 => ?_)
      · have pr4 : (((k : Nat) : Int) : Int) < ((a.length : Nat) : Int) := of_decide_eq_true h4
        refine C_skip ?_
        refine x_then ?_
        refine C_seq ?_
        refine C_block ?_
        refine C_seq ?_
        refine C_reg ?_
        refine p1 rfl <| p1 rfl ?_
        refine D_end ?_
        refine x_then ?_
        refine C_seq ?_
        refine C_draw mixed [] (by kernel_rfl) ?_
        refine tk 0 rfl (by kernel_rfl) (by kernel_rfl) (by kernel_rfl) rfl (fun _ hs => hs) (rp rfl) ?_
        refine tk 1 rfl (by kernel_rfl) (by kernel_rfl) (by kernel_rfl) rfl (fun _ hs => hs) (rp rfl) ?_
        obtain ⟨x5, hx6⟩ := some_of_lt (l := a) (i := k) (by omega)
        obtain ⟨es7, at8, hr9⟩ := rd_elem (n := 1) rfl h_a hx6
        obtain rfl : es7 = [.string x5] := hr9
        refine tk 2 rfl (by kernel_rfl) (by kernel_rfl) (by kernel_rfl) rfl (fun _ hs => hs) (D_ix (l := a) (j := k) s_22 rfl rfl rfl (fun w' hs => (rd_at hs h_a)) rfl (lt_of_some hx6)) ?_
        refine tk 3 rfl (by kernel_rfl) (by kernel_rfl) (by kernel_rfl) rfl (fun _ hs => hs) (lr0 o_9 rfl rfl at8 rfl) ?_
        refine tk 4 rfl (by kernel_rfl) (by kernel_rfl) (by kernel_rfl) rfl (fun _ hs => hs) (rp rfl) ?_
        refine tk 5 rfl (by kernel_rfl) (by kernel_rfl) (by kernel_rfl) rfl (fun _ hs => hs) (rp rfl) ?_
        obtain ⟨x10, hx11⟩ := some_of_lt (l := b) (i := k) (by omega)
        obtain ⟨es12, at13, hr14⟩ := rd_elem (n := 1) rfl h_b hx11
        obtain rfl : es12 = [.string x10] := hr14
        refine tk 6 rfl (by kernel_rfl) (by kernel_rfl) (by kernel_rfl) rfl (fun _ hs => hs) (D_ix (l := b) (j := k) s_22 rfl rfl rfl (fun w' hs => (rd_at hs h_b)) rfl (lt_of_some hx11)) ?_
        refine tk 7 rfl (by kernel_rfl) (by kernel_rfl) (by kernel_rfl) rfl (fun _ hs => hs) (lr0 o_9 rfl rfl at13 rfl) ?_
        refine tk 8 rfl (by kernel_rfl) (by kernel_rfl) (by kernel_rfl) rfl (fun _ hs => hs) (D_neS rfl rfl rfl) ?_
        refine tE (by kernel_rfl) ?_
        refine x_then ?_
        refine C_if _ rfl (fun h15 => ?_) (fun h15 => ?_)
        · have pr15 : ¬ (x5 : ByteArray) = x10 := of_decide_eq_false (not_t h15)
          refine C_seq ?_
          refine C_reg ?_
          refine p1 rfl ?_
          refine D_end ?_
          refine x_then ?_
          refine D_weak [(4, (.bool false))] ⟨rfl, trivial⟩ ?_
          refine C_ret ?_
          refine x_blk_ret ?_
          refine x_then_ret ?_
          refine x_then_ret ?_
          refine x_blk_ret ?_
          refine x_then_ret ?_
          refine R_1 rfl rfl fun w' hs => ⟨congrArg (fun z => Ending.returned (Value.bool z)) ?_, hs.bel⟩
          show (false : Bool) = decide (a = b)
          simp; intro e; subst e; simp_all
        · have pr15 : (x5 : ByteArray) = x10 := of_decide_eq_true (not_f h15)
          refine C_skip ?_
          refine x_blk ?_
          refine x_then ?_
          refine C_reg ?_
          refine q1 rfl (D_add rfl rfl rfl (r := ((k + 1 : Nat) : Int)) (by omega) (by omega)) ?_
          refine p1 rfl ?_
          refine D_end ?_
          refine x_then ?_
          refine fun ac w' hf hs => ⟨_, ?_, k + 1, ?_, ?_, rfl, hf.weak ⟨rfl, rfl, rfl, rfl, trivial⟩, hs⟩
          · omega
          · first | assumption | omega | simp
          · refine idx_step hi (by assumption) (by assumption) ?_; first | (simp_all; done) | (apply Fact.mk_eq <;> simp_all)
      · have pr4 : ¬ (((k : Nat) : Int) : Int) < ((a.length : Nat) : Int) := of_decide_eq_false h4
        refine C_exit ?_
        refine x_then_exit ?_
        refine x_then_exit ?_
        refine x_blk_eq ?_
        refine x_then ?_
        refine C_seq ?_
        refine C_reg ?_
        refine p1 rfl ?_
        refine D_end ?_
        refine x_then ?_
        refine C_ret ?_
        refine R_1 rfl rfl fun w' hs => ⟨congrArg (fun z => Ending.returned (Value.bool z)) ?_, hs.bel⟩
        show (true : Bool) = decide (a = b)
        simp; exact eq_of_idx (by omega) (fun i h => hi i (by omega))

theorem impl_sameInts (w : World) (v_a : Value) (a : (List Int)) (v_b : Value) (b : (List Int)) (h_a : Gd.rd w [v_a] a) (h_b : Gd.rd w [v_b] b) : Calls Try.prog 66 [v_a, v_b].toArray w (Val w (.bool (decide (a = b)))) := by
  have hm1 := rd_max h_a
  have hm2 := rd_max h_b
  refine enter 26 Try.func66 rfl rfl rfl ?_
  refine C_seq ?_
  refine C_reg ?_
  refine p1 rfl ?_
  refine D_end ?_
  refine x_then ?_
  refine C_seq ?_
  refine C_seq ?_
  refine C_reg ?_
  refine p1 rfl ?_
  refine q1 rfl (D_len s_69 rfl rfl (rd_sl h_a)) ?_
  refine p1 rfl ?_
  refine q1 rfl (D_len s_69 rfl rfl (rd_sl h_b)) ?_
  refine p1 rfl ?_
  refine D_end ?_
  refine x_then ?_
  refine C_if _ rfl (fun h3 => ?_) (fun h3 => ?_)
  · have pr3 : (((a.length : Nat) : Int) : Int) ≠ ((b.length : Nat) : Int) := bne_iff_ne.1 h3
    refine C_seq ?_
    refine C_reg ?_
    refine p1 rfl ?_
    refine D_end ?_
    refine x_then ?_
    refine C_ret ?_
    refine x_then_ret ?_
    refine R_1 rfl rfl fun w' hs => ⟨congrArg (fun z => Ending.returned (Value.bool z)) ?_, hs.bel⟩
    show (false : Bool) = decide (a = b)
    simp; intro e; subst e; simp_all
  · have pr3 : (((a.length : Nat) : Int) : Int) = ((b.length : Nat) : Int) := eq_of_bne_f h3
    refine C_skip ?_
    refine x_then ?_
    refine C_seq ?_
    refine C_seq ?_
    refine C_reg ?_
    refine p1 rfl ?_
    refine q1 rfl (D_len s_69 rfl rfl (rd_sl h_a)) ?_
    refine p1 rfl ?_
    refine D_end ?_
    refine x_then ?_
    refine C_block ?_
    refine C_loop (fun m_ ac w' => ∃ (k : Nat), (k ≤ a.length) ∧ (∀ i, i < k → a[i]? = b[i]?) ∧ m_ = a.length - k ∧ Fits ac 26 [(0, v_a), (1, v_b), (12, (.int .i64 ((a.length : Nat) : Int))), (13, (.int .i64 ((k : Nat) : Int)))] ∧ St w ([]) w') ?_ ?_
    · refine fun ac w' hf hs => ⟨_, 0, ?_, ?_, rfl, hf.weak ⟨rfl, rfl, rfl, rfl, trivial⟩, hs⟩
      · first | assumption | omega | simp
      · intro i hi; omega
    · rintro m_ ac w' ⟨k, hk, hi, rfl, hf, hs⟩
      refine D.use ?_ hf hs
      clear hf hs ac w'
      refine C_seq ?_
      refine C_reg ?_
      refine p1 rfl ?_
      refine D_end ?_
      refine x_then ?_
      refine C_seq ?_
      refine C_if _ rfl (fun h4 => ?_) (fun h4 => ?_)
      · have pr4 : (((k : Nat) : Int) : Int) < ((a.length : Nat) : Int) := of_decide_eq_true h4
        refine C_skip ?_
        refine x_then ?_
        refine C_seq ?_
        refine C_block ?_
        refine C_seq ?_
        refine C_reg ?_
        refine p1 rfl <| p1 rfl ?_
        refine D_end ?_
        refine x_then ?_
        refine C_seq ?_
        refine C_draw mixed [] (by kernel_rfl) ?_
        refine tk 0 rfl (by kernel_rfl) (by kernel_rfl) (by kernel_rfl) rfl (fun _ hs => hs) (rp rfl) ?_
        refine tk 1 rfl (by kernel_rfl) (by kernel_rfl) (by kernel_rfl) rfl (fun _ hs => hs) (rp rfl) ?_
        obtain ⟨x5, hx6⟩ := some_of_lt (l := a) (i := k) (by omega)
        obtain ⟨es7, at8, hr9⟩ := rd_elem (n := 1) rfl h_a hx6
        obtain rfl : es7 = [.int .i64 x5] := hr9
        refine tk 2 rfl (by kernel_rfl) (by kernel_rfl) (by kernel_rfl) rfl (fun _ hs => hs) (D_ix (l := a) (j := k) s_69 rfl rfl rfl (fun w' hs => (rd_at hs h_a)) rfl (lt_of_some hx6)) ?_
        refine tk 3 rfl (by kernel_rfl) (by kernel_rfl) (by kernel_rfl) rfl (fun _ hs => hs) (lr0 o_3 rfl rfl at8 rfl) ?_
        refine tk 4 rfl (by kernel_rfl) (by kernel_rfl) (by kernel_rfl) rfl (fun _ hs => hs) (rp rfl) ?_
        refine tk 5 rfl (by kernel_rfl) (by kernel_rfl) (by kernel_rfl) rfl (fun _ hs => hs) (rp rfl) ?_
        obtain ⟨x10, hx11⟩ := some_of_lt (l := b) (i := k) (by omega)
        obtain ⟨es12, at13, hr14⟩ := rd_elem (n := 1) rfl h_b hx11
        obtain rfl : es12 = [.int .i64 x10] := hr14
        refine tk 6 rfl (by kernel_rfl) (by kernel_rfl) (by kernel_rfl) rfl (fun _ hs => hs) (D_ix (l := b) (j := k) s_69 rfl rfl rfl (fun w' hs => (rd_at hs h_b)) rfl (lt_of_some hx11)) ?_
        refine tk 7 rfl (by kernel_rfl) (by kernel_rfl) (by kernel_rfl) rfl (fun _ hs => hs) (lr0 o_3 rfl rfl at13 rfl) ?_
        refine tk 8 rfl (by kernel_rfl) (by kernel_rfl) (by kernel_rfl) rfl (fun _ hs => hs) (rp rfl) ?_
        refine tE (by kernel_rfl) ?_
        refine x_then ?_
        refine C_if _ rfl (fun h15 => ?_) (fun h15 => ?_)
        · have pr15 : (x5 : Int) ≠ x10 := bne_iff_ne.1 h15
          refine C_seq ?_
          refine C_reg ?_
          refine p1 rfl ?_
          refine D_end ?_
          refine x_then ?_
          refine D_weak [(4, (.bool false))] ⟨rfl, trivial⟩ ?_
          refine C_ret ?_
          refine x_blk_ret ?_
          refine x_then_ret ?_
          refine x_then_ret ?_
          refine x_blk_ret ?_
          refine x_then_ret ?_
          refine R_1 rfl rfl fun w' hs => ⟨congrArg (fun z => Ending.returned (Value.bool z)) ?_, hs.bel⟩
          show (false : Bool) = decide (a = b)
          simp; intro e; subst e; simp_all
        · have pr15 : (x5 : Int) = x10 := eq_of_bne_f h15
          refine C_skip ?_
          refine x_blk ?_
          refine x_then ?_
          refine C_reg ?_
          refine q1 rfl (D_add rfl rfl rfl (r := ((k + 1 : Nat) : Int)) (by omega) (by omega)) ?_
          refine p1 rfl ?_
          refine D_end ?_
          refine x_then ?_
          refine fun ac w' hf hs => ⟨_, ?_, k + 1, ?_, ?_, rfl, hf.weak ⟨rfl, rfl, rfl, rfl, trivial⟩, hs⟩
          · omega
          · first | assumption | omega | simp
          · refine idx_step hi (by assumption) (by assumption) ?_; first | (simp_all; done) | (apply Fact.mk_eq <;> simp_all)
      · have pr4 : ¬ (((k : Nat) : Int) : Int) < ((a.length : Nat) : Int) := of_decide_eq_false h4
        refine C_exit ?_
        refine x_then_exit ?_
        refine x_then_exit ?_
        refine x_blk_eq ?_
        refine x_then ?_
        refine C_seq ?_
        refine C_reg ?_
        refine p1 rfl ?_
        refine D_end ?_
        refine x_then ?_
        refine C_ret ?_
        refine R_1 rfl rfl fun w' hs => ⟨congrArg (fun z => Ending.returned (Value.bool z)) ?_, hs.bel⟩
        show (true : Bool) = decide (a = b)
        simp; exact eq_of_idx (by omega) (fun i h => hi i (by omega))

theorem spec_l1SameTexts (w : World) (v_a : Value) (a : (List ByteArray)) (v_b : Value) (b : (List ByteArray)) (h_a : Gd.rd w [v_a] a) (h_b : Gd.rd w [v_b] b) : Calls Try.prog 60 [v_a, v_b].toArray w (Val w (.bool (decide (a = b)))) := by
  have hm1 := rd_max h_a
  have hm2 := rd_max h_b
  refine enter 26 Try.func60 rfl rfl rfl ?_
  refine C_seq ?_
  refine C_reg ?_
  refine p1 rfl ?_
  refine D_end ?_
  refine x_then ?_
  refine C_seq ?_
  refine C_seq ?_
  refine C_reg ?_
  refine p1 rfl ?_
  refine q1 rfl (D_len s_22 rfl rfl (rd_sl h_a)) ?_
  refine p1 rfl ?_
  refine q1 rfl (D_len s_22 rfl rfl (rd_sl h_b)) ?_
  refine p1 rfl ?_
  refine D_end ?_
  refine x_then ?_
  refine C_if _ rfl (fun h3 => ?_) (fun h3 => ?_)
  · have pr3 : (((a.length : Nat) : Int) : Int) ≠ ((b.length : Nat) : Int) := bne_iff_ne.1 h3
    refine C_seq ?_
    refine C_reg ?_
    refine p1 rfl ?_
    refine D_end ?_
    refine x_then ?_
    refine C_ret ?_
    refine x_then_ret ?_
    refine R_1 rfl rfl fun w' hs => ⟨congrArg (fun z => Ending.returned (Value.bool z)) ?_, hs.bel⟩
    show (false : Bool) = decide (a = b)
    simp; intro e; subst e; simp_all
  · have pr3 : (((a.length : Nat) : Int) : Int) = ((b.length : Nat) : Int) := eq_of_bne_f h3
    refine C_skip ?_
    refine x_then ?_
    refine C_seq ?_
    refine C_seq ?_
    refine C_reg ?_
    refine p1 rfl ?_
    refine D_end ?_
    refine x_then ?_
    refine C_block ?_
    refine C_loop (fun m_ ac w' => ∃ (k : Nat), (k ≤ a.length) ∧ (∀ i, i < k → a[i]? = b[i]?) ∧ m_ = a.length - k ∧ Fits ac 26 [(0, v_a), (1, v_b), (5, (.int .i64 ((k : Nat) : Int)))] ∧ St w ([]) w') ?_ ?_
    · refine fun ac w' hf hs => ⟨_, 0, ?_, ?_, rfl, hf.weak ⟨rfl, rfl, rfl, trivial⟩, hs⟩
      · first | assumption | omega | simp
      · intro i hi; omega
    · rintro m_ ac w' ⟨k, hk, hi, rfl, hf, hs⟩
      refine D.use ?_ hf hs
      clear hf hs ac w'
      refine C_seq ?_
      refine C_seq ?_
      refine C_reg ?_
      refine p1 rfl <| p1 rfl ?_
      refine q1 rfl (D_len s_22 rfl rfl (rd_sl h_a)) ?_
      refine p1 rfl ?_
      refine D_end ?_
      refine x_then ?_
      refine C_if _ rfl (fun h4 => ?_) (fun h4 => ?_)
      · have pr4 : (((k : Nat) : Int) : Int) < ((a.length : Nat) : Int) := of_decide_eq_true h4
        refine C_skip ?_
        refine x_then ?_
        refine C_seq ?_
        refine C_block ?_
        refine C_seq ?_
        refine C_draw mixed [] (by kernel_rfl) ?_
        refine tk 0 rfl (by kernel_rfl) (by kernel_rfl) (by kernel_rfl) rfl (fun _ hs => hs) (rp rfl) ?_
        refine tk 1 rfl (by kernel_rfl) (by kernel_rfl) (by kernel_rfl) rfl (fun _ hs => hs) (rp rfl) ?_
        obtain ⟨x5, hx6⟩ := some_of_lt (l := a) (i := k) (by omega)
        obtain ⟨es7, at8, hr9⟩ := rd_elem (n := 1) rfl h_a hx6
        obtain rfl : es7 = [.string x5] := hr9
        refine tk 2 rfl (by kernel_rfl) (by kernel_rfl) (by kernel_rfl) rfl (fun _ hs => hs) (D_ix (l := a) (j := k) s_22 rfl rfl rfl (fun w' hs => (rd_at hs h_a)) rfl (lt_of_some hx6)) ?_
        refine tk 3 rfl (by kernel_rfl) (by kernel_rfl) (by kernel_rfl) rfl (fun _ hs => hs) (lr0 o_9 rfl rfl at8 rfl) ?_
        refine tk 4 rfl (by kernel_rfl) (by kernel_rfl) (by kernel_rfl) rfl (fun _ hs => hs) (rp rfl) ?_
        refine tk 5 rfl (by kernel_rfl) (by kernel_rfl) (by kernel_rfl) rfl (fun _ hs => hs) (rp rfl) ?_
        obtain ⟨x10, hx11⟩ := some_of_lt (l := b) (i := k) (by omega)
        obtain ⟨es12, at13, hr14⟩ := rd_elem (n := 1) rfl h_b hx11
        obtain rfl : es12 = [.string x10] := hr14
        refine tk 6 rfl (by kernel_rfl) (by kernel_rfl) (by kernel_rfl) rfl (fun _ hs => hs) (D_ix (l := b) (j := k) s_22 rfl rfl rfl (fun w' hs => (rd_at hs h_b)) rfl (lt_of_some hx11)) ?_
        refine tk 7 rfl (by kernel_rfl) (by kernel_rfl) (by kernel_rfl) rfl (fun _ hs => hs) (lr0 o_9 rfl rfl at13 rfl) ?_
        refine tk 8 rfl (by kernel_rfl) (by kernel_rfl) (by kernel_rfl) rfl (fun _ hs => hs) (D_neS rfl rfl rfl) ?_
        refine tE (by kernel_rfl) ?_
        refine x_then ?_
        refine C_if _ rfl (fun h15 => ?_) (fun h15 => ?_)
        · have pr15 : ¬ (x5 : ByteArray) = x10 := of_decide_eq_false (not_t h15)
          refine C_seq ?_
          refine C_reg ?_
          refine p1 rfl ?_
          refine D_end ?_
          refine x_then ?_
          refine D_weak [(4, (.bool false))] ⟨rfl, trivial⟩ ?_
          refine C_ret ?_
          refine x_blk_ret ?_
          refine x_then_ret ?_
          refine x_then_ret ?_
          refine x_blk_ret ?_
          refine x_then_ret ?_
          refine R_1 rfl rfl fun w' hs => ⟨congrArg (fun z => Ending.returned (Value.bool z)) ?_, hs.bel⟩
          show (false : Bool) = decide (a = b)
          simp; intro e; subst e; simp_all
        · have pr15 : (x5 : ByteArray) = x10 := of_decide_eq_true (not_f h15)
          refine C_skip ?_
          refine x_blk ?_
          refine x_then ?_
          refine C_reg ?_
          refine p1 rfl ?_
          refine q1 rfl (D_add rfl rfl rfl (r := ((k + 1 : Nat) : Int)) (by omega) (by omega)) ?_
          refine p1 rfl ?_
          refine D_end ?_
          refine x_then ?_
          refine fun ac w' hf hs => ⟨_, ?_, k + 1, ?_, ?_, rfl, hf.weak ⟨rfl, rfl, rfl, trivial⟩, hs⟩
          · omega
          · first | assumption | omega | simp
          · refine idx_step hi (by assumption) (by assumption) ?_; first | (simp_all; done) | (apply Fact.mk_eq <;> simp_all)
      · have pr4 : ¬ (((k : Nat) : Int) : Int) < ((a.length : Nat) : Int) := of_decide_eq_false h4
        refine C_exit ?_
        refine x_then_exit ?_
        refine x_then_exit ?_
        refine x_blk_eq ?_
        refine x_then ?_
        refine C_seq ?_
        refine C_reg ?_
        refine p1 rfl ?_
        refine D_end ?_
        refine x_then ?_
        refine C_ret ?_
        refine R_1 rfl rfl fun w' hs => ⟨congrArg (fun z => Ending.returned (Value.bool z)) ?_, hs.bel⟩
        show (true : Bool) = decide (a = b)
        simp; exact eq_of_idx (by omega) (fun i h => hi i (by omega))

theorem spec_l9SameInts (w : World) (v_a : Value) (a : (List Int)) (v_b : Value) (b : (List Int)) (h_a : Gd.rd w [v_a] a) (h_b : Gd.rd w [v_b] b) : Calls Try.prog 33 [v_a, v_b].toArray w (Val w (.bool (decide (a = b)))) := by
  have hm1 := rd_max h_a
  have hm2 := rd_max h_b
  refine enter 26 Try.func33 rfl rfl rfl ?_
  refine C_seq ?_
  refine C_reg ?_
  refine p1 rfl ?_
  refine D_end ?_
  refine x_then ?_
  refine C_seq ?_
  refine C_seq ?_
  refine C_reg ?_
  refine p1 rfl ?_
  refine q1 rfl (D_len s_69 rfl rfl (rd_sl h_a)) ?_
  refine p1 rfl ?_
  refine q1 rfl (D_len s_69 rfl rfl (rd_sl h_b)) ?_
  refine p1 rfl ?_
  refine D_end ?_
  refine x_then ?_
  refine C_if _ rfl (fun h3 => ?_) (fun h3 => ?_)
  · have pr3 : (((a.length : Nat) : Int) : Int) ≠ ((b.length : Nat) : Int) := bne_iff_ne.1 h3
    refine C_seq ?_
    refine C_reg ?_
    refine p1 rfl ?_
    refine D_end ?_
    refine x_then ?_
    refine C_ret ?_
    refine x_then_ret ?_
    refine R_1 rfl rfl fun w' hs => ⟨congrArg (fun z => Ending.returned (Value.bool z)) ?_, hs.bel⟩
    show (false : Bool) = decide (a = b)
    simp; intro e; subst e; simp_all
  · have pr3 : (((a.length : Nat) : Int) : Int) = ((b.length : Nat) : Int) := eq_of_bne_f h3
    refine C_skip ?_
    refine x_then ?_
    refine C_seq ?_
    refine C_seq ?_
    refine C_reg ?_
    refine p1 rfl ?_
    refine D_end ?_
    refine x_then ?_
    refine C_block ?_
    refine C_loop (fun m_ ac w' => ∃ (k : Nat), (k ≤ a.length) ∧ (∀ i, i < k → a[i]? = b[i]?) ∧ m_ = a.length - k ∧ Fits ac 26 [(0, v_a), (1, v_b), (5, (.int .i64 ((k : Nat) : Int)))] ∧ St w ([]) w') ?_ ?_
    · refine fun ac w' hf hs => ⟨_, 0, ?_, ?_, rfl, hf.weak ⟨rfl, rfl, rfl, trivial⟩, hs⟩
      · first | assumption | omega | simp
      · intro i hi; omega
    · rintro m_ ac w' ⟨k, hk, hi, rfl, hf, hs⟩
      refine D.use ?_ hf hs
      clear hf hs ac w'
      refine C_seq ?_
      refine C_seq ?_
      refine C_reg ?_
      refine p1 rfl <| p1 rfl ?_
      refine q1 rfl (D_len s_69 rfl rfl (rd_sl h_a)) ?_
      refine p1 rfl ?_
      refine D_end ?_
      refine x_then ?_
      refine C_if _ rfl (fun h4 => ?_) (fun h4 => ?_)
      · have pr4 : (((k : Nat) : Int) : Int) < ((a.length : Nat) : Int) := of_decide_eq_true h4
        refine C_skip ?_
        refine x_then ?_
        refine C_seq ?_
        refine C_block ?_
        refine C_seq ?_
        refine C_draw mixed [] (by kernel_rfl) ?_
        refine tk 0 rfl (by kernel_rfl) (by kernel_rfl) (by kernel_rfl) rfl (fun _ hs => hs) (rp rfl) ?_
        refine tk 1 rfl (by kernel_rfl) (by kernel_rfl) (by kernel_rfl) rfl (fun _ hs => hs) (rp rfl) ?_
        obtain ⟨x5, hx6⟩ := some_of_lt (l := a) (i := k) (by omega)
        obtain ⟨es7, at8, hr9⟩ := rd_elem (n := 1) rfl h_a hx6
        obtain rfl : es7 = [.int .i64 x5] := hr9
        refine tk 2 rfl (by kernel_rfl) (by kernel_rfl) (by kernel_rfl) rfl (fun _ hs => hs) (D_ix (l := a) (j := k) s_69 rfl rfl rfl (fun w' hs => (rd_at hs h_a)) rfl (lt_of_some hx6)) ?_
        refine tk 3 rfl (by kernel_rfl) (by kernel_rfl) (by kernel_rfl) rfl (fun _ hs => hs) (lr0 o_3 rfl rfl at8 rfl) ?_
        refine tk 4 rfl (by kernel_rfl) (by kernel_rfl) (by kernel_rfl) rfl (fun _ hs => hs) (rp rfl) ?_
        refine tk 5 rfl (by kernel_rfl) (by kernel_rfl) (by kernel_rfl) rfl (fun _ hs => hs) (rp rfl) ?_
        obtain ⟨x10, hx11⟩ := some_of_lt (l := b) (i := k) (by omega)
        obtain ⟨es12, at13, hr14⟩ := rd_elem (n := 1) rfl h_b hx11
        obtain rfl : es12 = [.int .i64 x10] := hr14
        refine tk 6 rfl (by kernel_rfl) (by kernel_rfl) (by kernel_rfl) rfl (fun _ hs => hs) (D_ix (l := b) (j := k) s_69 rfl rfl rfl (fun w' hs => (rd_at hs h_b)) rfl (lt_of_some hx11)) ?_
        refine tk 7 rfl (by kernel_rfl) (by kernel_rfl) (by kernel_rfl) rfl (fun _ hs => hs) (lr0 o_3 rfl rfl at13 rfl) ?_
        refine tk 8 rfl (by kernel_rfl) (by kernel_rfl) (by kernel_rfl) rfl (fun _ hs => hs) (rp rfl) ?_
        refine tE (by kernel_rfl) ?_
        refine x_then ?_
        refine C_if _ rfl (fun h15 => ?_) (fun h15 => ?_)
        · have pr15 : (x5 : Int) ≠ x10 := bne_iff_ne.1 h15
          refine C_seq ?_
          refine C_reg ?_
          refine p1 rfl ?_
          refine D_end ?_
          refine x_then ?_
          refine D_weak [(4, (.bool false))] ⟨rfl, trivial⟩ ?_
          refine C_ret ?_
          refine x_blk_ret ?_
          refine x_then_ret ?_
          refine x_then_ret ?_
          refine x_blk_ret ?_
          refine x_then_ret ?_
          refine R_1 rfl rfl fun w' hs => ⟨congrArg (fun z => Ending.returned (Value.bool z)) ?_, hs.bel⟩
          show (false : Bool) = decide (a = b)
          simp; intro e; subst e; simp_all
        · have pr15 : (x5 : Int) = x10 := eq_of_bne_f h15
          refine C_skip ?_
          refine x_blk ?_
          refine x_then ?_
          refine C_reg ?_
          refine p1 rfl ?_
          refine q1 rfl (D_add rfl rfl rfl (r := ((k + 1 : Nat) : Int)) (by omega) (by omega)) ?_
          refine p1 rfl ?_
          refine D_end ?_
          refine x_then ?_
          refine fun ac w' hf hs => ⟨_, ?_, k + 1, ?_, ?_, rfl, hf.weak ⟨rfl, rfl, rfl, trivial⟩, hs⟩
          · omega
          · first | assumption | omega | simp
          · refine idx_step hi (by assumption) (by assumption) ?_; first | (simp_all; done) | (apply Fact.mk_eq <;> simp_all)
      · have pr4 : ¬ (((k : Nat) : Int) : Int) < ((a.length : Nat) : Int) := of_decide_eq_false h4
        refine C_exit ?_
        refine x_then_exit ?_
        refine x_then_exit ?_
        refine x_blk_eq ?_
        refine x_then ?_
        refine C_seq ?_
        refine C_reg ?_
        refine p1 rfl ?_
        refine D_end ?_
        refine x_then ?_
        refine C_ret ?_
        refine R_1 rfl rfl fun w' hs => ⟨congrArg (fun z => Ending.returned (Value.bool z)) ?_, hs.bel⟩
        show (true : Bool) = decide (a = b)
        simp; exact eq_of_idx (by omega) (fun i h => hi i (by omega))

theorem impl_sameFact (w : World) (c_a : List Value) (a : Fact) (c_b : List Value) (b : Fact) (h_a : Gd.rd w c_a a) (h_b : Gd.rd w c_b b) : Calls Try.prog 40 [(.agg c_a.toArray), (.agg c_b.toArray)].toArray w (Val w (.bool (decide (a = b)))) := by
  obtain ⟨u1, rfl, hu2⟩ := open_Fact h_a
  have hm3 := rd_max hu2
  obtain ⟨u4, rfl, hu5⟩ := open_Fact h_b
  have hm6 := rd_max hu5
  refine enter 17 Try.func40 rfl rfl rfl ?_
  refine C_seq ?_
  refine C_reg ?_
  refine li rfl (D_box rfl rfl rfl rfl rfl fun g7 => ?_)
  refine li rfl (D_box rfl rfl rfl rfl rfl fun g8 => ?_)
  refine p1 rfl ?_
  refine D_end ?_
  refine x_then ?_
  refine D_H ([bx g8 [(.string b.Rel), u4], bx g7 [(.string a.Rel), u1]]) rfl ?_
  refine C_seq ?_
  refine C_reg ?_
  refine q1 rfl (D_fb f_29_0 rfl rfl (q := 0) rfl) ?_
  refine q1 rfl (lb 1 o_9 rfl rfl rfl rfl) ?_
  refine q1 rfl (D_fb f_29_0 rfl rfl (q := 0) rfl) ?_
  refine q1 rfl (lb 0 o_9 rfl rfl rfl rfl) ?_
  refine q1 rfl (D_eqS rfl rfl rfl) ?_
  refine p1 rfl ?_
  refine gs 10 rfl rfl (fun h9 => ?_) (fun h9 => ?_)
  · have pr9 : (a.Rel : ByteArray) = b.Rel := of_decide_eq_true h9
    refine q1 rfl (D_fb f_29_1 rfl rfl (q := 1) rfl) ?_
    refine q1 rfl (lb 1 o_22 rfl rfl rfl rfl) ?_
    refine q1 rfl (D_fb f_29_1 rfl rfl (q := 1) rfl) ?_
    refine q1 rfl (lb 0 o_22 rfl rfl rfl rfl) ?_
    refine li rfl (cv b_65 rfl rfl rfl rfl (fun w' hs => (impl_sameTexts w' u1 a.Args u4 b.Args (rd_at hs hu2) (rd_at hs hu5))) ?_)
    refine p1 rfl <| p1 rfl ?_
    refine D_end ?_
    refine x_then ?_
    refine D_weak [(4, (.bool (decide (a.Args = b.Args))))] ⟨rfl, trivial⟩ ?_
    refine D_sel (H' := []) [false, false] rfl ?_
    refine C_ret ?_
    refine R_1 rfl rfl fun w' hs => ⟨congrArg (fun z => Ending.returned (Value.bool z)) ?_, hs.bel⟩
    show ((decide (a.Args = b.Args)) : Bool) = decide (a = b)
    cases a; cases b; simp_all
  · have pr9 : ¬ (a.Rel : ByteArray) = b.Rel := of_decide_eq_false h9
    refine n1 rfl ?_
    refine n1 rfl ?_
    refine n1 rfl ?_
    refine n1 rfl ?_
    refine n1 rfl ?_
    refine p1 rfl <| p1 rfl ?_
    refine D_end ?_
    refine x_then ?_
    refine D_weak [(4, (.bool false))] ⟨rfl, trivial⟩ ?_
    refine D_sel (H' := []) [false, false] rfl ?_
    refine C_ret ?_
    refine R_1 rfl rfl fun w' hs => ⟨congrArg (fun z => Ending.returned (Value.bool z)) ?_, hs.bel⟩
    show (false : Bool) = decide (a = b)
    cases a; cases b; simp_all

theorem spec_l2Same (w : World) (c_a : List Value) (a : Fact) (c_b : List Value) (b : Fact) (h_a : Gd.rd w c_a a) (h_b : Gd.rd w c_b b) : Calls Try.prog 32 [(.agg c_a.toArray), (.agg c_b.toArray)].toArray w (Val w (.bool (decide (a = b)))) := by
  obtain ⟨u1, rfl, hu2⟩ := open_Fact h_a
  have hm3 := rd_max hu2
  obtain ⟨u4, rfl, hu5⟩ := open_Fact h_b
  have hm6 := rd_max hu5
  refine enter 17 Try.func32 rfl rfl rfl ?_
  refine C_seq ?_
  refine C_reg ?_
  refine li rfl (D_box rfl rfl rfl rfl rfl fun g7 => ?_)
  refine li rfl (D_box rfl rfl rfl rfl rfl fun g8 => ?_)
  refine p1 rfl ?_
  refine D_end ?_
  refine x_then ?_
  refine D_H ([bx g8 [(.string b.Rel), u4], bx g7 [(.string a.Rel), u1]]) rfl ?_
  refine C_seq ?_
  refine C_reg ?_
  refine q1 rfl (D_fb f_29_0 rfl rfl (q := 0) rfl) ?_
  refine q1 rfl (lb 1 o_9 rfl rfl rfl rfl) ?_
  refine q1 rfl (D_fb f_29_0 rfl rfl (q := 0) rfl) ?_
  refine q1 rfl (lb 0 o_9 rfl rfl rfl rfl) ?_
  refine q1 rfl (D_eqS rfl rfl rfl) ?_
  refine p1 rfl ?_
  refine gs 10 rfl rfl (fun h9 => ?_) (fun h9 => ?_)
  · have pr9 : (a.Rel : ByteArray) = b.Rel := of_decide_eq_true h9
    refine q1 rfl (D_fb f_29_1 rfl rfl (q := 1) rfl) ?_
    refine q1 rfl (lb 1 o_22 rfl rfl rfl rfl) ?_
    refine q1 rfl (D_fb f_29_1 rfl rfl (q := 1) rfl) ?_
    refine q1 rfl (lb 0 o_22 rfl rfl rfl rfl) ?_
    refine li rfl (cv b_60 rfl rfl rfl rfl (fun w' hs => (spec_l1SameTexts w' u1 a.Args u4 b.Args (rd_at hs hu2) (rd_at hs hu5))) ?_)
    refine p1 rfl <| p1 rfl ?_
    refine D_end ?_
    refine x_then ?_
    refine D_weak [(4, (.bool (decide (a.Args = b.Args))))] ⟨rfl, trivial⟩ ?_
    refine D_sel (H' := []) [false, false] rfl ?_
    refine C_ret ?_
    refine R_1 rfl rfl fun w' hs => ⟨congrArg (fun z => Ending.returned (Value.bool z)) ?_, hs.bel⟩
    show ((decide (a.Args = b.Args)) : Bool) = decide (a = b)
    cases a; cases b; simp_all
  · have pr9 : ¬ (a.Rel : ByteArray) = b.Rel := of_decide_eq_false h9
    refine n1 rfl ?_
    refine n1 rfl ?_
    refine n1 rfl ?_
    refine n1 rfl ?_
    refine n1 rfl ?_
    refine p1 rfl <| p1 rfl ?_
    refine D_end ?_
    refine x_then ?_
    refine D_weak [(4, (.bool false))] ⟨rfl, trivial⟩ ?_
    refine D_sel (H' := []) [false, false] rfl ?_
    refine C_ret ?_
    refine R_1 rfl rfl fun w' hs => ⟨congrArg (fun z => Ending.returned (Value.bool z)) ?_, hs.bel⟩
    show (false : Bool) = decide (a = b)
    cases a; cases b; simp_all

theorem impl_SamePattern (w : World) (c_a : List Value) (a : Pattern) (c_b : List Value) (b : Pattern) (h_a : Gd.rd w c_a a) (h_b : Gd.rd w c_b b) : Calls Try.prog 78 [(.agg c_a.toArray), (.agg c_b.toArray)].toArray w (Val w (.bool (decide (a = b)))) := by
  obtain ⟨u1, rfl, hu2⟩ := open_Pattern h_a
  have hm3 := rd_max hu2
  obtain ⟨u4, rfl, hu5⟩ := open_Pattern h_b
  have hm6 := rd_max hu5
  refine enter 17 Try.func78 rfl rfl rfl ?_
  refine C_seq ?_
  refine C_reg ?_
  refine li rfl (D_box rfl rfl rfl rfl rfl fun g7 => ?_)
  refine li rfl (D_box rfl rfl rfl rfl rfl fun g8 => ?_)
  refine p1 rfl ?_
  refine D_end ?_
  refine x_then ?_
  refine D_H ([bx g8 [(.string b.Rel), u4], bx g7 [(.string a.Rel), u1]]) rfl ?_
  refine C_seq ?_
  refine C_reg ?_
  refine q1 rfl (D_fb f_98_0 rfl rfl (q := 0) rfl) ?_
  refine q1 rfl (lb 1 o_9 rfl rfl rfl rfl) ?_
  refine q1 rfl (D_fb f_98_0 rfl rfl (q := 0) rfl) ?_
  refine q1 rfl (lb 0 o_9 rfl rfl rfl rfl) ?_
  refine q1 rfl (D_eqS rfl rfl rfl) ?_
  refine p1 rfl ?_
  refine gs 10 rfl rfl (fun h9 => ?_) (fun h9 => ?_)
  · have pr9 : (a.Rel : ByteArray) = b.Rel := of_decide_eq_true h9
    refine q1 rfl (D_fb f_98_1 rfl rfl (q := 1) rfl) ?_
    refine q1 rfl (lb 1 o_22 rfl rfl rfl rfl) ?_
    refine q1 rfl (D_fb f_98_1 rfl rfl (q := 1) rfl) ?_
    refine q1 rfl (lb 0 o_22 rfl rfl rfl rfl) ?_
    refine li rfl (cv b_65 rfl rfl rfl rfl (fun w' hs => (impl_sameTexts w' u1 a.Args u4 b.Args (rd_at hs hu2) (rd_at hs hu5))) ?_)
    refine p1 rfl <| p1 rfl ?_
    refine D_end ?_
    refine x_then ?_
    refine D_weak [(4, (.bool (decide (a.Args = b.Args))))] ⟨rfl, trivial⟩ ?_
    refine D_sel (H' := []) [false, false] rfl ?_
    refine C_ret ?_
    refine R_1 rfl rfl fun w' hs => ⟨congrArg (fun z => Ending.returned (Value.bool z)) ?_, hs.bel⟩
    show ((decide (a.Args = b.Args)) : Bool) = decide (a = b)
    cases a; cases b; simp_all
  · have pr9 : ¬ (a.Rel : ByteArray) = b.Rel := of_decide_eq_false h9
    refine n1 rfl ?_
    refine n1 rfl ?_
    refine n1 rfl ?_
    refine n1 rfl ?_
    refine n1 rfl ?_
    refine p1 rfl <| p1 rfl ?_
    refine D_end ?_
    refine x_then ?_
    refine D_weak [(4, (.bool false))] ⟨rfl, trivial⟩ ?_
    refine D_sel (H' := []) [false, false] rfl ?_
    refine C_ret ?_
    refine R_1 rfl rfl fun w' hs => ⟨congrArg (fun z => Ending.returned (Value.bool z)) ?_, hs.bel⟩
    show (false : Bool) = decide (a = b)
    cases a; cases b; simp_all

theorem spec_SamePattern (w : World) (c_a : List Value) (a : Pattern) (c_b : List Value) (b : Pattern) (h_a : Gd.rd w c_a a) (h_b : Gd.rd w c_b b) : Calls Try.prog 59 [(.agg c_a.toArray), (.agg c_b.toArray)].toArray w (Val w (.bool (decide (a = b)))) := by
  obtain ⟨u1, rfl, hu2⟩ := open_Pattern h_a
  have hm3 := rd_max hu2
  obtain ⟨u4, rfl, hu5⟩ := open_Pattern h_b
  have hm6 := rd_max hu5
  refine enter 17 Try.func59 rfl rfl rfl ?_
  refine C_seq ?_
  refine C_reg ?_
  refine li rfl (D_box rfl rfl rfl rfl rfl fun g7 => ?_)
  refine li rfl (D_box rfl rfl rfl rfl rfl fun g8 => ?_)
  refine p1 rfl ?_
  refine D_end ?_
  refine x_then ?_
  refine D_H ([bx g8 [(.string b.Rel), u4], bx g7 [(.string a.Rel), u1]]) rfl ?_
  refine C_seq ?_
  refine C_reg ?_
  refine q1 rfl (D_fb f_98_0 rfl rfl (q := 0) rfl) ?_
  refine q1 rfl (lb 1 o_9 rfl rfl rfl rfl) ?_
  refine q1 rfl (D_fb f_98_0 rfl rfl (q := 0) rfl) ?_
  refine q1 rfl (lb 0 o_9 rfl rfl rfl rfl) ?_
  refine q1 rfl (D_eqS rfl rfl rfl) ?_
  refine p1 rfl ?_
  refine gs 10 rfl rfl (fun h9 => ?_) (fun h9 => ?_)
  · have pr9 : (a.Rel : ByteArray) = b.Rel := of_decide_eq_true h9
    refine q1 rfl (D_fb f_98_1 rfl rfl (q := 1) rfl) ?_
    refine q1 rfl (lb 1 o_22 rfl rfl rfl rfl) ?_
    refine q1 rfl (D_fb f_98_1 rfl rfl (q := 1) rfl) ?_
    refine q1 rfl (lb 0 o_22 rfl rfl rfl rfl) ?_
    refine li rfl (cv b_60 rfl rfl rfl rfl (fun w' hs => (spec_l1SameTexts w' u1 a.Args u4 b.Args (rd_at hs hu2) (rd_at hs hu5))) ?_)
    refine p1 rfl <| p1 rfl ?_
    refine D_end ?_
    refine x_then ?_
    refine D_weak [(4, (.bool (decide (a.Args = b.Args))))] ⟨rfl, trivial⟩ ?_
    refine D_sel (H' := []) [false, false] rfl ?_
    refine C_ret ?_
    refine R_1 rfl rfl fun w' hs => ⟨congrArg (fun z => Ending.returned (Value.bool z)) ?_, hs.bel⟩
    show ((decide (a.Args = b.Args)) : Bool) = decide (a = b)
    cases a; cases b; simp_all
  · have pr9 : ¬ (a.Rel : ByteArray) = b.Rel := of_decide_eq_false h9
    refine n1 rfl ?_
    refine n1 rfl ?_
    refine n1 rfl ?_
    refine n1 rfl ?_
    refine n1 rfl ?_
    refine p1 rfl <| p1 rfl ?_
    refine D_end ?_
    refine x_then ?_
    refine D_weak [(4, (.bool false))] ⟨rfl, trivial⟩ ?_
    refine D_sel (H' := []) [false, false] rfl ?_
    refine C_ret ?_
    refine R_1 rfl rfl fun w' hs => ⟨congrArg (fun z => Ending.returned (Value.bool z)) ?_, hs.bel⟩
    show (false : Bool) = decide (a = b)
    cases a; cases b; simp_all

theorem impl_SameCond (w : World) (c_a : List Value) (a : Cond) (c_b : List Value) (b : Cond) (h_a : Gd.rd w c_a a) (h_b : Gd.rd w c_b b) : Calls Try.prog 77 [(.agg c_a.toArray), (.agg c_b.toArray)].toArray w (Val w (.bool (decide (a = b)))) := by
  obtain ⟨u1, rfl, hu2⟩ := open_Cond h_a
  have hm3 := rd_max hu2
  have hb4 := sub_Cond_Pattern h_a
  obtain ⟨u5, rfl, hu6⟩ := open_Cond h_b
  have hm7 := rd_max hu6
  have hb8 := sub_Cond_Pattern h_b
  refine enter 31 Try.func77 rfl rfl rfl ?_
  refine C_seq ?_
  refine C_reg ?_
  refine li rfl (D_box rfl rfl rfl rfl rfl fun g9 => ?_)
  refine li rfl (D_box rfl rfl rfl rfl rfl fun g10 => ?_)
  refine p1 rfl ?_
  refine D_end ?_
  refine x_then ?_
  refine D_H ([bx g10 [(.int .i64 b.Kind), (.string b.Pattern.Rel), u5, (.string b.Left), (.string b.Right)], bx g9 [(.int .i64 a.Kind), (.string a.Pattern.Rel), u1, (.string a.Left), (.string a.Right)]]) rfl ?_
  refine C_seq ?_
  refine C_reg ?_
  refine q1 rfl (D_fb f_100_0 rfl rfl (q := 0) rfl) ?_
  refine q1 rfl (lb 1 o_3 rfl rfl rfl rfl) ?_
  refine q1 rfl (D_fb f_100_0 rfl rfl (q := 0) rfl) ?_
  refine q1 rfl (lb 0 o_3 rfl rfl rfl rfl) ?_
  refine p1 rfl <| p1 rfl ?_
  refine gs 10 rfl rfl (fun h11 => ?_) (fun h11 => ?_)
  · have pr11 : (a.Kind : Int) = b.Kind := eq_of_beq h11
    refine q1 rfl (D_fb f_100_2 rfl rfl (q := 3) rfl) ?_
    refine q1 rfl (lb 1 o_9 rfl rfl rfl rfl) ?_
    refine q1 rfl (D_fb f_100_2 rfl rfl (q := 3) rfl) ?_
    refine q1 rfl (lb 0 o_9 rfl rfl rfl rfl) ?_
    refine q1 rfl (D_eqS rfl rfl rfl) ?_
    refine p1 rfl <| p1 rfl ?_
    refine gs 17 rfl rfl (fun h12 => ?_) (fun h12 => ?_)
    · have pr12 : (a.Left : ByteArray) = b.Left := of_decide_eq_true h12
      refine q1 rfl (D_fb f_100_3 rfl rfl (q := 4) rfl) ?_
      refine q1 rfl (lb 1 o_9 rfl rfl rfl rfl) ?_
      refine q1 rfl (D_fb f_100_3 rfl rfl (q := 4) rfl) ?_
      refine q1 rfl (lb 0 o_9 rfl rfl rfl rfl) ?_
      refine q1 rfl (D_eqS rfl rfl rfl) ?_
      refine p1 rfl <| p1 rfl ?_
      refine gs 24 rfl rfl (fun h13 => ?_) (fun h13 => ?_)
      · have pr13 : (a.Right : ByteArray) = b.Right := of_decide_eq_true h13
        refine q1 rfl (D_fb f_100_1 rfl rfl (q := 1) rfl) ?_
        refine q1 rfl (lba (es := [(.string a.Pattern.Rel), u1]) 1 a_98 rfl rfl rfl rfl) ?_
        refine q1 rfl (D_fb f_100_1 rfl rfl (q := 1) rfl) ?_
        refine q1 rfl (lba (es := [(.string b.Pattern.Rel), u5]) 0 a_98 rfl rfl rfl rfl) ?_
        refine li rfl (cv b_78 rfl rfl rfl rfl (fun w' hs => (impl_SamePattern w' [(.string a.Pattern.Rel), u1] a.Pattern [(.string b.Pattern.Rel), u5] b.Pattern (rd_at hs hb4) (rd_at hs hb8))) ?_)
        refine p1 rfl <| p1 rfl ?_
        refine D_end ?_
        refine x_then ?_
        refine D_weak [(4, (.bool (decide (a.Pattern = b.Pattern))))] ⟨rfl, trivial⟩ ?_
        refine D_sel (H' := []) [false, false] rfl ?_
        refine C_ret ?_
        refine R_1 rfl rfl fun w' hs => ⟨congrArg (fun z => Ending.returned (Value.bool z)) ?_, hs.bel⟩
        show ((decide (a.Pattern = b.Pattern)) : Bool) = decide (a = b)
        cases a; cases b; simp_all
      · have pr13 : ¬ (a.Right : ByteArray) = b.Right := of_decide_eq_false h13
        refine n1 rfl ?_
        refine n1 rfl ?_
        refine n1 rfl ?_
        refine n1 rfl ?_
        refine n1 rfl ?_
        refine p1 rfl <| p1 rfl ?_
        refine D_end ?_
        refine x_then ?_
        refine D_weak [(4, (.bool false))] ⟨rfl, trivial⟩ ?_
        refine D_sel (H' := []) [false, false] rfl ?_
        refine C_ret ?_
        refine R_1 rfl rfl fun w' hs => ⟨congrArg (fun z => Ending.returned (Value.bool z)) ?_, hs.bel⟩
        show (false : Bool) = decide (a = b)
        cases a; cases b; simp_all
    · have pr12 : ¬ (a.Left : ByteArray) = b.Left := of_decide_eq_false h12
      refine n1 rfl ?_
      refine n1 rfl ?_
      refine n1 rfl ?_
      refine n1 rfl ?_
      refine n1 rfl ?_
      refine p1 rfl <| p1 rfl ?_
      refine n1 rfl ?_
      refine n1 rfl ?_
      refine n1 rfl ?_
      refine n1 rfl ?_
      refine n1 rfl ?_
      refine p1 rfl <| p1 rfl ?_
      refine D_end ?_
      refine x_then ?_
      refine D_weak [(4, (.bool false))] ⟨rfl, trivial⟩ ?_
      refine D_sel (H' := []) [false, false] rfl ?_
      refine C_ret ?_
      refine R_1 rfl rfl fun w' hs => ⟨congrArg (fun z => Ending.returned (Value.bool z)) ?_, hs.bel⟩
      show (false : Bool) = decide (a = b)
      cases a; cases b; simp_all
  · have pr11 : (a.Kind : Int) ≠ b.Kind := ne_of_beq_false h11
    refine n1 rfl ?_
    refine n1 rfl ?_
    refine n1 rfl ?_
    refine n1 rfl ?_
    refine n1 rfl ?_
    refine p1 rfl <| p1 rfl ?_
    refine n1 rfl ?_
    refine n1 rfl ?_
    refine n1 rfl ?_
    refine n1 rfl ?_
    refine n1 rfl ?_
    refine p1 rfl <| p1 rfl ?_
    refine n1 rfl ?_
    refine n1 rfl ?_
    refine n1 rfl ?_
    refine n1 rfl ?_
    refine n1 rfl ?_
    refine p1 rfl <| p1 rfl ?_
    refine D_end ?_
    refine x_then ?_
    refine D_weak [(4, (.bool false))] ⟨rfl, trivial⟩ ?_
    refine D_sel (H' := []) [false, false] rfl ?_
    refine C_ret ?_
    refine R_1 rfl rfl fun w' hs => ⟨congrArg (fun z => Ending.returned (Value.bool z)) ?_, hs.bel⟩
    show (false : Bool) = decide (a = b)
    cases a; cases b; simp_all

theorem spec_SameCond (w : World) (c_a : List Value) (a : Cond) (c_b : List Value) (b : Cond) (h_a : Gd.rd w c_a a) (h_b : Gd.rd w c_b b) : Calls Try.prog 58 [(.agg c_a.toArray), (.agg c_b.toArray)].toArray w (Val w (.bool (decide (a = b)))) := by
  obtain ⟨u1, rfl, hu2⟩ := open_Cond h_a
  have hm3 := rd_max hu2
  have hb4 := sub_Cond_Pattern h_a
  obtain ⟨u5, rfl, hu6⟩ := open_Cond h_b
  have hm7 := rd_max hu6
  have hb8 := sub_Cond_Pattern h_b
  refine enter 31 Try.func58 rfl rfl rfl ?_
  refine C_seq ?_
  refine C_reg ?_
  refine li rfl (D_box rfl rfl rfl rfl rfl fun g9 => ?_)
  refine li rfl (D_box rfl rfl rfl rfl rfl fun g10 => ?_)
  refine p1 rfl ?_
  refine D_end ?_
  refine x_then ?_
  refine D_H ([bx g10 [(.int .i64 b.Kind), (.string b.Pattern.Rel), u5, (.string b.Left), (.string b.Right)], bx g9 [(.int .i64 a.Kind), (.string a.Pattern.Rel), u1, (.string a.Left), (.string a.Right)]]) rfl ?_
  refine C_seq ?_
  refine C_reg ?_
  refine q1 rfl (D_fb f_100_0 rfl rfl (q := 0) rfl) ?_
  refine q1 rfl (lb 1 o_3 rfl rfl rfl rfl) ?_
  refine q1 rfl (D_fb f_100_0 rfl rfl (q := 0) rfl) ?_
  refine q1 rfl (lb 0 o_3 rfl rfl rfl rfl) ?_
  refine p1 rfl <| p1 rfl ?_
  refine gs 10 rfl rfl (fun h11 => ?_) (fun h11 => ?_)
  · have pr11 : (a.Kind : Int) = b.Kind := eq_of_beq h11
    refine q1 rfl (D_fb f_100_1 rfl rfl (q := 1) rfl) ?_
    refine q1 rfl (lba (es := [(.string a.Pattern.Rel), u1]) 1 a_98 rfl rfl rfl rfl) ?_
    refine q1 rfl (D_fb f_100_1 rfl rfl (q := 1) rfl) ?_
    refine q1 rfl (lba (es := [(.string b.Pattern.Rel), u5]) 0 a_98 rfl rfl rfl rfl) ?_
    refine li rfl (cv b_59 rfl rfl rfl rfl (fun w' hs => (spec_SamePattern w' [(.string a.Pattern.Rel), u1] a.Pattern [(.string b.Pattern.Rel), u5] b.Pattern (rd_at hs hb4) (rd_at hs hb8))) ?_)
    refine p1 rfl <| p1 rfl ?_
    refine gs 17 rfl rfl (fun h12 => ?_) (fun h12 => ?_)
    · refine q1 rfl (D_fb f_100_2 rfl rfl (q := 3) rfl) ?_
      refine q1 rfl (lb 1 o_9 rfl rfl rfl rfl) ?_
      refine q1 rfl (D_fb f_100_2 rfl rfl (q := 3) rfl) ?_
      refine q1 rfl (lb 0 o_9 rfl rfl rfl rfl) ?_
      refine q1 rfl (D_eqS rfl rfl rfl) ?_
      refine p1 rfl <| p1 rfl ?_
      refine gs 24 rfl rfl (fun h13 => ?_) (fun h13 => ?_)
      · have pr13 : (a.Left : ByteArray) = b.Left := of_decide_eq_true h13
        refine q1 rfl (D_fb f_100_3 rfl rfl (q := 4) rfl) ?_
        refine q1 rfl (lb 1 o_9 rfl rfl rfl rfl) ?_
        refine q1 rfl (D_fb f_100_3 rfl rfl (q := 4) rfl) ?_
        refine q1 rfl (lb 0 o_9 rfl rfl rfl rfl) ?_
        refine q1 rfl (D_eqS rfl rfl rfl) ?_
        refine p1 rfl <| p1 rfl ?_
        refine D_end ?_
        refine x_then ?_
        refine D_weak [(4, (.bool (decide ((a.Right : ByteArray) = b.Right))))] ⟨rfl, trivial⟩ ?_
        refine D_sel (H' := []) [false, false] rfl ?_
        refine C_ret ?_
        refine R_1 rfl rfl fun w' hs => ⟨congrArg (fun z => Ending.returned (Value.bool z)) ?_, hs.bel⟩
        show ((decide ((a.Right : ByteArray) = b.Right)) : Bool) = decide (a = b)
        cases a; cases b; simp_all
      · have pr13 : ¬ (a.Left : ByteArray) = b.Left := of_decide_eq_false h13
        refine n1 rfl ?_
        refine n1 rfl ?_
        refine n1 rfl ?_
        refine n1 rfl ?_
        refine n1 rfl ?_
        refine p1 rfl <| p1 rfl ?_
        refine D_end ?_
        refine x_then ?_
        refine D_weak [(4, (.bool false))] ⟨rfl, trivial⟩ ?_
        refine D_sel (H' := []) [false, false] rfl ?_
        refine C_ret ?_
        refine R_1 rfl rfl fun w' hs => ⟨congrArg (fun z => Ending.returned (Value.bool z)) ?_, hs.bel⟩
        show (false : Bool) = decide (a = b)
        cases a; cases b; simp_all
    · refine n1 rfl ?_
      refine n1 rfl ?_
      refine n1 rfl ?_
      refine n1 rfl ?_
      refine n1 rfl ?_
      refine p1 rfl <| p1 rfl ?_
      refine n1 rfl ?_
      refine n1 rfl ?_
      refine n1 rfl ?_
      refine n1 rfl ?_
      refine n1 rfl ?_
      refine p1 rfl <| p1 rfl ?_
      refine D_end ?_
      refine x_then ?_
      refine D_weak [(4, (.bool false))] ⟨rfl, trivial⟩ ?_
      refine D_sel (H' := []) [false, false] rfl ?_
      refine C_ret ?_
      refine R_1 rfl rfl fun w' hs => ⟨congrArg (fun z => Ending.returned (Value.bool z)) ?_, hs.bel⟩
      show (false : Bool) = decide (a = b)
      cases a; cases b; simp_all
  · have pr11 : (a.Kind : Int) ≠ b.Kind := ne_of_beq_false h11
    refine n1 rfl ?_
    refine n1 rfl ?_
    refine n1 rfl ?_
    refine n1 rfl ?_
    refine n1 rfl ?_
    refine p1 rfl <| p1 rfl ?_
    refine n1 rfl ?_
    refine n1 rfl ?_
    refine n1 rfl ?_
    refine n1 rfl ?_
    refine n1 rfl ?_
    refine p1 rfl <| p1 rfl ?_
    refine n1 rfl ?_
    refine n1 rfl ?_
    refine n1 rfl ?_
    refine n1 rfl ?_
    refine n1 rfl ?_
    refine p1 rfl <| p1 rfl ?_
    refine D_end ?_
    refine x_then ?_
    refine D_weak [(4, (.bool false))] ⟨rfl, trivial⟩ ?_
    refine D_sel (H' := []) [false, false] rfl ?_
    refine C_ret ?_
    refine R_1 rfl rfl fun w' hs => ⟨congrArg (fun z => Ending.returned (Value.bool z)) ?_, hs.bel⟩
    show (false : Bool) = decide (a = b)
    cases a; cases b; simp_all

theorem impl_sameFiring (w : World) (c_a : List Value) (a : Firing) (c_b : List Value) (b : Firing) (h_a : Gd.rd w c_a a) (h_b : Gd.rd w c_b b) : Calls Try.prog 41 [(.agg c_a.toArray), (.agg c_b.toArray)].toArray w (Val w (.bool (decide (a = b)))) := by
  obtain ⟨u1, rfl, hu2⟩ := open_Firing h_a
  have hm3 := rd_max hu2
  obtain ⟨u4, rfl, hu5⟩ := open_Firing h_b
  have hm6 := rd_max hu5
  refine enter 17 Try.func41 rfl rfl rfl ?_
  refine C_seq ?_
  refine C_reg ?_
  refine li rfl (D_box rfl rfl rfl rfl rfl fun g7 => ?_)
  refine li rfl (D_box rfl rfl rfl rfl rfl fun g8 => ?_)
  refine p1 rfl ?_
  refine D_end ?_
  refine x_then ?_
  refine D_H ([bx g8 [(.string b.Rule), u4], bx g7 [(.string a.Rule), u1]]) rfl ?_
  refine C_seq ?_
  refine C_reg ?_
  refine q1 rfl (D_fb f_71_0 rfl rfl (q := 0) rfl) ?_
  refine q1 rfl (lb 1 o_9 rfl rfl rfl rfl) ?_
  refine q1 rfl (D_fb f_71_0 rfl rfl (q := 0) rfl) ?_
  refine q1 rfl (lb 0 o_9 rfl rfl rfl rfl) ?_
  refine q1 rfl (D_eqS rfl rfl rfl) ?_
  refine p1 rfl ?_
  refine gs 10 rfl rfl (fun h9 => ?_) (fun h9 => ?_)
  · have pr9 : (a.Rule : ByteArray) = b.Rule := of_decide_eq_true h9
    refine q1 rfl (D_fb f_71_1 rfl rfl (q := 1) rfl) ?_
    refine q1 rfl (lb 1 o_69 rfl rfl rfl rfl) ?_
    refine q1 rfl (D_fb f_71_1 rfl rfl (q := 1) rfl) ?_
    refine q1 rfl (lb 0 o_69 rfl rfl rfl rfl) ?_
    refine li rfl (cv b_66 rfl rfl rfl rfl (fun w' hs => (impl_sameInts w' u1 a.Times u4 b.Times (rd_at hs hu2) (rd_at hs hu5))) ?_)
    refine p1 rfl <| p1 rfl ?_
    refine D_end ?_
    refine x_then ?_
    refine D_weak [(4, (.bool (decide (a.Times = b.Times))))] ⟨rfl, trivial⟩ ?_
    refine D_sel (H' := []) [false, false] rfl ?_
    refine C_ret ?_
    refine R_1 rfl rfl fun w' hs => ⟨congrArg (fun z => Ending.returned (Value.bool z)) ?_, hs.bel⟩
    show ((decide (a.Times = b.Times)) : Bool) = decide (a = b)
    cases a; cases b; simp_all
  · have pr9 : ¬ (a.Rule : ByteArray) = b.Rule := of_decide_eq_false h9
    refine n1 rfl ?_
    refine n1 rfl ?_
    refine n1 rfl ?_
    refine n1 rfl ?_
    refine n1 rfl ?_
    refine p1 rfl <| p1 rfl ?_
    refine D_end ?_
    refine x_then ?_
    refine D_weak [(4, (.bool false))] ⟨rfl, trivial⟩ ?_
    refine D_sel (H' := []) [false, false] rfl ?_
    refine C_ret ?_
    refine R_1 rfl rfl fun w' hs => ⟨congrArg (fun z => Ending.returned (Value.bool z)) ?_, hs.bel⟩
    show (false : Bool) = decide (a = b)
    cases a; cases b; simp_all

theorem spec_l10SameEvent (w : World) (c_a : List Value) (a : Event) (c_b : List Value) (b : Event) (h_a : Gd.rd w c_a a) (h_b : Gd.rd w c_b b) : Calls Try.prog 34 [(.agg c_a.toArray), (.agg c_b.toArray)].toArray w (Val w (.bool (decide (a = b)))) := by
  obtain ⟨u1, rfl, hu2⟩ := open_Event h_a
  have hm3 := rd_max hu2
  have hb4 := sub_Event_Fact h_a
  obtain ⟨u5, rfl, hu6⟩ := open_Event h_b
  have hm7 := rd_max hu6
  have hb8 := sub_Event_Fact h_b
  refine enter 24 Try.func34 rfl rfl rfl ?_
  refine C_seq ?_
  refine C_reg ?_
  refine li rfl (D_box rfl rfl rfl rfl rfl fun g9 => ?_)
  refine li rfl (D_box rfl rfl rfl rfl rfl fun g10 => ?_)
  refine p1 rfl ?_
  refine D_end ?_
  refine x_then ?_
  refine D_H ([bx g10 [(.int .i64 b.Kind), (.string b.Rule), (.string b.Fact.Rel), u5], bx g9 [(.int .i64 a.Kind), (.string a.Rule), (.string a.Fact.Rel), u1]]) rfl ?_
  refine C_seq ?_
  refine C_reg ?_
  refine q1 rfl (D_fb f_31_0 rfl rfl (q := 0) rfl) ?_
  refine q1 rfl (lb 1 o_3 rfl rfl rfl rfl) ?_
  refine q1 rfl (D_fb f_31_0 rfl rfl (q := 0) rfl) ?_
  refine q1 rfl (lb 0 o_3 rfl rfl rfl rfl) ?_
  refine p1 rfl <| p1 rfl ?_
  refine gs 10 rfl rfl (fun h11 => ?_) (fun h11 => ?_)
  · have pr11 : (a.Kind : Int) = b.Kind := eq_of_beq h11
    refine q1 rfl (D_fb f_31_1 rfl rfl (q := 1) rfl) ?_
    refine q1 rfl (lb 1 o_9 rfl rfl rfl rfl) ?_
    refine q1 rfl (D_fb f_31_1 rfl rfl (q := 1) rfl) ?_
    refine q1 rfl (lb 0 o_9 rfl rfl rfl rfl) ?_
    refine q1 rfl (D_eqS rfl rfl rfl) ?_
    refine p1 rfl <| p1 rfl ?_
    refine gs 17 rfl rfl (fun h12 => ?_) (fun h12 => ?_)
    · have pr12 : (a.Rule : ByteArray) = b.Rule := of_decide_eq_true h12
      refine q1 rfl (D_fb f_31_2 rfl rfl (q := 2) rfl) ?_
      refine q1 rfl (lba (es := [(.string a.Fact.Rel), u1]) 1 a_29 rfl rfl rfl rfl) ?_
      refine q1 rfl (D_fb f_31_2 rfl rfl (q := 2) rfl) ?_
      refine q1 rfl (lba (es := [(.string b.Fact.Rel), u5]) 0 a_29 rfl rfl rfl rfl) ?_
      refine li rfl (cv b_32 rfl rfl rfl rfl (fun w' hs => (spec_l2Same w' [(.string a.Fact.Rel), u1] a.Fact [(.string b.Fact.Rel), u5] b.Fact (rd_at hs hb4) (rd_at hs hb8))) ?_)
      refine p1 rfl <| p1 rfl ?_
      refine D_end ?_
      refine x_then ?_
      refine D_weak [(4, (.bool (decide (a.Fact = b.Fact))))] ⟨rfl, trivial⟩ ?_
      refine D_sel (H' := []) [false, false] rfl ?_
      refine C_ret ?_
      refine R_1 rfl rfl fun w' hs => ⟨congrArg (fun z => Ending.returned (Value.bool z)) ?_, hs.bel⟩
      show ((decide (a.Fact = b.Fact)) : Bool) = decide (a = b)
      cases a; cases b; simp_all
    · have pr12 : ¬ (a.Rule : ByteArray) = b.Rule := of_decide_eq_false h12
      refine n1 rfl ?_
      refine n1 rfl ?_
      refine n1 rfl ?_
      refine n1 rfl ?_
      refine n1 rfl ?_
      refine p1 rfl <| p1 rfl ?_
      refine D_end ?_
      refine x_then ?_
      refine D_weak [(4, (.bool false))] ⟨rfl, trivial⟩ ?_
      refine D_sel (H' := []) [false, false] rfl ?_
      refine C_ret ?_
      refine R_1 rfl rfl fun w' hs => ⟨congrArg (fun z => Ending.returned (Value.bool z)) ?_, hs.bel⟩
      show (false : Bool) = decide (a = b)
      cases a; cases b; simp_all
  · have pr11 : (a.Kind : Int) ≠ b.Kind := ne_of_beq_false h11
    refine n1 rfl ?_
    refine n1 rfl ?_
    refine n1 rfl ?_
    refine n1 rfl ?_
    refine n1 rfl ?_
    refine p1 rfl <| p1 rfl ?_
    refine n1 rfl ?_
    refine n1 rfl ?_
    refine n1 rfl ?_
    refine n1 rfl ?_
    refine n1 rfl ?_
    refine p1 rfl <| p1 rfl ?_
    refine D_end ?_
    refine x_then ?_
    refine D_weak [(4, (.bool false))] ⟨rfl, trivial⟩ ?_
    refine D_sel (H' := []) [false, false] rfl ?_
    refine C_ret ?_
    refine R_1 rfl rfl fun w' hs => ⟨congrArg (fun z => Ending.returned (Value.bool z)) ?_, hs.bel⟩
    show (false : Bool) = decide (a = b)
    cases a; cases b; simp_all

set_option maxHeartbeats 4000000 in
theorem impl_SameRule (w : World) (c_a : List Value) (a : Rule) (c_b : List Value) (b : Rule) (h_a : Gd.rd w c_a a) (h_b : Gd.rd w c_b b) : Calls Try.prog 64 [(.agg c_a.toArray), (.agg c_b.toArray)].toArray w (Val w (.bool (decide (a = b)))) := by
  obtain ⟨u1, u3, rfl, hu2, hu4⟩ := open_Rule h_a
  have hm5 := rd_max hu2
  have hm6 := rd_max hu4
  obtain ⟨u7, u9, rfl, hu8, hu10⟩ := open_Rule h_b
  have hm11 := rd_max hu8
  have hm12 := rd_max hu10
  refine enter 92 Try.func64 rfl rfl rfl ?_
  refine C_seq ?_
  refine C_reg ?_
  refine li rfl (D_box rfl rfl rfl rfl rfl fun g13 => ?_)
  refine li rfl (D_box rfl rfl rfl rfl rfl fun g14 => ?_)
  refine p1 rfl ?_
  refine D_end ?_
  refine x_then ?_
  refine D_H ([bx g14 [(.string b.Name), (.int .i64 b.Priority), u7, u9], bx g13 [(.string a.Name), (.int .i64 a.Priority), u1, u3]]) rfl ?_
  refine C_seq ?_
  refine C_seq ?_
  refine C_reg ?_
  refine q1 rfl (D_fb f_66_0 rfl rfl (q := 0) rfl) ?_
  refine q1 rfl (lb 1 o_9 rfl rfl rfl rfl) ?_
  refine q1 rfl (D_fb f_66_0 rfl rfl (q := 0) rfl) ?_
  refine q1 rfl (lb 0 o_9 rfl rfl rfl rfl) ?_
  refine q1 rfl (D_neS rfl rfl rfl) ?_
  refine p1 rfl ?_
  refine gs 12 rfl rfl (fun h15 => ?_) (fun h15 => ?_)
  · have pr15 : ¬ (a.Name : ByteArray) = b.Name := of_decide_eq_false (not_t h15)
    refine n1 rfl ?_
    refine n1 rfl ?_
    refine n1 rfl ?_
    refine n1 rfl ?_
    refine n1 rfl ?_
    refine p1 rfl <| p1 rfl ?_
    refine n1 rfl ?_
    refine n1 rfl ?_
    refine n1 rfl ?_
    refine n1 rfl ?_
    refine n1 rfl ?_
    refine n1 rfl ?_
    refine n1 rfl ?_
    refine p1 rfl <| p1 rfl ?_
    refine n1 rfl ?_
    refine n1 rfl ?_
    refine n1 rfl ?_
    refine n1 rfl ?_
    refine n1 rfl ?_
    refine n1 rfl ?_
    refine n1 rfl ?_
    refine p1 rfl ?_
    refine D_end ?_
    refine x_then ?_
    refine D_weak [(2, (.pointer (some ⟨g13, 0, none⟩))), (3, (.pointer (some ⟨g14, 0, none⟩))), (36, (.bool true))] ⟨rfl, rfl, rfl, trivial⟩ ?_
    refine C_t rfl ?_
    refine C_seq ?_
    refine C_reg ?_
    refine p1 rfl ?_
    refine D_end ?_
    refine x_then ?_
    refine C_ret ?_
    refine x_then_ret ?_
    refine R_1 rfl rfl fun w' hs => ⟨congrArg (fun z => Ending.returned (Value.bool z)) ?_, hs.bel⟩
    show (false : Bool) = decide (a = b)
    simp; intro e; subst e; simp_all
  · have pr15 : (a.Name : ByteArray) = b.Name := of_decide_eq_true (not_f h15)
    refine q1 rfl (D_fb f_66_1 rfl rfl (q := 1) rfl) ?_
    refine q1 rfl (lb 1 o_3 rfl rfl rfl rfl) ?_
    refine q1 rfl (D_fb f_66_1 rfl rfl (q := 1) rfl) ?_
    refine q1 rfl (lb 0 o_3 rfl rfl rfl rfl) ?_
    refine p1 rfl <| p1 rfl <| p1 rfl ?_
    refine gs 19 rfl rfl (fun h16 => ?_) (fun h16 => ?_)
    · have pr16 : (a.Priority : Int) ≠ b.Priority := bne_iff_ne.1 h16
      refine n1 rfl ?_
      refine n1 rfl ?_
      refine n1 rfl ?_
      refine n1 rfl ?_
      refine n1 rfl ?_
      refine n1 rfl ?_
      refine n1 rfl ?_
      refine p1 rfl <| p1 rfl ?_
      refine n1 rfl ?_
      refine n1 rfl ?_
      refine n1 rfl ?_
      refine n1 rfl ?_
      refine n1 rfl ?_
      refine n1 rfl ?_
      refine n1 rfl ?_
      refine p1 rfl ?_
      refine D_end ?_
      refine x_then ?_
      refine D_weak [(2, (.pointer (some ⟨g13, 0, none⟩))), (3, (.pointer (some ⟨g14, 0, none⟩))), (36, (.bool true))] ⟨rfl, rfl, rfl, trivial⟩ ?_
      refine C_t rfl ?_
      refine C_seq ?_
      refine C_reg ?_
      refine p1 rfl ?_
      refine D_end ?_
      refine x_then ?_
      refine C_ret ?_
      refine x_then_ret ?_
      refine R_1 rfl rfl fun w' hs => ⟨congrArg (fun z => Ending.returned (Value.bool z)) ?_, hs.bel⟩
      show (false : Bool) = decide (a = b)
      simp; intro e; subst e; simp_all
    · have pr16 : (a.Priority : Int) = b.Priority := eq_of_bne_f h16
      refine q1 rfl (D_fb f_66_2 rfl rfl (q := 2) rfl) ?_
      refine q1 rfl (lb 1 o_63 rfl rfl rfl rfl) ?_
      refine q1 rfl (D_len s_63 rfl rfl (rd_sl hu2)) ?_
      refine q1 rfl (D_fb f_66_2 rfl rfl (q := 2) rfl) ?_
      refine q1 rfl (lb 0 o_63 rfl rfl rfl rfl) ?_
      refine q1 rfl (D_len s_63 rfl rfl (rd_sl hu8)) ?_
      refine p1 rfl <| p1 rfl <| p1 rfl ?_
      refine gs 28 rfl rfl (fun h17 => ?_) (fun h17 => ?_)
      · have pr17 : (((a.If.length : Nat) : Int) : Int) ≠ ((b.If.length : Nat) : Int) := bne_iff_ne.1 h17
        refine n1 rfl ?_
        refine n1 rfl ?_
        refine n1 rfl ?_
        refine n1 rfl ?_
        refine n1 rfl ?_
        refine n1 rfl ?_
        refine n1 rfl ?_
        refine p1 rfl ?_
        refine D_end ?_
        refine x_then ?_
        refine D_weak [(2, (.pointer (some ⟨g13, 0, none⟩))), (3, (.pointer (some ⟨g14, 0, none⟩))), (36, (.bool true))] ⟨rfl, rfl, rfl, trivial⟩ ?_
        refine C_t rfl ?_
        refine C_seq ?_
        refine C_reg ?_
        refine p1 rfl ?_
        refine D_end ?_
        refine x_then ?_
        refine C_ret ?_
        refine x_then_ret ?_
        refine R_1 rfl rfl fun w' hs => ⟨congrArg (fun z => Ending.returned (Value.bool z)) ?_, hs.bel⟩
        show (false : Bool) = decide (a = b)
        simp; intro e; subst e; simp_all
      · have pr17 : (((a.If.length : Nat) : Int) : Int) = ((b.If.length : Nat) : Int) := eq_of_bne_f h17
        refine q1 rfl (D_fb f_66_3 rfl rfl (q := 3) rfl) ?_
        refine q1 rfl (lb 1 o_64 rfl rfl rfl rfl) ?_
        refine q1 rfl (D_len s_64 rfl rfl (rd_sl hu4)) ?_
        refine q1 rfl (D_fb f_66_3 rfl rfl (q := 3) rfl) ?_
        refine q1 rfl (lb 0 o_64 rfl rfl rfl rfl) ?_
        refine q1 rfl (D_len s_64 rfl rfl (rd_sl hu10)) ?_
        refine p1 rfl <| p1 rfl ?_
        refine D_end ?_
        refine x_then ?_
        refine D_weak [(2, (.pointer (some ⟨g13, 0, none⟩))), (3, (.pointer (some ⟨g14, 0, none⟩))), (36, (.bool ((((a.Then.length : Nat) : Int) : Int) != ((b.Then.length : Nat) : Int))))] ⟨rfl, rfl, rfl, trivial⟩ ?_
        refine C_if _ rfl (fun h18 => ?_) (fun h18 => ?_)
        · have pr18 : (((a.Then.length : Nat) : Int) : Int) ≠ ((b.Then.length : Nat) : Int) := bne_iff_ne.1 h18
          refine C_seq ?_
          refine C_reg ?_
          refine p1 rfl ?_
          refine D_end ?_
          refine x_then ?_
          refine C_ret ?_
          refine x_then_ret ?_
          refine R_1 rfl rfl fun w' hs => ⟨congrArg (fun z => Ending.returned (Value.bool z)) ?_, hs.bel⟩
          show (false : Bool) = decide (a = b)
          simp; intro e; subst e; simp_all
        · have pr18 : (((a.Then.length : Nat) : Int) : Int) = ((b.Then.length : Nat) : Int) := eq_of_bne_f h18
          refine C_skip ?_
          refine x_then ?_
          refine C_seq ?_
          refine C_seq ?_
          refine C_reg ?_
          refine q1 rfl (D_fb f_66_2 rfl rfl (q := 2) rfl) ?_
          refine q1 rfl (lb 1 o_63 rfl rfl rfl rfl) ?_
          refine q1 rfl (D_len s_63 rfl rfl (rd_sl hu2)) ?_
          refine p1 rfl ?_
          refine D_end ?_
          refine x_then ?_
          refine C_block ?_
          refine C_loop (fun m_ ac w' => ∃ (k : Nat), (k ≤ a.If.length) ∧ (∀ i, i < k → a.If[i]? = b.If[i]?) ∧ m_ = a.If.length - k ∧ Fits ac 92 [(2, (.pointer (some ⟨g13, 0, none⟩))), (3, (.pointer (some ⟨g14, 0, none⟩))), (39, (.int .i64 ((a.If.length : Nat) : Int))), (40, (.int .i64 ((k : Nat) : Int)))] ∧ St w ([bx g14 [(.string b.Name), (.int .i64 b.Priority), u7, u9], bx g13 [(.string a.Name), (.int .i64 a.Priority), u1, u3]]) w') ?_ ?_
          · refine fun ac w' hf hs => ⟨_, 0, ?_, ?_, rfl, hf.weak ⟨rfl, rfl, rfl, rfl, trivial⟩, hs⟩
            · first | assumption | omega | simp
            · intro i hi; omega
          · rintro m_ ac w' ⟨k, hk, hi, rfl, hf, hs⟩
            refine D.use ?_ hf hs
            clear hf hs ac w'
            refine C_seq ?_
            refine C_reg ?_
            refine p1 rfl ?_
            refine D_end ?_
            refine x_then ?_
            refine C_seq ?_
            refine C_if _ rfl (fun h19 => ?_) (fun h19 => ?_)
            · have pr19 : (((k : Nat) : Int) : Int) < ((a.If.length : Nat) : Int) := of_decide_eq_true h19
              refine C_skip ?_
              refine x_then ?_
              refine C_seq ?_
              refine C_block ?_
              refine C_seq ?_
              refine C_reg ?_
              refine p1 rfl <| p1 rfl ?_
              refine D_end ?_
              refine x_then ?_
              refine C_seq ?_
              refine C_draw mixed [10, 11] (by kernel_rfl) ?_
              refine tk 0 rfl (by kernel_rfl) (by kernel_rfl) (by kernel_rfl) rfl (fun _ hs => hs) (D_fb f_66_2 rfl rfl (q := 2) rfl) ?_
              refine tk 1 rfl (by kernel_rfl) (by kernel_rfl) (by kernel_rfl) rfl (fun _ hs => hs) (lb 1 o_63 rfl rfl rfl rfl) ?_
              refine tk 2 rfl (by kernel_rfl) (by kernel_rfl) (by kernel_rfl) rfl (fun _ hs => hs) (rp rfl) ?_
              obtain ⟨x20, hx21⟩ := some_of_lt (l := a.If) (i := k) (by omega)
              obtain ⟨es22, at23, hr24⟩ := rd_elem (n := 5) rfl hu2 hx21
              obtain ⟨u25, rfl, hu26⟩ := open_Cond hr24
              have hm27 := rd_max hu26
              have hb28 := sub_Cond_Pattern hr24
              refine tk 3 rfl (by kernel_rfl) (by kernel_rfl) (by kernel_rfl) rfl (fun _ hs => hs) (D_ix (l := a.If) (j := k) s_63 rfl rfl rfl (fun w' hs => (rd_at hs hu2)) rfl (lt_of_some hx21)) ?_
              refine tk 4 rfl (by kernel_rfl) (by kernel_rfl) (by kernel_rfl) rfl (fun _ hs => hs) (lra a_100 rfl rfl at23) ?_
              refine tk 5 rfl (by kernel_rfl) (by kernel_rfl) (by kernel_rfl) rfl (fun _ hs => hs) (D_fb f_66_2 rfl rfl (q := 2) rfl) ?_
              refine tk 6 rfl (by kernel_rfl) (by kernel_rfl) (by kernel_rfl) rfl (fun _ hs => hs) (lb 0 o_63 rfl rfl rfl rfl) ?_
              refine tk 7 rfl (by kernel_rfl) (by kernel_rfl) (by kernel_rfl) rfl (fun _ hs => hs) (rp rfl) ?_
              obtain ⟨x29, hx30⟩ := some_of_lt (l := b.If) (i := k) (by omega)
              obtain ⟨es31, at32, hr33⟩ := rd_elem (n := 5) rfl hu8 hx30
              obtain ⟨u34, rfl, hu35⟩ := open_Cond hr33
              have hm36 := rd_max hu35
              have hb37 := sub_Cond_Pattern hr33
              refine tk 8 rfl (by kernel_rfl) (by kernel_rfl) (by kernel_rfl) rfl (fun _ hs => hs) (D_ix (l := b.If) (j := k) s_63 rfl rfl rfl (fun w' hs => (rd_at hs hu8)) rfl (lt_of_some hx30)) ?_
              refine tk 9 rfl (by kernel_rfl) (by kernel_rfl) (by kernel_rfl) rfl (fun _ hs => hs) (lra a_100 rfl rfl at32) ?_
              refine ty 10 rfl (by kernel_rfl) rfl (cv b_77 rfl rfl rfl rfl (fun w' hs => (impl_SameCond w' [(.int .i64 x20.Kind), (.string x20.Pattern.Rel), u25, (.string x20.Left), (.string x20.Right)] x20 [(.int .i64 x29.Kind), (.string x29.Pattern.Rel), u34, (.string x29.Left), (.string x29.Right)] x29 (rd_at hs hr24) (rd_at hs hr33))) ?_)
              refine tZ rfl ?_
              refine ty 11 rfl (by kernel_rfl) rfl (sv rfl rfl (rp rfl) ?_)
              refine tZ rfl ?_
              refine tE (by kernel_rfl) ?_
              refine x_then ?_
              refine C_if _ rfl (fun h38 => ?_) (fun h38 => ?_)
              · have h38n : (decide (x20 = x29)) = false := not_t h38
                refine C_seq ?_
                refine C_reg ?_
                refine p1 rfl ?_
                refine D_end ?_
                refine x_then ?_
                refine D_weak [(4, (.bool false))] ⟨rfl, trivial⟩ ?_
                refine C_ret ?_
                refine x_blk_ret ?_
                refine x_then_ret ?_
                refine x_then_ret ?_
                refine x_blk_ret ?_
                refine x_then_ret ?_
                refine R_1 rfl rfl fun w' hs => ⟨congrArg (fun z => Ending.returned (Value.bool z)) ?_, hs.bel⟩
                show (false : Bool) = decide (a = b)
                simp; intro e; subst e; simp_all
              · have h38n : (decide (x20 = x29)) = true := not_f h38
                refine C_skip ?_
                refine x_blk ?_
                refine x_then ?_
                refine D_weak [(2, (.pointer (some ⟨g13, 0, none⟩))), (3, (.pointer (some ⟨g14, 0, none⟩))), (39, (.int .i64 ((a.If.length : Nat) : Int))), (40, (.int .i64 ((k : Nat) : Int)))] ⟨rfl, rfl, rfl, rfl, trivial⟩ ?_
                refine C_reg ?_
                refine q1 rfl (D_add rfl rfl rfl (r := ((k + 1 : Nat) : Int)) (by omega) (by omega)) ?_
                refine p1 rfl ?_
                refine D_end ?_
                refine x_then ?_
                refine fun ac w' hf hs => ⟨_, ?_, k + 1, ?_, ?_, rfl, hf.weak ⟨rfl, rfl, rfl, rfl, trivial⟩, hs⟩
                · omega
                · first | assumption | omega | simp
                · refine idx_step hi (by assumption) (by assumption) ?_; first | (simp_all; done) | (apply Fact.mk_eq <;> simp_all)
            · have pr19 : ¬ (((k : Nat) : Int) : Int) < ((a.If.length : Nat) : Int) := of_decide_eq_false h19
              refine C_exit ?_
              refine x_then_exit ?_
              refine x_then_exit ?_
              refine x_blk_eq ?_
              refine x_then ?_
              refine C_seq ?_
              refine C_seq ?_
              refine C_reg ?_
              refine q1 rfl (D_fb f_66_3 rfl rfl (q := 3) rfl) ?_
              refine q1 rfl (lb 1 o_64 rfl rfl rfl rfl) ?_
              refine q1 rfl (D_len s_64 rfl rfl (rd_sl hu4)) ?_
              refine p1 rfl ?_
              refine D_end ?_
              refine x_then ?_
              refine C_block ?_
              refine C_loop (fun m_ ac w' => ∃ (m : Nat), (m ≤ a.Then.length) ∧ (∀ i, i < m → a.Then[i]? = b.Then[i]?) ∧ m_ = a.Then.length - m ∧ Fits ac 92 [(2, (.pointer (some ⟨g13, 0, none⟩))), (3, (.pointer (some ⟨g14, 0, none⟩))), (58, (.int .i64 ((a.Then.length : Nat) : Int))), (59, (.int .i64 ((m : Nat) : Int)))] ∧ St w ([bx g14 [(.string b.Name), (.int .i64 b.Priority), u7, u9], bx g13 [(.string a.Name), (.int .i64 a.Priority), u1, u3]]) w') ?_ ?_
              · refine fun ac w' hf hs => ⟨_, 0, ?_, ?_, rfl, hf.weak ⟨rfl, rfl, rfl, rfl, trivial⟩, hs⟩
                · first | assumption | omega | simp
                · intro i hi; omega
              · rintro m_ ac w' ⟨m, hm, hj, rfl, hf, hs⟩
                refine D.use ?_ hf hs
                clear hf hs ac w'
                refine C_seq ?_
                refine C_reg ?_
                refine p1 rfl ?_
                refine D_end ?_
                refine x_then ?_
                refine C_seq ?_
                refine C_if _ rfl (fun h39 => ?_) (fun h39 => ?_)
                · have pr39 : (((m : Nat) : Int) : Int) < ((a.Then.length : Nat) : Int) := of_decide_eq_true h39
                  refine C_skip ?_
                  refine x_then ?_
                  refine C_seq ?_
                  refine C_block ?_
                  refine C_seq ?_
                  refine C_reg ?_
                  refine p1 rfl <| p1 rfl ?_
                  refine D_end ?_
                  refine x_then ?_
                  refine C_seq ?_
                  refine C_draw mixed [26, 27, 28] (by kernel_rfl) ?_
                  refine tk 0 rfl (by kernel_rfl) (by kernel_rfl) (by kernel_rfl) rfl (fun _ hs => hs) (D_fb f_66_3 rfl rfl (q := 3) rfl) ?_
                  refine tk 1 rfl (by kernel_rfl) (by kernel_rfl) (by kernel_rfl) rfl (fun _ hs => hs) (lb 1 o_64 rfl rfl rfl rfl) ?_
                  refine tk 2 rfl (by kernel_rfl) (by kernel_rfl) (by kernel_rfl) rfl (fun _ hs => hs) (rp rfl) ?_
                  obtain ⟨x40, hx41⟩ := some_of_lt (l := a.Then) (i := m) (by omega)
                  obtain ⟨es42, at43, hr44⟩ := rd_elem (n := 3) rfl hu4 hx41
                  obtain ⟨u45, rfl, hu46⟩ := open_Action hr44
                  have hm47 := rd_max hu46
                  have hb48 := sub_Action_Pattern hr44
                  refine tk 3 rfl (by kernel_rfl) (by kernel_rfl) (by kernel_rfl) rfl (fun _ hs => hs) (D_ix (l := a.Then) (j := m) s_64 rfl rfl rfl (fun w' hs => (rd_at hs hu4)) rfl (lt_of_some hx41)) ?_
                  refine tk 4 rfl (by kernel_rfl) (by kernel_rfl) (by kernel_rfl) rfl (fun _ hs => hs) (D_fa f_102_0 rfl rfl) ?_
                  refine tk 5 rfl (by kernel_rfl) (by kernel_rfl) (by kernel_rfl) rfl (fun _ hs => hs) (lr o_3 rfl rfl at43 rfl) ?_
                  refine tk 6 rfl (by kernel_rfl) (by kernel_rfl) (by kernel_rfl) rfl (fun _ hs => hs) (D_fb f_66_3 rfl rfl (q := 3) rfl) ?_
                  refine tk 7 rfl (by kernel_rfl) (by kernel_rfl) (by kernel_rfl) rfl (fun _ hs => hs) (lb 0 o_64 rfl rfl rfl rfl) ?_
                  refine tk 8 rfl (by kernel_rfl) (by kernel_rfl) (by kernel_rfl) rfl (fun _ hs => hs) (rp rfl) ?_
                  obtain ⟨x49, hx50⟩ := some_of_lt (l := b.Then) (i := m) (by omega)
                  obtain ⟨es51, at52, hr53⟩ := rd_elem (n := 3) rfl hu10 hx50
                  obtain ⟨u54, rfl, hu55⟩ := open_Action hr53
                  have hm56 := rd_max hu55
                  have hb57 := sub_Action_Pattern hr53
                  refine tk 9 rfl (by kernel_rfl) (by kernel_rfl) (by kernel_rfl) rfl (fun _ hs => hs) (D_ix (l := b.Then) (j := m) s_64 rfl rfl rfl (fun w' hs => (rd_at hs hu10)) rfl (lt_of_some hx50)) ?_
                  refine tk 10 rfl (by kernel_rfl) (by kernel_rfl) (by kernel_rfl) rfl (fun _ hs => hs) (D_fa f_102_0 rfl rfl) ?_
                  refine tk 11 rfl (by kernel_rfl) (by kernel_rfl) (by kernel_rfl) rfl (fun _ hs => hs) (lr o_3 rfl rfl at52 rfl) ?_
                  refine tk 12 rfl (by kernel_rfl) (by kernel_rfl) (by kernel_rfl) rfl (fun _ hs => hs) (rp rfl) ?_
                  refine tk 13 rfl (by kernel_rfl) (by kernel_rfl) (by kernel_rfl) rfl (fun _ hs => hs) (rp rfl) ?_
                  refine gs 75 rfl rfl (fun h58 => ?_) (fun h58 => ?_)
                  · have pr58 : (x40.Kind : Int) ≠ x49.Kind := bne_iff_ne.1 h58
                    refine tn 14 rfl (by kernel_rfl) (by kernel_rfl) (by kernel_rfl) rfl rfl rfl (fun _ hs => hs) ?_
                    refine tn 15 rfl (by kernel_rfl) (by kernel_rfl) (by kernel_rfl) rfl rfl rfl (fun _ hs => hs) ?_
                    refine tn 16 rfl (by kernel_rfl) (by kernel_rfl) (by kernel_rfl) rfl rfl rfl (fun _ hs => hs) ?_
                    refine tn 17 rfl (by kernel_rfl) (by kernel_rfl) (by kernel_rfl) rfl rfl rfl (fun _ hs => hs) ?_
                    refine tn 18 rfl (by kernel_rfl) (by kernel_rfl) (by kernel_rfl) rfl rfl rfl (fun _ hs => hs) ?_
                    refine tn 19 rfl (by kernel_rfl) (by kernel_rfl) (by kernel_rfl) rfl rfl rfl (fun _ hs => hs) ?_
                    refine tn 20 rfl (by kernel_rfl) (by kernel_rfl) (by kernel_rfl) rfl rfl rfl (fun _ hs => hs) ?_
                    refine tn 21 rfl (by kernel_rfl) (by kernel_rfl) (by kernel_rfl) rfl rfl rfl (fun _ hs => hs) ?_
                    refine tn 22 rfl (by kernel_rfl) (by kernel_rfl) (by kernel_rfl) rfl rfl rfl (fun _ hs => hs) ?_
                    refine tn 23 rfl (by kernel_rfl) (by kernel_rfl) (by kernel_rfl) rfl rfl rfl (fun _ hs => hs) ?_
                    refine tn 24 rfl (by kernel_rfl) (by kernel_rfl) (by kernel_rfl) rfl rfl rfl (fun _ hs => hs) ?_
                    refine tn 25 rfl (by kernel_rfl) (by kernel_rfl) (by kernel_rfl) rfl rfl rfl (fun _ hs => hs) ?_
                    refine tn 26 rfl (by kernel_rfl) (by kernel_rfl) (by kernel_rfl) rfl rfl rfl (fun _ hs => hs) ?_
                    refine tn 27 rfl (by kernel_rfl) (by kernel_rfl) (by kernel_rfl) rfl rfl rfl (fun _ hs => hs) ?_
                    refine ty 28 rfl (by kernel_rfl) rfl (sv rfl rfl (rp rfl) ?_)
                    refine tZ rfl ?_
                    refine tE (by kernel_rfl) ?_
                    refine x_then ?_
                    refine D_weak [(2, (.pointer (some ⟨g13, 0, none⟩))), (3, (.pointer (some ⟨g14, 0, none⟩))), (58, (.int .i64 ((a.Then.length : Nat) : Int))), (59, (.int .i64 ((m : Nat) : Int))), (90, (.bool true))] ⟨rfl, rfl, rfl, rfl, rfl, trivial⟩ ?_
                    refine C_t rfl ?_
                    refine C_seq ?_
                    refine C_reg ?_
                    refine p1 rfl ?_
                    refine D_end ?_
                    refine x_then ?_
                    refine C_ret ?_
                    refine x_blk_ret ?_
                    refine x_then_ret ?_
                    refine x_then_ret ?_
                    refine x_blk_ret ?_
                    refine x_then_ret ?_
                    refine R_1 rfl rfl fun w' hs => ⟨congrArg (fun z => Ending.returned (Value.bool z)) ?_, hs.bel⟩
                    show (false : Bool) = decide (a = b)
                    simp; intro e; subst e; simp_all
                  · have pr58 : (x40.Kind : Int) = x49.Kind := eq_of_bne_f h58
                    refine tk 14 rfl (by kernel_rfl) (by kernel_rfl) (by kernel_rfl) rfl (fun _ hs => hs) (D_fb f_66_3 rfl rfl (q := 3) rfl) ?_
                    refine tk 15 rfl (by kernel_rfl) (by kernel_rfl) (by kernel_rfl) rfl (fun _ hs => hs) (lb 1 o_64 rfl rfl rfl rfl) ?_
                    refine tk 16 rfl (by kernel_rfl) (by kernel_rfl) (by kernel_rfl) rfl (fun _ hs => hs) (rp rfl) ?_
                    refine tk 17 rfl (by kernel_rfl) (by kernel_rfl) (by kernel_rfl) rfl (fun _ hs => hs) (D_ix (l := a.Then) (j := m) s_64 rfl rfl rfl (fun w' hs => (rd_at hs hu4)) rfl (lt_of_some hx41)) ?_
                    refine tk 18 rfl (by kernel_rfl) (by kernel_rfl) (by kernel_rfl) rfl (fun _ hs => hs) (D_fa f_102_1 rfl rfl) ?_
                    refine tk 19 rfl (by kernel_rfl) (by kernel_rfl) (by kernel_rfl) rfl (fun _ hs => hs) (lra a_98 rfl rfl (at_sub (f := 1) (n := 2) at43 rfl)) ?_
                    refine tk 20 rfl (by kernel_rfl) (by kernel_rfl) (by kernel_rfl) rfl (fun _ hs => hs) (D_fb f_66_3 rfl rfl (q := 3) rfl) ?_
                    refine tk 21 rfl (by kernel_rfl) (by kernel_rfl) (by kernel_rfl) rfl (fun _ hs => hs) (lb 0 o_64 rfl rfl rfl rfl) ?_
                    refine tk 22 rfl (by kernel_rfl) (by kernel_rfl) (by kernel_rfl) rfl (fun _ hs => hs) (rp rfl) ?_
                    refine tk 23 rfl (by kernel_rfl) (by kernel_rfl) (by kernel_rfl) rfl (fun _ hs => hs) (D_ix (l := b.Then) (j := m) s_64 rfl rfl rfl (fun w' hs => (rd_at hs hu10)) rfl (lt_of_some hx50)) ?_
                    refine tk 24 rfl (by kernel_rfl) (by kernel_rfl) (by kernel_rfl) rfl (fun _ hs => hs) (D_fa f_102_1 rfl rfl) ?_
                    refine tk 25 rfl (by kernel_rfl) (by kernel_rfl) (by kernel_rfl) rfl (fun _ hs => hs) (lra a_98 rfl rfl (at_sub (f := 1) (n := 2) at52 rfl)) ?_
                    refine ty 26 rfl (by kernel_rfl) rfl (cv b_78 rfl rfl rfl rfl (fun w' hs => (impl_SamePattern w' [(.string x40.Pattern.Rel), u45] x40.Pattern [(.string x49.Pattern.Rel), u54] x49.Pattern (rd_at hs hb48) (rd_at hs hb57))) ?_)
                    refine tZ rfl ?_
                    refine ty 27 rfl (by kernel_rfl) rfl (sv rfl rfl (rp rfl) ?_)
                    refine tZ rfl ?_
                    refine ty 28 rfl (by kernel_rfl) rfl (sv rfl rfl (rp rfl) ?_)
                    refine tZ rfl ?_
                    refine tE (by kernel_rfl) ?_
                    refine x_then ?_
                    refine D_weak [(2, (.pointer (some ⟨g13, 0, none⟩))), (3, (.pointer (some ⟨g14, 0, none⟩))), (58, (.int .i64 ((a.Then.length : Nat) : Int))), (59, (.int .i64 ((m : Nat) : Int))), (90, (.bool (!(decide (x40.Pattern = x49.Pattern)))))] ⟨rfl, rfl, rfl, rfl, rfl, trivial⟩ ?_
                    refine C_if _ rfl (fun h59 => ?_) (fun h59 => ?_)
                    · have h59n : (decide (x40.Pattern = x49.Pattern)) = false := not_t h59
                      refine C_seq ?_
                      refine C_reg ?_
                      refine p1 rfl ?_
                      refine D_end ?_
                      refine x_then ?_
                      refine C_ret ?_
                      refine x_blk_ret ?_
                      refine x_then_ret ?_
                      refine x_then_ret ?_
                      refine x_blk_ret ?_
                      refine x_then_ret ?_
                      refine R_1 rfl rfl fun w' hs => ⟨congrArg (fun z => Ending.returned (Value.bool z)) ?_, hs.bel⟩
                      show (false : Bool) = decide (a = b)
                      simp; intro e; subst e; simp_all
                    · have h59n : (decide (x40.Pattern = x49.Pattern)) = true := not_f h59
                      refine C_skip ?_
                      refine x_blk ?_
                      refine x_then ?_
                      refine C_reg ?_
                      refine q1 rfl (D_add rfl rfl rfl (r := ((m + 1 : Nat) : Int)) (by omega) (by omega)) ?_
                      refine p1 rfl ?_
                      refine D_end ?_
                      refine x_then ?_
                      refine fun ac w' hf hs => ⟨_, ?_, m + 1, ?_, ?_, rfl, hf.weak ⟨rfl, rfl, rfl, rfl, trivial⟩, hs⟩
                      · omega
                      · first | assumption | omega | simp
                      · refine idx_step hj (by assumption) (by assumption) ?_; first | (simp_all; done) | (apply Action.mk_eq <;> simp_all)
                · have pr39 : ¬ (((m : Nat) : Int) : Int) < ((a.Then.length : Nat) : Int) := of_decide_eq_false h39
                  refine C_exit ?_
                  refine x_then_exit ?_
                  refine x_then_exit ?_
                  refine x_blk_eq ?_
                  refine x_then ?_
                  refine C_seq ?_
                  refine C_reg ?_
                  refine p1 rfl ?_
                  refine D_end ?_
                  refine x_then ?_
                  refine C_ret ?_
                  refine R_1 rfl rfl fun w' hs => ⟨congrArg (fun z => Ending.returned (Value.bool z)) ?_, hs.bel⟩
                  show (true : Bool) = decide (a = b)
                  simp; exact Rule.mk_eq (by assumption) (by assumption) (eq_of_idx (by omega) (fun i h => hi i (by omega))) (eq_of_idx (by omega) (fun i h => hj i (by omega)))

set_option maxHeartbeats 4000000 in
theorem spec_SameRule (w : World) (c_a : List Value) (a : Rule) (c_b : List Value) (b : Rule) (h_a : Gd.rd w c_a a) (h_b : Gd.rd w c_b b) : Calls Try.prog 31 [(.agg c_a.toArray), (.agg c_b.toArray)].toArray w (Val w (.bool (decide (a = b)))) := by
  obtain ⟨u1, u3, rfl, hu2, hu4⟩ := open_Rule h_a
  have hm5 := rd_max hu2
  have hm6 := rd_max hu4
  obtain ⟨u7, u9, rfl, hu8, hu10⟩ := open_Rule h_b
  have hm11 := rd_max hu8
  have hm12 := rd_max hu10
  refine enter 92 Try.func31 rfl rfl rfl ?_
  refine C_seq ?_
  refine C_reg ?_
  refine li rfl (D_box rfl rfl rfl rfl rfl fun g13 => ?_)
  refine li rfl (D_box rfl rfl rfl rfl rfl fun g14 => ?_)
  refine p1 rfl ?_
  refine D_end ?_
  refine x_then ?_
  refine D_H ([bx g14 [(.string b.Name), (.int .i64 b.Priority), u7, u9], bx g13 [(.string a.Name), (.int .i64 a.Priority), u1, u3]]) rfl ?_
  refine C_seq ?_
  refine C_seq ?_
  refine C_reg ?_
  refine q1 rfl (D_fb f_66_0 rfl rfl (q := 0) rfl) ?_
  refine q1 rfl (lb 1 o_9 rfl rfl rfl rfl) ?_
  refine q1 rfl (D_fb f_66_0 rfl rfl (q := 0) rfl) ?_
  refine q1 rfl (lb 0 o_9 rfl rfl rfl rfl) ?_
  refine q1 rfl (D_neS rfl rfl rfl) ?_
  refine p1 rfl ?_
  refine gs 12 rfl rfl (fun h15 => ?_) (fun h15 => ?_)
  · have pr15 : ¬ (a.Name : ByteArray) = b.Name := of_decide_eq_false (not_t h15)
    refine n1 rfl ?_
    refine n1 rfl ?_
    refine n1 rfl ?_
    refine n1 rfl ?_
    refine n1 rfl ?_
    refine p1 rfl <| p1 rfl ?_
    refine n1 rfl ?_
    refine n1 rfl ?_
    refine n1 rfl ?_
    refine n1 rfl ?_
    refine n1 rfl ?_
    refine n1 rfl ?_
    refine n1 rfl ?_
    refine p1 rfl <| p1 rfl ?_
    refine n1 rfl ?_
    refine n1 rfl ?_
    refine n1 rfl ?_
    refine n1 rfl ?_
    refine n1 rfl ?_
    refine n1 rfl ?_
    refine n1 rfl ?_
    refine p1 rfl ?_
    refine D_end ?_
    refine x_then ?_
    refine D_weak [(2, (.pointer (some ⟨g13, 0, none⟩))), (3, (.pointer (some ⟨g14, 0, none⟩))), (36, (.bool true))] ⟨rfl, rfl, rfl, trivial⟩ ?_
    refine C_t rfl ?_
    refine C_seq ?_
    refine C_reg ?_
    refine p1 rfl ?_
    refine D_end ?_
    refine x_then ?_
    refine C_ret ?_
    refine x_then_ret ?_
    refine R_1 rfl rfl fun w' hs => ⟨congrArg (fun z => Ending.returned (Value.bool z)) ?_, hs.bel⟩
    show (false : Bool) = decide (a = b)
    simp; intro e; subst e; simp_all
  · have pr15 : (a.Name : ByteArray) = b.Name := of_decide_eq_true (not_f h15)
    refine q1 rfl (D_fb f_66_1 rfl rfl (q := 1) rfl) ?_
    refine q1 rfl (lb 1 o_3 rfl rfl rfl rfl) ?_
    refine q1 rfl (D_fb f_66_1 rfl rfl (q := 1) rfl) ?_
    refine q1 rfl (lb 0 o_3 rfl rfl rfl rfl) ?_
    refine p1 rfl <| p1 rfl <| p1 rfl ?_
    refine gs 19 rfl rfl (fun h16 => ?_) (fun h16 => ?_)
    · have pr16 : (a.Priority : Int) ≠ b.Priority := bne_iff_ne.1 h16
      refine n1 rfl ?_
      refine n1 rfl ?_
      refine n1 rfl ?_
      refine n1 rfl ?_
      refine n1 rfl ?_
      refine n1 rfl ?_
      refine n1 rfl ?_
      refine p1 rfl <| p1 rfl ?_
      refine n1 rfl ?_
      refine n1 rfl ?_
      refine n1 rfl ?_
      refine n1 rfl ?_
      refine n1 rfl ?_
      refine n1 rfl ?_
      refine n1 rfl ?_
      refine p1 rfl ?_
      refine D_end ?_
      refine x_then ?_
      refine D_weak [(2, (.pointer (some ⟨g13, 0, none⟩))), (3, (.pointer (some ⟨g14, 0, none⟩))), (36, (.bool true))] ⟨rfl, rfl, rfl, trivial⟩ ?_
      refine C_t rfl ?_
      refine C_seq ?_
      refine C_reg ?_
      refine p1 rfl ?_
      refine D_end ?_
      refine x_then ?_
      refine C_ret ?_
      refine x_then_ret ?_
      refine R_1 rfl rfl fun w' hs => ⟨congrArg (fun z => Ending.returned (Value.bool z)) ?_, hs.bel⟩
      show (false : Bool) = decide (a = b)
      simp; intro e; subst e; simp_all
    · have pr16 : (a.Priority : Int) = b.Priority := eq_of_bne_f h16
      refine q1 rfl (D_fb f_66_2 rfl rfl (q := 2) rfl) ?_
      refine q1 rfl (lb 1 o_63 rfl rfl rfl rfl) ?_
      refine q1 rfl (D_len s_63 rfl rfl (rd_sl hu2)) ?_
      refine q1 rfl (D_fb f_66_2 rfl rfl (q := 2) rfl) ?_
      refine q1 rfl (lb 0 o_63 rfl rfl rfl rfl) ?_
      refine q1 rfl (D_len s_63 rfl rfl (rd_sl hu8)) ?_
      refine p1 rfl <| p1 rfl <| p1 rfl ?_
      refine gs 28 rfl rfl (fun h17 => ?_) (fun h17 => ?_)
      · have pr17 : (((a.If.length : Nat) : Int) : Int) ≠ ((b.If.length : Nat) : Int) := bne_iff_ne.1 h17
        refine n1 rfl ?_
        refine n1 rfl ?_
        refine n1 rfl ?_
        refine n1 rfl ?_
        refine n1 rfl ?_
        refine n1 rfl ?_
        refine n1 rfl ?_
        refine p1 rfl ?_
        refine D_end ?_
        refine x_then ?_
        refine D_weak [(2, (.pointer (some ⟨g13, 0, none⟩))), (3, (.pointer (some ⟨g14, 0, none⟩))), (36, (.bool true))] ⟨rfl, rfl, rfl, trivial⟩ ?_
        refine C_t rfl ?_
        refine C_seq ?_
        refine C_reg ?_
        refine p1 rfl ?_
        refine D_end ?_
        refine x_then ?_
        refine C_ret ?_
        refine x_then_ret ?_
        refine R_1 rfl rfl fun w' hs => ⟨congrArg (fun z => Ending.returned (Value.bool z)) ?_, hs.bel⟩
        show (false : Bool) = decide (a = b)
        simp; intro e; subst e; simp_all
      · have pr17 : (((a.If.length : Nat) : Int) : Int) = ((b.If.length : Nat) : Int) := eq_of_bne_f h17
        refine q1 rfl (D_fb f_66_3 rfl rfl (q := 3) rfl) ?_
        refine q1 rfl (lb 1 o_64 rfl rfl rfl rfl) ?_
        refine q1 rfl (D_len s_64 rfl rfl (rd_sl hu4)) ?_
        refine q1 rfl (D_fb f_66_3 rfl rfl (q := 3) rfl) ?_
        refine q1 rfl (lb 0 o_64 rfl rfl rfl rfl) ?_
        refine q1 rfl (D_len s_64 rfl rfl (rd_sl hu10)) ?_
        refine p1 rfl <| p1 rfl ?_
        refine D_end ?_
        refine x_then ?_
        refine D_weak [(2, (.pointer (some ⟨g13, 0, none⟩))), (3, (.pointer (some ⟨g14, 0, none⟩))), (36, (.bool ((((a.Then.length : Nat) : Int) : Int) != ((b.Then.length : Nat) : Int))))] ⟨rfl, rfl, rfl, trivial⟩ ?_
        refine C_if _ rfl (fun h18 => ?_) (fun h18 => ?_)
        · have pr18 : (((a.Then.length : Nat) : Int) : Int) ≠ ((b.Then.length : Nat) : Int) := bne_iff_ne.1 h18
          refine C_seq ?_
          refine C_reg ?_
          refine p1 rfl ?_
          refine D_end ?_
          refine x_then ?_
          refine C_ret ?_
          refine x_then_ret ?_
          refine R_1 rfl rfl fun w' hs => ⟨congrArg (fun z => Ending.returned (Value.bool z)) ?_, hs.bel⟩
          show (false : Bool) = decide (a = b)
          simp; intro e; subst e; simp_all
        · have pr18 : (((a.Then.length : Nat) : Int) : Int) = ((b.Then.length : Nat) : Int) := eq_of_bne_f h18
          refine C_skip ?_
          refine x_then ?_
          refine C_seq ?_
          refine C_seq ?_
          refine C_reg ?_
          refine p1 rfl ?_
          refine D_end ?_
          refine x_then ?_
          refine C_block ?_
          refine C_loop (fun m_ ac w' => ∃ (k : Nat), (k ≤ a.If.length) ∧ (∀ i, i < k → a.If[i]? = b.If[i]?) ∧ m_ = a.If.length - k ∧ Fits ac 92 [(2, (.pointer (some ⟨g13, 0, none⟩))), (3, (.pointer (some ⟨g14, 0, none⟩))), (5, (.int .i64 ((k : Nat) : Int)))] ∧ St w ([bx g14 [(.string b.Name), (.int .i64 b.Priority), u7, u9], bx g13 [(.string a.Name), (.int .i64 a.Priority), u1, u3]]) w') ?_ ?_
          · refine fun ac w' hf hs => ⟨_, 0, ?_, ?_, rfl, hf.weak ⟨rfl, rfl, rfl, trivial⟩, hs⟩
            · first | assumption | omega | simp
            · intro i hi; omega
          · rintro m_ ac w' ⟨k, hk, hi, rfl, hf, hs⟩
            refine D.use ?_ hf hs
            clear hf hs ac w'
            refine C_seq ?_
            refine C_seq ?_
            refine C_reg ?_
            refine p1 rfl ?_
            refine q1 rfl (D_fb f_66_2 rfl rfl (q := 2) rfl) ?_
            refine q1 rfl (lb 1 o_63 rfl rfl rfl rfl) ?_
            refine q1 rfl (D_len s_63 rfl rfl (rd_sl hu2)) ?_
            refine p1 rfl ?_
            refine D_end ?_
            refine x_then ?_
            refine C_if _ rfl (fun h19 => ?_) (fun h19 => ?_)
            · have pr19 : (((k : Nat) : Int) : Int) < ((a.If.length : Nat) : Int) := of_decide_eq_true h19
              refine C_skip ?_
              refine x_then ?_
              refine C_seq ?_
              refine C_block ?_
              refine C_seq ?_
              refine C_draw mixed [10, 11] (by kernel_rfl) ?_
              refine tk 0 rfl (by kernel_rfl) (by kernel_rfl) (by kernel_rfl) rfl (fun _ hs => hs) (D_fb f_66_2 rfl rfl (q := 2) rfl) ?_
              refine tk 1 rfl (by kernel_rfl) (by kernel_rfl) (by kernel_rfl) rfl (fun _ hs => hs) (lb 1 o_63 rfl rfl rfl rfl) ?_
              refine tk 2 rfl (by kernel_rfl) (by kernel_rfl) (by kernel_rfl) rfl (fun _ hs => hs) (rp rfl) ?_
              obtain ⟨x20, hx21⟩ := some_of_lt (l := a.If) (i := k) (by omega)
              obtain ⟨es22, at23, hr24⟩ := rd_elem (n := 5) rfl hu2 hx21
              obtain ⟨u25, rfl, hu26⟩ := open_Cond hr24
              have hm27 := rd_max hu26
              have hb28 := sub_Cond_Pattern hr24
              refine tk 3 rfl (by kernel_rfl) (by kernel_rfl) (by kernel_rfl) rfl (fun _ hs => hs) (D_ix (l := a.If) (j := k) s_63 rfl rfl rfl (fun w' hs => (rd_at hs hu2)) rfl (lt_of_some hx21)) ?_
              refine tk 4 rfl (by kernel_rfl) (by kernel_rfl) (by kernel_rfl) rfl (fun _ hs => hs) (lra a_100 rfl rfl at23) ?_
              refine tk 5 rfl (by kernel_rfl) (by kernel_rfl) (by kernel_rfl) rfl (fun _ hs => hs) (D_fb f_66_2 rfl rfl (q := 2) rfl) ?_
              refine tk 6 rfl (by kernel_rfl) (by kernel_rfl) (by kernel_rfl) rfl (fun _ hs => hs) (lb 0 o_63 rfl rfl rfl rfl) ?_
              refine tk 7 rfl (by kernel_rfl) (by kernel_rfl) (by kernel_rfl) rfl (fun _ hs => hs) (rp rfl) ?_
              obtain ⟨x29, hx30⟩ := some_of_lt (l := b.If) (i := k) (by omega)
              obtain ⟨es31, at32, hr33⟩ := rd_elem (n := 5) rfl hu8 hx30
              obtain ⟨u34, rfl, hu35⟩ := open_Cond hr33
              have hm36 := rd_max hu35
              have hb37 := sub_Cond_Pattern hr33
              refine tk 8 rfl (by kernel_rfl) (by kernel_rfl) (by kernel_rfl) rfl (fun _ hs => hs) (D_ix (l := b.If) (j := k) s_63 rfl rfl rfl (fun w' hs => (rd_at hs hu8)) rfl (lt_of_some hx30)) ?_
              refine tk 9 rfl (by kernel_rfl) (by kernel_rfl) (by kernel_rfl) rfl (fun _ hs => hs) (lra a_100 rfl rfl at32) ?_
              refine ty 10 rfl (by kernel_rfl) rfl (cv b_58 rfl rfl rfl rfl (fun w' hs => (spec_SameCond w' [(.int .i64 x20.Kind), (.string x20.Pattern.Rel), u25, (.string x20.Left), (.string x20.Right)] x20 [(.int .i64 x29.Kind), (.string x29.Pattern.Rel), u34, (.string x29.Left), (.string x29.Right)] x29 (rd_at hs hr24) (rd_at hs hr33))) ?_)
              refine tZ rfl ?_
              refine ty 11 rfl (by kernel_rfl) rfl (sv rfl rfl (rp rfl) ?_)
              refine tZ rfl ?_
              refine tE (by kernel_rfl) ?_
              refine x_then ?_
              refine D_weak [(2, (.pointer (some ⟨g13, 0, none⟩))), (3, (.pointer (some ⟨g14, 0, none⟩))), (5, (.int .i64 ((k : Nat) : Int))), (55, (.bool (!(decide (x20 = x29)))))] ⟨rfl, rfl, rfl, rfl, trivial⟩ ?_
              refine C_if _ rfl (fun h38 => ?_) (fun h38 => ?_)
              · have h38n : (decide (x20 = x29)) = false := not_t h38
                refine C_seq ?_
                refine C_reg ?_
                refine p1 rfl ?_
                refine D_end ?_
                refine x_then ?_
                refine C_ret ?_
                refine x_blk_ret ?_
                refine x_then_ret ?_
                refine x_then_ret ?_
                refine x_blk_ret ?_
                refine x_then_ret ?_
                refine R_1 rfl rfl fun w' hs => ⟨congrArg (fun z => Ending.returned (Value.bool z)) ?_, hs.bel⟩
                show (false : Bool) = decide (a = b)
                simp; intro e; subst e; simp_all
              · have h38n : (decide (x20 = x29)) = true := not_f h38
                refine C_skip ?_
                refine x_blk ?_
                refine x_then ?_
                refine C_reg ?_
                refine p1 rfl ?_
                refine q1 rfl (D_add rfl rfl rfl (r := ((k + 1 : Nat) : Int)) (by omega) (by omega)) ?_
                refine p1 rfl ?_
                refine D_end ?_
                refine x_then ?_
                refine fun ac w' hf hs => ⟨_, ?_, k + 1, ?_, ?_, rfl, hf.weak ⟨rfl, rfl, rfl, trivial⟩, hs⟩
                · omega
                · first | assumption | omega | simp
                · refine idx_step hi (by assumption) (by assumption) ?_; first | (simp_all; done) | (apply Fact.mk_eq <;> simp_all)
            · have pr19 : ¬ (((k : Nat) : Int) : Int) < ((a.If.length : Nat) : Int) := of_decide_eq_false h19
              refine C_exit ?_
              refine x_then_exit ?_
              refine x_then_exit ?_
              refine x_blk_eq ?_
              refine x_then ?_
              refine C_seq ?_
              refine C_seq ?_
              refine C_reg ?_
              refine p1 rfl ?_
              refine D_end ?_
              refine x_then ?_
              refine C_block ?_
              refine C_loop (fun m_ ac w' => ∃ (m : Nat), (m ≤ a.Then.length) ∧ (∀ i, i < m → a.Then[i]? = b.Then[i]?) ∧ m_ = a.Then.length - m ∧ Fits ac 92 [(2, (.pointer (some ⟨g13, 0, none⟩))), (3, (.pointer (some ⟨g14, 0, none⟩))), (6, (.int .i64 ((m : Nat) : Int)))] ∧ St w ([bx g14 [(.string b.Name), (.int .i64 b.Priority), u7, u9], bx g13 [(.string a.Name), (.int .i64 a.Priority), u1, u3]]) w') ?_ ?_
              · refine fun ac w' hf hs => ⟨_, 0, ?_, ?_, rfl, hf.weak ⟨rfl, rfl, rfl, trivial⟩, hs⟩
                · first | assumption | omega | simp
                · intro i hi; omega
              · rintro m_ ac w' ⟨m, hm, hj, rfl, hf, hs⟩
                refine D.use ?_ hf hs
                clear hf hs ac w'
                refine C_seq ?_
                refine C_seq ?_
                refine C_reg ?_
                refine p1 rfl ?_
                refine q1 rfl (D_fb f_66_3 rfl rfl (q := 3) rfl) ?_
                refine q1 rfl (lb 1 o_64 rfl rfl rfl rfl) ?_
                refine q1 rfl (D_len s_64 rfl rfl (rd_sl hu4)) ?_
                refine p1 rfl ?_
                refine D_end ?_
                refine x_then ?_
                refine C_if _ rfl (fun h39 => ?_) (fun h39 => ?_)
                · have pr39 : (((m : Nat) : Int) : Int) < ((a.Then.length : Nat) : Int) := of_decide_eq_true h39
                  refine C_skip ?_
                  refine x_then ?_
                  refine C_seq ?_
                  refine C_block ?_
                  refine C_seq ?_
                  refine C_draw mixed [26, 27, 28] (by kernel_rfl) ?_
                  refine tk 0 rfl (by kernel_rfl) (by kernel_rfl) (by kernel_rfl) rfl (fun _ hs => hs) (D_fb f_66_3 rfl rfl (q := 3) rfl) ?_
                  refine tk 1 rfl (by kernel_rfl) (by kernel_rfl) (by kernel_rfl) rfl (fun _ hs => hs) (lb 1 o_64 rfl rfl rfl rfl) ?_
                  refine tk 2 rfl (by kernel_rfl) (by kernel_rfl) (by kernel_rfl) rfl (fun _ hs => hs) (rp rfl) ?_
                  obtain ⟨x40, hx41⟩ := some_of_lt (l := a.Then) (i := m) (by omega)
                  obtain ⟨es42, at43, hr44⟩ := rd_elem (n := 3) rfl hu4 hx41
                  obtain ⟨u45, rfl, hu46⟩ := open_Action hr44
                  have hm47 := rd_max hu46
                  have hb48 := sub_Action_Pattern hr44
                  refine tk 3 rfl (by kernel_rfl) (by kernel_rfl) (by kernel_rfl) rfl (fun _ hs => hs) (D_ix (l := a.Then) (j := m) s_64 rfl rfl rfl (fun w' hs => (rd_at hs hu4)) rfl (lt_of_some hx41)) ?_
                  refine tk 4 rfl (by kernel_rfl) (by kernel_rfl) (by kernel_rfl) rfl (fun _ hs => hs) (D_fa f_102_0 rfl rfl) ?_
                  refine tk 5 rfl (by kernel_rfl) (by kernel_rfl) (by kernel_rfl) rfl (fun _ hs => hs) (lr o_3 rfl rfl at43 rfl) ?_
                  refine tk 6 rfl (by kernel_rfl) (by kernel_rfl) (by kernel_rfl) rfl (fun _ hs => hs) (D_fb f_66_3 rfl rfl (q := 3) rfl) ?_
                  refine tk 7 rfl (by kernel_rfl) (by kernel_rfl) (by kernel_rfl) rfl (fun _ hs => hs) (lb 0 o_64 rfl rfl rfl rfl) ?_
                  refine tk 8 rfl (by kernel_rfl) (by kernel_rfl) (by kernel_rfl) rfl (fun _ hs => hs) (rp rfl) ?_
                  obtain ⟨x49, hx50⟩ := some_of_lt (l := b.Then) (i := m) (by omega)
                  obtain ⟨es51, at52, hr53⟩ := rd_elem (n := 3) rfl hu10 hx50
                  obtain ⟨u54, rfl, hu55⟩ := open_Action hr53
                  have hm56 := rd_max hu55
                  have hb57 := sub_Action_Pattern hr53
                  refine tk 9 rfl (by kernel_rfl) (by kernel_rfl) (by kernel_rfl) rfl (fun _ hs => hs) (D_ix (l := b.Then) (j := m) s_64 rfl rfl rfl (fun w' hs => (rd_at hs hu10)) rfl (lt_of_some hx50)) ?_
                  refine tk 10 rfl (by kernel_rfl) (by kernel_rfl) (by kernel_rfl) rfl (fun _ hs => hs) (D_fa f_102_0 rfl rfl) ?_
                  refine tk 11 rfl (by kernel_rfl) (by kernel_rfl) (by kernel_rfl) rfl (fun _ hs => hs) (lr o_3 rfl rfl at52 rfl) ?_
                  refine tk 12 rfl (by kernel_rfl) (by kernel_rfl) (by kernel_rfl) rfl (fun _ hs => hs) (rp rfl) ?_
                  refine tk 13 rfl (by kernel_rfl) (by kernel_rfl) (by kernel_rfl) rfl (fun _ hs => hs) (rp rfl) ?_
                  refine gs 76 rfl rfl (fun h58 => ?_) (fun h58 => ?_)
                  · have pr58 : (x40.Kind : Int) ≠ x49.Kind := bne_iff_ne.1 h58
                    refine tn 14 rfl (by kernel_rfl) (by kernel_rfl) (by kernel_rfl) rfl rfl rfl (fun _ hs => hs) ?_
                    refine tn 15 rfl (by kernel_rfl) (by kernel_rfl) (by kernel_rfl) rfl rfl rfl (fun _ hs => hs) ?_
                    refine tn 16 rfl (by kernel_rfl) (by kernel_rfl) (by kernel_rfl) rfl rfl rfl (fun _ hs => hs) ?_
                    refine tn 17 rfl (by kernel_rfl) (by kernel_rfl) (by kernel_rfl) rfl rfl rfl (fun _ hs => hs) ?_
                    refine tn 18 rfl (by kernel_rfl) (by kernel_rfl) (by kernel_rfl) rfl rfl rfl (fun _ hs => hs) ?_
                    refine tn 19 rfl (by kernel_rfl) (by kernel_rfl) (by kernel_rfl) rfl rfl rfl (fun _ hs => hs) ?_
                    refine tn 20 rfl (by kernel_rfl) (by kernel_rfl) (by kernel_rfl) rfl rfl rfl (fun _ hs => hs) ?_
                    refine tn 21 rfl (by kernel_rfl) (by kernel_rfl) (by kernel_rfl) rfl rfl rfl (fun _ hs => hs) ?_
                    refine tn 22 rfl (by kernel_rfl) (by kernel_rfl) (by kernel_rfl) rfl rfl rfl (fun _ hs => hs) ?_
                    refine tn 23 rfl (by kernel_rfl) (by kernel_rfl) (by kernel_rfl) rfl rfl rfl (fun _ hs => hs) ?_
                    refine tn 24 rfl (by kernel_rfl) (by kernel_rfl) (by kernel_rfl) rfl rfl rfl (fun _ hs => hs) ?_
                    refine tn 25 rfl (by kernel_rfl) (by kernel_rfl) (by kernel_rfl) rfl rfl rfl (fun _ hs => hs) ?_
                    refine tn 26 rfl (by kernel_rfl) (by kernel_rfl) (by kernel_rfl) rfl rfl rfl (fun _ hs => hs) ?_
                    refine tn 27 rfl (by kernel_rfl) (by kernel_rfl) (by kernel_rfl) rfl rfl rfl (fun _ hs => hs) ?_
                    refine ty 28 rfl (by kernel_rfl) rfl (sv rfl rfl (rp rfl) ?_)
                    refine tZ rfl ?_
                    refine tE (by kernel_rfl) ?_
                    refine x_then ?_
                    refine D_weak [(2, (.pointer (some ⟨g13, 0, none⟩))), (3, (.pointer (some ⟨g14, 0, none⟩))), (6, (.int .i64 ((m : Nat) : Int))), (91, (.bool true))] ⟨rfl, rfl, rfl, rfl, trivial⟩ ?_
                    refine C_t rfl ?_
                    refine C_seq ?_
                    refine C_reg ?_
                    refine p1 rfl ?_
                    refine D_end ?_
                    refine x_then ?_
                    refine C_ret ?_
                    refine x_blk_ret ?_
                    refine x_then_ret ?_
                    refine x_then_ret ?_
                    refine x_blk_ret ?_
                    refine x_then_ret ?_
                    refine R_1 rfl rfl fun w' hs => ⟨congrArg (fun z => Ending.returned (Value.bool z)) ?_, hs.bel⟩
                    show (false : Bool) = decide (a = b)
                    simp; intro e; subst e; simp_all
                  · have pr58 : (x40.Kind : Int) = x49.Kind := eq_of_bne_f h58
                    refine tk 14 rfl (by kernel_rfl) (by kernel_rfl) (by kernel_rfl) rfl (fun _ hs => hs) (D_fb f_66_3 rfl rfl (q := 3) rfl) ?_
                    refine tk 15 rfl (by kernel_rfl) (by kernel_rfl) (by kernel_rfl) rfl (fun _ hs => hs) (lb 1 o_64 rfl rfl rfl rfl) ?_
                    refine tk 16 rfl (by kernel_rfl) (by kernel_rfl) (by kernel_rfl) rfl (fun _ hs => hs) (rp rfl) ?_
                    refine tk 17 rfl (by kernel_rfl) (by kernel_rfl) (by kernel_rfl) rfl (fun _ hs => hs) (D_ix (l := a.Then) (j := m) s_64 rfl rfl rfl (fun w' hs => (rd_at hs hu4)) rfl (lt_of_some hx41)) ?_
                    refine tk 18 rfl (by kernel_rfl) (by kernel_rfl) (by kernel_rfl) rfl (fun _ hs => hs) (D_fa f_102_1 rfl rfl) ?_
                    refine tk 19 rfl (by kernel_rfl) (by kernel_rfl) (by kernel_rfl) rfl (fun _ hs => hs) (lra a_98 rfl rfl (at_sub (f := 1) (n := 2) at43 rfl)) ?_
                    refine tk 20 rfl (by kernel_rfl) (by kernel_rfl) (by kernel_rfl) rfl (fun _ hs => hs) (D_fb f_66_3 rfl rfl (q := 3) rfl) ?_
                    refine tk 21 rfl (by kernel_rfl) (by kernel_rfl) (by kernel_rfl) rfl (fun _ hs => hs) (lb 0 o_64 rfl rfl rfl rfl) ?_
                    refine tk 22 rfl (by kernel_rfl) (by kernel_rfl) (by kernel_rfl) rfl (fun _ hs => hs) (rp rfl) ?_
                    refine tk 23 rfl (by kernel_rfl) (by kernel_rfl) (by kernel_rfl) rfl (fun _ hs => hs) (D_ix (l := b.Then) (j := m) s_64 rfl rfl rfl (fun w' hs => (rd_at hs hu10)) rfl (lt_of_some hx50)) ?_
                    refine tk 24 rfl (by kernel_rfl) (by kernel_rfl) (by kernel_rfl) rfl (fun _ hs => hs) (D_fa f_102_1 rfl rfl) ?_
                    refine tk 25 rfl (by kernel_rfl) (by kernel_rfl) (by kernel_rfl) rfl (fun _ hs => hs) (lra a_98 rfl rfl (at_sub (f := 1) (n := 2) at52 rfl)) ?_
                    refine ty 26 rfl (by kernel_rfl) rfl (cv b_59 rfl rfl rfl rfl (fun w' hs => (spec_SamePattern w' [(.string x40.Pattern.Rel), u45] x40.Pattern [(.string x49.Pattern.Rel), u54] x49.Pattern (rd_at hs hb48) (rd_at hs hb57))) ?_)
                    refine tZ rfl ?_
                    refine ty 27 rfl (by kernel_rfl) rfl (sv rfl rfl (rp rfl) ?_)
                    refine tZ rfl ?_
                    refine ty 28 rfl (by kernel_rfl) rfl (sv rfl rfl (rp rfl) ?_)
                    refine tZ rfl ?_
                    refine tE (by kernel_rfl) ?_
                    refine x_then ?_
                    refine D_weak [(2, (.pointer (some ⟨g13, 0, none⟩))), (3, (.pointer (some ⟨g14, 0, none⟩))), (6, (.int .i64 ((m : Nat) : Int))), (91, (.bool (!(decide (x40.Pattern = x49.Pattern)))))] ⟨rfl, rfl, rfl, rfl, trivial⟩ ?_
                    refine C_if _ rfl (fun h59 => ?_) (fun h59 => ?_)
                    · have h59n : (decide (x40.Pattern = x49.Pattern)) = false := not_t h59
                      refine C_seq ?_
                      refine C_reg ?_
                      refine p1 rfl ?_
                      refine D_end ?_
                      refine x_then ?_
                      refine C_ret ?_
                      refine x_blk_ret ?_
                      refine x_then_ret ?_
                      refine x_then_ret ?_
                      refine x_blk_ret ?_
                      refine x_then_ret ?_
                      refine R_1 rfl rfl fun w' hs => ⟨congrArg (fun z => Ending.returned (Value.bool z)) ?_, hs.bel⟩
                      show (false : Bool) = decide (a = b)
                      simp; intro e; subst e; simp_all
                    · have h59n : (decide (x40.Pattern = x49.Pattern)) = true := not_f h59
                      refine C_skip ?_
                      refine x_blk ?_
                      refine x_then ?_
                      refine C_reg ?_
                      refine p1 rfl ?_
                      refine q1 rfl (D_add rfl rfl rfl (r := ((m + 1 : Nat) : Int)) (by omega) (by omega)) ?_
                      refine p1 rfl ?_
                      refine D_end ?_
                      refine x_then ?_
                      refine fun ac w' hf hs => ⟨_, ?_, m + 1, ?_, ?_, rfl, hf.weak ⟨rfl, rfl, rfl, trivial⟩, hs⟩
                      · omega
                      · first | assumption | omega | simp
                      · refine idx_step hj (by assumption) (by assumption) ?_; first | (simp_all; done) | (apply Action.mk_eq <;> simp_all)
                · have pr39 : ¬ (((m : Nat) : Int) : Int) < ((a.Then.length : Nat) : Int) := of_decide_eq_false h39
                  refine C_exit ?_
                  refine x_then_exit ?_
                  refine x_then_exit ?_
                  refine x_blk_eq ?_
                  refine x_then ?_
                  refine C_seq ?_
                  refine C_reg ?_
                  refine p1 rfl ?_
                  refine D_end ?_
                  refine x_then ?_
                  refine C_ret ?_
                  refine R_1 rfl rfl fun w' hs => ⟨congrArg (fun z => Ending.returned (Value.bool z)) ?_, hs.bel⟩
                  show (true : Bool) = decide (a = b)
                  simp; exact Rule.mk_eq (by assumption) (by assumption) (eq_of_idx (by omega) (fun i h => hi i (by omega))) (eq_of_idx (by omega) (fun i h => hj i (by omega)))

theorem impl_sameRules (w : World) (v_a : Value) (a : (List Rule)) (v_b : Value) (b : (List Rule)) (h_a : Gd.rd w [v_a] a) (h_b : Gd.rd w [v_b] b) : Calls Try.prog 39 [v_a, v_b].toArray w (Val w (.bool (decide (a = b)))) := by
  have hm1 := rd_max h_a
  have hm2 := rd_max h_b
  refine enter 27 Try.func39 rfl rfl rfl ?_
  refine C_seq ?_
  refine C_reg ?_
  refine p1 rfl ?_
  refine D_end ?_
  refine x_then ?_
  refine C_seq ?_
  refine C_seq ?_
  refine C_reg ?_
  refine p1 rfl ?_
  refine q1 rfl (D_len s_44 rfl rfl (rd_sl h_a)) ?_
  refine p1 rfl ?_
  refine q1 rfl (D_len s_44 rfl rfl (rd_sl h_b)) ?_
  refine p1 rfl ?_
  refine D_end ?_
  refine x_then ?_
  refine C_if _ rfl (fun h3 => ?_) (fun h3 => ?_)
  · have pr3 : (((a.length : Nat) : Int) : Int) ≠ ((b.length : Nat) : Int) := bne_iff_ne.1 h3
    refine C_seq ?_
    refine C_reg ?_
    refine p1 rfl ?_
    refine D_end ?_
    refine x_then ?_
    refine C_ret ?_
    refine x_then_ret ?_
    refine R_1 rfl rfl fun w' hs => ⟨congrArg (fun z => Ending.returned (Value.bool z)) ?_, hs.bel⟩
    show (false : Bool) = decide (a = b)
    simp; intro e; subst e; simp_all
  · have pr3 : (((a.length : Nat) : Int) : Int) = ((b.length : Nat) : Int) := eq_of_bne_f h3
    refine C_skip ?_
    refine x_then ?_
    refine C_seq ?_
    refine C_seq ?_
    refine C_reg ?_
    refine p1 rfl ?_
    refine q1 rfl (D_len s_44 rfl rfl (rd_sl h_a)) ?_
    refine p1 rfl ?_
    refine D_end ?_
    refine x_then ?_
    refine C_block ?_
    refine C_loop (fun m_ ac w' => ∃ (k : Nat), (k ≤ a.length) ∧ (∀ i, i < k → a[i]? = b[i]?) ∧ m_ = a.length - k ∧ Fits ac 27 [(0, v_a), (1, v_b), (12, (.int .i64 ((a.length : Nat) : Int))), (13, (.int .i64 ((k : Nat) : Int)))] ∧ St w ([]) w') ?_ ?_
    · refine fun ac w' hf hs => ⟨_, 0, ?_, ?_, rfl, hf.weak ⟨rfl, rfl, rfl, rfl, trivial⟩, hs⟩
      · first | assumption | omega | simp
      · intro i hi; omega
    · rintro m_ ac w' ⟨k, hk, hi, rfl, hf, hs⟩
      refine D.use ?_ hf hs
      clear hf hs ac w'
      refine C_seq ?_
      refine C_reg ?_
      refine p1 rfl ?_
      refine D_end ?_
      refine x_then ?_
      refine C_seq ?_
      refine C_if _ rfl (fun h4 => ?_) (fun h4 => ?_)
      · have pr4 : (((k : Nat) : Int) : Int) < ((a.length : Nat) : Int) := of_decide_eq_true h4
        refine C_skip ?_
        refine x_then ?_
        refine C_seq ?_
        refine C_block ?_
        refine C_seq ?_
        refine C_reg ?_
        refine p1 rfl <| p1 rfl ?_
        refine D_end ?_
        refine x_then ?_
        refine C_seq ?_
        refine C_draw mixed [8, 9] (by kernel_rfl) ?_
        refine tk 0 rfl (by kernel_rfl) (by kernel_rfl) (by kernel_rfl) rfl (fun _ hs => hs) (rp rfl) ?_
        refine tk 1 rfl (by kernel_rfl) (by kernel_rfl) (by kernel_rfl) rfl (fun _ hs => hs) (rp rfl) ?_
        obtain ⟨x5, hx6⟩ := some_of_lt (l := a) (i := k) (by omega)
        obtain ⟨es7, at8, hr9⟩ := rd_elem (n := 4) rfl h_a hx6
        obtain ⟨u10, u12, rfl, hu11, hu13⟩ := open_Rule hr9
        have hm14 := rd_max hu11
        have hm15 := rd_max hu13
        refine tk 2 rfl (by kernel_rfl) (by kernel_rfl) (by kernel_rfl) rfl (fun _ hs => hs) (D_ix (l := a) (j := k) s_44 rfl rfl rfl (fun w' hs => (rd_at hs h_a)) rfl (lt_of_some hx6)) ?_
        refine tk 3 rfl (by kernel_rfl) (by kernel_rfl) (by kernel_rfl) rfl (fun _ hs => hs) (lra a_66 rfl rfl at8) ?_
        refine tk 4 rfl (by kernel_rfl) (by kernel_rfl) (by kernel_rfl) rfl (fun _ hs => hs) (rp rfl) ?_
        refine tk 5 rfl (by kernel_rfl) (by kernel_rfl) (by kernel_rfl) rfl (fun _ hs => hs) (rp rfl) ?_
        obtain ⟨x16, hx17⟩ := some_of_lt (l := b) (i := k) (by omega)
        obtain ⟨es18, at19, hr20⟩ := rd_elem (n := 4) rfl h_b hx17
        obtain ⟨u21, u23, rfl, hu22, hu24⟩ := open_Rule hr20
        have hm25 := rd_max hu22
        have hm26 := rd_max hu24
        refine tk 6 rfl (by kernel_rfl) (by kernel_rfl) (by kernel_rfl) rfl (fun _ hs => hs) (D_ix (l := b) (j := k) s_44 rfl rfl rfl (fun w' hs => (rd_at hs h_b)) rfl (lt_of_some hx17)) ?_
        refine tk 7 rfl (by kernel_rfl) (by kernel_rfl) (by kernel_rfl) rfl (fun _ hs => hs) (lra a_66 rfl rfl at19) ?_
        refine ty 8 rfl (by kernel_rfl) rfl (cv b_64 rfl rfl rfl rfl (fun w' hs => (impl_SameRule w' [(.string x5.Name), (.int .i64 x5.Priority), u10, u12] x5 [(.string x16.Name), (.int .i64 x16.Priority), u21, u23] x16 (rd_at hs hr9) (rd_at hs hr20))) ?_)
        refine tZ rfl ?_
        refine ty 9 rfl (by kernel_rfl) rfl (sv rfl rfl (rp rfl) ?_)
        refine tZ rfl ?_
        refine tE (by kernel_rfl) ?_
        refine x_then ?_
        refine C_if _ rfl (fun h27 => ?_) (fun h27 => ?_)
        · have h27n : (decide (x5 = x16)) = false := not_t h27
          refine C_seq ?_
          refine C_reg ?_
          refine p1 rfl ?_
          refine D_end ?_
          refine x_then ?_
          refine D_weak [(4, (.bool false))] ⟨rfl, trivial⟩ ?_
          refine C_ret ?_
          refine x_blk_ret ?_
          refine x_then_ret ?_
          refine x_then_ret ?_
          refine x_blk_ret ?_
          refine x_then_ret ?_
          refine R_1 rfl rfl fun w' hs => ⟨congrArg (fun z => Ending.returned (Value.bool z)) ?_, hs.bel⟩
          show (false : Bool) = decide (a = b)
          simp; intro e; subst e; simp_all
        · have h27n : (decide (x5 = x16)) = true := not_f h27
          refine C_skip ?_
          refine x_blk ?_
          refine x_then ?_
          refine C_reg ?_
          refine q1 rfl (D_add rfl rfl rfl (r := ((k + 1 : Nat) : Int)) (by omega) (by omega)) ?_
          refine p1 rfl ?_
          refine D_end ?_
          refine x_then ?_
          refine fun ac w' hf hs => ⟨_, ?_, k + 1, ?_, ?_, rfl, hf.weak ⟨rfl, rfl, rfl, rfl, trivial⟩, hs⟩
          · omega
          · first | assumption | omega | simp
          · refine idx_step hi (by assumption) (by assumption) ?_; first | (simp_all; done) | (apply Fact.mk_eq <;> simp_all)
      · have pr4 : ¬ (((k : Nat) : Int) : Int) < ((a.length : Nat) : Int) := of_decide_eq_false h4
        refine C_exit ?_
        refine x_then_exit ?_
        refine x_then_exit ?_
        refine x_blk_eq ?_
        refine x_then ?_
        refine C_seq ?_
        refine C_reg ?_
        refine p1 rfl ?_
        refine D_end ?_
        refine x_then ?_
        refine C_ret ?_
        refine R_1 rfl rfl fun w' hs => ⟨congrArg (fun z => Ending.returned (Value.bool z)) ?_, hs.bel⟩
        show (true : Bool) = decide (a = b)
        simp; exact eq_of_idx (by omega) (fun i h => hi i (by omega))

theorem impl_sameEvents (w : World) (v_a : Value) (a : (List Event)) (v_b : Value) (b : (List Event)) (h_a : Gd.rd w [v_a] a) (h_b : Gd.rd w [v_b] b) : Calls Try.prog 42 [v_a, v_b].toArray w (Val w (.bool (decide (a = b)))) := by
  have hm1 := rd_max h_a
  have hm2 := rd_max h_b
  refine enter 55 Try.func42 rfl rfl rfl ?_
  refine C_seq ?_
  refine C_reg ?_
  refine p1 rfl ?_
  refine D_end ?_
  refine x_then ?_
  refine C_seq ?_
  refine C_seq ?_
  refine C_reg ?_
  refine p1 rfl ?_
  refine q1 rfl (D_len s_47 rfl rfl (rd_sl h_a)) ?_
  refine p1 rfl ?_
  refine q1 rfl (D_len s_47 rfl rfl (rd_sl h_b)) ?_
  refine p1 rfl ?_
  refine D_end ?_
  refine x_then ?_
  refine C_if _ rfl (fun h3 => ?_) (fun h3 => ?_)
  · have pr3 : (((a.length : Nat) : Int) : Int) ≠ ((b.length : Nat) : Int) := bne_iff_ne.1 h3
    refine C_seq ?_
    refine C_reg ?_
    refine p1 rfl ?_
    refine D_end ?_
    refine x_then ?_
    refine C_ret ?_
    refine x_then_ret ?_
    refine R_1 rfl rfl fun w' hs => ⟨congrArg (fun z => Ending.returned (Value.bool z)) ?_, hs.bel⟩
    show (false : Bool) = decide (a = b)
    simp; intro e; subst e; simp_all
  · have pr3 : (((a.length : Nat) : Int) : Int) = ((b.length : Nat) : Int) := eq_of_bne_f h3
    refine C_skip ?_
    refine x_then ?_
    refine C_seq ?_
    refine C_seq ?_
    refine C_reg ?_
    refine p1 rfl ?_
    refine q1 rfl (D_len s_47 rfl rfl (rd_sl h_a)) ?_
    refine p1 rfl ?_
    refine D_end ?_
    refine x_then ?_
    refine C_block ?_
    refine C_loop (fun m_ ac w' => ∃ (k : Nat), (k ≤ a.length) ∧ (∀ i, i < k → a[i]? = b[i]?) ∧ m_ = a.length - k ∧ Fits ac 55 [(0, v_a), (1, v_b), (12, (.int .i64 ((a.length : Nat) : Int))), (13, (.int .i64 ((k : Nat) : Int)))] ∧ St w ([]) w') ?_ ?_
    · refine fun ac w' hf hs => ⟨_, 0, ?_, ?_, rfl, hf.weak ⟨rfl, rfl, rfl, rfl, trivial⟩, hs⟩
      · first | assumption | omega | simp
      · intro i hi; omega
    · rintro m_ ac w' ⟨k, hk, hi, rfl, hf, hs⟩
      refine D.use ?_ hf hs
      clear hf hs ac w'
      refine C_seq ?_
      refine C_reg ?_
      refine p1 rfl ?_
      refine D_end ?_
      refine x_then ?_
      refine C_seq ?_
      refine C_if _ rfl (fun h4 => ?_) (fun h4 => ?_)
      · have pr4 : (((k : Nat) : Int) : Int) < ((a.length : Nat) : Int) := of_decide_eq_true h4
        refine C_skip ?_
        refine x_then ?_
        refine C_seq ?_
        refine C_block ?_
        refine C_seq ?_
        refine C_reg ?_
        refine p1 rfl <| p1 rfl ?_
        refine D_end ?_
        refine x_then ?_
        refine C_seq ?_
        refine C_draw mixed [35, 36, 37] (by kernel_rfl) ?_
        refine tk 0 rfl (by kernel_rfl) (by kernel_rfl) (by kernel_rfl) rfl (fun _ hs => hs) (rp rfl) ?_
        refine tk 1 rfl (by kernel_rfl) (by kernel_rfl) (by kernel_rfl) rfl (fun _ hs => hs) (rp rfl) ?_
        obtain ⟨x5, hx6⟩ := some_of_lt (l := a) (i := k) (by omega)
        obtain ⟨es7, at8, hr9⟩ := rd_elem (n := 4) rfl h_a hx6
        obtain ⟨u10, rfl, hu11⟩ := open_Event hr9
        have hm12 := rd_max hu11
        have hb13 := sub_Event_Fact hr9
        refine tk 2 rfl (by kernel_rfl) (by kernel_rfl) (by kernel_rfl) rfl (fun _ hs => hs) (D_ix (l := a) (j := k) s_47 rfl rfl rfl (fun w' hs => (rd_at hs h_a)) rfl (lt_of_some hx6)) ?_
        refine tk 3 rfl (by kernel_rfl) (by kernel_rfl) (by kernel_rfl) rfl (fun _ hs => hs) (D_fa f_31_0 rfl rfl) ?_
        refine tk 4 rfl (by kernel_rfl) (by kernel_rfl) (by kernel_rfl) rfl (fun _ hs => hs) (lr o_3 rfl rfl at8 rfl) ?_
        refine tk 5 rfl (by kernel_rfl) (by kernel_rfl) (by kernel_rfl) rfl (fun _ hs => hs) (rp rfl) ?_
        refine tk 6 rfl (by kernel_rfl) (by kernel_rfl) (by kernel_rfl) rfl (fun _ hs => hs) (rp rfl) ?_
        obtain ⟨x14, hx15⟩ := some_of_lt (l := b) (i := k) (by omega)
        obtain ⟨es16, at17, hr18⟩ := rd_elem (n := 4) rfl h_b hx15
        obtain ⟨u19, rfl, hu20⟩ := open_Event hr18
        have hm21 := rd_max hu20
        have hb22 := sub_Event_Fact hr18
        refine tk 7 rfl (by kernel_rfl) (by kernel_rfl) (by kernel_rfl) rfl (fun _ hs => hs) (D_ix (l := b) (j := k) s_47 rfl rfl rfl (fun w' hs => (rd_at hs h_b)) rfl (lt_of_some hx15)) ?_
        refine tk 8 rfl (by kernel_rfl) (by kernel_rfl) (by kernel_rfl) rfl (fun _ hs => hs) (D_fa f_31_0 rfl rfl) ?_
        refine tk 9 rfl (by kernel_rfl) (by kernel_rfl) (by kernel_rfl) rfl (fun _ hs => hs) (lr o_3 rfl rfl at17 rfl) ?_
        refine tk 10 rfl (by kernel_rfl) (by kernel_rfl) (by kernel_rfl) rfl (fun _ hs => hs) (rp rfl) ?_
        refine tk 11 rfl (by kernel_rfl) (by kernel_rfl) (by kernel_rfl) rfl (fun _ hs => hs) (rp rfl) ?_
        refine gs 27 rfl rfl (fun h23 => ?_) (fun h23 => ?_)
        · have pr23 : (x5.Kind : Int) ≠ x14.Kind := bne_iff_ne.1 h23
          refine tn 12 rfl (by kernel_rfl) (by kernel_rfl) (by kernel_rfl) rfl rfl rfl (fun _ hs => hs) ?_
          refine tn 13 rfl (by kernel_rfl) (by kernel_rfl) (by kernel_rfl) rfl rfl rfl (fun _ hs => hs) ?_
          refine tn 14 rfl (by kernel_rfl) (by kernel_rfl) (by kernel_rfl) rfl rfl rfl (fun _ hs => hs) ?_
          refine tn 15 rfl (by kernel_rfl) (by kernel_rfl) (by kernel_rfl) rfl rfl rfl (fun _ hs => hs) ?_
          refine tn 16 rfl (by kernel_rfl) (by kernel_rfl) (by kernel_rfl) rfl rfl rfl (fun _ hs => hs) ?_
          refine tn 17 rfl (by kernel_rfl) (by kernel_rfl) (by kernel_rfl) rfl rfl rfl (fun _ hs => hs) ?_
          refine tn 18 rfl (by kernel_rfl) (by kernel_rfl) (by kernel_rfl) rfl rfl rfl (fun _ hs => hs) ?_
          refine tn 19 rfl (by kernel_rfl) (by kernel_rfl) (by kernel_rfl) rfl rfl rfl (fun _ hs => hs) ?_
          refine tn 20 rfl (by kernel_rfl) (by kernel_rfl) (by kernel_rfl) rfl rfl rfl (fun _ hs => hs) ?_
          refine tn 21 rfl (by kernel_rfl) (by kernel_rfl) (by kernel_rfl) rfl rfl rfl (fun _ hs => hs) ?_
          refine tn 22 rfl (by kernel_rfl) (by kernel_rfl) (by kernel_rfl) rfl rfl rfl (fun _ hs => hs) ?_
          refine tk 23 rfl (by kernel_rfl) (by kernel_rfl) (by kernel_rfl) rfl (fun _ hs => hs) (rp rfl) ?_
          refine tk 24 rfl (by kernel_rfl) (by kernel_rfl) (by kernel_rfl) rfl (fun _ hs => hs) (rp rfl) ?_
          refine tn 25 rfl (by kernel_rfl) (by kernel_rfl) (by kernel_rfl) rfl rfl rfl (fun _ hs => hs) ?_
          refine tn 26 rfl (by kernel_rfl) (by kernel_rfl) (by kernel_rfl) rfl rfl rfl (fun _ hs => hs) ?_
          refine tn 27 rfl (by kernel_rfl) (by kernel_rfl) (by kernel_rfl) rfl rfl rfl (fun _ hs => hs) ?_
          refine tn 28 rfl (by kernel_rfl) (by kernel_rfl) (by kernel_rfl) rfl rfl rfl (fun _ hs => hs) ?_
          refine tn 29 rfl (by kernel_rfl) (by kernel_rfl) (by kernel_rfl) rfl rfl rfl (fun _ hs => hs) ?_
          refine tn 30 rfl (by kernel_rfl) (by kernel_rfl) (by kernel_rfl) rfl rfl rfl (fun _ hs => hs) ?_
          refine tn 31 rfl (by kernel_rfl) (by kernel_rfl) (by kernel_rfl) rfl rfl rfl (fun _ hs => hs) ?_
          refine tn 32 rfl (by kernel_rfl) (by kernel_rfl) (by kernel_rfl) rfl rfl rfl (fun _ hs => hs) ?_
          refine tn 33 rfl (by kernel_rfl) (by kernel_rfl) (by kernel_rfl) rfl rfl rfl (fun _ hs => hs) ?_
          refine tn 34 rfl (by kernel_rfl) (by kernel_rfl) (by kernel_rfl) rfl rfl rfl (fun _ hs => hs) ?_
          refine tn 35 rfl (by kernel_rfl) (by kernel_rfl) (by kernel_rfl) rfl rfl rfl (fun _ hs => hs) ?_
          refine tn 36 rfl (by kernel_rfl) (by kernel_rfl) (by kernel_rfl) rfl rfl rfl (fun _ hs => hs) ?_
          refine ty 37 rfl (by kernel_rfl) rfl (sv rfl rfl (rp rfl) ?_)
          refine tZ rfl ?_
          refine tE (by kernel_rfl) ?_
          refine x_then ?_
          refine D_weak [(0, v_a), (1, v_b), (12, (.int .i64 ((a.length : Nat) : Int))), (13, (.int .i64 ((k : Nat) : Int))), (53, (.bool true))] ⟨rfl, rfl, rfl, rfl, rfl, trivial⟩ ?_
          refine C_t rfl ?_
          refine C_seq ?_
          refine C_reg ?_
          refine p1 rfl ?_
          refine D_end ?_
          refine x_then ?_
          refine C_ret ?_
          refine x_blk_ret ?_
          refine x_then_ret ?_
          refine x_then_ret ?_
          refine x_blk_ret ?_
          refine x_then_ret ?_
          refine R_1 rfl rfl fun w' hs => ⟨congrArg (fun z => Ending.returned (Value.bool z)) ?_, hs.bel⟩
          show (false : Bool) = decide (a = b)
          simp; intro e; subst e; simp_all
        · have pr23 : (x5.Kind : Int) = x14.Kind := eq_of_bne_f h23
          refine tk 12 rfl (by kernel_rfl) (by kernel_rfl) (by kernel_rfl) rfl (fun _ hs => hs) (rp rfl) ?_
          refine tk 13 rfl (by kernel_rfl) (by kernel_rfl) (by kernel_rfl) rfl (fun _ hs => hs) (rp rfl) ?_
          refine tk 14 rfl (by kernel_rfl) (by kernel_rfl) (by kernel_rfl) rfl (fun _ hs => hs) (D_ix (l := a) (j := k) s_47 rfl rfl rfl (fun w' hs => (rd_at hs h_a)) rfl (lt_of_some hx6)) ?_
          refine tk 15 rfl (by kernel_rfl) (by kernel_rfl) (by kernel_rfl) rfl (fun _ hs => hs) (D_fa f_31_1 rfl rfl) ?_
          refine tk 16 rfl (by kernel_rfl) (by kernel_rfl) (by kernel_rfl) rfl (fun _ hs => hs) (lr o_9 rfl rfl at8 rfl) ?_
          refine tk 17 rfl (by kernel_rfl) (by kernel_rfl) (by kernel_rfl) rfl (fun _ hs => hs) (rp rfl) ?_
          refine tk 18 rfl (by kernel_rfl) (by kernel_rfl) (by kernel_rfl) rfl (fun _ hs => hs) (rp rfl) ?_
          refine tk 19 rfl (by kernel_rfl) (by kernel_rfl) (by kernel_rfl) rfl (fun _ hs => hs) (D_ix (l := b) (j := k) s_47 rfl rfl rfl (fun w' hs => (rd_at hs h_b)) rfl (lt_of_some hx15)) ?_
          refine tk 20 rfl (by kernel_rfl) (by kernel_rfl) (by kernel_rfl) rfl (fun _ hs => hs) (D_fa f_31_1 rfl rfl) ?_
          refine tk 21 rfl (by kernel_rfl) (by kernel_rfl) (by kernel_rfl) rfl (fun _ hs => hs) (lr o_9 rfl rfl at17 rfl) ?_
          refine tk 22 rfl (by kernel_rfl) (by kernel_rfl) (by kernel_rfl) rfl (fun _ hs => hs) (D_neS rfl rfl rfl) ?_
          refine tk 23 rfl (by kernel_rfl) (by kernel_rfl) (by kernel_rfl) rfl (fun _ hs => hs) (rp rfl) ?_
          refine tk 24 rfl (by kernel_rfl) (by kernel_rfl) (by kernel_rfl) rfl (fun _ hs => hs) (rp rfl) ?_
          refine gs 40 rfl rfl (fun h24 => ?_) (fun h24 => ?_)
          · have pr24 : ¬ (x5.Rule : ByteArray) = x14.Rule := of_decide_eq_false (not_t h24)
            refine tn 25 rfl (by kernel_rfl) (by kernel_rfl) (by kernel_rfl) rfl rfl rfl (fun _ hs => hs) ?_
            refine tn 26 rfl (by kernel_rfl) (by kernel_rfl) (by kernel_rfl) rfl rfl rfl (fun _ hs => hs) ?_
            refine tn 27 rfl (by kernel_rfl) (by kernel_rfl) (by kernel_rfl) rfl rfl rfl (fun _ hs => hs) ?_
            refine tn 28 rfl (by kernel_rfl) (by kernel_rfl) (by kernel_rfl) rfl rfl rfl (fun _ hs => hs) ?_
            refine tn 29 rfl (by kernel_rfl) (by kernel_rfl) (by kernel_rfl) rfl rfl rfl (fun _ hs => hs) ?_
            refine tn 30 rfl (by kernel_rfl) (by kernel_rfl) (by kernel_rfl) rfl rfl rfl (fun _ hs => hs) ?_
            refine tn 31 rfl (by kernel_rfl) (by kernel_rfl) (by kernel_rfl) rfl rfl rfl (fun _ hs => hs) ?_
            refine tn 32 rfl (by kernel_rfl) (by kernel_rfl) (by kernel_rfl) rfl rfl rfl (fun _ hs => hs) ?_
            refine tn 33 rfl (by kernel_rfl) (by kernel_rfl) (by kernel_rfl) rfl rfl rfl (fun _ hs => hs) ?_
            refine tn 34 rfl (by kernel_rfl) (by kernel_rfl) (by kernel_rfl) rfl rfl rfl (fun _ hs => hs) ?_
            refine tn 35 rfl (by kernel_rfl) (by kernel_rfl) (by kernel_rfl) rfl rfl rfl (fun _ hs => hs) ?_
            refine tn 36 rfl (by kernel_rfl) (by kernel_rfl) (by kernel_rfl) rfl rfl rfl (fun _ hs => hs) ?_
            refine ty 37 rfl (by kernel_rfl) rfl (sv rfl rfl (rp rfl) ?_)
            refine tZ rfl ?_
            refine tE (by kernel_rfl) ?_
            refine x_then ?_
            refine D_weak [(0, v_a), (1, v_b), (12, (.int .i64 ((a.length : Nat) : Int))), (13, (.int .i64 ((k : Nat) : Int))), (53, (.bool true))] ⟨rfl, rfl, rfl, rfl, rfl, trivial⟩ ?_
            refine C_t rfl ?_
            refine C_seq ?_
            refine C_reg ?_
            refine p1 rfl ?_
            refine D_end ?_
            refine x_then ?_
            refine C_ret ?_
            refine x_blk_ret ?_
            refine x_then_ret ?_
            refine x_then_ret ?_
            refine x_blk_ret ?_
            refine x_then_ret ?_
            refine R_1 rfl rfl fun w' hs => ⟨congrArg (fun z => Ending.returned (Value.bool z)) ?_, hs.bel⟩
            show (false : Bool) = decide (a = b)
            simp; intro e; subst e; simp_all
          · have pr24 : (x5.Rule : ByteArray) = x14.Rule := of_decide_eq_true (not_f h24)
            refine tk 25 rfl (by kernel_rfl) (by kernel_rfl) (by kernel_rfl) rfl (fun _ hs => hs) (rp rfl) ?_
            refine tk 26 rfl (by kernel_rfl) (by kernel_rfl) (by kernel_rfl) rfl (fun _ hs => hs) (rp rfl) ?_
            refine tk 27 rfl (by kernel_rfl) (by kernel_rfl) (by kernel_rfl) rfl (fun _ hs => hs) (D_ix (l := a) (j := k) s_47 rfl rfl rfl (fun w' hs => (rd_at hs h_a)) rfl (lt_of_some hx6)) ?_
            refine tk 28 rfl (by kernel_rfl) (by kernel_rfl) (by kernel_rfl) rfl (fun _ hs => hs) (D_fa f_31_2 rfl rfl) ?_
            refine tk 29 rfl (by kernel_rfl) (by kernel_rfl) (by kernel_rfl) rfl (fun _ hs => hs) (lra a_29 rfl rfl (at_sub (f := 2) (n := 2) at8 rfl)) ?_
            refine tk 30 rfl (by kernel_rfl) (by kernel_rfl) (by kernel_rfl) rfl (fun _ hs => hs) (rp rfl) ?_
            refine tk 31 rfl (by kernel_rfl) (by kernel_rfl) (by kernel_rfl) rfl (fun _ hs => hs) (rp rfl) ?_
            refine tk 32 rfl (by kernel_rfl) (by kernel_rfl) (by kernel_rfl) rfl (fun _ hs => hs) (D_ix (l := b) (j := k) s_47 rfl rfl rfl (fun w' hs => (rd_at hs h_b)) rfl (lt_of_some hx15)) ?_
            refine tk 33 rfl (by kernel_rfl) (by kernel_rfl) (by kernel_rfl) rfl (fun _ hs => hs) (D_fa f_31_2 rfl rfl) ?_
            refine tk 34 rfl (by kernel_rfl) (by kernel_rfl) (by kernel_rfl) rfl (fun _ hs => hs) (lra a_29 rfl rfl (at_sub (f := 2) (n := 2) at17 rfl)) ?_
            refine ty 35 rfl (by kernel_rfl) rfl (cv b_40 rfl rfl rfl rfl (fun w' hs => (impl_sameFact w' [(.string x5.Fact.Rel), u10] x5.Fact [(.string x14.Fact.Rel), u19] x14.Fact (rd_at hs hb13) (rd_at hs hb22))) ?_)
            refine tZ rfl ?_
            refine ty 36 rfl (by kernel_rfl) rfl (sv rfl rfl (rp rfl) ?_)
            refine tZ rfl ?_
            refine ty 37 rfl (by kernel_rfl) rfl (sv rfl rfl (rp rfl) ?_)
            refine tZ rfl ?_
            refine tE (by kernel_rfl) ?_
            refine x_then ?_
            refine D_weak [(0, v_a), (1, v_b), (12, (.int .i64 ((a.length : Nat) : Int))), (13, (.int .i64 ((k : Nat) : Int))), (53, (.bool (!(decide (x5.Fact = x14.Fact)))))] ⟨rfl, rfl, rfl, rfl, rfl, trivial⟩ ?_
            refine C_if _ rfl (fun h25 => ?_) (fun h25 => ?_)
            · have h25n : (decide (x5.Fact = x14.Fact)) = false := not_t h25
              refine C_seq ?_
              refine C_reg ?_
              refine p1 rfl ?_
              refine D_end ?_
              refine x_then ?_
              refine C_ret ?_
              refine x_blk_ret ?_
              refine x_then_ret ?_
              refine x_then_ret ?_
              refine x_blk_ret ?_
              refine x_then_ret ?_
              refine R_1 rfl rfl fun w' hs => ⟨congrArg (fun z => Ending.returned (Value.bool z)) ?_, hs.bel⟩
              show (false : Bool) = decide (a = b)
              simp; intro e; subst e; simp_all
            · have h25n : (decide (x5.Fact = x14.Fact)) = true := not_f h25
              refine C_skip ?_
              refine x_blk ?_
              refine x_then ?_
              refine C_reg ?_
              refine q1 rfl (D_add rfl rfl rfl (r := ((k + 1 : Nat) : Int)) (by omega) (by omega)) ?_
              refine p1 rfl ?_
              refine D_end ?_
              refine x_then ?_
              refine fun ac w' hf hs => ⟨_, ?_, k + 1, ?_, ?_, rfl, hf.weak ⟨rfl, rfl, rfl, rfl, trivial⟩, hs⟩
              · omega
              · first | assumption | omega | simp
              · refine idx_step hi (by assumption) (by assumption) ?_; first | (simp_all; done) | (apply Event.mk_eq <;> simp_all)
      · have pr4 : ¬ (((k : Nat) : Int) : Int) < ((a.length : Nat) : Int) := of_decide_eq_false h4
        refine C_exit ?_
        refine x_then_exit ?_
        refine x_then_exit ?_
        refine x_blk_eq ?_
        refine x_then ?_
        refine C_seq ?_
        refine C_reg ?_
        refine p1 rfl ?_
        refine D_end ?_
        refine x_then ?_
        refine C_ret ?_
        refine R_1 rfl rfl fun w' hs => ⟨congrArg (fun z => Ending.returned (Value.bool z)) ?_, hs.bel⟩
        show (true : Bool) = decide (a = b)
        simp; exact eq_of_idx (by omega) (fun i h => hi i (by omega))

set_option maxHeartbeats 4000000 in
theorem impl_SameEngine (w : World) (c_a : List Value) (a : Engine) (c_b : List Value) (b : Engine) (h_a : Gd.rd w c_a a) (h_b : Gd.rd w c_b b) : Calls Try.prog 16 [(.agg c_a.toArray), (.agg c_b.toArray)].toArray w (Val w (.bool (decide (a = b)))) := by
  obtain ⟨u1, u3, u5, u7, rfl, hu2, hu4, hu6, hu8⟩ := open_Engine h_a
  have hm9 := rd_max hu2
  have hm10 := rd_max hu4
  have hm11 := rd_max hu6
  have hm12 := rd_max hu8
  obtain ⟨u13, u15, u17, u19, rfl, hu14, hu16, hu18, hu20⟩ := open_Engine h_b
  have hm21 := rd_max hu14
  have hm22 := rd_max hu16
  have hm23 := rd_max hu18
  have hm24 := rd_max hu20
  refine enter 105 Try.func16 rfl rfl rfl ?_
  refine C_seq ?_
  refine C_reg ?_
  refine li rfl (D_box rfl rfl rfl rfl rfl fun g25 => ?_)
  refine li rfl (D_box rfl rfl rfl rfl rfl fun g26 => ?_)
  refine p1 rfl ?_
  refine D_end ?_
  refine x_then ?_
  refine D_H ([bx g26 [u13, u15, (.int .i64 b.Clock), u17, (.bool b.Halted), u19], bx g25 [u1, u3, (.int .i64 a.Clock), u5, (.bool a.Halted), u7]]) rfl ?_
  refine C_seq ?_
  refine C_seq ?_
  refine C_reg ?_
  refine q1 rfl (D_fb f_49_0 rfl rfl (q := 0) rfl) ?_
  refine q1 rfl (lb 1 o_44 rfl rfl rfl rfl) ?_
  refine q1 rfl (D_fb f_49_0 rfl rfl (q := 0) rfl) ?_
  refine q1 rfl (lb 0 o_44 rfl rfl rfl rfl) ?_
  refine li rfl (cv b_39 rfl rfl rfl rfl (fun w' hs => (impl_sameRules w' u1 a.Rules u13 b.Rules (rd_at hs hu2) (rd_at hs hu14))) ?_)
  refine p1 rfl <| p1 rfl ?_
  refine gs 13 rfl rfl (fun h27 => ?_) (fun h27 => ?_)
  · have h27n : (decide (a.Rules = b.Rules)) = false := not_t h27
    refine n1 rfl ?_
    refine n1 rfl ?_
    refine n1 rfl ?_
    refine n1 rfl ?_
    refine n1 rfl ?_
    refine n1 rfl ?_
    refine n1 rfl ?_
    refine p1 rfl <| p1 rfl ?_
    refine n1 rfl ?_
    refine n1 rfl ?_
    refine n1 rfl ?_
    refine n1 rfl ?_
    refine n1 rfl ?_
    refine p1 rfl <| p1 rfl ?_
    refine n1 rfl ?_
    refine n1 rfl ?_
    refine n1 rfl ?_
    refine n1 rfl ?_
    refine n1 rfl ?_
    refine n1 rfl ?_
    refine n1 rfl ?_
    refine p1 rfl <| p1 rfl ?_
    refine n1 rfl ?_
    refine n1 rfl ?_
    refine n1 rfl ?_
    refine n1 rfl ?_
    refine n1 rfl ?_
    refine p1 rfl ?_
    refine D_end ?_
    refine x_then ?_
    refine D_weak [(2, (.pointer (some ⟨g25, 0, none⟩))), (3, (.pointer (some ⟨g26, 0, none⟩))), (44, (.bool true))] ⟨rfl, rfl, rfl, trivial⟩ ?_
    refine C_t rfl ?_
    refine C_seq ?_
    refine C_reg ?_
    refine p1 rfl ?_
    refine D_end ?_
    refine x_then ?_
    refine C_ret ?_
    refine x_then_ret ?_
    refine R_1 rfl rfl fun w' hs => ⟨congrArg (fun z => Ending.returned (Value.bool z)) ?_, hs.bel⟩
    show (false : Bool) = decide (a = b)
    simp; intro e; subst e; simp_all
  · have h27n : (decide (a.Rules = b.Rules)) = true := not_f h27
    refine q1 rfl (D_fb f_49_1 rfl rfl (q := 1) rfl) ?_
    refine q1 rfl (lb 1 o_45 rfl rfl rfl rfl) ?_
    refine q1 rfl (D_len s_45 rfl rfl (rd_sl hu4)) ?_
    refine q1 rfl (D_fb f_49_1 rfl rfl (q := 1) rfl) ?_
    refine q1 rfl (lb 0 o_45 rfl rfl rfl rfl) ?_
    refine q1 rfl (D_len s_45 rfl rfl (rd_sl hu16)) ?_
    refine p1 rfl <| p1 rfl <| p1 rfl ?_
    refine gs 22 rfl rfl (fun h28 => ?_) (fun h28 => ?_)
    · have pr28 : (((a.Memory.length : Nat) : Int) : Int) ≠ ((b.Memory.length : Nat) : Int) := bne_iff_ne.1 h28
      refine n1 rfl ?_
      refine n1 rfl ?_
      refine n1 rfl ?_
      refine n1 rfl ?_
      refine n1 rfl ?_
      refine p1 rfl <| p1 rfl ?_
      refine n1 rfl ?_
      refine n1 rfl ?_
      refine n1 rfl ?_
      refine n1 rfl ?_
      refine n1 rfl ?_
      refine n1 rfl ?_
      refine n1 rfl ?_
      refine p1 rfl <| p1 rfl ?_
      refine n1 rfl ?_
      refine n1 rfl ?_
      refine n1 rfl ?_
      refine n1 rfl ?_
      refine n1 rfl ?_
      refine p1 rfl ?_
      refine D_end ?_
      refine x_then ?_
      refine D_weak [(2, (.pointer (some ⟨g25, 0, none⟩))), (3, (.pointer (some ⟨g26, 0, none⟩))), (44, (.bool true))] ⟨rfl, rfl, rfl, trivial⟩ ?_
      refine C_t rfl ?_
      refine C_seq ?_
      refine C_reg ?_
      refine p1 rfl ?_
      refine D_end ?_
      refine x_then ?_
      refine C_ret ?_
      refine x_then_ret ?_
      refine R_1 rfl rfl fun w' hs => ⟨congrArg (fun z => Ending.returned (Value.bool z)) ?_, hs.bel⟩
      show (false : Bool) = decide (a = b)
      simp; intro e; subst e; simp_all
    · have pr28 : (((a.Memory.length : Nat) : Int) : Int) = ((b.Memory.length : Nat) : Int) := eq_of_bne_f h28
      refine q1 rfl (D_fb f_49_2 rfl rfl (q := 2) rfl) ?_
      refine q1 rfl (lb 1 o_3 rfl rfl rfl rfl) ?_
      refine q1 rfl (D_fb f_49_2 rfl rfl (q := 2) rfl) ?_
      refine q1 rfl (lb 0 o_3 rfl rfl rfl rfl) ?_
      refine p1 rfl <| p1 rfl <| p1 rfl ?_
      refine gs 29 rfl rfl (fun h29 => ?_) (fun h29 => ?_)
      · have pr29 : (a.Clock : Int) ≠ b.Clock := bne_iff_ne.1 h29
        refine n1 rfl ?_
        refine n1 rfl ?_
        refine n1 rfl ?_
        refine n1 rfl ?_
        refine n1 rfl ?_
        refine n1 rfl ?_
        refine n1 rfl ?_
        refine p1 rfl <| p1 rfl ?_
        refine n1 rfl ?_
        refine n1 rfl ?_
        refine n1 rfl ?_
        refine n1 rfl ?_
        refine n1 rfl ?_
        refine p1 rfl ?_
        refine D_end ?_
        refine x_then ?_
        refine D_weak [(2, (.pointer (some ⟨g25, 0, none⟩))), (3, (.pointer (some ⟨g26, 0, none⟩))), (44, (.bool true))] ⟨rfl, rfl, rfl, trivial⟩ ?_
        refine C_t rfl ?_
        refine C_seq ?_
        refine C_reg ?_
        refine p1 rfl ?_
        refine D_end ?_
        refine x_then ?_
        refine C_ret ?_
        refine x_then_ret ?_
        refine R_1 rfl rfl fun w' hs => ⟨congrArg (fun z => Ending.returned (Value.bool z)) ?_, hs.bel⟩
        show (false : Bool) = decide (a = b)
        simp; intro e; subst e; simp_all
      · have pr29 : (a.Clock : Int) = b.Clock := eq_of_bne_f h29
        refine q1 rfl (D_fb f_49_3 rfl rfl (q := 3) rfl) ?_
        refine q1 rfl (lb 1 o_46 rfl rfl rfl rfl) ?_
        refine q1 rfl (D_len s_46 rfl rfl (rd_sl hu6)) ?_
        refine q1 rfl (D_fb f_49_3 rfl rfl (q := 3) rfl) ?_
        refine q1 rfl (lb 0 o_46 rfl rfl rfl rfl) ?_
        refine q1 rfl (D_len s_46 rfl rfl (rd_sl hu18)) ?_
        refine p1 rfl <| p1 rfl <| p1 rfl ?_
        refine gs 38 rfl rfl (fun h30 => ?_) (fun h30 => ?_)
        · have pr30 : (((a.Fired.length : Nat) : Int) : Int) ≠ ((b.Fired.length : Nat) : Int) := bne_iff_ne.1 h30
          refine n1 rfl ?_
          refine n1 rfl ?_
          refine n1 rfl ?_
          refine n1 rfl ?_
          refine n1 rfl ?_
          refine p1 rfl ?_
          refine D_end ?_
          refine x_then ?_
          refine D_weak [(2, (.pointer (some ⟨g25, 0, none⟩))), (3, (.pointer (some ⟨g26, 0, none⟩))), (44, (.bool true))] ⟨rfl, rfl, rfl, trivial⟩ ?_
          refine C_t rfl ?_
          refine C_seq ?_
          refine C_reg ?_
          refine p1 rfl ?_
          refine D_end ?_
          refine x_then ?_
          refine C_ret ?_
          refine x_then_ret ?_
          refine R_1 rfl rfl fun w' hs => ⟨congrArg (fun z => Ending.returned (Value.bool z)) ?_, hs.bel⟩
          show (false : Bool) = decide (a = b)
          simp; intro e; subst e; simp_all
        · have pr30 : (((a.Fired.length : Nat) : Int) : Int) = ((b.Fired.length : Nat) : Int) := eq_of_bne_f h30
          refine q1 rfl (D_fb f_49_4 rfl rfl (q := 4) rfl) ?_
          refine q1 rfl (lb 1 o_4 rfl rfl rfl rfl) ?_
          refine q1 rfl (D_fb f_49_4 rfl rfl (q := 4) rfl) ?_
          refine q1 rfl (lb 0 o_4 rfl rfl rfl rfl) ?_
          refine q1 rfl (D_neB ub_4 rfl rfl rfl) ?_
          refine p1 rfl ?_
          refine D_end ?_
          refine x_then ?_
          refine D_weak [(2, (.pointer (some ⟨g25, 0, none⟩))), (3, (.pointer (some ⟨g26, 0, none⟩))), (44, (.bool (!(a.Halted == b.Halted))))] ⟨rfl, rfl, rfl, trivial⟩ ?_
          refine C_if _ rfl (fun h31 => ?_) (fun h31 => ?_)
          · refine C_seq ?_
            refine C_reg ?_
            refine p1 rfl ?_
            refine D_end ?_
            refine x_then ?_
            refine C_ret ?_
            refine x_then_ret ?_
            refine R_1 rfl rfl fun w' hs => ⟨congrArg (fun z => Ending.returned (Value.bool z)) ?_, hs.bel⟩
            show (false : Bool) = decide (a = b)
            simp; intro e; subst e; simp_all
          · have pr31 : a.Halted = b.Halted := beq_of_not h31
            refine C_skip ?_
            refine x_then ?_
            refine C_seq ?_
            refine C_seq ?_
            refine C_reg ?_
            refine q1 rfl (D_fb f_49_1 rfl rfl (q := 1) rfl) ?_
            refine q1 rfl (lb 1 o_45 rfl rfl rfl rfl) ?_
            refine q1 rfl (D_len s_45 rfl rfl (rd_sl hu4)) ?_
            refine p1 rfl ?_
            refine D_end ?_
            refine x_then ?_
            refine C_block ?_
            refine C_loop (fun m_ ac w' => ∃ (k : Nat), (k ≤ a.Memory.length) ∧ (∀ i, i < k → a.Memory[i]? = b.Memory[i]?) ∧ m_ = a.Memory.length - k ∧ Fits ac 105 [(2, (.pointer (some ⟨g25, 0, none⟩))), (3, (.pointer (some ⟨g26, 0, none⟩))), (47, (.int .i64 ((a.Memory.length : Nat) : Int))), (48, (.int .i64 ((k : Nat) : Int)))] ∧ St w ([bx g26 [u13, u15, (.int .i64 b.Clock), u17, (.bool b.Halted), u19], bx g25 [u1, u3, (.int .i64 a.Clock), u5, (.bool a.Halted), u7]]) w') ?_ ?_
            · refine fun ac w' hf hs => ⟨_, 0, ?_, ?_, rfl, hf.weak ⟨rfl, rfl, rfl, rfl, trivial⟩, hs⟩
              · first | assumption | omega | simp
              · intro i hi; omega
            · rintro m_ ac w' ⟨k, hk, hi, rfl, hf, hs⟩
              refine D.use ?_ hf hs
              clear hf hs ac w'
              refine C_seq ?_
              refine C_reg ?_
              refine p1 rfl ?_
              refine D_end ?_
              refine x_then ?_
              refine C_seq ?_
              refine C_if _ rfl (fun h32 => ?_) (fun h32 => ?_)
              · have pr32 : (((k : Nat) : Int) : Int) < ((a.Memory.length : Nat) : Int) := of_decide_eq_true h32
                refine C_skip ?_
                refine x_then ?_
                refine C_seq ?_
                refine C_block ?_
                refine C_seq ?_
                refine C_reg ?_
                refine p1 rfl <| p1 rfl ?_
                refine D_end ?_
                refine x_then ?_
                refine C_seq ?_
                refine C_draw mixed [26, 27, 28] (by kernel_rfl) ?_
                refine tk 0 rfl (by kernel_rfl) (by kernel_rfl) (by kernel_rfl) rfl (fun _ hs => hs) (D_fb f_49_1 rfl rfl (q := 1) rfl) ?_
                refine tk 1 rfl (by kernel_rfl) (by kernel_rfl) (by kernel_rfl) rfl (fun _ hs => hs) (lb 1 o_45 rfl rfl rfl rfl) ?_
                refine tk 2 rfl (by kernel_rfl) (by kernel_rfl) (by kernel_rfl) rfl (fun _ hs => hs) (rp rfl) ?_
                obtain ⟨x33, hx34⟩ := some_of_lt (l := a.Memory) (i := k) (by omega)
                obtain ⟨es35, at36, hr37⟩ := rd_elem (n := 3) rfl hu4 hx34
                obtain ⟨u38, rfl, hu39⟩ := open_Stamp hr37
                have hm40 := rd_max hu39
                have hb41 := sub_Stamp_Fact hr37
                refine tk 3 rfl (by kernel_rfl) (by kernel_rfl) (by kernel_rfl) rfl (fun _ hs => hs) (D_ix (l := a.Memory) (j := k) s_45 rfl rfl rfl (fun w' hs => (rd_at hs hu4)) rfl (lt_of_some hx34)) ?_
                refine tk 4 rfl (by kernel_rfl) (by kernel_rfl) (by kernel_rfl) rfl (fun _ hs => hs) (D_fa f_68_1 rfl rfl) ?_
                refine tk 5 rfl (by kernel_rfl) (by kernel_rfl) (by kernel_rfl) rfl (fun _ hs => hs) (lr o_3 rfl rfl at36 rfl) ?_
                refine tk 6 rfl (by kernel_rfl) (by kernel_rfl) (by kernel_rfl) rfl (fun _ hs => hs) (D_fb f_49_1 rfl rfl (q := 1) rfl) ?_
                refine tk 7 rfl (by kernel_rfl) (by kernel_rfl) (by kernel_rfl) rfl (fun _ hs => hs) (lb 0 o_45 rfl rfl rfl rfl) ?_
                refine tk 8 rfl (by kernel_rfl) (by kernel_rfl) (by kernel_rfl) rfl (fun _ hs => hs) (rp rfl) ?_
                obtain ⟨x42, hx43⟩ := some_of_lt (l := b.Memory) (i := k) (by omega)
                obtain ⟨es44, at45, hr46⟩ := rd_elem (n := 3) rfl hu16 hx43
                obtain ⟨u47, rfl, hu48⟩ := open_Stamp hr46
                have hm49 := rd_max hu48
                have hb50 := sub_Stamp_Fact hr46
                refine tk 9 rfl (by kernel_rfl) (by kernel_rfl) (by kernel_rfl) rfl (fun _ hs => hs) (D_ix (l := b.Memory) (j := k) s_45 rfl rfl rfl (fun w' hs => (rd_at hs hu16)) rfl (lt_of_some hx43)) ?_
                refine tk 10 rfl (by kernel_rfl) (by kernel_rfl) (by kernel_rfl) rfl (fun _ hs => hs) (D_fa f_68_1 rfl rfl) ?_
                refine tk 11 rfl (by kernel_rfl) (by kernel_rfl) (by kernel_rfl) rfl (fun _ hs => hs) (lr o_3 rfl rfl at45 rfl) ?_
                refine tk 12 rfl (by kernel_rfl) (by kernel_rfl) (by kernel_rfl) rfl (fun _ hs => hs) (rp rfl) ?_
                refine tk 13 rfl (by kernel_rfl) (by kernel_rfl) (by kernel_rfl) rfl (fun _ hs => hs) (rp rfl) ?_
                refine gs 64 rfl rfl (fun h51 => ?_) (fun h51 => ?_)
                · have pr51 : (x33.Time : Int) ≠ x42.Time := bne_iff_ne.1 h51
                  refine tn 14 rfl (by kernel_rfl) (by kernel_rfl) (by kernel_rfl) rfl rfl rfl (fun _ hs => hs) ?_
                  refine tn 15 rfl (by kernel_rfl) (by kernel_rfl) (by kernel_rfl) rfl rfl rfl (fun _ hs => hs) ?_
                  refine tn 16 rfl (by kernel_rfl) (by kernel_rfl) (by kernel_rfl) rfl rfl rfl (fun _ hs => hs) ?_
                  refine tn 17 rfl (by kernel_rfl) (by kernel_rfl) (by kernel_rfl) rfl rfl rfl (fun _ hs => hs) ?_
                  refine tn 18 rfl (by kernel_rfl) (by kernel_rfl) (by kernel_rfl) rfl rfl rfl (fun _ hs => hs) ?_
                  refine tn 19 rfl (by kernel_rfl) (by kernel_rfl) (by kernel_rfl) rfl rfl rfl (fun _ hs => hs) ?_
                  refine tn 20 rfl (by kernel_rfl) (by kernel_rfl) (by kernel_rfl) rfl rfl rfl (fun _ hs => hs) ?_
                  refine tn 21 rfl (by kernel_rfl) (by kernel_rfl) (by kernel_rfl) rfl rfl rfl (fun _ hs => hs) ?_
                  refine tn 22 rfl (by kernel_rfl) (by kernel_rfl) (by kernel_rfl) rfl rfl rfl (fun _ hs => hs) ?_
                  refine tn 23 rfl (by kernel_rfl) (by kernel_rfl) (by kernel_rfl) rfl rfl rfl (fun _ hs => hs) ?_
                  refine tn 24 rfl (by kernel_rfl) (by kernel_rfl) (by kernel_rfl) rfl rfl rfl (fun _ hs => hs) ?_
                  refine tn 25 rfl (by kernel_rfl) (by kernel_rfl) (by kernel_rfl) rfl rfl rfl (fun _ hs => hs) ?_
                  refine tn 26 rfl (by kernel_rfl) (by kernel_rfl) (by kernel_rfl) rfl rfl rfl (fun _ hs => hs) ?_
                  refine tn 27 rfl (by kernel_rfl) (by kernel_rfl) (by kernel_rfl) rfl rfl rfl (fun _ hs => hs) ?_
                  refine ty 28 rfl (by kernel_rfl) rfl (sv rfl rfl (rp rfl) ?_)
                  refine tZ rfl ?_
                  refine tE (by kernel_rfl) ?_
                  refine x_then ?_
                  refine D_weak [(2, (.pointer (some ⟨g25, 0, none⟩))), (3, (.pointer (some ⟨g26, 0, none⟩))), (47, (.int .i64 ((a.Memory.length : Nat) : Int))), (48, (.int .i64 ((k : Nat) : Int))), (79, (.bool true))] ⟨rfl, rfl, rfl, rfl, rfl, trivial⟩ ?_
                  refine C_t rfl ?_
                  refine C_seq ?_
                  refine C_reg ?_
                  refine p1 rfl ?_
                  refine D_end ?_
                  refine x_then ?_
                  refine C_ret ?_
                  refine x_blk_ret ?_
                  refine x_then_ret ?_
                  refine x_then_ret ?_
                  refine x_blk_ret ?_
                  refine x_then_ret ?_
                  refine R_1 rfl rfl fun w' hs => ⟨congrArg (fun z => Ending.returned (Value.bool z)) ?_, hs.bel⟩
                  show (false : Bool) = decide (a = b)
                  simp; intro e; subst e; simp_all
                · have pr51 : (x33.Time : Int) = x42.Time := eq_of_bne_f h51
                  refine tk 14 rfl (by kernel_rfl) (by kernel_rfl) (by kernel_rfl) rfl (fun _ hs => hs) (D_fb f_49_1 rfl rfl (q := 1) rfl) ?_
                  refine tk 15 rfl (by kernel_rfl) (by kernel_rfl) (by kernel_rfl) rfl (fun _ hs => hs) (lb 1 o_45 rfl rfl rfl rfl) ?_
                  refine tk 16 rfl (by kernel_rfl) (by kernel_rfl) (by kernel_rfl) rfl (fun _ hs => hs) (rp rfl) ?_
                  refine tk 17 rfl (by kernel_rfl) (by kernel_rfl) (by kernel_rfl) rfl (fun _ hs => hs) (D_ix (l := a.Memory) (j := k) s_45 rfl rfl rfl (fun w' hs => (rd_at hs hu4)) rfl (lt_of_some hx34)) ?_
                  refine tk 18 rfl (by kernel_rfl) (by kernel_rfl) (by kernel_rfl) rfl (fun _ hs => hs) (D_fa f_68_0 rfl rfl) ?_
                  refine tk 19 rfl (by kernel_rfl) (by kernel_rfl) (by kernel_rfl) rfl (fun _ hs => hs) (lra a_29 rfl rfl (at_sub (f := 0) (n := 2) at36 rfl)) ?_
                  refine tk 20 rfl (by kernel_rfl) (by kernel_rfl) (by kernel_rfl) rfl (fun _ hs => hs) (D_fb f_49_1 rfl rfl (q := 1) rfl) ?_
                  refine tk 21 rfl (by kernel_rfl) (by kernel_rfl) (by kernel_rfl) rfl (fun _ hs => hs) (lb 0 o_45 rfl rfl rfl rfl) ?_
                  refine tk 22 rfl (by kernel_rfl) (by kernel_rfl) (by kernel_rfl) rfl (fun _ hs => hs) (rp rfl) ?_
                  refine tk 23 rfl (by kernel_rfl) (by kernel_rfl) (by kernel_rfl) rfl (fun _ hs => hs) (D_ix (l := b.Memory) (j := k) s_45 rfl rfl rfl (fun w' hs => (rd_at hs hu16)) rfl (lt_of_some hx43)) ?_
                  refine tk 24 rfl (by kernel_rfl) (by kernel_rfl) (by kernel_rfl) rfl (fun _ hs => hs) (D_fa f_68_0 rfl rfl) ?_
                  refine tk 25 rfl (by kernel_rfl) (by kernel_rfl) (by kernel_rfl) rfl (fun _ hs => hs) (lra a_29 rfl rfl (at_sub (f := 0) (n := 2) at45 rfl)) ?_
                  refine ty 26 rfl (by kernel_rfl) rfl (cv b_40 rfl rfl rfl rfl (fun w' hs => (impl_sameFact w' [(.string x33.Fact.Rel), u38] x33.Fact [(.string x42.Fact.Rel), u47] x42.Fact (rd_at hs hb41) (rd_at hs hb50))) ?_)
                  refine tZ rfl ?_
                  refine ty 27 rfl (by kernel_rfl) rfl (sv rfl rfl (rp rfl) ?_)
                  refine tZ rfl ?_
                  refine ty 28 rfl (by kernel_rfl) rfl (sv rfl rfl (rp rfl) ?_)
                  refine tZ rfl ?_
                  refine tE (by kernel_rfl) ?_
                  refine x_then ?_
                  refine D_weak [(2, (.pointer (some ⟨g25, 0, none⟩))), (3, (.pointer (some ⟨g26, 0, none⟩))), (47, (.int .i64 ((a.Memory.length : Nat) : Int))), (48, (.int .i64 ((k : Nat) : Int))), (79, (.bool (!(decide (x33.Fact = x42.Fact)))))] ⟨rfl, rfl, rfl, rfl, rfl, trivial⟩ ?_
                  refine C_if _ rfl (fun h52 => ?_) (fun h52 => ?_)
                  · have h52n : (decide (x33.Fact = x42.Fact)) = false := not_t h52
                    refine C_seq ?_
                    refine C_reg ?_
                    refine p1 rfl ?_
                    refine D_end ?_
                    refine x_then ?_
                    refine C_ret ?_
                    refine x_blk_ret ?_
                    refine x_then_ret ?_
                    refine x_then_ret ?_
                    refine x_blk_ret ?_
                    refine x_then_ret ?_
                    refine R_1 rfl rfl fun w' hs => ⟨congrArg (fun z => Ending.returned (Value.bool z)) ?_, hs.bel⟩
                    show (false : Bool) = decide (a = b)
                    simp; intro e; subst e; simp_all
                  · have h52n : (decide (x33.Fact = x42.Fact)) = true := not_f h52
                    refine C_skip ?_
                    refine x_blk ?_
                    refine x_then ?_
                    refine C_reg ?_
                    refine q1 rfl (D_add rfl rfl rfl (r := ((k + 1 : Nat) : Int)) (by omega) (by omega)) ?_
                    refine p1 rfl ?_
                    refine D_end ?_
                    refine x_then ?_
                    refine fun ac w' hf hs => ⟨_, ?_, k + 1, ?_, ?_, rfl, hf.weak ⟨rfl, rfl, rfl, rfl, trivial⟩, hs⟩
                    · omega
                    · first | assumption | omega | simp
                    · refine idx_step hi (by assumption) (by assumption) ?_; first | (simp_all; done) | (apply Stamp.mk_eq <;> simp_all)
              · have pr32 : ¬ (((k : Nat) : Int) : Int) < ((a.Memory.length : Nat) : Int) := of_decide_eq_false h32
                refine C_exit ?_
                refine x_then_exit ?_
                refine x_then_exit ?_
                refine x_blk_eq ?_
                refine x_then ?_
                refine C_seq ?_
                refine C_seq ?_
                refine C_reg ?_
                refine q1 rfl (D_fb f_49_3 rfl rfl (q := 3) rfl) ?_
                refine q1 rfl (lb 1 o_46 rfl rfl rfl rfl) ?_
                refine q1 rfl (D_len s_46 rfl rfl (rd_sl hu6)) ?_
                refine p1 rfl ?_
                refine D_end ?_
                refine x_then ?_
                refine C_block ?_
                refine C_loop (fun m_ ac w' => ∃ (m : Nat), (m ≤ a.Fired.length) ∧ (∀ i, i < m → a.Fired[i]? = b.Fired[i]?) ∧ m_ = a.Fired.length - m ∧ Fits ac 105 [(2, (.pointer (some ⟨g25, 0, none⟩))), (3, (.pointer (some ⟨g26, 0, none⟩))), (83, (.int .i64 ((a.Fired.length : Nat) : Int))), (84, (.int .i64 ((m : Nat) : Int)))] ∧ St w ([bx g26 [u13, u15, (.int .i64 b.Clock), u17, (.bool b.Halted), u19], bx g25 [u1, u3, (.int .i64 a.Clock), u5, (.bool a.Halted), u7]]) w') ?_ ?_
                · refine fun ac w' hf hs => ⟨_, 0, ?_, ?_, rfl, hf.weak ⟨rfl, rfl, rfl, rfl, trivial⟩, hs⟩
                  · first | assumption | omega | simp
                  · intro i hi; omega
                · rintro m_ ac w' ⟨m, hm, hj, rfl, hf, hs⟩
                  refine D.use ?_ hf hs
                  clear hf hs ac w'
                  refine C_seq ?_
                  refine C_reg ?_
                  refine p1 rfl ?_
                  refine D_end ?_
                  refine x_then ?_
                  refine C_seq ?_
                  refine C_if _ rfl (fun h53 => ?_) (fun h53 => ?_)
                  · have pr53 : (((m : Nat) : Int) : Int) < ((a.Fired.length : Nat) : Int) := of_decide_eq_true h53
                    refine C_skip ?_
                    refine x_then ?_
                    refine C_seq ?_
                    refine C_block ?_
                    refine C_seq ?_
                    refine C_reg ?_
                    refine p1 rfl <| p1 rfl ?_
                    refine D_end ?_
                    refine x_then ?_
                    refine C_seq ?_
                    refine C_draw mixed [10, 11] (by kernel_rfl) ?_
                    refine tk 0 rfl (by kernel_rfl) (by kernel_rfl) (by kernel_rfl) rfl (fun _ hs => hs) (D_fb f_49_3 rfl rfl (q := 3) rfl) ?_
                    refine tk 1 rfl (by kernel_rfl) (by kernel_rfl) (by kernel_rfl) rfl (fun _ hs => hs) (lb 1 o_46 rfl rfl rfl rfl) ?_
                    refine tk 2 rfl (by kernel_rfl) (by kernel_rfl) (by kernel_rfl) rfl (fun _ hs => hs) (rp rfl) ?_
                    obtain ⟨x54, hx55⟩ := some_of_lt (l := a.Fired) (i := m) (by omega)
                    obtain ⟨es56, at57, hr58⟩ := rd_elem (n := 2) rfl hu6 hx55
                    obtain ⟨u59, rfl, hu60⟩ := open_Firing hr58
                    have hm61 := rd_max hu60
                    refine tk 3 rfl (by kernel_rfl) (by kernel_rfl) (by kernel_rfl) rfl (fun _ hs => hs) (D_ix (l := a.Fired) (j := m) s_46 rfl rfl rfl (fun w' hs => (rd_at hs hu6)) rfl (lt_of_some hx55)) ?_
                    refine tk 4 rfl (by kernel_rfl) (by kernel_rfl) (by kernel_rfl) rfl (fun _ hs => hs) (lra a_71 rfl rfl at57) ?_
                    refine tk 5 rfl (by kernel_rfl) (by kernel_rfl) (by kernel_rfl) rfl (fun _ hs => hs) (D_fb f_49_3 rfl rfl (q := 3) rfl) ?_
                    refine tk 6 rfl (by kernel_rfl) (by kernel_rfl) (by kernel_rfl) rfl (fun _ hs => hs) (lb 0 o_46 rfl rfl rfl rfl) ?_
                    refine tk 7 rfl (by kernel_rfl) (by kernel_rfl) (by kernel_rfl) rfl (fun _ hs => hs) (rp rfl) ?_
                    obtain ⟨x62, hx63⟩ := some_of_lt (l := b.Fired) (i := m) (by omega)
                    obtain ⟨es64, at65, hr66⟩ := rd_elem (n := 2) rfl hu18 hx63
                    obtain ⟨u67, rfl, hu68⟩ := open_Firing hr66
                    have hm69 := rd_max hu68
                    refine tk 8 rfl (by kernel_rfl) (by kernel_rfl) (by kernel_rfl) rfl (fun _ hs => hs) (D_ix (l := b.Fired) (j := m) s_46 rfl rfl rfl (fun w' hs => (rd_at hs hu18)) rfl (lt_of_some hx63)) ?_
                    refine tk 9 rfl (by kernel_rfl) (by kernel_rfl) (by kernel_rfl) rfl (fun _ hs => hs) (lra a_71 rfl rfl at65) ?_
                    refine ty 10 rfl (by kernel_rfl) rfl (cv b_41 rfl rfl rfl rfl (fun w' hs => (impl_sameFiring w' [(.string x54.Rule), u59] x54 [(.string x62.Rule), u67] x62 (rd_at hs hr58) (rd_at hs hr66))) ?_)
                    refine tZ rfl ?_
                    refine ty 11 rfl (by kernel_rfl) rfl (sv rfl rfl (rp rfl) ?_)
                    refine tZ rfl ?_
                    refine tE (by kernel_rfl) ?_
                    refine x_then ?_
                    refine C_if _ rfl (fun h70 => ?_) (fun h70 => ?_)
                    · have h70n : (decide (x54 = x62)) = false := not_t h70
                      refine C_seq ?_
                      refine C_reg ?_
                      refine p1 rfl ?_
                      refine D_end ?_
                      refine x_then ?_
                      refine D_weak [(4, (.bool false))] ⟨rfl, trivial⟩ ?_
                      refine C_ret ?_
                      refine x_blk_ret ?_
                      refine x_then_ret ?_
                      refine x_then_ret ?_
                      refine x_blk_ret ?_
                      refine x_then_ret ?_
                      refine R_1 rfl rfl fun w' hs => ⟨congrArg (fun z => Ending.returned (Value.bool z)) ?_, hs.bel⟩
                      show (false : Bool) = decide (a = b)
                      simp; intro e; subst e; simp_all
                    · have h70n : (decide (x54 = x62)) = true := not_f h70
                      refine C_skip ?_
                      refine x_blk ?_
                      refine x_then ?_
                      refine D_weak [(2, (.pointer (some ⟨g25, 0, none⟩))), (3, (.pointer (some ⟨g26, 0, none⟩))), (83, (.int .i64 ((a.Fired.length : Nat) : Int))), (84, (.int .i64 ((m : Nat) : Int)))] ⟨rfl, rfl, rfl, rfl, trivial⟩ ?_
                      refine C_reg ?_
                      refine q1 rfl (D_add rfl rfl rfl (r := ((m + 1 : Nat) : Int)) (by omega) (by omega)) ?_
                      refine p1 rfl ?_
                      refine D_end ?_
                      refine x_then ?_
                      refine fun ac w' hf hs => ⟨_, ?_, m + 1, ?_, ?_, rfl, hf.weak ⟨rfl, rfl, rfl, rfl, trivial⟩, hs⟩
                      · omega
                      · first | assumption | omega | simp
                      · refine idx_step hj (by assumption) (by assumption) ?_; first | (simp_all; done) | (apply Firing.mk_eq <;> simp_all)
                  · have pr53 : ¬ (((m : Nat) : Int) : Int) < ((a.Fired.length : Nat) : Int) := of_decide_eq_false h53
                    refine C_exit ?_
                    refine x_then_exit ?_
                    refine x_then_exit ?_
                    refine x_blk_eq ?_
                    refine x_then ?_
                    refine C_seq ?_
                    refine C_reg ?_
                    refine q1 rfl (D_fb f_49_5 rfl rfl (q := 5) rfl) ?_
                    refine q1 rfl (lb 1 o_47 rfl rfl rfl rfl) ?_
                    refine q1 rfl (D_fb f_49_5 rfl rfl (q := 5) rfl) ?_
                    refine q1 rfl (lb 0 o_47 rfl rfl rfl rfl) ?_
                    refine li rfl (cv b_42 rfl rfl rfl rfl (fun w' hs => (impl_sameEvents w' u7 a.Log u19 b.Log (rd_at hs hu8) (rd_at hs hu20))) ?_)
                    refine p1 rfl ?_
                    refine D_end ?_
                    refine x_then ?_
                    refine C_ret ?_
                    refine R_1 rfl rfl fun w' hs => ⟨congrArg (fun z => Ending.returned (Value.bool z)) ?_, hs.bel⟩
                    show ((decide (a.Log = b.Log)) : Bool) = decide (a = b)
                    rw [Bool.eq_iff_iff]; simp only [decide_eq_true_eq]; exact ⟨fun h => Engine.mk_eq (by simp_all) (eq_of_idx (by omega) (fun i h => hi i (by omega))) (by simp_all) (eq_of_idx (by omega) (fun i h => hj i (by omega))) (by simp_all) h, fun e => e ▸ rfl⟩

set_option maxHeartbeats 4000000 in
theorem spec_SameEngine (w : World) (c_a : List Value) (a : Engine) (c_b : List Value) (b : Engine) (h_a : Gd.rd w c_a a) (h_b : Gd.rd w c_b b) : Calls Try.prog 14 [(.agg c_a.toArray), (.agg c_b.toArray)].toArray w (Val w (.bool (decide (a = b)))) := by
  obtain ⟨u1, u3, u5, u7, rfl, hu2, hu4, hu6, hu8⟩ := open_Engine h_a
  have hm9 := rd_max hu2
  have hm10 := rd_max hu4
  have hm11 := rd_max hu6
  have hm12 := rd_max hu8
  obtain ⟨u13, u15, u17, u19, rfl, hu14, hu16, hu18, hu20⟩ := open_Engine h_b
  have hm21 := rd_max hu14
  have hm22 := rd_max hu16
  have hm23 := rd_max hu18
  have hm24 := rd_max hu20
  refine enter 167 Try.func14 rfl rfl rfl ?_
  refine C_seq ?_
  refine C_reg ?_
  refine li rfl (D_box rfl rfl rfl rfl rfl fun g25 => ?_)
  refine li rfl (D_box rfl rfl rfl rfl rfl fun g26 => ?_)
  refine p1 rfl ?_
  refine D_end ?_
  refine x_then ?_
  refine D_H ([bx g26 [u13, u15, (.int .i64 b.Clock), u17, (.bool b.Halted), u19], bx g25 [u1, u3, (.int .i64 a.Clock), u5, (.bool a.Halted), u7]]) rfl ?_
  refine C_seq ?_
  refine C_seq ?_
  refine C_reg ?_
  refine q1 rfl (D_fb f_49_0 rfl rfl (q := 0) rfl) ?_
  refine q1 rfl (lb 1 o_44 rfl rfl rfl rfl) ?_
  refine q1 rfl (D_len s_44 rfl rfl (rd_sl hu2)) ?_
  refine q1 rfl (D_fb f_49_0 rfl rfl (q := 0) rfl) ?_
  refine q1 rfl (lb 0 o_44 rfl rfl rfl rfl) ?_
  refine q1 rfl (D_len s_44 rfl rfl (rd_sl hu14)) ?_
  refine p1 rfl <| p1 rfl ?_
  refine gs 16 rfl rfl (fun h27 => ?_) (fun h27 => ?_)
  · have pr27 : (((a.Rules.length : Nat) : Int) : Int) ≠ ((b.Rules.length : Nat) : Int) := bne_iff_ne.1 h27
    refine n1 rfl ?_
    refine n1 rfl ?_
    refine n1 rfl ?_
    refine n1 rfl ?_
    refine n1 rfl ?_
    refine n1 rfl ?_
    refine n1 rfl ?_
    refine p1 rfl <| p1 rfl ?_
    refine n1 rfl ?_
    refine n1 rfl ?_
    refine n1 rfl ?_
    refine n1 rfl ?_
    refine n1 rfl ?_
    refine n1 rfl ?_
    refine n1 rfl ?_
    refine p1 rfl <| p1 rfl ?_
    refine n1 rfl ?_
    refine n1 rfl ?_
    refine n1 rfl ?_
    refine n1 rfl ?_
    refine n1 rfl ?_
    refine n1 rfl ?_
    refine n1 rfl ?_
    refine p1 rfl <| p1 rfl ?_
    refine n1 rfl ?_
    refine n1 rfl ?_
    refine n1 rfl ?_
    refine n1 rfl ?_
    refine n1 rfl ?_
    refine p1 rfl <| p1 rfl ?_
    refine n1 rfl ?_
    refine n1 rfl ?_
    refine n1 rfl ?_
    refine n1 rfl ?_
    refine n1 rfl ?_
    refine p1 rfl ?_
    refine D_end ?_
    refine x_then ?_
    refine D_weak [(2, (.pointer (some ⟨g25, 0, none⟩))), (3, (.pointer (some ⟨g26, 0, none⟩))), (56, (.bool true))] ⟨rfl, rfl, rfl, trivial⟩ ?_
    refine C_t rfl ?_
    refine C_seq ?_
    refine C_reg ?_
    refine p1 rfl ?_
    refine D_end ?_
    refine x_then ?_
    refine C_ret ?_
    refine x_then_ret ?_
    refine R_1 rfl rfl fun w' hs => ⟨congrArg (fun z => Ending.returned (Value.bool z)) ?_, hs.bel⟩
    show (false : Bool) = decide (a = b)
    simp; intro e; subst e; simp_all
  · have pr27 : (((a.Rules.length : Nat) : Int) : Int) = ((b.Rules.length : Nat) : Int) := eq_of_bne_f h27
    refine q1 rfl (D_fb f_49_1 rfl rfl (q := 1) rfl) ?_
    refine q1 rfl (lb 1 o_45 rfl rfl rfl rfl) ?_
    refine q1 rfl (D_len s_45 rfl rfl (rd_sl hu4)) ?_
    refine q1 rfl (D_fb f_49_1 rfl rfl (q := 1) rfl) ?_
    refine q1 rfl (lb 0 o_45 rfl rfl rfl rfl) ?_
    refine q1 rfl (D_len s_45 rfl rfl (rd_sl hu16)) ?_
    refine p1 rfl <| p1 rfl <| p1 rfl ?_
    refine gs 25 rfl rfl (fun h28 => ?_) (fun h28 => ?_)
    · have pr28 : (((a.Memory.length : Nat) : Int) : Int) ≠ ((b.Memory.length : Nat) : Int) := bne_iff_ne.1 h28
      refine n1 rfl ?_
      refine n1 rfl ?_
      refine n1 rfl ?_
      refine n1 rfl ?_
      refine n1 rfl ?_
      refine n1 rfl ?_
      refine n1 rfl ?_
      refine p1 rfl <| p1 rfl ?_
      refine n1 rfl ?_
      refine n1 rfl ?_
      refine n1 rfl ?_
      refine n1 rfl ?_
      refine n1 rfl ?_
      refine n1 rfl ?_
      refine n1 rfl ?_
      refine p1 rfl <| p1 rfl ?_
      refine n1 rfl ?_
      refine n1 rfl ?_
      refine n1 rfl ?_
      refine n1 rfl ?_
      refine n1 rfl ?_
      refine p1 rfl <| p1 rfl ?_
      refine n1 rfl ?_
      refine n1 rfl ?_
      refine n1 rfl ?_
      refine n1 rfl ?_
      refine n1 rfl ?_
      refine p1 rfl ?_
      refine D_end ?_
      refine x_then ?_
      refine D_weak [(2, (.pointer (some ⟨g25, 0, none⟩))), (3, (.pointer (some ⟨g26, 0, none⟩))), (56, (.bool true))] ⟨rfl, rfl, rfl, trivial⟩ ?_
      refine C_t rfl ?_
      refine C_seq ?_
      refine C_reg ?_
      refine p1 rfl ?_
      refine D_end ?_
      refine x_then ?_
      refine C_ret ?_
      refine x_then_ret ?_
      refine R_1 rfl rfl fun w' hs => ⟨congrArg (fun z => Ending.returned (Value.bool z)) ?_, hs.bel⟩
      show (false : Bool) = decide (a = b)
      simp; intro e; subst e; simp_all
    · have pr28 : (((a.Memory.length : Nat) : Int) : Int) = ((b.Memory.length : Nat) : Int) := eq_of_bne_f h28
      refine q1 rfl (D_fb f_49_3 rfl rfl (q := 3) rfl) ?_
      refine q1 rfl (lb 1 o_46 rfl rfl rfl rfl) ?_
      refine q1 rfl (D_len s_46 rfl rfl (rd_sl hu6)) ?_
      refine q1 rfl (D_fb f_49_3 rfl rfl (q := 3) rfl) ?_
      refine q1 rfl (lb 0 o_46 rfl rfl rfl rfl) ?_
      refine q1 rfl (D_len s_46 rfl rfl (rd_sl hu18)) ?_
      refine p1 rfl <| p1 rfl <| p1 rfl ?_
      refine gs 34 rfl rfl (fun h29 => ?_) (fun h29 => ?_)
      · have pr29 : (((a.Fired.length : Nat) : Int) : Int) ≠ ((b.Fired.length : Nat) : Int) := bne_iff_ne.1 h29
        refine n1 rfl ?_
        refine n1 rfl ?_
        refine n1 rfl ?_
        refine n1 rfl ?_
        refine n1 rfl ?_
        refine n1 rfl ?_
        refine n1 rfl ?_
        refine p1 rfl <| p1 rfl ?_
        refine n1 rfl ?_
        refine n1 rfl ?_
        refine n1 rfl ?_
        refine n1 rfl ?_
        refine n1 rfl ?_
        refine p1 rfl <| p1 rfl ?_
        refine n1 rfl ?_
        refine n1 rfl ?_
        refine n1 rfl ?_
        refine n1 rfl ?_
        refine n1 rfl ?_
        refine p1 rfl ?_
        refine D_end ?_
        refine x_then ?_
        refine D_weak [(2, (.pointer (some ⟨g25, 0, none⟩))), (3, (.pointer (some ⟨g26, 0, none⟩))), (56, (.bool true))] ⟨rfl, rfl, rfl, trivial⟩ ?_
        refine C_t rfl ?_
        refine C_seq ?_
        refine C_reg ?_
        refine p1 rfl ?_
        refine D_end ?_
        refine x_then ?_
        refine C_ret ?_
        refine x_then_ret ?_
        refine R_1 rfl rfl fun w' hs => ⟨congrArg (fun z => Ending.returned (Value.bool z)) ?_, hs.bel⟩
        show (false : Bool) = decide (a = b)
        simp; intro e; subst e; simp_all
      · have pr29 : (((a.Fired.length : Nat) : Int) : Int) = ((b.Fired.length : Nat) : Int) := eq_of_bne_f h29
        refine q1 rfl (D_fb f_49_5 rfl rfl (q := 5) rfl) ?_
        refine q1 rfl (lb 1 o_47 rfl rfl rfl rfl) ?_
        refine q1 rfl (D_len s_47 rfl rfl (rd_sl hu8)) ?_
        refine q1 rfl (D_fb f_49_5 rfl rfl (q := 5) rfl) ?_
        refine q1 rfl (lb 0 o_47 rfl rfl rfl rfl) ?_
        refine q1 rfl (D_len s_47 rfl rfl (rd_sl hu20)) ?_
        refine p1 rfl <| p1 rfl <| p1 rfl ?_
        refine gs 43 rfl rfl (fun h30 => ?_) (fun h30 => ?_)
        · have pr30 : (((a.Log.length : Nat) : Int) : Int) ≠ ((b.Log.length : Nat) : Int) := bne_iff_ne.1 h30
          refine n1 rfl ?_
          refine n1 rfl ?_
          refine n1 rfl ?_
          refine n1 rfl ?_
          refine n1 rfl ?_
          refine p1 rfl <| p1 rfl ?_
          refine n1 rfl ?_
          refine n1 rfl ?_
          refine n1 rfl ?_
          refine n1 rfl ?_
          refine n1 rfl ?_
          refine p1 rfl ?_
          refine D_end ?_
          refine x_then ?_
          refine D_weak [(2, (.pointer (some ⟨g25, 0, none⟩))), (3, (.pointer (some ⟨g26, 0, none⟩))), (56, (.bool true))] ⟨rfl, rfl, rfl, trivial⟩ ?_
          refine C_t rfl ?_
          refine C_seq ?_
          refine C_reg ?_
          refine p1 rfl ?_
          refine D_end ?_
          refine x_then ?_
          refine C_ret ?_
          refine x_then_ret ?_
          refine R_1 rfl rfl fun w' hs => ⟨congrArg (fun z => Ending.returned (Value.bool z)) ?_, hs.bel⟩
          show (false : Bool) = decide (a = b)
          simp; intro e; subst e; simp_all
        · have pr30 : (((a.Log.length : Nat) : Int) : Int) = ((b.Log.length : Nat) : Int) := eq_of_bne_f h30
          refine q1 rfl (D_fb f_49_2 rfl rfl (q := 2) rfl) ?_
          refine q1 rfl (lb 1 o_3 rfl rfl rfl rfl) ?_
          refine q1 rfl (D_fb f_49_2 rfl rfl (q := 2) rfl) ?_
          refine q1 rfl (lb 0 o_3 rfl rfl rfl rfl) ?_
          refine p1 rfl <| p1 rfl <| p1 rfl ?_
          refine gs 50 rfl rfl (fun h31 => ?_) (fun h31 => ?_)
          · have pr31 : (a.Clock : Int) ≠ b.Clock := bne_iff_ne.1 h31
            refine n1 rfl ?_
            refine n1 rfl ?_
            refine n1 rfl ?_
            refine n1 rfl ?_
            refine n1 rfl ?_
            refine p1 rfl ?_
            refine D_end ?_
            refine x_then ?_
            refine D_weak [(2, (.pointer (some ⟨g25, 0, none⟩))), (3, (.pointer (some ⟨g26, 0, none⟩))), (56, (.bool true))] ⟨rfl, rfl, rfl, trivial⟩ ?_
            refine C_t rfl ?_
            refine C_seq ?_
            refine C_reg ?_
            refine p1 rfl ?_
            refine D_end ?_
            refine x_then ?_
            refine C_ret ?_
            refine x_then_ret ?_
            refine R_1 rfl rfl fun w' hs => ⟨congrArg (fun z => Ending.returned (Value.bool z)) ?_, hs.bel⟩
            show (false : Bool) = decide (a = b)
            simp; intro e; subst e; simp_all
          · have pr31 : (a.Clock : Int) = b.Clock := eq_of_bne_f h31
            refine q1 rfl (D_fb f_49_4 rfl rfl (q := 4) rfl) ?_
            refine q1 rfl (lb 1 o_4 rfl rfl rfl rfl) ?_
            refine q1 rfl (D_fb f_49_4 rfl rfl (q := 4) rfl) ?_
            refine q1 rfl (lb 0 o_4 rfl rfl rfl rfl) ?_
            refine q1 rfl (D_neB ub_4 rfl rfl rfl) ?_
            refine p1 rfl ?_
            refine D_end ?_
            refine x_then ?_
            refine D_weak [(2, (.pointer (some ⟨g25, 0, none⟩))), (3, (.pointer (some ⟨g26, 0, none⟩))), (56, (.bool (!(a.Halted == b.Halted))))] ⟨rfl, rfl, rfl, trivial⟩ ?_
            refine C_if _ rfl (fun h32 => ?_) (fun h32 => ?_)
            · refine C_seq ?_
              refine C_reg ?_
              refine p1 rfl ?_
              refine D_end ?_
              refine x_then ?_
              refine C_ret ?_
              refine x_then_ret ?_
              refine R_1 rfl rfl fun w' hs => ⟨congrArg (fun z => Ending.returned (Value.bool z)) ?_, hs.bel⟩
              show (false : Bool) = decide (a = b)
              simp; intro e; subst e; simp_all
            · have pr32 : a.Halted = b.Halted := beq_of_not h32
              refine C_skip ?_
              refine x_then ?_
              refine C_seq ?_
              refine C_seq ?_
              refine C_reg ?_
              refine p1 rfl ?_
              refine D_end ?_
              refine x_then ?_
              refine C_block ?_
              refine C_loop (fun m_ ac w' => ∃ (k : Nat), (k ≤ a.Rules.length) ∧ (∀ i, i < k → a.Rules[i]? = b.Rules[i]?) ∧ m_ = a.Rules.length - k ∧ Fits ac 167 [(2, (.pointer (some ⟨g25, 0, none⟩))), (3, (.pointer (some ⟨g26, 0, none⟩))), (5, (.int .i64 ((k : Nat) : Int)))] ∧ St w ([bx g26 [u13, u15, (.int .i64 b.Clock), u17, (.bool b.Halted), u19], bx g25 [u1, u3, (.int .i64 a.Clock), u5, (.bool a.Halted), u7]]) w') ?_ ?_
              · refine fun ac w' hf hs => ⟨_, 0, ?_, ?_, rfl, hf.weak ⟨rfl, rfl, rfl, trivial⟩, hs⟩
                · first | assumption | omega | simp
                · intro i hi; omega
              · rintro m_ ac w' ⟨k, hk, hi, rfl, hf, hs⟩
                refine D.use ?_ hf hs
                clear hf hs ac w'
                refine C_seq ?_
                refine C_seq ?_
                refine C_reg ?_
                refine p1 rfl ?_
                refine q1 rfl (D_fb f_49_0 rfl rfl (q := 0) rfl) ?_
                refine q1 rfl (lb 1 o_44 rfl rfl rfl rfl) ?_
                refine q1 rfl (D_len s_44 rfl rfl (rd_sl hu2)) ?_
                refine p1 rfl ?_
                refine D_end ?_
                refine x_then ?_
                refine C_if _ rfl (fun h33 => ?_) (fun h33 => ?_)
                · have pr33 : (((k : Nat) : Int) : Int) < ((a.Rules.length : Nat) : Int) := of_decide_eq_true h33
                  refine C_skip ?_
                  refine x_then ?_
                  refine C_seq ?_
                  refine C_block ?_
                  refine C_seq ?_
                  refine C_draw mixed [10, 11] (by kernel_rfl) ?_
                  refine tk 0 rfl (by kernel_rfl) (by kernel_rfl) (by kernel_rfl) rfl (fun _ hs => hs) (D_fb f_49_0 rfl rfl (q := 0) rfl) ?_
                  refine tk 1 rfl (by kernel_rfl) (by kernel_rfl) (by kernel_rfl) rfl (fun _ hs => hs) (lb 1 o_44 rfl rfl rfl rfl) ?_
                  refine tk 2 rfl (by kernel_rfl) (by kernel_rfl) (by kernel_rfl) rfl (fun _ hs => hs) (rp rfl) ?_
                  obtain ⟨x34, hx35⟩ := some_of_lt (l := a.Rules) (i := k) (by omega)
                  obtain ⟨es36, at37, hr38⟩ := rd_elem (n := 4) rfl hu2 hx35
                  obtain ⟨u39, u41, rfl, hu40, hu42⟩ := open_Rule hr38
                  have hm43 := rd_max hu40
                  have hm44 := rd_max hu42
                  refine tk 3 rfl (by kernel_rfl) (by kernel_rfl) (by kernel_rfl) rfl (fun _ hs => hs) (D_ix (l := a.Rules) (j := k) s_44 rfl rfl rfl (fun w' hs => (rd_at hs hu2)) rfl (lt_of_some hx35)) ?_
                  refine tk 4 rfl (by kernel_rfl) (by kernel_rfl) (by kernel_rfl) rfl (fun _ hs => hs) (lra a_66 rfl rfl at37) ?_
                  refine tk 5 rfl (by kernel_rfl) (by kernel_rfl) (by kernel_rfl) rfl (fun _ hs => hs) (D_fb f_49_0 rfl rfl (q := 0) rfl) ?_
                  refine tk 6 rfl (by kernel_rfl) (by kernel_rfl) (by kernel_rfl) rfl (fun _ hs => hs) (lb 0 o_44 rfl rfl rfl rfl) ?_
                  refine tk 7 rfl (by kernel_rfl) (by kernel_rfl) (by kernel_rfl) rfl (fun _ hs => hs) (rp rfl) ?_
                  obtain ⟨x45, hx46⟩ := some_of_lt (l := b.Rules) (i := k) (by omega)
                  obtain ⟨es47, at48, hr49⟩ := rd_elem (n := 4) rfl hu14 hx46
                  obtain ⟨u50, u52, rfl, hu51, hu53⟩ := open_Rule hr49
                  have hm54 := rd_max hu51
                  have hm55 := rd_max hu53
                  refine tk 8 rfl (by kernel_rfl) (by kernel_rfl) (by kernel_rfl) rfl (fun _ hs => hs) (D_ix (l := b.Rules) (j := k) s_44 rfl rfl rfl (fun w' hs => (rd_at hs hu14)) rfl (lt_of_some hx46)) ?_
                  refine tk 9 rfl (by kernel_rfl) (by kernel_rfl) (by kernel_rfl) rfl (fun _ hs => hs) (lra a_66 rfl rfl at48) ?_
                  refine ty 10 rfl (by kernel_rfl) rfl (cv b_31 rfl rfl rfl rfl (fun w' hs => (spec_SameRule w' [(.string x34.Name), (.int .i64 x34.Priority), u39, u41] x34 [(.string x45.Name), (.int .i64 x45.Priority), u50, u52] x45 (rd_at hs hr38) (rd_at hs hr49))) ?_)
                  refine tZ rfl ?_
                  refine ty 11 rfl (by kernel_rfl) rfl (sv rfl rfl (rp rfl) ?_)
                  refine tZ rfl ?_
                  refine tE (by kernel_rfl) ?_
                  refine x_then ?_
                  refine D_weak [(2, (.pointer (some ⟨g25, 0, none⟩))), (3, (.pointer (some ⟨g26, 0, none⟩))), (5, (.int .i64 ((k : Nat) : Int))), (75, (.bool (!(decide (x34 = x45)))))] ⟨rfl, rfl, rfl, rfl, trivial⟩ ?_
                  refine C_if _ rfl (fun h56 => ?_) (fun h56 => ?_)
                  · have h56n : (decide (x34 = x45)) = false := not_t h56
                    refine C_seq ?_
                    refine C_reg ?_
                    refine p1 rfl ?_
                    refine D_end ?_
                    refine x_then ?_
                    refine C_ret ?_
                    refine x_blk_ret ?_
                    refine x_then_ret ?_
                    refine x_then_ret ?_
                    refine x_blk_ret ?_
                    refine x_then_ret ?_
                    refine R_1 rfl rfl fun w' hs => ⟨congrArg (fun z => Ending.returned (Value.bool z)) ?_, hs.bel⟩
                    show (false : Bool) = decide (a = b)
                    simp; intro e; subst e; simp_all
                  · have h56n : (decide (x34 = x45)) = true := not_f h56
                    refine C_skip ?_
                    refine x_blk ?_
                    refine x_then ?_
                    refine C_reg ?_
                    refine p1 rfl ?_
                    refine q1 rfl (D_add rfl rfl rfl (r := ((k + 1 : Nat) : Int)) (by omega) (by omega)) ?_
                    refine p1 rfl ?_
                    refine D_end ?_
                    refine x_then ?_
                    refine fun ac w' hf hs => ⟨_, ?_, k + 1, ?_, ?_, rfl, hf.weak ⟨rfl, rfl, rfl, trivial⟩, hs⟩
                    · omega
                    · first | assumption | omega | simp
                    · refine idx_step hi (by assumption) (by assumption) ?_; first | (simp_all; done) | (apply Fact.mk_eq <;> simp_all)
                · have pr33 : ¬ (((k : Nat) : Int) : Int) < ((a.Rules.length : Nat) : Int) := of_decide_eq_false h33
                  refine C_exit ?_
                  refine x_then_exit ?_
                  refine x_then_exit ?_
                  refine x_blk_eq ?_
                  refine x_then ?_
                  refine C_seq ?_
                  refine C_seq ?_
                  refine C_reg ?_
                  refine p1 rfl ?_
                  refine D_end ?_
                  refine x_then ?_
                  refine C_block ?_
                  refine C_loop (fun m_ ac w' => ∃ (m : Nat), (m ≤ a.Memory.length) ∧ (∀ i, i < m → a.Memory[i]? = b.Memory[i]?) ∧ m_ = a.Memory.length - m ∧ Fits ac 167 [(2, (.pointer (some ⟨g25, 0, none⟩))), (3, (.pointer (some ⟨g26, 0, none⟩))), (6, (.int .i64 ((m : Nat) : Int)))] ∧ St w ([bx g26 [u13, u15, (.int .i64 b.Clock), u17, (.bool b.Halted), u19], bx g25 [u1, u3, (.int .i64 a.Clock), u5, (.bool a.Halted), u7]]) w') ?_ ?_
                  · refine fun ac w' hf hs => ⟨_, 0, ?_, ?_, rfl, hf.weak ⟨rfl, rfl, rfl, trivial⟩, hs⟩
                    · first | assumption | omega | simp
                    · intro i hi; omega
                  · rintro m_ ac w' ⟨m, hm, hj, rfl, hf, hs⟩
                    refine D.use ?_ hf hs
                    clear hf hs ac w'
                    refine C_seq ?_
                    refine C_seq ?_
                    refine C_reg ?_
                    refine p1 rfl ?_
                    refine q1 rfl (D_fb f_49_1 rfl rfl (q := 1) rfl) ?_
                    refine q1 rfl (lb 1 o_45 rfl rfl rfl rfl) ?_
                    refine q1 rfl (D_len s_45 rfl rfl (rd_sl hu4)) ?_
                    refine p1 rfl ?_
                    refine D_end ?_
                    refine x_then ?_
                    refine C_if _ rfl (fun h57 => ?_) (fun h57 => ?_)
                    · have pr57 : (((m : Nat) : Int) : Int) < ((a.Memory.length : Nat) : Int) := of_decide_eq_true h57
                      refine C_skip ?_
                      refine x_then ?_
                      refine C_seq ?_
                      refine C_block ?_
                      refine C_seq ?_
                      refine C_draw mixed [26, 27, 28] (by kernel_rfl) ?_
                      refine tk 0 rfl (by kernel_rfl) (by kernel_rfl) (by kernel_rfl) rfl (fun _ hs => hs) (D_fb f_49_1 rfl rfl (q := 1) rfl) ?_
                      refine tk 1 rfl (by kernel_rfl) (by kernel_rfl) (by kernel_rfl) rfl (fun _ hs => hs) (lb 1 o_45 rfl rfl rfl rfl) ?_
                      refine tk 2 rfl (by kernel_rfl) (by kernel_rfl) (by kernel_rfl) rfl (fun _ hs => hs) (rp rfl) ?_
                      obtain ⟨x58, hx59⟩ := some_of_lt (l := a.Memory) (i := m) (by omega)
                      obtain ⟨es60, at61, hr62⟩ := rd_elem (n := 3) rfl hu4 hx59
                      obtain ⟨u63, rfl, hu64⟩ := open_Stamp hr62
                      have hm65 := rd_max hu64
                      have hb66 := sub_Stamp_Fact hr62
                      refine tk 3 rfl (by kernel_rfl) (by kernel_rfl) (by kernel_rfl) rfl (fun _ hs => hs) (D_ix (l := a.Memory) (j := m) s_45 rfl rfl rfl (fun w' hs => (rd_at hs hu4)) rfl (lt_of_some hx59)) ?_
                      refine tk 4 rfl (by kernel_rfl) (by kernel_rfl) (by kernel_rfl) rfl (fun _ hs => hs) (D_fa f_68_1 rfl rfl) ?_
                      refine tk 5 rfl (by kernel_rfl) (by kernel_rfl) (by kernel_rfl) rfl (fun _ hs => hs) (lr o_3 rfl rfl at61 rfl) ?_
                      refine tk 6 rfl (by kernel_rfl) (by kernel_rfl) (by kernel_rfl) rfl (fun _ hs => hs) (D_fb f_49_1 rfl rfl (q := 1) rfl) ?_
                      refine tk 7 rfl (by kernel_rfl) (by kernel_rfl) (by kernel_rfl) rfl (fun _ hs => hs) (lb 0 o_45 rfl rfl rfl rfl) ?_
                      refine tk 8 rfl (by kernel_rfl) (by kernel_rfl) (by kernel_rfl) rfl (fun _ hs => hs) (rp rfl) ?_
                      obtain ⟨x67, hx68⟩ := some_of_lt (l := b.Memory) (i := m) (by omega)
                      obtain ⟨es69, at70, hr71⟩ := rd_elem (n := 3) rfl hu16 hx68
                      obtain ⟨u72, rfl, hu73⟩ := open_Stamp hr71
                      have hm74 := rd_max hu73
                      have hb75 := sub_Stamp_Fact hr71
                      refine tk 9 rfl (by kernel_rfl) (by kernel_rfl) (by kernel_rfl) rfl (fun _ hs => hs) (D_ix (l := b.Memory) (j := m) s_45 rfl rfl rfl (fun w' hs => (rd_at hs hu16)) rfl (lt_of_some hx68)) ?_
                      refine tk 10 rfl (by kernel_rfl) (by kernel_rfl) (by kernel_rfl) rfl (fun _ hs => hs) (D_fa f_68_1 rfl rfl) ?_
                      refine tk 11 rfl (by kernel_rfl) (by kernel_rfl) (by kernel_rfl) rfl (fun _ hs => hs) (lr o_3 rfl rfl at70 rfl) ?_
                      refine tk 12 rfl (by kernel_rfl) (by kernel_rfl) (by kernel_rfl) rfl (fun _ hs => hs) (rp rfl) ?_
                      refine tk 13 rfl (by kernel_rfl) (by kernel_rfl) (by kernel_rfl) rfl (fun _ hs => hs) (rp rfl) ?_
                      refine gs 96 rfl rfl (fun h76 => ?_) (fun h76 => ?_)
                      · have pr76 : (x58.Time : Int) ≠ x67.Time := bne_iff_ne.1 h76
                        refine tn 14 rfl (by kernel_rfl) (by kernel_rfl) (by kernel_rfl) rfl rfl rfl (fun _ hs => hs) ?_
                        refine tn 15 rfl (by kernel_rfl) (by kernel_rfl) (by kernel_rfl) rfl rfl rfl (fun _ hs => hs) ?_
                        refine tn 16 rfl (by kernel_rfl) (by kernel_rfl) (by kernel_rfl) rfl rfl rfl (fun _ hs => hs) ?_
                        refine tn 17 rfl (by kernel_rfl) (by kernel_rfl) (by kernel_rfl) rfl rfl rfl (fun _ hs => hs) ?_
                        refine tn 18 rfl (by kernel_rfl) (by kernel_rfl) (by kernel_rfl) rfl rfl rfl (fun _ hs => hs) ?_
                        refine tn 19 rfl (by kernel_rfl) (by kernel_rfl) (by kernel_rfl) rfl rfl rfl (fun _ hs => hs) ?_
                        refine tn 20 rfl (by kernel_rfl) (by kernel_rfl) (by kernel_rfl) rfl rfl rfl (fun _ hs => hs) ?_
                        refine tn 21 rfl (by kernel_rfl) (by kernel_rfl) (by kernel_rfl) rfl rfl rfl (fun _ hs => hs) ?_
                        refine tn 22 rfl (by kernel_rfl) (by kernel_rfl) (by kernel_rfl) rfl rfl rfl (fun _ hs => hs) ?_
                        refine tn 23 rfl (by kernel_rfl) (by kernel_rfl) (by kernel_rfl) rfl rfl rfl (fun _ hs => hs) ?_
                        refine tn 24 rfl (by kernel_rfl) (by kernel_rfl) (by kernel_rfl) rfl rfl rfl (fun _ hs => hs) ?_
                        refine tn 25 rfl (by kernel_rfl) (by kernel_rfl) (by kernel_rfl) rfl rfl rfl (fun _ hs => hs) ?_
                        refine tn 26 rfl (by kernel_rfl) (by kernel_rfl) (by kernel_rfl) rfl rfl rfl (fun _ hs => hs) ?_
                        refine tn 27 rfl (by kernel_rfl) (by kernel_rfl) (by kernel_rfl) rfl rfl rfl (fun _ hs => hs) ?_
                        refine ty 28 rfl (by kernel_rfl) rfl (sv rfl rfl (rp rfl) ?_)
                        refine tZ rfl ?_
                        refine tE (by kernel_rfl) ?_
                        refine x_then ?_
                        refine D_weak [(2, (.pointer (some ⟨g25, 0, none⟩))), (3, (.pointer (some ⟨g26, 0, none⟩))), (6, (.int .i64 ((m : Nat) : Int))), (111, (.bool true))] ⟨rfl, rfl, rfl, rfl, trivial⟩ ?_
                        refine C_t rfl ?_
                        refine C_seq ?_
                        refine C_reg ?_
                        refine p1 rfl ?_
                        refine D_end ?_
                        refine x_then ?_
                        refine C_ret ?_
                        refine x_blk_ret ?_
                        refine x_then_ret ?_
                        refine x_then_ret ?_
                        refine x_blk_ret ?_
                        refine x_then_ret ?_
                        refine R_1 rfl rfl fun w' hs => ⟨congrArg (fun z => Ending.returned (Value.bool z)) ?_, hs.bel⟩
                        show (false : Bool) = decide (a = b)
                        simp; intro e; subst e; simp_all
                      · have pr76 : (x58.Time : Int) = x67.Time := eq_of_bne_f h76
                        refine tk 14 rfl (by kernel_rfl) (by kernel_rfl) (by kernel_rfl) rfl (fun _ hs => hs) (D_fb f_49_1 rfl rfl (q := 1) rfl) ?_
                        refine tk 15 rfl (by kernel_rfl) (by kernel_rfl) (by kernel_rfl) rfl (fun _ hs => hs) (lb 1 o_45 rfl rfl rfl rfl) ?_
                        refine tk 16 rfl (by kernel_rfl) (by kernel_rfl) (by kernel_rfl) rfl (fun _ hs => hs) (rp rfl) ?_
                        refine tk 17 rfl (by kernel_rfl) (by kernel_rfl) (by kernel_rfl) rfl (fun _ hs => hs) (D_ix (l := a.Memory) (j := m) s_45 rfl rfl rfl (fun w' hs => (rd_at hs hu4)) rfl (lt_of_some hx59)) ?_
                        refine tk 18 rfl (by kernel_rfl) (by kernel_rfl) (by kernel_rfl) rfl (fun _ hs => hs) (D_fa f_68_0 rfl rfl) ?_
                        refine tk 19 rfl (by kernel_rfl) (by kernel_rfl) (by kernel_rfl) rfl (fun _ hs => hs) (lra a_29 rfl rfl (at_sub (f := 0) (n := 2) at61 rfl)) ?_
                        refine tk 20 rfl (by kernel_rfl) (by kernel_rfl) (by kernel_rfl) rfl (fun _ hs => hs) (D_fb f_49_1 rfl rfl (q := 1) rfl) ?_
                        refine tk 21 rfl (by kernel_rfl) (by kernel_rfl) (by kernel_rfl) rfl (fun _ hs => hs) (lb 0 o_45 rfl rfl rfl rfl) ?_
                        refine tk 22 rfl (by kernel_rfl) (by kernel_rfl) (by kernel_rfl) rfl (fun _ hs => hs) (rp rfl) ?_
                        refine tk 23 rfl (by kernel_rfl) (by kernel_rfl) (by kernel_rfl) rfl (fun _ hs => hs) (D_ix (l := b.Memory) (j := m) s_45 rfl rfl rfl (fun w' hs => (rd_at hs hu16)) rfl (lt_of_some hx68)) ?_
                        refine tk 24 rfl (by kernel_rfl) (by kernel_rfl) (by kernel_rfl) rfl (fun _ hs => hs) (D_fa f_68_0 rfl rfl) ?_
                        refine tk 25 rfl (by kernel_rfl) (by kernel_rfl) (by kernel_rfl) rfl (fun _ hs => hs) (lra a_29 rfl rfl (at_sub (f := 0) (n := 2) at70 rfl)) ?_
                        refine ty 26 rfl (by kernel_rfl) rfl (cv b_32 rfl rfl rfl rfl (fun w' hs => (spec_l2Same w' [(.string x58.Fact.Rel), u63] x58.Fact [(.string x67.Fact.Rel), u72] x67.Fact (rd_at hs hb66) (rd_at hs hb75))) ?_)
                        refine tZ rfl ?_
                        refine ty 27 rfl (by kernel_rfl) rfl (sv rfl rfl (rp rfl) ?_)
                        refine tZ rfl ?_
                        refine ty 28 rfl (by kernel_rfl) rfl (sv rfl rfl (rp rfl) ?_)
                        refine tZ rfl ?_
                        refine tE (by kernel_rfl) ?_
                        refine x_then ?_
                        refine D_weak [(2, (.pointer (some ⟨g25, 0, none⟩))), (3, (.pointer (some ⟨g26, 0, none⟩))), (6, (.int .i64 ((m : Nat) : Int))), (111, (.bool (!(decide (x58.Fact = x67.Fact)))))] ⟨rfl, rfl, rfl, rfl, trivial⟩ ?_
                        refine C_if _ rfl (fun h77 => ?_) (fun h77 => ?_)
                        · have h77n : (decide (x58.Fact = x67.Fact)) = false := not_t h77
                          refine C_seq ?_
                          refine C_reg ?_
                          refine p1 rfl ?_
                          refine D_end ?_
                          refine x_then ?_
                          refine C_ret ?_
                          refine x_blk_ret ?_
                          refine x_then_ret ?_
                          refine x_then_ret ?_
                          refine x_blk_ret ?_
                          refine x_then_ret ?_
                          refine R_1 rfl rfl fun w' hs => ⟨congrArg (fun z => Ending.returned (Value.bool z)) ?_, hs.bel⟩
                          show (false : Bool) = decide (a = b)
                          simp; intro e; subst e; simp_all
                        · have h77n : (decide (x58.Fact = x67.Fact)) = true := not_f h77
                          refine C_skip ?_
                          refine x_blk ?_
                          refine x_then ?_
                          refine C_reg ?_
                          refine p1 rfl ?_
                          refine q1 rfl (D_add rfl rfl rfl (r := ((m + 1 : Nat) : Int)) (by omega) (by omega)) ?_
                          refine p1 rfl ?_
                          refine D_end ?_
                          refine x_then ?_
                          refine fun ac w' hf hs => ⟨_, ?_, m + 1, ?_, ?_, rfl, hf.weak ⟨rfl, rfl, rfl, trivial⟩, hs⟩
                          · omega
                          · first | assumption | omega | simp
                          · refine idx_step hj (by assumption) (by assumption) ?_; first | (simp_all; done) | (apply Stamp.mk_eq <;> simp_all)
                    · have pr57 : ¬ (((m : Nat) : Int) : Int) < ((a.Memory.length : Nat) : Int) := of_decide_eq_false h57
                      refine C_exit ?_
                      refine x_then_exit ?_
                      refine x_then_exit ?_
                      refine x_blk_eq ?_
                      refine x_then ?_
                      refine C_seq ?_
                      refine C_seq ?_
                      refine C_reg ?_
                      refine p1 rfl ?_
                      refine D_end ?_
                      refine x_then ?_
                      refine C_block ?_
                      refine C_loop (fun m_ ac w' => ∃ (p : Nat), (p ≤ a.Fired.length) ∧ (∀ i, i < p → a.Fired[i]? = b.Fired[i]?) ∧ m_ = a.Fired.length - p ∧ Fits ac 167 [(2, (.pointer (some ⟨g25, 0, none⟩))), (3, (.pointer (some ⟨g26, 0, none⟩))), (7, (.int .i64 ((p : Nat) : Int)))] ∧ St w ([bx g26 [u13, u15, (.int .i64 b.Clock), u17, (.bool b.Halted), u19], bx g25 [u1, u3, (.int .i64 a.Clock), u5, (.bool a.Halted), u7]]) w') ?_ ?_
                      · refine fun ac w' hf hs => ⟨_, 0, ?_, ?_, rfl, hf.weak ⟨rfl, rfl, rfl, trivial⟩, hs⟩
                        · first | assumption | omega | simp
                        · intro i hi; omega
                      · rintro m_ ac w' ⟨p, hp, hu, rfl, hf, hs⟩
                        refine D.use ?_ hf hs
                        clear hf hs ac w'
                        refine C_seq ?_
                        refine C_seq ?_
                        refine C_reg ?_
                        refine p1 rfl ?_
                        refine q1 rfl (D_fb f_49_3 rfl rfl (q := 3) rfl) ?_
                        refine q1 rfl (lb 1 o_46 rfl rfl rfl rfl) ?_
                        refine q1 rfl (D_len s_46 rfl rfl (rd_sl hu6)) ?_
                        refine p1 rfl ?_
                        refine D_end ?_
                        refine x_then ?_
                        refine C_if _ rfl (fun h78 => ?_) (fun h78 => ?_)
                        · have pr78 : (((p : Nat) : Int) : Int) < ((a.Fired.length : Nat) : Int) := of_decide_eq_true h78
                          refine C_skip ?_
                          refine x_then ?_
                          refine C_seq ?_
                          refine C_block ?_
                          refine C_seq ?_
                          refine C_draw mixed [26, 27, 28] (by kernel_rfl) ?_
                          refine tk 0 rfl (by kernel_rfl) (by kernel_rfl) (by kernel_rfl) rfl (fun _ hs => hs) (D_fb f_49_3 rfl rfl (q := 3) rfl) ?_
                          refine tk 1 rfl (by kernel_rfl) (by kernel_rfl) (by kernel_rfl) rfl (fun _ hs => hs) (lb 1 o_46 rfl rfl rfl rfl) ?_
                          refine tk 2 rfl (by kernel_rfl) (by kernel_rfl) (by kernel_rfl) rfl (fun _ hs => hs) (rp rfl) ?_
                          obtain ⟨x79, hx80⟩ := some_of_lt (l := a.Fired) (i := p) (by omega)
                          obtain ⟨es81, at82, hr83⟩ := rd_elem (n := 2) rfl hu6 hx80
                          obtain ⟨u84, rfl, hu85⟩ := open_Firing hr83
                          have hm86 := rd_max hu85
                          refine tk 3 rfl (by kernel_rfl) (by kernel_rfl) (by kernel_rfl) rfl (fun _ hs => hs) (D_ix (l := a.Fired) (j := p) s_46 rfl rfl rfl (fun w' hs => (rd_at hs hu6)) rfl (lt_of_some hx80)) ?_
                          refine tk 4 rfl (by kernel_rfl) (by kernel_rfl) (by kernel_rfl) rfl (fun _ hs => hs) (D_fa f_71_0 rfl rfl) ?_
                          refine tk 5 rfl (by kernel_rfl) (by kernel_rfl) (by kernel_rfl) rfl (fun _ hs => hs) (lr o_9 rfl rfl at82 rfl) ?_
                          refine tk 6 rfl (by kernel_rfl) (by kernel_rfl) (by kernel_rfl) rfl (fun _ hs => hs) (D_fb f_49_3 rfl rfl (q := 3) rfl) ?_
                          refine tk 7 rfl (by kernel_rfl) (by kernel_rfl) (by kernel_rfl) rfl (fun _ hs => hs) (lb 0 o_46 rfl rfl rfl rfl) ?_
                          refine tk 8 rfl (by kernel_rfl) (by kernel_rfl) (by kernel_rfl) rfl (fun _ hs => hs) (rp rfl) ?_
                          obtain ⟨x87, hx88⟩ := some_of_lt (l := b.Fired) (i := p) (by omega)
                          obtain ⟨es89, at90, hr91⟩ := rd_elem (n := 2) rfl hu18 hx88
                          obtain ⟨u92, rfl, hu93⟩ := open_Firing hr91
                          have hm94 := rd_max hu93
                          refine tk 9 rfl (by kernel_rfl) (by kernel_rfl) (by kernel_rfl) rfl (fun _ hs => hs) (D_ix (l := b.Fired) (j := p) s_46 rfl rfl rfl (fun w' hs => (rd_at hs hu18)) rfl (lt_of_some hx88)) ?_
                          refine tk 10 rfl (by kernel_rfl) (by kernel_rfl) (by kernel_rfl) rfl (fun _ hs => hs) (D_fa f_71_0 rfl rfl) ?_
                          refine tk 11 rfl (by kernel_rfl) (by kernel_rfl) (by kernel_rfl) rfl (fun _ hs => hs) (lr o_9 rfl rfl at90 rfl) ?_
                          refine tk 12 rfl (by kernel_rfl) (by kernel_rfl) (by kernel_rfl) rfl (fun _ hs => hs) (D_neS rfl rfl rfl) ?_
                          refine tk 13 rfl (by kernel_rfl) (by kernel_rfl) (by kernel_rfl) rfl (fun _ hs => hs) (rp rfl) ?_
                          refine gs 132 rfl rfl (fun h95 => ?_) (fun h95 => ?_)
                          · have pr95 : ¬ (x79.Rule : ByteArray) = x87.Rule := of_decide_eq_false (not_t h95)
                            refine tn 14 rfl (by kernel_rfl) (by kernel_rfl) (by kernel_rfl) rfl rfl rfl (fun _ hs => hs) ?_
                            refine tn 15 rfl (by kernel_rfl) (by kernel_rfl) (by kernel_rfl) rfl rfl rfl (fun _ hs => hs) ?_
                            refine tn 16 rfl (by kernel_rfl) (by kernel_rfl) (by kernel_rfl) rfl rfl rfl (fun _ hs => hs) ?_
                            refine tn 17 rfl (by kernel_rfl) (by kernel_rfl) (by kernel_rfl) rfl rfl rfl (fun _ hs => hs) ?_
                            refine tn 18 rfl (by kernel_rfl) (by kernel_rfl) (by kernel_rfl) rfl rfl rfl (fun _ hs => hs) ?_
                            refine tn 19 rfl (by kernel_rfl) (by kernel_rfl) (by kernel_rfl) rfl rfl rfl (fun _ hs => hs) ?_
                            refine tn 20 rfl (by kernel_rfl) (by kernel_rfl) (by kernel_rfl) rfl rfl rfl (fun _ hs => hs) ?_
                            refine tn 21 rfl (by kernel_rfl) (by kernel_rfl) (by kernel_rfl) rfl rfl rfl (fun _ hs => hs) ?_
                            refine tn 22 rfl (by kernel_rfl) (by kernel_rfl) (by kernel_rfl) rfl rfl rfl (fun _ hs => hs) ?_
                            refine tn 23 rfl (by kernel_rfl) (by kernel_rfl) (by kernel_rfl) rfl rfl rfl (fun _ hs => hs) ?_
                            refine tn 24 rfl (by kernel_rfl) (by kernel_rfl) (by kernel_rfl) rfl rfl rfl (fun _ hs => hs) ?_
                            refine tn 25 rfl (by kernel_rfl) (by kernel_rfl) (by kernel_rfl) rfl rfl rfl (fun _ hs => hs) ?_
                            refine tn 26 rfl (by kernel_rfl) (by kernel_rfl) (by kernel_rfl) rfl rfl rfl (fun _ hs => hs) ?_
                            refine tn 27 rfl (by kernel_rfl) (by kernel_rfl) (by kernel_rfl) rfl rfl rfl (fun _ hs => hs) ?_
                            refine ty 28 rfl (by kernel_rfl) rfl (sv rfl rfl (rp rfl) ?_)
                            refine tZ rfl ?_
                            refine tE (by kernel_rfl) ?_
                            refine x_then ?_
                            refine D_weak [(2, (.pointer (some ⟨g25, 0, none⟩))), (3, (.pointer (some ⟨g26, 0, none⟩))), (7, (.int .i64 ((p : Nat) : Int))), (147, (.bool true))] ⟨rfl, rfl, rfl, rfl, trivial⟩ ?_
                            refine C_t rfl ?_
                            refine C_seq ?_
                            refine C_reg ?_
                            refine p1 rfl ?_
                            refine D_end ?_
                            refine x_then ?_
                            refine C_ret ?_
                            refine x_blk_ret ?_
                            refine x_then_ret ?_
                            refine x_then_ret ?_
                            refine x_blk_ret ?_
                            refine x_then_ret ?_
                            refine R_1 rfl rfl fun w' hs => ⟨congrArg (fun z => Ending.returned (Value.bool z)) ?_, hs.bel⟩
                            show (false : Bool) = decide (a = b)
                            simp; intro e; subst e; simp_all
                          · have pr95 : (x79.Rule : ByteArray) = x87.Rule := of_decide_eq_true (not_f h95)
                            refine tk 14 rfl (by kernel_rfl) (by kernel_rfl) (by kernel_rfl) rfl (fun _ hs => hs) (D_fb f_49_3 rfl rfl (q := 3) rfl) ?_
                            refine tk 15 rfl (by kernel_rfl) (by kernel_rfl) (by kernel_rfl) rfl (fun _ hs => hs) (lb 1 o_46 rfl rfl rfl rfl) ?_
                            refine tk 16 rfl (by kernel_rfl) (by kernel_rfl) (by kernel_rfl) rfl (fun _ hs => hs) (rp rfl) ?_
                            refine tk 17 rfl (by kernel_rfl) (by kernel_rfl) (by kernel_rfl) rfl (fun _ hs => hs) (D_ix (l := a.Fired) (j := p) s_46 rfl rfl rfl (fun w' hs => (rd_at hs hu6)) rfl (lt_of_some hx80)) ?_
                            refine tk 18 rfl (by kernel_rfl) (by kernel_rfl) (by kernel_rfl) rfl (fun _ hs => hs) (D_fa f_71_1 rfl rfl) ?_
                            refine tk 19 rfl (by kernel_rfl) (by kernel_rfl) (by kernel_rfl) rfl (fun _ hs => hs) (lr o_69 rfl rfl at82 rfl) ?_
                            refine tk 20 rfl (by kernel_rfl) (by kernel_rfl) (by kernel_rfl) rfl (fun _ hs => hs) (D_fb f_49_3 rfl rfl (q := 3) rfl) ?_
                            refine tk 21 rfl (by kernel_rfl) (by kernel_rfl) (by kernel_rfl) rfl (fun _ hs => hs) (lb 0 o_46 rfl rfl rfl rfl) ?_
                            refine tk 22 rfl (by kernel_rfl) (by kernel_rfl) (by kernel_rfl) rfl (fun _ hs => hs) (rp rfl) ?_
                            refine tk 23 rfl (by kernel_rfl) (by kernel_rfl) (by kernel_rfl) rfl (fun _ hs => hs) (D_ix (l := b.Fired) (j := p) s_46 rfl rfl rfl (fun w' hs => (rd_at hs hu18)) rfl (lt_of_some hx88)) ?_
                            refine tk 24 rfl (by kernel_rfl) (by kernel_rfl) (by kernel_rfl) rfl (fun _ hs => hs) (D_fa f_71_1 rfl rfl) ?_
                            refine tk 25 rfl (by kernel_rfl) (by kernel_rfl) (by kernel_rfl) rfl (fun _ hs => hs) (lr o_69 rfl rfl at90 rfl) ?_
                            refine ty 26 rfl (by kernel_rfl) rfl (cv b_33 rfl rfl rfl rfl (fun w' hs => (spec_l9SameInts w' u84 x79.Times u92 x87.Times (rd_at hs hu85) (rd_at hs hu93))) ?_)
                            refine tZ rfl ?_
                            refine ty 27 rfl (by kernel_rfl) rfl (sv rfl rfl (rp rfl) ?_)
                            refine tZ rfl ?_
                            refine ty 28 rfl (by kernel_rfl) rfl (sv rfl rfl (rp rfl) ?_)
                            refine tZ rfl ?_
                            refine tE (by kernel_rfl) ?_
                            refine x_then ?_
                            refine D_weak [(2, (.pointer (some ⟨g25, 0, none⟩))), (3, (.pointer (some ⟨g26, 0, none⟩))), (7, (.int .i64 ((p : Nat) : Int))), (147, (.bool (!(decide (x79.Times = x87.Times)))))] ⟨rfl, rfl, rfl, rfl, trivial⟩ ?_
                            refine C_if _ rfl (fun h96 => ?_) (fun h96 => ?_)
                            · have h96n : (decide (x79.Times = x87.Times)) = false := not_t h96
                              refine C_seq ?_
                              refine C_reg ?_
                              refine p1 rfl ?_
                              refine D_end ?_
                              refine x_then ?_
                              refine C_ret ?_
                              refine x_blk_ret ?_
                              refine x_then_ret ?_
                              refine x_then_ret ?_
                              refine x_blk_ret ?_
                              refine x_then_ret ?_
                              refine R_1 rfl rfl fun w' hs => ⟨congrArg (fun z => Ending.returned (Value.bool z)) ?_, hs.bel⟩
                              show (false : Bool) = decide (a = b)
                              simp; intro e; subst e; simp_all
                            · have h96n : (decide (x79.Times = x87.Times)) = true := not_f h96
                              refine C_skip ?_
                              refine x_blk ?_
                              refine x_then ?_
                              refine C_reg ?_
                              refine p1 rfl ?_
                              refine q1 rfl (D_add rfl rfl rfl (r := ((p + 1 : Nat) : Int)) (by omega) (by omega)) ?_
                              refine p1 rfl ?_
                              refine D_end ?_
                              refine x_then ?_
                              refine fun ac w' hf hs => ⟨_, ?_, p + 1, ?_, ?_, rfl, hf.weak ⟨rfl, rfl, rfl, trivial⟩, hs⟩
                              · omega
                              · first | assumption | omega | simp
                              · refine idx_step hu (by assumption) (by assumption) ?_; first | (simp_all; done) | (apply Firing.mk_eq <;> simp_all)
                        · have pr78 : ¬ (((p : Nat) : Int) : Int) < ((a.Fired.length : Nat) : Int) := of_decide_eq_false h78
                          refine C_exit ?_
                          refine x_then_exit ?_
                          refine x_then_exit ?_
                          refine x_blk_eq ?_
                          refine x_then ?_
                          refine C_seq ?_
                          refine C_seq ?_
                          refine C_reg ?_
                          refine p1 rfl ?_
                          refine D_end ?_
                          refine x_then ?_
                          refine C_block ?_
                          refine C_loop (fun m_ ac w' => ∃ (q : Nat), (q ≤ a.Log.length) ∧ (∀ i, i < q → a.Log[i]? = b.Log[i]?) ∧ m_ = a.Log.length - q ∧ Fits ac 167 [(2, (.pointer (some ⟨g25, 0, none⟩))), (3, (.pointer (some ⟨g26, 0, none⟩))), (8, (.int .i64 ((q : Nat) : Int)))] ∧ St w ([bx g26 [u13, u15, (.int .i64 b.Clock), u17, (.bool b.Halted), u19], bx g25 [u1, u3, (.int .i64 a.Clock), u5, (.bool a.Halted), u7]]) w') ?_ ?_
                          · refine fun ac w' hf hs => ⟨_, 0, ?_, ?_, rfl, hf.weak ⟨rfl, rfl, rfl, trivial⟩, hs⟩
                            · first | assumption | omega | simp
                            · intro i hi; omega
                          · rintro m_ ac w' ⟨q, hq, hv, rfl, hf, hs⟩
                            refine D.use ?_ hf hs
                            clear hf hs ac w'
                            refine C_seq ?_
                            refine C_seq ?_
                            refine C_reg ?_
                            refine p1 rfl ?_
                            refine q1 rfl (D_fb f_49_5 rfl rfl (q := 5) rfl) ?_
                            refine q1 rfl (lb 1 o_47 rfl rfl rfl rfl) ?_
                            refine q1 rfl (D_len s_47 rfl rfl (rd_sl hu8)) ?_
                            refine p1 rfl ?_
                            refine D_end ?_
                            refine x_then ?_
                            refine C_if _ rfl (fun h97 => ?_) (fun h97 => ?_)
                            · have pr97 : (((q : Nat) : Int) : Int) < ((a.Log.length : Nat) : Int) := of_decide_eq_true h97
                              refine C_skip ?_
                              refine x_then ?_
                              refine C_seq ?_
                              refine C_block ?_
                              refine C_seq ?_
                              refine C_draw mixed [10, 11] (by kernel_rfl) ?_
                              refine tk 0 rfl (by kernel_rfl) (by kernel_rfl) (by kernel_rfl) rfl (fun _ hs => hs) (D_fb f_49_5 rfl rfl (q := 5) rfl) ?_
                              refine tk 1 rfl (by kernel_rfl) (by kernel_rfl) (by kernel_rfl) rfl (fun _ hs => hs) (lb 1 o_47 rfl rfl rfl rfl) ?_
                              refine tk 2 rfl (by kernel_rfl) (by kernel_rfl) (by kernel_rfl) rfl (fun _ hs => hs) (rp rfl) ?_
                              obtain ⟨x98, hx99⟩ := some_of_lt (l := a.Log) (i := q) (by omega)
                              obtain ⟨es100, at101, hr102⟩ := rd_elem (n := 4) rfl hu8 hx99
                              obtain ⟨u103, rfl, hu104⟩ := open_Event hr102
                              have hm105 := rd_max hu104
                              have hb106 := sub_Event_Fact hr102
                              refine tk 3 rfl (by kernel_rfl) (by kernel_rfl) (by kernel_rfl) rfl (fun _ hs => hs) (D_ix (l := a.Log) (j := q) s_47 rfl rfl rfl (fun w' hs => (rd_at hs hu8)) rfl (lt_of_some hx99)) ?_
                              refine tk 4 rfl (by kernel_rfl) (by kernel_rfl) (by kernel_rfl) rfl (fun _ hs => hs) (lra a_31 rfl rfl at101) ?_
                              refine tk 5 rfl (by kernel_rfl) (by kernel_rfl) (by kernel_rfl) rfl (fun _ hs => hs) (D_fb f_49_5 rfl rfl (q := 5) rfl) ?_
                              refine tk 6 rfl (by kernel_rfl) (by kernel_rfl) (by kernel_rfl) rfl (fun _ hs => hs) (lb 0 o_47 rfl rfl rfl rfl) ?_
                              refine tk 7 rfl (by kernel_rfl) (by kernel_rfl) (by kernel_rfl) rfl (fun _ hs => hs) (rp rfl) ?_
                              obtain ⟨x107, hx108⟩ := some_of_lt (l := b.Log) (i := q) (by omega)
                              obtain ⟨es109, at110, hr111⟩ := rd_elem (n := 4) rfl hu20 hx108
                              obtain ⟨u112, rfl, hu113⟩ := open_Event hr111
                              have hm114 := rd_max hu113
                              have hb115 := sub_Event_Fact hr111
                              refine tk 8 rfl (by kernel_rfl) (by kernel_rfl) (by kernel_rfl) rfl (fun _ hs => hs) (D_ix (l := b.Log) (j := q) s_47 rfl rfl rfl (fun w' hs => (rd_at hs hu20)) rfl (lt_of_some hx108)) ?_
                              refine tk 9 rfl (by kernel_rfl) (by kernel_rfl) (by kernel_rfl) rfl (fun _ hs => hs) (lra a_31 rfl rfl at110) ?_
                              refine ty 10 rfl (by kernel_rfl) rfl (cv b_34 rfl rfl rfl rfl (fun w' hs => (spec_l10SameEvent w' [(.int .i64 x98.Kind), (.string x98.Rule), (.string x98.Fact.Rel), u103] x98 [(.int .i64 x107.Kind), (.string x107.Rule), (.string x107.Fact.Rel), u112] x107 (rd_at hs hr102) (rd_at hs hr111))) ?_)
                              refine tZ rfl ?_
                              refine ty 11 rfl (by kernel_rfl) rfl (sv rfl rfl (rp rfl) ?_)
                              refine tZ rfl ?_
                              refine tE (by kernel_rfl) ?_
                              refine x_then ?_
                              refine D_weak [(2, (.pointer (some ⟨g25, 0, none⟩))), (3, (.pointer (some ⟨g26, 0, none⟩))), (8, (.int .i64 ((q : Nat) : Int))), (166, (.bool (!(decide (x98 = x107)))))] ⟨rfl, rfl, rfl, rfl, trivial⟩ ?_
                              refine C_if _ rfl (fun h116 => ?_) (fun h116 => ?_)
                              · have h116n : (decide (x98 = x107)) = false := not_t h116
                                refine C_seq ?_
                                refine C_reg ?_
                                refine p1 rfl ?_
                                refine D_end ?_
                                refine x_then ?_
                                refine C_ret ?_
                                refine x_blk_ret ?_
                                refine x_then_ret ?_
                                refine x_then_ret ?_
                                refine x_blk_ret ?_
                                refine x_then_ret ?_
                                refine R_1 rfl rfl fun w' hs => ⟨congrArg (fun z => Ending.returned (Value.bool z)) ?_, hs.bel⟩
                                show (false : Bool) = decide (a = b)
                                simp; intro e; subst e; simp_all
                              · have h116n : (decide (x98 = x107)) = true := not_f h116
                                refine C_skip ?_
                                refine x_blk ?_
                                refine x_then ?_
                                refine C_reg ?_
                                refine p1 rfl ?_
                                refine q1 rfl (D_add rfl rfl rfl (r := ((q + 1 : Nat) : Int)) (by omega) (by omega)) ?_
                                refine p1 rfl ?_
                                refine D_end ?_
                                refine x_then ?_
                                refine fun ac w' hf hs => ⟨_, ?_, q + 1, ?_, ?_, rfl, hf.weak ⟨rfl, rfl, rfl, trivial⟩, hs⟩
                                · omega
                                · first | assumption | omega | simp
                                · refine idx_step hv (by assumption) (by assumption) ?_; first | (simp_all; done) | (apply Fact.mk_eq <;> simp_all)
                            · have pr97 : ¬ (((q : Nat) : Int) : Int) < ((a.Log.length : Nat) : Int) := of_decide_eq_false h97
                              refine C_exit ?_
                              refine x_then_exit ?_
                              refine x_then_exit ?_
                              refine x_blk_eq ?_
                              refine x_then ?_
                              refine C_seq ?_
                              refine C_reg ?_
                              refine p1 rfl ?_
                              refine D_end ?_
                              refine x_then ?_
                              refine C_ret ?_
                              refine R_1 rfl rfl fun w' hs => ⟨congrArg (fun z => Ending.returned (Value.bool z)) ?_, hs.bel⟩
                              show (true : Bool) = decide (a = b)
                              simp; exact Engine.mk_eq (eq_of_idx (by omega) (fun i h => hi i (by omega))) (eq_of_idx (by omega) (fun i h => hj i (by omega))) (by simp_all) (eq_of_idx (by omega) (fun i h => hu i (by omega))) (by simp_all) (eq_of_idx (by omega) (fun i h => hv i (by omega)))

theorem laws_FnExactSameEngine (w : World) (c_aA : List Value) (aA : Engine) (c_aB : List Value) (aB : Engine) (h_aA : Gd.rd w c_aA aA) (h_aB : Gd.rd w c_aB aB) (hok : okEngine aA) (hok2 : okEngine aB) : Calls Try.prog 5 [(.agg c_aA.toArray), (.agg c_aB.toArray)].toArray w (Val w (.bool (true))) := by
  obtain ⟨u1, u3, u5, u7, rfl, hu2, hu4, hu6, hu8⟩ := open_Engine h_aA
  have hm9 := rd_max hu2
  have hm10 := rd_max hu4
  have hm11 := rd_max hu6
  have hm12 := rd_max hu8
  obtain ⟨u13, u15, u17, u19, rfl, hu14, hu16, hu18, hu20⟩ := open_Engine h_aB
  have hm21 := rd_max hu14
  have hm22 := rd_max hu16
  have hm23 := rd_max hu18
  have hm24 := rd_max hu20
  refine enter 45 Try.func5 rfl rfl rfl ?_
  refine C_seq ?_
  refine C_reg ?_
  refine li rfl (D_box rfl rfl rfl rfl rfl fun g25 => ?_)
  refine li rfl (D_box rfl rfl rfl rfl rfl fun g26 => ?_)
  refine p1 rfl ?_
  refine D_end ?_
  refine x_then ?_
  refine D_H ([bx g26 [u13, u15, (.int .i64 aB.Clock), u17, (.bool aB.Halted), u19], bx g25 [u1, u3, (.int .i64 aA.Clock), u5, (.bool aA.Halted), u7]]) rfl ?_
  refine C_seq ?_
  refine C_reg ?_
  refine p1 rfl ?_
  refine D_end ?_
  refine x_then ?_
  refine C_seq ?_
  refine C_reg ?_
  refine q1 rfl (lbw 1 a_41 rfl rfl rfl) ?_
  refine p1 rfl ?_
  refine li rfl (cv b_13 rfl rfl rfl rfl (fun w' hs => (laws_szEngine w' [u1, u3, (.int .i64 aA.Clock), u5, (.bool aA.Halted), u7] aA 1048576 (rd_at hs h_aA) (by first | assumption | omega | (unfold szm at *; split at * <;> omega)) (by first | assumption | omega | (unfold szm at *; split at * <;> omega)) (by first | assumption | omega | (unfold szm at *; split at * <;> omega)))) ?_)
  refine p1 rfl ?_
  refine D_end ?_
  refine x_then ?_
  refine C_seq ?_
  refine C_seq ?_
  refine C_reg ?_
  refine p1 rfl <| p1 rfl ?_
  refine D_end ?_
  refine x_then ?_
  refine C_if _ rfl (fun h27 => ?_) (fun h27 => ?_)
  · have pr27 : ((szm (szEngine aA) 1048576) : Int) < 0 := of_decide_eq_true h27
    refine C_seq ?_
    refine C_reg ?_
    refine p1 rfl ?_
    refine D_end ?_
    refine x_then ?_
    refine C_ret ?_
    refine x_then_ret ?_
    refine R_1 rfl rfl fun w' hs => ⟨congrArg (fun z => Ending.returned (Value.bool z)) ?_, hs.bel⟩
    show (true : Bool) = true
    first | rfl | (exfalso; omega) | (exfalso; simp only [mapS_len, sumB_mk, sumR_mk] at *; omega) | exact absurd h27 (by simp [mapS_len])
  · have pr27 : ¬ ((szm (szEngine aA) 1048576) : Int) < 0 := of_decide_eq_false h27
    have pr27z := szm_val (n := (szEngine aA)) (left := 1048576) pr27
    refine C_skip ?_
    refine x_then ?_
    refine C_seq ?_
    refine C_reg ?_
    refine q1 rfl (lbw 0 a_41 rfl rfl rfl) ?_
    refine p1 rfl ?_
    refine li rfl (cv b_13 rfl rfl rfl rfl (fun w' hs => (laws_szEngine w' [u13, u15, (.int .i64 aB.Clock), u17, (.bool aB.Halted), u19] aB (szm (szEngine aA) 1048576) (rd_at hs h_aB) (by first | assumption | omega | (unfold szm at *; split at * <;> omega)) (by first | assumption | omega | (unfold szm at *; split at * <;> omega)) (by first | assumption | omega | (unfold szm at *; split at * <;> omega)))) ?_)
    refine p1 rfl ?_
    refine D_end ?_
    refine x_then ?_
    refine C_seq ?_
    refine C_seq ?_
    refine C_reg ?_
    refine p1 rfl <| p1 rfl ?_
    refine D_end ?_
    refine x_then ?_
    refine C_if _ rfl (fun h28 => ?_) (fun h28 => ?_)
    · have pr28 : ((szm (szEngine aB) (szm (szEngine aA) 1048576)) : Int) < 0 := of_decide_eq_true h28
      refine C_seq ?_
      refine C_reg ?_
      refine p1 rfl ?_
      refine D_end ?_
      refine x_then ?_
      refine D_weak [(4, (.bool true))] ⟨rfl, trivial⟩ ?_
      refine D_sel (H' := []) [false, false] rfl ?_
      refine C_ret ?_
      refine x_then_ret ?_
      refine R_1 rfl rfl fun w' hs => ⟨congrArg (fun z => Ending.returned (Value.bool z)) ?_, hs.bel⟩
      show (true : Bool) = true
      first | rfl | (exfalso; omega) | (exfalso; simp only [mapS_len, sumB_mk, sumR_mk] at *; omega) | exact absurd h28 (by simp [mapS_len])
    · have pr28 : ¬ ((szm (szEngine aB) (szm (szEngine aA) 1048576)) : Int) < 0 := of_decide_eq_false h28
      have pr28z := szm_val (n := (szEngine aB)) (left := (szm (szEngine aA) 1048576)) pr28
      refine C_skip ?_
      refine x_then ?_
      refine C_seq ?_
      refine C_draw mixed [3, 4, 5] (by kernel_rfl) ?_
      refine tk 0 rfl (by kernel_rfl) (by kernel_rfl) (by kernel_rfl) rfl (fun _ hs => hs) (lbw 1 a_41 rfl rfl rfl) ?_
      refine tk 2 rfl (by kernel_rfl) (by kernel_rfl) (by kernel_rfl) rfl (fun _ hs => hs) (lbw 0 a_41 rfl rfl rfl) ?_
      refine ty 1 rfl (by kernel_rfl) rfl (crs rfl b_15 rfl rfl rfl rfl (fun w' hs => (laws_toEngine w' [u1, u3, (.int .i64 aA.Clock), u5, (.bool aA.Halted), u7] aA (rd_at hs h_aA) (by first | assumption | omega | (unfold szm at *; split at * <;> omega)))) fun cs29 => ?_)
      refine D_pre (fun w' hs => shape_Engine (rd_own (k := 0) hs rfl)) ?_
      rintro ⟨v30, v31, v32, v33, rfl, ho34, ho35, ho36, ho37⟩
      refine tS (fun _ hs => hs.pk [1, 2] rfl rfl) ?_
      refine ty 3 rfl (by kernel_rfl) rfl (crs rfl b_15 rfl rfl rfl rfl (fun w' hs => (laws_toEngine w' [u13, u15, (.int .i64 aB.Clock), u17, (.bool aB.Halted), u19] aB (rd_at hs h_aB) (by first | assumption | omega | (unfold szm at *; split at * <;> omega)))) fun cs38 => ?_)
      refine D_pre (fun w' hs => shape_Engine (rd_own (k := 0) hs rfl)) ?_
      rintro ⟨v39, v40, v41, v42, rfl, ho43, ho44, ho45, ho46⟩
      refine tZ rfl ?_
      refine ty 4 rfl (by kernel_rfl) rfl (cv b_14 rfl rfl rfl rfl (fun w' hs => (spec_SameEngine w' [v30, v31, (.int .i64 aA.Clock), v32, (.bool aA.Halted), v33] aA [v39, v40, (.int .i64 aB.Clock), v41, (.bool aB.Halted), v42] aB (rd_own (k := 1) hs rfl) (rd_own (k := 0) hs rfl))) ?_)
      refine tZ rfl ?_
      refine ty 5 rfl (by kernel_rfl) rfl (sv rfl rfl (rp rfl) ?_)
      refine tZ rfl ?_
      refine tE (by kernel_rfl) ?_
      refine x_then ?_
      refine D_weak [(2, (.pointer (some ⟨g25, 0, none⟩))), (3, (.pointer (some ⟨g26, 0, none⟩))), (6, (.bool (decide (aA = aB))))] ⟨rfl, rfl, rfl, trivial⟩ ?_
      refine D_sel (H' := [bx g26 [u13, u15, (.int .i64 aB.Clock), u17, (.bool aB.Halted), u19], bx g25 [u1, u3, (.int .i64 aA.Clock), u5, (.bool aA.Halted), u7]]) [false, false, true, true] rfl ?_
      refine C_seq ?_
      refine C_reg ?_
      refine q1 rfl (lbw 1 a_41 rfl rfl rfl) ?_
      refine li rfl (crs rfl b_15 rfl rfl rfl rfl (fun w' hs => (laws_toEngine w' [u1, u3, (.int .i64 aA.Clock), u5, (.bool aA.Halted), u7] aA (rd_at hs h_aA) (by first | assumption | omega | (unfold szm at *; split at * <;> omega)))) fun cs47 => ?_)
      refine D_pre (fun w' hs => shape_Engine (rd_own (k := 0) hs rfl)) ?_
      rintro ⟨v48, v49, v50, v51, rfl, ho52, ho53, ho54, ho55⟩
      refine li rfl (D_alloc y_49 rfl rfl rfl rfl fun g56 => ?_)
      refine li rfl (D_stb (vs := [v48, v49, (.int .i64 aA.Clock), v50, (.bool aA.Halted), v51]) (cs' := [v48, v49, (.int .i64 aA.Clock), v50, (.bool aA.Halted), v51]) 0 z_49 rfl rfl rfl rfl rfl rfl (ocons ho52 (ocons ho53 (ocons rfl (ocons ho54 (ocons rfl (ocons ho55 onil)))))) (by simp) rfl ?_)
      refine D_end ?_
      refine x_then ?_
      refine D_H ([bx g56 [v48, v49, (.int .i64 aA.Clock), v50, (.bool aA.Halted), v51], ov [v48, v49, (.int .i64 aA.Clock), v50, (.bool aA.Halted), v51] (aA : Engine), bx g26 [u13, u15, (.int .i64 aB.Clock), u17, (.bool aB.Halted), u19], bx g25 [u1, u3, (.int .i64 aA.Clock), u5, (.bool aA.Halted), u7]]) rfl ?_
      refine C_seq ?_
      refine C_reg ?_
      refine q1 rfl (lbw 2 a_41 rfl rfl rfl) ?_
      refine li rfl (crs rfl b_15 rfl rfl rfl rfl (fun w' hs => (laws_toEngine w' [u13, u15, (.int .i64 aB.Clock), u17, (.bool aB.Halted), u19] aB (rd_at hs h_aB) (by first | assumption | omega | (unfold szm at *; split at * <;> omega)))) fun cs57 => ?_)
      refine D_pre (fun w' hs => shape_Engine (rd_own (k := 0) hs rfl)) ?_
      rintro ⟨v58, v59, v60, v61, rfl, ho62, ho63, ho64, ho65⟩
      refine li rfl (D_alloc y_49 rfl rfl rfl rfl fun g66 => ?_)
      refine li rfl (D_stb (vs := [v58, v59, (.int .i64 aB.Clock), v60, (.bool aB.Halted), v61]) (cs' := [v58, v59, (.int .i64 aB.Clock), v60, (.bool aB.Halted), v61]) 0 z_49 rfl rfl rfl rfl rfl rfl (ocons ho62 (ocons ho63 (ocons rfl (ocons ho64 (ocons rfl (ocons ho65 onil)))))) (by simp) rfl ?_)
      refine D_end ?_
      refine x_then ?_
      refine D_H ([bx g66 [v58, v59, (.int .i64 aB.Clock), v60, (.bool aB.Halted), v61], ov [v58, v59, (.int .i64 aB.Clock), v60, (.bool aB.Halted), v61] (aB : Engine), bx g56 [v48, v49, (.int .i64 aA.Clock), v50, (.bool aA.Halted), v51], ov [v48, v49, (.int .i64 aA.Clock), v50, (.bool aA.Halted), v51] (aA : Engine), bx g26 [u13, u15, (.int .i64 aB.Clock), u17, (.bool aB.Halted), u19], bx g25 [u1, u3, (.int .i64 aA.Clock), u5, (.bool aA.Halted), u7]]) rfl ?_
      refine C_seq ?_
      refine C_reg ?_
      refine q1 rfl (lbw 2 a_49 rfl rfl rfl) ?_
      refine q1 rfl (lbw 0 a_49 rfl rfl rfl) ?_
      refine li rfl (cv b_16 rfl rfl rfl rfl (fun w' hs => (impl_SameEngine w' [v48, v49, (.int .i64 aA.Clock), v50, (.bool aA.Halted), v51] aA [v58, v59, (.int .i64 aB.Clock), v60, (.bool aB.Halted), v61] aB (rd_own (k := 3) hs rfl) (rd_own (k := 1) hs rfl))) ?_)
      refine p1 rfl ?_
      refine D_end ?_
      refine x_then ?_
      refine C_seq ?_
      refine C_seq ?_
      refine C_reg ?_
      refine p1 rfl <| p1 rfl ?_
      refine q1 rfl (D_neB ub_4 rfl rfl rfl) ?_
      refine D_end ?_
      refine x_then ?_
      refine C_if _ rfl (fun h67 => ?_) (fun h67 => ?_)
      · refine C_seq ?_
        refine C_reg ?_
        refine p1 rfl ?_
        refine D_end ?_
        refine x_then ?_
        refine D_weak [(4, (.bool false))] ⟨rfl, trivial⟩ ?_
        refine D_sel (H' := []) [false, false, false, false, false, false] rfl ?_
        refine C_ret ?_
        refine x_then_ret ?_
        refine R_1 rfl rfl fun w' hs => ⟨congrArg (fun z => Ending.returned (Value.bool z)) ?_, hs.bel⟩
        show (false : Bool) = true
        first | rfl | (exfalso; omega) | (exfalso; simp only [mapS_len, sumB_mk, sumR_mk] at *; omega) | exact absurd h67 (by simp [mapS_len])
      · have pr67 : (decide (aA = aB)) = (decide (aA = aB)) := beq_of_not h67
        refine C_skip ?_
        refine x_then ?_
        refine C_seq ?_
        refine C_seq ?_
        refine C_draw mixed [3, 4] (by kernel_rfl) ?_
        refine tk 0 rfl (by kernel_rfl) (by kernel_rfl) (by kernel_rfl) rfl (fun _ hs => hs) (lbw 2 a_49 rfl rfl rfl) ?_
        refine tk 1 rfl (by kernel_rfl) (by kernel_rfl) (by kernel_rfl) rfl (fun _ hs => hs) (lbw 5 a_41 rfl rfl rfl) ?_
        refine ty 2 rfl (by kernel_rfl) rfl (crs rfl b_15 rfl rfl rfl rfl (fun w' hs => (laws_toEngine w' [u1, u3, (.int .i64 aA.Clock), u5, (.bool aA.Halted), u7] aA (rd_at hs h_aA) (by first | assumption | omega | (unfold szm at *; split at * <;> omega)))) fun cs68 => ?_)
        refine D_pre (fun w' hs => shape_Engine (rd_own (k := 0) hs rfl)) ?_
        rintro ⟨v69, v70, v71, v72, rfl, ho73, ho74, ho75, ho76⟩
        refine tS (fun _ hs => hs.pk [1, 2, 3, 4, 5, 6] rfl rfl) ?_
        refine ty 3 rfl (by kernel_rfl) rfl (cv b_17 rfl rfl rfl rfl (fun w' hs => (laws_eqEngine w' [v48, v49, (.int .i64 aA.Clock), v50, (.bool aA.Halted), v51] aA [v69, v70, (.int .i64 aA.Clock), v71, (.bool aA.Halted), v72] aA (rd_own (k := 4) hs rfl) (rd_own (k := 0) hs rfl))) ?_)
        refine tZ rfl ?_
        refine ty 4 rfl (by kernel_rfl) rfl (sv rfl rfl (rp rfl) ?_)
        refine tZ rfl ?_
        refine tE (by kernel_rfl) ?_
        refine x_then ?_
        refine D_weak [(3, (.pointer (some ⟨g26, 0, none⟩))), (8, (.pointer (some ⟨g66, 0, none⟩))), (39, (.bool (!(decide (aA = aA)))))] ⟨rfl, rfl, rfl, trivial⟩ ?_
        refine D_sel (H' := [bx g66 [v58, v59, (.int .i64 aB.Clock), v60, (.bool aB.Halted), v61], ov [v58, v59, (.int .i64 aB.Clock), v60, (.bool aB.Halted), v61] (aB : Engine), bx g26 [u13, u15, (.int .i64 aB.Clock), u17, (.bool aB.Halted), u19]]) [false, true, true, false, false, true, false] rfl ?_
        refine C_if _ rfl (fun h77 => ?_) (fun h77 => ?_)
        · have h77n : (decide (aA = aA)) = false := not_t h77
          refine C_seq ?_
          refine C_reg ?_
          refine p1 rfl ?_
          refine D_end ?_
          refine x_then ?_
          refine C_ret ?_
          refine x_then_ret ?_
          refine R_1 rfl rfl fun w' hs => ⟨congrArg (fun z => Ending.returned (Value.bool z)) ?_, hs.bel⟩
          show (false : Bool) = true
          first | rfl | (exfalso; omega) | (exfalso; simp only [mapS_len, sumB_mk, sumR_mk] at *; omega) | exact absurd h77 (by simp [mapS_len])
        · have h77n : (decide (aA = aA)) = true := not_f h77
          refine C_skip ?_
          refine x_then ?_
          refine C_seq ?_
          refine C_seq ?_
          refine C_draw mixed [3, 4] (by kernel_rfl) ?_
          refine tk 0 rfl (by kernel_rfl) (by kernel_rfl) (by kernel_rfl) rfl (fun _ hs => hs) (lbw 0 a_49 rfl rfl rfl) ?_
          refine tk 1 rfl (by kernel_rfl) (by kernel_rfl) (by kernel_rfl) rfl (fun _ hs => hs) (lbw 2 a_41 rfl rfl rfl) ?_
          refine ty 2 rfl (by kernel_rfl) rfl (crs rfl b_15 rfl rfl rfl rfl (fun w' hs => (laws_toEngine w' [u13, u15, (.int .i64 aB.Clock), u17, (.bool aB.Halted), u19] aB (rd_at hs h_aB) (by first | assumption | omega | (unfold szm at *; split at * <;> omega)))) fun cs78 => ?_)
          refine D_pre (fun w' hs => shape_Engine (rd_own (k := 0) hs rfl)) ?_
          rintro ⟨v79, v80, v81, v82, rfl, ho83, ho84, ho85, ho86⟩
          refine tS (fun _ hs => hs.pk [1, 2, 3] rfl rfl) ?_
          refine ty 3 rfl (by kernel_rfl) rfl (cv b_17 rfl rfl rfl rfl (fun w' hs => (laws_eqEngine w' [v58, v59, (.int .i64 aB.Clock), v60, (.bool aB.Halted), v61] aB [v79, v80, (.int .i64 aB.Clock), v81, (.bool aB.Halted), v82] aB (rd_own (k := 2) hs rfl) (rd_own (k := 0) hs rfl))) ?_)
          refine tZ rfl ?_
          refine ty 4 rfl (by kernel_rfl) rfl (sv rfl rfl (rp rfl) ?_)
          refine tZ rfl ?_
          refine tE (by kernel_rfl) ?_
          refine x_then ?_
          refine D_H ([ov [v79, v80, (.int .i64 aB.Clock), v81, (.bool aB.Halted), v82] (aB : Engine), bx g66 [v58, v59, (.int .i64 aB.Clock), v60, (.bool aB.Halted), v61], ov [v58, v59, (.int .i64 aB.Clock), v60, (.bool aB.Halted), v61] (aB : Engine), bx g26 [u13, u15, (.int .i64 aB.Clock), u17, (.bool aB.Halted), u19]]) rfl ?_
          refine C_if _ rfl (fun h87 => ?_) (fun h87 => ?_)
          · have h87n : (decide (aB = aB)) = false := not_t h87
            refine C_seq ?_
            refine C_reg ?_
            refine p1 rfl ?_
            refine D_end ?_
            refine x_then ?_
            refine C_ret ?_
            refine x_then_ret ?_
            refine R_1 rfl rfl fun w' hs => ⟨congrArg (fun z => Ending.returned (Value.bool z)) ?_, hs.bel⟩
            show (false : Bool) = true
            first | rfl | (exfalso; omega) | (exfalso; simp only [mapS_len, sumB_mk, sumR_mk] at *; omega) | exact absurd h87 (by simp [mapS_len])
          · have h87n : (decide (aB = aB)) = true := not_f h87
            refine C_skip ?_
            refine x_then ?_
            refine C_seq ?_
            refine C_reg ?_
            refine p1 rfl ?_
            refine D_end ?_
            refine x_then ?_
            refine C_ret ?_
            refine R_1 rfl rfl fun w' hs => ⟨congrArg (fun z => Ending.returned (Value.bool z)) ?_, hs.bel⟩
            show (true : Bool) = true
            first | rfl | (exfalso; omega) | (exfalso; simp only [mapS_len, sumB_mk, sumR_mk] at *; omega) | exact absurd h87 (by simp [mapS_len])
end Go.Sy.Ev3
