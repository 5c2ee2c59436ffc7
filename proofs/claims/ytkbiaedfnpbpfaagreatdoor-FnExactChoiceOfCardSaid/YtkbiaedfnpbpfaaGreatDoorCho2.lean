/-
  Contracts of functions of the program, walked (printed by a program of ours).
  Conditions: those that each theorem states.
-/
import Derived.Test.YtkbiaedfnpbpfaaGreatDoorCho1
set_option linter.unusedVariables false
set_option maxRecDepth 20000
namespace Go.Sy.Cho2
open Go Go.RowKit Go.Proofs Go.Sy
theorem mixed : Tryz.prog.follows .mixedOrders = true := by kernel_rfl
theorem s_35 : sliceTy Tryz.prog 35 = some (3, 1, 8) := by kernel_rfl
theorem o_3 : oneTy Tryz.prog 3 = true := by kernel_rfl
theorem s_31 : sliceTy Tryz.prog 31 = some (70, 2, 40) := by kernel_rfl
theorem a_70 : aggTy Tryz.prog 70 = some 2 := by kernel_rfl
theorem y_70 : zeroTy Tryz.prog 70 = some (.agg #[(.string ⟨#[]⟩), (.slice none 0 0)]) := by kernel_rfl
theorem z_70 : sizeTy Tryz.prog 70 = some 2 := by kernel_rfl
theorem b_132 : hasBody Tryz.prog 132 = true := by kernel_rfl
theorem b_123 : hasBody Tryz.prog 123 = true := by kernel_rfl
theorem s_32 : sliceTy Tryz.prog 32 = some (151, 2, 32) := by kernel_rfl
theorem y_151 : zeroTy Tryz.prog 151 = some (.agg #[(.string ⟨#[]⟩), (.string ⟨#[]⟩)]) := by kernel_rfl
theorem y_34 : zeroTy Tryz.prog 34 = some (.agg #[(.string ⟨#[]⟩), (.slice none 0 0), (.slice none 0 0)]) := by kernel_rfl
theorem f_34_0 : fieldOff Tryz.prog 34 0 = some 0 := by kernel_rfl
theorem o_9 : oneTy Tryz.prog 9 = true := by kernel_rfl
theorem f_34_1 : fieldOff Tryz.prog 34 1 = some 1 := by kernel_rfl
theorem o_31 : oneTy Tryz.prog 31 = true := by kernel_rfl
theorem f_34_2 : fieldOff Tryz.prog 34 2 = some 2 := by kernel_rfl
theorem o_32 : oneTy Tryz.prog 32 = true := by kernel_rfl
theorem b_171 : hasBody Tryz.prog 171 = true := by kernel_rfl
theorem b_172 : hasBody Tryz.prog 172 = true := by kernel_rfl
theorem pl_34 : placeTy Tryz.prog 34 = some ([(0, 1), (1, 1), (2, 1)], [(.string ⟨#[]⟩), (.slice none 0 0), (.slice none 0 0)]) := by kernel_rfl
theorem z_34 : sizeTy Tryz.prog 34 = some 3 := by kernel_rfl
theorem a_34 : aggTy Tryz.prog 34 = some 3 := by kernel_rfl
theorem b_102 : hasBody Tryz.prog 102 = true := by kernel_rfl
theorem b_103 : hasBody Tryz.prog 103 = true := by kernel_rfl
theorem s_42 : sliceTy Tryz.prog 42 = some (100, 3, 48) := by kernel_rfl
theorem a_100 : aggTy Tryz.prog 100 = some 3 := by kernel_rfl
theorem y_100 : zeroTy Tryz.prog 100 = some (.agg #[(.string ⟨#[]⟩), (.slice none 0 0), (.int .i64 0)]) := by kernel_rfl
theorem z_100 : sizeTy Tryz.prog 100 = some 3 := by kernel_rfl
theorem f_100_0 : fieldOff Tryz.prog 100 0 = some 0 := by kernel_rfl
theorem b_138 : hasBody Tryz.prog 138 = true := by kernel_rfl
theorem f_100_1 : fieldOff Tryz.prog 100 1 = some 2 := by kernel_rfl
theorem b_128 : hasBody Tryz.prog 128 = true := by kernel_rfl
theorem b_173 : hasBody Tryz.prog 173 = true := by kernel_rfl
theorem y_3 : zeroTy Tryz.prog 3 = some (.int .i64 0) := by kernel_rfl
theorem b_73 : hasBody Tryz.prog 73 = true := by kernel_rfl
theorem f_96_2 : fieldOff Tryz.prog 96 2 = some 2 := by kernel_rfl
theorem o_93 : oneTy Tryz.prog 93 = true := by kernel_rfl
theorem s_93 : sliceTy Tryz.prog 93 = some (147, 5, 80) := by kernel_rfl
theorem a_147 : aggTy Tryz.prog 147 = some 5 := by kernel_rfl
theorem y_147 : zeroTy Tryz.prog 147 = some (.agg #[(.int .i64 0), (.string ⟨#[]⟩), (.slice none 0 0), (.string ⟨#[]⟩), (.string ⟨#[]⟩)]) := by kernel_rfl
theorem z_147 : sizeTy Tryz.prog 147 = some 5 := by kernel_rfl
theorem f_147_1 : fieldOff Tryz.prog 147 1 = some 1 := by kernel_rfl
theorem f_145_1 : fieldOff Tryz.prog 145 1 = some 1 := by kernel_rfl
theorem o_58 : oneTy Tryz.prog 58 = true := by kernel_rfl
theorem s_58 : sliceTy Tryz.prog 58 = some (9, 1, 16) := by kernel_rfl
theorem b_148 : hasBody Tryz.prog 148 = true := by kernel_rfl
theorem b_104 : hasBody Tryz.prog 104 = true := by kernel_rfl
theorem y_37 : zeroTy Tryz.prog 37 = some (.agg #[(.string ⟨#[]⟩), (.slice none 0 0), (.slice none 0 0), (.int .i64 0), (.slice none 0 0), (.int .i64 0), (.int .i64 0)]) := by kernel_rfl
theorem b_109 : hasBody Tryz.prog 109 = true := by kernel_rfl
theorem z_37 : sizeTy Tryz.prog 37 = some 7 := by kernel_rfl
theorem a_37 : aggTy Tryz.prog 37 = some 7 := by kernel_rfl
theorem b_80 : hasBody Tryz.prog 80 = true := by kernel_rfl
theorem s_40 : sliceTy Tryz.prog 40 = some (96, 4, 72) := by kernel_rfl
theorem f_96_1 : fieldOff Tryz.prog 96 1 = some 1 := by kernel_rfl
theorem a_96 : aggTy Tryz.prog 96 = some 4 := by kernel_rfl
theorem b_112 : hasBody Tryz.prog 112 = true := by kernel_rfl
theorem b_113 : hasBody Tryz.prog 113 = true := by kernel_rfl
theorem b_114 : hasBody Tryz.prog 114 = true := by kernel_rfl
theorem pl_37 : placeTy Tryz.prog 37 = some ([(0, 3), (3, 1), (4, 1), (5, 1), (6, 1)], [(.string ⟨#[]⟩), (.slice none 0 0), (.slice none 0 0), (.int .i64 0), (.slice none 0 0), (.int .i64 0), (.int .i64 0)]) := by kernel_rfl
theorem b_51 : hasBody Tryz.prog 51 = true := by kernel_rfl
theorem b_52 : hasBody Tryz.prog 52 = true := by kernel_rfl
theorem b_53 : hasBody Tryz.prog 53 = true := by kernel_rfl
theorem b_40 : hasBody Tryz.prog 40 = true := by kernel_rfl
theorem b_41 : hasBody Tryz.prog 41 = true := by kernel_rfl
theorem b_42 : hasBody Tryz.prog 42 = true := by kernel_rfl
theorem b_43 : hasBody Tryz.prog 43 = true := by kernel_rfl
theorem b_44 : hasBody Tryz.prog 44 = true := by kernel_rfl
theorem b_45 : hasBody Tryz.prog 45 = true := by kernel_rfl
theorem b_46 : hasBody Tryz.prog 46 = true := by kernel_rfl
theorem b_6 : hasBody Tryz.prog 6 = true := by kernel_rfl
theorem b_7 : hasBody Tryz.prog 7 = true := by kernel_rfl
theorem a_27 : aggTy Tryz.prog 27 = some 3 := by kernel_rfl
theorem b_8 : hasBody Tryz.prog 8 = true := by kernel_rfl
theorem b_10 : hasBody Tryz.prog 10 = true := by kernel_rfl
theorem b_11 : hasBody Tryz.prog 11 = true := by kernel_rfl
theorem b_12 : hasBody Tryz.prog 12 = true := by kernel_rfl
theorem b_9 : hasBody Tryz.prog 9 = true := by kernel_rfl
theorem b_13 : hasBody Tryz.prog 13 = true := by kernel_rfl
theorem b_14 : hasBody Tryz.prog 14 = true := by kernel_rfl
theorem ub_4 : Tryz.prog.underlying 4 = some .bool := by kernel_rfl
theorem b_15 : hasBody Tryz.prog 15 = true := by kernel_rfl
theorem b_16 : hasBody Tryz.prog 16 = true := by kernel_rfl
theorem b_17 : hasBody Tryz.prog 17 = true := by kernel_rfl
theorem b_18 : hasBody Tryz.prog 18 = true := by kernel_rfl
theorem b_19 : hasBody Tryz.prog 19 = true := by kernel_rfl
theorem b_20 : hasBody Tryz.prog 20 = true := by kernel_rfl
theorem b_21 : hasBody Tryz.prog 21 = true := by kernel_rfl
theorem b_22 : hasBody Tryz.prog 22 = true := by kernel_rfl
open Go.Sy.Bel1 Go.Sy.Bel3 Go.Sy.Ev1 Go.Sy.Ev2 Go.Sy.Ev3 Go.Sy.Fmt1 Go.Sy.Eng1 Go.Sy.Eng2 Go.Sy.Eng3 Go.Sy.Eng5 Go.Sy.Num1 Go.Sy.Num2 Go.Sy.Cho1
theorem spec_l1Has (w : World) (v_l : Value) (l : (List Int)) (x : Int) (h_l : Gd.rd w [v_l] l) : Calls Tryz.prog 44 [v_l, (.int .i64 x)].toArray w (Val w (.bool (l.contains x))) := by
 have hm1 := rd_max h_l
 refine enter 18 Tryz.func44 rfl rfl rfl (C_seq (C_reg (p1 rfl (D_end (x_then (C_seq (C_seq (C_reg (p1 rfl (D_end (x_then ?_)))))))))))
 refine C_block (C_loop (fun m_ ac w' => ∃ (k : Nat), (k ≤ l.length) ∧ (∀ i, i < k → l[i]? ≠ some x) ∧ m_ = l.length - k ∧ Fits ac 18 [(0, v_l), (1, (.int .i64 x)), (5, (.int .i64 ((k : Nat) : Int)))] ∧ St w ([]) w') ?_ ?_)
 ·refine fun ac w' hf hs => ⟨_, 0, ?_, ?_, rfl, hf.weak ⟨rfl, rfl, rfl, trivial⟩, hs⟩
  ·first | assumption | omega | simp
  ·intro i hi; omega
 ·rintro m_ ac w' ⟨k, hk, hi, rfl, hf, hs⟩
  refine D.use ?_ hf hs
  clear hf hs ac w'
  refine C_seq (C_seq (C_reg (p1 rfl <| p1 rfl (q1 rfl (D_len s_35 rfl rfl (rd_sl h_l)) (p1 rfl (D_end (x_then (C_if _ rfl (fun h2 => ?_) (fun h2 => ?_)))))))))
  ·have pr2 : (((k : Nat) : Int) : Int) < ((l.length : Nat) : Int) := of_decide_eq_true h2
   refine C_skip (x_then (C_seq (C_block (C_seq (C_reg (p1 rfl <| p1 rfl ?_))))))
   obtain ⟨x3, hx4⟩ := some_of_lt (l := l) (i := k) (by omega)
   obtain ⟨es5, at6, hr7⟩ := rd_elem (n := 1) rfl h_l hx4
   obtain rfl : es5 = [.int .i64 x3] := hr7
   refine q1 rfl (D_ix (l := l) (j := k) s_35 rfl rfl rfl (fun w' hs => (rd_at hs h_l)) rfl (lt_of_some hx4)) (q1 rfl (lr0 o_3 rfl rfl at6 rfl) (p1 rfl <| p1 rfl (D_end (x_then (C_if _ rfl (fun h8 => ?_) (fun h8 => ?_))))))
   ·have pr8 : (x3 : Int) = x := eq_of_beq h8
    refine C_seq (C_reg (p1 rfl (D_end (x_then (C_ret (x_blk_ret (x_then_ret (x_then_ret (x_blk_ret (x_then_ret (Rb rfl rfl ?_)))))))))))
    exact cont_y hx4 (by omega)
   ·have pr8 : (x3 : Int) ≠ x := ne_of_beq_false h8
    refine C_skip (x_blk (x_then (C_reg (p1 rfl (q1 rfl (D_add rfl rfl rfl (r := ((k + 1 : Nat) : Int)) (by omega) (by omega)) (p1 rfl (D_end (x_then (fun ac w' hf hs => ⟨_, ?_, k + 1, ?_, ?_, rfl, hf.weak ⟨rfl, rfl, rfl, trivial⟩, hs⟩)))))))))
    ·omega
    ·first | assumption | omega | simp
    ·refine forall_step hi ?_; intro e; have := hx4.symm.trans e; simp only [Option.some.injEq] at this; omega
  ·have pr2 : ¬ (((k : Nat) : Int) : Int) < ((l.length : Nat) : Int) := of_decide_eq_false h2
   refine C_exit (x_then_exit (x_then_exit (x_blk_eq (x_then (C_seq (C_reg (p1 rfl (D_end (x_then (C_ret (Rb rfl rfl ?_)))))))))))
   exact cont_n (fun i h => hi i (by omega))

theorem impl_copyFacts (w : World) (v_l : Value) (l : (List Fact)) (h_l : Gd.rd w [v_l] l) (hn : szL szFa l ≤ 1048576) : Calls Tryz.prog 171 [v_l].toArray w (Res w (l : List Fact)) := by
 have hm1 := rd_max h_l
 unfold szL at hn
 refine enter 19 Tryz.func171 rfl rfl rfl (C_seq (C_reg (p1 rfl (D_end (x_then (C_seq (C_reg (p1 rfl (D_end (x_then (C_seq ?_)))))))))))
 refine C_seq (C_reg (p1 rfl (q1 rfl (D_len s_31 rfl rfl (rd_sl h_l)) (p1 rfl (D_end (x_then (C_block (C_loop (fun m_ ac w' => ∃ (k : Nat), ∃ (v : Value), (k ≤ l.length) ∧ m_ = l.length - k ∧ Fits ac 19 [(3, v), (6, v_l), (7, (.int .i64 ((l.length : Nat) : Int))), (8, (.int .i64 ((k : Nat) : Int)))] ∧ St w ([ov [v] (l.take k : (List Fact))]) w') ?_ ?_))))))))
 ·refine D_nil (α := Fact) (D_eq 0 rfl (show ([] : (List Fact)) = l.take 0 from by simp) (fun ac w' hf hs => ⟨_, 0, (.slice none 0 0), ?_, rfl, hf.weak ⟨rfl, rfl, rfl, rfl, trivial⟩, hs⟩))
  ·first | assumption | omega | simp
 ·rintro m_ ac w' ⟨k, v, hk, rfl, hf, hs⟩
  refine D.use ?_ hf hs
  clear hf hs ac w'
  have hcl : (l.take k).length ≤ k := by rw [List.length_take]; omega
  refine C_seq (C_reg (p1 rfl (D_end (x_then (D_H ([ov [v] (l.take k : (List Fact))]) rfl (C_seq (C_if _ rfl (fun h2 => ?_) (fun h2 => ?_))))))))
  ·have pr2 : (((k : Nat) : Int) : Int) < ((l.length : Nat) : Int) := of_decide_eq_true h2
   refine C_skip (x_then (C_seq (C_block (C_seq (C_reg ?_)))))
   obtain ⟨x0, x0h⟩ := some_of_lt (l := l) (i := k) (by omega)
   have hle := sumC_mem (c := szFa) (List.mem_of_getElem? x0h)
   obtain ⟨es3, at4, hr5⟩ := rd_elem (n := 2) rfl h_l x0h
   obtain ⟨u6, rfl, hu7⟩ := open_Fact hr5
   have hm8 := rd_max hu7
   refine q1 rfl (D_ix (l := l) (j := k) s_31 rfl rfl rfl (fun w' hs => (rd_at hs h_l)) rfl (lt_of_some x0h)) (q1 rfl (lra a_70 rfl rfl at4) (li rfl (D_alloc y_70 rfl rfl rfl rfl fun g9 => ?_)))
   refine li rfl (D_stb (vs := [(.string x0.Rel), u6]) (cs' := [(.string x0.Rel), u6]) 0 z_70 rfl rfl rfl rfl rfl rfl (ocons rfl (ocons (one_rd hu7) onil)) (by simp) rfl ?_)
   refine D_end (x_then (D_H ([bx g9 [(.string x0.Rel), u6], ov [v] (l.take k : (List Fact))]) rfl (C_reg (p1 rfl (q1 rfl (lbw 0 a_70 rfl rfl rfl) (li rfl (crs rfl b_132 rfl rfl rfl rfl (fun w' hs => (impl_copyFact w' [(.string x0.Rel), u6] x0 (rd_at hs hr5) (by first | assumption | omega | (unfold szm at *; split at * <;> omega)))) fun cs10 => ?_)))))))
   refine D_pre (fun w' hs => shape_Fact (rd_own (k := 0) hs rfl)) ?_
   rintro ⟨v11, rfl, ho12⟩
   refine li rfl (D_bs s_31 y_70 rfl (by decide) (by decide) rfl rfl rfl rfl rfl rfl fun g13 => ?_)
   refine D_pk (H' := [ov [v] (l.take k : (List Fact)), ov [(.string x0.Rel), v11] (x0 : Fact), bx g13 [(.string x0.Rel), v11], bx g9 [(.string x0.Rel), u6]]) [3, 1, 0, 2] rfl rfl (li rfl (D_ap s_31 y_70 rfl (by decide) rfl rfl rfl rfl rfl rfl (by first | omega | (simp; omega)) (by first | omega | (simp; omega)) fun v14 => ?_))
   refine p1 rfl (D_end (x_blk (x_then (D_H ([ov [v14] ((l.take k) ++ [x0] : (List Fact)), bx g9 [(.string x0.Rel), u6]]) rfl (C_reg (q1 rfl (D_add rfl rfl rfl (r := ((k + 1 : Nat) : Int)) (by omega) (by omega)) (p1 rfl (D_end (x_then (D_eq 0 rfl (show ((l.take k) ++ [x0] : (List Fact)) = l.take (k + 1) from by exact (take_snoc x0h).symm) (fun ac w' hf hs => ⟨_, ?_, k + 1, v14, ?_, rfl, hf.weak ⟨rfl, rfl, rfl, rfl, trivial⟩, hs.pk [0] rfl rfl⟩)))))))))))
   ·omega
   ·first | assumption | omega | simp
  ·have pr2 : ¬ (((k : Nat) : Int) : Int) < ((l.length : Nat) : Int) := of_decide_eq_false h2
   refine C_exit (x_then_exit (x_then_exit (x_blk_eq (x_then (C_seq (C_reg (p1 rfl <| p1 rfl (D_end (x_then (C_ret (R_1 rfl rfl fun w' hs => res_of (k := 0) hs rfl ?_)))))))))))
   show l.take k = l
   rw [List.take_of_length_le (by omega)]

theorem spec_l2Copies (w : World) (v_l : Value) (l : (List Fact)) (h_l : Gd.rd w [v_l] l) (hn : szL szFa l ≤ 1048576) : Calls Tryz.prog 102 [v_l].toArray w (Res w (l : List Fact)) := by
 have hm1 := rd_max h_l
 unfold szL at hn
 refine enter 21 Tryz.func102 rfl rfl rfl (C_seq (C_reg (p1 rfl (D_end (x_then (C_seq (C_reg (li rfl (D_bs0 (α := Fact) s_31 rfl rfl rfl fun v2 => ?_)))))))))
 refine p1 rfl (D_end (x_then (D_H ([ov [v2] ([] : (List Fact))]) rfl (C_seq (C_seq (C_reg (p1 rfl (D_end (x_then (C_block (C_loop (fun m_ ac w' => ∃ (k : Nat), ∃ (v : Value), (k ≤ l.length) ∧ m_ = l.length - k ∧ Fits ac 21 [(0, v_l), (3, v), (4, (.int .i64 ((k : Nat) : Int)))] ∧ St w ([ov [v] (l.take k : (List Fact))]) w') ?_ ?_)))))))))))
 ·refine D_eq 0 rfl (show ([] : (List Fact)) = l.take 0 from by simp) (fun ac w' hf hs => ⟨_, 0, v2, ?_, rfl, hf.weak ⟨rfl, rfl, rfl, trivial⟩, hs⟩)
  ·first | assumption | omega | simp
 ·rintro m_ ac w' ⟨k, v, hk, rfl, hf, hs⟩
  refine D.use ?_ hf hs
  clear hf hs ac w'
  have hcl : (l.take k).length ≤ k := by rw [List.length_take]; omega
  refine C_seq (C_seq (C_reg (p1 rfl <| p1 rfl (q1 rfl (D_len s_31 rfl rfl (rd_sl h_l)) (p1 rfl (D_end (x_then (D_H ([ov [v] (l.take k : (List Fact))]) rfl (C_if _ rfl (fun h3 => ?_) (fun h3 => ?_))))))))))
  ·have pr3 : (((k : Nat) : Int) : Int) < ((l.length : Nat) : Int) := of_decide_eq_true h3
   refine C_skip (x_then (C_seq (C_block (C_reg (p1 rfl <| p1 rfl <| p1 rfl ?_)))))
   obtain ⟨x0, x0h⟩ := some_of_lt (l := l) (i := k) (by omega)
   have hle := sumC_mem (c := szFa) (List.mem_of_getElem? x0h)
   obtain ⟨es4, at5, hr6⟩ := rd_elem (n := 2) rfl h_l x0h
   obtain ⟨u7, rfl, hu8⟩ := open_Fact hr6
   have hm9 := rd_max hu8
   refine q1 rfl (D_ix (l := l) (j := k) s_31 rfl rfl rfl (fun w' hs => (rd_at hs h_l)) rfl (lt_of_some x0h)) (q1 rfl (lra a_70 rfl rfl at5) (li rfl (crs rfl b_123 rfl rfl rfl rfl (fun w' hs => (spec_l2Copy w' [(.string x0.Rel), u7] x0 (rd_at hs hr6) (by first | assumption | omega | (unfold szm at *; split at * <;> omega)))) fun cs10 => ?_)))
   refine D_pre (fun w' hs => shape_Fact (rd_own (k := 0) hs rfl)) ?_
   rintro ⟨v11, rfl, ho12⟩
   refine li rfl (D_bs s_31 y_70 rfl (by decide) (by decide) rfl rfl rfl rfl rfl rfl fun g13 => ?_)
   refine D_pk (H' := [ov [v] (l.take k : (List Fact)), ov [(.string x0.Rel), v11] (x0 : Fact), bx g13 [(.string x0.Rel), v11]]) [2, 1, 0] rfl rfl (li rfl (D_ap s_31 y_70 rfl (by decide) rfl rfl rfl rfl rfl rfl (by first | omega | (simp; omega)) (by first | omega | (simp; omega)) fun v14 => ?_))
   refine p1 rfl (D_end (x_blk (x_then (D_H ([ov [v14] ((l.take k) ++ [x0] : (List Fact))]) rfl (C_reg (p1 rfl (q1 rfl (D_add rfl rfl rfl (r := ((k + 1 : Nat) : Int)) (by omega) (by omega)) (p1 rfl (D_end (x_then (D_eq 0 rfl (show ((l.take k) ++ [x0] : (List Fact)) = l.take (k + 1) from by exact (take_snoc x0h).symm) ?_)))))))))))
   refine fun ac w' hf hs => ⟨_, ?_, k + 1, v14, ?_, rfl, hf.weak ⟨rfl, rfl, rfl, trivial⟩, hs⟩
   ·omega
   ·first | assumption | omega | simp
  ·have pr3 : ¬ (((k : Nat) : Int) : Int) < ((l.length : Nat) : Int) := of_decide_eq_false h3
   refine C_exit (x_then_exit (x_then_exit (x_blk_eq (x_then (C_seq (C_reg (p1 rfl <| p1 rfl (D_end (x_then (C_ret (R_1 rfl rfl fun w' hs => res_of (k := 0) hs rfl ?_)))))))))))
   show l.take k = l
   rw [List.take_of_length_le (by omega)]

theorem impl_copyPairs (w : World) (v_b : Value) (b : (List Pair)) (h_b : Gd.rd w [v_b] b) (hn : b.length ≤ 1048576) : Calls Tryz.prog 172 [v_b].toArray w (Res w (b : List Pair)) := by
 have hm1 := rd_max h_b
 refine enter 5 Tryz.func172 rfl rfl rfl (C_seq (C_reg (p1 rfl (D_end (x_then (C_seq (C_reg (p1 rfl (D_nil (α := Pair) (li rfl (D_apf (α := Pair) (ys := b) s_32 y_151 rfl (by decide) rfl rfl rfl rfl rfl rfl (fun w' hs => (rd_at hs h_b)) (by first | omega | (simp; omega)) (by first | omega | (simp; omega)) fun v2 => ?_)))))))))))
 refine p1 rfl (D_end (x_then (C_ret (R_1 rfl rfl fun w' hs => res_of (k := 0) hs rfl ?_))))
 show ([]) ++ b = b
 rfl

theorem spec_l3Copy (w : World) (v_b : Value) (b : (List Pair)) (h_b : Gd.rd w [v_b] b) (hn : b.length ≤ 1048576) : Calls Tryz.prog 103 [v_b].toArray w (Res w (b : List Pair)) := by
 have hm1 := rd_max h_b
 refine enter 6 Tryz.func103 rfl rfl rfl (C_seq (C_reg (p1 rfl (D_end (x_then (C_seq (C_reg (li rfl (D_bs0 (α := Pair) s_32 rfl rfl rfl fun v2 => ?_)))))))))
 refine p1 rfl (li rfl (D_apf (α := Pair) (ys := b) s_32 y_151 rfl (by decide) rfl rfl rfl rfl rfl rfl (fun w' hs => (rd_at hs h_b)) (by first | omega | (simp; omega)) (by first | omega | (simp; omega)) fun v3 => ?_))
 refine p1 rfl (D_end (x_then (C_ret (R_1 rfl rfl fun w' hs => res_of (k := 0) hs rfl ?_))))
 show ([]) ++ b = b
 rfl

theorem impl_copyMatch (w : World) (c_m : List Value) (m : Match) (h_m : Gd.rd w c_m m) (hn : szMatch m ≤ 1048576) : Calls Tryz.prog 112 [(.agg c_m.toArray)].toArray w (Res w (m : Match)) := by
 obtain ⟨u1, u3, rfl, hu2, hu4⟩ := open_Match h_m
 have hm5 := rd_max hu2
 have hm6 := rd_max hu4
 unfold szMatch at hn
 have hbl : szL szPair m.Binding = m.Binding.length + sumC szPair m.Binding := rfl
 refine enter 12 Tryz.func112 rfl rfl rfl (C_seq (C_reg (li rfl (D_box rfl rfl rfl rfl rfl fun g7 => ?_))))
 refine li rfl (D_alloc y_34 rfl rfl rfl rfl fun g8 => ?_)
 refine D_end (x_then (D_H ([bx g8 [(.string ⟨#[]⟩), (.slice none 0 0), (.slice none 0 0)], bx g7 [(.string m.Rule), u1, u3]]) rfl (C_seq (C_draw mixed [9] (by kernel_rfl) (tk 0 rfl (by kernel_rfl) (by kernel_rfl) (by kernel_rfl) rfl (fun _ hs => hs) (D_fb f_34_0 rfl rfl (q := 0) rfl) (tk 1 rfl (by kernel_rfl) (by kernel_rfl) (by kernel_rfl) rfl (fun _ hs => hs) (lb 1 o_9 rfl rfl rfl rfl) (tk 2 rfl (by kernel_rfl) (by kernel_rfl) (by kernel_rfl) rfl (fun _ hs => hs) (D_fb f_34_1 rfl rfl (q := 1) rfl) (tk 3 rfl (by kernel_rfl) (by kernel_rfl) (by kernel_rfl) rfl (fun _ hs => hs) (lb 1 o_31 rfl rfl rfl rfl) (tk 5 rfl (by kernel_rfl) (by kernel_rfl) (by kernel_rfl) rfl (fun _ hs => hs) (D_fb f_34_2 rfl rfl (q := 2) rfl) (tk 6 rfl (by kernel_rfl) (by kernel_rfl) (by kernel_rfl) rfl (fun _ hs => hs) (lb 1 o_32 rfl rfl rfl rfl) (ty 4 rfl (by kernel_rfl) rfl (crl b_171 rfl rfl rfl rfl (fun w' hs => (impl_copyFacts w' u1 m.Facts (rd_at hs hu2) (by first | assumption | omega | (unfold szm at *; split at * <;> omega)))) fun v9 => ?_))))))))))))
 refine tS (fun _ hs => hs.pk [1, 2] rfl rfl) (ty 7 rfl (by kernel_rfl) rfl (crl b_172 rfl rfl rfl rfl (fun w' hs => (impl_copyPairs w' u3 m.Binding (rd_at hs hu4) (by first | assumption | omega | (unfold szm at *; split at * <;> omega)))) fun v10 => ?_))
 refine tS (fun _ hs => hs.pk [2, 3] rfl rfl) (D_pre (fun w' hs => one_own (k := 1) hs rfl) ?_)
 intro ho11
 refine D_pre (fun w' hs => one_own (k := 0) hs rfl) ?_
 intro ho12
 refine tk 8 rfl (by kernel_rfl) (by kernel_rfl) (by kernel_rfl) rfl (fun _ hs => hs.pk [2, 3] rfl rfl) (D_built (vs := [(0, (.string m.Rule)), (1, v9), (2, v10)]) (xs := [(0, [(.string m.Rule)]), (1, [v9]), (2, [v10])]) (cs := [(.string m.Rule), v9, v10]) pl_34 rfl ⟨rfl, rfl, ⟨rfl, (cells_of_one ho11), ⟨rfl, (cells_of_one ho12), trivial⟩⟩⟩ rfl rfl) (ty 9 rfl (by kernel_rfl) rfl (D_stb (vs := [(.string m.Rule), v9, v10]) (cs' := [(.string m.Rule), v9, v10]) 2 z_34 rfl rfl rfl rfl rfl rfl (ocons rfl (ocons ho11 (ocons ho12 onil))) (by simp) rfl ?_))
 refine tZ rfl (tE (by kernel_rfl) (x_then (C_ret (D_pk (H' := [ov [v9] (m.Facts : (List Fact)), ov [v10] (m.Binding : (List Pair)), bx g8 [(.string m.Rule), v9, v10], bx g7 [(.string m.Rule), u1, u3]]) [1, 0, 2, 3] rfl rfl (pk_Match (r := (m : Match)) (R_c 1 a_34 rfl rfl rfl fun w' hs => res_of (k := 0) hs rfl ?_))))))
 show (m : Match) = m
 rfl

theorem spec_l9Match (w : World) (c_m : List Value) (m : Match) (h_m : Gd.rd w c_m m) (hn : szMatch m ≤ 1048576) : Calls Tryz.prog 45 [(.agg c_m.toArray)].toArray w (Res w (m : Match)) := by
 obtain ⟨u1, u3, rfl, hu2, hu4⟩ := open_Match h_m
 have hm5 := rd_max hu2
 have hm6 := rd_max hu4
 unfold szMatch at hn
 have hbl : szL szPair m.Binding = m.Binding.length + sumC szPair m.Binding := rfl
 refine enter 12 Tryz.func45 rfl rfl rfl (C_seq (C_reg (li rfl (D_box rfl rfl rfl rfl rfl fun g7 => ?_))))
 refine li rfl (D_alloc y_34 rfl rfl rfl rfl fun g8 => ?_)
 refine D_end (x_then (D_H ([bx g8 [(.string ⟨#[]⟩), (.slice none 0 0), (.slice none 0 0)], bx g7 [(.string m.Rule), u1, u3]]) rfl (C_seq (C_draw mixed [9] (by kernel_rfl) (tk 0 rfl (by kernel_rfl) (by kernel_rfl) (by kernel_rfl) rfl (fun _ hs => hs) (D_fb f_34_0 rfl rfl (q := 0) rfl) (tk 1 rfl (by kernel_rfl) (by kernel_rfl) (by kernel_rfl) rfl (fun _ hs => hs) (lb 1 o_9 rfl rfl rfl rfl) (tk 2 rfl (by kernel_rfl) (by kernel_rfl) (by kernel_rfl) rfl (fun _ hs => hs) (D_fb f_34_1 rfl rfl (q := 1) rfl) (tk 3 rfl (by kernel_rfl) (by kernel_rfl) (by kernel_rfl) rfl (fun _ hs => hs) (lb 1 o_31 rfl rfl rfl rfl) (tk 5 rfl (by kernel_rfl) (by kernel_rfl) (by kernel_rfl) rfl (fun _ hs => hs) (D_fb f_34_2 rfl rfl (q := 2) rfl) (tk 6 rfl (by kernel_rfl) (by kernel_rfl) (by kernel_rfl) rfl (fun _ hs => hs) (lb 1 o_32 rfl rfl rfl rfl) (ty 4 rfl (by kernel_rfl) rfl (crl b_102 rfl rfl rfl rfl (fun w' hs => (spec_l2Copies w' u1 m.Facts (rd_at hs hu2) (by first | assumption | omega | (unfold szm at *; split at * <;> omega)))) fun v9 => ?_))))))))))))
 refine tS (fun _ hs => hs.pk [1, 2] rfl rfl) (ty 7 rfl (by kernel_rfl) rfl (crl b_103 rfl rfl rfl rfl (fun w' hs => (spec_l3Copy w' u3 m.Binding (rd_at hs hu4) (by first | assumption | omega | (unfold szm at *; split at * <;> omega)))) fun v10 => ?_))
 refine tS (fun _ hs => hs.pk [2, 3] rfl rfl) (D_pre (fun w' hs => one_own (k := 1) hs rfl) ?_)
 intro ho11
 refine D_pre (fun w' hs => one_own (k := 0) hs rfl) ?_
 intro ho12
 refine tk 8 rfl (by kernel_rfl) (by kernel_rfl) (by kernel_rfl) rfl (fun _ hs => hs.pk [2, 3] rfl rfl) (D_built (vs := [(0, (.string m.Rule)), (1, v9), (2, v10)]) (xs := [(0, [(.string m.Rule)]), (1, [v9]), (2, [v10])]) (cs := [(.string m.Rule), v9, v10]) pl_34 rfl ⟨rfl, rfl, ⟨rfl, (cells_of_one ho11), ⟨rfl, (cells_of_one ho12), trivial⟩⟩⟩ rfl rfl) (ty 9 rfl (by kernel_rfl) rfl (D_stb (vs := [(.string m.Rule), v9, v10]) (cs' := [(.string m.Rule), v9, v10]) 2 z_34 rfl rfl rfl rfl rfl rfl (ocons rfl (ocons ho11 (ocons ho12 onil))) (by simp) rfl ?_))
 refine tZ rfl (tE (by kernel_rfl) (x_then (C_ret (D_pk (H' := [ov [v9] (m.Facts : (List Fact)), ov [v10] (m.Binding : (List Pair)), bx g8 [(.string m.Rule), v9, v10], bx g7 [(.string m.Rule), u1, u3]]) [1, 0, 2, 3] rfl rfl (pk_Match (r := (m : Match)) (R_c 1 a_34 rfl rfl rfl fun w' hs => res_of (k := 0) hs rfl ?_))))))
 show (m : Match) = m
 rfl

theorem impl_TimeOf (w : World) (v_l : Value) (l : (List Stamp)) (c_f : List Value) (f : Fact) (h_l : Gd.rd w [v_l] l) (h_f : Gd.rd w c_f f) : Calls Tryz.prog 173 [v_l, (.agg c_f.toArray)].toArray w (Val w (.int .i64 (timeOf l f))) := by
 have hm1 := rd_max h_l
 obtain ⟨u2, rfl, hu3⟩ := open_Fact h_f
 have hm4 := rd_max hu3
 refine enter 20 Tryz.func173 rfl rfl rfl (C_seq (C_reg (li rfl (D_box rfl rfl rfl rfl rfl fun g5 => ?_))))
 refine p1 rfl (D_end (x_then (D_H ([bx g5 [(.string f.Rel), u2]]) rfl (C_seq (C_seq (C_reg (p1 rfl (q1 rfl (D_len s_42 rfl rfl (rd_sl h_l)) (p1 rfl (D_end (x_then ?_)))))))))))
 refine C_block (C_loop (fun m_ ac w' => ∃ (k : Nat), (k ≤ l.length) ∧ (∀ i, i < k → ∀ y, l[i]? = some y → y.Fact ≠ f) ∧ m_ = l.length - k ∧ Fits ac 20 [(3, (.pointer (some ⟨g5, 0, none⟩))), (7, v_l), (8, (.int .i64 ((l.length : Nat) : Int))), (9, (.int .i64 ((k : Nat) : Int)))] ∧ St w ([bx g5 [(.string f.Rel), u2]]) w') ?_ ?_)
 ·refine fun ac w' hf hs => ⟨_, 0, ?_, ?_, rfl, hf.weak ⟨rfl, rfl, rfl, rfl, trivial⟩, hs⟩
  ·first | assumption | omega | simp
  ·intro i hi; omega
 ·rintro m_ ac w' ⟨k, hk, hi, rfl, hf, hs⟩
  refine D.use ?_ hf hs
  clear hf hs ac w'
  refine C_seq (C_reg (p1 rfl (D_end (x_then (C_seq (C_if _ rfl (fun h6 => ?_) (fun h6 => ?_)))))))
  ·have pr6 : (((k : Nat) : Int) : Int) < ((l.length : Nat) : Int) := of_decide_eq_true h6
   refine C_skip (x_then (C_seq (C_block (C_seq (C_reg ?_)))))
   obtain ⟨s0, s0h⟩ := some_of_lt (l := l) (i := k) (by omega)
   obtain ⟨es7, at8, hr9⟩ := rd_elem (n := 3) rfl h_l s0h
   obtain ⟨u10, rfl, hu11⟩ := open_Stamp hr9
   have hm12 := rd_max hu11
   have hb13 := sub_Stamp_Fact hr9
   refine q1 rfl (D_ix (l := l) (j := k) s_42 rfl rfl rfl (fun w' hs => (rd_at hs h_l)) rfl (lt_of_some s0h)) (q1 rfl (lra a_100 rfl rfl at8) (li rfl (D_alloc y_100 rfl rfl rfl rfl fun g14 => ?_)))
   refine li rfl (D_stb (vs := [(.string s0.Fact.Rel), u10, (.int .i64 s0.Time)]) (cs' := [(.string s0.Fact.Rel), u10, (.int .i64 s0.Time)]) 0 z_100 rfl rfl rfl rfl rfl rfl (ocons rfl (ocons (one_rd hu11) (ocons rfl onil))) (by simp) rfl ?_)
   refine D_end (x_then (D_H ([bx g14 [(.string s0.Fact.Rel), u10, (.int .i64 s0.Time)], bx g5 [(.string f.Rel), u2]]) rfl (C_seq (C_reg (q1 rfl (D_fb f_100_0 rfl rfl (q := 0) rfl) (q1 rfl (lba (es := [(.string s0.Fact.Rel), u10]) 0 a_70 rfl rfl rfl rfl) (q1 rfl (lbw 1 a_70 rfl rfl rfl) (li rfl (cv b_138 rfl rfl rfl rfl (fun w' hs => (impl_sameFact w' [(.string s0.Fact.Rel), u10] s0.Fact [(.string f.Rel), u2] f (rd_at hs hb13) (rd_at hs h_f))) ?_)))))))))
   refine D_end (x_then (C_if _ rfl (fun h15 => ?_) (fun h15 => ?_)))
   ·refine C_seq (C_reg (q1 rfl (D_fb f_100_1 rfl rfl (q := 2) rfl) (q1 rfl (lb 0 o_3 rfl rfl rfl rfl) (p1 rfl (D_end (x_then (C_ret (x_blk_ret (x_then_ret (x_then_ret (x_blk_ret ?_)))))))))))
    refine x_then_ret (Ri rfl rfl ?_)
    show (s0.Time : Int) = _
    exact timeOf_t s0h (by simp_all) hi
   ·refine C_skip (x_blk (x_then (C_reg (q1 rfl (D_add rfl rfl rfl (r := ((k + 1 : Nat) : Int)) (by omega) (by omega)) (p1 rfl (D_end (x_then (fun ac w' hf hs => ⟨_, ?_, k + 1, ?_, ?_, rfl, hf.weak ⟨rfl, rfl, rfl, rfl, trivial⟩, hs.pk [1] rfl rfl⟩))))))))
    ·omega
    ·first | assumption | omega | simp
    ·refine forall_step hi ?_; intro y hy; obtain rfl : y = s0 := Option.some.inj (hy.symm.trans s0h); simp_all
  ·have pr6 : ¬ (((k : Nat) : Int) : Int) < ((l.length : Nat) : Int) := of_decide_eq_false h6
   refine C_exit (x_then_exit (x_then_exit (x_blk_eq (x_then (C_seq (C_reg (p1 rfl (D_end (x_then (C_ret (Ri rfl rfl ?_)))))))))))
   show (0 : Int) = _
   exact timeOf_n (fun i h => hi i (by omega))

theorem spec_TimeOf (w : World) (v_l : Value) (l : (List Stamp)) (c_f : List Value) (f : Fact) (h_l : Gd.rd w [v_l] l) (h_f : Gd.rd w c_f f) : Calls Tryz.prog 73 [v_l, (.agg c_f.toArray)].toArray w (Val w (.int .i64 (timeOf l f))) := by
 have hm1 := rd_max h_l
 obtain ⟨u2, rfl, hu3⟩ := open_Fact h_f
 have hm4 := rd_max hu3
 refine enter 24 Tryz.func73 rfl rfl rfl (C_seq (C_reg (li rfl (D_box rfl rfl rfl rfl rfl fun g5 => ?_))))
 refine p1 rfl (D_end (x_then (D_H ([bx g5 [(.string f.Rel), u2]]) rfl (C_seq (C_seq (C_reg (p1 rfl (D_end (x_then (C_block (C_loop (fun m_ ac w' => ∃ (k : Nat), (k ≤ l.length) ∧ (∀ i, i < k → ∀ y, l[i]? = some y → y.Fact ≠ f) ∧ m_ = l.length - k ∧ Fits ac 24 [(0, v_l), (3, (.pointer (some ⟨g5, 0, none⟩))), (5, (.int .i64 ((k : Nat) : Int)))] ∧ St w ([bx g5 [(.string f.Rel), u2]]) w') ?_ ?_)))))))))))
 ·refine fun ac w' hf hs => ⟨_, 0, ?_, ?_, rfl, hf.weak ⟨rfl, rfl, rfl, trivial⟩, hs⟩
  ·first | assumption | omega | simp
  ·intro i hi; omega
 ·rintro m_ ac w' ⟨k, hk, hi, rfl, hf, hs⟩
  refine D.use ?_ hf hs
  clear hf hs ac w'
  refine C_seq (C_seq (C_reg (p1 rfl <| p1 rfl (q1 rfl (D_len s_42 rfl rfl (rd_sl h_l)) (p1 rfl (D_end (x_then (C_if _ rfl (fun h6 => ?_) (fun h6 => ?_)))))))))
  ·have pr6 : (((k : Nat) : Int) : Int) < ((l.length : Nat) : Int) := of_decide_eq_true h6
   refine C_skip (x_then (C_seq (C_block (C_seq (C_draw mixed [6] (by kernel_rfl) (tk 0 rfl (by kernel_rfl) (by kernel_rfl) (by kernel_rfl) rfl (fun _ hs => hs) (rp rfl) (tk 1 rfl (by kernel_rfl) (by kernel_rfl) (by kernel_rfl) rfl (fun _ hs => hs) (rp rfl) ?_)))))))
   obtain ⟨s0, s0h⟩ := some_of_lt (l := l) (i := k) (by omega)
   obtain ⟨es7, at8, hr9⟩ := rd_elem (n := 3) rfl h_l s0h
   obtain ⟨u10, rfl, hu11⟩ := open_Stamp hr9
   have hm12 := rd_max hu11
   have hb13 := sub_Stamp_Fact hr9
   refine tk 2 rfl (by kernel_rfl) (by kernel_rfl) (by kernel_rfl) rfl (fun _ hs => hs) (D_ix (l := l) (j := k) s_42 rfl rfl rfl (fun w' hs => (rd_at hs h_l)) rfl (lt_of_some s0h)) (tk 3 rfl (by kernel_rfl) (by kernel_rfl) (by kernel_rfl) rfl (fun _ hs => hs) (D_fa f_100_0 rfl rfl) (tk 4 rfl (by kernel_rfl) (by kernel_rfl) (by kernel_rfl) rfl (fun _ hs => hs) (lra a_70 rfl rfl (at_sub (f := 0) (n := 2) at8 rfl)) (tk 5 rfl (by kernel_rfl) (by kernel_rfl) (by kernel_rfl) rfl (fun _ hs => hs) (lbw 0 a_70 rfl rfl rfl) (ty 6 rfl (by kernel_rfl) rfl (cv b_128 rfl rfl rfl rfl (fun w' hs => (spec_l2Same w' [(.string s0.Fact.Rel), u10] s0.Fact [(.string f.Rel), u2] f (rd_at hs hb13) (rd_at hs h_f))) ?_)))))
   refine tZ rfl (tE (by kernel_rfl) (x_then (C_if _ rfl (fun h14 => ?_) (fun h14 => ?_))))
   ·refine C_seq (C_reg (p1 rfl <| p1 rfl (q1 rfl (D_ix (l := l) (j := k) s_42 rfl rfl rfl (fun w' hs => (rd_at hs h_l)) rfl (lt_of_some s0h)) (q1 rfl (D_fa f_100_1 rfl rfl) (q1 rfl (lr o_3 rfl rfl at8 rfl) (p1 rfl (D_end (x_then (C_ret (x_blk_ret (x_then_ret ?_)))))))))))
    refine x_then_ret (x_blk_ret (x_then_ret (Ri rfl rfl ?_)))
    show (s0.Time : Int) = _
    exact timeOf_t s0h (by simp_all) hi
   ·refine C_skip (x_blk (x_then (C_reg (p1 rfl (q1 rfl (D_add rfl rfl rfl (r := ((k + 1 : Nat) : Int)) (by omega) (by omega)) (p1 rfl (D_end (x_then (fun ac w' hf hs => ⟨_, ?_, k + 1, ?_, ?_, rfl, hf.weak ⟨rfl, rfl, rfl, trivial⟩, hs⟩)))))))))
    ·omega
    ·first | assumption | omega | simp
    ·refine forall_step hi ?_; intro y hy; obtain rfl : y = s0 := Option.some.inj (hy.symm.trans s0h); simp_all
  ·have pr6 : ¬ (((k : Nat) : Int) : Int) < ((l.length : Nat) : Int) := of_decide_eq_false h6
   refine C_exit (x_then_exit (x_then_exit (x_blk_eq (x_then (C_seq (C_reg (p1 rfl (D_end (x_then (C_ret (Ri rfl rfl ?_)))))))))))
   show (0 : Int) = _
   exact timeOf_n (fun i h => hi i (by omega))

theorem impl_hasStamp (w : World) (v_l : Value) (l : (List Stamp)) (c_f : List Value) (f : Fact) (h_l : Gd.rd w [v_l] l) (h_f : Gd.rd w c_f f) : Calls Tryz.prog 80 [v_l, (.agg c_f.toArray)].toArray w (Val w (.bool (hasSt l f))) := by
 have hm1 := rd_max h_l
 obtain ⟨u2, rfl, hu3⟩ := open_Fact h_f
 have hm4 := rd_max hu3
 refine enter 18 Tryz.func80 rfl rfl rfl (C_seq (C_reg (li rfl (D_box rfl rfl rfl rfl rfl fun g5 => ?_))))
 refine p1 rfl (D_end (x_then (D_H ([bx g5 [(.string f.Rel), u2]]) rfl (C_seq (C_seq (C_reg (p1 rfl (q1 rfl (D_len s_42 rfl rfl (rd_sl h_l)) (p1 rfl (D_end (x_then ?_)))))))))))
 refine C_block (C_loop (fun m_ ac w' => ∃ (k : Nat), (k ≤ l.length) ∧ (∀ i, i < k → ∀ y, l[i]? = some y → y.Fact ≠ f) ∧ m_ = l.length - k ∧ Fits ac 18 [(3, (.pointer (some ⟨g5, 0, none⟩))), (7, v_l), (8, (.int .i64 ((l.length : Nat) : Int))), (9, (.int .i64 ((k : Nat) : Int)))] ∧ St w ([bx g5 [(.string f.Rel), u2]]) w') ?_ ?_)
 ·refine fun ac w' hf hs => ⟨_, 0, ?_, ?_, rfl, hf.weak ⟨rfl, rfl, rfl, rfl, trivial⟩, hs⟩
  ·first | assumption | omega | simp
  ·intro i hi; omega
 ·rintro m_ ac w' ⟨k, hk, hi, rfl, hf, hs⟩
  refine D.use ?_ hf hs
  clear hf hs ac w'
  refine C_seq (C_reg (p1 rfl (D_end (x_then (C_seq (C_if _ rfl (fun h6 => ?_) (fun h6 => ?_)))))))
  ·have pr6 : (((k : Nat) : Int) : Int) < ((l.length : Nat) : Int) := of_decide_eq_true h6
   refine C_skip (x_then (C_seq (C_block (C_seq (C_reg ?_)))))
   obtain ⟨s0, s0h⟩ := some_of_lt (l := l) (i := k) (by omega)
   obtain ⟨es7, at8, hr9⟩ := rd_elem (n := 3) rfl h_l s0h
   obtain ⟨u10, rfl, hu11⟩ := open_Stamp hr9
   have hm12 := rd_max hu11
   have hb13 := sub_Stamp_Fact hr9
   refine q1 rfl (D_ix (l := l) (j := k) s_42 rfl rfl rfl (fun w' hs => (rd_at hs h_l)) rfl (lt_of_some s0h)) (q1 rfl (lra a_100 rfl rfl at8) (li rfl (D_alloc y_100 rfl rfl rfl rfl fun g14 => ?_)))
   refine li rfl (D_stb (vs := [(.string s0.Fact.Rel), u10, (.int .i64 s0.Time)]) (cs' := [(.string s0.Fact.Rel), u10, (.int .i64 s0.Time)]) 0 z_100 rfl rfl rfl rfl rfl rfl (ocons rfl (ocons (one_rd hu11) (ocons rfl onil))) (by simp) rfl ?_)
   refine D_end (x_then (D_H ([bx g14 [(.string s0.Fact.Rel), u10, (.int .i64 s0.Time)], bx g5 [(.string f.Rel), u2]]) rfl (C_seq (C_reg (q1 rfl (D_fb f_100_0 rfl rfl (q := 0) rfl) (q1 rfl (lba (es := [(.string s0.Fact.Rel), u10]) 0 a_70 rfl rfl rfl rfl) (q1 rfl (lbw 1 a_70 rfl rfl rfl) (li rfl (cv b_138 rfl rfl rfl rfl (fun w' hs => (impl_sameFact w' [(.string s0.Fact.Rel), u10] s0.Fact [(.string f.Rel), u2] f (rd_at hs hb13) (rd_at hs h_f))) ?_)))))))))
   refine D_end (x_then (C_if _ rfl (fun h15 => ?_) (fun h15 => ?_)))
   ·refine C_seq (C_reg (p1 rfl (D_end (x_then (C_ret (x_blk_ret (x_then_ret (x_then_ret (x_blk_ret (x_then_ret (Rb rfl rfl ?_)))))))))))
    exact hasSt_t s0h (by simp_all) hi
   ·refine C_skip (x_blk (x_then (C_reg (q1 rfl (D_add rfl rfl rfl (r := ((k + 1 : Nat) : Int)) (by omega) (by omega)) (p1 rfl (D_end (x_then (fun ac w' hf hs => ⟨_, ?_, k + 1, ?_, ?_, rfl, hf.weak ⟨rfl, rfl, rfl, rfl, trivial⟩, hs.pk [1] rfl rfl⟩))))))))
    ·omega
    ·first | assumption | omega | simp
    ·refine forall_step hi ?_; intro y hy; obtain rfl : y = s0 := Option.some.inj (hy.symm.trans s0h); simp_all
  ·have pr6 : ¬ (((k : Nat) : Int) : Int) < ((l.length : Nat) : Int) := of_decide_eq_false h6
   refine C_exit (x_then_exit (x_then_exit (x_blk_eq (x_then (C_seq (C_reg (p1 rfl (D_end (x_then (C_ret (Rb rfl rfl ?_)))))))))))
   exact hasSt_n (fun i h => hi i (by omega))

theorem impl_TimesOf (w : World) (v_l : Value) (l : (List Stamp)) (v_facts : Value) (facts : (List Fact)) (h_l : Gd.rd w [v_l] l) (h_facts : Gd.rd w [v_facts] facts) (hn : facts.length ≤ 1048576) : Calls Tryz.prog 113 [v_l, v_facts].toArray w (Res w (timesOf l facts : List Int)) := by
 have hm1 := rd_max h_l
 have hm2 := rd_max h_facts
 refine enter 22 Tryz.func113 rfl rfl rfl (C_seq (C_reg (p1 rfl (D_end (x_then (C_seq (C_reg (p1 rfl (D_end (x_then (C_seq ?_)))))))))))
 refine C_seq (C_reg (p1 rfl (q1 rfl (D_len s_31 rfl rfl (rd_sl h_facts)) (p1 rfl (D_end (x_then (C_block (C_loop (fun m_ ac w' => ∃ (k : Nat), ∃ (v : Value), (k ≤ facts.length) ∧ m_ = facts.length - k ∧ Fits ac 22 [(0, v_l), (5, v), (8, v_facts), (9, (.int .i64 ((facts.length : Nat) : Int))), (10, (.int .i64 ((k : Nat) : Int)))] ∧ St w ([ov [v] (timesOf l (facts.take k) : (List Int))]) w') ?_ ?_))))))))
 ·refine D_nil (α := Int) (D_eq 0 rfl (show ([] : (List Int)) = timesOf l (facts.take 0) from by exact timesOf_z l facts) (fun ac w' hf hs => ⟨_, 0, (.slice none 0 0), ?_, rfl, hf.weak ⟨rfl, rfl, rfl, rfl, rfl, trivial⟩, hs⟩))
  ·first | assumption | omega | simp
 ·rintro m_ ac w' ⟨k, v, hk, rfl, hf, hs⟩
  refine D.use ?_ hf hs
  clear hf hs ac w'
  have hcl := timesOf_len l facts k
  refine C_seq (C_reg (p1 rfl (D_end (x_then (D_H ([ov [v] (timesOf l (facts.take k) : (List Int))]) rfl (C_seq (C_if _ rfl (fun h3 => ?_) (fun h3 => ?_))))))))
  ·have pr3 : (((k : Nat) : Int) : Int) < ((facts.length : Nat) : Int) := of_decide_eq_true h3
   refine C_skip (x_then (C_seq (C_block (C_seq (C_reg ?_)))))
   obtain ⟨f0, f0h⟩ := some_of_lt (l := facts) (i := k) (by omega)
   obtain ⟨es4, at5, hr6⟩ := rd_elem (n := 2) rfl h_facts f0h
   obtain ⟨u7, rfl, hu8⟩ := open_Fact hr6
   have hm9 := rd_max hu8
   refine q1 rfl (D_ix (l := facts) (j := k) s_31 rfl rfl rfl (fun w' hs => (rd_at hs h_facts)) rfl (lt_of_some f0h)) (q1 rfl (lra a_70 rfl rfl at5) (li rfl (D_alloc y_70 rfl rfl rfl rfl fun g10 => ?_)))
   refine li rfl (D_stb (vs := [(.string f0.Rel), u7]) (cs' := [(.string f0.Rel), u7]) 0 z_70 rfl rfl rfl rfl rfl rfl (ocons rfl (ocons (one_rd hu8) onil)) (by simp) rfl ?_)
   refine D_end (x_then (D_H ([bx g10 [(.string f0.Rel), u7], ov [v] (timesOf l (facts.take k) : (List Int))]) rfl (C_reg (p1 rfl <| p1 rfl (q1 rfl (lbw 0 a_70 rfl rfl rfl) (li rfl (cv b_173 rfl rfl rfl rfl (fun w' hs => (impl_TimeOf w' v_l l [(.string f0.Rel), u7] f0 (rd_at hs h_l) (rd_at hs hr6))) ?_)))))))
   refine li rfl (D_bs s_35 y_3 rfl (by decide) (by decide) rfl rfl rfl rfl rfl rfl fun g11 => ?_)
   refine D_fi (timeOf l f0) (D_pk (H' := [ov [v] (timesOf l (facts.take k) : (List Int)), ov [(.int .i64 (timeOf l f0))] ((timeOf l f0) : Int), bx g11 [(.int .i64 (timeOf l f0))], bx g10 [(.string f0.Rel), u7]]) [3, 0, 1, 2] rfl rfl (li rfl (D_ap s_35 y_3 rfl (by decide) rfl rfl rfl rfl rfl rfl (by first | omega | (simp; omega)) (by first | omega | (simp; omega)) fun v12 => ?_)))
   refine p1 rfl (D_end (x_blk (x_then (D_H ([ov [v12] ((timesOf l (facts.take k)) ++ [(timeOf l f0)] : (List Int)), bx g10 [(.string f0.Rel), u7]]) rfl (C_reg (q1 rfl (D_add rfl rfl rfl (r := ((k + 1 : Nat) : Int)) (by omega) (by omega)) (p1 rfl (D_end (x_then (D_eq 0 rfl (show ((timesOf l (facts.take k)) ++ [(timeOf l f0)] : (List Int)) = timesOf l (facts.take (k + 1)) from by exact timesOf_s f0h) (fun ac w' hf hs => ⟨_, ?_, k + 1, v12, ?_, rfl, hf.weak ⟨rfl, rfl, rfl, rfl, rfl, trivial⟩, hs.pk [0] rfl rfl⟩)))))))))))
   ·omega
   ·first | assumption | omega | simp
  ·have pr3 : ¬ (((k : Nat) : Int) : Int) < ((facts.length : Nat) : Int) := of_decide_eq_false h3
   refine C_exit (x_then_exit (x_then_exit (x_blk_eq (x_then (C_seq (C_reg (p1 rfl <| p1 rfl (D_end (x_then (C_ret (R_1 rfl rfl fun w' hs => res_of (k := 0) hs rfl ?_)))))))))))
   show timesOf l (facts.take k) = timesOf l facts
   rw [List.take_of_length_le (by omega)]

theorem spec_TimesOf (w : World) (v_l : Value) (l : (List Stamp)) (v_facts : Value) (facts : (List Fact)) (h_l : Gd.rd w [v_l] l) (h_facts : Gd.rd w [v_facts] facts) (hn : facts.length ≤ 1048576) : Calls Tryz.prog 41 [v_l, v_facts].toArray w (Res w (timesOf l facts : List Int)) := by
 have hm1 := rd_max h_l
 have hm2 := rd_max h_facts
 refine enter 24 Tryz.func41 rfl rfl rfl (C_seq (C_reg (p1 rfl (D_end (x_then (C_seq (C_reg (li rfl (D_bs0 (α := Int) s_35 rfl rfl rfl fun v3 => ?_)))))))))
 refine p1 rfl (D_end (x_then (D_H ([ov [v3] ([] : (List Int))]) rfl (C_seq (C_seq (C_reg (p1 rfl (D_end (x_then (C_block (C_loop (fun m_ ac w' => ∃ (k : Nat), ∃ (v : Value), (k ≤ facts.length) ∧ m_ = facts.length - k ∧ Fits ac 24 [(0, v_l), (1, v_facts), (5, v), (6, (.int .i64 ((k : Nat) : Int)))] ∧ St w ([ov [v] (timesOf l (facts.take k) : (List Int))]) w') ?_ ?_)))))))))))
 ·refine D_eq 0 rfl (show ([] : (List Int)) = timesOf l (facts.take 0) from by exact timesOf_z l facts) (fun ac w' hf hs => ⟨_, 0, v3, ?_, rfl, hf.weak ⟨rfl, rfl, rfl, rfl, trivial⟩, hs⟩)
  ·first | assumption | omega | simp
 ·rintro m_ ac w' ⟨k, v, hk, rfl, hf, hs⟩
  refine D.use ?_ hf hs
  clear hf hs ac w'
  have hcl := timesOf_len l facts k
  refine C_seq (C_seq (C_reg (p1 rfl <| p1 rfl (q1 rfl (D_len s_31 rfl rfl (rd_sl h_facts)) (p1 rfl (D_end (x_then (D_H ([ov [v] (timesOf l (facts.take k) : (List Int))]) rfl (C_if _ rfl (fun h4 => ?_) (fun h4 => ?_))))))))))
  ·have pr4 : (((k : Nat) : Int) : Int) < ((facts.length : Nat) : Int) := of_decide_eq_true h4
   refine C_skip (x_then (C_seq (C_block (C_reg (p1 rfl <| p1 rfl <| p1 rfl <| p1 rfl ?_)))))
   obtain ⟨f0, f0h⟩ := some_of_lt (l := facts) (i := k) (by omega)
   obtain ⟨es5, at6, hr7⟩ := rd_elem (n := 2) rfl h_facts f0h
   obtain ⟨u9, rfl, hu10⟩ := open_Fact hr7
   have hm11 := rd_max hu10
   refine q1 rfl (D_ix (l := facts) (j := k) s_31 rfl rfl rfl (fun w' hs => (rd_at hs h_facts)) rfl (lt_of_some f0h)) (q1 rfl (lra a_70 rfl rfl at6) (li rfl (cv b_73 rfl rfl rfl rfl (fun w' hs => (spec_TimeOf w' v_l l [(.string f0.Rel), u9] f0 (rd_at hs h_l) (rd_at hs hr7))) ?_)))
   refine li rfl (D_bs s_35 y_3 rfl (by decide) (by decide) rfl rfl rfl rfl rfl rfl fun g12 => ?_)
   refine D_fi (timeOf l f0) (D_pk (H' := [ov [v] (timesOf l (facts.take k) : (List Int)), ov [(.int .i64 (timeOf l f0))] ((timeOf l f0) : Int), bx g12 [(.int .i64 (timeOf l f0))]]) [2, 0, 1] rfl rfl (li rfl (D_ap s_35 y_3 rfl (by decide) rfl rfl rfl rfl rfl rfl (by first | omega | (simp; omega)) (by first | omega | (simp; omega)) fun v13 => ?_)))
   refine p1 rfl (D_end (x_blk (x_then (D_H ([ov [v13] ((timesOf l (facts.take k)) ++ [(timeOf l f0)] : (List Int))]) rfl (C_reg (p1 rfl (q1 rfl (D_add rfl rfl rfl (r := ((k + 1 : Nat) : Int)) (by omega) (by omega)) (p1 rfl (D_end (x_then (D_eq 0 rfl (show ((timesOf l (facts.take k)) ++ [(timeOf l f0)] : (List Int)) = timesOf l (facts.take (k + 1)) from by exact timesOf_s f0h) ?_)))))))))))
   refine fun ac w' hf hs => ⟨_, ?_, k + 1, v13, ?_, rfl, hf.weak ⟨rfl, rfl, rfl, rfl, trivial⟩, hs⟩
   ·omega
   ·first | assumption | omega | simp
  ·have pr4 : ¬ (((k : Nat) : Int) : Int) < ((facts.length : Nat) : Int) := of_decide_eq_false h4
   refine C_exit (x_then_exit (x_then_exit (x_blk_eq (x_then (C_seq (C_reg (p1 rfl <| p1 rfl (D_end (x_then (C_ret (R_1 rfl rfl fun w' hs => res_of (k := 0) hs rfl ?_)))))))))))
   show timesOf l (facts.take k) = timesOf l facts
   rw [List.take_of_length_le (by omega)]

theorem impl_Specificity (w : World) (c_r : List Value) (r : Rule) (h_r : Gd.rd w c_r r) (hn : szRule r ≤ 1048576) : Calls Tryz.prog 114 [(.agg c_r.toArray)].toArray w (Val w (.int .i64 ((specN r : Int)))) := by
 obtain ⟨u1, u3, rfl, hu2, hu4⟩ := open_Rule h_r
 have hm5 := rd_max hu2
 have hm6 := rd_max hu4
 unfold szRule szL at hn
 refine enter 33 Tryz.func114 rfl rfl rfl (C_seq (C_reg (li rfl (D_box rfl rfl rfl rfl rfl fun g7 => ?_))))
 refine p1 rfl (D_end (x_then (D_H ([bx g7 [(.string r.Name), (.int .i64 r.Priority), u1, u3]]) rfl (C_seq (C_reg (q1 rfl (D_fb f_96_2 rfl rfl (q := 2) rfl) (q1 rfl (lb 0 o_93 rfl rfl rfl rfl) (q1 rfl (D_len s_93 rfl rfl (rd_sl hu2)) (p1 rfl (D_end (x_then ?_)))))))))))
 refine C_seq (C_seq (C_reg (q1 rfl (D_fb f_96_2 rfl rfl (q := 2) rfl) (q1 rfl (lb 0 o_93 rfl rfl rfl rfl) (q1 rfl (D_len s_93 rfl rfl (rd_sl hu2)) (p1 rfl (D_end (x_then (C_block (C_loop (fun m_ ac w' => ∃ (k : Nat), ∃ (c : Nat), (k ≤ r.If.length) ∧ (c = r.If.length + sumC spC (r.If.take k)) ∧ m_ = r.If.length - k ∧ Fits ac 33 [(3, (.int .i64 ((c : Nat) : Int))), (12, u1), (13, (.int .i64 ((r.If.length : Nat) : Int))), (14, (.int .i64 ((k : Nat) : Int)))] ∧ St w ([bx g7 [(.string r.Name), (.int .i64 r.Priority), u1, u3]]) w') ?_ ?_))))))))))
 ·refine fun ac w' hf hs => ⟨_, 0, r.If.length, ?_, ?_, rfl, hf.weak ⟨rfl, rfl, rfl, rfl, trivial⟩, hs⟩
  ·first | assumption | omega | simp
  ·simp [sumC]
 ·rintro m_ ac w' ⟨k, c, hk, hc, rfl, hf, hs⟩
  refine D.use ?_ hf hs
  clear hf hs ac w'
  have hc1 := spC_take r.If k
  have hc2 := spC_sum r.If
  refine C_seq (C_reg (p1 rfl (D_end (x_then (C_seq (C_if _ rfl (fun h8 => ?_) (fun h8 => ?_)))))))
  ·have pr8 : (((k : Nat) : Int) : Int) < ((r.If.length : Nat) : Int) := of_decide_eq_true h8
   refine C_skip (x_then (C_seq (C_block (C_seq (C_reg ?_)))))
   obtain ⟨x0, x0h⟩ := some_of_lt (l := r.If) (i := k) (by omega)
   obtain ⟨es9, at10, hr11⟩ := rd_elem (n := 5) rfl hu2 x0h
   obtain ⟨u12, rfl, hu13⟩ := open_Cond hr11
   have hm14 := rd_max hu13
   have hb15 := sub_Cond_Pattern hr11
   refine q1 rfl (D_ix (l := r.If) (j := k) s_93 rfl rfl rfl (fun w' hs => (rd_at hs hu2)) rfl (lt_of_some x0h)) (q1 rfl (lra a_147 rfl rfl at10) (li rfl (D_alloc y_147 rfl rfl rfl rfl fun g16 => ?_)))
   refine li rfl (D_stb (vs := [(.int .i64 x0.Kind), (.string x0.Pattern.Rel), u12, (.string x0.Left), (.string x0.Right)]) (cs' := [(.int .i64 x0.Kind), (.string x0.Pattern.Rel), u12, (.string x0.Left), (.string x0.Right)]) 0 z_147 rfl rfl rfl rfl rfl rfl (ocons rfl (ocons rfl (ocons (one_rd hu13) (ocons rfl (ocons rfl onil))))) (by simp) rfl ?_)
   refine D_end (x_then (D_H ([bx g16 [(.int .i64 x0.Kind), (.string x0.Pattern.Rel), u12, (.string x0.Left), (.string x0.Right)], bx g7 [(.string r.Name), (.int .i64 r.Priority), u1, u3]]) rfl (C_seq (C_reg (q1 rfl (D_fb f_147_1 rfl rfl (q := 1) rfl) (q1 rfl (D_fb f_145_1 rfl rfl (q := 2) rfl) (q1 rfl (lb 0 o_58 rfl rfl rfl rfl) (q1 rfl (D_len s_58 rfl rfl (rd_sl hu13)) (p1 rfl (D_end (x_then ?_)))))))))))
   refine C_block (C_loop (fun m_ ac w' => ∃ (j : Nat), ∃ (d : Nat), (j ≤ x0.Pattern.Args.length) ∧ (d = c + atC (x0.Pattern.Args.take j)) ∧ m_ = x0.Pattern.Args.length - j ∧ Fits ac 33 [(3, (.int .i64 ((d : Nat) : Int))), (12, u1), (13, (.int .i64 ((r.If.length : Nat) : Int))), (14, (.int .i64 ((k : Nat) : Int))), (20, u12), (21, (.int .i64 ((x0.Pattern.Args.length : Nat) : Int))), (22, (.int .i64 ((j : Nat) : Int)))] ∧ St w ([bx g16 [(.int .i64 x0.Kind), (.string x0.Pattern.Rel), u12, (.string x0.Left), (.string x0.Right)], bx g7 [(.string r.Name), (.int .i64 r.Priority), u1, u3]]) w') ?_ ?_)
   ·refine fun ac w' hf hs => ⟨_, 0, c, ?_, ?_, rfl, hf.weak ⟨rfl, rfl, rfl, rfl, rfl, rfl, rfl, trivial⟩, hs⟩
    ·first | assumption | omega | simp
    ·simp [atC]
   ·rintro m_ ac w' ⟨j, d, hj, hd, rfl, hf, hs⟩
    refine D.use ?_ hf hs
    clear hf hs ac w'
    have hd1 := atC_le (x0.Pattern.Args.take j)
    have hd2 : (x0.Pattern.Args.take j).length ≤ j := by rw [List.length_take]; omega
    have hd3 := szCond_args x0
    have hd4 := cond_sz x0h
    refine C_seq (C_reg (p1 rfl (D_end (x_then (C_seq (C_if _ rfl (fun h17 => ?_) (fun h17 => ?_)))))))
    ·have pr17 : (((j : Nat) : Int) : Int) < ((x0.Pattern.Args.length : Nat) : Int) := of_decide_eq_true h17
     refine C_skip (x_then (C_seq (C_block (C_seq (C_reg ?_)))))
     obtain ⟨a0, a0h⟩ := some_of_lt (l := x0.Pattern.Args) (i := j) (by omega)
     obtain ⟨es18, at19, hr20⟩ := rd_elem (n := 1) rfl hu13 a0h
     obtain rfl : es18 = [.string a0] := hr20
     refine q1 rfl (D_ix (l := x0.Pattern.Args) (j := j) s_58 rfl rfl rfl (fun w' hs => (rd_at hs hu13)) rfl (lt_of_some a0h)) (q1 rfl (lr0 o_9 rfl rfl at19 rfl) (p1 rfl (D_end (x_then (C_seq (C_reg (p1 rfl (li rfl (cv b_148 rfl rfl rfl rfl (fun w' hs => (impl_IsAtom w' a0)) ?_)))))))))
     refine D_end (x_then (C_if _ rfl (fun h21 => ?_) (fun h21 => ?_)))
     ·refine C_reg (p1 rfl (q1 rfl (D_add rfl rfl rfl (r := ((d + 1 : Nat) : Int)) (by omega) (by omega)) (p1 rfl (D_end (x_blk (x_then (C_reg (q1 rfl (D_add rfl rfl rfl (r := ((j + 1 : Nat) : Int)) (by omega) (by omega)) (p1 rfl (D_end (x_then ?_)))))))))))
      refine fun ac w' hf hs => ⟨_, ?_, j + 1, d + 1, ?_, ?_, rfl, hf.weak ⟨rfl, rfl, rfl, rfl, rfl, rfl, rfl, trivial⟩, hs⟩
      ·omega
      ·first | assumption | omega | simp
      ·first | (have := atC_t a0h (by assumption); omega) | (have := atC_f a0h (by assumption); omega)
     ·refine C_skip (x_blk (x_then (C_reg (q1 rfl (D_add rfl rfl rfl (r := ((j + 1 : Nat) : Int)) (by omega) (by omega)) (p1 rfl (D_end (x_then (fun ac w' hf hs => ⟨_, ?_, j + 1, d, ?_, ?_, rfl, hf.weak ⟨rfl, rfl, rfl, rfl, rfl, rfl, rfl, trivial⟩, hs⟩))))))))
      ·omega
      ·first | assumption | omega | simp
      ·first | (have := atC_t a0h (by assumption); omega) | (have := atC_f a0h (by assumption); omega)
    ·have pr17 : ¬ (((j : Nat) : Int) : Int) < ((x0.Pattern.Args.length : Nat) : Int) := of_decide_eq_false h17
     refine C_exit (x_then_exit (x_then_exit (x_blk_eq (x_blk (x_then (C_reg (q1 rfl (D_add rfl rfl rfl (r := ((k + 1 : Nat) : Int)) (by omega) (by omega)) (p1 rfl (D_end (x_then (fun ac w' hf hs => ⟨_, ?_, k + 1, d, ?_, ?_, rfl, hf.weak ⟨rfl, rfl, rfl, rfl, trivial⟩, hs.pk [1] rfl rfl⟩)))))))))))
     ·omega
     ·first | assumption | omega | simp
     ·have hst := sumC_take (c := spC) x0h; have hse := spC_end (x := x0) (k := j) (by omega); omega
  ·have pr8 : ¬ (((k : Nat) : Int) : Int) < ((r.If.length : Nat) : Int) := of_decide_eq_false h8
   refine C_exit (x_then_exit (x_then_exit (x_blk_eq (x_then (C_seq (C_reg (p1 rfl <| p1 rfl (D_end (x_then (C_ret (Ri rfl rfl ?_)))))))))))
   show (((c : Nat) : Int) : Int) = _
   unfold specN; rw [List.take_of_length_le (by omega)] at hc; omega

theorem spec_Specificity (w : World) (c_r : List Value) (r : Rule) (h_r : Gd.rd w c_r r) (hn : szRule r ≤ 1048576) (ho : okRule r) : Calls Tryz.prog 46 [(.agg c_r.toArray)].toArray w (Val w (.int .i64 ((specN r : Int)))) := by
 obtain ⟨u1, u3, rfl, hu2, hu4⟩ := open_Rule h_r
 have hm5 := rd_max hu2
 have hm6 := rd_max hu4
 unfold szRule szL at hn
 refine enter 42 Tryz.func46 rfl rfl rfl (C_seq (C_reg (li rfl (D_box rfl rfl rfl rfl rfl fun g7 => ?_))))
 refine p1 rfl (D_end (x_then (D_H ([bx g7 [(.string r.Name), (.int .i64 r.Priority), u1, u3]]) rfl (C_seq (C_reg (q1 rfl (D_fb f_96_2 rfl rfl (q := 2) rfl) (q1 rfl (lb 0 o_93 rfl rfl rfl rfl) (q1 rfl (D_len s_93 rfl rfl (rd_sl hu2)) (p1 rfl (D_end (x_then ?_)))))))))))
 refine C_seq (C_seq (C_reg (p1 rfl (D_end (x_then (C_block (C_loop (fun m_ ac w' => ∃ (k : Nat), ∃ (c : Nat), (k ≤ r.If.length) ∧ (c = r.If.length + sumC spC (r.If.take k)) ∧ m_ = r.If.length - k ∧ Fits ac 42 [(1, (.pointer (some ⟨g7, 0, none⟩))), (3, (.int .i64 ((c : Nat) : Int))), (4, (.int .i64 ((k : Nat) : Int)))] ∧ St w ([bx g7 [(.string r.Name), (.int .i64 r.Priority), u1, u3]]) w') ?_ ?_)))))))
 ·refine fun ac w' hf hs => ⟨_, 0, r.If.length, ?_, ?_, rfl, hf.weak ⟨rfl, rfl, rfl, trivial⟩, hs⟩
  ·first | assumption | omega | simp
  ·simp [sumC]
 ·rintro m_ ac w' ⟨k, c, hk, hc, rfl, hf, hs⟩
  refine D.use ?_ hf hs
  clear hf hs ac w'
  have hc1 := spC_take r.If k
  have hc2 := spC_sum r.If
  refine C_seq (C_seq (C_reg (p1 rfl (q1 rfl (D_fb f_96_2 rfl rfl (q := 2) rfl) (q1 rfl (lb 0 o_93 rfl rfl rfl rfl) (q1 rfl (D_len s_93 rfl rfl (rd_sl hu2)) (p1 rfl (D_end (x_then (C_if _ rfl (fun h8 => ?_) (fun h8 => ?_)))))))))))
  ·have pr8 : (((k : Nat) : Int) : Int) < ((r.If.length : Nat) : Int) := of_decide_eq_true h8
   refine C_skip (x_then (C_seq (C_block (C_seq ?_))))
   obtain ⟨x0, x0h⟩ := some_of_lt (l := r.If) (i := k) (by omega)
   obtain ⟨es9, at10, hr11⟩ := rd_elem (n := 5) rfl hu2 x0h
   obtain ⟨u12, rfl, hu13⟩ := open_Cond hr11
   have hm14 := rd_max hu13
   have hb15 := sub_Cond_Pattern hr11
   refine C_reg (p1 rfl (D_end (x_then (C_block (C_loop (fun m_ ac w' => ∃ (j : Nat), ∃ (d : Nat), (j ≤ x0.Pattern.Args.length) ∧ (d = c + atC (x0.Pattern.Args.take j)) ∧ m_ = x0.Pattern.Args.length - j ∧ Fits ac 42 [(1, (.pointer (some ⟨g7, 0, none⟩))), (3, (.int .i64 ((d : Nat) : Int))), (4, (.int .i64 ((k : Nat) : Int))), (5, (.int .i64 ((j : Nat) : Int)))] ∧ St w ([bx g7 [(.string r.Name), (.int .i64 r.Priority), u1, u3]]) w') ?_ ?_)))))
   ·refine fun ac w' hf hs => ⟨_, 0, c, ?_, ?_, rfl, hf.weak ⟨rfl, rfl, rfl, rfl, trivial⟩, hs⟩
    ·first | assumption | omega | simp
    ·simp [atC]
   ·rintro m_ ac w' ⟨j, d, hj, hd, rfl, hf, hs⟩
    refine D.use ?_ hf hs
    clear hf hs ac w'
    have hd1 := atC_le (x0.Pattern.Args.take j)
    have hd2 : (x0.Pattern.Args.take j).length ≤ j := by rw [List.length_take]; omega
    have hd3 := szCond_args x0
    have hd4 := cond_sz x0h
    refine C_seq (C_seq (C_reg (p1 rfl (q1 rfl (D_fb f_96_2 rfl rfl (q := 2) rfl) (q1 rfl (lb 0 o_93 rfl rfl rfl rfl) (p1 rfl (q1 rfl (D_ix (l := r.If) (j := k) s_93 rfl rfl rfl (fun w' hs => (rd_at hs hu2)) rfl (lt_of_some x0h)) (q1 rfl (D_fa f_147_1 rfl rfl) (q1 rfl (D_fa' f_145_1 rfl rfl (q := 2) rfl) (q1 rfl (lr o_58 rfl rfl at10 rfl) (q1 rfl (D_len s_58 rfl rfl (rd_sl hu13)) ?_)))))))))))
    refine p1 rfl (D_end (x_then (C_if _ rfl (fun h16 => ?_) (fun h16 => ?_))))
    ·have pr16 : (((j : Nat) : Int) : Int) < ((x0.Pattern.Args.length : Nat) : Int) := of_decide_eq_true h16
     refine C_skip (x_then (C_seq (C_block (C_seq (C_reg (q1 rfl (D_fb f_96_2 rfl rfl (q := 2) rfl) (q1 rfl (lb 0 o_93 rfl rfl rfl rfl) (p1 rfl (q1 rfl (D_ix (l := r.If) (j := k) s_93 rfl rfl rfl (fun w' hs => (rd_at hs hu2)) rfl (lt_of_some x0h)) (q1 rfl (D_fa f_147_1 rfl rfl) (q1 rfl (D_fa' f_145_1 rfl rfl (q := 2) rfl) ?_)))))))))))
     refine q1 rfl (lr o_58 rfl rfl at10 rfl) (p1 rfl ?_)
     obtain ⟨a0, a0h⟩ := some_of_lt (l := x0.Pattern.Args) (i := j) (by omega)
     obtain ⟨es17, at18, hr19⟩ := rd_elem (n := 1) rfl hu13 a0h
     obtain rfl : es17 = [.string a0] := hr19
     refine q1 rfl (D_ix (l := x0.Pattern.Args) (j := j) s_58 rfl rfl rfl (fun w' hs => (rd_at hs hu13)) rfl (lt_of_some a0h)) (q1 rfl (lr0 o_9 rfl rfl at18 rfl) (li rfl (cv b_104 rfl rfl rfl rfl (fun w' hs => (spec_IsAtom w' a0 ((ho.2.2.1 _ (List.mem_of_getElem? x0h)).2.1.2 _ (List.mem_of_getElem? a0h)))) ?_)))
     refine D_end (x_then (D_weak [(1, (.pointer (some ⟨g7, 0, none⟩))), (3, (.int .i64 ((d : Nat) : Int))), (4, (.int .i64 ((k : Nat) : Int))), (5, (.int .i64 ((j : Nat) : Int))), (38, (.bool (isAtomB a0)))] ⟨rfl, rfl, rfl, rfl, rfl, trivial⟩ (C_if _ rfl (fun h20 => ?_) (fun h20 => ?_))))
     ·refine C_reg (p1 rfl (q1 rfl (D_add rfl rfl rfl (r := ((d + 1 : Nat) : Int)) (by omega) (by omega)) (p1 rfl (D_end (x_blk (x_then (C_reg (p1 rfl (q1 rfl (D_add rfl rfl rfl (r := ((j + 1 : Nat) : Int)) (by omega) (by omega)) (p1 rfl (D_end ?_)))))))))))
      refine x_then (fun ac w' hf hs => ⟨_, ?_, j + 1, d + 1, ?_, ?_, rfl, hf.weak ⟨rfl, rfl, rfl, rfl, trivial⟩, hs⟩)
      ·omega
      ·first | assumption | omega | simp
      ·first | (have := atC_t a0h (by assumption); omega) | (have := atC_f a0h (by assumption); omega)
     ·refine C_skip (x_blk (x_then (C_reg (p1 rfl (q1 rfl (D_add rfl rfl rfl (r := ((j + 1 : Nat) : Int)) (by omega) (by omega)) (p1 rfl (D_end (x_then (fun ac w' hf hs => ⟨_, ?_, j + 1, d, ?_, ?_, rfl, hf.weak ⟨rfl, rfl, rfl, rfl, trivial⟩, hs⟩)))))))))
      ·omega
      ·first | assumption | omega | simp
      ·first | (have := atC_t a0h (by assumption); omega) | (have := atC_f a0h (by assumption); omega)
    ·have pr16 : ¬ (((j : Nat) : Int) : Int) < ((x0.Pattern.Args.length : Nat) : Int) := of_decide_eq_false h16
     refine C_exit (x_then_exit (x_then_exit (x_blk_eq (x_blk (x_then (C_reg (p1 rfl (q1 rfl (D_add rfl rfl rfl (r := ((k + 1 : Nat) : Int)) (by omega) (by omega)) (p1 rfl (D_end (x_then ?_)))))))))))
     refine fun ac w' hf hs => ⟨_, ?_, k + 1, d, ?_, ?_, rfl, hf.weak ⟨rfl, rfl, rfl, trivial⟩, hs⟩
     ·omega
     ·first | assumption | omega | simp
     ·have hst := sumC_take (c := spC) x0h; have hse := spC_end (x := x0) (k := j) (by omega); omega
  ·have pr8 : ¬ (((k : Nat) : Int) : Int) < ((r.If.length : Nat) : Int) := of_decide_eq_false h8
   refine C_exit (x_then_exit (x_then_exit (x_blk_eq (x_then (C_seq (C_reg (p1 rfl <| p1 rfl (D_end (x_then (C_ret (Ri rfl rfl ?_)))))))))))
   show (((c : Nat) : Int) : Int) = _
   unfold specN; rw [List.take_of_length_le (by omega)] at hc; omega

theorem impl_choiceOf (w : World) (v_rules : Value) (rules : (List Rule)) (v_l : Value) (l : (List Stamp)) (c_m : List Value) (m : Match) (h_rules : Gd.rd w [v_rules] rules) (h_l : Gd.rd w [v_l] l) (h_m : Gd.rd w c_m m) (hn : szL szRule rules ≤ 1048576) (hm : szMatch m ≤ 1048576) : Calls Tryz.prog 53 [v_rules, v_l, (.agg c_m.toArray)].toArray w (Res2 w (choT rules l m : Choice) (choB rules l m : Bool)) := by
 have hm1 := rd_max h_rules
 have hm2 := rd_max h_l
 obtain ⟨u3, u5, rfl, hu4, hu6⟩ := open_Match h_m
 have hm7 := rd_max hu4
 have hm8 := rd_max hu6
 have hm0 := hm
 unfold szMatch szL at hm
 have hfl := findT_lt rules m.Rule
 have hn0 := hn
 unfold szL at hn
 refine enter 49 Tryz.func53 rfl rfl rfl (C_seq (C_reg (li rfl (D_box rfl rfl rfl rfl rfl fun g9 => ?_))))
 refine li rfl (D_alloc y_37 rfl rfl rfl rfl fun g10 => ?_)
 refine p1 rfl (D_end (x_then (D_H ([bx g10 [(.string ⟨#[]⟩), (.slice none 0 0), (.slice none 0 0), (.int .i64 0), (.slice none 0 0), (.int .i64 0), (.int .i64 0)], bx g9 [(.string m.Rule), u3, u5]]) rfl (C_seq (C_reg (p1 rfl (q1 rfl (D_fb f_34_0 rfl rfl (q := 0) rfl) (q1 rfl (lb 1 o_9 rfl rfl rfl rfl) (li rfl (cv b_109 rfl rfl rfl rfl (fun w' hs => (impl_FindRule w' v_rules rules m.Rule (rd_at hs h_rules))) ?_))))))))))
 refine p1 rfl (D_end (x_then (C_seq (C_seq (C_reg (p1 rfl <| p1 rfl (D_end (x_then (C_if _ rfl (fun h11 => ?_) (fun h11 => ?_))))))))))
 ·have pr11 : ((findT rules m.Rule) : Int) < 0 := of_decide_eq_true h11
  refine C_seq (C_reg (q1 rfl (D_build (vs := []) (cs := [(.string ⟨#[]⟩), (.slice none 0 0), (.slice none 0 0), (.int .i64 0), (.slice none 0 0), (.int .i64 0), (.int .i64 0)]) rfl (fun _ => by kernel_rfl) rfl) (li rfl (D_stb (vs := [(.string ⟨#[]⟩), (.slice none 0 0), (.slice none 0 0), (.int .i64 0), (.slice none 0 0), (.int .i64 0), (.int .i64 0)]) (cs' := [(.string ⟨#[]⟩), (.slice none 0 0), (.slice none 0 0), (.int .i64 0), (.slice none 0 0), (.int .i64 0), (.int .i64 0)]) 0 z_37 rfl rfl rfl rfl rfl rfl (ocons rfl (ocons rfl (ocons rfl (ocons rfl (ocons rfl (ocons rfl (ocons rfl onil))))))) (by simp) rfl ?_))))
  refine p1 rfl (D_end (x_then (C_ret (x_then_ret (D_nil (α := Fact) (D_nil (α := Pair) (D_nil (α := Int) (D_pk (H' := [ov [(.slice none 0 0)] ([] : (List Fact)), ov [(.slice none 0 0)] ([] : (List Pair)), ov [(.slice none 0 0)] ([] : (List Int)), bx g10 [(.string ⟨#[]⟩), (.slice none 0 0), (.slice none 0 0), (.int .i64 0), (.slice none 0 0), (.int .i64 0), (.int .i64 0)], bx g9 [(.string m.Rule), u3, u5]]) [2, 1, 0, 3, 4] rfl rfl (pk_Choice (r := (⟨⟨⟨#[]⟩, [], []⟩, 0, [], 0, 0⟩ : Choice)) (D_fbool false (D_pk (H' := [ov [(.string ⟨#[]⟩), (.slice none 0 0), (.slice none 0 0), (.int .i64 0), (.slice none 0 0), (.int .i64 0), (.int .i64 0)] ((⟨⟨⟨#[]⟩, [], []⟩, 0, [], 0, 0⟩ : Choice) : Choice), ov [(.bool false)] (false : Bool), bx g10 [(.string ⟨#[]⟩), (.slice none 0 0), (.slice none 0 0), (.int .i64 0), (.slice none 0 0), (.int .i64 0), (.int .i64 0)], bx g9 [(.string m.Rule), u3, u5]]) [1, 0, 2, 3] rfl rfl ?_)))))))))))
  refine R_2g rfl (rvc (cs := [(.string ⟨#[]⟩), (.slice none 0 0), (.slice none 0 0), (.int .i64 0), (.slice none 0 0), (.int .i64 0), (.int .i64 0)]) 2 a_37 rfl rfl) (rvt rfl) fun w' hs => res2_of (c1 := [(.string ⟨#[]⟩), (.slice none 0 0), (.slice none 0 0), (.int .i64 0), (.slice none 0 0), (.int .i64 0), (.int .i64 0)]) (c2 := [(.bool false)]) hs ?_ ?_
  ·show ((⟨⟨⟨#[]⟩, [], []⟩, 0, [], 0, 0⟩ : Choice) : Choice) = choT rules l m
   first | exact (choT_n (cho_n1 (by omega))).1 | exact (choT_n (cho_n2 f0h (by simp_all))).1 | exact (choT_y (cho_y (by omega) (fun i h => hi i (by omega))) r0h).1 | exact (choT_n (cho_n1 (by omega))).2 | exact (choT_n (cho_n2 f0h (by simp_all))).2 | exact (choT_y (cho_y (by omega) (fun i h => hi i (by omega))) r0h).2
  ·show (false : Bool) = choB rules l m
   first | exact (choT_n (cho_n1 (by omega))).1 | exact (choT_n (cho_n2 f0h (by simp_all))).1 | exact (choT_y (cho_y (by omega) (fun i h => hi i (by omega))) r0h).1 | exact (choT_n (cho_n1 (by omega))).2 | exact (choT_n (cho_n2 f0h (by simp_all))).2 | exact (choT_y (cho_y (by omega) (fun i h => hi i (by omega))) r0h).2
 ·have pr11 : ¬ ((findT rules m.Rule) : Int) < 0 := of_decide_eq_false h11
  refine C_skip (x_then (C_seq (C_seq (C_reg (q1 rfl (D_fb f_34_1 rfl rfl (q := 1) rfl) (q1 rfl (lb 1 o_31 rfl rfl rfl rfl) (q1 rfl (D_len s_31 rfl rfl (rd_sl hu4)) (p1 rfl (D_end (x_then (C_block ?_)))))))))))
  refine C_loop (fun m_ ac w' => ∃ (k : Nat), (k ≤ m.Facts.length) ∧ (∀ i, i < k → ∀ f, m.Facts[i]? = some f → hasSt l f = true) ∧ m_ = m.Facts.length - k ∧ Fits ac 49 [(0, v_rules), (1, v_l), (5, (.pointer (some ⟨g9, 0, none⟩))), (6, (.pointer (some ⟨g10, 0, none⟩))), (8, (.int .i64 (findT rules m.Rule))), (19, u3), (20, (.int .i64 ((m.Facts.length : Nat) : Int))), (21, (.int .i64 ((k : Nat) : Int)))] ∧ St w ([bx g10 [(.string ⟨#[]⟩), (.slice none 0 0), (.slice none 0 0), (.int .i64 0), (.slice none 0 0), (.int .i64 0), (.int .i64 0)], bx g9 [(.string m.Rule), u3, u5]]) w') ?_ ?_
  ·refine fun ac w' hf hs => ⟨_, 0, ?_, ?_, rfl, hf.weak ⟨rfl, rfl, rfl, rfl, rfl, rfl, rfl, rfl, trivial⟩, hs⟩
   ·first | assumption | omega | simp
   ·intro i hi; omega
  ·rintro m_ ac w' ⟨k, hk, hi, rfl, hf, hs⟩
   refine D.use ?_ hf hs
   clear hf hs ac w'
   refine C_seq (C_reg (p1 rfl (D_end (x_then (C_seq (C_if _ rfl (fun h12 => ?_) (fun h12 => ?_)))))))
   ·have pr12 : (((k : Nat) : Int) : Int) < ((m.Facts.length : Nat) : Int) := of_decide_eq_true h12
    refine C_skip (x_then (C_seq (C_block (C_seq (C_reg ?_)))))
    obtain ⟨f0, f0h⟩ := some_of_lt (l := m.Facts) (i := k) (by omega)
    obtain ⟨es13, at14, hr15⟩ := rd_elem (n := 2) rfl hu4 f0h
    obtain ⟨u17, rfl, hu18⟩ := open_Fact hr15
    have hm19 := rd_max hu18
    refine q1 rfl (D_ix (l := m.Facts) (j := k) s_31 rfl rfl rfl (fun w' hs => (rd_at hs hu4)) rfl (lt_of_some f0h)) (q1 rfl (lra a_70 rfl rfl at14) (li rfl (D_alloc y_70 rfl rfl rfl rfl fun g20 => ?_)))
    refine li rfl (D_stb (vs := [(.string f0.Rel), u17]) (cs' := [(.string f0.Rel), u17]) 0 z_70 rfl rfl rfl rfl rfl rfl (ocons rfl (ocons (one_rd hu18) onil)) (by simp) rfl ?_)
    refine D_end (x_then (D_H ([bx g20 [(.string f0.Rel), u17], bx g10 [(.string ⟨#[]⟩), (.slice none 0 0), (.slice none 0 0), (.int .i64 0), (.slice none 0 0), (.int .i64 0), (.int .i64 0)], bx g9 [(.string m.Rule), u3, u5]]) rfl (C_seq (C_reg (p1 rfl (q1 rfl (lbw 0 a_70 rfl rfl rfl) (li rfl (cv b_80 rfl rfl rfl rfl (fun w' hs => (impl_hasStamp w' v_l l [(.string f0.Rel), u17] f0 (rd_at hs h_l) (rd_at hs hr15))) ?_))))))))
    refine p1 rfl (D_end (x_then (C_if _ rfl (fun h21 => ?_) (fun h21 => ?_))))
    ·have h21n : (hasSt l f0) = false := not_t h21
     refine C_seq (C_reg (q1 rfl (D_build (vs := []) (cs := [(.string ⟨#[]⟩), (.slice none 0 0), (.slice none 0 0), (.int .i64 0), (.slice none 0 0), (.int .i64 0), (.int .i64 0)]) rfl (fun _ => by kernel_rfl) rfl) (li rfl (D_stb (vs := [(.string ⟨#[]⟩), (.slice none 0 0), (.slice none 0 0), (.int .i64 0), (.slice none 0 0), (.int .i64 0), (.int .i64 0)]) (cs' := [(.string ⟨#[]⟩), (.slice none 0 0), (.slice none 0 0), (.int .i64 0), (.slice none 0 0), (.int .i64 0), (.int .i64 0)]) 1 z_37 rfl rfl rfl rfl rfl rfl (ocons rfl (ocons rfl (ocons rfl (ocons rfl (ocons rfl (ocons rfl (ocons rfl onil))))))) (by simp) rfl ?_))))
     refine p1 rfl (D_end (x_then (C_ret (x_blk_ret (x_then_ret (x_then_ret (x_blk_ret (x_then_ret (D_nil (α := Fact) (D_nil (α := Pair) (D_nil (α := Int) ?_)))))))))))
     refine D_pk (H' := [ov [(.slice none 0 0)] ([] : (List Fact)), ov [(.slice none 0 0)] ([] : (List Pair)), ov [(.slice none 0 0)] ([] : (List Int)), bx g20 [(.string f0.Rel), u17], bx g10 [(.string ⟨#[]⟩), (.slice none 0 0), (.slice none 0 0), (.int .i64 0), (.slice none 0 0), (.int .i64 0), (.int .i64 0)], bx g9 [(.string m.Rule), u3, u5]]) [2, 1, 0, 3, 4, 5] rfl rfl (pk_Choice (r := (⟨⟨⟨#[]⟩, [], []⟩, 0, [], 0, 0⟩ : Choice)) (D_fbool false (D_pk (H' := [ov [(.string ⟨#[]⟩), (.slice none 0 0), (.slice none 0 0), (.int .i64 0), (.slice none 0 0), (.int .i64 0), (.int .i64 0)] ((⟨⟨⟨#[]⟩, [], []⟩, 0, [], 0, 0⟩ : Choice) : Choice), ov [(.bool false)] (false : Bool), bx g20 [(.string f0.Rel), u17], bx g10 [(.string ⟨#[]⟩), (.slice none 0 0), (.slice none 0 0), (.int .i64 0), (.slice none 0 0), (.int .i64 0), (.int .i64 0)], bx g9 [(.string m.Rule), u3, u5]]) [1, 0, 2, 3, 4] rfl rfl (R_2g rfl (rvc (cs := [(.string ⟨#[]⟩), (.slice none 0 0), (.slice none 0 0), (.int .i64 0), (.slice none 0 0), (.int .i64 0), (.int .i64 0)]) 3 a_37 rfl rfl) (rvt rfl) fun w' hs => res2_of (c1 := [(.string ⟨#[]⟩), (.slice none 0 0), (.slice none 0 0), (.int .i64 0), (.slice none 0 0), (.int .i64 0), (.int .i64 0)]) (c2 := [(.bool false)]) hs ?_ ?_))))
     ·show ((⟨⟨⟨#[]⟩, [], []⟩, 0, [], 0, 0⟩ : Choice) : Choice) = choT rules l m
      first | exact (choT_n (cho_n1 (by omega))).1 | exact (choT_n (cho_n2 f0h (by simp_all))).1 | exact (choT_y (cho_y (by omega) (fun i h => hi i (by omega))) r0h).1 | exact (choT_n (cho_n1 (by omega))).2 | exact (choT_n (cho_n2 f0h (by simp_all))).2 | exact (choT_y (cho_y (by omega) (fun i h => hi i (by omega))) r0h).2
     ·show (false : Bool) = choB rules l m
      first | exact (choT_n (cho_n1 (by omega))).1 | exact (choT_n (cho_n2 f0h (by simp_all))).1 | exact (choT_y (cho_y (by omega) (fun i h => hi i (by omega))) r0h).1 | exact (choT_n (cho_n1 (by omega))).2 | exact (choT_n (cho_n2 f0h (by simp_all))).2 | exact (choT_y (cho_y (by omega) (fun i h => hi i (by omega))) r0h).2
    ·have h21n : (hasSt l f0) = true := not_f h21
     refine C_skip (x_blk (x_then (C_reg (q1 rfl (D_add rfl rfl rfl (r := ((k + 1 : Nat) : Int)) (by omega) (by omega)) (p1 rfl (D_end (x_then (fun ac w' hf hs => ⟨_, ?_, k + 1, ?_, ?_, rfl, hf.weak ⟨rfl, rfl, rfl, rfl, rfl, rfl, rfl, rfl, trivial⟩, hs.pk [1, 2] rfl rfl⟩))))))))
     ·omega
     ·first | assumption | omega | simp
     ·refine forall_step hi ?_; intro y hy; obtain rfl : y = f0 := Option.some.inj (hy.symm.trans f0h); simp_all
   ·have pr12 : ¬ (((k : Nat) : Int) : Int) < ((m.Facts.length : Nat) : Int) := of_decide_eq_false h12
    refine C_exit (x_then_exit (x_then_exit (x_blk_eq (x_then (C_seq (C_draw mixed [18, 19] (by kernel_rfl) (tk 0 rfl (by kernel_rfl) (by kernel_rfl) (by kernel_rfl) rfl (fun _ hs => hs) (lbw 1 a_34 rfl rfl rfl) (tk 2 rfl (by kernel_rfl) (by kernel_rfl) (by kernel_rfl) rfl (fun _ hs => hs) (rp rfl) (tk 3 rfl (by kernel_rfl) (by kernel_rfl) (by kernel_rfl) rfl (fun _ hs => hs) (rp rfl) ?_)))))))))
    obtain ⟨r0, r0h⟩ := some_of_lt (l := rules) (i := ((findT rules m.Rule).toNat)) (by omega)
    have hrs := sumC_mem (c := szRule) (List.mem_of_getElem? r0h)
    obtain ⟨es22, at23, hr24⟩ := rd_elem (n := 4) rfl h_rules r0h
    obtain ⟨u25, u27, rfl, hu26, hu28⟩ := open_Rule hr24
    have hm29 := rd_max hu26
    have hm30 := rd_max hu28
    refine tk 4 rfl (by kernel_rfl) (by kernel_rfl) (by kernel_rfl) rfl (fun _ hs => hs) (D_ix (l := rules) (j := ((findT rules m.Rule).toNat)) s_40 rfl rfl rfl (fun w' hs => (rd_at hs h_rules)) (Int.toNat_of_nonneg (by omega)).symm (lt_of_some r0h)) (tk 5 rfl (by kernel_rfl) (by kernel_rfl) (by kernel_rfl) rfl (fun _ hs => hs) (D_fa f_96_1 rfl rfl) (tk 6 rfl (by kernel_rfl) (by kernel_rfl) (by kernel_rfl) rfl (fun _ hs => hs) (lr o_3 rfl rfl at23 rfl) (tk 7 rfl (by kernel_rfl) (by kernel_rfl) (by kernel_rfl) rfl (fun _ hs => hs) (rp rfl) (tk 8 rfl (by kernel_rfl) (by kernel_rfl) (by kernel_rfl) rfl (fun _ hs => hs) (D_fb f_34_1 rfl rfl (q := 1) rfl) (tk 9 rfl (by kernel_rfl) (by kernel_rfl) (by kernel_rfl) rfl (fun _ hs => hs) (lb 1 o_31 rfl rfl rfl rfl) (tk 11 rfl (by kernel_rfl) (by kernel_rfl) (by kernel_rfl) rfl (fun _ hs => hs) (rp rfl) (tk 12 rfl (by kernel_rfl) (by kernel_rfl) (by kernel_rfl) rfl (fun _ hs => hs) (rp rfl) (tk 13 rfl (by kernel_rfl) (by kernel_rfl) (by kernel_rfl) rfl (fun _ hs => hs) (D_ix (l := rules) (j := ((findT rules m.Rule).toNat)) s_40 rfl rfl rfl (fun w' hs => (rd_at hs h_rules)) (Int.toNat_of_nonneg (by omega)).symm (lt_of_some r0h)) (tk 14 rfl (by kernel_rfl) (by kernel_rfl) (by kernel_rfl) rfl (fun _ hs => hs) (lra a_96 rfl rfl at23) (tk 16 rfl (by kernel_rfl) (by kernel_rfl) (by kernel_rfl) rfl (fun _ hs => hs) (rp rfl) (ty 1 rfl (by kernel_rfl) rfl (crs rfl b_112 rfl rfl rfl rfl (fun w' hs => (impl_copyMatch w' [(.string m.Rule), u3, u5] m (rd_at hs h_m) hm0)) fun cs31 => ?_))))))))))))
    refine D_pre (fun w' hs => shape_Match (rd_own (k := 0) hs rfl)) ?_
    rintro ⟨v32, v33, rfl, ho34, ho35⟩
    refine tS (fun _ hs => hs.pk [1, 2] rfl rfl) (ty 10 rfl (by kernel_rfl) rfl (crl b_113 rfl rfl rfl rfl (fun w' hs => (impl_TimesOf w' v_l l u3 m.Facts (rd_at hs h_l) (rd_at hs hu4) (by first | assumption | omega | (unfold szm at *; split at * <;> omega)))) fun v36 => ?_))
    refine tS (fun _ hs => hs.pk [2, 3] rfl rfl) (ty 15 rfl (by kernel_rfl) rfl (cv b_114 rfl rfl rfl rfl (fun w' hs => (impl_Specificity w' [(.string r0.Name), (.int .i64 r0.Priority), u25, u27] r0 (rd_at hs hr24) (by first | assumption | omega | (unfold szm at *; split at * <;> omega)))) ?_))
    refine tS (fun _ hs => hs.pk [2, 3] rfl rfl) (D_pre (fun w' hs => one_own (k := 0) hs rfl) ?_)
    intro ho37
    refine tk 17 rfl (by kernel_rfl) (by kernel_rfl) (by kernel_rfl) rfl (fun _ hs => hs.pk [2, 3] rfl rfl) (D_built (vs := [(0, (.agg #[(.string m.Rule), v32, v33])), (1, (.int .i64 r0.Priority)), (2, v36), (3, (.int .i64 (specN r0 : Int))), (4, (.int .i64 (findT rules m.Rule)))]) (xs := [(0, [(.string m.Rule), v32, v33]), (1, [(.int .i64 r0.Priority)]), (2, [v36]), (3, [(.int .i64 (specN r0 : Int))]), (4, [(.int .i64 (findT rules m.Rule))])]) (cs := [(.string m.Rule), v32, v33, (.int .i64 r0.Priority), v36, (.int .i64 (specN r0 : Int)), (.int .i64 (findT rules m.Rule))]) pl_37 rfl ⟨rfl, rfl, ⟨rfl, rfl, ⟨rfl, (cells_of_one ho37), ⟨rfl, rfl, ⟨rfl, rfl, trivial⟩⟩⟩⟩⟩ rfl rfl) (ty 18 rfl (by kernel_rfl) rfl (D_stb (vs := [(.string m.Rule), v32, v33, (.int .i64 r0.Priority), v36, (.int .i64 (specN r0 : Int)), (.int .i64 (findT rules m.Rule))]) (cs' := [(.string m.Rule), v32, v33, (.int .i64 r0.Priority), v36, (.int .i64 (specN r0 : Int)), (.int .i64 (findT rules m.Rule))]) 2 z_37 rfl rfl rfl rfl rfl rfl (ocons rfl (ocons ho34 (ocons ho35 (ocons rfl (ocons ho37 (ocons rfl (ocons rfl onil))))))) (by simp) rfl ?_))
    refine tZ rfl (ty 19 rfl (by kernel_rfl) rfl (sv rfl rfl (rp rfl) ?_))
    refine tZ rfl (tE (by kernel_rfl) (x_then (C_ret (D_pk (H' := [ov [(.string m.Rule), v32, v33] (m : Match), ov [v36] (timesOf l m.Facts : (List Int)), bx g10 [(.string m.Rule), v32, v33, (.int .i64 r0.Priority), v36, (.int .i64 (specN r0 : Int)), (.int .i64 (findT rules m.Rule))], bx g9 [(.string m.Rule), u3, u5]]) [1, 0, 2, 3] rfl rfl (D_unpair (α := ByteArray) (β := (List Fact) × (List Pair)) (c1 := [(.string m.Rule)]) (c2 := [v32, v33]) (x := m.Rule) (y := (m.Facts, m.Binding)) rfl rfl (D_fd [] 1 rfl (D_unpair (α := (List Fact)) (β := (List Pair)) (c1 := [v32]) (c2 := [v33]) (x := m.Facts) (y := (m.Binding)) rfl rfl (D_fd [1] 0 rfl (D_pk (H' := [ov [v32] (m.Facts : (List Fact)), ov [v33] (m.Binding : (List Pair)), ov [v36] (timesOf l m.Facts : (List Int)), bx g10 [(.string m.Rule), v32, v33, (.int .i64 r0.Priority), v36, (.int .i64 (specN r0 : Int)), (.int .i64 (findT rules m.Rule))], bx g9 [(.string m.Rule), u3, u5]]) [1, 0, 2, 3, 4] rfl rfl (pk_Choice (r := (⟨m, r0.Priority, timesOf l m.Facts, (specN r0 : Int), (findT rules m.Rule)⟩ : Choice)) (D_fbool true ?_)))))))))))
    refine D_pk (H' := [ov [(.string m.Rule), v32, v33, (.int .i64 r0.Priority), v36, (.int .i64 (specN r0 : Int)), (.int .i64 (findT rules m.Rule))] ((⟨m, r0.Priority, timesOf l m.Facts, (specN r0 : Int), (findT rules m.Rule)⟩ : Choice) : Choice), ov [(.bool true)] (true : Bool), bx g10 [(.string m.Rule), v32, v33, (.int .i64 r0.Priority), v36, (.int .i64 (specN r0 : Int)), (.int .i64 (findT rules m.Rule))], bx g9 [(.string m.Rule), u3, u5]]) [1, 0, 2, 3] rfl rfl (R_2g rfl (rvc (cs := [(.string m.Rule), v32, v33, (.int .i64 r0.Priority), v36, (.int .i64 (specN r0 : Int)), (.int .i64 (findT rules m.Rule))]) 2 a_37 rfl rfl) (rvt rfl) fun w' hs => res2_of (c1 := [(.string m.Rule), v32, v33, (.int .i64 r0.Priority), v36, (.int .i64 (specN r0 : Int)), (.int .i64 (findT rules m.Rule))]) (c2 := [(.bool true)]) hs ?_ ?_)
    ·show ((⟨m, r0.Priority, timesOf l m.Facts, (specN r0 : Int), (findT rules m.Rule)⟩ : Choice) : Choice) = choT rules l m
     first | exact (choT_n (cho_n1 (by omega))).1 | exact (choT_n (cho_n2 f0h (by simp_all))).1 | exact (choT_y (cho_y (by omega) (fun i h => hi i (by omega))) r0h).1 | exact (choT_n (cho_n1 (by omega))).2 | exact (choT_n (cho_n2 f0h (by simp_all))).2 | exact (choT_y (cho_y (by omega) (fun i h => hi i (by omega))) r0h).2
    ·show (true : Bool) = choB rules l m
     first | exact (choT_n (cho_n1 (by omega))).1 | exact (choT_n (cho_n2 f0h (by simp_all))).1 | exact (choT_y (cho_y (by omega) (fun i h => hi i (by omega))) r0h).1 | exact (choT_n (cho_n1 (by omega))).2 | exact (choT_n (cho_n2 f0h (by simp_all))).2 | exact (choT_y (cho_y (by omega) (fun i h => hi i (by omega))) r0h).2

theorem impl_ChoiceOf (w : World) (v_rules : Value) (rules : (List Rule)) (v_l : Value) (l : (List Stamp)) (c_m : List Value) (m : Match) (h_rules : Gd.rd w [v_rules] rules) (h_l : Gd.rd w [v_l] l) (h_m : Gd.rd w c_m m) (hn : szL szRule rules ≤ 1048576) (hm : szMatch m ≤ 1048576) (hl : szL szStamp l ≤ 1048576) (htb : Tb w) : Calls Tryz.prog 13 [v_rules, v_l, (.agg c_m.toArray)].toArray w (Res2 w (cho2T rules l m : Choice) (cho2B rules l m : Bool)) := by
 have hm1 := rd_max h_rules
 have hm2 := rd_max h_l
 obtain ⟨u3, u5, rfl, hu4, hu6⟩ := open_Match h_m
 have hm7 := rd_max hu4
 have hm8 := rd_max hu6
 refine enter 23 Tryz.func13 rfl rfl rfl (C_seq (C_reg (li rfl (D_box rfl rfl rfl rfl rfl fun g9 => ?_))))
 refine li rfl (D_alloc y_37 rfl rfl rfl rfl fun g10 => ?_)
 refine p1 rfl (D_end (x_then (D_H ([bx g10 [(.string ⟨#[]⟩), (.slice none 0 0), (.slice none 0 0), (.int .i64 0), (.slice none 0 0), (.int .i64 0), (.int .i64 0)], bx g9 [(.string m.Rule), u3, u5]]) rfl (C_seq (C_seq (C_reg (p1 rfl (li rfl (cv b_51 rfl rfl rfl rfl (fun w' hs => (impl_AreRules w' v_rules rules (rd_at hs h_rules) (by first | assumption | omega | (unfold szm at *; split at * <;> omega)))) ?_)))))))))
 refine p1 rfl <| p1 rfl (gs 11 rfl rfl (fun h11 => ?_) (fun h11 => ?_))
 ·have h11n : (areRulesB rules) = false := not_t h11
  refine n1 rfl (n1 rfl (n1 rfl (p1 rfl (D_end (x_then (C_t rfl (C_seq (C_reg (q1 rfl (D_build (vs := []) (cs := [(.string ⟨#[]⟩), (.slice none 0 0), (.slice none 0 0), (.int .i64 0), (.slice none 0 0), (.int .i64 0), (.int .i64 0)]) rfl (fun _ => by kernel_rfl) rfl) (li rfl (D_stb (vs := [(.string ⟨#[]⟩), (.slice none 0 0), (.slice none 0 0), (.int .i64 0), (.slice none 0 0), (.int .i64 0), (.int .i64 0)]) (cs' := [(.string ⟨#[]⟩), (.slice none 0 0), (.slice none 0 0), (.int .i64 0), (.slice none 0 0), (.int .i64 0), (.int .i64 0)]) 0 z_37 rfl rfl rfl rfl rfl rfl (ocons rfl (ocons rfl (ocons rfl (ocons rfl (ocons rfl (ocons rfl (ocons rfl onil))))))) (by simp) rfl ?_)))))))))))
  refine p1 rfl (D_end (x_then (C_ret (x_then_ret (D_nil (α := Fact) (D_nil (α := Pair) (D_nil (α := Int) (D_pk (H' := [ov [(.slice none 0 0)] ([] : (List Fact)), ov [(.slice none 0 0)] ([] : (List Pair)), ov [(.slice none 0 0)] ([] : (List Int)), bx g10 [(.string ⟨#[]⟩), (.slice none 0 0), (.slice none 0 0), (.int .i64 0), (.slice none 0 0), (.int .i64 0), (.int .i64 0)], bx g9 [(.string m.Rule), u3, u5]]) [2, 1, 0, 3, 4] rfl rfl (pk_Choice (r := (⟨⟨⟨#[]⟩, [], []⟩, 0, [], 0, 0⟩ : Choice)) (D_fbool false (D_pk (H' := [ov [(.string ⟨#[]⟩), (.slice none 0 0), (.slice none 0 0), (.int .i64 0), (.slice none 0 0), (.int .i64 0), (.int .i64 0)] ((⟨⟨⟨#[]⟩, [], []⟩, 0, [], 0, 0⟩ : Choice) : Choice), ov [(.bool false)] (false : Bool), bx g10 [(.string ⟨#[]⟩), (.slice none 0 0), (.slice none 0 0), (.int .i64 0), (.slice none 0 0), (.int .i64 0), (.int .i64 0)], bx g9 [(.string m.Rule), u3, u5]]) [1, 0, 2, 3] rfl rfl ?_)))))))))))
  refine R_2g rfl (rvc (cs := [(.string ⟨#[]⟩), (.slice none 0 0), (.slice none 0 0), (.int .i64 0), (.slice none 0 0), (.int .i64 0), (.int .i64 0)]) 2 a_37 rfl rfl) (rvt rfl) fun w' hs => res2_of (c1 := [(.string ⟨#[]⟩), (.slice none 0 0), (.slice none 0 0), (.int .i64 0), (.slice none 0 0), (.int .i64 0), (.int .i64 0)]) (c2 := [(.bool false)]) hs ?_ ?_
  ·show ((⟨⟨⟨#[]⟩, [], []⟩, 0, [], 0, 0⟩ : Choice) : Choice) = cho2T rules l m
   first | exact (cho2_n (.inl (by assumption))).1 | exact (cho2_n (.inr (.inl (by assumption)))).1 | exact (cho2_y (by assumption) (by assumption)).1 | exact (cho2_n (.inl (by assumption))).2 | exact (cho2_n (.inr (.inl (by assumption)))).2 | exact (cho2_y (by assumption) (by assumption)).2
  ·show (false : Bool) = cho2B rules l m
   first | exact (cho2_n (.inl (by assumption))).1 | exact (cho2_n (.inr (.inl (by assumption)))).1 | exact (cho2_y (by assumption) (by assumption)).1 | exact (cho2_n (.inl (by assumption))).2 | exact (cho2_n (.inr (.inl (by assumption)))).2 | exact (cho2_y (by assumption) (by assumption)).2
 ·have h11n : (areRulesB rules) = true := not_f h11
  refine p1 rfl (li rfl (cv b_52 rfl rfl rfl rfl (fun w' hs => (impl_IsMemory w' v_l l (rd_at hs h_l) (by first | assumption | omega | (unfold szm at *; split at * <;> omega)) (Tb.ext htb hs.bel))) ?_))
  refine p1 rfl <| p1 rfl (D_end (x_then (C_if _ rfl (fun h12 => ?_) (fun h12 => ?_))))
  ·have h12n : (isMemB l) = false := not_t h12
   refine C_seq (C_reg (q1 rfl (D_build (vs := []) (cs := [(.string ⟨#[]⟩), (.slice none 0 0), (.slice none 0 0), (.int .i64 0), (.slice none 0 0), (.int .i64 0), (.int .i64 0)]) rfl (fun _ => by kernel_rfl) rfl) (li rfl (D_stb (vs := [(.string ⟨#[]⟩), (.slice none 0 0), (.slice none 0 0), (.int .i64 0), (.slice none 0 0), (.int .i64 0), (.int .i64 0)]) (cs' := [(.string ⟨#[]⟩), (.slice none 0 0), (.slice none 0 0), (.int .i64 0), (.slice none 0 0), (.int .i64 0), (.int .i64 0)]) 0 z_37 rfl rfl rfl rfl rfl rfl (ocons rfl (ocons rfl (ocons rfl (ocons rfl (ocons rfl (ocons rfl (ocons rfl onil))))))) (by simp) rfl ?_))))
   refine p1 rfl (D_end (x_then (C_ret (x_then_ret (D_nil (α := Fact) (D_nil (α := Pair) (D_nil (α := Int) (D_pk (H' := [ov [(.slice none 0 0)] ([] : (List Fact)), ov [(.slice none 0 0)] ([] : (List Pair)), ov [(.slice none 0 0)] ([] : (List Int)), bx g10 [(.string ⟨#[]⟩), (.slice none 0 0), (.slice none 0 0), (.int .i64 0), (.slice none 0 0), (.int .i64 0), (.int .i64 0)], bx g9 [(.string m.Rule), u3, u5]]) [2, 1, 0, 3, 4] rfl rfl (pk_Choice (r := (⟨⟨⟨#[]⟩, [], []⟩, 0, [], 0, 0⟩ : Choice)) (D_fbool false (D_pk (H' := [ov [(.string ⟨#[]⟩), (.slice none 0 0), (.slice none 0 0), (.int .i64 0), (.slice none 0 0), (.int .i64 0), (.int .i64 0)] ((⟨⟨⟨#[]⟩, [], []⟩, 0, [], 0, 0⟩ : Choice) : Choice), ov [(.bool false)] (false : Bool), bx g10 [(.string ⟨#[]⟩), (.slice none 0 0), (.slice none 0 0), (.int .i64 0), (.slice none 0 0), (.int .i64 0), (.int .i64 0)], bx g9 [(.string m.Rule), u3, u5]]) [1, 0, 2, 3] rfl rfl ?_)))))))))))
   refine R_2g rfl (rvc (cs := [(.string ⟨#[]⟩), (.slice none 0 0), (.slice none 0 0), (.int .i64 0), (.slice none 0 0), (.int .i64 0), (.int .i64 0)]) 2 a_37 rfl rfl) (rvt rfl) fun w' hs => res2_of (c1 := [(.string ⟨#[]⟩), (.slice none 0 0), (.slice none 0 0), (.int .i64 0), (.slice none 0 0), (.int .i64 0), (.int .i64 0)]) (c2 := [(.bool false)]) hs ?_ ?_
   ·show ((⟨⟨⟨#[]⟩, [], []⟩, 0, [], 0, 0⟩ : Choice) : Choice) = cho2T rules l m
    first | exact (cho2_n (.inl (by assumption))).1 | exact (cho2_n (.inr (.inl (by assumption)))).1 | exact (cho2_y (by assumption) (by assumption)).1 | exact (cho2_n (.inl (by assumption))).2 | exact (cho2_n (.inr (.inl (by assumption)))).2 | exact (cho2_y (by assumption) (by assumption)).2
   ·show (false : Bool) = cho2B rules l m
    first | exact (cho2_n (.inl (by assumption))).1 | exact (cho2_n (.inr (.inl (by assumption)))).1 | exact (cho2_y (by assumption) (by assumption)).1 | exact (cho2_n (.inl (by assumption))).2 | exact (cho2_n (.inr (.inl (by assumption)))).2 | exact (cho2_y (by assumption) (by assumption)).2
  ·have h12n : (isMemB l) = true := not_f h12
   refine C_skip (x_then (C_seq (C_reg (p1 rfl <| p1 rfl (q1 rfl (lbw 1 a_34 rfl rfl rfl) (li rfl (cr2 b_53 rfl rfl rfl rfl (fun w' hs => (impl_choiceOf w' v_rules rules v_l l [(.string m.Rule), u3, u5] m (rd_at hs h_rules) (rd_at hs h_l) (rd_at hs h_m) (by first | assumption | omega | (unfold szm at *; split at * <;> omega)) (by first | assumption | omega | (unfold szm at *; split at * <;> omega)))) fun cs13 cs14 => ?_)))))))
   refine D_pre (fun w' hs => shape_Choice (rd_own (k := 0) hs rfl)) ?_
   rintro ⟨v15, v16, v17, rfl, ho18, ho19, ho20⟩
   refine D_pre (fun w' hs => show cs14 = [(.bool (choB rules l m))] from rd_own (k := 1) hs rfl) ?_
   rintro rfl
   refine D_re 20 (v' := (.tuple #[(.agg #[(.string ((choT rules l m).Match.Rule)), v15, v16, (.int .i64 ((choT rules l m).Priority)), v17, (.int .i64 ((choT rules l m).Specific)), (.int .i64 ((choT rules l m).Order))]), (.bool (choB rules l m))])) rfl rfl rfl (D_pk (H' := [ov [(.string ((choT rules l m).Match.Rule)), v15, v16, (.int .i64 ((choT rules l m).Priority)), v17, (.int .i64 ((choT rules l m).Specific)), (.int .i64 ((choT rules l m).Order))] (choT rules l m : Choice), bx g10 [(.string ⟨#[]⟩), (.slice none 0 0), (.slice none 0 0), (.int .i64 0), (.slice none 0 0), (.int .i64 0), (.int .i64 0)], bx g9 [(.string m.Rule), u3, u5]]) [0, 2, 3] rfl rfl (p1 rfl <| p1 rfl (li rfl (D_stb (vs := [(.string ((choT rules l m).Match.Rule)), v15, v16, (.int .i64 ((choT rules l m).Priority)), v17, (.int .i64 ((choT rules l m).Specific)), (.int .i64 ((choT rules l m).Order))]) (cs' := [(.string ((choT rules l m).Match.Rule)), v15, v16, (.int .i64 ((choT rules l m).Priority)), v17, (.int .i64 ((choT rules l m).Specific)), (.int .i64 ((choT rules l m).Order))]) 1 z_37 rfl rfl rfl rfl rfl rfl (ocons rfl (ocons ho18 (ocons ho19 (ocons rfl (ocons ho20 (ocons rfl (ocons rfl onil))))))) (by simp) rfl ?_))))
   refine p1 rfl (D_end (x_then (C_ret (D_fbool (choB rules l m) (D_pk (H' := [ov [(.string ((choT rules l m).Match.Rule)), v15, v16, (.int .i64 ((choT rules l m).Priority)), v17, (.int .i64 ((choT rules l m).Specific)), (.int .i64 ((choT rules l m).Order))] (choT rules l m : Choice), ov [(.bool (choB rules l m))] ((choB rules l m) : Bool), bx g10 [(.string ((choT rules l m).Match.Rule)), v15, v16, (.int .i64 ((choT rules l m).Priority)), v17, (.int .i64 ((choT rules l m).Specific)), (.int .i64 ((choT rules l m).Order))], bx g9 [(.string m.Rule), u3, u5]]) [1, 0, 2, 3] rfl rfl (R_2g rfl (rvc (cs := [(.string ((choT rules l m).Match.Rule)), v15, v16, (.int .i64 ((choT rules l m).Priority)), v17, (.int .i64 ((choT rules l m).Specific)), (.int .i64 ((choT rules l m).Order))]) 2 a_37 rfl rfl) (rvt rfl) fun w' hs => res2_of (c1 := [(.string ((choT rules l m).Match.Rule)), v15, v16, (.int .i64 ((choT rules l m).Priority)), v17, (.int .i64 ((choT rules l m).Specific)), (.int .i64 ((choT rules l m).Order))]) (c2 := [(.bool (choB rules l m))]) hs ?_ ?_))))))
   ·show (choT rules l m : Choice) = cho2T rules l m
    first | exact (cho2_n (.inl (by assumption))).1 | exact (cho2_n (.inr (.inl (by assumption)))).1 | exact (cho2_y (by assumption) (by assumption)).1 | exact (cho2_n (.inl (by assumption))).2 | exact (cho2_n (.inr (.inl (by assumption)))).2 | exact (cho2_y (by assumption) (by assumption)).2
   ·show ((choB rules l m) : Bool) = cho2B rules l m
    first | exact (cho2_n (.inl (by assumption))).1 | exact (cho2_n (.inr (.inl (by assumption)))).1 | exact (cho2_y (by assumption) (by assumption)).1 | exact (cho2_n (.inl (by assumption))).2 | exact (cho2_n (.inr (.inl (by assumption)))).2 | exact (cho2_y (by assumption) (by assumption)).2

theorem spec_ChoiceOf (w : World) (v_rules : Value) (rules : (List Rule)) (v_l : Value) (l : (List Stamp)) (c_m : List Value) (m : Match) (h_rules : Gd.rd w [v_rules] rules) (h_l : Gd.rd w [v_l] l) (h_m : Gd.rd w c_m m) (hn : szL szRule rules ≤ 1048576) (hm : szMatch m ≤ 1048576) (hl : szL szStamp l ≤ 1048576) (ho : okL okRule rules) (ho2 : okL okStamp l) : Calls Tryz.prog 9 [v_rules, v_l, (.agg c_m.toArray)].toArray w (Res2 w (cho2T rules l m : Choice) (cho2B rules l m : Bool)) := by
 have hm1 := rd_max h_rules
 have hm2 := rd_max h_l
 obtain ⟨u3, u5, rfl, hu4, hu6⟩ := open_Match h_m
 have hm7 := rd_max hu4
 have hm8 := rd_max hu6
 have hm0 := hm
 unfold szMatch szL at hm
 have hfl := findT_lt rules m.Rule
 have hn0 := hn
 unfold szL at hn
 refine enter 50 Tryz.func9 rfl rfl rfl (C_seq (C_reg (li rfl (D_box rfl rfl rfl rfl rfl fun g9 => ?_))))
 refine li rfl (D_alloc y_37 rfl rfl rfl rfl fun g10 => ?_)
 refine p1 rfl (D_end (x_then (D_H ([bx g10 [(.string ⟨#[]⟩), (.slice none 0 0), (.slice none 0 0), (.int .i64 0), (.slice none 0 0), (.int .i64 0), (.int .i64 0)], bx g9 [(.string m.Rule), u3, u5]]) rfl (C_seq (C_reg (p1 rfl (q1 rfl (D_fb f_34_0 rfl rfl (q := 0) rfl) (q1 rfl (lb 1 o_9 rfl rfl rfl rfl) (li rfl (cv b_40 rfl rfl rfl rfl (fun w' hs => (spec_FindRule w' v_rules rules m.Rule (rd_at hs h_rules))) ?_))))))))))
 refine p1 rfl (D_end (x_then (C_seq (C_reg (p1 rfl (q1 rfl (D_fb f_34_1 rfl rfl (q := 1) rfl) (q1 rfl (lb 1 o_31 rfl rfl rfl rfl) (li rfl (crl b_41 rfl rfl rfl rfl (fun w' hs => (spec_TimesOf w' v_l l u3 m.Facts (rd_at hs h_l) (rd_at hs hu4) (by first | assumption | omega | (unfold szm at *; split at * <;> omega)))) fun v11 => ?_)))))))))
 refine p1 rfl (D_end (x_then (D_H ([ov [v11] (timesOf l m.Facts : (List Int)), bx g10 [(.string ⟨#[]⟩), (.slice none 0 0), (.slice none 0 0), (.int .i64 0), (.slice none 0 0), (.int .i64 0), (.int .i64 0)], bx g9 [(.string m.Rule), u3, u5]]) rfl (C_seq (C_seq (C_reg (p1 rfl (li rfl (cv b_42 rfl rfl rfl rfl (fun w' hs => (spec_AreRules w' v_rules rules (rd_at hs h_rules) (by first | assumption | omega | (unfold szm at *; split at * <;> omega)) ho)) ?_)))))))))
 refine p1 rfl <| p1 rfl (gs 21 rfl rfl (fun h12 => ?_) (fun h12 => ?_))
 ·have h12n : (areRulesB rules) = false := not_t h12
  refine n1 rfl (n1 rfl (n1 rfl (p1 rfl <| p1 rfl (n1 rfl (n1 rfl (p1 rfl <| p1 rfl (n1 rfl (n1 rfl (p1 rfl (D_end (x_then ?_)))))))))))
  refine D_weak [(0, v_rules), (5, (.pointer (some ⟨g9, 0, none⟩))), (6, (.pointer (some ⟨g10, 0, none⟩))), (8, (.int .i64 (findT rules m.Rule))), (9, v11), (33, (.bool true))] ⟨rfl, rfl, rfl, rfl, rfl, rfl, trivial⟩ (C_t rfl (C_seq (C_reg (q1 rfl (D_build (vs := []) (cs := [(.string ⟨#[]⟩), (.slice none 0 0), (.slice none 0 0), (.int .i64 0), (.slice none 0 0), (.int .i64 0), (.int .i64 0)]) rfl (fun _ => by kernel_rfl) rfl) (li rfl (D_stb (vs := [(.string ⟨#[]⟩), (.slice none 0 0), (.slice none 0 0), (.int .i64 0), (.slice none 0 0), (.int .i64 0), (.int .i64 0)]) (cs' := [(.string ⟨#[]⟩), (.slice none 0 0), (.slice none 0 0), (.int .i64 0), (.slice none 0 0), (.int .i64 0), (.int .i64 0)]) 1 z_37 rfl rfl rfl rfl rfl rfl (ocons rfl (ocons rfl (ocons rfl (ocons rfl (ocons rfl (ocons rfl (ocons rfl onil))))))) (by simp) rfl ?_))))))
  refine p1 rfl (D_end (x_then (C_ret (x_then_ret (D_nil (α := Fact) (D_nil (α := Pair) (D_nil (α := Int) (D_pk (H' := [ov [(.slice none 0 0)] ([] : (List Fact)), ov [(.slice none 0 0)] ([] : (List Pair)), ov [(.slice none 0 0)] ([] : (List Int)), ov [v11] (timesOf l m.Facts : (List Int)), bx g10 [(.string ⟨#[]⟩), (.slice none 0 0), (.slice none 0 0), (.int .i64 0), (.slice none 0 0), (.int .i64 0), (.int .i64 0)], bx g9 [(.string m.Rule), u3, u5]]) [2, 1, 0, 3, 4, 5] rfl rfl (pk_Choice (r := (⟨⟨⟨#[]⟩, [], []⟩, 0, [], 0, 0⟩ : Choice)) (D_fbool false (D_pk (H' := [ov [(.string ⟨#[]⟩), (.slice none 0 0), (.slice none 0 0), (.int .i64 0), (.slice none 0 0), (.int .i64 0), (.int .i64 0)] ((⟨⟨⟨#[]⟩, [], []⟩, 0, [], 0, 0⟩ : Choice) : Choice), ov [(.bool false)] (false : Bool), ov [v11] (timesOf l m.Facts : (List Int)), bx g10 [(.string ⟨#[]⟩), (.slice none 0 0), (.slice none 0 0), (.int .i64 0), (.slice none 0 0), (.int .i64 0), (.int .i64 0)], bx g9 [(.string m.Rule), u3, u5]]) [1, 0, 2, 3, 4] rfl rfl ?_)))))))))))
  refine R_2g rfl (rvc (cs := [(.string ⟨#[]⟩), (.slice none 0 0), (.slice none 0 0), (.int .i64 0), (.slice none 0 0), (.int .i64 0), (.int .i64 0)]) 3 a_37 rfl rfl) (rvt rfl) fun w' hs => res2_of (c1 := [(.string ⟨#[]⟩), (.slice none 0 0), (.slice none 0 0), (.int .i64 0), (.slice none 0 0), (.int .i64 0), (.int .i64 0)]) (c2 := [(.bool false)]) hs ?_ ?_
  ·show ((⟨⟨⟨#[]⟩, [], []⟩, 0, [], 0, 0⟩ : Choice) : Choice) = cho2T rules l m
   first | exact (cho2_n (.inl (by assumption))).1 | exact (cho2_n (.inr (.inl (by assumption)))).1 | exact (cho2_n (.inr (.inr (cho_n1 (by omega))))).1 | exact (cho2_s (by assumption) (by assumption) (by omega) (by assumption) r0h).1 | exact (cho2_m (by assumption) (by assumption)).1 | exact (cho2_n (.inl (by assumption))).2 | exact (cho2_n (.inr (.inl (by assumption)))).2 | exact (cho2_n (.inr (.inr (cho_n1 (by omega))))).2 | exact (cho2_s (by assumption) (by assumption) (by omega) (by assumption) r0h).2 | exact (cho2_m (by assumption) (by assumption)).2
  ·show (false : Bool) = cho2B rules l m
   first | exact (cho2_n (.inl (by assumption))).1 | exact (cho2_n (.inr (.inl (by assumption)))).1 | exact (cho2_n (.inr (.inr (cho_n1 (by omega))))).1 | exact (cho2_s (by assumption) (by assumption) (by omega) (by assumption) r0h).1 | exact (cho2_m (by assumption) (by assumption)).1 | exact (cho2_n (.inl (by assumption))).2 | exact (cho2_n (.inr (.inl (by assumption)))).2 | exact (cho2_n (.inr (.inr (cho_n1 (by omega))))).2 | exact (cho2_s (by assumption) (by assumption) (by omega) (by assumption) r0h).2 | exact (cho2_m (by assumption) (by assumption)).2
 ·have h12n : (areRulesB rules) = true := not_f h12
  refine p1 rfl (li rfl (cv b_43 rfl rfl rfl rfl (fun w' hs => (spec_IsMemory w' v_l l (rd_at hs h_l) (by first | assumption | omega | (unfold szm at *; split at * <;> omega)) ho2)) ?_))
  refine p1 rfl <| p1 rfl <| p1 rfl (gs 26 rfl rfl (fun h13 => ?_) (fun h13 => ?_))
  ·have h13n : (isMemB l) = false := not_t h13
   refine n1 rfl (n1 rfl (p1 rfl <| p1 rfl (n1 rfl (n1 rfl (p1 rfl (D_end (x_then (D_weak [(0, v_rules), (5, (.pointer (some ⟨g9, 0, none⟩))), (6, (.pointer (some ⟨g10, 0, none⟩))), (8, (.int .i64 (findT rules m.Rule))), (9, v11), (33, (.bool true))] ⟨rfl, rfl, rfl, rfl, rfl, rfl, trivial⟩ (C_t rfl (C_seq (C_reg ?_)))))))))))
   refine q1 rfl (D_build (vs := []) (cs := [(.string ⟨#[]⟩), (.slice none 0 0), (.slice none 0 0), (.int .i64 0), (.slice none 0 0), (.int .i64 0), (.int .i64 0)]) rfl (fun _ => by kernel_rfl) rfl) (li rfl (D_stb (vs := [(.string ⟨#[]⟩), (.slice none 0 0), (.slice none 0 0), (.int .i64 0), (.slice none 0 0), (.int .i64 0), (.int .i64 0)]) (cs' := [(.string ⟨#[]⟩), (.slice none 0 0), (.slice none 0 0), (.int .i64 0), (.slice none 0 0), (.int .i64 0), (.int .i64 0)]) 1 z_37 rfl rfl rfl rfl rfl rfl (ocons rfl (ocons rfl (ocons rfl (ocons rfl (ocons rfl (ocons rfl (ocons rfl onil))))))) (by simp) rfl ?_))
   refine p1 rfl (D_end (x_then (C_ret (x_then_ret (D_nil (α := Fact) (D_nil (α := Pair) (D_nil (α := Int) (D_pk (H' := [ov [(.slice none 0 0)] ([] : (List Fact)), ov [(.slice none 0 0)] ([] : (List Pair)), ov [(.slice none 0 0)] ([] : (List Int)), ov [v11] (timesOf l m.Facts : (List Int)), bx g10 [(.string ⟨#[]⟩), (.slice none 0 0), (.slice none 0 0), (.int .i64 0), (.slice none 0 0), (.int .i64 0), (.int .i64 0)], bx g9 [(.string m.Rule), u3, u5]]) [2, 1, 0, 3, 4, 5] rfl rfl (pk_Choice (r := (⟨⟨⟨#[]⟩, [], []⟩, 0, [], 0, 0⟩ : Choice)) (D_fbool false (D_pk (H' := [ov [(.string ⟨#[]⟩), (.slice none 0 0), (.slice none 0 0), (.int .i64 0), (.slice none 0 0), (.int .i64 0), (.int .i64 0)] ((⟨⟨⟨#[]⟩, [], []⟩, 0, [], 0, 0⟩ : Choice) : Choice), ov [(.bool false)] (false : Bool), ov [v11] (timesOf l m.Facts : (List Int)), bx g10 [(.string ⟨#[]⟩), (.slice none 0 0), (.slice none 0 0), (.int .i64 0), (.slice none 0 0), (.int .i64 0), (.int .i64 0)], bx g9 [(.string m.Rule), u3, u5]]) [1, 0, 2, 3, 4] rfl rfl ?_)))))))))))
   refine R_2g rfl (rvc (cs := [(.string ⟨#[]⟩), (.slice none 0 0), (.slice none 0 0), (.int .i64 0), (.slice none 0 0), (.int .i64 0), (.int .i64 0)]) 3 a_37 rfl rfl) (rvt rfl) fun w' hs => res2_of (c1 := [(.string ⟨#[]⟩), (.slice none 0 0), (.slice none 0 0), (.int .i64 0), (.slice none 0 0), (.int .i64 0), (.int .i64 0)]) (c2 := [(.bool false)]) hs ?_ ?_
   ·show ((⟨⟨⟨#[]⟩, [], []⟩, 0, [], 0, 0⟩ : Choice) : Choice) = cho2T rules l m
    first | exact (cho2_n (.inl (by assumption))).1 | exact (cho2_n (.inr (.inl (by assumption)))).1 | exact (cho2_n (.inr (.inr (cho_n1 (by omega))))).1 | exact (cho2_s (by assumption) (by assumption) (by omega) (by assumption) r0h).1 | exact (cho2_m (by assumption) (by assumption)).1 | exact (cho2_n (.inl (by assumption))).2 | exact (cho2_n (.inr (.inl (by assumption)))).2 | exact (cho2_n (.inr (.inr (cho_n1 (by omega))))).2 | exact (cho2_s (by assumption) (by assumption) (by omega) (by assumption) r0h).2 | exact (cho2_m (by assumption) (by assumption)).2
   ·show (false : Bool) = cho2B rules l m
    first | exact (cho2_n (.inl (by assumption))).1 | exact (cho2_n (.inr (.inl (by assumption)))).1 | exact (cho2_n (.inr (.inr (cho_n1 (by omega))))).1 | exact (cho2_s (by assumption) (by assumption) (by omega) (by assumption) r0h).1 | exact (cho2_m (by assumption) (by assumption)).1 | exact (cho2_n (.inl (by assumption))).2 | exact (cho2_n (.inr (.inl (by assumption)))).2 | exact (cho2_n (.inr (.inr (cho_n1 (by omega))))).2 | exact (cho2_s (by assumption) (by assumption) (by omega) (by assumption) r0h).2 | exact (cho2_m (by assumption) (by assumption)).2
  ·have h13n : (isMemB l) = true := not_f h13
   refine p1 rfl <| p1 rfl <| p1 rfl <| p1 rfl (gs 30 rfl rfl (fun h14 => ?_) (fun h14 => ?_))
   ·have pr14 : ((findT rules m.Rule) : Int) < 0 := of_decide_eq_true h14
    refine n1 rfl (n1 rfl (p1 rfl (D_end (x_then (D_weak [(0, v_rules), (5, (.pointer (some ⟨g9, 0, none⟩))), (6, (.pointer (some ⟨g10, 0, none⟩))), (8, (.int .i64 (findT rules m.Rule))), (9, v11), (33, (.bool true))] ⟨rfl, rfl, rfl, rfl, rfl, rfl, trivial⟩ (C_t rfl (C_seq (C_reg (q1 rfl (D_build (vs := []) (cs := [(.string ⟨#[]⟩), (.slice none 0 0), (.slice none 0 0), (.int .i64 0), (.slice none 0 0), (.int .i64 0), (.int .i64 0)]) rfl (fun _ => by kernel_rfl) rfl) (li rfl (D_stb (vs := [(.string ⟨#[]⟩), (.slice none 0 0), (.slice none 0 0), (.int .i64 0), (.slice none 0 0), (.int .i64 0), (.int .i64 0)]) (cs' := [(.string ⟨#[]⟩), (.slice none 0 0), (.slice none 0 0), (.int .i64 0), (.slice none 0 0), (.int .i64 0), (.int .i64 0)]) 1 z_37 rfl rfl rfl rfl rfl rfl (ocons rfl (ocons rfl (ocons rfl (ocons rfl (ocons rfl (ocons rfl (ocons rfl onil))))))) (by simp) rfl ?_)))))))))))
    refine p1 rfl (D_end (x_then (C_ret (x_then_ret (D_nil (α := Fact) (D_nil (α := Pair) (D_nil (α := Int) (D_pk (H' := [ov [(.slice none 0 0)] ([] : (List Fact)), ov [(.slice none 0 0)] ([] : (List Pair)), ov [(.slice none 0 0)] ([] : (List Int)), ov [v11] (timesOf l m.Facts : (List Int)), bx g10 [(.string ⟨#[]⟩), (.slice none 0 0), (.slice none 0 0), (.int .i64 0), (.slice none 0 0), (.int .i64 0), (.int .i64 0)], bx g9 [(.string m.Rule), u3, u5]]) [2, 1, 0, 3, 4, 5] rfl rfl (pk_Choice (r := (⟨⟨⟨#[]⟩, [], []⟩, 0, [], 0, 0⟩ : Choice)) (D_fbool false (D_pk (H' := [ov [(.string ⟨#[]⟩), (.slice none 0 0), (.slice none 0 0), (.int .i64 0), (.slice none 0 0), (.int .i64 0), (.int .i64 0)] ((⟨⟨⟨#[]⟩, [], []⟩, 0, [], 0, 0⟩ : Choice) : Choice), ov [(.bool false)] (false : Bool), ov [v11] (timesOf l m.Facts : (List Int)), bx g10 [(.string ⟨#[]⟩), (.slice none 0 0), (.slice none 0 0), (.int .i64 0), (.slice none 0 0), (.int .i64 0), (.int .i64 0)], bx g9 [(.string m.Rule), u3, u5]]) [1, 0, 2, 3, 4] rfl rfl ?_)))))))))))
    refine R_2g rfl (rvc (cs := [(.string ⟨#[]⟩), (.slice none 0 0), (.slice none 0 0), (.int .i64 0), (.slice none 0 0), (.int .i64 0), (.int .i64 0)]) 3 a_37 rfl rfl) (rvt rfl) fun w' hs => res2_of (c1 := [(.string ⟨#[]⟩), (.slice none 0 0), (.slice none 0 0), (.int .i64 0), (.slice none 0 0), (.int .i64 0), (.int .i64 0)]) (c2 := [(.bool false)]) hs ?_ ?_
    ·show ((⟨⟨⟨#[]⟩, [], []⟩, 0, [], 0, 0⟩ : Choice) : Choice) = cho2T rules l m
     first | exact (cho2_n (.inl (by assumption))).1 | exact (cho2_n (.inr (.inl (by assumption)))).1 | exact (cho2_n (.inr (.inr (cho_n1 (by omega))))).1 | exact (cho2_s (by assumption) (by assumption) (by omega) (by assumption) r0h).1 | exact (cho2_m (by assumption) (by assumption)).1 | exact (cho2_n (.inl (by assumption))).2 | exact (cho2_n (.inr (.inl (by assumption)))).2 | exact (cho2_n (.inr (.inr (cho_n1 (by omega))))).2 | exact (cho2_s (by assumption) (by assumption) (by omega) (by assumption) r0h).2 | exact (cho2_m (by assumption) (by assumption)).2
    ·show (false : Bool) = cho2B rules l m
     first | exact (cho2_n (.inl (by assumption))).1 | exact (cho2_n (.inr (.inl (by assumption)))).1 | exact (cho2_n (.inr (.inr (cho_n1 (by omega))))).1 | exact (cho2_s (by assumption) (by assumption) (by omega) (by assumption) r0h).1 | exact (cho2_m (by assumption) (by assumption)).1 | exact (cho2_n (.inl (by assumption))).2 | exact (cho2_n (.inr (.inl (by assumption)))).2 | exact (cho2_n (.inr (.inr (cho_n1 (by omega))))).2 | exact (cho2_s (by assumption) (by assumption) (by omega) (by assumption) r0h).2 | exact (cho2_m (by assumption) (by assumption)).2
   ·have pr14 : ¬ ((findT rules m.Rule) : Int) < 0 := of_decide_eq_false h14
    refine p1 rfl (li rfl (cv b_44 rfl rfl rfl rfl (fun w' hs => (spec_l1Has w' v11 (timesOf l m.Facts) 0 (rd_own (k := 0) hs rfl))) ?_))
    refine p1 rfl (D_end (x_then (D_weak [(0, v_rules), (5, (.pointer (some ⟨g9, 0, none⟩))), (6, (.pointer (some ⟨g10, 0, none⟩))), (8, (.int .i64 (findT rules m.Rule))), (9, v11), (33, (.bool ((timesOf l m.Facts).contains 0)))] ⟨rfl, rfl, rfl, rfl, rfl, rfl, trivial⟩ (C_if _ rfl (fun h15 => ?_) (fun h15 => ?_)))))
    ·refine C_seq (C_reg (q1 rfl (D_build (vs := []) (cs := [(.string ⟨#[]⟩), (.slice none 0 0), (.slice none 0 0), (.int .i64 0), (.slice none 0 0), (.int .i64 0), (.int .i64 0)]) rfl (fun _ => by kernel_rfl) rfl) (li rfl (D_stb (vs := [(.string ⟨#[]⟩), (.slice none 0 0), (.slice none 0 0), (.int .i64 0), (.slice none 0 0), (.int .i64 0), (.int .i64 0)]) (cs' := [(.string ⟨#[]⟩), (.slice none 0 0), (.slice none 0 0), (.int .i64 0), (.slice none 0 0), (.int .i64 0), (.int .i64 0)]) 1 z_37 rfl rfl rfl rfl rfl rfl (ocons rfl (ocons rfl (ocons rfl (ocons rfl (ocons rfl (ocons rfl (ocons rfl onil))))))) (by simp) rfl ?_))))
     refine p1 rfl (D_end (x_then (C_ret (x_then_ret (D_nil (α := Fact) (D_nil (α := Pair) (D_nil (α := Int) (D_pk (H' := [ov [(.slice none 0 0)] ([] : (List Fact)), ov [(.slice none 0 0)] ([] : (List Pair)), ov [(.slice none 0 0)] ([] : (List Int)), ov [v11] (timesOf l m.Facts : (List Int)), bx g10 [(.string ⟨#[]⟩), (.slice none 0 0), (.slice none 0 0), (.int .i64 0), (.slice none 0 0), (.int .i64 0), (.int .i64 0)], bx g9 [(.string m.Rule), u3, u5]]) [2, 1, 0, 3, 4, 5] rfl rfl (pk_Choice (r := (⟨⟨⟨#[]⟩, [], []⟩, 0, [], 0, 0⟩ : Choice)) (D_fbool false (D_pk (H' := [ov [(.string ⟨#[]⟩), (.slice none 0 0), (.slice none 0 0), (.int .i64 0), (.slice none 0 0), (.int .i64 0), (.int .i64 0)] ((⟨⟨⟨#[]⟩, [], []⟩, 0, [], 0, 0⟩ : Choice) : Choice), ov [(.bool false)] (false : Bool), ov [v11] (timesOf l m.Facts : (List Int)), bx g10 [(.string ⟨#[]⟩), (.slice none 0 0), (.slice none 0 0), (.int .i64 0), (.slice none 0 0), (.int .i64 0), (.int .i64 0)], bx g9 [(.string m.Rule), u3, u5]]) [1, 0, 2, 3, 4] rfl rfl ?_)))))))))))
     refine R_2g rfl (rvc (cs := [(.string ⟨#[]⟩), (.slice none 0 0), (.slice none 0 0), (.int .i64 0), (.slice none 0 0), (.int .i64 0), (.int .i64 0)]) 3 a_37 rfl rfl) (rvt rfl) fun w' hs => res2_of (c1 := [(.string ⟨#[]⟩), (.slice none 0 0), (.slice none 0 0), (.int .i64 0), (.slice none 0 0), (.int .i64 0), (.int .i64 0)]) (c2 := [(.bool false)]) hs ?_ ?_
     ·show ((⟨⟨⟨#[]⟩, [], []⟩, 0, [], 0, 0⟩ : Choice) : Choice) = cho2T rules l m
      first | exact (cho2_n (.inl (by assumption))).1 | exact (cho2_n (.inr (.inl (by assumption)))).1 | exact (cho2_n (.inr (.inr (cho_n1 (by omega))))).1 | exact (cho2_s (by assumption) (by assumption) (by omega) (by assumption) r0h).1 | exact (cho2_m (by assumption) (by assumption)).1 | exact (cho2_n (.inl (by assumption))).2 | exact (cho2_n (.inr (.inl (by assumption)))).2 | exact (cho2_n (.inr (.inr (cho_n1 (by omega))))).2 | exact (cho2_s (by assumption) (by assumption) (by omega) (by assumption) r0h).2 | exact (cho2_m (by assumption) (by assumption)).2
     ·show (false : Bool) = cho2B rules l m
      first | exact (cho2_n (.inl (by assumption))).1 | exact (cho2_n (.inr (.inl (by assumption)))).1 | exact (cho2_n (.inr (.inr (cho_n1 (by omega))))).1 | exact (cho2_s (by assumption) (by assumption) (by omega) (by assumption) r0h).1 | exact (cho2_m (by assumption) (by assumption)).1 | exact (cho2_n (.inl (by assumption))).2 | exact (cho2_n (.inr (.inl (by assumption)))).2 | exact (cho2_n (.inr (.inr (cho_n1 (by omega))))).2 | exact (cho2_s (by assumption) (by assumption) (by omega) (by assumption) r0h).2 | exact (cho2_m (by assumption) (by assumption)).2
    ·refine C_skip (x_then (C_seq (C_draw mixed [15, 16] (by kernel_rfl) (tk 0 rfl (by kernel_rfl) (by kernel_rfl) (by kernel_rfl) rfl (fun _ hs => hs) (lbw 2 a_34 rfl rfl rfl) (tk 2 rfl (by kernel_rfl) (by kernel_rfl) (by kernel_rfl) rfl (fun _ hs => hs) (rp rfl) (tk 3 rfl (by kernel_rfl) (by kernel_rfl) (by kernel_rfl) rfl (fun _ hs => hs) (rp rfl) ?_))))))
     obtain ⟨r0, r0h⟩ := some_of_lt (l := rules) (i := ((findT rules m.Rule).toNat)) (by omega)
     have hrs := sumC_mem (c := szRule) (List.mem_of_getElem? r0h)
     obtain ⟨es16, at17, hr18⟩ := rd_elem (n := 4) rfl h_rules r0h
     obtain ⟨u19, u21, rfl, hu20, hu22⟩ := open_Rule hr18
     have hm23 := rd_max hu20
     have hm24 := rd_max hu22
     refine tk 4 rfl (by kernel_rfl) (by kernel_rfl) (by kernel_rfl) rfl (fun _ hs => hs) (D_ix (l := rules) (j := ((findT rules m.Rule).toNat)) s_40 rfl rfl rfl (fun w' hs => (rd_at hs h_rules)) (Int.toNat_of_nonneg (by omega)).symm (lt_of_some r0h)) (tk 5 rfl (by kernel_rfl) (by kernel_rfl) (by kernel_rfl) rfl (fun _ hs => hs) (D_fa f_96_1 rfl rfl) (tk 6 rfl (by kernel_rfl) (by kernel_rfl) (by kernel_rfl) rfl (fun _ hs => hs) (lr o_3 rfl rfl at17 rfl) (tk 7 rfl (by kernel_rfl) (by kernel_rfl) (by kernel_rfl) rfl (fun _ hs => hs) (rp rfl) (tk 8 rfl (by kernel_rfl) (by kernel_rfl) (by kernel_rfl) rfl (fun _ hs => hs) (rp rfl) (tk 9 rfl (by kernel_rfl) (by kernel_rfl) (by kernel_rfl) rfl (fun _ hs => hs) (rp rfl) (tk 10 rfl (by kernel_rfl) (by kernel_rfl) (by kernel_rfl) rfl (fun _ hs => hs) (D_ix (l := rules) (j := ((findT rules m.Rule).toNat)) s_40 rfl rfl rfl (fun w' hs => (rd_at hs h_rules)) (Int.toNat_of_nonneg (by omega)).symm (lt_of_some r0h)) (tk 11 rfl (by kernel_rfl) (by kernel_rfl) (by kernel_rfl) rfl (fun _ hs => hs) (lra a_96 rfl rfl at17) (tk 13 rfl (by kernel_rfl) (by kernel_rfl) (by kernel_rfl) rfl (fun _ hs => hs) (rp rfl) (ty 1 rfl (by kernel_rfl) rfl (crs rfl b_45 rfl rfl rfl rfl (fun w' hs => (spec_l9Match w' [(.string m.Rule), u3, u5] m (rd_at hs h_m) hm0)) fun cs25 => ?_))))))))))
     refine D_pre (fun w' hs => shape_Match (rd_own (k := 0) hs rfl)) ?_
     rintro ⟨v26, v27, rfl, ho28, ho29⟩
     refine tS (fun _ hs => hs.pk [1, 2, 3] rfl rfl) (ty 12 rfl (by kernel_rfl) rfl (cv b_46 rfl rfl rfl rfl (fun w' hs => (spec_Specificity w' [(.string r0.Name), (.int .i64 r0.Priority), u19, u21] r0 (rd_at hs hr18) (by first | assumption | omega | (unfold szm at *; split at * <;> omega)) (ho _ (List.mem_of_getElem? r0h)))) ?_))
     refine tS (fun _ hs => hs.pk [1, 2, 3] rfl rfl) (D_pre (fun w' hs => one_own (k := 1) hs rfl) ?_)
     intro ho30
     refine tk 14 rfl (by kernel_rfl) (by kernel_rfl) (by kernel_rfl) rfl (fun _ hs => hs.pk [1, 2, 3] rfl rfl) (D_built (vs := [(0, (.agg #[(.string m.Rule), v26, v27])), (1, (.int .i64 r0.Priority)), (2, v11), (3, (.int .i64 (specN r0 : Int))), (4, (.int .i64 (findT rules m.Rule)))]) (xs := [(0, [(.string m.Rule), v26, v27]), (1, [(.int .i64 r0.Priority)]), (2, [v11]), (3, [(.int .i64 (specN r0 : Int))]), (4, [(.int .i64 (findT rules m.Rule))])]) (cs := [(.string m.Rule), v26, v27, (.int .i64 r0.Priority), v11, (.int .i64 (specN r0 : Int)), (.int .i64 (findT rules m.Rule))]) pl_37 rfl ⟨rfl, rfl, ⟨rfl, rfl, ⟨rfl, (cells_of_one ho30), ⟨rfl, rfl, ⟨rfl, rfl, trivial⟩⟩⟩⟩⟩ rfl rfl) (ty 15 rfl (by kernel_rfl) rfl (D_stb (vs := [(.string m.Rule), v26, v27, (.int .i64 r0.Priority), v11, (.int .i64 (specN r0 : Int)), (.int .i64 (findT rules m.Rule))]) (cs' := [(.string m.Rule), v26, v27, (.int .i64 r0.Priority), v11, (.int .i64 (specN r0 : Int)), (.int .i64 (findT rules m.Rule))]) 2 z_37 rfl rfl rfl rfl rfl rfl (ocons rfl (ocons ho28 (ocons ho29 (ocons rfl (ocons ho30 (ocons rfl (ocons rfl onil))))))) (by simp) rfl ?_))
     refine tZ rfl (ty 16 rfl (by kernel_rfl) rfl (sv rfl rfl (rp rfl) ?_))
     refine tZ rfl (tE (by kernel_rfl) (x_then (C_ret (D_unpair (α := ByteArray) (β := (List Fact) × (List Pair)) (c1 := [(.string m.Rule)]) (c2 := [v26, v27]) (x := m.Rule) (y := (m.Facts, m.Binding)) rfl rfl (D_fd [] 1 rfl (D_unpair (α := (List Fact)) (β := (List Pair)) (c1 := [v26]) (c2 := [v27]) (x := m.Facts) (y := (m.Binding)) rfl rfl (D_fd [1] 0 rfl (D_pk (H' := [ov [v26] (m.Facts : (List Fact)), ov [v27] (m.Binding : (List Pair)), ov [v11] (timesOf l m.Facts : (List Int)), bx g10 [(.string m.Rule), v26, v27, (.int .i64 r0.Priority), v11, (.int .i64 (specN r0 : Int)), (.int .i64 (findT rules m.Rule))], bx g9 [(.string m.Rule), u3, u5]]) [1, 0, 2, 3, 4] rfl rfl (pk_Choice (r := (⟨m, r0.Priority, timesOf l m.Facts, (specN r0 : Int), (findT rules m.Rule)⟩ : Choice)) (D_fbool true (D_pk (H' := [ov [(.string m.Rule), v26, v27, (.int .i64 r0.Priority), v11, (.int .i64 (specN r0 : Int)), (.int .i64 (findT rules m.Rule))] ((⟨m, r0.Priority, timesOf l m.Facts, (specN r0 : Int), (findT rules m.Rule)⟩ : Choice) : Choice), ov [(.bool true)] (true : Bool), bx g10 [(.string m.Rule), v26, v27, (.int .i64 r0.Priority), v11, (.int .i64 (specN r0 : Int)), (.int .i64 (findT rules m.Rule))], bx g9 [(.string m.Rule), u3, u5]]) [1, 0, 2, 3] rfl rfl ?_)))))))))))
     refine R_2g rfl (rvc (cs := [(.string m.Rule), v26, v27, (.int .i64 r0.Priority), v11, (.int .i64 (specN r0 : Int)), (.int .i64 (findT rules m.Rule))]) 2 a_37 rfl rfl) (rvt rfl) fun w' hs => res2_of (c1 := [(.string m.Rule), v26, v27, (.int .i64 r0.Priority), v11, (.int .i64 (specN r0 : Int)), (.int .i64 (findT rules m.Rule))]) (c2 := [(.bool true)]) hs ?_ ?_
     ·show ((⟨m, r0.Priority, timesOf l m.Facts, (specN r0 : Int), (findT rules m.Rule)⟩ : Choice) : Choice) = cho2T rules l m
      first | exact (cho2_n (.inl (by assumption))).1 | exact (cho2_n (.inr (.inl (by assumption)))).1 | exact (cho2_n (.inr (.inr (cho_n1 (by omega))))).1 | exact (cho2_s (by assumption) (by assumption) (by omega) (by assumption) r0h).1 | exact (cho2_m (by assumption) (by assumption)).1 | exact (cho2_n (.inl (by assumption))).2 | exact (cho2_n (.inr (.inl (by assumption)))).2 | exact (cho2_n (.inr (.inr (cho_n1 (by omega))))).2 | exact (cho2_s (by assumption) (by assumption) (by omega) (by assumption) r0h).2 | exact (cho2_m (by assumption) (by assumption)).2
     ·show (true : Bool) = cho2B rules l m
      first | exact (cho2_n (.inl (by assumption))).1 | exact (cho2_n (.inr (.inl (by assumption)))).1 | exact (cho2_n (.inr (.inr (cho_n1 (by omega))))).1 | exact (cho2_s (by assumption) (by assumption) (by omega) (by assumption) r0h).1 | exact (cho2_m (by assumption) (by assumption)).1 | exact (cho2_n (.inl (by assumption))).2 | exact (cho2_n (.inr (.inl (by assumption)))).2 | exact (cho2_n (.inr (.inr (cho_n1 (by omega))))).2 | exact (cho2_s (by assumption) (by assumption) (by omega) (by assumption) r0h).2 | exact (cho2_m (by assumption) (by assumption)).2

set_option maxHeartbeats 4000000 in
theorem laws_FnExactChoiceOf (w : World) (v_aRules : Value) (aRules : (List Rule)) (v_aL : Value) (aL : (List Stamp)) (c_aM : List Value) (aM : Match) (h_aRules : Gd.rd w [v_aRules] aRules) (h_aL : Gd.rd w [v_aL] aL) (h_aM : Gd.rd w c_aM aM) (hok : okL okRule aRules) (hok2 : okL okStamp aL) (hok3 : okMatch aM) (htb : Tb w) : Calls Tryz.prog 3 [v_aRules, v_aL, (.agg c_aM.toArray)].toArray w (Val w (.bool (true))) := by
 have hm1 := rd_max h_aRules
 have hm2 := rd_max h_aL
 obtain ⟨u3, u5, rfl, hu4, hu6⟩ := open_Match h_aM
 have hm7 := rd_max hu4
 have hm8 := rd_max hu6
 have hz2 := cCh_cho aRules aL aM
 have hz3 := cRu_sum aRules
 have hz4 := cCh_mk 1 (cho2T aRules aL aM)
 have hz5 := cMa_le aM
 have hz6 := cSt_sum aL
 have hz7 : szMatch aM = aM.Rule.size + (aM.Facts.length + sumC szFa aM.Facts) + szL szPair aM.Binding := rfl
 refine enter 142 Tryz.func3 rfl rfl rfl (C_seq (C_reg (li rfl (D_box rfl rfl rfl rfl rfl fun g9 => ?_))))
 refine p1 rfl (D_end (x_then (D_H ([bx g9 [(.string aM.Rule), u3, u5]]) rfl (C_seq (C_reg (p1 rfl (D_end (x_then (C_seq (C_reg (p1 rfl <| p1 rfl ?_)))))))))))
 refine li rfl (cv b_6 rfl rfl rfl rfl (fun w' hs => (laws_szRuleS w' v_aRules aRules 1048576 (rd_at hs h_aRules) (by first | assumption | omega | (unfold szm at *; split at * <;> omega)) (by first | assumption | omega | (unfold szm at *; split at * <;> omega)) hok)) ?_)
 refine p1 rfl (D_end (x_then (C_seq (C_seq (C_reg (p1 rfl <| p1 rfl (D_end (x_then (C_if _ rfl (fun h10 => ?_) (fun h10 => ?_))))))))))
 ·have pr10 : ((szm (szL szRule aRules) 1048576) : Int) < 0 := of_decide_eq_true h10
  refine C_seq (C_reg (p1 rfl (D_end (x_then (C_ret (x_then_ret (Rb rfl rfl ?_)))))))
  first | rfl | (exfalso; omega) | (exfalso; simp only [cCh_mk] at *; omega) | exact absurd h10 (by simp)
 ·have pr10 : ¬ ((szm (szL szRule aRules) 1048576) : Int) < 0 := of_decide_eq_false h10
  have pr10z := szm_val (n := (szL szRule aRules)) (left := 1048576) pr10
  refine C_skip (x_then (C_seq (C_reg (p1 rfl <| p1 rfl (li rfl (cv b_7 rfl rfl rfl rfl (fun w' hs => (laws_szStampS w' v_aL aL (szm (szL szRule aRules) 1048576) (rd_at hs h_aL) (by first | assumption | omega | (unfold szm at *; split at * <;> omega)) (by first | assumption | omega | (unfold szm at *; split at * <;> omega)) hok2)) ?_))))))
  refine p1 rfl (D_end (x_then (C_seq (C_seq (C_reg (p1 rfl <| p1 rfl (D_end (x_then (C_if _ rfl (fun h11 => ?_) (fun h11 => ?_))))))))))
  ·have pr11 : ((szm (szL szStamp aL) (szm (szL szRule aRules) 1048576)) : Int) < 0 := of_decide_eq_true h11
   refine C_seq (C_reg (p1 rfl (D_end (x_then (C_ret (x_then_ret (Rb rfl rfl ?_)))))))
   first | rfl | (exfalso; omega) | (exfalso; simp only [cCh_mk] at *; omega) | exact absurd h11 (by simp)
  ·have pr11 : ¬ ((szm (szL szStamp aL) (szm (szL szRule aRules) 1048576)) : Int) < 0 := of_decide_eq_false h11
   have pr11z := szm_val (n := (szL szStamp aL)) (left := (szm (szL szRule aRules) 1048576)) pr11
   refine C_skip (x_then (C_seq (C_reg (q1 rfl (lbw 0 a_27 rfl rfl rfl) (p1 rfl (li rfl (cv b_8 rfl rfl rfl rfl (fun w' hs => (laws_szMatch w' [(.string aM.Rule), u3, u5] aM (szm (szL szStamp aL) (szm (szL szRule aRules) 1048576)) (rd_at hs h_aM) (by first | assumption | omega | (unfold szm at *; split at * <;> omega)) (by first | assumption | omega | (unfold szm at *; split at * <;> omega)) hok3)) ?_)))))))
   refine p1 rfl (D_end (x_then (D_weak [(0, v_aRules), (1, v_aL), (5, (.pointer (some ⟨g9, 0, none⟩))), (7, (.int .i64 (szm (szMatch aM) (szm (szL szStamp aL) (szm (szL szRule aRules) 1048576)))))] ⟨rfl, rfl, rfl, rfl, trivial⟩ (C_seq (C_seq (C_reg (p1 rfl <| p1 rfl (D_end (x_then (C_if _ rfl (fun h12 => ?_) (fun h12 => ?_)))))))))))
   ·have pr12 : ((szm (szMatch aM) (szm (szL szStamp aL) (szm (szL szRule aRules) 1048576))) : Int) < 0 := of_decide_eq_true h12
    refine C_seq (C_reg (p1 rfl (D_end (x_then (C_ret (x_then_ret (Rb rfl rfl ?_)))))))
    first | rfl | (exfalso; omega) | (exfalso; simp only [cCh_mk] at *; omega) | exact absurd h12 (by simp)
   ·have pr12 : ¬ ((szm (szMatch aM) (szm (szL szStamp aL) (szm (szL szRule aRules) 1048576))) : Int) < 0 := of_decide_eq_false h12
    have pr12z := szm_val (n := (szMatch aM)) (left := (szm (szL szStamp aL) (szm (szL szRule aRules) 1048576))) pr12
    refine C_skip (x_then (C_seq (C_join (fun ac w' => ∃ (g28 : Nat), ∃ (v22 : Value), ∃ (v23 : Value), ∃ (v24 : Value), (v22.oneCell' = true) ∧ (v23.oneCell' = true) ∧ (v24.oneCell' = true) ∧ Fits ac 142 [(0, v_aRules), (1, v_aL), (5, (.pointer (some ⟨g9, 0, none⟩))), (8, (.pointer (some ⟨g28, 0, none⟩))), (9, (.bool (cho2B aRules aL aM)))] ∧ St w ([bx g28 [(.string ((cho2T aRules aL aM).Match.Rule)), v22, v23, (.int .i64 ((cho2T aRules aL aM).Priority)), v24, (.int .i64 ((cho2T aRules aL aM).Specific)), (.int .i64 ((cho2T aRules aL aM).Order))], ov [(.string ((cho2T aRules aL aM).Match.Rule)), v22, v23, (.int .i64 ((cho2T aRules aL aM).Priority)), v24, (.int .i64 ((cho2T aRules aL aM).Specific)), (.int .i64 ((cho2T aRules aL aM).Order))] (cho2T aRules aL aM : Choice), bx g9 [(.string aM.Rule), u3, u5]]) w') ?_ ?_)))
    ·refine C_draw mixed [] (by kernel_rfl) (tk 0 rfl (by kernel_rfl) (by kernel_rfl) (by kernel_rfl) rfl (fun _ hs => hs) (rp rfl) (tk 2 rfl (by kernel_rfl) (by kernel_rfl) (by kernel_rfl) rfl (fun _ hs => hs) (rp rfl) (tk 4 rfl (by kernel_rfl) (by kernel_rfl) (by kernel_rfl) rfl (fun _ hs => hs) (lbw 0 a_27 rfl rfl rfl) (tyN [1, 10] rfl (by kernel_rfl) ⟨⟨_, rfl, rfl, ?_⟩, ⟨_, rfl, rfl, ?_⟩, trivial⟩))))
     ·refine id (crl b_10 rfl rfl rfl rfl (fun w' hs => (laws_toRuleS w' v_aRules aRules (rd_at hs h_aRules) (by first | assumption | omega | (unfold szm at *; split at * <;> omega)))) fun v13 => ?_)
      refine tS (fun _ hs => hs.pk [1] rfl rfl) (tyN [3, 10] rfl (by kernel_rfl) ⟨⟨_, rfl, rfl, ?_⟩, ⟨_, rfl, rfl, ?_⟩, trivial⟩)
      ·refine id (crl b_11 rfl rfl rfl rfl (fun w' hs => (laws_toStampS w' v_aL aL (rd_at hs h_aL) (by first | assumption | omega | (unfold szm at *; split at * <;> omega)))) fun v14 => ?_)
       refine tS (fun _ hs => hs.pk [2] rfl rfl) (tyN [5, 10] rfl (by kernel_rfl) ⟨⟨_, rfl, rfl, ?_⟩, ⟨_, rfl, rfl, ?_⟩, trivial⟩)
       ·refine id (crs rfl b_12 rfl rfl rfl rfl (fun w' hs => (laws_toMatch w' [(.string aM.Rule), u3, u5] aM (rd_at hs h_aM) (by first | assumption | omega | (unfold szm at *; split at * <;> omega)))) fun cs15 => ?_)
        refine D_pre (fun w' hs => shape_Match (rd_own (k := 0) hs rfl)) ?_
        rintro ⟨v16, v17, rfl, ho18, ho19⟩
        refine tS (fun _ hs => hs.pk [3] rfl rfl) (tyN [6, 10] rfl (by kernel_rfl) ⟨⟨_, rfl, rfl, ?_⟩, ⟨_, rfl, rfl, ?_⟩, trivial⟩)
        ·refine id (cr2 b_9 rfl rfl rfl rfl (fun w' hs => (spec_ChoiceOf w' v13 aRules v14 aL [(.string aM.Rule), v16, v17] aM (rd_own (k := 2) hs rfl) (rd_own (k := 1) hs rfl) (rd_own (k := 0) hs rfl) (by first | assumption | omega | (unfold szm at *; split at * <;> omega)) (by first | assumption | omega | (unfold szm at *; split at * <;> omega)) (by first | assumption | omega | (unfold szm at *; split at * <;> omega)) hok hok2)) fun cs20 cs21 => ?_)
         refine D_pre (fun w' hs => shape_Choice (rd_own (k := 0) hs rfl)) ?_
         rintro ⟨v22, v23, v24, rfl, ho25, ho26, ho27⟩
         refine D_pre (fun w' hs => show cs21 = [(.bool (cho2B aRules aL aM))] from rd_own (k := 1) hs rfl) ?_
         rintro rfl
         refine D_re 42 (v' := (.tuple #[(.agg #[(.string ((cho2T aRules aL aM).Match.Rule)), v22, v23, (.int .i64 ((cho2T aRules aL aM).Priority)), v24, (.int .i64 ((cho2T aRules aL aM).Specific)), (.int .i64 ((cho2T aRules aL aM).Order))]), (.bool (cho2B aRules aL aM))])) rfl rfl rfl (D_pk (H' := [ov [(.string ((cho2T aRules aL aM).Match.Rule)), v22, v23, (.int .i64 ((cho2T aRules aL aM).Priority)), v24, (.int .i64 ((cho2T aRules aL aM).Specific)), (.int .i64 ((cho2T aRules aL aM).Order))] (cho2T aRules aL aM : Choice), ov [(.string aM.Rule), v16, v17] (aM : Match), ov [v14] (aL : (List Stamp)), ov [v13] (aRules : (List Rule)), bx g9 [(.string aM.Rule), u3, u5]]) [0, 2, 3, 4, 5] rfl rfl (tS (fun _ hs => hs.pk [4] rfl rfl) (tk 7 rfl (by kernel_rfl) (by kernel_rfl) (by kernel_rfl) rfl (fun _ hs => hs.pk [4] rfl rfl) (rp rfl) (tk 8 rfl (by kernel_rfl) (by kernel_rfl) (by kernel_rfl) rfl (fun _ hs => hs.pk [4] rfl rfl) (rp rfl) (tk 9 rfl (by kernel_rfl) (by kernel_rfl) (by kernel_rfl) rfl (fun _ hs => hs.pk [4] rfl rfl) (rp rfl) (ty 10 rfl (by kernel_rfl) rfl (D_alloc y_37 rfl rfl rfl rfl fun g28 => ?_)))))))
         refine tS (fun _ hs => hs.pk [5] rfl rfl) (ty 11 rfl (by kernel_rfl) rfl (D_stb (vs := [(.string ((cho2T aRules aL aM).Match.Rule)), v22, v23, (.int .i64 ((cho2T aRules aL aM).Priority)), v24, (.int .i64 ((cho2T aRules aL aM).Specific)), (.int .i64 ((cho2T aRules aL aM).Order))]) (cs' := [(.string ((cho2T aRules aL aM).Match.Rule)), v22, v23, (.int .i64 ((cho2T aRules aL aM).Priority)), v24, (.int .i64 ((cho2T aRules aL aM).Specific)), (.int .i64 ((cho2T aRules aL aM).Order))]) 0 z_37 rfl rfl rfl rfl rfl rfl (ocons rfl (ocons ho25 (ocons ho26 (ocons rfl (ocons ho27 (ocons rfl (ocons rfl onil))))))) (by simp) rfl ?_))
         refine tS (fun _ hs => hs.pk [5] rfl rfl) (tk 12 rfl (by kernel_rfl) (by kernel_rfl) (by kernel_rfl) rfl (fun _ hs => hs.pk [5] rfl rfl) (rp rfl) (tE (by kernel_rfl) (x_then (fun ac w' hf hs => ⟨g28, v22, v23, v24, ho25, ho26, ho27, hf.weak ⟨rfl, rfl, rfl, rfl, rfl, trivial⟩, hs.pk [0, 1, 5] rfl rfl⟩))))
        ·refine id (D_alloc y_37 rfl rfl rfl rfl fun g29 => ?_)
         refine tS (fun _ hs => hs.pk [4] rfl rfl) (ty 6 rfl (by kernel_rfl) rfl (cr2 b_9 rfl rfl rfl rfl (fun w' hs => (spec_ChoiceOf w' v13 aRules v14 aL [(.string aM.Rule), v16, v17] aM (rd_own (k := 3) hs rfl) (rd_own (k := 2) hs rfl) (rd_own (k := 1) hs rfl) (by first | assumption | omega | (unfold szm at *; split at * <;> omega)) (by first | assumption | omega | (unfold szm at *; split at * <;> omega)) (by first | assumption | omega | (unfold szm at *; split at * <;> omega)) hok hok2)) fun cs30 cs31 => ?_))
         refine D_pre (fun w' hs => shape_Choice (rd_own (k := 0) hs rfl)) ?_
         rintro ⟨v32, v33, v34, rfl, ho35, ho36, ho37⟩
         refine D_pre (fun w' hs => show cs31 = [(.bool (cho2B aRules aL aM))] from rd_own (k := 1) hs rfl) ?_
         rintro rfl
         refine D_re 42 (v' := (.tuple #[(.agg #[(.string ((cho2T aRules aL aM).Match.Rule)), v32, v33, (.int .i64 ((cho2T aRules aL aM).Priority)), v34, (.int .i64 ((cho2T aRules aL aM).Specific)), (.int .i64 ((cho2T aRules aL aM).Order))]), (.bool (cho2B aRules aL aM))])) rfl rfl rfl (D_pk (H' := [ov [(.string ((cho2T aRules aL aM).Match.Rule)), v32, v33, (.int .i64 ((cho2T aRules aL aM).Priority)), v34, (.int .i64 ((cho2T aRules aL aM).Specific)), (.int .i64 ((cho2T aRules aL aM).Order))] (cho2T aRules aL aM : Choice), bx g29 [(.string ⟨#[]⟩), (.slice none 0 0), (.slice none 0 0), (.int .i64 0), (.slice none 0 0), (.int .i64 0), (.int .i64 0)], ov [(.string aM.Rule), v16, v17] (aM : Match), ov [v14] (aL : (List Stamp)), ov [v13] (aRules : (List Rule)), bx g9 [(.string aM.Rule), u3, u5]]) [0, 2, 3, 4, 5, 6] rfl rfl (tS (fun _ hs => hs.pk [5] rfl rfl) (tk 7 rfl (by kernel_rfl) (by kernel_rfl) (by kernel_rfl) rfl (fun _ hs => hs.pk [5] rfl rfl) (rp rfl) (tk 8 rfl (by kernel_rfl) (by kernel_rfl) (by kernel_rfl) rfl (fun _ hs => hs.pk [5] rfl rfl) (rp rfl) (tk 9 rfl (by kernel_rfl) (by kernel_rfl) (by kernel_rfl) rfl (fun _ hs => hs.pk [5] rfl rfl) (rp rfl) (ty 11 rfl (by kernel_rfl) rfl (D_stb (vs := [(.string ((cho2T aRules aL aM).Match.Rule)), v32, v33, (.int .i64 ((cho2T aRules aL aM).Priority)), v34, (.int .i64 ((cho2T aRules aL aM).Specific)), (.int .i64 ((cho2T aRules aL aM).Order))]) (cs' := [(.string ((cho2T aRules aL aM).Match.Rule)), v32, v33, (.int .i64 ((cho2T aRules aL aM).Priority)), v34, (.int .i64 ((cho2T aRules aL aM).Specific)), (.int .i64 ((cho2T aRules aL aM).Order))]) 1 z_37 rfl rfl rfl rfl rfl rfl (ocons rfl (ocons ho35 (ocons ho36 (ocons rfl (ocons ho37 (ocons rfl (ocons rfl onil))))))) (by simp) rfl ?_)))))))
         refine tS (fun _ hs => hs.pk [5] rfl rfl) (tk 12 rfl (by kernel_rfl) (by kernel_rfl) (by kernel_rfl) rfl (fun _ hs => hs.pk [5] rfl rfl) (rp rfl) (tE (by kernel_rfl) (x_then (fun ac w' hf hs => ⟨g29, v32, v33, v34, ho35, ho36, ho37, hf.weak ⟨rfl, rfl, rfl, rfl, rfl, trivial⟩, hs.pk [1, 0, 5] rfl rfl⟩))))
       ·refine id (D_alloc y_37 rfl rfl rfl rfl fun g38 => ?_)
        refine tS (fun _ hs => hs.pk [3] rfl rfl) (ty 5 rfl (by kernel_rfl) rfl (crs rfl b_12 rfl rfl rfl rfl (fun w' hs => (laws_toMatch w' [(.string aM.Rule), u3, u5] aM (rd_at hs h_aM) (by first | assumption | omega | (unfold szm at *; split at * <;> omega)))) fun cs39 => ?_))
        refine D_pre (fun w' hs => shape_Match (rd_own (k := 0) hs rfl)) ?_
        rintro ⟨v40, v41, rfl, ho42, ho43⟩
        refine tS (fun _ hs => hs.pk [4] rfl rfl) (ty 6 rfl (by kernel_rfl) rfl (cr2 b_9 rfl rfl rfl rfl (fun w' hs => (spec_ChoiceOf w' v13 aRules v14 aL [(.string aM.Rule), v40, v41] aM (rd_own (k := 3) hs rfl) (rd_own (k := 2) hs rfl) (rd_own (k := 0) hs rfl) (by first | assumption | omega | (unfold szm at *; split at * <;> omega)) (by first | assumption | omega | (unfold szm at *; split at * <;> omega)) (by first | assumption | omega | (unfold szm at *; split at * <;> omega)) hok hok2)) fun cs44 cs45 => ?_))
        refine D_pre (fun w' hs => shape_Choice (rd_own (k := 0) hs rfl)) ?_
        rintro ⟨v46, v47, v48, rfl, ho49, ho50, ho51⟩
        refine D_pre (fun w' hs => show cs45 = [(.bool (cho2B aRules aL aM))] from rd_own (k := 1) hs rfl) ?_
        rintro rfl
        refine D_re 42 (v' := (.tuple #[(.agg #[(.string ((cho2T aRules aL aM).Match.Rule)), v46, v47, (.int .i64 ((cho2T aRules aL aM).Priority)), v48, (.int .i64 ((cho2T aRules aL aM).Specific)), (.int .i64 ((cho2T aRules aL aM).Order))]), (.bool (cho2B aRules aL aM))])) rfl rfl rfl (D_pk (H' := [ov [(.string ((cho2T aRules aL aM).Match.Rule)), v46, v47, (.int .i64 ((cho2T aRules aL aM).Priority)), v48, (.int .i64 ((cho2T aRules aL aM).Specific)), (.int .i64 ((cho2T aRules aL aM).Order))] (cho2T aRules aL aM : Choice), ov [(.string aM.Rule), v40, v41] (aM : Match), bx g38 [(.string ⟨#[]⟩), (.slice none 0 0), (.slice none 0 0), (.int .i64 0), (.slice none 0 0), (.int .i64 0), (.int .i64 0)], ov [v14] (aL : (List Stamp)), ov [v13] (aRules : (List Rule)), bx g9 [(.string aM.Rule), u3, u5]]) [0, 2, 3, 4, 5, 6] rfl rfl (tS (fun _ hs => hs.pk [5] rfl rfl) (tk 7 rfl (by kernel_rfl) (by kernel_rfl) (by kernel_rfl) rfl (fun _ hs => hs.pk [5] rfl rfl) (rp rfl) (tk 8 rfl (by kernel_rfl) (by kernel_rfl) (by kernel_rfl) rfl (fun _ hs => hs.pk [5] rfl rfl) (rp rfl) (tk 9 rfl (by kernel_rfl) (by kernel_rfl) (by kernel_rfl) rfl (fun _ hs => hs.pk [5] rfl rfl) (rp rfl) (ty 11 rfl (by kernel_rfl) rfl (D_stb (vs := [(.string ((cho2T aRules aL aM).Match.Rule)), v46, v47, (.int .i64 ((cho2T aRules aL aM).Priority)), v48, (.int .i64 ((cho2T aRules aL aM).Specific)), (.int .i64 ((cho2T aRules aL aM).Order))]) (cs' := [(.string ((cho2T aRules aL aM).Match.Rule)), v46, v47, (.int .i64 ((cho2T aRules aL aM).Priority)), v48, (.int .i64 ((cho2T aRules aL aM).Specific)), (.int .i64 ((cho2T aRules aL aM).Order))]) 2 z_37 rfl rfl rfl rfl rfl rfl (ocons rfl (ocons ho49 (ocons ho50 (ocons rfl (ocons ho51 (ocons rfl (ocons rfl onil))))))) (by simp) rfl ?_)))))))
        refine tS (fun _ hs => hs.pk [5] rfl rfl) (tk 12 rfl (by kernel_rfl) (by kernel_rfl) (by kernel_rfl) rfl (fun _ hs => hs.pk [5] rfl rfl) (rp rfl) (tE (by kernel_rfl) (x_then (fun ac w' hf hs => ⟨g38, v46, v47, v48, ho49, ho50, ho51, hf.weak ⟨rfl, rfl, rfl, rfl, rfl, trivial⟩, hs.pk [2, 0, 5] rfl rfl⟩))))
      ·refine id (D_alloc y_37 rfl rfl rfl rfl fun g52 => ?_)
       refine tS (fun _ hs => hs.pk [2] rfl rfl) (ty 3 rfl (by kernel_rfl) rfl (crl b_11 rfl rfl rfl rfl (fun w' hs => (laws_toStampS w' v_aL aL (rd_at hs h_aL) (by first | assumption | omega | (unfold szm at *; split at * <;> omega)))) fun v53 => ?_))
       refine tS (fun _ hs => hs.pk [3] rfl rfl) (ty 5 rfl (by kernel_rfl) rfl (crs rfl b_12 rfl rfl rfl rfl (fun w' hs => (laws_toMatch w' [(.string aM.Rule), u3, u5] aM (rd_at hs h_aM) (by first | assumption | omega | (unfold szm at *; split at * <;> omega)))) fun cs54 => ?_))
       refine D_pre (fun w' hs => shape_Match (rd_own (k := 0) hs rfl)) ?_
       rintro ⟨v55, v56, rfl, ho57, ho58⟩
       refine tS (fun _ hs => hs.pk [4] rfl rfl) (ty 6 rfl (by kernel_rfl) rfl (cr2 b_9 rfl rfl rfl rfl (fun w' hs => (spec_ChoiceOf w' v13 aRules v53 aL [(.string aM.Rule), v55, v56] aM (rd_own (k := 3) hs rfl) (rd_own (k := 1) hs rfl) (rd_own (k := 0) hs rfl) (by first | assumption | omega | (unfold szm at *; split at * <;> omega)) (by first | assumption | omega | (unfold szm at *; split at * <;> omega)) (by first | assumption | omega | (unfold szm at *; split at * <;> omega)) hok hok2)) fun cs59 cs60 => ?_))
       refine D_pre (fun w' hs => shape_Choice (rd_own (k := 0) hs rfl)) ?_
       rintro ⟨v61, v62, v63, rfl, ho64, ho65, ho66⟩
       refine D_pre (fun w' hs => show cs60 = [(.bool (cho2B aRules aL aM))] from rd_own (k := 1) hs rfl) ?_
       rintro rfl
       refine D_re 42 (v' := (.tuple #[(.agg #[(.string ((cho2T aRules aL aM).Match.Rule)), v61, v62, (.int .i64 ((cho2T aRules aL aM).Priority)), v63, (.int .i64 ((cho2T aRules aL aM).Specific)), (.int .i64 ((cho2T aRules aL aM).Order))]), (.bool (cho2B aRules aL aM))])) rfl rfl rfl (D_pk (H' := [ov [(.string ((cho2T aRules aL aM).Match.Rule)), v61, v62, (.int .i64 ((cho2T aRules aL aM).Priority)), v63, (.int .i64 ((cho2T aRules aL aM).Specific)), (.int .i64 ((cho2T aRules aL aM).Order))] (cho2T aRules aL aM : Choice), ov [(.string aM.Rule), v55, v56] (aM : Match), ov [v53] (aL : (List Stamp)), bx g52 [(.string ⟨#[]⟩), (.slice none 0 0), (.slice none 0 0), (.int .i64 0), (.slice none 0 0), (.int .i64 0), (.int .i64 0)], ov [v13] (aRules : (List Rule)), bx g9 [(.string aM.Rule), u3, u5]]) [0, 2, 3, 4, 5, 6] rfl rfl (tS (fun _ hs => hs.pk [5] rfl rfl) (tk 7 rfl (by kernel_rfl) (by kernel_rfl) (by kernel_rfl) rfl (fun _ hs => hs.pk [5] rfl rfl) (rp rfl) (tk 8 rfl (by kernel_rfl) (by kernel_rfl) (by kernel_rfl) rfl (fun _ hs => hs.pk [5] rfl rfl) (rp rfl) (tk 9 rfl (by kernel_rfl) (by kernel_rfl) (by kernel_rfl) rfl (fun _ hs => hs.pk [5] rfl rfl) (rp rfl) (ty 11 rfl (by kernel_rfl) rfl (D_stb (vs := [(.string ((cho2T aRules aL aM).Match.Rule)), v61, v62, (.int .i64 ((cho2T aRules aL aM).Priority)), v63, (.int .i64 ((cho2T aRules aL aM).Specific)), (.int .i64 ((cho2T aRules aL aM).Order))]) (cs' := [(.string ((cho2T aRules aL aM).Match.Rule)), v61, v62, (.int .i64 ((cho2T aRules aL aM).Priority)), v63, (.int .i64 ((cho2T aRules aL aM).Specific)), (.int .i64 ((cho2T aRules aL aM).Order))]) 3 z_37 rfl rfl rfl rfl rfl rfl (ocons rfl (ocons ho64 (ocons ho65 (ocons rfl (ocons ho66 (ocons rfl (ocons rfl onil))))))) (by simp) rfl ?_)))))))
       refine tS (fun _ hs => hs.pk [5] rfl rfl) (tk 12 rfl (by kernel_rfl) (by kernel_rfl) (by kernel_rfl) rfl (fun _ hs => hs.pk [5] rfl rfl) (rp rfl) (tE (by kernel_rfl) (x_then (fun ac w' hf hs => ⟨g52, v61, v62, v63, ho64, ho65, ho66, hf.weak ⟨rfl, rfl, rfl, rfl, rfl, trivial⟩, hs.pk [3, 0, 5] rfl rfl⟩))))
     ·refine id (D_alloc y_37 rfl rfl rfl rfl fun g67 => ?_)
      refine tS (fun _ hs => hs.pk [1] rfl rfl) (ty 1 rfl (by kernel_rfl) rfl (crl b_10 rfl rfl rfl rfl (fun w' hs => (laws_toRuleS w' v_aRules aRules (rd_at hs h_aRules) (by first | assumption | omega | (unfold szm at *; split at * <;> omega)))) fun v68 => ?_))
      refine tS (fun _ hs => hs.pk [2] rfl rfl) (ty 3 rfl (by kernel_rfl) rfl (crl b_11 rfl rfl rfl rfl (fun w' hs => (laws_toStampS w' v_aL aL (rd_at hs h_aL) (by first | assumption | omega | (unfold szm at *; split at * <;> omega)))) fun v69 => ?_))
      refine tS (fun _ hs => hs.pk [3] rfl rfl) (ty 5 rfl (by kernel_rfl) rfl (crs rfl b_12 rfl rfl rfl rfl (fun w' hs => (laws_toMatch w' [(.string aM.Rule), u3, u5] aM (rd_at hs h_aM) (by first | assumption | omega | (unfold szm at *; split at * <;> omega)))) fun cs70 => ?_))
      refine D_pre (fun w' hs => shape_Match (rd_own (k := 0) hs rfl)) ?_
      rintro ⟨v71, v72, rfl, ho73, ho74⟩
      refine tS (fun _ hs => hs.pk [4] rfl rfl) (ty 6 rfl (by kernel_rfl) rfl (cr2 b_9 rfl rfl rfl rfl (fun w' hs => (spec_ChoiceOf w' v68 aRules v69 aL [(.string aM.Rule), v71, v72] aM (rd_own (k := 2) hs rfl) (rd_own (k := 1) hs rfl) (rd_own (k := 0) hs rfl) (by first | assumption | omega | (unfold szm at *; split at * <;> omega)) (by first | assumption | omega | (unfold szm at *; split at * <;> omega)) (by first | assumption | omega | (unfold szm at *; split at * <;> omega)) hok hok2)) fun cs75 cs76 => ?_))
      refine D_pre (fun w' hs => shape_Choice (rd_own (k := 0) hs rfl)) ?_
      rintro ⟨v77, v78, v79, rfl, ho80, ho81, ho82⟩
      refine D_pre (fun w' hs => show cs76 = [(.bool (cho2B aRules aL aM))] from rd_own (k := 1) hs rfl) ?_
      rintro rfl
      refine D_re 42 (v' := (.tuple #[(.agg #[(.string ((cho2T aRules aL aM).Match.Rule)), v77, v78, (.int .i64 ((cho2T aRules aL aM).Priority)), v79, (.int .i64 ((cho2T aRules aL aM).Specific)), (.int .i64 ((cho2T aRules aL aM).Order))]), (.bool (cho2B aRules aL aM))])) rfl rfl rfl (D_pk (H' := [ov [(.string ((cho2T aRules aL aM).Match.Rule)), v77, v78, (.int .i64 ((cho2T aRules aL aM).Priority)), v79, (.int .i64 ((cho2T aRules aL aM).Specific)), (.int .i64 ((cho2T aRules aL aM).Order))] (cho2T aRules aL aM : Choice), ov [(.string aM.Rule), v71, v72] (aM : Match), ov [v69] (aL : (List Stamp)), ov [v68] (aRules : (List Rule)), bx g67 [(.string ⟨#[]⟩), (.slice none 0 0), (.slice none 0 0), (.int .i64 0), (.slice none 0 0), (.int .i64 0), (.int .i64 0)], bx g9 [(.string aM.Rule), u3, u5]]) [0, 2, 3, 4, 5, 6] rfl rfl (tS (fun _ hs => hs.pk [5] rfl rfl) (tk 7 rfl (by kernel_rfl) (by kernel_rfl) (by kernel_rfl) rfl (fun _ hs => hs.pk [5] rfl rfl) (rp rfl) (tk 8 rfl (by kernel_rfl) (by kernel_rfl) (by kernel_rfl) rfl (fun _ hs => hs.pk [5] rfl rfl) (rp rfl) (tk 9 rfl (by kernel_rfl) (by kernel_rfl) (by kernel_rfl) rfl (fun _ hs => hs.pk [5] rfl rfl) (rp rfl) (ty 11 rfl (by kernel_rfl) rfl (D_stb (vs := [(.string ((cho2T aRules aL aM).Match.Rule)), v77, v78, (.int .i64 ((cho2T aRules aL aM).Priority)), v79, (.int .i64 ((cho2T aRules aL aM).Specific)), (.int .i64 ((cho2T aRules aL aM).Order))]) (cs' := [(.string ((cho2T aRules aL aM).Match.Rule)), v77, v78, (.int .i64 ((cho2T aRules aL aM).Priority)), v79, (.int .i64 ((cho2T aRules aL aM).Specific)), (.int .i64 ((cho2T aRules aL aM).Order))]) 4 z_37 rfl rfl rfl rfl rfl rfl (ocons rfl (ocons ho80 (ocons ho81 (ocons rfl (ocons ho82 (ocons rfl (ocons rfl onil))))))) (by simp) rfl ?_)))))))
      refine tS (fun _ hs => hs.pk [5] rfl rfl) (tk 12 rfl (by kernel_rfl) (by kernel_rfl) (by kernel_rfl) rfl (fun _ hs => hs.pk [5] rfl rfl) (rp rfl) (tE (by kernel_rfl) (x_then (fun ac w' hf hs => ⟨g67, v77, v78, v79, ho80, ho81, ho82, hf.weak ⟨rfl, rfl, rfl, rfl, rfl, trivial⟩, hs.pk [4, 0, 5] rfl rfl⟩))))
    rintro ac w' ⟨g28, v22, v23, v24, ho25, ho26, ho27, hf, hs⟩
    refine D.use ?_ hf hs
    clear hf hs ac w'
    refine x_then (D_H ([bx g28 [(.string ((cho2T aRules aL aM).Match.Rule)), v22, v23, (.int .i64 ((cho2T aRules aL aM).Priority)), v24, (.int .i64 ((cho2T aRules aL aM).Specific)), (.int .i64 ((cho2T aRules aL aM).Order))], ov [(.string ((cho2T aRules aL aM).Match.Rule)), v22, v23, (.int .i64 ((cho2T aRules aL aM).Priority)), v24, (.int .i64 ((cho2T aRules aL aM).Specific)), (.int .i64 ((cho2T aRules aL aM).Order))] (cho2T aRules aL aM : Choice), bx g9 [(.string aM.Rule), u3, u5]]) rfl (C_seq (C_reg (p1 rfl (li rfl (crl b_10 rfl rfl rfl rfl (fun w' hs => (laws_toRuleS w' v_aRules aRules (rd_at hs h_aRules) (by first | assumption | omega | (unfold szm at *; split at * <;> omega)))) fun v83 => ?_))))))
    refine p1 rfl (D_end (x_then (D_H ([ov [v83] (aRules : (List Rule)), bx g28 [(.string ((cho2T aRules aL aM).Match.Rule)), v22, v23, (.int .i64 ((cho2T aRules aL aM).Priority)), v24, (.int .i64 ((cho2T aRules aL aM).Specific)), (.int .i64 ((cho2T aRules aL aM).Order))], ov [(.string ((cho2T aRules aL aM).Match.Rule)), v22, v23, (.int .i64 ((cho2T aRules aL aM).Priority)), v24, (.int .i64 ((cho2T aRules aL aM).Specific)), (.int .i64 ((cho2T aRules aL aM).Order))] (cho2T aRules aL aM : Choice), bx g9 [(.string aM.Rule), u3, u5]]) rfl (C_seq (C_reg (p1 rfl (li rfl (crl b_11 rfl rfl rfl rfl (fun w' hs => (laws_toStampS w' v_aL aL (rd_at hs h_aL) (by first | assumption | omega | (unfold szm at *; split at * <;> omega)))) fun v84 => ?_))))))))
    refine p1 rfl (D_end (x_then (D_H ([ov [v84] (aL : (List Stamp)), ov [v83] (aRules : (List Rule)), bx g28 [(.string ((cho2T aRules aL aM).Match.Rule)), v22, v23, (.int .i64 ((cho2T aRules aL aM).Priority)), v24, (.int .i64 ((cho2T aRules aL aM).Specific)), (.int .i64 ((cho2T aRules aL aM).Order))], ov [(.string ((cho2T aRules aL aM).Match.Rule)), v22, v23, (.int .i64 ((cho2T aRules aL aM).Priority)), v24, (.int .i64 ((cho2T aRules aL aM).Specific)), (.int .i64 ((cho2T aRules aL aM).Order))] (cho2T aRules aL aM : Choice), bx g9 [(.string aM.Rule), u3, u5]]) rfl (C_seq (C_reg (q1 rfl (lbw 4 a_27 rfl rfl rfl) (li rfl (crs rfl b_12 rfl rfl rfl rfl (fun w' hs => (laws_toMatch w' [(.string aM.Rule), u3, u5] aM (rd_at hs h_aM) (by first | assumption | omega | (unfold szm at *; split at * <;> omega)))) fun cs85 => ?_))))))))
    refine D_pre (fun w' hs => shape_Match (rd_own (k := 0) hs rfl)) ?_
    rintro ⟨v86, v87, rfl, ho88, ho89⟩
    refine li rfl (D_alloc y_34 rfl rfl rfl rfl fun g90 => ?_)
    refine li rfl (D_stb (vs := [(.string aM.Rule), v86, v87]) (cs' := [(.string aM.Rule), v86, v87]) 0 z_34 rfl rfl rfl rfl rfl rfl (ocons rfl (ocons ho88 (ocons ho89 onil))) (by simp) rfl ?_)
    refine D_end (x_then (D_H ([bx g90 [(.string aM.Rule), v86, v87], ov [(.string aM.Rule), v86, v87] (aM : Match), ov [v84] (aL : (List Stamp)), ov [v83] (aRules : (List Rule)), bx g28 [(.string ((cho2T aRules aL aM).Match.Rule)), v22, v23, (.int .i64 ((cho2T aRules aL aM).Priority)), v24, (.int .i64 ((cho2T aRules aL aM).Specific)), (.int .i64 ((cho2T aRules aL aM).Order))], ov [(.string ((cho2T aRules aL aM).Match.Rule)), v22, v23, (.int .i64 ((cho2T aRules aL aM).Priority)), v24, (.int .i64 ((cho2T aRules aL aM).Specific)), (.int .i64 ((cho2T aRules aL aM).Order))] (cho2T aRules aL aM : Choice), bx g9 [(.string aM.Rule), u3, u5]]) rfl (C_seq (C_reg (p1 rfl <| p1 rfl (q1 rfl (lbw 0 a_34 rfl rfl rfl) (li rfl (cr2 b_13 rfl rfl rfl rfl (fun w' hs => (impl_ChoiceOf w' v83 aRules v84 aL [(.string aM.Rule), v86, v87] aM (rd_own (k := 3) hs rfl) (rd_own (k := 2) hs rfl) (rd_own (k := 1) hs rfl) (by first | assumption | omega | (unfold szm at *; split at * <;> omega)) (by first | assumption | omega | (unfold szm at *; split at * <;> omega)) (by first | assumption | omega | (unfold szm at *; split at * <;> omega)) (Tb.ext htb hs.bel))) fun cs91 cs92 => ?_))))))))
    refine D_pre (fun w' hs => shape_Choice (rd_own (k := 0) hs rfl)) ?_
    rintro ⟨v93, v94, v95, rfl, ho96, ho97, ho98⟩
    refine D_pre (fun w' hs => show cs92 = [(.bool (cho2B aRules aL aM))] from rd_own (k := 1) hs rfl) ?_
    rintro rfl
    refine D_re 55 (v' := (.tuple #[(.agg #[(.string ((cho2T aRules aL aM).Match.Rule)), v93, v94, (.int .i64 ((cho2T aRules aL aM).Priority)), v95, (.int .i64 ((cho2T aRules aL aM).Specific)), (.int .i64 ((cho2T aRules aL aM).Order))]), (.bool (cho2B aRules aL aM))])) rfl rfl rfl (D_pk (H' := [ov [(.string ((cho2T aRules aL aM).Match.Rule)), v93, v94, (.int .i64 ((cho2T aRules aL aM).Priority)), v95, (.int .i64 ((cho2T aRules aL aM).Specific)), (.int .i64 ((cho2T aRules aL aM).Order))] (cho2T aRules aL aM : Choice), bx g90 [(.string aM.Rule), v86, v87], ov [(.string aM.Rule), v86, v87] (aM : Match), ov [v84] (aL : (List Stamp)), ov [v83] (aRules : (List Rule)), bx g28 [(.string ((cho2T aRules aL aM).Match.Rule)), v22, v23, (.int .i64 ((cho2T aRules aL aM).Priority)), v24, (.int .i64 ((cho2T aRules aL aM).Specific)), (.int .i64 ((cho2T aRules aL aM).Order))], ov [(.string ((cho2T aRules aL aM).Match.Rule)), v22, v23, (.int .i64 ((cho2T aRules aL aM).Priority)), v24, (.int .i64 ((cho2T aRules aL aM).Specific)), (.int .i64 ((cho2T aRules aL aM).Order))] (cho2T aRules aL aM : Choice), bx g9 [(.string aM.Rule), u3, u5]]) [0, 2, 3, 4, 5, 6, 7, 8] rfl rfl (p1 rfl <| p1 rfl <| p1 rfl (li rfl (D_alloc y_37 rfl rfl rfl rfl fun g99 => ?_))))
    refine li rfl (D_stb (vs := [(.string ((cho2T aRules aL aM).Match.Rule)), v93, v94, (.int .i64 ((cho2T aRules aL aM).Priority)), v95, (.int .i64 ((cho2T aRules aL aM).Specific)), (.int .i64 ((cho2T aRules aL aM).Order))]) (cs' := [(.string ((cho2T aRules aL aM).Match.Rule)), v93, v94, (.int .i64 ((cho2T aRules aL aM).Priority)), v95, (.int .i64 ((cho2T aRules aL aM).Specific)), (.int .i64 ((cho2T aRules aL aM).Order))]) 0 z_37 rfl rfl rfl rfl rfl rfl (ocons rfl (ocons ho96 (ocons ho97 (ocons rfl (ocons ho98 (ocons rfl (ocons rfl onil))))))) (by simp) rfl ?_)
    refine p1 rfl (D_end (x_then (D_H ([bx g99 [(.string ((cho2T aRules aL aM).Match.Rule)), v93, v94, (.int .i64 ((cho2T aRules aL aM).Priority)), v95, (.int .i64 ((cho2T aRules aL aM).Specific)), (.int .i64 ((cho2T aRules aL aM).Order))], ov [(.string ((cho2T aRules aL aM).Match.Rule)), v93, v94, (.int .i64 ((cho2T aRules aL aM).Priority)), v95, (.int .i64 ((cho2T aRules aL aM).Specific)), (.int .i64 ((cho2T aRules aL aM).Order))] (cho2T aRules aL aM : Choice), bx g90 [(.string aM.Rule), v86, v87], ov [(.string aM.Rule), v86, v87] (aM : Match), ov [v84] (aL : (List Stamp)), ov [v83] (aRules : (List Rule)), bx g28 [(.string ((cho2T aRules aL aM).Match.Rule)), v22, v23, (.int .i64 ((cho2T aRules aL aM).Priority)), v24, (.int .i64 ((cho2T aRules aL aM).Specific)), (.int .i64 ((cho2T aRules aL aM).Order))], ov [(.string ((cho2T aRules aL aM).Match.Rule)), v22, v23, (.int .i64 ((cho2T aRules aL aM).Priority)), v24, (.int .i64 ((cho2T aRules aL aM).Specific)), (.int .i64 ((cho2T aRules aL aM).Order))] (cho2T aRules aL aM : Choice), bx g9 [(.string aM.Rule), u3, u5]]) rfl (C_seq (C_seq (C_reg (q1 rfl (lbw 0 a_37 rfl rfl rfl) (q1 rfl (lbw 6 a_37 rfl rfl rfl) (li rfl (cv b_14 rfl rfl rfl rfl (fun w' hs => (laws_eqChoice w' [(.string ((cho2T aRules aL aM).Match.Rule)), v93, v94, (.int .i64 ((cho2T aRules aL aM).Priority)), v95, (.int .i64 ((cho2T aRules aL aM).Specific)), (.int .i64 ((cho2T aRules aL aM).Order))] (cho2T aRules aL aM) [(.string ((cho2T aRules aL aM).Match.Rule)), v22, v23, (.int .i64 ((cho2T aRules aL aM).Priority)), v24, (.int .i64 ((cho2T aRules aL aM).Specific)), (.int .i64 ((cho2T aRules aL aM).Order))] (cho2T aRules aL aM) (rd_own (k := 1) hs rfl) (rd_own (k := 7) hs rfl))) ?_))))))))))
    refine p1 rfl <| p1 rfl (gs 62 rfl rfl (fun h100 => ?_) (fun h100 => ?_))
    ·have h100n : (decide ((cho2T aRules aL aM) = (cho2T aRules aL aM))) = false := not_t h100
     refine n1 rfl (n1 rfl (n1 rfl (p1 rfl (D_end (x_then (D_weak [(0, v_aRules), (1, v_aL), (5, (.pointer (some ⟨g9, 0, none⟩))), (8, (.pointer (some ⟨g28, 0, none⟩))), (9, (.bool (cho2B aRules aL aM))), (10, v83), (11, v84), (12, (.pointer (some ⟨g90, 0, none⟩))), (13, (.pointer (some ⟨g99, 0, none⟩))), (14, (.bool (cho2B aRules aL aM))), (66, (.bool true))] ⟨rfl, rfl, rfl, rfl, rfl, rfl, rfl, rfl, rfl, rfl, rfl, trivial⟩ (C_t rfl (C_seq (C_reg (p1 rfl (D_end ?_)))))))))))
     refine x_then (C_ret (x_then_ret (Rb rfl rfl ?_)))
     first | rfl | (exfalso; omega) | (exfalso; simp only [cCh_mk] at *; omega) | exact absurd h100 (by simp)
    ·have h100n : (decide ((cho2T aRules aL aM) = (cho2T aRules aL aM))) = true := not_f h100
     refine p1 rfl <| p1 rfl (q1 rfl (D_neB ub_4 rfl rfl rfl) (p1 rfl (D_end (x_then (D_weak [(0, v_aRules), (1, v_aL), (5, (.pointer (some ⟨g9, 0, none⟩))), (8, (.pointer (some ⟨g28, 0, none⟩))), (9, (.bool (cho2B aRules aL aM))), (10, v83), (11, v84), (12, (.pointer (some ⟨g90, 0, none⟩))), (13, (.pointer (some ⟨g99, 0, none⟩))), (14, (.bool (cho2B aRules aL aM))), (66, (.bool (!((cho2B aRules aL aM) == (cho2B aRules aL aM)))))] ⟨rfl, rfl, rfl, rfl, rfl, rfl, rfl, rfl, rfl, rfl, rfl, trivial⟩ (C_if _ rfl (fun h101 => ?_) (fun h101 => ?_)))))))
     ·refine C_seq (C_reg (p1 rfl (D_end (x_then (C_ret (x_then_ret (Rb rfl rfl ?_)))))))
      first | rfl | (exfalso; omega) | (exfalso; simp only [cCh_mk] at *; omega) | exact absurd h101 (by simp)
     ·have pr101 : (cho2B aRules aL aM) = (cho2B aRules aL aM) := beq_of_not h101
      refine C_skip (x_then (C_seq (C_seq (C_reg (p1 rfl <| p1 rfl (li rfl (crl b_10 rfl rfl rfl rfl (fun w' hs => (laws_toRuleS w' v_aRules aRules (rd_at hs h_aRules) (by first | assumption | omega | (unfold szm at *; split at * <;> omega)))) fun v102 => ?_)))))))
      refine li rfl (cv b_15 rfl rfl rfl rfl (fun w' hs => (laws_eqRuleS w' v83 aRules v102 aRules (rd_own (k := 6) hs rfl) (rd_own (k := 0) hs rfl))) ?_)
      refine p1 rfl (D_end (x_then (D_H ([ov [v102] (aRules : (List Rule)), bx g99 [(.string ((cho2T aRules aL aM).Match.Rule)), v93, v94, (.int .i64 ((cho2T aRules aL aM).Priority)), v95, (.int .i64 ((cho2T aRules aL aM).Specific)), (.int .i64 ((cho2T aRules aL aM).Order))], ov [(.string ((cho2T aRules aL aM).Match.Rule)), v93, v94, (.int .i64 ((cho2T aRules aL aM).Priority)), v95, (.int .i64 ((cho2T aRules aL aM).Specific)), (.int .i64 ((cho2T aRules aL aM).Order))] (cho2T aRules aL aM : Choice), bx g90 [(.string aM.Rule), v86, v87], ov [(.string aM.Rule), v86, v87] (aM : Match), ov [v84] (aL : (List Stamp)), ov [v83] (aRules : (List Rule)), bx g28 [(.string ((cho2T aRules aL aM).Match.Rule)), v22, v23, (.int .i64 ((cho2T aRules aL aM).Priority)), v24, (.int .i64 ((cho2T aRules aL aM).Specific)), (.int .i64 ((cho2T aRules aL aM).Order))], ov [(.string ((cho2T aRules aL aM).Match.Rule)), v22, v23, (.int .i64 ((cho2T aRules aL aM).Priority)), v24, (.int .i64 ((cho2T aRules aL aM).Specific)), (.int .i64 ((cho2T aRules aL aM).Order))] (cho2T aRules aL aM : Choice), bx g9 [(.string aM.Rule), u3, u5]]) rfl (C_if _ rfl (fun h103 => ?_) (fun h103 => ?_)))))
      ·have h103n : (decide (aRules = aRules)) = false := not_t h103
       refine C_seq (C_reg (p1 rfl (D_end (x_then (C_ret (x_then_ret (Rb rfl rfl ?_)))))))
       first | rfl | (exfalso; omega) | (exfalso; simp only [cCh_mk] at *; omega) | exact absurd h103 (by simp)
      ·have h103n : (decide (aRules = aRules)) = true := not_f h103
       refine C_skip (x_then (C_seq (C_seq (C_reg (p1 rfl <| p1 rfl (li rfl (crl b_11 rfl rfl rfl rfl (fun w' hs => (laws_toStampS w' v_aL aL (rd_at hs h_aL) (by first | assumption | omega | (unfold szm at *; split at * <;> omega)))) fun v104 => ?_)))))))
       refine li rfl (cv b_16 rfl rfl rfl rfl (fun w' hs => (laws_eqStampS w' v84 aL v104 aL (rd_own (k := 6) hs rfl) (rd_own (k := 0) hs rfl))) ?_)
       refine p1 rfl (D_end (x_then (D_H ([ov [v104] (aL : (List Stamp)), ov [v102] (aRules : (List Rule)), bx g99 [(.string ((cho2T aRules aL aM).Match.Rule)), v93, v94, (.int .i64 ((cho2T aRules aL aM).Priority)), v95, (.int .i64 ((cho2T aRules aL aM).Specific)), (.int .i64 ((cho2T aRules aL aM).Order))], ov [(.string ((cho2T aRules aL aM).Match.Rule)), v93, v94, (.int .i64 ((cho2T aRules aL aM).Priority)), v95, (.int .i64 ((cho2T aRules aL aM).Specific)), (.int .i64 ((cho2T aRules aL aM).Order))] (cho2T aRules aL aM : Choice), bx g90 [(.string aM.Rule), v86, v87], ov [(.string aM.Rule), v86, v87] (aM : Match), ov [v84] (aL : (List Stamp)), ov [v83] (aRules : (List Rule)), bx g28 [(.string ((cho2T aRules aL aM).Match.Rule)), v22, v23, (.int .i64 ((cho2T aRules aL aM).Priority)), v24, (.int .i64 ((cho2T aRules aL aM).Specific)), (.int .i64 ((cho2T aRules aL aM).Order))], ov [(.string ((cho2T aRules aL aM).Match.Rule)), v22, v23, (.int .i64 ((cho2T aRules aL aM).Priority)), v24, (.int .i64 ((cho2T aRules aL aM).Specific)), (.int .i64 ((cho2T aRules aL aM).Order))] (cho2T aRules aL aM : Choice), bx g9 [(.string aM.Rule), u3, u5]]) rfl (C_if _ rfl (fun h105 => ?_) (fun h105 => ?_)))))
       ·have h105n : (decide (aL = aL)) = false := not_t h105
        refine C_seq (C_reg (p1 rfl (D_end (x_then (C_ret (x_then_ret (Rb rfl rfl ?_)))))))
        first | rfl | (exfalso; omega) | (exfalso; simp only [cCh_mk] at *; omega) | exact absurd h105 (by simp)
       ·have h105n : (decide (aL = aL)) = true := not_f h105
        refine C_skip (x_then (C_seq (C_seq (C_draw mixed [3, 4] (by kernel_rfl) (tk 0 rfl (by kernel_rfl) (by kernel_rfl) (by kernel_rfl) rfl (fun _ hs => hs) (lbw 4 a_34 rfl rfl rfl) (tk 1 rfl (by kernel_rfl) (by kernel_rfl) (by kernel_rfl) rfl (fun _ hs => hs) (lbw 10 a_27 rfl rfl rfl) (ty 2 rfl (by kernel_rfl) rfl (crs rfl b_12 rfl rfl rfl rfl (fun w' hs => (laws_toMatch w' [(.string aM.Rule), u3, u5] aM (rd_at hs h_aM) (by first | assumption | omega | (unfold szm at *; split at * <;> omega)))) fun cs106 => ?_))))))))
        refine D_pre (fun w' hs => shape_Match (rd_own (k := 0) hs rfl)) ?_
        rintro ⟨v107, v108, rfl, ho109, ho110⟩
        refine tS (fun _ hs => hs.pk [1, 2, 3, 4, 5, 6, 7, 8, 9, 10, 11] rfl rfl) (ty 3 rfl (by kernel_rfl) rfl (cv b_17 rfl rfl rfl rfl (fun w' hs => (laws_eqMatch w' [(.string aM.Rule), v86, v87] aM [(.string aM.Rule), v107, v108] aM (rd_own (k := 6) hs rfl) (rd_own (k := 0) hs rfl))) ?_))
        refine tZ rfl (ty 4 rfl (by kernel_rfl) rfl (sv rfl rfl (rp rfl) ?_))
        refine tZ rfl (tE (by kernel_rfl) (x_then (D_weak [(0, v_aRules), (1, v_aL), (5, (.pointer (some ⟨g9, 0, none⟩))), (8, (.pointer (some ⟨g28, 0, none⟩))), (9, (.bool (cho2B aRules aL aM))), (10, v83), (11, v84), (12, (.pointer (some ⟨g90, 0, none⟩))), (13, (.pointer (some ⟨g99, 0, none⟩))), (14, (.bool (cho2B aRules aL aM))), (81, (.bool (!(decide (aM = aM)))))] ⟨rfl, rfl, rfl, rfl, rfl, rfl, rfl, rfl, rfl, rfl, rfl, trivial⟩ (D_sel (H' := [bx g99 [(.string ((cho2T aRules aL aM).Match.Rule)), v93, v94, (.int .i64 ((cho2T aRules aL aM).Priority)), v95, (.int .i64 ((cho2T aRules aL aM).Specific)), (.int .i64 ((cho2T aRules aL aM).Order))], ov [(.string ((cho2T aRules aL aM).Match.Rule)), v93, v94, (.int .i64 ((cho2T aRules aL aM).Priority)), v95, (.int .i64 ((cho2T aRules aL aM).Specific)), (.int .i64 ((cho2T aRules aL aM).Order))] (cho2T aRules aL aM : Choice), bx g90 [(.string aM.Rule), v86, v87], ov [(.string aM.Rule), v86, v87] (aM : Match), ov [v84] (aL : (List Stamp)), ov [v83] (aRules : (List Rule)), bx g28 [(.string ((cho2T aRules aL aM).Match.Rule)), v22, v23, (.int .i64 ((cho2T aRules aL aM).Priority)), v24, (.int .i64 ((cho2T aRules aL aM).Specific)), (.int .i64 ((cho2T aRules aL aM).Order))], ov [(.string ((cho2T aRules aL aM).Match.Rule)), v22, v23, (.int .i64 ((cho2T aRules aL aM).Priority)), v24, (.int .i64 ((cho2T aRules aL aM).Specific)), (.int .i64 ((cho2T aRules aL aM).Order))] (cho2T aRules aL aM : Choice), bx g9 [(.string aM.Rule), u3, u5]]) [false, false, false, true, true, true, true, true, true, true, true, true] rfl (C_if _ rfl (fun h111 => ?_) (fun h111 => ?_))))))
        ·have h111n : (decide (aM = aM)) = false := not_t h111
         refine C_seq (C_reg (p1 rfl (D_end (x_then (C_ret (x_then_ret (Rb rfl rfl ?_)))))))
         first | rfl | (exfalso; omega) | (exfalso; simp only [cCh_mk] at *; omega) | exact absurd h111 (by simp)
        ·have h111n : (decide (aM = aM)) = true := not_f h111
         refine C_skip (x_then (C_seq (C_reg (p1 rfl (D_end (x_then (C_seq (C_reg (p1 rfl <| p1 rfl (D_pk (H' := [ov [v83] (aRules : (List Rule)), bx g99 [(.string ((cho2T aRules aL aM).Match.Rule)), v93, v94, (.int .i64 ((cho2T aRules aL aM).Priority)), v95, (.int .i64 ((cho2T aRules aL aM).Specific)), (.int .i64 ((cho2T aRules aL aM).Order))], ov [(.string ((cho2T aRules aL aM).Match.Rule)), v93, v94, (.int .i64 ((cho2T aRules aL aM).Priority)), v95, (.int .i64 ((cho2T aRules aL aM).Specific)), (.int .i64 ((cho2T aRules aL aM).Order))] (cho2T aRules aL aM : Choice), bx g90 [(.string aM.Rule), v86, v87], ov [(.string aM.Rule), v86, v87] (aM : Match), ov [v84] (aL : (List Stamp)), bx g28 [(.string ((cho2T aRules aL aM).Match.Rule)), v22, v23, (.int .i64 ((cho2T aRules aL aM).Priority)), v24, (.int .i64 ((cho2T aRules aL aM).Specific)), (.int .i64 ((cho2T aRules aL aM).Order))], ov [(.string ((cho2T aRules aL aM).Match.Rule)), v22, v23, (.int .i64 ((cho2T aRules aL aM).Priority)), v24, (.int .i64 ((cho2T aRules aL aM).Specific)), (.int .i64 ((cho2T aRules aL aM).Order))] (cho2T aRules aL aM : Choice), bx g9 [(.string aM.Rule), u3, u5]]) [5, 0, 1, 2, 3, 4, 6, 7, 8] rfl rfl (li rfl (cm b_18 rfl rfl rfl rfl (fun w' hs => laws_markRuleS _ _ w' v83 aRules 1 (by first | assumption | omega | (simp only; omega)) (by first | assumption | omega | (simp only; omega)) hs) ?_))))))))))))
         refine p1 rfl (D_end (x_then (D_H ([ov [v83] (mapS fRu cRu 1 aRules : (List Rule)), bx g99 [(.string ((cho2T aRules aL aM).Match.Rule)), v93, v94, (.int .i64 ((cho2T aRules aL aM).Priority)), v95, (.int .i64 ((cho2T aRules aL aM).Specific)), (.int .i64 ((cho2T aRules aL aM).Order))], ov [(.string ((cho2T aRules aL aM).Match.Rule)), v93, v94, (.int .i64 ((cho2T aRules aL aM).Priority)), v95, (.int .i64 ((cho2T aRules aL aM).Specific)), (.int .i64 ((cho2T aRules aL aM).Order))] (cho2T aRules aL aM : Choice), bx g90 [(.string aM.Rule), v86, v87], ov [(.string aM.Rule), v86, v87] (aM : Match), ov [v84] (aL : (List Stamp)), bx g28 [(.string ((cho2T aRules aL aM).Match.Rule)), v22, v23, (.int .i64 ((cho2T aRules aL aM).Priority)), v24, (.int .i64 ((cho2T aRules aL aM).Specific)), (.int .i64 ((cho2T aRules aL aM).Order))], ov [(.string ((cho2T aRules aL aM).Match.Rule)), v22, v23, (.int .i64 ((cho2T aRules aL aM).Priority)), v24, (.int .i64 ((cho2T aRules aL aM).Specific)), (.int .i64 ((cho2T aRules aL aM).Order))] (cho2T aRules aL aM : Choice), bx g9 [(.string aM.Rule), u3, u5]]) rfl (C_seq (C_reg (p1 rfl <| p1 rfl (D_pk (H' := [ov [v84] (aL : (List Stamp)), ov [v83] (mapS fRu cRu 1 aRules : (List Rule)), bx g99 [(.string ((cho2T aRules aL aM).Match.Rule)), v93, v94, (.int .i64 ((cho2T aRules aL aM).Priority)), v95, (.int .i64 ((cho2T aRules aL aM).Specific)), (.int .i64 ((cho2T aRules aL aM).Order))], ov [(.string ((cho2T aRules aL aM).Match.Rule)), v93, v94, (.int .i64 ((cho2T aRules aL aM).Priority)), v95, (.int .i64 ((cho2T aRules aL aM).Specific)), (.int .i64 ((cho2T aRules aL aM).Order))] (cho2T aRules aL aM : Choice), bx g90 [(.string aM.Rule), v86, v87], ov [(.string aM.Rule), v86, v87] (aM : Match), bx g28 [(.string ((cho2T aRules aL aM).Match.Rule)), v22, v23, (.int .i64 ((cho2T aRules aL aM).Priority)), v24, (.int .i64 ((cho2T aRules aL aM).Specific)), (.int .i64 ((cho2T aRules aL aM).Order))], ov [(.string ((cho2T aRules aL aM).Match.Rule)), v22, v23, (.int .i64 ((cho2T aRules aL aM).Priority)), v24, (.int .i64 ((cho2T aRules aL aM).Specific)), (.int .i64 ((cho2T aRules aL aM).Order))] (cho2T aRules aL aM : Choice), bx g9 [(.string aM.Rule), u3, u5]]) [5, 0, 1, 2, 3, 4, 6, 7, 8] rfl rfl (li rfl (cm b_19 rfl rfl rfl rfl (fun w' hs => laws_markStampS _ _ w' v84 aL (1 + sumC cRu aRules) (by first | assumption | omega | (simp only; omega)) (by first | assumption | omega | (simp only; omega)) hs) ?_)))))))))
         refine p1 rfl (D_end (x_then (D_H ([ov [v84] (mapS fSt cSt (1 + sumC cRu aRules) aL : (List Stamp)), ov [v83] (mapS fRu cRu 1 aRules : (List Rule)), bx g99 [(.string ((cho2T aRules aL aM).Match.Rule)), v93, v94, (.int .i64 ((cho2T aRules aL aM).Priority)), v95, (.int .i64 ((cho2T aRules aL aM).Specific)), (.int .i64 ((cho2T aRules aL aM).Order))], ov [(.string ((cho2T aRules aL aM).Match.Rule)), v93, v94, (.int .i64 ((cho2T aRules aL aM).Priority)), v95, (.int .i64 ((cho2T aRules aL aM).Specific)), (.int .i64 ((cho2T aRules aL aM).Order))] (cho2T aRules aL aM : Choice), bx g90 [(.string aM.Rule), v86, v87], ov [(.string aM.Rule), v86, v87] (aM : Match), bx g28 [(.string ((cho2T aRules aL aM).Match.Rule)), v22, v23, (.int .i64 ((cho2T aRules aL aM).Priority)), v24, (.int .i64 ((cho2T aRules aL aM).Specific)), (.int .i64 ((cho2T aRules aL aM).Order))], ov [(.string ((cho2T aRules aL aM).Match.Rule)), v22, v23, (.int .i64 ((cho2T aRules aL aM).Priority)), v24, (.int .i64 ((cho2T aRules aL aM).Specific)), (.int .i64 ((cho2T aRules aL aM).Order))] (cho2T aRules aL aM : Choice), bx g9 [(.string aM.Rule), u3, u5]]) rfl (C_seq (C_reg (q1 rfl (lbw 4 a_34 rfl rfl rfl) (p1 rfl (D_pk (H' := [ov [(.string aM.Rule), v86, v87] (aM : Match), ov [v84] (mapS fSt cSt (1 + sumC cRu aRules) aL : (List Stamp)), ov [v83] (mapS fRu cRu 1 aRules : (List Rule)), bx g99 [(.string ((cho2T aRules aL aM).Match.Rule)), v93, v94, (.int .i64 ((cho2T aRules aL aM).Priority)), v95, (.int .i64 ((cho2T aRules aL aM).Specific)), (.int .i64 ((cho2T aRules aL aM).Order))], ov [(.string ((cho2T aRules aL aM).Match.Rule)), v93, v94, (.int .i64 ((cho2T aRules aL aM).Priority)), v95, (.int .i64 ((cho2T aRules aL aM).Specific)), (.int .i64 ((cho2T aRules aL aM).Order))] (cho2T aRules aL aM : Choice), bx g90 [(.string aM.Rule), v86, v87], bx g28 [(.string ((cho2T aRules aL aM).Match.Rule)), v22, v23, (.int .i64 ((cho2T aRules aL aM).Priority)), v24, (.int .i64 ((cho2T aRules aL aM).Specific)), (.int .i64 ((cho2T aRules aL aM).Order))], ov [(.string ((cho2T aRules aL aM).Match.Rule)), v22, v23, (.int .i64 ((cho2T aRules aL aM).Priority)), v24, (.int .i64 ((cho2T aRules aL aM).Specific)), (.int .i64 ((cho2T aRules aL aM).Order))] (cho2T aRules aL aM : Choice), bx g9 [(.string aM.Rule), u3, u5]]) [5, 0, 1, 2, 3, 4, 6, 7, 8] rfl rfl (li rfl (cm b_20 rfl rfl rfl rfl (fun w' hs => laws_markMatch _ _ w' [(.string aM.Rule), v86, v87] aM ((1 + sumC cRu aRules) + sumC cSt aL) (by first | assumption | omega | (simp only; omega)) (by first | assumption | omega | (simp only; omega)) hs) ?_))))))))))
         refine p1 rfl (D_end (x_then (D_H ([ov [(.string aM.Rule), v86, v87] (mkMa ((1 + sumC cRu aRules) + sumC cSt aL) aM : Match), ov [v84] (mapS fSt cSt (1 + sumC cRu aRules) aL : (List Stamp)), ov [v83] (mapS fRu cRu 1 aRules : (List Rule)), bx g99 [(.string ((cho2T aRules aL aM).Match.Rule)), v93, v94, (.int .i64 ((cho2T aRules aL aM).Priority)), v95, (.int .i64 ((cho2T aRules aL aM).Specific)), (.int .i64 ((cho2T aRules aL aM).Order))], ov [(.string ((cho2T aRules aL aM).Match.Rule)), v93, v94, (.int .i64 ((cho2T aRules aL aM).Priority)), v95, (.int .i64 ((cho2T aRules aL aM).Specific)), (.int .i64 ((cho2T aRules aL aM).Order))] (cho2T aRules aL aM : Choice), bx g90 [(.string aM.Rule), v86, v87], bx g28 [(.string ((cho2T aRules aL aM).Match.Rule)), v22, v23, (.int .i64 ((cho2T aRules aL aM).Priority)), v24, (.int .i64 ((cho2T aRules aL aM).Specific)), (.int .i64 ((cho2T aRules aL aM).Order))], ov [(.string ((cho2T aRules aL aM).Match.Rule)), v22, v23, (.int .i64 ((cho2T aRules aL aM).Priority)), v24, (.int .i64 ((cho2T aRules aL aM).Specific)), (.int .i64 ((cho2T aRules aL aM).Order))] (cho2T aRules aL aM : Choice), bx g9 [(.string aM.Rule), u3, u5]]) rfl (C_seq (C_seq (C_reg (p1 rfl <| p1 rfl <| p1 rfl (gs 93 rfl rfl (fun h112 => ?_) (fun h112 => ?_)))))))))
         ·have pr112 : ((((1 + sumC cRu aRules) + sumC cSt aL) + cMa aM) : Int) < 0 := of_decide_eq_true h112
          refine n1 rfl (n1 rfl (n1 rfl (n1 rfl (p1 rfl <| p1 rfl (n1 rfl (n1 rfl (n1 rfl (p1 rfl (D_end (x_then (D_weak [(0, v_aRules), (1, v_aL), (5, (.pointer (some ⟨g9, 0, none⟩))), (8, (.pointer (some ⟨g28, 0, none⟩))), (9, (.bool (cho2B aRules aL aM))), (13, (.pointer (some ⟨g99, 0, none⟩))), (103, (.bool true))] ⟨rfl, rfl, rfl, rfl, rfl, rfl, rfl, trivial⟩ ?_)))))))))))
          refine D_sel (H' := [bx g99 [(.string ((cho2T aRules aL aM).Match.Rule)), v93, v94, (.int .i64 ((cho2T aRules aL aM).Priority)), v95, (.int .i64 ((cho2T aRules aL aM).Specific)), (.int .i64 ((cho2T aRules aL aM).Order))], ov [(.string ((cho2T aRules aL aM).Match.Rule)), v93, v94, (.int .i64 ((cho2T aRules aL aM).Priority)), v95, (.int .i64 ((cho2T aRules aL aM).Specific)), (.int .i64 ((cho2T aRules aL aM).Order))] (cho2T aRules aL aM : Choice), bx g28 [(.string ((cho2T aRules aL aM).Match.Rule)), v22, v23, (.int .i64 ((cho2T aRules aL aM).Priority)), v24, (.int .i64 ((cho2T aRules aL aM).Specific)), (.int .i64 ((cho2T aRules aL aM).Order))], ov [(.string ((cho2T aRules aL aM).Match.Rule)), v22, v23, (.int .i64 ((cho2T aRules aL aM).Priority)), v24, (.int .i64 ((cho2T aRules aL aM).Specific)), (.int .i64 ((cho2T aRules aL aM).Order))] (cho2T aRules aL aM : Choice), bx g9 [(.string aM.Rule), u3, u5]]) [false, false, false, true, true, false, true, true, true] rfl (C_t rfl (C_seq (C_reg (p1 rfl (D_end (x_then (C_ret (x_then_ret (Rb rfl rfl ?_)))))))))
          first | rfl | (exfalso; omega) | (exfalso; simp only [cCh_mk] at *; omega) | exact absurd h112 (by simp)
         ·have pr112 : ¬ ((((1 + sumC cRu aRules) + sumC cSt aL) + cMa aM) : Int) < 0 := of_decide_eq_false h112
          refine q1 rfl (lbw 3 a_37 rfl rfl rfl) (q1 rfl (lbw 6 a_37 rfl rfl rfl) (li rfl (cv b_14 rfl rfl rfl rfl (fun w' hs => (laws_eqChoice w' [(.string ((cho2T aRules aL aM).Match.Rule)), v93, v94, (.int .i64 ((cho2T aRules aL aM).Priority)), v95, (.int .i64 ((cho2T aRules aL aM).Specific)), (.int .i64 ((cho2T aRules aL aM).Order))] (cho2T aRules aL aM) [(.string ((cho2T aRules aL aM).Match.Rule)), v22, v23, (.int .i64 ((cho2T aRules aL aM).Priority)), v24, (.int .i64 ((cho2T aRules aL aM).Specific)), (.int .i64 ((cho2T aRules aL aM).Order))] (cho2T aRules aL aM) (rd_own (k := 4) hs rfl) (rd_own (k := 7) hs rfl))) ?_)))
          refine p1 rfl <| p1 rfl <| p1 rfl (gkf 99 rfl rfl h100 (p1 rfl <| p1 rfl (q1 rfl (D_neB ub_4 rfl rfl rfl) (p1 rfl (D_end (x_then (D_weak [(0, v_aRules), (1, v_aL), (5, (.pointer (some ⟨g9, 0, none⟩))), (8, (.pointer (some ⟨g28, 0, none⟩))), (9, (.bool (cho2B aRules aL aM))), (13, (.pointer (some ⟨g99, 0, none⟩))), (103, (.bool (!((cho2B aRules aL aM) == (cho2B aRules aL aM)))))] ⟨rfl, rfl, rfl, rfl, rfl, rfl, rfl, trivial⟩ (D_sel (H' := [bx g99 [(.string ((cho2T aRules aL aM).Match.Rule)), v93, v94, (.int .i64 ((cho2T aRules aL aM).Priority)), v95, (.int .i64 ((cho2T aRules aL aM).Specific)), (.int .i64 ((cho2T aRules aL aM).Order))], ov [(.string ((cho2T aRules aL aM).Match.Rule)), v93, v94, (.int .i64 ((cho2T aRules aL aM).Priority)), v95, (.int .i64 ((cho2T aRules aL aM).Specific)), (.int .i64 ((cho2T aRules aL aM).Order))] (cho2T aRules aL aM : Choice), bx g28 [(.string ((cho2T aRules aL aM).Match.Rule)), v22, v23, (.int .i64 ((cho2T aRules aL aM).Priority)), v24, (.int .i64 ((cho2T aRules aL aM).Specific)), (.int .i64 ((cho2T aRules aL aM).Order))], ov [(.string ((cho2T aRules aL aM).Match.Rule)), v22, v23, (.int .i64 ((cho2T aRules aL aM).Priority)), v24, (.int .i64 ((cho2T aRules aL aM).Specific)), (.int .i64 ((cho2T aRules aL aM).Order))] (cho2T aRules aL aM : Choice), bx g9 [(.string aM.Rule), u3, u5]]) [false, false, false, true, true, false, true, true, true] rfl (C_kf rfl h101 (C_skip (x_then ?_)))))))))))
          refine C_seq (C_reg (p1 rfl (D_end (x_then (C_seq (C_reg (q1 rfl (lbw 0 a_37 rfl rfl rfl) (p1 rfl (D_pk (H' := [ov [(.string ((cho2T aRules aL aM).Match.Rule)), v93, v94, (.int .i64 ((cho2T aRules aL aM).Priority)), v95, (.int .i64 ((cho2T aRules aL aM).Specific)), (.int .i64 ((cho2T aRules aL aM).Order))] (cho2T aRules aL aM : Choice), bx g99 [(.string ((cho2T aRules aL aM).Match.Rule)), v93, v94, (.int .i64 ((cho2T aRules aL aM).Priority)), v95, (.int .i64 ((cho2T aRules aL aM).Specific)), (.int .i64 ((cho2T aRules aL aM).Order))], bx g28 [(.string ((cho2T aRules aL aM).Match.Rule)), v22, v23, (.int .i64 ((cho2T aRules aL aM).Priority)), v24, (.int .i64 ((cho2T aRules aL aM).Specific)), (.int .i64 ((cho2T aRules aL aM).Order))], ov [(.string ((cho2T aRules aL aM).Match.Rule)), v22, v23, (.int .i64 ((cho2T aRules aL aM).Priority)), v24, (.int .i64 ((cho2T aRules aL aM).Specific)), (.int .i64 ((cho2T aRules aL aM).Order))] (cho2T aRules aL aM : Choice), bx g9 [(.string aM.Rule), u3, u5]]) [1, 0, 2, 3, 4] rfl rfl (li rfl (cm b_21 rfl rfl rfl rfl (fun w' hs => laws_markChoice _ _ w' [(.string ((cho2T aRules aL aM).Match.Rule)), v93, v94, (.int .i64 ((cho2T aRules aL aM).Priority)), v95, (.int .i64 ((cho2T aRules aL aM).Specific)), (.int .i64 ((cho2T aRules aL aM).Order))] (cho2T aRules aL aM) 1 (by first | assumption | omega | (simp only; omega)) (by first | assumption | omega | (simp only; omega)) hs) ?_)))))))))))
          refine p1 rfl (D_end (x_then (D_H ([ov [(.string ((cho2T aRules aL aM).Match.Rule)), v93, v94, (.int .i64 ((cho2T aRules aL aM).Priority)), v95, (.int .i64 ((cho2T aRules aL aM).Specific)), (.int .i64 ((cho2T aRules aL aM).Order))] (mkCh 1 (cho2T aRules aL aM) : Choice), bx g99 [(.string ((cho2T aRules aL aM).Match.Rule)), v93, v94, (.int .i64 ((cho2T aRules aL aM).Priority)), v95, (.int .i64 ((cho2T aRules aL aM).Specific)), (.int .i64 ((cho2T aRules aL aM).Order))], bx g28 [(.string ((cho2T aRules aL aM).Match.Rule)), v22, v23, (.int .i64 ((cho2T aRules aL aM).Priority)), v24, (.int .i64 ((cho2T aRules aL aM).Specific)), (.int .i64 ((cho2T aRules aL aM).Order))], ov [(.string ((cho2T aRules aL aM).Match.Rule)), v22, v23, (.int .i64 ((cho2T aRules aL aM).Priority)), v24, (.int .i64 ((cho2T aRules aL aM).Specific)), (.int .i64 ((cho2T aRules aL aM).Order))] (cho2T aRules aL aM : Choice), bx g9 [(.string aM.Rule), u3, u5]]) rfl (C_seq (C_reg (p1 rfl (D_end (x_then (C_seq (C_reg (q1 rfl (lbw 1 a_37 rfl rfl rfl) ?_)))))))))))
          refine p1 rfl (li rfl (cv b_22 rfl rfl rfl rfl (fun w' hs => (laws_heldChoice w' [(.string ((cho2T aRules aL aM).Match.Rule)), v93, v94, (.int .i64 ((cho2T aRules aL aM).Priority)), v95, (.int .i64 ((cho2T aRules aL aM).Specific)), (.int .i64 ((cho2T aRules aL aM).Order))] (mkCh 1 (cho2T aRules aL aM)) 1 (rd_own (k := 0) hs rfl) (by first | assumption | omega | (unfold szm at *; split at * <;> omega)) (by rw [cCh_mk]; omega) (mkCh_idem _ _))) ?_))
          refine p1 rfl (D_end (x_then (C_seq (C_seq (C_reg (p1 rfl <| p1 rfl (D_end (x_then (C_if _ rfl (fun h115 => ?_) (fun h115 => ?_))))))))))
          ·have pr115 : ((1 + cCh (mkCh 1 (cho2T aRules aL aM))) : Int) < 0 := of_decide_eq_true h115
           refine C_seq (C_reg (p1 rfl (D_end (x_then (C_ret (x_then_ret (Rb rfl rfl ?_)))))))
           first | rfl | (exfalso; omega) | (exfalso; simp only [cCh_mk] at *; omega) | exact absurd h115 (by simp)
          ·have pr115 : ¬ ((1 + cCh (mkCh 1 (cho2T aRules aL aM))) : Int) < 0 := of_decide_eq_false h115
           refine C_skip (x_then (C_seq (C_seq (C_reg (p1 rfl <| p1 rfl <| p1 rfl (D_end (x_then (C_if _ rfl (fun h116 => ?_) (fun h116 => ?_)))))))))
           ·have pr116 : ((1 + cCh (mkCh 1 (cho2T aRules aL aM))) : Int) ≠ (1 + cCh (cho2T aRules aL aM)) := bne_iff_ne.1 h116
            refine C_seq (C_reg (p1 rfl (D_end (x_then (C_ret (x_then_ret (Rb rfl rfl ?_)))))))
            first | rfl | (exfalso; omega) | (exfalso; simp only [cCh_mk] at *; omega) | exact absurd h116 (by simp)
           ·have pr116 : ((1 + cCh (mkCh 1 (cho2T aRules aL aM))) : Int) = (1 + cCh (cho2T aRules aL aM)) := eq_of_bne_f h116
            refine C_skip (x_then (C_seq (C_join (fun ac w' => ∃ (g132 : Nat), ∃ (v126 : Value), ∃ (v127 : Value), ∃ (v128 : Value), (v126.oneCell' = true) ∧ (v127.oneCell' = true) ∧ (v128.oneCell' = true) ∧ Fits ac 142 [(8, (.pointer (some ⟨g28, 0, none⟩))), (9, (.bool (cho2B aRules aL aM))), (13, (.pointer (some ⟨g99, 0, none⟩))), (16, (.int .i64 (1 + cCh (cho2T aRules aL aM)))), (18, (.pointer (some ⟨g132, 0, none⟩))), (19, (.bool (cho2B aRules aL aM)))] ∧ St w ([bx g132 [(.string ((cho2T aRules aL aM).Match.Rule)), v126, v127, (.int .i64 ((cho2T aRules aL aM).Priority)), v128, (.int .i64 ((cho2T aRules aL aM).Specific)), (.int .i64 ((cho2T aRules aL aM).Order))], ov [(.string ((cho2T aRules aL aM).Match.Rule)), v126, v127, (.int .i64 ((cho2T aRules aL aM).Priority)), v128, (.int .i64 ((cho2T aRules aL aM).Specific)), (.int .i64 ((cho2T aRules aL aM).Order))] (cho2T aRules aL aM : Choice), ov [(.string ((cho2T aRules aL aM).Match.Rule)), v93, v94, (.int .i64 ((cho2T aRules aL aM).Priority)), v95, (.int .i64 ((cho2T aRules aL aM).Specific)), (.int .i64 ((cho2T aRules aL aM).Order))] (mkCh 1 (cho2T aRules aL aM) : Choice), bx g99 [(.string ((cho2T aRules aL aM).Match.Rule)), v93, v94, (.int .i64 ((cho2T aRules aL aM).Priority)), v95, (.int .i64 ((cho2T aRules aL aM).Specific)), (.int .i64 ((cho2T aRules aL aM).Order))], bx g28 [(.string ((cho2T aRules aL aM).Match.Rule)), v22, v23, (.int .i64 ((cho2T aRules aL aM).Priority)), v24, (.int .i64 ((cho2T aRules aL aM).Specific)), (.int .i64 ((cho2T aRules aL aM).Order))], ov [(.string ((cho2T aRules aL aM).Match.Rule)), v22, v23, (.int .i64 ((cho2T aRules aL aM).Priority)), v24, (.int .i64 ((cho2T aRules aL aM).Specific)), (.int .i64 ((cho2T aRules aL aM).Order))] (cho2T aRules aL aM : Choice), bx g9 [(.string aM.Rule), u3, u5]]) w') ?_ ?_)))
            ·refine C_draw mixed [] (by kernel_rfl) (tk 0 rfl (by kernel_rfl) (by kernel_rfl) (by kernel_rfl) rfl (fun _ hs => hs) (rp rfl) (tk 2 rfl (by kernel_rfl) (by kernel_rfl) (by kernel_rfl) rfl (fun _ hs => hs) (rp rfl) (tk 4 rfl (by kernel_rfl) (by kernel_rfl) (by kernel_rfl) rfl (fun _ hs => hs) (lbw 4 a_27 rfl rfl rfl) (tyN [1, 10] rfl (by kernel_rfl) ⟨⟨_, rfl, rfl, ?_⟩, ⟨_, rfl, rfl, ?_⟩, trivial⟩))))
             ·refine id (crl b_10 rfl rfl rfl rfl (fun w' hs => (laws_toRuleS w' v_aRules aRules (rd_at hs h_aRules) (by first | assumption | omega | (unfold szm at *; split at * <;> omega)))) fun v117 => ?_)
              refine tS (fun _ hs => hs.pk [1, 2, 3, 4, 5] rfl rfl) (tyN [3, 10] rfl (by kernel_rfl) ⟨⟨_, rfl, rfl, ?_⟩, ⟨_, rfl, rfl, ?_⟩, trivial⟩)
              ·refine id (crl b_11 rfl rfl rfl rfl (fun w' hs => (laws_toStampS w' v_aL aL (rd_at hs h_aL) (by first | assumption | omega | (unfold szm at *; split at * <;> omega)))) fun v118 => ?_)
               refine tS (fun _ hs => hs.pk [2, 3, 4, 5, 6] rfl rfl) (tyN [5, 10] rfl (by kernel_rfl) ⟨⟨_, rfl, rfl, ?_⟩, ⟨_, rfl, rfl, ?_⟩, trivial⟩)
               ·refine id (crs rfl b_12 rfl rfl rfl rfl (fun w' hs => (laws_toMatch w' [(.string aM.Rule), u3, u5] aM (rd_at hs h_aM) (by first | assumption | omega | (unfold szm at *; split at * <;> omega)))) fun cs119 => ?_)
                refine D_pre (fun w' hs => shape_Match (rd_own (k := 0) hs rfl)) ?_
                rintro ⟨v120, v121, rfl, ho122, ho123⟩
                refine tS (fun _ hs => hs.pk [3, 4, 5, 6, 7] rfl rfl) (tyN [6, 10] rfl (by kernel_rfl) ⟨⟨_, rfl, rfl, ?_⟩, ⟨_, rfl, rfl, ?_⟩, trivial⟩)
                ·refine id (cr2 b_13 rfl rfl rfl rfl (fun w' hs => (impl_ChoiceOf w' v117 aRules v118 aL [(.string aM.Rule), v120, v121] aM (rd_own (k := 2) hs rfl) (rd_own (k := 1) hs rfl) (rd_own (k := 0) hs rfl) (by first | assumption | omega | (unfold szm at *; split at * <;> omega)) (by first | assumption | omega | (unfold szm at *; split at * <;> omega)) (by first | assumption | omega | (unfold szm at *; split at * <;> omega)) (Tb.ext htb hs.bel))) fun cs124 cs125 => ?_)
                 refine D_pre (fun w' hs => shape_Choice (rd_own (k := 0) hs rfl)) ?_
                 rintro ⟨v126, v127, v128, rfl, ho129, ho130, ho131⟩
                 refine D_pre (fun w' hs => show cs125 = [(.bool (cho2B aRules aL aM))] from rd_own (k := 1) hs rfl) ?_
                 rintro rfl
                 refine D_re 122 (v' := (.tuple #[(.agg #[(.string ((cho2T aRules aL aM).Match.Rule)), v126, v127, (.int .i64 ((cho2T aRules aL aM).Priority)), v128, (.int .i64 ((cho2T aRules aL aM).Specific)), (.int .i64 ((cho2T aRules aL aM).Order))]), (.bool (cho2B aRules aL aM))])) rfl rfl rfl (D_pk (H' := [ov [(.string ((cho2T aRules aL aM).Match.Rule)), v126, v127, (.int .i64 ((cho2T aRules aL aM).Priority)), v128, (.int .i64 ((cho2T aRules aL aM).Specific)), (.int .i64 ((cho2T aRules aL aM).Order))] (cho2T aRules aL aM : Choice), ov [(.string aM.Rule), v120, v121] (aM : Match), ov [v118] (aL : (List Stamp)), ov [v117] (aRules : (List Rule)), ov [(.string ((cho2T aRules aL aM).Match.Rule)), v93, v94, (.int .i64 ((cho2T aRules aL aM).Priority)), v95, (.int .i64 ((cho2T aRules aL aM).Specific)), (.int .i64 ((cho2T aRules aL aM).Order))] (mkCh 1 (cho2T aRules aL aM) : Choice), bx g99 [(.string ((cho2T aRules aL aM).Match.Rule)), v93, v94, (.int .i64 ((cho2T aRules aL aM).Priority)), v95, (.int .i64 ((cho2T aRules aL aM).Specific)), (.int .i64 ((cho2T aRules aL aM).Order))], bx g28 [(.string ((cho2T aRules aL aM).Match.Rule)), v22, v23, (.int .i64 ((cho2T aRules aL aM).Priority)), v24, (.int .i64 ((cho2T aRules aL aM).Specific)), (.int .i64 ((cho2T aRules aL aM).Order))], ov [(.string ((cho2T aRules aL aM).Match.Rule)), v22, v23, (.int .i64 ((cho2T aRules aL aM).Priority)), v24, (.int .i64 ((cho2T aRules aL aM).Specific)), (.int .i64 ((cho2T aRules aL aM).Order))] (cho2T aRules aL aM : Choice), bx g9 [(.string aM.Rule), u3, u5]]) [0, 2, 3, 4, 5, 6, 7, 8, 9] rfl rfl (tS (fun _ hs => hs.pk [4, 5, 6, 7, 8] rfl rfl) (tk 7 rfl (by kernel_rfl) (by kernel_rfl) (by kernel_rfl) rfl (fun _ hs => hs.pk [4, 5, 6, 7, 8] rfl rfl) (rp rfl) (tk 8 rfl (by kernel_rfl) (by kernel_rfl) (by kernel_rfl) rfl (fun _ hs => hs.pk [4, 5, 6, 7, 8] rfl rfl) (rp rfl) (tk 9 rfl (by kernel_rfl) (by kernel_rfl) (by kernel_rfl) rfl (fun _ hs => hs.pk [4, 5, 6, 7, 8] rfl rfl) (rp rfl) (ty 10 rfl (by kernel_rfl) rfl (D_alloc y_37 rfl rfl rfl rfl fun g132 => ?_)))))))
                 refine tS (fun _ hs => hs.pk [5, 6, 7, 8, 9] rfl rfl) (ty 11 rfl (by kernel_rfl) rfl (D_stb (vs := [(.string ((cho2T aRules aL aM).Match.Rule)), v126, v127, (.int .i64 ((cho2T aRules aL aM).Priority)), v128, (.int .i64 ((cho2T aRules aL aM).Specific)), (.int .i64 ((cho2T aRules aL aM).Order))]) (cs' := [(.string ((cho2T aRules aL aM).Match.Rule)), v126, v127, (.int .i64 ((cho2T aRules aL aM).Priority)), v128, (.int .i64 ((cho2T aRules aL aM).Specific)), (.int .i64 ((cho2T aRules aL aM).Order))]) 0 z_37 rfl rfl rfl rfl rfl rfl (ocons rfl (ocons ho129 (ocons ho130 (ocons rfl (ocons ho131 (ocons rfl (ocons rfl onil))))))) (by simp) rfl ?_))
                 refine tS (fun _ hs => hs.pk [5, 6, 7, 8, 9] rfl rfl) (tk 12 rfl (by kernel_rfl) (by kernel_rfl) (by kernel_rfl) rfl (fun _ hs => hs.pk [5, 6, 7, 8, 9] rfl rfl) (rp rfl) (tE (by kernel_rfl) (x_then (fun ac w' hf hs => ⟨g132, v126, v127, v128, ho129, ho130, ho131, hf.weak ⟨rfl, rfl, rfl, rfl, rfl, rfl, trivial⟩, hs.pk [0, 1, 5, 6, 7, 8, 9] rfl rfl⟩))))
                ·refine id (D_alloc y_37 rfl rfl rfl rfl fun g133 => ?_)
                 refine tS (fun _ hs => hs.pk [4, 5, 6, 7, 8] rfl rfl) (ty 6 rfl (by kernel_rfl) rfl (cr2 b_13 rfl rfl rfl rfl (fun w' hs => (impl_ChoiceOf w' v117 aRules v118 aL [(.string aM.Rule), v120, v121] aM (rd_own (k := 3) hs rfl) (rd_own (k := 2) hs rfl) (rd_own (k := 1) hs rfl) (by first | assumption | omega | (unfold szm at *; split at * <;> omega)) (by first | assumption | omega | (unfold szm at *; split at * <;> omega)) (by first | assumption | omega | (unfold szm at *; split at * <;> omega)) (Tb.ext htb hs.bel))) fun cs134 cs135 => ?_))
                 refine D_pre (fun w' hs => shape_Choice (rd_own (k := 0) hs rfl)) ?_
                 rintro ⟨v136, v137, v138, rfl, ho139, ho140, ho141⟩
                 refine D_pre (fun w' hs => show cs135 = [(.bool (cho2B aRules aL aM))] from rd_own (k := 1) hs rfl) ?_
                 rintro rfl
                 refine D_re 122 (v' := (.tuple #[(.agg #[(.string ((cho2T aRules aL aM).Match.Rule)), v136, v137, (.int .i64 ((cho2T aRules aL aM).Priority)), v138, (.int .i64 ((cho2T aRules aL aM).Specific)), (.int .i64 ((cho2T aRules aL aM).Order))]), (.bool (cho2B aRules aL aM))])) rfl rfl rfl (D_pk (H' := [ov [(.string ((cho2T aRules aL aM).Match.Rule)), v136, v137, (.int .i64 ((cho2T aRules aL aM).Priority)), v138, (.int .i64 ((cho2T aRules aL aM).Specific)), (.int .i64 ((cho2T aRules aL aM).Order))] (cho2T aRules aL aM : Choice), bx g133 [(.string ⟨#[]⟩), (.slice none 0 0), (.slice none 0 0), (.int .i64 0), (.slice none 0 0), (.int .i64 0), (.int .i64 0)], ov [(.string aM.Rule), v120, v121] (aM : Match), ov [v118] (aL : (List Stamp)), ov [v117] (aRules : (List Rule)), ov [(.string ((cho2T aRules aL aM).Match.Rule)), v93, v94, (.int .i64 ((cho2T aRules aL aM).Priority)), v95, (.int .i64 ((cho2T aRules aL aM).Specific)), (.int .i64 ((cho2T aRules aL aM).Order))] (mkCh 1 (cho2T aRules aL aM) : Choice), bx g99 [(.string ((cho2T aRules aL aM).Match.Rule)), v93, v94, (.int .i64 ((cho2T aRules aL aM).Priority)), v95, (.int .i64 ((cho2T aRules aL aM).Specific)), (.int .i64 ((cho2T aRules aL aM).Order))], bx g28 [(.string ((cho2T aRules aL aM).Match.Rule)), v22, v23, (.int .i64 ((cho2T aRules aL aM).Priority)), v24, (.int .i64 ((cho2T aRules aL aM).Specific)), (.int .i64 ((cho2T aRules aL aM).Order))], ov [(.string ((cho2T aRules aL aM).Match.Rule)), v22, v23, (.int .i64 ((cho2T aRules aL aM).Priority)), v24, (.int .i64 ((cho2T aRules aL aM).Specific)), (.int .i64 ((cho2T aRules aL aM).Order))] (cho2T aRules aL aM : Choice), bx g9 [(.string aM.Rule), u3, u5]]) [0, 2, 3, 4, 5, 6, 7, 8, 9, 10] rfl rfl (tS (fun _ hs => hs.pk [5, 6, 7, 8, 9] rfl rfl) (tk 7 rfl (by kernel_rfl) (by kernel_rfl) (by kernel_rfl) rfl (fun _ hs => hs.pk [5, 6, 7, 8, 9] rfl rfl) (rp rfl) (tk 8 rfl (by kernel_rfl) (by kernel_rfl) (by kernel_rfl) rfl (fun _ hs => hs.pk [5, 6, 7, 8, 9] rfl rfl) (rp rfl) (tk 9 rfl (by kernel_rfl) (by kernel_rfl) (by kernel_rfl) rfl (fun _ hs => hs.pk [5, 6, 7, 8, 9] rfl rfl) (rp rfl) (ty 11 rfl (by kernel_rfl) rfl (D_stb (vs := [(.string ((cho2T aRules aL aM).Match.Rule)), v136, v137, (.int .i64 ((cho2T aRules aL aM).Priority)), v138, (.int .i64 ((cho2T aRules aL aM).Specific)), (.int .i64 ((cho2T aRules aL aM).Order))]) (cs' := [(.string ((cho2T aRules aL aM).Match.Rule)), v136, v137, (.int .i64 ((cho2T aRules aL aM).Priority)), v138, (.int .i64 ((cho2T aRules aL aM).Specific)), (.int .i64 ((cho2T aRules aL aM).Order))]) 1 z_37 rfl rfl rfl rfl rfl rfl (ocons rfl (ocons ho139 (ocons ho140 (ocons rfl (ocons ho141 (ocons rfl (ocons rfl onil))))))) (by simp) rfl ?_)))))))
                 refine tS (fun _ hs => hs.pk [5, 6, 7, 8, 9] rfl rfl) (tk 12 rfl (by kernel_rfl) (by kernel_rfl) (by kernel_rfl) rfl (fun _ hs => hs.pk [5, 6, 7, 8, 9] rfl rfl) (rp rfl) (tE (by kernel_rfl) (x_then (fun ac w' hf hs => ⟨g133, v136, v137, v138, ho139, ho140, ho141, hf.weak ⟨rfl, rfl, rfl, rfl, rfl, rfl, trivial⟩, hs.pk [1, 0, 5, 6, 7, 8, 9] rfl rfl⟩))))
               ·refine id (D_alloc y_37 rfl rfl rfl rfl fun g142 => ?_)
                refine tS (fun _ hs => hs.pk [3, 4, 5, 6, 7] rfl rfl) (ty 5 rfl (by kernel_rfl) rfl (crs rfl b_12 rfl rfl rfl rfl (fun w' hs => (laws_toMatch w' [(.string aM.Rule), u3, u5] aM (rd_at hs h_aM) (by first | assumption | omega | (unfold szm at *; split at * <;> omega)))) fun cs143 => ?_))
                refine D_pre (fun w' hs => shape_Match (rd_own (k := 0) hs rfl)) ?_
                rintro ⟨v144, v145, rfl, ho146, ho147⟩
                refine tS (fun _ hs => hs.pk [4, 5, 6, 7, 8] rfl rfl) (ty 6 rfl (by kernel_rfl) rfl (cr2 b_13 rfl rfl rfl rfl (fun w' hs => (impl_ChoiceOf w' v117 aRules v118 aL [(.string aM.Rule), v144, v145] aM (rd_own (k := 3) hs rfl) (rd_own (k := 2) hs rfl) (rd_own (k := 0) hs rfl) (by first | assumption | omega | (unfold szm at *; split at * <;> omega)) (by first | assumption | omega | (unfold szm at *; split at * <;> omega)) (by first | assumption | omega | (unfold szm at *; split at * <;> omega)) (Tb.ext htb hs.bel))) fun cs148 cs149 => ?_))
                refine D_pre (fun w' hs => shape_Choice (rd_own (k := 0) hs rfl)) ?_
                rintro ⟨v150, v151, v152, rfl, ho153, ho154, ho155⟩
                refine D_pre (fun w' hs => show cs149 = [(.bool (cho2B aRules aL aM))] from rd_own (k := 1) hs rfl) ?_
                rintro rfl
                refine D_re 122 (v' := (.tuple #[(.agg #[(.string ((cho2T aRules aL aM).Match.Rule)), v150, v151, (.int .i64 ((cho2T aRules aL aM).Priority)), v152, (.int .i64 ((cho2T aRules aL aM).Specific)), (.int .i64 ((cho2T aRules aL aM).Order))]), (.bool (cho2B aRules aL aM))])) rfl rfl rfl (D_pk (H' := [ov [(.string ((cho2T aRules aL aM).Match.Rule)), v150, v151, (.int .i64 ((cho2T aRules aL aM).Priority)), v152, (.int .i64 ((cho2T aRules aL aM).Specific)), (.int .i64 ((cho2T aRules aL aM).Order))] (cho2T aRules aL aM : Choice), ov [(.string aM.Rule), v144, v145] (aM : Match), bx g142 [(.string ⟨#[]⟩), (.slice none 0 0), (.slice none 0 0), (.int .i64 0), (.slice none 0 0), (.int .i64 0), (.int .i64 0)], ov [v118] (aL : (List Stamp)), ov [v117] (aRules : (List Rule)), ov [(.string ((cho2T aRules aL aM).Match.Rule)), v93, v94, (.int .i64 ((cho2T aRules aL aM).Priority)), v95, (.int .i64 ((cho2T aRules aL aM).Specific)), (.int .i64 ((cho2T aRules aL aM).Order))] (mkCh 1 (cho2T aRules aL aM) : Choice), bx g99 [(.string ((cho2T aRules aL aM).Match.Rule)), v93, v94, (.int .i64 ((cho2T aRules aL aM).Priority)), v95, (.int .i64 ((cho2T aRules aL aM).Specific)), (.int .i64 ((cho2T aRules aL aM).Order))], bx g28 [(.string ((cho2T aRules aL aM).Match.Rule)), v22, v23, (.int .i64 ((cho2T aRules aL aM).Priority)), v24, (.int .i64 ((cho2T aRules aL aM).Specific)), (.int .i64 ((cho2T aRules aL aM).Order))], ov [(.string ((cho2T aRules aL aM).Match.Rule)), v22, v23, (.int .i64 ((cho2T aRules aL aM).Priority)), v24, (.int .i64 ((cho2T aRules aL aM).Specific)), (.int .i64 ((cho2T aRules aL aM).Order))] (cho2T aRules aL aM : Choice), bx g9 [(.string aM.Rule), u3, u5]]) [0, 2, 3, 4, 5, 6, 7, 8, 9, 10] rfl rfl (tS (fun _ hs => hs.pk [5, 6, 7, 8, 9] rfl rfl) (tk 7 rfl (by kernel_rfl) (by kernel_rfl) (by kernel_rfl) rfl (fun _ hs => hs.pk [5, 6, 7, 8, 9] rfl rfl) (rp rfl) (tk 8 rfl (by kernel_rfl) (by kernel_rfl) (by kernel_rfl) rfl (fun _ hs => hs.pk [5, 6, 7, 8, 9] rfl rfl) (rp rfl) (tk 9 rfl (by kernel_rfl) (by kernel_rfl) (by kernel_rfl) rfl (fun _ hs => hs.pk [5, 6, 7, 8, 9] rfl rfl) (rp rfl) (ty 11 rfl (by kernel_rfl) rfl (D_stb (vs := [(.string ((cho2T aRules aL aM).Match.Rule)), v150, v151, (.int .i64 ((cho2T aRules aL aM).Priority)), v152, (.int .i64 ((cho2T aRules aL aM).Specific)), (.int .i64 ((cho2T aRules aL aM).Order))]) (cs' := [(.string ((cho2T aRules aL aM).Match.Rule)), v150, v151, (.int .i64 ((cho2T aRules aL aM).Priority)), v152, (.int .i64 ((cho2T aRules aL aM).Specific)), (.int .i64 ((cho2T aRules aL aM).Order))]) 2 z_37 rfl rfl rfl rfl rfl rfl (ocons rfl (ocons ho153 (ocons ho154 (ocons rfl (ocons ho155 (ocons rfl (ocons rfl onil))))))) (by simp) rfl ?_)))))))
                refine tS (fun _ hs => hs.pk [5, 6, 7, 8, 9] rfl rfl) (tk 12 rfl (by kernel_rfl) (by kernel_rfl) (by kernel_rfl) rfl (fun _ hs => hs.pk [5, 6, 7, 8, 9] rfl rfl) (rp rfl) (tE (by kernel_rfl) (x_then (fun ac w' hf hs => ⟨g142, v150, v151, v152, ho153, ho154, ho155, hf.weak ⟨rfl, rfl, rfl, rfl, rfl, rfl, trivial⟩, hs.pk [2, 0, 5, 6, 7, 8, 9] rfl rfl⟩))))
              ·refine id (D_alloc y_37 rfl rfl rfl rfl fun g156 => ?_)
               refine tS (fun _ hs => hs.pk [2, 3, 4, 5, 6] rfl rfl) (ty 3 rfl (by kernel_rfl) rfl (crl b_11 rfl rfl rfl rfl (fun w' hs => (laws_toStampS w' v_aL aL (rd_at hs h_aL) (by first | assumption | omega | (unfold szm at *; split at * <;> omega)))) fun v157 => ?_))
               refine tS (fun _ hs => hs.pk [3, 4, 5, 6, 7] rfl rfl) (ty 5 rfl (by kernel_rfl) rfl (crs rfl b_12 rfl rfl rfl rfl (fun w' hs => (laws_toMatch w' [(.string aM.Rule), u3, u5] aM (rd_at hs h_aM) (by first | assumption | omega | (unfold szm at *; split at * <;> omega)))) fun cs158 => ?_))
               refine D_pre (fun w' hs => shape_Match (rd_own (k := 0) hs rfl)) ?_
               rintro ⟨v159, v160, rfl, ho161, ho162⟩
               refine tS (fun _ hs => hs.pk [4, 5, 6, 7, 8] rfl rfl) (ty 6 rfl (by kernel_rfl) rfl (cr2 b_13 rfl rfl rfl rfl (fun w' hs => (impl_ChoiceOf w' v117 aRules v157 aL [(.string aM.Rule), v159, v160] aM (rd_own (k := 3) hs rfl) (rd_own (k := 1) hs rfl) (rd_own (k := 0) hs rfl) (by first | assumption | omega | (unfold szm at *; split at * <;> omega)) (by first | assumption | omega | (unfold szm at *; split at * <;> omega)) (by first | assumption | omega | (unfold szm at *; split at * <;> omega)) (Tb.ext htb hs.bel))) fun cs163 cs164 => ?_))
               refine D_pre (fun w' hs => shape_Choice (rd_own (k := 0) hs rfl)) ?_
               rintro ⟨v165, v166, v167, rfl, ho168, ho169, ho170⟩
               refine D_pre (fun w' hs => show cs164 = [(.bool (cho2B aRules aL aM))] from rd_own (k := 1) hs rfl) ?_
               rintro rfl
               refine D_re 122 (v' := (.tuple #[(.agg #[(.string ((cho2T aRules aL aM).Match.Rule)), v165, v166, (.int .i64 ((cho2T aRules aL aM).Priority)), v167, (.int .i64 ((cho2T aRules aL aM).Specific)), (.int .i64 ((cho2T aRules aL aM).Order))]), (.bool (cho2B aRules aL aM))])) rfl rfl rfl (D_pk (H' := [ov [(.string ((cho2T aRules aL aM).Match.Rule)), v165, v166, (.int .i64 ((cho2T aRules aL aM).Priority)), v167, (.int .i64 ((cho2T aRules aL aM).Specific)), (.int .i64 ((cho2T aRules aL aM).Order))] (cho2T aRules aL aM : Choice), ov [(.string aM.Rule), v159, v160] (aM : Match), ov [v157] (aL : (List Stamp)), bx g156 [(.string ⟨#[]⟩), (.slice none 0 0), (.slice none 0 0), (.int .i64 0), (.slice none 0 0), (.int .i64 0), (.int .i64 0)], ov [v117] (aRules : (List Rule)), ov [(.string ((cho2T aRules aL aM).Match.Rule)), v93, v94, (.int .i64 ((cho2T aRules aL aM).Priority)), v95, (.int .i64 ((cho2T aRules aL aM).Specific)), (.int .i64 ((cho2T aRules aL aM).Order))] (mkCh 1 (cho2T aRules aL aM) : Choice), bx g99 [(.string ((cho2T aRules aL aM).Match.Rule)), v93, v94, (.int .i64 ((cho2T aRules aL aM).Priority)), v95, (.int .i64 ((cho2T aRules aL aM).Specific)), (.int .i64 ((cho2T aRules aL aM).Order))], bx g28 [(.string ((cho2T aRules aL aM).Match.Rule)), v22, v23, (.int .i64 ((cho2T aRules aL aM).Priority)), v24, (.int .i64 ((cho2T aRules aL aM).Specific)), (.int .i64 ((cho2T aRules aL aM).Order))], ov [(.string ((cho2T aRules aL aM).Match.Rule)), v22, v23, (.int .i64 ((cho2T aRules aL aM).Priority)), v24, (.int .i64 ((cho2T aRules aL aM).Specific)), (.int .i64 ((cho2T aRules aL aM).Order))] (cho2T aRules aL aM : Choice), bx g9 [(.string aM.Rule), u3, u5]]) [0, 2, 3, 4, 5, 6, 7, 8, 9, 10] rfl rfl (tS (fun _ hs => hs.pk [5, 6, 7, 8, 9] rfl rfl) (tk 7 rfl (by kernel_rfl) (by kernel_rfl) (by kernel_rfl) rfl (fun _ hs => hs.pk [5, 6, 7, 8, 9] rfl rfl) (rp rfl) (tk 8 rfl (by kernel_rfl) (by kernel_rfl) (by kernel_rfl) rfl (fun _ hs => hs.pk [5, 6, 7, 8, 9] rfl rfl) (rp rfl) (tk 9 rfl (by kernel_rfl) (by kernel_rfl) (by kernel_rfl) rfl (fun _ hs => hs.pk [5, 6, 7, 8, 9] rfl rfl) (rp rfl) (ty 11 rfl (by kernel_rfl) rfl (D_stb (vs := [(.string ((cho2T aRules aL aM).Match.Rule)), v165, v166, (.int .i64 ((cho2T aRules aL aM).Priority)), v167, (.int .i64 ((cho2T aRules aL aM).Specific)), (.int .i64 ((cho2T aRules aL aM).Order))]) (cs' := [(.string ((cho2T aRules aL aM).Match.Rule)), v165, v166, (.int .i64 ((cho2T aRules aL aM).Priority)), v167, (.int .i64 ((cho2T aRules aL aM).Specific)), (.int .i64 ((cho2T aRules aL aM).Order))]) 3 z_37 rfl rfl rfl rfl rfl rfl (ocons rfl (ocons ho168 (ocons ho169 (ocons rfl (ocons ho170 (ocons rfl (ocons rfl onil))))))) (by simp) rfl ?_)))))))
               refine tS (fun _ hs => hs.pk [5, 6, 7, 8, 9] rfl rfl) (tk 12 rfl (by kernel_rfl) (by kernel_rfl) (by kernel_rfl) rfl (fun _ hs => hs.pk [5, 6, 7, 8, 9] rfl rfl) (rp rfl) (tE (by kernel_rfl) (x_then (fun ac w' hf hs => ⟨g156, v165, v166, v167, ho168, ho169, ho170, hf.weak ⟨rfl, rfl, rfl, rfl, rfl, rfl, trivial⟩, hs.pk [3, 0, 5, 6, 7, 8, 9] rfl rfl⟩))))
             ·refine id (D_alloc y_37 rfl rfl rfl rfl fun g171 => ?_)
              refine tS (fun _ hs => hs.pk [1, 2, 3, 4, 5] rfl rfl) (ty 1 rfl (by kernel_rfl) rfl (crl b_10 rfl rfl rfl rfl (fun w' hs => (laws_toRuleS w' v_aRules aRules (rd_at hs h_aRules) (by first | assumption | omega | (unfold szm at *; split at * <;> omega)))) fun v172 => ?_))
              refine tS (fun _ hs => hs.pk [2, 3, 4, 5, 6] rfl rfl) (ty 3 rfl (by kernel_rfl) rfl (crl b_11 rfl rfl rfl rfl (fun w' hs => (laws_toStampS w' v_aL aL (rd_at hs h_aL) (by first | assumption | omega | (unfold szm at *; split at * <;> omega)))) fun v173 => ?_))
              refine tS (fun _ hs => hs.pk [3, 4, 5, 6, 7] rfl rfl) (ty 5 rfl (by kernel_rfl) rfl (crs rfl b_12 rfl rfl rfl rfl (fun w' hs => (laws_toMatch w' [(.string aM.Rule), u3, u5] aM (rd_at hs h_aM) (by first | assumption | omega | (unfold szm at *; split at * <;> omega)))) fun cs174 => ?_))
              refine D_pre (fun w' hs => shape_Match (rd_own (k := 0) hs rfl)) ?_
              rintro ⟨v175, v176, rfl, ho177, ho178⟩
              refine tS (fun _ hs => hs.pk [4, 5, 6, 7, 8] rfl rfl) (ty 6 rfl (by kernel_rfl) rfl (cr2 b_13 rfl rfl rfl rfl (fun w' hs => (impl_ChoiceOf w' v172 aRules v173 aL [(.string aM.Rule), v175, v176] aM (rd_own (k := 2) hs rfl) (rd_own (k := 1) hs rfl) (rd_own (k := 0) hs rfl) (by first | assumption | omega | (unfold szm at *; split at * <;> omega)) (by first | assumption | omega | (unfold szm at *; split at * <;> omega)) (by first | assumption | omega | (unfold szm at *; split at * <;> omega)) (Tb.ext htb hs.bel))) fun cs179 cs180 => ?_))
              refine D_pre (fun w' hs => shape_Choice (rd_own (k := 0) hs rfl)) ?_
              rintro ⟨v181, v182, v183, rfl, ho184, ho185, ho186⟩
              refine D_pre (fun w' hs => show cs180 = [(.bool (cho2B aRules aL aM))] from rd_own (k := 1) hs rfl) ?_
              rintro rfl
              refine D_re 122 (v' := (.tuple #[(.agg #[(.string ((cho2T aRules aL aM).Match.Rule)), v181, v182, (.int .i64 ((cho2T aRules aL aM).Priority)), v183, (.int .i64 ((cho2T aRules aL aM).Specific)), (.int .i64 ((cho2T aRules aL aM).Order))]), (.bool (cho2B aRules aL aM))])) rfl rfl rfl (D_pk (H' := [ov [(.string ((cho2T aRules aL aM).Match.Rule)), v181, v182, (.int .i64 ((cho2T aRules aL aM).Priority)), v183, (.int .i64 ((cho2T aRules aL aM).Specific)), (.int .i64 ((cho2T aRules aL aM).Order))] (cho2T aRules aL aM : Choice), ov [(.string aM.Rule), v175, v176] (aM : Match), ov [v173] (aL : (List Stamp)), ov [v172] (aRules : (List Rule)), bx g171 [(.string ⟨#[]⟩), (.slice none 0 0), (.slice none 0 0), (.int .i64 0), (.slice none 0 0), (.int .i64 0), (.int .i64 0)], ov [(.string ((cho2T aRules aL aM).Match.Rule)), v93, v94, (.int .i64 ((cho2T aRules aL aM).Priority)), v95, (.int .i64 ((cho2T aRules aL aM).Specific)), (.int .i64 ((cho2T aRules aL aM).Order))] (mkCh 1 (cho2T aRules aL aM) : Choice), bx g99 [(.string ((cho2T aRules aL aM).Match.Rule)), v93, v94, (.int .i64 ((cho2T aRules aL aM).Priority)), v95, (.int .i64 ((cho2T aRules aL aM).Specific)), (.int .i64 ((cho2T aRules aL aM).Order))], bx g28 [(.string ((cho2T aRules aL aM).Match.Rule)), v22, v23, (.int .i64 ((cho2T aRules aL aM).Priority)), v24, (.int .i64 ((cho2T aRules aL aM).Specific)), (.int .i64 ((cho2T aRules aL aM).Order))], ov [(.string ((cho2T aRules aL aM).Match.Rule)), v22, v23, (.int .i64 ((cho2T aRules aL aM).Priority)), v24, (.int .i64 ((cho2T aRules aL aM).Specific)), (.int .i64 ((cho2T aRules aL aM).Order))] (cho2T aRules aL aM : Choice), bx g9 [(.string aM.Rule), u3, u5]]) [0, 2, 3, 4, 5, 6, 7, 8, 9, 10] rfl rfl (tS (fun _ hs => hs.pk [5, 6, 7, 8, 9] rfl rfl) (tk 7 rfl (by kernel_rfl) (by kernel_rfl) (by kernel_rfl) rfl (fun _ hs => hs.pk [5, 6, 7, 8, 9] rfl rfl) (rp rfl) (tk 8 rfl (by kernel_rfl) (by kernel_rfl) (by kernel_rfl) rfl (fun _ hs => hs.pk [5, 6, 7, 8, 9] rfl rfl) (rp rfl) (tk 9 rfl (by kernel_rfl) (by kernel_rfl) (by kernel_rfl) rfl (fun _ hs => hs.pk [5, 6, 7, 8, 9] rfl rfl) (rp rfl) (ty 11 rfl (by kernel_rfl) rfl (D_stb (vs := [(.string ((cho2T aRules aL aM).Match.Rule)), v181, v182, (.int .i64 ((cho2T aRules aL aM).Priority)), v183, (.int .i64 ((cho2T aRules aL aM).Specific)), (.int .i64 ((cho2T aRules aL aM).Order))]) (cs' := [(.string ((cho2T aRules aL aM).Match.Rule)), v181, v182, (.int .i64 ((cho2T aRules aL aM).Priority)), v183, (.int .i64 ((cho2T aRules aL aM).Specific)), (.int .i64 ((cho2T aRules aL aM).Order))]) 4 z_37 rfl rfl rfl rfl rfl rfl (ocons rfl (ocons ho184 (ocons ho185 (ocons rfl (ocons ho186 (ocons rfl (ocons rfl onil))))))) (by simp) rfl ?_)))))))
              refine tS (fun _ hs => hs.pk [5, 6, 7, 8, 9] rfl rfl) (tk 12 rfl (by kernel_rfl) (by kernel_rfl) (by kernel_rfl) rfl (fun _ hs => hs.pk [5, 6, 7, 8, 9] rfl rfl) (rp rfl) (tE (by kernel_rfl) (x_then (fun ac w' hf hs => ⟨g171, v181, v182, v183, ho184, ho185, ho186, hf.weak ⟨rfl, rfl, rfl, rfl, rfl, rfl, trivial⟩, hs.pk [4, 0, 5, 6, 7, 8, 9] rfl rfl⟩))))
            rintro ac w' ⟨g132, v126, v127, v128, ho129, ho130, ho131, hf, hs⟩
            refine D.use ?_ hf hs
            clear hf hs ac w'
            refine x_then (D_H ([bx g132 [(.string ((cho2T aRules aL aM).Match.Rule)), v126, v127, (.int .i64 ((cho2T aRules aL aM).Priority)), v128, (.int .i64 ((cho2T aRules aL aM).Specific)), (.int .i64 ((cho2T aRules aL aM).Order))], ov [(.string ((cho2T aRules aL aM).Match.Rule)), v126, v127, (.int .i64 ((cho2T aRules aL aM).Priority)), v128, (.int .i64 ((cho2T aRules aL aM).Specific)), (.int .i64 ((cho2T aRules aL aM).Order))] (cho2T aRules aL aM : Choice), ov [(.string ((cho2T aRules aL aM).Match.Rule)), v93, v94, (.int .i64 ((cho2T aRules aL aM).Priority)), v95, (.int .i64 ((cho2T aRules aL aM).Specific)), (.int .i64 ((cho2T aRules aL aM).Order))] (mkCh 1 (cho2T aRules aL aM) : Choice), bx g99 [(.string ((cho2T aRules aL aM).Match.Rule)), v93, v94, (.int .i64 ((cho2T aRules aL aM).Priority)), v95, (.int .i64 ((cho2T aRules aL aM).Specific)), (.int .i64 ((cho2T aRules aL aM).Order))], bx g28 [(.string ((cho2T aRules aL aM).Match.Rule)), v22, v23, (.int .i64 ((cho2T aRules aL aM).Priority)), v24, (.int .i64 ((cho2T aRules aL aM).Specific)), (.int .i64 ((cho2T aRules aL aM).Order))], ov [(.string ((cho2T aRules aL aM).Match.Rule)), v22, v23, (.int .i64 ((cho2T aRules aL aM).Priority)), v24, (.int .i64 ((cho2T aRules aL aM).Specific)), (.int .i64 ((cho2T aRules aL aM).Order))] (cho2T aRules aL aM : Choice), bx g9 [(.string aM.Rule), u3, u5]]) rfl (C_seq (C_seq (C_reg (q1 rfl (lbw 0 a_37 rfl rfl rfl) (q1 rfl (lbw 4 a_37 rfl rfl rfl) (li rfl (cv b_14 rfl rfl rfl rfl (fun w' hs => (laws_eqChoice w' [(.string ((cho2T aRules aL aM).Match.Rule)), v126, v127, (.int .i64 ((cho2T aRules aL aM).Priority)), v128, (.int .i64 ((cho2T aRules aL aM).Specific)), (.int .i64 ((cho2T aRules aL aM).Order))] (cho2T aRules aL aM) [(.string ((cho2T aRules aL aM).Match.Rule)), v22, v23, (.int .i64 ((cho2T aRules aL aM).Priority)), v24, (.int .i64 ((cho2T aRules aL aM).Specific)), (.int .i64 ((cho2T aRules aL aM).Order))] (cho2T aRules aL aM) (rd_own (k := 1) hs rfl) (rd_own (k := 5) hs rfl))) ?_))))))))
            refine p1 rfl <| p1 rfl (gkf 129 rfl rfl h100 (p1 rfl <| p1 rfl (q1 rfl (D_neB ub_4 rfl rfl rfl) (p1 rfl (D_end (x_then (C_kf rfl h101 (C_skip (x_then (C_seq (C_reg ?_)))))))))))
            refine p1 rfl (D_end (x_then (C_seq (C_reg (q1 rfl (lbw 3 a_37 rfl rfl rfl) (p1 rfl (li rfl (cv b_22 rfl rfl rfl rfl (fun w' hs => (laws_heldChoice w' [(.string ((cho2T aRules aL aM).Match.Rule)), v93, v94, (.int .i64 ((cho2T aRules aL aM).Priority)), v95, (.int .i64 ((cho2T aRules aL aM).Specific)), (.int .i64 ((cho2T aRules aL aM).Order))] (mkCh 1 (cho2T aRules aL aM)) 1 (rd_own (k := 2) hs rfl) (by first | assumption | omega | (unfold szm at *; split at * <;> omega)) (by rw [cCh_mk]; omega) (mkCh_idem _ _))) ?_))))))))
            refine p1 rfl (D_end (x_then (D_weak [(16, (.int .i64 (1 + cCh (cho2T aRules aL aM)))), (17, (.int .i64 (1 + cCh (mkCh 1 (cho2T aRules aL aM)))))] ⟨rfl, rfl, trivial⟩ (D_sel (H' := []) [false, false, false, false, false, false, false] rfl (C_seq (C_seq (C_reg (p1 rfl <| p1 rfl (D_end (x_then (C_kf rfl h115 ?_)))))))))))
            refine C_skip (x_then (C_seq (C_seq (C_reg (p1 rfl <| p1 rfl <| p1 rfl (D_end (x_then (C_kf rfl h116 (C_skip (x_then (C_seq ?_)))))))))))
            refine C_reg (p1 rfl (D_end (x_then (C_ret (Rb rfl rfl ?_)))))
            first | rfl | (exfalso; omega) | (exfalso; simp only [cCh_mk] at *; omega) | exact absurd h116 (by simp)
end Go.Sy.Cho2
