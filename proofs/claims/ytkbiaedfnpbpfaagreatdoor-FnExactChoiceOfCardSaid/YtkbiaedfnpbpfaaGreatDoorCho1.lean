/-
  Contracts of functions of the program, walked (printed by a program of ours).
  Conditions: those that each theorem states.
-/
import Derived.Test.YtkbiaedfnpbpfaaGreatDoorEng5
import Derived.Test.YtkbiaedfnpbpfaaGreatDoorEv3
import Derived.Test.YtkbiaedfnpbpfaaGreatDoorNum2
import Derived.Test.YtkbiaedfnpbpfaaGreatDoorCho
set_option linter.unusedVariables false
set_option maxRecDepth 20000
namespace Go.Sy.Cho1
open Go Go.RowKit Go.Proofs Go.Sy
theorem mixed : Tryz.prog.follows .mixedOrders = true := by kernel_rfl
theorem f_138_0 : fieldOff Tryz.prog 138 0 = some 0 := by kernel_rfl
theorem o_9 : oneTy Tryz.prog 9 = true := by kernel_rfl
theorem us_9 : Tryz.prog.underlying 9 = some .string := by kernel_rfl
theorem f_138_1 : fieldOff Tryz.prog 138 1 = some 1 := by kernel_rfl
theorem y_151 : zeroTy Tryz.prog 151 = some (.agg #[(.string ⟨#[]⟩), (.string ⟨#[]⟩)]) := by kernel_rfl
theorem f_151_0 : fieldOff Tryz.prog 151 0 = some 0 := by kernel_rfl
theorem z_9 : sizeTy Tryz.prog 9 = some 1 := by kernel_rfl
theorem f_151_1 : fieldOff Tryz.prog 151 1 = some 1 := by kernel_rfl
theorem a_151 : aggTy Tryz.prog 151 = some 2 := by kernel_rfl
theorem z_151 : sizeTy Tryz.prog 151 = some 2 := by kernel_rfl
theorem s_24 : sliceTy Tryz.prog 24 = some (60, 2, 40) := by kernel_rfl
theorem a_60 : aggTy Tryz.prog 60 = some 2 := by kernel_rfl
theorem b_24 : hasBody Tryz.prog 24 = true := by kernel_rfl
theorem s_31 : sliceTy Tryz.prog 31 = some (70, 2, 40) := by kernel_rfl
theorem y_70 : zeroTy Tryz.prog 70 = some (.agg #[(.string ⟨#[]⟩), (.slice none 0 0)]) := by kernel_rfl
theorem b_27 : hasBody Tryz.prog 27 = true := by kernel_rfl
theorem z_70 : sizeTy Tryz.prog 70 = some 2 := by kernel_rfl
theorem a_70 : aggTy Tryz.prog 70 = some 2 := by kernel_rfl
theorem b_30 : hasBody Tryz.prog 30 = true := by kernel_rfl
theorem s_25 : sliceTy Tryz.prog 25 = some (138, 2, 32) := by kernel_rfl
theorem a_138 : aggTy Tryz.prog 138 = some 2 := by kernel_rfl
theorem b_97 : hasBody Tryz.prog 97 = true := by kernel_rfl
theorem s_32 : sliceTy Tryz.prog 32 = some (151, 2, 32) := by kernel_rfl
theorem b_107 : hasBody Tryz.prog 107 = true := by kernel_rfl
theorem b_117 : hasBody Tryz.prog 117 = true := by kernel_rfl
theorem f_27_0 : fieldOff Tryz.prog 27 0 = some 0 := by kernel_rfl
theorem f_27_1 : fieldOff Tryz.prog 27 1 = some 1 := by kernel_rfl
theorem o_24 : oneTy Tryz.prog 24 = true := by kernel_rfl
theorem b_38 : hasBody Tryz.prog 38 = true := by kernel_rfl
theorem f_27_2 : fieldOff Tryz.prog 27 2 = some 2 := by kernel_rfl
theorem o_25 : oneTy Tryz.prog 25 = true := by kernel_rfl
theorem b_39 : hasBody Tryz.prog 39 = true := by kernel_rfl
theorem y_34 : zeroTy Tryz.prog 34 = some (.agg #[(.string ⟨#[]⟩), (.slice none 0 0), (.slice none 0 0)]) := by kernel_rfl
theorem f_34_0 : fieldOff Tryz.prog 34 0 = some 0 := by kernel_rfl
theorem b_49 : hasBody Tryz.prog 49 = true := by kernel_rfl
theorem f_34_1 : fieldOff Tryz.prog 34 1 = some 1 := by kernel_rfl
theorem z_31 : sizeTy Tryz.prog 31 = some 1 := by kernel_rfl
theorem b_50 : hasBody Tryz.prog 50 = true := by kernel_rfl
theorem f_34_2 : fieldOff Tryz.prog 34 2 = some 2 := by kernel_rfl
theorem z_32 : sizeTy Tryz.prog 32 = some 1 := by kernel_rfl
theorem a_34 : aggTy Tryz.prog 34 = some 3 := by kernel_rfl
theorem z_34 : sizeTy Tryz.prog 34 = some 3 := by kernel_rfl
theorem o_31 : oneTy Tryz.prog 31 = true := by kernel_rfl
theorem b_57 : hasBody Tryz.prog 57 = true := by kernel_rfl
theorem o_32 : oneTy Tryz.prog 32 = true := by kernel_rfl
theorem b_58 : hasBody Tryz.prog 58 = true := by kernel_rfl
theorem f_37_0 : fieldOff Tryz.prog 37 0 = some 0 := by kernel_rfl
theorem b_17 : hasBody Tryz.prog 17 = true := by kernel_rfl
theorem f_37_1 : fieldOff Tryz.prog 37 1 = some 3 := by kernel_rfl
theorem o_3 : oneTy Tryz.prog 3 = true := by kernel_rfl
theorem f_37_2 : fieldOff Tryz.prog 37 2 = some 4 := by kernel_rfl
theorem o_35 : oneTy Tryz.prog 35 = true := by kernel_rfl
theorem b_54 : hasBody Tryz.prog 54 = true := by kernel_rfl
theorem f_37_3 : fieldOff Tryz.prog 37 3 = some 5 := by kernel_rfl
theorem f_37_4 : fieldOff Tryz.prog 37 4 = some 6 := by kernel_rfl
theorem b_59 : hasBody Tryz.prog 59 = true := by kernel_rfl
theorem f_70_0 : fieldOff Tryz.prog 70 0 = some 0 := by kernel_rfl
theorem f_70_1 : fieldOff Tryz.prog 70 1 = some 1 := by kernel_rfl
theorem o_58 : oneTy Tryz.prog 58 = true := by kernel_rfl
theorem b_62 : hasBody Tryz.prog 62 = true := by kernel_rfl
theorem b_144 : hasBody Tryz.prog 144 = true := by kernel_rfl
theorem b_63 : hasBody Tryz.prog 63 = true := by kernel_rfl
theorem b_64 : hasBody Tryz.prog 64 = true := by kernel_rfl
theorem b_118 : hasBody Tryz.prog 118 = true := by kernel_rfl
theorem b_119 : hasBody Tryz.prog 119 = true := by kernel_rfl
theorem b_20 : hasBody Tryz.prog 20 = true := by kernel_rfl
theorem b_65 : hasBody Tryz.prog 65 = true := by kernel_rfl
theorem b_66 : hasBody Tryz.prog 66 = true := by kernel_rfl
theorem b_67 : hasBody Tryz.prog 67 = true := by kernel_rfl
open Go.Sy.Bel1 Go.Sy.Bel3 Go.Sy.Ev1 Go.Sy.Ev2 Go.Sy.Ev3 Go.Sy.Fmt1 Go.Sy.Eng1 Go.Sy.Eng2 Go.Sy.Eng3 Go.Sy.Eng5 Go.Sy.Num1 Go.Sy.Num2
theorem laws_szPair (w : World) (c_a : List Value) (a : Pair) (left : Int) (h_a : Gd.rd w c_a a) (h0 : 0 ≤ left) (h1 : left ≤ 1048576) (ho : okPair a) : Calls Tryz.prog 97 [(.agg c_a.toArray), (.int .i64 left)].toArray w (Val w (.int .i64 (szm (szPair a) left))) := by
 obtain ⟨rfl⟩ := open_Pair h_a
 have ho1 : a.Var.size ≤ 9223372036854775807 := ho.1
 have ho2 : a.Value.size ≤ 9223372036854775807 := ho.2
 refine enter 20 Tryz.func97 rfl rfl rfl (C_seq (C_reg (li rfl (D_box rfl rfl rfl rfl rfl fun g1 => ?_))))
 refine p1 rfl (D_end (x_then (D_H ([bx g1 [(.string a.Var), (.string a.Value)]]) rfl (C_seq (C_reg (p1 rfl (q1 rfl (D_fb f_138_0 rfl rfl (q := 0) rfl) (q1 rfl (lb 0 o_9 rfl rfl rfl rfl) (q1 rfl (D_lens us_9 rfl rfl) (q1 rfl (D_sub rfl rfl rfl rfl (by omega)) (p1 rfl ?_)))))))))))
 refine D_end (x_then (C_seq (C_seq (C_reg (p1 rfl <| p1 rfl (D_end (x_then (C_if _ rfl (fun h2 => ?_) (fun h2 => ?_)))))))))
 ·have pr2 : ((left - ((a.Var.size : Nat) : Int)) : Int) < 0 := of_decide_eq_true h2
  refine C_seq (C_reg (p1 rfl (D_end (x_then (C_ret (x_then_ret (Ri rfl rfl ?_)))))))
  show ((-1) : Int) = _
  unfold szPair szm at *; repeat (split at * <;> try omega)
 ·have pr2 : ¬ ((left - ((a.Var.size : Nat) : Int)) : Int) < 0 := of_decide_eq_false h2
  refine C_skip (x_then (C_seq (C_reg (p1 rfl (q1 rfl (D_fb f_138_1 rfl rfl (q := 1) rfl) (q1 rfl (lb 0 o_9 rfl rfl rfl rfl) (q1 rfl (D_lens us_9 rfl rfl) (q1 rfl (D_sub rfl rfl rfl rfl (by omega)) (p1 rfl (D_end (x_then ?_)))))))))))
  refine D_weak [(1, (.int .i64 ((left - ((a.Var.size : Nat) : Int)) - ((a.Value.size : Nat) : Int))))] ⟨rfl, trivial⟩ (D_sel (H' := []) [false] rfl (C_seq (C_seq (C_reg (p1 rfl <| p1 rfl (D_end (x_then (C_if _ rfl (fun h3 => ?_) (fun h3 => ?_)))))))))
  ·have pr3 : (((left - ((a.Var.size : Nat) : Int)) - ((a.Value.size : Nat) : Int)) : Int) < 0 := of_decide_eq_true h3
   refine C_seq (C_reg (p1 rfl (D_end (x_then (C_ret (x_then_ret (Ri rfl rfl ?_)))))))
   show ((-1) : Int) = _
   unfold szPair szm at *; repeat (split at * <;> try omega)
  ·have pr3 : ¬ (((left - ((a.Var.size : Nat) : Int)) - ((a.Value.size : Nat) : Int)) : Int) < 0 := of_decide_eq_false h3
   refine C_skip (x_then (C_seq (C_reg (p1 rfl <| p1 rfl (D_end (x_then (C_ret (Ri rfl rfl ?_))))))))
   show (((left - ((a.Var.size : Nat) : Int)) - ((a.Value.size : Nat) : Int)) : Int) = _
   unfold szPair szm at *; repeat (split at * <;> try omega)

theorem laws_toPair (w : World) (c_a : List Value) (a : Pair) (h_a : Gd.rd w c_a a) (hn : szPair a ≤ 1048576) : Calls Tryz.prog 107 [(.agg c_a.toArray)].toArray w (Res w (a : Pair)) := by
 obtain ⟨rfl⟩ := open_Pair h_a
 unfold szPair at hn
 refine enter 11 Tryz.func107 rfl rfl rfl (C_seq (C_reg (li rfl (D_box rfl rfl rfl rfl rfl fun g1 => ?_))))
 refine li rfl (D_alloc y_151 rfl rfl rfl rfl fun g2 => ?_)
 refine D_end (x_then (D_H ([bx g2 [(.string ⟨#[]⟩), (.string ⟨#[]⟩)], bx g1 [(.string a.Var), (.string a.Value)]]) rfl (C_seq (C_reg (li rfl (D_alloc y_151 rfl rfl rfl rfl fun g3 => ?_))))))
 refine D_end (x_then (D_H ([bx g3 [(.string ⟨#[]⟩), (.string ⟨#[]⟩)], bx g2 [(.string ⟨#[]⟩), (.string ⟨#[]⟩)], bx g1 [(.string a.Var), (.string a.Value)]]) rfl (C_seq (C_reg (q1 rfl (D_fb f_138_0 rfl rfl (q := 0) rfl) (q1 rfl (lb 2 o_9 rfl rfl rfl rfl) (q1 rfl (D_fb f_151_0 rfl rfl (q := 0) rfl) (li rfl (D_stb (vs := [(.string a.Var)]) (cs' := [(.string a.Var), (.string ⟨#[]⟩)]) 0 z_9 rfl rfl rfl rfl rfl rfl (ocons rfl onil) (by simp) rfl ?_)))))))))
 refine D_end (x_then (D_H ([bx g3 [(.string a.Var), (.string ⟨#[]⟩)], bx g2 [(.string ⟨#[]⟩), (.string ⟨#[]⟩)], bx g1 [(.string a.Var), (.string a.Value)]]) rfl (C_seq (C_reg (q1 rfl (D_fb f_138_1 rfl rfl (q := 1) rfl) (q1 rfl (lb 2 o_9 rfl rfl rfl rfl) (q1 rfl (D_fb f_151_1 rfl rfl (q := 1) rfl) (li rfl (D_stb (vs := [(.string a.Value)]) (cs' := [(.string a.Var), (.string a.Value)]) 0 z_9 rfl rfl rfl rfl rfl rfl (ocons rfl onil) (by simp) rfl ?_)))))))))
 refine D_end (x_then (D_H ([bx g3 [(.string a.Var), (.string a.Value)], bx g2 [(.string ⟨#[]⟩), (.string ⟨#[]⟩)], bx g1 [(.string a.Var), (.string a.Value)]]) rfl (C_seq (C_reg (q1 rfl (lbw 0 a_151 rfl rfl rfl) (li rfl (D_stb (vs := [(.string a.Var), (.string a.Value)]) (cs' := [(.string a.Var), (.string a.Value)]) 1 z_151 rfl rfl rfl rfl rfl rfl (ocons rfl (ocons rfl onil)) (by simp) rfl ?_)))))))
 refine D_end (x_then (C_ret (pk_Pair (r := (a : Pair)) (R_c 2 a_151 rfl rfl rfl fun w' hs => res_of (k := 0) hs rfl ?_))))
 show (a : Pair) = a
 rfl

theorem laws_eqPair (w : World) (c_a : List Value) (a : Pair) (c_b : List Value) (b : Pair) (h_a : Gd.rd w c_a a) (h_b : Gd.rd w c_b b) : Calls Tryz.prog 117 [(.agg c_a.toArray), (.agg c_b.toArray)].toArray w (Val w (.bool (decide (a = b)))) := by
 obtain ⟨rfl⟩ := open_Pair h_a
 obtain ⟨rfl⟩ := open_Pair h_b
 refine enter 15 Tryz.func117 rfl rfl rfl (C_seq (C_reg (li rfl (D_box rfl rfl rfl rfl rfl fun g1 => ?_))))
 refine li rfl (D_box rfl rfl rfl rfl rfl fun g2 => ?_)
 refine p1 rfl (D_end (x_then (D_H ([bx g2 [(.string b.Var), (.string b.Value)], bx g1 [(.string a.Var), (.string a.Value)]]) rfl (C_seq (C_seq (C_reg (q1 rfl (D_fb f_151_0 rfl rfl (q := 0) rfl) (q1 rfl (lb 1 o_9 rfl rfl rfl rfl) (q1 rfl (D_fb f_151_0 rfl rfl (q := 0) rfl) (q1 rfl (lb 0 o_9 rfl rfl rfl rfl) (q1 rfl (D_neS rfl rfl rfl) ?_)))))))))))
 refine D_end (x_then (C_if _ rfl (fun h3 => ?_) (fun h3 => ?_)))
 ·have pr3 : ¬ (a.Var : ByteArray) = b.Var := of_decide_eq_false (not_t h3)
  refine C_seq (C_reg (p1 rfl (D_end (x_then (C_ret (x_then_ret (Rb rfl rfl ?_)))))))
  cases a; cases b; simp_all
 ·have pr3 : (a.Var : ByteArray) = b.Var := of_decide_eq_true (not_f h3)
  refine C_skip (x_then (C_seq (C_seq (C_reg (q1 rfl (D_fb f_151_1 rfl rfl (q := 1) rfl) (q1 rfl (lb 1 o_9 rfl rfl rfl rfl) (q1 rfl (D_fb f_151_1 rfl rfl (q := 1) rfl) (q1 rfl (lb 0 o_9 rfl rfl rfl rfl) (q1 rfl (D_neS rfl rfl rfl) (D_end (x_then ?_)))))))))))
  refine C_if _ rfl (fun h4 => ?_) (fun h4 => ?_)
  ·have pr4 : ¬ (a.Value : ByteArray) = b.Value := of_decide_eq_false (not_t h4)
   refine C_seq (C_reg (p1 rfl (D_end (x_then (C_ret (x_then_ret (Rb rfl rfl ?_)))))))
   cases a; cases b; simp_all
  ·have pr4 : (a.Value : ByteArray) = b.Value := of_decide_eq_true (not_f h4)
   refine C_skip (x_then (C_seq (C_reg (p1 rfl (D_end (x_then (C_ret (Rb rfl rfl ?_))))))))
   cases a; cases b; simp_all

theorem laws_szFactS (w : World) (v_a : Value) (a : (List Fact)) (left : Int) (h_a : Gd.rd w [v_a] a) (h0 : 0 ≤ left) (h1 : left ≤ 1048576) (ho : okL okFa a) : Calls Tryz.prog 38 [v_a, (.int .i64 left)].toArray w (Val w (.int .i64 (szm (szL szFa a) left))) := by
 have hm1 := rd_max h_a
 refine enter 27 Tryz.func38 rfl rfl rfl (C_seq (C_reg (p1 rfl (D_end (x_then (C_seq (C_reg (p1 rfl <| p1 rfl (q1 rfl (D_len s_24 rfl rfl (rd_sl h_a)) (q1 rfl (D_sub rfl rfl rfl rfl (by omega)) (p1 rfl ?_)))))))))))
 refine D_end (x_then (C_seq (C_seq (C_reg (p1 rfl <| p1 rfl (D_end (x_then (C_if _ rfl (fun h2 => ?_) (fun h2 => ?_)))))))))
 ·have pr2 : ((left - ((a.length : Nat) : Int)) : Int) < 0 := of_decide_eq_true h2
  refine C_seq (C_reg (p1 rfl (D_end (x_then (C_ret (x_then_ret (Ri rfl rfl ?_)))))))
  show ((-1) : Int) = _
  refine (szm_neg ?_).symm; unfold szL; omega
 ·have pr2 : ¬ ((left - ((a.length : Nat) : Int)) : Int) < 0 := of_decide_eq_false h2
  refine C_skip (x_then (C_seq (C_seq (C_reg (p1 rfl (D_end (x_then (C_block (C_loop (fun m_ ac w' => ∃ (k : Nat), ∃ (lf : Int), (k ≤ a.length) ∧ (0 ≤ lf ∧ lf = left - a.length - sumC szFa (a.take k)) ∧ m_ = a.length - k ∧ Fits ac 27 [(0, v_a), (1, (.int .i64 lf)), (5, (.int .i64 ((k : Nat) : Int)))] ∧ St w ([]) w') ?_ ?_)))))))))
  ·refine fun ac w' hf hs => ⟨_, 0, (left - ((a.length : Nat) : Int)), ?_, ?_, rfl, hf.weak ⟨rfl, rfl, rfl, trivial⟩, hs⟩
   ·first | assumption | omega | simp
   ·simp [sumC]; omega
  ·rintro m_ ac w' ⟨k, lf, hk, hl, rfl, hf, hs⟩
   refine D.use ?_ hf hs
   clear hf hs ac w'
   have ht := sumC_take_le a szFa k
   refine C_seq (C_seq (C_reg (p1 rfl <| p1 rfl (q1 rfl (D_len s_24 rfl rfl (rd_sl h_a)) (p1 rfl (D_end (x_then (C_if _ rfl (fun h3 => ?_) (fun h3 => ?_)))))))))
   ·have pr3 : (((k : Nat) : Int) : Int) < ((a.length : Nat) : Int) := of_decide_eq_true h3
    refine C_skip (x_then (C_seq (C_block (C_seq (C_reg (p1 rfl <| p1 rfl ?_))))))
    obtain ⟨r0, hr0⟩ := some_of_lt (l := a) (i := k) (by omega)
    have hro := ho _ (List.mem_of_getElem? hr0)
    have ht1 := sumC_take_le a szFa (k + 1)
    have hst := sumC_take (c := szFa) hr0
    obtain ⟨es4, at5, hr6⟩ := rd_elem (n := 2) rfl h_a hr0
    obtain ⟨u7, rfl, hu8⟩ := open_Fact hr6
    have hm9 := rd_max hu8
    refine q1 rfl (D_ix (l := a) (j := k) s_24 rfl rfl rfl (fun w' hs => (rd_at hs h_a)) rfl (lt_of_some hr0)) (q1 rfl (lra a_60 rfl rfl at5) (p1 rfl (li rfl (cv b_24 rfl rfl rfl rfl (fun w' hs => (laws_szFact w' [(.string r0.Rel), u7] r0 lf (rd_at hs hr6) (by first | assumption | omega | (unfold szm at *; split at * <;> omega)) (by first | assumption | omega | (unfold szm at *; split at * <;> omega)) hro)) ?_))))
    refine p1 rfl (D_end (x_then (C_seq (C_reg (p1 rfl <| p1 rfl (D_end (x_then (C_if _ rfl (fun h10 => ?_) (fun h10 => ?_)))))))))
    ·have pr10 : ((szm (szFa r0) lf) : Int) < 0 := of_decide_eq_true h10
     refine C_seq (C_reg (p1 rfl (D_end (x_then (C_ret (x_blk_ret (x_then_ret (x_then_ret (x_blk_ret (x_then_ret (Ri rfl rfl ?_)))))))))))
     show ((-1) : Int) = _
     refine (szm_neg ?_).symm; unfold szL; unfold szm at *; split at * <;> omega
    ·have pr10 : ¬ ((szm (szFa r0) lf) : Int) < 0 := of_decide_eq_false h10
     have pr10z := szm_val (n := (szFa r0)) (left := lf) pr10
     refine C_skip (x_blk (x_then (C_reg (p1 rfl (q1 rfl (D_add rfl rfl rfl (r := ((k + 1 : Nat) : Int)) (by omega) (by omega)) (p1 rfl (D_end (x_then (fun ac w' hf hs => ⟨_, ?_, k + 1, (szm (szFa r0) lf), ?_, ?_, rfl, hf.weak ⟨rfl, rfl, rfl, trivial⟩, hs⟩)))))))))
     ·omega
     ·first | assumption | omega | simp
     ·rw [hst]; unfold szm at *; split at * <;> omega
   ·have pr3 : ¬ (((k : Nat) : Int) : Int) < ((a.length : Nat) : Int) := of_decide_eq_false h3
    refine C_exit (x_then_exit (x_then_exit (x_blk_eq (x_then (C_seq (C_reg (p1 rfl <| p1 rfl (D_end (x_then (C_ret (Ri rfl rfl ?_)))))))))))
    show (lf : Int) = _
    rw [szm_pos]; all_goals (unfold szL; rw [List.take_of_length_le (by omega)] at hl; omega)

theorem laws_toFactS (w : World) (v_a : Value) (a : (List Fact)) (h_a : Gd.rd w [v_a] a) (hn : szL szFa a ≤ 1048576) : Calls Tryz.prog 49 [v_a].toArray w (Res w (a : List Fact)) := by
 have hm1 := rd_max h_a
 unfold szL at hn
 refine enter 23 Tryz.func49 rfl rfl rfl (C_seq (C_reg (p1 rfl (D_end (x_then (C_seq (C_reg (p1 rfl (q1 rfl (D_len s_24 rfl rfl (rd_sl h_a)) (li rfl (D_mkG (α := Fact) (z0 := z0_Fact) s_31 y_70 rfl rfl rfl rfl rfl rfl zz_Fact (by omega) (by omega) fun v2 => ?_)))))))))))
 refine p1 rfl (D_end (x_then (D_H ([ov [v2] (List.replicate a.length z0_Fact : (List Fact))]) rfl (C_seq (C_seq (C_reg (p1 rfl (D_end (x_then (C_block (C_loop (fun m_ ac w' => ∃ (k : Nat), ∃ (v : Value), (k ≤ a.length) ∧ m_ = a.length - k ∧ Fits ac 23 [(0, v_a), (3, v), (4, (.int .i64 ((k : Nat) : Int)))] ∧ St w ([ov [v] (cp a z0_Fact k : (List Fact))]) w') ?_ ?_)))))))))))
 ·refine D_eq 0 rfl (show (List.replicate a.length z0_Fact : (List Fact)) = cp a z0_Fact 0 from by rw [cp_zero]) (fun ac w' hf hs => ⟨_, 0, v2, ?_, rfl, hf.weak ⟨rfl, rfl, rfl, trivial⟩, hs⟩)
  ·first | assumption | omega | simp
 ·rintro m_ ac w' ⟨k, v, hk, rfl, hf, hs⟩
  refine D.use ?_ hf hs
  clear hf hs ac w'
  have hcl := cp_len a z0_Fact k hk
  refine C_seq (C_seq (C_reg (p1 rfl <| p1 rfl (q1 rfl (D_len s_24 rfl rfl (rd_sl h_a)) (p1 rfl (D_end (x_then (D_H ([ov [v] (cp a z0_Fact k : (List Fact))]) rfl (C_if _ rfl (fun h3 => ?_) (fun h3 => ?_))))))))))
  ·have pr3 : (((k : Nat) : Int) : Int) < ((a.length : Nat) : Int) := of_decide_eq_true h3
   refine C_skip (x_then (C_seq (C_block (C_reg (p1 rfl <| p1 rfl <| p1 rfl <| p1 rfl ?_)))))
   obtain ⟨x4, hx5⟩ := some_of_lt (l := a) (i := k) (by omega)
   have hle := sumC_mem (c := szFa) (mem_idx hx5)
   obtain ⟨es6, at7, hr8⟩ := rd_elem (n := 2) rfl h_a hx5
   obtain ⟨u9, rfl, hu10⟩ := open_Fact hr8
   have hm11 := rd_max hu10
   refine q1 rfl (D_ix (l := a) (j := k) s_24 rfl rfl rfl (fun w' hs => (rd_at hs h_a)) rfl (lt_of_some hx5)) (q1 rfl (lra a_60 rfl rfl at7) (li rfl (crs rfl b_27 rfl rfl rfl rfl (fun w' hs => (laws_toFact w' [(.string x4.Rel), u9] x4 (rd_at hs hr8) (by first | assumption | omega | (unfold szm at *; split at * <;> omega)))) fun cs12 => ?_)))
   refine D_pre (fun w' hs => shape_Fact (rd_own (k := 0) hs rfl)) ?_
   rintro ⟨v13, rfl, ho14⟩
   obtain ⟨x15, hx16⟩ := some_of_lt (l := (cp a z0_Fact k)) (i := k) (by omega)
   refine q1 rfl (D_ix (l := (cp a z0_Fact k)) (j := k) s_31 rfl rfl rfl (fun w' hs => (rd_own (k := 1) hs rfl)) rfl (lt_of_some hx16)) (D_pk (H' := [ov [v] (cp a z0_Fact k : (List Fact)), ov [(.string x4.Rel), v13] (x4 : Fact)]) [1, 0] rfl rfl (li rfl (soG (α := Fact) rfl z_70 rfl rfl rfl rfl rfl (lt_of_some hx16) ?_)))
   refine D_end (x_blk (x_then (D_H ([ov [v] ((cp a z0_Fact k).set k x4 : (List Fact))]) rfl (C_reg (p1 rfl (q1 rfl (D_add rfl rfl rfl (r := ((k + 1 : Nat) : Int)) (by omega) (by omega)) (p1 rfl (D_end (x_then (D_eq 0 rfl (show ((cp a z0_Fact k).set k x4 : (List Fact)) = cp a z0_Fact (k + 1) from by rw [cp_set (by assumption)]) (fun ac w' hf hs => ⟨_, ?_, k + 1, v, ?_, rfl, hf.weak ⟨rfl, rfl, rfl, trivial⟩, hs⟩)))))))))))
   ·omega
   ·first | assumption | omega | simp
  ·have pr3 : ¬ (((k : Nat) : Int) : Int) < ((a.length : Nat) : Int) := of_decide_eq_false h3
   refine C_exit (x_then_exit (x_then_exit (x_blk_eq (x_then (C_seq (C_reg (p1 rfl <| p1 rfl (D_end (x_then (C_ret (R_1 rfl rfl fun w' hs => res_of (k := 0) hs rfl ?_)))))))))))
   show cp a z0_Fact k = a
   exact cp_done (by omega)

theorem laws_eqFactS (w : World) (v_a : Value) (a : (List Fact)) (v_b : Value) (b : (List Fact)) (h_a : Gd.rd w [v_a] a) (h_b : Gd.rd w [v_b] b) : Calls Tryz.prog 57 [v_a, v_b].toArray w (Val w (.bool (decide (a = b)))) := by
 have hm1 := rd_max h_a
 have hm2 := rd_max h_b
 refine enter 27 Tryz.func57 rfl rfl rfl (C_seq (C_reg (p1 rfl (D_end (x_then (C_seq (C_seq (C_reg (p1 rfl (q1 rfl (D_len s_31 rfl rfl (rd_sl h_a)) (p1 rfl ?_)))))))))))
 refine q1 rfl (D_len s_31 rfl rfl (rd_sl h_b)) (p1 rfl (D_end (x_then (C_if _ rfl (fun h3 => ?_) (fun h3 => ?_)))))
 ·have pr3 : (((a.length : Nat) : Int) : Int) ≠ ((b.length : Nat) : Int) := bne_iff_ne.1 h3
  refine C_seq (C_reg (p1 rfl (D_end (x_then (C_ret (x_then_ret (Rb rfl rfl ?_)))))))
  simp; intro e; subst e; simp_all
 ·have pr3 : (((a.length : Nat) : Int) : Int) = ((b.length : Nat) : Int) := eq_of_bne_f h3
  refine C_skip (x_then (C_seq (C_seq (C_reg (p1 rfl (D_end (x_then (C_block (C_loop (fun m_ ac w' => ∃ (k : Nat), (k ≤ a.length) ∧ (∀ i, i < k → a[i]? = b[i]?) ∧ m_ = a.length - k ∧ Fits ac 27 [(0, v_a), (1, v_b), (5, (.int .i64 ((k : Nat) : Int)))] ∧ St w ([]) w') ?_ ?_)))))))))
  ·refine fun ac w' hf hs => ⟨_, 0, ?_, ?_, rfl, hf.weak ⟨rfl, rfl, rfl, trivial⟩, hs⟩
   ·first | assumption | omega | simp
   ·intro i hi; omega
  ·rintro m_ ac w' ⟨k, hk, hi, rfl, hf, hs⟩
   refine D.use ?_ hf hs
   clear hf hs ac w'
   refine C_seq (C_seq (C_reg (p1 rfl <| p1 rfl (q1 rfl (D_len s_31 rfl rfl (rd_sl h_a)) (p1 rfl (D_end (x_then (C_if _ rfl (fun h4 => ?_) (fun h4 => ?_)))))))))
   ·have pr4 : (((k : Nat) : Int) : Int) < ((a.length : Nat) : Int) := of_decide_eq_true h4
    refine C_skip (x_then (C_seq (C_block (C_seq (C_draw mixed [8, 9] (by kernel_rfl) (tk 0 rfl (by kernel_rfl) (by kernel_rfl) (by kernel_rfl) rfl (fun _ hs => hs) (rp rfl) (tk 1 rfl (by kernel_rfl) (by kernel_rfl) (by kernel_rfl) rfl (fun _ hs => hs) (rp rfl) ?_)))))))
    obtain ⟨x5, hx6⟩ := some_of_lt (l := a) (i := k) (by omega)
    obtain ⟨es7, at8, hr9⟩ := rd_elem (n := 2) rfl h_a hx6
    obtain ⟨u10, rfl, hu11⟩ := open_Fact hr9
    have hm12 := rd_max hu11
    refine tk 2 rfl (by kernel_rfl) (by kernel_rfl) (by kernel_rfl) rfl (fun _ hs => hs) (D_ix (l := a) (j := k) s_31 rfl rfl rfl (fun w' hs => (rd_at hs h_a)) rfl (lt_of_some hx6)) (tk 3 rfl (by kernel_rfl) (by kernel_rfl) (by kernel_rfl) rfl (fun _ hs => hs) (lra a_70 rfl rfl at8) (tk 4 rfl (by kernel_rfl) (by kernel_rfl) (by kernel_rfl) rfl (fun _ hs => hs) (rp rfl) (tk 5 rfl (by kernel_rfl) (by kernel_rfl) (by kernel_rfl) rfl (fun _ hs => hs) (rp rfl) ?_)))
    obtain ⟨x13, hx14⟩ := some_of_lt (l := b) (i := k) (by omega)
    obtain ⟨es15, at16, hr17⟩ := rd_elem (n := 2) rfl h_b hx14
    obtain ⟨u18, rfl, hu19⟩ := open_Fact hr17
    have hm20 := rd_max hu19
    refine tk 6 rfl (by kernel_rfl) (by kernel_rfl) (by kernel_rfl) rfl (fun _ hs => hs) (D_ix (l := b) (j := k) s_31 rfl rfl rfl (fun w' hs => (rd_at hs h_b)) rfl (lt_of_some hx14)) (tk 7 rfl (by kernel_rfl) (by kernel_rfl) (by kernel_rfl) rfl (fun _ hs => hs) (lra a_70 rfl rfl at16) (ty 8 rfl (by kernel_rfl) rfl (cv b_30 rfl rfl rfl rfl (fun w' hs => (laws_eqFact w' [(.string x5.Rel), u10] x5 [(.string x13.Rel), u18] x13 (rd_at hs hr9) (rd_at hs hr17))) ?_)))
    refine tZ rfl (ty 9 rfl (by kernel_rfl) rfl (sv rfl rfl (rp rfl) ?_))
    refine tZ rfl (tE (by kernel_rfl) (x_then (C_if _ rfl (fun h21 => ?_) (fun h21 => ?_))))
    ·have h21n : (decide (x5 = x13)) = false := not_t h21
     refine C_seq (C_reg (p1 rfl (D_end (x_then (C_ret (x_blk_ret (x_then_ret (x_then_ret (x_blk_ret (x_then_ret (Rb rfl rfl ?_)))))))))))
     simp; intro e; subst e; simp_all
    ·have h21n : (decide (x5 = x13)) = true := not_f h21
     refine C_skip (x_blk (x_then (C_reg (p1 rfl (q1 rfl (D_add rfl rfl rfl (r := ((k + 1 : Nat) : Int)) (by omega) (by omega)) (p1 rfl (D_end (x_then (fun ac w' hf hs => ⟨_, ?_, k + 1, ?_, ?_, rfl, hf.weak ⟨rfl, rfl, rfl, trivial⟩, hs⟩)))))))))
     ·omega
     ·first | assumption | omega | simp
     ·refine idx_step hi (by assumption) (by assumption) ?_; simp_all
   ·have pr4 : ¬ (((k : Nat) : Int) : Int) < ((a.length : Nat) : Int) := of_decide_eq_false h4
    refine C_exit (x_then_exit (x_then_exit (x_blk_eq (x_then (C_seq (C_reg (p1 rfl (D_end (x_then (C_ret (Rb rfl rfl ?_)))))))))))
    simp; exact eq_of_idx (by omega) (fun i h => hi i (by omega))

theorem laws_szPairS (w : World) (v_a : Value) (a : (List Pair)) (left : Int) (h_a : Gd.rd w [v_a] a) (h0 : 0 ≤ left) (h1 : left ≤ 1048576) (ho : okL okPair a) : Calls Tryz.prog 39 [v_a, (.int .i64 left)].toArray w (Val w (.int .i64 (szm (szL szPair a) left))) := by
 have hm1 := rd_max h_a
 refine enter 27 Tryz.func39 rfl rfl rfl (C_seq (C_reg (p1 rfl (D_end (x_then (C_seq (C_reg (p1 rfl <| p1 rfl (q1 rfl (D_len s_25 rfl rfl (rd_sl h_a)) (q1 rfl (D_sub rfl rfl rfl rfl (by omega)) (p1 rfl ?_)))))))))))
 refine D_end (x_then (C_seq (C_seq (C_reg (p1 rfl <| p1 rfl (D_end (x_then (C_if _ rfl (fun h2 => ?_) (fun h2 => ?_)))))))))
 ·have pr2 : ((left - ((a.length : Nat) : Int)) : Int) < 0 := of_decide_eq_true h2
  refine C_seq (C_reg (p1 rfl (D_end (x_then (C_ret (x_then_ret (Ri rfl rfl ?_)))))))
  show ((-1) : Int) = _
  refine (szm_neg ?_).symm; unfold szL; omega
 ·have pr2 : ¬ ((left - ((a.length : Nat) : Int)) : Int) < 0 := of_decide_eq_false h2
  refine C_skip (x_then (C_seq (C_seq (C_reg (p1 rfl (D_end (x_then (C_block (C_loop (fun m_ ac w' => ∃ (k : Nat), ∃ (lf : Int), (k ≤ a.length) ∧ (0 ≤ lf ∧ lf = left - a.length - sumC szPair (a.take k)) ∧ m_ = a.length - k ∧ Fits ac 27 [(0, v_a), (1, (.int .i64 lf)), (5, (.int .i64 ((k : Nat) : Int)))] ∧ St w ([]) w') ?_ ?_)))))))))
  ·refine fun ac w' hf hs => ⟨_, 0, (left - ((a.length : Nat) : Int)), ?_, ?_, rfl, hf.weak ⟨rfl, rfl, rfl, trivial⟩, hs⟩
   ·first | assumption | omega | simp
   ·simp [sumC]; omega
  ·rintro m_ ac w' ⟨k, lf, hk, hl, rfl, hf, hs⟩
   refine D.use ?_ hf hs
   clear hf hs ac w'
   have ht := sumC_take_le a szPair k
   refine C_seq (C_seq (C_reg (p1 rfl <| p1 rfl (q1 rfl (D_len s_25 rfl rfl (rd_sl h_a)) (p1 rfl (D_end (x_then (C_if _ rfl (fun h3 => ?_) (fun h3 => ?_)))))))))
   ·have pr3 : (((k : Nat) : Int) : Int) < ((a.length : Nat) : Int) := of_decide_eq_true h3
    refine C_skip (x_then (C_seq (C_block (C_seq (C_reg (p1 rfl <| p1 rfl ?_))))))
    obtain ⟨r0, hr0⟩ := some_of_lt (l := a) (i := k) (by omega)
    have hro := ho _ (List.mem_of_getElem? hr0)
    have ht1 := sumC_take_le a szPair (k + 1)
    have hst := sumC_take (c := szPair) hr0
    obtain ⟨es4, at5, hr6⟩ := rd_elem (n := 2) rfl h_a hr0
    obtain ⟨rfl⟩ := open_Pair hr6
    refine q1 rfl (D_ix (l := a) (j := k) s_25 rfl rfl rfl (fun w' hs => (rd_at hs h_a)) rfl (lt_of_some hr0)) (q1 rfl (lra a_138 rfl rfl at5) (p1 rfl (li rfl (cv b_97 rfl rfl rfl rfl (fun w' hs => (laws_szPair w' [(.string r0.Var), (.string r0.Value)] r0 lf (rd_at hs hr6) (by first | assumption | omega | (unfold szm at *; split at * <;> omega)) (by first | assumption | omega | (unfold szm at *; split at * <;> omega)) hro)) ?_))))
    refine p1 rfl (D_end (x_then (C_seq (C_reg (p1 rfl <| p1 rfl (D_end (x_then (C_if _ rfl (fun h7 => ?_) (fun h7 => ?_)))))))))
    ·have pr7 : ((szm (szPair r0) lf) : Int) < 0 := of_decide_eq_true h7
     refine C_seq (C_reg (p1 rfl (D_end (x_then (C_ret (x_blk_ret (x_then_ret (x_then_ret (x_blk_ret (x_then_ret (Ri rfl rfl ?_)))))))))))
     show ((-1) : Int) = _
     refine (szm_neg ?_).symm; unfold szL; unfold szm at *; split at * <;> omega
    ·have pr7 : ¬ ((szm (szPair r0) lf) : Int) < 0 := of_decide_eq_false h7
     have pr7z := szm_val (n := (szPair r0)) (left := lf) pr7
     refine C_skip (x_blk (x_then (C_reg (p1 rfl (q1 rfl (D_add rfl rfl rfl (r := ((k + 1 : Nat) : Int)) (by omega) (by omega)) (p1 rfl (D_end (x_then (fun ac w' hf hs => ⟨_, ?_, k + 1, (szm (szPair r0) lf), ?_, ?_, rfl, hf.weak ⟨rfl, rfl, rfl, trivial⟩, hs⟩)))))))))
     ·omega
     ·first | assumption | omega | simp
     ·rw [hst]; unfold szm at *; split at * <;> omega
   ·have pr3 : ¬ (((k : Nat) : Int) : Int) < ((a.length : Nat) : Int) := of_decide_eq_false h3
    refine C_exit (x_then_exit (x_then_exit (x_blk_eq (x_then (C_seq (C_reg (p1 rfl <| p1 rfl (D_end (x_then (C_ret (Ri rfl rfl ?_)))))))))))
    show (lf : Int) = _
    rw [szm_pos]; all_goals (unfold szL; rw [List.take_of_length_le (by omega)] at hl; omega)

theorem laws_toPairS (w : World) (v_a : Value) (a : (List Pair)) (h_a : Gd.rd w [v_a] a) (hn : szL szPair a ≤ 1048576) : Calls Tryz.prog 50 [v_a].toArray w (Res w (a : List Pair)) := by
 have hm1 := rd_max h_a
 unfold szL at hn
 refine enter 23 Tryz.func50 rfl rfl rfl (C_seq (C_reg (p1 rfl (D_end (x_then (C_seq (C_reg (p1 rfl (q1 rfl (D_len s_25 rfl rfl (rd_sl h_a)) (li rfl (D_mkG (α := Pair) (z0 := z0_Pair) s_32 y_151 rfl rfl rfl rfl rfl rfl zz_Pair (by omega) (by omega) fun v2 => ?_)))))))))))
 refine p1 rfl (D_end (x_then (D_H ([ov [v2] (List.replicate a.length z0_Pair : (List Pair))]) rfl (C_seq (C_seq (C_reg (p1 rfl (D_end (x_then (C_block (C_loop (fun m_ ac w' => ∃ (k : Nat), ∃ (v : Value), (k ≤ a.length) ∧ m_ = a.length - k ∧ Fits ac 23 [(0, v_a), (3, v), (4, (.int .i64 ((k : Nat) : Int)))] ∧ St w ([ov [v] (cp a z0_Pair k : (List Pair))]) w') ?_ ?_)))))))))))
 ·refine D_eq 0 rfl (show (List.replicate a.length z0_Pair : (List Pair)) = cp a z0_Pair 0 from by rw [cp_zero]) (fun ac w' hf hs => ⟨_, 0, v2, ?_, rfl, hf.weak ⟨rfl, rfl, rfl, trivial⟩, hs⟩)
  ·first | assumption | omega | simp
 ·rintro m_ ac w' ⟨k, v, hk, rfl, hf, hs⟩
  refine D.use ?_ hf hs
  clear hf hs ac w'
  have hcl := cp_len a z0_Pair k hk
  refine C_seq (C_seq (C_reg (p1 rfl <| p1 rfl (q1 rfl (D_len s_25 rfl rfl (rd_sl h_a)) (p1 rfl (D_end (x_then (D_H ([ov [v] (cp a z0_Pair k : (List Pair))]) rfl (C_if _ rfl (fun h3 => ?_) (fun h3 => ?_))))))))))
  ·have pr3 : (((k : Nat) : Int) : Int) < ((a.length : Nat) : Int) := of_decide_eq_true h3
   refine C_skip (x_then (C_seq (C_block (C_reg (p1 rfl <| p1 rfl <| p1 rfl <| p1 rfl ?_)))))
   obtain ⟨x4, hx5⟩ := some_of_lt (l := a) (i := k) (by omega)
   have hle := sumC_mem (c := szPair) (mem_idx hx5)
   obtain ⟨es6, at7, hr8⟩ := rd_elem (n := 2) rfl h_a hx5
   obtain ⟨rfl⟩ := open_Pair hr8
   refine q1 rfl (D_ix (l := a) (j := k) s_25 rfl rfl rfl (fun w' hs => (rd_at hs h_a)) rfl (lt_of_some hx5)) (q1 rfl (lra a_138 rfl rfl at7) (li rfl (crs rfl b_107 rfl rfl rfl rfl (fun w' hs => (laws_toPair w' [(.string x4.Var), (.string x4.Value)] x4 (rd_at hs hr8) (by first | assumption | omega | (unfold szm at *; split at * <;> omega)))) fun cs9 => ?_)))
   refine D_pre (fun w' hs => shape_Pair (rd_own (k := 0) hs rfl)) ?_
   rintro ⟨rfl⟩
   obtain ⟨x10, hx11⟩ := some_of_lt (l := (cp a z0_Pair k)) (i := k) (by omega)
   refine q1 rfl (D_ix (l := (cp a z0_Pair k)) (j := k) s_32 rfl rfl rfl (fun w' hs => (rd_own (k := 1) hs rfl)) rfl (lt_of_some hx11)) (D_pk (H' := [ov [v] (cp a z0_Pair k : (List Pair)), ov [(.string x4.Var), (.string x4.Value)] (x4 : Pair)]) [1, 0] rfl rfl (li rfl (soG (α := Pair) rfl z_151 rfl rfl rfl rfl rfl (lt_of_some hx11) ?_)))
   refine D_end (x_blk (x_then (D_H ([ov [v] ((cp a z0_Pair k).set k x4 : (List Pair))]) rfl (C_reg (p1 rfl (q1 rfl (D_add rfl rfl rfl (r := ((k + 1 : Nat) : Int)) (by omega) (by omega)) (p1 rfl (D_end (x_then (D_eq 0 rfl (show ((cp a z0_Pair k).set k x4 : (List Pair)) = cp a z0_Pair (k + 1) from by rw [cp_set (by assumption)]) (fun ac w' hf hs => ⟨_, ?_, k + 1, v, ?_, rfl, hf.weak ⟨rfl, rfl, rfl, trivial⟩, hs⟩)))))))))))
   ·omega
   ·first | assumption | omega | simp
  ·have pr3 : ¬ (((k : Nat) : Int) : Int) < ((a.length : Nat) : Int) := of_decide_eq_false h3
   refine C_exit (x_then_exit (x_then_exit (x_blk_eq (x_then (C_seq (C_reg (p1 rfl <| p1 rfl (D_end (x_then (C_ret (R_1 rfl rfl fun w' hs => res_of (k := 0) hs rfl ?_)))))))))))
   show cp a z0_Pair k = a
   exact cp_done (by omega)

theorem laws_eqPairS (w : World) (v_a : Value) (a : (List Pair)) (v_b : Value) (b : (List Pair)) (h_a : Gd.rd w [v_a] a) (h_b : Gd.rd w [v_b] b) : Calls Tryz.prog 58 [v_a, v_b].toArray w (Val w (.bool (decide (a = b)))) := by
 have hm1 := rd_max h_a
 have hm2 := rd_max h_b
 refine enter 27 Tryz.func58 rfl rfl rfl (C_seq (C_reg (p1 rfl (D_end (x_then (C_seq (C_seq (C_reg (p1 rfl (q1 rfl (D_len s_32 rfl rfl (rd_sl h_a)) (p1 rfl ?_)))))))))))
 refine q1 rfl (D_len s_32 rfl rfl (rd_sl h_b)) (p1 rfl (D_end (x_then (C_if _ rfl (fun h3 => ?_) (fun h3 => ?_)))))
 ·have pr3 : (((a.length : Nat) : Int) : Int) ≠ ((b.length : Nat) : Int) := bne_iff_ne.1 h3
  refine C_seq (C_reg (p1 rfl (D_end (x_then (C_ret (x_then_ret (Rb rfl rfl ?_)))))))
  simp; intro e; subst e; simp_all
 ·have pr3 : (((a.length : Nat) : Int) : Int) = ((b.length : Nat) : Int) := eq_of_bne_f h3
  refine C_skip (x_then (C_seq (C_seq (C_reg (p1 rfl (D_end (x_then (C_block (C_loop (fun m_ ac w' => ∃ (k : Nat), (k ≤ a.length) ∧ (∀ i, i < k → a[i]? = b[i]?) ∧ m_ = a.length - k ∧ Fits ac 27 [(0, v_a), (1, v_b), (5, (.int .i64 ((k : Nat) : Int)))] ∧ St w ([]) w') ?_ ?_)))))))))
  ·refine fun ac w' hf hs => ⟨_, 0, ?_, ?_, rfl, hf.weak ⟨rfl, rfl, rfl, trivial⟩, hs⟩
   ·first | assumption | omega | simp
   ·intro i hi; omega
  ·rintro m_ ac w' ⟨k, hk, hi, rfl, hf, hs⟩
   refine D.use ?_ hf hs
   clear hf hs ac w'
   refine C_seq (C_seq (C_reg (p1 rfl <| p1 rfl (q1 rfl (D_len s_32 rfl rfl (rd_sl h_a)) (p1 rfl (D_end (x_then (C_if _ rfl (fun h4 => ?_) (fun h4 => ?_)))))))))
   ·have pr4 : (((k : Nat) : Int) : Int) < ((a.length : Nat) : Int) := of_decide_eq_true h4
    refine C_skip (x_then (C_seq (C_block (C_seq (C_draw mixed [8, 9] (by kernel_rfl) (tk 0 rfl (by kernel_rfl) (by kernel_rfl) (by kernel_rfl) rfl (fun _ hs => hs) (rp rfl) (tk 1 rfl (by kernel_rfl) (by kernel_rfl) (by kernel_rfl) rfl (fun _ hs => hs) (rp rfl) ?_)))))))
    obtain ⟨x5, hx6⟩ := some_of_lt (l := a) (i := k) (by omega)
    obtain ⟨es7, at8, hr9⟩ := rd_elem (n := 2) rfl h_a hx6
    obtain ⟨rfl⟩ := open_Pair hr9
    refine tk 2 rfl (by kernel_rfl) (by kernel_rfl) (by kernel_rfl) rfl (fun _ hs => hs) (D_ix (l := a) (j := k) s_32 rfl rfl rfl (fun w' hs => (rd_at hs h_a)) rfl (lt_of_some hx6)) (tk 3 rfl (by kernel_rfl) (by kernel_rfl) (by kernel_rfl) rfl (fun _ hs => hs) (lra a_151 rfl rfl at8) (tk 4 rfl (by kernel_rfl) (by kernel_rfl) (by kernel_rfl) rfl (fun _ hs => hs) (rp rfl) (tk 5 rfl (by kernel_rfl) (by kernel_rfl) (by kernel_rfl) rfl (fun _ hs => hs) (rp rfl) ?_)))
    obtain ⟨x10, hx11⟩ := some_of_lt (l := b) (i := k) (by omega)
    obtain ⟨es12, at13, hr14⟩ := rd_elem (n := 2) rfl h_b hx11
    obtain ⟨rfl⟩ := open_Pair hr14
    refine tk 6 rfl (by kernel_rfl) (by kernel_rfl) (by kernel_rfl) rfl (fun _ hs => hs) (D_ix (l := b) (j := k) s_32 rfl rfl rfl (fun w' hs => (rd_at hs h_b)) rfl (lt_of_some hx11)) (tk 7 rfl (by kernel_rfl) (by kernel_rfl) (by kernel_rfl) rfl (fun _ hs => hs) (lra a_151 rfl rfl at13) (ty 8 rfl (by kernel_rfl) rfl (cv b_117 rfl rfl rfl rfl (fun w' hs => (laws_eqPair w' [(.string x5.Var), (.string x5.Value)] x5 [(.string x10.Var), (.string x10.Value)] x10 (rd_at hs hr9) (rd_at hs hr14))) ?_)))
    refine tZ rfl (ty 9 rfl (by kernel_rfl) rfl (sv rfl rfl (rp rfl) ?_))
    refine tZ rfl (tE (by kernel_rfl) (x_then (C_if _ rfl (fun h15 => ?_) (fun h15 => ?_))))
    ·have h15n : (decide (x5 = x10)) = false := not_t h15
     refine C_seq (C_reg (p1 rfl (D_end (x_then (C_ret (x_blk_ret (x_then_ret (x_then_ret (x_blk_ret (x_then_ret (Rb rfl rfl ?_)))))))))))
     simp; intro e; subst e; simp_all
    ·have h15n : (decide (x5 = x10)) = true := not_f h15
     refine C_skip (x_blk (x_then (C_reg (p1 rfl (q1 rfl (D_add rfl rfl rfl (r := ((k + 1 : Nat) : Int)) (by omega) (by omega)) (p1 rfl (D_end (x_then (fun ac w' hf hs => ⟨_, ?_, k + 1, ?_, ?_, rfl, hf.weak ⟨rfl, rfl, rfl, trivial⟩, hs⟩)))))))))
     ·omega
     ·first | assumption | omega | simp
     ·refine idx_step hi (by assumption) (by assumption) ?_; simp_all
   ·have pr4 : ¬ (((k : Nat) : Int) : Int) < ((a.length : Nat) : Int) := of_decide_eq_false h4
    refine C_exit (x_then_exit (x_then_exit (x_blk_eq (x_then (C_seq (C_reg (p1 rfl (D_end (x_then (C_ret (Rb rfl rfl ?_)))))))))))
    simp; exact eq_of_idx (by omega) (fun i h => hi i (by omega))

theorem laws_szMatch (w : World) (c_a : List Value) (a : Match) (left : Int) (h_a : Gd.rd w c_a a) (h0 : 0 ≤ left) (h1 : left ≤ 1048576) (ho : okMatch a) : Calls Tryz.prog 8 [(.agg c_a.toArray), (.int .i64 left)].toArray w (Val w (.int .i64 (szm (szMatch a) left))) := by
 obtain ⟨u1, u3, rfl, hu2, hu4⟩ := open_Match h_a
 have hm5 := rd_max hu2
 have hm6 := rd_max hu4
 have ho1 : a.Rule.size ≤ 9223372036854775807 := ho.1
 refine enter 25 Tryz.func8 rfl rfl rfl (C_seq (C_reg (li rfl (D_box rfl rfl rfl rfl rfl fun g7 => ?_))))
 refine p1 rfl (D_end (x_then (D_H ([bx g7 [(.string a.Rule), u1, u3]]) rfl (C_seq (C_reg (p1 rfl (q1 rfl (D_fb f_27_0 rfl rfl (q := 0) rfl) (q1 rfl (lb 0 o_9 rfl rfl rfl rfl) (q1 rfl (D_lens us_9 rfl rfl) (q1 rfl (D_sub rfl rfl rfl rfl (by omega)) (p1 rfl ?_)))))))))))
 refine D_end (x_then (C_seq (C_seq (C_reg (p1 rfl <| p1 rfl (D_end (x_then (C_if _ rfl (fun h8 => ?_) (fun h8 => ?_)))))))))
 ·have pr8 : ((left - ((a.Rule.size : Nat) : Int)) : Int) < 0 := of_decide_eq_true h8
  refine C_seq (C_reg (p1 rfl (D_end (x_then (C_ret (x_then_ret (Ri rfl rfl ?_)))))))
  show ((-1) : Int) = _
  unfold szMatch szm at *; repeat (split at * <;> try omega)
 ·have pr8 : ¬ ((left - ((a.Rule.size : Nat) : Int)) : Int) < 0 := of_decide_eq_false h8
  refine C_skip (x_then (C_seq (C_reg (q1 rfl (D_fb f_27_1 rfl rfl (q := 1) rfl) (q1 rfl (lb 0 o_24 rfl rfl rfl rfl) (p1 rfl (li rfl (cv b_38 rfl rfl rfl rfl (fun w' hs => (laws_szFactS w' u1 a.Facts (left - ((a.Rule.size : Nat) : Int)) (rd_at hs hu2) (by first | assumption | omega | (unfold szm at *; split at * <;> omega)) (by first | assumption | omega | (unfold szm at *; split at * <;> omega)) ho.2.1)) ?_))))))))
  refine p1 rfl (D_end (x_then (C_seq (C_seq (C_reg (p1 rfl <| p1 rfl (D_end (x_then (C_if _ rfl (fun h9 => ?_) (fun h9 => ?_))))))))))
  ·have pr9 : ((szm (szL szFa a.Facts) (left - ((a.Rule.size : Nat) : Int))) : Int) < 0 := of_decide_eq_true h9
   refine C_seq (C_reg (p1 rfl (D_end (x_then (C_ret (x_then_ret (Ri rfl rfl ?_)))))))
   show ((-1) : Int) = _
   unfold szMatch szm at *; repeat (split at * <;> try omega)
  ·have pr9 : ¬ ((szm (szL szFa a.Facts) (left - ((a.Rule.size : Nat) : Int))) : Int) < 0 := of_decide_eq_false h9
   have pr9z := szm_val (n := (szL szFa a.Facts)) (left := (left - ((a.Rule.size : Nat) : Int))) pr9
   refine C_skip (x_then (D_weak [(1, (.int .i64 (szm (szL szFa a.Facts) (left - ((a.Rule.size : Nat) : Int))))), (2, (.pointer (some ⟨g7, 0, none⟩)))] ⟨rfl, rfl, trivial⟩ (C_seq (C_reg (q1 rfl (D_fb f_27_2 rfl rfl (q := 2) rfl) (q1 rfl (lb 0 o_25 rfl rfl rfl rfl) (p1 rfl (li rfl (cv b_39 rfl rfl rfl rfl (fun w' hs => (laws_szPairS w' u3 a.Binding (szm (szL szFa a.Facts) (left - ((a.Rule.size : Nat) : Int))) (rd_at hs hu4) (by first | assumption | omega | (unfold szm at *; split at * <;> omega)) (by first | assumption | omega | (unfold szm at *; split at * <;> omega)) ho.2.2)) ?_)))))))))
   refine p1 rfl (D_end (x_then (C_seq (C_seq (C_reg (p1 rfl <| p1 rfl (D_end (x_then (C_if _ rfl (fun h10 => ?_) (fun h10 => ?_))))))))))
   ·have pr10 : ((szm (szL szPair a.Binding) (szm (szL szFa a.Facts) (left - ((a.Rule.size : Nat) : Int)))) : Int) < 0 := of_decide_eq_true h10
    refine C_seq (C_reg (p1 rfl (D_end (x_then (C_ret (x_then_ret (Ri rfl rfl ?_)))))))
    show ((-1) : Int) = _
    unfold szMatch szm at *; repeat (split at * <;> try omega)
   ·have pr10 : ¬ ((szm (szL szPair a.Binding) (szm (szL szFa a.Facts) (left - ((a.Rule.size : Nat) : Int)))) : Int) < 0 := of_decide_eq_false h10
    have pr10z := szm_val (n := (szL szPair a.Binding)) (left := (szm (szL szFa a.Facts) (left - ((a.Rule.size : Nat) : Int)))) pr10
    refine C_skip (x_then (C_seq (C_reg (p1 rfl <| p1 rfl (D_end (x_then (C_ret (Ri rfl rfl ?_))))))))
    show ((szm (szL szPair a.Binding) (szm (szL szFa a.Facts) (left - ((a.Rule.size : Nat) : Int)))) : Int) = _
    unfold szMatch szm at *; repeat (split at * <;> try omega)

theorem laws_toMatch (w : World) (c_a : List Value) (a : Match) (h_a : Gd.rd w c_a a) (hn : szMatch a ≤ 1048576) : Calls Tryz.prog 12 [(.agg c_a.toArray)].toArray w (Res w (a : Match)) := by
 obtain ⟨u1, u3, rfl, hu2, hu4⟩ := open_Match h_a
 have hm5 := rd_max hu2
 have hm6 := rd_max hu4
 unfold szMatch at hn
 refine enter 16 Tryz.func12 rfl rfl rfl (C_seq (C_reg (li rfl (D_box rfl rfl rfl rfl rfl fun g7 => ?_))))
 refine li rfl (D_alloc y_34 rfl rfl rfl rfl fun g8 => ?_)
 refine D_end (x_then (D_H ([bx g8 [(.string ⟨#[]⟩), (.slice none 0 0), (.slice none 0 0)], bx g7 [(.string a.Rule), u1, u3]]) rfl (C_seq (C_reg (li rfl (D_alloc y_34 rfl rfl rfl rfl fun g9 => ?_))))))
 refine D_end (x_then (D_H ([bx g9 [(.string ⟨#[]⟩), (.slice none 0 0), (.slice none 0 0)], bx g8 [(.string ⟨#[]⟩), (.slice none 0 0), (.slice none 0 0)], bx g7 [(.string a.Rule), u1, u3]]) rfl (C_seq (C_reg (q1 rfl (D_fb f_27_0 rfl rfl (q := 0) rfl) (q1 rfl (lb 2 o_9 rfl rfl rfl rfl) (q1 rfl (D_fb f_34_0 rfl rfl (q := 0) rfl) (li rfl (D_stb (vs := [(.string a.Rule)]) (cs' := [(.string a.Rule), (.slice none 0 0), (.slice none 0 0)]) 0 z_9 rfl rfl rfl rfl rfl rfl (ocons rfl onil) (by simp) rfl ?_)))))))))
 refine D_end (x_then (D_H ([bx g9 [(.string a.Rule), (.slice none 0 0), (.slice none 0 0)], bx g8 [(.string ⟨#[]⟩), (.slice none 0 0), (.slice none 0 0)], bx g7 [(.string a.Rule), u1, u3]]) rfl (C_seq (C_reg (q1 rfl (D_fb f_27_1 rfl rfl (q := 1) rfl) (q1 rfl (lb 2 o_24 rfl rfl rfl rfl) (li rfl (crl b_49 rfl rfl rfl rfl (fun w' hs => (laws_toFactS w' u1 a.Facts (rd_at hs hu2) (by first | assumption | omega | (unfold szm at *; split at * <;> omega)))) fun v10 => ?_))))))))
 refine q1 rfl (D_fb f_34_1 rfl rfl (q := 1) rfl) (D_pre (fun w' hs => one_own (k := 0) hs rfl) ?_)
 intro ho11
 refine li rfl (D_stb (vs := [v10]) (cs' := [(.string a.Rule), v10, (.slice none 0 0)]) 1 z_31 rfl rfl rfl rfl rfl (cells_of_one ho11) (ocons ho11 onil) (by simp) rfl ?_)
 refine D_end (x_then (D_H ([ov [v10] (a.Facts : (List Fact)), bx g9 [(.string a.Rule), v10, (.slice none 0 0)], bx g8 [(.string ⟨#[]⟩), (.slice none 0 0), (.slice none 0 0)], bx g7 [(.string a.Rule), u1, u3]]) rfl (C_seq (C_reg (q1 rfl (D_fb f_27_2 rfl rfl (q := 2) rfl) (q1 rfl (lb 3 o_25 rfl rfl rfl rfl) (li rfl (crl b_50 rfl rfl rfl rfl (fun w' hs => (laws_toPairS w' u3 a.Binding (rd_at hs hu4) (by first | assumption | omega | (unfold szm at *; split at * <;> omega)))) fun v12 => ?_))))))))
 refine q1 rfl (D_fb f_34_2 rfl rfl (q := 2) rfl) (D_pre (fun w' hs => one_own (k := 0) hs rfl) ?_)
 intro ho13
 refine li rfl (D_stb (vs := [v12]) (cs' := [(.string a.Rule), v10, v12]) 2 z_32 rfl rfl rfl rfl rfl (cells_of_one ho13) (ocons ho13 onil) (by simp) rfl ?_)
 refine D_end (x_then (D_H ([ov [v12] (a.Binding : (List Pair)), ov [v10] (a.Facts : (List Fact)), bx g9 [(.string a.Rule), v10, v12], bx g8 [(.string ⟨#[]⟩), (.slice none 0 0), (.slice none 0 0)], bx g7 [(.string a.Rule), u1, u3]]) rfl (C_seq (C_reg (q1 rfl (lbw 2 a_34 rfl rfl rfl) (li rfl (D_stb (vs := [(.string a.Rule), v10, v12]) (cs' := [(.string a.Rule), v10, v12]) 3 z_34 rfl rfl rfl rfl rfl rfl (ocons rfl (ocons ho11 (ocons ho13 onil))) (by simp) rfl ?_)))))))
 refine D_end (x_then (C_ret (D_pk (H' := [ov [v10] (a.Facts : (List Fact)), ov [v12] (a.Binding : (List Pair)), bx g9 [(.string a.Rule), v10, v12], bx g8 [(.string a.Rule), v10, v12], bx g7 [(.string a.Rule), u1, u3]]) [1, 0, 2, 3, 4] rfl rfl (pk_Match (r := (a : Match)) (R_c 2 a_34 rfl rfl rfl fun w' hs => res_of (k := 0) hs rfl ?_)))))
 show (a : Match) = a
 rfl

theorem laws_eqMatch (w : World) (c_a : List Value) (a : Match) (c_b : List Value) (b : Match) (h_a : Gd.rd w c_a a) (h_b : Gd.rd w c_b b) : Calls Tryz.prog 17 [(.agg c_a.toArray), (.agg c_b.toArray)].toArray w (Val w (.bool (decide (a = b)))) := by
 obtain ⟨u1, u3, rfl, hu2, hu4⟩ := open_Match h_a
 have hm5 := rd_max hu2
 have hm6 := rd_max hu4
 obtain ⟨u7, u9, rfl, hu8, hu10⟩ := open_Match h_b
 have hm11 := rd_max hu8
 have hm12 := rd_max hu10
 refine enter 22 Tryz.func17 rfl rfl rfl (C_seq (C_reg (li rfl (D_box rfl rfl rfl rfl rfl fun g13 => ?_))))
 refine li rfl (D_box rfl rfl rfl rfl rfl fun g14 => ?_)
 refine p1 rfl (D_end (x_then (D_H ([bx g14 [(.string b.Rule), u7, u9], bx g13 [(.string a.Rule), u1, u3]]) rfl (C_seq (C_seq (C_reg (q1 rfl (D_fb f_34_0 rfl rfl (q := 0) rfl) (q1 rfl (lb 1 o_9 rfl rfl rfl rfl) (q1 rfl (D_fb f_34_0 rfl rfl (q := 0) rfl) (q1 rfl (lb 0 o_9 rfl rfl rfl rfl) (q1 rfl (D_neS rfl rfl rfl) ?_)))))))))))
 refine D_end (x_then (C_if _ rfl (fun h15 => ?_) (fun h15 => ?_)))
 ·have pr15 : ¬ (a.Rule : ByteArray) = b.Rule := of_decide_eq_false (not_t h15)
  refine C_seq (C_reg (p1 rfl (D_end (x_then (C_ret (x_then_ret (Rb rfl rfl ?_)))))))
  cases a; cases b; simp_all
 ·have pr15 : (a.Rule : ByteArray) = b.Rule := of_decide_eq_true (not_f h15)
  refine C_skip (x_then (C_seq (C_seq (C_reg (q1 rfl (D_fb f_34_1 rfl rfl (q := 1) rfl) (q1 rfl (lb 1 o_31 rfl rfl rfl rfl) (q1 rfl (D_fb f_34_1 rfl rfl (q := 1) rfl) (q1 rfl (lb 0 o_31 rfl rfl rfl rfl) (li rfl (cv b_57 rfl rfl rfl rfl (fun w' hs => (laws_eqFactS w' u1 a.Facts u7 b.Facts (rd_at hs hu2) (rd_at hs hu8))) ?_))))))))))
  refine p1 rfl (D_end (x_then (C_if _ rfl (fun h16 => ?_) (fun h16 => ?_))))
  ·have h16n : (decide (a.Facts = b.Facts)) = false := not_t h16
   refine C_seq (C_reg (p1 rfl (D_end (x_then (C_ret (x_then_ret (Rb rfl rfl ?_)))))))
   cases a; cases b; simp_all
  ·have h16n : (decide (a.Facts = b.Facts)) = true := not_f h16
   refine C_skip (x_then (C_seq (C_seq (C_reg (q1 rfl (D_fb f_34_2 rfl rfl (q := 2) rfl) (q1 rfl (lb 1 o_32 rfl rfl rfl rfl) (q1 rfl (D_fb f_34_2 rfl rfl (q := 2) rfl) (q1 rfl (lb 0 o_32 rfl rfl rfl rfl) (li rfl (cv b_58 rfl rfl rfl rfl (fun w' hs => (laws_eqPairS w' u3 a.Binding u9 b.Binding (rd_at hs hu4) (rd_at hs hu10))) ?_))))))))))
   refine p1 rfl (D_end (x_then (D_weak [(21, (.bool (!(decide (a.Binding = b.Binding)))))] ⟨rfl, trivial⟩ (D_sel (H' := []) [false, false] rfl (C_if _ rfl (fun h17 => ?_) (fun h17 => ?_))))))
   ·have h17n : (decide (a.Binding = b.Binding)) = false := not_t h17
    refine C_seq (C_reg (p1 rfl (D_end (x_then (C_ret (x_then_ret (Rb rfl rfl ?_)))))))
    cases a; cases b; simp_all
   ·have h17n : (decide (a.Binding = b.Binding)) = true := not_f h17
    refine C_skip (x_then (C_seq (C_reg (p1 rfl (D_end (x_then (C_ret (Rb rfl rfl ?_))))))))
    cases a; cases b; simp_all

theorem laws_eqChoice (w : World) (c_a : List Value) (a : Choice) (c_b : List Value) (b : Choice) (h_a : Gd.rd w c_a a) (h_b : Gd.rd w c_b b) : Calls Tryz.prog 14 [(.agg c_a.toArray), (.agg c_b.toArray)].toArray w (Val w (.bool (decide (a = b)))) := by
 obtain ⟨u1, u3, u5, rfl, hu2, hu4, hu6⟩ := open_Choice h_a
 have hm7 := rd_max hu2
 have hm8 := rd_max hu4
 have hm9 := rd_max hu6
 have hb10 := sub_Choice_Match h_a
 obtain ⟨u11, u13, u15, rfl, hu12, hu14, hu16⟩ := open_Choice h_b
 have hm17 := rd_max hu12
 have hm18 := rd_max hu14
 have hm19 := rd_max hu16
 have hb20 := sub_Choice_Match h_b
 refine enter 32 Tryz.func14 rfl rfl rfl (C_seq (C_reg (li rfl (D_box rfl rfl rfl rfl rfl fun g21 => ?_))))
 refine li rfl (D_box rfl rfl rfl rfl rfl fun g22 => ?_)
 refine p1 rfl (D_end (x_then (D_H ([bx g22 [(.string b.Match.Rule), u11, u13, (.int .i64 b.Priority), u15, (.int .i64 b.Specific), (.int .i64 b.Order)], bx g21 [(.string a.Match.Rule), u1, u3, (.int .i64 a.Priority), u5, (.int .i64 a.Specific), (.int .i64 a.Order)]]) rfl (C_seq (C_seq (C_reg (q1 rfl (D_fb f_37_0 rfl rfl (q := 0) rfl) (q1 rfl (lba (es := [(.string a.Match.Rule), u1, u3]) 1 a_34 rfl rfl rfl rfl) (q1 rfl (D_fb f_37_0 rfl rfl (q := 0) rfl) (q1 rfl (lba (es := [(.string b.Match.Rule), u11, u13]) 0 a_34 rfl rfl rfl rfl) (li rfl (cv b_17 rfl rfl rfl rfl (fun w' hs => (laws_eqMatch w' [(.string a.Match.Rule), u1, u3] a.Match [(.string b.Match.Rule), u11, u13] b.Match (rd_at hs hb10) (rd_at hs hb20))) ?_))))))))))))
 refine p1 rfl (D_end (x_then (C_if _ rfl (fun h23 => ?_) (fun h23 => ?_))))
 ·have h23n : (decide (a.Match = b.Match)) = false := not_t h23
  refine C_seq (C_reg (p1 rfl (D_end (x_then (C_ret (x_then_ret (Rb rfl rfl ?_)))))))
  cases a; cases b; simp_all
 ·have h23n : (decide (a.Match = b.Match)) = true := not_f h23
  refine C_skip (x_then (C_seq (C_seq (C_reg (q1 rfl (D_fb f_37_1 rfl rfl (q := 3) rfl) (q1 rfl (lb 1 o_3 rfl rfl rfl rfl) (q1 rfl (D_fb f_37_1 rfl rfl (q := 3) rfl) (q1 rfl (lb 0 o_3 rfl rfl rfl rfl) (p1 rfl (D_end (x_then ?_)))))))))))
  refine C_if _ rfl (fun h24 => ?_) (fun h24 => ?_)
  ·have pr24 : (a.Priority : Int) ≠ b.Priority := bne_iff_ne.1 h24
   refine C_seq (C_reg (p1 rfl (D_end (x_then (C_ret (x_then_ret (Rb rfl rfl ?_)))))))
   cases a; cases b; simp_all
  ·have pr24 : (a.Priority : Int) = b.Priority := eq_of_bne_f h24
   refine C_skip (x_then (C_seq (C_seq (C_reg (q1 rfl (D_fb f_37_2 rfl rfl (q := 4) rfl) (q1 rfl (lb 1 o_35 rfl rfl rfl rfl) (q1 rfl (D_fb f_37_2 rfl rfl (q := 4) rfl) (q1 rfl (lb 0 o_35 rfl rfl rfl rfl) (li rfl (cv b_54 rfl rfl rfl rfl (fun w' hs => (laws_eqIntS w' u5 a.Times u15 b.Times (rd_at hs hu6) (rd_at hs hu16))) ?_))))))))))
   refine p1 rfl (D_end (x_then (D_weak [(2, (.pointer (some ⟨g21, 0, none⟩))), (3, (.pointer (some ⟨g22, 0, none⟩))), (21, (.bool (!(decide (a.Times = b.Times)))))] ⟨rfl, rfl, rfl, trivial⟩ (C_if _ rfl (fun h25 => ?_) (fun h25 => ?_)))))
   ·have h25n : (decide (a.Times = b.Times)) = false := not_t h25
    refine C_seq (C_reg (p1 rfl (D_end (x_then (C_ret (x_then_ret (Rb rfl rfl ?_)))))))
    cases a; cases b; simp_all
   ·have h25n : (decide (a.Times = b.Times)) = true := not_f h25
    refine C_skip (x_then (C_seq (C_seq (C_reg (q1 rfl (D_fb f_37_3 rfl rfl (q := 5) rfl) (q1 rfl (lb 1 o_3 rfl rfl rfl rfl) (q1 rfl (D_fb f_37_3 rfl rfl (q := 5) rfl) (q1 rfl (lb 0 o_3 rfl rfl rfl rfl) (p1 rfl (D_end (x_then ?_)))))))))))
    refine C_if _ rfl (fun h26 => ?_) (fun h26 => ?_)
    ·have pr26 : (a.Specific : Int) ≠ b.Specific := bne_iff_ne.1 h26
     refine C_seq (C_reg (p1 rfl (D_end (x_then (C_ret (x_then_ret (Rb rfl rfl ?_)))))))
     cases a; cases b; simp_all
    ·have pr26 : (a.Specific : Int) = b.Specific := eq_of_bne_f h26
     refine C_skip (x_then (C_seq (C_seq (C_reg (q1 rfl (D_fb f_37_4 rfl rfl (q := 6) rfl) (q1 rfl (lb 1 o_3 rfl rfl rfl rfl) (q1 rfl (D_fb f_37_4 rfl rfl (q := 6) rfl) (q1 rfl (lb 0 o_3 rfl rfl rfl rfl) (p1 rfl (D_end (x_then ?_)))))))))))
     refine C_if _ rfl (fun h27 => ?_) (fun h27 => ?_)
     ·have pr27 : (a.Order : Int) ≠ b.Order := bne_iff_ne.1 h27
      refine C_seq (C_reg (p1 rfl (D_end (x_then (C_ret (x_then_ret (Rb rfl rfl ?_)))))))
      cases a; cases b; simp_all
     ·have pr27 : (a.Order : Int) = b.Order := eq_of_bne_f h27
      refine C_skip (x_then (C_seq (C_reg (p1 rfl (D_end (x_then (C_ret (Rb rfl rfl ?_))))))))
      cases a; cases b; simp_all

theorem laws_markFactS (w0 : World) (Hs : List Chunk) (w : World) (v_a : Value) (a : (List Fact)) (k : Int) (h0 : 0 ≤ k) (h1 : k + sumC cFa a ≤ 4611686018427387904) (hst : St w0 (ov [v_a] (a : (List Fact)) :: Hs) w) : Calls Tryz.prog 63 [v_a, (.int .i64 k)].toArray w (fun e w' => e = .returned (.int .i64 (k + sumC cFa a)) ∧ St w0 (ov [v_a] (mapS fFa cFa k a : (List Fact)) :: Hs) w') := by
 have hm1 := rd_max (rd_own (k := 0) hst rfl)
 refine enterS 28 Tryz.func63 rfl rfl rfl hst (C_seq (C_reg (p1 rfl (D_end (x_then (D_H (ov [v_a] (a : (List Fact)) :: Hs) rfl (C_seq (C_seq (C_reg (p1 rfl (D_end ?_)))))))))))
 refine x_then (C_block (C_loop (fun m_ ac w' => ∃ (i : Nat), ∃ (kk : Int), (i ≤ a.length) ∧ (kk = k + sumC cFa (a.take i)) ∧ m_ = a.length - i ∧ Fits ac 28 [(0, v_a), (1, (.int .i64 kk)), (5, (.int .i64 ((i : Nat) : Int)))] ∧ St w0 (ov [v_a] (mapAt fFa cFa k a i : (List Fact)) :: Hs) w') ?_ ?_))
 ·refine D_eq 0 rfl (show (a : (List Fact)) = mapAt fFa cFa k a 0 from by rw [mapAt_zero]) (fun ac w' hf hs => ⟨_, 0, k, ?_, ?_, rfl, hf.weak ⟨rfl, rfl, rfl, trivial⟩, hs⟩)
  ·first | assumption | omega | simp
  ·simp [sumC]
 ·rintro m_ ac w' ⟨i, kk, hi, hk, rfl, hf, hs⟩
  refine D.use ?_ hf hs
  clear hf hs ac w'
  have hcl := mapAt_len (f := fFa) (c := cFa) (k := k) hi
  have htk := sumC_take_le a cFa i
  refine C_seq (C_seq (C_reg (p1 rfl <| p1 rfl (q1 rfl (D_leno 0 s_31 rfl rfl rfl) (p1 rfl (D_end (x_then (D_H (ov [v_a] (mapAt fFa cFa k a i : (List Fact)) :: Hs) rfl (C_if _ rfl (fun h2 => ?_) (fun h2 => ?_))))))))))
  ·have pr2 : (((i : Nat) : Int) : Int) < (((mapAt fFa cFa k a i).length : Nat) : Int) := of_decide_eq_true h2
   refine C_skip (x_then (C_seq (C_block (C_seq (C_reg (p1 rfl <| p1 rfl <| p1 rfl (li rfl (cv b_59 rfl rfl rfl rfl (fun w' hs => (laws_markText w' kk (by first | assumption | omega | (unfold szm at *; split at * <;> omega)))) ?_))))))))
   obtain ⟨x3, hx4⟩ := some_of_lt (l := (mapAt fFa cFa k a i)) (i := i) (by omega)
   refine D_take hx4 fun es5 => ?_
   refine D_pre (fun w' hs => shape_Fact (rd_own (k := 0) hs rfl)) ?_
   rintro ⟨v6, rfl, ho7⟩
   refine q1 rfl (D_ixh 1 s_31 rfl rfl rfl rfl rfl) ?_
   have hstep := mk_step hi hx4 hk
   have hcc : cFa x3 = 1 + x3.Args.length := rfl
   refine q1 rfl (D_fa f_70_0 rfl rfl) (D_unpair (α := ByteArray) (β := (List ByteArray)) (c1 := [(.string x3.Rel)]) (c2 := [v6]) (x := x3.Rel) (y := (x3.Args)) rfl rfl (D_fd [] 1 rfl (li rfl (sh (n := 2) (f := 0) 1 rfl z_9 rfl rfl rfl rfl rfl rfl rfl (by simp) ?_))))
   refine D_end (x_then (C_seq (C_reg (p1 rfl (q1 rfl (D_add rfl rfl rfl rfl (by omega)) (p1 rfl (D_end (x_then (C_reg (p1 rfl <| p1 rfl (q1 rfl (D_ixh 1 s_31 rfl rfl rfl rfl rfl) ?_)))))))))))
   refine q1 rfl (D_fa f_70_1 rfl rfl) (q1 rfl (lh (n := 2) 1 rfl o_58 rfl rfl rfl rfl) (p1 rfl (li rfl (cm b_62 rfl rfl rfl rfl (fun w' hs => laws_markStringS _ _ w' v6 x3.Args (kk + 1) (by first | assumption | omega | (simp only; omega)) (by first | assumption | omega | (simp only; omega)) hs) ?_))))
   refine p1 rfl (D_end (x_blk (x_then (D_weak [(0, v_a), (1, (.int .i64 ((kk + 1) + x3.Args.length))), (5, (.int .i64 ((i : Nat) : Int)))] ⟨rfl, rfl, rfl, trivial⟩ (C_reg (p1 rfl (q1 rfl (D_add rfl rfl rfl (r := ((i + 1 : Nat) : Int)) (by omega) (by omega)) (p1 rfl (D_end (x_then (pk_Fact (r := (⟨(markS kk), mkSs (kk + 1) x3.Args⟩ : Fact)) ?_)))))))))))
   refine D_put (D_eq 0 rfl (show ((mapAt fFa cFa k a i).set i (⟨(markS kk), mkSs (kk + 1) x3.Args⟩ : Fact) : (List Fact)) = mapAt fFa cFa k a (i + 1) from by exact mk_set hi hx4 hk rfl) (fun ac w' hf hs => ⟨_, ?_, i + 1, ((kk + 1) + x3.Args.length), ?_, ?_, rfl, hf.weak ⟨rfl, rfl, rfl, trivial⟩, hs⟩))
   ·omega
   ·first | assumption | omega | simp
   ·omega
  ·have pr2 : ¬ (((i : Nat) : Int) : Int) < (((mapAt fFa cFa k a i).length : Nat) : Int) := of_decide_eq_false h2
   refine C_exit (x_then_exit (x_then_exit (x_blk_eq (x_then (C_seq (C_reg (p1 rfl <| p1 rfl (D_end (x_then (C_ret (D_eq 0 rfl (show (mapAt fFa cFa k a i : (List Fact)) = mapS fFa cFa k a from by exact mapAt_done (by omega)) ?_)))))))))))
   refine R_1 rfl rfl fun w' hs => ⟨congrArg (fun z => Ending.returned (Value.int .i64 z)) ?_, hs⟩
   show (kk : Int) = k + sumC cFa a
   rw [List.take_of_length_le (by omega)] at hk; exact hk

theorem laws_heldFactS (w : World) (v_a : Value) (a : (List Fact)) (k : Int) (h_a : Gd.rd w [v_a] a) (h0 : 0 ≤ k) (h1 : k + sumC cFa a ≤ 4611686018427387904) (he : a = mapS fFa cFa k a) : Calls Tryz.prog 118 [v_a, (.int .i64 k)].toArray w (Val w (.int .i64 (k + sumC cFa a))) := by
 have hm1 := rd_max h_a
 refine enter 32 Tryz.func118 rfl rfl rfl (C_seq (C_reg (p1 rfl (D_end (x_then (C_seq (C_seq (C_reg (p1 rfl (D_end (x_then ?_)))))))))))
 refine C_block (C_loop (fun m_ ac w' => ∃ (i : Nat), ∃ (kk : Int), (i ≤ a.length) ∧ (kk = k + sumC cFa (a.take i)) ∧ m_ = a.length - i ∧ Fits ac 32 [(0, v_a), (1, (.int .i64 kk)), (5, (.int .i64 ((i : Nat) : Int)))] ∧ St w ([]) w') ?_ ?_)
 ·refine fun ac w' hf hs => ⟨_, 0, k, ?_, ?_, rfl, hf.weak ⟨rfl, rfl, rfl, trivial⟩, hs⟩
  ·first | assumption | omega | simp
  ·simp [sumC]
 ·rintro m_ ac w' ⟨i, kk, hi, hk, rfl, hf, hs⟩
  refine D.use ?_ hf hs
  clear hf hs ac w'
  have htk := sumC_take_le a cFa i
  refine C_seq (C_seq (C_reg (p1 rfl <| p1 rfl (q1 rfl (D_len s_31 rfl rfl (rd_sl h_a)) (p1 rfl (D_end (x_then (C_if _ rfl (fun h2 => ?_) (fun h2 => ?_)))))))))
  ·have pr2 : (((i : Nat) : Int) : Int) < ((a.length : Nat) : Int) := of_decide_eq_true h2
   refine C_skip (x_then (C_seq (C_block (C_seq (C_seq (C_draw mixed [] (by kernel_rfl) (tk 0 rfl (by kernel_rfl) (by kernel_rfl) (by kernel_rfl) rfl (fun _ hs => hs) (rp rfl) (tk 1 rfl (by kernel_rfl) (by kernel_rfl) (by kernel_rfl) rfl (fun _ hs => hs) (rp rfl) ?_))))))))
   obtain ⟨x3, hx4⟩ := some_of_lt (l := a) (i := i) (by omega)
   obtain ⟨es5, at6, hr7⟩ := rd_elem (n := 2) rfl h_a hx4
   obtain ⟨u9, rfl, hu10⟩ := open_Fact hr7
   have hm11 := rd_max hu10
   refine tk 2 rfl (by kernel_rfl) (by kernel_rfl) (by kernel_rfl) rfl (fun _ hs => hs) (D_ix (l := a) (j := i) s_31 rfl rfl rfl (fun w' hs => (rd_at hs h_a)) rfl (lt_of_some hx4)) ?_
   have hfx := mapS_fix he hx4
   rw [← hk] at hfx
   have hF0 : x3.Rel = markS kk := congrArg (fun y => y.Rel) hfx
   have hF1 : x3.Args = mkSs (kk + 1) x3.Args := congrArg (fun y => y.Args) hfx
   have hstep := mk_stepH (c := cFa) hx4 hk
   have hcc : cFa x3 = 1 + x3.Args.length := rfl
   refine tk 3 rfl (by kernel_rfl) (by kernel_rfl) (by kernel_rfl) rfl (fun _ hs => hs) (D_fa f_70_0 rfl rfl) (tk 4 rfl (by kernel_rfl) (by kernel_rfl) (by kernel_rfl) rfl (fun _ hs => hs) (lr o_9 rfl rfl at6 rfl) (tk 5 rfl (by kernel_rfl) (by kernel_rfl) (by kernel_rfl) rfl (fun _ hs => hs) (rp rfl) (ty 6 rfl (by kernel_rfl) rfl (cv b_59 rfl rfl rfl rfl (fun w' hs => (laws_markText w' kk (by first | assumption | omega | (unfold szm at *; split at * <;> omega)))) ?_))))
   refine tS (fun _ hs => hs) (tk 7 rfl (by kernel_rfl) (by kernel_rfl) (by kernel_rfl) rfl (fun _ hs => hs) (D_neS rfl rfl rfl) (tE (by kernel_rfl) (x_then (C_if _ rfl (fun h12 => ?_) (fun h12 => ?_)))))
   ·have pr12 : ¬ (x3.Rel : ByteArray) = (markS kk) := of_decide_eq_false (not_t h12)
    refine C_seq (C_reg (p1 rfl (D_end (x_then (C_ret (x_then_ret (x_blk_ret (x_then_ret (x_then_ret (x_blk_ret (x_then_ret ?_)))))))))))
    refine Ri rfl rfl ?_
    show ((-1) : Int) = _
    first | (exfalso; contradiction) | (exfalso; omega) | (rw [List.take_of_length_le (by omega)] at hk; exact hk)
   ·have pr12 : (x3.Rel : ByteArray) = (markS kk) := of_decide_eq_true (not_f h12)
    refine C_skip (x_then (C_seq (C_reg (p1 rfl (q1 rfl (D_add rfl rfl rfl rfl (by omega)) (p1 rfl (D_end (x_then (C_seq (C_reg (p1 rfl <| p1 rfl ?_)))))))))))
    refine q1 rfl (D_ix (l := a) (j := i) s_31 rfl rfl rfl (fun w' hs => (rd_at hs h_a)) rfl (lt_of_some hx4)) (q1 rfl (D_fa f_70_1 rfl rfl) (q1 rfl (lr o_58 rfl rfl at6 rfl) (p1 rfl (li rfl (cv b_144 rfl rfl rfl rfl (fun w' hs => (laws_heldStringS w' u9 x3.Args (kk + 1) (rd_at hs hu10) (by first | assumption | omega | (unfold szm at *; split at * <;> omega)) (by first | assumption | omega | (unfold szm at *; split at * <;> omega)) (by first | assumption | omega | (unfold szm at *; split at * <;> omega)))) ?_)))))
    refine p1 rfl (D_end (x_then (D_weak [(0, v_a), (1, (.int .i64 ((kk + 1) + x3.Args.length))), (5, (.int .i64 ((i : Nat) : Int)))] ⟨rfl, rfl, rfl, trivial⟩ (C_seq (C_reg (p1 rfl <| p1 rfl (D_end (x_then (C_if _ rfl (fun h13 => ?_) (fun h13 => ?_))))))))))
    ·have pr13 : (((kk + 1) + x3.Args.length) : Int) < 0 := of_decide_eq_true h13
     refine C_seq (C_reg (p1 rfl (D_end (x_then (C_ret (x_blk_ret (x_then_ret (x_then_ret (x_blk_ret (x_then_ret (Ri rfl rfl ?_)))))))))))
     show ((-1) : Int) = _
     first | (exfalso; contradiction) | (exfalso; omega) | (rw [List.take_of_length_le (by omega)] at hk; exact hk)
    ·have pr13 : ¬ (((kk + 1) + x3.Args.length) : Int) < 0 := of_decide_eq_false h13
     refine C_skip (x_blk (x_then (C_reg (p1 rfl (q1 rfl (D_add rfl rfl rfl (r := ((i + 1 : Nat) : Int)) (by omega) (by omega)) (p1 rfl (D_end (x_then (fun ac w' hf hs => ⟨_, ?_, i + 1, ((kk + 1) + x3.Args.length), ?_, ?_, rfl, hf.weak ⟨rfl, rfl, rfl, trivial⟩, hs⟩)))))))))
     ·omega
     ·first | assumption | omega | simp
     ·omega
  ·have pr2 : ¬ (((i : Nat) : Int) : Int) < ((a.length : Nat) : Int) := of_decide_eq_false h2
   refine C_exit (x_then_exit (x_then_exit (x_blk_eq (x_then (C_seq (C_reg (p1 rfl <| p1 rfl (D_end (x_then (C_ret (Ri rfl rfl ?_)))))))))))
   show (kk : Int) = _
   first | (exfalso; contradiction) | (exfalso; omega) | (rw [List.take_of_length_le (by omega)] at hk; exact hk)

theorem laws_markPairS (w0 : World) (Hs : List Chunk) (w : World) (v_a : Value) (a : (List Pair)) (k : Int) (h0 : 0 ≤ k) (h1 : k + sumC cPa a ≤ 4611686018427387904) (hst : St w0 (ov [v_a] (a : (List Pair)) :: Hs) w) : Calls Tryz.prog 64 [v_a, (.int .i64 k)].toArray w (fun e w' => e = .returned (.int .i64 (k + sumC cPa a)) ∧ St w0 (ov [v_a] (mapS fPa cPa k a : (List Pair)) :: Hs) w') := by
 have hm1 := rd_max (rd_own (k := 0) hst rfl)
 refine enterS 29 Tryz.func64 rfl rfl rfl hst (C_seq (C_reg (p1 rfl (D_end (x_then (D_H (ov [v_a] (a : (List Pair)) :: Hs) rfl (C_seq (C_seq (C_reg (p1 rfl (D_end ?_)))))))))))
 refine x_then (C_block (C_loop (fun m_ ac w' => ∃ (i : Nat), ∃ (kk : Int), (i ≤ a.length) ∧ (kk = k + sumC cPa (a.take i)) ∧ m_ = a.length - i ∧ Fits ac 29 [(0, v_a), (1, (.int .i64 kk)), (5, (.int .i64 ((i : Nat) : Int)))] ∧ St w0 (ov [v_a] (mapAt fPa cPa k a i : (List Pair)) :: Hs) w') ?_ ?_))
 ·refine D_eq 0 rfl (show (a : (List Pair)) = mapAt fPa cPa k a 0 from by rw [mapAt_zero]) (fun ac w' hf hs => ⟨_, 0, k, ?_, ?_, rfl, hf.weak ⟨rfl, rfl, rfl, trivial⟩, hs⟩)
  ·first | assumption | omega | simp
  ·simp [sumC]
 ·rintro m_ ac w' ⟨i, kk, hi, hk, rfl, hf, hs⟩
  refine D.use ?_ hf hs
  clear hf hs ac w'
  have hcl := mapAt_len (f := fPa) (c := cPa) (k := k) hi
  have htk := sumC_take_le a cPa i
  refine C_seq (C_seq (C_reg (p1 rfl <| p1 rfl (q1 rfl (D_leno 0 s_32 rfl rfl rfl) (p1 rfl (D_end (x_then (D_H (ov [v_a] (mapAt fPa cPa k a i : (List Pair)) :: Hs) rfl (C_if _ rfl (fun h2 => ?_) (fun h2 => ?_))))))))))
  ·have pr2 : (((i : Nat) : Int) : Int) < (((mapAt fPa cPa k a i).length : Nat) : Int) := of_decide_eq_true h2
   refine C_skip (x_then (C_seq (C_block (C_seq (C_reg (p1 rfl <| p1 rfl <| p1 rfl (li rfl (cv b_59 rfl rfl rfl rfl (fun w' hs => (laws_markText w' kk (by first | assumption | omega | (unfold szm at *; split at * <;> omega)))) ?_))))))))
   obtain ⟨x3, hx4⟩ := some_of_lt (l := (mapAt fPa cPa k a i)) (i := i) (by omega)
   refine D_take hx4 fun es5 => ?_
   refine D_pre (fun w' hs => shape_Pair (rd_own (k := 0) hs rfl)) ?_
   rintro ⟨rfl⟩
   refine q1 rfl (D_ixh 1 s_32 rfl rfl rfl rfl rfl) ?_
   have hstep := mk_step hi hx4 hk
   have hcc : cPa x3 = 2 := rfl
   refine q1 rfl (D_fa f_151_0 rfl rfl) (D_unpair (α := ByteArray) (β := ByteArray) (c1 := [(.string x3.Var)]) (c2 := [(.string x3.Value)]) (x := x3.Var) (y := (x3.Value)) rfl rfl (D_fd [] 1 rfl (D_fd [] 1 rfl (li rfl (sh (n := 2) (f := 0) 0 rfl z_9 rfl rfl rfl rfl rfl rfl rfl (by simp) ?_)))))
   refine D_end (x_then (C_seq (C_reg (p1 rfl (q1 rfl (D_add rfl rfl rfl rfl (by omega)) (p1 rfl (D_end (x_then (C_seq (C_reg (p1 rfl <| p1 rfl <| p1 rfl ?_)))))))))))
   refine li rfl (cv b_59 rfl rfl rfl rfl (fun w' hs => (laws_markText w' (kk + 1) (by first | assumption | omega | (unfold szm at *; split at * <;> omega)))) ?_)
   refine q1 rfl (D_ixh 0 s_32 rfl rfl rfl rfl rfl) (q1 rfl (D_fa f_151_1 rfl rfl) (li rfl (sh (n := 2) (f := 1) 0 rfl z_9 rfl rfl rfl rfl rfl rfl rfl (by simp) ?_)))
   refine D_end (x_then (D_weak [(0, v_a), (1, (.int .i64 (kk + 1))), (5, (.int .i64 ((i : Nat) : Int)))] ⟨rfl, rfl, rfl, trivial⟩ (C_reg (p1 rfl (q1 rfl (D_add rfl rfl rfl rfl (by omega)) (p1 rfl (D_end (x_blk (x_then (C_reg (p1 rfl ?_)))))))))))
   refine q1 rfl (D_add rfl rfl rfl (r := ((i + 1 : Nat) : Int)) (by omega) (by omega)) (p1 rfl (D_end (x_then (pk_Pair (r := (⟨(markS kk), (markS (kk + 1))⟩ : Pair)) (D_put (D_eq 0 rfl (show ((mapAt fPa cPa k a i).set i (⟨(markS kk), (markS (kk + 1))⟩ : Pair) : (List Pair)) = mapAt fPa cPa k a (i + 1) from by exact mk_set hi hx4 hk rfl) (fun ac w' hf hs => ⟨_, ?_, i + 1, ((kk + 1) + 1), ?_, ?_, rfl, hf.weak ⟨rfl, rfl, rfl, trivial⟩, hs⟩)))))))
   ·omega
   ·first | assumption | omega | simp
   ·omega
  ·have pr2 : ¬ (((i : Nat) : Int) : Int) < (((mapAt fPa cPa k a i).length : Nat) : Int) := of_decide_eq_false h2
   refine C_exit (x_then_exit (x_then_exit (x_blk_eq (x_then (C_seq (C_reg (p1 rfl <| p1 rfl (D_end (x_then (C_ret (D_eq 0 rfl (show (mapAt fPa cPa k a i : (List Pair)) = mapS fPa cPa k a from by exact mapAt_done (by omega)) ?_)))))))))))
   refine R_1 rfl rfl fun w' hs => ⟨congrArg (fun z => Ending.returned (Value.int .i64 z)) ?_, hs⟩
   show (kk : Int) = k + sumC cPa a
   rw [List.take_of_length_le (by omega)] at hk; exact hk

theorem laws_heldPairS (w : World) (v_a : Value) (a : (List Pair)) (k : Int) (h_a : Gd.rd w [v_a] a) (h0 : 0 ≤ k) (h1 : k + sumC cPa a ≤ 4611686018427387904) (he : a = mapS fPa cPa k a) : Calls Tryz.prog 119 [v_a, (.int .i64 k)].toArray w (Val w (.int .i64 (k + sumC cPa a))) := by
 have hm1 := rd_max h_a
 refine enter 33 Tryz.func119 rfl rfl rfl (C_seq (C_reg (p1 rfl (D_end (x_then (C_seq (C_seq (C_reg (p1 rfl (D_end (x_then ?_)))))))))))
 refine C_block (C_loop (fun m_ ac w' => ∃ (i : Nat), ∃ (kk : Int), (i ≤ a.length) ∧ (kk = k + sumC cPa (a.take i)) ∧ m_ = a.length - i ∧ Fits ac 33 [(0, v_a), (1, (.int .i64 kk)), (5, (.int .i64 ((i : Nat) : Int)))] ∧ St w ([]) w') ?_ ?_)
 ·refine fun ac w' hf hs => ⟨_, 0, k, ?_, ?_, rfl, hf.weak ⟨rfl, rfl, rfl, trivial⟩, hs⟩
  ·first | assumption | omega | simp
  ·simp [sumC]
 ·rintro m_ ac w' ⟨i, kk, hi, hk, rfl, hf, hs⟩
  refine D.use ?_ hf hs
  clear hf hs ac w'
  have htk := sumC_take_le a cPa i
  refine C_seq (C_seq (C_reg (p1 rfl <| p1 rfl (q1 rfl (D_len s_32 rfl rfl (rd_sl h_a)) (p1 rfl (D_end (x_then (C_if _ rfl (fun h2 => ?_) (fun h2 => ?_)))))))))
  ·have pr2 : (((i : Nat) : Int) : Int) < ((a.length : Nat) : Int) := of_decide_eq_true h2
   refine C_skip (x_then (C_seq (C_block (C_seq (C_seq (C_draw mixed [] (by kernel_rfl) (tk 0 rfl (by kernel_rfl) (by kernel_rfl) (by kernel_rfl) rfl (fun _ hs => hs) (rp rfl) (tk 1 rfl (by kernel_rfl) (by kernel_rfl) (by kernel_rfl) rfl (fun _ hs => hs) (rp rfl) ?_))))))))
   obtain ⟨x3, hx4⟩ := some_of_lt (l := a) (i := i) (by omega)
   obtain ⟨es5, at6, hr7⟩ := rd_elem (n := 2) rfl h_a hx4
   obtain ⟨rfl⟩ := open_Pair hr7
   refine tk 2 rfl (by kernel_rfl) (by kernel_rfl) (by kernel_rfl) rfl (fun _ hs => hs) (D_ix (l := a) (j := i) s_32 rfl rfl rfl (fun w' hs => (rd_at hs h_a)) rfl (lt_of_some hx4)) ?_
   have hfx := mapS_fix he hx4
   rw [← hk] at hfx
   have hF0 : x3.Var = markS kk := congrArg (fun y => y.Var) hfx
   have hF1 : x3.Value = markS (kk + 1) := congrArg (fun y => y.Value) hfx
   have hstep := mk_stepH (c := cPa) hx4 hk
   have hcc : cPa x3 = 2 := rfl
   refine tk 3 rfl (by kernel_rfl) (by kernel_rfl) (by kernel_rfl) rfl (fun _ hs => hs) (D_fa f_151_0 rfl rfl) (tk 4 rfl (by kernel_rfl) (by kernel_rfl) (by kernel_rfl) rfl (fun _ hs => hs) (lr o_9 rfl rfl at6 rfl) (tk 5 rfl (by kernel_rfl) (by kernel_rfl) (by kernel_rfl) rfl (fun _ hs => hs) (rp rfl) (ty 6 rfl (by kernel_rfl) rfl (cv b_59 rfl rfl rfl rfl (fun w' hs => (laws_markText w' kk (by first | assumption | omega | (unfold szm at *; split at * <;> omega)))) ?_))))
   refine tS (fun _ hs => hs) (tk 7 rfl (by kernel_rfl) (by kernel_rfl) (by kernel_rfl) rfl (fun _ hs => hs) (D_neS rfl rfl rfl) (tE (by kernel_rfl) (x_then (C_if _ rfl (fun h8 => ?_) (fun h8 => ?_)))))
   ·have pr8 : ¬ (x3.Var : ByteArray) = (markS kk) := of_decide_eq_false (not_t h8)
    refine C_seq (C_reg (p1 rfl (D_end (x_then (C_ret (x_then_ret (x_blk_ret (x_then_ret (x_then_ret (x_blk_ret (x_then_ret ?_)))))))))))
    refine Ri rfl rfl ?_
    show ((-1) : Int) = _
    first | (exfalso; contradiction) | (exfalso; omega) | (rw [List.take_of_length_le (by omega)] at hk; exact hk)
   ·have pr8 : (x3.Var : ByteArray) = (markS kk) := of_decide_eq_true (not_f h8)
    refine C_skip (x_then (C_seq (C_reg (p1 rfl (q1 rfl (D_add rfl rfl rfl rfl (by omega)) (p1 rfl (D_end (x_then (C_seq (C_seq (C_draw mixed [] (by kernel_rfl) ?_)))))))))))
    refine tk 0 rfl (by kernel_rfl) (by kernel_rfl) (by kernel_rfl) rfl (fun _ hs => hs) (rp rfl) (tk 1 rfl (by kernel_rfl) (by kernel_rfl) (by kernel_rfl) rfl (fun _ hs => hs) (rp rfl) (tk 2 rfl (by kernel_rfl) (by kernel_rfl) (by kernel_rfl) rfl (fun _ hs => hs) (D_ix (l := a) (j := i) s_32 rfl rfl rfl (fun w' hs => (rd_at hs h_a)) rfl (lt_of_some hx4)) (tk 3 rfl (by kernel_rfl) (by kernel_rfl) (by kernel_rfl) rfl (fun _ hs => hs) (D_fa f_151_1 rfl rfl) (tk 4 rfl (by kernel_rfl) (by kernel_rfl) (by kernel_rfl) rfl (fun _ hs => hs) (lr o_9 rfl rfl at6 rfl) (tk 5 rfl (by kernel_rfl) (by kernel_rfl) (by kernel_rfl) rfl (fun _ hs => hs) (rp rfl) (ty 6 rfl (by kernel_rfl) rfl (cv b_59 rfl rfl rfl rfl (fun w' hs => (laws_markText w' (kk + 1) (by first | assumption | omega | (unfold szm at *; split at * <;> omega)))) ?_)))))))
    refine tS (fun _ hs => hs) (tk 7 rfl (by kernel_rfl) (by kernel_rfl) (by kernel_rfl) rfl (fun _ hs => hs) (D_neS rfl rfl rfl) (tE (by kernel_rfl) (x_then (D_weak [(0, v_a), (1, (.int .i64 (kk + 1))), (5, (.int .i64 ((i : Nat) : Int))), (29, (.bool (!(decide ((x3.Value : ByteArray) = (markS (kk + 1)))))))] ⟨rfl, rfl, rfl, rfl, trivial⟩ (C_if _ rfl (fun h9 => ?_) (fun h9 => ?_))))))
    ·have pr9 : ¬ (x3.Value : ByteArray) = (markS (kk + 1)) := of_decide_eq_false (not_t h9)
     refine C_seq (C_reg (p1 rfl (D_end (x_then (C_ret (x_then_ret (x_blk_ret (x_then_ret (x_then_ret (x_blk_ret (x_then_ret ?_)))))))))))
     refine Ri rfl rfl ?_
     show ((-1) : Int) = _
     first | (exfalso; contradiction) | (exfalso; omega) | (rw [List.take_of_length_le (by omega)] at hk; exact hk)
    ·have pr9 : (x3.Value : ByteArray) = (markS (kk + 1)) := of_decide_eq_true (not_f h9)
     refine C_skip (x_then (C_reg (p1 rfl (q1 rfl (D_add rfl rfl rfl rfl (by omega)) (p1 rfl (D_end (x_blk (x_then (C_reg (p1 rfl (q1 rfl (D_add rfl rfl rfl (r := ((i + 1 : Nat) : Int)) (by omega) (by omega)) ?_)))))))))))
     refine p1 rfl (D_end (x_then (fun ac w' hf hs => ⟨_, ?_, i + 1, ((kk + 1) + 1), ?_, ?_, rfl, hf.weak ⟨rfl, rfl, rfl, trivial⟩, hs⟩)))
     ·omega
     ·first | assumption | omega | simp
     ·omega
  ·have pr2 : ¬ (((i : Nat) : Int) : Int) < ((a.length : Nat) : Int) := of_decide_eq_false h2
   refine C_exit (x_then_exit (x_then_exit (x_blk_eq (x_then (C_seq (C_reg (p1 rfl <| p1 rfl (D_end (x_then (C_ret (Ri rfl rfl ?_)))))))))))
   show (kk : Int) = _
   first | (exfalso; contradiction) | (exfalso; omega) | (rw [List.take_of_length_le (by omega)] at hk; exact hk)

theorem laws_markMatch (w0 : World) (Hs : List Chunk) (w : World) (c_a : List Value) (a : Match) (k : Int) (h0 : 0 ≤ k) (h1 : k + cMa a ≤ 4611686018427387904) (hst : St w0 (ov c_a (a : Match) :: Hs) w) : Calls Tryz.prog 20 [(.agg c_a.toArray), (.int .i64 k)].toArray w (fun e w' => e = .returned (.int .i64 (k + cMa a)) ∧ St w0 (ov c_a (mkMa k a : Match) :: Hs) w') := by
 obtain ⟨v1, v2, rfl, ho_v1, ho_v2⟩ := shape_Match (rd_own (k := 0) hst rfl)
 have hce : cMa a = sumC cFa a.Facts + sumC cPa a.Binding := rfl
 refine enterS 14 Tryz.func20 rfl rfl rfl hst (C_seq (C_reg (li rfl (D_box rfl rfl rfl rfl rfl fun g3 => ?_))))
 refine p1 rfl (D_end (x_then (D_H (bx g3 [(.string a.Rule), v1, v2] :: ov [(.string a.Rule), v1, v2] (a : Match) :: Hs) rfl (C_seq (C_reg (q1 rfl (D_fb f_34_1 rfl rfl (q := 1) rfl) (q1 rfl (lb 0 o_31 rfl rfl rfl rfl) (p1 rfl (D_fd [1] 0 rfl (D_unpair (α := ByteArray) (β := (List Fact) × (List Pair)) (c1 := [(.string a.Rule)]) (c2 := [v1, v2]) (x := a.Rule) (y := (a.Facts, a.Binding)) rfl rfl (D_fd [] 1 rfl ?_)))))))))))
 refine D_unpair (α := (List Fact)) (β := (List Pair)) (c1 := [v1]) (c2 := [v2]) (x := a.Facts) (y := (a.Binding)) rfl rfl (D_fd [1] 0 rfl (D_fd [1] 0 rfl (li rfl (cm b_63 rfl rfl rfl rfl (fun w' hs => laws_markFactS _ _ w' v1 a.Facts k (by first | assumption | omega | (simp only; omega)) (by first | assumption | omega | (simp only; omega)) hs) ?_))))
 refine p1 rfl (D_end (x_then (D_H (ov [v1] (mapS fFa cFa k a.Facts : (List Fact)) :: ov [v2] (a.Binding : (List Pair)) :: bx g3 [(.string a.Rule), v1, v2] :: Hs) rfl (C_seq (C_reg (q1 rfl (D_fb f_34_2 rfl rfl (q := 2) rfl) (q1 rfl (lb 2 o_32 rfl rfl rfl rfl) (p1 rfl (D_fd [1] 0 rfl (li rfl (cm b_64 rfl rfl rfl rfl (fun w' hs => laws_markPairS _ _ w' v2 a.Binding (k + sumC cFa a.Facts) (by first | assumption | omega | (simp only; omega)) (by first | assumption | omega | (simp only; omega)) hs) ?_)))))))))))
 refine p1 rfl (D_end (x_then (C_seq (C_reg (p1 rfl <| p1 rfl (D_end (x_then (C_ret (D_fd [0, 1] 0 rfl (pk_Match (r := (⟨a.Rule, mapS fFa cFa k a.Facts, mapS fPa cPa (k + sumC cFa a.Facts) a.Binding⟩ : Match)) (D_eq 0 rfl (show ((⟨a.Rule, mapS fFa cFa k a.Facts, mapS fPa cPa (k + sumC cFa a.Facts) a.Binding⟩ : Match) : Match) = mkMa k a from by rfl) ?_)))))))))))
 refine R_1 rfl rfl fun w' hs => ⟨congrArg (fun z => Ending.returned (Value.int .i64 z)) ?_, hs.fd [0, 1] 1 rfl⟩
 show (((k + sumC cFa a.Facts) + sumC cPa a.Binding) : Int) = k + cMa a
 omega

theorem laws_heldMatch (w : World) (c_a : List Value) (a : Match) (k : Int) (h_a : Gd.rd w c_a a) (h0 : 0 ≤ k) (h1 : k + cMa a ≤ 4611686018427387904) (he : a = mkMa k a) : Calls Tryz.prog 66 [(.agg c_a.toArray), (.int .i64 k)].toArray w (Val w (.int .i64 (k + cMa a))) := by
 obtain ⟨u1, u3, rfl, hu2, hu4⟩ := open_Match h_a
 have hm5 := rd_max hu2
 have hm6 := rd_max hu4
 have hce : cMa a = sumC cFa a.Facts + sumC cPa a.Binding := rfl
 have hF1 : a.Facts = mkFa k a.Facts := congrArg (fun y => y.Facts) he
 have hF2 : a.Binding = mkPa (k + sumC cFa a.Facts) a.Binding := congrArg (fun y => y.Binding) he
 refine enter 18 Tryz.func66 rfl rfl rfl (C_seq (C_reg (li rfl (D_box rfl rfl rfl rfl rfl fun g7 => ?_))))
 refine p1 rfl (D_end (x_then (D_H ([bx g7 [(.string a.Rule), u1, u3]]) rfl (C_seq (C_reg (q1 rfl (D_fb f_34_1 rfl rfl (q := 1) rfl) (q1 rfl (lb 0 o_31 rfl rfl rfl rfl) (p1 rfl (li rfl (cv b_118 rfl rfl rfl rfl (fun w' hs => (laws_heldFactS w' u1 a.Facts k (rd_at hs hu2) (by first | assumption | omega | (unfold szm at *; split at * <;> omega)) (by first | assumption | omega | (unfold szm at *; split at * <;> omega)) (by first | assumption | omega | (unfold szm at *; split at * <;> omega)))) ?_))))))))))
 refine p1 rfl (D_end (x_then (C_seq (C_seq (C_reg (p1 rfl <| p1 rfl (D_end (x_then (C_if _ rfl (fun h8 => ?_) (fun h8 => ?_))))))))))
 ·have pr8 : ((k + sumC cFa a.Facts) : Int) < 0 := of_decide_eq_true h8
  refine C_seq (C_reg (p1 rfl (D_end (x_then (C_ret (x_then_ret (Ri rfl rfl ?_)))))))
  show ((-1) : Int) = _
  first | (exfalso; omega) | omega
 ·have pr8 : ¬ ((k + sumC cFa a.Facts) : Int) < 0 := of_decide_eq_false h8
  refine C_skip (x_then (C_seq (C_reg (q1 rfl (D_fb f_34_2 rfl rfl (q := 2) rfl) (q1 rfl (lb 0 o_32 rfl rfl rfl rfl) (p1 rfl (li rfl (cv b_119 rfl rfl rfl rfl (fun w' hs => (laws_heldPairS w' u3 a.Binding (k + sumC cFa a.Facts) (rd_at hs hu4) (by first | assumption | omega | (unfold szm at *; split at * <;> omega)) (by first | assumption | omega | (unfold szm at *; split at * <;> omega)) (by first | assumption | omega | (unfold szm at *; split at * <;> omega)))) ?_))))))))
  refine p1 rfl (D_end (x_then (C_seq (C_seq (C_reg (p1 rfl <| p1 rfl (D_end (x_then (C_if _ rfl (fun h9 => ?_) (fun h9 => ?_))))))))))
  ·have pr9 : (((k + sumC cFa a.Facts) + sumC cPa a.Binding) : Int) < 0 := of_decide_eq_true h9
   refine C_seq (C_reg (p1 rfl (D_end (x_then (C_ret (x_then_ret (Ri rfl rfl ?_)))))))
   show ((-1) : Int) = _
   first | (exfalso; omega) | omega
  ·have pr9 : ¬ (((k + sumC cFa a.Facts) + sumC cPa a.Binding) : Int) < 0 := of_decide_eq_false h9
   refine C_skip (x_then (C_seq (C_reg (p1 rfl <| p1 rfl (D_end (x_then (C_ret (Ri rfl rfl ?_))))))))
   show (((k + sumC cFa a.Facts) + sumC cPa a.Binding) : Int) = _
   first | (exfalso; omega) | omega

theorem laws_markChoice (w0 : World) (Hs : List Chunk) (w : World) (c_a : List Value) (a : Choice) (k : Int) (h0 : 0 ≤ k) (h1 : k + cCh a ≤ 4611686018427387904) (hst : St w0 (ov c_a (a : Choice) :: Hs) w) : Calls Tryz.prog 21 [(.agg c_a.toArray), (.int .i64 k)].toArray w (fun e w' => e = .returned (.int .i64 (k + cCh a)) ∧ St w0 (ov c_a (mkCh k a : Choice) :: Hs) w') := by
 obtain ⟨v1, v2, v3, rfl, ho_v1, ho_v2, ho_v3⟩ := shape_Choice (rd_own (k := 0) hst rfl)
 have hce : cCh a = cMa a.Match + a.Times.length := rfl
 refine enterS 14 Tryz.func21 rfl rfl rfl hst (C_seq (C_reg (li rfl (D_box rfl rfl rfl rfl rfl fun g4 => ?_))))
 refine p1 rfl (D_end (x_then (D_H (bx g4 [(.string a.Match.Rule), v1, v2, (.int .i64 a.Priority), v3, (.int .i64 a.Specific), (.int .i64 a.Order)] :: ov [(.string a.Match.Rule), v1, v2, (.int .i64 a.Priority), v3, (.int .i64 a.Specific), (.int .i64 a.Order)] (a : Choice) :: Hs) rfl (C_seq (C_reg (q1 rfl (D_fb f_37_0 rfl rfl (q := 0) rfl) (q1 rfl (lba (es := [(.string a.Match.Rule), v1, v2]) 0 a_34 rfl rfl rfl rfl) (p1 rfl (D_fd [1] 0 rfl (D_unpair (α := Go.Sy.Match) (β := Int × (List Int) × Int × Int) (c1 := [(.string a.Match.Rule), v1, v2]) (c2 := [(.int .i64 a.Priority), v3, (.int .i64 a.Specific), (.int .i64 a.Order)]) (x := a.Match) (y := (a.Priority, a.Times, a.Specific, a.Order)) rfl rfl (D_fd [1] 0 rfl ?_)))))))))))
 refine D_unpair (α := Int) (β := (List Int) × Int × Int) (c1 := [(.int .i64 a.Priority)]) (c2 := [v3, (.int .i64 a.Specific), (.int .i64 a.Order)]) (x := a.Priority) (y := (a.Times, a.Specific, a.Order)) rfl rfl (D_fd [] 1 rfl (D_unpair (α := (List Int)) (β := Int × Int) (c1 := [v3]) (c2 := [(.int .i64 a.Specific), (.int .i64 a.Order)]) (x := a.Times) (y := (a.Specific, a.Order)) rfl rfl (D_fd [1] 0 rfl (D_unpair (α := Int) (β := Int) (c1 := [(.int .i64 a.Specific)]) (c2 := [(.int .i64 a.Order)]) (x := a.Specific) (y := (a.Order)) rfl rfl (D_fd [] 1 rfl (D_fd [] 1 rfl (D_fd [1] 0 rfl (D_unpair (α := ByteArray) (β := (List Fact) × (List Pair)) (c1 := [(.string a.Match.Rule)]) (c2 := [v1, v2]) (x := a.Match.Rule) (y := (a.Match.Facts, a.Match.Binding)) rfl rfl (D_fd [] 1 rfl (D_unpair (α := (List Fact)) (β := (List Pair)) (c1 := [v1]) (c2 := [v2]) (x := a.Match.Facts) (y := (a.Match.Binding)) rfl rfl (D_fd [1] 0 rfl ?_)))))))))))
 refine D_fd [0, 1] 0 rfl (pk_Match (r := (a.Match : Match)) (li rfl (cm b_20 rfl rfl rfl rfl (fun w' hs => laws_markMatch _ _ w' [(.string a.Match.Rule), v1, v2] (a.Match : Match) k (by first | assumption | omega | (simp only; omega)) (by first | assumption | omega | (simp only; omega)) hs) ?_)))
 refine p1 rfl (D_end (x_then (D_H (ov [(.string a.Match.Rule), v1, v2] (mkMa k (a.Match : Match) : Match) :: ov [v3] (a.Times : (List Int)) :: bx g4 [(.string a.Match.Rule), v1, v2, (.int .i64 a.Priority), v3, (.int .i64 a.Specific), (.int .i64 a.Order)] :: Hs) rfl (C_seq (C_reg (q1 rfl (D_fb f_37_2 rfl rfl (q := 4) rfl) (q1 rfl (lb 2 o_35 rfl rfl rfl rfl) (p1 rfl (D_fd [1] 0 rfl (li rfl (cm b_65 rfl rfl rfl rfl (fun w' hs => laws_markIntS _ _ w' v3 a.Times (k + cMa (a.Match : Match)) (by first | assumption | omega | (simp only; omega)) (by first | assumption | omega | (simp only; omega)) hs) ?_)))))))))))
 refine p1 rfl (D_end (x_then (C_seq (C_reg (p1 rfl <| p1 rfl (D_end (x_then (C_ret (D_fd [1] 0 rfl (D_unpair (α := ByteArray) (β := (List Fact) × (List Pair)) (c1 := [(.string a.Match.Rule)]) (c2 := [v1, v2]) (x := (mkMa k (a.Match : Match)).Rule) (y := ((mkMa k (a.Match : Match)).Facts, (mkMa k (a.Match : Match)).Binding)) rfl rfl (D_fd [] 1 rfl ?_)))))))))))
 refine D_unpair (α := (List Fact)) (β := (List Pair)) (c1 := [v1]) (c2 := [v2]) (x := (mkMa k (a.Match : Match)).Facts) (y := ((mkMa k (a.Match : Match)).Binding)) rfl rfl (D_fd [1] 0 rfl (D_fd [2, 1, 2] 0 rfl (pk_Choice (r := (⟨⟨a.Match.Rule, (mkMa k (a.Match : Match)).Facts, (mkMa k (a.Match : Match)).Binding⟩, a.Priority, mkI (k + cMa (a.Match : Match)) a.Times, a.Specific, a.Order⟩ : Choice)) (D_eq 0 rfl (show ((⟨⟨a.Match.Rule, (mkMa k (a.Match : Match)).Facts, (mkMa k (a.Match : Match)).Binding⟩, a.Priority, mkI (k + cMa (a.Match : Match)) a.Times, a.Specific, a.Order⟩ : Choice) : Choice) = mkCh k a from by rfl) (R_1 rfl rfl fun w' hs => ⟨congrArg (fun z => Ending.returned (Value.int .i64 z)) ?_, hs.fd [0, 1] 1 rfl⟩)))))
 show (((k + cMa (a.Match : Match)) + a.Times.length) : Int) = k + cCh a
 omega

theorem laws_heldChoice (w : World) (c_a : List Value) (a : Choice) (k : Int) (h_a : Gd.rd w c_a a) (h0 : 0 ≤ k) (h1 : k + cCh a ≤ 4611686018427387904) (he : a = mkCh k a) : Calls Tryz.prog 22 [(.agg c_a.toArray), (.int .i64 k)].toArray w (Val w (.int .i64 (k + cCh a))) := by
 obtain ⟨u1, u3, u5, rfl, hu2, hu4, hu6⟩ := open_Choice h_a
 have hm7 := rd_max hu2
 have hm8 := rd_max hu4
 have hm9 := rd_max hu6
 have hb10 := sub_Choice_Match h_a
 have hce : cCh a = cMa a.Match + a.Times.length := rfl
 have hF1 : a.Match = mkMa k a.Match := congrArg (fun y => y.Match) he
 have hF2 : a.Times = mkI (k + cMa a.Match) a.Times := congrArg (fun y => y.Times) he
 refine enter 18 Tryz.func22 rfl rfl rfl (C_seq (C_reg (li rfl (D_box rfl rfl rfl rfl rfl fun g11 => ?_))))
 refine p1 rfl (D_end (x_then (D_H ([bx g11 [(.string a.Match.Rule), u1, u3, (.int .i64 a.Priority), u5, (.int .i64 a.Specific), (.int .i64 a.Order)]]) rfl (C_seq (C_reg (q1 rfl (D_fb f_37_0 rfl rfl (q := 0) rfl) (q1 rfl (lba (es := [(.string a.Match.Rule), u1, u3]) 0 a_34 rfl rfl rfl rfl) (p1 rfl (li rfl (cv b_66 rfl rfl rfl rfl (fun w' hs => (laws_heldMatch w' [(.string a.Match.Rule), u1, u3] a.Match k (rd_at hs hb10) (by first | assumption | omega | (unfold szm at *; split at * <;> omega)) (by first | assumption | omega | (unfold szm at *; split at * <;> omega)) (by first | assumption | omega | (unfold szm at *; split at * <;> omega)))) ?_))))))))))
 refine p1 rfl (D_end (x_then (C_seq (C_seq (C_reg (p1 rfl <| p1 rfl (D_end (x_then (C_if _ rfl (fun h12 => ?_) (fun h12 => ?_))))))))))
 ·have pr12 : ((k + cMa a.Match) : Int) < 0 := of_decide_eq_true h12
  refine C_seq (C_reg (p1 rfl (D_end (x_then (C_ret (x_then_ret (Ri rfl rfl ?_)))))))
  show ((-1) : Int) = _
  first | (exfalso; omega) | omega
 ·have pr12 : ¬ ((k + cMa a.Match) : Int) < 0 := of_decide_eq_false h12
  refine C_skip (x_then (C_seq (C_reg (q1 rfl (D_fb f_37_2 rfl rfl (q := 4) rfl) (q1 rfl (lb 0 o_35 rfl rfl rfl rfl) (p1 rfl (li rfl (cv b_67 rfl rfl rfl rfl (fun w' hs => (laws_heldIntS w' u5 a.Times (k + cMa a.Match) (rd_at hs hu6) (by first | assumption | omega | (unfold szm at *; split at * <;> omega)) (by first | assumption | omega | (unfold szm at *; split at * <;> omega)) (by first | assumption | omega | (unfold szm at *; split at * <;> omega)))) ?_))))))))
  refine p1 rfl (D_end (x_then (C_seq (C_seq (C_reg (p1 rfl <| p1 rfl (D_end (x_then (C_if _ rfl (fun h13 => ?_) (fun h13 => ?_))))))))))
  ·have pr13 : (((k + cMa a.Match) + a.Times.length) : Int) < 0 := of_decide_eq_true h13
   refine C_seq (C_reg (p1 rfl (D_end (x_then (C_ret (x_then_ret (Ri rfl rfl ?_)))))))
   show ((-1) : Int) = _
   first | (exfalso; omega) | omega
  ·have pr13 : ¬ (((k + cMa a.Match) + a.Times.length) : Int) < 0 := of_decide_eq_false h13
   refine C_skip (x_then (C_seq (C_reg (p1 rfl <| p1 rfl (D_end (x_then (C_ret (Ri rfl rfl ?_))))))))
   show (((k + cMa a.Match) + a.Times.length) : Int) = _
   first | (exfalso; omega) | omega
end Go.Sy.Cho1
