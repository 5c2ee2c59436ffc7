/-
  Contracts of functions of the program, walked (printed by a program of ours).
  Conditions: those that each theorem states.
-/
import Derived.Test.YtkbiaedfnpbpfaaGreatDoorEv1
import Derived.Test.YtkbiaedfnpbpfaaGreatDoorEng
set_option linter.unusedVariables false
set_option maxRecDepth 20000
namespace Go.Sy.Ev2
open Go Go.RowKit Go.Proofs Go.Sy
theorem mixed : Tryz.prog.follows .mixedOrders = true := by kernel_rfl
theorem f_183_0 : fieldOff Tryz.prog 183 0 = some 0 := by kernel_rfl
theorem o_9 : oneTy Tryz.prog 9 = true := by kernel_rfl
theorem us_9 : Tryz.prog.underlying 9 = some .string := by kernel_rfl
theorem f_183_1 : fieldOff Tryz.prog 183 1 = some 1 := by kernel_rfl
theorem o_58 : oneTy Tryz.prog 58 = true := by kernel_rfl
theorem b_70 : hasBody Tryz.prog 70 = true := by kernel_rfl
theorem y_145 : zeroTy Tryz.prog 145 = some (.agg #[(.string ⟨#[]⟩), (.slice none 0 0)]) := by kernel_rfl
theorem f_145_0 : fieldOff Tryz.prog 145 0 = some 0 := by kernel_rfl
theorem z_9 : sizeTy Tryz.prog 9 = some 1 := by kernel_rfl
theorem b_77 : hasBody Tryz.prog 77 = true := by kernel_rfl
theorem f_145_1 : fieldOff Tryz.prog 145 1 = some 1 := by kernel_rfl
theorem z_58 : sizeTy Tryz.prog 58 = some 1 := by kernel_rfl
theorem a_145 : aggTy Tryz.prog 145 = some 2 := by kernel_rfl
theorem z_145 : sizeTy Tryz.prog 145 = some 2 := by kernel_rfl
theorem b_84 : hasBody Tryz.prog 84 = true := by kernel_rfl
theorem f_185_1 : fieldOff Tryz.prog 185 1 = some 1 := by kernel_rfl
theorem a_183 : aggTy Tryz.prog 183 = some 2 := by kernel_rfl
theorem b_192 : hasBody Tryz.prog 192 = true := by kernel_rfl
theorem f_185_2 : fieldOff Tryz.prog 185 2 = some 3 := by kernel_rfl
theorem f_185_3 : fieldOff Tryz.prog 185 3 = some 4 := by kernel_rfl
theorem y_147 : zeroTy Tryz.prog 147 = some (.agg #[(.int .i64 0), (.string ⟨#[]⟩), (.slice none 0 0), (.string ⟨#[]⟩), (.string ⟨#[]⟩)]) := by kernel_rfl
theorem f_185_0 : fieldOff Tryz.prog 185 0 = some 0 := by kernel_rfl
theorem o_3 : oneTy Tryz.prog 3 = true := by kernel_rfl
theorem f_147_0 : fieldOff Tryz.prog 147 0 = some 0 := by kernel_rfl
theorem z_3 : sizeTy Tryz.prog 3 = some 1 := by kernel_rfl
theorem b_197 : hasBody Tryz.prog 197 = true := by kernel_rfl
theorem f_147_1 : fieldOff Tryz.prog 147 1 = some 1 := by kernel_rfl
theorem f_147_2 : fieldOff Tryz.prog 147 2 = some 3 := by kernel_rfl
theorem f_147_3 : fieldOff Tryz.prog 147 3 = some 4 := by kernel_rfl
theorem a_147 : aggTy Tryz.prog 147 = some 5 := by kernel_rfl
theorem z_147 : sizeTy Tryz.prog 147 = some 5 := by kernel_rfl
theorem b_205 : hasBody Tryz.prog 205 = true := by kernel_rfl
theorem f_188_1 : fieldOff Tryz.prog 188 1 = some 1 := by kernel_rfl
theorem y_159 : zeroTy Tryz.prog 159 = some (.agg #[(.int .i64 0), (.string ⟨#[]⟩), (.slice none 0 0)]) := by kernel_rfl
theorem f_188_0 : fieldOff Tryz.prog 188 0 = some 0 := by kernel_rfl
theorem f_159_0 : fieldOff Tryz.prog 159 0 = some 0 := by kernel_rfl
theorem f_159_1 : fieldOff Tryz.prog 159 1 = some 1 := by kernel_rfl
theorem a_159 : aggTy Tryz.prog 159 = some 3 := by kernel_rfl
theorem z_159 : sizeTy Tryz.prog 159 = some 3 := by kernel_rfl
theorem s_78 : sliceTy Tryz.prog 78 = some (185, 5, 80) := by kernel_rfl
theorem a_185 : aggTy Tryz.prog 185 = some 5 := by kernel_rfl
theorem b_150 : hasBody Tryz.prog 150 = true := by kernel_rfl
theorem s_93 : sliceTy Tryz.prog 93 = some (147, 5, 80) := by kernel_rfl
theorem b_161 : hasBody Tryz.prog 161 = true := by kernel_rfl
theorem b_174 : hasBody Tryz.prog 174 = true := by kernel_rfl
theorem s_79 : sliceTy Tryz.prog 79 = some (188, 3, 48) := by kernel_rfl
theorem a_188 : aggTy Tryz.prog 188 = some 3 := by kernel_rfl
theorem b_151 : hasBody Tryz.prog 151 = true := by kernel_rfl
theorem s_94 : sliceTy Tryz.prog 94 = some (159, 3, 48) := by kernel_rfl
theorem b_162 : hasBody Tryz.prog 162 = true := by kernel_rfl
theorem b_175 : hasBody Tryz.prog 175 = true := by kernel_rfl
theorem f_81_0 : fieldOff Tryz.prog 81 0 = some 0 := by kernel_rfl
theorem f_81_2 : fieldOff Tryz.prog 81 2 = some 2 := by kernel_rfl
theorem o_78 : oneTy Tryz.prog 78 = true := by kernel_rfl
theorem b_95 : hasBody Tryz.prog 95 = true := by kernel_rfl
theorem f_81_3 : fieldOff Tryz.prog 81 3 = some 3 := by kernel_rfl
theorem o_79 : oneTy Tryz.prog 79 = true := by kernel_rfl
theorem b_96 : hasBody Tryz.prog 96 = true := by kernel_rfl
theorem y_96 : zeroTy Tryz.prog 96 = some (.agg #[(.string ⟨#[]⟩), (.int .i64 0), (.slice none 0 0), (.slice none 0 0)]) := by kernel_rfl
theorem f_96_0 : fieldOff Tryz.prog 96 0 = some 0 := by kernel_rfl
theorem f_81_1 : fieldOff Tryz.prog 81 1 = some 1 := by kernel_rfl
theorem f_96_1 : fieldOff Tryz.prog 96 1 = some 1 := by kernel_rfl
theorem b_105 : hasBody Tryz.prog 105 = true := by kernel_rfl
theorem f_96_2 : fieldOff Tryz.prog 96 2 = some 2 := by kernel_rfl
theorem z_93 : sizeTy Tryz.prog 93 = some 1 := by kernel_rfl
theorem b_106 : hasBody Tryz.prog 106 = true := by kernel_rfl
theorem f_96_3 : fieldOff Tryz.prog 96 3 = some 3 := by kernel_rfl
theorem z_94 : sizeTy Tryz.prog 94 = some 1 := by kernel_rfl
theorem a_96 : aggTy Tryz.prog 96 = some 4 := by kernel_rfl
theorem z_96 : sizeTy Tryz.prog 96 = some 4 := by kernel_rfl
theorem o_93 : oneTy Tryz.prog 93 = true := by kernel_rfl
theorem b_115 : hasBody Tryz.prog 115 = true := by kernel_rfl
theorem o_94 : oneTy Tryz.prog 94 = true := by kernel_rfl
theorem b_116 : hasBody Tryz.prog 116 = true := by kernel_rfl
theorem f_84_0 : fieldOff Tryz.prog 84 0 = some 0 := by kernel_rfl
theorem a_60 : aggTy Tryz.prog 60 = some 2 := by kernel_rfl
theorem b_24 : hasBody Tryz.prog 24 = true := by kernel_rfl
theorem y_100 : zeroTy Tryz.prog 100 = some (.agg #[(.string ⟨#[]⟩), (.slice none 0 0), (.int .i64 0)]) := by kernel_rfl
theorem b_27 : hasBody Tryz.prog 27 = true := by kernel_rfl
theorem f_100_0 : fieldOff Tryz.prog 100 0 = some 0 := by kernel_rfl
theorem z_70 : sizeTy Tryz.prog 70 = some 2 := by kernel_rfl
theorem f_84_1 : fieldOff Tryz.prog 84 1 = some 2 := by kernel_rfl
theorem f_100_1 : fieldOff Tryz.prog 100 1 = some 2 := by kernel_rfl
theorem a_100 : aggTy Tryz.prog 100 = some 3 := by kernel_rfl
theorem z_100 : sizeTy Tryz.prog 100 = some 3 := by kernel_rfl
theorem a_70 : aggTy Tryz.prog 70 = some 2 := by kernel_rfl
theorem b_30 : hasBody Tryz.prog 30 = true := by kernel_rfl
theorem s_22 : sliceTy Tryz.prog 22 = some (81, 4, 72) := by kernel_rfl
theorem a_81 : aggTy Tryz.prog 81 = some 4 := by kernel_rfl
theorem b_36 : hasBody Tryz.prog 36 = true := by kernel_rfl
theorem s_40 : sliceTy Tryz.prog 40 = some (96, 4, 72) := by kernel_rfl
theorem b_47 : hasBody Tryz.prog 47 = true := by kernel_rfl
theorem b_55 : hasBody Tryz.prog 55 = true := by kernel_rfl
theorem s_23 : sliceTy Tryz.prog 23 = some (84, 3, 48) := by kernel_rfl
theorem a_84 : aggTy Tryz.prog 84 = some 3 := by kernel_rfl
theorem b_37 : hasBody Tryz.prog 37 = true := by kernel_rfl
theorem s_42 : sliceTy Tryz.prog 42 = some (100, 3, 48) := by kernel_rfl
theorem b_48 : hasBody Tryz.prog 48 = true := by kernel_rfl
theorem b_56 : hasBody Tryz.prog 56 = true := by kernel_rfl
open Go.Sy.Bel1 Go.Sy.Ev1
theorem laws_szPattern (w : World) (c_a : List Value) (a : Pattern) (left : Int) (h_a : Gd.rd w c_a a) (h0 : 0 ≤ left) (h1 : left ≤ 1048576) (ho : okPattern a) : Calls Tryz.prog 192 [(.agg c_a.toArray), (.int .i64 left)].toArray w (Val w (.int .i64 (szm (szPattern a) left))) := by
 obtain ⟨u1, rfl, hu2⟩ := open_Pattern h_a
 have hm3 := rd_max hu2
 have ho1 : a.Rel.size ≤ 9223372036854775807 := ho.1
 refine enter 19 Tryz.func192 rfl rfl rfl (C_seq (C_reg (li rfl (D_box rfl rfl rfl rfl rfl fun g4 => ?_))))
 refine p1 rfl (D_end (x_then (D_H ([bx g4 [(.string a.Rel), u1]]) rfl (C_seq (C_reg (p1 rfl (q1 rfl (D_fb f_183_0 rfl rfl (q := 0) rfl) (q1 rfl (lb 0 o_9 rfl rfl rfl rfl) (q1 rfl (D_lens us_9 rfl rfl) (q1 rfl (D_sub rfl rfl rfl rfl (by omega)) (p1 rfl ?_)))))))))))
 refine D_end (x_then (C_seq (C_seq (C_reg (p1 rfl <| p1 rfl (D_end (x_then (C_if _ rfl (fun h5 => ?_) (fun h5 => ?_)))))))))
 ·have pr5 : ((left - ((a.Rel.size : Nat) : Int)) : Int) < 0 := of_decide_eq_true h5
  refine C_seq (C_reg (p1 rfl (D_end (x_then (C_ret (x_then_ret (Ri rfl rfl ?_)))))))
  show ((-1) : Int) = _
  unfold szPattern szm at *; repeat (split at * <;> try omega)
 ·have pr5 : ¬ ((left - ((a.Rel.size : Nat) : Int)) : Int) < 0 := of_decide_eq_false h5
  refine C_skip (x_then (C_seq (C_reg (q1 rfl (D_fb f_183_1 rfl rfl (q := 1) rfl) (q1 rfl (lb 0 o_58 rfl rfl rfl rfl) (p1 rfl (li rfl (cv b_70 rfl rfl rfl rfl (fun w' hs => (laws_szStringS w' u1 a.Args (left - ((a.Rel.size : Nat) : Int)) (rd_at hs hu2) (by first | assumption | omega | (unfold szm at *; split at * <;> omega)) (by first | assumption | omega | (unfold szm at *; split at * <;> omega)) ho.2)) ?_))))))))
  refine p1 rfl (D_end (x_then (C_seq (C_seq (C_reg (p1 rfl <| p1 rfl (D_end (x_then (D_weak [(1, (.int .i64 (szm (szSs a.Args) (left - ((a.Rel.size : Nat) : Int))))), (17, (.bool (decide (((szm (szSs a.Args) (left - ((a.Rel.size : Nat) : Int))) : Int) < 0))))] ⟨rfl, rfl, trivial⟩ (D_sel (H' := []) [false] rfl (C_if _ rfl (fun h6 => ?_) (fun h6 => ?_))))))))))))
  ·have pr6 : ((szm (szSs a.Args) (left - ((a.Rel.size : Nat) : Int))) : Int) < 0 := of_decide_eq_true h6
   refine C_seq (C_reg (p1 rfl (D_end (x_then (C_ret (x_then_ret (Ri rfl rfl ?_)))))))
   show ((-1) : Int) = _
   unfold szPattern szm at *; repeat (split at * <;> try omega)
  ·have pr6 : ¬ ((szm (szSs a.Args) (left - ((a.Rel.size : Nat) : Int))) : Int) < 0 := of_decide_eq_false h6
   have pr6z := szm_val (n := (szSs a.Args)) (left := (left - ((a.Rel.size : Nat) : Int))) pr6
   refine C_skip (x_then (C_seq (C_reg (p1 rfl <| p1 rfl (D_end (x_then (C_ret (Ri rfl rfl ?_))))))))
   show ((szm (szSs a.Args) (left - ((a.Rel.size : Nat) : Int))) : Int) = _
   unfold szPattern szm at *; repeat (split at * <;> try omega)

theorem laws_toPattern (w : World) (c_a : List Value) (a : Pattern) (h_a : Gd.rd w c_a a) (hn : szPattern a ≤ 1048576) : Calls Tryz.prog 197 [(.agg c_a.toArray)].toArray w (Res w (a : Pattern)) := by
 obtain ⟨u1, rfl, hu2⟩ := open_Pattern h_a
 have hm3 := rd_max hu2
 unfold szPattern at hn
 unfold szSs at hn
 refine enter 12 Tryz.func197 rfl rfl rfl (C_seq (C_reg (li rfl (D_box rfl rfl rfl rfl rfl fun g4 => ?_))))
 refine li rfl (D_alloc y_145 rfl rfl rfl rfl fun g5 => ?_)
 refine D_end (x_then (D_H ([bx g5 [(.string ⟨#[]⟩), (.slice none 0 0)], bx g4 [(.string a.Rel), u1]]) rfl (C_seq (C_reg (li rfl (D_alloc y_145 rfl rfl rfl rfl fun g6 => ?_))))))
 refine D_end (x_then (D_H ([bx g6 [(.string ⟨#[]⟩), (.slice none 0 0)], bx g5 [(.string ⟨#[]⟩), (.slice none 0 0)], bx g4 [(.string a.Rel), u1]]) rfl (C_seq (C_reg (q1 rfl (D_fb f_183_0 rfl rfl (q := 0) rfl) (q1 rfl (lb 2 o_9 rfl rfl rfl rfl) (q1 rfl (D_fb f_145_0 rfl rfl (q := 0) rfl) (li rfl (D_stb (vs := [(.string a.Rel)]) (cs' := [(.string a.Rel), (.slice none 0 0)]) 0 z_9 rfl rfl rfl rfl rfl rfl (ocons rfl onil) (by simp) rfl ?_)))))))))
 refine D_end (x_then (D_H ([bx g6 [(.string a.Rel), (.slice none 0 0)], bx g5 [(.string ⟨#[]⟩), (.slice none 0 0)], bx g4 [(.string a.Rel), u1]]) rfl (C_seq (C_reg (q1 rfl (D_fb f_183_1 rfl rfl (q := 1) rfl) (q1 rfl (lb 2 o_58 rfl rfl rfl rfl) (li rfl (crl b_77 rfl rfl rfl rfl (fun w' hs => (laws_toStringS w' u1 a.Args (rd_at hs hu2) (by first | assumption | omega | (unfold szm at *; split at * <;> omega)))) fun v7 => ?_))))))))
 refine q1 rfl (D_fb f_145_1 rfl rfl (q := 1) rfl) (D_pre (fun w' hs => one_own (k := 0) hs rfl) ?_)
 intro ho8
 refine li rfl (D_stb (vs := [v7]) (cs' := [(.string a.Rel), v7]) 1 z_58 rfl rfl rfl rfl rfl (cells_of_one ho8) (ocons ho8 onil) (by simp) rfl ?_)
 refine D_end (x_then (D_H ([ov [v7] (a.Args : (List ByteArray)), bx g6 [(.string a.Rel), v7], bx g5 [(.string ⟨#[]⟩), (.slice none 0 0)], bx g4 [(.string a.Rel), u1]]) rfl (C_seq (C_reg (q1 rfl (lbw 1 a_145 rfl rfl rfl) (li rfl (D_stb (vs := [(.string a.Rel), v7]) (cs' := [(.string a.Rel), v7]) 2 z_145 rfl rfl rfl rfl rfl rfl (ocons rfl (ocons ho8 onil)) (by simp) rfl ?_)))))))
 refine D_end (x_then (C_ret (pk_Pattern (r := (a : Pattern)) (R_c 2 a_145 rfl rfl rfl fun w' hs => res_of (k := 0) hs rfl ?_))))
 show (a : Pattern) = a
 rfl

theorem laws_eqPattern (w : World) (c_a : List Value) (a : Pattern) (c_b : List Value) (b : Pattern) (h_a : Gd.rd w c_a a) (h_b : Gd.rd w c_b b) : Calls Tryz.prog 205 [(.agg c_a.toArray), (.agg c_b.toArray)].toArray w (Val w (.bool (decide (a = b)))) := by
 obtain ⟨u1, rfl, hu2⟩ := open_Pattern h_a
 have hm3 := rd_max hu2
 obtain ⟨u4, rfl, hu5⟩ := open_Pattern h_b
 have hm6 := rd_max hu5
 refine enter 16 Tryz.func205 rfl rfl rfl (C_seq (C_reg (li rfl (D_box rfl rfl rfl rfl rfl fun g7 => ?_))))
 refine li rfl (D_box rfl rfl rfl rfl rfl fun g8 => ?_)
 refine p1 rfl (D_end (x_then (D_H ([bx g8 [(.string b.Rel), u4], bx g7 [(.string a.Rel), u1]]) rfl (C_seq (C_seq (C_reg (q1 rfl (D_fb f_145_0 rfl rfl (q := 0) rfl) (q1 rfl (lb 1 o_9 rfl rfl rfl rfl) (q1 rfl (D_fb f_145_0 rfl rfl (q := 0) rfl) (q1 rfl (lb 0 o_9 rfl rfl rfl rfl) (q1 rfl (D_neS rfl rfl rfl) ?_)))))))))))
 refine D_end (x_then (C_if _ rfl (fun h9 => ?_) (fun h9 => ?_)))
 ·have pr9 : ¬ (a.Rel : ByteArray) = b.Rel := of_decide_eq_false (not_t h9)
  refine C_seq (C_reg (p1 rfl (D_end (x_then (C_ret (x_then_ret (Rb rfl rfl ?_)))))))
  cases a; cases b; simp_all
 ·have pr9 : (a.Rel : ByteArray) = b.Rel := of_decide_eq_true (not_f h9)
  refine C_skip (x_then (C_seq (C_seq (C_reg (q1 rfl (D_fb f_145_1 rfl rfl (q := 1) rfl) (q1 rfl (lb 1 o_58 rfl rfl rfl rfl) (q1 rfl (D_fb f_145_1 rfl rfl (q := 1) rfl) (q1 rfl (lb 0 o_58 rfl rfl rfl rfl) (li rfl (cv b_84 rfl rfl rfl rfl (fun w' hs => (laws_eqStringS w' u1 a.Args u4 b.Args (rd_at hs hu2) (rd_at hs hu5))) ?_))))))))))
  refine p1 rfl (D_end (x_then (D_weak [(15, (.bool (!(decide (a.Args = b.Args)))))] ⟨rfl, trivial⟩ (D_sel (H' := []) [false, false] rfl (C_if _ rfl (fun h10 => ?_) (fun h10 => ?_))))))
  ·have h10n : (decide (a.Args = b.Args)) = false := not_t h10
   refine C_seq (C_reg (p1 rfl (D_end (x_then (C_ret (x_then_ret (Rb rfl rfl ?_)))))))
   cases a; cases b; simp_all
  ·have h10n : (decide (a.Args = b.Args)) = true := not_f h10
   refine C_skip (x_then (C_seq (C_reg (p1 rfl (D_end (x_then (C_ret (Rb rfl rfl ?_))))))))
   cases a; cases b; simp_all

theorem laws_szCond (w : World) (c_a : List Value) (a : Cond) (left : Int) (h_a : Gd.rd w c_a a) (h0 : 0 ≤ left) (h1 : left ≤ 1048576) (ho : okCond a) : Calls Tryz.prog 150 [(.agg c_a.toArray), (.int .i64 left)].toArray w (Val w (.int .i64 (szm (szCond a) left))) := by
 obtain ⟨u1, rfl, hu2⟩ := open_Cond h_a
 have hm3 := rd_max hu2
 have hb4 := sub_Cond_Pattern h_a
 have ho1 : a.Left.size ≤ 9223372036854775807 := ho.2.2.1
 have ho2 : a.Right.size ≤ 9223372036854775807 := ho.2.2.2
 refine enter 26 Tryz.func150 rfl rfl rfl (C_seq (C_reg (li rfl (D_box rfl rfl rfl rfl rfl fun g5 => ?_))))
 refine p1 rfl (D_end (x_then (D_H ([bx g5 [(.int .i64 a.Kind), (.string a.Pattern.Rel), u1, (.string a.Left), (.string a.Right)]]) rfl (C_seq (C_reg (q1 rfl (D_fb f_185_1 rfl rfl (q := 1) rfl) (q1 rfl (lba (es := [(.string a.Pattern.Rel), u1]) 0 a_183 rfl rfl rfl rfl) (p1 rfl (li rfl (cv b_192 rfl rfl rfl rfl (fun w' hs => (laws_szPattern w' [(.string a.Pattern.Rel), u1] a.Pattern left (rd_at hs hb4) (by first | assumption | omega | (unfold szm at *; split at * <;> omega)) (by first | assumption | omega | (unfold szm at *; split at * <;> omega)) ho.2.1)) ?_))))))))))
 refine p1 rfl (D_end (x_then (C_seq (C_seq (C_reg (p1 rfl <| p1 rfl (D_end (x_then (C_if _ rfl (fun h6 => ?_) (fun h6 => ?_))))))))))
 ·have pr6 : ((szm (szPattern a.Pattern) left) : Int) < 0 := of_decide_eq_true h6
  refine C_seq (C_reg (p1 rfl (D_end (x_then (C_ret (x_then_ret (Ri rfl rfl ?_)))))))
  show ((-1) : Int) = _
  unfold szCond szm at *; repeat (split at * <;> try omega)
 ·have pr6 : ¬ ((szm (szPattern a.Pattern) left) : Int) < 0 := of_decide_eq_false h6
  have pr6z := szm_val (n := (szPattern a.Pattern)) (left := left) pr6
  refine C_skip (x_then (C_seq (C_reg (p1 rfl (q1 rfl (D_fb f_185_2 rfl rfl (q := 3) rfl) (q1 rfl (lb 0 o_9 rfl rfl rfl rfl) (q1 rfl (D_lens us_9 rfl rfl) (q1 rfl (D_sub rfl rfl rfl rfl (by omega)) (p1 rfl (D_end (x_then ?_)))))))))))
  refine C_seq (C_seq (C_reg (p1 rfl <| p1 rfl (D_end (x_then (C_if _ rfl (fun h7 => ?_) (fun h7 => ?_)))))))
  ·have pr7 : (((szm (szPattern a.Pattern) left) - ((a.Left.size : Nat) : Int)) : Int) < 0 := of_decide_eq_true h7
   refine C_seq (C_reg (p1 rfl (D_end (x_then (C_ret (x_then_ret (Ri rfl rfl ?_)))))))
   show ((-1) : Int) = _
   unfold szCond szm at *; repeat (split at * <;> try omega)
  ·have pr7 : ¬ (((szm (szPattern a.Pattern) left) - ((a.Left.size : Nat) : Int)) : Int) < 0 := of_decide_eq_false h7
   refine C_skip (x_then (D_weak [(1, (.int .i64 ((szm (szPattern a.Pattern) left) - ((a.Left.size : Nat) : Int)))), (2, (.pointer (some ⟨g5, 0, none⟩)))] ⟨rfl, rfl, trivial⟩ (C_seq (C_reg (p1 rfl (q1 rfl (D_fb f_185_3 rfl rfl (q := 4) rfl) (q1 rfl (lb 0 o_9 rfl rfl rfl rfl) (q1 rfl (D_lens us_9 rfl rfl) (q1 rfl (D_sub rfl rfl rfl rfl (by omega)) (p1 rfl (D_end ?_)))))))))))
   refine x_then (C_seq (C_seq (C_reg (p1 rfl <| p1 rfl (D_end (x_then (C_if _ rfl (fun h8 => ?_) (fun h8 => ?_))))))))
   ·have pr8 : ((((szm (szPattern a.Pattern) left) - ((a.Left.size : Nat) : Int)) - ((a.Right.size : Nat) : Int)) : Int) < 0 := of_decide_eq_true h8
    refine C_seq (C_reg (p1 rfl (D_end (x_then (C_ret (x_then_ret (Ri rfl rfl ?_)))))))
    show ((-1) : Int) = _
    unfold szCond szm at *; repeat (split at * <;> try omega)
   ·have pr8 : ¬ ((((szm (szPattern a.Pattern) left) - ((a.Left.size : Nat) : Int)) - ((a.Right.size : Nat) : Int)) : Int) < 0 := of_decide_eq_false h8
    refine C_skip (x_then (C_seq (C_reg (p1 rfl <| p1 rfl (D_end (x_then (C_ret (Ri rfl rfl ?_))))))))
    show ((((szm (szPattern a.Pattern) left) - ((a.Left.size : Nat) : Int)) - ((a.Right.size : Nat) : Int)) : Int) = _
    unfold szCond szm at *; repeat (split at * <;> try omega)

theorem laws_toCond (w : World) (c_a : List Value) (a : Cond) (h_a : Gd.rd w c_a a) (hn : szCond a ≤ 1048576) : Calls Tryz.prog 161 [(.agg c_a.toArray)].toArray w (Res w (a : Cond)) := by
 obtain ⟨u1, rfl, hu2⟩ := open_Cond h_a
 have hm3 := rd_max hu2
 have hb4 := sub_Cond_Pattern h_a
 unfold szCond at hn
 refine enter 18 Tryz.func161 rfl rfl rfl (C_seq (C_reg (li rfl (D_box rfl rfl rfl rfl rfl fun g5 => ?_))))
 refine li rfl (D_alloc y_147 rfl rfl rfl rfl fun g6 => ?_)
 refine D_end (x_then (D_H ([bx g6 [(.int .i64 0), (.string ⟨#[]⟩), (.slice none 0 0), (.string ⟨#[]⟩), (.string ⟨#[]⟩)], bx g5 [(.int .i64 a.Kind), (.string a.Pattern.Rel), u1, (.string a.Left), (.string a.Right)]]) rfl (C_seq (C_reg (li rfl (D_alloc y_147 rfl rfl rfl rfl fun g7 => ?_))))))
 refine D_end (x_then (D_H ([bx g7 [(.int .i64 0), (.string ⟨#[]⟩), (.slice none 0 0), (.string ⟨#[]⟩), (.string ⟨#[]⟩)], bx g6 [(.int .i64 0), (.string ⟨#[]⟩), (.slice none 0 0), (.string ⟨#[]⟩), (.string ⟨#[]⟩)], bx g5 [(.int .i64 a.Kind), (.string a.Pattern.Rel), u1, (.string a.Left), (.string a.Right)]]) rfl (C_seq (C_reg (q1 rfl (D_fb f_185_0 rfl rfl (q := 0) rfl) (q1 rfl (lb 2 o_3 rfl rfl rfl rfl) (q1 rfl (D_fb f_147_0 rfl rfl (q := 0) rfl) (li rfl (D_stb (vs := [(.int .i64 a.Kind)]) (cs' := [(.int .i64 a.Kind), (.string ⟨#[]⟩), (.slice none 0 0), (.string ⟨#[]⟩), (.string ⟨#[]⟩)]) 0 z_3 rfl rfl rfl rfl rfl rfl (ocons rfl onil) (by simp) rfl ?_)))))))))
 refine D_end (x_then (D_H ([bx g7 [(.int .i64 a.Kind), (.string ⟨#[]⟩), (.slice none 0 0), (.string ⟨#[]⟩), (.string ⟨#[]⟩)], bx g6 [(.int .i64 0), (.string ⟨#[]⟩), (.slice none 0 0), (.string ⟨#[]⟩), (.string ⟨#[]⟩)], bx g5 [(.int .i64 a.Kind), (.string a.Pattern.Rel), u1, (.string a.Left), (.string a.Right)]]) rfl (C_seq (C_reg (q1 rfl (D_fb f_185_1 rfl rfl (q := 1) rfl) (q1 rfl (lba (es := [(.string a.Pattern.Rel), u1]) 2 a_183 rfl rfl rfl rfl) (li rfl (crs rfl b_197 rfl rfl rfl rfl (fun w' hs => (laws_toPattern w' [(.string a.Pattern.Rel), u1] a.Pattern (rd_at hs hb4) (by first | assumption | omega | (unfold szm at *; split at * <;> omega)))) fun cs8 => ?_))))))))
 refine D_pre (fun w' hs => shape_Pattern (rd_own (k := 0) hs rfl)) ?_
 rintro ⟨v9, rfl, ho10⟩
 refine q1 rfl (D_fb f_147_1 rfl rfl (q := 1) rfl) (li rfl (D_stb (vs := [(.string a.Pattern.Rel), v9]) (cs' := [(.int .i64 a.Kind), (.string a.Pattern.Rel), v9, (.string ⟨#[]⟩), (.string ⟨#[]⟩)]) 1 z_145 rfl rfl rfl rfl rfl rfl (ocons rfl (ocons ho10 onil)) (by simp) rfl ?_))
 refine D_end (x_then (D_H ([ov [(.string a.Pattern.Rel), v9] (a.Pattern : Pattern), bx g7 [(.int .i64 a.Kind), (.string a.Pattern.Rel), v9, (.string ⟨#[]⟩), (.string ⟨#[]⟩)], bx g6 [(.int .i64 0), (.string ⟨#[]⟩), (.slice none 0 0), (.string ⟨#[]⟩), (.string ⟨#[]⟩)], bx g5 [(.int .i64 a.Kind), (.string a.Pattern.Rel), u1, (.string a.Left), (.string a.Right)]]) rfl (C_seq (C_reg (q1 rfl (D_fb f_185_2 rfl rfl (q := 3) rfl) (q1 rfl (lb 3 o_9 rfl rfl rfl rfl) (q1 rfl (D_fb f_147_2 rfl rfl (q := 3) rfl) (li rfl (D_stb (vs := [(.string a.Left)]) (cs' := [(.int .i64 a.Kind), (.string a.Pattern.Rel), v9, (.string a.Left), (.string ⟨#[]⟩)]) 1 z_9 rfl rfl rfl rfl rfl rfl (ocons rfl onil) (by simp) rfl ?_)))))))))
 refine D_end (x_then (D_H ([ov [(.string a.Pattern.Rel), v9] (a.Pattern : Pattern), bx g7 [(.int .i64 a.Kind), (.string a.Pattern.Rel), v9, (.string a.Left), (.string ⟨#[]⟩)], bx g6 [(.int .i64 0), (.string ⟨#[]⟩), (.slice none 0 0), (.string ⟨#[]⟩), (.string ⟨#[]⟩)], bx g5 [(.int .i64 a.Kind), (.string a.Pattern.Rel), u1, (.string a.Left), (.string a.Right)]]) rfl (C_seq (C_reg (q1 rfl (D_fb f_185_3 rfl rfl (q := 4) rfl) (q1 rfl (lb 3 o_9 rfl rfl rfl rfl) (q1 rfl (D_fb f_147_3 rfl rfl (q := 4) rfl) (li rfl (D_stb (vs := [(.string a.Right)]) (cs' := [(.int .i64 a.Kind), (.string a.Pattern.Rel), v9, (.string a.Left), (.string a.Right)]) 1 z_9 rfl rfl rfl rfl rfl rfl (ocons rfl onil) (by simp) rfl ?_)))))))))
 refine D_end (x_then (D_weak [(2, (.pointer (some ⟨g6, 0, none⟩))), (3, (.pointer (some ⟨g7, 0, none⟩)))] ⟨rfl, rfl, trivial⟩ (D_sel (H' := [ov [(.string a.Pattern.Rel), v9] (a.Pattern : Pattern), bx g7 [(.int .i64 a.Kind), (.string a.Pattern.Rel), v9, (.string a.Left), (.string a.Right)], bx g6 [(.int .i64 0), (.string ⟨#[]⟩), (.slice none 0 0), (.string ⟨#[]⟩), (.string ⟨#[]⟩)]]) [true, true, true, false] rfl (C_seq (C_reg (q1 rfl (lbw 1 a_147 rfl rfl rfl) (li rfl (D_stb (vs := [(.int .i64 a.Kind), (.string a.Pattern.Rel), v9, (.string a.Left), (.string a.Right)]) (cs' := [(.int .i64 a.Kind), (.string a.Pattern.Rel), v9, (.string a.Left), (.string a.Right)]) 2 z_147 rfl rfl rfl rfl rfl rfl (ocons rfl (ocons rfl (ocons ho10 (ocons rfl (ocons rfl onil))))) (by simp) rfl ?_))))))))
 refine D_end (x_then (C_ret (D_unpair (α := ByteArray) (β := (List ByteArray)) (c1 := [(.string a.Pattern.Rel)]) (c2 := [v9]) (x := a.Pattern.Rel) (y := (a.Pattern.Args)) rfl rfl (D_fd [] 1 rfl (pk_Cond (r := (a : Cond)) (R_c 2 a_147 rfl rfl rfl fun w' hs => res_of (k := 0) hs rfl ?_))))))
 show (a : Cond) = a
 rfl

theorem laws_eqCond (w : World) (c_a : List Value) (a : Cond) (c_b : List Value) (b : Cond) (h_a : Gd.rd w c_a a) (h_b : Gd.rd w c_b b) : Calls Tryz.prog 174 [(.agg c_a.toArray), (.agg c_b.toArray)].toArray w (Val w (.bool (decide (a = b)))) := by
 obtain ⟨u1, rfl, hu2⟩ := open_Cond h_a
 have hm3 := rd_max hu2
 have hb4 := sub_Cond_Pattern h_a
 obtain ⟨u5, rfl, hu6⟩ := open_Cond h_b
 have hm7 := rd_max hu6
 have hb8 := sub_Cond_Pattern h_b
 refine enter 26 Tryz.func174 rfl rfl rfl (C_seq (C_reg (li rfl (D_box rfl rfl rfl rfl rfl fun g9 => ?_))))
 refine li rfl (D_box rfl rfl rfl rfl rfl fun g10 => ?_)
 refine p1 rfl (D_end (x_then (D_H ([bx g10 [(.int .i64 b.Kind), (.string b.Pattern.Rel), u5, (.string b.Left), (.string b.Right)], bx g9 [(.int .i64 a.Kind), (.string a.Pattern.Rel), u1, (.string a.Left), (.string a.Right)]]) rfl (C_seq (C_seq (C_reg (q1 rfl (D_fb f_147_0 rfl rfl (q := 0) rfl) (q1 rfl (lb 1 o_3 rfl rfl rfl rfl) (q1 rfl (D_fb f_147_0 rfl rfl (q := 0) rfl) (q1 rfl (lb 0 o_3 rfl rfl rfl rfl) (p1 rfl ?_)))))))))))
 refine D_end (x_then (C_if _ rfl (fun h11 => ?_) (fun h11 => ?_)))
 ·have pr11 : (a.Kind : Int) ≠ b.Kind := bne_iff_ne.1 h11
  refine C_seq (C_reg (p1 rfl (D_end (x_then (C_ret (x_then_ret (Rb rfl rfl ?_)))))))
  cases a; cases b; simp_all
 ·have pr11 : (a.Kind : Int) = b.Kind := eq_of_bne_f h11
  refine C_skip (x_then (C_seq (C_seq (C_reg (q1 rfl (D_fb f_147_1 rfl rfl (q := 1) rfl) (q1 rfl (lba (es := [(.string a.Pattern.Rel), u1]) 1 a_145 rfl rfl rfl rfl) (q1 rfl (D_fb f_147_1 rfl rfl (q := 1) rfl) (q1 rfl (lba (es := [(.string b.Pattern.Rel), u5]) 0 a_145 rfl rfl rfl rfl) (li rfl (cv b_205 rfl rfl rfl rfl (fun w' hs => (laws_eqPattern w' [(.string a.Pattern.Rel), u1] a.Pattern [(.string b.Pattern.Rel), u5] b.Pattern (rd_at hs hb4) (rd_at hs hb8))) ?_))))))))))
  refine p1 rfl (D_end (x_then (C_if _ rfl (fun h12 => ?_) (fun h12 => ?_))))
  ·have h12n : (decide (a.Pattern = b.Pattern)) = false := not_t h12
   refine C_seq (C_reg (p1 rfl (D_end (x_then (C_ret (x_then_ret (Rb rfl rfl ?_)))))))
   cases a; cases b; simp_all
  ·have h12n : (decide (a.Pattern = b.Pattern)) = true := not_f h12
   refine C_skip (x_then (C_seq (C_seq (C_reg (q1 rfl (D_fb f_147_2 rfl rfl (q := 3) rfl) (q1 rfl (lb 1 o_9 rfl rfl rfl rfl) (q1 rfl (D_fb f_147_2 rfl rfl (q := 3) rfl) (q1 rfl (lb 0 o_9 rfl rfl rfl rfl) (q1 rfl (D_neS rfl rfl rfl) (D_end (x_then ?_)))))))))))
   refine D_weak [(2, (.pointer (some ⟨g9, 0, none⟩))), (3, (.pointer (some ⟨g10, 0, none⟩))), (20, (.bool (!(decide ((a.Left : ByteArray) = b.Left)))))] ⟨rfl, rfl, rfl, trivial⟩ (C_if _ rfl (fun h13 => ?_) (fun h13 => ?_))
   ·have pr13 : ¬ (a.Left : ByteArray) = b.Left := of_decide_eq_false (not_t h13)
    refine C_seq (C_reg (p1 rfl (D_end (x_then (C_ret (x_then_ret (Rb rfl rfl ?_)))))))
    cases a; cases b; simp_all
   ·have pr13 : (a.Left : ByteArray) = b.Left := of_decide_eq_true (not_f h13)
    refine C_skip (x_then (C_seq (C_seq (C_reg (q1 rfl (D_fb f_147_3 rfl rfl (q := 4) rfl) (q1 rfl (lb 1 o_9 rfl rfl rfl rfl) (q1 rfl (D_fb f_147_3 rfl rfl (q := 4) rfl) (q1 rfl (lb 0 o_9 rfl rfl rfl rfl) (q1 rfl (D_neS rfl rfl rfl) (D_end (x_then ?_)))))))))))
    refine C_if _ rfl (fun h14 => ?_) (fun h14 => ?_)
    ·have pr14 : ¬ (a.Right : ByteArray) = b.Right := of_decide_eq_false (not_t h14)
     refine C_seq (C_reg (p1 rfl (D_end (x_then (C_ret (x_then_ret (Rb rfl rfl ?_)))))))
     cases a; cases b; simp_all
    ·have pr14 : (a.Right : ByteArray) = b.Right := of_decide_eq_true (not_f h14)
     refine C_skip (x_then (C_seq (C_reg (p1 rfl (D_end (x_then (C_ret (Rb rfl rfl ?_))))))))
     cases a; cases b; simp_all

theorem laws_szAction (w : World) (c_a : List Value) (a : Action) (left : Int) (h_a : Gd.rd w c_a a) (h0 : 0 ≤ left) (h1 : left ≤ 1048576) (ho : okAction a) : Calls Tryz.prog 151 [(.agg c_a.toArray), (.int .i64 left)].toArray w (Val w (.int .i64 (szm (szAction a) left))) := by
 obtain ⟨u1, rfl, hu2⟩ := open_Action h_a
 have hm3 := rd_max hu2
 have hb4 := sub_Action_Pattern h_a
 refine enter 12 Tryz.func151 rfl rfl rfl (C_seq (C_reg (li rfl (D_box rfl rfl rfl rfl rfl fun g5 => ?_))))
 refine p1 rfl (D_end (x_then (D_H ([bx g5 [(.int .i64 a.Kind), (.string a.Pattern.Rel), u1]]) rfl (C_seq (C_reg (q1 rfl (D_fb f_188_1 rfl rfl (q := 1) rfl) (q1 rfl (lba (es := [(.string a.Pattern.Rel), u1]) 0 a_183 rfl rfl rfl rfl) (p1 rfl (li rfl (cv b_192 rfl rfl rfl rfl (fun w' hs => (laws_szPattern w' [(.string a.Pattern.Rel), u1] a.Pattern left (rd_at hs hb4) (by first | assumption | omega | (unfold szm at *; split at * <;> omega)) (by first | assumption | omega | (unfold szm at *; split at * <;> omega)) ho.2)) ?_))))))))))
 refine p1 rfl (D_end (x_then (C_seq (C_seq (C_reg (p1 rfl <| p1 rfl (D_end (x_then (C_if _ rfl (fun h6 => ?_) (fun h6 => ?_))))))))))
 ·have pr6 : ((szm (szPattern a.Pattern) left) : Int) < 0 := of_decide_eq_true h6
  refine C_seq (C_reg (p1 rfl (D_end (x_then (C_ret (x_then_ret (Ri rfl rfl ?_)))))))
  show ((-1) : Int) = _
  unfold szAction szm at *; repeat (split at * <;> try omega)
 ·have pr6 : ¬ ((szm (szPattern a.Pattern) left) : Int) < 0 := of_decide_eq_false h6
  have pr6z := szm_val (n := (szPattern a.Pattern)) (left := left) pr6
  refine C_skip (x_then (C_seq (C_reg (p1 rfl <| p1 rfl (D_end (x_then (C_ret (Ri rfl rfl ?_))))))))
  show ((szm (szPattern a.Pattern) left) : Int) = _
  unfold szAction szm at *; repeat (split at * <;> try omega)

theorem laws_toAction (w : World) (c_a : List Value) (a : Action) (h_a : Gd.rd w c_a a) (hn : szAction a ≤ 1048576) : Calls Tryz.prog 162 [(.agg c_a.toArray)].toArray w (Res w (a : Action)) := by
 obtain ⟨u1, rfl, hu2⟩ := open_Action h_a
 have hm3 := rd_max hu2
 have hb4 := sub_Action_Pattern h_a
 unfold szAction at hn
 refine enter 12 Tryz.func162 rfl rfl rfl (C_seq (C_reg (li rfl (D_box rfl rfl rfl rfl rfl fun g5 => ?_))))
 refine li rfl (D_alloc y_159 rfl rfl rfl rfl fun g6 => ?_)
 refine D_end (x_then (D_H ([bx g6 [(.int .i64 0), (.string ⟨#[]⟩), (.slice none 0 0)], bx g5 [(.int .i64 a.Kind), (.string a.Pattern.Rel), u1]]) rfl (C_seq (C_reg (li rfl (D_alloc y_159 rfl rfl rfl rfl fun g7 => ?_))))))
 refine D_end (x_then (D_H ([bx g7 [(.int .i64 0), (.string ⟨#[]⟩), (.slice none 0 0)], bx g6 [(.int .i64 0), (.string ⟨#[]⟩), (.slice none 0 0)], bx g5 [(.int .i64 a.Kind), (.string a.Pattern.Rel), u1]]) rfl (C_seq (C_reg (q1 rfl (D_fb f_188_0 rfl rfl (q := 0) rfl) (q1 rfl (lb 2 o_3 rfl rfl rfl rfl) (q1 rfl (D_fb f_159_0 rfl rfl (q := 0) rfl) (li rfl (D_stb (vs := [(.int .i64 a.Kind)]) (cs' := [(.int .i64 a.Kind), (.string ⟨#[]⟩), (.slice none 0 0)]) 0 z_3 rfl rfl rfl rfl rfl rfl (ocons rfl onil) (by simp) rfl ?_)))))))))
 refine D_end (x_then (D_H ([bx g7 [(.int .i64 a.Kind), (.string ⟨#[]⟩), (.slice none 0 0)], bx g6 [(.int .i64 0), (.string ⟨#[]⟩), (.slice none 0 0)], bx g5 [(.int .i64 a.Kind), (.string a.Pattern.Rel), u1]]) rfl (C_seq (C_reg (q1 rfl (D_fb f_188_1 rfl rfl (q := 1) rfl) (q1 rfl (lba (es := [(.string a.Pattern.Rel), u1]) 2 a_183 rfl rfl rfl rfl) (li rfl (crs rfl b_197 rfl rfl rfl rfl (fun w' hs => (laws_toPattern w' [(.string a.Pattern.Rel), u1] a.Pattern (rd_at hs hb4) (by first | assumption | omega | (unfold szm at *; split at * <;> omega)))) fun cs8 => ?_))))))))
 refine D_pre (fun w' hs => shape_Pattern (rd_own (k := 0) hs rfl)) ?_
 rintro ⟨v9, rfl, ho10⟩
 refine q1 rfl (D_fb f_159_1 rfl rfl (q := 1) rfl) (li rfl (D_stb (vs := [(.string a.Pattern.Rel), v9]) (cs' := [(.int .i64 a.Kind), (.string a.Pattern.Rel), v9]) 1 z_145 rfl rfl rfl rfl rfl rfl (ocons rfl (ocons ho10 onil)) (by simp) rfl ?_))
 refine D_end (x_then (D_H ([ov [(.string a.Pattern.Rel), v9] (a.Pattern : Pattern), bx g7 [(.int .i64 a.Kind), (.string a.Pattern.Rel), v9], bx g6 [(.int .i64 0), (.string ⟨#[]⟩), (.slice none 0 0)], bx g5 [(.int .i64 a.Kind), (.string a.Pattern.Rel), u1]]) rfl (C_seq (C_reg (q1 rfl (lbw 1 a_159 rfl rfl rfl) (li rfl (D_stb (vs := [(.int .i64 a.Kind), (.string a.Pattern.Rel), v9]) (cs' := [(.int .i64 a.Kind), (.string a.Pattern.Rel), v9]) 2 z_159 rfl rfl rfl rfl rfl rfl (ocons rfl (ocons rfl (ocons ho10 onil))) (by simp) rfl ?_)))))))
 refine D_end (x_then (C_ret (D_unpair (α := ByteArray) (β := (List ByteArray)) (c1 := [(.string a.Pattern.Rel)]) (c2 := [v9]) (x := a.Pattern.Rel) (y := (a.Pattern.Args)) rfl rfl (D_fd [] 1 rfl (pk_Action (r := (a : Action)) (R_c 2 a_159 rfl rfl rfl fun w' hs => res_of (k := 0) hs rfl ?_))))))
 show (a : Action) = a
 rfl

theorem laws_eqAction (w : World) (c_a : List Value) (a : Action) (c_b : List Value) (b : Action) (h_a : Gd.rd w c_a a) (h_b : Gd.rd w c_b b) : Calls Tryz.prog 175 [(.agg c_a.toArray), (.agg c_b.toArray)].toArray w (Val w (.bool (decide (a = b)))) := by
 obtain ⟨u1, rfl, hu2⟩ := open_Action h_a
 have hm3 := rd_max hu2
 have hb4 := sub_Action_Pattern h_a
 obtain ⟨u5, rfl, hu6⟩ := open_Action h_b
 have hm7 := rd_max hu6
 have hb8 := sub_Action_Pattern h_b
 refine enter 16 Tryz.func175 rfl rfl rfl (C_seq (C_reg (li rfl (D_box rfl rfl rfl rfl rfl fun g9 => ?_))))
 refine li rfl (D_box rfl rfl rfl rfl rfl fun g10 => ?_)
 refine p1 rfl (D_end (x_then (D_H ([bx g10 [(.int .i64 b.Kind), (.string b.Pattern.Rel), u5], bx g9 [(.int .i64 a.Kind), (.string a.Pattern.Rel), u1]]) rfl (C_seq (C_seq (C_reg (q1 rfl (D_fb f_159_0 rfl rfl (q := 0) rfl) (q1 rfl (lb 1 o_3 rfl rfl rfl rfl) (q1 rfl (D_fb f_159_0 rfl rfl (q := 0) rfl) (q1 rfl (lb 0 o_3 rfl rfl rfl rfl) (p1 rfl ?_)))))))))))
 refine D_end (x_then (C_if _ rfl (fun h11 => ?_) (fun h11 => ?_)))
 ·have pr11 : (a.Kind : Int) ≠ b.Kind := bne_iff_ne.1 h11
  refine C_seq (C_reg (p1 rfl (D_end (x_then (C_ret (x_then_ret (Rb rfl rfl ?_)))))))
  cases a; cases b; simp_all
 ·have pr11 : (a.Kind : Int) = b.Kind := eq_of_bne_f h11
  refine C_skip (x_then (C_seq (C_seq (C_reg (q1 rfl (D_fb f_159_1 rfl rfl (q := 1) rfl) (q1 rfl (lba (es := [(.string a.Pattern.Rel), u1]) 1 a_145 rfl rfl rfl rfl) (q1 rfl (D_fb f_159_1 rfl rfl (q := 1) rfl) (q1 rfl (lba (es := [(.string b.Pattern.Rel), u5]) 0 a_145 rfl rfl rfl rfl) (li rfl (cv b_205 rfl rfl rfl rfl (fun w' hs => (laws_eqPattern w' [(.string a.Pattern.Rel), u1] a.Pattern [(.string b.Pattern.Rel), u5] b.Pattern (rd_at hs hb4) (rd_at hs hb8))) ?_))))))))))
  refine p1 rfl (D_end (x_then (D_weak [(15, (.bool (!(decide (a.Pattern = b.Pattern)))))] ⟨rfl, trivial⟩ (D_sel (H' := []) [false, false] rfl (C_if _ rfl (fun h12 => ?_) (fun h12 => ?_))))))
  ·have h12n : (decide (a.Pattern = b.Pattern)) = false := not_t h12
   refine C_seq (C_reg (p1 rfl (D_end (x_then (C_ret (x_then_ret (Rb rfl rfl ?_)))))))
   cases a; cases b; simp_all
  ·have h12n : (decide (a.Pattern = b.Pattern)) = true := not_f h12
   refine C_skip (x_then (C_seq (C_reg (p1 rfl (D_end (x_then (C_ret (Rb rfl rfl ?_))))))))
   cases a; cases b; simp_all

theorem laws_szCondS (w : World) (v_a : Value) (a : (List Cond)) (left : Int) (h_a : Gd.rd w [v_a] a) (h0 : 0 ≤ left) (h1 : left ≤ 1048576) (ho : okL okCond a) : Calls Tryz.prog 95 [v_a, (.int .i64 left)].toArray w (Val w (.int .i64 (szm (szL szCond a) left))) := by
 have hm1 := rd_max h_a
 refine enter 27 Tryz.func95 rfl rfl rfl (C_seq (C_reg (p1 rfl (D_end (x_then (C_seq (C_reg (p1 rfl <| p1 rfl (q1 rfl (D_len s_78 rfl rfl (rd_sl h_a)) (q1 rfl (D_sub rfl rfl rfl rfl (by omega)) (p1 rfl ?_)))))))))))
 refine D_end (x_then (C_seq (C_seq (C_reg (p1 rfl <| p1 rfl (D_end (x_then (C_if _ rfl (fun h2 => ?_) (fun h2 => ?_)))))))))
 ·have pr2 : ((left - ((a.length : Nat) : Int)) : Int) < 0 := of_decide_eq_true h2
  refine C_seq (C_reg (p1 rfl (D_end (x_then (C_ret (x_then_ret (Ri rfl rfl ?_)))))))
  show ((-1) : Int) = _
  refine (szm_neg ?_).symm; unfold szL; omega
 ·have pr2 : ¬ ((left - ((a.length : Nat) : Int)) : Int) < 0 := of_decide_eq_false h2
  refine C_skip (x_then (C_seq (C_seq (C_reg (p1 rfl (D_end (x_then (C_block (C_loop (fun m_ ac w' => ∃ (k : Nat), ∃ (lf : Int), (k ≤ a.length) ∧ (0 ≤ lf ∧ lf = left - a.length - sumC szCond (a.take k)) ∧ m_ = a.length - k ∧ Fits ac 27 [(0, v_a), (1, (.int .i64 lf)), (5, (.int .i64 ((k : Nat) : Int)))] ∧ St w ([]) w') ?_ ?_)))))))))
  ·refine fun ac w' hf hs => ⟨_, 0, (left - ((a.length : Nat) : Int)), ?_, ?_, rfl, hf.weak ⟨rfl, rfl, rfl, trivial⟩, hs⟩
   ·first | assumption | omega | simp
   ·simp [sumC]; omega
  ·rintro m_ ac w' ⟨k, lf, hk, hl, rfl, hf, hs⟩
   refine D.use ?_ hf hs
   clear hf hs ac w'
   have ht := sumC_take_le a szCond k
   refine C_seq (C_seq (C_reg (p1 rfl <| p1 rfl (q1 rfl (D_len s_78 rfl rfl (rd_sl h_a)) (p1 rfl (D_end (x_then (C_if _ rfl (fun h3 => ?_) (fun h3 => ?_)))))))))
   ·have pr3 : (((k : Nat) : Int) : Int) < ((a.length : Nat) : Int) := of_decide_eq_true h3
    refine C_skip (x_then (C_seq (C_block (C_seq (C_reg (p1 rfl <| p1 rfl ?_))))))
    obtain ⟨r0, hr0⟩ := some_of_lt (l := a) (i := k) (by omega)
    have hro := ho _ (List.mem_of_getElem? hr0)
    have ht1 := sumC_take_le a szCond (k + 1)
    have hst := sumC_take (c := szCond) hr0
    obtain ⟨es4, at5, hr6⟩ := rd_elem (n := 5) rfl h_a hr0
    obtain ⟨u7, rfl, hu8⟩ := open_Cond hr6
    have hm9 := rd_max hu8
    have hb10 := sub_Cond_Pattern hr6
    refine q1 rfl (D_ix (l := a) (j := k) s_78 rfl rfl rfl (fun w' hs => (rd_at hs h_a)) rfl (lt_of_some hr0)) (q1 rfl (lra a_185 rfl rfl at5) (p1 rfl (li rfl (cv b_150 rfl rfl rfl rfl (fun w' hs => (laws_szCond w' [(.int .i64 r0.Kind), (.string r0.Pattern.Rel), u7, (.string r0.Left), (.string r0.Right)] r0 lf (rd_at hs hr6) (by first | assumption | omega | (unfold szm at *; split at * <;> omega)) (by first | assumption | omega | (unfold szm at *; split at * <;> omega)) hro)) ?_))))
    refine p1 rfl (D_end (x_then (C_seq (C_reg (p1 rfl <| p1 rfl (D_end (x_then (C_if _ rfl (fun h11 => ?_) (fun h11 => ?_)))))))))
    ·have pr11 : ((szm (szCond r0) lf) : Int) < 0 := of_decide_eq_true h11
     refine C_seq (C_reg (p1 rfl (D_end (x_then (C_ret (x_blk_ret (x_then_ret (x_then_ret (x_blk_ret (x_then_ret (Ri rfl rfl ?_)))))))))))
     show ((-1) : Int) = _
     refine (szm_neg ?_).symm; unfold szL; unfold szm at *; split at * <;> omega
    ·have pr11 : ¬ ((szm (szCond r0) lf) : Int) < 0 := of_decide_eq_false h11
     have pr11z := szm_val (n := (szCond r0)) (left := lf) pr11
     refine C_skip (x_blk (x_then (C_reg (p1 rfl (q1 rfl (D_add rfl rfl rfl (r := ((k + 1 : Nat) : Int)) (by omega) (by omega)) (p1 rfl (D_end (x_then (fun ac w' hf hs => ⟨_, ?_, k + 1, (szm (szCond r0) lf), ?_, ?_, rfl, hf.weak ⟨rfl, rfl, rfl, trivial⟩, hs⟩)))))))))
     ·omega
     ·first | assumption | omega | simp
     ·rw [hst]; unfold szm at *; split at * <;> omega
   ·have pr3 : ¬ (((k : Nat) : Int) : Int) < ((a.length : Nat) : Int) := of_decide_eq_false h3
    refine C_exit (x_then_exit (x_then_exit (x_blk_eq (x_then (C_seq (C_reg (p1 rfl <| p1 rfl (D_end (x_then (C_ret (Ri rfl rfl ?_)))))))))))
    show (lf : Int) = _
    rw [szm_pos]; all_goals (unfold szL; rw [List.take_of_length_le (by omega)] at hl; omega)

theorem laws_toCondS (w : World) (v_a : Value) (a : (List Cond)) (h_a : Gd.rd w [v_a] a) (hn : szL szCond a ≤ 1048576) : Calls Tryz.prog 105 [v_a].toArray w (Res w (a : List Cond)) := by
 have hm1 := rd_max h_a
 unfold szL at hn
 refine enter 23 Tryz.func105 rfl rfl rfl (C_seq (C_reg (p1 rfl (D_end (x_then (C_seq (C_reg (p1 rfl (q1 rfl (D_len s_78 rfl rfl (rd_sl h_a)) (li rfl (D_mkG (α := Cond) (z0 := z0_Cond) s_93 y_147 rfl rfl rfl rfl rfl rfl zz_Cond (by omega) (by omega) fun v2 => ?_)))))))))))
 refine p1 rfl (D_end (x_then (D_H ([ov [v2] (List.replicate a.length z0_Cond : (List Cond))]) rfl (C_seq (C_seq (C_reg (p1 rfl (D_end (x_then (C_block (C_loop (fun m_ ac w' => ∃ (k : Nat), ∃ (v : Value), (k ≤ a.length) ∧ m_ = a.length - k ∧ Fits ac 23 [(0, v_a), (3, v), (4, (.int .i64 ((k : Nat) : Int)))] ∧ St w ([ov [v] (cp a z0_Cond k : (List Cond))]) w') ?_ ?_)))))))))))
 ·refine D_eq 0 rfl (show (List.replicate a.length z0_Cond : (List Cond)) = cp a z0_Cond 0 from by rw [cp_zero]) (fun ac w' hf hs => ⟨_, 0, v2, ?_, rfl, hf.weak ⟨rfl, rfl, rfl, trivial⟩, hs⟩)
  ·first | assumption | omega | simp
 ·rintro m_ ac w' ⟨k, v, hk, rfl, hf, hs⟩
  refine D.use ?_ hf hs
  clear hf hs ac w'
  have hcl := cp_len a z0_Cond k hk
  refine C_seq (C_seq (C_reg (p1 rfl <| p1 rfl (q1 rfl (D_len s_78 rfl rfl (rd_sl h_a)) (p1 rfl (D_end (x_then (D_H ([ov [v] (cp a z0_Cond k : (List Cond))]) rfl (C_if _ rfl (fun h3 => ?_) (fun h3 => ?_))))))))))
  ·have pr3 : (((k : Nat) : Int) : Int) < ((a.length : Nat) : Int) := of_decide_eq_true h3
   refine C_skip (x_then (C_seq (C_block (C_reg (p1 rfl <| p1 rfl <| p1 rfl <| p1 rfl ?_)))))
   obtain ⟨x4, hx5⟩ := some_of_lt (l := a) (i := k) (by omega)
   have hle := sumC_mem (c := szCond) (mem_idx hx5)
   obtain ⟨es6, at7, hr8⟩ := rd_elem (n := 5) rfl h_a hx5
   obtain ⟨u9, rfl, hu10⟩ := open_Cond hr8
   have hm11 := rd_max hu10
   have hb12 := sub_Cond_Pattern hr8
   refine q1 rfl (D_ix (l := a) (j := k) s_78 rfl rfl rfl (fun w' hs => (rd_at hs h_a)) rfl (lt_of_some hx5)) (q1 rfl (lra a_185 rfl rfl at7) (li rfl (crs rfl b_161 rfl rfl rfl rfl (fun w' hs => (laws_toCond w' [(.int .i64 x4.Kind), (.string x4.Pattern.Rel), u9, (.string x4.Left), (.string x4.Right)] x4 (rd_at hs hr8) (by first | assumption | omega | (unfold szm at *; split at * <;> omega)))) fun cs13 => ?_)))
   refine D_pre (fun w' hs => shape_Cond (rd_own (k := 0) hs rfl)) ?_
   rintro ⟨v14, rfl, ho15⟩
   obtain ⟨x16, hx17⟩ := some_of_lt (l := (cp a z0_Cond k)) (i := k) (by omega)
   refine q1 rfl (D_ix (l := (cp a z0_Cond k)) (j := k) s_93 rfl rfl rfl (fun w' hs => (rd_own (k := 1) hs rfl)) rfl (lt_of_some hx17)) (D_pk (H' := [ov [v] (cp a z0_Cond k : (List Cond)), ov [(.int .i64 x4.Kind), (.string x4.Pattern.Rel), v14, (.string x4.Left), (.string x4.Right)] (x4 : Cond)]) [1, 0] rfl rfl (li rfl (soG (α := Cond) rfl z_147 rfl rfl rfl rfl rfl (lt_of_some hx17) ?_)))
   refine D_end (x_blk (x_then (D_H ([ov [v] ((cp a z0_Cond k).set k x4 : (List Cond))]) rfl (C_reg (p1 rfl (q1 rfl (D_add rfl rfl rfl (r := ((k + 1 : Nat) : Int)) (by omega) (by omega)) (p1 rfl (D_end (x_then (D_eq 0 rfl (show ((cp a z0_Cond k).set k x4 : (List Cond)) = cp a z0_Cond (k + 1) from by rw [cp_set (by assumption)]) (fun ac w' hf hs => ⟨_, ?_, k + 1, v, ?_, rfl, hf.weak ⟨rfl, rfl, rfl, trivial⟩, hs⟩)))))))))))
   ·omega
   ·first | assumption | omega | simp
  ·have pr3 : ¬ (((k : Nat) : Int) : Int) < ((a.length : Nat) : Int) := of_decide_eq_false h3
   refine C_exit (x_then_exit (x_then_exit (x_blk_eq (x_then (C_seq (C_reg (p1 rfl <| p1 rfl (D_end (x_then (C_ret (R_1 rfl rfl fun w' hs => res_of (k := 0) hs rfl ?_)))))))))))
   show cp a z0_Cond k = a
   exact cp_done (by omega)

theorem laws_eqCondS (w : World) (v_a : Value) (a : (List Cond)) (v_b : Value) (b : (List Cond)) (h_a : Gd.rd w [v_a] a) (h_b : Gd.rd w [v_b] b) : Calls Tryz.prog 115 [v_a, v_b].toArray w (Val w (.bool (decide (a = b)))) := by
 have hm1 := rd_max h_a
 have hm2 := rd_max h_b
 refine enter 27 Tryz.func115 rfl rfl rfl (C_seq (C_reg (p1 rfl (D_end (x_then (C_seq (C_seq (C_reg (p1 rfl (q1 rfl (D_len s_93 rfl rfl (rd_sl h_a)) (p1 rfl ?_)))))))))))
 refine q1 rfl (D_len s_93 rfl rfl (rd_sl h_b)) (p1 rfl (D_end (x_then (C_if _ rfl (fun h3 => ?_) (fun h3 => ?_)))))
 ·have pr3 : (((a.length : Nat) : Int) : Int) ≠ ((b.length : Nat) : Int) := bne_iff_ne.1 h3
  refine C_seq (C_reg (p1 rfl (D_end (x_then (C_ret (x_then_ret (Rb rfl rfl ?_)))))))
  simp; intro e; subst e; simp_all
 ·have pr3 : (((a.length : Nat) : Int) : Int) = ((b.length : Nat) : Int) := eq_of_bne_f h3
  refine C_skip (x_then (C_seq (C_seq (C_reg (p1 rfl (D_end (x_then (C_block (C_loop (fun m_ ac w' => ∃ (k : Nat), (k ≤ a.length) ∧ (∀ i, i < k → a[i]? = b[i]?) ∧ m_ = a.length - k ∧ Fits ac 27 [(0, v_a), (1, v_b), (5, (.int .i64 ((k : Nat) : Int)))] ∧ St w ([]) w') ?_ ?_)))))))))
  ·refine fun ac w' hf hs => ⟨_, 0, ?_, ?_, rfl, hf.weak ⟨rfl, rfl, rfl, trivial⟩, hs⟩
   ·first | assumption | omega | simp
   ·intro i hi; omega
  ·rintro m_ ac w' ⟨k, hk, hi, rfl, hf, hs⟩
   refine D.use ?_ hf hs
   clear hf hs ac w'
   refine C_seq (C_seq (C_reg (p1 rfl <| p1 rfl (q1 rfl (D_len s_93 rfl rfl (rd_sl h_a)) (p1 rfl (D_end (x_then (C_if _ rfl (fun h4 => ?_) (fun h4 => ?_)))))))))
   ·have pr4 : (((k : Nat) : Int) : Int) < ((a.length : Nat) : Int) := of_decide_eq_true h4
    refine C_skip (x_then (C_seq (C_block (C_seq (C_draw mixed [8, 9] (by kernel_rfl) (tk 0 rfl (by kernel_rfl) (by kernel_rfl) (by kernel_rfl) rfl (fun _ hs => hs) (rp rfl) (tk 1 rfl (by kernel_rfl) (by kernel_rfl) (by kernel_rfl) rfl (fun _ hs => hs) (rp rfl) ?_)))))))
    obtain ⟨x5, hx6⟩ := some_of_lt (l := a) (i := k) (by omega)
    obtain ⟨es7, at8, hr9⟩ := rd_elem (n := 5) rfl h_a hx6
    obtain ⟨u10, rfl, hu11⟩ := open_Cond hr9
    have hm12 := rd_max hu11
    have hb13 := sub_Cond_Pattern hr9
    refine tk 2 rfl (by kernel_rfl) (by kernel_rfl) (by kernel_rfl) rfl (fun _ hs => hs) (D_ix (l := a) (j := k) s_93 rfl rfl rfl (fun w' hs => (rd_at hs h_a)) rfl (lt_of_some hx6)) (tk 3 rfl (by kernel_rfl) (by kernel_rfl) (by kernel_rfl) rfl (fun _ hs => hs) (lra a_147 rfl rfl at8) (tk 4 rfl (by kernel_rfl) (by kernel_rfl) (by kernel_rfl) rfl (fun _ hs => hs) (rp rfl) (tk 5 rfl (by kernel_rfl) (by kernel_rfl) (by kernel_rfl) rfl (fun _ hs => hs) (rp rfl) ?_)))
    obtain ⟨x14, hx15⟩ := some_of_lt (l := b) (i := k) (by omega)
    obtain ⟨es16, at17, hr18⟩ := rd_elem (n := 5) rfl h_b hx15
    obtain ⟨u19, rfl, hu20⟩ := open_Cond hr18
    have hm21 := rd_max hu20
    have hb22 := sub_Cond_Pattern hr18
    refine tk 6 rfl (by kernel_rfl) (by kernel_rfl) (by kernel_rfl) rfl (fun _ hs => hs) (D_ix (l := b) (j := k) s_93 rfl rfl rfl (fun w' hs => (rd_at hs h_b)) rfl (lt_of_some hx15)) (tk 7 rfl (by kernel_rfl) (by kernel_rfl) (by kernel_rfl) rfl (fun _ hs => hs) (lra a_147 rfl rfl at17) (ty 8 rfl (by kernel_rfl) rfl (cv b_174 rfl rfl rfl rfl (fun w' hs => (laws_eqCond w' [(.int .i64 x5.Kind), (.string x5.Pattern.Rel), u10, (.string x5.Left), (.string x5.Right)] x5 [(.int .i64 x14.Kind), (.string x14.Pattern.Rel), u19, (.string x14.Left), (.string x14.Right)] x14 (rd_at hs hr9) (rd_at hs hr18))) ?_)))
    refine tZ rfl (ty 9 rfl (by kernel_rfl) rfl (sv rfl rfl (rp rfl) ?_))
    refine tZ rfl (tE (by kernel_rfl) (x_then (C_if _ rfl (fun h23 => ?_) (fun h23 => ?_))))
    ·have h23n : (decide (x5 = x14)) = false := not_t h23
     refine C_seq (C_reg (p1 rfl (D_end (x_then (C_ret (x_blk_ret (x_then_ret (x_then_ret (x_blk_ret (x_then_ret (Rb rfl rfl ?_)))))))))))
     simp; intro e; subst e; simp_all
    ·have h23n : (decide (x5 = x14)) = true := not_f h23
     refine C_skip (x_blk (x_then (C_reg (p1 rfl (q1 rfl (D_add rfl rfl rfl (r := ((k + 1 : Nat) : Int)) (by omega) (by omega)) (p1 rfl (D_end (x_then (fun ac w' hf hs => ⟨_, ?_, k + 1, ?_, ?_, rfl, hf.weak ⟨rfl, rfl, rfl, trivial⟩, hs⟩)))))))))
     ·omega
     ·first | assumption | omega | simp
     ·refine idx_step hi (by assumption) (by assumption) ?_; first | (simp_all; done) | (apply Fact.mk_eq <;> simp_all)
   ·have pr4 : ¬ (((k : Nat) : Int) : Int) < ((a.length : Nat) : Int) := of_decide_eq_false h4
    refine C_exit (x_then_exit (x_then_exit (x_blk_eq (x_then (C_seq (C_reg (p1 rfl (D_end (x_then (C_ret (Rb rfl rfl ?_)))))))))))
    simp; exact eq_of_idx (by omega) (fun i h => hi i (by omega))

theorem laws_szActionS (w : World) (v_a : Value) (a : (List Action)) (left : Int) (h_a : Gd.rd w [v_a] a) (h0 : 0 ≤ left) (h1 : left ≤ 1048576) (ho : okL okAction a) : Calls Tryz.prog 96 [v_a, (.int .i64 left)].toArray w (Val w (.int .i64 (szm (szL szAction a) left))) := by
 have hm1 := rd_max h_a
 refine enter 27 Tryz.func96 rfl rfl rfl (C_seq (C_reg (p1 rfl (D_end (x_then (C_seq (C_reg (p1 rfl <| p1 rfl (q1 rfl (D_len s_79 rfl rfl (rd_sl h_a)) (q1 rfl (D_sub rfl rfl rfl rfl (by omega)) (p1 rfl ?_)))))))))))
 refine D_end (x_then (C_seq (C_seq (C_reg (p1 rfl <| p1 rfl (D_end (x_then (C_if _ rfl (fun h2 => ?_) (fun h2 => ?_)))))))))
 ·have pr2 : ((left - ((a.length : Nat) : Int)) : Int) < 0 := of_decide_eq_true h2
  refine C_seq (C_reg (p1 rfl (D_end (x_then (C_ret (x_then_ret (Ri rfl rfl ?_)))))))
  show ((-1) : Int) = _
  refine (szm_neg ?_).symm; unfold szL; omega
 ·have pr2 : ¬ ((left - ((a.length : Nat) : Int)) : Int) < 0 := of_decide_eq_false h2
  refine C_skip (x_then (C_seq (C_seq (C_reg (p1 rfl (D_end (x_then (C_block (C_loop (fun m_ ac w' => ∃ (k : Nat), ∃ (lf : Int), (k ≤ a.length) ∧ (0 ≤ lf ∧ lf = left - a.length - sumC szAction (a.take k)) ∧ m_ = a.length - k ∧ Fits ac 27 [(0, v_a), (1, (.int .i64 lf)), (5, (.int .i64 ((k : Nat) : Int)))] ∧ St w ([]) w') ?_ ?_)))))))))
  ·refine fun ac w' hf hs => ⟨_, 0, (left - ((a.length : Nat) : Int)), ?_, ?_, rfl, hf.weak ⟨rfl, rfl, rfl, trivial⟩, hs⟩
   ·first | assumption | omega | simp
   ·simp [sumC]; omega
  ·rintro m_ ac w' ⟨k, lf, hk, hl, rfl, hf, hs⟩
   refine D.use ?_ hf hs
   clear hf hs ac w'
   have ht := sumC_take_le a szAction k
   refine C_seq (C_seq (C_reg (p1 rfl <| p1 rfl (q1 rfl (D_len s_79 rfl rfl (rd_sl h_a)) (p1 rfl (D_end (x_then (C_if _ rfl (fun h3 => ?_) (fun h3 => ?_)))))))))
   ·have pr3 : (((k : Nat) : Int) : Int) < ((a.length : Nat) : Int) := of_decide_eq_true h3
    refine C_skip (x_then (C_seq (C_block (C_seq (C_reg (p1 rfl <| p1 rfl ?_))))))
    obtain ⟨r0, hr0⟩ := some_of_lt (l := a) (i := k) (by omega)
    have hro := ho _ (List.mem_of_getElem? hr0)
    have ht1 := sumC_take_le a szAction (k + 1)
    have hst := sumC_take (c := szAction) hr0
    obtain ⟨es4, at5, hr6⟩ := rd_elem (n := 3) rfl h_a hr0
    obtain ⟨u7, rfl, hu8⟩ := open_Action hr6
    have hm9 := rd_max hu8
    have hb10 := sub_Action_Pattern hr6
    refine q1 rfl (D_ix (l := a) (j := k) s_79 rfl rfl rfl (fun w' hs => (rd_at hs h_a)) rfl (lt_of_some hr0)) (q1 rfl (lra a_188 rfl rfl at5) (p1 rfl (li rfl (cv b_151 rfl rfl rfl rfl (fun w' hs => (laws_szAction w' [(.int .i64 r0.Kind), (.string r0.Pattern.Rel), u7] r0 lf (rd_at hs hr6) (by first | assumption | omega | (unfold szm at *; split at * <;> omega)) (by first | assumption | omega | (unfold szm at *; split at * <;> omega)) hro)) ?_))))
    refine p1 rfl (D_end (x_then (C_seq (C_reg (p1 rfl <| p1 rfl (D_end (x_then (C_if _ rfl (fun h11 => ?_) (fun h11 => ?_)))))))))
    ·have pr11 : ((szm (szAction r0) lf) : Int) < 0 := of_decide_eq_true h11
     refine C_seq (C_reg (p1 rfl (D_end (x_then (C_ret (x_blk_ret (x_then_ret (x_then_ret (x_blk_ret (x_then_ret (Ri rfl rfl ?_)))))))))))
     show ((-1) : Int) = _
     refine (szm_neg ?_).symm; unfold szL; unfold szm at *; split at * <;> omega
    ·have pr11 : ¬ ((szm (szAction r0) lf) : Int) < 0 := of_decide_eq_false h11
     have pr11z := szm_val (n := (szAction r0)) (left := lf) pr11
     refine C_skip (x_blk (x_then (C_reg (p1 rfl (q1 rfl (D_add rfl rfl rfl (r := ((k + 1 : Nat) : Int)) (by omega) (by omega)) (p1 rfl (D_end (x_then (fun ac w' hf hs => ⟨_, ?_, k + 1, (szm (szAction r0) lf), ?_, ?_, rfl, hf.weak ⟨rfl, rfl, rfl, trivial⟩, hs⟩)))))))))
     ·omega
     ·first | assumption | omega | simp
     ·rw [hst]; unfold szm at *; split at * <;> omega
   ·have pr3 : ¬ (((k : Nat) : Int) : Int) < ((a.length : Nat) : Int) := of_decide_eq_false h3
    refine C_exit (x_then_exit (x_then_exit (x_blk_eq (x_then (C_seq (C_reg (p1 rfl <| p1 rfl (D_end (x_then (C_ret (Ri rfl rfl ?_)))))))))))
    show (lf : Int) = _
    rw [szm_pos]; all_goals (unfold szL; rw [List.take_of_length_le (by omega)] at hl; omega)

theorem laws_toActionS (w : World) (v_a : Value) (a : (List Action)) (h_a : Gd.rd w [v_a] a) (hn : szL szAction a ≤ 1048576) : Calls Tryz.prog 106 [v_a].toArray w (Res w (a : List Action)) := by
 have hm1 := rd_max h_a
 unfold szL at hn
 refine enter 23 Tryz.func106 rfl rfl rfl (C_seq (C_reg (p1 rfl (D_end (x_then (C_seq (C_reg (p1 rfl (q1 rfl (D_len s_79 rfl rfl (rd_sl h_a)) (li rfl (D_mkG (α := Action) (z0 := z0_Action) s_94 y_159 rfl rfl rfl rfl rfl rfl zz_Action (by omega) (by omega) fun v2 => ?_)))))))))))
 refine p1 rfl (D_end (x_then (D_H ([ov [v2] (List.replicate a.length z0_Action : (List Action))]) rfl (C_seq (C_seq (C_reg (p1 rfl (D_end (x_then (C_block (C_loop (fun m_ ac w' => ∃ (k : Nat), ∃ (v : Value), (k ≤ a.length) ∧ m_ = a.length - k ∧ Fits ac 23 [(0, v_a), (3, v), (4, (.int .i64 ((k : Nat) : Int)))] ∧ St w ([ov [v] (cp a z0_Action k : (List Action))]) w') ?_ ?_)))))))))))
 ·refine D_eq 0 rfl (show (List.replicate a.length z0_Action : (List Action)) = cp a z0_Action 0 from by rw [cp_zero]) (fun ac w' hf hs => ⟨_, 0, v2, ?_, rfl, hf.weak ⟨rfl, rfl, rfl, trivial⟩, hs⟩)
  ·first | assumption | omega | simp
 ·rintro m_ ac w' ⟨k, v, hk, rfl, hf, hs⟩
  refine D.use ?_ hf hs
  clear hf hs ac w'
  have hcl := cp_len a z0_Action k hk
  refine C_seq (C_seq (C_reg (p1 rfl <| p1 rfl (q1 rfl (D_len s_79 rfl rfl (rd_sl h_a)) (p1 rfl (D_end (x_then (D_H ([ov [v] (cp a z0_Action k : (List Action))]) rfl (C_if _ rfl (fun h3 => ?_) (fun h3 => ?_))))))))))
  ·have pr3 : (((k : Nat) : Int) : Int) < ((a.length : Nat) : Int) := of_decide_eq_true h3
   refine C_skip (x_then (C_seq (C_block (C_reg (p1 rfl <| p1 rfl <| p1 rfl <| p1 rfl ?_)))))
   obtain ⟨x4, hx5⟩ := some_of_lt (l := a) (i := k) (by omega)
   have hle := sumC_mem (c := szAction) (mem_idx hx5)
   obtain ⟨es6, at7, hr8⟩ := rd_elem (n := 3) rfl h_a hx5
   obtain ⟨u9, rfl, hu10⟩ := open_Action hr8
   have hm11 := rd_max hu10
   have hb12 := sub_Action_Pattern hr8
   refine q1 rfl (D_ix (l := a) (j := k) s_79 rfl rfl rfl (fun w' hs => (rd_at hs h_a)) rfl (lt_of_some hx5)) (q1 rfl (lra a_188 rfl rfl at7) (li rfl (crs rfl b_162 rfl rfl rfl rfl (fun w' hs => (laws_toAction w' [(.int .i64 x4.Kind), (.string x4.Pattern.Rel), u9] x4 (rd_at hs hr8) (by first | assumption | omega | (unfold szm at *; split at * <;> omega)))) fun cs13 => ?_)))
   refine D_pre (fun w' hs => shape_Action (rd_own (k := 0) hs rfl)) ?_
   rintro ⟨v14, rfl, ho15⟩
   obtain ⟨x16, hx17⟩ := some_of_lt (l := (cp a z0_Action k)) (i := k) (by omega)
   refine q1 rfl (D_ix (l := (cp a z0_Action k)) (j := k) s_94 rfl rfl rfl (fun w' hs => (rd_own (k := 1) hs rfl)) rfl (lt_of_some hx17)) (D_pk (H' := [ov [v] (cp a z0_Action k : (List Action)), ov [(.int .i64 x4.Kind), (.string x4.Pattern.Rel), v14] (x4 : Action)]) [1, 0] rfl rfl (li rfl (soG (α := Action) rfl z_159 rfl rfl rfl rfl rfl (lt_of_some hx17) ?_)))
   refine D_end (x_blk (x_then (D_H ([ov [v] ((cp a z0_Action k).set k x4 : (List Action))]) rfl (C_reg (p1 rfl (q1 rfl (D_add rfl rfl rfl (r := ((k + 1 : Nat) : Int)) (by omega) (by omega)) (p1 rfl (D_end (x_then (D_eq 0 rfl (show ((cp a z0_Action k).set k x4 : (List Action)) = cp a z0_Action (k + 1) from by rw [cp_set (by assumption)]) (fun ac w' hf hs => ⟨_, ?_, k + 1, v, ?_, rfl, hf.weak ⟨rfl, rfl, rfl, trivial⟩, hs⟩)))))))))))
   ·omega
   ·first | assumption | omega | simp
  ·have pr3 : ¬ (((k : Nat) : Int) : Int) < ((a.length : Nat) : Int) := of_decide_eq_false h3
   refine C_exit (x_then_exit (x_then_exit (x_blk_eq (x_then (C_seq (C_reg (p1 rfl <| p1 rfl (D_end (x_then (C_ret (R_1 rfl rfl fun w' hs => res_of (k := 0) hs rfl ?_)))))))))))
   show cp a z0_Action k = a
   exact cp_done (by omega)

theorem laws_eqActionS (w : World) (v_a : Value) (a : (List Action)) (v_b : Value) (b : (List Action)) (h_a : Gd.rd w [v_a] a) (h_b : Gd.rd w [v_b] b) : Calls Tryz.prog 116 [v_a, v_b].toArray w (Val w (.bool (decide (a = b)))) := by
 have hm1 := rd_max h_a
 have hm2 := rd_max h_b
 refine enter 27 Tryz.func116 rfl rfl rfl (C_seq (C_reg (p1 rfl (D_end (x_then (C_seq (C_seq (C_reg (p1 rfl (q1 rfl (D_len s_94 rfl rfl (rd_sl h_a)) (p1 rfl ?_)))))))))))
 refine q1 rfl (D_len s_94 rfl rfl (rd_sl h_b)) (p1 rfl (D_end (x_then (C_if _ rfl (fun h3 => ?_) (fun h3 => ?_)))))
 ·have pr3 : (((a.length : Nat) : Int) : Int) ≠ ((b.length : Nat) : Int) := bne_iff_ne.1 h3
  refine C_seq (C_reg (p1 rfl (D_end (x_then (C_ret (x_then_ret (Rb rfl rfl ?_)))))))
  simp; intro e; subst e; simp_all
 ·have pr3 : (((a.length : Nat) : Int) : Int) = ((b.length : Nat) : Int) := eq_of_bne_f h3
  refine C_skip (x_then (C_seq (C_seq (C_reg (p1 rfl (D_end (x_then (C_block (C_loop (fun m_ ac w' => ∃ (k : Nat), (k ≤ a.length) ∧ (∀ i, i < k → a[i]? = b[i]?) ∧ m_ = a.length - k ∧ Fits ac 27 [(0, v_a), (1, v_b), (5, (.int .i64 ((k : Nat) : Int)))] ∧ St w ([]) w') ?_ ?_)))))))))
  ·refine fun ac w' hf hs => ⟨_, 0, ?_, ?_, rfl, hf.weak ⟨rfl, rfl, rfl, trivial⟩, hs⟩
   ·first | assumption | omega | simp
   ·intro i hi; omega
  ·rintro m_ ac w' ⟨k, hk, hi, rfl, hf, hs⟩
   refine D.use ?_ hf hs
   clear hf hs ac w'
   refine C_seq (C_seq (C_reg (p1 rfl <| p1 rfl (q1 rfl (D_len s_94 rfl rfl (rd_sl h_a)) (p1 rfl (D_end (x_then (C_if _ rfl (fun h4 => ?_) (fun h4 => ?_)))))))))
   ·have pr4 : (((k : Nat) : Int) : Int) < ((a.length : Nat) : Int) := of_decide_eq_true h4
    refine C_skip (x_then (C_seq (C_block (C_seq (C_draw mixed [8, 9] (by kernel_rfl) (tk 0 rfl (by kernel_rfl) (by kernel_rfl) (by kernel_rfl) rfl (fun _ hs => hs) (rp rfl) (tk 1 rfl (by kernel_rfl) (by kernel_rfl) (by kernel_rfl) rfl (fun _ hs => hs) (rp rfl) ?_)))))))
    obtain ⟨x5, hx6⟩ := some_of_lt (l := a) (i := k) (by omega)
    obtain ⟨es7, at8, hr9⟩ := rd_elem (n := 3) rfl h_a hx6
    obtain ⟨u10, rfl, hu11⟩ := open_Action hr9
    have hm12 := rd_max hu11
    have hb13 := sub_Action_Pattern hr9
    refine tk 2 rfl (by kernel_rfl) (by kernel_rfl) (by kernel_rfl) rfl (fun _ hs => hs) (D_ix (l := a) (j := k) s_94 rfl rfl rfl (fun w' hs => (rd_at hs h_a)) rfl (lt_of_some hx6)) (tk 3 rfl (by kernel_rfl) (by kernel_rfl) (by kernel_rfl) rfl (fun _ hs => hs) (lra a_159 rfl rfl at8) (tk 4 rfl (by kernel_rfl) (by kernel_rfl) (by kernel_rfl) rfl (fun _ hs => hs) (rp rfl) (tk 5 rfl (by kernel_rfl) (by kernel_rfl) (by kernel_rfl) rfl (fun _ hs => hs) (rp rfl) ?_)))
    obtain ⟨x14, hx15⟩ := some_of_lt (l := b) (i := k) (by omega)
    obtain ⟨es16, at17, hr18⟩ := rd_elem (n := 3) rfl h_b hx15
    obtain ⟨u19, rfl, hu20⟩ := open_Action hr18
    have hm21 := rd_max hu20
    have hb22 := sub_Action_Pattern hr18
    refine tk 6 rfl (by kernel_rfl) (by kernel_rfl) (by kernel_rfl) rfl (fun _ hs => hs) (D_ix (l := b) (j := k) s_94 rfl rfl rfl (fun w' hs => (rd_at hs h_b)) rfl (lt_of_some hx15)) (tk 7 rfl (by kernel_rfl) (by kernel_rfl) (by kernel_rfl) rfl (fun _ hs => hs) (lra a_159 rfl rfl at17) (ty 8 rfl (by kernel_rfl) rfl (cv b_175 rfl rfl rfl rfl (fun w' hs => (laws_eqAction w' [(.int .i64 x5.Kind), (.string x5.Pattern.Rel), u10] x5 [(.int .i64 x14.Kind), (.string x14.Pattern.Rel), u19] x14 (rd_at hs hr9) (rd_at hs hr18))) ?_)))
    refine tZ rfl (ty 9 rfl (by kernel_rfl) rfl (sv rfl rfl (rp rfl) ?_))
    refine tZ rfl (tE (by kernel_rfl) (x_then (C_if _ rfl (fun h23 => ?_) (fun h23 => ?_))))
    ·have h23n : (decide (x5 = x14)) = false := not_t h23
     refine C_seq (C_reg (p1 rfl (D_end (x_then (C_ret (x_blk_ret (x_then_ret (x_then_ret (x_blk_ret (x_then_ret (Rb rfl rfl ?_)))))))))))
     simp; intro e; subst e; simp_all
    ·have h23n : (decide (x5 = x14)) = true := not_f h23
     refine C_skip (x_blk (x_then (C_reg (p1 rfl (q1 rfl (D_add rfl rfl rfl (r := ((k + 1 : Nat) : Int)) (by omega) (by omega)) (p1 rfl (D_end (x_then (fun ac w' hf hs => ⟨_, ?_, k + 1, ?_, ?_, rfl, hf.weak ⟨rfl, rfl, rfl, trivial⟩, hs⟩)))))))))
     ·omega
     ·first | assumption | omega | simp
     ·refine idx_step hi (by assumption) (by assumption) ?_; first | (simp_all; done) | (apply Fact.mk_eq <;> simp_all)
   ·have pr4 : ¬ (((k : Nat) : Int) : Int) < ((a.length : Nat) : Int) := of_decide_eq_false h4
    refine C_exit (x_then_exit (x_then_exit (x_blk_eq (x_then (C_seq (C_reg (p1 rfl (D_end (x_then (C_ret (Rb rfl rfl ?_)))))))))))
    simp; exact eq_of_idx (by omega) (fun i h => hi i (by omega))

theorem laws_szRule (w : World) (c_a : List Value) (a : Rule) (left : Int) (h_a : Gd.rd w c_a a) (h0 : 0 ≤ left) (h1 : left ≤ 1048576) (ho : okRule a) : Calls Tryz.prog 36 [(.agg c_a.toArray), (.int .i64 left)].toArray w (Val w (.int .i64 (szm (szRule a) left))) := by
 obtain ⟨u1, u3, rfl, hu2, hu4⟩ := open_Rule h_a
 have hm5 := rd_max hu2
 have hm6 := rd_max hu4
 have ho1 : a.Name.size ≤ 9223372036854775807 := ho.1
 refine enter 25 Tryz.func36 rfl rfl rfl (C_seq (C_reg (li rfl (D_box rfl rfl rfl rfl rfl fun g7 => ?_))))
 refine p1 rfl (D_end (x_then (D_H ([bx g7 [(.string a.Name), (.int .i64 a.Priority), u1, u3]]) rfl (C_seq (C_reg (p1 rfl (q1 rfl (D_fb f_81_0 rfl rfl (q := 0) rfl) (q1 rfl (lb 0 o_9 rfl rfl rfl rfl) (q1 rfl (D_lens us_9 rfl rfl) (q1 rfl (D_sub rfl rfl rfl rfl (by omega)) (p1 rfl ?_)))))))))))
 refine D_end (x_then (C_seq (C_seq (C_reg (p1 rfl <| p1 rfl (D_end (x_then (C_if _ rfl (fun h8 => ?_) (fun h8 => ?_)))))))))
 ·have pr8 : ((left - ((a.Name.size : Nat) : Int)) : Int) < 0 := of_decide_eq_true h8
  refine C_seq (C_reg (p1 rfl (D_end (x_then (C_ret (x_then_ret (Ri rfl rfl ?_)))))))
  show ((-1) : Int) = _
  unfold szRule szm at *; repeat (split at * <;> try omega)
 ·have pr8 : ¬ ((left - ((a.Name.size : Nat) : Int)) : Int) < 0 := of_decide_eq_false h8
  refine C_skip (x_then (C_seq (C_reg (q1 rfl (D_fb f_81_2 rfl rfl (q := 2) rfl) (q1 rfl (lb 0 o_78 rfl rfl rfl rfl) (p1 rfl (li rfl (cv b_95 rfl rfl rfl rfl (fun w' hs => (laws_szCondS w' u1 a.If (left - ((a.Name.size : Nat) : Int)) (rd_at hs hu2) (by first | assumption | omega | (unfold szm at *; split at * <;> omega)) (by first | assumption | omega | (unfold szm at *; split at * <;> omega)) ho.2.2.1)) ?_))))))))
  refine p1 rfl (D_end (x_then (C_seq (C_seq (C_reg (p1 rfl <| p1 rfl (D_end (x_then (C_if _ rfl (fun h9 => ?_) (fun h9 => ?_))))))))))
  ·have pr9 : ((szm (szL szCond a.If) (left - ((a.Name.size : Nat) : Int))) : Int) < 0 := of_decide_eq_true h9
   refine C_seq (C_reg (p1 rfl (D_end (x_then (C_ret (x_then_ret (Ri rfl rfl ?_)))))))
   show ((-1) : Int) = _
   unfold szRule szm at *; repeat (split at * <;> try omega)
  ·have pr9 : ¬ ((szm (szL szCond a.If) (left - ((a.Name.size : Nat) : Int))) : Int) < 0 := of_decide_eq_false h9
   have pr9z := szm_val (n := (szL szCond a.If)) (left := (left - ((a.Name.size : Nat) : Int))) pr9
   refine C_skip (x_then (D_weak [(1, (.int .i64 (szm (szL szCond a.If) (left - ((a.Name.size : Nat) : Int))))), (2, (.pointer (some ⟨g7, 0, none⟩)))] ⟨rfl, rfl, trivial⟩ (C_seq (C_reg (q1 rfl (D_fb f_81_3 rfl rfl (q := 3) rfl) (q1 rfl (lb 0 o_79 rfl rfl rfl rfl) (p1 rfl (li rfl (cv b_96 rfl rfl rfl rfl (fun w' hs => (laws_szActionS w' u3 a.Then (szm (szL szCond a.If) (left - ((a.Name.size : Nat) : Int))) (rd_at hs hu4) (by first | assumption | omega | (unfold szm at *; split at * <;> omega)) (by first | assumption | omega | (unfold szm at *; split at * <;> omega)) ho.2.2.2)) ?_)))))))))
   refine p1 rfl (D_end (x_then (C_seq (C_seq (C_reg (p1 rfl <| p1 rfl (D_end (x_then (C_if _ rfl (fun h10 => ?_) (fun h10 => ?_))))))))))
   ·have pr10 : ((szm (szL szAction a.Then) (szm (szL szCond a.If) (left - ((a.Name.size : Nat) : Int)))) : Int) < 0 := of_decide_eq_true h10
    refine C_seq (C_reg (p1 rfl (D_end (x_then (C_ret (x_then_ret (Ri rfl rfl ?_)))))))
    show ((-1) : Int) = _
    unfold szRule szm at *; repeat (split at * <;> try omega)
   ·have pr10 : ¬ ((szm (szL szAction a.Then) (szm (szL szCond a.If) (left - ((a.Name.size : Nat) : Int)))) : Int) < 0 := of_decide_eq_false h10
    have pr10z := szm_val (n := (szL szAction a.Then)) (left := (szm (szL szCond a.If) (left - ((a.Name.size : Nat) : Int)))) pr10
    refine C_skip (x_then (C_seq (C_reg (p1 rfl <| p1 rfl (D_end (x_then (C_ret (Ri rfl rfl ?_))))))))
    show ((szm (szL szAction a.Then) (szm (szL szCond a.If) (left - ((a.Name.size : Nat) : Int)))) : Int) = _
    unfold szRule szm at *; repeat (split at * <;> try omega)

theorem laws_toRule (w : World) (c_a : List Value) (a : Rule) (h_a : Gd.rd w c_a a) (hn : szRule a ≤ 1048576) : Calls Tryz.prog 47 [(.agg c_a.toArray)].toArray w (Res w (a : Rule)) := by
 obtain ⟨u1, u3, rfl, hu2, hu4⟩ := open_Rule h_a
 have hm5 := rd_max hu2
 have hm6 := rd_max hu4
 unfold szRule at hn
 refine enter 19 Tryz.func47 rfl rfl rfl (C_seq (C_reg (li rfl (D_box rfl rfl rfl rfl rfl fun g7 => ?_))))
 refine li rfl (D_alloc y_96 rfl rfl rfl rfl fun g8 => ?_)
 refine D_end (x_then (D_H ([bx g8 [(.string ⟨#[]⟩), (.int .i64 0), (.slice none 0 0), (.slice none 0 0)], bx g7 [(.string a.Name), (.int .i64 a.Priority), u1, u3]]) rfl (C_seq (C_reg (li rfl (D_alloc y_96 rfl rfl rfl rfl fun g9 => ?_))))))
 refine D_end (x_then (D_H ([bx g9 [(.string ⟨#[]⟩), (.int .i64 0), (.slice none 0 0), (.slice none 0 0)], bx g8 [(.string ⟨#[]⟩), (.int .i64 0), (.slice none 0 0), (.slice none 0 0)], bx g7 [(.string a.Name), (.int .i64 a.Priority), u1, u3]]) rfl (C_seq (C_reg (q1 rfl (D_fb f_81_0 rfl rfl (q := 0) rfl) (q1 rfl (lb 2 o_9 rfl rfl rfl rfl) (q1 rfl (D_fb f_96_0 rfl rfl (q := 0) rfl) (li rfl (D_stb (vs := [(.string a.Name)]) (cs' := [(.string a.Name), (.int .i64 0), (.slice none 0 0), (.slice none 0 0)]) 0 z_9 rfl rfl rfl rfl rfl rfl (ocons rfl onil) (by simp) rfl ?_)))))))))
 refine D_end (x_then (D_H ([bx g9 [(.string a.Name), (.int .i64 0), (.slice none 0 0), (.slice none 0 0)], bx g8 [(.string ⟨#[]⟩), (.int .i64 0), (.slice none 0 0), (.slice none 0 0)], bx g7 [(.string a.Name), (.int .i64 a.Priority), u1, u3]]) rfl (C_seq (C_reg (q1 rfl (D_fb f_81_1 rfl rfl (q := 1) rfl) (q1 rfl (lb 2 o_3 rfl rfl rfl rfl) (q1 rfl (D_fb f_96_1 rfl rfl (q := 1) rfl) (li rfl (D_stb (vs := [(.int .i64 a.Priority)]) (cs' := [(.string a.Name), (.int .i64 a.Priority), (.slice none 0 0), (.slice none 0 0)]) 0 z_3 rfl rfl rfl rfl rfl rfl (ocons rfl onil) (by simp) rfl ?_)))))))))
 refine D_end (x_then (D_H ([bx g9 [(.string a.Name), (.int .i64 a.Priority), (.slice none 0 0), (.slice none 0 0)], bx g8 [(.string ⟨#[]⟩), (.int .i64 0), (.slice none 0 0), (.slice none 0 0)], bx g7 [(.string a.Name), (.int .i64 a.Priority), u1, u3]]) rfl (C_seq (C_reg (q1 rfl (D_fb f_81_2 rfl rfl (q := 2) rfl) (q1 rfl (lb 2 o_78 rfl rfl rfl rfl) (li rfl (crl b_105 rfl rfl rfl rfl (fun w' hs => (laws_toCondS w' u1 a.If (rd_at hs hu2) (by first | assumption | omega | (unfold szm at *; split at * <;> omega)))) fun v10 => ?_))))))))
 refine q1 rfl (D_fb f_96_2 rfl rfl (q := 2) rfl) (D_pre (fun w' hs => one_own (k := 0) hs rfl) ?_)
 intro ho11
 refine li rfl (D_stb (vs := [v10]) (cs' := [(.string a.Name), (.int .i64 a.Priority), v10, (.slice none 0 0)]) 1 z_93 rfl rfl rfl rfl rfl (cells_of_one ho11) (ocons ho11 onil) (by simp) rfl ?_)
 refine D_end (x_then (D_H ([ov [v10] (a.If : (List Cond)), bx g9 [(.string a.Name), (.int .i64 a.Priority), v10, (.slice none 0 0)], bx g8 [(.string ⟨#[]⟩), (.int .i64 0), (.slice none 0 0), (.slice none 0 0)], bx g7 [(.string a.Name), (.int .i64 a.Priority), u1, u3]]) rfl (C_seq (C_reg (q1 rfl (D_fb f_81_3 rfl rfl (q := 3) rfl) (q1 rfl (lb 3 o_79 rfl rfl rfl rfl) (li rfl (crl b_106 rfl rfl rfl rfl (fun w' hs => (laws_toActionS w' u3 a.Then (rd_at hs hu4) (by first | assumption | omega | (unfold szm at *; split at * <;> omega)))) fun v12 => ?_))))))))
 refine q1 rfl (D_fb f_96_3 rfl rfl (q := 3) rfl) (D_pre (fun w' hs => one_own (k := 0) hs rfl) ?_)
 intro ho13
 refine li rfl (D_stb (vs := [v12]) (cs' := [(.string a.Name), (.int .i64 a.Priority), v10, v12]) 2 z_94 rfl rfl rfl rfl rfl (cells_of_one ho13) (ocons ho13 onil) (by simp) rfl ?_)
 refine D_end (x_then (D_weak [(2, (.pointer (some ⟨g8, 0, none⟩))), (3, (.pointer (some ⟨g9, 0, none⟩)))] ⟨rfl, rfl, trivial⟩ (D_sel (H' := [ov [v12] (a.Then : (List Action)), ov [v10] (a.If : (List Cond)), bx g9 [(.string a.Name), (.int .i64 a.Priority), v10, v12], bx g8 [(.string ⟨#[]⟩), (.int .i64 0), (.slice none 0 0), (.slice none 0 0)]]) [true, true, true, true, false] rfl (C_seq (C_reg (q1 rfl (lbw 2 a_96 rfl rfl rfl) (li rfl (D_stb (vs := [(.string a.Name), (.int .i64 a.Priority), v10, v12]) (cs' := [(.string a.Name), (.int .i64 a.Priority), v10, v12]) 3 z_96 rfl rfl rfl rfl rfl rfl (ocons rfl (ocons rfl (ocons ho11 (ocons ho13 onil)))) (by simp) rfl ?_))))))))
 refine D_end (x_then (C_ret (D_pk (H' := [ov [v10] (a.If : (List Cond)), ov [v12] (a.Then : (List Action)), bx g9 [(.string a.Name), (.int .i64 a.Priority), v10, v12], bx g8 [(.string a.Name), (.int .i64 a.Priority), v10, v12]]) [1, 0, 2, 3] rfl rfl (pk_Rule (r := (a : Rule)) (R_c 2 a_96 rfl rfl rfl fun w' hs => res_of (k := 0) hs rfl ?_)))))
 show (a : Rule) = a
 rfl

theorem laws_eqRule (w : World) (c_a : List Value) (a : Rule) (c_b : List Value) (b : Rule) (h_a : Gd.rd w c_a a) (h_b : Gd.rd w c_b b) : Calls Tryz.prog 55 [(.agg c_a.toArray), (.agg c_b.toArray)].toArray w (Val w (.bool (decide (a = b)))) := by
 obtain ⟨u1, u3, rfl, hu2, hu4⟩ := open_Rule h_a
 have hm5 := rd_max hu2
 have hm6 := rd_max hu4
 obtain ⟨u7, u9, rfl, hu8, hu10⟩ := open_Rule h_b
 have hm11 := rd_max hu8
 have hm12 := rd_max hu10
 refine enter 27 Tryz.func55 rfl rfl rfl (C_seq (C_reg (li rfl (D_box rfl rfl rfl rfl rfl fun g13 => ?_))))
 refine li rfl (D_box rfl rfl rfl rfl rfl fun g14 => ?_)
 refine p1 rfl (D_end (x_then (D_H ([bx g14 [(.string b.Name), (.int .i64 b.Priority), u7, u9], bx g13 [(.string a.Name), (.int .i64 a.Priority), u1, u3]]) rfl (C_seq (C_seq (C_reg (q1 rfl (D_fb f_96_0 rfl rfl (q := 0) rfl) (q1 rfl (lb 1 o_9 rfl rfl rfl rfl) (q1 rfl (D_fb f_96_0 rfl rfl (q := 0) rfl) (q1 rfl (lb 0 o_9 rfl rfl rfl rfl) (q1 rfl (D_neS rfl rfl rfl) ?_)))))))))))
 refine D_end (x_then (C_if _ rfl (fun h15 => ?_) (fun h15 => ?_)))
 ·have pr15 : ¬ (a.Name : ByteArray) = b.Name := of_decide_eq_false (not_t h15)
  refine C_seq (C_reg (p1 rfl (D_end (x_then (C_ret (x_then_ret (Rb rfl rfl ?_)))))))
  cases a; cases b; simp_all
 ·have pr15 : (a.Name : ByteArray) = b.Name := of_decide_eq_true (not_f h15)
  refine C_skip (x_then (C_seq (C_seq (C_reg (q1 rfl (D_fb f_96_1 rfl rfl (q := 1) rfl) (q1 rfl (lb 1 o_3 rfl rfl rfl rfl) (q1 rfl (D_fb f_96_1 rfl rfl (q := 1) rfl) (q1 rfl (lb 0 o_3 rfl rfl rfl rfl) (p1 rfl (D_end (x_then ?_)))))))))))
  refine C_if _ rfl (fun h16 => ?_) (fun h16 => ?_)
  ·have pr16 : (a.Priority : Int) ≠ b.Priority := bne_iff_ne.1 h16
   refine C_seq (C_reg (p1 rfl (D_end (x_then (C_ret (x_then_ret (Rb rfl rfl ?_)))))))
   cases a; cases b; simp_all
  ·have pr16 : (a.Priority : Int) = b.Priority := eq_of_bne_f h16
   refine C_skip (x_then (C_seq (C_seq (C_reg (q1 rfl (D_fb f_96_2 rfl rfl (q := 2) rfl) (q1 rfl (lb 1 o_93 rfl rfl rfl rfl) (q1 rfl (D_fb f_96_2 rfl rfl (q := 2) rfl) (q1 rfl (lb 0 o_93 rfl rfl rfl rfl) (li rfl (cv b_115 rfl rfl rfl rfl (fun w' hs => (laws_eqCondS w' u1 a.If u7 b.If (rd_at hs hu2) (rd_at hs hu8))) ?_))))))))))
   refine p1 rfl (D_end (x_then (D_weak [(2, (.pointer (some ⟨g13, 0, none⟩))), (3, (.pointer (some ⟨g14, 0, none⟩))), (20, (.bool (!(decide (a.If = b.If)))))] ⟨rfl, rfl, rfl, trivial⟩ (C_if _ rfl (fun h17 => ?_) (fun h17 => ?_)))))
   ·have h17n : (decide (a.If = b.If)) = false := not_t h17
    refine C_seq (C_reg (p1 rfl (D_end (x_then (C_ret (x_then_ret (Rb rfl rfl ?_)))))))
    cases a; cases b; simp_all
   ·have h17n : (decide (a.If = b.If)) = true := not_f h17
    refine C_skip (x_then (C_seq (C_seq (C_reg (q1 rfl (D_fb f_96_3 rfl rfl (q := 3) rfl) (q1 rfl (lb 1 o_94 rfl rfl rfl rfl) (q1 rfl (D_fb f_96_3 rfl rfl (q := 3) rfl) (q1 rfl (lb 0 o_94 rfl rfl rfl rfl) (li rfl (cv b_116 rfl rfl rfl rfl (fun w' hs => (laws_eqActionS w' u3 a.Then u9 b.Then (rd_at hs hu4) (rd_at hs hu10))) ?_))))))))))
    refine p1 rfl (D_end (x_then (C_if _ rfl (fun h18 => ?_) (fun h18 => ?_))))
    ·have h18n : (decide (a.Then = b.Then)) = false := not_t h18
     refine C_seq (C_reg (p1 rfl (D_end (x_then (C_ret (x_then_ret (Rb rfl rfl ?_)))))))
     cases a; cases b; simp_all
    ·have h18n : (decide (a.Then = b.Then)) = true := not_f h18
     refine C_skip (x_then (C_seq (C_reg (p1 rfl (D_end (x_then (C_ret (Rb rfl rfl ?_))))))))
     cases a; cases b; simp_all

theorem laws_szStamp (w : World) (c_a : List Value) (a : Stamp) (left : Int) (h_a : Gd.rd w c_a a) (h0 : 0 ≤ left) (h1 : left ≤ 1048576) (ho : okStamp a) : Calls Tryz.prog 37 [(.agg c_a.toArray), (.int .i64 left)].toArray w (Val w (.int .i64 (szm (szStamp a) left))) := by
 obtain ⟨u1, rfl, hu2⟩ := open_Stamp h_a
 have hm3 := rd_max hu2
 have hb4 := sub_Stamp_Fact h_a
 refine enter 12 Tryz.func37 rfl rfl rfl (C_seq (C_reg (li rfl (D_box rfl rfl rfl rfl rfl fun g5 => ?_))))
 refine p1 rfl (D_end (x_then (D_H ([bx g5 [(.string a.Fact.Rel), u1, (.int .i64 a.Time)]]) rfl (C_seq (C_reg (q1 rfl (D_fb f_84_0 rfl rfl (q := 0) rfl) (q1 rfl (lba (es := [(.string a.Fact.Rel), u1]) 0 a_60 rfl rfl rfl rfl) (p1 rfl (li rfl (cv b_24 rfl rfl rfl rfl (fun w' hs => (laws_szFact w' [(.string a.Fact.Rel), u1] a.Fact left (rd_at hs hb4) (by first | assumption | omega | (unfold szm at *; split at * <;> omega)) (by first | assumption | omega | (unfold szm at *; split at * <;> omega)) ho.1)) ?_))))))))))
 refine p1 rfl (D_end (x_then (C_seq (C_seq (C_reg (p1 rfl <| p1 rfl (D_end (x_then (C_if _ rfl (fun h6 => ?_) (fun h6 => ?_))))))))))
 ·have pr6 : ((szm (szFa a.Fact) left) : Int) < 0 := of_decide_eq_true h6
  refine C_seq (C_reg (p1 rfl (D_end (x_then (C_ret (x_then_ret (Ri rfl rfl ?_)))))))
  show ((-1) : Int) = _
  unfold szStamp szm at *; repeat (split at * <;> try omega)
 ·have pr6 : ¬ ((szm (szFa a.Fact) left) : Int) < 0 := of_decide_eq_false h6
  have pr6z := szm_val (n := (szFa a.Fact)) (left := left) pr6
  refine C_skip (x_then (C_seq (C_reg (p1 rfl <| p1 rfl (D_end (x_then (C_ret (Ri rfl rfl ?_))))))))
  show ((szm (szFa a.Fact) left) : Int) = _
  unfold szStamp szm at *; repeat (split at * <;> try omega)

theorem laws_toStamp (w : World) (c_a : List Value) (a : Stamp) (h_a : Gd.rd w c_a a) (hn : szStamp a ≤ 1048576) : Calls Tryz.prog 48 [(.agg c_a.toArray)].toArray w (Res w (a : Stamp)) := by
 obtain ⟨u1, rfl, hu2⟩ := open_Stamp h_a
 have hm3 := rd_max hu2
 have hb4 := sub_Stamp_Fact h_a
 unfold szStamp at hn
 refine enter 12 Tryz.func48 rfl rfl rfl (C_seq (C_reg (li rfl (D_box rfl rfl rfl rfl rfl fun g5 => ?_))))
 refine li rfl (D_alloc y_100 rfl rfl rfl rfl fun g6 => ?_)
 refine D_end (x_then (D_H ([bx g6 [(.string ⟨#[]⟩), (.slice none 0 0), (.int .i64 0)], bx g5 [(.string a.Fact.Rel), u1, (.int .i64 a.Time)]]) rfl (C_seq (C_reg (li rfl (D_alloc y_100 rfl rfl rfl rfl fun g7 => ?_))))))
 refine D_end (x_then (D_H ([bx g7 [(.string ⟨#[]⟩), (.slice none 0 0), (.int .i64 0)], bx g6 [(.string ⟨#[]⟩), (.slice none 0 0), (.int .i64 0)], bx g5 [(.string a.Fact.Rel), u1, (.int .i64 a.Time)]]) rfl (C_seq (C_reg (q1 rfl (D_fb f_84_0 rfl rfl (q := 0) rfl) (q1 rfl (lba (es := [(.string a.Fact.Rel), u1]) 2 a_60 rfl rfl rfl rfl) (li rfl (crs rfl b_27 rfl rfl rfl rfl (fun w' hs => (laws_toFact w' [(.string a.Fact.Rel), u1] a.Fact (rd_at hs hb4) (by first | assumption | omega | (unfold szm at *; split at * <;> omega)))) fun cs8 => ?_))))))))
 refine D_pre (fun w' hs => shape_Fact (rd_own (k := 0) hs rfl)) ?_
 rintro ⟨v9, rfl, ho10⟩
 refine q1 rfl (D_fb f_100_0 rfl rfl (q := 0) rfl) (li rfl (D_stb (vs := [(.string a.Fact.Rel), v9]) (cs' := [(.string a.Fact.Rel), v9, (.int .i64 0)]) 1 z_70 rfl rfl rfl rfl rfl rfl (ocons rfl (ocons ho10 onil)) (by simp) rfl ?_))
 refine D_end (x_then (D_H ([ov [(.string a.Fact.Rel), v9] (a.Fact : Fact), bx g7 [(.string a.Fact.Rel), v9, (.int .i64 0)], bx g6 [(.string ⟨#[]⟩), (.slice none 0 0), (.int .i64 0)], bx g5 [(.string a.Fact.Rel), u1, (.int .i64 a.Time)]]) rfl (C_seq (C_reg (q1 rfl (D_fb f_84_1 rfl rfl (q := 2) rfl) (q1 rfl (lb 3 o_3 rfl rfl rfl rfl) (q1 rfl (D_fb f_100_1 rfl rfl (q := 2) rfl) (li rfl (D_stb (vs := [(.int .i64 a.Time)]) (cs' := [(.string a.Fact.Rel), v9, (.int .i64 a.Time)]) 1 z_3 rfl rfl rfl rfl rfl rfl (ocons rfl onil) (by simp) rfl ?_)))))))))
 refine D_end (x_then (D_H ([ov [(.string a.Fact.Rel), v9] (a.Fact : Fact), bx g7 [(.string a.Fact.Rel), v9, (.int .i64 a.Time)], bx g6 [(.string ⟨#[]⟩), (.slice none 0 0), (.int .i64 0)], bx g5 [(.string a.Fact.Rel), u1, (.int .i64 a.Time)]]) rfl (C_seq (C_reg (q1 rfl (lbw 1 a_100 rfl rfl rfl) (li rfl (D_stb (vs := [(.string a.Fact.Rel), v9, (.int .i64 a.Time)]) (cs' := [(.string a.Fact.Rel), v9, (.int .i64 a.Time)]) 2 z_100 rfl rfl rfl rfl rfl rfl (ocons rfl (ocons ho10 (ocons rfl onil))) (by simp) rfl ?_)))))))
 refine D_end (x_then (C_ret (D_unpair (α := ByteArray) (β := (List ByteArray)) (c1 := [(.string a.Fact.Rel)]) (c2 := [v9]) (x := a.Fact.Rel) (y := (a.Fact.Args)) rfl rfl (D_fd [] 1 rfl (pk_Stamp (r := (a : Stamp)) (R_c 2 a_100 rfl rfl rfl fun w' hs => res_of (k := 0) hs rfl ?_))))))
 show (a : Stamp) = a
 rfl

theorem laws_eqStamp (w : World) (c_a : List Value) (a : Stamp) (c_b : List Value) (b : Stamp) (h_a : Gd.rd w c_a a) (h_b : Gd.rd w c_b b) : Calls Tryz.prog 56 [(.agg c_a.toArray), (.agg c_b.toArray)].toArray w (Val w (.bool (decide (a = b)))) := by
 obtain ⟨u1, rfl, hu2⟩ := open_Stamp h_a
 have hm3 := rd_max hu2
 have hb4 := sub_Stamp_Fact h_a
 obtain ⟨u5, rfl, hu6⟩ := open_Stamp h_b
 have hm7 := rd_max hu6
 have hb8 := sub_Stamp_Fact h_b
 refine enter 16 Tryz.func56 rfl rfl rfl (C_seq (C_reg (li rfl (D_box rfl rfl rfl rfl rfl fun g9 => ?_))))
 refine li rfl (D_box rfl rfl rfl rfl rfl fun g10 => ?_)
 refine p1 rfl (D_end (x_then (D_H ([bx g10 [(.string b.Fact.Rel), u5, (.int .i64 b.Time)], bx g9 [(.string a.Fact.Rel), u1, (.int .i64 a.Time)]]) rfl (C_seq (C_seq (C_reg (q1 rfl (D_fb f_100_0 rfl rfl (q := 0) rfl) (q1 rfl (lba (es := [(.string a.Fact.Rel), u1]) 1 a_70 rfl rfl rfl rfl) (q1 rfl (D_fb f_100_0 rfl rfl (q := 0) rfl) (q1 rfl (lba (es := [(.string b.Fact.Rel), u5]) 0 a_70 rfl rfl rfl rfl) (li rfl (cv b_30 rfl rfl rfl rfl (fun w' hs => (laws_eqFact w' [(.string a.Fact.Rel), u1] a.Fact [(.string b.Fact.Rel), u5] b.Fact (rd_at hs hb4) (rd_at hs hb8))) ?_))))))))))))
 refine p1 rfl (D_end (x_then (C_if _ rfl (fun h11 => ?_) (fun h11 => ?_))))
 ·have h11n : (decide (a.Fact = b.Fact)) = false := not_t h11
  refine C_seq (C_reg (p1 rfl (D_end (x_then (C_ret (x_then_ret (Rb rfl rfl ?_)))))))
  cases a; cases b; simp_all
 ·have h11n : (decide (a.Fact = b.Fact)) = true := not_f h11
  refine C_skip (x_then (C_seq (C_seq (C_reg (q1 rfl (D_fb f_100_1 rfl rfl (q := 2) rfl) (q1 rfl (lb 1 o_3 rfl rfl rfl rfl) (q1 rfl (D_fb f_100_1 rfl rfl (q := 2) rfl) (q1 rfl (lb 0 o_3 rfl rfl rfl rfl) (p1 rfl (D_end (x_then ?_)))))))))))
  refine D_weak [(15, (.bool ((a.Time : Int) != b.Time)))] ⟨rfl, trivial⟩ (D_sel (H' := []) [false, false] rfl (C_if _ rfl (fun h12 => ?_) (fun h12 => ?_)))
  ·have pr12 : (a.Time : Int) ≠ b.Time := bne_iff_ne.1 h12
   refine C_seq (C_reg (p1 rfl (D_end (x_then (C_ret (x_then_ret (Rb rfl rfl ?_)))))))
   cases a; cases b; simp_all
  ·have pr12 : (a.Time : Int) = b.Time := eq_of_bne_f h12
   refine C_skip (x_then (C_seq (C_reg (p1 rfl (D_end (x_then (C_ret (Rb rfl rfl ?_))))))))
   cases a; cases b; simp_all

theorem laws_szRuleS (w : World) (v_a : Value) (a : (List Rule)) (left : Int) (h_a : Gd.rd w [v_a] a) (h0 : 0 ≤ left) (h1 : left ≤ 1048576) (ho : okL okRule a) : Calls Tryz.prog 6 [v_a, (.int .i64 left)].toArray w (Val w (.int .i64 (szm (szL szRule a) left))) := by
 have hm1 := rd_max h_a
 refine enter 27 Tryz.func6 rfl rfl rfl (C_seq (C_reg (p1 rfl (D_end (x_then (C_seq (C_reg (p1 rfl <| p1 rfl (q1 rfl (D_len s_22 rfl rfl (rd_sl h_a)) (q1 rfl (D_sub rfl rfl rfl rfl (by omega)) (p1 rfl ?_)))))))))))
 refine D_end (x_then (C_seq (C_seq (C_reg (p1 rfl <| p1 rfl (D_end (x_then (C_if _ rfl (fun h2 => ?_) (fun h2 => ?_)))))))))
 ·have pr2 : ((left - ((a.length : Nat) : Int)) : Int) < 0 := of_decide_eq_true h2
  refine C_seq (C_reg (p1 rfl (D_end (x_then (C_ret (x_then_ret (Ri rfl rfl ?_)))))))
  show ((-1) : Int) = _
  refine (szm_neg ?_).symm; unfold szL; omega
 ·have pr2 : ¬ ((left - ((a.length : Nat) : Int)) : Int) < 0 := of_decide_eq_false h2
  refine C_skip (x_then (C_seq (C_seq (C_reg (p1 rfl (D_end (x_then (C_block (C_loop (fun m_ ac w' => ∃ (k : Nat), ∃ (lf : Int), (k ≤ a.length) ∧ (0 ≤ lf ∧ lf = left - a.length - sumC szRule (a.take k)) ∧ m_ = a.length - k ∧ Fits ac 27 [(0, v_a), (1, (.int .i64 lf)), (5, (.int .i64 ((k : Nat) : Int)))] ∧ St w ([]) w') ?_ ?_)))))))))
  ·refine fun ac w' hf hs => ⟨_, 0, (left - ((a.length : Nat) : Int)), ?_, ?_, rfl, hf.weak ⟨rfl, rfl, rfl, trivial⟩, hs⟩
   ·first | assumption | omega | simp
   ·simp [sumC]; omega
  ·rintro m_ ac w' ⟨k, lf, hk, hl, rfl, hf, hs⟩
   refine D.use ?_ hf hs
   clear hf hs ac w'
   have ht := sumC_take_le a szRule k
   refine C_seq (C_seq (C_reg (p1 rfl <| p1 rfl (q1 rfl (D_len s_22 rfl rfl (rd_sl h_a)) (p1 rfl (D_end (x_then (C_if _ rfl (fun h3 => ?_) (fun h3 => ?_)))))))))
   ·have pr3 : (((k : Nat) : Int) : Int) < ((a.length : Nat) : Int) := of_decide_eq_true h3
    refine C_skip (x_then (C_seq (C_block (C_seq (C_reg (p1 rfl <| p1 rfl ?_))))))
    obtain ⟨r0, hr0⟩ := some_of_lt (l := a) (i := k) (by omega)
    have hro := ho _ (List.mem_of_getElem? hr0)
    have ht1 := sumC_take_le a szRule (k + 1)
    have hst := sumC_take (c := szRule) hr0
    obtain ⟨es4, at5, hr6⟩ := rd_elem (n := 4) rfl h_a hr0
    obtain ⟨u7, u9, rfl, hu8, hu10⟩ := open_Rule hr6
    have hm11 := rd_max hu8
    have hm12 := rd_max hu10
    refine q1 rfl (D_ix (l := a) (j := k) s_22 rfl rfl rfl (fun w' hs => (rd_at hs h_a)) rfl (lt_of_some hr0)) (q1 rfl (lra a_81 rfl rfl at5) (p1 rfl (li rfl (cv b_36 rfl rfl rfl rfl (fun w' hs => (laws_szRule w' [(.string r0.Name), (.int .i64 r0.Priority), u7, u9] r0 lf (rd_at hs hr6) (by first | assumption | omega | (unfold szm at *; split at * <;> omega)) (by first | assumption | omega | (unfold szm at *; split at * <;> omega)) hro)) ?_))))
    refine p1 rfl (D_end (x_then (C_seq (C_reg (p1 rfl <| p1 rfl (D_end (x_then (C_if _ rfl (fun h13 => ?_) (fun h13 => ?_)))))))))
    ·have pr13 : ((szm (szRule r0) lf) : Int) < 0 := of_decide_eq_true h13
     refine C_seq (C_reg (p1 rfl (D_end (x_then (C_ret (x_blk_ret (x_then_ret (x_then_ret (x_blk_ret (x_then_ret (Ri rfl rfl ?_)))))))))))
     show ((-1) : Int) = _
     refine (szm_neg ?_).symm; unfold szL; unfold szm at *; split at * <;> omega
    ·have pr13 : ¬ ((szm (szRule r0) lf) : Int) < 0 := of_decide_eq_false h13
     have pr13z := szm_val (n := (szRule r0)) (left := lf) pr13
     refine C_skip (x_blk (x_then (C_reg (p1 rfl (q1 rfl (D_add rfl rfl rfl (r := ((k + 1 : Nat) : Int)) (by omega) (by omega)) (p1 rfl (D_end (x_then (fun ac w' hf hs => ⟨_, ?_, k + 1, (szm (szRule r0) lf), ?_, ?_, rfl, hf.weak ⟨rfl, rfl, rfl, trivial⟩, hs⟩)))))))))
     ·omega
     ·first | assumption | omega | simp
     ·rw [hst]; unfold szm at *; split at * <;> omega
   ·have pr3 : ¬ (((k : Nat) : Int) : Int) < ((a.length : Nat) : Int) := of_decide_eq_false h3
    refine C_exit (x_then_exit (x_then_exit (x_blk_eq (x_then (C_seq (C_reg (p1 rfl <| p1 rfl (D_end (x_then (C_ret (Ri rfl rfl ?_)))))))))))
    show (lf : Int) = _
    rw [szm_pos]; all_goals (unfold szL; rw [List.take_of_length_le (by omega)] at hl; omega)

theorem laws_toRuleS (w : World) (v_a : Value) (a : (List Rule)) (h_a : Gd.rd w [v_a] a) (hn : szL szRule a ≤ 1048576) : Calls Tryz.prog 10 [v_a].toArray w (Res w (a : List Rule)) := by
 have hm1 := rd_max h_a
 unfold szL at hn
 refine enter 23 Tryz.func10 rfl rfl rfl (C_seq (C_reg (p1 rfl (D_end (x_then (C_seq (C_reg (p1 rfl (q1 rfl (D_len s_22 rfl rfl (rd_sl h_a)) (li rfl (D_mkG (α := Rule) (z0 := z0_Rule) s_40 y_96 rfl rfl rfl rfl rfl rfl zz_Rule (by omega) (by omega) fun v2 => ?_)))))))))))
 refine p1 rfl (D_end (x_then (D_H ([ov [v2] (List.replicate a.length z0_Rule : (List Rule))]) rfl (C_seq (C_seq (C_reg (p1 rfl (D_end (x_then (C_block (C_loop (fun m_ ac w' => ∃ (k : Nat), ∃ (v : Value), (k ≤ a.length) ∧ m_ = a.length - k ∧ Fits ac 23 [(0, v_a), (3, v), (4, (.int .i64 ((k : Nat) : Int)))] ∧ St w ([ov [v] (cp a z0_Rule k : (List Rule))]) w') ?_ ?_)))))))))))
 ·refine D_eq 0 rfl (show (List.replicate a.length z0_Rule : (List Rule)) = cp a z0_Rule 0 from by rw [cp_zero]) (fun ac w' hf hs => ⟨_, 0, v2, ?_, rfl, hf.weak ⟨rfl, rfl, rfl, trivial⟩, hs⟩)
  ·first | assumption | omega | simp
 ·rintro m_ ac w' ⟨k, v, hk, rfl, hf, hs⟩
  refine D.use ?_ hf hs
  clear hf hs ac w'
  have hcl := cp_len a z0_Rule k hk
  refine C_seq (C_seq (C_reg (p1 rfl <| p1 rfl (q1 rfl (D_len s_22 rfl rfl (rd_sl h_a)) (p1 rfl (D_end (x_then (D_H ([ov [v] (cp a z0_Rule k : (List Rule))]) rfl (C_if _ rfl (fun h3 => ?_) (fun h3 => ?_))))))))))
  ·have pr3 : (((k : Nat) : Int) : Int) < ((a.length : Nat) : Int) := of_decide_eq_true h3
   refine C_skip (x_then (C_seq (C_block (C_reg (p1 rfl <| p1 rfl <| p1 rfl <| p1 rfl ?_)))))
   obtain ⟨x4, hx5⟩ := some_of_lt (l := a) (i := k) (by omega)
   have hle := sumC_mem (c := szRule) (mem_idx hx5)
   obtain ⟨es6, at7, hr8⟩ := rd_elem (n := 4) rfl h_a hx5
   obtain ⟨u9, u11, rfl, hu10, hu12⟩ := open_Rule hr8
   have hm13 := rd_max hu10
   have hm14 := rd_max hu12
   refine q1 rfl (D_ix (l := a) (j := k) s_22 rfl rfl rfl (fun w' hs => (rd_at hs h_a)) rfl (lt_of_some hx5)) (q1 rfl (lra a_81 rfl rfl at7) (li rfl (crs rfl b_47 rfl rfl rfl rfl (fun w' hs => (laws_toRule w' [(.string x4.Name), (.int .i64 x4.Priority), u9, u11] x4 (rd_at hs hr8) (by first | assumption | omega | (unfold szm at *; split at * <;> omega)))) fun cs15 => ?_)))
   refine D_pre (fun w' hs => shape_Rule (rd_own (k := 0) hs rfl)) ?_
   rintro ⟨v16, v17, rfl, ho18, ho19⟩
   obtain ⟨x20, hx21⟩ := some_of_lt (l := (cp a z0_Rule k)) (i := k) (by omega)
   refine q1 rfl (D_ix (l := (cp a z0_Rule k)) (j := k) s_40 rfl rfl rfl (fun w' hs => (rd_own (k := 1) hs rfl)) rfl (lt_of_some hx21)) (D_pk (H' := [ov [v] (cp a z0_Rule k : (List Rule)), ov [(.string x4.Name), (.int .i64 x4.Priority), v16, v17] (x4 : Rule)]) [1, 0] rfl rfl (li rfl (soG (α := Rule) rfl z_96 rfl rfl rfl rfl rfl (lt_of_some hx21) ?_)))
   refine D_end (x_blk (x_then (D_H ([ov [v] ((cp a z0_Rule k).set k x4 : (List Rule))]) rfl (C_reg (p1 rfl (q1 rfl (D_add rfl rfl rfl (r := ((k + 1 : Nat) : Int)) (by omega) (by omega)) (p1 rfl (D_end (x_then (D_eq 0 rfl (show ((cp a z0_Rule k).set k x4 : (List Rule)) = cp a z0_Rule (k + 1) from by rw [cp_set (by assumption)]) (fun ac w' hf hs => ⟨_, ?_, k + 1, v, ?_, rfl, hf.weak ⟨rfl, rfl, rfl, trivial⟩, hs⟩)))))))))))
   ·omega
   ·first | assumption | omega | simp
  ·have pr3 : ¬ (((k : Nat) : Int) : Int) < ((a.length : Nat) : Int) := of_decide_eq_false h3
   refine C_exit (x_then_exit (x_then_exit (x_blk_eq (x_then (C_seq (C_reg (p1 rfl <| p1 rfl (D_end (x_then (C_ret (R_1 rfl rfl fun w' hs => res_of (k := 0) hs rfl ?_)))))))))))
   show cp a z0_Rule k = a
   exact cp_done (by omega)

theorem laws_eqRuleS (w : World) (v_a : Value) (a : (List Rule)) (v_b : Value) (b : (List Rule)) (h_a : Gd.rd w [v_a] a) (h_b : Gd.rd w [v_b] b) : Calls Tryz.prog 15 [v_a, v_b].toArray w (Val w (.bool (decide (a = b)))) := by
 have hm1 := rd_max h_a
 have hm2 := rd_max h_b
 refine enter 27 Tryz.func15 rfl rfl rfl (C_seq (C_reg (p1 rfl (D_end (x_then (C_seq (C_seq (C_reg (p1 rfl (q1 rfl (D_len s_40 rfl rfl (rd_sl h_a)) (p1 rfl ?_)))))))))))
 refine q1 rfl (D_len s_40 rfl rfl (rd_sl h_b)) (p1 rfl (D_end (x_then (C_if _ rfl (fun h3 => ?_) (fun h3 => ?_)))))
 ·have pr3 : (((a.length : Nat) : Int) : Int) ≠ ((b.length : Nat) : Int) := bne_iff_ne.1 h3
  refine C_seq (C_reg (p1 rfl (D_end (x_then (C_ret (x_then_ret (Rb rfl rfl ?_)))))))
  simp; intro e; subst e; simp_all
 ·have pr3 : (((a.length : Nat) : Int) : Int) = ((b.length : Nat) : Int) := eq_of_bne_f h3
  refine C_skip (x_then (C_seq (C_seq (C_reg (p1 rfl (D_end (x_then (C_block (C_loop (fun m_ ac w' => ∃ (k : Nat), (k ≤ a.length) ∧ (∀ i, i < k → a[i]? = b[i]?) ∧ m_ = a.length - k ∧ Fits ac 27 [(0, v_a), (1, v_b), (5, (.int .i64 ((k : Nat) : Int)))] ∧ St w ([]) w') ?_ ?_)))))))))
  ·refine fun ac w' hf hs => ⟨_, 0, ?_, ?_, rfl, hf.weak ⟨rfl, rfl, rfl, trivial⟩, hs⟩
   ·first | assumption | omega | simp
   ·intro i hi; omega
  ·rintro m_ ac w' ⟨k, hk, hi, rfl, hf, hs⟩
   refine D.use ?_ hf hs
   clear hf hs ac w'
   refine C_seq (C_seq (C_reg (p1 rfl <| p1 rfl (q1 rfl (D_len s_40 rfl rfl (rd_sl h_a)) (p1 rfl (D_end (x_then (C_if _ rfl (fun h4 => ?_) (fun h4 => ?_)))))))))
   ·have pr4 : (((k : Nat) : Int) : Int) < ((a.length : Nat) : Int) := of_decide_eq_true h4
    refine C_skip (x_then (C_seq (C_block (C_seq (C_draw mixed [8, 9] (by kernel_rfl) (tk 0 rfl (by kernel_rfl) (by kernel_rfl) (by kernel_rfl) rfl (fun _ hs => hs) (rp rfl) (tk 1 rfl (by kernel_rfl) (by kernel_rfl) (by kernel_rfl) rfl (fun _ hs => hs) (rp rfl) ?_)))))))
    obtain ⟨x5, hx6⟩ := some_of_lt (l := a) (i := k) (by omega)
    obtain ⟨es7, at8, hr9⟩ := rd_elem (n := 4) rfl h_a hx6
    obtain ⟨u10, u12, rfl, hu11, hu13⟩ := open_Rule hr9
    have hm14 := rd_max hu11
    have hm15 := rd_max hu13
    refine tk 2 rfl (by kernel_rfl) (by kernel_rfl) (by kernel_rfl) rfl (fun _ hs => hs) (D_ix (l := a) (j := k) s_40 rfl rfl rfl (fun w' hs => (rd_at hs h_a)) rfl (lt_of_some hx6)) (tk 3 rfl (by kernel_rfl) (by kernel_rfl) (by kernel_rfl) rfl (fun _ hs => hs) (lra a_96 rfl rfl at8) (tk 4 rfl (by kernel_rfl) (by kernel_rfl) (by kernel_rfl) rfl (fun _ hs => hs) (rp rfl) (tk 5 rfl (by kernel_rfl) (by kernel_rfl) (by kernel_rfl) rfl (fun _ hs => hs) (rp rfl) ?_)))
    obtain ⟨x16, hx17⟩ := some_of_lt (l := b) (i := k) (by omega)
    obtain ⟨es18, at19, hr20⟩ := rd_elem (n := 4) rfl h_b hx17
    obtain ⟨u21, u23, rfl, hu22, hu24⟩ := open_Rule hr20
    have hm25 := rd_max hu22
    have hm26 := rd_max hu24
    refine tk 6 rfl (by kernel_rfl) (by kernel_rfl) (by kernel_rfl) rfl (fun _ hs => hs) (D_ix (l := b) (j := k) s_40 rfl rfl rfl (fun w' hs => (rd_at hs h_b)) rfl (lt_of_some hx17)) (tk 7 rfl (by kernel_rfl) (by kernel_rfl) (by kernel_rfl) rfl (fun _ hs => hs) (lra a_96 rfl rfl at19) (ty 8 rfl (by kernel_rfl) rfl (cv b_55 rfl rfl rfl rfl (fun w' hs => (laws_eqRule w' [(.string x5.Name), (.int .i64 x5.Priority), u10, u12] x5 [(.string x16.Name), (.int .i64 x16.Priority), u21, u23] x16 (rd_at hs hr9) (rd_at hs hr20))) ?_)))
    refine tZ rfl (ty 9 rfl (by kernel_rfl) rfl (sv rfl rfl (rp rfl) ?_))
    refine tZ rfl (tE (by kernel_rfl) (x_then (C_if _ rfl (fun h27 => ?_) (fun h27 => ?_))))
    ·have h27n : (decide (x5 = x16)) = false := not_t h27
     refine C_seq (C_reg (p1 rfl (D_end (x_then (C_ret (x_blk_ret (x_then_ret (x_then_ret (x_blk_ret (x_then_ret (Rb rfl rfl ?_)))))))))))
     simp; intro e; subst e; simp_all
    ·have h27n : (decide (x5 = x16)) = true := not_f h27
     refine C_skip (x_blk (x_then (C_reg (p1 rfl (q1 rfl (D_add rfl rfl rfl (r := ((k + 1 : Nat) : Int)) (by omega) (by omega)) (p1 rfl (D_end (x_then (fun ac w' hf hs => ⟨_, ?_, k + 1, ?_, ?_, rfl, hf.weak ⟨rfl, rfl, rfl, trivial⟩, hs⟩)))))))))
     ·omega
     ·first | assumption | omega | simp
     ·refine idx_step hi (by assumption) (by assumption) ?_; first | (simp_all; done) | (apply Fact.mk_eq <;> simp_all)
   ·have pr4 : ¬ (((k : Nat) : Int) : Int) < ((a.length : Nat) : Int) := of_decide_eq_false h4
    refine C_exit (x_then_exit (x_then_exit (x_blk_eq (x_then (C_seq (C_reg (p1 rfl (D_end (x_then (C_ret (Rb rfl rfl ?_)))))))))))
    simp; exact eq_of_idx (by omega) (fun i h => hi i (by omega))

theorem laws_szStampS (w : World) (v_a : Value) (a : (List Stamp)) (left : Int) (h_a : Gd.rd w [v_a] a) (h0 : 0 ≤ left) (h1 : left ≤ 1048576) (ho : okL okStamp a) : Calls Tryz.prog 7 [v_a, (.int .i64 left)].toArray w (Val w (.int .i64 (szm (szL szStamp a) left))) := by
 have hm1 := rd_max h_a
 refine enter 27 Tryz.func7 rfl rfl rfl (C_seq (C_reg (p1 rfl (D_end (x_then (C_seq (C_reg (p1 rfl <| p1 rfl (q1 rfl (D_len s_23 rfl rfl (rd_sl h_a)) (q1 rfl (D_sub rfl rfl rfl rfl (by omega)) (p1 rfl ?_)))))))))))
 refine D_end (x_then (C_seq (C_seq (C_reg (p1 rfl <| p1 rfl (D_end (x_then (C_if _ rfl (fun h2 => ?_) (fun h2 => ?_)))))))))
 ·have pr2 : ((left - ((a.length : Nat) : Int)) : Int) < 0 := of_decide_eq_true h2
  refine C_seq (C_reg (p1 rfl (D_end (x_then (C_ret (x_then_ret (Ri rfl rfl ?_)))))))
  show ((-1) : Int) = _
  refine (szm_neg ?_).symm; unfold szL; omega
 ·have pr2 : ¬ ((left - ((a.length : Nat) : Int)) : Int) < 0 := of_decide_eq_false h2
  refine C_skip (x_then (C_seq (C_seq (C_reg (p1 rfl (D_end (x_then (C_block (C_loop (fun m_ ac w' => ∃ (k : Nat), ∃ (lf : Int), (k ≤ a.length) ∧ (0 ≤ lf ∧ lf = left - a.length - sumC szStamp (a.take k)) ∧ m_ = a.length - k ∧ Fits ac 27 [(0, v_a), (1, (.int .i64 lf)), (5, (.int .i64 ((k : Nat) : Int)))] ∧ St w ([]) w') ?_ ?_)))))))))
  ·refine fun ac w' hf hs => ⟨_, 0, (left - ((a.length : Nat) : Int)), ?_, ?_, rfl, hf.weak ⟨rfl, rfl, rfl, trivial⟩, hs⟩
   ·first | assumption | omega | simp
   ·simp [sumC]; omega
  ·rintro m_ ac w' ⟨k, lf, hk, hl, rfl, hf, hs⟩
   refine D.use ?_ hf hs
   clear hf hs ac w'
   have ht := sumC_take_le a szStamp k
   refine C_seq (C_seq (C_reg (p1 rfl <| p1 rfl (q1 rfl (D_len s_23 rfl rfl (rd_sl h_a)) (p1 rfl (D_end (x_then (C_if _ rfl (fun h3 => ?_) (fun h3 => ?_)))))))))
   ·have pr3 : (((k : Nat) : Int) : Int) < ((a.length : Nat) : Int) := of_decide_eq_true h3
    refine C_skip (x_then (C_seq (C_block (C_seq (C_reg (p1 rfl <| p1 rfl ?_))))))
    obtain ⟨r0, hr0⟩ := some_of_lt (l := a) (i := k) (by omega)
    have hro := ho _ (List.mem_of_getElem? hr0)
    have ht1 := sumC_take_le a szStamp (k + 1)
    have hst := sumC_take (c := szStamp) hr0
    obtain ⟨es4, at5, hr6⟩ := rd_elem (n := 3) rfl h_a hr0
    obtain ⟨u7, rfl, hu8⟩ := open_Stamp hr6
    have hm9 := rd_max hu8
    have hb10 := sub_Stamp_Fact hr6
    refine q1 rfl (D_ix (l := a) (j := k) s_23 rfl rfl rfl (fun w' hs => (rd_at hs h_a)) rfl (lt_of_some hr0)) (q1 rfl (lra a_84 rfl rfl at5) (p1 rfl (li rfl (cv b_37 rfl rfl rfl rfl (fun w' hs => (laws_szStamp w' [(.string r0.Fact.Rel), u7, (.int .i64 r0.Time)] r0 lf (rd_at hs hr6) (by first | assumption | omega | (unfold szm at *; split at * <;> omega)) (by first | assumption | omega | (unfold szm at *; split at * <;> omega)) hro)) ?_))))
    refine p1 rfl (D_end (x_then (C_seq (C_reg (p1 rfl <| p1 rfl (D_end (x_then (C_if _ rfl (fun h11 => ?_) (fun h11 => ?_)))))))))
    ·have pr11 : ((szm (szStamp r0) lf) : Int) < 0 := of_decide_eq_true h11
     refine C_seq (C_reg (p1 rfl (D_end (x_then (C_ret (x_blk_ret (x_then_ret (x_then_ret (x_blk_ret (x_then_ret (Ri rfl rfl ?_)))))))))))
     show ((-1) : Int) = _
     refine (szm_neg ?_).symm; unfold szL; unfold szm at *; split at * <;> omega
    ·have pr11 : ¬ ((szm (szStamp r0) lf) : Int) < 0 := of_decide_eq_false h11
     have pr11z := szm_val (n := (szStamp r0)) (left := lf) pr11
     refine C_skip (x_blk (x_then (C_reg (p1 rfl (q1 rfl (D_add rfl rfl rfl (r := ((k + 1 : Nat) : Int)) (by omega) (by omega)) (p1 rfl (D_end (x_then (fun ac w' hf hs => ⟨_, ?_, k + 1, (szm (szStamp r0) lf), ?_, ?_, rfl, hf.weak ⟨rfl, rfl, rfl, trivial⟩, hs⟩)))))))))
     ·omega
     ·first | assumption | omega | simp
     ·rw [hst]; unfold szm at *; split at * <;> omega
   ·have pr3 : ¬ (((k : Nat) : Int) : Int) < ((a.length : Nat) : Int) := of_decide_eq_false h3
    refine C_exit (x_then_exit (x_then_exit (x_blk_eq (x_then (C_seq (C_reg (p1 rfl <| p1 rfl (D_end (x_then (C_ret (Ri rfl rfl ?_)))))))))))
    show (lf : Int) = _
    rw [szm_pos]; all_goals (unfold szL; rw [List.take_of_length_le (by omega)] at hl; omega)

theorem laws_toStampS (w : World) (v_a : Value) (a : (List Stamp)) (h_a : Gd.rd w [v_a] a) (hn : szL szStamp a ≤ 1048576) : Calls Tryz.prog 11 [v_a].toArray w (Res w (a : List Stamp)) := by
 have hm1 := rd_max h_a
 unfold szL at hn
 refine enter 23 Tryz.func11 rfl rfl rfl (C_seq (C_reg (p1 rfl (D_end (x_then (C_seq (C_reg (p1 rfl (q1 rfl (D_len s_23 rfl rfl (rd_sl h_a)) (li rfl (D_mkG (α := Stamp) (z0 := z0_Stamp) s_42 y_100 rfl rfl rfl rfl rfl rfl zz_Stamp (by omega) (by omega) fun v2 => ?_)))))))))))
 refine p1 rfl (D_end (x_then (D_H ([ov [v2] (List.replicate a.length z0_Stamp : (List Stamp))]) rfl (C_seq (C_seq (C_reg (p1 rfl (D_end (x_then (C_block (C_loop (fun m_ ac w' => ∃ (k : Nat), ∃ (v : Value), (k ≤ a.length) ∧ m_ = a.length - k ∧ Fits ac 23 [(0, v_a), (3, v), (4, (.int .i64 ((k : Nat) : Int)))] ∧ St w ([ov [v] (cp a z0_Stamp k : (List Stamp))]) w') ?_ ?_)))))))))))
 ·refine D_eq 0 rfl (show (List.replicate a.length z0_Stamp : (List Stamp)) = cp a z0_Stamp 0 from by rw [cp_zero]) (fun ac w' hf hs => ⟨_, 0, v2, ?_, rfl, hf.weak ⟨rfl, rfl, rfl, trivial⟩, hs⟩)
  ·first | assumption | omega | simp
 ·rintro m_ ac w' ⟨k, v, hk, rfl, hf, hs⟩
  refine D.use ?_ hf hs
  clear hf hs ac w'
  have hcl := cp_len a z0_Stamp k hk
  refine C_seq (C_seq (C_reg (p1 rfl <| p1 rfl (q1 rfl (D_len s_23 rfl rfl (rd_sl h_a)) (p1 rfl (D_end (x_then (D_H ([ov [v] (cp a z0_Stamp k : (List Stamp))]) rfl (C_if _ rfl (fun h3 => ?_) (fun h3 => ?_))))))))))
  ·have pr3 : (((k : Nat) : Int) : Int) < ((a.length : Nat) : Int) := of_decide_eq_true h3
   refine C_skip (x_then (C_seq (C_block (C_reg (p1 rfl <| p1 rfl <| p1 rfl <| p1 rfl ?_)))))
   obtain ⟨x4, hx5⟩ := some_of_lt (l := a) (i := k) (by omega)
   have hle := sumC_mem (c := szStamp) (mem_idx hx5)
   obtain ⟨es6, at7, hr8⟩ := rd_elem (n := 3) rfl h_a hx5
   obtain ⟨u9, rfl, hu10⟩ := open_Stamp hr8
   have hm11 := rd_max hu10
   have hb12 := sub_Stamp_Fact hr8
   refine q1 rfl (D_ix (l := a) (j := k) s_23 rfl rfl rfl (fun w' hs => (rd_at hs h_a)) rfl (lt_of_some hx5)) (q1 rfl (lra a_84 rfl rfl at7) (li rfl (crs rfl b_48 rfl rfl rfl rfl (fun w' hs => (laws_toStamp w' [(.string x4.Fact.Rel), u9, (.int .i64 x4.Time)] x4 (rd_at hs hr8) (by first | assumption | omega | (unfold szm at *; split at * <;> omega)))) fun cs13 => ?_)))
   refine D_pre (fun w' hs => shape_Stamp (rd_own (k := 0) hs rfl)) ?_
   rintro ⟨v14, rfl, ho15⟩
   obtain ⟨x16, hx17⟩ := some_of_lt (l := (cp a z0_Stamp k)) (i := k) (by omega)
   refine q1 rfl (D_ix (l := (cp a z0_Stamp k)) (j := k) s_42 rfl rfl rfl (fun w' hs => (rd_own (k := 1) hs rfl)) rfl (lt_of_some hx17)) (D_pk (H' := [ov [v] (cp a z0_Stamp k : (List Stamp)), ov [(.string x4.Fact.Rel), v14, (.int .i64 x4.Time)] (x4 : Stamp)]) [1, 0] rfl rfl (li rfl (soG (α := Stamp) rfl z_100 rfl rfl rfl rfl rfl (lt_of_some hx17) ?_)))
   refine D_end (x_blk (x_then (D_H ([ov [v] ((cp a z0_Stamp k).set k x4 : (List Stamp))]) rfl (C_reg (p1 rfl (q1 rfl (D_add rfl rfl rfl (r := ((k + 1 : Nat) : Int)) (by omega) (by omega)) (p1 rfl (D_end (x_then (D_eq 0 rfl (show ((cp a z0_Stamp k).set k x4 : (List Stamp)) = cp a z0_Stamp (k + 1) from by rw [cp_set (by assumption)]) (fun ac w' hf hs => ⟨_, ?_, k + 1, v, ?_, rfl, hf.weak ⟨rfl, rfl, rfl, trivial⟩, hs⟩)))))))))))
   ·omega
   ·first | assumption | omega | simp
  ·have pr3 : ¬ (((k : Nat) : Int) : Int) < ((a.length : Nat) : Int) := of_decide_eq_false h3
   refine C_exit (x_then_exit (x_then_exit (x_blk_eq (x_then (C_seq (C_reg (p1 rfl <| p1 rfl (D_end (x_then (C_ret (R_1 rfl rfl fun w' hs => res_of (k := 0) hs rfl ?_)))))))))))
   show cp a z0_Stamp k = a
   exact cp_done (by omega)

theorem laws_eqStampS (w : World) (v_a : Value) (a : (List Stamp)) (v_b : Value) (b : (List Stamp)) (h_a : Gd.rd w [v_a] a) (h_b : Gd.rd w [v_b] b) : Calls Tryz.prog 16 [v_a, v_b].toArray w (Val w (.bool (decide (a = b)))) := by
 have hm1 := rd_max h_a
 have hm2 := rd_max h_b
 refine enter 27 Tryz.func16 rfl rfl rfl (C_seq (C_reg (p1 rfl (D_end (x_then (C_seq (C_seq (C_reg (p1 rfl (q1 rfl (D_len s_42 rfl rfl (rd_sl h_a)) (p1 rfl ?_)))))))))))
 refine q1 rfl (D_len s_42 rfl rfl (rd_sl h_b)) (p1 rfl (D_end (x_then (C_if _ rfl (fun h3 => ?_) (fun h3 => ?_)))))
 ·have pr3 : (((a.length : Nat) : Int) : Int) ≠ ((b.length : Nat) : Int) := bne_iff_ne.1 h3
  refine C_seq (C_reg (p1 rfl (D_end (x_then (C_ret (x_then_ret (Rb rfl rfl ?_)))))))
  simp; intro e; subst e; simp_all
 ·have pr3 : (((a.length : Nat) : Int) : Int) = ((b.length : Nat) : Int) := eq_of_bne_f h3
  refine C_skip (x_then (C_seq (C_seq (C_reg (p1 rfl (D_end (x_then (C_block (C_loop (fun m_ ac w' => ∃ (k : Nat), (k ≤ a.length) ∧ (∀ i, i < k → a[i]? = b[i]?) ∧ m_ = a.length - k ∧ Fits ac 27 [(0, v_a), (1, v_b), (5, (.int .i64 ((k : Nat) : Int)))] ∧ St w ([]) w') ?_ ?_)))))))))
  ·refine fun ac w' hf hs => ⟨_, 0, ?_, ?_, rfl, hf.weak ⟨rfl, rfl, rfl, trivial⟩, hs⟩
   ·first | assumption | omega | simp
   ·intro i hi; omega
  ·rintro m_ ac w' ⟨k, hk, hi, rfl, hf, hs⟩
   refine D.use ?_ hf hs
   clear hf hs ac w'
   refine C_seq (C_seq (C_reg (p1 rfl <| p1 rfl (q1 rfl (D_len s_42 rfl rfl (rd_sl h_a)) (p1 rfl (D_end (x_then (C_if _ rfl (fun h4 => ?_) (fun h4 => ?_)))))))))
   ·have pr4 : (((k : Nat) : Int) : Int) < ((a.length : Nat) : Int) := of_decide_eq_true h4
    refine C_skip (x_then (C_seq (C_block (C_seq (C_draw mixed [8, 9] (by kernel_rfl) (tk 0 rfl (by kernel_rfl) (by kernel_rfl) (by kernel_rfl) rfl (fun _ hs => hs) (rp rfl) (tk 1 rfl (by kernel_rfl) (by kernel_rfl) (by kernel_rfl) rfl (fun _ hs => hs) (rp rfl) ?_)))))))
    obtain ⟨x5, hx6⟩ := some_of_lt (l := a) (i := k) (by omega)
    obtain ⟨es7, at8, hr9⟩ := rd_elem (n := 3) rfl h_a hx6
    obtain ⟨u10, rfl, hu11⟩ := open_Stamp hr9
    have hm12 := rd_max hu11
    have hb13 := sub_Stamp_Fact hr9
    refine tk 2 rfl (by kernel_rfl) (by kernel_rfl) (by kernel_rfl) rfl (fun _ hs => hs) (D_ix (l := a) (j := k) s_42 rfl rfl rfl (fun w' hs => (rd_at hs h_a)) rfl (lt_of_some hx6)) (tk 3 rfl (by kernel_rfl) (by kernel_rfl) (by kernel_rfl) rfl (fun _ hs => hs) (lra a_100 rfl rfl at8) (tk 4 rfl (by kernel_rfl) (by kernel_rfl) (by kernel_rfl) rfl (fun _ hs => hs) (rp rfl) (tk 5 rfl (by kernel_rfl) (by kernel_rfl) (by kernel_rfl) rfl (fun _ hs => hs) (rp rfl) ?_)))
    obtain ⟨x14, hx15⟩ := some_of_lt (l := b) (i := k) (by omega)
    obtain ⟨es16, at17, hr18⟩ := rd_elem (n := 3) rfl h_b hx15
    obtain ⟨u19, rfl, hu20⟩ := open_Stamp hr18
    have hm21 := rd_max hu20
    have hb22 := sub_Stamp_Fact hr18
    refine tk 6 rfl (by kernel_rfl) (by kernel_rfl) (by kernel_rfl) rfl (fun _ hs => hs) (D_ix (l := b) (j := k) s_42 rfl rfl rfl (fun w' hs => (rd_at hs h_b)) rfl (lt_of_some hx15)) (tk 7 rfl (by kernel_rfl) (by kernel_rfl) (by kernel_rfl) rfl (fun _ hs => hs) (lra a_100 rfl rfl at17) (ty 8 rfl (by kernel_rfl) rfl (cv b_56 rfl rfl rfl rfl (fun w' hs => (laws_eqStamp w' [(.string x5.Fact.Rel), u10, (.int .i64 x5.Time)] x5 [(.string x14.Fact.Rel), u19, (.int .i64 x14.Time)] x14 (rd_at hs hr9) (rd_at hs hr18))) ?_)))
    refine tZ rfl (ty 9 rfl (by kernel_rfl) rfl (sv rfl rfl (rp rfl) ?_))
    refine tZ rfl (tE (by kernel_rfl) (x_then (C_if _ rfl (fun h23 => ?_) (fun h23 => ?_))))
    ·have h23n : (decide (x5 = x14)) = false := not_t h23
     refine C_seq (C_reg (p1 rfl (D_end (x_then (C_ret (x_blk_ret (x_then_ret (x_then_ret (x_blk_ret (x_then_ret (Rb rfl rfl ?_)))))))))))
     simp; intro e; subst e; simp_all
    ·have h23n : (decide (x5 = x14)) = true := not_f h23
     refine C_skip (x_blk (x_then (C_reg (p1 rfl (q1 rfl (D_add rfl rfl rfl (r := ((k + 1 : Nat) : Int)) (by omega) (by omega)) (p1 rfl (D_end (x_then (fun ac w' hf hs => ⟨_, ?_, k + 1, ?_, ?_, rfl, hf.weak ⟨rfl, rfl, rfl, trivial⟩, hs⟩)))))))))
     ·omega
     ·first | assumption | omega | simp
     ·refine idx_step hi (by assumption) (by assumption) ?_; first | (simp_all; done) | (apply Fact.mk_eq <;> simp_all)
   ·have pr4 : ¬ (((k : Nat) : Int) : Int) < ((a.length : Nat) : Int) := of_decide_eq_false h4
    refine C_exit (x_then_exit (x_then_exit (x_blk_eq (x_then (C_seq (C_reg (p1 rfl (D_end (x_then (C_ret (Rb rfl rfl ?_)))))))))))
    simp; exact eq_of_idx (by omega) (fun i h => hi i (by omega))
end Go.Sy.Ev2
