/-
  Contracts of functions of the program, walked (printed by a program of ours).
  Conditions: those that each theorem states.
-/
import Derived.Test.YtamkdpknhaninaaGreatDoorEv1
import Derived.Test.YtamkdpknhaninaaGreatDoorEng
set_option linter.unusedVariables false
set_option maxRecDepth 20000
namespace Go.Sy.Ev2
open Go Go.RowKit Go.Proofs Go.Sy
theorem mixed : Tryz.prog.follows .mixedOrders = true := by kernel_rfl
theorem f_138_0 : fieldOff Tryz.prog 138 0 = some 0 := by kernel_rfl
theorem o_9 : oneTy Tryz.prog 9 = true := by kernel_rfl
theorem us_9 : Tryz.prog.underlying 9 = some .string := by kernel_rfl
theorem f_138_1 : fieldOff Tryz.prog 138 1 = some 1 := by kernel_rfl
theorem o_46 : oneTy Tryz.prog 46 = true := by kernel_rfl
theorem b_96 : hasBody Tryz.prog 96 = true := by kernel_rfl
theorem y_105 : zeroTy Tryz.prog 105 = some (.agg #[(.string ⟨#[]⟩), (.slice none 0 0)]) := by kernel_rfl
theorem f_105_0 : fieldOff Tryz.prog 105 0 = some 0 := by kernel_rfl
theorem z_9 : sizeTy Tryz.prog 9 = some 1 := by kernel_rfl
theorem b_106 : hasBody Tryz.prog 106 = true := by kernel_rfl
theorem f_105_1 : fieldOff Tryz.prog 105 1 = some 1 := by kernel_rfl
theorem z_46 : sizeTy Tryz.prog 46 = some 1 := by kernel_rfl
theorem a_105 : aggTy Tryz.prog 105 = some 2 := by kernel_rfl
theorem z_105 : sizeTy Tryz.prog 105 = some 2 := by kernel_rfl
theorem b_120 : hasBody Tryz.prog 120 = true := by kernel_rfl
theorem f_140_1 : fieldOff Tryz.prog 140 1 = some 1 := by kernel_rfl
theorem a_138 : aggTy Tryz.prog 138 = some 2 := by kernel_rfl
theorem b_121 : hasBody Tryz.prog 121 = true := by kernel_rfl
theorem f_140_2 : fieldOff Tryz.prog 140 2 = some 3 := by kernel_rfl
theorem f_140_3 : fieldOff Tryz.prog 140 3 = some 4 := by kernel_rfl
theorem y_107 : zeroTy Tryz.prog 107 = some (.agg #[(.int .i64 0), (.string ⟨#[]⟩), (.slice none 0 0), (.string ⟨#[]⟩), (.string ⟨#[]⟩)]) := by kernel_rfl
theorem f_140_0 : fieldOff Tryz.prog 140 0 = some 0 := by kernel_rfl
theorem o_3 : oneTy Tryz.prog 3 = true := by kernel_rfl
theorem f_107_0 : fieldOff Tryz.prog 107 0 = some 0 := by kernel_rfl
theorem z_3 : sizeTy Tryz.prog 3 = some 1 := by kernel_rfl
theorem b_123 : hasBody Tryz.prog 123 = true := by kernel_rfl
theorem f_107_1 : fieldOff Tryz.prog 107 1 = some 1 := by kernel_rfl
theorem f_107_2 : fieldOff Tryz.prog 107 2 = some 3 := by kernel_rfl
theorem f_107_3 : fieldOff Tryz.prog 107 3 = some 4 := by kernel_rfl
theorem a_107 : aggTy Tryz.prog 107 = some 5 := by kernel_rfl
theorem z_107 : sizeTy Tryz.prog 107 = some 5 := by kernel_rfl
theorem b_128 : hasBody Tryz.prog 128 = true := by kernel_rfl
theorem f_143_1 : fieldOff Tryz.prog 143 1 = some 1 := by kernel_rfl
theorem y_122 : zeroTy Tryz.prog 122 = some (.agg #[(.int .i64 0), (.string ⟨#[]⟩), (.slice none 0 0)]) := by kernel_rfl
theorem f_143_0 : fieldOff Tryz.prog 143 0 = some 0 := by kernel_rfl
theorem f_122_0 : fieldOff Tryz.prog 122 0 = some 0 := by kernel_rfl
theorem f_122_1 : fieldOff Tryz.prog 122 1 = some 1 := by kernel_rfl
theorem a_122 : aggTy Tryz.prog 122 = some 3 := by kernel_rfl
theorem z_122 : sizeTy Tryz.prog 122 = some 3 := by kernel_rfl
theorem s_75 : sliceTy Tryz.prog 75 = some (140, 5, 80) := by kernel_rfl
theorem a_140 : aggTy Tryz.prog 140 = some 5 := by kernel_rfl
theorem b_94 : hasBody Tryz.prog 94 = true := by kernel_rfl
theorem s_89 : sliceTy Tryz.prog 89 = some (107, 5, 80) := by kernel_rfl
theorem b_104 : hasBody Tryz.prog 104 = true := by kernel_rfl
theorem b_118 : hasBody Tryz.prog 118 = true := by kernel_rfl
theorem s_76 : sliceTy Tryz.prog 76 = some (143, 3, 48) := by kernel_rfl
theorem a_143 : aggTy Tryz.prog 143 = some 3 := by kernel_rfl
theorem b_95 : hasBody Tryz.prog 95 = true := by kernel_rfl
theorem s_90 : sliceTy Tryz.prog 90 = some (122, 3, 48) := by kernel_rfl
theorem b_105 : hasBody Tryz.prog 105 = true := by kernel_rfl
theorem b_119 : hasBody Tryz.prog 119 = true := by kernel_rfl
theorem f_78_0 : fieldOff Tryz.prog 78 0 = some 0 := by kernel_rfl
theorem f_78_2 : fieldOff Tryz.prog 78 2 = some 2 := by kernel_rfl
theorem o_75 : oneTy Tryz.prog 75 = true := by kernel_rfl
theorem b_59 : hasBody Tryz.prog 59 = true := by kernel_rfl
theorem f_78_3 : fieldOff Tryz.prog 78 3 = some 3 := by kernel_rfl
theorem o_76 : oneTy Tryz.prog 76 = true := by kernel_rfl
theorem b_60 : hasBody Tryz.prog 60 = true := by kernel_rfl
theorem y_92 : zeroTy Tryz.prog 92 = some (.agg #[(.string ⟨#[]⟩), (.int .i64 0), (.slice none 0 0), (.slice none 0 0)]) := by kernel_rfl
theorem f_92_0 : fieldOff Tryz.prog 92 0 = some 0 := by kernel_rfl
theorem f_78_1 : fieldOff Tryz.prog 78 1 = some 1 := by kernel_rfl
theorem f_92_1 : fieldOff Tryz.prog 92 1 = some 1 := by kernel_rfl
theorem b_75 : hasBody Tryz.prog 75 = true := by kernel_rfl
theorem f_92_2 : fieldOff Tryz.prog 92 2 = some 2 := by kernel_rfl
theorem z_89 : sizeTy Tryz.prog 89 = some 1 := by kernel_rfl
theorem b_76 : hasBody Tryz.prog 76 = true := by kernel_rfl
theorem f_92_3 : fieldOff Tryz.prog 92 3 = some 3 := by kernel_rfl
theorem z_90 : sizeTy Tryz.prog 90 = some 1 := by kernel_rfl
theorem a_92 : aggTy Tryz.prog 92 = some 4 := by kernel_rfl
theorem z_92 : sizeTy Tryz.prog 92 = some 4 := by kernel_rfl
theorem o_89 : oneTy Tryz.prog 89 = true := by kernel_rfl
theorem b_90 : hasBody Tryz.prog 90 = true := by kernel_rfl
theorem o_90 : oneTy Tryz.prog 90 = true := by kernel_rfl
theorem b_91 : hasBody Tryz.prog 91 = true := by kernel_rfl
theorem f_82_0 : fieldOff Tryz.prog 82 0 = some 0 := by kernel_rfl
theorem a_80 : aggTy Tryz.prog 80 = some 2 := by kernel_rfl
theorem b_61 : hasBody Tryz.prog 61 = true := by kernel_rfl
theorem y_50 : zeroTy Tryz.prog 50 = some (.agg #[(.string ⟨#[]⟩), (.slice none 0 0), (.int .i64 0)]) := by kernel_rfl
theorem b_77 : hasBody Tryz.prog 77 = true := by kernel_rfl
theorem f_50_0 : fieldOff Tryz.prog 50 0 = some 0 := by kernel_rfl
theorem z_48 : sizeTy Tryz.prog 48 = some 2 := by kernel_rfl
theorem f_82_1 : fieldOff Tryz.prog 82 1 = some 2 := by kernel_rfl
theorem f_50_1 : fieldOff Tryz.prog 50 1 = some 2 := by kernel_rfl
theorem a_50 : aggTy Tryz.prog 50 = some 3 := by kernel_rfl
theorem z_50 : sizeTy Tryz.prog 50 = some 3 := by kernel_rfl
theorem a_48 : aggTy Tryz.prog 48 = some 2 := by kernel_rfl
theorem b_92 : hasBody Tryz.prog 92 = true := by kernel_rfl
theorem f_84_0 : fieldOff Tryz.prog 84 0 = some 0 := by kernel_rfl
theorem f_84_1 : fieldOff Tryz.prog 84 1 = some 1 := by kernel_rfl
theorem o_52 : oneTy Tryz.prog 52 = true := by kernel_rfl
theorem b_62 : hasBody Tryz.prog 62 = true := by kernel_rfl
theorem y_54 : zeroTy Tryz.prog 54 = some (.agg #[(.string ⟨#[]⟩), (.slice none 0 0)]) := by kernel_rfl
theorem f_54_0 : fieldOff Tryz.prog 54 0 = some 0 := by kernel_rfl
theorem b_78 : hasBody Tryz.prog 78 = true := by kernel_rfl
theorem f_54_1 : fieldOff Tryz.prog 54 1 = some 1 := by kernel_rfl
theorem z_52 : sizeTy Tryz.prog 52 = some 1 := by kernel_rfl
theorem a_54 : aggTy Tryz.prog 54 = some 2 := by kernel_rfl
theorem z_54 : sizeTy Tryz.prog 54 = some 2 := by kernel_rfl
theorem b_93 : hasBody Tryz.prog 93 = true := by kernel_rfl
theorem s_22 : sliceTy Tryz.prog 22 = some (78, 4, 72) := by kernel_rfl
theorem a_78 : aggTy Tryz.prog 78 = some 4 := by kernel_rfl
theorem b_32 : hasBody Tryz.prog 32 = true := by kernel_rfl
theorem s_30 : sliceTy Tryz.prog 30 = some (92, 4, 72) := by kernel_rfl
theorem b_44 : hasBody Tryz.prog 44 = true := by kernel_rfl
theorem b_55 : hasBody Tryz.prog 55 = true := by kernel_rfl
theorem s_23 : sliceTy Tryz.prog 23 = some (82, 3, 48) := by kernel_rfl
theorem a_82 : aggTy Tryz.prog 82 = some 3 := by kernel_rfl
theorem b_33 : hasBody Tryz.prog 33 = true := by kernel_rfl
theorem s_31 : sliceTy Tryz.prog 31 = some (50, 3, 48) := by kernel_rfl
theorem b_45 : hasBody Tryz.prog 45 = true := by kernel_rfl
theorem b_56 : hasBody Tryz.prog 56 = true := by kernel_rfl
theorem s_24 : sliceTy Tryz.prog 24 = some (84, 2, 40) := by kernel_rfl
theorem a_84 : aggTy Tryz.prog 84 = some 2 := by kernel_rfl
theorem b_34 : hasBody Tryz.prog 34 = true := by kernel_rfl
theorem s_32 : sliceTy Tryz.prog 32 = some (54, 2, 40) := by kernel_rfl
theorem b_46 : hasBody Tryz.prog 46 = true := by kernel_rfl
theorem b_57 : hasBody Tryz.prog 57 = true := by kernel_rfl
theorem s_25 : sliceTy Tryz.prog 25 = some (87, 4, 64) := by kernel_rfl
theorem a_87 : aggTy Tryz.prog 87 = some 4 := by kernel_rfl
theorem b_35 : hasBody Tryz.prog 35 = true := by kernel_rfl
theorem s_33 : sliceTy Tryz.prog 33 = some (64, 4, 64) := by kernel_rfl
theorem y_64 : zeroTy Tryz.prog 64 = some (.agg #[(.int .i64 0), (.string ⟨#[]⟩), (.string ⟨#[]⟩), (.slice none 0 0)]) := by kernel_rfl
theorem b_47 : hasBody Tryz.prog 47 = true := by kernel_rfl
theorem z_64 : sizeTy Tryz.prog 64 = some 4 := by kernel_rfl
theorem a_64 : aggTy Tryz.prog 64 = some 4 := by kernel_rfl
theorem b_58 : hasBody Tryz.prog 58 = true := by kernel_rfl
theorem f_27_0 : fieldOff Tryz.prog 27 0 = some 0 := by kernel_rfl
theorem o_22 : oneTy Tryz.prog 22 = true := by kernel_rfl
theorem b_9 : hasBody Tryz.prog 9 = true := by kernel_rfl
theorem f_27_1 : fieldOff Tryz.prog 27 1 = some 1 := by kernel_rfl
theorem o_23 : oneTy Tryz.prog 23 = true := by kernel_rfl
theorem b_10 : hasBody Tryz.prog 10 = true := by kernel_rfl
theorem f_27_3 : fieldOff Tryz.prog 27 3 = some 3 := by kernel_rfl
theorem o_24 : oneTy Tryz.prog 24 = true := by kernel_rfl
theorem b_11 : hasBody Tryz.prog 11 = true := by kernel_rfl
theorem f_27_5 : fieldOff Tryz.prog 27 5 = some 5 := by kernel_rfl
theorem o_25 : oneTy Tryz.prog 25 = true := by kernel_rfl
theorem b_12 : hasBody Tryz.prog 12 = true := by kernel_rfl
theorem y_35 : zeroTy Tryz.prog 35 = some (.agg #[(.slice none 0 0), (.slice none 0 0), (.int .i64 0), (.slice none 0 0), (.bool false), (.slice none 0 0)]) := by kernel_rfl
theorem b_19 : hasBody Tryz.prog 19 = true := by kernel_rfl
theorem f_35_0 : fieldOff Tryz.prog 35 0 = some 0 := by kernel_rfl
theorem z_30 : sizeTy Tryz.prog 30 = some 1 := by kernel_rfl
theorem b_20 : hasBody Tryz.prog 20 = true := by kernel_rfl
theorem f_35_1 : fieldOff Tryz.prog 35 1 = some 1 := by kernel_rfl
theorem z_31 : sizeTy Tryz.prog 31 = some 1 := by kernel_rfl
theorem f_27_2 : fieldOff Tryz.prog 27 2 = some 2 := by kernel_rfl
theorem f_35_2 : fieldOff Tryz.prog 35 2 = some 2 := by kernel_rfl
theorem b_21 : hasBody Tryz.prog 21 = true := by kernel_rfl
theorem f_35_3 : fieldOff Tryz.prog 35 3 = some 3 := by kernel_rfl
theorem z_32 : sizeTy Tryz.prog 32 = some 1 := by kernel_rfl
theorem f_27_4 : fieldOff Tryz.prog 27 4 = some 4 := by kernel_rfl
theorem o_4 : oneTy Tryz.prog 4 = true := by kernel_rfl
theorem f_35_4 : fieldOff Tryz.prog 35 4 = some 4 := by kernel_rfl
theorem z_4 : sizeTy Tryz.prog 4 = some 1 := by kernel_rfl
theorem b_22 : hasBody Tryz.prog 22 = true := by kernel_rfl
theorem f_35_5 : fieldOff Tryz.prog 35 5 = some 5 := by kernel_rfl
theorem z_33 : sizeTy Tryz.prog 33 = some 1 := by kernel_rfl
theorem a_35 : aggTy Tryz.prog 35 = some 6 := by kernel_rfl
theorem z_35 : sizeTy Tryz.prog 35 = some 6 := by kernel_rfl
theorem o_30 : oneTy Tryz.prog 30 = true := by kernel_rfl
theorem b_28 : hasBody Tryz.prog 28 = true := by kernel_rfl
theorem o_31 : oneTy Tryz.prog 31 = true := by kernel_rfl
theorem b_29 : hasBody Tryz.prog 29 = true := by kernel_rfl
theorem o_32 : oneTy Tryz.prog 32 = true := by kernel_rfl
theorem b_30 : hasBody Tryz.prog 30 = true := by kernel_rfl
theorem ub_4 : Tryz.prog.underlying 4 = some .bool := by kernel_rfl
theorem o_33 : oneTy Tryz.prog 33 = true := by kernel_rfl
theorem b_31 : hasBody Tryz.prog 31 = true := by kernel_rfl
open Go.Sy.Bel1 Go.Sy.Ev1
theorem laws_szPattern (w : World) (c_a : List Value) (a : Pattern) (left : Int) (h_a : Gd.rd w c_a a) (h0 : 0 ≤ left) (h1 : left ≤ 1048576) (ho : okPattern a) : Calls Tryz.prog 121 [(.agg c_a.toArray), (.int .i64 left)].toArray w (Val w (.int .i64 (szm (szPattern a) left))) := by
 obtain ⟨u1, rfl, hu2⟩ := open_Pattern h_a
 have hm3 := rd_max hu2
 have ho1 : a.Rel.size ≤ 9223372036854775807 := ho.1
 refine enter 19 Tryz.func121 rfl rfl rfl (C_seq (C_reg (li rfl (D_box rfl rfl rfl rfl rfl fun g4 => ?_))))
 refine p1 rfl (D_end (x_then (D_H ([bx g4 [(.string a.Rel), u1]]) rfl (C_seq (C_reg (p1 rfl (q1 rfl (D_fb f_138_0 rfl rfl (q := 0) rfl) (q1 rfl (lb 0 o_9 rfl rfl rfl rfl) (q1 rfl (D_lens us_9 rfl rfl) (q1 rfl (D_sub rfl rfl rfl rfl (by omega)) (p1 rfl ?_)))))))))))
 refine D_end (x_then (C_seq (C_seq (C_reg (p1 rfl <| p1 rfl (D_end (x_then (C_if _ rfl (fun h5 => ?_) (fun h5 => ?_)))))))))
 ·have pr5 : ((left - ((a.Rel.size : Nat) : Int)) : Int) < 0 := of_decide_eq_true h5
  refine C_seq (C_reg (p1 rfl (D_end (x_then (C_ret (x_then_ret (Ri rfl rfl ?_)))))))
  show ((-1) : Int) = _
  unfold szPattern szm at *; repeat (split at * <;> try omega)
 ·have pr5 : ¬ ((left - ((a.Rel.size : Nat) : Int)) : Int) < 0 := of_decide_eq_false h5
  refine C_skip (x_then (C_seq (C_reg (q1 rfl (D_fb f_138_1 rfl rfl (q := 1) rfl) (q1 rfl (lb 0 o_46 rfl rfl rfl rfl) (p1 rfl (li rfl (cv b_96 rfl rfl rfl rfl (fun w' hs => (laws_szStringS w' u1 a.Args (left - ((a.Rel.size : Nat) : Int)) (rd_at hs hu2) (by first | assumption | omega | (unfold szm at *; split at * <;> omega)) (by first | assumption | omega | (unfold szm at *; split at * <;> omega)) ho.2)) ?_))))))))
  refine p1 rfl (D_end (x_then (C_seq (C_seq (C_reg (p1 rfl <| p1 rfl (D_end (x_then (D_weak [(1, (.int .i64 (szm (szSs a.Args) (left - ((a.Rel.size : Nat) : Int))))), (17, (.bool (decide (((szm (szSs a.Args) (left - ((a.Rel.size : Nat) : Int))) : Int) < 0))))] ⟨rfl, rfl, trivial⟩ (D_sel (H' := []) [false] rfl (C_if _ rfl (fun h6 => ?_) (fun h6 => ?_))))))))))))
  ·have pr6 : ((szm (szSs a.Args) (left - ((a.Rel.size : Nat) : Int))) : Int) < 0 := of_decide_eq_true h6
   refine C_seq (C_reg (p1 rfl (D_end (x_then (C_ret (x_then_ret (Ri rfl rfl ?_)))))))
   show ((-1) : Int) = _
   unfold szPattern szm at *; repeat (split at * <;> try omega)
  ·have pr6 : ¬ ((szm (szSs a.Args) (left - ((a.Rel.size : Nat) : Int))) : Int) < 0 := of_decide_eq_false h6
   have pr6z := szm_val (n := (szSs a.Args)) (left := (left - ((a.Rel.size : Nat) : Int))) pr6
   refine C_skip (x_then (C_seq (C_reg (p1 rfl <| p1 rfl (D_end (x_then (C_ret (Ri rfl rfl ?_))))))))
   show ((szm (szSs a.Args) (left - ((a.Rel.size : Nat) : Int))) : Int) = _
   unfold szPattern szm at *; repeat (split at * <;> try omega)

theorem laws_toPattern (w : World) (c_a : List Value) (a : Pattern) (h_a : Gd.rd w c_a a) (hn : szPattern a ≤ 1048576) : Calls Tryz.prog 123 [(.agg c_a.toArray)].toArray w (Res w (a : Pattern)) := by
 obtain ⟨u1, rfl, hu2⟩ := open_Pattern h_a
 have hm3 := rd_max hu2
 unfold szPattern at hn
 unfold szSs at hn
 refine enter 12 Tryz.func123 rfl rfl rfl (C_seq (C_reg (li rfl (D_box rfl rfl rfl rfl rfl fun g4 => ?_))))
 refine li rfl (D_alloc y_105 rfl rfl rfl rfl fun g5 => ?_)
 refine D_end (x_then (D_H ([bx g5 [(.string ⟨#[]⟩), (.slice none 0 0)], bx g4 [(.string a.Rel), u1]]) rfl (C_seq (C_reg (li rfl (D_alloc y_105 rfl rfl rfl rfl fun g6 => ?_))))))
 refine D_end (x_then (D_H ([bx g6 [(.string ⟨#[]⟩), (.slice none 0 0)], bx g5 [(.string ⟨#[]⟩), (.slice none 0 0)], bx g4 [(.string a.Rel), u1]]) rfl (C_seq (C_reg (q1 rfl (D_fb f_138_0 rfl rfl (q := 0) rfl) (q1 rfl (lb 2 o_9 rfl rfl rfl rfl) (q1 rfl (D_fb f_105_0 rfl rfl (q := 0) rfl) (li rfl (D_stb (vs := [(.string a.Rel)]) (cs' := [(.string a.Rel), (.slice none 0 0)]) 0 z_9 rfl rfl rfl rfl rfl rfl (ocons rfl onil) (by simp) rfl ?_)))))))))
 refine D_end (x_then (D_H ([bx g6 [(.string a.Rel), (.slice none 0 0)], bx g5 [(.string ⟨#[]⟩), (.slice none 0 0)], bx g4 [(.string a.Rel), u1]]) rfl (C_seq (C_reg (q1 rfl (D_fb f_138_1 rfl rfl (q := 1) rfl) (q1 rfl (lb 2 o_46 rfl rfl rfl rfl) (li rfl (crl b_106 rfl rfl rfl rfl (fun w' hs => (laws_toStringS w' u1 a.Args (rd_at hs hu2) (by first | assumption | omega | (unfold szm at *; split at * <;> omega)))) fun v7 => ?_))))))))
 refine q1 rfl (D_fb f_105_1 rfl rfl (q := 1) rfl) (D_pre (fun w' hs => one_own (k := 0) hs rfl) ?_)
 intro ho8
 refine li rfl (D_stb (vs := [v7]) (cs' := [(.string a.Rel), v7]) 1 z_46 rfl rfl rfl rfl rfl (cells_of_one ho8) (ocons ho8 onil) (by simp) rfl ?_)
 refine D_end (x_then (D_H ([ov [v7] (a.Args : (List ByteArray)), bx g6 [(.string a.Rel), v7], bx g5 [(.string ⟨#[]⟩), (.slice none 0 0)], bx g4 [(.string a.Rel), u1]]) rfl (C_seq (C_reg (q1 rfl (lbw 1 a_105 rfl rfl rfl) (li rfl (D_stb (vs := [(.string a.Rel), v7]) (cs' := [(.string a.Rel), v7]) 2 z_105 rfl rfl rfl rfl rfl rfl (ocons rfl (ocons ho8 onil)) (by simp) rfl ?_)))))))
 refine D_end (x_then (C_ret (pk_Pattern (r := (⟨a.Rel, a.Args⟩ : Pattern)) (R_c 2 a_105 rfl rfl rfl fun w' hs => res_of (k := 0) hs rfl ?_))))
 show (⟨a.Rel, a.Args⟩ : Pattern) = a
 rfl

theorem laws_eqPattern (w : World) (c_a : List Value) (a : Pattern) (c_b : List Value) (b : Pattern) (h_a : Gd.rd w c_a a) (h_b : Gd.rd w c_b b) : Calls Tryz.prog 128 [(.agg c_a.toArray), (.agg c_b.toArray)].toArray w (Val w (.bool (decide (a = b)))) := by
 obtain ⟨u1, rfl, hu2⟩ := open_Pattern h_a
 have hm3 := rd_max hu2
 obtain ⟨u4, rfl, hu5⟩ := open_Pattern h_b
 have hm6 := rd_max hu5
 refine enter 16 Tryz.func128 rfl rfl rfl (C_seq (C_reg (li rfl (D_box rfl rfl rfl rfl rfl fun g7 => ?_))))
 refine li rfl (D_box rfl rfl rfl rfl rfl fun g8 => ?_)
 refine p1 rfl (D_end (x_then (D_H ([bx g8 [(.string b.Rel), u4], bx g7 [(.string a.Rel), u1]]) rfl (C_seq (C_seq (C_reg (q1 rfl (D_fb f_105_0 rfl rfl (q := 0) rfl) (q1 rfl (lb 1 o_9 rfl rfl rfl rfl) (q1 rfl (D_fb f_105_0 rfl rfl (q := 0) rfl) (q1 rfl (lb 0 o_9 rfl rfl rfl rfl) (q1 rfl (D_neS rfl rfl rfl) ?_)))))))))))
 refine D_end (x_then (C_if _ rfl (fun h9 => ?_) (fun h9 => ?_)))
 ·have pr9 : ¬ (a.Rel : ByteArray) = b.Rel := of_decide_eq_false (not_t h9)
  refine C_seq (C_reg (p1 rfl (D_end (x_then (C_ret (x_then_ret (Rb rfl rfl ?_)))))))
  cases a; cases b; simp_all
 ·have pr9 : (a.Rel : ByteArray) = b.Rel := of_decide_eq_true (not_f h9)
  refine C_skip (x_then (C_seq (C_seq (C_reg (q1 rfl (D_fb f_105_1 rfl rfl (q := 1) rfl) (q1 rfl (lb 1 o_46 rfl rfl rfl rfl) (q1 rfl (D_fb f_105_1 rfl rfl (q := 1) rfl) (q1 rfl (lb 0 o_46 rfl rfl rfl rfl) (li rfl (cv b_120 rfl rfl rfl rfl (fun w' hs => (laws_eqStringS w' u1 a.Args u4 b.Args (rd_at hs hu2) (rd_at hs hu5))) ?_))))))))))
  refine p1 rfl (D_end (x_then (D_weak [(15, (.bool (!(decide (a.Args = b.Args)))))] ⟨rfl, trivial⟩ (D_sel (H' := []) [false, false] rfl (C_if _ rfl (fun h10 => ?_) (fun h10 => ?_))))))
  ·have h10n : (decide (a.Args = b.Args)) = false := not_t h10
   refine C_seq (C_reg (p1 rfl (D_end (x_then (C_ret (x_then_ret (Rb rfl rfl ?_)))))))
   cases a; cases b; simp_all
  ·have h10n : (decide (a.Args = b.Args)) = true := not_f h10
   refine C_skip (x_then (C_seq (C_reg (p1 rfl (D_end (x_then (C_ret (Rb rfl rfl ?_))))))))
   cases a; cases b; simp_all

theorem laws_szCond (w : World) (c_a : List Value) (a : Cond) (left : Int) (h_a : Gd.rd w c_a a) (h0 : 0 ≤ left) (h1 : left ≤ 1048576) (ho : okCond a) : Calls Tryz.prog 94 [(.agg c_a.toArray), (.int .i64 left)].toArray w (Val w (.int .i64 (szm (szCond a) left))) := by
 obtain ⟨u1, rfl, hu2⟩ := open_Cond h_a
 have hm3 := rd_max hu2
 have hb4 := sub_Cond_Pattern h_a
 have ho1 : a.Left.size ≤ 9223372036854775807 := ho.2.2.1
 have ho2 : a.Right.size ≤ 9223372036854775807 := ho.2.2.2
 refine enter 26 Tryz.func94 rfl rfl rfl (C_seq (C_reg (li rfl (D_box rfl rfl rfl rfl rfl fun g5 => ?_))))
 refine p1 rfl (D_end (x_then (D_H ([bx g5 [(.int .i64 a.Kind), (.string a.Pattern.Rel), u1, (.string a.Left), (.string a.Right)]]) rfl (C_seq (C_reg (q1 rfl (D_fb f_140_1 rfl rfl (q := 1) rfl) (q1 rfl (lba (es := [(.string a.Pattern.Rel), u1]) 0 a_138 rfl rfl rfl rfl) (p1 rfl (li rfl (cv b_121 rfl rfl rfl rfl (fun w' hs => (laws_szPattern w' [(.string a.Pattern.Rel), u1] a.Pattern left (rd_at hs hb4) (by first | assumption | omega | (unfold szm at *; split at * <;> omega)) (by first | assumption | omega | (unfold szm at *; split at * <;> omega)) ho.2.1)) ?_))))))))))
 refine p1 rfl (D_end (x_then (C_seq (C_seq (C_reg (p1 rfl <| p1 rfl (D_end (x_then (C_if _ rfl (fun h6 => ?_) (fun h6 => ?_))))))))))
 ·have pr6 : ((szm (szPattern a.Pattern) left) : Int) < 0 := of_decide_eq_true h6
  refine C_seq (C_reg (p1 rfl (D_end (x_then (C_ret (x_then_ret (Ri rfl rfl ?_)))))))
  show ((-1) : Int) = _
  unfold szCond szm at *; repeat (split at * <;> try omega)
 ·have pr6 : ¬ ((szm (szPattern a.Pattern) left) : Int) < 0 := of_decide_eq_false h6
  have pr6z := szm_val (n := (szPattern a.Pattern)) (left := left) pr6
  refine C_skip (x_then (C_seq (C_reg (p1 rfl (q1 rfl (D_fb f_140_2 rfl rfl (q := 3) rfl) (q1 rfl (lb 0 o_9 rfl rfl rfl rfl) (q1 rfl (D_lens us_9 rfl rfl) (q1 rfl (D_sub rfl rfl rfl rfl (by omega)) (p1 rfl (D_end (x_then ?_)))))))))))
  refine C_seq (C_seq (C_reg (p1 rfl <| p1 rfl (D_end (x_then (C_if _ rfl (fun h7 => ?_) (fun h7 => ?_)))))))
  ·have pr7 : (((szm (szPattern a.Pattern) left) - ((a.Left.size : Nat) : Int)) : Int) < 0 := of_decide_eq_true h7
   refine C_seq (C_reg (p1 rfl (D_end (x_then (C_ret (x_then_ret (Ri rfl rfl ?_)))))))
   show ((-1) : Int) = _
   unfold szCond szm at *; repeat (split at * <;> try omega)
  ·have pr7 : ¬ (((szm (szPattern a.Pattern) left) - ((a.Left.size : Nat) : Int)) : Int) < 0 := of_decide_eq_false h7
   refine C_skip (x_then (D_weak [(1, (.int .i64 ((szm (szPattern a.Pattern) left) - ((a.Left.size : Nat) : Int)))), (2, (.pointer (some ⟨g5, 0, none⟩)))] ⟨rfl, rfl, trivial⟩ (C_seq (C_reg (p1 rfl (q1 rfl (D_fb f_140_3 rfl rfl (q := 4) rfl) (q1 rfl (lb 0 o_9 rfl rfl rfl rfl) (q1 rfl (D_lens us_9 rfl rfl) (q1 rfl (D_sub rfl rfl rfl rfl (by omega)) (p1 rfl (D_end ?_)))))))))))
   refine x_then (C_seq (C_seq (C_reg (p1 rfl <| p1 rfl (D_end (x_then (C_if _ rfl (fun h8 => ?_) (fun h8 => ?_))))))))
   ·have pr8 : ((((szm (szPattern a.Pattern) left) - ((a.Left.size : Nat) : Int)) - ((a.Right.size : Nat) : Int)) : Int) < 0 := of_decide_eq_true h8
    refine C_seq (C_reg (p1 rfl (D_end (x_then (C_ret (x_then_ret (Ri rfl rfl ?_)))))))
    show ((-1) : Int) = _
    unfold szCond szm at *; repeat (split at * <;> try omega)
   ·have pr8 : ¬ ((((szm (szPattern a.Pattern) left) - ((a.Left.size : Nat) : Int)) - ((a.Right.size : Nat) : Int)) : Int) < 0 := of_decide_eq_false h8
    refine C_skip (x_then (C_seq (C_reg (p1 rfl <| p1 rfl (D_end (x_then (C_ret (Ri rfl rfl ?_))))))))
    show ((((szm (szPattern a.Pattern) left) - ((a.Left.size : Nat) : Int)) - ((a.Right.size : Nat) : Int)) : Int) = _
    unfold szCond szm at *; repeat (split at * <;> try omega)

theorem laws_toCond (w : World) (c_a : List Value) (a : Cond) (h_a : Gd.rd w c_a a) (hn : szCond a ≤ 1048576) : Calls Tryz.prog 104 [(.agg c_a.toArray)].toArray w (Res w (a : Cond)) := by
 obtain ⟨u1, rfl, hu2⟩ := open_Cond h_a
 have hm3 := rd_max hu2
 have hb4 := sub_Cond_Pattern h_a
 unfold szCond at hn
 refine enter 18 Tryz.func104 rfl rfl rfl (C_seq (C_reg (li rfl (D_box rfl rfl rfl rfl rfl fun g5 => ?_))))
 refine li rfl (D_alloc y_107 rfl rfl rfl rfl fun g6 => ?_)
 refine D_end (x_then (D_H ([bx g6 [(.int .i64 0), (.string ⟨#[]⟩), (.slice none 0 0), (.string ⟨#[]⟩), (.string ⟨#[]⟩)], bx g5 [(.int .i64 a.Kind), (.string a.Pattern.Rel), u1, (.string a.Left), (.string a.Right)]]) rfl (C_seq (C_reg (li rfl (D_alloc y_107 rfl rfl rfl rfl fun g7 => ?_))))))
 refine D_end (x_then (D_H ([bx g7 [(.int .i64 0), (.string ⟨#[]⟩), (.slice none 0 0), (.string ⟨#[]⟩), (.string ⟨#[]⟩)], bx g6 [(.int .i64 0), (.string ⟨#[]⟩), (.slice none 0 0), (.string ⟨#[]⟩), (.string ⟨#[]⟩)], bx g5 [(.int .i64 a.Kind), (.string a.Pattern.Rel), u1, (.string a.Left), (.string a.Right)]]) rfl (C_seq (C_reg (q1 rfl (D_fb f_140_0 rfl rfl (q := 0) rfl) (q1 rfl (lb 2 o_3 rfl rfl rfl rfl) (q1 rfl (D_fb f_107_0 rfl rfl (q := 0) rfl) (li rfl (D_stb (vs := [(.int .i64 a.Kind)]) (cs' := [(.int .i64 a.Kind), (.string ⟨#[]⟩), (.slice none 0 0), (.string ⟨#[]⟩), (.string ⟨#[]⟩)]) 0 z_3 rfl rfl rfl rfl rfl rfl (ocons rfl onil) (by simp) rfl ?_)))))))))
 refine D_end (x_then (D_H ([bx g7 [(.int .i64 a.Kind), (.string ⟨#[]⟩), (.slice none 0 0), (.string ⟨#[]⟩), (.string ⟨#[]⟩)], bx g6 [(.int .i64 0), (.string ⟨#[]⟩), (.slice none 0 0), (.string ⟨#[]⟩), (.string ⟨#[]⟩)], bx g5 [(.int .i64 a.Kind), (.string a.Pattern.Rel), u1, (.string a.Left), (.string a.Right)]]) rfl (C_seq (C_reg (q1 rfl (D_fb f_140_1 rfl rfl (q := 1) rfl) (q1 rfl (lba (es := [(.string a.Pattern.Rel), u1]) 2 a_138 rfl rfl rfl rfl) (li rfl (crs rfl b_123 rfl rfl rfl rfl (fun w' hs => (laws_toPattern w' [(.string a.Pattern.Rel), u1] a.Pattern (rd_at hs hb4) (by first | assumption | omega | (unfold szm at *; split at * <;> omega)))) fun cs8 => ?_))))))))
 refine D_pre (fun w' hs => shape_Pattern (rd_own (k := 0) hs rfl)) ?_
 rintro ⟨v9, rfl, ho10⟩
 refine q1 rfl (D_fb f_107_1 rfl rfl (q := 1) rfl) (li rfl (D_stb (vs := [(.string a.Pattern.Rel), v9]) (cs' := [(.int .i64 a.Kind), (.string a.Pattern.Rel), v9, (.string ⟨#[]⟩), (.string ⟨#[]⟩)]) 1 z_105 rfl rfl rfl rfl rfl rfl (ocons rfl (ocons ho10 onil)) (by simp) rfl ?_))
 refine D_end (x_then (D_H ([ov [(.string a.Pattern.Rel), v9] (a.Pattern : Pattern), bx g7 [(.int .i64 a.Kind), (.string a.Pattern.Rel), v9, (.string ⟨#[]⟩), (.string ⟨#[]⟩)], bx g6 [(.int .i64 0), (.string ⟨#[]⟩), (.slice none 0 0), (.string ⟨#[]⟩), (.string ⟨#[]⟩)], bx g5 [(.int .i64 a.Kind), (.string a.Pattern.Rel), u1, (.string a.Left), (.string a.Right)]]) rfl (C_seq (C_reg (q1 rfl (D_fb f_140_2 rfl rfl (q := 3) rfl) (q1 rfl (lb 3 o_9 rfl rfl rfl rfl) (q1 rfl (D_fb f_107_2 rfl rfl (q := 3) rfl) (li rfl (D_stb (vs := [(.string a.Left)]) (cs' := [(.int .i64 a.Kind), (.string a.Pattern.Rel), v9, (.string a.Left), (.string ⟨#[]⟩)]) 1 z_9 rfl rfl rfl rfl rfl rfl (ocons rfl onil) (by simp) rfl ?_)))))))))
 refine D_end (x_then (D_H ([ov [(.string a.Pattern.Rel), v9] (a.Pattern : Pattern), bx g7 [(.int .i64 a.Kind), (.string a.Pattern.Rel), v9, (.string a.Left), (.string ⟨#[]⟩)], bx g6 [(.int .i64 0), (.string ⟨#[]⟩), (.slice none 0 0), (.string ⟨#[]⟩), (.string ⟨#[]⟩)], bx g5 [(.int .i64 a.Kind), (.string a.Pattern.Rel), u1, (.string a.Left), (.string a.Right)]]) rfl (C_seq (C_reg (q1 rfl (D_fb f_140_3 rfl rfl (q := 4) rfl) (q1 rfl (lb 3 o_9 rfl rfl rfl rfl) (q1 rfl (D_fb f_107_3 rfl rfl (q := 4) rfl) (li rfl (D_stb (vs := [(.string a.Right)]) (cs' := [(.int .i64 a.Kind), (.string a.Pattern.Rel), v9, (.string a.Left), (.string a.Right)]) 1 z_9 rfl rfl rfl rfl rfl rfl (ocons rfl onil) (by simp) rfl ?_)))))))))
 refine D_end (x_then (D_weak [(2, (.pointer (some ⟨g6, 0, none⟩))), (3, (.pointer (some ⟨g7, 0, none⟩)))] ⟨rfl, rfl, trivial⟩ (D_sel (H' := [ov [(.string a.Pattern.Rel), v9] (a.Pattern : Pattern), bx g7 [(.int .i64 a.Kind), (.string a.Pattern.Rel), v9, (.string a.Left), (.string a.Right)], bx g6 [(.int .i64 0), (.string ⟨#[]⟩), (.slice none 0 0), (.string ⟨#[]⟩), (.string ⟨#[]⟩)]]) [true, true, true, false] rfl (C_seq (C_reg (q1 rfl (lbw 1 a_107 rfl rfl rfl) (li rfl (D_stb (vs := [(.int .i64 a.Kind), (.string a.Pattern.Rel), v9, (.string a.Left), (.string a.Right)]) (cs' := [(.int .i64 a.Kind), (.string a.Pattern.Rel), v9, (.string a.Left), (.string a.Right)]) 2 z_107 rfl rfl rfl rfl rfl rfl (ocons rfl (ocons rfl (ocons ho10 (ocons rfl (ocons rfl onil))))) (by simp) rfl ?_))))))))
 refine D_end (x_then (C_ret (D_unpair (α := ByteArray) (β := (List ByteArray)) (c1 := [(.string a.Pattern.Rel)]) (c2 := [v9]) (x := a.Pattern.Rel) (y := (a.Pattern.Args)) rfl rfl (D_fd [] 1 rfl (pk_Cond (r := (⟨a.Kind, ⟨a.Pattern.Rel, a.Pattern.Args⟩, a.Left, a.Right⟩ : Cond)) (R_c 2 a_107 rfl rfl rfl fun w' hs => res_of (k := 0) hs rfl ?_))))))
 show (⟨a.Kind, ⟨a.Pattern.Rel, a.Pattern.Args⟩, a.Left, a.Right⟩ : Cond) = a
 rfl

theorem laws_eqCond (w : World) (c_a : List Value) (a : Cond) (c_b : List Value) (b : Cond) (h_a : Gd.rd w c_a a) (h_b : Gd.rd w c_b b) : Calls Tryz.prog 118 [(.agg c_a.toArray), (.agg c_b.toArray)].toArray w (Val w (.bool (decide (a = b)))) := by
 obtain ⟨u1, rfl, hu2⟩ := open_Cond h_a
 have hm3 := rd_max hu2
 have hb4 := sub_Cond_Pattern h_a
 obtain ⟨u5, rfl, hu6⟩ := open_Cond h_b
 have hm7 := rd_max hu6
 have hb8 := sub_Cond_Pattern h_b
 refine enter 26 Tryz.func118 rfl rfl rfl (C_seq (C_reg (li rfl (D_box rfl rfl rfl rfl rfl fun g9 => ?_))))
 refine li rfl (D_box rfl rfl rfl rfl rfl fun g10 => ?_)
 refine p1 rfl (D_end (x_then (D_H ([bx g10 [(.int .i64 b.Kind), (.string b.Pattern.Rel), u5, (.string b.Left), (.string b.Right)], bx g9 [(.int .i64 a.Kind), (.string a.Pattern.Rel), u1, (.string a.Left), (.string a.Right)]]) rfl (C_seq (C_seq (C_reg (q1 rfl (D_fb f_107_0 rfl rfl (q := 0) rfl) (q1 rfl (lb 1 o_3 rfl rfl rfl rfl) (q1 rfl (D_fb f_107_0 rfl rfl (q := 0) rfl) (q1 rfl (lb 0 o_3 rfl rfl rfl rfl) (p1 rfl ?_)))))))))))
 refine D_end (x_then (C_if _ rfl (fun h11 => ?_) (fun h11 => ?_)))
 ·have pr11 : (a.Kind : Int) ≠ b.Kind := bne_iff_ne.1 h11
  refine C_seq (C_reg (p1 rfl (D_end (x_then (C_ret (x_then_ret (Rb rfl rfl ?_)))))))
  cases a; cases b; simp_all
 ·have pr11 : (a.Kind : Int) = b.Kind := eq_of_bne_f h11
  refine C_skip (x_then (C_seq (C_seq (C_reg (q1 rfl (D_fb f_107_1 rfl rfl (q := 1) rfl) (q1 rfl (lba (es := [(.string a.Pattern.Rel), u1]) 1 a_105 rfl rfl rfl rfl) (q1 rfl (D_fb f_107_1 rfl rfl (q := 1) rfl) (q1 rfl (lba (es := [(.string b.Pattern.Rel), u5]) 0 a_105 rfl rfl rfl rfl) (li rfl (cv b_128 rfl rfl rfl rfl (fun w' hs => (laws_eqPattern w' [(.string a.Pattern.Rel), u1] a.Pattern [(.string b.Pattern.Rel), u5] b.Pattern (rd_at hs hb4) (rd_at hs hb8))) ?_))))))))))
  refine p1 rfl (D_end (x_then (C_if _ rfl (fun h12 => ?_) (fun h12 => ?_))))
  ·have h12n : (decide (a.Pattern = b.Pattern)) = false := not_t h12
   refine C_seq (C_reg (p1 rfl (D_end (x_then (C_ret (x_then_ret (Rb rfl rfl ?_)))))))
   cases a; cases b; simp_all
  ·have h12n : (decide (a.Pattern = b.Pattern)) = true := not_f h12
   refine C_skip (x_then (C_seq (C_seq (C_reg (q1 rfl (D_fb f_107_2 rfl rfl (q := 3) rfl) (q1 rfl (lb 1 o_9 rfl rfl rfl rfl) (q1 rfl (D_fb f_107_2 rfl rfl (q := 3) rfl) (q1 rfl (lb 0 o_9 rfl rfl rfl rfl) (q1 rfl (D_neS rfl rfl rfl) (D_end (x_then ?_)))))))))))
   refine D_weak [(2, (.pointer (some ⟨g9, 0, none⟩))), (3, (.pointer (some ⟨g10, 0, none⟩))), (20, (.bool (!(decide ((a.Left : ByteArray) = b.Left)))))] ⟨rfl, rfl, rfl, trivial⟩ (C_if _ rfl (fun h13 => ?_) (fun h13 => ?_))
   ·have pr13 : ¬ (a.Left : ByteArray) = b.Left := of_decide_eq_false (not_t h13)
    refine C_seq (C_reg (p1 rfl (D_end (x_then (C_ret (x_then_ret (Rb rfl rfl ?_)))))))
    cases a; cases b; simp_all
   ·have pr13 : (a.Left : ByteArray) = b.Left := of_decide_eq_true (not_f h13)
    refine C_skip (x_then (C_seq (C_seq (C_reg (q1 rfl (D_fb f_107_3 rfl rfl (q := 4) rfl) (q1 rfl (lb 1 o_9 rfl rfl rfl rfl) (q1 rfl (D_fb f_107_3 rfl rfl (q := 4) rfl) (q1 rfl (lb 0 o_9 rfl rfl rfl rfl) (q1 rfl (D_neS rfl rfl rfl) (D_end (x_then ?_)))))))))))
    refine C_if _ rfl (fun h14 => ?_) (fun h14 => ?_)
    ·have pr14 : ¬ (a.Right : ByteArray) = b.Right := of_decide_eq_false (not_t h14)
     refine C_seq (C_reg (p1 rfl (D_end (x_then (C_ret (x_then_ret (Rb rfl rfl ?_)))))))
     cases a; cases b; simp_all
    ·have pr14 : (a.Right : ByteArray) = b.Right := of_decide_eq_true (not_f h14)
     refine C_skip (x_then (C_seq (C_reg (p1 rfl (D_end (x_then (C_ret (Rb rfl rfl ?_))))))))
     cases a; cases b; simp_all

theorem laws_szAction (w : World) (c_a : List Value) (a : Action) (left : Int) (h_a : Gd.rd w c_a a) (h0 : 0 ≤ left) (h1 : left ≤ 1048576) (ho : okAction a) : Calls Tryz.prog 95 [(.agg c_a.toArray), (.int .i64 left)].toArray w (Val w (.int .i64 (szm (szAction a) left))) := by
 obtain ⟨u1, rfl, hu2⟩ := open_Action h_a
 have hm3 := rd_max hu2
 have hb4 := sub_Action_Pattern h_a
 refine enter 12 Tryz.func95 rfl rfl rfl (C_seq (C_reg (li rfl (D_box rfl rfl rfl rfl rfl fun g5 => ?_))))
 refine p1 rfl (D_end (x_then (D_H ([bx g5 [(.int .i64 a.Kind), (.string a.Pattern.Rel), u1]]) rfl (C_seq (C_reg (q1 rfl (D_fb f_143_1 rfl rfl (q := 1) rfl) (q1 rfl (lba (es := [(.string a.Pattern.Rel), u1]) 0 a_138 rfl rfl rfl rfl) (p1 rfl (li rfl (cv b_121 rfl rfl rfl rfl (fun w' hs => (laws_szPattern w' [(.string a.Pattern.Rel), u1] a.Pattern left (rd_at hs hb4) (by first | assumption | omega | (unfold szm at *; split at * <;> omega)) (by first | assumption | omega | (unfold szm at *; split at * <;> omega)) ho.2)) ?_))))))))))
 refine p1 rfl (D_end (x_then (C_seq (C_seq (C_reg (p1 rfl <| p1 rfl (D_end (x_then (C_if _ rfl (fun h6 => ?_) (fun h6 => ?_))))))))))
 ·have pr6 : ((szm (szPattern a.Pattern) left) : Int) < 0 := of_decide_eq_true h6
  refine C_seq (C_reg (p1 rfl (D_end (x_then (C_ret (x_then_ret (Ri rfl rfl ?_)))))))
  show ((-1) : Int) = _
  unfold szAction szm at *; repeat (split at * <;> try omega)
 ·have pr6 : ¬ ((szm (szPattern a.Pattern) left) : Int) < 0 := of_decide_eq_false h6
  have pr6z := szm_val (n := (szPattern a.Pattern)) (left := left) pr6
  refine C_skip (x_then (C_seq (C_reg (p1 rfl <| p1 rfl (D_end (x_then (C_ret (Ri rfl rfl ?_))))))))
  show ((szm (szPattern a.Pattern) left) : Int) = _
  unfold szAction szm at *; repeat (split at * <;> try omega)

theorem laws_toAction (w : World) (c_a : List Value) (a : Action) (h_a : Gd.rd w c_a a) (hn : szAction a ≤ 1048576) : Calls Tryz.prog 105 [(.agg c_a.toArray)].toArray w (Res w (a : Action)) := by
 obtain ⟨u1, rfl, hu2⟩ := open_Action h_a
 have hm3 := rd_max hu2
 have hb4 := sub_Action_Pattern h_a
 unfold szAction at hn
 refine enter 12 Tryz.func105 rfl rfl rfl (C_seq (C_reg (li rfl (D_box rfl rfl rfl rfl rfl fun g5 => ?_))))
 refine li rfl (D_alloc y_122 rfl rfl rfl rfl fun g6 => ?_)
 refine D_end (x_then (D_H ([bx g6 [(.int .i64 0), (.string ⟨#[]⟩), (.slice none 0 0)], bx g5 [(.int .i64 a.Kind), (.string a.Pattern.Rel), u1]]) rfl (C_seq (C_reg (li rfl (D_alloc y_122 rfl rfl rfl rfl fun g7 => ?_))))))
 refine D_end (x_then (D_H ([bx g7 [(.int .i64 0), (.string ⟨#[]⟩), (.slice none 0 0)], bx g6 [(.int .i64 0), (.string ⟨#[]⟩), (.slice none 0 0)], bx g5 [(.int .i64 a.Kind), (.string a.Pattern.Rel), u1]]) rfl (C_seq (C_reg (q1 rfl (D_fb f_143_0 rfl rfl (q := 0) rfl) (q1 rfl (lb 2 o_3 rfl rfl rfl rfl) (q1 rfl (D_fb f_122_0 rfl rfl (q := 0) rfl) (li rfl (D_stb (vs := [(.int .i64 a.Kind)]) (cs' := [(.int .i64 a.Kind), (.string ⟨#[]⟩), (.slice none 0 0)]) 0 z_3 rfl rfl rfl rfl rfl rfl (ocons rfl onil) (by simp) rfl ?_)))))))))
 refine D_end (x_then (D_H ([bx g7 [(.int .i64 a.Kind), (.string ⟨#[]⟩), (.slice none 0 0)], bx g6 [(.int .i64 0), (.string ⟨#[]⟩), (.slice none 0 0)], bx g5 [(.int .i64 a.Kind), (.string a.Pattern.Rel), u1]]) rfl (C_seq (C_reg (q1 rfl (D_fb f_143_1 rfl rfl (q := 1) rfl) (q1 rfl (lba (es := [(.string a.Pattern.Rel), u1]) 2 a_138 rfl rfl rfl rfl) (li rfl (crs rfl b_123 rfl rfl rfl rfl (fun w' hs => (laws_toPattern w' [(.string a.Pattern.Rel), u1] a.Pattern (rd_at hs hb4) (by first | assumption | omega | (unfold szm at *; split at * <;> omega)))) fun cs8 => ?_))))))))
 refine D_pre (fun w' hs => shape_Pattern (rd_own (k := 0) hs rfl)) ?_
 rintro ⟨v9, rfl, ho10⟩
 refine q1 rfl (D_fb f_122_1 rfl rfl (q := 1) rfl) (li rfl (D_stb (vs := [(.string a.Pattern.Rel), v9]) (cs' := [(.int .i64 a.Kind), (.string a.Pattern.Rel), v9]) 1 z_105 rfl rfl rfl rfl rfl rfl (ocons rfl (ocons ho10 onil)) (by simp) rfl ?_))
 refine D_end (x_then (D_H ([ov [(.string a.Pattern.Rel), v9] (a.Pattern : Pattern), bx g7 [(.int .i64 a.Kind), (.string a.Pattern.Rel), v9], bx g6 [(.int .i64 0), (.string ⟨#[]⟩), (.slice none 0 0)], bx g5 [(.int .i64 a.Kind), (.string a.Pattern.Rel), u1]]) rfl (C_seq (C_reg (q1 rfl (lbw 1 a_122 rfl rfl rfl) (li rfl (D_stb (vs := [(.int .i64 a.Kind), (.string a.Pattern.Rel), v9]) (cs' := [(.int .i64 a.Kind), (.string a.Pattern.Rel), v9]) 2 z_122 rfl rfl rfl rfl rfl rfl (ocons rfl (ocons rfl (ocons ho10 onil))) (by simp) rfl ?_)))))))
 refine D_end (x_then (C_ret (D_unpair (α := ByteArray) (β := (List ByteArray)) (c1 := [(.string a.Pattern.Rel)]) (c2 := [v9]) (x := a.Pattern.Rel) (y := (a.Pattern.Args)) rfl rfl (D_fd [] 1 rfl (pk_Action (r := (⟨a.Kind, ⟨a.Pattern.Rel, a.Pattern.Args⟩⟩ : Action)) (R_c 2 a_122 rfl rfl rfl fun w' hs => res_of (k := 0) hs rfl ?_))))))
 show (⟨a.Kind, ⟨a.Pattern.Rel, a.Pattern.Args⟩⟩ : Action) = a
 rfl

theorem laws_eqAction (w : World) (c_a : List Value) (a : Action) (c_b : List Value) (b : Action) (h_a : Gd.rd w c_a a) (h_b : Gd.rd w c_b b) : Calls Tryz.prog 119 [(.agg c_a.toArray), (.agg c_b.toArray)].toArray w (Val w (.bool (decide (a = b)))) := by
 obtain ⟨u1, rfl, hu2⟩ := open_Action h_a
 have hm3 := rd_max hu2
 have hb4 := sub_Action_Pattern h_a
 obtain ⟨u5, rfl, hu6⟩ := open_Action h_b
 have hm7 := rd_max hu6
 have hb8 := sub_Action_Pattern h_b
 refine enter 16 Tryz.func119 rfl rfl rfl (C_seq (C_reg (li rfl (D_box rfl rfl rfl rfl rfl fun g9 => ?_))))
 refine li rfl (D_box rfl rfl rfl rfl rfl fun g10 => ?_)
 refine p1 rfl (D_end (x_then (D_H ([bx g10 [(.int .i64 b.Kind), (.string b.Pattern.Rel), u5], bx g9 [(.int .i64 a.Kind), (.string a.Pattern.Rel), u1]]) rfl (C_seq (C_seq (C_reg (q1 rfl (D_fb f_122_0 rfl rfl (q := 0) rfl) (q1 rfl (lb 1 o_3 rfl rfl rfl rfl) (q1 rfl (D_fb f_122_0 rfl rfl (q := 0) rfl) (q1 rfl (lb 0 o_3 rfl rfl rfl rfl) (p1 rfl ?_)))))))))))
 refine D_end (x_then (C_if _ rfl (fun h11 => ?_) (fun h11 => ?_)))
 ·have pr11 : (a.Kind : Int) ≠ b.Kind := bne_iff_ne.1 h11
  refine C_seq (C_reg (p1 rfl (D_end (x_then (C_ret (x_then_ret (Rb rfl rfl ?_)))))))
  cases a; cases b; simp_all
 ·have pr11 : (a.Kind : Int) = b.Kind := eq_of_bne_f h11
  refine C_skip (x_then (C_seq (C_seq (C_reg (q1 rfl (D_fb f_122_1 rfl rfl (q := 1) rfl) (q1 rfl (lba (es := [(.string a.Pattern.Rel), u1]) 1 a_105 rfl rfl rfl rfl) (q1 rfl (D_fb f_122_1 rfl rfl (q := 1) rfl) (q1 rfl (lba (es := [(.string b.Pattern.Rel), u5]) 0 a_105 rfl rfl rfl rfl) (li rfl (cv b_128 rfl rfl rfl rfl (fun w' hs => (laws_eqPattern w' [(.string a.Pattern.Rel), u1] a.Pattern [(.string b.Pattern.Rel), u5] b.Pattern (rd_at hs hb4) (rd_at hs hb8))) ?_))))))))))
  refine p1 rfl (D_end (x_then (D_weak [(15, (.bool (!(decide (a.Pattern = b.Pattern)))))] ⟨rfl, trivial⟩ (D_sel (H' := []) [false, false] rfl (C_if _ rfl (fun h12 => ?_) (fun h12 => ?_))))))
  ·have h12n : (decide (a.Pattern = b.Pattern)) = false := not_t h12
   refine C_seq (C_reg (p1 rfl (D_end (x_then (C_ret (x_then_ret (Rb rfl rfl ?_)))))))
   cases a; cases b; simp_all
  ·have h12n : (decide (a.Pattern = b.Pattern)) = true := not_f h12
   refine C_skip (x_then (C_seq (C_reg (p1 rfl (D_end (x_then (C_ret (Rb rfl rfl ?_))))))))
   cases a; cases b; simp_all

theorem laws_szCondS (w : World) (v_a : Value) (a : (List Cond)) (left : Int) (h_a : Gd.rd w [v_a] a) (h0 : 0 ≤ left) (h1 : left ≤ 1048576) (ho : okL okCond a) : Calls Tryz.prog 59 [v_a, (.int .i64 left)].toArray w (Val w (.int .i64 (szm (szL szCond a) left))) := by
 have hm1 := rd_max h_a
 refine enter 27 Tryz.func59 rfl rfl rfl (C_seq (C_reg (p1 rfl (D_end (x_then (C_seq (C_reg (p1 rfl <| p1 rfl (q1 rfl (D_len s_75 rfl rfl (rd_sl h_a)) (q1 rfl (D_sub rfl rfl rfl rfl (by omega)) (p1 rfl ?_)))))))))))
 refine D_end (x_then (C_seq (C_seq (C_reg (p1 rfl <| p1 rfl (D_end (x_then (C_if _ rfl (fun h2 => ?_) (fun h2 => ?_)))))))))
 ·have pr2 : ((left - ((a.length : Nat) : Int)) : Int) < 0 := of_decide_eq_true h2
  refine C_seq (C_reg (p1 rfl (D_end (x_then (C_ret (x_then_ret (Ri rfl rfl ?_)))))))
  show ((-1) : Int) = _
  refine (szm_neg ?_).symm; unfold szL; omega
 ·have pr2 : ¬ ((left - ((a.length : Nat) : Int)) : Int) < 0 := of_decide_eq_false h2
  refine C_skip (x_then (C_seq (C_seq (C_reg (p1 rfl (D_end (x_then (C_block (C_loop (fun m_ ac w' => ∃ (k : Nat), ∃ (lf : Int), (k ≤ a.length) ∧ (0 ≤ lf ∧ lf = left - a.length - sumC szCond (a.take k)) ∧ m_ = a.length - k ∧ Fits ac 27 [(0, v_a), (1, (.int .i64 lf)), (5, (.int .i64 ((k : Nat) : Int)))] ∧ St w ([]) w') ?_ ?_)))))))))
  ·refine fun ac w' hf hs => ⟨_, 0, (left - ((a.length : Nat) : Int)), ?_, ?_, rfl, hf.weak ⟨rfl, rfl, rfl, trivial⟩, hs⟩
   ·first | assumption | omega | simp
   ·simp [sumC]; omega
  ·rintro m_ ac w' ⟨k, lf, hk, hl, rfl, hf, hs⟩
   refine D.use ?_ hf hs
   clear hf hs ac w'
   have ht := sumC_take_le a szCond k
   refine C_seq (C_seq (C_reg (p1 rfl <| p1 rfl (q1 rfl (D_len s_75 rfl rfl (rd_sl h_a)) (p1 rfl (D_end (x_then (C_if _ rfl (fun h3 => ?_) (fun h3 => ?_)))))))))
   ·have pr3 : (((k : Nat) : Int) : Int) < ((a.length : Nat) : Int) := of_decide_eq_true h3
    refine C_skip (x_then (C_seq (C_block (C_seq (C_reg (p1 rfl <| p1 rfl ?_))))))
    obtain ⟨r0, hr0⟩ := some_of_lt (l := a) (i := k) (by omega)
    have hro := ho _ (List.mem_of_getElem? hr0)
    have ht1 := sumC_take_le a szCond (k + 1)
    have hst := sumC_take (c := szCond) hr0
    obtain ⟨es4, at5, hr6⟩ := rd_elem (n := 5) rfl h_a hr0
    obtain ⟨u7, rfl, hu8⟩ := open_Cond hr6
    have hm9 := rd_max hu8
    have hb10 := sub_Cond_Pattern hr6
    refine q1 rfl (D_ix (l := a) (j := k) s_75 rfl rfl rfl (fun w' hs => (rd_at hs h_a)) rfl (lt_of_some hr0)) (q1 rfl (lra a_140 rfl rfl at5) (p1 rfl (li rfl (cv b_94 rfl rfl rfl rfl (fun w' hs => (laws_szCond w' [(.int .i64 r0.Kind), (.string r0.Pattern.Rel), u7, (.string r0.Left), (.string r0.Right)] r0 lf (rd_at hs hr6) (by first | assumption | omega | (unfold szm at *; split at * <;> omega)) (by first | assumption | omega | (unfold szm at *; split at * <;> omega)) hro)) ?_))))
    refine p1 rfl (D_end (x_then (C_seq (C_reg (p1 rfl <| p1 rfl (D_end (x_then (C_if _ rfl (fun h11 => ?_) (fun h11 => ?_)))))))))
    ·have pr11 : ((szm (szCond r0) lf) : Int) < 0 := of_decide_eq_true h11
     refine C_seq (C_reg (p1 rfl (D_end (x_then (C_ret (x_blk_ret (x_then_ret (x_then_ret (x_blk_ret (x_then_ret (Ri rfl rfl ?_)))))))))))
     show ((-1) : Int) = _
     refine (szm_neg ?_).symm; unfold szL; unfold szm at *; split at * <;> omega
    ·have pr11 : ¬ ((szm (szCond r0) lf) : Int) < 0 := of_decide_eq_false h11
     have pr11z := szm_val (n := (szCond r0)) (left := lf) pr11
     refine C_skip (x_blk (x_then (C_reg (p1 rfl (q1 rfl (D_add rfl rfl rfl (r := ((k + 1 : Nat) : Int)) (by omega) (by omega)) (p1 rfl (D_end (x_then (fun ac w' hf hs => ⟨_, ?_, k + 1, (szm (szCond r0) lf), ?_, ?_, rfl, hf.weak ⟨rfl, rfl, rfl, trivial⟩, hs⟩)))))))))
     ·omega
     ·first | assumption | omega | simp
     ·rw [hst]; unfold szm at *; split at * <;> omega
   ·have pr3 : ¬ (((k : Nat) : Int) : Int) < ((a.length : Nat) : Int) := of_decide_eq_false h3
    refine C_exit (x_then_exit (x_then_exit (x_blk_eq (x_then (C_seq (C_reg (p1 rfl <| p1 rfl (D_end (x_then (C_ret (Ri rfl rfl ?_)))))))))))
    show (lf : Int) = _
    rw [szm_pos]; all_goals (unfold szL; rw [List.take_of_length_le (by omega)] at hl; omega)

theorem laws_toCondS (w : World) (v_a : Value) (a : (List Cond)) (h_a : Gd.rd w [v_a] a) (hn : szL szCond a ≤ 1048576) : Calls Tryz.prog 75 [v_a].toArray w (Res w (a : List Cond)) := by
 have hm1 := rd_max h_a
 unfold szL at hn
 refine enter 23 Tryz.func75 rfl rfl rfl (C_seq (C_reg (p1 rfl (D_end (x_then (C_seq (C_reg (p1 rfl (q1 rfl (D_len s_75 rfl rfl (rd_sl h_a)) (li rfl (D_mkG (α := Cond) (z0 := z0_Cond) s_89 y_107 rfl rfl rfl rfl rfl rfl zz_Cond (by omega) (by omega) fun v2 => ?_)))))))))))
 refine p1 rfl (D_end (x_then (D_H ([ov [v2] (List.replicate a.length z0_Cond : (List Cond))]) rfl (C_seq (C_seq (C_reg (p1 rfl (D_end (x_then (C_block (C_loop (fun m_ ac w' => ∃ (k : Nat), ∃ (v : Value), (k ≤ a.length) ∧ m_ = a.length - k ∧ Fits ac 23 [(0, v_a), (3, v), (4, (.int .i64 ((k : Nat) : Int)))] ∧ St w ([ov [v] (cp a z0_Cond k : (List Cond))]) w') ?_ ?_)))))))))))
 ·refine D_eq 0 rfl (show (List.replicate a.length z0_Cond : (List Cond)) = cp a z0_Cond 0 from by rw [cp_zero]) (fun ac w' hf hs => ⟨_, 0, v2, ?_, rfl, hf.weak ⟨rfl, rfl, rfl, trivial⟩, hs⟩)
  ·first | assumption | omega | simp
 ·rintro m_ ac w' ⟨k, v, hk, rfl, hf, hs⟩
  refine D.use ?_ hf hs
  clear hf hs ac w'
  have hcl := cp_len a z0_Cond k hk
  refine C_seq (C_seq (C_reg (p1 rfl <| p1 rfl (q1 rfl (D_len s_75 rfl rfl (rd_sl h_a)) (p1 rfl (D_end (x_then (D_H ([ov [v] (cp a z0_Cond k : (List Cond))]) rfl (C_if _ rfl (fun h3 => ?_) (fun h3 => ?_))))))))))
  ·have pr3 : (((k : Nat) : Int) : Int) < ((a.length : Nat) : Int) := of_decide_eq_true h3
   refine C_skip (x_then (C_seq (C_block (C_reg (p1 rfl <| p1 rfl <| p1 rfl <| p1 rfl ?_)))))
   obtain ⟨x4, hx5⟩ := some_of_lt (l := a) (i := k) (by omega)
   have hle := sumC_mem (c := szCond) (mem_idx hx5)
   obtain ⟨es6, at7, hr8⟩ := rd_elem (n := 5) rfl h_a hx5
   obtain ⟨u9, rfl, hu10⟩ := open_Cond hr8
   have hm11 := rd_max hu10
   have hb12 := sub_Cond_Pattern hr8
   refine q1 rfl (D_ix (l := a) (j := k) s_75 rfl rfl rfl (fun w' hs => (rd_at hs h_a)) rfl (lt_of_some hx5)) (q1 rfl (lra a_140 rfl rfl at7) (li rfl (crs rfl b_104 rfl rfl rfl rfl (fun w' hs => (laws_toCond w' [(.int .i64 x4.Kind), (.string x4.Pattern.Rel), u9, (.string x4.Left), (.string x4.Right)] x4 (rd_at hs hr8) (by first | assumption | omega | (unfold szm at *; split at * <;> omega)))) fun cs13 => ?_)))
   refine D_pre (fun w' hs => shape_Cond (rd_own (k := 0) hs rfl)) ?_
   rintro ⟨v14, rfl, ho15⟩
   obtain ⟨x16, hx17⟩ := some_of_lt (l := (cp a z0_Cond k)) (i := k) (by omega)
   refine q1 rfl (D_ix (l := (cp a z0_Cond k)) (j := k) s_89 rfl rfl rfl (fun w' hs => (rd_own (k := 1) hs rfl)) rfl (lt_of_some hx17)) (D_pk (H' := [ov [v] (cp a z0_Cond k : (List Cond)), ov [(.int .i64 x4.Kind), (.string x4.Pattern.Rel), v14, (.string x4.Left), (.string x4.Right)] (x4 : Cond)]) [1, 0] rfl rfl (li rfl (soG (α := Cond) rfl z_107 rfl rfl rfl rfl rfl (lt_of_some hx17) ?_)))
   refine D_end (x_blk (x_then (D_H ([ov [v] ((cp a z0_Cond k).set k x4 : (List Cond))]) rfl (C_reg (p1 rfl (q1 rfl (D_add rfl rfl rfl (r := ((k + 1 : Nat) : Int)) (by omega) (by omega)) (p1 rfl (D_end (x_then (D_eq 0 rfl (show ((cp a z0_Cond k).set k x4 : (List Cond)) = cp a z0_Cond (k + 1) from by rw [cp_set (by assumption)]) (fun ac w' hf hs => ⟨_, ?_, k + 1, v, ?_, rfl, hf.weak ⟨rfl, rfl, rfl, trivial⟩, hs⟩)))))))))))
   ·omega
   ·first | assumption | omega | simp
  ·have pr3 : ¬ (((k : Nat) : Int) : Int) < ((a.length : Nat) : Int) := of_decide_eq_false h3
   refine C_exit (x_then_exit (x_then_exit (x_blk_eq (x_then (C_seq (C_reg (p1 rfl <| p1 rfl (D_end (x_then (C_ret (R_1 rfl rfl fun w' hs => res_of (k := 0) hs rfl ?_)))))))))))
   show cp a z0_Cond k = a
   exact cp_done (by omega)

theorem laws_eqCondS (w : World) (v_a : Value) (a : (List Cond)) (v_b : Value) (b : (List Cond)) (h_a : Gd.rd w [v_a] a) (h_b : Gd.rd w [v_b] b) : Calls Tryz.prog 90 [v_a, v_b].toArray w (Val w (.bool (decide (a = b)))) := by
 have hm1 := rd_max h_a
 have hm2 := rd_max h_b
 refine enter 27 Tryz.func90 rfl rfl rfl (C_seq (C_reg (p1 rfl (D_end (x_then (C_seq (C_seq (C_reg (p1 rfl (q1 rfl (D_len s_89 rfl rfl (rd_sl h_a)) (p1 rfl ?_)))))))))))
 refine q1 rfl (D_len s_89 rfl rfl (rd_sl h_b)) (p1 rfl (D_end (x_then (C_if _ rfl (fun h3 => ?_) (fun h3 => ?_)))))
 ·have pr3 : (((a.length : Nat) : Int) : Int) ≠ ((b.length : Nat) : Int) := bne_iff_ne.1 h3
  refine C_seq (C_reg (p1 rfl (D_end (x_then (C_ret (x_then_ret (Rb rfl rfl ?_)))))))
  simp; intro e; subst e; simp_all
 ·have pr3 : (((a.length : Nat) : Int) : Int) = ((b.length : Nat) : Int) := eq_of_bne_f h3
  refine C_skip (x_then (C_seq (C_seq (C_reg (p1 rfl (D_end (x_then (C_block (C_loop (fun m_ ac w' => ∃ (k : Nat), (k ≤ a.length) ∧ (∀ i, i < k → a[i]? = b[i]?) ∧ m_ = a.length - k ∧ Fits ac 27 [(0, v_a), (1, v_b), (5, (.int .i64 ((k : Nat) : Int)))] ∧ St w ([]) w') ?_ ?_)))))))))
  ·refine fun ac w' hf hs => ⟨_, 0, ?_, ?_, rfl, hf.weak ⟨rfl, rfl, rfl, trivial⟩, hs⟩
   ·first | assumption | omega | simp
   ·intro i hi; omega
  ·rintro m_ ac w' ⟨k, hk, hi, rfl, hf, hs⟩
   refine D.use ?_ hf hs
   clear hf hs ac w'
   refine C_seq (C_seq (C_reg (p1 rfl <| p1 rfl (q1 rfl (D_len s_89 rfl rfl (rd_sl h_a)) (p1 rfl (D_end (x_then (C_if _ rfl (fun h4 => ?_) (fun h4 => ?_)))))))))
   ·have pr4 : (((k : Nat) : Int) : Int) < ((a.length : Nat) : Int) := of_decide_eq_true h4
    refine C_skip (x_then (C_seq (C_block (C_seq (C_draw mixed [8, 9] (by kernel_rfl) (tk 0 rfl (by kernel_rfl) (by kernel_rfl) (by kernel_rfl) rfl (fun _ hs => hs) (rp rfl) (tk 1 rfl (by kernel_rfl) (by kernel_rfl) (by kernel_rfl) rfl (fun _ hs => hs) (rp rfl) ?_)))))))
    obtain ⟨x5, hx6⟩ := some_of_lt (l := a) (i := k) (by omega)
    obtain ⟨es7, at8, hr9⟩ := rd_elem (n := 5) rfl h_a hx6
    obtain ⟨u10, rfl, hu11⟩ := open_Cond hr9
    have hm12 := rd_max hu11
    have hb13 := sub_Cond_Pattern hr9
    refine tk 2 rfl (by kernel_rfl) (by kernel_rfl) (by kernel_rfl) rfl (fun _ hs => hs) (D_ix (l := a) (j := k) s_89 rfl rfl rfl (fun w' hs => (rd_at hs h_a)) rfl (lt_of_some hx6)) (tk 3 rfl (by kernel_rfl) (by kernel_rfl) (by kernel_rfl) rfl (fun _ hs => hs) (lra a_107 rfl rfl at8) (tk 4 rfl (by kernel_rfl) (by kernel_rfl) (by kernel_rfl) rfl (fun _ hs => hs) (rp rfl) (tk 5 rfl (by kernel_rfl) (by kernel_rfl) (by kernel_rfl) rfl (fun _ hs => hs) (rp rfl) ?_)))
    obtain ⟨x14, hx15⟩ := some_of_lt (l := b) (i := k) (by omega)
    obtain ⟨es16, at17, hr18⟩ := rd_elem (n := 5) rfl h_b hx15
    obtain ⟨u19, rfl, hu20⟩ := open_Cond hr18
    have hm21 := rd_max hu20
    have hb22 := sub_Cond_Pattern hr18
    refine tk 6 rfl (by kernel_rfl) (by kernel_rfl) (by kernel_rfl) rfl (fun _ hs => hs) (D_ix (l := b) (j := k) s_89 rfl rfl rfl (fun w' hs => (rd_at hs h_b)) rfl (lt_of_some hx15)) (tk 7 rfl (by kernel_rfl) (by kernel_rfl) (by kernel_rfl) rfl (fun _ hs => hs) (lra a_107 rfl rfl at17) (ty 8 rfl (by kernel_rfl) rfl (cv b_118 rfl rfl rfl rfl (fun w' hs => (laws_eqCond w' [(.int .i64 x5.Kind), (.string x5.Pattern.Rel), u10, (.string x5.Left), (.string x5.Right)] x5 [(.int .i64 x14.Kind), (.string x14.Pattern.Rel), u19, (.string x14.Left), (.string x14.Right)] x14 (rd_at hs hr9) (rd_at hs hr18))) ?_)))
    refine tZ rfl (ty 9 rfl (by kernel_rfl) rfl (sv rfl rfl (rp rfl) ?_))
    refine tZ rfl (tE (by kernel_rfl) (x_then (C_if _ rfl (fun h23 => ?_) (fun h23 => ?_))))
    ·have h23n : (decide (x5 = x14)) = false := not_t h23
     refine C_seq (C_reg (p1 rfl (D_end (x_then (C_ret (x_blk_ret (x_then_ret (x_then_ret (x_blk_ret (x_then_ret (Rb rfl rfl ?_)))))))))))
     simp; intro e; subst e; simp_all
    ·have h23n : (decide (x5 = x14)) = true := not_f h23
     refine C_skip (x_blk (x_then (C_reg (p1 rfl (q1 rfl (D_add rfl rfl rfl (r := ((k + 1 : Nat) : Int)) (by omega) (by omega)) (p1 rfl (D_end (x_then (fun ac w' hf hs => ⟨_, ?_, k + 1, ?_, ?_, rfl, hf.weak ⟨rfl, rfl, rfl, trivial⟩, hs⟩)))))))))
     ·omega
     ·first | assumption | omega | simp
     ·refine idx_step hi (by assumption) (by assumption) ?_; first | (simp_all; done) | (apply Fact.mk_eq <;> simp_all)
   ·have pr4 : ¬ (((k : Nat) : Int) : Int) < ((a.length : Nat) : Int) := of_decide_eq_false h4
    refine C_exit (x_then_exit (x_then_exit (x_blk_eq (x_then (C_seq (C_reg (p1 rfl (D_end (x_then (C_ret (Rb rfl rfl ?_)))))))))))
    simp; exact eq_of_idx (by omega) (fun i h => hi i (by omega))

theorem laws_szActionS (w : World) (v_a : Value) (a : (List Action)) (left : Int) (h_a : Gd.rd w [v_a] a) (h0 : 0 ≤ left) (h1 : left ≤ 1048576) (ho : okL okAction a) : Calls Tryz.prog 60 [v_a, (.int .i64 left)].toArray w (Val w (.int .i64 (szm (szL szAction a) left))) := by
 have hm1 := rd_max h_a
 refine enter 27 Tryz.func60 rfl rfl rfl (C_seq (C_reg (p1 rfl (D_end (x_then (C_seq (C_reg (p1 rfl <| p1 rfl (q1 rfl (D_len s_76 rfl rfl (rd_sl h_a)) (q1 rfl (D_sub rfl rfl rfl rfl (by omega)) (p1 rfl ?_)))))))))))
 refine D_end (x_then (C_seq (C_seq (C_reg (p1 rfl <| p1 rfl (D_end (x_then (C_if _ rfl (fun h2 => ?_) (fun h2 => ?_)))))))))
 ·have pr2 : ((left - ((a.length : Nat) : Int)) : Int) < 0 := of_decide_eq_true h2
  refine C_seq (C_reg (p1 rfl (D_end (x_then (C_ret (x_then_ret (Ri rfl rfl ?_)))))))
  show ((-1) : Int) = _
  refine (szm_neg ?_).symm; unfold szL; omega
 ·have pr2 : ¬ ((left - ((a.length : Nat) : Int)) : Int) < 0 := of_decide_eq_false h2
  refine C_skip (x_then (C_seq (C_seq (C_reg (p1 rfl (D_end (x_then (C_block (C_loop (fun m_ ac w' => ∃ (k : Nat), ∃ (lf : Int), (k ≤ a.length) ∧ (0 ≤ lf ∧ lf = left - a.length - sumC szAction (a.take k)) ∧ m_ = a.length - k ∧ Fits ac 27 [(0, v_a), (1, (.int .i64 lf)), (5, (.int .i64 ((k : Nat) : Int)))] ∧ St w ([]) w') ?_ ?_)))))))))
  ·refine fun ac w' hf hs => ⟨_, 0, (left - ((a.length : Nat) : Int)), ?_, ?_, rfl, hf.weak ⟨rfl, rfl, rfl, trivial⟩, hs⟩
   ·first | assumption | omega | simp
   ·simp [sumC]; omega
  ·rintro m_ ac w' ⟨k, lf, hk, hl, rfl, hf, hs⟩
   refine D.use ?_ hf hs
   clear hf hs ac w'
   have ht := sumC_take_le a szAction k
   refine C_seq (C_seq (C_reg (p1 rfl <| p1 rfl (q1 rfl (D_len s_76 rfl rfl (rd_sl h_a)) (p1 rfl (D_end (x_then (C_if _ rfl (fun h3 => ?_) (fun h3 => ?_)))))))))
   ·have pr3 : (((k : Nat) : Int) : Int) < ((a.length : Nat) : Int) := of_decide_eq_true h3
    refine C_skip (x_then (C_seq (C_block (C_seq (C_reg (p1 rfl <| p1 rfl ?_))))))
    obtain ⟨r0, hr0⟩ := some_of_lt (l := a) (i := k) (by omega)
    have hro := ho _ (List.mem_of_getElem? hr0)
    have ht1 := sumC_take_le a szAction (k + 1)
    have hst := sumC_take (c := szAction) hr0
    obtain ⟨es4, at5, hr6⟩ := rd_elem (n := 3) rfl h_a hr0
    obtain ⟨u7, rfl, hu8⟩ := open_Action hr6
    have hm9 := rd_max hu8
    have hb10 := sub_Action_Pattern hr6
    refine q1 rfl (D_ix (l := a) (j := k) s_76 rfl rfl rfl (fun w' hs => (rd_at hs h_a)) rfl (lt_of_some hr0)) (q1 rfl (lra a_143 rfl rfl at5) (p1 rfl (li rfl (cv b_95 rfl rfl rfl rfl (fun w' hs => (laws_szAction w' [(.int .i64 r0.Kind), (.string r0.Pattern.Rel), u7] r0 lf (rd_at hs hr6) (by first | assumption | omega | (unfold szm at *; split at * <;> omega)) (by first | assumption | omega | (unfold szm at *; split at * <;> omega)) hro)) ?_))))
    refine p1 rfl (D_end (x_then (C_seq (C_reg (p1 rfl <| p1 rfl (D_end (x_then (C_if _ rfl (fun h11 => ?_) (fun h11 => ?_)))))))))
    ·have pr11 : ((szm (szAction r0) lf) : Int) < 0 := of_decide_eq_true h11
     refine C_seq (C_reg (p1 rfl (D_end (x_then (C_ret (x_blk_ret (x_then_ret (x_then_ret (x_blk_ret (x_then_ret (Ri rfl rfl ?_)))))))))))
     show ((-1) : Int) = _
     refine (szm_neg ?_).symm; unfold szL; unfold szm at *; split at * <;> omega
    ·have pr11 : ¬ ((szm (szAction r0) lf) : Int) < 0 := of_decide_eq_false h11
     have pr11z := szm_val (n := (szAction r0)) (left := lf) pr11
     refine C_skip (x_blk (x_then (C_reg (p1 rfl (q1 rfl (D_add rfl rfl rfl (r := ((k + 1 : Nat) : Int)) (by omega) (by omega)) (p1 rfl (D_end (x_then (fun ac w' hf hs => ⟨_, ?_, k + 1, (szm (szAction r0) lf), ?_, ?_, rfl, hf.weak ⟨rfl, rfl, rfl, trivial⟩, hs⟩)))))))))
     ·omega
     ·first | assumption | omega | simp
     ·rw [hst]; unfold szm at *; split at * <;> omega
   ·have pr3 : ¬ (((k : Nat) : Int) : Int) < ((a.length : Nat) : Int) := of_decide_eq_false h3
    refine C_exit (x_then_exit (x_then_exit (x_blk_eq (x_then (C_seq (C_reg (p1 rfl <| p1 rfl (D_end (x_then (C_ret (Ri rfl rfl ?_)))))))))))
    show (lf : Int) = _
    rw [szm_pos]; all_goals (unfold szL; rw [List.take_of_length_le (by omega)] at hl; omega)

theorem laws_toActionS (w : World) (v_a : Value) (a : (List Action)) (h_a : Gd.rd w [v_a] a) (hn : szL szAction a ≤ 1048576) : Calls Tryz.prog 76 [v_a].toArray w (Res w (a : List Action)) := by
 have hm1 := rd_max h_a
 unfold szL at hn
 refine enter 23 Tryz.func76 rfl rfl rfl (C_seq (C_reg (p1 rfl (D_end (x_then (C_seq (C_reg (p1 rfl (q1 rfl (D_len s_76 rfl rfl (rd_sl h_a)) (li rfl (D_mkG (α := Action) (z0 := z0_Action) s_90 y_122 rfl rfl rfl rfl rfl rfl zz_Action (by omega) (by omega) fun v2 => ?_)))))))))))
 refine p1 rfl (D_end (x_then (D_H ([ov [v2] (List.replicate a.length z0_Action : (List Action))]) rfl (C_seq (C_seq (C_reg (p1 rfl (D_end (x_then (C_block (C_loop (fun m_ ac w' => ∃ (k : Nat), ∃ (v : Value), (k ≤ a.length) ∧ m_ = a.length - k ∧ Fits ac 23 [(0, v_a), (3, v), (4, (.int .i64 ((k : Nat) : Int)))] ∧ St w ([ov [v] (cp a z0_Action k : (List Action))]) w') ?_ ?_)))))))))))
 ·refine D_eq 0 rfl (show (List.replicate a.length z0_Action : (List Action)) = cp a z0_Action 0 from by rw [cp_zero]) (fun ac w' hf hs => ⟨_, 0, v2, ?_, rfl, hf.weak ⟨rfl, rfl, rfl, trivial⟩, hs⟩)
  ·first | assumption | omega | simp
 ·rintro m_ ac w' ⟨k, v, hk, rfl, hf, hs⟩
  refine D.use ?_ hf hs
  clear hf hs ac w'
  have hcl := cp_len a z0_Action k hk
  refine C_seq (C_seq (C_reg (p1 rfl <| p1 rfl (q1 rfl (D_len s_76 rfl rfl (rd_sl h_a)) (p1 rfl (D_end (x_then (D_H ([ov [v] (cp a z0_Action k : (List Action))]) rfl (C_if _ rfl (fun h3 => ?_) (fun h3 => ?_))))))))))
  ·have pr3 : (((k : Nat) : Int) : Int) < ((a.length : Nat) : Int) := of_decide_eq_true h3
   refine C_skip (x_then (C_seq (C_block (C_reg (p1 rfl <| p1 rfl <| p1 rfl <| p1 rfl ?_)))))
   obtain ⟨x4, hx5⟩ := some_of_lt (l := a) (i := k) (by omega)
   have hle := sumC_mem (c := szAction) (mem_idx hx5)
   obtain ⟨es6, at7, hr8⟩ := rd_elem (n := 3) rfl h_a hx5
   obtain ⟨u9, rfl, hu10⟩ := open_Action hr8
   have hm11 := rd_max hu10
   have hb12 := sub_Action_Pattern hr8
   refine q1 rfl (D_ix (l := a) (j := k) s_76 rfl rfl rfl (fun w' hs => (rd_at hs h_a)) rfl (lt_of_some hx5)) (q1 rfl (lra a_143 rfl rfl at7) (li rfl (crs rfl b_105 rfl rfl rfl rfl (fun w' hs => (laws_toAction w' [(.int .i64 x4.Kind), (.string x4.Pattern.Rel), u9] x4 (rd_at hs hr8) (by first | assumption | omega | (unfold szm at *; split at * <;> omega)))) fun cs13 => ?_)))
   refine D_pre (fun w' hs => shape_Action (rd_own (k := 0) hs rfl)) ?_
   rintro ⟨v14, rfl, ho15⟩
   obtain ⟨x16, hx17⟩ := some_of_lt (l := (cp a z0_Action k)) (i := k) (by omega)
   refine q1 rfl (D_ix (l := (cp a z0_Action k)) (j := k) s_90 rfl rfl rfl (fun w' hs => (rd_own (k := 1) hs rfl)) rfl (lt_of_some hx17)) (D_pk (H' := [ov [v] (cp a z0_Action k : (List Action)), ov [(.int .i64 x4.Kind), (.string x4.Pattern.Rel), v14] (x4 : Action)]) [1, 0] rfl rfl (li rfl (soG (α := Action) rfl z_122 rfl rfl rfl rfl rfl (lt_of_some hx17) ?_)))
   refine D_end (x_blk (x_then (D_H ([ov [v] ((cp a z0_Action k).set k x4 : (List Action))]) rfl (C_reg (p1 rfl (q1 rfl (D_add rfl rfl rfl (r := ((k + 1 : Nat) : Int)) (by omega) (by omega)) (p1 rfl (D_end (x_then (D_eq 0 rfl (show ((cp a z0_Action k).set k x4 : (List Action)) = cp a z0_Action (k + 1) from by rw [cp_set (by assumption)]) (fun ac w' hf hs => ⟨_, ?_, k + 1, v, ?_, rfl, hf.weak ⟨rfl, rfl, rfl, trivial⟩, hs⟩)))))))))))
   ·omega
   ·first | assumption | omega | simp
  ·have pr3 : ¬ (((k : Nat) : Int) : Int) < ((a.length : Nat) : Int) := of_decide_eq_false h3
   refine C_exit (x_then_exit (x_then_exit (x_blk_eq (x_then (C_seq (C_reg (p1 rfl <| p1 rfl (D_end (x_then (C_ret (R_1 rfl rfl fun w' hs => res_of (k := 0) hs rfl ?_)))))))))))
   show cp a z0_Action k = a
   exact cp_done (by omega)

theorem laws_eqActionS (w : World) (v_a : Value) (a : (List Action)) (v_b : Value) (b : (List Action)) (h_a : Gd.rd w [v_a] a) (h_b : Gd.rd w [v_b] b) : Calls Tryz.prog 91 [v_a, v_b].toArray w (Val w (.bool (decide (a = b)))) := by
 have hm1 := rd_max h_a
 have hm2 := rd_max h_b
 refine enter 27 Tryz.func91 rfl rfl rfl (C_seq (C_reg (p1 rfl (D_end (x_then (C_seq (C_seq (C_reg (p1 rfl (q1 rfl (D_len s_90 rfl rfl (rd_sl h_a)) (p1 rfl ?_)))))))))))
 refine q1 rfl (D_len s_90 rfl rfl (rd_sl h_b)) (p1 rfl (D_end (x_then (C_if _ rfl (fun h3 => ?_) (fun h3 => ?_)))))
 ·have pr3 : (((a.length : Nat) : Int) : Int) ≠ ((b.length : Nat) : Int) := bne_iff_ne.1 h3
  refine C_seq (C_reg (p1 rfl (D_end (x_then (C_ret (x_then_ret (Rb rfl rfl ?_)))))))
  simp; intro e; subst e; simp_all
 ·have pr3 : (((a.length : Nat) : Int) : Int) = ((b.length : Nat) : Int) := eq_of_bne_f h3
  refine C_skip (x_then (C_seq (C_seq (C_reg (p1 rfl (D_end (x_then (C_block (C_loop (fun m_ ac w' => ∃ (k : Nat), (k ≤ a.length) ∧ (∀ i, i < k → a[i]? = b[i]?) ∧ m_ = a.length - k ∧ Fits ac 27 [(0, v_a), (1, v_b), (5, (.int .i64 ((k : Nat) : Int)))] ∧ St w ([]) w') ?_ ?_)))))))))
  ·refine fun ac w' hf hs => ⟨_, 0, ?_, ?_, rfl, hf.weak ⟨rfl, rfl, rfl, trivial⟩, hs⟩
   ·first | assumption | omega | simp
   ·intro i hi; omega
  ·rintro m_ ac w' ⟨k, hk, hi, rfl, hf, hs⟩
   refine D.use ?_ hf hs
   clear hf hs ac w'
   refine C_seq (C_seq (C_reg (p1 rfl <| p1 rfl (q1 rfl (D_len s_90 rfl rfl (rd_sl h_a)) (p1 rfl (D_end (x_then (C_if _ rfl (fun h4 => ?_) (fun h4 => ?_)))))))))
   ·have pr4 : (((k : Nat) : Int) : Int) < ((a.length : Nat) : Int) := of_decide_eq_true h4
    refine C_skip (x_then (C_seq (C_block (C_seq (C_draw mixed [8, 9] (by kernel_rfl) (tk 0 rfl (by kernel_rfl) (by kernel_rfl) (by kernel_rfl) rfl (fun _ hs => hs) (rp rfl) (tk 1 rfl (by kernel_rfl) (by kernel_rfl) (by kernel_rfl) rfl (fun _ hs => hs) (rp rfl) ?_)))))))
    obtain ⟨x5, hx6⟩ := some_of_lt (l := a) (i := k) (by omega)
    obtain ⟨es7, at8, hr9⟩ := rd_elem (n := 3) rfl h_a hx6
    obtain ⟨u10, rfl, hu11⟩ := open_Action hr9
    have hm12 := rd_max hu11
    have hb13 := sub_Action_Pattern hr9
    refine tk 2 rfl (by kernel_rfl) (by kernel_rfl) (by kernel_rfl) rfl (fun _ hs => hs) (D_ix (l := a) (j := k) s_90 rfl rfl rfl (fun w' hs => (rd_at hs h_a)) rfl (lt_of_some hx6)) (tk 3 rfl (by kernel_rfl) (by kernel_rfl) (by kernel_rfl) rfl (fun _ hs => hs) (lra a_122 rfl rfl at8) (tk 4 rfl (by kernel_rfl) (by kernel_rfl) (by kernel_rfl) rfl (fun _ hs => hs) (rp rfl) (tk 5 rfl (by kernel_rfl) (by kernel_rfl) (by kernel_rfl) rfl (fun _ hs => hs) (rp rfl) ?_)))
    obtain ⟨x14, hx15⟩ := some_of_lt (l := b) (i := k) (by omega)
    obtain ⟨es16, at17, hr18⟩ := rd_elem (n := 3) rfl h_b hx15
    obtain ⟨u19, rfl, hu20⟩ := open_Action hr18
    have hm21 := rd_max hu20
    have hb22 := sub_Action_Pattern hr18
    refine tk 6 rfl (by kernel_rfl) (by kernel_rfl) (by kernel_rfl) rfl (fun _ hs => hs) (D_ix (l := b) (j := k) s_90 rfl rfl rfl (fun w' hs => (rd_at hs h_b)) rfl (lt_of_some hx15)) (tk 7 rfl (by kernel_rfl) (by kernel_rfl) (by kernel_rfl) rfl (fun _ hs => hs) (lra a_122 rfl rfl at17) (ty 8 rfl (by kernel_rfl) rfl (cv b_119 rfl rfl rfl rfl (fun w' hs => (laws_eqAction w' [(.int .i64 x5.Kind), (.string x5.Pattern.Rel), u10] x5 [(.int .i64 x14.Kind), (.string x14.Pattern.Rel), u19] x14 (rd_at hs hr9) (rd_at hs hr18))) ?_)))
    refine tZ rfl (ty 9 rfl (by kernel_rfl) rfl (sv rfl rfl (rp rfl) ?_))
    refine tZ rfl (tE (by kernel_rfl) (x_then (C_if _ rfl (fun h23 => ?_) (fun h23 => ?_))))
    ·have h23n : (decide (x5 = x14)) = false := not_t h23
     refine C_seq (C_reg (p1 rfl (D_end (x_then (C_ret (x_blk_ret (x_then_ret (x_then_ret (x_blk_ret (x_then_ret (Rb rfl rfl ?_)))))))))))
     simp; intro e; subst e; simp_all
    ·have h23n : (decide (x5 = x14)) = true := not_f h23
     refine C_skip (x_blk (x_then (C_reg (p1 rfl (q1 rfl (D_add rfl rfl rfl (r := ((k + 1 : Nat) : Int)) (by omega) (by omega)) (p1 rfl (D_end (x_then (fun ac w' hf hs => ⟨_, ?_, k + 1, ?_, ?_, rfl, hf.weak ⟨rfl, rfl, rfl, trivial⟩, hs⟩)))))))))
     ·omega
     ·first | assumption | omega | simp
     ·refine idx_step hi (by assumption) (by assumption) ?_; first | (simp_all; done) | (apply Fact.mk_eq <;> simp_all)
   ·have pr4 : ¬ (((k : Nat) : Int) : Int) < ((a.length : Nat) : Int) := of_decide_eq_false h4
    refine C_exit (x_then_exit (x_then_exit (x_blk_eq (x_then (C_seq (C_reg (p1 rfl (D_end (x_then (C_ret (Rb rfl rfl ?_)))))))))))
    simp; exact eq_of_idx (by omega) (fun i h => hi i (by omega))

theorem laws_szRule (w : World) (c_a : List Value) (a : Rule) (left : Int) (h_a : Gd.rd w c_a a) (h0 : 0 ≤ left) (h1 : left ≤ 1048576) (ho : okRule a) : Calls Tryz.prog 32 [(.agg c_a.toArray), (.int .i64 left)].toArray w (Val w (.int .i64 (szm (szRule a) left))) := by
 obtain ⟨u1, u3, rfl, hu2, hu4⟩ := open_Rule h_a
 have hm5 := rd_max hu2
 have hm6 := rd_max hu4
 have ho1 : a.Name.size ≤ 9223372036854775807 := ho.1
 refine enter 25 Tryz.func32 rfl rfl rfl (C_seq (C_reg (li rfl (D_box rfl rfl rfl rfl rfl fun g7 => ?_))))
 refine p1 rfl (D_end (x_then (D_H ([bx g7 [(.string a.Name), (.int .i64 a.Priority), u1, u3]]) rfl (C_seq (C_reg (p1 rfl (q1 rfl (D_fb f_78_0 rfl rfl (q := 0) rfl) (q1 rfl (lb 0 o_9 rfl rfl rfl rfl) (q1 rfl (D_lens us_9 rfl rfl) (q1 rfl (D_sub rfl rfl rfl rfl (by omega)) (p1 rfl ?_)))))))))))
 refine D_end (x_then (C_seq (C_seq (C_reg (p1 rfl <| p1 rfl (D_end (x_then (C_if _ rfl (fun h8 => ?_) (fun h8 => ?_)))))))))
 ·have pr8 : ((left - ((a.Name.size : Nat) : Int)) : Int) < 0 := of_decide_eq_true h8
  refine C_seq (C_reg (p1 rfl (D_end (x_then (C_ret (x_then_ret (Ri rfl rfl ?_)))))))
  show ((-1) : Int) = _
  unfold szRule szm at *; repeat (split at * <;> try omega)
 ·have pr8 : ¬ ((left - ((a.Name.size : Nat) : Int)) : Int) < 0 := of_decide_eq_false h8
  refine C_skip (x_then (C_seq (C_reg (q1 rfl (D_fb f_78_2 rfl rfl (q := 2) rfl) (q1 rfl (lb 0 o_75 rfl rfl rfl rfl) (p1 rfl (li rfl (cv b_59 rfl rfl rfl rfl (fun w' hs => (laws_szCondS w' u1 a.If (left - ((a.Name.size : Nat) : Int)) (rd_at hs hu2) (by first | assumption | omega | (unfold szm at *; split at * <;> omega)) (by first | assumption | omega | (unfold szm at *; split at * <;> omega)) ho.2.2.1)) ?_))))))))
  refine p1 rfl (D_end (x_then (C_seq (C_seq (C_reg (p1 rfl <| p1 rfl (D_end (x_then (C_if _ rfl (fun h9 => ?_) (fun h9 => ?_))))))))))
  ·have pr9 : ((szm (szL szCond a.If) (left - ((a.Name.size : Nat) : Int))) : Int) < 0 := of_decide_eq_true h9
   refine C_seq (C_reg (p1 rfl (D_end (x_then (C_ret (x_then_ret (Ri rfl rfl ?_)))))))
   show ((-1) : Int) = _
   unfold szRule szm at *; repeat (split at * <;> try omega)
  ·have pr9 : ¬ ((szm (szL szCond a.If) (left - ((a.Name.size : Nat) : Int))) : Int) < 0 := of_decide_eq_false h9
   have pr9z := szm_val (n := (szL szCond a.If)) (left := (left - ((a.Name.size : Nat) : Int))) pr9
   refine C_skip (x_then (D_weak [(1, (.int .i64 (szm (szL szCond a.If) (left - ((a.Name.size : Nat) : Int))))), (2, (.pointer (some ⟨g7, 0, none⟩)))] ⟨rfl, rfl, trivial⟩ (C_seq (C_reg (q1 rfl (D_fb f_78_3 rfl rfl (q := 3) rfl) (q1 rfl (lb 0 o_76 rfl rfl rfl rfl) (p1 rfl (li rfl (cv b_60 rfl rfl rfl rfl (fun w' hs => (laws_szActionS w' u3 a.Then (szm (szL szCond a.If) (left - ((a.Name.size : Nat) : Int))) (rd_at hs hu4) (by first | assumption | omega | (unfold szm at *; split at * <;> omega)) (by first | assumption | omega | (unfold szm at *; split at * <;> omega)) ho.2.2.2)) ?_)))))))))
   refine p1 rfl (D_end (x_then (C_seq (C_seq (C_reg (p1 rfl <| p1 rfl (D_end (x_then (C_if _ rfl (fun h10 => ?_) (fun h10 => ?_))))))))))
   ·have pr10 : ((szm (szL szAction a.Then) (szm (szL szCond a.If) (left - ((a.Name.size : Nat) : Int)))) : Int) < 0 := of_decide_eq_true h10
    refine C_seq (C_reg (p1 rfl (D_end (x_then (C_ret (x_then_ret (Ri rfl rfl ?_)))))))
    show ((-1) : Int) = _
    unfold szRule szm at *; repeat (split at * <;> try omega)
   ·have pr10 : ¬ ((szm (szL szAction a.Then) (szm (szL szCond a.If) (left - ((a.Name.size : Nat) : Int)))) : Int) < 0 := of_decide_eq_false h10
    have pr10z := szm_val (n := (szL szAction a.Then)) (left := (szm (szL szCond a.If) (left - ((a.Name.size : Nat) : Int)))) pr10
    refine C_skip (x_then (C_seq (C_reg (p1 rfl <| p1 rfl (D_end (x_then (C_ret (Ri rfl rfl ?_))))))))
    show ((szm (szL szAction a.Then) (szm (szL szCond a.If) (left - ((a.Name.size : Nat) : Int)))) : Int) = _
    unfold szRule szm at *; repeat (split at * <;> try omega)

theorem laws_toRule (w : World) (c_a : List Value) (a : Rule) (h_a : Gd.rd w c_a a) (hn : szRule a ≤ 1048576) : Calls Tryz.prog 44 [(.agg c_a.toArray)].toArray w (Res w (a : Rule)) := by
 obtain ⟨u1, u3, rfl, hu2, hu4⟩ := open_Rule h_a
 have hm5 := rd_max hu2
 have hm6 := rd_max hu4
 unfold szRule at hn
 refine enter 19 Tryz.func44 rfl rfl rfl (C_seq (C_reg (li rfl (D_box rfl rfl rfl rfl rfl fun g7 => ?_))))
 refine li rfl (D_alloc y_92 rfl rfl rfl rfl fun g8 => ?_)
 refine D_end (x_then (D_H ([bx g8 [(.string ⟨#[]⟩), (.int .i64 0), (.slice none 0 0), (.slice none 0 0)], bx g7 [(.string a.Name), (.int .i64 a.Priority), u1, u3]]) rfl (C_seq (C_reg (li rfl (D_alloc y_92 rfl rfl rfl rfl fun g9 => ?_))))))
 refine D_end (x_then (D_H ([bx g9 [(.string ⟨#[]⟩), (.int .i64 0), (.slice none 0 0), (.slice none 0 0)], bx g8 [(.string ⟨#[]⟩), (.int .i64 0), (.slice none 0 0), (.slice none 0 0)], bx g7 [(.string a.Name), (.int .i64 a.Priority), u1, u3]]) rfl (C_seq (C_reg (q1 rfl (D_fb f_78_0 rfl rfl (q := 0) rfl) (q1 rfl (lb 2 o_9 rfl rfl rfl rfl) (q1 rfl (D_fb f_92_0 rfl rfl (q := 0) rfl) (li rfl (D_stb (vs := [(.string a.Name)]) (cs' := [(.string a.Name), (.int .i64 0), (.slice none 0 0), (.slice none 0 0)]) 0 z_9 rfl rfl rfl rfl rfl rfl (ocons rfl onil) (by simp) rfl ?_)))))))))
 refine D_end (x_then (D_H ([bx g9 [(.string a.Name), (.int .i64 0), (.slice none 0 0), (.slice none 0 0)], bx g8 [(.string ⟨#[]⟩), (.int .i64 0), (.slice none 0 0), (.slice none 0 0)], bx g7 [(.string a.Name), (.int .i64 a.Priority), u1, u3]]) rfl (C_seq (C_reg (q1 rfl (D_fb f_78_1 rfl rfl (q := 1) rfl) (q1 rfl (lb 2 o_3 rfl rfl rfl rfl) (q1 rfl (D_fb f_92_1 rfl rfl (q := 1) rfl) (li rfl (D_stb (vs := [(.int .i64 a.Priority)]) (cs' := [(.string a.Name), (.int .i64 a.Priority), (.slice none 0 0), (.slice none 0 0)]) 0 z_3 rfl rfl rfl rfl rfl rfl (ocons rfl onil) (by simp) rfl ?_)))))))))
 refine D_end (x_then (D_H ([bx g9 [(.string a.Name), (.int .i64 a.Priority), (.slice none 0 0), (.slice none 0 0)], bx g8 [(.string ⟨#[]⟩), (.int .i64 0), (.slice none 0 0), (.slice none 0 0)], bx g7 [(.string a.Name), (.int .i64 a.Priority), u1, u3]]) rfl (C_seq (C_reg (q1 rfl (D_fb f_78_2 rfl rfl (q := 2) rfl) (q1 rfl (lb 2 o_75 rfl rfl rfl rfl) (li rfl (crl b_75 rfl rfl rfl rfl (fun w' hs => (laws_toCondS w' u1 a.If (rd_at hs hu2) (by first | assumption | omega | (unfold szm at *; split at * <;> omega)))) fun v10 => ?_))))))))
 refine q1 rfl (D_fb f_92_2 rfl rfl (q := 2) rfl) (D_pre (fun w' hs => one_own (k := 0) hs rfl) ?_)
 intro ho11
 refine li rfl (D_stb (vs := [v10]) (cs' := [(.string a.Name), (.int .i64 a.Priority), v10, (.slice none 0 0)]) 1 z_89 rfl rfl rfl rfl rfl (cells_of_one ho11) (ocons ho11 onil) (by simp) rfl ?_)
 refine D_end (x_then (D_H ([ov [v10] (a.If : (List Cond)), bx g9 [(.string a.Name), (.int .i64 a.Priority), v10, (.slice none 0 0)], bx g8 [(.string ⟨#[]⟩), (.int .i64 0), (.slice none 0 0), (.slice none 0 0)], bx g7 [(.string a.Name), (.int .i64 a.Priority), u1, u3]]) rfl (C_seq (C_reg (q1 rfl (D_fb f_78_3 rfl rfl (q := 3) rfl) (q1 rfl (lb 3 o_76 rfl rfl rfl rfl) (li rfl (crl b_76 rfl rfl rfl rfl (fun w' hs => (laws_toActionS w' u3 a.Then (rd_at hs hu4) (by first | assumption | omega | (unfold szm at *; split at * <;> omega)))) fun v12 => ?_))))))))
 refine q1 rfl (D_fb f_92_3 rfl rfl (q := 3) rfl) (D_pre (fun w' hs => one_own (k := 0) hs rfl) ?_)
 intro ho13
 refine li rfl (D_stb (vs := [v12]) (cs' := [(.string a.Name), (.int .i64 a.Priority), v10, v12]) 2 z_90 rfl rfl rfl rfl rfl (cells_of_one ho13) (ocons ho13 onil) (by simp) rfl ?_)
 refine D_end (x_then (D_weak [(2, (.pointer (some ⟨g8, 0, none⟩))), (3, (.pointer (some ⟨g9, 0, none⟩)))] ⟨rfl, rfl, trivial⟩ (D_sel (H' := [ov [v12] (a.Then : (List Action)), ov [v10] (a.If : (List Cond)), bx g9 [(.string a.Name), (.int .i64 a.Priority), v10, v12], bx g8 [(.string ⟨#[]⟩), (.int .i64 0), (.slice none 0 0), (.slice none 0 0)]]) [true, true, true, true, false] rfl (C_seq (C_reg (q1 rfl (lbw 2 a_92 rfl rfl rfl) (li rfl (D_stb (vs := [(.string a.Name), (.int .i64 a.Priority), v10, v12]) (cs' := [(.string a.Name), (.int .i64 a.Priority), v10, v12]) 3 z_92 rfl rfl rfl rfl rfl rfl (ocons rfl (ocons rfl (ocons ho11 (ocons ho13 onil)))) (by simp) rfl ?_))))))))
 refine D_end (x_then (C_ret (D_pk (H' := [ov [v10] (a.If : (List Cond)), ov [v12] (a.Then : (List Action)), bx g9 [(.string a.Name), (.int .i64 a.Priority), v10, v12], bx g8 [(.string a.Name), (.int .i64 a.Priority), v10, v12]]) [1, 0, 2, 3] rfl rfl (pk_Rule (r := (⟨a.Name, a.Priority, a.If, a.Then⟩ : Rule)) (R_c 2 a_92 rfl rfl rfl fun w' hs => res_of (k := 0) hs rfl ?_)))))
 show (⟨a.Name, a.Priority, a.If, a.Then⟩ : Rule) = a
 rfl

theorem laws_eqRule (w : World) (c_a : List Value) (a : Rule) (c_b : List Value) (b : Rule) (h_a : Gd.rd w c_a a) (h_b : Gd.rd w c_b b) : Calls Tryz.prog 55 [(.agg c_a.toArray), (.agg c_b.toArray)].toArray w (Val w (.bool (decide (a = b)))) := by
 obtain ⟨u1, u3, rfl, hu2, hu4⟩ := open_Rule h_a
 have hm5 := rd_max hu2
 have hm6 := rd_max hu4
 obtain ⟨u7, u9, rfl, hu8, hu10⟩ := open_Rule h_b
 have hm11 := rd_max hu8
 have hm12 := rd_max hu10
 refine enter 27 Tryz.func55 rfl rfl rfl (C_seq (C_reg (li rfl (D_box rfl rfl rfl rfl rfl fun g13 => ?_))))
 refine li rfl (D_box rfl rfl rfl rfl rfl fun g14 => ?_)
 refine p1 rfl (D_end (x_then (D_H ([bx g14 [(.string b.Name), (.int .i64 b.Priority), u7, u9], bx g13 [(.string a.Name), (.int .i64 a.Priority), u1, u3]]) rfl (C_seq (C_seq (C_reg (q1 rfl (D_fb f_92_0 rfl rfl (q := 0) rfl) (q1 rfl (lb 1 o_9 rfl rfl rfl rfl) (q1 rfl (D_fb f_92_0 rfl rfl (q := 0) rfl) (q1 rfl (lb 0 o_9 rfl rfl rfl rfl) (q1 rfl (D_neS rfl rfl rfl) ?_)))))))))))
 refine D_end (x_then (C_if _ rfl (fun h15 => ?_) (fun h15 => ?_)))
 ·have pr15 : ¬ (a.Name : ByteArray) = b.Name := of_decide_eq_false (not_t h15)
  refine C_seq (C_reg (p1 rfl (D_end (x_then (C_ret (x_then_ret (Rb rfl rfl ?_)))))))
  cases a; cases b; simp_all
 ·have pr15 : (a.Name : ByteArray) = b.Name := of_decide_eq_true (not_f h15)
  refine C_skip (x_then (C_seq (C_seq (C_reg (q1 rfl (D_fb f_92_1 rfl rfl (q := 1) rfl) (q1 rfl (lb 1 o_3 rfl rfl rfl rfl) (q1 rfl (D_fb f_92_1 rfl rfl (q := 1) rfl) (q1 rfl (lb 0 o_3 rfl rfl rfl rfl) (p1 rfl (D_end (x_then ?_)))))))))))
  refine C_if _ rfl (fun h16 => ?_) (fun h16 => ?_)
  ·have pr16 : (a.Priority : Int) ≠ b.Priority := bne_iff_ne.1 h16
   refine C_seq (C_reg (p1 rfl (D_end (x_then (C_ret (x_then_ret (Rb rfl rfl ?_)))))))
   cases a; cases b; simp_all
  ·have pr16 : (a.Priority : Int) = b.Priority := eq_of_bne_f h16
   refine C_skip (x_then (C_seq (C_seq (C_reg (q1 rfl (D_fb f_92_2 rfl rfl (q := 2) rfl) (q1 rfl (lb 1 o_89 rfl rfl rfl rfl) (q1 rfl (D_fb f_92_2 rfl rfl (q := 2) rfl) (q1 rfl (lb 0 o_89 rfl rfl rfl rfl) (li rfl (cv b_90 rfl rfl rfl rfl (fun w' hs => (laws_eqCondS w' u1 a.If u7 b.If (rd_at hs hu2) (rd_at hs hu8))) ?_))))))))))
   refine p1 rfl (D_end (x_then (D_weak [(2, (.pointer (some ⟨g13, 0, none⟩))), (3, (.pointer (some ⟨g14, 0, none⟩))), (20, (.bool (!(decide (a.If = b.If)))))] ⟨rfl, rfl, rfl, trivial⟩ (C_if _ rfl (fun h17 => ?_) (fun h17 => ?_)))))
   ·have h17n : (decide (a.If = b.If)) = false := not_t h17
    refine C_seq (C_reg (p1 rfl (D_end (x_then (C_ret (x_then_ret (Rb rfl rfl ?_)))))))
    cases a; cases b; simp_all
   ·have h17n : (decide (a.If = b.If)) = true := not_f h17
    refine C_skip (x_then (C_seq (C_seq (C_reg (q1 rfl (D_fb f_92_3 rfl rfl (q := 3) rfl) (q1 rfl (lb 1 o_90 rfl rfl rfl rfl) (q1 rfl (D_fb f_92_3 rfl rfl (q := 3) rfl) (q1 rfl (lb 0 o_90 rfl rfl rfl rfl) (li rfl (cv b_91 rfl rfl rfl rfl (fun w' hs => (laws_eqActionS w' u3 a.Then u9 b.Then (rd_at hs hu4) (rd_at hs hu10))) ?_))))))))))
    refine p1 rfl (D_end (x_then (C_if _ rfl (fun h18 => ?_) (fun h18 => ?_))))
    ·have h18n : (decide (a.Then = b.Then)) = false := not_t h18
     refine C_seq (C_reg (p1 rfl (D_end (x_then (C_ret (x_then_ret (Rb rfl rfl ?_)))))))
     cases a; cases b; simp_all
    ·have h18n : (decide (a.Then = b.Then)) = true := not_f h18
     refine C_skip (x_then (C_seq (C_reg (p1 rfl (D_end (x_then (C_ret (Rb rfl rfl ?_))))))))
     cases a; cases b; simp_all

theorem laws_szStamp (w : World) (c_a : List Value) (a : Stamp) (left : Int) (h_a : Gd.rd w c_a a) (h0 : 0 ≤ left) (h1 : left ≤ 1048576) (ho : okStamp a) : Calls Tryz.prog 33 [(.agg c_a.toArray), (.int .i64 left)].toArray w (Val w (.int .i64 (szm (szStamp a) left))) := by
 obtain ⟨u1, rfl, hu2⟩ := open_Stamp h_a
 have hm3 := rd_max hu2
 have hb4 := sub_Stamp_Fact h_a
 refine enter 12 Tryz.func33 rfl rfl rfl (C_seq (C_reg (li rfl (D_box rfl rfl rfl rfl rfl fun g5 => ?_))))
 refine p1 rfl (D_end (x_then (D_H ([bx g5 [(.string a.Fact.Rel), u1, (.int .i64 a.Time)]]) rfl (C_seq (C_reg (q1 rfl (D_fb f_82_0 rfl rfl (q := 0) rfl) (q1 rfl (lba (es := [(.string a.Fact.Rel), u1]) 0 a_80 rfl rfl rfl rfl) (p1 rfl (li rfl (cv b_61 rfl rfl rfl rfl (fun w' hs => (laws_szFact w' [(.string a.Fact.Rel), u1] a.Fact left (rd_at hs hb4) (by first | assumption | omega | (unfold szm at *; split at * <;> omega)) (by first | assumption | omega | (unfold szm at *; split at * <;> omega)) ho.1)) ?_))))))))))
 refine p1 rfl (D_end (x_then (C_seq (C_seq (C_reg (p1 rfl <| p1 rfl (D_end (x_then (C_if _ rfl (fun h6 => ?_) (fun h6 => ?_))))))))))
 ·have pr6 : ((szm (szFa a.Fact) left) : Int) < 0 := of_decide_eq_true h6
  refine C_seq (C_reg (p1 rfl (D_end (x_then (C_ret (x_then_ret (Ri rfl rfl ?_)))))))
  show ((-1) : Int) = _
  unfold szStamp szm at *; repeat (split at * <;> try omega)
 ·have pr6 : ¬ ((szm (szFa a.Fact) left) : Int) < 0 := of_decide_eq_false h6
  have pr6z := szm_val (n := (szFa a.Fact)) (left := left) pr6
  refine C_skip (x_then (C_seq (C_reg (p1 rfl <| p1 rfl (D_end (x_then (C_ret (Ri rfl rfl ?_))))))))
  show ((szm (szFa a.Fact) left) : Int) = _
  unfold szStamp szm at *; repeat (split at * <;> try omega)

theorem laws_toStamp (w : World) (c_a : List Value) (a : Stamp) (h_a : Gd.rd w c_a a) (hn : szStamp a ≤ 1048576) : Calls Tryz.prog 45 [(.agg c_a.toArray)].toArray w (Res w (a : Stamp)) := by
 obtain ⟨u1, rfl, hu2⟩ := open_Stamp h_a
 have hm3 := rd_max hu2
 have hb4 := sub_Stamp_Fact h_a
 unfold szStamp at hn
 refine enter 12 Tryz.func45 rfl rfl rfl (C_seq (C_reg (li rfl (D_box rfl rfl rfl rfl rfl fun g5 => ?_))))
 refine li rfl (D_alloc y_50 rfl rfl rfl rfl fun g6 => ?_)
 refine D_end (x_then (D_H ([bx g6 [(.string ⟨#[]⟩), (.slice none 0 0), (.int .i64 0)], bx g5 [(.string a.Fact.Rel), u1, (.int .i64 a.Time)]]) rfl (C_seq (C_reg (li rfl (D_alloc y_50 rfl rfl rfl rfl fun g7 => ?_))))))
 refine D_end (x_then (D_H ([bx g7 [(.string ⟨#[]⟩), (.slice none 0 0), (.int .i64 0)], bx g6 [(.string ⟨#[]⟩), (.slice none 0 0), (.int .i64 0)], bx g5 [(.string a.Fact.Rel), u1, (.int .i64 a.Time)]]) rfl (C_seq (C_reg (q1 rfl (D_fb f_82_0 rfl rfl (q := 0) rfl) (q1 rfl (lba (es := [(.string a.Fact.Rel), u1]) 2 a_80 rfl rfl rfl rfl) (li rfl (crs rfl b_77 rfl rfl rfl rfl (fun w' hs => (laws_toFact w' [(.string a.Fact.Rel), u1] a.Fact (rd_at hs hb4) (by first | assumption | omega | (unfold szm at *; split at * <;> omega)))) fun cs8 => ?_))))))))
 refine D_pre (fun w' hs => shape_Fact (rd_own (k := 0) hs rfl)) ?_
 rintro ⟨v9, rfl, ho10⟩
 refine q1 rfl (D_fb f_50_0 rfl rfl (q := 0) rfl) (li rfl (D_stb (vs := [(.string a.Fact.Rel), v9]) (cs' := [(.string a.Fact.Rel), v9, (.int .i64 0)]) 1 z_48 rfl rfl rfl rfl rfl rfl (ocons rfl (ocons ho10 onil)) (by simp) rfl ?_))
 refine D_end (x_then (D_H ([ov [(.string a.Fact.Rel), v9] (a.Fact : Fact), bx g7 [(.string a.Fact.Rel), v9, (.int .i64 0)], bx g6 [(.string ⟨#[]⟩), (.slice none 0 0), (.int .i64 0)], bx g5 [(.string a.Fact.Rel), u1, (.int .i64 a.Time)]]) rfl (C_seq (C_reg (q1 rfl (D_fb f_82_1 rfl rfl (q := 2) rfl) (q1 rfl (lb 3 o_3 rfl rfl rfl rfl) (q1 rfl (D_fb f_50_1 rfl rfl (q := 2) rfl) (li rfl (D_stb (vs := [(.int .i64 a.Time)]) (cs' := [(.string a.Fact.Rel), v9, (.int .i64 a.Time)]) 1 z_3 rfl rfl rfl rfl rfl rfl (ocons rfl onil) (by simp) rfl ?_)))))))))
 refine D_end (x_then (D_H ([ov [(.string a.Fact.Rel), v9] (a.Fact : Fact), bx g7 [(.string a.Fact.Rel), v9, (.int .i64 a.Time)], bx g6 [(.string ⟨#[]⟩), (.slice none 0 0), (.int .i64 0)], bx g5 [(.string a.Fact.Rel), u1, (.int .i64 a.Time)]]) rfl (C_seq (C_reg (q1 rfl (lbw 1 a_50 rfl rfl rfl) (li rfl (D_stb (vs := [(.string a.Fact.Rel), v9, (.int .i64 a.Time)]) (cs' := [(.string a.Fact.Rel), v9, (.int .i64 a.Time)]) 2 z_50 rfl rfl rfl rfl rfl rfl (ocons rfl (ocons ho10 (ocons rfl onil))) (by simp) rfl ?_)))))))
 refine D_end (x_then (C_ret (D_unpair (α := ByteArray) (β := (List ByteArray)) (c1 := [(.string a.Fact.Rel)]) (c2 := [v9]) (x := a.Fact.Rel) (y := (a.Fact.Args)) rfl rfl (D_fd [] 1 rfl (pk_Stamp (r := (⟨⟨a.Fact.Rel, a.Fact.Args⟩, a.Time⟩ : Stamp)) (R_c 2 a_50 rfl rfl rfl fun w' hs => res_of (k := 0) hs rfl ?_))))))
 show (⟨⟨a.Fact.Rel, a.Fact.Args⟩, a.Time⟩ : Stamp) = a
 rfl

theorem laws_eqStamp (w : World) (c_a : List Value) (a : Stamp) (c_b : List Value) (b : Stamp) (h_a : Gd.rd w c_a a) (h_b : Gd.rd w c_b b) : Calls Tryz.prog 56 [(.agg c_a.toArray), (.agg c_b.toArray)].toArray w (Val w (.bool (decide (a = b)))) := by
 obtain ⟨u1, rfl, hu2⟩ := open_Stamp h_a
 have hm3 := rd_max hu2
 have hb4 := sub_Stamp_Fact h_a
 obtain ⟨u5, rfl, hu6⟩ := open_Stamp h_b
 have hm7 := rd_max hu6
 have hb8 := sub_Stamp_Fact h_b
 refine enter 16 Tryz.func56 rfl rfl rfl (C_seq (C_reg (li rfl (D_box rfl rfl rfl rfl rfl fun g9 => ?_))))
 refine li rfl (D_box rfl rfl rfl rfl rfl fun g10 => ?_)
 refine p1 rfl (D_end (x_then (D_H ([bx g10 [(.string b.Fact.Rel), u5, (.int .i64 b.Time)], bx g9 [(.string a.Fact.Rel), u1, (.int .i64 a.Time)]]) rfl (C_seq (C_seq (C_reg (q1 rfl (D_fb f_50_0 rfl rfl (q := 0) rfl) (q1 rfl (lba (es := [(.string a.Fact.Rel), u1]) 1 a_48 rfl rfl rfl rfl) (q1 rfl (D_fb f_50_0 rfl rfl (q := 0) rfl) (q1 rfl (lba (es := [(.string b.Fact.Rel), u5]) 0 a_48 rfl rfl rfl rfl) (li rfl (cv b_92 rfl rfl rfl rfl (fun w' hs => (laws_eqFact w' [(.string a.Fact.Rel), u1] a.Fact [(.string b.Fact.Rel), u5] b.Fact (rd_at hs hb4) (rd_at hs hb8))) ?_))))))))))))
 refine p1 rfl (D_end (x_then (C_if _ rfl (fun h11 => ?_) (fun h11 => ?_))))
 ·have h11n : (decide (a.Fact = b.Fact)) = false := not_t h11
  refine C_seq (C_reg (p1 rfl (D_end (x_then (C_ret (x_then_ret (Rb rfl rfl ?_)))))))
  cases a; cases b; simp_all
 ·have h11n : (decide (a.Fact = b.Fact)) = true := not_f h11
  refine C_skip (x_then (C_seq (C_seq (C_reg (q1 rfl (D_fb f_50_1 rfl rfl (q := 2) rfl) (q1 rfl (lb 1 o_3 rfl rfl rfl rfl) (q1 rfl (D_fb f_50_1 rfl rfl (q := 2) rfl) (q1 rfl (lb 0 o_3 rfl rfl rfl rfl) (p1 rfl (D_end (x_then ?_)))))))))))
  refine D_weak [(15, (.bool ((a.Time : Int) != b.Time)))] ⟨rfl, trivial⟩ (D_sel (H' := []) [false, false] rfl (C_if _ rfl (fun h12 => ?_) (fun h12 => ?_)))
  ·have pr12 : (a.Time : Int) ≠ b.Time := bne_iff_ne.1 h12
   refine C_seq (C_reg (p1 rfl (D_end (x_then (C_ret (x_then_ret (Rb rfl rfl ?_)))))))
   cases a; cases b; simp_all
  ·have pr12 : (a.Time : Int) = b.Time := eq_of_bne_f h12
   refine C_skip (x_then (C_seq (C_reg (p1 rfl (D_end (x_then (C_ret (Rb rfl rfl ?_))))))))
   cases a; cases b; simp_all

theorem laws_szFiring (w : World) (c_a : List Value) (a : Firing) (left : Int) (h_a : Gd.rd w c_a a) (h0 : 0 ≤ left) (h1 : left ≤ 1048576) (ho : okFiring a) : Calls Tryz.prog 34 [(.agg c_a.toArray), (.int .i64 left)].toArray w (Val w (.int .i64 (szm (szFiring a) left))) := by
 obtain ⟨u1, rfl, hu2⟩ := open_Firing h_a
 have hm3 := rd_max hu2
 have ho1 : a.Rule.size ≤ 9223372036854775807 := ho.1
 refine enter 19 Tryz.func34 rfl rfl rfl (C_seq (C_reg (li rfl (D_box rfl rfl rfl rfl rfl fun g4 => ?_))))
 refine p1 rfl (D_end (x_then (D_H ([bx g4 [(.string a.Rule), u1]]) rfl (C_seq (C_reg (p1 rfl (q1 rfl (D_fb f_84_0 rfl rfl (q := 0) rfl) (q1 rfl (lb 0 o_9 rfl rfl rfl rfl) (q1 rfl (D_lens us_9 rfl rfl) (q1 rfl (D_sub rfl rfl rfl rfl (by omega)) (p1 rfl ?_)))))))))))
 refine D_end (x_then (C_seq (C_seq (C_reg (p1 rfl <| p1 rfl (D_end (x_then (C_if _ rfl (fun h5 => ?_) (fun h5 => ?_)))))))))
 ·have pr5 : ((left - ((a.Rule.size : Nat) : Int)) : Int) < 0 := of_decide_eq_true h5
  refine C_seq (C_reg (p1 rfl (D_end (x_then (C_ret (x_then_ret (Ri rfl rfl ?_)))))))
  show ((-1) : Int) = _
  unfold szFiring szm at *; repeat (split at * <;> try omega)
 ·have pr5 : ¬ ((left - ((a.Rule.size : Nat) : Int)) : Int) < 0 := of_decide_eq_false h5
  refine C_skip (x_then (C_seq (C_reg (q1 rfl (D_fb f_84_1 rfl rfl (q := 1) rfl) (q1 rfl (lb 0 o_52 rfl rfl rfl rfl) (p1 rfl (li rfl (cv b_62 rfl rfl rfl rfl (fun w' hs => (laws_szIntS w' u1 a.Times (left - ((a.Rule.size : Nat) : Int)) (rd_at hs hu2) (by first | assumption | omega | (unfold szm at *; split at * <;> omega)) (by first | assumption | omega | (unfold szm at *; split at * <;> omega)))) ?_))))))))
  refine p1 rfl (D_end (x_then (C_seq (C_seq (C_reg (p1 rfl <| p1 rfl (D_end (x_then (D_weak [(1, (.int .i64 (szm a.Times.length (left - ((a.Rule.size : Nat) : Int))))), (17, (.bool (decide (((szm a.Times.length (left - ((a.Rule.size : Nat) : Int))) : Int) < 0))))] ⟨rfl, rfl, trivial⟩ (D_sel (H' := []) [false] rfl (C_if _ rfl (fun h6 => ?_) (fun h6 => ?_))))))))))))
  ·have pr6 : ((szm a.Times.length (left - ((a.Rule.size : Nat) : Int))) : Int) < 0 := of_decide_eq_true h6
   refine C_seq (C_reg (p1 rfl (D_end (x_then (C_ret (x_then_ret (Ri rfl rfl ?_)))))))
   show ((-1) : Int) = _
   unfold szFiring szm at *; repeat (split at * <;> try omega)
  ·have pr6 : ¬ ((szm a.Times.length (left - ((a.Rule.size : Nat) : Int))) : Int) < 0 := of_decide_eq_false h6
   have pr6z := szm_val (n := a.Times.length) (left := (left - ((a.Rule.size : Nat) : Int))) pr6
   refine C_skip (x_then (C_seq (C_reg (p1 rfl <| p1 rfl (D_end (x_then (C_ret (Ri rfl rfl ?_))))))))
   show ((szm a.Times.length (left - ((a.Rule.size : Nat) : Int))) : Int) = _
   unfold szFiring szm at *; repeat (split at * <;> try omega)

theorem laws_toFiring (w : World) (c_a : List Value) (a : Firing) (h_a : Gd.rd w c_a a) (hn : szFiring a ≤ 1048576) : Calls Tryz.prog 46 [(.agg c_a.toArray)].toArray w (Res w (a : Firing)) := by
 obtain ⟨u1, rfl, hu2⟩ := open_Firing h_a
 have hm3 := rd_max hu2
 unfold szFiring at hn
 refine enter 12 Tryz.func46 rfl rfl rfl (C_seq (C_reg (li rfl (D_box rfl rfl rfl rfl rfl fun g4 => ?_))))
 refine li rfl (D_alloc y_54 rfl rfl rfl rfl fun g5 => ?_)
 refine D_end (x_then (D_H ([bx g5 [(.string ⟨#[]⟩), (.slice none 0 0)], bx g4 [(.string a.Rule), u1]]) rfl (C_seq (C_reg (li rfl (D_alloc y_54 rfl rfl rfl rfl fun g6 => ?_))))))
 refine D_end (x_then (D_H ([bx g6 [(.string ⟨#[]⟩), (.slice none 0 0)], bx g5 [(.string ⟨#[]⟩), (.slice none 0 0)], bx g4 [(.string a.Rule), u1]]) rfl (C_seq (C_reg (q1 rfl (D_fb f_84_0 rfl rfl (q := 0) rfl) (q1 rfl (lb 2 o_9 rfl rfl rfl rfl) (q1 rfl (D_fb f_54_0 rfl rfl (q := 0) rfl) (li rfl (D_stb (vs := [(.string a.Rule)]) (cs' := [(.string a.Rule), (.slice none 0 0)]) 0 z_9 rfl rfl rfl rfl rfl rfl (ocons rfl onil) (by simp) rfl ?_)))))))))
 refine D_end (x_then (D_H ([bx g6 [(.string a.Rule), (.slice none 0 0)], bx g5 [(.string ⟨#[]⟩), (.slice none 0 0)], bx g4 [(.string a.Rule), u1]]) rfl (C_seq (C_reg (q1 rfl (D_fb f_84_1 rfl rfl (q := 1) rfl) (q1 rfl (lb 2 o_52 rfl rfl rfl rfl) (li rfl (crl b_78 rfl rfl rfl rfl (fun w' hs => (laws_toIntS w' u1 a.Times (rd_at hs hu2) (by first | assumption | omega | (unfold szm at *; split at * <;> omega)))) fun v7 => ?_))))))))
 refine q1 rfl (D_fb f_54_1 rfl rfl (q := 1) rfl) (D_pre (fun w' hs => one_own (k := 0) hs rfl) ?_)
 intro ho8
 refine li rfl (D_stb (vs := [v7]) (cs' := [(.string a.Rule), v7]) 1 z_52 rfl rfl rfl rfl rfl (cells_of_one ho8) (ocons ho8 onil) (by simp) rfl ?_)
 refine D_end (x_then (D_H ([ov [v7] (a.Times : (List Int)), bx g6 [(.string a.Rule), v7], bx g5 [(.string ⟨#[]⟩), (.slice none 0 0)], bx g4 [(.string a.Rule), u1]]) rfl (C_seq (C_reg (q1 rfl (lbw 1 a_54 rfl rfl rfl) (li rfl (D_stb (vs := [(.string a.Rule), v7]) (cs' := [(.string a.Rule), v7]) 2 z_54 rfl rfl rfl rfl rfl rfl (ocons rfl (ocons ho8 onil)) (by simp) rfl ?_)))))))
 refine D_end (x_then (C_ret (pk_Firing (r := (⟨a.Rule, a.Times⟩ : Firing)) (R_c 2 a_54 rfl rfl rfl fun w' hs => res_of (k := 0) hs rfl ?_))))
 show (⟨a.Rule, a.Times⟩ : Firing) = a
 rfl

theorem laws_eqFiring (w : World) (c_a : List Value) (a : Firing) (c_b : List Value) (b : Firing) (h_a : Gd.rd w c_a a) (h_b : Gd.rd w c_b b) : Calls Tryz.prog 57 [(.agg c_a.toArray), (.agg c_b.toArray)].toArray w (Val w (.bool (decide (a = b)))) := by
 obtain ⟨u1, rfl, hu2⟩ := open_Firing h_a
 have hm3 := rd_max hu2
 obtain ⟨u4, rfl, hu5⟩ := open_Firing h_b
 have hm6 := rd_max hu5
 refine enter 16 Tryz.func57 rfl rfl rfl (C_seq (C_reg (li rfl (D_box rfl rfl rfl rfl rfl fun g7 => ?_))))
 refine li rfl (D_box rfl rfl rfl rfl rfl fun g8 => ?_)
 refine p1 rfl (D_end (x_then (D_H ([bx g8 [(.string b.Rule), u4], bx g7 [(.string a.Rule), u1]]) rfl (C_seq (C_seq (C_reg (q1 rfl (D_fb f_54_0 rfl rfl (q := 0) rfl) (q1 rfl (lb 1 o_9 rfl rfl rfl rfl) (q1 rfl (D_fb f_54_0 rfl rfl (q := 0) rfl) (q1 rfl (lb 0 o_9 rfl rfl rfl rfl) (q1 rfl (D_neS rfl rfl rfl) ?_)))))))))))
 refine D_end (x_then (C_if _ rfl (fun h9 => ?_) (fun h9 => ?_)))
 ·have pr9 : ¬ (a.Rule : ByteArray) = b.Rule := of_decide_eq_false (not_t h9)
  refine C_seq (C_reg (p1 rfl (D_end (x_then (C_ret (x_then_ret (Rb rfl rfl ?_)))))))
  cases a; cases b; simp_all
 ·have pr9 : (a.Rule : ByteArray) = b.Rule := of_decide_eq_true (not_f h9)
  refine C_skip (x_then (C_seq (C_seq (C_reg (q1 rfl (D_fb f_54_1 rfl rfl (q := 1) rfl) (q1 rfl (lb 1 o_52 rfl rfl rfl rfl) (q1 rfl (D_fb f_54_1 rfl rfl (q := 1) rfl) (q1 rfl (lb 0 o_52 rfl rfl rfl rfl) (li rfl (cv b_93 rfl rfl rfl rfl (fun w' hs => (laws_eqIntS w' u1 a.Times u4 b.Times (rd_at hs hu2) (rd_at hs hu5))) ?_))))))))))
  refine p1 rfl (D_end (x_then (D_weak [(15, (.bool (!(decide (a.Times = b.Times)))))] ⟨rfl, trivial⟩ (D_sel (H' := []) [false, false] rfl (C_if _ rfl (fun h10 => ?_) (fun h10 => ?_))))))
  ·have h10n : (decide (a.Times = b.Times)) = false := not_t h10
   refine C_seq (C_reg (p1 rfl (D_end (x_then (C_ret (x_then_ret (Rb rfl rfl ?_)))))))
   cases a; cases b; simp_all
  ·have h10n : (decide (a.Times = b.Times)) = true := not_f h10
   refine C_skip (x_then (C_seq (C_reg (p1 rfl (D_end (x_then (C_ret (Rb rfl rfl ?_))))))))
   cases a; cases b; simp_all

theorem laws_szRuleS (w : World) (v_a : Value) (a : (List Rule)) (left : Int) (h_a : Gd.rd w [v_a] a) (h0 : 0 ≤ left) (h1 : left ≤ 1048576) (ho : okL okRule a) : Calls Tryz.prog 9 [v_a, (.int .i64 left)].toArray w (Val w (.int .i64 (szm (szL szRule a) left))) := by
 have hm1 := rd_max h_a
 refine enter 27 Tryz.func9 rfl rfl rfl (C_seq (C_reg (p1 rfl (D_end (x_then (C_seq (C_reg (p1 rfl <| p1 rfl (q1 rfl (D_len s_22 rfl rfl (rd_sl h_a)) (q1 rfl (D_sub rfl rfl rfl rfl (by omega)) (p1 rfl ?_)))))))))))
 refine D_end (x_then (C_seq (C_seq (C_reg (p1 rfl <| p1 rfl (D_end (x_then (C_if _ rfl (fun h2 => ?_) (fun h2 => ?_)))))))))
 ·have pr2 : ((left - ((a.length : Nat) : Int)) : Int) < 0 := of_decide_eq_true h2
  refine C_seq (C_reg (p1 rfl (D_end (x_then (C_ret (x_then_ret (Ri rfl rfl ?_)))))))
  show ((-1) : Int) = _
  refine (szm_neg ?_).symm; unfold szL; omega
 ·have pr2 : ¬ ((left - ((a.length : Nat) : Int)) : Int) < 0 := of_decide_eq_false h2
  refine C_skip (x_then (C_seq (C_seq (C_reg (p1 rfl (D_end (x_then (C_block (C_loop (fun m_ ac w' => ∃ (k : Nat), ∃ (lf : Int), (k ≤ a.length) ∧ (0 ≤ lf ∧ lf = left - a.length - sumC szRule (a.take k)) ∧ m_ = a.length - k ∧ Fits ac 27 [(0, v_a), (1, (.int .i64 lf)), (5, (.int .i64 ((k : Nat) : Int)))] ∧ St w ([]) w') ?_ ?_)))))))))
  ·refine fun ac w' hf hs => ⟨_, 0, (left - ((a.length : Nat) : Int)), ?_, ?_, rfl, hf.weak ⟨rfl, rfl, rfl, trivial⟩, hs⟩
   ·first | assumption | omega | simp
   ·simp [sumC]; omega
  ·rintro m_ ac w' ⟨k, lf, hk, hl, rfl, hf, hs⟩
   refine D.use ?_ hf hs
   clear hf hs ac w'
   have ht := sumC_take_le a szRule k
   refine C_seq (C_seq (C_reg (p1 rfl <| p1 rfl (q1 rfl (D_len s_22 rfl rfl (rd_sl h_a)) (p1 rfl (D_end (x_then (C_if _ rfl (fun h3 => ?_) (fun h3 => ?_)))))))))
   ·have pr3 : (((k : Nat) : Int) : Int) < ((a.length : Nat) : Int) := of_decide_eq_true h3
    refine C_skip (x_then (C_seq (C_block (C_seq (C_reg (p1 rfl <| p1 rfl ?_))))))
    obtain ⟨r0, hr0⟩ := some_of_lt (l := a) (i := k) (by omega)
    have hro := ho _ (List.mem_of_getElem? hr0)
    have ht1 := sumC_take_le a szRule (k + 1)
    have hst := sumC_take (c := szRule) hr0
    obtain ⟨es4, at5, hr6⟩ := rd_elem (n := 4) rfl h_a hr0
    obtain ⟨u7, u9, rfl, hu8, hu10⟩ := open_Rule hr6
    have hm11 := rd_max hu8
    have hm12 := rd_max hu10
    refine q1 rfl (D_ix (l := a) (j := k) s_22 rfl rfl rfl (fun w' hs => (rd_at hs h_a)) rfl (lt_of_some hr0)) (q1 rfl (lra a_78 rfl rfl at5) (p1 rfl (li rfl (cv b_32 rfl rfl rfl rfl (fun w' hs => (laws_szRule w' [(.string r0.Name), (.int .i64 r0.Priority), u7, u9] r0 lf (rd_at hs hr6) (by first | assumption | omega | (unfold szm at *; split at * <;> omega)) (by first | assumption | omega | (unfold szm at *; split at * <;> omega)) hro)) ?_))))
    refine p1 rfl (D_end (x_then (C_seq (C_reg (p1 rfl <| p1 rfl (D_end (x_then (C_if _ rfl (fun h13 => ?_) (fun h13 => ?_)))))))))
    ·have pr13 : ((szm (szRule r0) lf) : Int) < 0 := of_decide_eq_true h13
     refine C_seq (C_reg (p1 rfl (D_end (x_then (C_ret (x_blk_ret (x_then_ret (x_then_ret (x_blk_ret (x_then_ret (Ri rfl rfl ?_)))))))))))
     show ((-1) : Int) = _
     refine (szm_neg ?_).symm; unfold szL; unfold szm at *; split at * <;> omega
    ·have pr13 : ¬ ((szm (szRule r0) lf) : Int) < 0 := of_decide_eq_false h13
     have pr13z := szm_val (n := (szRule r0)) (left := lf) pr13
     refine C_skip (x_blk (x_then (C_reg (p1 rfl (q1 rfl (D_add rfl rfl rfl (r := ((k + 1 : Nat) : Int)) (by omega) (by omega)) (p1 rfl (D_end (x_then (fun ac w' hf hs => ⟨_, ?_, k + 1, (szm (szRule r0) lf), ?_, ?_, rfl, hf.weak ⟨rfl, rfl, rfl, trivial⟩, hs⟩)))))))))
     ·omega
     ·first | assumption | omega | simp
     ·rw [hst]; unfold szm at *; split at * <;> omega
   ·have pr3 : ¬ (((k : Nat) : Int) : Int) < ((a.length : Nat) : Int) := of_decide_eq_false h3
    refine C_exit (x_then_exit (x_then_exit (x_blk_eq (x_then (C_seq (C_reg (p1 rfl <| p1 rfl (D_end (x_then (C_ret (Ri rfl rfl ?_)))))))))))
    show (lf : Int) = _
    rw [szm_pos]; all_goals (unfold szL; rw [List.take_of_length_le (by omega)] at hl; omega)

theorem laws_toRuleS (w : World) (v_a : Value) (a : (List Rule)) (h_a : Gd.rd w [v_a] a) (hn : szL szRule a ≤ 1048576) : Calls Tryz.prog 19 [v_a].toArray w (Res w (a : List Rule)) := by
 have hm1 := rd_max h_a
 unfold szL at hn
 refine enter 23 Tryz.func19 rfl rfl rfl (C_seq (C_reg (p1 rfl (D_end (x_then (C_seq (C_reg (p1 rfl (q1 rfl (D_len s_22 rfl rfl (rd_sl h_a)) (li rfl (D_mkG (α := Rule) (z0 := z0_Rule) s_30 y_92 rfl rfl rfl rfl rfl rfl zz_Rule (by omega) (by omega) fun v2 => ?_)))))))))))
 refine p1 rfl (D_end (x_then (D_H ([ov [v2] (List.replicate a.length z0_Rule : (List Rule))]) rfl (C_seq (C_seq (C_reg (p1 rfl (D_end (x_then (C_block (C_loop (fun m_ ac w' => ∃ (k : Nat), ∃ (v : Value), (k ≤ a.length) ∧ m_ = a.length - k ∧ Fits ac 23 [(0, v_a), (3, v), (4, (.int .i64 ((k : Nat) : Int)))] ∧ St w ([ov [v] (cp a z0_Rule k : (List Rule))]) w') ?_ ?_)))))))))))
 ·refine D_eq 0 rfl (show (List.replicate a.length z0_Rule : (List Rule)) = cp a z0_Rule 0 from by rw [cp_zero]) (fun ac w' hf hs => ⟨_, 0, v2, ?_, rfl, hf.weak ⟨rfl, rfl, rfl, trivial⟩, hs⟩)
  ·first | assumption | omega | simp
 ·rintro m_ ac w' ⟨k, v, hk, rfl, hf, hs⟩
  refine D.use ?_ hf hs
  clear hf hs ac w'
  have hcl := cp_len a z0_Rule k hk
  refine C_seq (C_seq (C_reg (p1 rfl <| p1 rfl (q1 rfl (D_len s_22 rfl rfl (rd_sl h_a)) (p1 rfl (D_end (x_then (D_H ([ov [v] (cp a z0_Rule k : (List Rule))]) rfl (C_if _ rfl (fun h3 => ?_) (fun h3 => ?_))))))))))
  ·have pr3 : (((k : Nat) : Int) : Int) < ((a.length : Nat) : Int) := of_decide_eq_true h3
   refine C_skip (x_then (C_seq (C_block (C_reg (p1 rfl <| p1 rfl <| p1 rfl <| p1 rfl ?_)))))
   obtain ⟨x4, hx5⟩ := some_of_lt (l := a) (i := k) (by omega)
   have hle := sumC_mem (c := szRule) (mem_idx hx5)
   obtain ⟨es6, at7, hr8⟩ := rd_elem (n := 4) rfl h_a hx5
   obtain ⟨u9, u11, rfl, hu10, hu12⟩ := open_Rule hr8
   have hm13 := rd_max hu10
   have hm14 := rd_max hu12
   refine q1 rfl (D_ix (l := a) (j := k) s_22 rfl rfl rfl (fun w' hs => (rd_at hs h_a)) rfl (lt_of_some hx5)) (q1 rfl (lra a_78 rfl rfl at7) (li rfl (crs rfl b_44 rfl rfl rfl rfl (fun w' hs => (laws_toRule w' [(.string x4.Name), (.int .i64 x4.Priority), u9, u11] x4 (rd_at hs hr8) (by first | assumption | omega | (unfold szm at *; split at * <;> omega)))) fun cs15 => ?_)))
   refine D_pre (fun w' hs => shape_Rule (rd_own (k := 0) hs rfl)) ?_
   rintro ⟨v16, v17, rfl, ho18, ho19⟩
   obtain ⟨x20, hx21⟩ := some_of_lt (l := (cp a z0_Rule k)) (i := k) (by omega)
   refine q1 rfl (D_ix (l := (cp a z0_Rule k)) (j := k) s_30 rfl rfl rfl (fun w' hs => (rd_own (k := 1) hs rfl)) rfl (lt_of_some hx21)) (D_pk (H' := [ov [v] (cp a z0_Rule k : (List Rule)), ov [(.string x4.Name), (.int .i64 x4.Priority), v16, v17] (x4 : Rule)]) [1, 0] rfl rfl (li rfl (soG (α := Rule) rfl z_92 rfl rfl rfl rfl rfl (lt_of_some hx21) ?_)))
   refine D_end (x_blk (x_then (D_H ([ov [v] ((cp a z0_Rule k).set k x4 : (List Rule))]) rfl (C_reg (p1 rfl (q1 rfl (D_add rfl rfl rfl (r := ((k + 1 : Nat) : Int)) (by omega) (by omega)) (p1 rfl (D_end (x_then (D_eq 0 rfl (show ((cp a z0_Rule k).set k x4 : (List Rule)) = cp a z0_Rule (k + 1) from by rw [cp_set (by assumption)]) (fun ac w' hf hs => ⟨_, ?_, k + 1, v, ?_, rfl, hf.weak ⟨rfl, rfl, rfl, trivial⟩, hs⟩)))))))))))
   ·omega
   ·first | assumption | omega | simp
  ·have pr3 : ¬ (((k : Nat) : Int) : Int) < ((a.length : Nat) : Int) := of_decide_eq_false h3
   refine C_exit (x_then_exit (x_then_exit (x_blk_eq (x_then (C_seq (C_reg (p1 rfl <| p1 rfl (D_end (x_then (C_ret (R_1 rfl rfl fun w' hs => res_of (k := 0) hs rfl ?_)))))))))))
   show cp a z0_Rule k = a
   exact cp_done (by omega)

theorem laws_eqRuleS (w : World) (v_a : Value) (a : (List Rule)) (v_b : Value) (b : (List Rule)) (h_a : Gd.rd w [v_a] a) (h_b : Gd.rd w [v_b] b) : Calls Tryz.prog 28 [v_a, v_b].toArray w (Val w (.bool (decide (a = b)))) := by
 have hm1 := rd_max h_a
 have hm2 := rd_max h_b
 refine enter 27 Tryz.func28 rfl rfl rfl (C_seq (C_reg (p1 rfl (D_end (x_then (C_seq (C_seq (C_reg (p1 rfl (q1 rfl (D_len s_30 rfl rfl (rd_sl h_a)) (p1 rfl ?_)))))))))))
 refine q1 rfl (D_len s_30 rfl rfl (rd_sl h_b)) (p1 rfl (D_end (x_then (C_if _ rfl (fun h3 => ?_) (fun h3 => ?_)))))
 ·have pr3 : (((a.length : Nat) : Int) : Int) ≠ ((b.length : Nat) : Int) := bne_iff_ne.1 h3
  refine C_seq (C_reg (p1 rfl (D_end (x_then (C_ret (x_then_ret (Rb rfl rfl ?_)))))))
  simp; intro e; subst e; simp_all
 ·have pr3 : (((a.length : Nat) : Int) : Int) = ((b.length : Nat) : Int) := eq_of_bne_f h3
  refine C_skip (x_then (C_seq (C_seq (C_reg (p1 rfl (D_end (x_then (C_block (C_loop (fun m_ ac w' => ∃ (k : Nat), (k ≤ a.length) ∧ (∀ i, i < k → a[i]? = b[i]?) ∧ m_ = a.length - k ∧ Fits ac 27 [(0, v_a), (1, v_b), (5, (.int .i64 ((k : Nat) : Int)))] ∧ St w ([]) w') ?_ ?_)))))))))
  ·refine fun ac w' hf hs => ⟨_, 0, ?_, ?_, rfl, hf.weak ⟨rfl, rfl, rfl, trivial⟩, hs⟩
   ·first | assumption | omega | simp
   ·intro i hi; omega
  ·rintro m_ ac w' ⟨k, hk, hi, rfl, hf, hs⟩
   refine D.use ?_ hf hs
   clear hf hs ac w'
   refine C_seq (C_seq (C_reg (p1 rfl <| p1 rfl (q1 rfl (D_len s_30 rfl rfl (rd_sl h_a)) (p1 rfl (D_end (x_then (C_if _ rfl (fun h4 => ?_) (fun h4 => ?_)))))))))
   ·have pr4 : (((k : Nat) : Int) : Int) < ((a.length : Nat) : Int) := of_decide_eq_true h4
    refine C_skip (x_then (C_seq (C_block (C_seq (C_draw mixed [8, 9] (by kernel_rfl) (tk 0 rfl (by kernel_rfl) (by kernel_rfl) (by kernel_rfl) rfl (fun _ hs => hs) (rp rfl) (tk 1 rfl (by kernel_rfl) (by kernel_rfl) (by kernel_rfl) rfl (fun _ hs => hs) (rp rfl) ?_)))))))
    obtain ⟨x5, hx6⟩ := some_of_lt (l := a) (i := k) (by omega)
    obtain ⟨es7, at8, hr9⟩ := rd_elem (n := 4) rfl h_a hx6
    obtain ⟨u10, u12, rfl, hu11, hu13⟩ := open_Rule hr9
    have hm14 := rd_max hu11
    have hm15 := rd_max hu13
    refine tk 2 rfl (by kernel_rfl) (by kernel_rfl) (by kernel_rfl) rfl (fun _ hs => hs) (D_ix (l := a) (j := k) s_30 rfl rfl rfl (fun w' hs => (rd_at hs h_a)) rfl (lt_of_some hx6)) (tk 3 rfl (by kernel_rfl) (by kernel_rfl) (by kernel_rfl) rfl (fun _ hs => hs) (lra a_92 rfl rfl at8) (tk 4 rfl (by kernel_rfl) (by kernel_rfl) (by kernel_rfl) rfl (fun _ hs => hs) (rp rfl) (tk 5 rfl (by kernel_rfl) (by kernel_rfl) (by kernel_rfl) rfl (fun _ hs => hs) (rp rfl) ?_)))
    obtain ⟨x16, hx17⟩ := some_of_lt (l := b) (i := k) (by omega)
    obtain ⟨es18, at19, hr20⟩ := rd_elem (n := 4) rfl h_b hx17
    obtain ⟨u21, u23, rfl, hu22, hu24⟩ := open_Rule hr20
    have hm25 := rd_max hu22
    have hm26 := rd_max hu24
    refine tk 6 rfl (by kernel_rfl) (by kernel_rfl) (by kernel_rfl) rfl (fun _ hs => hs) (D_ix (l := b) (j := k) s_30 rfl rfl rfl (fun w' hs => (rd_at hs h_b)) rfl (lt_of_some hx17)) (tk 7 rfl (by kernel_rfl) (by kernel_rfl) (by kernel_rfl) rfl (fun _ hs => hs) (lra a_92 rfl rfl at19) (ty 8 rfl (by kernel_rfl) rfl (cv b_55 rfl rfl rfl rfl (fun w' hs => (laws_eqRule w' [(.string x5.Name), (.int .i64 x5.Priority), u10, u12] x5 [(.string x16.Name), (.int .i64 x16.Priority), u21, u23] x16 (rd_at hs hr9) (rd_at hs hr20))) ?_)))
    refine tZ rfl (ty 9 rfl (by kernel_rfl) rfl (sv rfl rfl (rp rfl) ?_))
    refine tZ rfl (tE (by kernel_rfl) (x_then (C_if _ rfl (fun h27 => ?_) (fun h27 => ?_))))
    ·have h27n : (decide (x5 = x16)) = false := not_t h27
     refine C_seq (C_reg (p1 rfl (D_end (x_then (C_ret (x_blk_ret (x_then_ret (x_then_ret (x_blk_ret (x_then_ret (Rb rfl rfl ?_)))))))))))
     simp; intro e; subst e; simp_all
    ·have h27n : (decide (x5 = x16)) = true := not_f h27
     refine C_skip (x_blk (x_then (C_reg (p1 rfl (q1 rfl (D_add rfl rfl rfl (r := ((k + 1 : Nat) : Int)) (by omega) (by omega)) (p1 rfl (D_end (x_then (fun ac w' hf hs => ⟨_, ?_, k + 1, ?_, ?_, rfl, hf.weak ⟨rfl, rfl, rfl, trivial⟩, hs⟩)))))))))
     ·omega
     ·first | assumption | omega | simp
     ·refine idx_step hi (by assumption) (by assumption) ?_; first | (simp_all; done) | (apply Fact.mk_eq <;> simp_all)
   ·have pr4 : ¬ (((k : Nat) : Int) : Int) < ((a.length : Nat) : Int) := of_decide_eq_false h4
    refine C_exit (x_then_exit (x_then_exit (x_blk_eq (x_then (C_seq (C_reg (p1 rfl (D_end (x_then (C_ret (Rb rfl rfl ?_)))))))))))
    simp; exact eq_of_idx (by omega) (fun i h => hi i (by omega))

theorem laws_szStampS (w : World) (v_a : Value) (a : (List Stamp)) (left : Int) (h_a : Gd.rd w [v_a] a) (h0 : 0 ≤ left) (h1 : left ≤ 1048576) (ho : okL okStamp a) : Calls Tryz.prog 10 [v_a, (.int .i64 left)].toArray w (Val w (.int .i64 (szm (szL szStamp a) left))) := by
 have hm1 := rd_max h_a
 refine enter 27 Tryz.func10 rfl rfl rfl (C_seq (C_reg (p1 rfl (D_end (x_then (C_seq (C_reg (p1 rfl <| p1 rfl (q1 rfl (D_len s_23 rfl rfl (rd_sl h_a)) (q1 rfl (D_sub rfl rfl rfl rfl (by omega)) (p1 rfl ?_)))))))))))
 refine D_end (x_then (C_seq (C_seq (C_reg (p1 rfl <| p1 rfl (D_end (x_then (C_if _ rfl (fun h2 => ?_) (fun h2 => ?_)))))))))
 ·have pr2 : ((left - ((a.length : Nat) : Int)) : Int) < 0 := of_decide_eq_true h2
  refine C_seq (C_reg (p1 rfl (D_end (x_then (C_ret (x_then_ret (Ri rfl rfl ?_)))))))
  show ((-1) : Int) = _
  refine (szm_neg ?_).symm; unfold szL; omega
 ·have pr2 : ¬ ((left - ((a.length : Nat) : Int)) : Int) < 0 := of_decide_eq_false h2
  refine C_skip (x_then (C_seq (C_seq (C_reg (p1 rfl (D_end (x_then (C_block (C_loop (fun m_ ac w' => ∃ (k : Nat), ∃ (lf : Int), (k ≤ a.length) ∧ (0 ≤ lf ∧ lf = left - a.length - sumC szStamp (a.take k)) ∧ m_ = a.length - k ∧ Fits ac 27 [(0, v_a), (1, (.int .i64 lf)), (5, (.int .i64 ((k : Nat) : Int)))] ∧ St w ([]) w') ?_ ?_)))))))))
  ·refine fun ac w' hf hs => ⟨_, 0, (left - ((a.length : Nat) : Int)), ?_, ?_, rfl, hf.weak ⟨rfl, rfl, rfl, trivial⟩, hs⟩
   ·first | assumption | omega | simp
   ·simp [sumC]; omega
  ·rintro m_ ac w' ⟨k, lf, hk, hl, rfl, hf, hs⟩
   refine D.use ?_ hf hs
   clear hf hs ac w'
   have ht := sumC_take_le a szStamp k
   refine C_seq (C_seq (C_reg (p1 rfl <| p1 rfl (q1 rfl (D_len s_23 rfl rfl (rd_sl h_a)) (p1 rfl (D_end (x_then (C_if _ rfl (fun h3 => ?_) (fun h3 => ?_)))))))))
   ·have pr3 : (((k : Nat) : Int) : Int) < ((a.length : Nat) : Int) := of_decide_eq_true h3
    refine C_skip (x_then (C_seq (C_block (C_seq (C_reg (p1 rfl <| p1 rfl ?_))))))
    obtain ⟨r0, hr0⟩ := some_of_lt (l := a) (i := k) (by omega)
    have hro := ho _ (List.mem_of_getElem? hr0)
    have ht1 := sumC_take_le a szStamp (k + 1)
    have hst := sumC_take (c := szStamp) hr0
    obtain ⟨es4, at5, hr6⟩ := rd_elem (n := 3) rfl h_a hr0
    obtain ⟨u7, rfl, hu8⟩ := open_Stamp hr6
    have hm9 := rd_max hu8
    have hb10 := sub_Stamp_Fact hr6
    refine q1 rfl (D_ix (l := a) (j := k) s_23 rfl rfl rfl (fun w' hs => (rd_at hs h_a)) rfl (lt_of_some hr0)) (q1 rfl (lra a_82 rfl rfl at5) (p1 rfl (li rfl (cv b_33 rfl rfl rfl rfl (fun w' hs => (laws_szStamp w' [(.string r0.Fact.Rel), u7, (.int .i64 r0.Time)] r0 lf (rd_at hs hr6) (by first | assumption | omega | (unfold szm at *; split at * <;> omega)) (by first | assumption | omega | (unfold szm at *; split at * <;> omega)) hro)) ?_))))
    refine p1 rfl (D_end (x_then (C_seq (C_reg (p1 rfl <| p1 rfl (D_end (x_then (C_if _ rfl (fun h11 => ?_) (fun h11 => ?_)))))))))
    ·have pr11 : ((szm (szStamp r0) lf) : Int) < 0 := of_decide_eq_true h11
     refine C_seq (C_reg (p1 rfl (D_end (x_then (C_ret (x_blk_ret (x_then_ret (x_then_ret (x_blk_ret (x_then_ret (Ri rfl rfl ?_)))))))))))
     show ((-1) : Int) = _
     refine (szm_neg ?_).symm; unfold szL; unfold szm at *; split at * <;> omega
    ·have pr11 : ¬ ((szm (szStamp r0) lf) : Int) < 0 := of_decide_eq_false h11
     have pr11z := szm_val (n := (szStamp r0)) (left := lf) pr11
     refine C_skip (x_blk (x_then (C_reg (p1 rfl (q1 rfl (D_add rfl rfl rfl (r := ((k + 1 : Nat) : Int)) (by omega) (by omega)) (p1 rfl (D_end (x_then (fun ac w' hf hs => ⟨_, ?_, k + 1, (szm (szStamp r0) lf), ?_, ?_, rfl, hf.weak ⟨rfl, rfl, rfl, trivial⟩, hs⟩)))))))))
     ·omega
     ·first | assumption | omega | simp
     ·rw [hst]; unfold szm at *; split at * <;> omega
   ·have pr3 : ¬ (((k : Nat) : Int) : Int) < ((a.length : Nat) : Int) := of_decide_eq_false h3
    refine C_exit (x_then_exit (x_then_exit (x_blk_eq (x_then (C_seq (C_reg (p1 rfl <| p1 rfl (D_end (x_then (C_ret (Ri rfl rfl ?_)))))))))))
    show (lf : Int) = _
    rw [szm_pos]; all_goals (unfold szL; rw [List.take_of_length_le (by omega)] at hl; omega)

theorem laws_toStampS (w : World) (v_a : Value) (a : (List Stamp)) (h_a : Gd.rd w [v_a] a) (hn : szL szStamp a ≤ 1048576) : Calls Tryz.prog 20 [v_a].toArray w (Res w (a : List Stamp)) := by
 have hm1 := rd_max h_a
 unfold szL at hn
 refine enter 23 Tryz.func20 rfl rfl rfl (C_seq (C_reg (p1 rfl (D_end (x_then (C_seq (C_reg (p1 rfl (q1 rfl (D_len s_23 rfl rfl (rd_sl h_a)) (li rfl (D_mkG (α := Stamp) (z0 := z0_Stamp) s_31 y_50 rfl rfl rfl rfl rfl rfl zz_Stamp (by omega) (by omega) fun v2 => ?_)))))))))))
 refine p1 rfl (D_end (x_then (D_H ([ov [v2] (List.replicate a.length z0_Stamp : (List Stamp))]) rfl (C_seq (C_seq (C_reg (p1 rfl (D_end (x_then (C_block (C_loop (fun m_ ac w' => ∃ (k : Nat), ∃ (v : Value), (k ≤ a.length) ∧ m_ = a.length - k ∧ Fits ac 23 [(0, v_a), (3, v), (4, (.int .i64 ((k : Nat) : Int)))] ∧ St w ([ov [v] (cp a z0_Stamp k : (List Stamp))]) w') ?_ ?_)))))))))))
 ·refine D_eq 0 rfl (show (List.replicate a.length z0_Stamp : (List Stamp)) = cp a z0_Stamp 0 from by rw [cp_zero]) (fun ac w' hf hs => ⟨_, 0, v2, ?_, rfl, hf.weak ⟨rfl, rfl, rfl, trivial⟩, hs⟩)
  ·first | assumption | omega | simp
 ·rintro m_ ac w' ⟨k, v, hk, rfl, hf, hs⟩
  refine D.use ?_ hf hs
  clear hf hs ac w'
  have hcl := cp_len a z0_Stamp k hk
  refine C_seq (C_seq (C_reg (p1 rfl <| p1 rfl (q1 rfl (D_len s_23 rfl rfl (rd_sl h_a)) (p1 rfl (D_end (x_then (D_H ([ov [v] (cp a z0_Stamp k : (List Stamp))]) rfl (C_if _ rfl (fun h3 => ?_) (fun h3 => ?_))))))))))
  ·have pr3 : (((k : Nat) : Int) : Int) < ((a.length : Nat) : Int) := of_decide_eq_true h3
   refine C_skip (x_then (C_seq (C_block (C_reg (p1 rfl <| p1 rfl <| p1 rfl <| p1 rfl ?_)))))
   obtain ⟨x4, hx5⟩ := some_of_lt (l := a) (i := k) (by omega)
   have hle := sumC_mem (c := szStamp) (mem_idx hx5)
   obtain ⟨es6, at7, hr8⟩ := rd_elem (n := 3) rfl h_a hx5
   obtain ⟨u9, rfl, hu10⟩ := open_Stamp hr8
   have hm11 := rd_max hu10
   have hb12 := sub_Stamp_Fact hr8
   refine q1 rfl (D_ix (l := a) (j := k) s_23 rfl rfl rfl (fun w' hs => (rd_at hs h_a)) rfl (lt_of_some hx5)) (q1 rfl (lra a_82 rfl rfl at7) (li rfl (crs rfl b_45 rfl rfl rfl rfl (fun w' hs => (laws_toStamp w' [(.string x4.Fact.Rel), u9, (.int .i64 x4.Time)] x4 (rd_at hs hr8) (by first | assumption | omega | (unfold szm at *; split at * <;> omega)))) fun cs13 => ?_)))
   refine D_pre (fun w' hs => shape_Stamp (rd_own (k := 0) hs rfl)) ?_
   rintro ⟨v14, rfl, ho15⟩
   obtain ⟨x16, hx17⟩ := some_of_lt (l := (cp a z0_Stamp k)) (i := k) (by omega)
   refine q1 rfl (D_ix (l := (cp a z0_Stamp k)) (j := k) s_31 rfl rfl rfl (fun w' hs => (rd_own (k := 1) hs rfl)) rfl (lt_of_some hx17)) (D_pk (H' := [ov [v] (cp a z0_Stamp k : (List Stamp)), ov [(.string x4.Fact.Rel), v14, (.int .i64 x4.Time)] (x4 : Stamp)]) [1, 0] rfl rfl (li rfl (soG (α := Stamp) rfl z_50 rfl rfl rfl rfl rfl (lt_of_some hx17) ?_)))
   refine D_end (x_blk (x_then (D_H ([ov [v] ((cp a z0_Stamp k).set k x4 : (List Stamp))]) rfl (C_reg (p1 rfl (q1 rfl (D_add rfl rfl rfl (r := ((k + 1 : Nat) : Int)) (by omega) (by omega)) (p1 rfl (D_end (x_then (D_eq 0 rfl (show ((cp a z0_Stamp k).set k x4 : (List Stamp)) = cp a z0_Stamp (k + 1) from by rw [cp_set (by assumption)]) (fun ac w' hf hs => ⟨_, ?_, k + 1, v, ?_, rfl, hf.weak ⟨rfl, rfl, rfl, trivial⟩, hs⟩)))))))))))
   ·omega
   ·first | assumption | omega | simp
  ·have pr3 : ¬ (((k : Nat) : Int) : Int) < ((a.length : Nat) : Int) := of_decide_eq_false h3
   refine C_exit (x_then_exit (x_then_exit (x_blk_eq (x_then (C_seq (C_reg (p1 rfl <| p1 rfl (D_end (x_then (C_ret (R_1 rfl rfl fun w' hs => res_of (k := 0) hs rfl ?_)))))))))))
   show cp a z0_Stamp k = a
   exact cp_done (by omega)

theorem laws_eqStampS (w : World) (v_a : Value) (a : (List Stamp)) (v_b : Value) (b : (List Stamp)) (h_a : Gd.rd w [v_a] a) (h_b : Gd.rd w [v_b] b) : Calls Tryz.prog 29 [v_a, v_b].toArray w (Val w (.bool (decide (a = b)))) := by
 have hm1 := rd_max h_a
 have hm2 := rd_max h_b
 refine enter 27 Tryz.func29 rfl rfl rfl (C_seq (C_reg (p1 rfl (D_end (x_then (C_seq (C_seq (C_reg (p1 rfl (q1 rfl (D_len s_31 rfl rfl (rd_sl h_a)) (p1 rfl ?_)))))))))))
 refine q1 rfl (D_len s_31 rfl rfl (rd_sl h_b)) (p1 rfl (D_end (x_then (C_if _ rfl (fun h3 => ?_) (fun h3 => ?_)))))
 ·have pr3 : (((a.length : Nat) : Int) : Int) ≠ ((b.length : Nat) : Int) := bne_iff_ne.1 h3
  refine C_seq (C_reg (p1 rfl (D_end (x_then (C_ret (x_then_ret (Rb rfl rfl ?_)))))))
  simp; intro e; subst e; simp_all
 ·have pr3 : (((a.length : Nat) : Int) : Int) = ((b.length : Nat) : Int) := eq_of_bne_f h3
  refine C_skip (x_then (C_seq (C_seq (C_reg (p1 rfl (D_end (x_then (C_block (C_loop (fun m_ ac w' => ∃ (k : Nat), (k ≤ a.length) ∧ (∀ i, i < k → a[i]? = b[i]?) ∧ m_ = a.length - k ∧ Fits ac 27 [(0, v_a), (1, v_b), (5, (.int .i64 ((k : Nat) : Int)))] ∧ St w ([]) w') ?_ ?_)))))))))
  ·refine fun ac w' hf hs => ⟨_, 0, ?_, ?_, rfl, hf.weak ⟨rfl, rfl, rfl, trivial⟩, hs⟩
   ·first | assumption | omega | simp
   ·intro i hi; omega
  ·rintro m_ ac w' ⟨k, hk, hi, rfl, hf, hs⟩
   refine D.use ?_ hf hs
   clear hf hs ac w'
   refine C_seq (C_seq (C_reg (p1 rfl <| p1 rfl (q1 rfl (D_len s_31 rfl rfl (rd_sl h_a)) (p1 rfl (D_end (x_then (C_if _ rfl (fun h4 => ?_) (fun h4 => ?_)))))))))
   ·have pr4 : (((k : Nat) : Int) : Int) < ((a.length : Nat) : Int) := of_decide_eq_true h4
    refine C_skip (x_then (C_seq (C_block (C_seq (C_draw mixed [8, 9] (by kernel_rfl) (tk 0 rfl (by kernel_rfl) (by kernel_rfl) (by kernel_rfl) rfl (fun _ hs => hs) (rp rfl) (tk 1 rfl (by kernel_rfl) (by kernel_rfl) (by kernel_rfl) rfl (fun _ hs => hs) (rp rfl) ?_)))))))
    obtain ⟨x5, hx6⟩ := some_of_lt (l := a) (i := k) (by omega)
    obtain ⟨es7, at8, hr9⟩ := rd_elem (n := 3) rfl h_a hx6
    obtain ⟨u10, rfl, hu11⟩ := open_Stamp hr9
    have hm12 := rd_max hu11
    have hb13 := sub_Stamp_Fact hr9
    refine tk 2 rfl (by kernel_rfl) (by kernel_rfl) (by kernel_rfl) rfl (fun _ hs => hs) (D_ix (l := a) (j := k) s_31 rfl rfl rfl (fun w' hs => (rd_at hs h_a)) rfl (lt_of_some hx6)) (tk 3 rfl (by kernel_rfl) (by kernel_rfl) (by kernel_rfl) rfl (fun _ hs => hs) (lra a_50 rfl rfl at8) (tk 4 rfl (by kernel_rfl) (by kernel_rfl) (by kernel_rfl) rfl (fun _ hs => hs) (rp rfl) (tk 5 rfl (by kernel_rfl) (by kernel_rfl) (by kernel_rfl) rfl (fun _ hs => hs) (rp rfl) ?_)))
    obtain ⟨x14, hx15⟩ := some_of_lt (l := b) (i := k) (by omega)
    obtain ⟨es16, at17, hr18⟩ := rd_elem (n := 3) rfl h_b hx15
    obtain ⟨u19, rfl, hu20⟩ := open_Stamp hr18
    have hm21 := rd_max hu20
    have hb22 := sub_Stamp_Fact hr18
    refine tk 6 rfl (by kernel_rfl) (by kernel_rfl) (by kernel_rfl) rfl (fun _ hs => hs) (D_ix (l := b) (j := k) s_31 rfl rfl rfl (fun w' hs => (rd_at hs h_b)) rfl (lt_of_some hx15)) (tk 7 rfl (by kernel_rfl) (by kernel_rfl) (by kernel_rfl) rfl (fun _ hs => hs) (lra a_50 rfl rfl at17) (ty 8 rfl (by kernel_rfl) rfl (cv b_56 rfl rfl rfl rfl (fun w' hs => (laws_eqStamp w' [(.string x5.Fact.Rel), u10, (.int .i64 x5.Time)] x5 [(.string x14.Fact.Rel), u19, (.int .i64 x14.Time)] x14 (rd_at hs hr9) (rd_at hs hr18))) ?_)))
    refine tZ rfl (ty 9 rfl (by kernel_rfl) rfl (sv rfl rfl (rp rfl) ?_))
    refine tZ rfl (tE (by kernel_rfl) (x_then (C_if _ rfl (fun h23 => ?_) (fun h23 => ?_))))
    ·have h23n : (decide (x5 = x14)) = false := not_t h23
     refine C_seq (C_reg (p1 rfl (D_end (x_then (C_ret (x_blk_ret (x_then_ret (x_then_ret (x_blk_ret (x_then_ret (Rb rfl rfl ?_)))))))))))
     simp; intro e; subst e; simp_all
    ·have h23n : (decide (x5 = x14)) = true := not_f h23
     refine C_skip (x_blk (x_then (C_reg (p1 rfl (q1 rfl (D_add rfl rfl rfl (r := ((k + 1 : Nat) : Int)) (by omega) (by omega)) (p1 rfl (D_end (x_then (fun ac w' hf hs => ⟨_, ?_, k + 1, ?_, ?_, rfl, hf.weak ⟨rfl, rfl, rfl, trivial⟩, hs⟩)))))))))
     ·omega
     ·first | assumption | omega | simp
     ·refine idx_step hi (by assumption) (by assumption) ?_; first | (simp_all; done) | (apply Fact.mk_eq <;> simp_all)
   ·have pr4 : ¬ (((k : Nat) : Int) : Int) < ((a.length : Nat) : Int) := of_decide_eq_false h4
    refine C_exit (x_then_exit (x_then_exit (x_blk_eq (x_then (C_seq (C_reg (p1 rfl (D_end (x_then (C_ret (Rb rfl rfl ?_)))))))))))
    simp; exact eq_of_idx (by omega) (fun i h => hi i (by omega))

theorem laws_szFiringS (w : World) (v_a : Value) (a : (List Firing)) (left : Int) (h_a : Gd.rd w [v_a] a) (h0 : 0 ≤ left) (h1 : left ≤ 1048576) (ho : okL okFiring a) : Calls Tryz.prog 11 [v_a, (.int .i64 left)].toArray w (Val w (.int .i64 (szm (szL szFiring a) left))) := by
 have hm1 := rd_max h_a
 refine enter 27 Tryz.func11 rfl rfl rfl (C_seq (C_reg (p1 rfl (D_end (x_then (C_seq (C_reg (p1 rfl <| p1 rfl (q1 rfl (D_len s_24 rfl rfl (rd_sl h_a)) (q1 rfl (D_sub rfl rfl rfl rfl (by omega)) (p1 rfl ?_)))))))))))
 refine D_end (x_then (C_seq (C_seq (C_reg (p1 rfl <| p1 rfl (D_end (x_then (C_if _ rfl (fun h2 => ?_) (fun h2 => ?_)))))))))
 ·have pr2 : ((left - ((a.length : Nat) : Int)) : Int) < 0 := of_decide_eq_true h2
  refine C_seq (C_reg (p1 rfl (D_end (x_then (C_ret (x_then_ret (Ri rfl rfl ?_)))))))
  show ((-1) : Int) = _
  refine (szm_neg ?_).symm; unfold szL; omega
 ·have pr2 : ¬ ((left - ((a.length : Nat) : Int)) : Int) < 0 := of_decide_eq_false h2
  refine C_skip (x_then (C_seq (C_seq (C_reg (p1 rfl (D_end (x_then (C_block (C_loop (fun m_ ac w' => ∃ (k : Nat), ∃ (lf : Int), (k ≤ a.length) ∧ (0 ≤ lf ∧ lf = left - a.length - sumC szFiring (a.take k)) ∧ m_ = a.length - k ∧ Fits ac 27 [(0, v_a), (1, (.int .i64 lf)), (5, (.int .i64 ((k : Nat) : Int)))] ∧ St w ([]) w') ?_ ?_)))))))))
  ·refine fun ac w' hf hs => ⟨_, 0, (left - ((a.length : Nat) : Int)), ?_, ?_, rfl, hf.weak ⟨rfl, rfl, rfl, trivial⟩, hs⟩
   ·first | assumption | omega | simp
   ·simp [sumC]; omega
  ·rintro m_ ac w' ⟨k, lf, hk, hl, rfl, hf, hs⟩
   refine D.use ?_ hf hs
   clear hf hs ac w'
   have ht := sumC_take_le a szFiring k
   refine C_seq (C_seq (C_reg (p1 rfl <| p1 rfl (q1 rfl (D_len s_24 rfl rfl (rd_sl h_a)) (p1 rfl (D_end (x_then (C_if _ rfl (fun h3 => ?_) (fun h3 => ?_)))))))))
   ·have pr3 : (((k : Nat) : Int) : Int) < ((a.length : Nat) : Int) := of_decide_eq_true h3
    refine C_skip (x_then (C_seq (C_block (C_seq (C_reg (p1 rfl <| p1 rfl ?_))))))
    obtain ⟨r0, hr0⟩ := some_of_lt (l := a) (i := k) (by omega)
    have hro := ho _ (List.mem_of_getElem? hr0)
    have ht1 := sumC_take_le a szFiring (k + 1)
    have hst := sumC_take (c := szFiring) hr0
    obtain ⟨es4, at5, hr6⟩ := rd_elem (n := 2) rfl h_a hr0
    obtain ⟨u7, rfl, hu8⟩ := open_Firing hr6
    have hm9 := rd_max hu8
    refine q1 rfl (D_ix (l := a) (j := k) s_24 rfl rfl rfl (fun w' hs => (rd_at hs h_a)) rfl (lt_of_some hr0)) (q1 rfl (lra a_84 rfl rfl at5) (p1 rfl (li rfl (cv b_34 rfl rfl rfl rfl (fun w' hs => (laws_szFiring w' [(.string r0.Rule), u7] r0 lf (rd_at hs hr6) (by first | assumption | omega | (unfold szm at *; split at * <;> omega)) (by first | assumption | omega | (unfold szm at *; split at * <;> omega)) hro)) ?_))))
    refine p1 rfl (D_end (x_then (C_seq (C_reg (p1 rfl <| p1 rfl (D_end (x_then (C_if _ rfl (fun h10 => ?_) (fun h10 => ?_)))))))))
    ·have pr10 : ((szm (szFiring r0) lf) : Int) < 0 := of_decide_eq_true h10
     refine C_seq (C_reg (p1 rfl (D_end (x_then (C_ret (x_blk_ret (x_then_ret (x_then_ret (x_blk_ret (x_then_ret (Ri rfl rfl ?_)))))))))))
     show ((-1) : Int) = _
     refine (szm_neg ?_).symm; unfold szL; unfold szm at *; split at * <;> omega
    ·have pr10 : ¬ ((szm (szFiring r0) lf) : Int) < 0 := of_decide_eq_false h10
     have pr10z := szm_val (n := (szFiring r0)) (left := lf) pr10
     refine C_skip (x_blk (x_then (C_reg (p1 rfl (q1 rfl (D_add rfl rfl rfl (r := ((k + 1 : Nat) : Int)) (by omega) (by omega)) (p1 rfl (D_end (x_then (fun ac w' hf hs => ⟨_, ?_, k + 1, (szm (szFiring r0) lf), ?_, ?_, rfl, hf.weak ⟨rfl, rfl, rfl, trivial⟩, hs⟩)))))))))
     ·omega
     ·first | assumption | omega | simp
     ·rw [hst]; unfold szm at *; split at * <;> omega
   ·have pr3 : ¬ (((k : Nat) : Int) : Int) < ((a.length : Nat) : Int) := of_decide_eq_false h3
    refine C_exit (x_then_exit (x_then_exit (x_blk_eq (x_then (C_seq (C_reg (p1 rfl <| p1 rfl (D_end (x_then (C_ret (Ri rfl rfl ?_)))))))))))
    show (lf : Int) = _
    rw [szm_pos]; all_goals (unfold szL; rw [List.take_of_length_le (by omega)] at hl; omega)

theorem laws_toFiringS (w : World) (v_a : Value) (a : (List Firing)) (h_a : Gd.rd w [v_a] a) (hn : szL szFiring a ≤ 1048576) : Calls Tryz.prog 21 [v_a].toArray w (Res w (a : List Firing)) := by
 have hm1 := rd_max h_a
 unfold szL at hn
 refine enter 23 Tryz.func21 rfl rfl rfl (C_seq (C_reg (p1 rfl (D_end (x_then (C_seq (C_reg (p1 rfl (q1 rfl (D_len s_24 rfl rfl (rd_sl h_a)) (li rfl (D_mkG (α := Firing) (z0 := z0_Firing) s_32 y_54 rfl rfl rfl rfl rfl rfl zz_Firing (by omega) (by omega) fun v2 => ?_)))))))))))
 refine p1 rfl (D_end (x_then (D_H ([ov [v2] (List.replicate a.length z0_Firing : (List Firing))]) rfl (C_seq (C_seq (C_reg (p1 rfl (D_end (x_then (C_block (C_loop (fun m_ ac w' => ∃ (k : Nat), ∃ (v : Value), (k ≤ a.length) ∧ m_ = a.length - k ∧ Fits ac 23 [(0, v_a), (3, v), (4, (.int .i64 ((k : Nat) : Int)))] ∧ St w ([ov [v] (cp a z0_Firing k : (List Firing))]) w') ?_ ?_)))))))))))
 ·refine D_eq 0 rfl (show (List.replicate a.length z0_Firing : (List Firing)) = cp a z0_Firing 0 from by rw [cp_zero]) (fun ac w' hf hs => ⟨_, 0, v2, ?_, rfl, hf.weak ⟨rfl, rfl, rfl, trivial⟩, hs⟩)
  ·first | assumption | omega | simp
 ·rintro m_ ac w' ⟨k, v, hk, rfl, hf, hs⟩
  refine D.use ?_ hf hs
  clear hf hs ac w'
  have hcl := cp_len a z0_Firing k hk
  refine C_seq (C_seq (C_reg (p1 rfl <| p1 rfl (q1 rfl (D_len s_24 rfl rfl (rd_sl h_a)) (p1 rfl (D_end (x_then (D_H ([ov [v] (cp a z0_Firing k : (List Firing))]) rfl (C_if _ rfl (fun h3 => ?_) (fun h3 => ?_))))))))))
  ·have pr3 : (((k : Nat) : Int) : Int) < ((a.length : Nat) : Int) := of_decide_eq_true h3
   refine C_skip (x_then (C_seq (C_block (C_reg (p1 rfl <| p1 rfl <| p1 rfl <| p1 rfl ?_)))))
   obtain ⟨x4, hx5⟩ := some_of_lt (l := a) (i := k) (by omega)
   have hle := sumC_mem (c := szFiring) (mem_idx hx5)
   obtain ⟨es6, at7, hr8⟩ := rd_elem (n := 2) rfl h_a hx5
   obtain ⟨u9, rfl, hu10⟩ := open_Firing hr8
   have hm11 := rd_max hu10
   refine q1 rfl (D_ix (l := a) (j := k) s_24 rfl rfl rfl (fun w' hs => (rd_at hs h_a)) rfl (lt_of_some hx5)) (q1 rfl (lra a_84 rfl rfl at7) (li rfl (crs rfl b_46 rfl rfl rfl rfl (fun w' hs => (laws_toFiring w' [(.string x4.Rule), u9] x4 (rd_at hs hr8) (by first | assumption | omega | (unfold szm at *; split at * <;> omega)))) fun cs12 => ?_)))
   refine D_pre (fun w' hs => shape_Firing (rd_own (k := 0) hs rfl)) ?_
   rintro ⟨v13, rfl, ho14⟩
   obtain ⟨x15, hx16⟩ := some_of_lt (l := (cp a z0_Firing k)) (i := k) (by omega)
   refine q1 rfl (D_ix (l := (cp a z0_Firing k)) (j := k) s_32 rfl rfl rfl (fun w' hs => (rd_own (k := 1) hs rfl)) rfl (lt_of_some hx16)) (D_pk (H' := [ov [v] (cp a z0_Firing k : (List Firing)), ov [(.string x4.Rule), v13] (x4 : Firing)]) [1, 0] rfl rfl (li rfl (soG (α := Firing) rfl z_54 rfl rfl rfl rfl rfl (lt_of_some hx16) ?_)))
   refine D_end (x_blk (x_then (D_H ([ov [v] ((cp a z0_Firing k).set k x4 : (List Firing))]) rfl (C_reg (p1 rfl (q1 rfl (D_add rfl rfl rfl (r := ((k + 1 : Nat) : Int)) (by omega) (by omega)) (p1 rfl (D_end (x_then (D_eq 0 rfl (show ((cp a z0_Firing k).set k x4 : (List Firing)) = cp a z0_Firing (k + 1) from by rw [cp_set (by assumption)]) (fun ac w' hf hs => ⟨_, ?_, k + 1, v, ?_, rfl, hf.weak ⟨rfl, rfl, rfl, trivial⟩, hs⟩)))))))))))
   ·omega
   ·first | assumption | omega | simp
  ·have pr3 : ¬ (((k : Nat) : Int) : Int) < ((a.length : Nat) : Int) := of_decide_eq_false h3
   refine C_exit (x_then_exit (x_then_exit (x_blk_eq (x_then (C_seq (C_reg (p1 rfl <| p1 rfl (D_end (x_then (C_ret (R_1 rfl rfl fun w' hs => res_of (k := 0) hs rfl ?_)))))))))))
   show cp a z0_Firing k = a
   exact cp_done (by omega)

theorem laws_eqFiringS (w : World) (v_a : Value) (a : (List Firing)) (v_b : Value) (b : (List Firing)) (h_a : Gd.rd w [v_a] a) (h_b : Gd.rd w [v_b] b) : Calls Tryz.prog 30 [v_a, v_b].toArray w (Val w (.bool (decide (a = b)))) := by
 have hm1 := rd_max h_a
 have hm2 := rd_max h_b
 refine enter 27 Tryz.func30 rfl rfl rfl (C_seq (C_reg (p1 rfl (D_end (x_then (C_seq (C_seq (C_reg (p1 rfl (q1 rfl (D_len s_32 rfl rfl (rd_sl h_a)) (p1 rfl ?_)))))))))))
 refine q1 rfl (D_len s_32 rfl rfl (rd_sl h_b)) (p1 rfl (D_end (x_then (C_if _ rfl (fun h3 => ?_) (fun h3 => ?_)))))
 ·have pr3 : (((a.length : Nat) : Int) : Int) ≠ ((b.length : Nat) : Int) := bne_iff_ne.1 h3
  refine C_seq (C_reg (p1 rfl (D_end (x_then (C_ret (x_then_ret (Rb rfl rfl ?_)))))))
  simp; intro e; subst e; simp_all
 ·have pr3 : (((a.length : Nat) : Int) : Int) = ((b.length : Nat) : Int) := eq_of_bne_f h3
  refine C_skip (x_then (C_seq (C_seq (C_reg (p1 rfl (D_end (x_then (C_block (C_loop (fun m_ ac w' => ∃ (k : Nat), (k ≤ a.length) ∧ (∀ i, i < k → a[i]? = b[i]?) ∧ m_ = a.length - k ∧ Fits ac 27 [(0, v_a), (1, v_b), (5, (.int .i64 ((k : Nat) : Int)))] ∧ St w ([]) w') ?_ ?_)))))))))
  ·refine fun ac w' hf hs => ⟨_, 0, ?_, ?_, rfl, hf.weak ⟨rfl, rfl, rfl, trivial⟩, hs⟩
   ·first | assumption | omega | simp
   ·intro i hi; omega
  ·rintro m_ ac w' ⟨k, hk, hi, rfl, hf, hs⟩
   refine D.use ?_ hf hs
   clear hf hs ac w'
   refine C_seq (C_seq (C_reg (p1 rfl <| p1 rfl (q1 rfl (D_len s_32 rfl rfl (rd_sl h_a)) (p1 rfl (D_end (x_then (C_if _ rfl (fun h4 => ?_) (fun h4 => ?_)))))))))
   ·have pr4 : (((k : Nat) : Int) : Int) < ((a.length : Nat) : Int) := of_decide_eq_true h4
    refine C_skip (x_then (C_seq (C_block (C_seq (C_draw mixed [8, 9] (by kernel_rfl) (tk 0 rfl (by kernel_rfl) (by kernel_rfl) (by kernel_rfl) rfl (fun _ hs => hs) (rp rfl) (tk 1 rfl (by kernel_rfl) (by kernel_rfl) (by kernel_rfl) rfl (fun _ hs => hs) (rp rfl) ?_)))))))
    obtain ⟨x5, hx6⟩ := some_of_lt (l := a) (i := k) (by omega)
    obtain ⟨es7, at8, hr9⟩ := rd_elem (n := 2) rfl h_a hx6
    obtain ⟨u10, rfl, hu11⟩ := open_Firing hr9
    have hm12 := rd_max hu11
    refine tk 2 rfl (by kernel_rfl) (by kernel_rfl) (by kernel_rfl) rfl (fun _ hs => hs) (D_ix (l := a) (j := k) s_32 rfl rfl rfl (fun w' hs => (rd_at hs h_a)) rfl (lt_of_some hx6)) (tk 3 rfl (by kernel_rfl) (by kernel_rfl) (by kernel_rfl) rfl (fun _ hs => hs) (lra a_54 rfl rfl at8) (tk 4 rfl (by kernel_rfl) (by kernel_rfl) (by kernel_rfl) rfl (fun _ hs => hs) (rp rfl) (tk 5 rfl (by kernel_rfl) (by kernel_rfl) (by kernel_rfl) rfl (fun _ hs => hs) (rp rfl) ?_)))
    obtain ⟨x13, hx14⟩ := some_of_lt (l := b) (i := k) (by omega)
    obtain ⟨es15, at16, hr17⟩ := rd_elem (n := 2) rfl h_b hx14
    obtain ⟨u18, rfl, hu19⟩ := open_Firing hr17
    have hm20 := rd_max hu19
    refine tk 6 rfl (by kernel_rfl) (by kernel_rfl) (by kernel_rfl) rfl (fun _ hs => hs) (D_ix (l := b) (j := k) s_32 rfl rfl rfl (fun w' hs => (rd_at hs h_b)) rfl (lt_of_some hx14)) (tk 7 rfl (by kernel_rfl) (by kernel_rfl) (by kernel_rfl) rfl (fun _ hs => hs) (lra a_54 rfl rfl at16) (ty 8 rfl (by kernel_rfl) rfl (cv b_57 rfl rfl rfl rfl (fun w' hs => (laws_eqFiring w' [(.string x5.Rule), u10] x5 [(.string x13.Rule), u18] x13 (rd_at hs hr9) (rd_at hs hr17))) ?_)))
    refine tZ rfl (ty 9 rfl (by kernel_rfl) rfl (sv rfl rfl (rp rfl) ?_))
    refine tZ rfl (tE (by kernel_rfl) (x_then (C_if _ rfl (fun h21 => ?_) (fun h21 => ?_))))
    ·have h21n : (decide (x5 = x13)) = false := not_t h21
     refine C_seq (C_reg (p1 rfl (D_end (x_then (C_ret (x_blk_ret (x_then_ret (x_then_ret (x_blk_ret (x_then_ret (Rb rfl rfl ?_)))))))))))
     simp; intro e; subst e; simp_all
    ·have h21n : (decide (x5 = x13)) = true := not_f h21
     refine C_skip (x_blk (x_then (C_reg (p1 rfl (q1 rfl (D_add rfl rfl rfl (r := ((k + 1 : Nat) : Int)) (by omega) (by omega)) (p1 rfl (D_end (x_then (fun ac w' hf hs => ⟨_, ?_, k + 1, ?_, ?_, rfl, hf.weak ⟨rfl, rfl, rfl, trivial⟩, hs⟩)))))))))
     ·omega
     ·first | assumption | omega | simp
     ·refine idx_step hi (by assumption) (by assumption) ?_; first | (simp_all; done) | (apply Fact.mk_eq <;> simp_all)
   ·have pr4 : ¬ (((k : Nat) : Int) : Int) < ((a.length : Nat) : Int) := of_decide_eq_false h4
    refine C_exit (x_then_exit (x_then_exit (x_blk_eq (x_then (C_seq (C_reg (p1 rfl (D_end (x_then (C_ret (Rb rfl rfl ?_)))))))))))
    simp; exact eq_of_idx (by omega) (fun i h => hi i (by omega))

theorem laws_szEventS (w : World) (v_a : Value) (a : (List Event)) (left : Int) (h_a : Gd.rd w [v_a] a) (h0 : 0 ≤ left) (h1 : left ≤ 1048576) (ho : okL okEv a) : Calls Tryz.prog 12 [v_a, (.int .i64 left)].toArray w (Val w (.int .i64 (szm (szL szEv a) left))) := by
 have hm1 := rd_max h_a
 refine enter 27 Tryz.func12 rfl rfl rfl (C_seq (C_reg (p1 rfl (D_end (x_then (C_seq (C_reg (p1 rfl <| p1 rfl (q1 rfl (D_len s_25 rfl rfl (rd_sl h_a)) (q1 rfl (D_sub rfl rfl rfl rfl (by omega)) (p1 rfl ?_)))))))))))
 refine D_end (x_then (C_seq (C_seq (C_reg (p1 rfl <| p1 rfl (D_end (x_then (C_if _ rfl (fun h2 => ?_) (fun h2 => ?_)))))))))
 ·have pr2 : ((left - ((a.length : Nat) : Int)) : Int) < 0 := of_decide_eq_true h2
  refine C_seq (C_reg (p1 rfl (D_end (x_then (C_ret (x_then_ret (Ri rfl rfl ?_)))))))
  show ((-1) : Int) = _
  refine (szm_neg ?_).symm; unfold szL; omega
 ·have pr2 : ¬ ((left - ((a.length : Nat) : Int)) : Int) < 0 := of_decide_eq_false h2
  refine C_skip (x_then (C_seq (C_seq (C_reg (p1 rfl (D_end (x_then (C_block (C_loop (fun m_ ac w' => ∃ (k : Nat), ∃ (lf : Int), (k ≤ a.length) ∧ (0 ≤ lf ∧ lf = left - a.length - sumC szEv (a.take k)) ∧ m_ = a.length - k ∧ Fits ac 27 [(0, v_a), (1, (.int .i64 lf)), (5, (.int .i64 ((k : Nat) : Int)))] ∧ St w ([]) w') ?_ ?_)))))))))
  ·refine fun ac w' hf hs => ⟨_, 0, (left - ((a.length : Nat) : Int)), ?_, ?_, rfl, hf.weak ⟨rfl, rfl, rfl, trivial⟩, hs⟩
   ·first | assumption | omega | simp
   ·simp [sumC]; omega
  ·rintro m_ ac w' ⟨k, lf, hk, hl, rfl, hf, hs⟩
   refine D.use ?_ hf hs
   clear hf hs ac w'
   have ht := sumC_take_le a szEv k
   refine C_seq (C_seq (C_reg (p1 rfl <| p1 rfl (q1 rfl (D_len s_25 rfl rfl (rd_sl h_a)) (p1 rfl (D_end (x_then (C_if _ rfl (fun h3 => ?_) (fun h3 => ?_)))))))))
   ·have pr3 : (((k : Nat) : Int) : Int) < ((a.length : Nat) : Int) := of_decide_eq_true h3
    refine C_skip (x_then (C_seq (C_block (C_seq (C_reg (p1 rfl <| p1 rfl ?_))))))
    obtain ⟨r0, hr0⟩ := some_of_lt (l := a) (i := k) (by omega)
    have hro := ho _ (List.mem_of_getElem? hr0)
    have ht1 := sumC_take_le a szEv (k + 1)
    have hst := sumC_take (c := szEv) hr0
    obtain ⟨es4, at5, hr6⟩ := rd_elem (n := 4) rfl h_a hr0
    obtain ⟨u7, rfl, hu8⟩ := open_Event hr6
    have hm9 := rd_max hu8
    have hb10 := sub_Event_Fact hr6
    refine q1 rfl (D_ix (l := a) (j := k) s_25 rfl rfl rfl (fun w' hs => (rd_at hs h_a)) rfl (lt_of_some hr0)) (q1 rfl (lra a_87 rfl rfl at5) (p1 rfl (li rfl (cv b_35 rfl rfl rfl rfl (fun w' hs => (laws_szEvent w' [(.int .i64 r0.Kind), (.string r0.Rule), (.string r0.Fact.Rel), u7] r0 lf (rd_at hs hr6) (by first | assumption | omega | (unfold szm at *; split at * <;> omega)) (by first | assumption | omega | (unfold szm at *; split at * <;> omega)) hro)) ?_))))
    refine p1 rfl (D_end (x_then (C_seq (C_reg (p1 rfl <| p1 rfl (D_end (x_then (C_if _ rfl (fun h11 => ?_) (fun h11 => ?_)))))))))
    ·have pr11 : ((szm (szEv r0) lf) : Int) < 0 := of_decide_eq_true h11
     refine C_seq (C_reg (p1 rfl (D_end (x_then (C_ret (x_blk_ret (x_then_ret (x_then_ret (x_blk_ret (x_then_ret (Ri rfl rfl ?_)))))))))))
     show ((-1) : Int) = _
     refine (szm_neg ?_).symm; unfold szL; unfold szm at *; split at * <;> omega
    ·have pr11 : ¬ ((szm (szEv r0) lf) : Int) < 0 := of_decide_eq_false h11
     have pr11z := szm_val (n := (szEv r0)) (left := lf) pr11
     refine C_skip (x_blk (x_then (C_reg (p1 rfl (q1 rfl (D_add rfl rfl rfl (r := ((k + 1 : Nat) : Int)) (by omega) (by omega)) (p1 rfl (D_end (x_then (fun ac w' hf hs => ⟨_, ?_, k + 1, (szm (szEv r0) lf), ?_, ?_, rfl, hf.weak ⟨rfl, rfl, rfl, trivial⟩, hs⟩)))))))))
     ·omega
     ·first | assumption | omega | simp
     ·rw [hst]; unfold szm at *; split at * <;> omega
   ·have pr3 : ¬ (((k : Nat) : Int) : Int) < ((a.length : Nat) : Int) := of_decide_eq_false h3
    refine C_exit (x_then_exit (x_then_exit (x_blk_eq (x_then (C_seq (C_reg (p1 rfl <| p1 rfl (D_end (x_then (C_ret (Ri rfl rfl ?_)))))))))))
    show (lf : Int) = _
    rw [szm_pos]; all_goals (unfold szL; rw [List.take_of_length_le (by omega)] at hl; omega)

theorem laws_toEventS (w : World) (v_a : Value) (a : (List Event)) (h_a : Gd.rd w [v_a] a) (hn : szL szEv a ≤ 1048576) : Calls Tryz.prog 22 [v_a].toArray w (Res w (a : List Event)) := by
 have hm1 := rd_max h_a
 unfold szL at hn
 refine enter 23 Tryz.func22 rfl rfl rfl (C_seq (C_reg (p1 rfl (D_end (x_then (C_seq (C_reg (p1 rfl (q1 rfl (D_len s_25 rfl rfl (rd_sl h_a)) (li rfl (D_mkG (α := Event) (z0 := z0_Event) s_33 y_64 rfl rfl rfl rfl rfl rfl zz_Event (by omega) (by omega) fun v2 => ?_)))))))))))
 refine p1 rfl (D_end (x_then (D_H ([ov [v2] (List.replicate a.length z0_Event : (List Event))]) rfl (C_seq (C_seq (C_reg (p1 rfl (D_end (x_then (C_block (C_loop (fun m_ ac w' => ∃ (k : Nat), ∃ (v : Value), (k ≤ a.length) ∧ m_ = a.length - k ∧ Fits ac 23 [(0, v_a), (3, v), (4, (.int .i64 ((k : Nat) : Int)))] ∧ St w ([ov [v] (cp a z0_Event k : (List Event))]) w') ?_ ?_)))))))))))
 ·refine D_eq 0 rfl (show (List.replicate a.length z0_Event : (List Event)) = cp a z0_Event 0 from by rw [cp_zero]) (fun ac w' hf hs => ⟨_, 0, v2, ?_, rfl, hf.weak ⟨rfl, rfl, rfl, trivial⟩, hs⟩)
  ·first | assumption | omega | simp
 ·rintro m_ ac w' ⟨k, v, hk, rfl, hf, hs⟩
  refine D.use ?_ hf hs
  clear hf hs ac w'
  have hcl := cp_len a z0_Event k hk
  refine C_seq (C_seq (C_reg (p1 rfl <| p1 rfl (q1 rfl (D_len s_25 rfl rfl (rd_sl h_a)) (p1 rfl (D_end (x_then (D_H ([ov [v] (cp a z0_Event k : (List Event))]) rfl (C_if _ rfl (fun h3 => ?_) (fun h3 => ?_))))))))))
  ·have pr3 : (((k : Nat) : Int) : Int) < ((a.length : Nat) : Int) := of_decide_eq_true h3
   refine C_skip (x_then (C_seq (C_block (C_reg (p1 rfl <| p1 rfl <| p1 rfl <| p1 rfl ?_)))))
   obtain ⟨x4, hx5⟩ := some_of_lt (l := a) (i := k) (by omega)
   have hle := sumC_mem (c := szEv) (mem_idx hx5)
   obtain ⟨es6, at7, hr8⟩ := rd_elem (n := 4) rfl h_a hx5
   obtain ⟨u9, rfl, hu10⟩ := open_Event hr8
   have hm11 := rd_max hu10
   have hb12 := sub_Event_Fact hr8
   refine q1 rfl (D_ix (l := a) (j := k) s_25 rfl rfl rfl (fun w' hs => (rd_at hs h_a)) rfl (lt_of_some hx5)) (q1 rfl (lra a_87 rfl rfl at7) (li rfl (crs rfl b_47 rfl rfl rfl rfl (fun w' hs => (laws_toEvent w' [(.int .i64 x4.Kind), (.string x4.Rule), (.string x4.Fact.Rel), u9] x4 (rd_at hs hr8) (by first | assumption | omega | (unfold szm at *; split at * <;> omega)))) fun cs13 => ?_)))
   refine D_pre (fun w' hs => shape_Event (rd_own (k := 0) hs rfl)) ?_
   rintro ⟨v14, rfl, ho15⟩
   obtain ⟨x16, hx17⟩ := some_of_lt (l := (cp a z0_Event k)) (i := k) (by omega)
   refine q1 rfl (D_ix (l := (cp a z0_Event k)) (j := k) s_33 rfl rfl rfl (fun w' hs => (rd_own (k := 1) hs rfl)) rfl (lt_of_some hx17)) (D_pk (H' := [ov [v] (cp a z0_Event k : (List Event)), ov [(.int .i64 x4.Kind), (.string x4.Rule), (.string x4.Fact.Rel), v14] (x4 : Event)]) [1, 0] rfl rfl (li rfl (soG (α := Event) rfl z_64 rfl rfl rfl rfl rfl (lt_of_some hx17) ?_)))
   refine D_end (x_blk (x_then (D_H ([ov [v] ((cp a z0_Event k).set k x4 : (List Event))]) rfl (C_reg (p1 rfl (q1 rfl (D_add rfl rfl rfl (r := ((k + 1 : Nat) : Int)) (by omega) (by omega)) (p1 rfl (D_end (x_then (D_eq 0 rfl (show ((cp a z0_Event k).set k x4 : (List Event)) = cp a z0_Event (k + 1) from by rw [cp_set (by assumption)]) (fun ac w' hf hs => ⟨_, ?_, k + 1, v, ?_, rfl, hf.weak ⟨rfl, rfl, rfl, trivial⟩, hs⟩)))))))))))
   ·omega
   ·first | assumption | omega | simp
  ·have pr3 : ¬ (((k : Nat) : Int) : Int) < ((a.length : Nat) : Int) := of_decide_eq_false h3
   refine C_exit (x_then_exit (x_then_exit (x_blk_eq (x_then (C_seq (C_reg (p1 rfl <| p1 rfl (D_end (x_then (C_ret (R_1 rfl rfl fun w' hs => res_of (k := 0) hs rfl ?_)))))))))))
   show cp a z0_Event k = a
   exact cp_done (by omega)

theorem laws_eqEventS (w : World) (v_a : Value) (a : (List Event)) (v_b : Value) (b : (List Event)) (h_a : Gd.rd w [v_a] a) (h_b : Gd.rd w [v_b] b) : Calls Tryz.prog 31 [v_a, v_b].toArray w (Val w (.bool (decide (a = b)))) := by
 have hm1 := rd_max h_a
 have hm2 := rd_max h_b
 refine enter 27 Tryz.func31 rfl rfl rfl (C_seq (C_reg (p1 rfl (D_end (x_then (C_seq (C_seq (C_reg (p1 rfl (q1 rfl (D_len s_33 rfl rfl (rd_sl h_a)) (p1 rfl ?_)))))))))))
 refine q1 rfl (D_len s_33 rfl rfl (rd_sl h_b)) (p1 rfl (D_end (x_then (C_if _ rfl (fun h3 => ?_) (fun h3 => ?_)))))
 ·have pr3 : (((a.length : Nat) : Int) : Int) ≠ ((b.length : Nat) : Int) := bne_iff_ne.1 h3
  refine C_seq (C_reg (p1 rfl (D_end (x_then (C_ret (x_then_ret (Rb rfl rfl ?_)))))))
  simp; intro e; subst e; simp_all
 ·have pr3 : (((a.length : Nat) : Int) : Int) = ((b.length : Nat) : Int) := eq_of_bne_f h3
  refine C_skip (x_then (C_seq (C_seq (C_reg (p1 rfl (D_end (x_then (C_block (C_loop (fun m_ ac w' => ∃ (k : Nat), (k ≤ a.length) ∧ (∀ i, i < k → a[i]? = b[i]?) ∧ m_ = a.length - k ∧ Fits ac 27 [(0, v_a), (1, v_b), (5, (.int .i64 ((k : Nat) : Int)))] ∧ St w ([]) w') ?_ ?_)))))))))
  ·refine fun ac w' hf hs => ⟨_, 0, ?_, ?_, rfl, hf.weak ⟨rfl, rfl, rfl, trivial⟩, hs⟩
   ·first | assumption | omega | simp
   ·intro i hi; omega
  ·rintro m_ ac w' ⟨k, hk, hi, rfl, hf, hs⟩
   refine D.use ?_ hf hs
   clear hf hs ac w'
   refine C_seq (C_seq (C_reg (p1 rfl <| p1 rfl (q1 rfl (D_len s_33 rfl rfl (rd_sl h_a)) (p1 rfl (D_end (x_then (C_if _ rfl (fun h4 => ?_) (fun h4 => ?_)))))))))
   ·have pr4 : (((k : Nat) : Int) : Int) < ((a.length : Nat) : Int) := of_decide_eq_true h4
    refine C_skip (x_then (C_seq (C_block (C_seq (C_draw mixed [8, 9] (by kernel_rfl) (tk 0 rfl (by kernel_rfl) (by kernel_rfl) (by kernel_rfl) rfl (fun _ hs => hs) (rp rfl) (tk 1 rfl (by kernel_rfl) (by kernel_rfl) (by kernel_rfl) rfl (fun _ hs => hs) (rp rfl) ?_)))))))
    obtain ⟨x5, hx6⟩ := some_of_lt (l := a) (i := k) (by omega)
    obtain ⟨es7, at8, hr9⟩ := rd_elem (n := 4) rfl h_a hx6
    obtain ⟨u10, rfl, hu11⟩ := open_Event hr9
    have hm12 := rd_max hu11
    have hb13 := sub_Event_Fact hr9
    refine tk 2 rfl (by kernel_rfl) (by kernel_rfl) (by kernel_rfl) rfl (fun _ hs => hs) (D_ix (l := a) (j := k) s_33 rfl rfl rfl (fun w' hs => (rd_at hs h_a)) rfl (lt_of_some hx6)) (tk 3 rfl (by kernel_rfl) (by kernel_rfl) (by kernel_rfl) rfl (fun _ hs => hs) (lra a_64 rfl rfl at8) (tk 4 rfl (by kernel_rfl) (by kernel_rfl) (by kernel_rfl) rfl (fun _ hs => hs) (rp rfl) (tk 5 rfl (by kernel_rfl) (by kernel_rfl) (by kernel_rfl) rfl (fun _ hs => hs) (rp rfl) ?_)))
    obtain ⟨x14, hx15⟩ := some_of_lt (l := b) (i := k) (by omega)
    obtain ⟨es16, at17, hr18⟩ := rd_elem (n := 4) rfl h_b hx15
    obtain ⟨u19, rfl, hu20⟩ := open_Event hr18
    have hm21 := rd_max hu20
    have hb22 := sub_Event_Fact hr18
    refine tk 6 rfl (by kernel_rfl) (by kernel_rfl) (by kernel_rfl) rfl (fun _ hs => hs) (D_ix (l := b) (j := k) s_33 rfl rfl rfl (fun w' hs => (rd_at hs h_b)) rfl (lt_of_some hx15)) (tk 7 rfl (by kernel_rfl) (by kernel_rfl) (by kernel_rfl) rfl (fun _ hs => hs) (lra a_64 rfl rfl at17) (ty 8 rfl (by kernel_rfl) rfl (cv b_58 rfl rfl rfl rfl (fun w' hs => (laws_eqEvent w' [(.int .i64 x5.Kind), (.string x5.Rule), (.string x5.Fact.Rel), u10] x5 [(.int .i64 x14.Kind), (.string x14.Rule), (.string x14.Fact.Rel), u19] x14 (rd_at hs hr9) (rd_at hs hr18))) ?_)))
    refine tZ rfl (ty 9 rfl (by kernel_rfl) rfl (sv rfl rfl (rp rfl) ?_))
    refine tZ rfl (tE (by kernel_rfl) (x_then (C_if _ rfl (fun h23 => ?_) (fun h23 => ?_))))
    ·have h23n : (decide (x5 = x14)) = false := not_t h23
     refine C_seq (C_reg (p1 rfl (D_end (x_then (C_ret (x_blk_ret (x_then_ret (x_then_ret (x_blk_ret (x_then_ret (Rb rfl rfl ?_)))))))))))
     simp; intro e; subst e; simp_all
    ·have h23n : (decide (x5 = x14)) = true := not_f h23
     refine C_skip (x_blk (x_then (C_reg (p1 rfl (q1 rfl (D_add rfl rfl rfl (r := ((k + 1 : Nat) : Int)) (by omega) (by omega)) (p1 rfl (D_end (x_then (fun ac w' hf hs => ⟨_, ?_, k + 1, ?_, ?_, rfl, hf.weak ⟨rfl, rfl, rfl, trivial⟩, hs⟩)))))))))
     ·omega
     ·first | assumption | omega | simp
     ·refine idx_step hi (by assumption) (by assumption) ?_; first | (simp_all; done) | (apply Fact.mk_eq <;> simp_all)
   ·have pr4 : ¬ (((k : Nat) : Int) : Int) < ((a.length : Nat) : Int) := of_decide_eq_false h4
    refine C_exit (x_then_exit (x_then_exit (x_blk_eq (x_then (C_seq (C_reg (p1 rfl (D_end (x_then (C_ret (Rb rfl rfl ?_)))))))))))
    simp; exact eq_of_idx (by omega) (fun i h => hi i (by omega))

theorem laws_szEngine (w : World) (c_a : List Value) (a : Engine) (left : Int) (h_a : Gd.rd w c_a a) (h0 : 0 ≤ left) (h1 : left ≤ 1048576) (ho : okEngine a) : Calls Tryz.prog 4 [(.agg c_a.toArray), (.int .i64 left)].toArray w (Val w (.int .i64 (szm (szEngine a) left))) := by
 obtain ⟨u1, u3, u5, u7, rfl, hu2, hu4, hu6, hu8⟩ := open_Engine h_a
 have hm9 := rd_max hu2
 have hm10 := rd_max hu4
 have hm11 := rd_max hu6
 have hm12 := rd_max hu8
 refine enter 30 Tryz.func4 rfl rfl rfl (C_seq (C_reg (li rfl (D_box rfl rfl rfl rfl rfl fun g13 => ?_))))
 refine p1 rfl (D_end (x_then (D_H ([bx g13 [u1, u3, (.int .i64 a.Clock), u5, (.bool a.Halted), u7]]) rfl (C_seq (C_reg (q1 rfl (D_fb f_27_0 rfl rfl (q := 0) rfl) (q1 rfl (lb 0 o_22 rfl rfl rfl rfl) (p1 rfl (li rfl (cv b_9 rfl rfl rfl rfl (fun w' hs => (laws_szRuleS w' u1 a.Rules left (rd_at hs hu2) (by first | assumption | omega | (unfold szm at *; split at * <;> omega)) (by first | assumption | omega | (unfold szm at *; split at * <;> omega)) ho.1)) ?_))))))))))
 refine p1 rfl (D_end (x_then (C_seq (C_seq (C_reg (p1 rfl <| p1 rfl (D_end (x_then (C_if _ rfl (fun h14 => ?_) (fun h14 => ?_))))))))))
 ·have pr14 : ((szm (szL szRule a.Rules) left) : Int) < 0 := of_decide_eq_true h14
  refine C_seq (C_reg (p1 rfl (D_end (x_then (C_ret (x_then_ret (Ri rfl rfl ?_)))))))
  show ((-1) : Int) = _
  unfold szEngine szm at *; repeat (split at * <;> try omega)
 ·have pr14 : ¬ ((szm (szL szRule a.Rules) left) : Int) < 0 := of_decide_eq_false h14
  have pr14z := szm_val (n := (szL szRule a.Rules)) (left := left) pr14
  refine C_skip (x_then (C_seq (C_reg (q1 rfl (D_fb f_27_1 rfl rfl (q := 1) rfl) (q1 rfl (lb 0 o_23 rfl rfl rfl rfl) (p1 rfl (li rfl (cv b_10 rfl rfl rfl rfl (fun w' hs => (laws_szStampS w' u3 a.Memory (szm (szL szRule a.Rules) left) (rd_at hs hu4) (by first | assumption | omega | (unfold szm at *; split at * <;> omega)) (by first | assumption | omega | (unfold szm at *; split at * <;> omega)) ho.2.1)) ?_))))))))
  refine p1 rfl (D_end (x_then (C_seq (C_seq (C_reg (p1 rfl <| p1 rfl (D_end (x_then (C_if _ rfl (fun h15 => ?_) (fun h15 => ?_))))))))))
  ·have pr15 : ((szm (szL szStamp a.Memory) (szm (szL szRule a.Rules) left)) : Int) < 0 := of_decide_eq_true h15
   refine C_seq (C_reg (p1 rfl (D_end (x_then (C_ret (x_then_ret (Ri rfl rfl ?_)))))))
   show ((-1) : Int) = _
   unfold szEngine szm at *; repeat (split at * <;> try omega)
  ·have pr15 : ¬ ((szm (szL szStamp a.Memory) (szm (szL szRule a.Rules) left)) : Int) < 0 := of_decide_eq_false h15
   have pr15z := szm_val (n := (szL szStamp a.Memory)) (left := (szm (szL szRule a.Rules) left)) pr15
   refine C_skip (x_then (C_seq (C_reg (q1 rfl (D_fb f_27_3 rfl rfl (q := 3) rfl) (q1 rfl (lb 0 o_24 rfl rfl rfl rfl) (p1 rfl (li rfl (cv b_11 rfl rfl rfl rfl (fun w' hs => (laws_szFiringS w' u5 a.Fired (szm (szL szStamp a.Memory) (szm (szL szRule a.Rules) left)) (rd_at hs hu6) (by first | assumption | omega | (unfold szm at *; split at * <;> omega)) (by first | assumption | omega | (unfold szm at *; split at * <;> omega)) ho.2.2.2.1)) ?_))))))))
   refine p1 rfl (D_end (x_then (D_weak [(1, (.int .i64 (szm (szL szFiring a.Fired) (szm (szL szStamp a.Memory) (szm (szL szRule a.Rules) left))))), (2, (.pointer (some ⟨g13, 0, none⟩)))] ⟨rfl, rfl, trivial⟩ (C_seq (C_seq (C_reg (p1 rfl <| p1 rfl (D_end (x_then (C_if _ rfl (fun h16 => ?_) (fun h16 => ?_)))))))))))
   ·have pr16 : ((szm (szL szFiring a.Fired) (szm (szL szStamp a.Memory) (szm (szL szRule a.Rules) left))) : Int) < 0 := of_decide_eq_true h16
    refine C_seq (C_reg (p1 rfl (D_end (x_then (C_ret (x_then_ret (Ri rfl rfl ?_)))))))
    show ((-1) : Int) = _
    unfold szEngine szm at *; repeat (split at * <;> try omega)
   ·have pr16 : ¬ ((szm (szL szFiring a.Fired) (szm (szL szStamp a.Memory) (szm (szL szRule a.Rules) left))) : Int) < 0 := of_decide_eq_false h16
    have pr16z := szm_val (n := (szL szFiring a.Fired)) (left := (szm (szL szStamp a.Memory) (szm (szL szRule a.Rules) left))) pr16
    refine C_skip (x_then (C_seq (C_reg (q1 rfl (D_fb f_27_5 rfl rfl (q := 5) rfl) (q1 rfl (lb 0 o_25 rfl rfl rfl rfl) (p1 rfl (li rfl (cv b_12 rfl rfl rfl rfl (fun w' hs => (laws_szEventS w' u7 a.Log (szm (szL szFiring a.Fired) (szm (szL szStamp a.Memory) (szm (szL szRule a.Rules) left))) (rd_at hs hu8) (by first | assumption | omega | (unfold szm at *; split at * <;> omega)) (by first | assumption | omega | (unfold szm at *; split at * <;> omega)) ho.2.2.2.2.2)) ?_))))))))
    refine p1 rfl (D_end (x_then (C_seq (C_seq (C_reg (p1 rfl <| p1 rfl (D_end (x_then (C_if _ rfl (fun h17 => ?_) (fun h17 => ?_))))))))))
    ·have pr17 : ((szm (szL szEv a.Log) (szm (szL szFiring a.Fired) (szm (szL szStamp a.Memory) (szm (szL szRule a.Rules) left)))) : Int) < 0 := of_decide_eq_true h17
     refine C_seq (C_reg (p1 rfl (D_end (x_then (C_ret (x_then_ret (Ri rfl rfl ?_)))))))
     show ((-1) : Int) = _
     unfold szEngine szm at *; repeat (split at * <;> try omega)
    ·have pr17 : ¬ ((szm (szL szEv a.Log) (szm (szL szFiring a.Fired) (szm (szL szStamp a.Memory) (szm (szL szRule a.Rules) left)))) : Int) < 0 := of_decide_eq_false h17
     have pr17z := szm_val (n := (szL szEv a.Log)) (left := (szm (szL szFiring a.Fired) (szm (szL szStamp a.Memory) (szm (szL szRule a.Rules) left)))) pr17
     refine C_skip (x_then (C_seq (C_reg (p1 rfl <| p1 rfl (D_end (x_then (C_ret (Ri rfl rfl ?_))))))))
     show ((szm (szL szEv a.Log) (szm (szL szFiring a.Fired) (szm (szL szStamp a.Memory) (szm (szL szRule a.Rules) left)))) : Int) = _
     unfold szEngine szm at *; repeat (split at * <;> try omega)

theorem laws_toEngine (w : World) (c_a : List Value) (a : Engine) (h_a : Gd.rd w c_a a) (hn : szEngine a ≤ 1048576) : Calls Tryz.prog 6 [(.agg c_a.toArray)].toArray w (Res w (a : Engine)) := by
 obtain ⟨u1, u3, u5, u7, rfl, hu2, hu4, hu6, hu8⟩ := open_Engine h_a
 have hm9 := rd_max hu2
 have hm10 := rd_max hu4
 have hm11 := rd_max hu6
 have hm12 := rd_max hu8
 unfold szEngine at hn
 refine enter 27 Tryz.func6 rfl rfl rfl (C_seq (C_reg (li rfl (D_box rfl rfl rfl rfl rfl fun g13 => ?_))))
 refine li rfl (D_alloc y_35 rfl rfl rfl rfl fun g14 => ?_)
 refine D_end (x_then (D_H ([bx g14 [(.slice none 0 0), (.slice none 0 0), (.int .i64 0), (.slice none 0 0), (.bool false), (.slice none 0 0)], bx g13 [u1, u3, (.int .i64 a.Clock), u5, (.bool a.Halted), u7]]) rfl (C_seq (C_reg (li rfl (D_alloc y_35 rfl rfl rfl rfl fun g15 => ?_))))))
 refine D_end (x_then (D_H ([bx g15 [(.slice none 0 0), (.slice none 0 0), (.int .i64 0), (.slice none 0 0), (.bool false), (.slice none 0 0)], bx g14 [(.slice none 0 0), (.slice none 0 0), (.int .i64 0), (.slice none 0 0), (.bool false), (.slice none 0 0)], bx g13 [u1, u3, (.int .i64 a.Clock), u5, (.bool a.Halted), u7]]) rfl (C_seq (C_reg (q1 rfl (D_fb f_27_0 rfl rfl (q := 0) rfl) (q1 rfl (lb 2 o_22 rfl rfl rfl rfl) (li rfl (crl b_19 rfl rfl rfl rfl (fun w' hs => (laws_toRuleS w' u1 a.Rules (rd_at hs hu2) (by first | assumption | omega | (unfold szm at *; split at * <;> omega)))) fun v16 => ?_))))))))
 refine q1 rfl (D_fb f_35_0 rfl rfl (q := 0) rfl) (D_pre (fun w' hs => one_own (k := 0) hs rfl) ?_)
 intro ho17
 refine li rfl (D_stb (vs := [v16]) (cs' := [v16, (.slice none 0 0), (.int .i64 0), (.slice none 0 0), (.bool false), (.slice none 0 0)]) 1 z_30 rfl rfl rfl rfl rfl (cells_of_one ho17) (ocons ho17 onil) (by simp) rfl ?_)
 refine D_end (x_then (D_H ([ov [v16] (a.Rules : (List Rule)), bx g15 [v16, (.slice none 0 0), (.int .i64 0), (.slice none 0 0), (.bool false), (.slice none 0 0)], bx g14 [(.slice none 0 0), (.slice none 0 0), (.int .i64 0), (.slice none 0 0), (.bool false), (.slice none 0 0)], bx g13 [u1, u3, (.int .i64 a.Clock), u5, (.bool a.Halted), u7]]) rfl (C_seq (C_reg (q1 rfl (D_fb f_27_1 rfl rfl (q := 1) rfl) (q1 rfl (lb 3 o_23 rfl rfl rfl rfl) (li rfl (crl b_20 rfl rfl rfl rfl (fun w' hs => (laws_toStampS w' u3 a.Memory (rd_at hs hu4) (by first | assumption | omega | (unfold szm at *; split at * <;> omega)))) fun v18 => ?_))))))))
 refine q1 rfl (D_fb f_35_1 rfl rfl (q := 1) rfl) (D_pre (fun w' hs => one_own (k := 0) hs rfl) ?_)
 intro ho19
 refine li rfl (D_stb (vs := [v18]) (cs' := [v16, v18, (.int .i64 0), (.slice none 0 0), (.bool false), (.slice none 0 0)]) 2 z_31 rfl rfl rfl rfl rfl (cells_of_one ho19) (ocons ho19 onil) (by simp) rfl ?_)
 refine D_end (x_then (D_H ([ov [v18] (a.Memory : (List Stamp)), ov [v16] (a.Rules : (List Rule)), bx g15 [v16, v18, (.int .i64 0), (.slice none 0 0), (.bool false), (.slice none 0 0)], bx g14 [(.slice none 0 0), (.slice none 0 0), (.int .i64 0), (.slice none 0 0), (.bool false), (.slice none 0 0)], bx g13 [u1, u3, (.int .i64 a.Clock), u5, (.bool a.Halted), u7]]) rfl (C_seq (C_reg (q1 rfl (D_fb f_27_2 rfl rfl (q := 2) rfl) (q1 rfl (lb 4 o_3 rfl rfl rfl rfl) (q1 rfl (D_fb f_35_2 rfl rfl (q := 2) rfl) (li rfl (D_stb (vs := [(.int .i64 a.Clock)]) (cs' := [v16, v18, (.int .i64 a.Clock), (.slice none 0 0), (.bool false), (.slice none 0 0)]) 2 z_3 rfl rfl rfl rfl rfl rfl (ocons rfl onil) (by simp) rfl ?_)))))))))
 refine D_end (x_then (D_H ([ov [v18] (a.Memory : (List Stamp)), ov [v16] (a.Rules : (List Rule)), bx g15 [v16, v18, (.int .i64 a.Clock), (.slice none 0 0), (.bool false), (.slice none 0 0)], bx g14 [(.slice none 0 0), (.slice none 0 0), (.int .i64 0), (.slice none 0 0), (.bool false), (.slice none 0 0)], bx g13 [u1, u3, (.int .i64 a.Clock), u5, (.bool a.Halted), u7]]) rfl (C_seq (C_reg (q1 rfl (D_fb f_27_3 rfl rfl (q := 3) rfl) (q1 rfl (lb 4 o_24 rfl rfl rfl rfl) (li rfl (crl b_21 rfl rfl rfl rfl (fun w' hs => (laws_toFiringS w' u5 a.Fired (rd_at hs hu6) (by first | assumption | omega | (unfold szm at *; split at * <;> omega)))) fun v20 => ?_))))))))
 refine q1 rfl (D_fb f_35_3 rfl rfl (q := 3) rfl) (D_pre (fun w' hs => one_own (k := 0) hs rfl) ?_)
 intro ho21
 refine li rfl (D_stb (vs := [v20]) (cs' := [v16, v18, (.int .i64 a.Clock), v20, (.bool false), (.slice none 0 0)]) 3 z_32 rfl rfl rfl rfl rfl (cells_of_one ho21) (ocons ho21 onil) (by simp) rfl ?_)
 refine D_end (x_then (D_weak [(1, (.pointer (some ⟨g13, 0, none⟩))), (2, (.pointer (some ⟨g14, 0, none⟩))), (3, (.pointer (some ⟨g15, 0, none⟩)))] ⟨rfl, rfl, rfl, trivial⟩ (D_H ([ov [v20] (a.Fired : (List Firing)), ov [v18] (a.Memory : (List Stamp)), ov [v16] (a.Rules : (List Rule)), bx g15 [v16, v18, (.int .i64 a.Clock), v20, (.bool false), (.slice none 0 0)], bx g14 [(.slice none 0 0), (.slice none 0 0), (.int .i64 0), (.slice none 0 0), (.bool false), (.slice none 0 0)], bx g13 [u1, u3, (.int .i64 a.Clock), u5, (.bool a.Halted), u7]]) rfl (C_seq (C_reg (q1 rfl (D_fb f_27_4 rfl rfl (q := 4) rfl) (q1 rfl (lb 5 o_4 rfl rfl rfl rfl) (q1 rfl (D_fb f_35_4 rfl rfl (q := 4) rfl) (li rfl (D_stb (vs := [(.bool a.Halted)]) (cs' := [v16, v18, (.int .i64 a.Clock), v20, (.bool a.Halted), (.slice none 0 0)]) 3 z_4 rfl rfl rfl rfl rfl rfl (ocons rfl onil) (by simp) rfl ?_))))))))))
 refine D_end (x_then (D_H ([ov [v20] (a.Fired : (List Firing)), ov [v18] (a.Memory : (List Stamp)), ov [v16] (a.Rules : (List Rule)), bx g15 [v16, v18, (.int .i64 a.Clock), v20, (.bool a.Halted), (.slice none 0 0)], bx g14 [(.slice none 0 0), (.slice none 0 0), (.int .i64 0), (.slice none 0 0), (.bool false), (.slice none 0 0)], bx g13 [u1, u3, (.int .i64 a.Clock), u5, (.bool a.Halted), u7]]) rfl (C_seq (C_reg (q1 rfl (D_fb f_27_5 rfl rfl (q := 5) rfl) (q1 rfl (lb 5 o_25 rfl rfl rfl rfl) (li rfl (crl b_22 rfl rfl rfl rfl (fun w' hs => (laws_toEventS w' u7 a.Log (rd_at hs hu8) (by first | assumption | omega | (unfold szm at *; split at * <;> omega)))) fun v22 => ?_))))))))
 refine q1 rfl (D_fb f_35_5 rfl rfl (q := 5) rfl) (D_pre (fun w' hs => one_own (k := 0) hs rfl) ?_)
 intro ho23
 refine li rfl (D_stb (vs := [v22]) (cs' := [v16, v18, (.int .i64 a.Clock), v20, (.bool a.Halted), v22]) 4 z_33 rfl rfl rfl rfl rfl (cells_of_one ho23) (ocons ho23 onil) (by simp) rfl ?_)
 refine D_end (x_then (D_H ([ov [v22] (a.Log : (List Event)), ov [v20] (a.Fired : (List Firing)), ov [v18] (a.Memory : (List Stamp)), ov [v16] (a.Rules : (List Rule)), bx g15 [v16, v18, (.int .i64 a.Clock), v20, (.bool a.Halted), v22], bx g14 [(.slice none 0 0), (.slice none 0 0), (.int .i64 0), (.slice none 0 0), (.bool false), (.slice none 0 0)], bx g13 [u1, u3, (.int .i64 a.Clock), u5, (.bool a.Halted), u7]]) rfl (C_seq (C_reg (q1 rfl (lbw 4 a_35 rfl rfl rfl) (li rfl (D_stb (vs := [v16, v18, (.int .i64 a.Clock), v20, (.bool a.Halted), v22]) (cs' := [v16, v18, (.int .i64 a.Clock), v20, (.bool a.Halted), v22]) 5 z_35 rfl rfl rfl rfl rfl rfl (ocons ho17 (ocons ho19 (ocons rfl (ocons ho21 (ocons rfl (ocons ho23 onil)))))) (by simp) rfl ?_)))))))
 refine D_end (x_then (C_ret (D_pk (H' := [ov [v16] (a.Rules : (List Rule)), ov [v18] (a.Memory : (List Stamp)), ov [v20] (a.Fired : (List Firing)), ov [v22] (a.Log : (List Event)), bx g15 [v16, v18, (.int .i64 a.Clock), v20, (.bool a.Halted), v22], bx g14 [v16, v18, (.int .i64 a.Clock), v20, (.bool a.Halted), v22], bx g13 [u1, u3, (.int .i64 a.Clock), u5, (.bool a.Halted), u7]]) [3, 2, 1, 0, 4, 5, 6] rfl rfl (pk_Engine (r := (⟨a.Rules, a.Memory, a.Clock, a.Fired, a.Halted, a.Log⟩ : Engine)) (R_c 2 a_35 rfl rfl rfl fun w' hs => res_of (k := 0) hs rfl ?_)))))
 show (⟨a.Rules, a.Memory, a.Clock, a.Fired, a.Halted, a.Log⟩ : Engine) = a
 rfl

theorem laws_eqEngine (w : World) (c_a : List Value) (a : Engine) (c_b : List Value) (b : Engine) (h_a : Gd.rd w c_a a) (h_b : Gd.rd w c_b b) : Calls Tryz.prog 8 [(.agg c_a.toArray), (.agg c_b.toArray)].toArray w (Val w (.bool (decide (a = b)))) := by
 obtain ⟨u1, u3, u5, u7, rfl, hu2, hu4, hu6, hu8⟩ := open_Engine h_a
 have hm9 := rd_max hu2
 have hm10 := rd_max hu4
 have hm11 := rd_max hu6
 have hm12 := rd_max hu8
 obtain ⟨u13, u15, u17, u19, rfl, hu14, hu16, hu18, hu20⟩ := open_Engine h_b
 have hm21 := rd_max hu14
 have hm22 := rd_max hu16
 have hm23 := rd_max hu18
 have hm24 := rd_max hu20
 refine enter 39 Tryz.func8 rfl rfl rfl (C_seq (C_reg (li rfl (D_box rfl rfl rfl rfl rfl fun g25 => ?_))))
 refine li rfl (D_box rfl rfl rfl rfl rfl fun g26 => ?_)
 refine p1 rfl (D_end (x_then (D_H ([bx g26 [u13, u15, (.int .i64 b.Clock), u17, (.bool b.Halted), u19], bx g25 [u1, u3, (.int .i64 a.Clock), u5, (.bool a.Halted), u7]]) rfl (C_seq (C_seq (C_reg (q1 rfl (D_fb f_35_0 rfl rfl (q := 0) rfl) (q1 rfl (lb 1 o_30 rfl rfl rfl rfl) (q1 rfl (D_fb f_35_0 rfl rfl (q := 0) rfl) (q1 rfl (lb 0 o_30 rfl rfl rfl rfl) (li rfl (cv b_28 rfl rfl rfl rfl (fun w' hs => (laws_eqRuleS w' u1 a.Rules u13 b.Rules (rd_at hs hu2) (rd_at hs hu14))) ?_))))))))))))
 refine p1 rfl (D_end (x_then (C_if _ rfl (fun h27 => ?_) (fun h27 => ?_))))
 ·have h27n : (decide (a.Rules = b.Rules)) = false := not_t h27
  refine C_seq (C_reg (p1 rfl (D_end (x_then (C_ret (x_then_ret (Rb rfl rfl ?_)))))))
  cases a; cases b; simp_all
 ·have h27n : (decide (a.Rules = b.Rules)) = true := not_f h27
  refine C_skip (x_then (C_seq (C_seq (C_reg (q1 rfl (D_fb f_35_1 rfl rfl (q := 1) rfl) (q1 rfl (lb 1 o_31 rfl rfl rfl rfl) (q1 rfl (D_fb f_35_1 rfl rfl (q := 1) rfl) (q1 rfl (lb 0 o_31 rfl rfl rfl rfl) (li rfl (cv b_29 rfl rfl rfl rfl (fun w' hs => (laws_eqStampS w' u3 a.Memory u15 b.Memory (rd_at hs hu4) (rd_at hs hu16))) ?_))))))))))
  refine p1 rfl (D_end (x_then (C_if _ rfl (fun h28 => ?_) (fun h28 => ?_))))
  ·have h28n : (decide (a.Memory = b.Memory)) = false := not_t h28
   refine C_seq (C_reg (p1 rfl (D_end (x_then (C_ret (x_then_ret (Rb rfl rfl ?_)))))))
   cases a; cases b; simp_all
  ·have h28n : (decide (a.Memory = b.Memory)) = true := not_f h28
   refine C_skip (x_then (D_weak [(2, (.pointer (some ⟨g25, 0, none⟩))), (3, (.pointer (some ⟨g26, 0, none⟩)))] ⟨rfl, rfl, trivial⟩ (C_seq (C_seq (C_reg (q1 rfl (D_fb f_35_2 rfl rfl (q := 2) rfl) (q1 rfl (lb 1 o_3 rfl rfl rfl rfl) (q1 rfl (D_fb f_35_2 rfl rfl (q := 2) rfl) (q1 rfl (lb 0 o_3 rfl rfl rfl rfl) (p1 rfl (D_end ?_)))))))))))
   refine x_then (C_if _ rfl (fun h29 => ?_) (fun h29 => ?_))
   ·have pr29 : (a.Clock : Int) ≠ b.Clock := bne_iff_ne.1 h29
    refine C_seq (C_reg (p1 rfl (D_end (x_then (C_ret (x_then_ret (Rb rfl rfl ?_)))))))
    cases a; cases b; simp_all
   ·have pr29 : (a.Clock : Int) = b.Clock := eq_of_bne_f h29
    refine C_skip (x_then (C_seq (C_seq (C_reg (q1 rfl (D_fb f_35_3 rfl rfl (q := 3) rfl) (q1 rfl (lb 1 o_32 rfl rfl rfl rfl) (q1 rfl (D_fb f_35_3 rfl rfl (q := 3) rfl) (q1 rfl (lb 0 o_32 rfl rfl rfl rfl) (li rfl (cv b_30 rfl rfl rfl rfl (fun w' hs => (laws_eqFiringS w' u5 a.Fired u17 b.Fired (rd_at hs hu6) (rd_at hs hu18))) ?_))))))))))
    refine p1 rfl (D_end (x_then (C_if _ rfl (fun h30 => ?_) (fun h30 => ?_))))
    ·have h30n : (decide (a.Fired = b.Fired)) = false := not_t h30
     refine C_seq (C_reg (p1 rfl (D_end (x_then (C_ret (x_then_ret (Rb rfl rfl ?_)))))))
     cases a; cases b; simp_all
    ·have h30n : (decide (a.Fired = b.Fired)) = true := not_f h30
     refine C_skip (x_then (C_seq (C_seq (C_reg (q1 rfl (D_fb f_35_4 rfl rfl (q := 4) rfl) (q1 rfl (lb 1 o_4 rfl rfl rfl rfl) (q1 rfl (D_fb f_35_4 rfl rfl (q := 4) rfl) (q1 rfl (lb 0 o_4 rfl rfl rfl rfl) (q1 rfl (D_neB ub_4 rfl rfl rfl) (D_end (x_then ?_)))))))))))
     refine D_weak [(2, (.pointer (some ⟨g25, 0, none⟩))), (3, (.pointer (some ⟨g26, 0, none⟩))), (32, (.bool (!(a.Halted == b.Halted))))] ⟨rfl, rfl, rfl, trivial⟩ (C_if _ rfl (fun h31 => ?_) (fun h31 => ?_))
     ·refine C_seq (C_reg (p1 rfl (D_end (x_then (C_ret (x_then_ret (Rb rfl rfl ?_)))))))
      cases a; cases b; simp_all
     ·have pr31 : a.Halted = b.Halted := beq_of_not h31
      refine C_skip (x_then (C_seq (C_seq (C_reg (q1 rfl (D_fb f_35_5 rfl rfl (q := 5) rfl) (q1 rfl (lb 1 o_33 rfl rfl rfl rfl) (q1 rfl (D_fb f_35_5 rfl rfl (q := 5) rfl) (q1 rfl (lb 0 o_33 rfl rfl rfl rfl) (li rfl (cv b_31 rfl rfl rfl rfl (fun w' hs => (laws_eqEventS w' u7 a.Log u19 b.Log (rd_at hs hu8) (rd_at hs hu20))) ?_))))))))))
      refine p1 rfl (D_end (x_then (C_if _ rfl (fun h32 => ?_) (fun h32 => ?_))))
      ·have h32n : (decide (a.Log = b.Log)) = false := not_t h32
       refine C_seq (C_reg (p1 rfl (D_end (x_then (C_ret (x_then_ret (Rb rfl rfl ?_)))))))
       cases a; cases b; simp_all
      ·have h32n : (decide (a.Log = b.Log)) = true := not_f h32
       refine C_skip (x_then (C_seq (C_reg (p1 rfl (D_end (x_then (C_ret (Rb rfl rfl ?_))))))))
       cases a; cases b; simp_all
end Go.Sy.Ev2
