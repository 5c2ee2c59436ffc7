/-
  Contracts of functions of the program, walked (printed by a program of ours).
  Conditions: those that each theorem states.
-/
import Derived.Test.YtkbiaedfnpbpfaaGreatDoorEv1
import Derived.Test.YtkbiaedfnpbpfaaGreatDoorEng
set_option linter.unusedVariables false
set_option maxRecDepth 20000
namespace Go.Sy.Ev2
open Go Go.RowKit Go.Proofs Go.Sy
theorem mixed : Tryz.prog.follows .mixedOrders = true := by kernel_rfl
theorem f_183_0 : fieldOff Tryz.prog 183 0 = some 0 := by kernel_rfl
theorem o_9 : oneTy Tryz.prog 9 = true := by kernel_rfl
theorem us_9 : Tryz.prog.underlying 9 = some .string := by kernel_rfl
theorem f_183_1 : fieldOff Tryz.prog 183 1 = some 1 := by kernel_rfl
theorem o_58 : oneTy Tryz.prog 58 = true := by kernel_rfl
theorem b_70 : hasBody Tryz.prog 70 = true := by kernel_rfl
theorem y_145 : zeroTy Tryz.prog 145 = some (.agg #[(.string ⟨#[]⟩), (.slice none 0 0)]) := by kernel_rfl
theorem f_145_0 : fieldOff Tryz.prog 145 0 = some 0 := by kernel_rfl
theorem z_9 : sizeTy Tryz.prog 9 = some 1 := by kernel_rfl
theorem b_77 : hasBody Tryz.prog 77 = true := by kernel_rfl
theorem f_145_1 : fieldOff Tryz.prog 145 1 = some 1 := by kernel_rfl
theorem z_58 : sizeTy Tryz.prog 58 = some 1 := by kernel_rfl
theorem a_145 : aggTy Tryz.prog 145 = some 2 := by kernel_rfl
theorem z_145 : sizeTy Tryz.prog 145 = some 2 := by kernel_rfl
theorem b_84 : hasBody Tryz.prog 84 = true := by kernel_rfl
theorem f_185_1 : fieldOff Tryz.prog 185 1 = some 1 := by kernel_rfl
theorem a_183 : aggTy Tryz.prog 183 = some 2 := by kernel_rfl
theorem b_192 : hasBody Tryz.prog 192 = true := by kernel_rfl
theorem f_185_2 : fieldOff Tryz.prog 185 2 = some 3 := by kernel_rfl
theorem f_185_3 : fieldOff Tryz.prog 185 3 = some 4 := by kernel_rfl
theorem y_147 : zeroTy Tryz.prog 147 = some (.agg #[(.int .i64 0), (.string ⟨#[]⟩), (.slice none 0 0), (.string ⟨#[]⟩), (.string ⟨#[]⟩)]) := by kernel_rfl
theorem f_185_0 : fieldOff Tryz.prog 185 0 = some 0 := by kernel_rfl
theorem o_3 : oneTy Tryz.prog 3 = true := by kernel_rfl
theorem f_147_0 : fieldOff Tryz.prog 147 0 = some 0 := by kernel_rfl
theorem z_3 : sizeTy Tryz.prog 3 = some 1 := by kernel_rfl
theorem b_197 : hasBody Tryz.prog 197 = true := by kernel_rfl
theorem f_147_1 : fieldOff Tryz.prog 147 1 = some 1 := by kernel_rfl
theorem f_147_2 : fieldOff Tryz.prog 147 2 = some 3 := by kernel_rfl
theorem f_147_3 : fieldOff Tryz.prog 147 3 = some 4 := by kernel_rfl
theorem a_147 : aggTy Tryz.prog 147 = some 5 := by kernel_rfl
theorem z_147 : sizeTy Tryz.prog 147 = some 5 := by kernel_rfl
theorem b_205 : hasBody Tryz.prog 205 = true := by kernel_rfl
theorem f_188_1 : fieldOff Tryz.prog 188 1 = some 1 := by kernel_rfl
theorem y_159 : zeroTy Tryz.prog 159 = some (.agg #[(.int .i64 0), (.string ⟨#[]⟩), (.slice none 0 0)]) := by kernel_rfl
theorem f_188_0 : fieldOff Tryz.prog 188 0 = some 0 := by kernel_rfl
theorem f_159_0 : fieldOff Tryz.prog 159 0 = some 0 := by kernel_rfl
theorem f_159_1 : fieldOff Tryz.prog 159 1 = some 1 := by kernel_rfl
theorem a_159 : aggTy Tryz.prog 159 = some 3 := by kernel_rfl
theorem z_159 : sizeTy Tryz.prog 159 = some 3 := by kernel_rfl
theorem s_78 : sliceTy Tryz.prog 78 = some (185, 5, 80) := by kernel_rfl
theorem a_185 : aggTy Tryz.prog 185 = some 5 := by kernel_rfl
theorem b_150 : hasBody Tryz.prog 150 = true := by kernel_rfl
theorem s_93 : sliceTy Tryz.prog 93 = some (147, 5, 80) := by kernel_rfl
theorem b_161 : hasBody Tryz.prog 161 = true := by kernel_rfl
theorem b_174 : hasBody Tryz.prog 174 = true := by kernel_rfl
theorem s_79 : sliceTy Tryz.prog 79 = some (188, 3, 48) := by kernel_rfl
theorem a_188 : aggTy Tryz.prog 188 = some 3 := by kernel_rfl
theorem b_151 : hasBody Tryz.prog 151 = true := by kernel_rfl
theorem s_94 : sliceTy Tryz.prog 94 = some (159, 3, 48) := by kernel_rfl
theorem b_162 : hasBody Tryz.prog 162 = true := by kernel_rfl
theorem b_175 : hasBody Tryz.prog 175 = true := by kernel_rfl
theorem f_81_0 : fieldOff Tryz.prog 81 0 = some 0 := by kernel_rfl
theorem f_81_2 : fieldOff Tryz.prog 81 2 = some 2 := by kernel_rfl
theorem o_78 : oneTy Tryz.prog 78 = true := by kernel_rfl
theorem b_95 : hasBody Tryz.prog 95 = true := by kernel_rfl
theorem f_81_3 : fieldOff Tryz.prog 81 3 = some 3 := by kernel_rfl
theorem o_79 : oneTy Tryz.prog 79 = true := by kernel_rfl
theorem b_96 : hasBody Tryz.prog 96 = true := by kernel_rfl
theorem y_96 : zeroTy Tryz.prog 96 = some (.agg #[(.string ⟨#[]⟩), (.int .i64 0), (.slice none 0 0), (.slice none 0 0)]) := by kernel_rfl
theorem f_96_0 : fieldOff Tryz.prog 96 0 = some 0 := by kernel_rfl
theorem f_81_1 : fieldOff Tryz.prog 81 1 = some 1 := by kernel_rfl
theorem f_96_1 : fieldOff Tryz.prog 96 1 = some 1 := by kernel_rfl
theorem b_105 : hasBody Tryz.prog 105 = true := by kernel_rfl
theorem f_96_2 : fieldOff Tryz.prog 96 2 = some 2 := by kernel_rfl
theorem z_93 : sizeTy Tryz.prog 93 = some 1 := by kernel_rfl
theorem b_106 : hasBody Tryz.prog 106 = true := by kernel_rfl
theorem f_96_3 : fieldOff Tryz.prog 96 3 = some 3 := by kernel_rfl
theorem z_94 : sizeTy Tryz.prog 94 = some 1 := by kernel_rfl
theorem a_96 : aggTy Tryz.prog 96 = some 4 := by kernel_rfl
theorem z_96 : sizeTy Tryz.prog 96 = some 4 := by kernel_rfl
theorem o_93 : oneTy Tryz.prog 93 = true := by kernel_rfl
theorem b_115 : hasBody Tryz.prog 115 = true := by kernel_rfl
theorem o_94 : oneTy Tryz.prog 94 = true := by kernel_rfl
theorem b_116 : hasBody Tryz.prog 116 = true := by kernel_rfl
theorem f_84_0 : fieldOff Tryz.prog 84 0 = some 0 := by kernel_rfl
theorem a_60 : aggTy Tryz.prog 60 = some 2 := by kernel_rfl
theorem b_24 : hasBody Tryz.prog 24 = true := by kernel_rfl
theorem y_100 : zeroTy Tryz.prog 100 = some (.agg #[(.string ⟨#[]⟩), (.slice none 0 0), (.int .i64 0)]) := by kernel_rfl
theorem b_27 : hasBody Tryz.prog 27 = true := by kernel_rfl
theorem f_100_0 : fieldOff Tryz.prog 100 0 = some 0 := by kernel_rfl
theorem z_70 : sizeTy Tryz.prog 70 = some 2 := by kernel_rfl
theorem f_84_1 : fieldOff Tryz.prog 84 1 = some 2 := by kernel_rfl
theorem f_100_1 : fieldOff Tryz.prog 100 1 = some 2 := by kernel_rfl
theorem a_100 : aggTy Tryz.prog 100 = some 3 := by kernel_rfl
theorem z_100 : sizeTy Tryz.prog 100 = some 3 := by kernel_rfl
theorem a_70 : aggTy Tryz.prog 70 = some 2 := by kernel_rfl
theorem b_30 : hasBody Tryz.prog 30 = true := by kernel_rfl
theorem f_162_0 : fieldOff Tryz.prog 162 0 = some 0 := by kernel_rfl
theorem f_162_1 : fieldOff Tryz.prog 162 1 = some 1 := by kernel_rfl
theorem o_35 : oneTy Tryz.prog 35 = true := by kernel_rfl
theorem b_176 : hasBody Tryz.prog 176 = true := by kernel_rfl
theorem y_168 : zeroTy Tryz.prog 168 = some (.agg #[(.string ⟨#[]⟩), (.slice none 0 0)]) := by kernel_rfl
theorem f_168_0 : fieldOff Tryz.prog 168 0 = some 0 := by kernel_rfl
theorem b_182 : hasBody Tryz.prog 182 = true := by kernel_rfl
theorem f_168_1 : fieldOff Tryz.prog 168 1 = some 1 := by kernel_rfl
theorem z_35 : sizeTy Tryz.prog 35 = some 1 := by kernel_rfl
theorem a_168 : aggTy Tryz.prog 168 = some 2 := by kernel_rfl
theorem z_168 : sizeTy Tryz.prog 168 = some 2 := by kernel_rfl
theorem b_54 : hasBody Tryz.prog 54 = true := by kernel_rfl
theorem s_22 : sliceTy Tryz.prog 22 = some (81, 4, 72) := by kernel_rfl
theorem a_81 : aggTy Tryz.prog 81 = some 4 := by kernel_rfl
theorem b_36 : hasBody Tryz.prog 36 = true := by kernel_rfl
theorem s_40 : sliceTy Tryz.prog 40 = some (96, 4, 72) := by kernel_rfl
theorem b_47 : hasBody Tryz.prog 47 = true := by kernel_rfl
theorem b_55 : hasBody Tryz.prog 55 = true := by kernel_rfl
theorem s_23 : sliceTy Tryz.prog 23 = some (84, 3, 48) := by kernel_rfl
theorem a_84 : aggTy Tryz.prog 84 = some 3 := by kernel_rfl
theorem b_37 : hasBody Tryz.prog 37 = true := by kernel_rfl
theorem s_42 : sliceTy Tryz.prog 42 = some (100, 3, 48) := by kernel_rfl
theorem b_48 : hasBody Tryz.prog 48 = true := by kernel_rfl
theorem b_56 : hasBody Tryz.prog 56 = true := by kernel_rfl
theorem s_54 : sliceTy Tryz.prog 54 = some (162, 2, 40) := by kernel_rfl
theorem a_162 : aggTy Tryz.prog 162 = some 2 := by kernel_rfl
theorem b_120 : hasBody Tryz.prog 120 = true := by kernel_rfl
theorem s_63 : sliceTy Tryz.prog 63 = some (168, 2, 40) := by kernel_rfl
theorem b_129 : hasBody Tryz.prog 129 = true := by kernel_rfl
theorem b_140 : hasBody Tryz.prog 140 = true := by kernel_rfl
theorem s_55 : sliceTy Tryz.prog 55 = some (165, 4, 64) := by kernel_rfl
theorem a_165 : aggTy Tryz.prog 165 = some 4 := by kernel_rfl
theorem b_121 : hasBody Tryz.prog 121 = true := by kernel_rfl
theorem s_64 : sliceTy Tryz.prog 64 = some (171, 4, 64) := by kernel_rfl
theorem y_171 : zeroTy Tryz.prog 171 = some (.agg #[(.int .i64 0), (.string ⟨#[]⟩), (.string ⟨#[]⟩), (.slice none 0 0)]) := by kernel_rfl
theorem b_130 : hasBody Tryz.prog 130 = true := by kernel_rfl
theorem z_171 : sizeTy Tryz.prog 171 = some 4 := by kernel_rfl
theorem a_171 : aggTy Tryz.prog 171 = some 4 := by kernel_rfl
theorem b_141 : hasBody Tryz.prog 141 = true := by kernel_rfl
theorem f_57_0 : fieldOff Tryz.prog 57 0 = some 0 := by kernel_rfl
theorem o_22 : oneTy Tryz.prog 22 = true := by kernel_rfl
theorem b_6 : hasBody Tryz.prog 6 = true := by kernel_rfl
theorem f_57_1 : fieldOff Tryz.prog 57 1 = some 1 := by kernel_rfl
theorem o_23 : oneTy Tryz.prog 23 = true := by kernel_rfl
theorem b_7 : hasBody Tryz.prog 7 = true := by kernel_rfl
theorem f_57_3 : fieldOff Tryz.prog 57 3 = some 3 := by kernel_rfl
theorem o_54 : oneTy Tryz.prog 54 = true := by kernel_rfl
theorem b_68 : hasBody Tryz.prog 68 = true := by kernel_rfl
theorem f_57_5 : fieldOff Tryz.prog 57 5 = some 5 := by kernel_rfl
theorem o_55 : oneTy Tryz.prog 55 = true := by kernel_rfl
theorem b_69 : hasBody Tryz.prog 69 = true := by kernel_rfl
theorem y_66 : zeroTy Tryz.prog 66 = some (.agg #[(.slice none 0 0), (.slice none 0 0), (.int .i64 0), (.slice none 0 0), (.bool false), (.slice none 0 0)]) := by kernel_rfl
theorem b_10 : hasBody Tryz.prog 10 = true := by kernel_rfl
theorem f_66_0 : fieldOff Tryz.prog 66 0 = some 0 := by kernel_rfl
theorem z_40 : sizeTy Tryz.prog 40 = some 1 := by kernel_rfl
theorem b_11 : hasBody Tryz.prog 11 = true := by kernel_rfl
theorem f_66_1 : fieldOff Tryz.prog 66 1 = some 1 := by kernel_rfl
theorem z_42 : sizeTy Tryz.prog 42 = some 1 := by kernel_rfl
theorem f_57_2 : fieldOff Tryz.prog 57 2 = some 2 := by kernel_rfl
theorem f_66_2 : fieldOff Tryz.prog 66 2 = some 2 := by kernel_rfl
theorem b_75 : hasBody Tryz.prog 75 = true := by kernel_rfl
theorem f_66_3 : fieldOff Tryz.prog 66 3 = some 3 := by kernel_rfl
theorem z_63 : sizeTy Tryz.prog 63 = some 1 := by kernel_rfl
theorem f_57_4 : fieldOff Tryz.prog 57 4 = some 4 := by kernel_rfl
theorem o_4 : oneTy Tryz.prog 4 = true := by kernel_rfl
theorem f_66_4 : fieldOff Tryz.prog 66 4 = some 4 := by kernel_rfl
theorem z_4 : sizeTy Tryz.prog 4 = some 1 := by kernel_rfl
theorem b_76 : hasBody Tryz.prog 76 = true := by kernel_rfl
theorem f_66_5 : fieldOff Tryz.prog 66 5 = some 5 := by kernel_rfl
theorem z_64 : sizeTy Tryz.prog 64 = some 1 := by kernel_rfl
theorem a_66 : aggTy Tryz.prog 66 = some 6 := by kernel_rfl
theorem z_66 : sizeTy Tryz.prog 66 = some 6 := by kernel_rfl
theorem o_40 : oneTy Tryz.prog 40 = true := by kernel_rfl
theorem b_15 : hasBody Tryz.prog 15 = true := by kernel_rfl
theorem o_42 : oneTy Tryz.prog 42 = true := by kernel_rfl
theorem b_16 : hasBody Tryz.prog 16 = true := by kernel_rfl
theorem o_63 : oneTy Tryz.prog 63 = true := by kernel_rfl
theorem b_82 : hasBody Tryz.prog 82 = true := by kernel_rfl
theorem ub_4 : Tryz.prog.underlying 4 = some .bool := by kernel_rfl
theorem o_64 : oneTy Tryz.prog 64 = true := by kernel_rfl
theorem b_83 : hasBody Tryz.prog 83 = true := by kernel_rfl
open Go.Sy.Bel1 Go.Sy.Ev1
theorem laws_szPattern (w : World) (c_a : List Value) (a : Pattern) (left : Int) (h_a : Gd.rd w c_a a) (h0 : 0 ≤ left) (h1 : left ≤ 1048576) (ho : okPattern a) : Calls Tryz.prog 192 [(.agg c_a.toArray), (.int .i64 left)].toArray w (Val w (.int .i64 (szm (szPattern a) left))) := by
 obtain ⟨u1, rfl, hu2⟩ := open_Pattern h_a
 have hm3 := rd_max hu2
 have ho1 : a.Rel.size ≤ 9223372036854775807 := ho.1
 refine enter 19 Tryz.func192 rfl rfl rfl (Sr (li rfl (D_box rfl rfl rfl rfl rfl fun g4 => ?_)))
 refine Pe rfl (Dh ([bx g4 [(.string a.Rel), u1]]) rfl (Sr (p1 rfl (q1 rfl (Db f_183_0 rfl rfl (q := 0) rfl) (q1 rfl (lb 0 o_9 rfl rfl rfl rfl) (q1 rfl (D_lens us_9 rfl rfl) (q1 rfl (D_sub rfl rfl rfl rfl (by omega)) (Pe rfl (Cq (Sr (P2 rfl rfl (Dx (Ci _ rfl (fun h5 => ?_) (fun h5 => ?_))))))))))))))
 ·have pr5 : ((left - ((a.Rel.size : Nat) : Int)) : Int) < 0 := odT h5
  refine Sr (Pe rfl (Ct (Xr (Ri rfl rfl ?_))))
  show ((-1) : Int) = _
  unfold szPattern szm at *; repeat (split at * <;> try omega)
 ·have pr5 : ¬ ((left - ((a.Rel.size : Nat) : Int)) : Int) < 0 := odF h5
  refine Sk (Sr (q1 rfl (Db f_183_1 rfl rfl (q := 1) rfl) (q1 rfl (lb 0 o_58 rfl rfl rfl rfl) (p1 rfl (li rfl (cv b_70 rfl rfl rfl rfl (fun w' hs => (laws_szStringS w' u1 a.Args (left - ((a.Rel.size : Nat) : Int)) (rA hs hu2) (by first | assumption | omega | (unfold szm at *; split at * <;> omega)) (by first | assumption | omega | (unfold szm at *; split at * <;> omega)) ho.2)) ?_))))))
  refine Pe rfl (Cq (Sr (P2 rfl rfl (Dx (Dw [(1, (.int .i64 (szm (szSs a.Args) (left - ((a.Rel.size : Nat) : Int))))), (17, (.bool (decide (((szm (szSs a.Args) (left - ((a.Rel.size : Nat) : Int))) : Int) < 0))))] ⟨rfl, rfl, trivial⟩ (Ds (H' := []) [false] rfl (Ci _ rfl (fun h6 => ?_) (fun h6 => ?_))))))))
  ·have pr6 : ((szm (szSs a.Args) (left - ((a.Rel.size : Nat) : Int))) : Int) < 0 := odT h6
   refine Sr (Pe rfl (Ct (Xr (Ri rfl rfl ?_))))
   show ((-1) : Int) = _
   unfold szPattern szm at *; repeat (split at * <;> try omega)
  ·have pr6 : ¬ ((szm (szSs a.Args) (left - ((a.Rel.size : Nat) : Int))) : Int) < 0 := odF h6
   have pr6z := szm_val (n := (szSs a.Args)) (left := (left - ((a.Rel.size : Nat) : Int))) pr6
   refine Sk (Sr (P2 rfl rfl (Dx (Ct (Ri rfl rfl ?_)))))
   show ((szm (szSs a.Args) (left - ((a.Rel.size : Nat) : Int))) : Int) = _
   unfold szPattern szm at *; repeat (split at * <;> try omega)
theorem laws_toPattern (w : World) (c_a : List Value) (a : Pattern) (h_a : Gd.rd w c_a a) (hn : szPattern a ≤ 1048576) : Calls Tryz.prog 197 [(.agg c_a.toArray)].toArray w (Res w (a : Pattern)) := by
 obtain ⟨u1, rfl, hu2⟩ := open_Pattern h_a
 have hm3 := rd_max hu2
 unfold szPattern at hn
 unfold szSs at hn
 refine enter 12 Tryz.func197 rfl rfl rfl (Sr (li rfl (D_box rfl rfl rfl rfl rfl fun g4 => ?_)))
 refine li rfl (D_alloc y_145 rfl rfl rfl rfl fun g5 => ?_)
 refine Dx (Dh ([bx g5 [(.string ⟨#[]⟩), (.slice none 0 0)], bx g4 [(.string a.Rel), u1]]) rfl (Sr (li rfl (D_alloc y_145 rfl rfl rfl rfl fun g6 => ?_))))
 refine Dx (Dh ([bx g6 [(.string ⟨#[]⟩), (.slice none 0 0)], bx g5 [(.string ⟨#[]⟩), (.slice none 0 0)], bx g4 [(.string a.Rel), u1]]) rfl (Sr (q1 rfl (Db f_183_0 rfl rfl (q := 0) rfl) (q1 rfl (lb 2 o_9 rfl rfl rfl rfl) (q1 rfl (Db f_145_0 rfl rfl (q := 0) rfl) (li rfl (D_stb (vs := [(.string a.Rel)]) (cs' := [(.string a.Rel), (.slice none 0 0)]) 0 z_9 rfl rfl rfl rfl rfl rfl (ocons rfl onil) (by simp) rfl ?_)))))))
 refine Dx (Dh ([bx g6 [(.string a.Rel), (.slice none 0 0)], bx g5 [(.string ⟨#[]⟩), (.slice none 0 0)], bx g4 [(.string a.Rel), u1]]) rfl (Sr (q1 rfl (Db f_183_1 rfl rfl (q := 1) rfl) (q1 rfl (lb 2 o_58 rfl rfl rfl rfl) (li rfl (crl b_77 rfl rfl rfl rfl (fun w' hs => (laws_toStringS w' u1 a.Args (rA hs hu2) (by first | assumption | omega | (unfold szm at *; split at * <;> omega)))) fun v7 => ?_))))))
 refine q1 rfl (Db f_145_1 rfl rfl (q := 1) rfl) (Dp (fun w' hs => one_own (k := 0) hs rfl) ?_)
 intro ho8
 refine li rfl (D_stb (vs := [v7]) (cs' := [(.string a.Rel), v7]) 1 z_58 rfl rfl rfl rfl rfl (cells_of_one ho8) (ocons ho8 onil) (by simp) rfl ?_)
 refine Dx (Dh ([ov [v7] (a.Args : (List ByteArray)), bx g6 [(.string a.Rel), v7], bx g5 [(.string ⟨#[]⟩), (.slice none 0 0)], bx g4 [(.string a.Rel), u1]]) rfl (Sr (q1 rfl (lbw 1 a_145 rfl rfl rfl) (li rfl (D_stb (vs := [(.string a.Rel), v7]) (cs' := [(.string a.Rel), v7]) 2 z_145 rfl rfl rfl rfl rfl rfl (ocons rfl (ocons ho8 onil)) (by simp) rfl ?_)))))
 refine Dx (Ct (pk_Pattern (r := (a : Pattern)) (R_c 2 a_145 rfl rfl rfl fun w' hs => res_of (k := 0) hs rfl ?_)))
 show (a : Pattern) = a
 rfl
theorem laws_eqPattern (w : World) (c_a : List Value) (a : Pattern) (c_b : List Value) (b : Pattern) (h_a : Gd.rd w c_a a) (h_b : Gd.rd w c_b b) : Calls Tryz.prog 205 [(.agg c_a.toArray), (.agg c_b.toArray)].toArray w (Val w (.bool (decide (a = b)))) := by
 obtain ⟨u1, rfl, hu2⟩ := open_Pattern h_a
 have hm3 := rd_max hu2
 obtain ⟨u4, rfl, hu5⟩ := open_Pattern h_b
 have hm6 := rd_max hu5
 refine enter 16 Tryz.func205 rfl rfl rfl (Sr (li rfl (D_box rfl rfl rfl rfl rfl fun g7 => ?_)))
 refine li rfl (D_box rfl rfl rfl rfl rfl fun g8 => ?_)
 refine Pe rfl (Dh ([bx g8 [(.string b.Rel), u4], bx g7 [(.string a.Rel), u1]]) rfl (Cq (Sr (q1 rfl (Db f_145_0 rfl rfl (q := 0) rfl) (q1 rfl (lb 1 o_9 rfl rfl rfl rfl) (q1 rfl (Db f_145_0 rfl rfl (q := 0) rfl) (q1 rfl (lb 0 o_9 rfl rfl rfl rfl) (q1 rfl (D_neS rfl rfl rfl) (Dx (Ci _ rfl (fun h9 => ?_) (fun h9 => ?_)))))))))))
 ·have pr9 : ¬ (a.Rel : ByteArray) = b.Rel := of_decide_eq_false (not_t h9)
  refine Sr (Pe rfl (Ct (Xr (Rb rfl rfl ?_))))
  cases a; cases b; simp_all
 ·have pr9 : (a.Rel : ByteArray) = b.Rel := of_decide_eq_true (not_f h9)
  refine Sk (Cq (Sr (q1 rfl (Db f_145_1 rfl rfl (q := 1) rfl) (q1 rfl (lb 1 o_58 rfl rfl rfl rfl) (q1 rfl (Db f_145_1 rfl rfl (q := 1) rfl) (q1 rfl (lb 0 o_58 rfl rfl rfl rfl) (li rfl (cv b_84 rfl rfl rfl rfl (fun w' hs => (laws_eqStringS w' u1 a.Args u4 b.Args (rA hs hu2) (rA hs hu5))) ?_))))))))
  refine Pe rfl (Dw [(15, (.bool (!(decide (a.Args = b.Args)))))] ⟨rfl, trivial⟩ (Ds (H' := []) [false, false] rfl (Ci _ rfl (fun h10 => ?_) (fun h10 => ?_))))
  ·have h10n : (decide (a.Args = b.Args)) = false := not_t h10
   refine Sr (Pe rfl (Ct (Xr (Rb rfl rfl ?_))))
   cases a; cases b; simp_all
  ·have h10n : (decide (a.Args = b.Args)) = true := not_f h10
   refine Sk (Sr (Pe rfl (Ct (Rb rfl rfl ?_))))
   cases a; cases b; simp_all
theorem laws_szCond (w : World) (c_a : List Value) (a : Cond) (left : Int) (h_a : Gd.rd w c_a a) (h0 : 0 ≤ left) (h1 : left ≤ 1048576) (ho : okCond a) : Calls Tryz.prog 150 [(.agg c_a.toArray), (.int .i64 left)].toArray w (Val w (.int .i64 (szm (szCond a) left))) := by
 obtain ⟨u1, rfl, hu2⟩ := open_Cond h_a
 have hm3 := rd_max hu2
 have hb4 := sub_Cond_Pattern h_a
 have ho1 : a.Left.size ≤ 9223372036854775807 := ho.2.2.1
 have ho2 : a.Right.size ≤ 9223372036854775807 := ho.2.2.2
 refine enter 26 Tryz.func150 rfl rfl rfl (Sr (li rfl (D_box rfl rfl rfl rfl rfl fun g5 => ?_)))
 refine Pe rfl (Dh ([bx g5 [(.int .i64 a.Kind), (.string a.Pattern.Rel), u1, (.string a.Left), (.string a.Right)]]) rfl (Sr (q1 rfl (Db f_185_1 rfl rfl (q := 1) rfl) (q1 rfl (lba (es := [(.string a.Pattern.Rel), u1]) 0 a_183 rfl rfl rfl rfl) (p1 rfl (li rfl (cv b_192 rfl rfl rfl rfl (fun w' hs => (laws_szPattern w' [(.string a.Pattern.Rel), u1] a.Pattern left (rA hs hb4) (by first | assumption | omega | (unfold szm at *; split at * <;> omega)) (by first | assumption | omega | (unfold szm at *; split at * <;> omega)) ho.2.1)) ?_)))))))
 refine Pe rfl (Cq (Sr (P2 rfl rfl (Dx (Ci _ rfl (fun h6 => ?_) (fun h6 => ?_))))))
 ·have pr6 : ((szm (szPattern a.Pattern) left) : Int) < 0 := odT h6
  refine Sr (Pe rfl (Ct (Xr (Ri rfl rfl ?_))))
  show ((-1) : Int) = _
  unfold szCond szm at *; repeat (split at * <;> try omega)
 ·have pr6 : ¬ ((szm (szPattern a.Pattern) left) : Int) < 0 := odF h6
  have pr6z := szm_val (n := (szPattern a.Pattern)) (left := left) pr6
  refine Sk (Sr (p1 rfl (q1 rfl (Db f_185_2 rfl rfl (q := 3) rfl) (q1 rfl (lb 0 o_9 rfl rfl rfl rfl) (q1 rfl (D_lens us_9 rfl rfl) (q1 rfl (D_sub rfl rfl rfl rfl (by omega)) (Pe rfl (Cq (Sr (P2 rfl rfl (Dx (Ci _ rfl (fun h7 => ?_) (fun h7 => ?_)))))))))))))
  ·have pr7 : (((szm (szPattern a.Pattern) left) - ((a.Left.size : Nat) : Int)) : Int) < 0 := odT h7
   refine Sr (Pe rfl (Ct (Xr (Ri rfl rfl ?_))))
   show ((-1) : Int) = _
   unfold szCond szm at *; repeat (split at * <;> try omega)
  ·have pr7 : ¬ (((szm (szPattern a.Pattern) left) - ((a.Left.size : Nat) : Int)) : Int) < 0 := odF h7
   refine Sk (Dw [(1, (.int .i64 ((szm (szPattern a.Pattern) left) - ((a.Left.size : Nat) : Int)))), (2, (.pointer (some ⟨g5, 0, none⟩)))] ⟨rfl, rfl, trivial⟩ (Sr (p1 rfl (q1 rfl (Db f_185_3 rfl rfl (q := 4) rfl) (q1 rfl (lb 0 o_9 rfl rfl rfl rfl) (q1 rfl (D_lens us_9 rfl rfl) (q1 rfl (D_sub rfl rfl rfl rfl (by omega)) (Pe rfl (Cq (Sr (P2 rfl rfl (Dx (Ci _ rfl (fun h8 => ?_) (fun h8 => ?_))))))))))))))
   ·have pr8 : ((((szm (szPattern a.Pattern) left) - ((a.Left.size : Nat) : Int)) - ((a.Right.size : Nat) : Int)) : Int) < 0 := odT h8
    refine Sr (Pe rfl (Ct (Xr (Ri rfl rfl ?_))))
    show ((-1) : Int) = _
    unfold szCond szm at *; repeat (split at * <;> try omega)
   ·have pr8 : ¬ ((((szm (szPattern a.Pattern) left) - ((a.Left.size : Nat) : Int)) - ((a.Right.size : Nat) : Int)) : Int) < 0 := odF h8
    refine Sk (Sr (P2 rfl rfl (Dx (Ct (Ri rfl rfl ?_)))))
    show ((((szm (szPattern a.Pattern) left) - ((a.Left.size : Nat) : Int)) - ((a.Right.size : Nat) : Int)) : Int) = _
    unfold szCond szm at *; repeat (split at * <;> try omega)
theorem laws_toCond (w : World) (c_a : List Value) (a : Cond) (h_a : Gd.rd w c_a a) (hn : szCond a ≤ 1048576) : Calls Tryz.prog 161 [(.agg c_a.toArray)].toArray w (Res w (a : Cond)) := by
 obtain ⟨u1, rfl, hu2⟩ := open_Cond h_a
 have hm3 := rd_max hu2
 have hb4 := sub_Cond_Pattern h_a
 unfold szCond at hn
 refine enter 18 Tryz.func161 rfl rfl rfl (Sr (li rfl (D_box rfl rfl rfl rfl rfl fun g5 => ?_)))
 refine li rfl (D_alloc y_147 rfl rfl rfl rfl fun g6 => ?_)
 refine Dx (Dh ([bx g6 [(.int .i64 0), (.string ⟨#[]⟩), (.slice none 0 0), (.string ⟨#[]⟩), (.string ⟨#[]⟩)], bx g5 [(.int .i64 a.Kind), (.string a.Pattern.Rel), u1, (.string a.Left), (.string a.Right)]]) rfl (Sr (li rfl (D_alloc y_147 rfl rfl rfl rfl fun g7 => ?_))))
 refine Dx (Dh ([bx g7 [(.int .i64 0), (.string ⟨#[]⟩), (.slice none 0 0), (.string ⟨#[]⟩), (.string ⟨#[]⟩)], bx g6 [(.int .i64 0), (.string ⟨#[]⟩), (.slice none 0 0), (.string ⟨#[]⟩), (.string ⟨#[]⟩)], bx g5 [(.int .i64 a.Kind), (.string a.Pattern.Rel), u1, (.string a.Left), (.string a.Right)]]) rfl (Sr (q1 rfl (Db f_185_0 rfl rfl (q := 0) rfl) (q1 rfl (lb 2 o_3 rfl rfl rfl rfl) (q1 rfl (Db f_147_0 rfl rfl (q := 0) rfl) (li rfl (D_stb (vs := [(.int .i64 a.Kind)]) (cs' := [(.int .i64 a.Kind), (.string ⟨#[]⟩), (.slice none 0 0), (.string ⟨#[]⟩), (.string ⟨#[]⟩)]) 0 z_3 rfl rfl rfl rfl rfl rfl (ocons rfl onil) (by simp) rfl ?_)))))))
 refine Dx (Dh ([bx g7 [(.int .i64 a.Kind), (.string ⟨#[]⟩), (.slice none 0 0), (.string ⟨#[]⟩), (.string ⟨#[]⟩)], bx g6 [(.int .i64 0), (.string ⟨#[]⟩), (.slice none 0 0), (.string ⟨#[]⟩), (.string ⟨#[]⟩)], bx g5 [(.int .i64 a.Kind), (.string a.Pattern.Rel), u1, (.string a.Left), (.string a.Right)]]) rfl (Sr (q1 rfl (Db f_185_1 rfl rfl (q := 1) rfl) (q1 rfl (lba (es := [(.string a.Pattern.Rel), u1]) 2 a_183 rfl rfl rfl rfl) (li rfl (crs rfl b_197 rfl rfl rfl rfl (fun w' hs => (laws_toPattern w' [(.string a.Pattern.Rel), u1] a.Pattern (rA hs hb4) (by first | assumption | omega | (unfold szm at *; split at * <;> omega)))) fun cs8 => ?_))))))
 refine Dp (fun w' hs => shape_Pattern (rO (k := 0) hs rfl)) ?_
 rintro ⟨v9, rfl, ho10⟩
 refine q1 rfl (Db f_147_1 rfl rfl (q := 1) rfl) (li rfl (D_stb (vs := [(.string a.Pattern.Rel), v9]) (cs' := [(.int .i64 a.Kind), (.string a.Pattern.Rel), v9, (.string ⟨#[]⟩), (.string ⟨#[]⟩)]) 1 z_145 rfl rfl rfl rfl rfl rfl (ocons rfl (ocons ho10 onil)) (by simp) rfl ?_))
 refine Dx (Dh ([ov [(.string a.Pattern.Rel), v9] (a.Pattern : Pattern), bx g7 [(.int .i64 a.Kind), (.string a.Pattern.Rel), v9, (.string ⟨#[]⟩), (.string ⟨#[]⟩)], bx g6 [(.int .i64 0), (.string ⟨#[]⟩), (.slice none 0 0), (.string ⟨#[]⟩), (.string ⟨#[]⟩)], bx g5 [(.int .i64 a.Kind), (.string a.Pattern.Rel), u1, (.string a.Left), (.string a.Right)]]) rfl (Sr (q1 rfl (Db f_185_2 rfl rfl (q := 3) rfl) (q1 rfl (lb 3 o_9 rfl rfl rfl rfl) (q1 rfl (Db f_147_2 rfl rfl (q := 3) rfl) (li rfl (D_stb (vs := [(.string a.Left)]) (cs' := [(.int .i64 a.Kind), (.string a.Pattern.Rel), v9, (.string a.Left), (.string ⟨#[]⟩)]) 1 z_9 rfl rfl rfl rfl rfl rfl (ocons rfl onil) (by simp) rfl ?_)))))))
 refine Dx (Dh ([ov [(.string a.Pattern.Rel), v9] (a.Pattern : Pattern), bx g7 [(.int .i64 a.Kind), (.string a.Pattern.Rel), v9, (.string a.Left), (.string ⟨#[]⟩)], bx g6 [(.int .i64 0), (.string ⟨#[]⟩), (.slice none 0 0), (.string ⟨#[]⟩), (.string ⟨#[]⟩)], bx g5 [(.int .i64 a.Kind), (.string a.Pattern.Rel), u1, (.string a.Left), (.string a.Right)]]) rfl (Sr (q1 rfl (Db f_185_3 rfl rfl (q := 4) rfl) (q1 rfl (lb 3 o_9 rfl rfl rfl rfl) (q1 rfl (Db f_147_3 rfl rfl (q := 4) rfl) (li rfl (D_stb (vs := [(.string a.Right)]) (cs' := [(.int .i64 a.Kind), (.string a.Pattern.Rel), v9, (.string a.Left), (.string a.Right)]) 1 z_9 rfl rfl rfl rfl rfl rfl (ocons rfl onil) (by simp) rfl ?_)))))))
 refine Dx (Dw [(2, (.pointer (some ⟨g6, 0, none⟩))), (3, (.pointer (some ⟨g7, 0, none⟩)))] ⟨rfl, rfl, trivial⟩ (Ds (H' := [ov [(.string a.Pattern.Rel), v9] (a.Pattern : Pattern), bx g7 [(.int .i64 a.Kind), (.string a.Pattern.Rel), v9, (.string a.Left), (.string a.Right)], bx g6 [(.int .i64 0), (.string ⟨#[]⟩), (.slice none 0 0), (.string ⟨#[]⟩), (.string ⟨#[]⟩)]]) [true, true, true, false] rfl (Sr (q1 rfl (lbw 1 a_147 rfl rfl rfl) (li rfl (D_stb (vs := [(.int .i64 a.Kind), (.string a.Pattern.Rel), v9, (.string a.Left), (.string a.Right)]) (cs' := [(.int .i64 a.Kind), (.string a.Pattern.Rel), v9, (.string a.Left), (.string a.Right)]) 2 z_147 rfl rfl rfl rfl rfl rfl (ocons rfl (ocons rfl (ocons ho10 (ocons rfl (ocons rfl onil))))) (by simp) rfl ?_))))))
 refine Dx (Ct (D_unpair (α := ByteArray) (β := (List ByteArray)) (c1 := [(.string a.Pattern.Rel)]) (c2 := [v9]) (x := a.Pattern.Rel) (y := (a.Pattern.Args)) rfl rfl (D_fd [] 1 rfl (pk_Cond (r := (a : Cond)) (R_c 2 a_147 rfl rfl rfl fun w' hs => res_of (k := 0) hs rfl ?_)))))
 show (a : Cond) = a
 rfl
theorem laws_eqCond (w : World) (c_a : List Value) (a : Cond) (c_b : List Value) (b : Cond) (h_a : Gd.rd w c_a a) (h_b : Gd.rd w c_b b) : Calls Tryz.prog 174 [(.agg c_a.toArray), (.agg c_b.toArray)].toArray w (Val w (.bool (decide (a = b)))) := by
 obtain ⟨u1, rfl, hu2⟩ := open_Cond h_a
 have hm3 := rd_max hu2
 have hb4 := sub_Cond_Pattern h_a
 obtain ⟨u5, rfl, hu6⟩ := open_Cond h_b
 have hm7 := rd_max hu6
 have hb8 := sub_Cond_Pattern h_b
 refine enter 26 Tryz.func174 rfl rfl rfl (Sr (li rfl (D_box rfl rfl rfl rfl rfl fun g9 => ?_)))
 refine li rfl (D_box rfl rfl rfl rfl rfl fun g10 => ?_)
 refine Pe rfl (Dh ([bx g10 [(.int .i64 b.Kind), (.string b.Pattern.Rel), u5, (.string b.Left), (.string b.Right)], bx g9 [(.int .i64 a.Kind), (.string a.Pattern.Rel), u1, (.string a.Left), (.string a.Right)]]) rfl (Cq (Sr (q1 rfl (Db f_147_0 rfl rfl (q := 0) rfl) (q1 rfl (lb 1 o_3 rfl rfl rfl rfl) (q1 rfl (Db f_147_0 rfl rfl (q := 0) rfl) (q1 rfl (lb 0 o_3 rfl rfl rfl rfl) (Pe rfl (Ci _ rfl (fun h11 => ?_) (fun h11 => ?_))))))))))
 ·have pr11 : (a.Kind : Int) ≠ b.Kind := bne_iff_ne.1 h11
  refine Sr (Pe rfl (Ct (Xr (Rb rfl rfl ?_))))
  cases a; cases b; simp_all
 ·have pr11 : (a.Kind : Int) = b.Kind := eq_of_bne_f h11
  refine Sk (Cq (Sr (q1 rfl (Db f_147_1 rfl rfl (q := 1) rfl) (q1 rfl (lba (es := [(.string a.Pattern.Rel), u1]) 1 a_145 rfl rfl rfl rfl) (q1 rfl (Db f_147_1 rfl rfl (q := 1) rfl) (q1 rfl (lba (es := [(.string b.Pattern.Rel), u5]) 0 a_145 rfl rfl rfl rfl) (li rfl (cv b_205 rfl rfl rfl rfl (fun w' hs => (laws_eqPattern w' [(.string a.Pattern.Rel), u1] a.Pattern [(.string b.Pattern.Rel), u5] b.Pattern (rA hs hb4) (rA hs hb8))) ?_))))))))
  refine Pe rfl (Ci _ rfl (fun h12 => ?_) (fun h12 => ?_))
  ·have h12n : (decide (a.Pattern = b.Pattern)) = false := not_t h12
   refine Sr (Pe rfl (Ct (Xr (Rb rfl rfl ?_))))
   cases a; cases b; simp_all
  ·have h12n : (decide (a.Pattern = b.Pattern)) = true := not_f h12
   refine Sk (Cq (Sr (q1 rfl (Db f_147_2 rfl rfl (q := 3) rfl) (q1 rfl (lb 1 o_9 rfl rfl rfl rfl) (q1 rfl (Db f_147_2 rfl rfl (q := 3) rfl) (q1 rfl (lb 0 o_9 rfl rfl rfl rfl) (q1 rfl (D_neS rfl rfl rfl) (Dx (Dw [(2, (.pointer (some ⟨g9, 0, none⟩))), (3, (.pointer (some ⟨g10, 0, none⟩))), (20, (.bool (!(decide ((a.Left : ByteArray) = b.Left)))))] ⟨rfl, rfl, rfl, trivial⟩ (Ci _ rfl (fun h13 => ?_) (fun h13 => ?_)))))))))))
   ·have pr13 : ¬ (a.Left : ByteArray) = b.Left := of_decide_eq_false (not_t h13)
    refine Sr (Pe rfl (Ct (Xr (Rb rfl rfl ?_))))
    cases a; cases b; simp_all
   ·have pr13 : (a.Left : ByteArray) = b.Left := of_decide_eq_true (not_f h13)
    refine Sk (Cq (Sr (q1 rfl (Db f_147_3 rfl rfl (q := 4) rfl) (q1 rfl (lb 1 o_9 rfl rfl rfl rfl) (q1 rfl (Db f_147_3 rfl rfl (q := 4) rfl) (q1 rfl (lb 0 o_9 rfl rfl rfl rfl) (q1 rfl (D_neS rfl rfl rfl) (Dx (Ci _ rfl (fun h14 => ?_) (fun h14 => ?_))))))))))
    ·have pr14 : ¬ (a.Right : ByteArray) = b.Right := of_decide_eq_false (not_t h14)
     refine Sr (Pe rfl (Ct (Xr (Rb rfl rfl ?_))))
     cases a; cases b; simp_all
    ·have pr14 : (a.Right : ByteArray) = b.Right := of_decide_eq_true (not_f h14)
     refine Sk (Sr (Pe rfl (Ct (Rb rfl rfl ?_))))
     cases a; cases b; simp_all
theorem laws_szAction (w : World) (c_a : List Value) (a : Action) (left : Int) (h_a : Gd.rd w c_a a) (h0 : 0 ≤ left) (h1 : left ≤ 1048576) (ho : okAction a) : Calls Tryz.prog 151 [(.agg c_a.toArray), (.int .i64 left)].toArray w (Val w (.int .i64 (szm (szAction a) left))) := by
 obtain ⟨u1, rfl, hu2⟩ := open_Action h_a
 have hm3 := rd_max hu2
 have hb4 := sub_Action_Pattern h_a
 refine enter 12 Tryz.func151 rfl rfl rfl (Sr (li rfl (D_box rfl rfl rfl rfl rfl fun g5 => ?_)))
 refine Pe rfl (Dh ([bx g5 [(.int .i64 a.Kind), (.string a.Pattern.Rel), u1]]) rfl (Sr (q1 rfl (Db f_188_1 rfl rfl (q := 1) rfl) (q1 rfl (lba (es := [(.string a.Pattern.Rel), u1]) 0 a_183 rfl rfl rfl rfl) (p1 rfl (li rfl (cv b_192 rfl rfl rfl rfl (fun w' hs => (laws_szPattern w' [(.string a.Pattern.Rel), u1] a.Pattern left (rA hs hb4) (by first | assumption | omega | (unfold szm at *; split at * <;> omega)) (by first | assumption | omega | (unfold szm at *; split at * <;> omega)) ho.2)) ?_)))))))
 refine Pe rfl (Cq (Sr (P2 rfl rfl (Dx (Ci _ rfl (fun h6 => ?_) (fun h6 => ?_))))))
 ·have pr6 : ((szm (szPattern a.Pattern) left) : Int) < 0 := odT h6
  refine Sr (Pe rfl (Ct (Xr (Ri rfl rfl ?_))))
  show ((-1) : Int) = _
  unfold szAction szm at *; repeat (split at * <;> try omega)
 ·have pr6 : ¬ ((szm (szPattern a.Pattern) left) : Int) < 0 := odF h6
  have pr6z := szm_val (n := (szPattern a.Pattern)) (left := left) pr6
  refine Sk (Sr (P2 rfl rfl (Dx (Ct (Ri rfl rfl ?_)))))
  show ((szm (szPattern a.Pattern) left) : Int) = _
  unfold szAction szm at *; repeat (split at * <;> try omega)
theorem laws_toAction (w : World) (c_a : List Value) (a : Action) (h_a : Gd.rd w c_a a) (hn : szAction a ≤ 1048576) : Calls Tryz.prog 162 [(.agg c_a.toArray)].toArray w (Res w (a : Action)) := by
 obtain ⟨u1, rfl, hu2⟩ := open_Action h_a
 have hm3 := rd_max hu2
 have hb4 := sub_Action_Pattern h_a
 unfold szAction at hn
 refine enter 12 Tryz.func162 rfl rfl rfl (Sr (li rfl (D_box rfl rfl rfl rfl rfl fun g5 => ?_)))
 refine li rfl (D_alloc y_159 rfl rfl rfl rfl fun g6 => ?_)
 refine Dx (Dh ([bx g6 [(.int .i64 0), (.string ⟨#[]⟩), (.slice none 0 0)], bx g5 [(.int .i64 a.Kind), (.string a.Pattern.Rel), u1]]) rfl (Sr (li rfl (D_alloc y_159 rfl rfl rfl rfl fun g7 => ?_))))
 refine Dx (Dh ([bx g7 [(.int .i64 0), (.string ⟨#[]⟩), (.slice none 0 0)], bx g6 [(.int .i64 0), (.string ⟨#[]⟩), (.slice none 0 0)], bx g5 [(.int .i64 a.Kind), (.string a.Pattern.Rel), u1]]) rfl (Sr (q1 rfl (Db f_188_0 rfl rfl (q := 0) rfl) (q1 rfl (lb 2 o_3 rfl rfl rfl rfl) (q1 rfl (Db f_159_0 rfl rfl (q := 0) rfl) (li rfl (D_stb (vs := [(.int .i64 a.Kind)]) (cs' := [(.int .i64 a.Kind), (.string ⟨#[]⟩), (.slice none 0 0)]) 0 z_3 rfl rfl rfl rfl rfl rfl (ocons rfl onil) (by simp) rfl ?_)))))))
 refine Dx (Dh ([bx g7 [(.int .i64 a.Kind), (.string ⟨#[]⟩), (.slice none 0 0)], bx g6 [(.int .i64 0), (.string ⟨#[]⟩), (.slice none 0 0)], bx g5 [(.int .i64 a.Kind), (.string a.Pattern.Rel), u1]]) rfl (Sr (q1 rfl (Db f_188_1 rfl rfl (q := 1) rfl) (q1 rfl (lba (es := [(.string a.Pattern.Rel), u1]) 2 a_183 rfl rfl rfl rfl) (li rfl (crs rfl b_197 rfl rfl rfl rfl (fun w' hs => (laws_toPattern w' [(.string a.Pattern.Rel), u1] a.Pattern (rA hs hb4) (by first | assumption | omega | (unfold szm at *; split at * <;> omega)))) fun cs8 => ?_))))))
 refine Dp (fun w' hs => shape_Pattern (rO (k := 0) hs rfl)) ?_
 rintro ⟨v9, rfl, ho10⟩
 refine q1 rfl (Db f_159_1 rfl rfl (q := 1) rfl) (li rfl (D_stb (vs := [(.string a.Pattern.Rel), v9]) (cs' := [(.int .i64 a.Kind), (.string a.Pattern.Rel), v9]) 1 z_145 rfl rfl rfl rfl rfl rfl (ocons rfl (ocons ho10 onil)) (by simp) rfl ?_))
 refine Dx (Dh ([ov [(.string a.Pattern.Rel), v9] (a.Pattern : Pattern), bx g7 [(.int .i64 a.Kind), (.string a.Pattern.Rel), v9], bx g6 [(.int .i64 0), (.string ⟨#[]⟩), (.slice none 0 0)], bx g5 [(.int .i64 a.Kind), (.string a.Pattern.Rel), u1]]) rfl (Sr (q1 rfl (lbw 1 a_159 rfl rfl rfl) (li rfl (D_stb (vs := [(.int .i64 a.Kind), (.string a.Pattern.Rel), v9]) (cs' := [(.int .i64 a.Kind), (.string a.Pattern.Rel), v9]) 2 z_159 rfl rfl rfl rfl rfl rfl (ocons rfl (ocons rfl (ocons ho10 onil))) (by simp) rfl ?_)))))
 refine Dx (Ct (D_unpair (α := ByteArray) (β := (List ByteArray)) (c1 := [(.string a.Pattern.Rel)]) (c2 := [v9]) (x := a.Pattern.Rel) (y := (a.Pattern.Args)) rfl rfl (D_fd [] 1 rfl (pk_Action (r := (a : Action)) (R_c 2 a_159 rfl rfl rfl fun w' hs => res_of (k := 0) hs rfl ?_)))))
 show (a : Action) = a
 rfl
theorem laws_eqAction (w : World) (c_a : List Value) (a : Action) (c_b : List Value) (b : Action) (h_a : Gd.rd w c_a a) (h_b : Gd.rd w c_b b) : Calls Tryz.prog 175 [(.agg c_a.toArray), (.agg c_b.toArray)].toArray w (Val w (.bool (decide (a = b)))) := by
 obtain ⟨u1, rfl, hu2⟩ := open_Action h_a
 have hm3 := rd_max hu2
 have hb4 := sub_Action_Pattern h_a
 obtain ⟨u5, rfl, hu6⟩ := open_Action h_b
 have hm7 := rd_max hu6
 have hb8 := sub_Action_Pattern h_b
 refine enter 16 Tryz.func175 rfl rfl rfl (Sr (li rfl (D_box rfl rfl rfl rfl rfl fun g9 => ?_)))
 refine li rfl (D_box rfl rfl rfl rfl rfl fun g10 => ?_)
 refine Pe rfl (Dh ([bx g10 [(.int .i64 b.Kind), (.string b.Pattern.Rel), u5], bx g9 [(.int .i64 a.Kind), (.string a.Pattern.Rel), u1]]) rfl (Cq (Sr (q1 rfl (Db f_159_0 rfl rfl (q := 0) rfl) (q1 rfl (lb 1 o_3 rfl rfl rfl rfl) (q1 rfl (Db f_159_0 rfl rfl (q := 0) rfl) (q1 rfl (lb 0 o_3 rfl rfl rfl rfl) (Pe rfl (Ci _ rfl (fun h11 => ?_) (fun h11 => ?_))))))))))
 ·have pr11 : (a.Kind : Int) ≠ b.Kind := bne_iff_ne.1 h11
  refine Sr (Pe rfl (Ct (Xr (Rb rfl rfl ?_))))
  cases a; cases b; simp_all
 ·have pr11 : (a.Kind : Int) = b.Kind := eq_of_bne_f h11
  refine Sk (Cq (Sr (q1 rfl (Db f_159_1 rfl rfl (q := 1) rfl) (q1 rfl (lba (es := [(.string a.Pattern.Rel), u1]) 1 a_145 rfl rfl rfl rfl) (q1 rfl (Db f_159_1 rfl rfl (q := 1) rfl) (q1 rfl (lba (es := [(.string b.Pattern.Rel), u5]) 0 a_145 rfl rfl rfl rfl) (li rfl (cv b_205 rfl rfl rfl rfl (fun w' hs => (laws_eqPattern w' [(.string a.Pattern.Rel), u1] a.Pattern [(.string b.Pattern.Rel), u5] b.Pattern (rA hs hb4) (rA hs hb8))) ?_))))))))
  refine Pe rfl (Dw [(15, (.bool (!(decide (a.Pattern = b.Pattern)))))] ⟨rfl, trivial⟩ (Ds (H' := []) [false, false] rfl (Ci _ rfl (fun h12 => ?_) (fun h12 => ?_))))
  ·have h12n : (decide (a.Pattern = b.Pattern)) = false := not_t h12
   refine Sr (Pe rfl (Ct (Xr (Rb rfl rfl ?_))))
   cases a; cases b; simp_all
  ·have h12n : (decide (a.Pattern = b.Pattern)) = true := not_f h12
   refine Sk (Sr (Pe rfl (Ct (Rb rfl rfl ?_))))
   cases a; cases b; simp_all
theorem laws_szCondS (w : World) (v_a : Value) (a : (List Cond)) (left : Int) (h_a : Gd.rd w [v_a] a) (h0 : 0 ≤ left) (h1 : left ≤ 1048576) (ho : okL okCond a) : Calls Tryz.prog 95 [v_a, (.int .i64 left)].toArray w (Val w (.int .i64 (szm (szL szCond a) left))) := by
 have hm1 := rd_max h_a
 refine enter 27 Tryz.func95 rfl rfl rfl (Sr (Pe rfl (Sr (P2 rfl rfl (q1 rfl (Dl s_78 rfl rfl (rd_sl h_a)) (q1 rfl (D_sub rfl rfl rfl rfl (by omega)) (Pe rfl (Cq (Sr (P2 rfl rfl (Dx (Ci _ rfl (fun h2 => ?_) (fun h2 => ?_)))))))))))))
 ·have pr2 : ((left - ((a.length : Nat) : Int)) : Int) < 0 := odT h2
  refine Sr (Pe rfl (Ct (Xr (Ri rfl rfl ?_))))
  show ((-1) : Int) = _
  refine (szm_neg ?_).symm; unfold szL; omega
 ·have pr2 : ¬ ((left - ((a.length : Nat) : Int)) : Int) < 0 := odF h2
  refine Sk (Cq (Sr (Pe rfl (Cb (Cl (fun m_ ac w' => ∃ (k : Nat), ∃ (lf : Int), (k ≤ a.length) ∧ (0 ≤ lf ∧ lf = left - a.length - sumC szCond (a.take k)) ∧ m_ = a.length - k ∧ Fits ac 27 [(0, v_a), (1, (.int .i64 lf)), (5, (.int .i64 ((k : Nat) : Int)))] ∧ St w ([]) w') ?_ ?_)))))
  ·refine fun ac w' hf hs => ⟨_, 0, (left - ((a.length : Nat) : Int)), ?_, ?_, rfl, hf.weak ⟨rfl, rfl, rfl, trivial⟩, hs⟩
   ·first | assumption | omega | simp
   ·simp [sumC]; omega
  ·rintro m_ ac w' ⟨k, lf, hk, hl, rfl, hf, hs⟩
   refine D.use ?_ hf hs
   clear hf hs ac w'
   have ht := sumC_take_le a szCond k
   refine Cq (Sr (P2 rfl rfl (q1 rfl (Dl s_78 rfl rfl (rd_sl h_a)) (Pe rfl (Ci _ rfl (fun h3 => ?_) (fun h3 => ?_))))))
   ·have pr3 : (((k : Nat) : Int) : Int) < ((a.length : Nat) : Int) := odT h3
    refine Sk (Cq (Cb (Sr (P2 rfl rfl ?_))))
    obtain ⟨r0, hr0⟩ := sL (l := a) (i := k) (by omega)
    have hro := ho _ (List.mem_of_getElem? hr0)
    have ht1 := sumC_take_le a szCond (k + 1)
    have hst := sumC_take (c := szCond) hr0
    obtain ⟨es4, at5, hr6⟩ := rd_elem (n := 5) rfl h_a hr0
    obtain ⟨u7, rfl, hu8⟩ := open_Cond hr6
    have hm9 := rd_max hu8
    have hb10 := sub_Cond_Pattern hr6
    refine q1 rfl (D_ix (l := a) (j := k) s_78 rfl rfl rfl (fun w' hs => (rA hs h_a)) rfl (lS hr0)) (q1 rfl (lra a_185 rfl rfl at5) (p1 rfl (li rfl (cv b_150 rfl rfl rfl rfl (fun w' hs => (laws_szCond w' [(.int .i64 r0.Kind), (.string r0.Pattern.Rel), u7, (.string r0.Left), (.string r0.Right)] r0 lf (rA hs hr6) (by first | assumption | omega | (unfold szm at *; split at * <;> omega)) (by first | assumption | omega | (unfold szm at *; split at * <;> omega)) hro)) ?_))))
    refine Pe rfl (Sr (P2 rfl rfl (Dx (Ci _ rfl (fun h11 => ?_) (fun h11 => ?_)))))
    ·have pr11 : ((szm (szCond r0) lf) : Int) < 0 := odT h11
     refine Sr (Pe rfl (Ct (Xq (Xr (Xr (Xq (Xr (Ri rfl rfl ?_))))))))
     show ((-1) : Int) = _
     refine (szm_neg ?_).symm; unfold szL; unfold szm at *; split at * <;> omega
    ·have pr11 : ¬ ((szm (szCond r0) lf) : Int) < 0 := odF h11
     have pr11z := szm_val (n := (szCond r0)) (left := lf) pr11
     refine Ck (Xb (Xt (Cr (p1 rfl (q1 rfl (D_add rfl rfl rfl (r := ((k + 1 : Nat) : Int)) (by omega) (by omega)) (Pe rfl (fun ac w' hf hs => ⟨_, ?_, k + 1, (szm (szCond r0) lf), ?_, ?_, rfl, hf.weak ⟨rfl, rfl, rfl, trivial⟩, hs⟩)))))))
     ·omega
     ·first | assumption | omega | simp
     ·rw [hst]; unfold szm at *; split at * <;> omega
   ·have pr3 : ¬ (((k : Nat) : Int) : Int) < ((a.length : Nat) : Int) := odF h3
    refine Cx (Xx (Xx (Xe (Xt (Sr (P2 rfl rfl (Dx (Ct (Ri rfl rfl ?_)))))))))
    show (lf : Int) = _
    rw [szm_pos]; all_goals (unfold szL; rw [List.take_of_length_le (by omega)] at hl; omega)
theorem laws_toCondS (w : World) (v_a : Value) (a : (List Cond)) (h_a : Gd.rd w [v_a] a) (hn : szL szCond a ≤ 1048576) : Calls Tryz.prog 105 [v_a].toArray w (Res w (a : List Cond)) := by
 have hm1 := rd_max h_a
 unfold szL at hn
 refine enter 23 Tryz.func105 rfl rfl rfl (Sr (Pe rfl (Sr (p1 rfl (q1 rfl (Dl s_78 rfl rfl (rd_sl h_a)) (li rfl (D_mkG (α := Cond) (z0 := z0_Cond) s_93 y_147 rfl rfl rfl rfl rfl rfl zz_Cond (by omega) (by omega) fun v2 => ?_)))))))
 refine Pe rfl (Dh ([ov [v2] (List.replicate a.length z0_Cond : (List Cond))]) rfl (Cq (Sr (Pe rfl (Cb (Cl (fun m_ ac w' => ∃ (k : Nat), ∃ (v : Value), (k ≤ a.length) ∧ m_ = a.length - k ∧ Fits ac 23 [(0, v_a), (3, v), (4, (.int .i64 ((k : Nat) : Int)))] ∧ St w ([ov [v] (cp a z0_Cond k : (List Cond))]) w') ?_ ?_))))))
 ·refine D_eq 0 rfl (show (List.replicate a.length z0_Cond : (List Cond)) = cp a z0_Cond 0 from by rw [cp_zero]) (fun ac w' hf hs => ⟨_, 0, v2, ?_, rfl, hf.weak ⟨rfl, rfl, rfl, trivial⟩, hs⟩)
  ·first | assumption | omega | simp
 ·rintro m_ ac w' ⟨k, v, hk, rfl, hf, hs⟩
  refine D.use ?_ hf hs
  clear hf hs ac w'
  have hcl := cp_len a z0_Cond k hk
  refine Cq (Sr (P2 rfl rfl (q1 rfl (Dl s_78 rfl rfl (rd_sl h_a)) (Pe rfl (Dh ([ov [v] (cp a z0_Cond k : (List Cond))]) rfl (Ci _ rfl (fun h3 => ?_) (fun h3 => ?_)))))))
  ·have pr3 : (((k : Nat) : Int) : Int) < ((a.length : Nat) : Int) := odT h3
   refine Sk (Cq (Cb (Cr (P3 rfl rfl rfl (p1 rfl ?_)))))
   obtain ⟨x4, hx5⟩ := sL (l := a) (i := k) (by omega)
   have hle := sumC_mem (c := szCond) (mem_idx hx5)
   obtain ⟨es6, at7, hr8⟩ := rd_elem (n := 5) rfl h_a hx5
   obtain ⟨u9, rfl, hu10⟩ := open_Cond hr8
   have hm11 := rd_max hu10
   have hb12 := sub_Cond_Pattern hr8
   refine q1 rfl (D_ix (l := a) (j := k) s_78 rfl rfl rfl (fun w' hs => (rA hs h_a)) rfl (lS hx5)) (q1 rfl (lra a_185 rfl rfl at7) (li rfl (crs rfl b_161 rfl rfl rfl rfl (fun w' hs => (laws_toCond w' [(.int .i64 x4.Kind), (.string x4.Pattern.Rel), u9, (.string x4.Left), (.string x4.Right)] x4 (rA hs hr8) (by first | assumption | omega | (unfold szm at *; split at * <;> omega)))) fun cs13 => ?_)))
   refine Dp (fun w' hs => shape_Cond (rO (k := 0) hs rfl)) ?_
   rintro ⟨v14, rfl, ho15⟩
   obtain ⟨x16, hx17⟩ := sL (l := (cp a z0_Cond k)) (i := k) (by omega)
   refine q1 rfl (D_ix (l := (cp a z0_Cond k)) (j := k) s_93 rfl rfl rfl (fun w' hs => (rO (k := 1) hs rfl)) rfl (lS hx17)) (D_pk (H' := [ov [v] (cp a z0_Cond k : (List Cond)), ov [(.int .i64 x4.Kind), (.string x4.Pattern.Rel), v14, (.string x4.Left), (.string x4.Right)] (x4 : Cond)]) [1, 0] rfl rfl (li rfl (soG (α := Cond) rfl z_147 rfl rfl rfl rfl rfl (lS hx17) ?_)))
   refine De (Xb (Xt (Dh ([ov [v] ((cp a z0_Cond k).set k x4 : (List Cond))]) rfl (Cr (p1 rfl (q1 rfl (D_add rfl rfl rfl (r := ((k + 1 : Nat) : Int)) (by omega) (by omega)) (Pe rfl (D_eq 0 rfl (show ((cp a z0_Cond k).set k x4 : (List Cond)) = cp a z0_Cond (k + 1) from by rw [cp_set (by assumption)]) (fun ac w' hf hs => ⟨_, ?_, k + 1, v, ?_, rfl, hf.weak ⟨rfl, rfl, rfl, trivial⟩, hs⟩)))))))))
   ·omega
   ·first | assumption | omega | simp
  ·have pr3 : ¬ (((k : Nat) : Int) : Int) < ((a.length : Nat) : Int) := odF h3
   refine Cx (Xx (Xx (Xe (Xt (Sr (P2 rfl rfl (Dx (Ct (R_1 rfl rfl fun w' hs => res_of (k := 0) hs rfl ?_)))))))))
   show cp a z0_Cond k = a
   exact cp_done (by omega)
theorem laws_eqCondS (w : World) (v_a : Value) (a : (List Cond)) (v_b : Value) (b : (List Cond)) (h_a : Gd.rd w [v_a] a) (h_b : Gd.rd w [v_b] b) : Calls Tryz.prog 115 [v_a, v_b].toArray w (Val w (.bool (decide (a = b)))) := by
 have hm1 := rd_max h_a
 have hm2 := rd_max h_b
 refine enter 27 Tryz.func115 rfl rfl rfl (Sr (Pe rfl (Cq (Sr (p1 rfl (q1 rfl (Dl s_93 rfl rfl (rd_sl h_a)) (p1 rfl (q1 rfl (Dl s_93 rfl rfl (rd_sl h_b)) (Pe rfl (Ci _ rfl (fun h3 => ?_) (fun h3 => ?_)))))))))))
 ·have pr3 : (((a.length : Nat) : Int) : Int) ≠ ((b.length : Nat) : Int) := bne_iff_ne.1 h3
  refine Sr (Pe rfl (Ct (Xr (Rb rfl rfl ?_))))
  simp; intro e; subst e; simp_all
 ·have pr3 : (((a.length : Nat) : Int) : Int) = ((b.length : Nat) : Int) := eq_of_bne_f h3
  refine Sk (Cq (Sr (Pe rfl (Cb (Cl (fun m_ ac w' => ∃ (k : Nat), (k ≤ a.length) ∧ (∀ i, i < k → a[i]? = b[i]?) ∧ m_ = a.length - k ∧ Fits ac 27 [(0, v_a), (1, v_b), (5, (.int .i64 ((k : Nat) : Int)))] ∧ St w ([]) w') ?_ ?_)))))
  ·refine fun ac w' hf hs => ⟨_, 0, ?_, ?_, rfl, hf.weak ⟨rfl, rfl, rfl, trivial⟩, hs⟩
   ·first | assumption | omega | simp
   ·intro i hi; omega
  ·rintro m_ ac w' ⟨k, hk, hi, rfl, hf, hs⟩
   refine D.use ?_ hf hs
   clear hf hs ac w'
   refine Cq (Sr (P2 rfl rfl (q1 rfl (Dl s_93 rfl rfl (rd_sl h_a)) (Pe rfl (Ci _ rfl (fun h4 => ?_) (fun h4 => ?_))))))
   ·have pr4 : (((k : Nat) : Int) : Int) < ((a.length : Nat) : Int) := odT h4
    refine Sk (Cq (Cb (Cq (C_draw mixed [8, 9] (by kernel_rfl) (Tk 0 rfl (by kernel_rfl) rfl (rp rfl) (Tk 1 rfl (by kernel_rfl) rfl (rp rfl) ?_))))))
    obtain ⟨x5, hx6⟩ := sL (l := a) (i := k) (by omega)
    obtain ⟨es7, at8, hr9⟩ := rd_elem (n := 5) rfl h_a hx6
    obtain ⟨u10, rfl, hu11⟩ := open_Cond hr9
    have hm12 := rd_max hu11
    have hb13 := sub_Cond_Pattern hr9
    refine Tk 2 rfl (by kernel_rfl) rfl (D_ix (l := a) (j := k) s_93 rfl rfl rfl (fun w' hs => (rA hs h_a)) rfl (lS hx6)) (Tk 3 rfl (by kernel_rfl) rfl (lra a_147 rfl rfl at8) (Tk 4 rfl (by kernel_rfl) rfl (rp rfl) (Tk 5 rfl (by kernel_rfl) rfl (rp rfl) ?_)))
    obtain ⟨x14, hx15⟩ := sL (l := b) (i := k) (by omega)
    obtain ⟨es16, at17, hr18⟩ := rd_elem (n := 5) rfl h_b hx15
    obtain ⟨u19, rfl, hu20⟩ := open_Cond hr18
    have hm21 := rd_max hu20
    have hb22 := sub_Cond_Pattern hr18
    refine Tk 6 rfl (by kernel_rfl) rfl (D_ix (l := b) (j := k) s_93 rfl rfl rfl (fun w' hs => (rA hs h_b)) rfl (lS hx15)) (Tk 7 rfl (by kernel_rfl) rfl (lra a_147 rfl rfl at17) (ty 8 rfl (by kernel_rfl) rfl (cv b_174 rfl rfl rfl rfl (fun w' hs => (laws_eqCond w' [(.int .i64 x5.Kind), (.string x5.Pattern.Rel), u10, (.string x5.Left), (.string x5.Right)] x5 [(.int .i64 x14.Kind), (.string x14.Pattern.Rel), u19, (.string x14.Left), (.string x14.Right)] x14 (rA hs hr9) (rA hs hr18))) ?_)))
    refine tZ rfl (ty 9 rfl (by kernel_rfl) rfl (sv rfl rfl (rp rfl) ?_))
    refine tZ rfl (tE (by kernel_rfl) (Xt (Ci _ rfl (fun h23 => ?_) (fun h23 => ?_))))
    ·have h23n : (decide (x5 = x14)) = false := not_t h23
     refine Sr (Pe rfl (Ct (Xq (Xr (Xr (Xq (Xr (Rb rfl rfl ?_))))))))
     simp; intro e; subst e; simp_all
    ·have h23n : (decide (x5 = x14)) = true := not_f h23
     refine Ck (Xb (Xt (Cr (p1 rfl (q1 rfl (D_add rfl rfl rfl (r := ((k + 1 : Nat) : Int)) (by omega) (by omega)) (Pe rfl (fun ac w' hf hs => ⟨_, ?_, k + 1, ?_, ?_, rfl, hf.weak ⟨rfl, rfl, rfl, trivial⟩, hs⟩)))))))
     ·omega
     ·first | assumption | omega | simp
     ·refine idx_step hi (by assumption) (by assumption) ?_; first | (simp_all; done) | (apply Fact.mk_eq <;> simp_all)
   ·have pr4 : ¬ (((k : Nat) : Int) : Int) < ((a.length : Nat) : Int) := odF h4
    refine Cx (Xx (Xx (Xe (Xt (Sr (Pe rfl (Ct (Rb rfl rfl ?_))))))))
    simp; exact eq_of_idx (by omega) (fun i h => hi i (by omega))
theorem laws_szActionS (w : World) (v_a : Value) (a : (List Action)) (left : Int) (h_a : Gd.rd w [v_a] a) (h0 : 0 ≤ left) (h1 : left ≤ 1048576) (ho : okL okAction a) : Calls Tryz.prog 96 [v_a, (.int .i64 left)].toArray w (Val w (.int .i64 (szm (szL szAction a) left))) := by
 have hm1 := rd_max h_a
 refine enter 27 Tryz.func96 rfl rfl rfl (Sr (Pe rfl (Sr (P2 rfl rfl (q1 rfl (Dl s_79 rfl rfl (rd_sl h_a)) (q1 rfl (D_sub rfl rfl rfl rfl (by omega)) (Pe rfl (Cq (Sr (P2 rfl rfl (Dx (Ci _ rfl (fun h2 => ?_) (fun h2 => ?_)))))))))))))
 ·have pr2 : ((left - ((a.length : Nat) : Int)) : Int) < 0 := odT h2
  refine Sr (Pe rfl (Ct (Xr (Ri rfl rfl ?_))))
  show ((-1) : Int) = _
  refine (szm_neg ?_).symm; unfold szL; omega
 ·have pr2 : ¬ ((left - ((a.length : Nat) : Int)) : Int) < 0 := odF h2
  refine Sk (Cq (Sr (Pe rfl (Cb (Cl (fun m_ ac w' => ∃ (k : Nat), ∃ (lf : Int), (k ≤ a.length) ∧ (0 ≤ lf ∧ lf = left - a.length - sumC szAction (a.take k)) ∧ m_ = a.length - k ∧ Fits ac 27 [(0, v_a), (1, (.int .i64 lf)), (5, (.int .i64 ((k : Nat) : Int)))] ∧ St w ([]) w') ?_ ?_)))))
  ·refine fun ac w' hf hs => ⟨_, 0, (left - ((a.length : Nat) : Int)), ?_, ?_, rfl, hf.weak ⟨rfl, rfl, rfl, trivial⟩, hs⟩
   ·first | assumption | omega | simp
   ·simp [sumC]; omega
  ·rintro m_ ac w' ⟨k, lf, hk, hl, rfl, hf, hs⟩
   refine D.use ?_ hf hs
   clear hf hs ac w'
   have ht := sumC_take_le a szAction k
   refine Cq (Sr (P2 rfl rfl (q1 rfl (Dl s_79 rfl rfl (rd_sl h_a)) (Pe rfl (Ci _ rfl (fun h3 => ?_) (fun h3 => ?_))))))
   ·have pr3 : (((k : Nat) : Int) : Int) < ((a.length : Nat) : Int) := odT h3
    refine Sk (Cq (Cb (Sr (P2 rfl rfl ?_))))
    obtain ⟨r0, hr0⟩ := sL (l := a) (i := k) (by omega)
    have hro := ho _ (List.mem_of_getElem? hr0)
    have ht1 := sumC_take_le a szAction (k + 1)
    have hst := sumC_take (c := szAction) hr0
    obtain ⟨es4, at5, hr6⟩ := rd_elem (n := 3) rfl h_a hr0
    obtain ⟨u7, rfl, hu8⟩ := open_Action hr6
    have hm9 := rd_max hu8
    have hb10 := sub_Action_Pattern hr6
    refine q1 rfl (D_ix (l := a) (j := k) s_79 rfl rfl rfl (fun w' hs => (rA hs h_a)) rfl (lS hr0)) (q1 rfl (lra a_188 rfl rfl at5) (p1 rfl (li rfl (cv b_151 rfl rfl rfl rfl (fun w' hs => (laws_szAction w' [(.int .i64 r0.Kind), (.string r0.Pattern.Rel), u7] r0 lf (rA hs hr6) (by first | assumption | omega | (unfold szm at *; split at * <;> omega)) (by first | assumption | omega | (unfold szm at *; split at * <;> omega)) hro)) ?_))))
    refine Pe rfl (Sr (P2 rfl rfl (Dx (Ci _ rfl (fun h11 => ?_) (fun h11 => ?_)))))
    ·have pr11 : ((szm (szAction r0) lf) : Int) < 0 := odT h11
     refine Sr (Pe rfl (Ct (Xq (Xr (Xr (Xq (Xr (Ri rfl rfl ?_))))))))
     show ((-1) : Int) = _
     refine (szm_neg ?_).symm; unfold szL; unfold szm at *; split at * <;> omega
    ·have pr11 : ¬ ((szm (szAction r0) lf) : Int) < 0 := odF h11
     have pr11z := szm_val (n := (szAction r0)) (left := lf) pr11
     refine Ck (Xb (Xt (Cr (p1 rfl (q1 rfl (D_add rfl rfl rfl (r := ((k + 1 : Nat) : Int)) (by omega) (by omega)) (Pe rfl (fun ac w' hf hs => ⟨_, ?_, k + 1, (szm (szAction r0) lf), ?_, ?_, rfl, hf.weak ⟨rfl, rfl, rfl, trivial⟩, hs⟩)))))))
     ·omega
     ·first | assumption | omega | simp
     ·rw [hst]; unfold szm at *; split at * <;> omega
   ·have pr3 : ¬ (((k : Nat) : Int) : Int) < ((a.length : Nat) : Int) := odF h3
    refine Cx (Xx (Xx (Xe (Xt (Sr (P2 rfl rfl (Dx (Ct (Ri rfl rfl ?_)))))))))
    show (lf : Int) = _
    rw [szm_pos]; all_goals (unfold szL; rw [List.take_of_length_le (by omega)] at hl; omega)
theorem laws_toActionS (w : World) (v_a : Value) (a : (List Action)) (h_a : Gd.rd w [v_a] a) (hn : szL szAction a ≤ 1048576) : Calls Tryz.prog 106 [v_a].toArray w (Res w (a : List Action)) := by
 have hm1 := rd_max h_a
 unfold szL at hn
 refine enter 23 Tryz.func106 rfl rfl rfl (Sr (Pe rfl (Sr (p1 rfl (q1 rfl (Dl s_79 rfl rfl (rd_sl h_a)) (li rfl (D_mkG (α := Action) (z0 := z0_Action) s_94 y_159 rfl rfl rfl rfl rfl rfl zz_Action (by omega) (by omega) fun v2 => ?_)))))))
 refine Pe rfl (Dh ([ov [v2] (List.replicate a.length z0_Action : (List Action))]) rfl (Cq (Sr (Pe rfl (Cb (Cl (fun m_ ac w' => ∃ (k : Nat), ∃ (v : Value), (k ≤ a.length) ∧ m_ = a.length - k ∧ Fits ac 23 [(0, v_a), (3, v), (4, (.int .i64 ((k : Nat) : Int)))] ∧ St w ([ov [v] (cp a z0_Action k : (List Action))]) w') ?_ ?_))))))
 ·refine D_eq 0 rfl (show (List.replicate a.length z0_Action : (List Action)) = cp a z0_Action 0 from by rw [cp_zero]) (fun ac w' hf hs => ⟨_, 0, v2, ?_, rfl, hf.weak ⟨rfl, rfl, rfl, trivial⟩, hs⟩)
  ·first | assumption | omega | simp
 ·rintro m_ ac w' ⟨k, v, hk, rfl, hf, hs⟩
  refine D.use ?_ hf hs
  clear hf hs ac w'
  have hcl := cp_len a z0_Action k hk
  refine Cq (Sr (P2 rfl rfl (q1 rfl (Dl s_79 rfl rfl (rd_sl h_a)) (Pe rfl (Dh ([ov [v] (cp a z0_Action k : (List Action))]) rfl (Ci _ rfl (fun h3 => ?_) (fun h3 => ?_)))))))
  ·have pr3 : (((k : Nat) : Int) : Int) < ((a.length : Nat) : Int) := odT h3
   refine Sk (Cq (Cb (Cr (P3 rfl rfl rfl (p1 rfl ?_)))))
   obtain ⟨x4, hx5⟩ := sL (l := a) (i := k) (by omega)
   have hle := sumC_mem (c := szAction) (mem_idx hx5)
   obtain ⟨es6, at7, hr8⟩ := rd_elem (n := 3) rfl h_a hx5
   obtain ⟨u9, rfl, hu10⟩ := open_Action hr8
   have hm11 := rd_max hu10
   have hb12 := sub_Action_Pattern hr8
   refine q1 rfl (D_ix (l := a) (j := k) s_79 rfl rfl rfl (fun w' hs => (rA hs h_a)) rfl (lS hx5)) (q1 rfl (lra a_188 rfl rfl at7) (li rfl (crs rfl b_162 rfl rfl rfl rfl (fun w' hs => (laws_toAction w' [(.int .i64 x4.Kind), (.string x4.Pattern.Rel), u9] x4 (rA hs hr8) (by first | assumption | omega | (unfold szm at *; split at * <;> omega)))) fun cs13 => ?_)))
   refine Dp (fun w' hs => shape_Action (rO (k := 0) hs rfl)) ?_
   rintro ⟨v14, rfl, ho15⟩
   obtain ⟨x16, hx17⟩ := sL (l := (cp a z0_Action k)) (i := k) (by omega)
   refine q1 rfl (D_ix (l := (cp a z0_Action k)) (j := k) s_94 rfl rfl rfl (fun w' hs => (rO (k := 1) hs rfl)) rfl (lS hx17)) (D_pk (H' := [ov [v] (cp a z0_Action k : (List Action)), ov [(.int .i64 x4.Kind), (.string x4.Pattern.Rel), v14] (x4 : Action)]) [1, 0] rfl rfl (li rfl (soG (α := Action) rfl z_159 rfl rfl rfl rfl rfl (lS hx17) ?_)))
   refine De (Xb (Xt (Dh ([ov [v] ((cp a z0_Action k).set k x4 : (List Action))]) rfl (Cr (p1 rfl (q1 rfl (D_add rfl rfl rfl (r := ((k + 1 : Nat) : Int)) (by omega) (by omega)) (Pe rfl (D_eq 0 rfl (show ((cp a z0_Action k).set k x4 : (List Action)) = cp a z0_Action (k + 1) from by rw [cp_set (by assumption)]) (fun ac w' hf hs => ⟨_, ?_, k + 1, v, ?_, rfl, hf.weak ⟨rfl, rfl, rfl, trivial⟩, hs⟩)))))))))
   ·omega
   ·first | assumption | omega | simp
  ·have pr3 : ¬ (((k : Nat) : Int) : Int) < ((a.length : Nat) : Int) := odF h3
   refine Cx (Xx (Xx (Xe (Xt (Sr (P2 rfl rfl (Dx (Ct (R_1 rfl rfl fun w' hs => res_of (k := 0) hs rfl ?_)))))))))
   show cp a z0_Action k = a
   exact cp_done (by omega)
theorem laws_eqActionS (w : World) (v_a : Value) (a : (List Action)) (v_b : Value) (b : (List Action)) (h_a : Gd.rd w [v_a] a) (h_b : Gd.rd w [v_b] b) : Calls Tryz.prog 116 [v_a, v_b].toArray w (Val w (.bool (decide (a = b)))) := by
 have hm1 := rd_max h_a
 have hm2 := rd_max h_b
 refine enter 27 Tryz.func116 rfl rfl rfl (Sr (Pe rfl (Cq (Sr (p1 rfl (q1 rfl (Dl s_94 rfl rfl (rd_sl h_a)) (p1 rfl (q1 rfl (Dl s_94 rfl rfl (rd_sl h_b)) (Pe rfl (Ci _ rfl (fun h3 => ?_) (fun h3 => ?_)))))))))))
 ·have pr3 : (((a.length : Nat) : Int) : Int) ≠ ((b.length : Nat) : Int) := bne_iff_ne.1 h3
  refine Sr (Pe rfl (Ct (Xr (Rb rfl rfl ?_))))
  simp; intro e; subst e; simp_all
 ·have pr3 : (((a.length : Nat) : Int) : Int) = ((b.length : Nat) : Int) := eq_of_bne_f h3
  refine Sk (Cq (Sr (Pe rfl (Cb (Cl (fun m_ ac w' => ∃ (k : Nat), (k ≤ a.length) ∧ (∀ i, i < k → a[i]? = b[i]?) ∧ m_ = a.length - k ∧ Fits ac 27 [(0, v_a), (1, v_b), (5, (.int .i64 ((k : Nat) : Int)))] ∧ St w ([]) w') ?_ ?_)))))
  ·refine fun ac w' hf hs => ⟨_, 0, ?_, ?_, rfl, hf.weak ⟨rfl, rfl, rfl, trivial⟩, hs⟩
   ·first | assumption | omega | simp
   ·intro i hi; omega
  ·rintro m_ ac w' ⟨k, hk, hi, rfl, hf, hs⟩
   refine D.use ?_ hf hs
   clear hf hs ac w'
   refine Cq (Sr (P2 rfl rfl (q1 rfl (Dl s_94 rfl rfl (rd_sl h_a)) (Pe rfl (Ci _ rfl (fun h4 => ?_) (fun h4 => ?_))))))
   ·have pr4 : (((k : Nat) : Int) : Int) < ((a.length : Nat) : Int) := odT h4
    refine Sk (Cq (Cb (Cq (C_draw mixed [8, 9] (by kernel_rfl) (Tk 0 rfl (by kernel_rfl) rfl (rp rfl) (Tk 1 rfl (by kernel_rfl) rfl (rp rfl) ?_))))))
    obtain ⟨x5, hx6⟩ := sL (l := a) (i := k) (by omega)
    obtain ⟨es7, at8, hr9⟩ := rd_elem (n := 3) rfl h_a hx6
    obtain ⟨u10, rfl, hu11⟩ := open_Action hr9
    have hm12 := rd_max hu11
    have hb13 := sub_Action_Pattern hr9
    refine Tk 2 rfl (by kernel_rfl) rfl (D_ix (l := a) (j := k) s_94 rfl rfl rfl (fun w' hs => (rA hs h_a)) rfl (lS hx6)) (Tk 3 rfl (by kernel_rfl) rfl (lra a_159 rfl rfl at8) (Tk 4 rfl (by kernel_rfl) rfl (rp rfl) (Tk 5 rfl (by kernel_rfl) rfl (rp rfl) ?_)))
    obtain ⟨x14, hx15⟩ := sL (l := b) (i := k) (by omega)
    obtain ⟨es16, at17, hr18⟩ := rd_elem (n := 3) rfl h_b hx15
    obtain ⟨u19, rfl, hu20⟩ := open_Action hr18
    have hm21 := rd_max hu20
    have hb22 := sub_Action_Pattern hr18
    refine Tk 6 rfl (by kernel_rfl) rfl (D_ix (l := b) (j := k) s_94 rfl rfl rfl (fun w' hs => (rA hs h_b)) rfl (lS hx15)) (Tk 7 rfl (by kernel_rfl) rfl (lra a_159 rfl rfl at17) (ty 8 rfl (by kernel_rfl) rfl (cv b_175 rfl rfl rfl rfl (fun w' hs => (laws_eqAction w' [(.int .i64 x5.Kind), (.string x5.Pattern.Rel), u10] x5 [(.int .i64 x14.Kind), (.string x14.Pattern.Rel), u19] x14 (rA hs hr9) (rA hs hr18))) ?_)))
    refine tZ rfl (ty 9 rfl (by kernel_rfl) rfl (sv rfl rfl (rp rfl) ?_))
    refine tZ rfl (tE (by kernel_rfl) (Xt (Ci _ rfl (fun h23 => ?_) (fun h23 => ?_))))
    ·have h23n : (decide (x5 = x14)) = false := not_t h23
     refine Sr (Pe rfl (Ct (Xq (Xr (Xr (Xq (Xr (Rb rfl rfl ?_))))))))
     simp; intro e; subst e; simp_all
    ·have h23n : (decide (x5 = x14)) = true := not_f h23
     refine Ck (Xb (Xt (Cr (p1 rfl (q1 rfl (D_add rfl rfl rfl (r := ((k + 1 : Nat) : Int)) (by omega) (by omega)) (Pe rfl (fun ac w' hf hs => ⟨_, ?_, k + 1, ?_, ?_, rfl, hf.weak ⟨rfl, rfl, rfl, trivial⟩, hs⟩)))))))
     ·omega
     ·first | assumption | omega | simp
     ·refine idx_step hi (by assumption) (by assumption) ?_; first | (simp_all; done) | (apply Fact.mk_eq <;> simp_all)
   ·have pr4 : ¬ (((k : Nat) : Int) : Int) < ((a.length : Nat) : Int) := odF h4
    refine Cx (Xx (Xx (Xe (Xt (Sr (Pe rfl (Ct (Rb rfl rfl ?_))))))))
    simp; exact eq_of_idx (by omega) (fun i h => hi i (by omega))
theorem laws_szRule (w : World) (c_a : List Value) (a : Rule) (left : Int) (h_a : Gd.rd w c_a a) (h0 : 0 ≤ left) (h1 : left ≤ 1048576) (ho : okRule a) : Calls Tryz.prog 36 [(.agg c_a.toArray), (.int .i64 left)].toArray w (Val w (.int .i64 (szm (szRule a) left))) := by
 obtain ⟨u1, u3, rfl, hu2, hu4⟩ := open_Rule h_a
 have hm5 := rd_max hu2
 have hm6 := rd_max hu4
 have ho1 : a.Name.size ≤ 9223372036854775807 := ho.1
 refine enter 25 Tryz.func36 rfl rfl rfl (Sr (li rfl (D_box rfl rfl rfl rfl rfl fun g7 => ?_)))
 refine Pe rfl (Dh ([bx g7 [(.string a.Name), (.int .i64 a.Priority), u1, u3]]) rfl (Sr (p1 rfl (q1 rfl (Db f_81_0 rfl rfl (q := 0) rfl) (q1 rfl (lb 0 o_9 rfl rfl rfl rfl) (q1 rfl (D_lens us_9 rfl rfl) (q1 rfl (D_sub rfl rfl rfl rfl (by omega)) (Pe rfl (Cq (Sr (P2 rfl rfl (Dx (Ci _ rfl (fun h8 => ?_) (fun h8 => ?_))))))))))))))
 ·have pr8 : ((left - ((a.Name.size : Nat) : Int)) : Int) < 0 := odT h8
  refine Sr (Pe rfl (Ct (Xr (Ri rfl rfl ?_))))
  show ((-1) : Int) = _
  unfold szRule szm at *; repeat (split at * <;> try omega)
 ·have pr8 : ¬ ((left - ((a.Name.size : Nat) : Int)) : Int) < 0 := odF h8
  refine Sk (Sr (q1 rfl (Db f_81_2 rfl rfl (q := 2) rfl) (q1 rfl (lb 0 o_78 rfl rfl rfl rfl) (p1 rfl (li rfl (cv b_95 rfl rfl rfl rfl (fun w' hs => (laws_szCondS w' u1 a.If (left - ((a.Name.size : Nat) : Int)) (rA hs hu2) (by first | assumption | omega | (unfold szm at *; split at * <;> omega)) (by first | assumption | omega | (unfold szm at *; split at * <;> omega)) ho.2.2.1)) ?_))))))
  refine Pe rfl (Cq (Sr (P2 rfl rfl (Dx (Ci _ rfl (fun h9 => ?_) (fun h9 => ?_))))))
  ·have pr9 : ((szm (szL szCond a.If) (left - ((a.Name.size : Nat) : Int))) : Int) < 0 := odT h9
   refine Sr (Pe rfl (Ct (Xr (Ri rfl rfl ?_))))
   show ((-1) : Int) = _
   unfold szRule szm at *; repeat (split at * <;> try omega)
  ·have pr9 : ¬ ((szm (szL szCond a.If) (left - ((a.Name.size : Nat) : Int))) : Int) < 0 := odF h9
   have pr9z := szm_val (n := (szL szCond a.If)) (left := (left - ((a.Name.size : Nat) : Int))) pr9
   refine Sk (Dw [(1, (.int .i64 (szm (szL szCond a.If) (left - ((a.Name.size : Nat) : Int))))), (2, (.pointer (some ⟨g7, 0, none⟩)))] ⟨rfl, rfl, trivial⟩ (Sr (q1 rfl (Db f_81_3 rfl rfl (q := 3) rfl) (q1 rfl (lb 0 o_79 rfl rfl rfl rfl) (p1 rfl (li rfl (cv b_96 rfl rfl rfl rfl (fun w' hs => (laws_szActionS w' u3 a.Then (szm (szL szCond a.If) (left - ((a.Name.size : Nat) : Int))) (rA hs hu4) (by first | assumption | omega | (unfold szm at *; split at * <;> omega)) (by first | assumption | omega | (unfold szm at *; split at * <;> omega)) ho.2.2.2)) ?_)))))))
   refine Pe rfl (Cq (Sr (P2 rfl rfl (Dx (Ci _ rfl (fun h10 => ?_) (fun h10 => ?_))))))
   ·have pr10 : ((szm (szL szAction a.Then) (szm (szL szCond a.If) (left - ((a.Name.size : Nat) : Int)))) : Int) < 0 := odT h10
    refine Sr (Pe rfl (Ct (Xr (Ri rfl rfl ?_))))
    show ((-1) : Int) = _
    unfold szRule szm at *; repeat (split at * <;> try omega)
   ·have pr10 : ¬ ((szm (szL szAction a.Then) (szm (szL szCond a.If) (left - ((a.Name.size : Nat) : Int)))) : Int) < 0 := odF h10
    have pr10z := szm_val (n := (szL szAction a.Then)) (left := (szm (szL szCond a.If) (left - ((a.Name.size : Nat) : Int)))) pr10
    refine Sk (Sr (P2 rfl rfl (Dx (Ct (Ri rfl rfl ?_)))))
    show ((szm (szL szAction a.Then) (szm (szL szCond a.If) (left - ((a.Name.size : Nat) : Int)))) : Int) = _
    unfold szRule szm at *; repeat (split at * <;> try omega)
theorem laws_toRule (w : World) (c_a : List Value) (a : Rule) (h_a : Gd.rd w c_a a) (hn : szRule a ≤ 1048576) : Calls Tryz.prog 47 [(.agg c_a.toArray)].toArray w (Res w (a : Rule)) := by
 obtain ⟨u1, u3, rfl, hu2, hu4⟩ := open_Rule h_a
 have hm5 := rd_max hu2
 have hm6 := rd_max hu4
 unfold szRule at hn
 refine enter 19 Tryz.func47 rfl rfl rfl (Sr (li rfl (D_box rfl rfl rfl rfl rfl fun g7 => ?_)))
 refine li rfl (D_alloc y_96 rfl rfl rfl rfl fun g8 => ?_)
 refine Dx (Dh ([bx g8 [(.string ⟨#[]⟩), (.int .i64 0), (.slice none 0 0), (.slice none 0 0)], bx g7 [(.string a.Name), (.int .i64 a.Priority), u1, u3]]) rfl (Sr (li rfl (D_alloc y_96 rfl rfl rfl rfl fun g9 => ?_))))
 refine Dx (Dh ([bx g9 [(.string ⟨#[]⟩), (.int .i64 0), (.slice none 0 0), (.slice none 0 0)], bx g8 [(.string ⟨#[]⟩), (.int .i64 0), (.slice none 0 0), (.slice none 0 0)], bx g7 [(.string a.Name), (.int .i64 a.Priority), u1, u3]]) rfl (Sr (q1 rfl (Db f_81_0 rfl rfl (q := 0) rfl) (q1 rfl (lb 2 o_9 rfl rfl rfl rfl) (q1 rfl (Db f_96_0 rfl rfl (q := 0) rfl) (li rfl (D_stb (vs := [(.string a.Name)]) (cs' := [(.string a.Name), (.int .i64 0), (.slice none 0 0), (.slice none 0 0)]) 0 z_9 rfl rfl rfl rfl rfl rfl (ocons rfl onil) (by simp) rfl ?_)))))))
 refine Dx (Dh ([bx g9 [(.string a.Name), (.int .i64 0), (.slice none 0 0), (.slice none 0 0)], bx g8 [(.string ⟨#[]⟩), (.int .i64 0), (.slice none 0 0), (.slice none 0 0)], bx g7 [(.string a.Name), (.int .i64 a.Priority), u1, u3]]) rfl (Sr (q1 rfl (Db f_81_1 rfl rfl (q := 1) rfl) (q1 rfl (lb 2 o_3 rfl rfl rfl rfl) (q1 rfl (Db f_96_1 rfl rfl (q := 1) rfl) (li rfl (D_stb (vs := [(.int .i64 a.Priority)]) (cs' := [(.string a.Name), (.int .i64 a.Priority), (.slice none 0 0), (.slice none 0 0)]) 0 z_3 rfl rfl rfl rfl rfl rfl (ocons rfl onil) (by simp) rfl ?_)))))))
 refine Dx (Dh ([bx g9 [(.string a.Name), (.int .i64 a.Priority), (.slice none 0 0), (.slice none 0 0)], bx g8 [(.string ⟨#[]⟩), (.int .i64 0), (.slice none 0 0), (.slice none 0 0)], bx g7 [(.string a.Name), (.int .i64 a.Priority), u1, u3]]) rfl (Sr (q1 rfl (Db f_81_2 rfl rfl (q := 2) rfl) (q1 rfl (lb 2 o_78 rfl rfl rfl rfl) (li rfl (crl b_105 rfl rfl rfl rfl (fun w' hs => (laws_toCondS w' u1 a.If (rA hs hu2) (by first | assumption | omega | (unfold szm at *; split at * <;> omega)))) fun v10 => ?_))))))
 refine q1 rfl (Db f_96_2 rfl rfl (q := 2) rfl) (Dp (fun w' hs => one_own (k := 0) hs rfl) ?_)
 intro ho11
 refine li rfl (D_stb (vs := [v10]) (cs' := [(.string a.Name), (.int .i64 a.Priority), v10, (.slice none 0 0)]) 1 z_93 rfl rfl rfl rfl rfl (cells_of_one ho11) (ocons ho11 onil) (by simp) rfl ?_)
 refine Dx (Dh ([ov [v10] (a.If : (List Cond)), bx g9 [(.string a.Name), (.int .i64 a.Priority), v10, (.slice none 0 0)], bx g8 [(.string ⟨#[]⟩), (.int .i64 0), (.slice none 0 0), (.slice none 0 0)], bx g7 [(.string a.Name), (.int .i64 a.Priority), u1, u3]]) rfl (Sr (q1 rfl (Db f_81_3 rfl rfl (q := 3) rfl) (q1 rfl (lb 3 o_79 rfl rfl rfl rfl) (li rfl (crl b_106 rfl rfl rfl rfl (fun w' hs => (laws_toActionS w' u3 a.Then (rA hs hu4) (by first | assumption | omega | (unfold szm at *; split at * <;> omega)))) fun v12 => ?_))))))
 refine q1 rfl (Db f_96_3 rfl rfl (q := 3) rfl) (Dp (fun w' hs => one_own (k := 0) hs rfl) ?_)
 intro ho13
 refine li rfl (D_stb (vs := [v12]) (cs' := [(.string a.Name), (.int .i64 a.Priority), v10, v12]) 2 z_94 rfl rfl rfl rfl rfl (cells_of_one ho13) (ocons ho13 onil) (by simp) rfl ?_)
 refine Dx (Dw [(2, (.pointer (some ⟨g8, 0, none⟩))), (3, (.pointer (some ⟨g9, 0, none⟩)))] ⟨rfl, rfl, trivial⟩ (Ds (H' := [ov [v12] (a.Then : (List Action)), ov [v10] (a.If : (List Cond)), bx g9 [(.string a.Name), (.int .i64 a.Priority), v10, v12], bx g8 [(.string ⟨#[]⟩), (.int .i64 0), (.slice none 0 0), (.slice none 0 0)]]) [true, true, true, true, false] rfl (Sr (q1 rfl (lbw 2 a_96 rfl rfl rfl) (li rfl (D_stb (vs := [(.string a.Name), (.int .i64 a.Priority), v10, v12]) (cs' := [(.string a.Name), (.int .i64 a.Priority), v10, v12]) 3 z_96 rfl rfl rfl rfl rfl rfl (ocons rfl (ocons rfl (ocons ho11 (ocons ho13 onil)))) (by simp) rfl ?_))))))
 refine Dx (Ct (D_pk (H' := [ov [v10] (a.If : (List Cond)), ov [v12] (a.Then : (List Action)), bx g9 [(.string a.Name), (.int .i64 a.Priority), v10, v12], bx g8 [(.string a.Name), (.int .i64 a.Priority), v10, v12]]) [1, 0, 2, 3] rfl rfl (pk_Rule (r := (a : Rule)) (R_c 2 a_96 rfl rfl rfl fun w' hs => res_of (k := 0) hs rfl ?_))))
 show (a : Rule) = a
 rfl
theorem laws_eqRule (w : World) (c_a : List Value) (a : Rule) (c_b : List Value) (b : Rule) (h_a : Gd.rd w c_a a) (h_b : Gd.rd w c_b b) : Calls Tryz.prog 55 [(.agg c_a.toArray), (.agg c_b.toArray)].toArray w (Val w (.bool (decide (a = b)))) := by
 obtain ⟨u1, u3, rfl, hu2, hu4⟩ := open_Rule h_a
 have hm5 := rd_max hu2
 have hm6 := rd_max hu4
 obtain ⟨u7, u9, rfl, hu8, hu10⟩ := open_Rule h_b
 have hm11 := rd_max hu8
 have hm12 := rd_max hu10
 refine enter 27 Tryz.func55 rfl rfl rfl (Sr (li rfl (D_box rfl rfl rfl rfl rfl fun g13 => ?_)))
 refine li rfl (D_box rfl rfl rfl rfl rfl fun g14 => ?_)
 refine Pe rfl (Dh ([bx g14 [(.string b.Name), (.int .i64 b.Priority), u7, u9], bx g13 [(.string a.Name), (.int .i64 a.Priority), u1, u3]]) rfl (Cq (Sr (q1 rfl (Db f_96_0 rfl rfl (q := 0) rfl) (q1 rfl (lb 1 o_9 rfl rfl rfl rfl) (q1 rfl (Db f_96_0 rfl rfl (q := 0) rfl) (q1 rfl (lb 0 o_9 rfl rfl rfl rfl) (q1 rfl (D_neS rfl rfl rfl) (Dx (Ci _ rfl (fun h15 => ?_) (fun h15 => ?_)))))))))))
 ·have pr15 : ¬ (a.Name : ByteArray) = b.Name := of_decide_eq_false (not_t h15)
  refine Sr (Pe rfl (Ct (Xr (Rb rfl rfl ?_))))
  cases a; cases b; simp_all
 ·have pr15 : (a.Name : ByteArray) = b.Name := of_decide_eq_true (not_f h15)
  refine Sk (Cq (Sr (q1 rfl (Db f_96_1 rfl rfl (q := 1) rfl) (q1 rfl (lb 1 o_3 rfl rfl rfl rfl) (q1 rfl (Db f_96_1 rfl rfl (q := 1) rfl) (q1 rfl (lb 0 o_3 rfl rfl rfl rfl) (Pe rfl (Ci _ rfl (fun h16 => ?_) (fun h16 => ?_)))))))))
  ·have pr16 : (a.Priority : Int) ≠ b.Priority := bne_iff_ne.1 h16
   refine Sr (Pe rfl (Ct (Xr (Rb rfl rfl ?_))))
   cases a; cases b; simp_all
  ·have pr16 : (a.Priority : Int) = b.Priority := eq_of_bne_f h16
   refine Sk (Cq (Sr (q1 rfl (Db f_96_2 rfl rfl (q := 2) rfl) (q1 rfl (lb 1 o_93 rfl rfl rfl rfl) (q1 rfl (Db f_96_2 rfl rfl (q := 2) rfl) (q1 rfl (lb 0 o_93 rfl rfl rfl rfl) (li rfl (cv b_115 rfl rfl rfl rfl (fun w' hs => (laws_eqCondS w' u1 a.If u7 b.If (rA hs hu2) (rA hs hu8))) ?_))))))))
   refine Pe rfl (Dw [(2, (.pointer (some ⟨g13, 0, none⟩))), (3, (.pointer (some ⟨g14, 0, none⟩))), (20, (.bool (!(decide (a.If = b.If)))))] ⟨rfl, rfl, rfl, trivial⟩ (Ci _ rfl (fun h17 => ?_) (fun h17 => ?_)))
   ·have h17n : (decide (a.If = b.If)) = false := not_t h17
    refine Sr (Pe rfl (Ct (Xr (Rb rfl rfl ?_))))
    cases a; cases b; simp_all
   ·have h17n : (decide (a.If = b.If)) = true := not_f h17
    refine Sk (Cq (Sr (q1 rfl (Db f_96_3 rfl rfl (q := 3) rfl) (q1 rfl (lb 1 o_94 rfl rfl rfl rfl) (q1 rfl (Db f_96_3 rfl rfl (q := 3) rfl) (q1 rfl (lb 0 o_94 rfl rfl rfl rfl) (li rfl (cv b_116 rfl rfl rfl rfl (fun w' hs => (laws_eqActionS w' u3 a.Then u9 b.Then (rA hs hu4) (rA hs hu10))) ?_))))))))
    refine Pe rfl (Ci _ rfl (fun h18 => ?_) (fun h18 => ?_))
    ·have h18n : (decide (a.Then = b.Then)) = false := not_t h18
     refine Sr (Pe rfl (Ct (Xr (Rb rfl rfl ?_))))
     cases a; cases b; simp_all
    ·have h18n : (decide (a.Then = b.Then)) = true := not_f h18
     refine Sk (Sr (Pe rfl (Ct (Rb rfl rfl ?_))))
     cases a; cases b; simp_all
theorem laws_szStamp (w : World) (c_a : List Value) (a : Stamp) (left : Int) (h_a : Gd.rd w c_a a) (h0 : 0 ≤ left) (h1 : left ≤ 1048576) (ho : okStamp a) : Calls Tryz.prog 37 [(.agg c_a.toArray), (.int .i64 left)].toArray w (Val w (.int .i64 (szm (szStamp a) left))) := by
 obtain ⟨u1, rfl, hu2⟩ := open_Stamp h_a
 have hm3 := rd_max hu2
 have hb4 := sub_Stamp_Fact h_a
 refine enter 12 Tryz.func37 rfl rfl rfl (Sr (li rfl (D_box rfl rfl rfl rfl rfl fun g5 => ?_)))
 refine Pe rfl (Dh ([bx g5 [(.string a.Fact.Rel), u1, (.int .i64 a.Time)]]) rfl (Sr (q1 rfl (Db f_84_0 rfl rfl (q := 0) rfl) (q1 rfl (lba (es := [(.string a.Fact.Rel), u1]) 0 a_60 rfl rfl rfl rfl) (p1 rfl (li rfl (cv b_24 rfl rfl rfl rfl (fun w' hs => (laws_szFact w' [(.string a.Fact.Rel), u1] a.Fact left (rA hs hb4) (by first | assumption | omega | (unfold szm at *; split at * <;> omega)) (by first | assumption | omega | (unfold szm at *; split at * <;> omega)) ho.1)) ?_)))))))
 refine Pe rfl (Cq (Sr (P2 rfl rfl (Dx (Ci _ rfl (fun h6 => ?_) (fun h6 => ?_))))))
 ·have pr6 : ((szm (szFa a.Fact) left) : Int) < 0 := odT h6
  refine Sr (Pe rfl (Ct (Xr (Ri rfl rfl ?_))))
  show ((-1) : Int) = _
  unfold szStamp szm at *; repeat (split at * <;> try omega)
 ·have pr6 : ¬ ((szm (szFa a.Fact) left) : Int) < 0 := odF h6
  have pr6z := szm_val (n := (szFa a.Fact)) (left := left) pr6
  refine Sk (Sr (P2 rfl rfl (Dx (Ct (Ri rfl rfl ?_)))))
  show ((szm (szFa a.Fact) left) : Int) = _
  unfold szStamp szm at *; repeat (split at * <;> try omega)
theorem laws_toStamp (w : World) (c_a : List Value) (a : Stamp) (h_a : Gd.rd w c_a a) (hn : szStamp a ≤ 1048576) : Calls Tryz.prog 48 [(.agg c_a.toArray)].toArray w (Res w (a : Stamp)) := by
 obtain ⟨u1, rfl, hu2⟩ := open_Stamp h_a
 have hm3 := rd_max hu2
 have hb4 := sub_Stamp_Fact h_a
 unfold szStamp at hn
 refine enter 12 Tryz.func48 rfl rfl rfl (Sr (li rfl (D_box rfl rfl rfl rfl rfl fun g5 => ?_)))
 refine li rfl (D_alloc y_100 rfl rfl rfl rfl fun g6 => ?_)
 refine Dx (Dh ([bx g6 [(.string ⟨#[]⟩), (.slice none 0 0), (.int .i64 0)], bx g5 [(.string a.Fact.Rel), u1, (.int .i64 a.Time)]]) rfl (Sr (li rfl (D_alloc y_100 rfl rfl rfl rfl fun g7 => ?_))))
 refine Dx (Dh ([bx g7 [(.string ⟨#[]⟩), (.slice none 0 0), (.int .i64 0)], bx g6 [(.string ⟨#[]⟩), (.slice none 0 0), (.int .i64 0)], bx g5 [(.string a.Fact.Rel), u1, (.int .i64 a.Time)]]) rfl (Sr (q1 rfl (Db f_84_0 rfl rfl (q := 0) rfl) (q1 rfl (lba (es := [(.string a.Fact.Rel), u1]) 2 a_60 rfl rfl rfl rfl) (li rfl (crs rfl b_27 rfl rfl rfl rfl (fun w' hs => (laws_toFact w' [(.string a.Fact.Rel), u1] a.Fact (rA hs hb4) (by first | assumption | omega | (unfold szm at *; split at * <;> omega)))) fun cs8 => ?_))))))
 refine Dp (fun w' hs => shape_Fact (rO (k := 0) hs rfl)) ?_
 rintro ⟨v9, rfl, ho10⟩
 refine q1 rfl (Db f_100_0 rfl rfl (q := 0) rfl) (li rfl (D_stb (vs := [(.string a.Fact.Rel), v9]) (cs' := [(.string a.Fact.Rel), v9, (.int .i64 0)]) 1 z_70 rfl rfl rfl rfl rfl rfl (ocons rfl (ocons ho10 onil)) (by simp) rfl ?_))
 refine Dx (Dh ([ov [(.string a.Fact.Rel), v9] (a.Fact : Fact), bx g7 [(.string a.Fact.Rel), v9, (.int .i64 0)], bx g6 [(.string ⟨#[]⟩), (.slice none 0 0), (.int .i64 0)], bx g5 [(.string a.Fact.Rel), u1, (.int .i64 a.Time)]]) rfl (Sr (q1 rfl (Db f_84_1 rfl rfl (q := 2) rfl) (q1 rfl (lb 3 o_3 rfl rfl rfl rfl) (q1 rfl (Db f_100_1 rfl rfl (q := 2) rfl) (li rfl (D_stb (vs := [(.int .i64 a.Time)]) (cs' := [(.string a.Fact.Rel), v9, (.int .i64 a.Time)]) 1 z_3 rfl rfl rfl rfl rfl rfl (ocons rfl onil) (by simp) rfl ?_)))))))
 refine Dx (Dh ([ov [(.string a.Fact.Rel), v9] (a.Fact : Fact), bx g7 [(.string a.Fact.Rel), v9, (.int .i64 a.Time)], bx g6 [(.string ⟨#[]⟩), (.slice none 0 0), (.int .i64 0)], bx g5 [(.string a.Fact.Rel), u1, (.int .i64 a.Time)]]) rfl (Sr (q1 rfl (lbw 1 a_100 rfl rfl rfl) (li rfl (D_stb (vs := [(.string a.Fact.Rel), v9, (.int .i64 a.Time)]) (cs' := [(.string a.Fact.Rel), v9, (.int .i64 a.Time)]) 2 z_100 rfl rfl rfl rfl rfl rfl (ocons rfl (ocons ho10 (ocons rfl onil))) (by simp) rfl ?_)))))
 refine Dx (Ct (D_unpair (α := ByteArray) (β := (List ByteArray)) (c1 := [(.string a.Fact.Rel)]) (c2 := [v9]) (x := a.Fact.Rel) (y := (a.Fact.Args)) rfl rfl (D_fd [] 1 rfl (pk_Stamp (r := (a : Stamp)) (R_c 2 a_100 rfl rfl rfl fun w' hs => res_of (k := 0) hs rfl ?_)))))
 show (a : Stamp) = a
 rfl
theorem laws_eqStamp (w : World) (c_a : List Value) (a : Stamp) (c_b : List Value) (b : Stamp) (h_a : Gd.rd w c_a a) (h_b : Gd.rd w c_b b) : Calls Tryz.prog 56 [(.agg c_a.toArray), (.agg c_b.toArray)].toArray w (Val w (.bool (decide (a = b)))) := by
 obtain ⟨u1, rfl, hu2⟩ := open_Stamp h_a
 have hm3 := rd_max hu2
 have hb4 := sub_Stamp_Fact h_a
 obtain ⟨u5, rfl, hu6⟩ := open_Stamp h_b
 have hm7 := rd_max hu6
 have hb8 := sub_Stamp_Fact h_b
 refine enter 16 Tryz.func56 rfl rfl rfl (Sr (li rfl (D_box rfl rfl rfl rfl rfl fun g9 => ?_)))
 refine li rfl (D_box rfl rfl rfl rfl rfl fun g10 => ?_)
 refine Pe rfl (Dh ([bx g10 [(.string b.Fact.Rel), u5, (.int .i64 b.Time)], bx g9 [(.string a.Fact.Rel), u1, (.int .i64 a.Time)]]) rfl (Cq (Sr (q1 rfl (Db f_100_0 rfl rfl (q := 0) rfl) (q1 rfl (lba (es := [(.string a.Fact.Rel), u1]) 1 a_70 rfl rfl rfl rfl) (q1 rfl (Db f_100_0 rfl rfl (q := 0) rfl) (q1 rfl (lba (es := [(.string b.Fact.Rel), u5]) 0 a_70 rfl rfl rfl rfl) (li rfl (cv b_30 rfl rfl rfl rfl (fun w' hs => (laws_eqFact w' [(.string a.Fact.Rel), u1] a.Fact [(.string b.Fact.Rel), u5] b.Fact (rA hs hb4) (rA hs hb8))) ?_)))))))))
 refine Pe rfl (Ci _ rfl (fun h11 => ?_) (fun h11 => ?_))
 ·have h11n : (decide (a.Fact = b.Fact)) = false := not_t h11
  refine Sr (Pe rfl (Ct (Xr (Rb rfl rfl ?_))))
  cases a; cases b; simp_all
 ·have h11n : (decide (a.Fact = b.Fact)) = true := not_f h11
  refine Sk (Cq (Sr (q1 rfl (Db f_100_1 rfl rfl (q := 2) rfl) (q1 rfl (lb 1 o_3 rfl rfl rfl rfl) (q1 rfl (Db f_100_1 rfl rfl (q := 2) rfl) (q1 rfl (lb 0 o_3 rfl rfl rfl rfl) (Pe rfl (Dw [(15, (.bool ((a.Time : Int) != b.Time)))] ⟨rfl, trivial⟩ (Ds (H' := []) [false, false] rfl (Ci _ rfl (fun h12 => ?_) (fun h12 => ?_)))))))))))
  ·have pr12 : (a.Time : Int) ≠ b.Time := bne_iff_ne.1 h12
   refine Sr (Pe rfl (Ct (Xr (Rb rfl rfl ?_))))
   cases a; cases b; simp_all
  ·have pr12 : (a.Time : Int) = b.Time := eq_of_bne_f h12
   refine Sk (Sr (Pe rfl (Ct (Rb rfl rfl ?_))))
   cases a; cases b; simp_all
theorem laws_szFiring (w : World) (c_a : List Value) (a : Firing) (left : Int) (h_a : Gd.rd w c_a a) (h0 : 0 ≤ left) (h1 : left ≤ 1048576) (ho : okFiring a) : Calls Tryz.prog 120 [(.agg c_a.toArray), (.int .i64 left)].toArray w (Val w (.int .i64 (szm (szFiring a) left))) := by
 obtain ⟨u1, rfl, hu2⟩ := open_Firing h_a
 have hm3 := rd_max hu2
 have ho1 : a.Rule.size ≤ 9223372036854775807 := ho.1
 refine enter 19 Tryz.func120 rfl rfl rfl (Sr (li rfl (D_box rfl rfl rfl rfl rfl fun g4 => ?_)))
 refine Pe rfl (Dh ([bx g4 [(.string a.Rule), u1]]) rfl (Sr (p1 rfl (q1 rfl (Db f_162_0 rfl rfl (q := 0) rfl) (q1 rfl (lb 0 o_9 rfl rfl rfl rfl) (q1 rfl (D_lens us_9 rfl rfl) (q1 rfl (D_sub rfl rfl rfl rfl (by omega)) (Pe rfl (Cq (Sr (P2 rfl rfl (Dx (Ci _ rfl (fun h5 => ?_) (fun h5 => ?_))))))))))))))
 ·have pr5 : ((left - ((a.Rule.size : Nat) : Int)) : Int) < 0 := odT h5
  refine Sr (Pe rfl (Ct (Xr (Ri rfl rfl ?_))))
  show ((-1) : Int) = _
  unfold szFiring szm at *; repeat (split at * <;> try omega)
 ·have pr5 : ¬ ((left - ((a.Rule.size : Nat) : Int)) : Int) < 0 := odF h5
  refine Sk (Sr (q1 rfl (Db f_162_1 rfl rfl (q := 1) rfl) (q1 rfl (lb 0 o_35 rfl rfl rfl rfl) (p1 rfl (li rfl (cv b_176 rfl rfl rfl rfl (fun w' hs => (laws_szIntS w' u1 a.Times (left - ((a.Rule.size : Nat) : Int)) (rA hs hu2) (by first | assumption | omega | (unfold szm at *; split at * <;> omega)) (by first | assumption | omega | (unfold szm at *; split at * <;> omega)))) ?_))))))
  refine Pe rfl (Cq (Sr (P2 rfl rfl (Dx (Dw [(1, (.int .i64 (szm a.Times.length (left - ((a.Rule.size : Nat) : Int))))), (17, (.bool (decide (((szm a.Times.length (left - ((a.Rule.size : Nat) : Int))) : Int) < 0))))] ⟨rfl, rfl, trivial⟩ (Ds (H' := []) [false] rfl (Ci _ rfl (fun h6 => ?_) (fun h6 => ?_))))))))
  ·have pr6 : ((szm a.Times.length (left - ((a.Rule.size : Nat) : Int))) : Int) < 0 := odT h6
   refine Sr (Pe rfl (Ct (Xr (Ri rfl rfl ?_))))
   show ((-1) : Int) = _
   unfold szFiring szm at *; repeat (split at * <;> try omega)
  ·have pr6 : ¬ ((szm a.Times.length (left - ((a.Rule.size : Nat) : Int))) : Int) < 0 := odF h6
   have pr6z := szm_val (n := a.Times.length) (left := (left - ((a.Rule.size : Nat) : Int))) pr6
   refine Sk (Sr (P2 rfl rfl (Dx (Ct (Ri rfl rfl ?_)))))
   show ((szm a.Times.length (left - ((a.Rule.size : Nat) : Int))) : Int) = _
   unfold szFiring szm at *; repeat (split at * <;> try omega)
theorem laws_toFiring (w : World) (c_a : List Value) (a : Firing) (h_a : Gd.rd w c_a a) (hn : szFiring a ≤ 1048576) : Calls Tryz.prog 129 [(.agg c_a.toArray)].toArray w (Res w (a : Firing)) := by
 obtain ⟨u1, rfl, hu2⟩ := open_Firing h_a
 have hm3 := rd_max hu2
 unfold szFiring at hn
 refine enter 12 Tryz.func129 rfl rfl rfl (Sr (li rfl (D_box rfl rfl rfl rfl rfl fun g4 => ?_)))
 refine li rfl (D_alloc y_168 rfl rfl rfl rfl fun g5 => ?_)
 refine Dx (Dh ([bx g5 [(.string ⟨#[]⟩), (.slice none 0 0)], bx g4 [(.string a.Rule), u1]]) rfl (Sr (li rfl (D_alloc y_168 rfl rfl rfl rfl fun g6 => ?_))))
 refine Dx (Dh ([bx g6 [(.string ⟨#[]⟩), (.slice none 0 0)], bx g5 [(.string ⟨#[]⟩), (.slice none 0 0)], bx g4 [(.string a.Rule), u1]]) rfl (Sr (q1 rfl (Db f_162_0 rfl rfl (q := 0) rfl) (q1 rfl (lb 2 o_9 rfl rfl rfl rfl) (q1 rfl (Db f_168_0 rfl rfl (q := 0) rfl) (li rfl (D_stb (vs := [(.string a.Rule)]) (cs' := [(.string a.Rule), (.slice none 0 0)]) 0 z_9 rfl rfl rfl rfl rfl rfl (ocons rfl onil) (by simp) rfl ?_)))))))
 refine Dx (Dh ([bx g6 [(.string a.Rule), (.slice none 0 0)], bx g5 [(.string ⟨#[]⟩), (.slice none 0 0)], bx g4 [(.string a.Rule), u1]]) rfl (Sr (q1 rfl (Db f_162_1 rfl rfl (q := 1) rfl) (q1 rfl (lb 2 o_35 rfl rfl rfl rfl) (li rfl (crl b_182 rfl rfl rfl rfl (fun w' hs => (laws_toIntS w' u1 a.Times (rA hs hu2) (by first | assumption | omega | (unfold szm at *; split at * <;> omega)))) fun v7 => ?_))))))
 refine q1 rfl (Db f_168_1 rfl rfl (q := 1) rfl) (Dp (fun w' hs => one_own (k := 0) hs rfl) ?_)
 intro ho8
 refine li rfl (D_stb (vs := [v7]) (cs' := [(.string a.Rule), v7]) 1 z_35 rfl rfl rfl rfl rfl (cells_of_one ho8) (ocons ho8 onil) (by simp) rfl ?_)
 refine Dx (Dh ([ov [v7] (a.Times : (List Int)), bx g6 [(.string a.Rule), v7], bx g5 [(.string ⟨#[]⟩), (.slice none 0 0)], bx g4 [(.string a.Rule), u1]]) rfl (Sr (q1 rfl (lbw 1 a_168 rfl rfl rfl) (li rfl (D_stb (vs := [(.string a.Rule), v7]) (cs' := [(.string a.Rule), v7]) 2 z_168 rfl rfl rfl rfl rfl rfl (ocons rfl (ocons ho8 onil)) (by simp) rfl ?_)))))
 refine Dx (Ct (pk_Firing (r := (a : Firing)) (R_c 2 a_168 rfl rfl rfl fun w' hs => res_of (k := 0) hs rfl ?_)))
 show (a : Firing) = a
 rfl
theorem laws_eqFiring (w : World) (c_a : List Value) (a : Firing) (c_b : List Value) (b : Firing) (h_a : Gd.rd w c_a a) (h_b : Gd.rd w c_b b) : Calls Tryz.prog 140 [(.agg c_a.toArray), (.agg c_b.toArray)].toArray w (Val w (.bool (decide (a = b)))) := by
 obtain ⟨u1, rfl, hu2⟩ := open_Firing h_a
 have hm3 := rd_max hu2
 obtain ⟨u4, rfl, hu5⟩ := open_Firing h_b
 have hm6 := rd_max hu5
 refine enter 16 Tryz.func140 rfl rfl rfl (Sr (li rfl (D_box rfl rfl rfl rfl rfl fun g7 => ?_)))
 refine li rfl (D_box rfl rfl rfl rfl rfl fun g8 => ?_)
 refine Pe rfl (Dh ([bx g8 [(.string b.Rule), u4], bx g7 [(.string a.Rule), u1]]) rfl (Cq (Sr (q1 rfl (Db f_168_0 rfl rfl (q := 0) rfl) (q1 rfl (lb 1 o_9 rfl rfl rfl rfl) (q1 rfl (Db f_168_0 rfl rfl (q := 0) rfl) (q1 rfl (lb 0 o_9 rfl rfl rfl rfl) (q1 rfl (D_neS rfl rfl rfl) (Dx (Ci _ rfl (fun h9 => ?_) (fun h9 => ?_)))))))))))
 ·have pr9 : ¬ (a.Rule : ByteArray) = b.Rule := of_decide_eq_false (not_t h9)
  refine Sr (Pe rfl (Ct (Xr (Rb rfl rfl ?_))))
  cases a; cases b; simp_all
 ·have pr9 : (a.Rule : ByteArray) = b.Rule := of_decide_eq_true (not_f h9)
  refine Sk (Cq (Sr (q1 rfl (Db f_168_1 rfl rfl (q := 1) rfl) (q1 rfl (lb 1 o_35 rfl rfl rfl rfl) (q1 rfl (Db f_168_1 rfl rfl (q := 1) rfl) (q1 rfl (lb 0 o_35 rfl rfl rfl rfl) (li rfl (cv b_54 rfl rfl rfl rfl (fun w' hs => (laws_eqIntS w' u1 a.Times u4 b.Times (rA hs hu2) (rA hs hu5))) ?_))))))))
  refine Pe rfl (Dw [(15, (.bool (!(decide (a.Times = b.Times)))))] ⟨rfl, trivial⟩ (Ds (H' := []) [false, false] rfl (Ci _ rfl (fun h10 => ?_) (fun h10 => ?_))))
  ·have h10n : (decide (a.Times = b.Times)) = false := not_t h10
   refine Sr (Pe rfl (Ct (Xr (Rb rfl rfl ?_))))
   cases a; cases b; simp_all
  ·have h10n : (decide (a.Times = b.Times)) = true := not_f h10
   refine Sk (Sr (Pe rfl (Ct (Rb rfl rfl ?_))))
   cases a; cases b; simp_all
theorem laws_szRuleS (w : World) (v_a : Value) (a : (List Rule)) (left : Int) (h_a : Gd.rd w [v_a] a) (h0 : 0 ≤ left) (h1 : left ≤ 1048576) (ho : okL okRule a) : Calls Tryz.prog 6 [v_a, (.int .i64 left)].toArray w (Val w (.int .i64 (szm (szL szRule a) left))) := by
 have hm1 := rd_max h_a
 refine enter 27 Tryz.func6 rfl rfl rfl (Sr (Pe rfl (Sr (P2 rfl rfl (q1 rfl (Dl s_22 rfl rfl (rd_sl h_a)) (q1 rfl (D_sub rfl rfl rfl rfl (by omega)) (Pe rfl (Cq (Sr (P2 rfl rfl (Dx (Ci _ rfl (fun h2 => ?_) (fun h2 => ?_)))))))))))))
 ·have pr2 : ((left - ((a.length : Nat) : Int)) : Int) < 0 := odT h2
  refine Sr (Pe rfl (Ct (Xr (Ri rfl rfl ?_))))
  show ((-1) : Int) = _
  refine (szm_neg ?_).symm; unfold szL; omega
 ·have pr2 : ¬ ((left - ((a.length : Nat) : Int)) : Int) < 0 := odF h2
  refine Sk (Cq (Sr (Pe rfl (Cb (Cl (fun m_ ac w' => ∃ (k : Nat), ∃ (lf : Int), (k ≤ a.length) ∧ (0 ≤ lf ∧ lf = left - a.length - sumC szRule (a.take k)) ∧ m_ = a.length - k ∧ Fits ac 27 [(0, v_a), (1, (.int .i64 lf)), (5, (.int .i64 ((k : Nat) : Int)))] ∧ St w ([]) w') ?_ ?_)))))
  ·refine fun ac w' hf hs => ⟨_, 0, (left - ((a.length : Nat) : Int)), ?_, ?_, rfl, hf.weak ⟨rfl, rfl, rfl, trivial⟩, hs⟩
   ·first | assumption | omega | simp
   ·simp [sumC]; omega
  ·rintro m_ ac w' ⟨k, lf, hk, hl, rfl, hf, hs⟩
   refine D.use ?_ hf hs
   clear hf hs ac w'
   have ht := sumC_take_le a szRule k
   refine Cq (Sr (P2 rfl rfl (q1 rfl (Dl s_22 rfl rfl (rd_sl h_a)) (Pe rfl (Ci _ rfl (fun h3 => ?_) (fun h3 => ?_))))))
   ·have pr3 : (((k : Nat) : Int) : Int) < ((a.length : Nat) : Int) := odT h3
    refine Sk (Cq (Cb (Sr (P2 rfl rfl ?_))))
    obtain ⟨r0, hr0⟩ := sL (l := a) (i := k) (by omega)
    have hro := ho _ (List.mem_of_getElem? hr0)
    have ht1 := sumC_take_le a szRule (k + 1)
    have hst := sumC_take (c := szRule) hr0
    obtain ⟨es4, at5, hr6⟩ := rd_elem (n := 4) rfl h_a hr0
    obtain ⟨u7, u9, rfl, hu8, hu10⟩ := open_Rule hr6
    have hm11 := rd_max hu8
    have hm12 := rd_max hu10
    refine q1 rfl (D_ix (l := a) (j := k) s_22 rfl rfl rfl (fun w' hs => (rA hs h_a)) rfl (lS hr0)) (q1 rfl (lra a_81 rfl rfl at5) (p1 rfl (li rfl (cv b_36 rfl rfl rfl rfl (fun w' hs => (laws_szRule w' [(.string r0.Name), (.int .i64 r0.Priority), u7, u9] r0 lf (rA hs hr6) (by first | assumption | omega | (unfold szm at *; split at * <;> omega)) (by first | assumption | omega | (unfold szm at *; split at * <;> omega)) hro)) ?_))))
    refine Pe rfl (Sr (P2 rfl rfl (Dx (Ci _ rfl (fun h13 => ?_) (fun h13 => ?_)))))
    ·have pr13 : ((szm (szRule r0) lf) : Int) < 0 := odT h13
     refine Sr (Pe rfl (Ct (Xq (Xr (Xr (Xq (Xr (Ri rfl rfl ?_))))))))
     show ((-1) : Int) = _
     refine (szm_neg ?_).symm; unfold szL; unfold szm at *; split at * <;> omega
    ·have pr13 : ¬ ((szm (szRule r0) lf) : Int) < 0 := odF h13
     have pr13z := szm_val (n := (szRule r0)) (left := lf) pr13
     refine Ck (Xb (Xt (Cr (p1 rfl (q1 rfl (D_add rfl rfl rfl (r := ((k + 1 : Nat) : Int)) (by omega) (by omega)) (Pe rfl (fun ac w' hf hs => ⟨_, ?_, k + 1, (szm (szRule r0) lf), ?_, ?_, rfl, hf.weak ⟨rfl, rfl, rfl, trivial⟩, hs⟩)))))))
     ·omega
     ·first | assumption | omega | simp
     ·rw [hst]; unfold szm at *; split at * <;> omega
   ·have pr3 : ¬ (((k : Nat) : Int) : Int) < ((a.length : Nat) : Int) := odF h3
    refine Cx (Xx (Xx (Xe (Xt (Sr (P2 rfl rfl (Dx (Ct (Ri rfl rfl ?_)))))))))
    show (lf : Int) = _
    rw [szm_pos]; all_goals (unfold szL; rw [List.take_of_length_le (by omega)] at hl; omega)
theorem laws_toRuleS (w : World) (v_a : Value) (a : (List Rule)) (h_a : Gd.rd w [v_a] a) (hn : szL szRule a ≤ 1048576) : Calls Tryz.prog 10 [v_a].toArray w (Res w (a : List Rule)) := by
 have hm1 := rd_max h_a
 unfold szL at hn
 refine enter 23 Tryz.func10 rfl rfl rfl (Sr (Pe rfl (Sr (p1 rfl (q1 rfl (Dl s_22 rfl rfl (rd_sl h_a)) (li rfl (D_mkG (α := Rule) (z0 := z0_Rule) s_40 y_96 rfl rfl rfl rfl rfl rfl zz_Rule (by omega) (by omega) fun v2 => ?_)))))))
 refine Pe rfl (Dh ([ov [v2] (List.replicate a.length z0_Rule : (List Rule))]) rfl (Cq (Sr (Pe rfl (Cb (Cl (fun m_ ac w' => ∃ (k : Nat), ∃ (v : Value), (k ≤ a.length) ∧ m_ = a.length - k ∧ Fits ac 23 [(0, v_a), (3, v), (4, (.int .i64 ((k : Nat) : Int)))] ∧ St w ([ov [v] (cp a z0_Rule k : (List Rule))]) w') ?_ ?_))))))
 ·refine D_eq 0 rfl (show (List.replicate a.length z0_Rule : (List Rule)) = cp a z0_Rule 0 from by rw [cp_zero]) (fun ac w' hf hs => ⟨_, 0, v2, ?_, rfl, hf.weak ⟨rfl, rfl, rfl, trivial⟩, hs⟩)
  ·first | assumption | omega | simp
 ·rintro m_ ac w' ⟨k, v, hk, rfl, hf, hs⟩
  refine D.use ?_ hf hs
  clear hf hs ac w'
  have hcl := cp_len a z0_Rule k hk
  refine Cq (Sr (P2 rfl rfl (q1 rfl (Dl s_22 rfl rfl (rd_sl h_a)) (Pe rfl (Dh ([ov [v] (cp a z0_Rule k : (List Rule))]) rfl (Ci _ rfl (fun h3 => ?_) (fun h3 => ?_)))))))
  ·have pr3 : (((k : Nat) : Int) : Int) < ((a.length : Nat) : Int) := odT h3
   refine Sk (Cq (Cb (Cr (P3 rfl rfl rfl (p1 rfl ?_)))))
   obtain ⟨x4, hx5⟩ := sL (l := a) (i := k) (by omega)
   have hle := sumC_mem (c := szRule) (mem_idx hx5)
   obtain ⟨es6, at7, hr8⟩ := rd_elem (n := 4) rfl h_a hx5
   obtain ⟨u9, u11, rfl, hu10, hu12⟩ := open_Rule hr8
   have hm13 := rd_max hu10
   have hm14 := rd_max hu12
   refine q1 rfl (D_ix (l := a) (j := k) s_22 rfl rfl rfl (fun w' hs => (rA hs h_a)) rfl (lS hx5)) (q1 rfl (lra a_81 rfl rfl at7) (li rfl (crs rfl b_47 rfl rfl rfl rfl (fun w' hs => (laws_toRule w' [(.string x4.Name), (.int .i64 x4.Priority), u9, u11] x4 (rA hs hr8) (by first | assumption | omega | (unfold szm at *; split at * <;> omega)))) fun cs15 => ?_)))
   refine Dp (fun w' hs => shape_Rule (rO (k := 0) hs rfl)) ?_
   rintro ⟨v16, v17, rfl, ho18, ho19⟩
   obtain ⟨x20, hx21⟩ := sL (l := (cp a z0_Rule k)) (i := k) (by omega)
   refine q1 rfl (D_ix (l := (cp a z0_Rule k)) (j := k) s_40 rfl rfl rfl (fun w' hs => (rO (k := 1) hs rfl)) rfl (lS hx21)) (D_pk (H' := [ov [v] (cp a z0_Rule k : (List Rule)), ov [(.string x4.Name), (.int .i64 x4.Priority), v16, v17] (x4 : Rule)]) [1, 0] rfl rfl (li rfl (soG (α := Rule) rfl z_96 rfl rfl rfl rfl rfl (lS hx21) ?_)))
   refine De (Xb (Xt (Dh ([ov [v] ((cp a z0_Rule k).set k x4 : (List Rule))]) rfl (Cr (p1 rfl (q1 rfl (D_add rfl rfl rfl (r := ((k + 1 : Nat) : Int)) (by omega) (by omega)) (Pe rfl (D_eq 0 rfl (show ((cp a z0_Rule k).set k x4 : (List Rule)) = cp a z0_Rule (k + 1) from by rw [cp_set (by assumption)]) (fun ac w' hf hs => ⟨_, ?_, k + 1, v, ?_, rfl, hf.weak ⟨rfl, rfl, rfl, trivial⟩, hs⟩)))))))))
   ·omega
   ·first | assumption | omega | simp
  ·have pr3 : ¬ (((k : Nat) : Int) : Int) < ((a.length : Nat) : Int) := odF h3
   refine Cx (Xx (Xx (Xe (Xt (Sr (P2 rfl rfl (Dx (Ct (R_1 rfl rfl fun w' hs => res_of (k := 0) hs rfl ?_)))))))))
   show cp a z0_Rule k = a
   exact cp_done (by omega)
theorem laws_eqRuleS (w : World) (v_a : Value) (a : (List Rule)) (v_b : Value) (b : (List Rule)) (h_a : Gd.rd w [v_a] a) (h_b : Gd.rd w [v_b] b) : Calls Tryz.prog 15 [v_a, v_b].toArray w (Val w (.bool (decide (a = b)))) := by
 have hm1 := rd_max h_a
 have hm2 := rd_max h_b
 refine enter 27 Tryz.func15 rfl rfl rfl (Sr (Pe rfl (Cq (Sr (p1 rfl (q1 rfl (Dl s_40 rfl rfl (rd_sl h_a)) (p1 rfl (q1 rfl (Dl s_40 rfl rfl (rd_sl h_b)) (Pe rfl (Ci _ rfl (fun h3 => ?_) (fun h3 => ?_)))))))))))
 ·have pr3 : (((a.length : Nat) : Int) : Int) ≠ ((b.length : Nat) : Int) := bne_iff_ne.1 h3
  refine Sr (Pe rfl (Ct (Xr (Rb rfl rfl ?_))))
  simp; intro e; subst e; simp_all
 ·have pr3 : (((a.length : Nat) : Int) : Int) = ((b.length : Nat) : Int) := eq_of_bne_f h3
  refine Sk (Cq (Sr (Pe rfl (Cb (Cl (fun m_ ac w' => ∃ (k : Nat), (k ≤ a.length) ∧ (∀ i, i < k → a[i]? = b[i]?) ∧ m_ = a.length - k ∧ Fits ac 27 [(0, v_a), (1, v_b), (5, (.int .i64 ((k : Nat) : Int)))] ∧ St w ([]) w') ?_ ?_)))))
  ·refine fun ac w' hf hs => ⟨_, 0, ?_, ?_, rfl, hf.weak ⟨rfl, rfl, rfl, trivial⟩, hs⟩
   ·first | assumption | omega | simp
   ·intro i hi; omega
  ·rintro m_ ac w' ⟨k, hk, hi, rfl, hf, hs⟩
   refine D.use ?_ hf hs
   clear hf hs ac w'
   refine Cq (Sr (P2 rfl rfl (q1 rfl (Dl s_40 rfl rfl (rd_sl h_a)) (Pe rfl (Ci _ rfl (fun h4 => ?_) (fun h4 => ?_))))))
   ·have pr4 : (((k : Nat) : Int) : Int) < ((a.length : Nat) : Int) := odT h4
    refine Sk (Cq (Cb (Cq (C_draw mixed [8, 9] (by kernel_rfl) (Tk 0 rfl (by kernel_rfl) rfl (rp rfl) (Tk 1 rfl (by kernel_rfl) rfl (rp rfl) ?_))))))
    obtain ⟨x5, hx6⟩ := sL (l := a) (i := k) (by omega)
    obtain ⟨es7, at8, hr9⟩ := rd_elem (n := 4) rfl h_a hx6
    obtain ⟨u10, u12, rfl, hu11, hu13⟩ := open_Rule hr9
    have hm14 := rd_max hu11
    have hm15 := rd_max hu13
    refine Tk 2 rfl (by kernel_rfl) rfl (D_ix (l := a) (j := k) s_40 rfl rfl rfl (fun w' hs => (rA hs h_a)) rfl (lS hx6)) (Tk 3 rfl (by kernel_rfl) rfl (lra a_96 rfl rfl at8) (Tk 4 rfl (by kernel_rfl) rfl (rp rfl) (Tk 5 rfl (by kernel_rfl) rfl (rp rfl) ?_)))
    obtain ⟨x16, hx17⟩ := sL (l := b) (i := k) (by omega)
    obtain ⟨es18, at19, hr20⟩ := rd_elem (n := 4) rfl h_b hx17
    obtain ⟨u21, u23, rfl, hu22, hu24⟩ := open_Rule hr20
    have hm25 := rd_max hu22
    have hm26 := rd_max hu24
    refine Tk 6 rfl (by kernel_rfl) rfl (D_ix (l := b) (j := k) s_40 rfl rfl rfl (fun w' hs => (rA hs h_b)) rfl (lS hx17)) (Tk 7 rfl (by kernel_rfl) rfl (lra a_96 rfl rfl at19) (ty 8 rfl (by kernel_rfl) rfl (cv b_55 rfl rfl rfl rfl (fun w' hs => (laws_eqRule w' [(.string x5.Name), (.int .i64 x5.Priority), u10, u12] x5 [(.string x16.Name), (.int .i64 x16.Priority), u21, u23] x16 (rA hs hr9) (rA hs hr20))) ?_)))
    refine tZ rfl (ty 9 rfl (by kernel_rfl) rfl (sv rfl rfl (rp rfl) ?_))
    refine tZ rfl (tE (by kernel_rfl) (Xt (Ci _ rfl (fun h27 => ?_) (fun h27 => ?_))))
    ·have h27n : (decide (x5 = x16)) = false := not_t h27
     refine Sr (Pe rfl (Ct (Xq (Xr (Xr (Xq (Xr (Rb rfl rfl ?_))))))))
     simp; intro e; subst e; simp_all
    ·have h27n : (decide (x5 = x16)) = true := not_f h27
     refine Ck (Xb (Xt (Cr (p1 rfl (q1 rfl (D_add rfl rfl rfl (r := ((k + 1 : Nat) : Int)) (by omega) (by omega)) (Pe rfl (fun ac w' hf hs => ⟨_, ?_, k + 1, ?_, ?_, rfl, hf.weak ⟨rfl, rfl, rfl, trivial⟩, hs⟩)))))))
     ·omega
     ·first | assumption | omega | simp
     ·refine idx_step hi (by assumption) (by assumption) ?_; first | (simp_all; done) | (apply Fact.mk_eq <;> simp_all)
   ·have pr4 : ¬ (((k : Nat) : Int) : Int) < ((a.length : Nat) : Int) := odF h4
    refine Cx (Xx (Xx (Xe (Xt (Sr (Pe rfl (Ct (Rb rfl rfl ?_))))))))
    simp; exact eq_of_idx (by omega) (fun i h => hi i (by omega))
theorem laws_szStampS (w : World) (v_a : Value) (a : (List Stamp)) (left : Int) (h_a : Gd.rd w [v_a] a) (h0 : 0 ≤ left) (h1 : left ≤ 1048576) (ho : okL okStamp a) : Calls Tryz.prog 7 [v_a, (.int .i64 left)].toArray w (Val w (.int .i64 (szm (szL szStamp a) left))) := by
 have hm1 := rd_max h_a
 refine enter 27 Tryz.func7 rfl rfl rfl (Sr (Pe rfl (Sr (P2 rfl rfl (q1 rfl (Dl s_23 rfl rfl (rd_sl h_a)) (q1 rfl (D_sub rfl rfl rfl rfl (by omega)) (Pe rfl (Cq (Sr (P2 rfl rfl (Dx (Ci _ rfl (fun h2 => ?_) (fun h2 => ?_)))))))))))))
 ·have pr2 : ((left - ((a.length : Nat) : Int)) : Int) < 0 := odT h2
  refine Sr (Pe rfl (Ct (Xr (Ri rfl rfl ?_))))
  show ((-1) : Int) = _
  refine (szm_neg ?_).symm; unfold szL; omega
 ·have pr2 : ¬ ((left - ((a.length : Nat) : Int)) : Int) < 0 := odF h2
  refine Sk (Cq (Sr (Pe rfl (Cb (Cl (fun m_ ac w' => ∃ (k : Nat), ∃ (lf : Int), (k ≤ a.length) ∧ (0 ≤ lf ∧ lf = left - a.length - sumC szStamp (a.take k)) ∧ m_ = a.length - k ∧ Fits ac 27 [(0, v_a), (1, (.int .i64 lf)), (5, (.int .i64 ((k : Nat) : Int)))] ∧ St w ([]) w') ?_ ?_)))))
  ·refine fun ac w' hf hs => ⟨_, 0, (left - ((a.length : Nat) : Int)), ?_, ?_, rfl, hf.weak ⟨rfl, rfl, rfl, trivial⟩, hs⟩
   ·first | assumption | omega | simp
   ·simp [sumC]; omega
  ·rintro m_ ac w' ⟨k, lf, hk, hl, rfl, hf, hs⟩
   refine D.use ?_ hf hs
   clear hf hs ac w'
   have ht := sumC_take_le a szStamp k
   refine Cq (Sr (P2 rfl rfl (q1 rfl (Dl s_23 rfl rfl (rd_sl h_a)) (Pe rfl (Ci _ rfl (fun h3 => ?_) (fun h3 => ?_))))))
   ·have pr3 : (((k : Nat) : Int) : Int) < ((a.length : Nat) : Int) := odT h3
    refine Sk (Cq (Cb (Sr (P2 rfl rfl ?_))))
    obtain ⟨r0, hr0⟩ := sL (l := a) (i := k) (by omega)
    have hro := ho _ (List.mem_of_getElem? hr0)
    have ht1 := sumC_take_le a szStamp (k + 1)
    have hst := sumC_take (c := szStamp) hr0
    obtain ⟨es4, at5, hr6⟩ := rd_elem (n := 3) rfl h_a hr0
    obtain ⟨u7, rfl, hu8⟩ := open_Stamp hr6
    have hm9 := rd_max hu8
    have hb10 := sub_Stamp_Fact hr6
    refine q1 rfl (D_ix (l := a) (j := k) s_23 rfl rfl rfl (fun w' hs => (rA hs h_a)) rfl (lS hr0)) (q1 rfl (lra a_84 rfl rfl at5) (p1 rfl (li rfl (cv b_37 rfl rfl rfl rfl (fun w' hs => (laws_szStamp w' [(.string r0.Fact.Rel), u7, (.int .i64 r0.Time)] r0 lf (rA hs hr6) (by first | assumption | omega | (unfold szm at *; split at * <;> omega)) (by first | assumption | omega | (unfold szm at *; split at * <;> omega)) hro)) ?_))))
    refine Pe rfl (Sr (P2 rfl rfl (Dx (Ci _ rfl (fun h11 => ?_) (fun h11 => ?_)))))
    ·have pr11 : ((szm (szStamp r0) lf) : Int) < 0 := odT h11
     refine Sr (Pe rfl (Ct (Xq (Xr (Xr (Xq (Xr (Ri rfl rfl ?_))))))))
     show ((-1) : Int) = _
     refine (szm_neg ?_).symm; unfold szL; unfold szm at *; split at * <;> omega
    ·have pr11 : ¬ ((szm (szStamp r0) lf) : Int) < 0 := odF h11
     have pr11z := szm_val (n := (szStamp r0)) (left := lf) pr11
     refine Ck (Xb (Xt (Cr (p1 rfl (q1 rfl (D_add rfl rfl rfl (r := ((k + 1 : Nat) : Int)) (by omega) (by omega)) (Pe rfl (fun ac w' hf hs => ⟨_, ?_, k + 1, (szm (szStamp r0) lf), ?_, ?_, rfl, hf.weak ⟨rfl, rfl, rfl, trivial⟩, hs⟩)))))))
     ·omega
     ·first | assumption | omega | simp
     ·rw [hst]; unfold szm at *; split at * <;> omega
   ·have pr3 : ¬ (((k : Nat) : Int) : Int) < ((a.length : Nat) : Int) := odF h3
    refine Cx (Xx (Xx (Xe (Xt (Sr (P2 rfl rfl (Dx (Ct (Ri rfl rfl ?_)))))))))
    show (lf : Int) = _
    rw [szm_pos]; all_goals (unfold szL; rw [List.take_of_length_le (by omega)] at hl; omega)
theorem laws_toStampS (w : World) (v_a : Value) (a : (List Stamp)) (h_a : Gd.rd w [v_a] a) (hn : szL szStamp a ≤ 1048576) : Calls Tryz.prog 11 [v_a].toArray w (Res w (a : List Stamp)) := by
 have hm1 := rd_max h_a
 unfold szL at hn
 refine enter 23 Tryz.func11 rfl rfl rfl (Sr (Pe rfl (Sr (p1 rfl (q1 rfl (Dl s_23 rfl rfl (rd_sl h_a)) (li rfl (D_mkG (α := Stamp) (z0 := z0_Stamp) s_42 y_100 rfl rfl rfl rfl rfl rfl zz_Stamp (by omega) (by omega) fun v2 => ?_)))))))
 refine Pe rfl (Dh ([ov [v2] (List.replicate a.length z0_Stamp : (List Stamp))]) rfl (Cq (Sr (Pe rfl (Cb (Cl (fun m_ ac w' => ∃ (k : Nat), ∃ (v : Value), (k ≤ a.length) ∧ m_ = a.length - k ∧ Fits ac 23 [(0, v_a), (3, v), (4, (.int .i64 ((k : Nat) : Int)))] ∧ St w ([ov [v] (cp a z0_Stamp k : (List Stamp))]) w') ?_ ?_))))))
 ·refine D_eq 0 rfl (show (List.replicate a.length z0_Stamp : (List Stamp)) = cp a z0_Stamp 0 from by rw [cp_zero]) (fun ac w' hf hs => ⟨_, 0, v2, ?_, rfl, hf.weak ⟨rfl, rfl, rfl, trivial⟩, hs⟩)
  ·first | assumption | omega | simp
 ·rintro m_ ac w' ⟨k, v, hk, rfl, hf, hs⟩
  refine D.use ?_ hf hs
  clear hf hs ac w'
  have hcl := cp_len a z0_Stamp k hk
  refine Cq (Sr (P2 rfl rfl (q1 rfl (Dl s_23 rfl rfl (rd_sl h_a)) (Pe rfl (Dh ([ov [v] (cp a z0_Stamp k : (List Stamp))]) rfl (Ci _ rfl (fun h3 => ?_) (fun h3 => ?_)))))))
  ·have pr3 : (((k : Nat) : Int) : Int) < ((a.length : Nat) : Int) := odT h3
   refine Sk (Cq (Cb (Cr (P3 rfl rfl rfl (p1 rfl ?_)))))
   obtain ⟨x4, hx5⟩ := sL (l := a) (i := k) (by omega)
   have hle := sumC_mem (c := szStamp) (mem_idx hx5)
   obtain ⟨es6, at7, hr8⟩ := rd_elem (n := 3) rfl h_a hx5
   obtain ⟨u9, rfl, hu10⟩ := open_Stamp hr8
   have hm11 := rd_max hu10
   have hb12 := sub_Stamp_Fact hr8
   refine q1 rfl (D_ix (l := a) (j := k) s_23 rfl rfl rfl (fun w' hs => (rA hs h_a)) rfl (lS hx5)) (q1 rfl (lra a_84 rfl rfl at7) (li rfl (crs rfl b_48 rfl rfl rfl rfl (fun w' hs => (laws_toStamp w' [(.string x4.Fact.Rel), u9, (.int .i64 x4.Time)] x4 (rA hs hr8) (by first | assumption | omega | (unfold szm at *; split at * <;> omega)))) fun cs13 => ?_)))
   refine Dp (fun w' hs => shape_Stamp (rO (k := 0) hs rfl)) ?_
   rintro ⟨v14, rfl, ho15⟩
   obtain ⟨x16, hx17⟩ := sL (l := (cp a z0_Stamp k)) (i := k) (by omega)
   refine q1 rfl (D_ix (l := (cp a z0_Stamp k)) (j := k) s_42 rfl rfl rfl (fun w' hs => (rO (k := 1) hs rfl)) rfl (lS hx17)) (D_pk (H' := [ov [v] (cp a z0_Stamp k : (List Stamp)), ov [(.string x4.Fact.Rel), v14, (.int .i64 x4.Time)] (x4 : Stamp)]) [1, 0] rfl rfl (li rfl (soG (α := Stamp) rfl z_100 rfl rfl rfl rfl rfl (lS hx17) ?_)))
   refine De (Xb (Xt (Dh ([ov [v] ((cp a z0_Stamp k).set k x4 : (List Stamp))]) rfl (Cr (p1 rfl (q1 rfl (D_add rfl rfl rfl (r := ((k + 1 : Nat) : Int)) (by omega) (by omega)) (Pe rfl (D_eq 0 rfl (show ((cp a z0_Stamp k).set k x4 : (List Stamp)) = cp a z0_Stamp (k + 1) from by rw [cp_set (by assumption)]) (fun ac w' hf hs => ⟨_, ?_, k + 1, v, ?_, rfl, hf.weak ⟨rfl, rfl, rfl, trivial⟩, hs⟩)))))))))
   ·omega
   ·first | assumption | omega | simp
  ·have pr3 : ¬ (((k : Nat) : Int) : Int) < ((a.length : Nat) : Int) := odF h3
   refine Cx (Xx (Xx (Xe (Xt (Sr (P2 rfl rfl (Dx (Ct (R_1 rfl rfl fun w' hs => res_of (k := 0) hs rfl ?_)))))))))
   show cp a z0_Stamp k = a
   exact cp_done (by omega)
theorem laws_eqStampS (w : World) (v_a : Value) (a : (List Stamp)) (v_b : Value) (b : (List Stamp)) (h_a : Gd.rd w [v_a] a) (h_b : Gd.rd w [v_b] b) : Calls Tryz.prog 16 [v_a, v_b].toArray w (Val w (.bool (decide (a = b)))) := by
 have hm1 := rd_max h_a
 have hm2 := rd_max h_b
 refine enter 27 Tryz.func16 rfl rfl rfl (Sr (Pe rfl (Cq (Sr (p1 rfl (q1 rfl (Dl s_42 rfl rfl (rd_sl h_a)) (p1 rfl (q1 rfl (Dl s_42 rfl rfl (rd_sl h_b)) (Pe rfl (Ci _ rfl (fun h3 => ?_) (fun h3 => ?_)))))))))))
 ·have pr3 : (((a.length : Nat) : Int) : Int) ≠ ((b.length : Nat) : Int) := bne_iff_ne.1 h3
  refine Sr (Pe rfl (Ct (Xr (Rb rfl rfl ?_))))
  simp; intro e; subst e; simp_all
 ·have pr3 : (((a.length : Nat) : Int) : Int) = ((b.length : Nat) : Int) := eq_of_bne_f h3
  refine Sk (Cq (Sr (Pe rfl (Cb (Cl (fun m_ ac w' => ∃ (k : Nat), (k ≤ a.length) ∧ (∀ i, i < k → a[i]? = b[i]?) ∧ m_ = a.length - k ∧ Fits ac 27 [(0, v_a), (1, v_b), (5, (.int .i64 ((k : Nat) : Int)))] ∧ St w ([]) w') ?_ ?_)))))
  ·refine fun ac w' hf hs => ⟨_, 0, ?_, ?_, rfl, hf.weak ⟨rfl, rfl, rfl, trivial⟩, hs⟩
   ·first | assumption | omega | simp
   ·intro i hi; omega
  ·rintro m_ ac w' ⟨k, hk, hi, rfl, hf, hs⟩
   refine D.use ?_ hf hs
   clear hf hs ac w'
   refine Cq (Sr (P2 rfl rfl (q1 rfl (Dl s_42 rfl rfl (rd_sl h_a)) (Pe rfl (Ci _ rfl (fun h4 => ?_) (fun h4 => ?_))))))
   ·have pr4 : (((k : Nat) : Int) : Int) < ((a.length : Nat) : Int) := odT h4
    refine Sk (Cq (Cb (Cq (C_draw mixed [8, 9] (by kernel_rfl) (Tk 0 rfl (by kernel_rfl) rfl (rp rfl) (Tk 1 rfl (by kernel_rfl) rfl (rp rfl) ?_))))))
    obtain ⟨x5, hx6⟩ := sL (l := a) (i := k) (by omega)
    obtain ⟨es7, at8, hr9⟩ := rd_elem (n := 3) rfl h_a hx6
    obtain ⟨u10, rfl, hu11⟩ := open_Stamp hr9
    have hm12 := rd_max hu11
    have hb13 := sub_Stamp_Fact hr9
    refine Tk 2 rfl (by kernel_rfl) rfl (D_ix (l := a) (j := k) s_42 rfl rfl rfl (fun w' hs => (rA hs h_a)) rfl (lS hx6)) (Tk 3 rfl (by kernel_rfl) rfl (lra a_100 rfl rfl at8) (Tk 4 rfl (by kernel_rfl) rfl (rp rfl) (Tk 5 rfl (by kernel_rfl) rfl (rp rfl) ?_)))
    obtain ⟨x14, hx15⟩ := sL (l := b) (i := k) (by omega)
    obtain ⟨es16, at17, hr18⟩ := rd_elem (n := 3) rfl h_b hx15
    obtain ⟨u19, rfl, hu20⟩ := open_Stamp hr18
    have hm21 := rd_max hu20
    have hb22 := sub_Stamp_Fact hr18
    refine Tk 6 rfl (by kernel_rfl) rfl (D_ix (l := b) (j := k) s_42 rfl rfl rfl (fun w' hs => (rA hs h_b)) rfl (lS hx15)) (Tk 7 rfl (by kernel_rfl) rfl (lra a_100 rfl rfl at17) (ty 8 rfl (by kernel_rfl) rfl (cv b_56 rfl rfl rfl rfl (fun w' hs => (laws_eqStamp w' [(.string x5.Fact.Rel), u10, (.int .i64 x5.Time)] x5 [(.string x14.Fact.Rel), u19, (.int .i64 x14.Time)] x14 (rA hs hr9) (rA hs hr18))) ?_)))
    refine tZ rfl (ty 9 rfl (by kernel_rfl) rfl (sv rfl rfl (rp rfl) ?_))
    refine tZ rfl (tE (by kernel_rfl) (Xt (Ci _ rfl (fun h23 => ?_) (fun h23 => ?_))))
    ·have h23n : (decide (x5 = x14)) = false := not_t h23
     refine Sr (Pe rfl (Ct (Xq (Xr (Xr (Xq (Xr (Rb rfl rfl ?_))))))))
     simp; intro e; subst e; simp_all
    ·have h23n : (decide (x5 = x14)) = true := not_f h23
     refine Ck (Xb (Xt (Cr (p1 rfl (q1 rfl (D_add rfl rfl rfl (r := ((k + 1 : Nat) : Int)) (by omega) (by omega)) (Pe rfl (fun ac w' hf hs => ⟨_, ?_, k + 1, ?_, ?_, rfl, hf.weak ⟨rfl, rfl, rfl, trivial⟩, hs⟩)))))))
     ·omega
     ·first | assumption | omega | simp
     ·refine idx_step hi (by assumption) (by assumption) ?_; first | (simp_all; done) | (apply Fact.mk_eq <;> simp_all)
   ·have pr4 : ¬ (((k : Nat) : Int) : Int) < ((a.length : Nat) : Int) := odF h4
    refine Cx (Xx (Xx (Xe (Xt (Sr (Pe rfl (Ct (Rb rfl rfl ?_))))))))
    simp; exact eq_of_idx (by omega) (fun i h => hi i (by omega))
theorem laws_szFiringS (w : World) (v_a : Value) (a : (List Firing)) (left : Int) (h_a : Gd.rd w [v_a] a) (h0 : 0 ≤ left) (h1 : left ≤ 1048576) (ho : okL okFiring a) : Calls Tryz.prog 68 [v_a, (.int .i64 left)].toArray w (Val w (.int .i64 (szm (szL szFiring a) left))) := by
 have hm1 := rd_max h_a
 refine enter 27 Tryz.func68 rfl rfl rfl (Sr (Pe rfl (Sr (P2 rfl rfl (q1 rfl (Dl s_54 rfl rfl (rd_sl h_a)) (q1 rfl (D_sub rfl rfl rfl rfl (by omega)) (Pe rfl (Cq (Sr (P2 rfl rfl (Dx (Ci _ rfl (fun h2 => ?_) (fun h2 => ?_)))))))))))))
 ·have pr2 : ((left - ((a.length : Nat) : Int)) : Int) < 0 := odT h2
  refine Sr (Pe rfl (Ct (Xr (Ri rfl rfl ?_))))
  show ((-1) : Int) = _
  refine (szm_neg ?_).symm; unfold szL; omega
 ·have pr2 : ¬ ((left - ((a.length : Nat) : Int)) : Int) < 0 := odF h2
  refine Sk (Cq (Sr (Pe rfl (Cb (Cl (fun m_ ac w' => ∃ (k : Nat), ∃ (lf : Int), (k ≤ a.length) ∧ (0 ≤ lf ∧ lf = left - a.length - sumC szFiring (a.take k)) ∧ m_ = a.length - k ∧ Fits ac 27 [(0, v_a), (1, (.int .i64 lf)), (5, (.int .i64 ((k : Nat) : Int)))] ∧ St w ([]) w') ?_ ?_)))))
  ·refine fun ac w' hf hs => ⟨_, 0, (left - ((a.length : Nat) : Int)), ?_, ?_, rfl, hf.weak ⟨rfl, rfl, rfl, trivial⟩, hs⟩
   ·first | assumption | omega | simp
   ·simp [sumC]; omega
  ·rintro m_ ac w' ⟨k, lf, hk, hl, rfl, hf, hs⟩
   refine D.use ?_ hf hs
   clear hf hs ac w'
   have ht := sumC_take_le a szFiring k
   refine Cq (Sr (P2 rfl rfl (q1 rfl (Dl s_54 rfl rfl (rd_sl h_a)) (Pe rfl (Ci _ rfl (fun h3 => ?_) (fun h3 => ?_))))))
   ·have pr3 : (((k : Nat) : Int) : Int) < ((a.length : Nat) : Int) := odT h3
    refine Sk (Cq (Cb (Sr (P2 rfl rfl ?_))))
    obtain ⟨r0, hr0⟩ := sL (l := a) (i := k) (by omega)
    have hro := ho _ (List.mem_of_getElem? hr0)
    have ht1 := sumC_take_le a szFiring (k + 1)
    have hst := sumC_take (c := szFiring) hr0
    obtain ⟨es4, at5, hr6⟩ := rd_elem (n := 2) rfl h_a hr0
    obtain ⟨u7, rfl, hu8⟩ := open_Firing hr6
    have hm9 := rd_max hu8
    refine q1 rfl (D_ix (l := a) (j := k) s_54 rfl rfl rfl (fun w' hs => (rA hs h_a)) rfl (lS hr0)) (q1 rfl (lra a_162 rfl rfl at5) (p1 rfl (li rfl (cv b_120 rfl rfl rfl rfl (fun w' hs => (laws_szFiring w' [(.string r0.Rule), u7] r0 lf (rA hs hr6) (by first | assumption | omega | (unfold szm at *; split at * <;> omega)) (by first | assumption | omega | (unfold szm at *; split at * <;> omega)) hro)) ?_))))
    refine Pe rfl (Sr (P2 rfl rfl (Dx (Ci _ rfl (fun h10 => ?_) (fun h10 => ?_)))))
    ·have pr10 : ((szm (szFiring r0) lf) : Int) < 0 := odT h10
     refine Sr (Pe rfl (Ct (Xq (Xr (Xr (Xq (Xr (Ri rfl rfl ?_))))))))
     show ((-1) : Int) = _
     refine (szm_neg ?_).symm; unfold szL; unfold szm at *; split at * <;> omega
    ·have pr10 : ¬ ((szm (szFiring r0) lf) : Int) < 0 := odF h10
     have pr10z := szm_val (n := (szFiring r0)) (left := lf) pr10
     refine Ck (Xb (Xt (Cr (p1 rfl (q1 rfl (D_add rfl rfl rfl (r := ((k + 1 : Nat) : Int)) (by omega) (by omega)) (Pe rfl (fun ac w' hf hs => ⟨_, ?_, k + 1, (szm (szFiring r0) lf), ?_, ?_, rfl, hf.weak ⟨rfl, rfl, rfl, trivial⟩, hs⟩)))))))
     ·omega
     ·first | assumption | omega | simp
     ·rw [hst]; unfold szm at *; split at * <;> omega
   ·have pr3 : ¬ (((k : Nat) : Int) : Int) < ((a.length : Nat) : Int) := odF h3
    refine Cx (Xx (Xx (Xe (Xt (Sr (P2 rfl rfl (Dx (Ct (Ri rfl rfl ?_)))))))))
    show (lf : Int) = _
    rw [szm_pos]; all_goals (unfold szL; rw [List.take_of_length_le (by omega)] at hl; omega)
theorem laws_toFiringS (w : World) (v_a : Value) (a : (List Firing)) (h_a : Gd.rd w [v_a] a) (hn : szL szFiring a ≤ 1048576) : Calls Tryz.prog 75 [v_a].toArray w (Res w (a : List Firing)) := by
 have hm1 := rd_max h_a
 unfold szL at hn
 refine enter 23 Tryz.func75 rfl rfl rfl (Sr (Pe rfl (Sr (p1 rfl (q1 rfl (Dl s_54 rfl rfl (rd_sl h_a)) (li rfl (D_mkG (α := Firing) (z0 := z0_Firing) s_63 y_168 rfl rfl rfl rfl rfl rfl zz_Firing (by omega) (by omega) fun v2 => ?_)))))))
 refine Pe rfl (Dh ([ov [v2] (List.replicate a.length z0_Firing : (List Firing))]) rfl (Cq (Sr (Pe rfl (Cb (Cl (fun m_ ac w' => ∃ (k : Nat), ∃ (v : Value), (k ≤ a.length) ∧ m_ = a.length - k ∧ Fits ac 23 [(0, v_a), (3, v), (4, (.int .i64 ((k : Nat) : Int)))] ∧ St w ([ov [v] (cp a z0_Firing k : (List Firing))]) w') ?_ ?_))))))
 ·refine D_eq 0 rfl (show (List.replicate a.length z0_Firing : (List Firing)) = cp a z0_Firing 0 from by rw [cp_zero]) (fun ac w' hf hs => ⟨_, 0, v2, ?_, rfl, hf.weak ⟨rfl, rfl, rfl, trivial⟩, hs⟩)
  ·first | assumption | omega | simp
 ·rintro m_ ac w' ⟨k, v, hk, rfl, hf, hs⟩
  refine D.use ?_ hf hs
  clear hf hs ac w'
  have hcl := cp_len a z0_Firing k hk
  refine Cq (Sr (P2 rfl rfl (q1 rfl (Dl s_54 rfl rfl (rd_sl h_a)) (Pe rfl (Dh ([ov [v] (cp a z0_Firing k : (List Firing))]) rfl (Ci _ rfl (fun h3 => ?_) (fun h3 => ?_)))))))
  ·have pr3 : (((k : Nat) : Int) : Int) < ((a.length : Nat) : Int) := odT h3
   refine Sk (Cq (Cb (Cr (P3 rfl rfl rfl (p1 rfl ?_)))))
   obtain ⟨x4, hx5⟩ := sL (l := a) (i := k) (by omega)
   have hle := sumC_mem (c := szFiring) (mem_idx hx5)
   obtain ⟨es6, at7, hr8⟩ := rd_elem (n := 2) rfl h_a hx5
   obtain ⟨u9, rfl, hu10⟩ := open_Firing hr8
   have hm11 := rd_max hu10
   refine q1 rfl (D_ix (l := a) (j := k) s_54 rfl rfl rfl (fun w' hs => (rA hs h_a)) rfl (lS hx5)) (q1 rfl (lra a_162 rfl rfl at7) (li rfl (crs rfl b_129 rfl rfl rfl rfl (fun w' hs => (laws_toFiring w' [(.string x4.Rule), u9] x4 (rA hs hr8) (by first | assumption | omega | (unfold szm at *; split at * <;> omega)))) fun cs12 => ?_)))
   refine Dp (fun w' hs => shape_Firing (rO (k := 0) hs rfl)) ?_
   rintro ⟨v13, rfl, ho14⟩
   obtain ⟨x15, hx16⟩ := sL (l := (cp a z0_Firing k)) (i := k) (by omega)
   refine q1 rfl (D_ix (l := (cp a z0_Firing k)) (j := k) s_63 rfl rfl rfl (fun w' hs => (rO (k := 1) hs rfl)) rfl (lS hx16)) (D_pk (H' := [ov [v] (cp a z0_Firing k : (List Firing)), ov [(.string x4.Rule), v13] (x4 : Firing)]) [1, 0] rfl rfl (li rfl (soG (α := Firing) rfl z_168 rfl rfl rfl rfl rfl (lS hx16) ?_)))
   refine De (Xb (Xt (Dh ([ov [v] ((cp a z0_Firing k).set k x4 : (List Firing))]) rfl (Cr (p1 rfl (q1 rfl (D_add rfl rfl rfl (r := ((k + 1 : Nat) : Int)) (by omega) (by omega)) (Pe rfl (D_eq 0 rfl (show ((cp a z0_Firing k).set k x4 : (List Firing)) = cp a z0_Firing (k + 1) from by rw [cp_set (by assumption)]) (fun ac w' hf hs => ⟨_, ?_, k + 1, v, ?_, rfl, hf.weak ⟨rfl, rfl, rfl, trivial⟩, hs⟩)))))))))
   ·omega
   ·first | assumption | omega | simp
  ·have pr3 : ¬ (((k : Nat) : Int) : Int) < ((a.length : Nat) : Int) := odF h3
   refine Cx (Xx (Xx (Xe (Xt (Sr (P2 rfl rfl (Dx (Ct (R_1 rfl rfl fun w' hs => res_of (k := 0) hs rfl ?_)))))))))
   show cp a z0_Firing k = a
   exact cp_done (by omega)
theorem laws_eqFiringS (w : World) (v_a : Value) (a : (List Firing)) (v_b : Value) (b : (List Firing)) (h_a : Gd.rd w [v_a] a) (h_b : Gd.rd w [v_b] b) : Calls Tryz.prog 82 [v_a, v_b].toArray w (Val w (.bool (decide (a = b)))) := by
 have hm1 := rd_max h_a
 have hm2 := rd_max h_b
 refine enter 27 Tryz.func82 rfl rfl rfl (Sr (Pe rfl (Cq (Sr (p1 rfl (q1 rfl (Dl s_63 rfl rfl (rd_sl h_a)) (p1 rfl (q1 rfl (Dl s_63 rfl rfl (rd_sl h_b)) (Pe rfl (Ci _ rfl (fun h3 => ?_) (fun h3 => ?_)))))))))))
 ·have pr3 : (((a.length : Nat) : Int) : Int) ≠ ((b.length : Nat) : Int) := bne_iff_ne.1 h3
  refine Sr (Pe rfl (Ct (Xr (Rb rfl rfl ?_))))
  simp; intro e; subst e; simp_all
 ·have pr3 : (((a.length : Nat) : Int) : Int) = ((b.length : Nat) : Int) := eq_of_bne_f h3
  refine Sk (Cq (Sr (Pe rfl (Cb (Cl (fun m_ ac w' => ∃ (k : Nat), (k ≤ a.length) ∧ (∀ i, i < k → a[i]? = b[i]?) ∧ m_ = a.length - k ∧ Fits ac 27 [(0, v_a), (1, v_b), (5, (.int .i64 ((k : Nat) : Int)))] ∧ St w ([]) w') ?_ ?_)))))
  ·refine fun ac w' hf hs => ⟨_, 0, ?_, ?_, rfl, hf.weak ⟨rfl, rfl, rfl, trivial⟩, hs⟩
   ·first | assumption | omega | simp
   ·intro i hi; omega
  ·rintro m_ ac w' ⟨k, hk, hi, rfl, hf, hs⟩
   refine D.use ?_ hf hs
   clear hf hs ac w'
   refine Cq (Sr (P2 rfl rfl (q1 rfl (Dl s_63 rfl rfl (rd_sl h_a)) (Pe rfl (Ci _ rfl (fun h4 => ?_) (fun h4 => ?_))))))
   ·have pr4 : (((k : Nat) : Int) : Int) < ((a.length : Nat) : Int) := odT h4
    refine Sk (Cq (Cb (Cq (C_draw mixed [8, 9] (by kernel_rfl) (Tk 0 rfl (by kernel_rfl) rfl (rp rfl) (Tk 1 rfl (by kernel_rfl) rfl (rp rfl) ?_))))))
    obtain ⟨x5, hx6⟩ := sL (l := a) (i := k) (by omega)
    obtain ⟨es7, at8, hr9⟩ := rd_elem (n := 2) rfl h_a hx6
    obtain ⟨u10, rfl, hu11⟩ := open_Firing hr9
    have hm12 := rd_max hu11
    refine Tk 2 rfl (by kernel_rfl) rfl (D_ix (l := a) (j := k) s_63 rfl rfl rfl (fun w' hs => (rA hs h_a)) rfl (lS hx6)) (Tk 3 rfl (by kernel_rfl) rfl (lra a_168 rfl rfl at8) (Tk 4 rfl (by kernel_rfl) rfl (rp rfl) (Tk 5 rfl (by kernel_rfl) rfl (rp rfl) ?_)))
    obtain ⟨x13, hx14⟩ := sL (l := b) (i := k) (by omega)
    obtain ⟨es15, at16, hr17⟩ := rd_elem (n := 2) rfl h_b hx14
    obtain ⟨u18, rfl, hu19⟩ := open_Firing hr17
    have hm20 := rd_max hu19
    refine Tk 6 rfl (by kernel_rfl) rfl (D_ix (l := b) (j := k) s_63 rfl rfl rfl (fun w' hs => (rA hs h_b)) rfl (lS hx14)) (Tk 7 rfl (by kernel_rfl) rfl (lra a_168 rfl rfl at16) (ty 8 rfl (by kernel_rfl) rfl (cv b_140 rfl rfl rfl rfl (fun w' hs => (laws_eqFiring w' [(.string x5.Rule), u10] x5 [(.string x13.Rule), u18] x13 (rA hs hr9) (rA hs hr17))) ?_)))
    refine tZ rfl (ty 9 rfl (by kernel_rfl) rfl (sv rfl rfl (rp rfl) ?_))
    refine tZ rfl (tE (by kernel_rfl) (Xt (Ci _ rfl (fun h21 => ?_) (fun h21 => ?_))))
    ·have h21n : (decide (x5 = x13)) = false := not_t h21
     refine Sr (Pe rfl (Ct (Xq (Xr (Xr (Xq (Xr (Rb rfl rfl ?_))))))))
     simp; intro e; subst e; simp_all
    ·have h21n : (decide (x5 = x13)) = true := not_f h21
     refine Ck (Xb (Xt (Cr (p1 rfl (q1 rfl (D_add rfl rfl rfl (r := ((k + 1 : Nat) : Int)) (by omega) (by omega)) (Pe rfl (fun ac w' hf hs => ⟨_, ?_, k + 1, ?_, ?_, rfl, hf.weak ⟨rfl, rfl, rfl, trivial⟩, hs⟩)))))))
     ·omega
     ·first | assumption | omega | simp
     ·refine idx_step hi (by assumption) (by assumption) ?_; first | (simp_all; done) | (apply Fact.mk_eq <;> simp_all)
   ·have pr4 : ¬ (((k : Nat) : Int) : Int) < ((a.length : Nat) : Int) := odF h4
    refine Cx (Xx (Xx (Xe (Xt (Sr (Pe rfl (Ct (Rb rfl rfl ?_))))))))
    simp; exact eq_of_idx (by omega) (fun i h => hi i (by omega))
theorem laws_szEventS (w : World) (v_a : Value) (a : (List Event)) (left : Int) (h_a : Gd.rd w [v_a] a) (h0 : 0 ≤ left) (h1 : left ≤ 1048576) (ho : okL okEv a) : Calls Tryz.prog 69 [v_a, (.int .i64 left)].toArray w (Val w (.int .i64 (szm (szL szEv a) left))) := by
 have hm1 := rd_max h_a
 refine enter 27 Tryz.func69 rfl rfl rfl (Sr (Pe rfl (Sr (P2 rfl rfl (q1 rfl (Dl s_55 rfl rfl (rd_sl h_a)) (q1 rfl (D_sub rfl rfl rfl rfl (by omega)) (Pe rfl (Cq (Sr (P2 rfl rfl (Dx (Ci _ rfl (fun h2 => ?_) (fun h2 => ?_)))))))))))))
 ·have pr2 : ((left - ((a.length : Nat) : Int)) : Int) < 0 := odT h2
  refine Sr (Pe rfl (Ct (Xr (Ri rfl rfl ?_))))
  show ((-1) : Int) = _
  refine (szm_neg ?_).symm; unfold szL; omega
 ·have pr2 : ¬ ((left - ((a.length : Nat) : Int)) : Int) < 0 := odF h2
  refine Sk (Cq (Sr (Pe rfl (Cb (Cl (fun m_ ac w' => ∃ (k : Nat), ∃ (lf : Int), (k ≤ a.length) ∧ (0 ≤ lf ∧ lf = left - a.length - sumC szEv (a.take k)) ∧ m_ = a.length - k ∧ Fits ac 27 [(0, v_a), (1, (.int .i64 lf)), (5, (.int .i64 ((k : Nat) : Int)))] ∧ St w ([]) w') ?_ ?_)))))
  ·refine fun ac w' hf hs => ⟨_, 0, (left - ((a.length : Nat) : Int)), ?_, ?_, rfl, hf.weak ⟨rfl, rfl, rfl, trivial⟩, hs⟩
   ·first | assumption | omega | simp
   ·simp [sumC]; omega
  ·rintro m_ ac w' ⟨k, lf, hk, hl, rfl, hf, hs⟩
   refine D.use ?_ hf hs
   clear hf hs ac w'
   have ht := sumC_take_le a szEv k
   refine Cq (Sr (P2 rfl rfl (q1 rfl (Dl s_55 rfl rfl (rd_sl h_a)) (Pe rfl (Ci _ rfl (fun h3 => ?_) (fun h3 => ?_))))))
   ·have pr3 : (((k : Nat) : Int) : Int) < ((a.length : Nat) : Int) := odT h3
    refine Sk (Cq (Cb (Sr (P2 rfl rfl ?_))))
    obtain ⟨r0, hr0⟩ := sL (l := a) (i := k) (by omega)
    have hro := ho _ (List.mem_of_getElem? hr0)
    have ht1 := sumC_take_le a szEv (k + 1)
    have hst := sumC_take (c := szEv) hr0
    obtain ⟨es4, at5, hr6⟩ := rd_elem (n := 4) rfl h_a hr0
    obtain ⟨u7, rfl, hu8⟩ := open_Event hr6
    have hm9 := rd_max hu8
    have hb10 := sub_Event_Fact hr6
    refine q1 rfl (D_ix (l := a) (j := k) s_55 rfl rfl rfl (fun w' hs => (rA hs h_a)) rfl (lS hr0)) (q1 rfl (lra a_165 rfl rfl at5) (p1 rfl (li rfl (cv b_121 rfl rfl rfl rfl (fun w' hs => (laws_szEvent w' [(.int .i64 r0.Kind), (.string r0.Rule), (.string r0.Fact.Rel), u7] r0 lf (rA hs hr6) (by first | assumption | omega | (unfold szm at *; split at * <;> omega)) (by first | assumption | omega | (unfold szm at *; split at * <;> omega)) hro)) ?_))))
    refine Pe rfl (Sr (P2 rfl rfl (Dx (Ci _ rfl (fun h11 => ?_) (fun h11 => ?_)))))
    ·have pr11 : ((szm (szEv r0) lf) : Int) < 0 := odT h11
     refine Sr (Pe rfl (Ct (Xq (Xr (Xr (Xq (Xr (Ri rfl rfl ?_))))))))
     show ((-1) : Int) = _
     refine (szm_neg ?_).symm; unfold szL; unfold szm at *; split at * <;> omega
    ·have pr11 : ¬ ((szm (szEv r0) lf) : Int) < 0 := odF h11
     have pr11z := szm_val (n := (szEv r0)) (left := lf) pr11
     refine Ck (Xb (Xt (Cr (p1 rfl (q1 rfl (D_add rfl rfl rfl (r := ((k + 1 : Nat) : Int)) (by omega) (by omega)) (Pe rfl (fun ac w' hf hs => ⟨_, ?_, k + 1, (szm (szEv r0) lf), ?_, ?_, rfl, hf.weak ⟨rfl, rfl, rfl, trivial⟩, hs⟩)))))))
     ·omega
     ·first | assumption | omega | simp
     ·rw [hst]; unfold szm at *; split at * <;> omega
   ·have pr3 : ¬ (((k : Nat) : Int) : Int) < ((a.length : Nat) : Int) := odF h3
    refine Cx (Xx (Xx (Xe (Xt (Sr (P2 rfl rfl (Dx (Ct (Ri rfl rfl ?_)))))))))
    show (lf : Int) = _
    rw [szm_pos]; all_goals (unfold szL; rw [List.take_of_length_le (by omega)] at hl; omega)
theorem laws_toEventS (w : World) (v_a : Value) (a : (List Event)) (h_a : Gd.rd w [v_a] a) (hn : szL szEv a ≤ 1048576) : Calls Tryz.prog 76 [v_a].toArray w (Res w (a : List Event)) := by
 have hm1 := rd_max h_a
 unfold szL at hn
 refine enter 23 Tryz.func76 rfl rfl rfl (Sr (Pe rfl (Sr (p1 rfl (q1 rfl (Dl s_55 rfl rfl (rd_sl h_a)) (li rfl (D_mkG (α := Event) (z0 := z0_Event) s_64 y_171 rfl rfl rfl rfl rfl rfl zz_Event (by omega) (by omega) fun v2 => ?_)))))))
 refine Pe rfl (Dh ([ov [v2] (List.replicate a.length z0_Event : (List Event))]) rfl (Cq (Sr (Pe rfl (Cb (Cl (fun m_ ac w' => ∃ (k : Nat), ∃ (v : Value), (k ≤ a.length) ∧ m_ = a.length - k ∧ Fits ac 23 [(0, v_a), (3, v), (4, (.int .i64 ((k : Nat) : Int)))] ∧ St w ([ov [v] (cp a z0_Event k : (List Event))]) w') ?_ ?_))))))
 ·refine D_eq 0 rfl (show (List.replicate a.length z0_Event : (List Event)) = cp a z0_Event 0 from by rw [cp_zero]) (fun ac w' hf hs => ⟨_, 0, v2, ?_, rfl, hf.weak ⟨rfl, rfl, rfl, trivial⟩, hs⟩)
  ·first | assumption | omega | simp
 ·rintro m_ ac w' ⟨k, v, hk, rfl, hf, hs⟩
  refine D.use ?_ hf hs
  clear hf hs ac w'
  have hcl := cp_len a z0_Event k hk
  refine Cq (Sr (P2 rfl rfl (q1 rfl (Dl s_55 rfl rfl (rd_sl h_a)) (Pe rfl (Dh ([ov [v] (cp a z0_Event k : (List Event))]) rfl (Ci _ rfl (fun h3 => ?_) (fun h3 => ?_)))))))
  ·have pr3 : (((k : Nat) : Int) : Int) < ((a.length : Nat) : Int) := odT h3
   refine Sk (Cq (Cb (Cr (P3 rfl rfl rfl (p1 rfl ?_)))))
   obtain ⟨x4, hx5⟩ := sL (l := a) (i := k) (by omega)
   have hle := sumC_mem (c := szEv) (mem_idx hx5)
   obtain ⟨es6, at7, hr8⟩ := rd_elem (n := 4) rfl h_a hx5
   obtain ⟨u9, rfl, hu10⟩ := open_Event hr8
   have hm11 := rd_max hu10
   have hb12 := sub_Event_Fact hr8
   refine q1 rfl (D_ix (l := a) (j := k) s_55 rfl rfl rfl (fun w' hs => (rA hs h_a)) rfl (lS hx5)) (q1 rfl (lra a_165 rfl rfl at7) (li rfl (crs rfl b_130 rfl rfl rfl rfl (fun w' hs => (laws_toEvent w' [(.int .i64 x4.Kind), (.string x4.Rule), (.string x4.Fact.Rel), u9] x4 (rA hs hr8) (by first | assumption | omega | (unfold szm at *; split at * <;> omega)))) fun cs13 => ?_)))
   refine Dp (fun w' hs => shape_Event (rO (k := 0) hs rfl)) ?_
   rintro ⟨v14, rfl, ho15⟩
   obtain ⟨x16, hx17⟩ := sL (l := (cp a z0_Event k)) (i := k) (by omega)
   refine q1 rfl (D_ix (l := (cp a z0_Event k)) (j := k) s_64 rfl rfl rfl (fun w' hs => (rO (k := 1) hs rfl)) rfl (lS hx17)) (D_pk (H' := [ov [v] (cp a z0_Event k : (List Event)), ov [(.int .i64 x4.Kind), (.string x4.Rule), (.string x4.Fact.Rel), v14] (x4 : Event)]) [1, 0] rfl rfl (li rfl (soG (α := Event) rfl z_171 rfl rfl rfl rfl rfl (lS hx17) ?_)))
   refine De (Xb (Xt (Dh ([ov [v] ((cp a z0_Event k).set k x4 : (List Event))]) rfl (Cr (p1 rfl (q1 rfl (D_add rfl rfl rfl (r := ((k + 1 : Nat) : Int)) (by omega) (by omega)) (Pe rfl (D_eq 0 rfl (show ((cp a z0_Event k).set k x4 : (List Event)) = cp a z0_Event (k + 1) from by rw [cp_set (by assumption)]) (fun ac w' hf hs => ⟨_, ?_, k + 1, v, ?_, rfl, hf.weak ⟨rfl, rfl, rfl, trivial⟩, hs⟩)))))))))
   ·omega
   ·first | assumption | omega | simp
  ·have pr3 : ¬ (((k : Nat) : Int) : Int) < ((a.length : Nat) : Int) := odF h3
   refine Cx (Xx (Xx (Xe (Xt (Sr (P2 rfl rfl (Dx (Ct (R_1 rfl rfl fun w' hs => res_of (k := 0) hs rfl ?_)))))))))
   show cp a z0_Event k = a
   exact cp_done (by omega)
theorem laws_eqEventS (w : World) (v_a : Value) (a : (List Event)) (v_b : Value) (b : (List Event)) (h_a : Gd.rd w [v_a] a) (h_b : Gd.rd w [v_b] b) : Calls Tryz.prog 83 [v_a, v_b].toArray w (Val w (.bool (decide (a = b)))) := by
 have hm1 := rd_max h_a
 have hm2 := rd_max h_b
 refine enter 27 Tryz.func83 rfl rfl rfl (Sr (Pe rfl (Cq (Sr (p1 rfl (q1 rfl (Dl s_64 rfl rfl (rd_sl h_a)) (p1 rfl (q1 rfl (Dl s_64 rfl rfl (rd_sl h_b)) (Pe rfl (Ci _ rfl (fun h3 => ?_) (fun h3 => ?_)))))))))))
 ·have pr3 : (((a.length : Nat) : Int) : Int) ≠ ((b.length : Nat) : Int) := bne_iff_ne.1 h3
  refine Sr (Pe rfl (Ct (Xr (Rb rfl rfl ?_))))
  simp; intro e; subst e; simp_all
 ·have pr3 : (((a.length : Nat) : Int) : Int) = ((b.length : Nat) : Int) := eq_of_bne_f h3
  refine Sk (Cq (Sr (Pe rfl (Cb (Cl (fun m_ ac w' => ∃ (k : Nat), (k ≤ a.length) ∧ (∀ i, i < k → a[i]? = b[i]?) ∧ m_ = a.length - k ∧ Fits ac 27 [(0, v_a), (1, v_b), (5, (.int .i64 ((k : Nat) : Int)))] ∧ St w ([]) w') ?_ ?_)))))
  ·refine fun ac w' hf hs => ⟨_, 0, ?_, ?_, rfl, hf.weak ⟨rfl, rfl, rfl, trivial⟩, hs⟩
   ·first | assumption | omega | simp
   ·intro i hi; omega
  ·rintro m_ ac w' ⟨k, hk, hi, rfl, hf, hs⟩
   refine D.use ?_ hf hs
   clear hf hs ac w'
   refine Cq (Sr (P2 rfl rfl (q1 rfl (Dl s_64 rfl rfl (rd_sl h_a)) (Pe rfl (Ci _ rfl (fun h4 => ?_) (fun h4 => ?_))))))
   ·have pr4 : (((k : Nat) : Int) : Int) < ((a.length : Nat) : Int) := odT h4
    refine Sk (Cq (Cb (Cq (C_draw mixed [8, 9] (by kernel_rfl) (Tk 0 rfl (by kernel_rfl) rfl (rp rfl) (Tk 1 rfl (by kernel_rfl) rfl (rp rfl) ?_))))))
    obtain ⟨x5, hx6⟩ := sL (l := a) (i := k) (by omega)
    obtain ⟨es7, at8, hr9⟩ := rd_elem (n := 4) rfl h_a hx6
    obtain ⟨u10, rfl, hu11⟩ := open_Event hr9
    have hm12 := rd_max hu11
    have hb13 := sub_Event_Fact hr9
    refine Tk 2 rfl (by kernel_rfl) rfl (D_ix (l := a) (j := k) s_64 rfl rfl rfl (fun w' hs => (rA hs h_a)) rfl (lS hx6)) (Tk 3 rfl (by kernel_rfl) rfl (lra a_171 rfl rfl at8) (Tk 4 rfl (by kernel_rfl) rfl (rp rfl) (Tk 5 rfl (by kernel_rfl) rfl (rp rfl) ?_)))
    obtain ⟨x14, hx15⟩ := sL (l := b) (i := k) (by omega)
    obtain ⟨es16, at17, hr18⟩ := rd_elem (n := 4) rfl h_b hx15
    obtain ⟨u19, rfl, hu20⟩ := open_Event hr18
    have hm21 := rd_max hu20
    have hb22 := sub_Event_Fact hr18
    refine Tk 6 rfl (by kernel_rfl) rfl (D_ix (l := b) (j := k) s_64 rfl rfl rfl (fun w' hs => (rA hs h_b)) rfl (lS hx15)) (Tk 7 rfl (by kernel_rfl) rfl (lra a_171 rfl rfl at17) (ty 8 rfl (by kernel_rfl) rfl (cv b_141 rfl rfl rfl rfl (fun w' hs => (laws_eqEvent w' [(.int .i64 x5.Kind), (.string x5.Rule), (.string x5.Fact.Rel), u10] x5 [(.int .i64 x14.Kind), (.string x14.Rule), (.string x14.Fact.Rel), u19] x14 (rA hs hr9) (rA hs hr18))) ?_)))
    refine tZ rfl (ty 9 rfl (by kernel_rfl) rfl (sv rfl rfl (rp rfl) ?_))
    refine tZ rfl (tE (by kernel_rfl) (Xt (Ci _ rfl (fun h23 => ?_) (fun h23 => ?_))))
    ·have h23n : (decide (x5 = x14)) = false := not_t h23
     refine Sr (Pe rfl (Ct (Xq (Xr (Xr (Xq (Xr (Rb rfl rfl ?_))))))))
     simp; intro e; subst e; simp_all
    ·have h23n : (decide (x5 = x14)) = true := not_f h23
     refine Ck (Xb (Xt (Cr (p1 rfl (q1 rfl (D_add rfl rfl rfl (r := ((k + 1 : Nat) : Int)) (by omega) (by omega)) (Pe rfl (fun ac w' hf hs => ⟨_, ?_, k + 1, ?_, ?_, rfl, hf.weak ⟨rfl, rfl, rfl, trivial⟩, hs⟩)))))))
     ·omega
     ·first | assumption | omega | simp
     ·refine idx_step hi (by assumption) (by assumption) ?_; first | (simp_all; done) | (apply Fact.mk_eq <;> simp_all)
   ·have pr4 : ¬ (((k : Nat) : Int) : Int) < ((a.length : Nat) : Int) := odF h4
    refine Cx (Xx (Xx (Xe (Xt (Sr (Pe rfl (Ct (Rb rfl rfl ?_))))))))
    simp; exact eq_of_idx (by omega) (fun i h => hi i (by omega))
theorem laws_szEngine (w : World) (c_a : List Value) (a : Engine) (left : Int) (h_a : Gd.rd w c_a a) (h0 : 0 ≤ left) (h1 : left ≤ 1048576) (ho : okEngine a) : Calls Tryz.prog 23 [(.agg c_a.toArray), (.int .i64 left)].toArray w (Val w (.int .i64 (szm (szEngine a) left))) := by
 obtain ⟨u1, u3, u5, u7, rfl, hu2, hu4, hu6, hu8⟩ := open_Engine h_a
 have hm9 := rd_max hu2
 have hm10 := rd_max hu4
 have hm11 := rd_max hu6
 have hm12 := rd_max hu8
 refine enter 30 Tryz.func23 rfl rfl rfl (Sr (li rfl (D_box rfl rfl rfl rfl rfl fun g13 => ?_)))
 refine Pe rfl (Dh ([bx g13 [u1, u3, (.int .i64 a.Clock), u5, (.bool a.Halted), u7]]) rfl (Sr (q1 rfl (Db f_57_0 rfl rfl (q := 0) rfl) (q1 rfl (lb 0 o_22 rfl rfl rfl rfl) (p1 rfl (li rfl (cv b_6 rfl rfl rfl rfl (fun w' hs => (laws_szRuleS w' u1 a.Rules left (rA hs hu2) (by first | assumption | omega | (unfold szm at *; split at * <;> omega)) (by first | assumption | omega | (unfold szm at *; split at * <;> omega)) ho.1)) ?_)))))))
 refine Pe rfl (Cq (Sr (P2 rfl rfl (Dx (Ci _ rfl (fun h14 => ?_) (fun h14 => ?_))))))
 ·have pr14 : ((szm (szL szRule a.Rules) left) : Int) < 0 := odT h14
  refine Sr (Pe rfl (Ct (Xr (Ri rfl rfl ?_))))
  show ((-1) : Int) = _
  unfold szEngine szm at *; repeat (split at * <;> try omega)
 ·have pr14 : ¬ ((szm (szL szRule a.Rules) left) : Int) < 0 := odF h14
  have pr14z := szm_val (n := (szL szRule a.Rules)) (left := left) pr14
  refine Sk (Sr (q1 rfl (Db f_57_1 rfl rfl (q := 1) rfl) (q1 rfl (lb 0 o_23 rfl rfl rfl rfl) (p1 rfl (li rfl (cv b_7 rfl rfl rfl rfl (fun w' hs => (laws_szStampS w' u3 a.Memory (szm (szL szRule a.Rules) left) (rA hs hu4) (by first | assumption | omega | (unfold szm at *; split at * <;> omega)) (by first | assumption | omega | (unfold szm at *; split at * <;> omega)) ho.2.1)) ?_))))))
  refine Pe rfl (Cq (Sr (P2 rfl rfl (Dx (Ci _ rfl (fun h15 => ?_) (fun h15 => ?_))))))
  ·have pr15 : ((szm (szL szStamp a.Memory) (szm (szL szRule a.Rules) left)) : Int) < 0 := odT h15
   refine Sr (Pe rfl (Ct (Xr (Ri rfl rfl ?_))))
   show ((-1) : Int) = _
   unfold szEngine szm at *; repeat (split at * <;> try omega)
  ·have pr15 : ¬ ((szm (szL szStamp a.Memory) (szm (szL szRule a.Rules) left)) : Int) < 0 := odF h15
   have pr15z := szm_val (n := (szL szStamp a.Memory)) (left := (szm (szL szRule a.Rules) left)) pr15
   refine Sk (Sr (q1 rfl (Db f_57_3 rfl rfl (q := 3) rfl) (q1 rfl (lb 0 o_54 rfl rfl rfl rfl) (p1 rfl (li rfl (cv b_68 rfl rfl rfl rfl (fun w' hs => (laws_szFiringS w' u5 a.Fired (szm (szL szStamp a.Memory) (szm (szL szRule a.Rules) left)) (rA hs hu6) (by first | assumption | omega | (unfold szm at *; split at * <;> omega)) (by first | assumption | omega | (unfold szm at *; split at * <;> omega)) ho.2.2.2.1)) ?_))))))
   refine Pe rfl (Dw [(1, (.int .i64 (szm (szL szFiring a.Fired) (szm (szL szStamp a.Memory) (szm (szL szRule a.Rules) left))))), (2, (.pointer (some ⟨g13, 0, none⟩)))] ⟨rfl, rfl, trivial⟩ (Cq (Sr (P2 rfl rfl (Dx (Ci _ rfl (fun h16 => ?_) (fun h16 => ?_)))))))
   ·have pr16 : ((szm (szL szFiring a.Fired) (szm (szL szStamp a.Memory) (szm (szL szRule a.Rules) left))) : Int) < 0 := odT h16
    refine Sr (Pe rfl (Ct (Xr (Ri rfl rfl ?_))))
    show ((-1) : Int) = _
    unfold szEngine szm at *; repeat (split at * <;> try omega)
   ·have pr16 : ¬ ((szm (szL szFiring a.Fired) (szm (szL szStamp a.Memory) (szm (szL szRule a.Rules) left))) : Int) < 0 := odF h16
    have pr16z := szm_val (n := (szL szFiring a.Fired)) (left := (szm (szL szStamp a.Memory) (szm (szL szRule a.Rules) left))) pr16
    refine Sk (Sr (q1 rfl (Db f_57_5 rfl rfl (q := 5) rfl) (q1 rfl (lb 0 o_55 rfl rfl rfl rfl) (p1 rfl (li rfl (cv b_69 rfl rfl rfl rfl (fun w' hs => (laws_szEventS w' u7 a.Log (szm (szL szFiring a.Fired) (szm (szL szStamp a.Memory) (szm (szL szRule a.Rules) left))) (rA hs hu8) (by first | assumption | omega | (unfold szm at *; split at * <;> omega)) (by first | assumption | omega | (unfold szm at *; split at * <;> omega)) ho.2.2.2.2.2)) ?_))))))
    refine Pe rfl (Cq (Sr (P2 rfl rfl (Dx (Ci _ rfl (fun h17 => ?_) (fun h17 => ?_))))))
    ·have pr17 : ((szm (szL szEv a.Log) (szm (szL szFiring a.Fired) (szm (szL szStamp a.Memory) (szm (szL szRule a.Rules) left)))) : Int) < 0 := odT h17
     refine Sr (Pe rfl (Ct (Xr (Ri rfl rfl ?_))))
     show ((-1) : Int) = _
     unfold szEngine szm at *; repeat (split at * <;> try omega)
    ·have pr17 : ¬ ((szm (szL szEv a.Log) (szm (szL szFiring a.Fired) (szm (szL szStamp a.Memory) (szm (szL szRule a.Rules) left)))) : Int) < 0 := odF h17
     have pr17z := szm_val (n := (szL szEv a.Log)) (left := (szm (szL szFiring a.Fired) (szm (szL szStamp a.Memory) (szm (szL szRule a.Rules) left)))) pr17
     refine Sk (Sr (P2 rfl rfl (Dx (Ct (Ri rfl rfl ?_)))))
     show ((szm (szL szEv a.Log) (szm (szL szFiring a.Fired) (szm (szL szStamp a.Memory) (szm (szL szRule a.Rules) left)))) : Int) = _
     unfold szEngine szm at *; repeat (split at * <;> try omega)
theorem laws_toEngine (w : World) (c_a : List Value) (a : Engine) (h_a : Gd.rd w c_a a) (hn : szEngine a ≤ 1048576) : Calls Tryz.prog 26 [(.agg c_a.toArray)].toArray w (Res w (a : Engine)) := by
 obtain ⟨u1, u3, u5, u7, rfl, hu2, hu4, hu6, hu8⟩ := open_Engine h_a
 have hm9 := rd_max hu2
 have hm10 := rd_max hu4
 have hm11 := rd_max hu6
 have hm12 := rd_max hu8
 unfold szEngine at hn
 refine enter 27 Tryz.func26 rfl rfl rfl (Sr (li rfl (D_box rfl rfl rfl rfl rfl fun g13 => ?_)))
 refine li rfl (D_alloc y_66 rfl rfl rfl rfl fun g14 => ?_)
 refine Dx (Dh ([bx g14 [(.slice none 0 0), (.slice none 0 0), (.int .i64 0), (.slice none 0 0), (.bool false), (.slice none 0 0)], bx g13 [u1, u3, (.int .i64 a.Clock), u5, (.bool a.Halted), u7]]) rfl (Sr (li rfl (D_alloc y_66 rfl rfl rfl rfl fun g15 => ?_))))
 refine Dx (Dh ([bx g15 [(.slice none 0 0), (.slice none 0 0), (.int .i64 0), (.slice none 0 0), (.bool false), (.slice none 0 0)], bx g14 [(.slice none 0 0), (.slice none 0 0), (.int .i64 0), (.slice none 0 0), (.bool false), (.slice none 0 0)], bx g13 [u1, u3, (.int .i64 a.Clock), u5, (.bool a.Halted), u7]]) rfl (Sr (q1 rfl (Db f_57_0 rfl rfl (q := 0) rfl) (q1 rfl (lb 2 o_22 rfl rfl rfl rfl) (li rfl (crl b_10 rfl rfl rfl rfl (fun w' hs => (laws_toRuleS w' u1 a.Rules (rA hs hu2) (by first | assumption | omega | (unfold szm at *; split at * <;> omega)))) fun v16 => ?_))))))
 refine q1 rfl (Db f_66_0 rfl rfl (q := 0) rfl) (Dp (fun w' hs => one_own (k := 0) hs rfl) ?_)
 intro ho17
 refine li rfl (D_stb (vs := [v16]) (cs' := [v16, (.slice none 0 0), (.int .i64 0), (.slice none 0 0), (.bool false), (.slice none 0 0)]) 1 z_40 rfl rfl rfl rfl rfl (cells_of_one ho17) (ocons ho17 onil) (by simp) rfl ?_)
 refine Dx (Dh ([ov [v16] (a.Rules : (List Rule)), bx g15 [v16, (.slice none 0 0), (.int .i64 0), (.slice none 0 0), (.bool false), (.slice none 0 0)], bx g14 [(.slice none 0 0), (.slice none 0 0), (.int .i64 0), (.slice none 0 0), (.bool false), (.slice none 0 0)], bx g13 [u1, u3, (.int .i64 a.Clock), u5, (.bool a.Halted), u7]]) rfl (Sr (q1 rfl (Db f_57_1 rfl rfl (q := 1) rfl) (q1 rfl (lb 3 o_23 rfl rfl rfl rfl) (li rfl (crl b_11 rfl rfl rfl rfl (fun w' hs => (laws_toStampS w' u3 a.Memory (rA hs hu4) (by first | assumption | omega | (unfold szm at *; split at * <;> omega)))) fun v18 => ?_))))))
 refine q1 rfl (Db f_66_1 rfl rfl (q := 1) rfl) (Dp (fun w' hs => one_own (k := 0) hs rfl) ?_)
 intro ho19
 refine li rfl (D_stb (vs := [v18]) (cs' := [v16, v18, (.int .i64 0), (.slice none 0 0), (.bool false), (.slice none 0 0)]) 2 z_42 rfl rfl rfl rfl rfl (cells_of_one ho19) (ocons ho19 onil) (by simp) rfl ?_)
 refine Dx (Dh ([ov [v18] (a.Memory : (List Stamp)), ov [v16] (a.Rules : (List Rule)), bx g15 [v16, v18, (.int .i64 0), (.slice none 0 0), (.bool false), (.slice none 0 0)], bx g14 [(.slice none 0 0), (.slice none 0 0), (.int .i64 0), (.slice none 0 0), (.bool false), (.slice none 0 0)], bx g13 [u1, u3, (.int .i64 a.Clock), u5, (.bool a.Halted), u7]]) rfl (Sr (q1 rfl (Db f_57_2 rfl rfl (q := 2) rfl) (q1 rfl (lb 4 o_3 rfl rfl rfl rfl) (q1 rfl (Db f_66_2 rfl rfl (q := 2) rfl) (li rfl (D_stb (vs := [(.int .i64 a.Clock)]) (cs' := [v16, v18, (.int .i64 a.Clock), (.slice none 0 0), (.bool false), (.slice none 0 0)]) 2 z_3 rfl rfl rfl rfl rfl rfl (ocons rfl onil) (by simp) rfl ?_)))))))
 refine Dx (Dh ([ov [v18] (a.Memory : (List Stamp)), ov [v16] (a.Rules : (List Rule)), bx g15 [v16, v18, (.int .i64 a.Clock), (.slice none 0 0), (.bool false), (.slice none 0 0)], bx g14 [(.slice none 0 0), (.slice none 0 0), (.int .i64 0), (.slice none 0 0), (.bool false), (.slice none 0 0)], bx g13 [u1, u3, (.int .i64 a.Clock), u5, (.bool a.Halted), u7]]) rfl (Sr (q1 rfl (Db f_57_3 rfl rfl (q := 3) rfl) (q1 rfl (lb 4 o_54 rfl rfl rfl rfl) (li rfl (crl b_75 rfl rfl rfl rfl (fun w' hs => (laws_toFiringS w' u5 a.Fired (rA hs hu6) (by first | assumption | omega | (unfold szm at *; split at * <;> omega)))) fun v20 => ?_))))))
 refine q1 rfl (Db f_66_3 rfl rfl (q := 3) rfl) (Dp (fun w' hs => one_own (k := 0) hs rfl) ?_)
 intro ho21
 refine li rfl (D_stb (vs := [v20]) (cs' := [v16, v18, (.int .i64 a.Clock), v20, (.bool false), (.slice none 0 0)]) 3 z_63 rfl rfl rfl rfl rfl (cells_of_one ho21) (ocons ho21 onil) (by simp) rfl ?_)
 refine Dx (Dw [(1, (.pointer (some ⟨g13, 0, none⟩))), (2, (.pointer (some ⟨g14, 0, none⟩))), (3, (.pointer (some ⟨g15, 0, none⟩)))] ⟨rfl, rfl, rfl, trivial⟩ (Dh ([ov [v20] (a.Fired : (List Firing)), ov [v18] (a.Memory : (List Stamp)), ov [v16] (a.Rules : (List Rule)), bx g15 [v16, v18, (.int .i64 a.Clock), v20, (.bool false), (.slice none 0 0)], bx g14 [(.slice none 0 0), (.slice none 0 0), (.int .i64 0), (.slice none 0 0), (.bool false), (.slice none 0 0)], bx g13 [u1, u3, (.int .i64 a.Clock), u5, (.bool a.Halted), u7]]) rfl (Sr (q1 rfl (Db f_57_4 rfl rfl (q := 4) rfl) (q1 rfl (lb 5 o_4 rfl rfl rfl rfl) (q1 rfl (Db f_66_4 rfl rfl (q := 4) rfl) (li rfl (D_stb (vs := [(.bool a.Halted)]) (cs' := [v16, v18, (.int .i64 a.Clock), v20, (.bool a.Halted), (.slice none 0 0)]) 3 z_4 rfl rfl rfl rfl rfl rfl (ocons rfl onil) (by simp) rfl ?_))))))))
 refine Dx (Dh ([ov [v20] (a.Fired : (List Firing)), ov [v18] (a.Memory : (List Stamp)), ov [v16] (a.Rules : (List Rule)), bx g15 [v16, v18, (.int .i64 a.Clock), v20, (.bool a.Halted), (.slice none 0 0)], bx g14 [(.slice none 0 0), (.slice none 0 0), (.int .i64 0), (.slice none 0 0), (.bool false), (.slice none 0 0)], bx g13 [u1, u3, (.int .i64 a.Clock), u5, (.bool a.Halted), u7]]) rfl (Sr (q1 rfl (Db f_57_5 rfl rfl (q := 5) rfl) (q1 rfl (lb 5 o_55 rfl rfl rfl rfl) (li rfl (crl b_76 rfl rfl rfl rfl (fun w' hs => (laws_toEventS w' u7 a.Log (rA hs hu8) (by first | assumption | omega | (unfold szm at *; split at * <;> omega)))) fun v22 => ?_))))))
 refine q1 rfl (Db f_66_5 rfl rfl (q := 5) rfl) (Dp (fun w' hs => one_own (k := 0) hs rfl) ?_)
 intro ho23
 refine li rfl (D_stb (vs := [v22]) (cs' := [v16, v18, (.int .i64 a.Clock), v20, (.bool a.Halted), v22]) 4 z_64 rfl rfl rfl rfl rfl (cells_of_one ho23) (ocons ho23 onil) (by simp) rfl ?_)
 refine Dx (Dh ([ov [v22] (a.Log : (List Event)), ov [v20] (a.Fired : (List Firing)), ov [v18] (a.Memory : (List Stamp)), ov [v16] (a.Rules : (List Rule)), bx g15 [v16, v18, (.int .i64 a.Clock), v20, (.bool a.Halted), v22], bx g14 [(.slice none 0 0), (.slice none 0 0), (.int .i64 0), (.slice none 0 0), (.bool false), (.slice none 0 0)], bx g13 [u1, u3, (.int .i64 a.Clock), u5, (.bool a.Halted), u7]]) rfl (Sr (q1 rfl (lbw 4 a_66 rfl rfl rfl) (li rfl (D_stb (vs := [v16, v18, (.int .i64 a.Clock), v20, (.bool a.Halted), v22]) (cs' := [v16, v18, (.int .i64 a.Clock), v20, (.bool a.Halted), v22]) 5 z_66 rfl rfl rfl rfl rfl rfl (ocons ho17 (ocons ho19 (ocons rfl (ocons ho21 (ocons rfl (ocons ho23 onil)))))) (by simp) rfl ?_)))))
 refine Dx (Ct (D_pk (H' := [ov [v16] (a.Rules : (List Rule)), ov [v18] (a.Memory : (List Stamp)), ov [v20] (a.Fired : (List Firing)), ov [v22] (a.Log : (List Event)), bx g15 [v16, v18, (.int .i64 a.Clock), v20, (.bool a.Halted), v22], bx g14 [v16, v18, (.int .i64 a.Clock), v20, (.bool a.Halted), v22], bx g13 [u1, u3, (.int .i64 a.Clock), u5, (.bool a.Halted), u7]]) [3, 2, 1, 0, 4, 5, 6] rfl rfl (pk_Engine (r := (a : Engine)) (R_c 2 a_66 rfl rfl rfl fun w' hs => res_of (k := 0) hs rfl ?_))))
 show (a : Engine) = a
 rfl
theorem laws_eqEngine (w : World) (c_a : List Value) (a : Engine) (c_b : List Value) (b : Engine) (h_a : Gd.rd w c_a a) (h_b : Gd.rd w c_b b) : Calls Tryz.prog 29 [(.agg c_a.toArray), (.agg c_b.toArray)].toArray w (Val w (.bool (decide (a = b)))) := by
 obtain ⟨u1, u3, u5, u7, rfl, hu2, hu4, hu6, hu8⟩ := open_Engine h_a
 have hm9 := rd_max hu2
 have hm10 := rd_max hu4
 have hm11 := rd_max hu6
 have hm12 := rd_max hu8
 obtain ⟨u13, u15, u17, u19, rfl, hu14, hu16, hu18, hu20⟩ := open_Engine h_b
 have hm21 := rd_max hu14
 have hm22 := rd_max hu16
 have hm23 := rd_max hu18
 have hm24 := rd_max hu20
 refine enter 39 Tryz.func29 rfl rfl rfl (Sr (li rfl (D_box rfl rfl rfl rfl rfl fun g25 => ?_)))
 refine li rfl (D_box rfl rfl rfl rfl rfl fun g26 => ?_)
 refine Pe rfl (Dh ([bx g26 [u13, u15, (.int .i64 b.Clock), u17, (.bool b.Halted), u19], bx g25 [u1, u3, (.int .i64 a.Clock), u5, (.bool a.Halted), u7]]) rfl (Cq (Sr (q1 rfl (Db f_66_0 rfl rfl (q := 0) rfl) (q1 rfl (lb 1 o_40 rfl rfl rfl rfl) (q1 rfl (Db f_66_0 rfl rfl (q := 0) rfl) (q1 rfl (lb 0 o_40 rfl rfl rfl rfl) (li rfl (cv b_15 rfl rfl rfl rfl (fun w' hs => (laws_eqRuleS w' u1 a.Rules u13 b.Rules (rA hs hu2) (rA hs hu14))) ?_)))))))))
 refine Pe rfl (Ci _ rfl (fun h27 => ?_) (fun h27 => ?_))
 ·have h27n : (decide (a.Rules = b.Rules)) = false := not_t h27
  refine Sr (Pe rfl (Ct (Xr (Rb rfl rfl ?_))))
  cases a; cases b; simp_all
 ·have h27n : (decide (a.Rules = b.Rules)) = true := not_f h27
  refine Sk (Cq (Sr (q1 rfl (Db f_66_1 rfl rfl (q := 1) rfl) (q1 rfl (lb 1 o_42 rfl rfl rfl rfl) (q1 rfl (Db f_66_1 rfl rfl (q := 1) rfl) (q1 rfl (lb 0 o_42 rfl rfl rfl rfl) (li rfl (cv b_16 rfl rfl rfl rfl (fun w' hs => (laws_eqStampS w' u3 a.Memory u15 b.Memory (rA hs hu4) (rA hs hu16))) ?_))))))))
  refine Pe rfl (Ci _ rfl (fun h28 => ?_) (fun h28 => ?_))
  ·have h28n : (decide (a.Memory = b.Memory)) = false := not_t h28
   refine Sr (Pe rfl (Ct (Xr (Rb rfl rfl ?_))))
   cases a; cases b; simp_all
  ·have h28n : (decide (a.Memory = b.Memory)) = true := not_f h28
   refine Sk (Dw [(2, (.pointer (some ⟨g25, 0, none⟩))), (3, (.pointer (some ⟨g26, 0, none⟩)))] ⟨rfl, rfl, trivial⟩ (Cq (Sr (q1 rfl (Db f_66_2 rfl rfl (q := 2) rfl) (q1 rfl (lb 1 o_3 rfl rfl rfl rfl) (q1 rfl (Db f_66_2 rfl rfl (q := 2) rfl) (q1 rfl (lb 0 o_3 rfl rfl rfl rfl) (Pe rfl (Ci _ rfl (fun h29 => ?_) (fun h29 => ?_))))))))))
   ·have pr29 : (a.Clock : Int) ≠ b.Clock := bne_iff_ne.1 h29
    refine Sr (Pe rfl (Ct (Xr (Rb rfl rfl ?_))))
    cases a; cases b; simp_all
   ·have pr29 : (a.Clock : Int) = b.Clock := eq_of_bne_f h29
    refine Sk (Cq (Sr (q1 rfl (Db f_66_3 rfl rfl (q := 3) rfl) (q1 rfl (lb 1 o_63 rfl rfl rfl rfl) (q1 rfl (Db f_66_3 rfl rfl (q := 3) rfl) (q1 rfl (lb 0 o_63 rfl rfl rfl rfl) (li rfl (cv b_82 rfl rfl rfl rfl (fun w' hs => (laws_eqFiringS w' u5 a.Fired u17 b.Fired (rA hs hu6) (rA hs hu18))) ?_))))))))
    refine Pe rfl (Ci _ rfl (fun h30 => ?_) (fun h30 => ?_))
    ·have h30n : (decide (a.Fired = b.Fired)) = false := not_t h30
     refine Sr (Pe rfl (Ct (Xr (Rb rfl rfl ?_))))
     cases a; cases b; simp_all
    ·have h30n : (decide (a.Fired = b.Fired)) = true := not_f h30
     refine Sk (Cq (Sr (q1 rfl (Db f_66_4 rfl rfl (q := 4) rfl) (q1 rfl (lb 1 o_4 rfl rfl rfl rfl) (q1 rfl (Db f_66_4 rfl rfl (q := 4) rfl) (q1 rfl (lb 0 o_4 rfl rfl rfl rfl) (q1 rfl (D_neB ub_4 rfl rfl rfl) (Dx (Dw [(2, (.pointer (some ⟨g25, 0, none⟩))), (3, (.pointer (some ⟨g26, 0, none⟩))), (32, (.bool (!(a.Halted == b.Halted))))] ⟨rfl, rfl, rfl, trivial⟩ (Ci _ rfl (fun h31 => ?_) (fun h31 => ?_)))))))))))
     ·refine Sr (Pe rfl (Ct (Xr (Rb rfl rfl ?_))))
      cases a; cases b; simp_all
     ·have pr31 : a.Halted = b.Halted := beq_of_not h31
      refine Sk (Cq (Sr (q1 rfl (Db f_66_5 rfl rfl (q := 5) rfl) (q1 rfl (lb 1 o_64 rfl rfl rfl rfl) (q1 rfl (Db f_66_5 rfl rfl (q := 5) rfl) (q1 rfl (lb 0 o_64 rfl rfl rfl rfl) (li rfl (cv b_83 rfl rfl rfl rfl (fun w' hs => (laws_eqEventS w' u7 a.Log u19 b.Log (rA hs hu8) (rA hs hu20))) ?_))))))))
      refine Pe rfl (Ci _ rfl (fun h32 => ?_) (fun h32 => ?_))
      ·have h32n : (decide (a.Log = b.Log)) = false := not_t h32
       refine Sr (Pe rfl (Ct (Xr (Rb rfl rfl ?_))))
       cases a; cases b; simp_all
      ·have h32n : (decide (a.Log = b.Log)) = true := not_f h32
       refine Sk (Sr (Pe rfl (Ct (Rb rfl rfl ?_))))
       cases a; cases b; simp_all
end Go.Sy.Ev2
