/-
  Contracts of functions of the program, walked (printed by a program of ours).
  Conditions: those that each theorem states.
-/
import Derived.Test.YtkbiaedfnpbpfaaGreatDoorEv1
import Derived.Test.YtkbiaedfnpbpfaaGreatDoorEng
set_option linter.unusedVariables false
set_option maxRecDepth 20000
namespace Go.Sy.Ev2
open Go Go.RowKit Go.Proofs Go.Sy
theorem mixed : Tryz.prog.follows .mixedOrders = true := by kernel_rfl
theorem f_183_0 : fieldOff Tryz.prog 183 0 = some 0 := by kernel_rfl
theorem o_9 : oneTy Tryz.prog 9 = true := by kernel_rfl
theorem us_9 : Tryz.prog.underlying 9 = some .string := by kernel_rfl
theorem f_183_1 : fieldOff Tryz.prog 183 1 = some 1 := by kernel_rfl
theorem o_58 : oneTy Tryz.prog 58 = true := by kernel_rfl
theorem b_70 : hasBody Tryz.prog 70 = true := by kernel_rfl
theorem y_145 : zeroTy Tryz.prog 145 = some (.agg #[(.string ⟨#[]⟩), (.slice none 0 0)]) := by kernel_rfl
theorem f_145_0 : fieldOff Tryz.prog 145 0 = some 0 := by kernel_rfl
theorem z_9 : sizeTy Tryz.prog 9 = some 1 := by kernel_rfl
theorem b_77 : hasBody Tryz.prog 77 = true := by kernel_rfl
theorem f_145_1 : fieldOff Tryz.prog 145 1 = some 1 := by kernel_rfl
theorem z_58 : sizeTy Tryz.prog 58 = some 1 := by kernel_rfl
theorem a_145 : aggTy Tryz.prog 145 = some 2 := by kernel_rfl
theorem z_145 : sizeTy Tryz.prog 145 = some 2 := by kernel_rfl
theorem b_84 : hasBody Tryz.prog 84 = true := by kernel_rfl
theorem f_185_1 : fieldOff Tryz.prog 185 1 = some 1 := by kernel_rfl
theorem a_183 : aggTy Tryz.prog 183 = some 2 := by kernel_rfl
theorem b_192 : hasBody Tryz.prog 192 = true := by kernel_rfl
theorem f_185_2 : fieldOff Tryz.prog 185 2 = some 3 := by kernel_rfl
theorem f_185_3 : fieldOff Tryz.prog 185 3 = some 4 := by kernel_rfl
theorem y_147 : zeroTy Tryz.prog 147 = some (.agg #[(.int .i64 0), (.string ⟨#[]⟩), (.slice none 0 0), (.string ⟨#[]⟩), (.string ⟨#[]⟩)]) := by kernel_rfl
theorem f_185_0 : fieldOff Tryz.prog 185 0 = some 0 := by kernel_rfl
theorem o_3 : oneTy Tryz.prog 3 = true := by kernel_rfl
theorem f_147_0 : fieldOff Tryz.prog 147 0 = some 0 := by kernel_rfl
theorem z_3 : sizeTy Tryz.prog 3 = some 1 := by kernel_rfl
theorem b_197 : hasBody Tryz.prog 197 = true := by kernel_rfl
theorem f_147_1 : fieldOff Tryz.prog 147 1 = some 1 := by kernel_rfl
theorem f_147_2 : fieldOff Tryz.prog 147 2 = some 3 := by kernel_rfl
theorem f_147_3 : fieldOff Tryz.prog 147 3 = some 4 := by kernel_rfl
theorem a_147 : aggTy Tryz.prog 147 = some 5 := by kernel_rfl
theorem z_147 : sizeTy Tryz.prog 147 = some 5 := by kernel_rfl
theorem b_205 : hasBody Tryz.prog 205 = true := by kernel_rfl
theorem f_188_1 : fieldOff Tryz.prog 188 1 = some 1 := by kernel_rfl
theorem y_159 : zeroTy Tryz.prog 159 = some (.agg #[(.int .i64 0), (.string ⟨#[]⟩), (.slice none 0 0)]) := by kernel_rfl
theorem f_188_0 : fieldOff Tryz.prog 188 0 = some 0 := by kernel_rfl
theorem f_159_0 : fieldOff Tryz.prog 159 0 = some 0 := by kernel_rfl
theorem f_159_1 : fieldOff Tryz.prog 159 1 = some 1 := by kernel_rfl
theorem a_159 : aggTy Tryz.prog 159 = some 3 := by kernel_rfl
theorem z_159 : sizeTy Tryz.prog 159 = some 3 := by kernel_rfl
theorem s_78 : sliceTy Tryz.prog 78 = some (185, 5, 80) := by kernel_rfl
theorem a_185 : aggTy Tryz.prog 185 = some 5 := by kernel_rfl
theorem b_150 : hasBody Tryz.prog 150 = true := by kernel_rfl
theorem s_93 : sliceTy Tryz.prog 93 = some (147, 5, 80) := by kernel_rfl
theorem b_161 : hasBody Tryz.prog 161 = true := by kernel_rfl
theorem b_174 : hasBody Tryz.prog 174 = true := by kernel_rfl
theorem s_79 : sliceTy Tryz.prog 79 = some (188, 3, 48) := by kernel_rfl
theorem a_188 : aggTy Tryz.prog 188 = some 3 := by kernel_rfl
theorem b_151 : hasBody Tryz.prog 151 = true := by kernel_rfl
theorem s_94 : sliceTy Tryz.prog 94 = some (159, 3, 48) := by kernel_rfl
theorem b_162 : hasBody Tryz.prog 162 = true := by kernel_rfl
theorem b_175 : hasBody Tryz.prog 175 = true := by kernel_rfl
theorem f_81_0 : fieldOff Tryz.prog 81 0 = some 0 := by kernel_rfl
theorem f_81_2 : fieldOff Tryz.prog 81 2 = some 2 := by kernel_rfl
theorem o_78 : oneTy Tryz.prog 78 = true := by kernel_rfl
theorem b_95 : hasBody Tryz.prog 95 = true := by kernel_rfl
theorem f_81_3 : fieldOff Tryz.prog 81 3 = some 3 := by kernel_rfl
theorem o_79 : oneTy Tryz.prog 79 = true := by kernel_rfl
theorem b_96 : hasBody Tryz.prog 96 = true := by kernel_rfl
theorem y_96 : zeroTy Tryz.prog 96 = some (.agg #[(.string ⟨#[]⟩), (.int .i64 0), (.slice none 0 0), (.slice none 0 0)]) := by kernel_rfl
theorem f_96_0 : fieldOff Tryz.prog 96 0 = some 0 := by kernel_rfl
theorem f_81_1 : fieldOff Tryz.prog 81 1 = some 1 := by kernel_rfl
theorem f_96_1 : fieldOff Tryz.prog 96 1 = some 1 := by kernel_rfl
theorem b_105 : hasBody Tryz.prog 105 = true := by kernel_rfl
theorem f_96_2 : fieldOff Tryz.prog 96 2 = some 2 := by kernel_rfl
theorem z_93 : sizeTy Tryz.prog 93 = some 1 := by kernel_rfl
theorem b_106 : hasBody Tryz.prog 106 = true := by kernel_rfl
theorem f_96_3 : fieldOff Tryz.prog 96 3 = some 3 := by kernel_rfl
theorem z_94 : sizeTy Tryz.prog 94 = some 1 := by kernel_rfl
theorem a_96 : aggTy Tryz.prog 96 = some 4 := by kernel_rfl
theorem z_96 : sizeTy Tryz.prog 96 = some 4 := by kernel_rfl
theorem o_93 : oneTy Tryz.prog 93 = true := by kernel_rfl
theorem b_115 : hasBody Tryz.prog 115 = true := by kernel_rfl
theorem o_94 : oneTy Tryz.prog 94 = true := by kernel_rfl
theorem b_116 : hasBody Tryz.prog 116 = true := by kernel_rfl
theorem f_84_0 : fieldOff Tryz.prog 84 0 = some 0 := by kernel_rfl
theorem a_60 : aggTy Tryz.prog 60 = some 2 := by kernel_rfl
theorem b_24 : hasBody Tryz.prog 24 = true := by kernel_rfl
theorem y_100 : zeroTy Tryz.prog 100 = some (.agg #[(.string ⟨#[]⟩), (.slice none 0 0), (.int .i64 0)]) := by kernel_rfl
theorem b_27 : hasBody Tryz.prog 27 = true := by kernel_rfl
theorem f_100_0 : fieldOff Tryz.prog 100 0 = some 0 := by kernel_rfl
theorem z_70 : sizeTy Tryz.prog 70 = some 2 := by kernel_rfl
theorem f_84_1 : fieldOff Tryz.prog 84 1 = some 2 := by kernel_rfl
theorem f_100_1 : fieldOff Tryz.prog 100 1 = some 2 := by kernel_rfl
theorem a_100 : aggTy Tryz.prog 100 = some 3 := by kernel_rfl
theorem z_100 : sizeTy Tryz.prog 100 = some 3 := by kernel_rfl
theorem a_70 : aggTy Tryz.prog 70 = some 2 := by kernel_rfl
theorem b_30 : hasBody Tryz.prog 30 = true := by kernel_rfl
theorem f_162_0 : fieldOff Tryz.prog 162 0 = some 0 := by kernel_rfl
theorem f_162_1 : fieldOff Tryz.prog 162 1 = some 1 := by kernel_rfl
theorem o_35 : oneTy Tryz.prog 35 = true := by kernel_rfl
theorem b_176 : hasBody Tryz.prog 176 = true := by kernel_rfl
theorem y_168 : zeroTy Tryz.prog 168 = some (.agg #[(.string ⟨#[]⟩), (.slice none 0 0)]) := by kernel_rfl
theorem f_168_0 : fieldOff Tryz.prog 168 0 = some 0 := by kernel_rfl
theorem b_182 : hasBody Tryz.prog 182 = true := by kernel_rfl
theorem f_168_1 : fieldOff Tryz.prog 168 1 = some 1 := by kernel_rfl
theorem z_35 : sizeTy Tryz.prog 35 = some 1 := by kernel_rfl
theorem a_168 : aggTy Tryz.prog 168 = some 2 := by kernel_rfl
theorem z_168 : sizeTy Tryz.prog 168 = some 2 := by kernel_rfl
theorem b_54 : hasBody Tryz.prog 54 = true := by kernel_rfl
theorem s_22 : sliceTy Tryz.prog 22 = some (81, 4, 72) := by kernel_rfl
theorem a_81 : aggTy Tryz.prog 81 = some 4 := by kernel_rfl
theorem b_36 : hasBody Tryz.prog 36 = true := by kernel_rfl
theorem s_40 : sliceTy Tryz.prog 40 = some (96, 4, 72) := by kernel_rfl
theorem b_47 : hasBody Tryz.prog 47 = true := by kernel_rfl
theorem b_55 : hasBody Tryz.prog 55 = true := by kernel_rfl
theorem s_23 : sliceTy Tryz.prog 23 = some (84, 3, 48) := by kernel_rfl
theorem a_84 : aggTy Tryz.prog 84 = some 3 := by kernel_rfl
theorem b_37 : hasBody Tryz.prog 37 = true := by kernel_rfl
theorem s_42 : sliceTy Tryz.prog 42 = some (100, 3, 48) := by kernel_rfl
theorem b_48 : hasBody Tryz.prog 48 = true := by kernel_rfl
theorem b_56 : hasBody Tryz.prog 56 = true := by kernel_rfl
theorem s_54 : sliceTy Tryz.prog 54 = some (162, 2, 40) := by kernel_rfl
theorem a_162 : aggTy Tryz.prog 162 = some 2 := by kernel_rfl
theorem b_120 : hasBody Tryz.prog 120 = true := by kernel_rfl
theorem s_63 : sliceTy Tryz.prog 63 = some (168, 2, 40) := by kernel_rfl
theorem b_129 : hasBody Tryz.prog 129 = true := by kernel_rfl
theorem b_140 : hasBody Tryz.prog 140 = true := by kernel_rfl
theorem s_55 : sliceTy Tryz.prog 55 = some (165, 4, 64) := by kernel_rfl
theorem a_165 : aggTy Tryz.prog 165 = some 4 := by kernel_rfl
theorem b_121 : hasBody Tryz.prog 121 = true := by kernel_rfl
theorem s_64 : sliceTy Tryz.prog 64 = some (171, 4, 64) := by kernel_rfl
theorem y_171 : zeroTy Tryz.prog 171 = some (.agg #[(.int .i64 0), (.string ⟨#[]⟩), (.string ⟨#[]⟩), (.slice none 0 0)]) := by kernel_rfl
theorem b_130 : hasBody Tryz.prog 130 = true := by kernel_rfl
theorem z_171 : sizeTy Tryz.prog 171 = some 4 := by kernel_rfl
theorem a_171 : aggTy Tryz.prog 171 = some 4 := by kernel_rfl
theorem b_141 : hasBody Tryz.prog 141 = true := by kernel_rfl
theorem f_57_0 : fieldOff Tryz.prog 57 0 = some 0 := by kernel_rfl
theorem o_22 : oneTy Tryz.prog 22 = true := by kernel_rfl
theorem b_6 : hasBody Tryz.prog 6 = true := by kernel_rfl
theorem f_57_1 : fieldOff Tryz.prog 57 1 = some 1 := by kernel_rfl
theorem o_23 : oneTy Tryz.prog 23 = true := by kernel_rfl
theorem b_7 : hasBody Tryz.prog 7 = true := by kernel_rfl
theorem f_57_3 : fieldOff Tryz.prog 57 3 = some 3 := by kernel_rfl
theorem o_54 : oneTy Tryz.prog 54 = true := by kernel_rfl
theorem b_68 : hasBody Tryz.prog 68 = true := by kernel_rfl
theorem f_57_5 : fieldOff Tryz.prog 57 5 = some 5 := by kernel_rfl
theorem o_55 : oneTy Tryz.prog 55 = true := by kernel_rfl
theorem b_69 : hasBody Tryz.prog 69 = true := by kernel_rfl
theorem y_66 : zeroTy Tryz.prog 66 = some (.agg #[(.slice none 0 0), (.slice none 0 0), (.int .i64 0), (.slice none 0 0), (.bool false), (.slice none 0 0)]) := by kernel_rfl
theorem b_10 : hasBody Tryz.prog 10 = true := by kernel_rfl
theorem f_66_0 : fieldOff Tryz.prog 66 0 = some 0 := by kernel_rfl
theorem z_40 : sizeTy Tryz.prog 40 = some 1 := by kernel_rfl
theorem b_11 : hasBody Tryz.prog 11 = true := by kernel_rfl
theorem f_66_1 : fieldOff Tryz.prog 66 1 = some 1 := by kernel_rfl
theorem z_42 : sizeTy Tryz.prog 42 = some 1 := by kernel_rfl
theorem f_57_2 : fieldOff Tryz.prog 57 2 = some 2 := by kernel_rfl
theorem f_66_2 : fieldOff Tryz.prog 66 2 = some 2 := by kernel_rfl
theorem b_75 : hasBody Tryz.prog 75 = true := by kernel_rfl
theorem f_66_3 : fieldOff Tryz.prog 66 3 = some 3 := by kernel_rfl
theorem z_63 : sizeTy Tryz.prog 63 = some 1 := by kernel_rfl
theorem f_57_4 : fieldOff Tryz.prog 57 4 = some 4 := by kernel_rfl
theorem o_4 : oneTy Tryz.prog 4 = true := by kernel_rfl
theorem f_66_4 : fieldOff Tryz.prog 66 4 = some 4 := by kernel_rfl
theorem z_4 : sizeTy Tryz.prog 4 = some 1 := by kernel_rfl
theorem b_76 : hasBody Tryz.prog 76 = true := by kernel_rfl
theorem f_66_5 : fieldOff Tryz.prog 66 5 = some 5 := by kernel_rfl
theorem z_64 : sizeTy Tryz.prog 64 = some 1 := by kernel_rfl
theorem a_66 : aggTy Tryz.prog 66 = some 6 := by kernel_rfl
theorem z_66 : sizeTy Tryz.prog 66 = some 6 := by kernel_rfl
theorem o_40 : oneTy Tryz.prog 40 = true := by kernel_rfl
theorem b_15 : hasBody Tryz.prog 15 = true := by kernel_rfl
theorem o_42 : oneTy Tryz.prog 42 = true := by kernel_rfl
theorem b_16 : hasBody Tryz.prog 16 = true := by kernel_rfl
theorem o_63 : oneTy Tryz.prog 63 = true := by kernel_rfl
theorem b_82 : hasBody Tryz.prog 82 = true := by kernel_rfl
theorem ub_4 : Tryz.prog.underlying 4 = some .bool := by kernel_rfl
theorem o_64 : oneTy Tryz.prog 64 = true := by kernel_rfl
theorem b_83 : hasBody Tryz.prog 83 = true := by kernel_rfl
open Go.Sy.Bel1 Go.Sy.Ev1
theorem laws_szPattern {w : World} {c_a : List Value} {a : Pattern} {left : Int} (h_a : Gd.rd w c_a a) (h0 : 0 ≤ left) (h1 : left ≤ 1048576) (ho : okPattern a) : Calls Tryz.prog 192 [(.agg c_a.toArray), (iv left)].toArray w (Val w (iv (szm (szPattern a) left))) := by
 obtain ⟨u1, rfl, hu2⟩ := open_Pattern h_a
 have hm3 := rd_max hu2
 have ho1 : a.Rel.size ≤ 9223372036854775807 := ho.1
 refine enter 19 Tryz.func192 Y Y Y (Sr (li Y (D_box Y Y Y Y Y fun g4 => ?_)))
 refine Pe Y (Dh ([bx g4 [(.string a.Rel), u1]]) Y (Sr (p1 Y (q1 Y (Db f_183_0 Y Y (q := 0) Y) (q1 Y (lb 0 o_9 Y Y Y Y) (q1 Y (D_lens us_9 Y Y) (q1 Y (D_sub Y Y Y Y (by omega)) (Pe Y (Cq (Sr (P2 Y Y (Dx (Ci _ Y (fun h5 => ?_) (fun h5 => ?_))))))))))))))
 ·have pr5 := odT h5
  refine Sr (Pe Y (Ct (Xr (Ri Y Y ?_))))
  show ((-1) : Int) = _
  unfold szPattern szm at *; repeat (split at * <;> try omega)
 ·have pr5 := odF h5
  refine Sk (Sr (q1 Y (Db f_183_1 Y Y (q := 1) Y) (q1 Y (lb 0 o_58 Y Y Y Y) (p1 Y (li Y (cv b_70 Y Y Y Y (fun w' hs => (laws_szStringS (rA hs hu2) (by first | assumption | omega | (unfold szm at *; split at * <;> omega)) (by first | assumption | omega | (unfold szm at *; split at * <;> omega)) ho.2)) ?_))))))
  refine Pe Y (Cq (Sr (P2 Y Y (Dx (D_wk [1, 17] Y (D_pkO [] Y (Ci _ Y (fun h6 => ?_) (fun h6 => ?_))))))))
  ·have pr6 := odT h6
   refine Sr (Pe Y (Ct (Xr (Ri Y Y ?_))))
   show ((-1) : Int) = _
   unfold szPattern szm at *; repeat (split at * <;> try omega)
  ·have pr6 := odF h6
   have pr6z := szm_val pr6
   refine Sk (Sr (P2 Y Y (Dx (Ct (Ri Y Y ?_)))))
   show ((szm (szSs a.Args) (left - ((a.Rel.size : Nat) : Int))) : Int) = _
   unfold szPattern szm at *; repeat (split at * <;> try omega)
theorem laws_toPattern {w : World} {c_a : List Value} {a : Pattern} (h_a : Gd.rd w c_a a) (hn : szPattern a ≤ 1048576) : Calls Tryz.prog 197 [(.agg c_a.toArray)].toArray w (Res w (a : Pattern)) := by
 obtain ⟨u1, rfl, hu2⟩ := open_Pattern h_a
 have hm3 := rd_max hu2
 unfold szPattern at hn
 unfold szSs at hn
 refine enter 12 Tryz.func197 Y Y Y (Sr (li Y (D_box Y Y Y Y Y fun g4 => ?_)))
 refine li Y (D_alloc y_145 Y Y Y Y fun g5 => ?_)
 refine Dx (Dh ([bx g5 [(.string ⟨#[]⟩), (.slice none 0 0)], bx g4 [(.string a.Rel), u1]]) Y (Sr (li Y (D_alloc y_145 Y Y Y Y fun g6 => ?_))))
 refine Dx (Dh ([bx g6 [(.string ⟨#[]⟩), (.slice none 0 0)], _, _]) Y (Sr (q1 Y (Db f_183_0 Y Y (q := 0) Y) (q1 Y (lb 2 o_9 Y Y Y Y) (q1 Y (Db f_145_0 Y Y (q := 0) Y) (li Y (D_stb (vs := [(.string a.Rel)]) (cs' := [(.string a.Rel), (.slice none 0 0)]) 0 z_9 Y Y Y Y Y Y (ocons Y onil) (by simp) Y ?_)))))))
 refine Dx (Dh ([bx g6 [(.string a.Rel), (.slice none 0 0)], _, _]) Y (Sr (q1 Y (Db f_183_1 Y Y (q := 1) Y) (q1 Y (lb 2 o_58 Y Y Y Y) (li Y (crl b_77 Y Y Y Y (fun w' hs => (laws_toStringS (rA hs hu2) (by first | assumption | omega | (unfold szm at *; split at * <;> omega)))) fun v7 => ?_))))))
 refine q1 Y (Db f_145_1 Y Y (q := 1) Y) (Dp (fun w' hs => one_own (k := 0) hs Y) ?_)
 intro ho8
 refine li Y (D_stb (vs := [v7]) (cs' := [(.string a.Rel), v7]) 1 z_58 Y Y Y Y Y (cells_of_one ho8) (ocons ho8 onil) (by simp) Y ?_)
 refine Dx (Dh ([ov [v7] (a.Args : (List ByteArray)), bx g6 [(.string a.Rel), v7], _, _]) Y (Sr (q1 Y (lbw 1 a_145 Y Y Y) (li Y (D_stb (vs := [(.string a.Rel), v7]) (cs' := [(.string a.Rel), v7]) 2 z_145 Y Y Y Y Y Y (ocons Y (ocons ho8 onil)) (by simp) Y ?_)))))
 refine Dx (Ct (pk_Pattern (r := (a : Pattern)) (R_c 2 a_145 Y Y Y fun w' hs => res_of (k := 0) hs Y ?_)))
 show (a : Pattern) = a
 rfl
theorem laws_eqPattern {w : World} {c_a : List Value} {a : Pattern} {c_b : List Value} {b : Pattern} (h_a : Gd.rd w c_a a) (h_b : Gd.rd w c_b b) : Calls Tryz.prog 205 [(.agg c_a.toArray), (.agg c_b.toArray)].toArray w (Val w (.bool (decide (a = b)))) := by
 obtain ⟨u1, rfl, hu2⟩ := open_Pattern h_a
 have hm3 := rd_max hu2
 obtain ⟨u4, rfl, hu5⟩ := open_Pattern h_b
 have hm6 := rd_max hu5
 refine enter 16 Tryz.func205 Y Y Y (Sr (li Y (D_box Y Y Y Y Y fun g7 => ?_)))
 refine li Y (D_box Y Y Y Y Y fun g8 => ?_)
 refine Pe Y (Dh ([bx g8 [(.string b.Rel), u4], bx g7 [(.string a.Rel), u1]]) Y (Cq (Sr (q1 Y (Db f_145_0 Y Y (q := 0) Y) (q1 Y (lb 1 o_9 Y Y Y Y) (q1 Y (Db f_145_0 Y Y (q := 0) Y) (q1 Y (lb 0 o_9 Y Y Y Y) (q1 Y (D_neS Y Y Y) (Dx (Ci _ Y (fun h9 => ?_) (fun h9 => ?_)))))))))))
 ·have pr9 := odF (not_t h9)
  refine Sr (Pe Y (Ct (Xr (Rb Y Y ?_))))
  cases a; cases b; simp_all
 ·have pr9 := odT (not_f h9)
  refine Sk (Cq (Sr (q1 Y (Db f_145_1 Y Y (q := 1) Y) (q1 Y (lb 1 o_58 Y Y Y Y) (q1 Y (Db f_145_1 Y Y (q := 1) Y) (q1 Y (lb 0 o_58 Y Y Y Y) (li Y (cv b_84 Y Y Y Y (fun w' hs => (laws_eqStringS (rA hs hu2) (rA hs hu5))) ?_))))))))
  refine Pe Y (D_wk [15] Y (D_pkO [] Y (Ci _ Y (fun h10 => ?_) (fun h10 => ?_))))
  ·have h10n := not_t h10
   refine Sr (Pe Y (Ct (Xr (Rb Y Y ?_))))
   cases a; cases b; simp_all
  ·have h10n := not_f h10
   refine Sk (Sr (Pe Y (Ct (Rb Y Y ?_))))
   cases a; cases b; simp_all
theorem laws_szCond {w : World} {c_a : List Value} {a : Cond} {left : Int} (h_a : Gd.rd w c_a a) (h0 : 0 ≤ left) (h1 : left ≤ 1048576) (ho : okCond a) : Calls Tryz.prog 150 [(.agg c_a.toArray), (iv left)].toArray w (Val w (iv (szm (szCond a) left))) := by
 obtain ⟨u1, rfl, hu2⟩ := open_Cond h_a
 have hm3 := rd_max hu2
 have hb4 := sub_Cond_Pattern h_a
 have ho1 : a.Left.size ≤ 9223372036854775807 := ho.2.2.1
 have ho2 : a.Right.size ≤ 9223372036854775807 := ho.2.2.2
 refine enter 26 Tryz.func150 Y Y Y (Sr (li Y (D_box Y Y Y Y Y fun g5 => ?_)))
 refine Pe Y (Dh ([bx g5 [(iv a.Kind), (.string a.Pattern.Rel), u1, (.string a.Left), (.string a.Right)]]) Y (Sr (q1 Y (Db f_185_1 Y Y (q := 1) Y) (q1 Y (lba (es := [(.string a.Pattern.Rel), u1]) 0 a_183 Y Y Y Y) (p1 Y (li Y (cv b_192 Y Y Y Y (fun w' hs => (laws_szPattern (rA hs hb4) (by first | assumption | omega | (unfold szm at *; split at * <;> omega)) (by first | assumption | omega | (unfold szm at *; split at * <;> omega)) ho.2.1)) ?_)))))))
 refine Pe Y (Cq (Sr (P2 Y Y (Dx (Ci _ Y (fun h6 => ?_) (fun h6 => ?_))))))
 ·have pr6 := odT h6
  refine Sr (Pe Y (Ct (Xr (Ri Y Y ?_))))
  show ((-1) : Int) = _
  unfold szCond szm at *; repeat (split at * <;> try omega)
 ·have pr6 := odF h6
  have pr6z := szm_val pr6
  refine Sk (Sr (p1 Y (q1 Y (Db f_185_2 Y Y (q := 3) Y) (q1 Y (lb 0 o_9 Y Y Y Y) (q1 Y (D_lens us_9 Y Y) (q1 Y (D_sub Y Y Y Y (by omega)) (Pe Y (Cq (Sr (P2 Y Y (Dx (Ci _ Y (fun h7 => ?_) (fun h7 => ?_)))))))))))))
  ·have pr7 := odT h7
   refine Sr (Pe Y (Ct (Xr (Ri Y Y ?_))))
   show ((-1) : Int) = _
   unfold szCond szm at *; repeat (split at * <;> try omega)
  ·have pr7 := odF h7
   refine Sk (D_wk [1, 2] Y (Sr (p1 Y (q1 Y (Db f_185_3 Y Y (q := 4) Y) (q1 Y (lb 0 o_9 Y Y Y Y) (q1 Y (D_lens us_9 Y Y) (q1 Y (D_sub Y Y Y Y (by omega)) (Pe Y (Cq (Sr (P2 Y Y (Dx (Ci _ Y (fun h8 => ?_) (fun h8 => ?_))))))))))))))
   ·have pr8 := odT h8
    refine Sr (Pe Y (Ct (Xr (Ri Y Y ?_))))
    show ((-1) : Int) = _
    unfold szCond szm at *; repeat (split at * <;> try omega)
   ·have pr8 := odF h8
    refine Sk (Sr (P2 Y Y (Dx (Ct (Ri Y Y ?_)))))
    show ((((szm (szPattern a.Pattern) left) - ((a.Left.size : Nat) : Int)) - ((a.Right.size : Nat) : Int)) : Int) = _
    unfold szCond szm at *; repeat (split at * <;> try omega)
theorem laws_toCond {w : World} {c_a : List Value} {a : Cond} (h_a : Gd.rd w c_a a) (hn : szCond a ≤ 1048576) : Calls Tryz.prog 161 [(.agg c_a.toArray)].toArray w (Res w (a : Cond)) := by
 obtain ⟨u1, rfl, hu2⟩ := open_Cond h_a
 have hm3 := rd_max hu2
 have hb4 := sub_Cond_Pattern h_a
 unfold szCond at hn
 refine enter 18 Tryz.func161 Y Y Y (Sr (li Y (D_box Y Y Y Y Y fun g5 => ?_)))
 refine li Y (D_alloc y_147 Y Y Y Y fun g6 => ?_)
 refine Dx (Dh ([bx g6 [(iv 0), (.string ⟨#[]⟩), (.slice none 0 0), (.string ⟨#[]⟩), (.string ⟨#[]⟩)], bx g5 [(iv a.Kind), (.string a.Pattern.Rel), u1, (.string a.Left), (.string a.Right)]]) Y (Sr (li Y (D_alloc y_147 Y Y Y Y fun g7 => ?_))))
 refine Dx (Dh ([bx g7 [(iv 0), (.string ⟨#[]⟩), (.slice none 0 0), (.string ⟨#[]⟩), (.string ⟨#[]⟩)], _, _]) Y (Sr (q1 Y (Db f_185_0 Y Y (q := 0) Y) (q1 Y (lb 2 o_3 Y Y Y Y) (q1 Y (Db f_147_0 Y Y (q := 0) Y) (li Y (D_stb (vs := [(iv a.Kind)]) (cs' := [(iv a.Kind), (.string ⟨#[]⟩), (.slice none 0 0), (.string ⟨#[]⟩), (.string ⟨#[]⟩)]) 0 z_3 Y Y Y Y Y Y (ocons Y onil) (by simp) Y ?_)))))))
 refine Dx (Dh ([bx g7 [(iv a.Kind), (.string ⟨#[]⟩), (.slice none 0 0), (.string ⟨#[]⟩), (.string ⟨#[]⟩)], _, _]) Y (Sr (q1 Y (Db f_185_1 Y Y (q := 1) Y) (q1 Y (lba (es := [(.string a.Pattern.Rel), u1]) 2 a_183 Y Y Y Y) (li Y (crs Y b_197 Y Y Y Y (fun w' hs => (laws_toPattern (rA hs hb4) (by first | assumption | omega | (unfold szm at *; split at * <;> omega)))) fun cs8 => ?_))))))
 refine Dp (fun w' hs => shape_Pattern (rO (k := 0) hs Y)) ?_
 rintro ⟨v9, rfl, ho10⟩
 refine q1 Y (Db f_147_1 Y Y (q := 1) Y) (li Y (D_stb (vs := [(.string a.Pattern.Rel), v9]) (cs' := [(iv a.Kind), (.string a.Pattern.Rel), v9, (.string ⟨#[]⟩), (.string ⟨#[]⟩)]) 1 z_145 Y Y Y Y Y Y (ocons Y (ocons ho10 onil)) (by simp) Y ?_))
 refine Dx (Dh ([ov [(.string a.Pattern.Rel), v9] (a.Pattern : Pattern), bx g7 [(iv a.Kind), (.string a.Pattern.Rel), v9, (.string ⟨#[]⟩), (.string ⟨#[]⟩)], _, _]) Y (Sr (q1 Y (Db f_185_2 Y Y (q := 3) Y) (q1 Y (lb 3 o_9 Y Y Y Y) (q1 Y (Db f_147_2 Y Y (q := 3) Y) (li Y (D_stb (vs := [(.string a.Left)]) (cs' := [(iv a.Kind), (.string a.Pattern.Rel), v9, (.string a.Left), (.string ⟨#[]⟩)]) 1 z_9 Y Y Y Y Y Y (ocons Y onil) (by simp) Y ?_)))))))
 refine Dx (Dh ([_, bx g7 [(iv a.Kind), (.string a.Pattern.Rel), v9, (.string a.Left), (.string ⟨#[]⟩)], _, _]) Y (Sr (q1 Y (Db f_185_3 Y Y (q := 4) Y) (q1 Y (lb 3 o_9 Y Y Y Y) (q1 Y (Db f_147_3 Y Y (q := 4) Y) (li Y (D_stb (vs := [(.string a.Right)]) (cs' := [(iv a.Kind), (.string a.Pattern.Rel), v9, (.string a.Left), (.string a.Right)]) 1 z_9 Y Y Y Y Y Y (ocons Y onil) (by simp) Y ?_)))))))
 refine Dx (D_wk [2, 3] Y (D_pkO [0, 1, 2] Y (Dh ([_, bx g7 [(iv a.Kind), (.string a.Pattern.Rel), v9, (.string a.Left), (.string a.Right)], _]) Y (Sr (q1 Y (lbw 1 a_147 Y Y Y) (li Y (D_stb (vs := [(iv a.Kind), (.string a.Pattern.Rel), v9, (.string a.Left), (.string a.Right)]) (cs' := [(iv a.Kind), (.string a.Pattern.Rel), v9, (.string a.Left), (.string a.Right)]) 2 z_147 Y Y Y Y Y Y (ocons Y (ocons Y (ocons ho10 (ocons Y (ocons Y onil))))) (by simp) Y ?_)))))))
 refine Dx (Ct (D_unpair (α := ByteArray) (β := (List ByteArray)) (c1 := [(.string a.Pattern.Rel)]) (c2 := [v9]) (x := a.Pattern.Rel) (y := (a.Pattern.Args)) Y Y (D_fd [] 1 Y (pk_Cond (r := (a : Cond)) (R_c 2 a_147 Y Y Y fun w' hs => res_of (k := 0) hs Y ?_)))))
 show (a : Cond) = a
 rfl
theorem laws_eqCond {w : World} {c_a : List Value} {a : Cond} {c_b : List Value} {b : Cond} (h_a : Gd.rd w c_a a) (h_b : Gd.rd w c_b b) : Calls Tryz.prog 174 [(.agg c_a.toArray), (.agg c_b.toArray)].toArray w (Val w (.bool (decide (a = b)))) := by
 obtain ⟨u1, rfl, hu2⟩ := open_Cond h_a
 have hm3 := rd_max hu2
 have hb4 := sub_Cond_Pattern h_a
 obtain ⟨u5, rfl, hu6⟩ := open_Cond h_b
 have hm7 := rd_max hu6
 have hb8 := sub_Cond_Pattern h_b
 refine enter 26 Tryz.func174 Y Y Y (Sr (li Y (D_box Y Y Y Y Y fun g9 => ?_)))
 refine li Y (D_box Y Y Y Y Y fun g10 => ?_)
 refine Pe Y (Dh ([bx g10 [(iv b.Kind), (.string b.Pattern.Rel), u5, (.string b.Left), (.string b.Right)], bx g9 [(iv a.Kind), (.string a.Pattern.Rel), u1, (.string a.Left), (.string a.Right)]]) Y (Cq (Sr (q1 Y (Db f_147_0 Y Y (q := 0) Y) (q1 Y (lb 1 o_3 Y Y Y Y) (q1 Y (Db f_147_0 Y Y (q := 0) Y) (q1 Y (lb 0 o_3 Y Y Y Y) (Pe Y (Ci _ Y (fun h11 => ?_) (fun h11 => ?_))))))))))
 ·have pr11 := bne_iff_ne.1 h11
  refine Sr (Pe Y (Ct (Xr (Rb Y Y ?_))))
  cases a; cases b; simp_all
 ·have pr11 := eq_of_bne_f h11
  refine Sk (Cq (Sr (q1 Y (Db f_147_1 Y Y (q := 1) Y) (q1 Y (lba (es := [(.string a.Pattern.Rel), u1]) 1 a_145 Y Y Y Y) (q1 Y (Db f_147_1 Y Y (q := 1) Y) (q1 Y (lba (es := [(.string b.Pattern.Rel), u5]) 0 a_145 Y Y Y Y) (li Y (cv b_205 Y Y Y Y (fun w' hs => (laws_eqPattern (rA hs hb4) (rA hs hb8))) ?_))))))))
  refine Pe Y (Ci _ Y (fun h12 => ?_) (fun h12 => ?_))
  ·have h12n := not_t h12
   refine Sr (Pe Y (Ct (Xr (Rb Y Y ?_))))
   cases a; cases b; simp_all
  ·have h12n := not_f h12
   refine Sk (Cq (Sr (q1 Y (Db f_147_2 Y Y (q := 3) Y) (q1 Y (lb 1 o_9 Y Y Y Y) (q1 Y (Db f_147_2 Y Y (q := 3) Y) (q1 Y (lb 0 o_9 Y Y Y Y) (q1 Y (D_neS Y Y Y) (Dx (D_wk [2, 3, 20] Y (Ci _ Y (fun h13 => ?_) (fun h13 => ?_)))))))))))
   ·have pr13 := odF (not_t h13)
    refine Sr (Pe Y (Ct (Xr (Rb Y Y ?_))))
    cases a; cases b; simp_all
   ·have pr13 := odT (not_f h13)
    refine Sk (Cq (Sr (q1 Y (Db f_147_3 Y Y (q := 4) Y) (q1 Y (lb 1 o_9 Y Y Y Y) (q1 Y (Db f_147_3 Y Y (q := 4) Y) (q1 Y (lb 0 o_9 Y Y Y Y) (q1 Y (D_neS Y Y Y) (Dx (Ci _ Y (fun h14 => ?_) (fun h14 => ?_))))))))))
    ·have pr14 := odF (not_t h14)
     refine Sr (Pe Y (Ct (Xr (Rb Y Y ?_))))
     cases a; cases b; simp_all
    ·have pr14 := odT (not_f h14)
     refine Sk (Sr (Pe Y (Ct (Rb Y Y ?_))))
     cases a; cases b; simp_all
theorem laws_szAction {w : World} {c_a : List Value} {a : Action} {left : Int} (h_a : Gd.rd w c_a a) (h0 : 0 ≤ left) (h1 : left ≤ 1048576) (ho : okAction a) : Calls Tryz.prog 151 [(.agg c_a.toArray), (iv left)].toArray w (Val w (iv (szm (szAction a) left))) := by
 obtain ⟨u1, rfl, hu2⟩ := open_Action h_a
 have hm3 := rd_max hu2
 have hb4 := sub_Action_Pattern h_a
 refine enter 12 Tryz.func151 Y Y Y (Sr (li Y (D_box Y Y Y Y Y fun g5 => ?_)))
 refine Pe Y (Dh ([bx g5 [(iv a.Kind), (.string a.Pattern.Rel), u1]]) Y (Sr (q1 Y (Db f_188_1 Y Y (q := 1) Y) (q1 Y (lba (es := [(.string a.Pattern.Rel), u1]) 0 a_183 Y Y Y Y) (p1 Y (li Y (cv b_192 Y Y Y Y (fun w' hs => (laws_szPattern (rA hs hb4) (by first | assumption | omega | (unfold szm at *; split at * <;> omega)) (by first | assumption | omega | (unfold szm at *; split at * <;> omega)) ho.2)) ?_)))))))
 refine Pe Y (Cq (Sr (P2 Y Y (Dx (Ci _ Y (fun h6 => ?_) (fun h6 => ?_))))))
 ·have pr6 := odT h6
  refine Sr (Pe Y (Ct (Xr (Ri Y Y ?_))))
  show ((-1) : Int) = _
  unfold szAction szm at *; repeat (split at * <;> try omega)
 ·have pr6 := odF h6
  have pr6z := szm_val pr6
  refine Sk (Sr (P2 Y Y (Dx (Ct (Ri Y Y ?_)))))
  show ((szm (szPattern a.Pattern) left) : Int) = _
  unfold szAction szm at *; repeat (split at * <;> try omega)
theorem laws_toAction {w : World} {c_a : List Value} {a : Action} (h_a : Gd.rd w c_a a) (hn : szAction a ≤ 1048576) : Calls Tryz.prog 162 [(.agg c_a.toArray)].toArray w (Res w (a : Action)) := by
 obtain ⟨u1, rfl, hu2⟩ := open_Action h_a
 have hm3 := rd_max hu2
 have hb4 := sub_Action_Pattern h_a
 unfold szAction at hn
 refine enter 12 Tryz.func162 Y Y Y (Sr (li Y (D_box Y Y Y Y Y fun g5 => ?_)))
 refine li Y (D_alloc y_159 Y Y Y Y fun g6 => ?_)
 refine Dx (Dh ([bx g6 [(iv 0), (.string ⟨#[]⟩), (.slice none 0 0)], bx g5 [(iv a.Kind), (.string a.Pattern.Rel), u1]]) Y (Sr (li Y (D_alloc y_159 Y Y Y Y fun g7 => ?_))))
 refine Dx (Dh ([bx g7 [(iv 0), (.string ⟨#[]⟩), (.slice none 0 0)], _, _]) Y (Sr (q1 Y (Db f_188_0 Y Y (q := 0) Y) (q1 Y (lb 2 o_3 Y Y Y Y) (q1 Y (Db f_159_0 Y Y (q := 0) Y) (li Y (D_stb (vs := [(iv a.Kind)]) (cs' := [(iv a.Kind), (.string ⟨#[]⟩), (.slice none 0 0)]) 0 z_3 Y Y Y Y Y Y (ocons Y onil) (by simp) Y ?_)))))))
 refine Dx (Dh ([bx g7 [(iv a.Kind), (.string ⟨#[]⟩), (.slice none 0 0)], _, _]) Y (Sr (q1 Y (Db f_188_1 Y Y (q := 1) Y) (q1 Y (lba (es := [(.string a.Pattern.Rel), u1]) 2 a_183 Y Y Y Y) (li Y (crs Y b_197 Y Y Y Y (fun w' hs => (laws_toPattern (rA hs hb4) (by first | assumption | omega | (unfold szm at *; split at * <;> omega)))) fun cs8 => ?_))))))
 refine Dp (fun w' hs => shape_Pattern (rO (k := 0) hs Y)) ?_
 rintro ⟨v9, rfl, ho10⟩
 refine q1 Y (Db f_159_1 Y Y (q := 1) Y) (li Y (D_stb (vs := [(.string a.Pattern.Rel), v9]) (cs' := [(iv a.Kind), (.string a.Pattern.Rel), v9]) 1 z_145 Y Y Y Y Y Y (ocons Y (ocons ho10 onil)) (by simp) Y ?_))
 refine Dx (Dh ([ov [(.string a.Pattern.Rel), v9] (a.Pattern : Pattern), bx g7 [(iv a.Kind), (.string a.Pattern.Rel), v9], _, _]) Y (Sr (q1 Y (lbw 1 a_159 Y Y Y) (li Y (D_stb (vs := [(iv a.Kind), (.string a.Pattern.Rel), v9]) (cs' := [(iv a.Kind), (.string a.Pattern.Rel), v9]) 2 z_159 Y Y Y Y Y Y (ocons Y (ocons Y (ocons ho10 onil))) (by simp) Y ?_)))))
 refine Dx (Ct (D_unpair (α := ByteArray) (β := (List ByteArray)) (c1 := [(.string a.Pattern.Rel)]) (c2 := [v9]) (x := a.Pattern.Rel) (y := (a.Pattern.Args)) Y Y (D_fd [] 1 Y (pk_Action (r := (a : Action)) (R_c 2 a_159 Y Y Y fun w' hs => res_of (k := 0) hs Y ?_)))))
 show (a : Action) = a
 rfl
theorem laws_eqAction {w : World} {c_a : List Value} {a : Action} {c_b : List Value} {b : Action} (h_a : Gd.rd w c_a a) (h_b : Gd.rd w c_b b) : Calls Tryz.prog 175 [(.agg c_a.toArray), (.agg c_b.toArray)].toArray w (Val w (.bool (decide (a = b)))) := by
 obtain ⟨u1, rfl, hu2⟩ := open_Action h_a
 have hm3 := rd_max hu2
 have hb4 := sub_Action_Pattern h_a
 obtain ⟨u5, rfl, hu6⟩ := open_Action h_b
 have hm7 := rd_max hu6
 have hb8 := sub_Action_Pattern h_b
 refine enter 16 Tryz.func175 Y Y Y (Sr (li Y (D_box Y Y Y Y Y fun g9 => ?_)))
 refine li Y (D_box Y Y Y Y Y fun g10 => ?_)
 refine Pe Y (Dh ([bx g10 [(iv b.Kind), (.string b.Pattern.Rel), u5], bx g9 [(iv a.Kind), (.string a.Pattern.Rel), u1]]) Y (Cq (Sr (q1 Y (Db f_159_0 Y Y (q := 0) Y) (q1 Y (lb 1 o_3 Y Y Y Y) (q1 Y (Db f_159_0 Y Y (q := 0) Y) (q1 Y (lb 0 o_3 Y Y Y Y) (Pe Y (Ci _ Y (fun h11 => ?_) (fun h11 => ?_))))))))))
 ·have pr11 := bne_iff_ne.1 h11
  refine Sr (Pe Y (Ct (Xr (Rb Y Y ?_))))
  cases a; cases b; simp_all
 ·have pr11 := eq_of_bne_f h11
  refine Sk (Cq (Sr (q1 Y (Db f_159_1 Y Y (q := 1) Y) (q1 Y (lba (es := [(.string a.Pattern.Rel), u1]) 1 a_145 Y Y Y Y) (q1 Y (Db f_159_1 Y Y (q := 1) Y) (q1 Y (lba (es := [(.string b.Pattern.Rel), u5]) 0 a_145 Y Y Y Y) (li Y (cv b_205 Y Y Y Y (fun w' hs => (laws_eqPattern (rA hs hb4) (rA hs hb8))) ?_))))))))
  refine Pe Y (D_wk [15] Y (D_pkO [] Y (Ci _ Y (fun h12 => ?_) (fun h12 => ?_))))
  ·have h12n := not_t h12
   refine Sr (Pe Y (Ct (Xr (Rb Y Y ?_))))
   cases a; cases b; simp_all
  ·have h12n := not_f h12
   refine Sk (Sr (Pe Y (Ct (Rb Y Y ?_))))
   cases a; cases b; simp_all
theorem laws_szCondS {w : World} {v_a : Value} {a : (List Cond)} {left : Int} (h_a : Gd.rd w [v_a] a) (h0 : 0 ≤ left) (h1 : left ≤ 1048576) (ho : okL okCond a) : Calls Tryz.prog 95 [v_a, (iv left)].toArray w (Val w (iv (szm (szL szCond a) left))) := by
 have hm1 := rd_max h_a
 refine enter 27 Tryz.func95 Y Y Y (Sr (Pe Y (Sr (P2 Y Y (q1 Y (Dl s_78 Y Y (rd_sl h_a)) (q1 Y (D_sub Y Y Y Y (by omega)) (Pe Y (Cq (Sr (P2 Y Y (Dx (Ci _ Y (fun h2 => ?_) (fun h2 => ?_)))))))))))))
 ·have pr2 := odT h2
  refine Sr (Pe Y (Ct (Xr (Ri Y Y ?_))))
  show ((-1) : Int) = _
  refine (szm_neg ?_).symm; unfold szL; omega
 ·have pr2 := odF h2
  refine Sk (Cq (Sr (Pe Y (Cb (Cl (fun m_ ac w' => ∃ (k : Nat), ∃ (lf : Int), (k ≤ a.length) ∧ (0 ≤ lf ∧ lf = left - a.length - sumC szCond (a.take k)) ∧ m_ = a.length - k ∧ Fits ac 27 [(0, v_a), (1, (iv lf)), (5, (nv k))] ∧ St w ([]) w') ?_ ?_)))))
  ·refine fun ac w' hf hs => ⟨_, 0, (left - ((a.length : Nat) : Int)), ?_, ?_, Y, hf.wk Y, hs⟩
   ·first | assumption | omega | simp
   ·simp [sumC]; omega
  ·rintro m_ ac w' ⟨k, lf, hk, hl, rfl, hf, hs⟩
   refine D.use ?_ hf hs
   clear hf hs ac w'
   have ht := sumC_take_le a szCond k
   refine Cq (Sr (P2 Y Y (q1 Y (Dl s_78 Y Y (rd_sl h_a)) (Pe Y (Ci _ Y (fun h3 => ?_) (fun h3 => ?_))))))
   ·have pr3 := odT h3
    refine Sk (Cq (Cb (Sr (P2 Y Y ?_))))
    obtain ⟨r0, hr0⟩ := sL (l := a) (i := k) (by omega)
    have hro := ho _ (List.mem_of_getElem? hr0)
    have ht1 := sumC_take_le a szCond (k + 1)
    have hst := sumC_take (c := szCond) hr0
    obtain ⟨es4, at5, hr6⟩ := rd_elem (n := 5) rfl h_a hr0
    obtain ⟨u7, rfl, hu8⟩ := open_Cond hr6
    have hm9 := rd_max hu8
    have hb10 := sub_Cond_Pattern hr6
    refine q1 Y (D_ix (l := a) (j := k) s_78 Y Y Y (fun w' hs => (rA hs h_a)) Y (lS hr0)) (q1 Y (lra a_185 Y Y at5) (p1 Y (li Y (cv b_150 Y Y Y Y (fun w' hs => (laws_szCond (rA hs hr6) (by first | assumption | omega | (unfold szm at *; split at * <;> omega)) (by first | assumption | omega | (unfold szm at *; split at * <;> omega)) hro)) ?_))))
    refine Pe Y (Sr (P2 Y Y (Dx (Ci _ Y (fun h11 => ?_) (fun h11 => ?_)))))
    ·have pr11 := odT h11
     refine Sr (Pe Y (Ct (Xq (Xr (Xr (Xq (Xr (Ri Y Y ?_))))))))
     show ((-1) : Int) = _
     refine (szm_neg ?_).symm; unfold szL; unfold szm at *; split at * <;> omega
    ·have pr11 := odF h11
     have pr11z := szm_val pr11
     refine Ck (Xb (Xt (Cr (p1 Y (q1 Y (D_add Y Y Y (r := ((k + 1 : Nat) : Int)) (by omega) (by omega)) (Pe Y (fun ac w' hf hs => ⟨_, ?_, k + 1, (szm (szCond r0) lf), ?_, ?_, Y, hf.wk Y, hs⟩)))))))
     ·omega
     ·first | assumption | omega | simp
     ·rw [hst]; unfold szm at *; split at * <;> omega
   ·have pr3 := odF h3
    refine Cx (Xx (Xx (Xe (Xt (Sr (P2 Y Y (Dx (Ct (Ri Y Y ?_)))))))))
    show (lf : Int) = _
    rw [szm_pos]; all_goals (unfold szL; rw [List.take_of_length_le (by omega)] at hl; omega)
theorem laws_toCondS {w : World} {v_a : Value} {a : (List Cond)} (h_a : Gd.rd w [v_a] a) (hn : szL szCond a ≤ 1048576) : Calls Tryz.prog 105 [v_a].toArray w (Res w (a : List Cond)) := by
 have hm1 := rd_max h_a
 unfold szL at hn
 refine enter 23 Tryz.func105 Y Y Y (Sr (Pe Y (Sr (p1 Y (q1 Y (Dl s_78 Y Y (rd_sl h_a)) (li Y (D_mkG (α := Cond) (z0 := z0_Cond) s_93 y_147 Y Y Y Y Y Y zz_Cond (by omega) (by omega) fun v2 => ?_)))))))
 refine Pe Y (Dh ([ov [v2] (List.replicate a.length z0_Cond : (List Cond))]) Y (Cq (Sr (Pe Y (Cb (Cl (fun m_ ac w' => ∃ (k : Nat), ∃ (v : Value), (k ≤ a.length) ∧ m_ = a.length - k ∧ Fits ac 23 [(0, v_a), (3, v), (4, (nv k))] ∧ St w ([ov [v] (cp a z0_Cond k : (List Cond))]) w') ?_ ?_))))))
 ·refine D_eq 0 Y (show (List.replicate a.length z0_Cond : (List Cond)) = cp a z0_Cond 0 from by rw [cp_zero]) (fun ac w' hf hs => ⟨_, 0, v2, ?_, Y, hf.wk Y, hs⟩)
  ·first | assumption | omega | simp
 ·rintro m_ ac w' ⟨k, v, hk, rfl, hf, hs⟩
  refine D.use ?_ hf hs
  clear hf hs ac w'
  have hcl := cp_len a z0_Cond k hk
  refine Cq (Sr (P2 Y Y (q1 Y (Dl s_78 Y Y (rd_sl h_a)) (Pe Y (Dh ([_]) Y (Ci _ Y (fun h3 => ?_) (fun h3 => ?_)))))))
  ·have pr3 := odT h3
   refine Sk (Cq (Cb (Cr (P3 Y Y Y (p1 Y ?_)))))
   obtain ⟨x4, hx5⟩ := sL (l := a) (i := k) (by omega)
   have hle := sumC_mem (c := szCond) (mem_idx hx5)
   obtain ⟨es6, at7, hr8⟩ := rd_elem (n := 5) rfl h_a hx5
   obtain ⟨u9, rfl, hu10⟩ := open_Cond hr8
   have hm11 := rd_max hu10
   have hb12 := sub_Cond_Pattern hr8
   refine q1 Y (D_ix (l := a) (j := k) s_78 Y Y Y (fun w' hs => (rA hs h_a)) Y (lS hx5)) (q1 Y (lra a_185 Y Y at7) (li Y (crs Y b_161 Y Y Y Y (fun w' hs => (laws_toCond (rA hs hr8) (by first | assumption | omega | (unfold szm at *; split at * <;> omega)))) fun cs13 => ?_)))
   refine Dp (fun w' hs => shape_Cond (rO (k := 0) hs Y)) ?_
   rintro ⟨v14, rfl, ho15⟩
   obtain ⟨x16, hx17⟩ := sL (l := (cp a z0_Cond k)) (i := k) (by omega)
   refine q1 Y (D_ix (l := (cp a z0_Cond k)) (j := k) s_93 Y Y Y (fun w' hs => (rO (k := 1) hs Y)) Y (lS hx17)) (D_pkO [1, 0] Y (li Y (soG (α := Cond) Y z_147 Y Y Y Y Y (lS hx17) ?_)))
   refine De (Xb (Xt (Dh ([ov [v] ((cp a z0_Cond k).set k x4 : (List Cond))]) Y (Cr (p1 Y (q1 Y (D_add Y Y Y (r := ((k + 1 : Nat) : Int)) (by omega) (by omega)) (Pe Y (D_eq 0 Y (show ((cp a z0_Cond k).set k x4 : (List Cond)) = cp a z0_Cond (k + 1) from by rw [cp_set (by assumption)]) (fun ac w' hf hs => ⟨_, ?_, k + 1, v, ?_, Y, hf.wk Y, hs⟩)))))))))
   ·omega
   ·first | assumption | omega | simp
  ·have pr3 := odF h3
   refine Cx (Xx (Xx (Xe (Xt (Sr (P2 Y Y (Dx (Ct (R_1 Y Y fun w' hs => res_of (k := 0) hs Y ?_)))))))))
   show cp a z0_Cond k = a
   exact cp_done (by omega)
theorem laws_eqCondS {w : World} {v_a : Value} {a : (List Cond)} {v_b : Value} {b : (List Cond)} (h_a : Gd.rd w [v_a] a) (h_b : Gd.rd w [v_b] b) : Calls Tryz.prog 115 [v_a, v_b].toArray w (Val w (.bool (decide (a = b)))) := by
 have hm1 := rd_max h_a
 have hm2 := rd_max h_b
 refine enter 27 Tryz.func115 Y Y Y (Sr (Pe Y (Cq (Sr (p1 Y (q1 Y (Dl s_93 Y Y (rd_sl h_a)) (p1 Y (q1 Y (Dl s_93 Y Y (rd_sl h_b)) (Pe Y (Ci _ Y (fun h3 => ?_) (fun h3 => ?_)))))))))))
 ·have pr3 := bne_iff_ne.1 h3
  refine Sr (Pe Y (Ct (Xr (Rb Y Y ?_))))
  simp; intro e; subst e; simp_all
 ·have pr3 := eq_of_bne_f h3
  refine Sk (Cq (Sr (Pe Y (Cb (Cl (fun m_ ac w' => ∃ (k : Nat), (k ≤ a.length) ∧ (∀ i, i < k → a[i]? = b[i]?) ∧ m_ = a.length - k ∧ Fits ac 27 [(0, v_a), (1, v_b), (5, (nv k))] ∧ St w ([]) w') ?_ ?_)))))
  ·refine fun ac w' hf hs => ⟨_, 0, ?_, ?_, Y, hf.wk Y, hs⟩
   ·first | assumption | omega | simp
   ·intro i hi; omega
  ·rintro m_ ac w' ⟨k, hk, hi, rfl, hf, hs⟩
   refine D.use ?_ hf hs
   clear hf hs ac w'
   refine Cq (Sr (P2 Y Y (q1 Y (Dl s_93 Y Y (rd_sl h_a)) (Pe Y (Ci _ Y (fun h4 => ?_) (fun h4 => ?_))))))
   ·have pr4 := odT h4
    refine Sk (Cq (Cb (Cq (C_draw mixed [8, 9] (by kernel_rfl) (Tk 0 Y (by kernel_rfl) Y (rp Y) (Tk 1 Y (by kernel_rfl) Y (rp Y) ?_))))))
    obtain ⟨x5, hx6⟩ := sL (l := a) (i := k) (by omega)
    obtain ⟨es7, at8, hr9⟩ := rd_elem (n := 5) rfl h_a hx6
    obtain ⟨u10, rfl, hu11⟩ := open_Cond hr9
    have hm12 := rd_max hu11
    have hb13 := sub_Cond_Pattern hr9
    refine Tk 2 Y (by kernel_rfl) Y (D_ix (l := a) (j := k) s_93 Y Y Y (fun w' hs => (rA hs h_a)) Y (lS hx6)) (Tk 3 Y (by kernel_rfl) Y (lra a_147 Y Y at8) (Tk 4 Y (by kernel_rfl) Y (rp Y) (Tk 5 Y (by kernel_rfl) Y (rp Y) ?_)))
    obtain ⟨x14, hx15⟩ := sL (l := b) (i := k) (by omega)
    obtain ⟨es16, at17, hr18⟩ := rd_elem (n := 5) rfl h_b hx15
    obtain ⟨u19, rfl, hu20⟩ := open_Cond hr18
    have hm21 := rd_max hu20
    have hb22 := sub_Cond_Pattern hr18
    refine Tk 6 Y (by kernel_rfl) Y (D_ix (l := b) (j := k) s_93 Y Y Y (fun w' hs => (rA hs h_b)) Y (lS hx15)) (Tk 7 Y (by kernel_rfl) Y (lra a_147 Y Y at17) (ty 8 Y (by kernel_rfl) Y (cv b_174 Y Y Y Y (fun w' hs => (laws_eqCond (rA hs hr9) (rA hs hr18))) ?_)))
    refine tZ Y (ty 9 Y (by kernel_rfl) Y (sv Y Y (rp Y) ?_))
    refine tZ Y (tE (by kernel_rfl) (Xt (Ci _ Y (fun h23 => ?_) (fun h23 => ?_))))
    ·have h23n := not_t h23
     refine Sr (Pe Y (Ct (Xq (Xr (Xr (Xq (Xr (Rb Y Y ?_))))))))
     simp; intro e; subst e; simp_all
    ·have h23n := not_f h23
     refine Ck (Xb (Xt (Cr (p1 Y (q1 Y (D_add Y Y Y (r := ((k + 1 : Nat) : Int)) (by omega) (by omega)) (Pe Y (fun ac w' hf hs => ⟨_, ?_, k + 1, ?_, ?_, Y, hf.wk Y, hs⟩)))))))
     ·omega
     ·first | assumption | omega | simp
     ·refine idx_step hi (by assumption) (by assumption) ?_; first | (simp_all; done) | (apply Fact.mk_eq <;> simp_all)
   ·have pr4 := odF h4
    refine Cx (Xx (Xx (Xe (Xt (Sr (Pe Y (Ct (Rb Y Y ?_))))))))
    simp; exact eq_of_idx (by omega) (fun i h => hi i (by omega))
theorem laws_szActionS {w : World} {v_a : Value} {a : (List Action)} {left : Int} (h_a : Gd.rd w [v_a] a) (h0 : 0 ≤ left) (h1 : left ≤ 1048576) (ho : okL okAction a) : Calls Tryz.prog 96 [v_a, (iv left)].toArray w (Val w (iv (szm (szL szAction a) left))) := by
 have hm1 := rd_max h_a
 refine enter 27 Tryz.func96 Y Y Y (Sr (Pe Y (Sr (P2 Y Y (q1 Y (Dl s_79 Y Y (rd_sl h_a)) (q1 Y (D_sub Y Y Y Y (by omega)) (Pe Y (Cq (Sr (P2 Y Y (Dx (Ci _ Y (fun h2 => ?_) (fun h2 => ?_)))))))))))))
 ·have pr2 := odT h2
  refine Sr (Pe Y (Ct (Xr (Ri Y Y ?_))))
  show ((-1) : Int) = _
  refine (szm_neg ?_).symm; unfold szL; omega
 ·have pr2 := odF h2
  refine Sk (Cq (Sr (Pe Y (Cb (Cl (fun m_ ac w' => ∃ (k : Nat), ∃ (lf : Int), (k ≤ a.length) ∧ (0 ≤ lf ∧ lf = left - a.length - sumC szAction (a.take k)) ∧ m_ = a.length - k ∧ Fits ac 27 [(0, v_a), (1, (iv lf)), (5, (nv k))] ∧ St w ([]) w') ?_ ?_)))))
  ·refine fun ac w' hf hs => ⟨_, 0, (left - ((a.length : Nat) : Int)), ?_, ?_, Y, hf.wk Y, hs⟩
   ·first | assumption | omega | simp
   ·simp [sumC]; omega
  ·rintro m_ ac w' ⟨k, lf, hk, hl, rfl, hf, hs⟩
   refine D.use ?_ hf hs
   clear hf hs ac w'
   have ht := sumC_take_le a szAction k
   refine Cq (Sr (P2 Y Y (q1 Y (Dl s_79 Y Y (rd_sl h_a)) (Pe Y (Ci _ Y (fun h3 => ?_) (fun h3 => ?_))))))
   ·have pr3 := odT h3
    refine Sk (Cq (Cb (Sr (P2 Y Y ?_))))
    obtain ⟨r0, hr0⟩ := sL (l := a) (i := k) (by omega)
    have hro := ho _ (List.mem_of_getElem? hr0)
    have ht1 := sumC_take_le a szAction (k + 1)
    have hst := sumC_take (c := szAction) hr0
    obtain ⟨es4, at5, hr6⟩ := rd_elem (n := 3) rfl h_a hr0
    obtain ⟨u7, rfl, hu8⟩ := open_Action hr6
    have hm9 := rd_max hu8
    have hb10 := sub_Action_Pattern hr6
    refine q1 Y (D_ix (l := a) (j := k) s_79 Y Y Y (fun w' hs => (rA hs h_a)) Y (lS hr0)) (q1 Y (lra a_188 Y Y at5) (p1 Y (li Y (cv b_151 Y Y Y Y (fun w' hs => (laws_szAction (rA hs hr6) (by first | assumption | omega | (unfold szm at *; split at * <;> omega)) (by first | assumption | omega | (unfold szm at *; split at * <;> omega)) hro)) ?_))))
    refine Pe Y (Sr (P2 Y Y (Dx (Ci _ Y (fun h11 => ?_) (fun h11 => ?_)))))
    ·have pr11 := odT h11
     refine Sr (Pe Y (Ct (Xq (Xr (Xr (Xq (Xr (Ri Y Y ?_))))))))
     show ((-1) : Int) = _
     refine (szm_neg ?_).symm; unfold szL; unfold szm at *; split at * <;> omega
    ·have pr11 := odF h11
     have pr11z := szm_val pr11
     refine Ck (Xb (Xt (Cr (p1 Y (q1 Y (D_add Y Y Y (r := ((k + 1 : Nat) : Int)) (by omega) (by omega)) (Pe Y (fun ac w' hf hs => ⟨_, ?_, k + 1, (szm (szAction r0) lf), ?_, ?_, Y, hf.wk Y, hs⟩)))))))
     ·omega
     ·first | assumption | omega | simp
     ·rw [hst]; unfold szm at *; split at * <;> omega
   ·have pr3 := odF h3
    refine Cx (Xx (Xx (Xe (Xt (Sr (P2 Y Y (Dx (Ct (Ri Y Y ?_)))))))))
    show (lf : Int) = _
    rw [szm_pos]; all_goals (unfold szL; rw [List.take_of_length_le (by omega)] at hl; omega)
theorem laws_toActionS {w : World} {v_a : Value} {a : (List Action)} (h_a : Gd.rd w [v_a] a) (hn : szL szAction a ≤ 1048576) : Calls Tryz.prog 106 [v_a].toArray w (Res w (a : List Action)) := by
 have hm1 := rd_max h_a
 unfold szL at hn
 refine enter 23 Tryz.func106 Y Y Y (Sr (Pe Y (Sr (p1 Y (q1 Y (Dl s_79 Y Y (rd_sl h_a)) (li Y (D_mkG (α := Action) (z0 := z0_Action) s_94 y_159 Y Y Y Y Y Y zz_Action (by omega) (by omega) fun v2 => ?_)))))))
 refine Pe Y (Dh ([ov [v2] (List.replicate a.length z0_Action : (List Action))]) Y (Cq (Sr (Pe Y (Cb (Cl (fun m_ ac w' => ∃ (k : Nat), ∃ (v : Value), (k ≤ a.length) ∧ m_ = a.length - k ∧ Fits ac 23 [(0, v_a), (3, v), (4, (nv k))] ∧ St w ([ov [v] (cp a z0_Action k : (List Action))]) w') ?_ ?_))))))
 ·refine D_eq 0 Y (show (List.replicate a.length z0_Action : (List Action)) = cp a z0_Action 0 from by rw [cp_zero]) (fun ac w' hf hs => ⟨_, 0, v2, ?_, Y, hf.wk Y, hs⟩)
  ·first | assumption | omega | simp
 ·rintro m_ ac w' ⟨k, v, hk, rfl, hf, hs⟩
  refine D.use ?_ hf hs
  clear hf hs ac w'
  have hcl := cp_len a z0_Action k hk
  refine Cq (Sr (P2 Y Y (q1 Y (Dl s_79 Y Y (rd_sl h_a)) (Pe Y (Dh ([_]) Y (Ci _ Y (fun h3 => ?_) (fun h3 => ?_)))))))
  ·have pr3 := odT h3
   refine Sk (Cq (Cb (Cr (P3 Y Y Y (p1 Y ?_)))))
   obtain ⟨x4, hx5⟩ := sL (l := a) (i := k) (by omega)
   have hle := sumC_mem (c := szAction) (mem_idx hx5)
   obtain ⟨es6, at7, hr8⟩ := rd_elem (n := 3) rfl h_a hx5
   obtain ⟨u9, rfl, hu10⟩ := open_Action hr8
   have hm11 := rd_max hu10
   have hb12 := sub_Action_Pattern hr8
   refine q1 Y (D_ix (l := a) (j := k) s_79 Y Y Y (fun w' hs => (rA hs h_a)) Y (lS hx5)) (q1 Y (lra a_188 Y Y at7) (li Y (crs Y b_162 Y Y Y Y (fun w' hs => (laws_toAction (rA hs hr8) (by first | assumption | omega | (unfold szm at *; split at * <;> omega)))) fun cs13 => ?_)))
   refine Dp (fun w' hs => shape_Action (rO (k := 0) hs Y)) ?_
   rintro ⟨v14, rfl, ho15⟩
   obtain ⟨x16, hx17⟩ := sL (l := (cp a z0_Action k)) (i := k) (by omega)
   refine q1 Y (D_ix (l := (cp a z0_Action k)) (j := k) s_94 Y Y Y (fun w' hs => (rO (k := 1) hs Y)) Y (lS hx17)) (D_pkO [1, 0] Y (li Y (soG (α := Action) Y z_159 Y Y Y Y Y (lS hx17) ?_)))
   refine De (Xb (Xt (Dh ([ov [v] ((cp a z0_Action k).set k x4 : (List Action))]) Y (Cr (p1 Y (q1 Y (D_add Y Y Y (r := ((k + 1 : Nat) : Int)) (by omega) (by omega)) (Pe Y (D_eq 0 Y (show ((cp a z0_Action k).set k x4 : (List Action)) = cp a z0_Action (k + 1) from by rw [cp_set (by assumption)]) (fun ac w' hf hs => ⟨_, ?_, k + 1, v, ?_, Y, hf.wk Y, hs⟩)))))))))
   ·omega
   ·first | assumption | omega | simp
  ·have pr3 := odF h3
   refine Cx (Xx (Xx (Xe (Xt (Sr (P2 Y Y (Dx (Ct (R_1 Y Y fun w' hs => res_of (k := 0) hs Y ?_)))))))))
   show cp a z0_Action k = a
   exact cp_done (by omega)
theorem laws_eqActionS {w : World} {v_a : Value} {a : (List Action)} {v_b : Value} {b : (List Action)} (h_a : Gd.rd w [v_a] a) (h_b : Gd.rd w [v_b] b) : Calls Tryz.prog 116 [v_a, v_b].toArray w (Val w (.bool (decide (a = b)))) := by
 have hm1 := rd_max h_a
 have hm2 := rd_max h_b
 refine enter 27 Tryz.func116 Y Y Y (Sr (Pe Y (Cq (Sr (p1 Y (q1 Y (Dl s_94 Y Y (rd_sl h_a)) (p1 Y (q1 Y (Dl s_94 Y Y (rd_sl h_b)) (Pe Y (Ci _ Y (fun h3 => ?_) (fun h3 => ?_)))))))))))
 ·have pr3 := bne_iff_ne.1 h3
  refine Sr (Pe Y (Ct (Xr (Rb Y Y ?_))))
  simp; intro e; subst e; simp_all
 ·have pr3 := eq_of_bne_f h3
  refine Sk (Cq (Sr (Pe Y (Cb (Cl (fun m_ ac w' => ∃ (k : Nat), (k ≤ a.length) ∧ (∀ i, i < k → a[i]? = b[i]?) ∧ m_ = a.length - k ∧ Fits ac 27 [(0, v_a), (1, v_b), (5, (nv k))] ∧ St w ([]) w') ?_ ?_)))))
  ·refine fun ac w' hf hs => ⟨_, 0, ?_, ?_, Y, hf.wk Y, hs⟩
   ·first | assumption | omega | simp
   ·intro i hi; omega
  ·rintro m_ ac w' ⟨k, hk, hi, rfl, hf, hs⟩
   refine D.use ?_ hf hs
   clear hf hs ac w'
   refine Cq (Sr (P2 Y Y (q1 Y (Dl s_94 Y Y (rd_sl h_a)) (Pe Y (Ci _ Y (fun h4 => ?_) (fun h4 => ?_))))))
   ·have pr4 := odT h4
    refine Sk (Cq (Cb (Cq (C_draw mixed [8, 9] (by kernel_rfl) (Tk 0 Y (by kernel_rfl) Y (rp Y) (Tk 1 Y (by kernel_rfl) Y (rp Y) ?_))))))
    obtain ⟨x5, hx6⟩ := sL (l := a) (i := k) (by omega)
    obtain ⟨es7, at8, hr9⟩ := rd_elem (n := 3) rfl h_a hx6
    obtain ⟨u10, rfl, hu11⟩ := open_Action hr9
    have hm12 := rd_max hu11
    have hb13 := sub_Action_Pattern hr9
    refine Tk 2 Y (by kernel_rfl) Y (D_ix (l := a) (j := k) s_94 Y Y Y (fun w' hs => (rA hs h_a)) Y (lS hx6)) (Tk 3 Y (by kernel_rfl) Y (lra a_159 Y Y at8) (Tk 4 Y (by kernel_rfl) Y (rp Y) (Tk 5 Y (by kernel_rfl) Y (rp Y) ?_)))
    obtain ⟨x14, hx15⟩ := sL (l := b) (i := k) (by omega)
    obtain ⟨es16, at17, hr18⟩ := rd_elem (n := 3) rfl h_b hx15
    obtain ⟨u19, rfl, hu20⟩ := open_Action hr18
    have hm21 := rd_max hu20
    have hb22 := sub_Action_Pattern hr18
    refine Tk 6 Y (by kernel_rfl) Y (D_ix (l := b) (j := k) s_94 Y Y Y (fun w' hs => (rA hs h_b)) Y (lS hx15)) (Tk 7 Y (by kernel_rfl) Y (lra a_159 Y Y at17) (ty 8 Y (by kernel_rfl) Y (cv b_175 Y Y Y Y (fun w' hs => (laws_eqAction (rA hs hr9) (rA hs hr18))) ?_)))
    refine tZ Y (ty 9 Y (by kernel_rfl) Y (sv Y Y (rp Y) ?_))
    refine tZ Y (tE (by kernel_rfl) (Xt (Ci _ Y (fun h23 => ?_) (fun h23 => ?_))))
    ·have h23n := not_t h23
     refine Sr (Pe Y (Ct (Xq (Xr (Xr (Xq (Xr (Rb Y Y ?_))))))))
     simp; intro e; subst e; simp_all
    ·have h23n := not_f h23
     refine Ck (Xb (Xt (Cr (p1 Y (q1 Y (D_add Y Y Y (r := ((k + 1 : Nat) : Int)) (by omega) (by omega)) (Pe Y (fun ac w' hf hs => ⟨_, ?_, k + 1, ?_, ?_, Y, hf.wk Y, hs⟩)))))))
     ·omega
     ·first | assumption | omega | simp
     ·refine idx_step hi (by assumption) (by assumption) ?_; first | (simp_all; done) | (apply Fact.mk_eq <;> simp_all)
   ·have pr4 := odF h4
    refine Cx (Xx (Xx (Xe (Xt (Sr (Pe Y (Ct (Rb Y Y ?_))))))))
    simp; exact eq_of_idx (by omega) (fun i h => hi i (by omega))
theorem laws_szRule {w : World} {c_a : List Value} {a : Rule} {left : Int} (h_a : Gd.rd w c_a a) (h0 : 0 ≤ left) (h1 : left ≤ 1048576) (ho : okRule a) : Calls Tryz.prog 36 [(.agg c_a.toArray), (iv left)].toArray w (Val w (iv (szm (szRule a) left))) := by
 obtain ⟨u1, u3, rfl, hu2, hu4⟩ := open_Rule h_a
 have hm5 := rd_max hu2
 have hm6 := rd_max hu4
 have ho1 : a.Name.size ≤ 9223372036854775807 := ho.1
 refine enter 25 Tryz.func36 Y Y Y (Sr (li Y (D_box Y Y Y Y Y fun g7 => ?_)))
 refine Pe Y (Dh ([bx g7 [(.string a.Name), (iv a.Priority), u1, u3]]) Y (Sr (p1 Y (q1 Y (Db f_81_0 Y Y (q := 0) Y) (q1 Y (lb 0 o_9 Y Y Y Y) (q1 Y (D_lens us_9 Y Y) (q1 Y (D_sub Y Y Y Y (by omega)) (Pe Y (Cq (Sr (P2 Y Y (Dx (Ci _ Y (fun h8 => ?_) (fun h8 => ?_))))))))))))))
 ·have pr8 := odT h8
  refine Sr (Pe Y (Ct (Xr (Ri Y Y ?_))))
  show ((-1) : Int) = _
  unfold szRule szm at *; repeat (split at * <;> try omega)
 ·have pr8 := odF h8
  refine Sk (Sr (q1 Y (Db f_81_2 Y Y (q := 2) Y) (q1 Y (lb 0 o_78 Y Y Y Y) (p1 Y (li Y (cv b_95 Y Y Y Y (fun w' hs => (laws_szCondS (rA hs hu2) (by first | assumption | omega | (unfold szm at *; split at * <;> omega)) (by first | assumption | omega | (unfold szm at *; split at * <;> omega)) ho.2.2.1)) ?_))))))
  refine Pe Y (Cq (Sr (P2 Y Y (Dx (Ci _ Y (fun h9 => ?_) (fun h9 => ?_))))))
  ·have pr9 := odT h9
   refine Sr (Pe Y (Ct (Xr (Ri Y Y ?_))))
   show ((-1) : Int) = _
   unfold szRule szm at *; repeat (split at * <;> try omega)
  ·have pr9 := odF h9
   have pr9z := szm_val pr9
   refine Sk (D_wk [1, 2] Y (Sr (q1 Y (Db f_81_3 Y Y (q := 3) Y) (q1 Y (lb 0 o_79 Y Y Y Y) (p1 Y (li Y (cv b_96 Y Y Y Y (fun w' hs => (laws_szActionS (rA hs hu4) (by first | assumption | omega | (unfold szm at *; split at * <;> omega)) (by first | assumption | omega | (unfold szm at *; split at * <;> omega)) ho.2.2.2)) ?_)))))))
   refine Pe Y (Cq (Sr (P2 Y Y (Dx (Ci _ Y (fun h10 => ?_) (fun h10 => ?_))))))
   ·have pr10 := odT h10
    refine Sr (Pe Y (Ct (Xr (Ri Y Y ?_))))
    show ((-1) : Int) = _
    unfold szRule szm at *; repeat (split at * <;> try omega)
   ·have pr10 := odF h10
    have pr10z := szm_val pr10
    refine Sk (Sr (P2 Y Y (Dx (Ct (Ri Y Y ?_)))))
    show ((szm (szL szAction a.Then) (szm (szL szCond a.If) (left - ((a.Name.size : Nat) : Int)))) : Int) = _
    unfold szRule szm at *; repeat (split at * <;> try omega)
theorem laws_toRule {w : World} {c_a : List Value} {a : Rule} (h_a : Gd.rd w c_a a) (hn : szRule a ≤ 1048576) : Calls Tryz.prog 47 [(.agg c_a.toArray)].toArray w (Res w (a : Rule)) := by
 obtain ⟨u1, u3, rfl, hu2, hu4⟩ := open_Rule h_a
 have hm5 := rd_max hu2
 have hm6 := rd_max hu4
 unfold szRule at hn
 refine enter 19 Tryz.func47 Y Y Y (Sr (li Y (D_box Y Y Y Y Y fun g7 => ?_)))
 refine li Y (D_alloc y_96 Y Y Y Y fun g8 => ?_)
 refine Dx (Dh ([bx g8 [(.string ⟨#[]⟩), (iv 0), (.slice none 0 0), (.slice none 0 0)], bx g7 [(.string a.Name), (iv a.Priority), u1, u3]]) Y (Sr (li Y (D_alloc y_96 Y Y Y Y fun g9 => ?_))))
 refine Dx (Dh ([bx g9 [(.string ⟨#[]⟩), (iv 0), (.slice none 0 0), (.slice none 0 0)], _, _]) Y (Sr (q1 Y (Db f_81_0 Y Y (q := 0) Y) (q1 Y (lb 2 o_9 Y Y Y Y) (q1 Y (Db f_96_0 Y Y (q := 0) Y) (li Y (D_stb (vs := [(.string a.Name)]) (cs' := [(.string a.Name), (iv 0), (.slice none 0 0), (.slice none 0 0)]) 0 z_9 Y Y Y Y Y Y (ocons Y onil) (by simp) Y ?_)))))))
 refine Dx (Dh ([bx g9 [(.string a.Name), (iv 0), (.slice none 0 0), (.slice none 0 0)], _, _]) Y (Sr (q1 Y (Db f_81_1 Y Y (q := 1) Y) (q1 Y (lb 2 o_3 Y Y Y Y) (q1 Y (Db f_96_1 Y Y (q := 1) Y) (li Y (D_stb (vs := [(iv a.Priority)]) (cs' := [(.string a.Name), (iv a.Priority), (.slice none 0 0), (.slice none 0 0)]) 0 z_3 Y Y Y Y Y Y (ocons Y onil) (by simp) Y ?_)))))))
 refine Dx (Dh ([bx g9 [(.string a.Name), (iv a.Priority), (.slice none 0 0), (.slice none 0 0)], _, _]) Y (Sr (q1 Y (Db f_81_2 Y Y (q := 2) Y) (q1 Y (lb 2 o_78 Y Y Y Y) (li Y (crl b_105 Y Y Y Y (fun w' hs => (laws_toCondS (rA hs hu2) (by first | assumption | omega | (unfold szm at *; split at * <;> omega)))) fun v10 => ?_))))))
 refine q1 Y (Db f_96_2 Y Y (q := 2) Y) (Dp (fun w' hs => one_own (k := 0) hs Y) ?_)
 intro ho11
 refine li Y (D_stb (vs := [v10]) (cs' := [(.string a.Name), (iv a.Priority), v10, (.slice none 0 0)]) 1 z_93 Y Y Y Y Y (cells_of_one ho11) (ocons ho11 onil) (by simp) Y ?_)
 refine Dx (Dh ([ov [v10] (a.If : (List Cond)), bx g9 [(.string a.Name), (iv a.Priority), v10, (.slice none 0 0)], _, _]) Y (Sr (q1 Y (Db f_81_3 Y Y (q := 3) Y) (q1 Y (lb 3 o_79 Y Y Y Y) (li Y (crl b_106 Y Y Y Y (fun w' hs => (laws_toActionS (rA hs hu4) (by first | assumption | omega | (unfold szm at *; split at * <;> omega)))) fun v12 => ?_))))))
 refine q1 Y (Db f_96_3 Y Y (q := 3) Y) (Dp (fun w' hs => one_own (k := 0) hs Y) ?_)
 intro ho13
 refine li Y (D_stb (vs := [v12]) (cs' := [(.string a.Name), (iv a.Priority), v10, v12]) 2 z_94 Y Y Y Y Y (cells_of_one ho13) (ocons ho13 onil) (by simp) Y ?_)
 refine Dx (D_wk [2, 3] Y (D_pkO [0, 1, 2, 3] Y (Dh ([ov [v12] (a.Then : (List Action)), _, bx g9 [(.string a.Name), (iv a.Priority), v10, v12], _]) Y (Sr (q1 Y (lbw 2 a_96 Y Y Y) (li Y (D_stb (vs := [(.string a.Name), (iv a.Priority), v10, v12]) (cs' := [(.string a.Name), (iv a.Priority), v10, v12]) 3 z_96 Y Y Y Y Y Y (ocons Y (ocons Y (ocons ho11 (ocons ho13 onil)))) (by simp) Y ?_)))))))
 refine Dx (Ct (D_pkO [1, 0, 2, 3] Y (pk_Rule (r := (a : Rule)) (R_c 2 a_96 Y Y Y fun w' hs => res_of (k := 0) hs Y ?_))))
 show (a : Rule) = a
 rfl
theorem laws_eqRule {w : World} {c_a : List Value} {a : Rule} {c_b : List Value} {b : Rule} (h_a : Gd.rd w c_a a) (h_b : Gd.rd w c_b b) : Calls Tryz.prog 55 [(.agg c_a.toArray), (.agg c_b.toArray)].toArray w (Val w (.bool (decide (a = b)))) := by
 obtain ⟨u1, u3, rfl, hu2, hu4⟩ := open_Rule h_a
 have hm5 := rd_max hu2
 have hm6 := rd_max hu4
 obtain ⟨u7, u9, rfl, hu8, hu10⟩ := open_Rule h_b
 have hm11 := rd_max hu8
 have hm12 := rd_max hu10
 refine enter 27 Tryz.func55 Y Y Y (Sr (li Y (D_box Y Y Y Y Y fun g13 => ?_)))
 refine li Y (D_box Y Y Y Y Y fun g14 => ?_)
 refine Pe Y (Dh ([bx g14 [(.string b.Name), (iv b.Priority), u7, u9], bx g13 [(.string a.Name), (iv a.Priority), u1, u3]]) Y (Cq (Sr (q1 Y (Db f_96_0 Y Y (q := 0) Y) (q1 Y (lb 1 o_9 Y Y Y Y) (q1 Y (Db f_96_0 Y Y (q := 0) Y) (q1 Y (lb 0 o_9 Y Y Y Y) (q1 Y (D_neS Y Y Y) (Dx (Ci _ Y (fun h15 => ?_) (fun h15 => ?_)))))))))))
 ·have pr15 := odF (not_t h15)
  refine Sr (Pe Y (Ct (Xr (Rb Y Y ?_))))
  cases a; cases b; simp_all
 ·have pr15 := odT (not_f h15)
  refine Sk (Cq (Sr (q1 Y (Db f_96_1 Y Y (q := 1) Y) (q1 Y (lb 1 o_3 Y Y Y Y) (q1 Y (Db f_96_1 Y Y (q := 1) Y) (q1 Y (lb 0 o_3 Y Y Y Y) (Pe Y (Ci _ Y (fun h16 => ?_) (fun h16 => ?_)))))))))
  ·have pr16 := bne_iff_ne.1 h16
   refine Sr (Pe Y (Ct (Xr (Rb Y Y ?_))))
   cases a; cases b; simp_all
  ·have pr16 := eq_of_bne_f h16
   refine Sk (Cq (Sr (q1 Y (Db f_96_2 Y Y (q := 2) Y) (q1 Y (lb 1 o_93 Y Y Y Y) (q1 Y (Db f_96_2 Y Y (q := 2) Y) (q1 Y (lb 0 o_93 Y Y Y Y) (li Y (cv b_115 Y Y Y Y (fun w' hs => (laws_eqCondS (rA hs hu2) (rA hs hu8))) ?_))))))))
   refine Pe Y (D_wk [2, 3, 20] Y (Ci _ Y (fun h17 => ?_) (fun h17 => ?_)))
   ·have h17n := not_t h17
    refine Sr (Pe Y (Ct (Xr (Rb Y Y ?_))))
    cases a; cases b; simp_all
   ·have h17n := not_f h17
    refine Sk (Cq (Sr (q1 Y (Db f_96_3 Y Y (q := 3) Y) (q1 Y (lb 1 o_94 Y Y Y Y) (q1 Y (Db f_96_3 Y Y (q := 3) Y) (q1 Y (lb 0 o_94 Y Y Y Y) (li Y (cv b_116 Y Y Y Y (fun w' hs => (laws_eqActionS (rA hs hu4) (rA hs hu10))) ?_))))))))
    refine Pe Y (Ci _ Y (fun h18 => ?_) (fun h18 => ?_))
    ·have h18n := not_t h18
     refine Sr (Pe Y (Ct (Xr (Rb Y Y ?_))))
     cases a; cases b; simp_all
    ·have h18n := not_f h18
     refine Sk (Sr (Pe Y (Ct (Rb Y Y ?_))))
     cases a; cases b; simp_all
theorem laws_szStamp {w : World} {c_a : List Value} {a : Stamp} {left : Int} (h_a : Gd.rd w c_a a) (h0 : 0 ≤ left) (h1 : left ≤ 1048576) (ho : okStamp a) : Calls Tryz.prog 37 [(.agg c_a.toArray), (iv left)].toArray w (Val w (iv (szm (szStamp a) left))) := by
 obtain ⟨u1, rfl, hu2⟩ := open_Stamp h_a
 have hm3 := rd_max hu2
 have hb4 := sub_Stamp_Fact h_a
 refine enter 12 Tryz.func37 Y Y Y (Sr (li Y (D_box Y Y Y Y Y fun g5 => ?_)))
 refine Pe Y (Dh ([bx g5 [(.string a.Fact.Rel), u1, (iv a.Time)]]) Y (Sr (q1 Y (Db f_84_0 Y Y (q := 0) Y) (q1 Y (lba (es := [(.string a.Fact.Rel), u1]) 0 a_60 Y Y Y Y) (p1 Y (li Y (cv b_24 Y Y Y Y (fun w' hs => (laws_szFact (rA hs hb4) (by first | assumption | omega | (unfold szm at *; split at * <;> omega)) (by first | assumption | omega | (unfold szm at *; split at * <;> omega)) ho.1)) ?_)))))))
 refine Pe Y (Cq (Sr (P2 Y Y (Dx (Ci _ Y (fun h6 => ?_) (fun h6 => ?_))))))
 ·have pr6 := odT h6
  refine Sr (Pe Y (Ct (Xr (Ri Y Y ?_))))
  show ((-1) : Int) = _
  unfold szStamp szm at *; repeat (split at * <;> try omega)
 ·have pr6 := odF h6
  have pr6z := szm_val pr6
  refine Sk (Sr (P2 Y Y (Dx (Ct (Ri Y Y ?_)))))
  show ((szm (szFa a.Fact) left) : Int) = _
  unfold szStamp szm at *; repeat (split at * <;> try omega)
theorem laws_toStamp {w : World} {c_a : List Value} {a : Stamp} (h_a : Gd.rd w c_a a) (hn : szStamp a ≤ 1048576) : Calls Tryz.prog 48 [(.agg c_a.toArray)].toArray w (Res w (a : Stamp)) := by
 obtain ⟨u1, rfl, hu2⟩ := open_Stamp h_a
 have hm3 := rd_max hu2
 have hb4 := sub_Stamp_Fact h_a
 unfold szStamp at hn
 refine enter 12 Tryz.func48 Y Y Y (Sr (li Y (D_box Y Y Y Y Y fun g5 => ?_)))
 refine li Y (D_alloc y_100 Y Y Y Y fun g6 => ?_)
 refine Dx (Dh ([bx g6 [(.string ⟨#[]⟩), (.slice none 0 0), (iv 0)], bx g5 [(.string a.Fact.Rel), u1, (iv a.Time)]]) Y (Sr (li Y (D_alloc y_100 Y Y Y Y fun g7 => ?_))))
 refine Dx (Dh ([bx g7 [(.string ⟨#[]⟩), (.slice none 0 0), (iv 0)], _, _]) Y (Sr (q1 Y (Db f_84_0 Y Y (q := 0) Y) (q1 Y (lba (es := [(.string a.Fact.Rel), u1]) 2 a_60 Y Y Y Y) (li Y (crs Y b_27 Y Y Y Y (fun w' hs => (laws_toFact (rA hs hb4) (by first | assumption | omega | (unfold szm at *; split at * <;> omega)))) fun cs8 => ?_))))))
 refine Dp (fun w' hs => shape_Fact (rO (k := 0) hs Y)) ?_
 rintro ⟨v9, rfl, ho10⟩
 refine q1 Y (Db f_100_0 Y Y (q := 0) Y) (li Y (D_stb (vs := [(.string a.Fact.Rel), v9]) (cs' := [(.string a.Fact.Rel), v9, (iv 0)]) 1 z_70 Y Y Y Y Y Y (ocons Y (ocons ho10 onil)) (by simp) Y ?_))
 refine Dx (Dh ([ov [(.string a.Fact.Rel), v9] (a.Fact : Fact), bx g7 [(.string a.Fact.Rel), v9, (iv 0)], _, _]) Y (Sr (q1 Y (Db f_84_1 Y Y (q := 2) Y) (q1 Y (lb 3 o_3 Y Y Y Y) (q1 Y (Db f_100_1 Y Y (q := 2) Y) (li Y (D_stb (vs := [(iv a.Time)]) (cs' := [(.string a.Fact.Rel), v9, (iv a.Time)]) 1 z_3 Y Y Y Y Y Y (ocons Y onil) (by simp) Y ?_)))))))
 refine Dx (Dh ([_, bx g7 [(.string a.Fact.Rel), v9, (iv a.Time)], _, _]) Y (Sr (q1 Y (lbw 1 a_100 Y Y Y) (li Y (D_stb (vs := [(.string a.Fact.Rel), v9, (iv a.Time)]) (cs' := [(.string a.Fact.Rel), v9, (iv a.Time)]) 2 z_100 Y Y Y Y Y Y (ocons Y (ocons ho10 (ocons Y onil))) (by simp) Y ?_)))))
 refine Dx (Ct (D_unpair (α := ByteArray) (β := (List ByteArray)) (c1 := [(.string a.Fact.Rel)]) (c2 := [v9]) (x := a.Fact.Rel) (y := (a.Fact.Args)) Y Y (D_fd [] 1 Y (pk_Stamp (r := (a : Stamp)) (R_c 2 a_100 Y Y Y fun w' hs => res_of (k := 0) hs Y ?_)))))
 show (a : Stamp) = a
 rfl
theorem laws_eqStamp {w : World} {c_a : List Value} {a : Stamp} {c_b : List Value} {b : Stamp} (h_a : Gd.rd w c_a a) (h_b : Gd.rd w c_b b) : Calls Tryz.prog 56 [(.agg c_a.toArray), (.agg c_b.toArray)].toArray w (Val w (.bool (decide (a = b)))) := by
 obtain ⟨u1, rfl, hu2⟩ := open_Stamp h_a
 have hm3 := rd_max hu2
 have hb4 := sub_Stamp_Fact h_a
 obtain ⟨u5, rfl, hu6⟩ := open_Stamp h_b
 have hm7 := rd_max hu6
 have hb8 := sub_Stamp_Fact h_b
 refine enter 16 Tryz.func56 Y Y Y (Sr (li Y (D_box Y Y Y Y Y fun g9 => ?_)))
 refine li Y (D_box Y Y Y Y Y fun g10 => ?_)
 refine Pe Y (Dh ([bx g10 [(.string b.Fact.Rel), u5, (iv b.Time)], bx g9 [(.string a.Fact.Rel), u1, (iv a.Time)]]) Y (Cq (Sr (q1 Y (Db f_100_0 Y Y (q := 0) Y) (q1 Y (lba (es := [(.string a.Fact.Rel), u1]) 1 a_70 Y Y Y Y) (q1 Y (Db f_100_0 Y Y (q := 0) Y) (q1 Y (lba (es := [(.string b.Fact.Rel), u5]) 0 a_70 Y Y Y Y) (li Y (cv b_30 Y Y Y Y (fun w' hs => (laws_eqFact (rA hs hb4) (rA hs hb8))) ?_)))))))))
 refine Pe Y (Ci _ Y (fun h11 => ?_) (fun h11 => ?_))
 ·have h11n := not_t h11
  refine Sr (Pe Y (Ct (Xr (Rb Y Y ?_))))
  cases a; cases b; simp_all
 ·have h11n := not_f h11
  refine Sk (Cq (Sr (q1 Y (Db f_100_1 Y Y (q := 2) Y) (q1 Y (lb 1 o_3 Y Y Y Y) (q1 Y (Db f_100_1 Y Y (q := 2) Y) (q1 Y (lb 0 o_3 Y Y Y Y) (Pe Y (D_wk [15] Y (D_pkO [] Y (Ci _ Y (fun h12 => ?_) (fun h12 => ?_)))))))))))
  ·have pr12 := bne_iff_ne.1 h12
   refine Sr (Pe Y (Ct (Xr (Rb Y Y ?_))))
   cases a; cases b; simp_all
  ·have pr12 := eq_of_bne_f h12
   refine Sk (Sr (Pe Y (Ct (Rb Y Y ?_))))
   cases a; cases b; simp_all
theorem laws_szFiring {w : World} {c_a : List Value} {a : Firing} {left : Int} (h_a : Gd.rd w c_a a) (h0 : 0 ≤ left) (h1 : left ≤ 1048576) (ho : okFiring a) : Calls Tryz.prog 120 [(.agg c_a.toArray), (iv left)].toArray w (Val w (iv (szm (szFiring a) left))) := by
 obtain ⟨u1, rfl, hu2⟩ := open_Firing h_a
 have hm3 := rd_max hu2
 have ho1 : a.Rule.size ≤ 9223372036854775807 := ho.1
 refine enter 19 Tryz.func120 Y Y Y (Sr (li Y (D_box Y Y Y Y Y fun g4 => ?_)))
 refine Pe Y (Dh ([bx g4 [(.string a.Rule), u1]]) Y (Sr (p1 Y (q1 Y (Db f_162_0 Y Y (q := 0) Y) (q1 Y (lb 0 o_9 Y Y Y Y) (q1 Y (D_lens us_9 Y Y) (q1 Y (D_sub Y Y Y Y (by omega)) (Pe Y (Cq (Sr (P2 Y Y (Dx (Ci _ Y (fun h5 => ?_) (fun h5 => ?_))))))))))))))
 ·have pr5 := odT h5
  refine Sr (Pe Y (Ct (Xr (Ri Y Y ?_))))
  show ((-1) : Int) = _
  unfold szFiring szm at *; repeat (split at * <;> try omega)
 ·have pr5 := odF h5
  refine Sk (Sr (q1 Y (Db f_162_1 Y Y (q := 1) Y) (q1 Y (lb 0 o_35 Y Y Y Y) (p1 Y (li Y (cv b_176 Y Y Y Y (fun w' hs => (laws_szIntS (rA hs hu2) (by first | assumption | omega | (unfold szm at *; split at * <;> omega)) (by first | assumption | omega | (unfold szm at *; split at * <;> omega)))) ?_))))))
  refine Pe Y (Cq (Sr (P2 Y Y (Dx (D_wk [1, 17] Y (D_pkO [] Y (Ci _ Y (fun h6 => ?_) (fun h6 => ?_))))))))
  ·have pr6 := odT h6
   refine Sr (Pe Y (Ct (Xr (Ri Y Y ?_))))
   show ((-1) : Int) = _
   unfold szFiring szm at *; repeat (split at * <;> try omega)
  ·have pr6 := odF h6
   have pr6z := szm_val pr6
   refine Sk (Sr (P2 Y Y (Dx (Ct (Ri Y Y ?_)))))
   show ((szm a.Times.length (left - ((a.Rule.size : Nat) : Int))) : Int) = _
   unfold szFiring szm at *; repeat (split at * <;> try omega)
theorem laws_toFiring {w : World} {c_a : List Value} {a : Firing} (h_a : Gd.rd w c_a a) (hn : szFiring a ≤ 1048576) : Calls Tryz.prog 129 [(.agg c_a.toArray)].toArray w (Res w (a : Firing)) := by
 obtain ⟨u1, rfl, hu2⟩ := open_Firing h_a
 have hm3 := rd_max hu2
 unfold szFiring at hn
 refine enter 12 Tryz.func129 Y Y Y (Sr (li Y (D_box Y Y Y Y Y fun g4 => ?_)))
 refine li Y (D_alloc y_168 Y Y Y Y fun g5 => ?_)
 refine Dx (Dh ([bx g5 [(.string ⟨#[]⟩), (.slice none 0 0)], bx g4 [(.string a.Rule), u1]]) Y (Sr (li Y (D_alloc y_168 Y Y Y Y fun g6 => ?_))))
 refine Dx (Dh ([bx g6 [(.string ⟨#[]⟩), (.slice none 0 0)], _, _]) Y (Sr (q1 Y (Db f_162_0 Y Y (q := 0) Y) (q1 Y (lb 2 o_9 Y Y Y Y) (q1 Y (Db f_168_0 Y Y (q := 0) Y) (li Y (D_stb (vs := [(.string a.Rule)]) (cs' := [(.string a.Rule), (.slice none 0 0)]) 0 z_9 Y Y Y Y Y Y (ocons Y onil) (by simp) Y ?_)))))))
 refine Dx (Dh ([bx g6 [(.string a.Rule), (.slice none 0 0)], _, _]) Y (Sr (q1 Y (Db f_162_1 Y Y (q := 1) Y) (q1 Y (lb 2 o_35 Y Y Y Y) (li Y (crl b_182 Y Y Y Y (fun w' hs => (laws_toIntS (rA hs hu2) (by first | assumption | omega | (unfold szm at *; split at * <;> omega)))) fun v7 => ?_))))))
 refine q1 Y (Db f_168_1 Y Y (q := 1) Y) (Dp (fun w' hs => one_own (k := 0) hs Y) ?_)
 intro ho8
 refine li Y (D_stb (vs := [v7]) (cs' := [(.string a.Rule), v7]) 1 z_35 Y Y Y Y Y (cells_of_one ho8) (ocons ho8 onil) (by simp) Y ?_)
 refine Dx (Dh ([ov [v7] (a.Times : (List Int)), bx g6 [(.string a.Rule), v7], _, _]) Y (Sr (q1 Y (lbw 1 a_168 Y Y Y) (li Y (D_stb (vs := [(.string a.Rule), v7]) (cs' := [(.string a.Rule), v7]) 2 z_168 Y Y Y Y Y Y (ocons Y (ocons ho8 onil)) (by simp) Y ?_)))))
 refine Dx (Ct (pk_Firing (r := (a : Firing)) (R_c 2 a_168 Y Y Y fun w' hs => res_of (k := 0) hs Y ?_)))
 show (a : Firing) = a
 rfl
theorem laws_eqFiring {w : World} {c_a : List Value} {a : Firing} {c_b : List Value} {b : Firing} (h_a : Gd.rd w c_a a) (h_b : Gd.rd w c_b b) : Calls Tryz.prog 140 [(.agg c_a.toArray), (.agg c_b.toArray)].toArray w (Val w (.bool (decide (a = b)))) := by
 obtain ⟨u1, rfl, hu2⟩ := open_Firing h_a
 have hm3 := rd_max hu2
 obtain ⟨u4, rfl, hu5⟩ := open_Firing h_b
 have hm6 := rd_max hu5
 refine enter 16 Tryz.func140 Y Y Y (Sr (li Y (D_box Y Y Y Y Y fun g7 => ?_)))
 refine li Y (D_box Y Y Y Y Y fun g8 => ?_)
 refine Pe Y (Dh ([bx g8 [(.string b.Rule), u4], bx g7 [(.string a.Rule), u1]]) Y (Cq (Sr (q1 Y (Db f_168_0 Y Y (q := 0) Y) (q1 Y (lb 1 o_9 Y Y Y Y) (q1 Y (Db f_168_0 Y Y (q := 0) Y) (q1 Y (lb 0 o_9 Y Y Y Y) (q1 Y (D_neS Y Y Y) (Dx (Ci _ Y (fun h9 => ?_) (fun h9 => ?_)))))))))))
 ·have pr9 := odF (not_t h9)
  refine Sr (Pe Y (Ct (Xr (Rb Y Y ?_))))
  cases a; cases b; simp_all
 ·have pr9 := odT (not_f h9)
  refine Sk (Cq (Sr (q1 Y (Db f_168_1 Y Y (q := 1) Y) (q1 Y (lb 1 o_35 Y Y Y Y) (q1 Y (Db f_168_1 Y Y (q := 1) Y) (q1 Y (lb 0 o_35 Y Y Y Y) (li Y (cv b_54 Y Y Y Y (fun w' hs => (laws_eqIntS (rA hs hu2) (rA hs hu5))) ?_))))))))
  refine Pe Y (D_wk [15] Y (D_pkO [] Y (Ci _ Y (fun h10 => ?_) (fun h10 => ?_))))
  ·have h10n := not_t h10
   refine Sr (Pe Y (Ct (Xr (Rb Y Y ?_))))
   cases a; cases b; simp_all
  ·have h10n := not_f h10
   refine Sk (Sr (Pe Y (Ct (Rb Y Y ?_))))
   cases a; cases b; simp_all
theorem laws_szRuleS {w : World} {v_a : Value} {a : (List Rule)} {left : Int} (h_a : Gd.rd w [v_a] a) (h0 : 0 ≤ left) (h1 : left ≤ 1048576) (ho : okL okRule a) : Calls Tryz.prog 6 [v_a, (iv left)].toArray w (Val w (iv (szm (szL szRule a) left))) := by
 have hm1 := rd_max h_a
 refine enter 27 Tryz.func6 Y Y Y (Sr (Pe Y (Sr (P2 Y Y (q1 Y (Dl s_22 Y Y (rd_sl h_a)) (q1 Y (D_sub Y Y Y Y (by omega)) (Pe Y (Cq (Sr (P2 Y Y (Dx (Ci _ Y (fun h2 => ?_) (fun h2 => ?_)))))))))))))
 ·have pr2 := odT h2
  refine Sr (Pe Y (Ct (Xr (Ri Y Y ?_))))
  show ((-1) : Int) = _
  refine (szm_neg ?_).symm; unfold szL; omega
 ·have pr2 := odF h2
  refine Sk (Cq (Sr (Pe Y (Cb (Cl (fun m_ ac w' => ∃ (k : Nat), ∃ (lf : Int), (k ≤ a.length) ∧ (0 ≤ lf ∧ lf = left - a.length - sumC szRule (a.take k)) ∧ m_ = a.length - k ∧ Fits ac 27 [(0, v_a), (1, (iv lf)), (5, (nv k))] ∧ St w ([]) w') ?_ ?_)))))
  ·refine fun ac w' hf hs => ⟨_, 0, (left - ((a.length : Nat) : Int)), ?_, ?_, Y, hf.wk Y, hs⟩
   ·first | assumption | omega | simp
   ·simp [sumC]; omega
  ·rintro m_ ac w' ⟨k, lf, hk, hl, rfl, hf, hs⟩
   refine D.use ?_ hf hs
   clear hf hs ac w'
   have ht := sumC_take_le a szRule k
   refine Cq (Sr (P2 Y Y (q1 Y (Dl s_22 Y Y (rd_sl h_a)) (Pe Y (Ci _ Y (fun h3 => ?_) (fun h3 => ?_))))))
   ·have pr3 := odT h3
    refine Sk (Cq (Cb (Sr (P2 Y Y ?_))))
    obtain ⟨r0, hr0⟩ := sL (l := a) (i := k) (by omega)
    have hro := ho _ (List.mem_of_getElem? hr0)
    have ht1 := sumC_take_le a szRule (k + 1)
    have hst := sumC_take (c := szRule) hr0
    obtain ⟨es4, at5, hr6⟩ := rd_elem (n := 4) rfl h_a hr0
    obtain ⟨u7, u9, rfl, hu8, hu10⟩ := open_Rule hr6
    have hm11 := rd_max hu8
    have hm12 := rd_max hu10
    refine q1 Y (D_ix (l := a) (j := k) s_22 Y Y Y (fun w' hs => (rA hs h_a)) Y (lS hr0)) (q1 Y (lra a_81 Y Y at5) (p1 Y (li Y (cv b_36 Y Y Y Y (fun w' hs => (laws_szRule (rA hs hr6) (by first | assumption | omega | (unfold szm at *; split at * <;> omega)) (by first | assumption | omega | (unfold szm at *; split at * <;> omega)) hro)) ?_))))
    refine Pe Y (Sr (P2 Y Y (Dx (Ci _ Y (fun h13 => ?_) (fun h13 => ?_)))))
    ·have pr13 := odT h13
     refine Sr (Pe Y (Ct (Xq (Xr (Xr (Xq (Xr (Ri Y Y ?_))))))))
     show ((-1) : Int) = _
     refine (szm_neg ?_).symm; unfold szL; unfold szm at *; split at * <;> omega
    ·have pr13 := odF h13
     have pr13z := szm_val pr13
     refine Ck (Xb (Xt (Cr (p1 Y (q1 Y (D_add Y Y Y (r := ((k + 1 : Nat) : Int)) (by omega) (by omega)) (Pe Y (fun ac w' hf hs => ⟨_, ?_, k + 1, (szm (szRule r0) lf), ?_, ?_, Y, hf.wk Y, hs⟩)))))))
     ·omega
     ·first | assumption | omega | simp
     ·rw [hst]; unfold szm at *; split at * <;> omega
   ·have pr3 := odF h3
    refine Cx (Xx (Xx (Xe (Xt (Sr (P2 Y Y (Dx (Ct (Ri Y Y ?_)))))))))
    show (lf : Int) = _
    rw [szm_pos]; all_goals (unfold szL; rw [List.take_of_length_le (by omega)] at hl; omega)
theorem laws_toRuleS {w : World} {v_a : Value} {a : (List Rule)} (h_a : Gd.rd w [v_a] a) (hn : szL szRule a ≤ 1048576) : Calls Tryz.prog 10 [v_a].toArray w (Res w (a : List Rule)) := by
 have hm1 := rd_max h_a
 unfold szL at hn
 refine enter 23 Tryz.func10 Y Y Y (Sr (Pe Y (Sr (p1 Y (q1 Y (Dl s_22 Y Y (rd_sl h_a)) (li Y (D_mkG (α := Rule) (z0 := z0_Rule) s_40 y_96 Y Y Y Y Y Y zz_Rule (by omega) (by omega) fun v2 => ?_)))))))
 refine Pe Y (Dh ([ov [v2] (List.replicate a.length z0_Rule : (List Rule))]) Y (Cq (Sr (Pe Y (Cb (Cl (fun m_ ac w' => ∃ (k : Nat), ∃ (v : Value), (k ≤ a.length) ∧ m_ = a.length - k ∧ Fits ac 23 [(0, v_a), (3, v), (4, (nv k))] ∧ St w ([ov [v] (cp a z0_Rule k : (List Rule))]) w') ?_ ?_))))))
 ·refine D_eq 0 Y (show (List.replicate a.length z0_Rule : (List Rule)) = cp a z0_Rule 0 from by rw [cp_zero]) (fun ac w' hf hs => ⟨_, 0, v2, ?_, Y, hf.wk Y, hs⟩)
  ·first | assumption | omega | simp
 ·rintro m_ ac w' ⟨k, v, hk, rfl, hf, hs⟩
  refine D.use ?_ hf hs
  clear hf hs ac w'
  have hcl := cp_len a z0_Rule k hk
  refine Cq (Sr (P2 Y Y (q1 Y (Dl s_22 Y Y (rd_sl h_a)) (Pe Y (Dh ([_]) Y (Ci _ Y (fun h3 => ?_) (fun h3 => ?_)))))))
  ·have pr3 := odT h3
   refine Sk (Cq (Cb (Cr (P3 Y Y Y (p1 Y ?_)))))
   obtain ⟨x4, hx5⟩ := sL (l := a) (i := k) (by omega)
   have hle := sumC_mem (c := szRule) (mem_idx hx5)
   obtain ⟨es6, at7, hr8⟩ := rd_elem (n := 4) rfl h_a hx5
   obtain ⟨u9, u11, rfl, hu10, hu12⟩ := open_Rule hr8
   have hm13 := rd_max hu10
   have hm14 := rd_max hu12
   refine q1 Y (D_ix (l := a) (j := k) s_22 Y Y Y (fun w' hs => (rA hs h_a)) Y (lS hx5)) (q1 Y (lra a_81 Y Y at7) (li Y (crs Y b_47 Y Y Y Y (fun w' hs => (laws_toRule (rA hs hr8) (by first | assumption | omega | (unfold szm at *; split at * <;> omega)))) fun cs15 => ?_)))
   refine Dp (fun w' hs => shape_Rule (rO (k := 0) hs Y)) ?_
   rintro ⟨v16, v17, rfl, ho18, ho19⟩
   obtain ⟨x20, hx21⟩ := sL (l := (cp a z0_Rule k)) (i := k) (by omega)
   refine q1 Y (D_ix (l := (cp a z0_Rule k)) (j := k) s_40 Y Y Y (fun w' hs => (rO (k := 1) hs Y)) Y (lS hx21)) (D_pkO [1, 0] Y (li Y (soG (α := Rule) Y z_96 Y Y Y Y Y (lS hx21) ?_)))
   refine De (Xb (Xt (Dh ([ov [v] ((cp a z0_Rule k).set k x4 : (List Rule))]) Y (Cr (p1 Y (q1 Y (D_add Y Y Y (r := ((k + 1 : Nat) : Int)) (by omega) (by omega)) (Pe Y (D_eq 0 Y (show ((cp a z0_Rule k).set k x4 : (List Rule)) = cp a z0_Rule (k + 1) from by rw [cp_set (by assumption)]) (fun ac w' hf hs => ⟨_, ?_, k + 1, v, ?_, Y, hf.wk Y, hs⟩)))))))))
   ·omega
   ·first | assumption | omega | simp
  ·have pr3 := odF h3
   refine Cx (Xx (Xx (Xe (Xt (Sr (P2 Y Y (Dx (Ct (R_1 Y Y fun w' hs => res_of (k := 0) hs Y ?_)))))))))
   show cp a z0_Rule k = a
   exact cp_done (by omega)
theorem laws_eqRuleS {w : World} {v_a : Value} {a : (List Rule)} {v_b : Value} {b : (List Rule)} (h_a : Gd.rd w [v_a] a) (h_b : Gd.rd w [v_b] b) : Calls Tryz.prog 15 [v_a, v_b].toArray w (Val w (.bool (decide (a = b)))) := by
 have hm1 := rd_max h_a
 have hm2 := rd_max h_b
 refine enter 27 Tryz.func15 Y Y Y (Sr (Pe Y (Cq (Sr (p1 Y (q1 Y (Dl s_40 Y Y (rd_sl h_a)) (p1 Y (q1 Y (Dl s_40 Y Y (rd_sl h_b)) (Pe Y (Ci _ Y (fun h3 => ?_) (fun h3 => ?_)))))))))))
 ·have pr3 := bne_iff_ne.1 h3
  refine Sr (Pe Y (Ct (Xr (Rb Y Y ?_))))
  simp; intro e; subst e; simp_all
 ·have pr3 := eq_of_bne_f h3
  refine Sk (Cq (Sr (Pe Y (Cb (Cl (fun m_ ac w' => ∃ (k : Nat), (k ≤ a.length) ∧ (∀ i, i < k → a[i]? = b[i]?) ∧ m_ = a.length - k ∧ Fits ac 27 [(0, v_a), (1, v_b), (5, (nv k))] ∧ St w ([]) w') ?_ ?_)))))
  ·refine fun ac w' hf hs => ⟨_, 0, ?_, ?_, Y, hf.wk Y, hs⟩
   ·first | assumption | omega | simp
   ·intro i hi; omega
  ·rintro m_ ac w' ⟨k, hk, hi, rfl, hf, hs⟩
   refine D.use ?_ hf hs
   clear hf hs ac w'
   refine Cq (Sr (P2 Y Y (q1 Y (Dl s_40 Y Y (rd_sl h_a)) (Pe Y (Ci _ Y (fun h4 => ?_) (fun h4 => ?_))))))
   ·have pr4 := odT h4
    refine Sk (Cq (Cb (Cq (C_draw mixed [8, 9] (by kernel_rfl) (Tk 0 Y (by kernel_rfl) Y (rp Y) (Tk 1 Y (by kernel_rfl) Y (rp Y) ?_))))))
    obtain ⟨x5, hx6⟩ := sL (l := a) (i := k) (by omega)
    obtain ⟨es7, at8, hr9⟩ := rd_elem (n := 4) rfl h_a hx6
    obtain ⟨u10, u12, rfl, hu11, hu13⟩ := open_Rule hr9
    have hm14 := rd_max hu11
    have hm15 := rd_max hu13
    refine Tk 2 Y (by kernel_rfl) Y (D_ix (l := a) (j := k) s_40 Y Y Y (fun w' hs => (rA hs h_a)) Y (lS hx6)) (Tk 3 Y (by kernel_rfl) Y (lra a_96 Y Y at8) (Tk 4 Y (by kernel_rfl) Y (rp Y) (Tk 5 Y (by kernel_rfl) Y (rp Y) ?_)))
    obtain ⟨x16, hx17⟩ := sL (l := b) (i := k) (by omega)
    obtain ⟨es18, at19, hr20⟩ := rd_elem (n := 4) rfl h_b hx17
    obtain ⟨u21, u23, rfl, hu22, hu24⟩ := open_Rule hr20
    have hm25 := rd_max hu22
    have hm26 := rd_max hu24
    refine Tk 6 Y (by kernel_rfl) Y (D_ix (l := b) (j := k) s_40 Y Y Y (fun w' hs => (rA hs h_b)) Y (lS hx17)) (Tk 7 Y (by kernel_rfl) Y (lra a_96 Y Y at19) (ty 8 Y (by kernel_rfl) Y (cv b_55 Y Y Y Y (fun w' hs => (laws_eqRule (rA hs hr9) (rA hs hr20))) ?_)))
    refine tZ Y (ty 9 Y (by kernel_rfl) Y (sv Y Y (rp Y) ?_))
    refine tZ Y (tE (by kernel_rfl) (Xt (Ci _ Y (fun h27 => ?_) (fun h27 => ?_))))
    ·have h27n := not_t h27
     refine Sr (Pe Y (Ct (Xq (Xr (Xr (Xq (Xr (Rb Y Y ?_))))))))
     simp; intro e; subst e; simp_all
    ·have h27n := not_f h27
     refine Ck (Xb (Xt (Cr (p1 Y (q1 Y (D_add Y Y Y (r := ((k + 1 : Nat) : Int)) (by omega) (by omega)) (Pe Y (fun ac w' hf hs => ⟨_, ?_, k + 1, ?_, ?_, Y, hf.wk Y, hs⟩)))))))
     ·omega
     ·first | assumption | omega | simp
     ·refine idx_step hi (by assumption) (by assumption) ?_; first | (simp_all; done) | (apply Fact.mk_eq <;> simp_all)
   ·have pr4 := odF h4
    refine Cx (Xx (Xx (Xe (Xt (Sr (Pe Y (Ct (Rb Y Y ?_))))))))
    simp; exact eq_of_idx (by omega) (fun i h => hi i (by omega))
theorem laws_szStampS {w : World} {v_a : Value} {a : (List Stamp)} {left : Int} (h_a : Gd.rd w [v_a] a) (h0 : 0 ≤ left) (h1 : left ≤ 1048576) (ho : okL okStamp a) : Calls Tryz.prog 7 [v_a, (iv left)].toArray w (Val w (iv (szm (szL szStamp a) left))) := by
 have hm1 := rd_max h_a
 refine enter 27 Tryz.func7 Y Y Y (Sr (Pe Y (Sr (P2 Y Y (q1 Y (Dl s_23 Y Y (rd_sl h_a)) (q1 Y (D_sub Y Y Y Y (by omega)) (Pe Y (Cq (Sr (P2 Y Y (Dx (Ci _ Y (fun h2 => ?_) (fun h2 => ?_)))))))))))))
 ·have pr2 := odT h2
  refine Sr (Pe Y (Ct (Xr (Ri Y Y ?_))))
  show ((-1) : Int) = _
  refine (szm_neg ?_).symm; unfold szL; omega
 ·have pr2 := odF h2
  refine Sk (Cq (Sr (Pe Y (Cb (Cl (fun m_ ac w' => ∃ (k : Nat), ∃ (lf : Int), (k ≤ a.length) ∧ (0 ≤ lf ∧ lf = left - a.length - sumC szStamp (a.take k)) ∧ m_ = a.length - k ∧ Fits ac 27 [(0, v_a), (1, (iv lf)), (5, (nv k))] ∧ St w ([]) w') ?_ ?_)))))
  ·refine fun ac w' hf hs => ⟨_, 0, (left - ((a.length : Nat) : Int)), ?_, ?_, Y, hf.wk Y, hs⟩
   ·first | assumption | omega | simp
   ·simp [sumC]; omega
  ·rintro m_ ac w' ⟨k, lf, hk, hl, rfl, hf, hs⟩
   refine D.use ?_ hf hs
   clear hf hs ac w'
   have ht := sumC_take_le a szStamp k
   refine Cq (Sr (P2 Y Y (q1 Y (Dl s_23 Y Y (rd_sl h_a)) (Pe Y (Ci _ Y (fun h3 => ?_) (fun h3 => ?_))))))
   ·have pr3 := odT h3
    refine Sk (Cq (Cb (Sr (P2 Y Y ?_))))
    obtain ⟨r0, hr0⟩ := sL (l := a) (i := k) (by omega)
    have hro := ho _ (List.mem_of_getElem? hr0)
    have ht1 := sumC_take_le a szStamp (k + 1)
    have hst := sumC_take (c := szStamp) hr0
    obtain ⟨es4, at5, hr6⟩ := rd_elem (n := 3) rfl h_a hr0
    obtain ⟨u7, rfl, hu8⟩ := open_Stamp hr6
    have hm9 := rd_max hu8
    have hb10 := sub_Stamp_Fact hr6
    refine q1 Y (D_ix (l := a) (j := k) s_23 Y Y Y (fun w' hs => (rA hs h_a)) Y (lS hr0)) (q1 Y (lra a_84 Y Y at5) (p1 Y (li Y (cv b_37 Y Y Y Y (fun w' hs => (laws_szStamp (rA hs hr6) (by first | assumption | omega | (unfold szm at *; split at * <;> omega)) (by first | assumption | omega | (unfold szm at *; split at * <;> omega)) hro)) ?_))))
    refine Pe Y (Sr (P2 Y Y (Dx (Ci _ Y (fun h11 => ?_) (fun h11 => ?_)))))
    ·have pr11 := odT h11
     refine Sr (Pe Y (Ct (Xq (Xr (Xr (Xq (Xr (Ri Y Y ?_))))))))
     show ((-1) : Int) = _
     refine (szm_neg ?_).symm; unfold szL; unfold szm at *; split at * <;> omega
    ·have pr11 := odF h11
     have pr11z := szm_val pr11
     refine Ck (Xb (Xt (Cr (p1 Y (q1 Y (D_add Y Y Y (r := ((k + 1 : Nat) : Int)) (by omega) (by omega)) (Pe Y (fun ac w' hf hs => ⟨_, ?_, k + 1, (szm (szStamp r0) lf), ?_, ?_, Y, hf.wk Y, hs⟩)))))))
     ·omega
     ·first | assumption | omega | simp
     ·rw [hst]; unfold szm at *; split at * <;> omega
   ·have pr3 := odF h3
    refine Cx (Xx (Xx (Xe (Xt (Sr (P2 Y Y (Dx (Ct (Ri Y Y ?_)))))))))
    show (lf : Int) = _
    rw [szm_pos]; all_goals (unfold szL; rw [List.take_of_length_le (by omega)] at hl; omega)
theorem laws_toStampS {w : World} {v_a : Value} {a : (List Stamp)} (h_a : Gd.rd w [v_a] a) (hn : szL szStamp a ≤ 1048576) : Calls Tryz.prog 11 [v_a].toArray w (Res w (a : List Stamp)) := by
 have hm1 := rd_max h_a
 unfold szL at hn
 refine enter 23 Tryz.func11 Y Y Y (Sr (Pe Y (Sr (p1 Y (q1 Y (Dl s_23 Y Y (rd_sl h_a)) (li Y (D_mkG (α := Stamp) (z0 := z0_Stamp) s_42 y_100 Y Y Y Y Y Y zz_Stamp (by omega) (by omega) fun v2 => ?_)))))))
 refine Pe Y (Dh ([ov [v2] (List.replicate a.length z0_Stamp : (List Stamp))]) Y (Cq (Sr (Pe Y (Cb (Cl (fun m_ ac w' => ∃ (k : Nat), ∃ (v : Value), (k ≤ a.length) ∧ m_ = a.length - k ∧ Fits ac 23 [(0, v_a), (3, v), (4, (nv k))] ∧ St w ([ov [v] (cp a z0_Stamp k : (List Stamp))]) w') ?_ ?_))))))
 ·refine D_eq 0 Y (show (List.replicate a.length z0_Stamp : (List Stamp)) = cp a z0_Stamp 0 from by rw [cp_zero]) (fun ac w' hf hs => ⟨_, 0, v2, ?_, Y, hf.wk Y, hs⟩)
  ·first | assumption | omega | simp
 ·rintro m_ ac w' ⟨k, v, hk, rfl, hf, hs⟩
  refine D.use ?_ hf hs
  clear hf hs ac w'
  have hcl := cp_len a z0_Stamp k hk
  refine Cq (Sr (P2 Y Y (q1 Y (Dl s_23 Y Y (rd_sl h_a)) (Pe Y (Dh ([_]) Y (Ci _ Y (fun h3 => ?_) (fun h3 => ?_)))))))
  ·have pr3 := odT h3
   refine Sk (Cq (Cb (Cr (P3 Y Y Y (p1 Y ?_)))))
   obtain ⟨x4, hx5⟩ := sL (l := a) (i := k) (by omega)
   have hle := sumC_mem (c := szStamp) (mem_idx hx5)
   obtain ⟨es6, at7, hr8⟩ := rd_elem (n := 3) rfl h_a hx5
   obtain ⟨u9, rfl, hu10⟩ := open_Stamp hr8
   have hm11 := rd_max hu10
   have hb12 := sub_Stamp_Fact hr8
   refine q1 Y (D_ix (l := a) (j := k) s_23 Y Y Y (fun w' hs => (rA hs h_a)) Y (lS hx5)) (q1 Y (lra a_84 Y Y at7) (li Y (crs Y b_48 Y Y Y Y (fun w' hs => (laws_toStamp (rA hs hr8) (by first | assumption | omega | (unfold szm at *; split at * <;> omega)))) fun cs13 => ?_)))
   refine Dp (fun w' hs => shape_Stamp (rO (k := 0) hs Y)) ?_
   rintro ⟨v14, rfl, ho15⟩
   obtain ⟨x16, hx17⟩ := sL (l := (cp a z0_Stamp k)) (i := k) (by omega)
   refine q1 Y (D_ix (l := (cp a z0_Stamp k)) (j := k) s_42 Y Y Y (fun w' hs => (rO (k := 1) hs Y)) Y (lS hx17)) (D_pkO [1, 0] Y (li Y (soG (α := Stamp) Y z_100 Y Y Y Y Y (lS hx17) ?_)))
   refine De (Xb (Xt (Dh ([ov [v] ((cp a z0_Stamp k).set k x4 : (List Stamp))]) Y (Cr (p1 Y (q1 Y (D_add Y Y Y (r := ((k + 1 : Nat) : Int)) (by omega) (by omega)) (Pe Y (D_eq 0 Y (show ((cp a z0_Stamp k).set k x4 : (List Stamp)) = cp a z0_Stamp (k + 1) from by rw [cp_set (by assumption)]) (fun ac w' hf hs => ⟨_, ?_, k + 1, v, ?_, Y, hf.wk Y, hs⟩)))))))))
   ·omega
   ·first | assumption | omega | simp
  ·have pr3 := odF h3
   refine Cx (Xx (Xx (Xe (Xt (Sr (P2 Y Y (Dx (Ct (R_1 Y Y fun w' hs => res_of (k := 0) hs Y ?_)))))))))
   show cp a z0_Stamp k = a
   exact cp_done (by omega)
theorem laws_eqStampS {w : World} {v_a : Value} {a : (List Stamp)} {v_b : Value} {b : (List Stamp)} (h_a : Gd.rd w [v_a] a) (h_b : Gd.rd w [v_b] b) : Calls Tryz.prog 16 [v_a, v_b].toArray w (Val w (.bool (decide (a = b)))) := by
 have hm1 := rd_max h_a
 have hm2 := rd_max h_b
 refine enter 27 Tryz.func16 Y Y Y (Sr (Pe Y (Cq (Sr (p1 Y (q1 Y (Dl s_42 Y Y (rd_sl h_a)) (p1 Y (q1 Y (Dl s_42 Y Y (rd_sl h_b)) (Pe Y (Ci _ Y (fun h3 => ?_) (fun h3 => ?_)))))))))))
 ·have pr3 := bne_iff_ne.1 h3
  refine Sr (Pe Y (Ct (Xr (Rb Y Y ?_))))
  simp; intro e; subst e; simp_all
 ·have pr3 := eq_of_bne_f h3
  refine Sk (Cq (Sr (Pe Y (Cb (Cl (fun m_ ac w' => ∃ (k : Nat), (k ≤ a.length) ∧ (∀ i, i < k → a[i]? = b[i]?) ∧ m_ = a.length - k ∧ Fits ac 27 [(0, v_a), (1, v_b), (5, (nv k))] ∧ St w ([]) w') ?_ ?_)))))
  ·refine fun ac w' hf hs => ⟨_, 0, ?_, ?_, Y, hf.wk Y, hs⟩
   ·first | assumption | omega | simp
   ·intro i hi; omega
  ·rintro m_ ac w' ⟨k, hk, hi, rfl, hf, hs⟩
   refine D.use ?_ hf hs
   clear hf hs ac w'
   refine Cq (Sr (P2 Y Y (q1 Y (Dl s_42 Y Y (rd_sl h_a)) (Pe Y (Ci _ Y (fun h4 => ?_) (fun h4 => ?_))))))
   ·have pr4 := odT h4
    refine Sk (Cq (Cb (Cq (C_draw mixed [8, 9] (by kernel_rfl) (Tk 0 Y (by kernel_rfl) Y (rp Y) (Tk 1 Y (by kernel_rfl) Y (rp Y) ?_))))))
    obtain ⟨x5, hx6⟩ := sL (l := a) (i := k) (by omega)
    obtain ⟨es7, at8, hr9⟩ := rd_elem (n := 3) rfl h_a hx6
    obtain ⟨u10, rfl, hu11⟩ := open_Stamp hr9
    have hm12 := rd_max hu11
    have hb13 := sub_Stamp_Fact hr9
    refine Tk 2 Y (by kernel_rfl) Y (D_ix (l := a) (j := k) s_42 Y Y Y (fun w' hs => (rA hs h_a)) Y (lS hx6)) (Tk 3 Y (by kernel_rfl) Y (lra a_100 Y Y at8) (Tk 4 Y (by kernel_rfl) Y (rp Y) (Tk 5 Y (by kernel_rfl) Y (rp Y) ?_)))
    obtain ⟨x14, hx15⟩ := sL (l := b) (i := k) (by omega)
    obtain ⟨es16, at17, hr18⟩ := rd_elem (n := 3) rfl h_b hx15
    obtain ⟨u19, rfl, hu20⟩ := open_Stamp hr18
    have hm21 := rd_max hu20
    have hb22 := sub_Stamp_Fact hr18
    refine Tk 6 Y (by kernel_rfl) Y (D_ix (l := b) (j := k) s_42 Y Y Y (fun w' hs => (rA hs h_b)) Y (lS hx15)) (Tk 7 Y (by kernel_rfl) Y (lra a_100 Y Y at17) (ty 8 Y (by kernel_rfl) Y (cv b_56 Y Y Y Y (fun w' hs => (laws_eqStamp (rA hs hr9) (rA hs hr18))) ?_)))
    refine tZ Y (ty 9 Y (by kernel_rfl) Y (sv Y Y (rp Y) ?_))
    refine tZ Y (tE (by kernel_rfl) (Xt (Ci _ Y (fun h23 => ?_) (fun h23 => ?_))))
    ·have h23n := not_t h23
     refine Sr (Pe Y (Ct (Xq (Xr (Xr (Xq (Xr (Rb Y Y ?_))))))))
     simp; intro e; subst e; simp_all
    ·have h23n := not_f h23
     refine Ck (Xb (Xt (Cr (p1 Y (q1 Y (D_add Y Y Y (r := ((k + 1 : Nat) : Int)) (by omega) (by omega)) (Pe Y (fun ac w' hf hs => ⟨_, ?_, k + 1, ?_, ?_, Y, hf.wk Y, hs⟩)))))))
     ·omega
     ·first | assumption | omega | simp
     ·refine idx_step hi (by assumption) (by assumption) ?_; first | (simp_all; done) | (apply Fact.mk_eq <;> simp_all)
   ·have pr4 := odF h4
    refine Cx (Xx (Xx (Xe (Xt (Sr (Pe Y (Ct (Rb Y Y ?_))))))))
    simp; exact eq_of_idx (by omega) (fun i h => hi i (by omega))
theorem laws_szFiringS {w : World} {v_a : Value} {a : (List Firing)} {left : Int} (h_a : Gd.rd w [v_a] a) (h0 : 0 ≤ left) (h1 : left ≤ 1048576) (ho : okL okFiring a) : Calls Tryz.prog 68 [v_a, (iv left)].toArray w (Val w (iv (szm (szL szFiring a) left))) := by
 have hm1 := rd_max h_a
 refine enter 27 Tryz.func68 Y Y Y (Sr (Pe Y (Sr (P2 Y Y (q1 Y (Dl s_54 Y Y (rd_sl h_a)) (q1 Y (D_sub Y Y Y Y (by omega)) (Pe Y (Cq (Sr (P2 Y Y (Dx (Ci _ Y (fun h2 => ?_) (fun h2 => ?_)))))))))))))
 ·have pr2 := odT h2
  refine Sr (Pe Y (Ct (Xr (Ri Y Y ?_))))
  show ((-1) : Int) = _
  refine (szm_neg ?_).symm; unfold szL; omega
 ·have pr2 := odF h2
  refine Sk (Cq (Sr (Pe Y (Cb (Cl (fun m_ ac w' => ∃ (k : Nat), ∃ (lf : Int), (k ≤ a.length) ∧ (0 ≤ lf ∧ lf = left - a.length - sumC szFiring (a.take k)) ∧ m_ = a.length - k ∧ Fits ac 27 [(0, v_a), (1, (iv lf)), (5, (nv k))] ∧ St w ([]) w') ?_ ?_)))))
  ·refine fun ac w' hf hs => ⟨_, 0, (left - ((a.length : Nat) : Int)), ?_, ?_, Y, hf.wk Y, hs⟩
   ·first | assumption | omega | simp
   ·simp [sumC]; omega
  ·rintro m_ ac w' ⟨k, lf, hk, hl, rfl, hf, hs⟩
   refine D.use ?_ hf hs
   clear hf hs ac w'
   have ht := sumC_take_le a szFiring k
   refine Cq (Sr (P2 Y Y (q1 Y (Dl s_54 Y Y (rd_sl h_a)) (Pe Y (Ci _ Y (fun h3 => ?_) (fun h3 => ?_))))))
   ·have pr3 := odT h3
    refine Sk (Cq (Cb (Sr (P2 Y Y ?_))))
    obtain ⟨r0, hr0⟩ := sL (l := a) (i := k) (by omega)
    have hro := ho _ (List.mem_of_getElem? hr0)
    have ht1 := sumC_take_le a szFiring (k + 1)
    have hst := sumC_take (c := szFiring) hr0
    obtain ⟨es4, at5, hr6⟩ := rd_elem (n := 2) rfl h_a hr0
    obtain ⟨u7, rfl, hu8⟩ := open_Firing hr6
    have hm9 := rd_max hu8
    refine q1 Y (D_ix (l := a) (j := k) s_54 Y Y Y (fun w' hs => (rA hs h_a)) Y (lS hr0)) (q1 Y (lra a_162 Y Y at5) (p1 Y (li Y (cv b_120 Y Y Y Y (fun w' hs => (laws_szFiring (rA hs hr6) (by first | assumption | omega | (unfold szm at *; split at * <;> omega)) (by first | assumption | omega | (unfold szm at *; split at * <;> omega)) hro)) ?_))))
    refine Pe Y (Sr (P2 Y Y (Dx (Ci _ Y (fun h10 => ?_) (fun h10 => ?_)))))
    ·have pr10 := odT h10
     refine Sr (Pe Y (Ct (Xq (Xr (Xr (Xq (Xr (Ri Y Y ?_))))))))
     show ((-1) : Int) = _
     refine (szm_neg ?_).symm; unfold szL; unfold szm at *; split at * <;> omega
    ·have pr10 := odF h10
     have pr10z := szm_val pr10
     refine Ck (Xb (Xt (Cr (p1 Y (q1 Y (D_add Y Y Y (r := ((k + 1 : Nat) : Int)) (by omega) (by omega)) (Pe Y (fun ac w' hf hs => ⟨_, ?_, k + 1, (szm (szFiring r0) lf), ?_, ?_, Y, hf.wk Y, hs⟩)))))))
     ·omega
     ·first | assumption | omega | simp
     ·rw [hst]; unfold szm at *; split at * <;> omega
   ·have pr3 := odF h3
    refine Cx (Xx (Xx (Xe (Xt (Sr (P2 Y Y (Dx (Ct (Ri Y Y ?_)))))))))
    show (lf : Int) = _
    rw [szm_pos]; all_goals (unfold szL; rw [List.take_of_length_le (by omega)] at hl; omega)
theorem laws_toFiringS {w : World} {v_a : Value} {a : (List Firing)} (h_a : Gd.rd w [v_a] a) (hn : szL szFiring a ≤ 1048576) : Calls Tryz.prog 75 [v_a].toArray w (Res w (a : List Firing)) := by
 have hm1 := rd_max h_a
 unfold szL at hn
 refine enter 23 Tryz.func75 Y Y Y (Sr (Pe Y (Sr (p1 Y (q1 Y (Dl s_54 Y Y (rd_sl h_a)) (li Y (D_mkG (α := Firing) (z0 := z0_Firing) s_63 y_168 Y Y Y Y Y Y zz_Firing (by omega) (by omega) fun v2 => ?_)))))))
 refine Pe Y (Dh ([ov [v2] (List.replicate a.length z0_Firing : (List Firing))]) Y (Cq (Sr (Pe Y (Cb (Cl (fun m_ ac w' => ∃ (k : Nat), ∃ (v : Value), (k ≤ a.length) ∧ m_ = a.length - k ∧ Fits ac 23 [(0, v_a), (3, v), (4, (nv k))] ∧ St w ([ov [v] (cp a z0_Firing k : (List Firing))]) w') ?_ ?_))))))
 ·refine D_eq 0 Y (show (List.replicate a.length z0_Firing : (List Firing)) = cp a z0_Firing 0 from by rw [cp_zero]) (fun ac w' hf hs => ⟨_, 0, v2, ?_, Y, hf.wk Y, hs⟩)
  ·first | assumption | omega | simp
 ·rintro m_ ac w' ⟨k, v, hk, rfl, hf, hs⟩
  refine D.use ?_ hf hs
  clear hf hs ac w'
  have hcl := cp_len a z0_Firing k hk
  refine Cq (Sr (P2 Y Y (q1 Y (Dl s_54 Y Y (rd_sl h_a)) (Pe Y (Dh ([_]) Y (Ci _ Y (fun h3 => ?_) (fun h3 => ?_)))))))
  ·have pr3 := odT h3
   refine Sk (Cq (Cb (Cr (P3 Y Y Y (p1 Y ?_)))))
   obtain ⟨x4, hx5⟩ := sL (l := a) (i := k) (by omega)
   have hle := sumC_mem (c := szFiring) (mem_idx hx5)
   obtain ⟨es6, at7, hr8⟩ := rd_elem (n := 2) rfl h_a hx5
   obtain ⟨u9, rfl, hu10⟩ := open_Firing hr8
   have hm11 := rd_max hu10
   refine q1 Y (D_ix (l := a) (j := k) s_54 Y Y Y (fun w' hs => (rA hs h_a)) Y (lS hx5)) (q1 Y (lra a_162 Y Y at7) (li Y (crs Y b_129 Y Y Y Y (fun w' hs => (laws_toFiring (rA hs hr8) (by first | assumption | omega | (unfold szm at *; split at * <;> omega)))) fun cs12 => ?_)))
   refine Dp (fun w' hs => shape_Firing (rO (k := 0) hs Y)) ?_
   rintro ⟨v13, rfl, ho14⟩
   obtain ⟨x15, hx16⟩ := sL (l := (cp a z0_Firing k)) (i := k) (by omega)
   refine q1 Y (D_ix (l := (cp a z0_Firing k)) (j := k) s_63 Y Y Y (fun w' hs => (rO (k := 1) hs Y)) Y (lS hx16)) (D_pkO [1, 0] Y (li Y (soG (α := Firing) Y z_168 Y Y Y Y Y (lS hx16) ?_)))
   refine De (Xb (Xt (Dh ([ov [v] ((cp a z0_Firing k).set k x4 : (List Firing))]) Y (Cr (p1 Y (q1 Y (D_add Y Y Y (r := ((k + 1 : Nat) : Int)) (by omega) (by omega)) (Pe Y (D_eq 0 Y (show ((cp a z0_Firing k).set k x4 : (List Firing)) = cp a z0_Firing (k + 1) from by rw [cp_set (by assumption)]) (fun ac w' hf hs => ⟨_, ?_, k + 1, v, ?_, Y, hf.wk Y, hs⟩)))))))))
   ·omega
   ·first | assumption | omega | simp
  ·have pr3 := odF h3
   refine Cx (Xx (Xx (Xe (Xt (Sr (P2 Y Y (Dx (Ct (R_1 Y Y fun w' hs => res_of (k := 0) hs Y ?_)))))))))
   show cp a z0_Firing k = a
   exact cp_done (by omega)
theorem laws_eqFiringS {w : World} {v_a : Value} {a : (List Firing)} {v_b : Value} {b : (List Firing)} (h_a : Gd.rd w [v_a] a) (h_b : Gd.rd w [v_b] b) : Calls Tryz.prog 82 [v_a, v_b].toArray w (Val w (.bool (decide (a = b)))) := by
 have hm1 := rd_max h_a
 have hm2 := rd_max h_b
 refine enter 27 Tryz.func82 Y Y Y (Sr (Pe Y (Cq (Sr (p1 Y (q1 Y (Dl s_63 Y Y (rd_sl h_a)) (p1 Y (q1 Y (Dl s_63 Y Y (rd_sl h_b)) (Pe Y (Ci _ Y (fun h3 => ?_) (fun h3 => ?_)))))))))))
 ·have pr3 := bne_iff_ne.1 h3
  refine Sr (Pe Y (Ct (Xr (Rb Y Y ?_))))
  simp; intro e; subst e; simp_all
 ·have pr3 := eq_of_bne_f h3
  refine Sk (Cq (Sr (Pe Y (Cb (Cl (fun m_ ac w' => ∃ (k : Nat), (k ≤ a.length) ∧ (∀ i, i < k → a[i]? = b[i]?) ∧ m_ = a.length - k ∧ Fits ac 27 [(0, v_a), (1, v_b), (5, (nv k))] ∧ St w ([]) w') ?_ ?_)))))
  ·refine fun ac w' hf hs => ⟨_, 0, ?_, ?_, Y, hf.wk Y, hs⟩
   ·first | assumption | omega | simp
   ·intro i hi; omega
  ·rintro m_ ac w' ⟨k, hk, hi, rfl, hf, hs⟩
   refine D.use ?_ hf hs
   clear hf hs ac w'
   refine Cq (Sr (P2 Y Y (q1 Y (Dl s_63 Y Y (rd_sl h_a)) (Pe Y (Ci _ Y (fun h4 => ?_) (fun h4 => ?_))))))
   ·have pr4 := odT h4
    refine Sk (Cq (Cb (Cq (C_draw mixed [8, 9] (by kernel_rfl) (Tk 0 Y (by kernel_rfl) Y (rp Y) (Tk 1 Y (by kernel_rfl) Y (rp Y) ?_))))))
    obtain ⟨x5, hx6⟩ := sL (l := a) (i := k) (by omega)
    obtain ⟨es7, at8, hr9⟩ := rd_elem (n := 2) rfl h_a hx6
    obtain ⟨u10, rfl, hu11⟩ := open_Firing hr9
    have hm12 := rd_max hu11
    refine Tk 2 Y (by kernel_rfl) Y (D_ix (l := a) (j := k) s_63 Y Y Y (fun w' hs => (rA hs h_a)) Y (lS hx6)) (Tk 3 Y (by kernel_rfl) Y (lra a_168 Y Y at8) (Tk 4 Y (by kernel_rfl) Y (rp Y) (Tk 5 Y (by kernel_rfl) Y (rp Y) ?_)))
    obtain ⟨x13, hx14⟩ := sL (l := b) (i := k) (by omega)
    obtain ⟨es15, at16, hr17⟩ := rd_elem (n := 2) rfl h_b hx14
    obtain ⟨u18, rfl, hu19⟩ := open_Firing hr17
    have hm20 := rd_max hu19
    refine Tk 6 Y (by kernel_rfl) Y (D_ix (l := b) (j := k) s_63 Y Y Y (fun w' hs => (rA hs h_b)) Y (lS hx14)) (Tk 7 Y (by kernel_rfl) Y (lra a_168 Y Y at16) (ty 8 Y (by kernel_rfl) Y (cv b_140 Y Y Y Y (fun w' hs => (laws_eqFiring (rA hs hr9) (rA hs hr17))) ?_)))
    refine tZ Y (ty 9 Y (by kernel_rfl) Y (sv Y Y (rp Y) ?_))
    refine tZ Y (tE (by kernel_rfl) (Xt (Ci _ Y (fun h21 => ?_) (fun h21 => ?_))))
    ·have h21n := not_t h21
     refine Sr (Pe Y (Ct (Xq (Xr (Xr (Xq (Xr (Rb Y Y ?_))))))))
     simp; intro e; subst e; simp_all
    ·have h21n := not_f h21
     refine Ck (Xb (Xt (Cr (p1 Y (q1 Y (D_add Y Y Y (r := ((k + 1 : Nat) : Int)) (by omega) (by omega)) (Pe Y (fun ac w' hf hs => ⟨_, ?_, k + 1, ?_, ?_, Y, hf.wk Y, hs⟩)))))))
     ·omega
     ·first | assumption | omega | simp
     ·refine idx_step hi (by assumption) (by assumption) ?_; first | (simp_all; done) | (apply Fact.mk_eq <;> simp_all)
   ·have pr4 := odF h4
    refine Cx (Xx (Xx (Xe (Xt (Sr (Pe Y (Ct (Rb Y Y ?_))))))))
    simp; exact eq_of_idx (by omega) (fun i h => hi i (by omega))
theorem laws_szEventS {w : World} {v_a : Value} {a : (List Event)} {left : Int} (h_a : Gd.rd w [v_a] a) (h0 : 0 ≤ left) (h1 : left ≤ 1048576) (ho : okL okEv a) : Calls Tryz.prog 69 [v_a, (iv left)].toArray w (Val w (iv (szm (szL szEv a) left))) := by
 have hm1 := rd_max h_a
 refine enter 27 Tryz.func69 Y Y Y (Sr (Pe Y (Sr (P2 Y Y (q1 Y (Dl s_55 Y Y (rd_sl h_a)) (q1 Y (D_sub Y Y Y Y (by omega)) (Pe Y (Cq (Sr (P2 Y Y (Dx (Ci _ Y (fun h2 => ?_) (fun h2 => ?_)))))))))))))
 ·have pr2 := odT h2
  refine Sr (Pe Y (Ct (Xr (Ri Y Y ?_))))
  show ((-1) : Int) = _
  refine (szm_neg ?_).symm; unfold szL; omega
 ·have pr2 := odF h2
  refine Sk (Cq (Sr (Pe Y (Cb (Cl (fun m_ ac w' => ∃ (k : Nat), ∃ (lf : Int), (k ≤ a.length) ∧ (0 ≤ lf ∧ lf = left - a.length - sumC szEv (a.take k)) ∧ m_ = a.length - k ∧ Fits ac 27 [(0, v_a), (1, (iv lf)), (5, (nv k))] ∧ St w ([]) w') ?_ ?_)))))
  ·refine fun ac w' hf hs => ⟨_, 0, (left - ((a.length : Nat) : Int)), ?_, ?_, Y, hf.wk Y, hs⟩
   ·first | assumption | omega | simp
   ·simp [sumC]; omega
  ·rintro m_ ac w' ⟨k, lf, hk, hl, rfl, hf, hs⟩
   refine D.use ?_ hf hs
   clear hf hs ac w'
   have ht := sumC_take_le a szEv k
   refine Cq (Sr (P2 Y Y (q1 Y (Dl s_55 Y Y (rd_sl h_a)) (Pe Y (Ci _ Y (fun h3 => ?_) (fun h3 => ?_))))))
   ·have pr3 := odT h3
    refine Sk (Cq (Cb (Sr (P2 Y Y ?_))))
    obtain ⟨r0, hr0⟩ := sL (l := a) (i := k) (by omega)
    have hro := ho _ (List.mem_of_getElem? hr0)
    have ht1 := sumC_take_le a szEv (k + 1)
    have hst := sumC_take (c := szEv) hr0
    obtain ⟨es4, at5, hr6⟩ := rd_elem (n := 4) rfl h_a hr0
    obtain ⟨u7, rfl, hu8⟩ := open_Event hr6
    have hm9 := rd_max hu8
    have hb10 := sub_Event_Fact hr6
    refine q1 Y (D_ix (l := a) (j := k) s_55 Y Y Y (fun w' hs => (rA hs h_a)) Y (lS hr0)) (q1 Y (lra a_165 Y Y at5) (p1 Y (li Y (cv b_121 Y Y Y Y (fun w' hs => (laws_szEvent (rA hs hr6) (by first | assumption | omega | (unfold szm at *; split at * <;> omega)) (by first | assumption | omega | (unfold szm at *; split at * <;> omega)) hro)) ?_))))
    refine Pe Y (Sr (P2 Y Y (Dx (Ci _ Y (fun h11 => ?_) (fun h11 => ?_)))))
    ·have pr11 := odT h11
     refine Sr (Pe Y (Ct (Xq (Xr (Xr (Xq (Xr (Ri Y Y ?_))))))))
     show ((-1) : Int) = _
     refine (szm_neg ?_).symm; unfold szL; unfold szm at *; split at * <;> omega
    ·have pr11 := odF h11
     have pr11z := szm_val pr11
     refine Ck (Xb (Xt (Cr (p1 Y (q1 Y (D_add Y Y Y (r := ((k + 1 : Nat) : Int)) (by omega) (by omega)) (Pe Y (fun ac w' hf hs => ⟨_, ?_, k + 1, (szm (szEv r0) lf), ?_, ?_, Y, hf.wk Y, hs⟩)))))))
     ·omega
     ·first | assumption | omega | simp
     ·rw [hst]; unfold szm at *; split at * <;> omega
   ·have pr3 := odF h3
    refine Cx (Xx (Xx (Xe (Xt (Sr (P2 Y Y (Dx (Ct (Ri Y Y ?_)))))))))
    show (lf : Int) = _
    rw [szm_pos]; all_goals (unfold szL; rw [List.take_of_length_le (by omega)] at hl; omega)
theorem laws_toEventS {w : World} {v_a : Value} {a : (List Event)} (h_a : Gd.rd w [v_a] a) (hn : szL szEv a ≤ 1048576) : Calls Tryz.prog 76 [v_a].toArray w (Res w (a : List Event)) := by
 have hm1 := rd_max h_a
 unfold szL at hn
 refine enter 23 Tryz.func76 Y Y Y (Sr (Pe Y (Sr (p1 Y (q1 Y (Dl s_55 Y Y (rd_sl h_a)) (li Y (D_mkG (α := Event) (z0 := z0_Event) s_64 y_171 Y Y Y Y Y Y zz_Event (by omega) (by omega) fun v2 => ?_)))))))
 refine Pe Y (Dh ([ov [v2] (List.replicate a.length z0_Event : (List Event))]) Y (Cq (Sr (Pe Y (Cb (Cl (fun m_ ac w' => ∃ (k : Nat), ∃ (v : Value), (k ≤ a.length) ∧ m_ = a.length - k ∧ Fits ac 23 [(0, v_a), (3, v), (4, (nv k))] ∧ St w ([ov [v] (cp a z0_Event k : (List Event))]) w') ?_ ?_))))))
 ·refine D_eq 0 Y (show (List.replicate a.length z0_Event : (List Event)) = cp a z0_Event 0 from by rw [cp_zero]) (fun ac w' hf hs => ⟨_, 0, v2, ?_, Y, hf.wk Y, hs⟩)
  ·first | assumption | omega | simp
 ·rintro m_ ac w' ⟨k, v, hk, rfl, hf, hs⟩
  refine D.use ?_ hf hs
  clear hf hs ac w'
  have hcl := cp_len a z0_Event k hk
  refine Cq (Sr (P2 Y Y (q1 Y (Dl s_55 Y Y (rd_sl h_a)) (Pe Y (Dh ([_]) Y (Ci _ Y (fun h3 => ?_) (fun h3 => ?_)))))))
  ·have pr3 := odT h3
   refine Sk (Cq (Cb (Cr (P3 Y Y Y (p1 Y ?_)))))
   obtain ⟨x4, hx5⟩ := sL (l := a) (i := k) (by omega)
   have hle := sumC_mem (c := szEv) (mem_idx hx5)
   obtain ⟨es6, at7, hr8⟩ := rd_elem (n := 4) rfl h_a hx5
   obtain ⟨u9, rfl, hu10⟩ := open_Event hr8
   have hm11 := rd_max hu10
   have hb12 := sub_Event_Fact hr8
   refine q1 Y (D_ix (l := a) (j := k) s_55 Y Y Y (fun w' hs => (rA hs h_a)) Y (lS hx5)) (q1 Y (lra a_165 Y Y at7) (li Y (crs Y b_130 Y Y Y Y (fun w' hs => (laws_toEvent (rA hs hr8) (by first | assumption | omega | (unfold szm at *; split at * <;> omega)))) fun cs13 => ?_)))
   refine Dp (fun w' hs => shape_Event (rO (k := 0) hs Y)) ?_
   rintro ⟨v14, rfl, ho15⟩
   obtain ⟨x16, hx17⟩ := sL (l := (cp a z0_Event k)) (i := k) (by omega)
   refine q1 Y (D_ix (l := (cp a z0_Event k)) (j := k) s_64 Y Y Y (fun w' hs => (rO (k := 1) hs Y)) Y (lS hx17)) (D_pkO [1, 0] Y (li Y (soG (α := Event) Y z_171 Y Y Y Y Y (lS hx17) ?_)))
   refine De (Xb (Xt (Dh ([ov [v] ((cp a z0_Event k).set k x4 : (List Event))]) Y (Cr (p1 Y (q1 Y (D_add Y Y Y (r := ((k + 1 : Nat) : Int)) (by omega) (by omega)) (Pe Y (D_eq 0 Y (show ((cp a z0_Event k).set k x4 : (List Event)) = cp a z0_Event (k + 1) from by rw [cp_set (by assumption)]) (fun ac w' hf hs => ⟨_, ?_, k + 1, v, ?_, Y, hf.wk Y, hs⟩)))))))))
   ·omega
   ·first | assumption | omega | simp
  ·have pr3 := odF h3
   refine Cx (Xx (Xx (Xe (Xt (Sr (P2 Y Y (Dx (Ct (R_1 Y Y fun w' hs => res_of (k := 0) hs Y ?_)))))))))
   show cp a z0_Event k = a
   exact cp_done (by omega)
theorem laws_eqEventS {w : World} {v_a : Value} {a : (List Event)} {v_b : Value} {b : (List Event)} (h_a : Gd.rd w [v_a] a) (h_b : Gd.rd w [v_b] b) : Calls Tryz.prog 83 [v_a, v_b].toArray w (Val w (.bool (decide (a = b)))) := by
 have hm1 := rd_max h_a
 have hm2 := rd_max h_b
 refine enter 27 Tryz.func83 Y Y Y (Sr (Pe Y (Cq (Sr (p1 Y (q1 Y (Dl s_64 Y Y (rd_sl h_a)) (p1 Y (q1 Y (Dl s_64 Y Y (rd_sl h_b)) (Pe Y (Ci _ Y (fun h3 => ?_) (fun h3 => ?_)))))))))))
 ·have pr3 := bne_iff_ne.1 h3
  refine Sr (Pe Y (Ct (Xr (Rb Y Y ?_))))
  simp; intro e; subst e; simp_all
 ·have pr3 := eq_of_bne_f h3
  refine Sk (Cq (Sr (Pe Y (Cb (Cl (fun m_ ac w' => ∃ (k : Nat), (k ≤ a.length) ∧ (∀ i, i < k → a[i]? = b[i]?) ∧ m_ = a.length - k ∧ Fits ac 27 [(0, v_a), (1, v_b), (5, (nv k))] ∧ St w ([]) w') ?_ ?_)))))
  ·refine fun ac w' hf hs => ⟨_, 0, ?_, ?_, Y, hf.wk Y, hs⟩
   ·first | assumption | omega | simp
   ·intro i hi; omega
  ·rintro m_ ac w' ⟨k, hk, hi, rfl, hf, hs⟩
   refine D.use ?_ hf hs
   clear hf hs ac w'
   refine Cq (Sr (P2 Y Y (q1 Y (Dl s_64 Y Y (rd_sl h_a)) (Pe Y (Ci _ Y (fun h4 => ?_) (fun h4 => ?_))))))
   ·have pr4 := odT h4
    refine Sk (Cq (Cb (Cq (C_draw mixed [8, 9] (by kernel_rfl) (Tk 0 Y (by kernel_rfl) Y (rp Y) (Tk 1 Y (by kernel_rfl) Y (rp Y) ?_))))))
    obtain ⟨x5, hx6⟩ := sL (l := a) (i := k) (by omega)
    obtain ⟨es7, at8, hr9⟩ := rd_elem (n := 4) rfl h_a hx6
    obtain ⟨u10, rfl, hu11⟩ := open_Event hr9
    have hm12 := rd_max hu11
    have hb13 := sub_Event_Fact hr9
    refine Tk 2 Y (by kernel_rfl) Y (D_ix (l := a) (j := k) s_64 Y Y Y (fun w' hs => (rA hs h_a)) Y (lS hx6)) (Tk 3 Y (by kernel_rfl) Y (lra a_171 Y Y at8) (Tk 4 Y (by kernel_rfl) Y (rp Y) (Tk 5 Y (by kernel_rfl) Y (rp Y) ?_)))
    obtain ⟨x14, hx15⟩ := sL (l := b) (i := k) (by omega)
    obtain ⟨es16, at17, hr18⟩ := rd_elem (n := 4) rfl h_b hx15
    obtain ⟨u19, rfl, hu20⟩ := open_Event hr18
    have hm21 := rd_max hu20
    have hb22 := sub_Event_Fact hr18
    refine Tk 6 Y (by kernel_rfl) Y (D_ix (l := b) (j := k) s_64 Y Y Y (fun w' hs => (rA hs h_b)) Y (lS hx15)) (Tk 7 Y (by kernel_rfl) Y (lra a_171 Y Y at17) (ty 8 Y (by kernel_rfl) Y (cv b_141 Y Y Y Y (fun w' hs => (laws_eqEvent (rA hs hr9) (rA hs hr18))) ?_)))
    refine tZ Y (ty 9 Y (by kernel_rfl) Y (sv Y Y (rp Y) ?_))
    refine tZ Y (tE (by kernel_rfl) (Xt (Ci _ Y (fun h23 => ?_) (fun h23 => ?_))))
    ·have h23n := not_t h23
     refine Sr (Pe Y (Ct (Xq (Xr (Xr (Xq (Xr (Rb Y Y ?_))))))))
     simp; intro e; subst e; simp_all
    ·have h23n := not_f h23
     refine Ck (Xb (Xt (Cr (p1 Y (q1 Y (D_add Y Y Y (r := ((k + 1 : Nat) : Int)) (by omega) (by omega)) (Pe Y (fun ac w' hf hs => ⟨_, ?_, k + 1, ?_, ?_, Y, hf.wk Y, hs⟩)))))))
     ·omega
     ·first | assumption | omega | simp
     ·refine idx_step hi (by assumption) (by assumption) ?_; first | (simp_all; done) | (apply Fact.mk_eq <;> simp_all)
   ·have pr4 := odF h4
    refine Cx (Xx (Xx (Xe (Xt (Sr (Pe Y (Ct (Rb Y Y ?_))))))))
    simp; exact eq_of_idx (by omega) (fun i h => hi i (by omega))
theorem laws_szEngine {w : World} {c_a : List Value} {a : Engine} {left : Int} (h_a : Gd.rd w c_a a) (h0 : 0 ≤ left) (h1 : left ≤ 1048576) (ho : okEngine a) : Calls Tryz.prog 23 [(.agg c_a.toArray), (iv left)].toArray w (Val w (iv (szm (szEngine a) left))) := by
 obtain ⟨u1, u3, u5, u7, rfl, hu2, hu4, hu6, hu8⟩ := open_Engine h_a
 have hm9 := rd_max hu2
 have hm10 := rd_max hu4
 have hm11 := rd_max hu6
 have hm12 := rd_max hu8
 refine enter 30 Tryz.func23 Y Y Y (Sr (li Y (D_box Y Y Y Y Y fun g13 => ?_)))
 refine Pe Y (Dh ([bx g13 [u1, u3, (iv a.Clock), u5, (.bool a.Halted), u7]]) Y (Sr (q1 Y (Db f_57_0 Y Y (q := 0) Y) (q1 Y (lb 0 o_22 Y Y Y Y) (p1 Y (li Y (cv b_6 Y Y Y Y (fun w' hs => (laws_szRuleS (rA hs hu2) (by first | assumption | omega | (unfold szm at *; split at * <;> omega)) (by first | assumption | omega | (unfold szm at *; split at * <;> omega)) ho.1)) ?_)))))))
 refine Pe Y (Cq (Sr (P2 Y Y (Dx (Ci _ Y (fun h14 => ?_) (fun h14 => ?_))))))
 ·have pr14 := odT h14
  refine Sr (Pe Y (Ct (Xr (Ri Y Y ?_))))
  show ((-1) : Int) = _
  unfold szEngine szm at *; repeat (split at * <;> try omega)
 ·have pr14 := odF h14
  have pr14z := szm_val pr14
  refine Sk (Sr (q1 Y (Db f_57_1 Y Y (q := 1) Y) (q1 Y (lb 0 o_23 Y Y Y Y) (p1 Y (li Y (cv b_7 Y Y Y Y (fun w' hs => (laws_szStampS (rA hs hu4) (by first | assumption | omega | (unfold szm at *; split at * <;> omega)) (by first | assumption | omega | (unfold szm at *; split at * <;> omega)) ho.2.1)) ?_))))))
  refine Pe Y (Cq (Sr (P2 Y Y (Dx (Ci _ Y (fun h15 => ?_) (fun h15 => ?_))))))
  ·have pr15 := odT h15
   refine Sr (Pe Y (Ct (Xr (Ri Y Y ?_))))
   show ((-1) : Int) = _
   unfold szEngine szm at *; repeat (split at * <;> try omega)
  ·have pr15 := odF h15
   have pr15z := szm_val pr15
   refine Sk (Sr (q1 Y (Db f_57_3 Y Y (q := 3) Y) (q1 Y (lb 0 o_54 Y Y Y Y) (p1 Y (li Y (cv b_68 Y Y Y Y (fun w' hs => (laws_szFiringS (rA hs hu6) (by first | assumption | omega | (unfold szm at *; split at * <;> omega)) (by first | assumption | omega | (unfold szm at *; split at * <;> omega)) ho.2.2.2.1)) ?_))))))
   refine Pe Y (D_wk [1, 2] Y (Cq (Sr (P2 Y Y (Dx (Ci _ Y (fun h16 => ?_) (fun h16 => ?_)))))))
   ·have pr16 := odT h16
    refine Sr (Pe Y (Ct (Xr (Ri Y Y ?_))))
    show ((-1) : Int) = _
    unfold szEngine szm at *; repeat (split at * <;> try omega)
   ·have pr16 := odF h16
    have pr16z := szm_val pr16
    refine Sk (Sr (q1 Y (Db f_57_5 Y Y (q := 5) Y) (q1 Y (lb 0 o_55 Y Y Y Y) (p1 Y (li Y (cv b_69 Y Y Y Y (fun w' hs => (laws_szEventS (rA hs hu8) (by first | assumption | omega | (unfold szm at *; split at * <;> omega)) (by first | assumption | omega | (unfold szm at *; split at * <;> omega)) ho.2.2.2.2.2)) ?_))))))
    refine Pe Y (Cq (Sr (P2 Y Y (Dx (Ci _ Y (fun h17 => ?_) (fun h17 => ?_))))))
    ·have pr17 := odT h17
     refine Sr (Pe Y (Ct (Xr (Ri Y Y ?_))))
     show ((-1) : Int) = _
     unfold szEngine szm at *; repeat (split at * <;> try omega)
    ·have pr17 := odF h17
     have pr17z := szm_val pr17
     refine Sk (Sr (P2 Y Y (Dx (Ct (Ri Y Y ?_)))))
     show ((szm (szL szEv a.Log) (szm (szL szFiring a.Fired) (szm (szL szStamp a.Memory) (szm (szL szRule a.Rules) left)))) : Int) = _
     unfold szEngine szm at *; repeat (split at * <;> try omega)
theorem laws_toEngine {w : World} {c_a : List Value} {a : Engine} (h_a : Gd.rd w c_a a) (hn : szEngine a ≤ 1048576) : Calls Tryz.prog 26 [(.agg c_a.toArray)].toArray w (Res w (a : Engine)) := by
 obtain ⟨u1, u3, u5, u7, rfl, hu2, hu4, hu6, hu8⟩ := open_Engine h_a
 have hm9 := rd_max hu2
 have hm10 := rd_max hu4
 have hm11 := rd_max hu6
 have hm12 := rd_max hu8
 unfold szEngine at hn
 refine enter 27 Tryz.func26 Y Y Y (Sr (li Y (D_box Y Y Y Y Y fun g13 => ?_)))
 refine li Y (D_alloc y_66 Y Y Y Y fun g14 => ?_)
 refine Dx (Dh ([bx g14 [(.slice none 0 0), (.slice none 0 0), (iv 0), (.slice none 0 0), (.bool false), (.slice none 0 0)], bx g13 [u1, u3, (iv a.Clock), u5, (.bool a.Halted), u7]]) Y (Sr (li Y (D_alloc y_66 Y Y Y Y fun g15 => ?_))))
 refine Dx (Dh ([bx g15 [(.slice none 0 0), (.slice none 0 0), (iv 0), (.slice none 0 0), (.bool false), (.slice none 0 0)], _, _]) Y (Sr (q1 Y (Db f_57_0 Y Y (q := 0) Y) (q1 Y (lb 2 o_22 Y Y Y Y) (li Y (crl b_10 Y Y Y Y (fun w' hs => (laws_toRuleS (rA hs hu2) (by first | assumption | omega | (unfold szm at *; split at * <;> omega)))) fun v16 => ?_))))))
 refine q1 Y (Db f_66_0 Y Y (q := 0) Y) (Dp (fun w' hs => one_own (k := 0) hs Y) ?_)
 intro ho17
 refine li Y (D_stb (vs := [v16]) (cs' := [v16, (.slice none 0 0), (iv 0), (.slice none 0 0), (.bool false), (.slice none 0 0)]) 1 z_40 Y Y Y Y Y (cells_of_one ho17) (ocons ho17 onil) (by simp) Y ?_)
 refine Dx (Dh ([ov [v16] (a.Rules : (List Rule)), bx g15 [v16, (.slice none 0 0), (iv 0), (.slice none 0 0), (.bool false), (.slice none 0 0)], _, _]) Y (Sr (q1 Y (Db f_57_1 Y Y (q := 1) Y) (q1 Y (lb 3 o_23 Y Y Y Y) (li Y (crl b_11 Y Y Y Y (fun w' hs => (laws_toStampS (rA hs hu4) (by first | assumption | omega | (unfold szm at *; split at * <;> omega)))) fun v18 => ?_))))))
 refine q1 Y (Db f_66_1 Y Y (q := 1) Y) (Dp (fun w' hs => one_own (k := 0) hs Y) ?_)
 intro ho19
 refine li Y (D_stb (vs := [v18]) (cs' := [v16, v18, (iv 0), (.slice none 0 0), (.bool false), (.slice none 0 0)]) 2 z_42 Y Y Y Y Y (cells_of_one ho19) (ocons ho19 onil) (by simp) Y ?_)
 refine Dx (Dh ([ov [v18] (a.Memory : (List Stamp)), _, bx g15 [v16, v18, (iv 0), (.slice none 0 0), (.bool false), (.slice none 0 0)], _, _]) Y (Sr (q1 Y (Db f_57_2 Y Y (q := 2) Y) (q1 Y (lb 4 o_3 Y Y Y Y) (q1 Y (Db f_66_2 Y Y (q := 2) Y) (li Y (D_stb (vs := [(iv a.Clock)]) (cs' := [v16, v18, (iv a.Clock), (.slice none 0 0), (.bool false), (.slice none 0 0)]) 2 z_3 Y Y Y Y Y Y (ocons Y onil) (by simp) Y ?_)))))))
 refine Dx (Dh ([_, _, bx g15 [v16, v18, (iv a.Clock), (.slice none 0 0), (.bool false), (.slice none 0 0)], _, _]) Y (Sr (q1 Y (Db f_57_3 Y Y (q := 3) Y) (q1 Y (lb 4 o_54 Y Y Y Y) (li Y (crl b_75 Y Y Y Y (fun w' hs => (laws_toFiringS (rA hs hu6) (by first | assumption | omega | (unfold szm at *; split at * <;> omega)))) fun v20 => ?_))))))
 refine q1 Y (Db f_66_3 Y Y (q := 3) Y) (Dp (fun w' hs => one_own (k := 0) hs Y) ?_)
 intro ho21
 refine li Y (D_stb (vs := [v20]) (cs' := [v16, v18, (iv a.Clock), v20, (.bool false), (.slice none 0 0)]) 3 z_63 Y Y Y Y Y (cells_of_one ho21) (ocons ho21 onil) (by simp) Y ?_)
 refine Dx (D_wk [1, 2, 3] Y (Dh ([ov [v20] (a.Fired : (List Firing)), _, _, bx g15 [v16, v18, (iv a.Clock), v20, (.bool false), (.slice none 0 0)], _, _]) Y (Sr (q1 Y (Db f_57_4 Y Y (q := 4) Y) (q1 Y (lb 5 o_4 Y Y Y Y) (q1 Y (Db f_66_4 Y Y (q := 4) Y) (li Y (D_stb (vs := [(.bool a.Halted)]) (cs' := [v16, v18, (iv a.Clock), v20, (.bool a.Halted), (.slice none 0 0)]) 3 z_4 Y Y Y Y Y Y (ocons Y onil) (by simp) Y ?_))))))))
 refine Dx (Dh ([_, _, _, bx g15 [v16, v18, (iv a.Clock), v20, (.bool a.Halted), (.slice none 0 0)], _, _]) Y (Sr (q1 Y (Db f_57_5 Y Y (q := 5) Y) (q1 Y (lb 5 o_55 Y Y Y Y) (li Y (crl b_76 Y Y Y Y (fun w' hs => (laws_toEventS (rA hs hu8) (by first | assumption | omega | (unfold szm at *; split at * <;> omega)))) fun v22 => ?_))))))
 refine q1 Y (Db f_66_5 Y Y (q := 5) Y) (Dp (fun w' hs => one_own (k := 0) hs Y) ?_)
 intro ho23
 refine li Y (D_stb (vs := [v22]) (cs' := [v16, v18, (iv a.Clock), v20, (.bool a.Halted), v22]) 4 z_64 Y Y Y Y Y (cells_of_one ho23) (ocons ho23 onil) (by simp) Y ?_)
 refine Dx (Dh ([ov [v22] (a.Log : (List Event)), _, _, _, bx g15 [v16, v18, (iv a.Clock), v20, (.bool a.Halted), v22], _, _]) Y (Sr (q1 Y (lbw 4 a_66 Y Y Y) (li Y (D_stb (vs := [v16, v18, (iv a.Clock), v20, (.bool a.Halted), v22]) (cs' := [v16, v18, (iv a.Clock), v20, (.bool a.Halted), v22]) 5 z_66 Y Y Y Y Y Y (ocons ho17 (ocons ho19 (ocons Y (ocons ho21 (ocons Y (ocons ho23 onil)))))) (by simp) Y ?_)))))
 refine Dx (Ct (D_pkO [3, 2, 1, 0, 4, 5, 6] Y (pk_Engine (r := (a : Engine)) (R_c 2 a_66 Y Y Y fun w' hs => res_of (k := 0) hs Y ?_))))
 show (a : Engine) = a
 rfl
theorem laws_eqEngine {w : World} {c_a : List Value} {a : Engine} {c_b : List Value} {b : Engine} (h_a : Gd.rd w c_a a) (h_b : Gd.rd w c_b b) : Calls Tryz.prog 29 [(.agg c_a.toArray), (.agg c_b.toArray)].toArray w (Val w (.bool (decide (a = b)))) := by
 obtain ⟨u1, u3, u5, u7, rfl, hu2, hu4, hu6, hu8⟩ := open_Engine h_a
 have hm9 := rd_max hu2
 have hm10 := rd_max hu4
 have hm11 := rd_max hu6
 have hm12 := rd_max hu8
 obtain ⟨u13, u15, u17, u19, rfl, hu14, hu16, hu18, hu20⟩ := open_Engine h_b
 have hm21 := rd_max hu14
 have hm22 := rd_max hu16
 have hm23 := rd_max hu18
 have hm24 := rd_max hu20
 refine enter 39 Tryz.func29 Y Y Y (Sr (li Y (D_box Y Y Y Y Y fun g25 => ?_)))
 refine li Y (D_box Y Y Y Y Y fun g26 => ?_)
 refine Pe Y (Dh ([bx g26 [u13, u15, (iv b.Clock), u17, (.bool b.Halted), u19], bx g25 [u1, u3, (iv a.Clock), u5, (.bool a.Halted), u7]]) Y (Cq (Sr (q1 Y (Db f_66_0 Y Y (q := 0) Y) (q1 Y (lb 1 o_40 Y Y Y Y) (q1 Y (Db f_66_0 Y Y (q := 0) Y) (q1 Y (lb 0 o_40 Y Y Y Y) (li Y (cv b_15 Y Y Y Y (fun w' hs => (laws_eqRuleS (rA hs hu2) (rA hs hu14))) ?_)))))))))
 refine Pe Y (Ci _ Y (fun h27 => ?_) (fun h27 => ?_))
 ·have h27n := not_t h27
  refine Sr (Pe Y (Ct (Xr (Rb Y Y ?_))))
  cases a; cases b; simp_all
 ·have h27n := not_f h27
  refine Sk (Cq (Sr (q1 Y (Db f_66_1 Y Y (q := 1) Y) (q1 Y (lb 1 o_42 Y Y Y Y) (q1 Y (Db f_66_1 Y Y (q := 1) Y) (q1 Y (lb 0 o_42 Y Y Y Y) (li Y (cv b_16 Y Y Y Y (fun w' hs => (laws_eqStampS (rA hs hu4) (rA hs hu16))) ?_))))))))
  refine Pe Y (Ci _ Y (fun h28 => ?_) (fun h28 => ?_))
  ·have h28n := not_t h28
   refine Sr (Pe Y (Ct (Xr (Rb Y Y ?_))))
   cases a; cases b; simp_all
  ·have h28n := not_f h28
   refine Sk (D_wk [2, 3] Y (Cq (Sr (q1 Y (Db f_66_2 Y Y (q := 2) Y) (q1 Y (lb 1 o_3 Y Y Y Y) (q1 Y (Db f_66_2 Y Y (q := 2) Y) (q1 Y (lb 0 o_3 Y Y Y Y) (Pe Y (Ci _ Y (fun h29 => ?_) (fun h29 => ?_))))))))))
   ·have pr29 := bne_iff_ne.1 h29
    refine Sr (Pe Y (Ct (Xr (Rb Y Y ?_))))
    cases a; cases b; simp_all
   ·have pr29 := eq_of_bne_f h29
    refine Sk (Cq (Sr (q1 Y (Db f_66_3 Y Y (q := 3) Y) (q1 Y (lb 1 o_63 Y Y Y Y) (q1 Y (Db f_66_3 Y Y (q := 3) Y) (q1 Y (lb 0 o_63 Y Y Y Y) (li Y (cv b_82 Y Y Y Y (fun w' hs => (laws_eqFiringS (rA hs hu6) (rA hs hu18))) ?_))))))))
    refine Pe Y (Ci _ Y (fun h30 => ?_) (fun h30 => ?_))
    ·have h30n := not_t h30
     refine Sr (Pe Y (Ct (Xr (Rb Y Y ?_))))
     cases a; cases b; simp_all
    ·have h30n := not_f h30
     refine Sk (Cq (Sr (q1 Y (Db f_66_4 Y Y (q := 4) Y) (q1 Y (lb 1 o_4 Y Y Y Y) (q1 Y (Db f_66_4 Y Y (q := 4) Y) (q1 Y (lb 0 o_4 Y Y Y Y) (q1 Y (D_neB ub_4 Y Y Y) (Dx (D_wk [2, 3, 32] Y (Ci _ Y (fun h31 => ?_) (fun h31 => ?_)))))))))))
     ·refine Sr (Pe Y (Ct (Xr (Rb Y Y ?_))))
      cases a; cases b; simp_all
     ·have pr31 := beq_of_not h31
      refine Sk (Cq (Sr (q1 Y (Db f_66_5 Y Y (q := 5) Y) (q1 Y (lb 1 o_64 Y Y Y Y) (q1 Y (Db f_66_5 Y Y (q := 5) Y) (q1 Y (lb 0 o_64 Y Y Y Y) (li Y (cv b_83 Y Y Y Y (fun w' hs => (laws_eqEventS (rA hs hu8) (rA hs hu20))) ?_))))))))
      refine Pe Y (Ci _ Y (fun h32 => ?_) (fun h32 => ?_))
      ·have h32n := not_t h32
       refine Sr (Pe Y (Ct (Xr (Rb Y Y ?_))))
       cases a; cases b; simp_all
      ·have h32n := not_f h32
       refine Sk (Sr (Pe Y (Ct (Rb Y Y ?_))))
       cases a; cases b; simp_all
end Go.Sy.Ev2
