/-
  Contracts of functions of the program, walked (printed by a program of ours).
  Conditions: those that each theorem states.
-/
import Derived.Test.YtkbiaedfnpbpfaaGreatDoorEng3
set_option linter.unusedVariables false
set_option maxRecDepth 20000
namespace Go.Sy.Eng4
open Go Go.RowKit Go.Proofs Go.Sy
theorem mixed : Tryz.prog.follows .mixedOrders = true := by kernel_rfl
theorem y_145 : zeroTy Tryz.prog 145 = some (.agg #[(.string ⟨#[]⟩), (.slice none 0 0)]) := by kernel_rfl
theorem f_145_0 : fieldOff Tryz.prog 145 0 = some 0 := by kernel_rfl
theorem o_9 : oneTy Tryz.prog 9 = true := by kernel_rfl
theorem f_145_1 : fieldOff Tryz.prog 145 1 = some 1 := by kernel_rfl
theorem o_58 : oneTy Tryz.prog 58 = true := by kernel_rfl
theorem b_184 : hasBody Tryz.prog 184 = true := by kernel_rfl
theorem pl_145 : placeTy Tryz.prog 145 = some ([(0, 1), (1, 1)], [(.string ⟨#[]⟩), (.slice none 0 0)]) := by kernel_rfl
theorem z_145 : sizeTy Tryz.prog 145 = some 2 := by kernel_rfl
theorem a_145 : aggTy Tryz.prog 145 = some 2 := by kernel_rfl
theorem b_178 : hasBody Tryz.prog 178 = true := by kernel_rfl
theorem y_147 : zeroTy Tryz.prog 147 = some (.agg #[(.int .i64 0), (.string ⟨#[]⟩), (.slice none 0 0), (.string ⟨#[]⟩), (.string ⟨#[]⟩)]) := by kernel_rfl
theorem f_147_1 : fieldOff Tryz.prog 147 1 = some 1 := by kernel_rfl
theorem b_209 : hasBody Tryz.prog 209 = true := by kernel_rfl
theorem a_147 : aggTy Tryz.prog 147 = some 5 := by kernel_rfl
theorem z_147 : sizeTy Tryz.prog 147 = some 5 := by kernel_rfl
theorem s_32 : sliceTy Tryz.prog 32 = some (151, 2, 32) := by kernel_rfl
theorem f_147_0 : fieldOff Tryz.prog 147 0 = some 0 := by kernel_rfl
theorem o_3 : oneTy Tryz.prog 3 = true := by kernel_rfl
theorem f_147_2 : fieldOff Tryz.prog 147 2 = some 3 := by kernel_rfl
theorem f_147_3 : fieldOff Tryz.prog 147 3 = some 4 := by kernel_rfl
theorem b_223 : hasBody Tryz.prog 223 = true := by kernel_rfl
theorem s_58 : sliceTy Tryz.prog 58 = some (9, 1, 16) := by kernel_rfl
theorem y_9 : zeroTy Tryz.prog 9 = some (.string ⟨#[]⟩) := by kernel_rfl
theorem z_58 : sizeTy Tryz.prog 58 = some 1 := by kernel_rfl
theorem b_215 : hasBody Tryz.prog 215 = true := by kernel_rfl
theorem s_93 : sliceTy Tryz.prog 93 = some (147, 5, 80) := by kernel_rfl
theorem b_216 : hasBody Tryz.prog 216 = true := by kernel_rfl
theorem y_96 : zeroTy Tryz.prog 96 = some (.agg #[(.string ⟨#[]⟩), (.int .i64 0), (.slice none 0 0), (.slice none 0 0)]) := by kernel_rfl
theorem f_96_0 : fieldOff Tryz.prog 96 0 = some 0 := by kernel_rfl
theorem f_96_1 : fieldOff Tryz.prog 96 1 = some 1 := by kernel_rfl
theorem f_96_2 : fieldOff Tryz.prog 96 2 = some 2 := by kernel_rfl
theorem o_93 : oneTy Tryz.prog 93 = true := by kernel_rfl
theorem b_208 : hasBody Tryz.prog 208 = true := by kernel_rfl
theorem pl_96 : placeTy Tryz.prog 96 = some ([(0, 1), (1, 1), (2, 1), (3, 1)], [(.string ⟨#[]⟩), (iv 0), (.slice none 0 0), (.slice none 0 0)]) := by kernel_rfl
theorem z_96 : sizeTy Tryz.prog 96 = some 4 := by kernel_rfl
theorem f_96_3 : fieldOff Tryz.prog 96 3 = some 3 := by kernel_rfl
theorem o_94 : oneTy Tryz.prog 94 = true := by kernel_rfl
theorem s_94 : sliceTy Tryz.prog 94 = some (159, 3, 48) := by kernel_rfl
theorem a_159 : aggTy Tryz.prog 159 = some 3 := by kernel_rfl
theorem y_159 : zeroTy Tryz.prog 159 = some (.agg #[(.int .i64 0), (.string ⟨#[]⟩), (.slice none 0 0)]) := by kernel_rfl
theorem z_159 : sizeTy Tryz.prog 159 = some 3 := by kernel_rfl
theorem f_159_0 : fieldOff Tryz.prog 159 0 = some 0 := by kernel_rfl
theorem f_159_1 : fieldOff Tryz.prog 159 1 = some 1 := by kernel_rfl
theorem pl_159 : placeTy Tryz.prog 159 = some ([(0, 1), (1, 2)], [(iv 0), (.string ⟨#[]⟩), (.slice none 0 0)]) := by kernel_rfl
theorem z_94 : sizeTy Tryz.prog 94 = some 1 := by kernel_rfl
theorem a_96 : aggTy Tryz.prog 96 = some 4 := by kernel_rfl
theorem s_40 : sliceTy Tryz.prog 40 = some (96, 4, 72) := by kernel_rfl
theorem b_183 : hasBody Tryz.prog 183 = true := by kernel_rfl
theorem b_206 : hasBody Tryz.prog 206 = true := by kernel_rfl
theorem z_93 : sizeTy Tryz.prog 93 = some 1 := by kernel_rfl
theorem b_207 : hasBody Tryz.prog 207 = true := by kernel_rfl
theorem b_177 : hasBody Tryz.prog 177 = true := by kernel_rfl
open Go.Sy.Bel1 Go.Sy.Ev1 Go.Sy.Ev2 Go.Sy.Eng1 Go.Sy.Eng2 Go.Sy.Eng3
theorem impl_copyPattern {w : World} {c_p : List Value} {p : Pattern} (h_p : Gd.rd w c_p p) (hp : szPattern p ≤ 1048576) : Calls Tryz.prog 209 [(.agg c_p.toArray)].toArray w (Res w (p : Pattern)) := by
 obtain ⟨u1, rfl, hu2⟩ := open_Pattern h_p
 have hm3 := rd_max hu2
 have hpa := szPat_args p
 refine enter 9 Tryz.func209 Y Y Y (Sr (li Y (D_box Y Y Y Y Y fun g4 => ?_)))
 refine li Y (D_alloc y_145 Y Y Y Y fun g5 => ?_)
 refine Dx (Dh ([bx g5 [(.string ⟨#[]⟩), (.slice none 0 0)], bx g4 [(.string p.Rel), u1]]) Y (Cq (C_draw mixed [6] (by kernel_rfl) (Tk 0 Y (by kernel_rfl) Y (Db f_145_0 Y Y (q := 0) Y) (Tk 1 Y (by kernel_rfl) Y (lb 1 o_9 Y Y Y Y) (Tk 2 Y (by kernel_rfl) Y (Db f_145_1 Y Y (q := 1) Y) (Tk 3 Y (by kernel_rfl) Y (lb 1 o_58 Y Y Y Y) (ty 4 Y (by kernel_rfl) Y (crl b_184 Y Y Y Y (fun w' hs => (impl_copyTexts (rA hs hu2) (by first | assumption | omega | (unfold szm at *; split at * <;> omega)))) fun v6 => ?_)))))))))
 refine tS (fun _ hs => hs.pk [1, 2] Y Y) (Dp (fun w' hs => one_own (k := 0) hs Y) ?_)
 intro ho7
 refine Tj 5 Y (by kernel_rfl) Y (fun _ hs => hs.pk [1, 2] Y Y) (D_built (vs := [(0, (.string p.Rel)), (1, v6)]) (xs := [(0, [(.string p.Rel)]), (1, [v6])]) (cs := [(.string p.Rel), v6]) pl_145 Y ⟨Y, Y, ⟨Y, (cells_of_one ho7), trivial⟩⟩ Y Y) (ty 6 Y (by kernel_rfl) Y (D_stb (vs := [(.string p.Rel), v6]) (cs' := [(.string p.Rel), v6]) 1 z_145 Y Y Y Y Y Y (ocons Y (ocons ho7 onil)) (by simp) Y ?_))
 refine tZ Y (tE (by kernel_rfl) (Xt (Ct (pk_Pattern (r := (p : Pattern)) (R_c 1 a_145 Y Y Y fun w' hs => res_of (k := 0) hs Y ?_)))))
 show (p : Pattern) = p
 rfl
theorem spec_l3CopyPattern {w : World} {c_p : List Value} {p : Pattern} (h_p : Gd.rd w c_p p) (hp : szPattern p ≤ 1048576) : Calls Tryz.prog 207 [(.agg c_p.toArray)].toArray w (Res w (p : Pattern)) := by
 obtain ⟨u1, rfl, hu2⟩ := open_Pattern h_p
 have hm3 := rd_max hu2
 have hpa := szPat_args p
 refine enter 9 Tryz.func207 Y Y Y (Sr (li Y (D_box Y Y Y Y Y fun g4 => ?_)))
 refine li Y (D_alloc y_145 Y Y Y Y fun g5 => ?_)
 refine Dx (Dh ([bx g5 [(.string ⟨#[]⟩), (.slice none 0 0)], bx g4 [(.string p.Rel), u1]]) Y (Cq (C_draw mixed [6] (by kernel_rfl) (Tk 0 Y (by kernel_rfl) Y (Db f_145_0 Y Y (q := 0) Y) (Tk 1 Y (by kernel_rfl) Y (lb 1 o_9 Y Y Y Y) (Tk 2 Y (by kernel_rfl) Y (Db f_145_1 Y Y (q := 1) Y) (Tk 3 Y (by kernel_rfl) Y (lb 1 o_58 Y Y Y Y) (ty 4 Y (by kernel_rfl) Y (crl b_178 Y Y Y Y (fun w' hs => (spec_l1Texts (rA hs hu2) (by first | assumption | omega | (unfold szm at *; split at * <;> omega)))) fun v6 => ?_)))))))))
 refine tS (fun _ hs => hs.pk [1, 2] Y Y) (Dp (fun w' hs => one_own (k := 0) hs Y) ?_)
 intro ho7
 refine Tj 5 Y (by kernel_rfl) Y (fun _ hs => hs.pk [1, 2] Y Y) (D_built (vs := [(0, (.string p.Rel)), (1, v6)]) (xs := [(0, [(.string p.Rel)]), (1, [v6])]) (cs := [(.string p.Rel), v6]) pl_145 Y ⟨Y, Y, ⟨Y, (cells_of_one ho7), trivial⟩⟩ Y Y) (ty 6 Y (by kernel_rfl) Y (D_stb (vs := [(.string p.Rel), v6]) (cs' := [(.string p.Rel), v6]) 1 z_145 Y Y Y Y Y Y (ocons Y (ocons ho7 onil)) (by simp) Y ?_))
 refine tZ Y (tE (by kernel_rfl) (Xt (Ct (pk_Pattern (r := (p : Pattern)) (R_c 1 a_145 Y Y Y fun w' hs => res_of (k := 0) hs Y ?_)))))
 show (p : Pattern) = p
 rfl
theorem impl_copyCond {w : World} {c_x : List Value} {x : Cond} (h_x : Gd.rd w c_x x) (hx : szCond x ≤ 1048576) : Calls Tryz.prog 216 [(.agg c_x.toArray)].toArray w (Res w (x : Cond)) := by
 obtain ⟨u1, rfl, hu2⟩ := open_Cond h_x
 have hm3 := rd_max hu2
 have hb4 := sub_Cond_Pattern h_x
 unfold szCond at hx
 have hpa := szPat_args x.Pattern
 refine enter 8 Tryz.func216 Y Y Y (Sr (li Y (D_box Y Y Y Y Y fun g5 => ?_)))
 refine li Y (D_alloc y_147 Y Y Y Y fun g6 => ?_)
 refine Dx (Dh ([bx g6 [(iv 0), (.string ⟨#[]⟩), (.slice none 0 0), (.string ⟨#[]⟩), (.string ⟨#[]⟩)], bx g5 [(iv x.Kind), (.string x.Pattern.Rel), u1, (.string x.Left), (.string x.Right)]]) Y (Sr (q1 Y (Db f_147_1 Y Y (q := 1) Y) (q1 Y (lba (es := [(.string x.Pattern.Rel), u1]) 1 a_145 Y Y Y Y) (li Y (crs Y b_209 Y Y Y Y (fun w' hs => (impl_copyPattern (rA hs hb4) (by first | assumption | omega | (unfold szm at *; split at * <;> omega)))) fun cs7 => ?_))))))
 refine Dp (fun w' hs => shape_Pattern (rO (k := 0) hs Y)) ?_
 rintro ⟨v8, rfl, ho9⟩
 refine q1 Y (Db f_147_1 Y Y (q := 1) Y) (li Y (D_stb (vs := [(.string x.Pattern.Rel), v8]) (cs' := [(iv x.Kind), (.string x.Pattern.Rel), v8, (.string x.Left), (.string x.Right)]) 2 z_145 Y Y Y Y Y Y (ocons Y (ocons ho9 onil)) (by simp) Y ?_))
 refine Dx (Dh ([ov [(.string x.Pattern.Rel), v8] (x.Pattern : Pattern), _, bx g5 [(iv x.Kind), (.string x.Pattern.Rel), v8, (.string x.Left), (.string x.Right)]]) Y (Sr (q1 Y (lbw 2 a_147 Y Y Y) (li Y (D_stb (vs := [(iv x.Kind), (.string x.Pattern.Rel), v8, (.string x.Left), (.string x.Right)]) (cs' := [(iv x.Kind), (.string x.Pattern.Rel), v8, (.string x.Left), (.string x.Right)]) 1 z_147 Y Y Y Y Y Y (ocons Y (ocons Y (ocons ho9 (ocons Y (ocons Y onil))))) (by simp) Y ?_)))))
 refine Dx (Ct (D_unpair (α := ByteArray) (β := (List ByteArray)) (c1 := [(.string x.Pattern.Rel)]) (c2 := [v8]) (x := x.Pattern.Rel) (y := (x.Pattern.Args)) Y Y (D_fd [] 1 Y (pk_Cond (r := (x : Cond)) (R_c 1 a_147 Y Y Y fun w' hs => res_of (k := 0) hs Y ?_)))))
 show (x : Cond) = x
 rfl
theorem spec_l4Renamed {w : World} {s : ByteArray} : Calls Tryz.prog 223 [(.string s), (.slice none 0 0)].toArray w (Val w (.string (s))) := by
 refine enter 25 Tryz.func223 Y Y Y (Sr (Pe Y (Cq (Sr (Pe Y (Cb (Cl (fun m_ ac w' => ∃ (k : Nat), (k ≤ 0) ∧ m_ = 0 - k ∧ Fits ac 25 [(0, (.string s)), (1, (.slice none 0 0)), (5, (nv k))] ∧ St w ([]) w') ?_ ?_)))))))
 ·refine fun ac w' hf hs => ⟨_, 0, ?_, Y, hf.wk Y, hs⟩
  ·first | assumption | omega | simp
 ·rintro m_ ac w' ⟨k, hk, rfl, hf, hs⟩
  refine D.use ?_ hf hs
  clear hf hs ac w'
  refine Cq (Sr (P2 Y Y (q1 Y (Dl s_32 Y Y (n := 0) ⟨_, _, Y⟩) (Pe Y (Ci _ Y (fun h1 => ?_) (fun h1 => ?_))))))
  ·have pr1 := odT h1
   refine Sk (Cq (Cb (Cq ?_)))
   exfalso; omega
  ·have pr1 := odF h1
   refine Cx (Xx (Xx (Xe (Xt (Sr (P2 Y Y (Dx (Ct (Rs Y Y ?_)))))))))
   show (s : ByteArray) = _
   rfl
theorem spec_RenameCond {w : World} {c_x : List Value} {x : Cond} (h_x : Gd.rd w c_x x) (hx : szCond x ≤ 1048576) : Calls Tryz.prog 215 [(.agg c_x.toArray), (.slice none 0 0)].toArray w (Res w (x : Cond)) := by
 obtain ⟨u1, rfl, hu2⟩ := open_Cond h_x
 have hm3 := rd_max hu2
 have hb4 := sub_Cond_Pattern h_x
 unfold szCond at hx
 have hpa := szPat_args x.Pattern
 refine enter 46 Tryz.func215 Y Y Y (Sr (li Y (D_box Y Y Y Y Y fun g5 => ?_)))
 refine li Y (D_alloc y_147 Y Y Y Y fun g6 => ?_)
 refine Dx (Dh ([bx g6 [(iv 0), (.string ⟨#[]⟩), (.slice none 0 0), (.string ⟨#[]⟩), (.string ⟨#[]⟩)], bx g5 [(iv x.Kind), (.string x.Pattern.Rel), u1, (.string x.Left), (.string x.Right)]]) Y (Cq (C_join (fun ac w' => ∃ (g7 : Nat), Fits ac 46 [(1, (.slice none 0 0)), (2, (pv g5)), (4, (pv g6)), (5, (pv g7))] ∧ St w ([bx g7 [(iv x.Kind), (.string x.Pattern.Rel), (.slice none 0 0), (.string x.Left), (.string x.Right)], bx g6 [(iv 0), (.string ⟨#[]⟩), (.slice none 0 0), (.string ⟨#[]⟩), (.string ⟨#[]⟩)], bx g5 [(iv x.Kind), (.string x.Pattern.Rel), u1, (.string x.Left), (.string x.Right)]]) w') ?_ ?_)))
 ·refine C_draw mixed [16] (by kernel_rfl) (Tk 0 Y (by kernel_rfl) Y (Db f_147_0 Y Y (q := 0) Y) (Tk 1 Y (by kernel_rfl) Y (lb 1 o_3 Y Y Y Y) (Tk 2 Y (by kernel_rfl) Y (Db f_147_1 Y Y (q := 1) Y) (Tk 3 Y (by kernel_rfl) Y (Db f_145_0 Y Y (q := 1) Y) (Tk 4 Y (by kernel_rfl) Y (lb 1 o_9 Y Y Y Y) (Tk 5 Y (by kernel_rfl) Y (D_build (vs := [(0, (.string x.Pattern.Rel))]) (cs := [(.string x.Pattern.Rel), (.slice none 0 0)]) Y (fun _ => by kernel_rfl) Y) (Tk 6 Y (by kernel_rfl) Y (Db f_147_2 Y Y (q := 3) Y) (Tk 7 Y (by kernel_rfl) Y (lb 1 o_9 Y Y Y Y) (Tk 8 Y (by kernel_rfl) Y (rp Y) (Tk 10 Y (by kernel_rfl) Y (Db f_147_3 Y Y (q := 4) Y) (Tk 11 Y (by kernel_rfl) Y (lb 1 o_9 Y Y Y Y) (Tk 12 Y (by kernel_rfl) Y (rp Y) (tyN [9, 15] Y (by kernel_rfl) ⟨⟨_, Y, Y, ?_⟩, ⟨_, Y, Y, ?_⟩, trivial⟩)))))))))))))
  ·refine id (cv b_223 Y Y Y Y (fun w' hs => spec_l4Renamed) ?_)
   refine tS (fun _ hs => hs) (tyN [13, 15] Y (by kernel_rfl) ⟨⟨_, Y, Y, ?_⟩, ⟨_, Y, Y, ?_⟩, trivial⟩)
   ·refine id (cv b_223 Y Y Y Y (fun w' hs => spec_l4Renamed) ?_)
    refine tS (fun _ hs => hs) (Tk 14 Y (by kernel_rfl) Y (D_build (vs := [(0, (iv x.Kind)), (1, (.agg #[(.string x.Pattern.Rel), (.slice none 0 0)])), (2, (.string x.Left)), (3, (.string x.Right))]) (cs := [(iv x.Kind), (.string x.Pattern.Rel), (.slice none 0 0), (.string x.Left), (.string x.Right)]) Y (fun _ => by kernel_rfl) Y) (ty 15 Y (by kernel_rfl) Y (D_alloc y_147 Y Y Y Y fun g7 => ?_)))
    refine tS (fun _ hs => hs.pk [1, 2] Y Y) (ty 16 Y (by kernel_rfl) Y (D_stb (vs := [(iv x.Kind), (.string x.Pattern.Rel), (.slice none 0 0), (.string x.Left), (.string x.Right)]) (cs' := [(iv x.Kind), (.string x.Pattern.Rel), (.slice none 0 0), (.string x.Left), (.string x.Right)]) 0 z_147 Y Y Y Y Y Y (ocons Y (ocons Y (ocons Y (ocons Y (ocons Y onil))))) (by simp) Y ?_))
    refine tZ Y (tE (by kernel_rfl) (Xt (fun ac w' hf hs => ⟨g7, hf.wk Y, hs⟩)))
   ·refine id (D_alloc y_147 Y Y Y Y fun g8 => ?_)
    refine tS (fun _ hs => hs.pk [1, 2] Y Y) (ty 13 Y (by kernel_rfl) Y (cv b_223 Y Y Y Y (fun w' hs => spec_l4Renamed) ?_))
    refine tS (fun _ hs => hs.pk [1, 2] Y Y) (Tj 14 Y (by kernel_rfl) Y (fun _ hs => hs.pk [1, 2] Y Y) (D_build (vs := [(0, (iv x.Kind)), (1, (.agg #[(.string x.Pattern.Rel), (.slice none 0 0)])), (2, (.string x.Left)), (3, (.string x.Right))]) (cs := [(iv x.Kind), (.string x.Pattern.Rel), (.slice none 0 0), (.string x.Left), (.string x.Right)]) Y (fun _ => by kernel_rfl) Y) (ty 16 Y (by kernel_rfl) Y (D_stb (vs := [(iv x.Kind), (.string x.Pattern.Rel), (.slice none 0 0), (.string x.Left), (.string x.Right)]) (cs' := [(iv x.Kind), (.string x.Pattern.Rel), (.slice none 0 0), (.string x.Left), (.string x.Right)]) 0 z_147 Y Y Y Y Y Y (ocons Y (ocons Y (ocons Y (ocons Y (ocons Y onil))))) (by simp) Y ?_)))
    refine tZ Y (tE (by kernel_rfl) (Xt (fun ac w' hf hs => ⟨g8, hf.wk Y, hs⟩)))
  ·refine id (D_alloc y_147 Y Y Y Y fun g9 => ?_)
   refine tS (fun _ hs => hs.pk [1, 2] Y Y) (ty 9 Y (by kernel_rfl) Y (cv b_223 Y Y Y Y (fun w' hs => spec_l4Renamed) ?_))
   refine tS (fun _ hs => hs.pk [1, 2] Y Y) (ty 13 Y (by kernel_rfl) Y (cv b_223 Y Y Y Y (fun w' hs => spec_l4Renamed) ?_))
   refine tS (fun _ hs => hs.pk [1, 2] Y Y) (Tj 14 Y (by kernel_rfl) Y (fun _ hs => hs.pk [1, 2] Y Y) (D_build (vs := [(0, (iv x.Kind)), (1, (.agg #[(.string x.Pattern.Rel), (.slice none 0 0)])), (2, (.string x.Left)), (3, (.string x.Right))]) (cs := [(iv x.Kind), (.string x.Pattern.Rel), (.slice none 0 0), (.string x.Left), (.string x.Right)]) Y (fun _ => by kernel_rfl) Y) (ty 16 Y (by kernel_rfl) Y (D_stb (vs := [(iv x.Kind), (.string x.Pattern.Rel), (.slice none 0 0), (.string x.Left), (.string x.Right)]) (cs' := [(iv x.Kind), (.string x.Pattern.Rel), (.slice none 0 0), (.string x.Left), (.string x.Right)]) 0 z_147 Y Y Y Y Y Y (ocons Y (ocons Y (ocons Y (ocons Y (ocons Y onil))))) (by simp) Y ?_)))
   refine tZ Y (tE (by kernel_rfl) (Xt (fun ac w' hf hs => ⟨g9, hf.wk Y, hs⟩)))
 rintro ac w' ⟨g7, hf, hs⟩
 refine D.use ?_ hf hs
 clear hf hs ac w'
 refine Xt (Dh ([_, _, _]) Y (Cq (Sr (Pe Y (Cb (Cl (fun m_ ac w' => ∃ (k : Nat), ∃ (v : Value), (k ≤ x.Pattern.Args.length) ∧ m_ = x.Pattern.Args.length - k ∧ Fits ac 46 [(1, (.slice none 0 0)), (2, (pv g5)), (4, (pv g6)), (5, (pv g7)), (6, (nv k))] ∧ St w ([ov [v] (x.Pattern.Args.take k : (List ByteArray)), bx g7 [(iv x.Kind), (.string x.Pattern.Rel), v, (.string x.Left), (.string x.Right)], bx g6 [(iv 0), (.string ⟨#[]⟩), (.slice none 0 0), (.string ⟨#[]⟩), (.string ⟨#[]⟩)], bx g5 [(iv x.Kind), (.string x.Pattern.Rel), u1, (.string x.Left), (.string x.Right)]]) w') ?_ ?_))))))
 ·refine D_nil (α := ByteArray) (D_eq 0 Y (show ([] : (List ByteArray)) = x.Pattern.Args.take 0 from by simp) (fun ac w' hf hs => ⟨_, 0, (.slice none 0 0), ?_, Y, hf.wk Y, hs⟩))
  ·first | assumption | omega | simp
 ·rintro m_ ac w' ⟨k, v, hk, rfl, hf, hs⟩
  refine D.use ?_ hf hs
  clear hf hs ac w'
  have hcl : (x.Pattern.Args.take k).length ≤ k := by rw [List.length_take]; omega
  refine Cq (Sr (p1 Y (q1 Y (Db f_147_1 Y Y (q := 1) Y) (q1 Y (Db f_145_1 Y Y (q := 2) Y) (q1 Y (lb 3 o_58 Y Y Y Y) (q1 Y (Dl s_58 Y Y (rd_sl hu2)) (Pe Y (Dh ([_, _, _, _]) Y (Ci _ Y (fun h10 => ?_) (fun h10 => ?_))))))))))
  ·have pr10 := odT h10
   refine Sk (Cq (Cb (C_draw mixed [12, 13, 14, 15] (by kernel_rfl) (Tk 0 Y (by kernel_rfl) Y (Db f_147_1 Y Y (q := 1) Y) (Tk 1 Y (by kernel_rfl) Y (Db f_145_1 Y Y (q := 2) Y) (Tk 2 Y (by kernel_rfl) Y (lb 1 o_58 Y Y Y Y) (Tk 3 Y (by kernel_rfl) Y (Db f_147_1 Y Y (q := 1) Y) (Tk 4 Y (by kernel_rfl) Y (Db f_145_1 Y Y (q := 2) Y) (Tk 5 Y (by kernel_rfl) Y (lb 3 o_58 Y Y Y Y) (Tk 6 Y (by kernel_rfl) Y (rp Y) ?_))))))))))
   obtain ⟨x0, x0h⟩ := sL (l := x.Pattern.Args) (i := k) (by omega)
   obtain ⟨es11, at12, hr13⟩ := rd_elem (n := 1) rfl hu2 x0h
   obtain rfl : es11 = [.string x0] := hr13
   refine Tk 7 Y (by kernel_rfl) Y (D_ix (l := x.Pattern.Args) (j := k) s_58 Y Y Y (fun w' hs => (rA hs hu2)) Y (lS x0h)) (Tk 8 Y (by kernel_rfl) Y (lr0 o_9 Y Y at12 Y) (Tk 9 Y (by kernel_rfl) Y (rp Y) (ty 10 Y (by kernel_rfl) Y (cv b_223 Y Y Y Y (fun w' hs => spec_l4Renamed) ?_))))
   refine tS (fun _ hs => hs) (ty 11 Y (by kernel_rfl) Y (D_bs s_58 y_9 Y (by decide) (by decide) Y Y Y Y Y Y fun g14 => ?_))
   refine tS (fun _ hs => hs.pk [1, 2, 3, 4] Y Y) (D_fs x0 (D_pkO [2, 0, 1, 3, 4, 5] Y (ty 12 Y (by kernel_rfl) Y (D_ap s_58 y_9 Y (by decide) Y Y Y Y Y Y (by first | omega | (simp; omega)) (by first | omega | (simp; omega)) fun v15 => ?_))))
   refine tZ Y (ty 13 Y (by kernel_rfl) Y (sv Y Y (Db f_147_1 Y Y (q := 1) Y) ?_))
   refine tZ Y (ty 14 Y (by kernel_rfl) Y (sv Y Y (Db f_145_1 Y Y (q := 2) Y) ?_))
   refine tZ Y (Dp (fun w' hs => one_own (k := 0) hs Y) ?_)
   intro ho16
   refine ty 15 Y (by kernel_rfl) Y (D_stb (vs := [v15]) (cs' := [(iv x.Kind), (.string x.Pattern.Rel), v15, (.string x.Left), (.string x.Right)]) 1 z_58 Y Y Y Y Y (cells_of_one ho16) (ocons ho16 onil) (by simp) Y ?_)
   refine tZ Y (tE (by kernel_rfl) (Xb (Xt (D_wk [1, 2, 4, 5, 6] Y (Dh ([ov [v15] ((x.Pattern.Args.take k) ++ [x0] : (List ByteArray)), bx g7 [(iv x.Kind), (.string x.Pattern.Rel), v15, (.string x.Left), (.string x.Right)], _, _]) Y (Cr (p1 Y (q1 Y (D_add Y Y Y (r := ((k + 1 : Nat) : Int)) (by omega) (by omega)) (Pe Y (D_eq 0 Y (show ((x.Pattern.Args.take k) ++ [x0] : (List ByteArray)) = x.Pattern.Args.take (k + 1) from by exact (take_snoc x0h).symm) (fun ac w' hf hs => ⟨_, ?_, k + 1, v15, ?_, Y, hf.wk Y, hs⟩)))))))))))
   ·omega
   ·first | assumption | omega | simp
  ·have pr10 := odF h10
   refine Cx (Xx (Xx (Xe (Xt (Sr (q1 Y (lbw 1 a_147 Y Y Y) (Dp (fun w' hs => one_own (k := 0) hs Y) ?_)))))))
   intro ho17
   refine li Y (D_stb (vs := [(iv x.Kind), (.string x.Pattern.Rel), v, (.string x.Left), (.string x.Right)]) (cs' := [(iv x.Kind), (.string x.Pattern.Rel), v, (.string x.Left), (.string x.Right)]) 2 z_147 Y Y Y Y Y Y (ocons Y (ocons Y (ocons ho17 (ocons Y (ocons Y onil))))) (by simp) Y ?_)
   refine Dx (Ct (pk_Cond (r := (⟨x.Kind, ⟨x.Pattern.Rel, x.Pattern.Args.take k⟩, x.Left, x.Right⟩ : Cond)) (R_c 2 a_147 Y Y Y fun w' hs => res_of (k := 0) hs Y ?_)))
   show (⟨x.Kind, ⟨x.Pattern.Rel, x.Pattern.Args.take k⟩, x.Left, x.Right⟩ : Cond) = x
   show (⟨x.Kind, ⟨x.Pattern.Rel, x.Pattern.Args.take k⟩, x.Left, x.Right⟩ : Cond) = x; rw [List.take_of_length_le (by omega)]
theorem spec_l4Copy {w : World} {c_x : List Value} {x : Cond} (h_x : Gd.rd w c_x x) (hx : szCond x ≤ 1048576) : Calls Tryz.prog 206 [(.agg c_x.toArray)].toArray w (Res w (x : Cond)) := by
 obtain ⟨u1, rfl, hu2⟩ := open_Cond h_x
 have hm3 := rd_max hu2
 have hb4 := sub_Cond_Pattern h_x
 refine enter 5 Tryz.func206 Y Y Y (Sr (li Y (D_box Y Y Y Y Y fun g5 => ?_)))
 refine li Y (D_alloc y_147 Y Y Y Y fun g6 => ?_)
 refine Dx (Dh ([bx g6 [(iv 0), (.string ⟨#[]⟩), (.slice none 0 0), (.string ⟨#[]⟩), (.string ⟨#[]⟩)], bx g5 [(iv x.Kind), (.string x.Pattern.Rel), u1, (.string x.Left), (.string x.Right)]]) Y (Sr (q1 Y (lbw 1 a_147 Y Y Y) (li Y (crs Y b_215 Y Y Y Y (fun w' hs => (spec_RenameCond (rA hs h_x) (by first | assumption | omega | (unfold szm at *; split at * <;> omega)))) fun cs7 => ?_)))))
 refine Dp (fun w' hs => shape_Cond (rO (k := 0) hs Y)) ?_
 rintro ⟨v8, rfl, ho9⟩
 refine li Y (D_stb (vs := [(iv x.Kind), (.string x.Pattern.Rel), v8, (.string x.Left), (.string x.Right)]) (cs' := [(iv x.Kind), (.string x.Pattern.Rel), v8, (.string x.Left), (.string x.Right)]) 1 z_147 Y Y Y Y Y Y (ocons Y (ocons Y (ocons ho9 (ocons Y (ocons Y onil))))) (by simp) Y ?_)
 refine Dx (Ct (R_c 1 a_147 Y Y Y fun w' hs => res_of (k := 0) hs Y ?_))
 show x = x
 rfl
theorem impl_copyConds {w : World} {v_l : Value} {l : (List Cond)} (h_l : Gd.rd w [v_l] l) (hn : szL szCond l ≤ 1048576) : Calls Tryz.prog 208 [v_l].toArray w (Res w (l : List Cond)) := by
 have hm1 := rd_max h_l
 unfold szL at hn
 refine enter 19 Tryz.func208 Y Y Y (Sr (Pe Y (Sr (Pe Y (Cq (Sr (p1 Y (q1 Y (Dl s_93 Y Y (rd_sl h_l)) (Pe Y (Cb (Cl (fun m_ ac w' => ∃ (k : Nat), ∃ (v : Value), (k ≤ l.length) ∧ m_ = l.length - k ∧ Fits ac 19 [(3, v), (6, v_l), (7, (nv l.length)), (8, (nv k))] ∧ St w ([ov [v] (l.take k : (List Cond))]) w') ?_ ?_)))))))))))
 ·refine D_nil (α := Cond) (D_eq 0 Y (show ([] : (List Cond)) = l.take 0 from by simp) (fun ac w' hf hs => ⟨_, 0, (.slice none 0 0), ?_, Y, hf.wk Y, hs⟩))
  ·first | assumption | omega | simp
 ·rintro m_ ac w' ⟨k, v, hk, rfl, hf, hs⟩
  refine D.use ?_ hf hs
  clear hf hs ac w'
  have hcl : (l.take k).length ≤ k := by rw [List.length_take]; omega
  refine Sr (Pe Y (Dh ([_]) Y (Cq (Ci _ Y (fun h2 => ?_) (fun h2 => ?_)))))
  ·have pr2 := odT h2
   refine Sk (Cq (Cb (Sr ?_)))
   obtain ⟨x0, x0h⟩ := sL (l := l) (i := k) (by omega)
   have hle := sumC_mem (c := szCond) (List.mem_of_getElem? x0h)
   obtain ⟨es3, at4, hr5⟩ := rd_elem (n := 5) rfl h_l x0h
   obtain ⟨u6, rfl, hu7⟩ := open_Cond hr5
   have hm8 := rd_max hu7
   have hb9 := sub_Cond_Pattern hr5
   refine q1 Y (D_ix (l := l) (j := k) s_93 Y Y Y (fun w' hs => (rA hs h_l)) Y (lS x0h)) (q1 Y (lra a_147 Y Y at4) (li Y (D_alloc y_147 Y Y Y Y fun g10 => ?_)))
   refine li Y (D_stb (vs := [(iv x0.Kind), (.string x0.Pattern.Rel), u6, (.string x0.Left), (.string x0.Right)]) (cs' := [(iv x0.Kind), (.string x0.Pattern.Rel), u6, (.string x0.Left), (.string x0.Right)]) 0 z_147 Y Y Y Y Y Y (ocons Y (ocons Y (ocons (one_rd hu7) (ocons Y (ocons Y onil))))) (by simp) Y ?_)
   refine Dx (Dh ([bx g10 [(iv x0.Kind), (.string x0.Pattern.Rel), u6, (.string x0.Left), (.string x0.Right)], _]) Y (Cr (p1 Y (q1 Y (lbw 0 a_147 Y Y Y) (li Y (crs Y b_216 Y Y Y Y (fun w' hs => (impl_copyCond (rA hs hr5) (by first | assumption | omega | (unfold szm at *; split at * <;> omega)))) fun cs11 => ?_))))))
   refine Dp (fun w' hs => shape_Cond (rO (k := 0) hs Y)) ?_
   rintro ⟨v12, rfl, ho13⟩
   refine li Y (D_bs s_93 y_147 Y (by decide) (by decide) Y Y Y Y Y Y fun g14 => ?_)
   refine D_pkO [3, 1, 0, 2] Y (li Y (D_ap s_93 y_147 Y (by decide) Y Y Y Y Y Y (by first | omega | (simp; omega)) (by first | omega | (simp; omega)) fun v15 => ?_))
   refine p1 Y (De (Xb (Xt (Dh ([ov [v15] ((l.take k) ++ [x0] : (List Cond)), _]) Y (Cr (q1 Y (D_add Y Y Y (r := ((k + 1 : Nat) : Int)) (by omega) (by omega)) (Pe Y (D_eq 0 Y (show ((l.take k) ++ [x0] : (List Cond)) = l.take (k + 1) from by exact (take_snoc x0h).symm) (fun ac w' hf hs => ⟨_, ?_, k + 1, v15, ?_, Y, hf.wk Y, hs.pk [0] Y Y⟩)))))))))
   ·omega
   ·first | assumption | omega | simp
  ·have pr2 := odF h2
   refine Cx (Xx (Xx (Xe (Xt (Sr (P2 Y Y (Dx (Ct (R_1 Y Y fun w' hs => res_of (k := 0) hs Y ?_)))))))))
   show l.take k = l
   rw [List.take_of_length_le (by omega)]
theorem impl_copyRule {w : World} {c_r : List Value} {r : Rule} (h_r : Gd.rd w c_r r) (hn : szRule r ≤ 1048576) : Calls Tryz.prog 183 [(.agg c_r.toArray)].toArray w (Res w (r : Rule)) := by
 obtain ⟨u1, u3, rfl, hu2, hu4⟩ := open_Rule h_r
 have hm5 := rd_max hu2
 have hm6 := rd_max hu4
 unfold szRule szL at hn
 refine enter 34 Tryz.func183 Y Y Y (Sr (li Y (D_box Y Y Y Y Y fun g7 => ?_)))
 refine li Y (D_alloc y_96 Y Y Y Y fun g8 => ?_)
 refine Dx (Dh ([bx g8 [(.string ⟨#[]⟩), (iv 0), (.slice none 0 0), (.slice none 0 0)], bx g7 [(.string r.Name), (iv r.Priority), u1, u3]]) Y (Cq (C_join (fun ac w' => ∃ (g11 : Nat), ∃ (v9 : Value), (v9.oneCell' = true) ∧ Fits ac 34 [(1, (pv g7)), (2, (pv g8)), (3, (pv g11))] ∧ St w ([bx g11 [(.string r.Name), (iv r.Priority), v9, (.slice none 0 0)], ov [v9] (r.If : (List Cond)), bx g8 [(.string ⟨#[]⟩), (iv 0), (.slice none 0 0), (.slice none 0 0)], bx g7 [(.string r.Name), (iv r.Priority), u1, u3]]) w') ?_ ?_)))
 ·refine C_draw mixed [9] (by kernel_rfl) (Tk 0 Y (by kernel_rfl) Y (Db f_96_0 Y Y (q := 0) Y) (Tk 1 Y (by kernel_rfl) Y (lb 1 o_9 Y Y Y Y) (Tk 2 Y (by kernel_rfl) Y (Db f_96_1 Y Y (q := 1) Y) (Tk 3 Y (by kernel_rfl) Y (lb 1 o_3 Y Y Y Y) (Tk 4 Y (by kernel_rfl) Y (Db f_96_2 Y Y (q := 2) Y) (Tk 5 Y (by kernel_rfl) Y (lb 1 o_93 Y Y Y Y) (tyN [6, 8] Y (by kernel_rfl) ⟨⟨_, Y, Y, ?_⟩, ⟨_, Y, Y, ?_⟩, trivial⟩)))))))
  ·refine id (crl b_208 Y Y Y Y (fun w' hs => (impl_copyConds (rA hs hu2) (by unfold szL; omega))) fun v9 => ?_)
   refine tS (fun _ hs => hs.pk [1, 2] Y Y) (Dp (fun w' hs => one_own (k := 0) hs Y) ?_)
   intro ho10
   refine Tj 7 Y (by kernel_rfl) Y (fun _ hs => hs.pk [1, 2] Y Y) (D_built (vs := [(0, (.string r.Name)), (1, (iv r.Priority)), (2, v9)]) (xs := [(0, [(.string r.Name)]), (1, [(iv r.Priority)]), (2, [v9])]) (cs := [(.string r.Name), (iv r.Priority), v9, (.slice none 0 0)]) pl_96 Y ⟨Y, Y, ⟨Y, Y, ⟨Y, (cells_of_one ho10), trivial⟩⟩⟩ Y Y) (ty 8 Y (by kernel_rfl) Y (D_alloc y_96 Y Y Y Y fun g11 => ?_))
   refine tS (fun _ hs => hs.pk [2, 3] Y Y) (ty 9 Y (by kernel_rfl) Y (D_stb (vs := [(.string r.Name), (iv r.Priority), v9, (.slice none 0 0)]) (cs' := [(.string r.Name), (iv r.Priority), v9, (.slice none 0 0)]) 0 z_96 Y Y Y Y Y Y (ocons Y (ocons Y (ocons ho10 (ocons Y onil)))) (by simp) Y ?_))
   refine tZ Y (tE (by kernel_rfl) (Xt (fun ac w' hf hs => ⟨g11, v9, ho10, hf.wk Y, hs⟩)))
  ·refine id (D_alloc y_96 Y Y Y Y fun g12 => ?_)
   refine tS (fun _ hs => hs.pk [1, 2] Y Y) (ty 6 Y (by kernel_rfl) Y (crl b_208 Y Y Y Y (fun w' hs => (impl_copyConds (rA hs hu2) (by unfold szL; omega))) fun v13 => ?_))
   refine tS (fun _ hs => hs.pk [2, 3] Y Y) (Dp (fun w' hs => one_own (k := 0) hs Y) ?_)
   intro ho14
   refine Tj 7 Y (by kernel_rfl) Y (fun _ hs => hs.pk [2, 3] Y Y) (D_built (vs := [(0, (.string r.Name)), (1, (iv r.Priority)), (2, v13)]) (xs := [(0, [(.string r.Name)]), (1, [(iv r.Priority)]), (2, [v13])]) (cs := [(.string r.Name), (iv r.Priority), v13, (.slice none 0 0)]) pl_96 Y ⟨Y, Y, ⟨Y, Y, ⟨Y, (cells_of_one ho14), trivial⟩⟩⟩ Y Y) (ty 9 Y (by kernel_rfl) Y (D_stb (vs := [(.string r.Name), (iv r.Priority), v13, (.slice none 0 0)]) (cs' := [(.string r.Name), (iv r.Priority), v13, (.slice none 0 0)]) 1 z_96 Y Y Y Y Y Y (ocons Y (ocons Y (ocons ho14 (ocons Y onil)))) (by simp) Y ?_))
   refine tZ Y (tE (by kernel_rfl) (Xt (fun ac w' hf hs => ⟨g12, v13, ho14, hf.wk Y, hs.pk [1, 0, 2, 3] Y Y⟩)))
 rintro ac w' ⟨g11, v9, ho10, hf, hs⟩
 refine D.use ?_ hf hs
 clear hf hs ac w'
 refine Xt (Dh ([_, _, _, _]) Y (Cq (Sr (q1 Y (Db f_96_3 Y Y (q := 3) Y) (q1 Y (lb 3 o_94 Y Y Y Y) (q1 Y (Dl s_94 Y Y (rd_sl hu4)) (Pe Y (Cb (Cl (fun m_ ac w' => ∃ (k : Nat), ∃ (v : Value), (k ≤ r.Then.length) ∧ m_ = r.Then.length - k ∧ Fits ac 34 [(2, (pv g8)), (3, (pv g11)), (15, u3), (16, (nv r.Then.length)), (17, (nv k))] ∧ St w ([ov [v] (r.Then.take k : (List Action)), bx g11 [(.string r.Name), (iv r.Priority), v9, v], ov [v9] (r.If : (List Cond)), bx g8 [(.string ⟨#[]⟩), (iv 0), (.slice none 0 0), (.slice none 0 0)], bx g7 [(.string r.Name), (iv r.Priority), u1, u3]]) w') ?_ ?_)))))))))
 ·refine D_nil (α := Action) (D_eq 0 Y (show ([] : (List Action)) = r.Then.take 0 from by simp) (fun ac w' hf hs => ⟨_, 0, (.slice none 0 0), ?_, Y, hf.wk Y, hs⟩))
  ·first | assumption | omega | simp
 ·rintro m_ ac w' ⟨k, v, hk, rfl, hf, hs⟩
  refine D.use ?_ hf hs
  clear hf hs ac w'
  have hclk : (r.Then.take k).length ≤ k := by rw [List.length_take]; omega
  refine Sr (Pe Y (Dh ([_, _, _, _, _]) Y (Cq (Ci _ Y (fun h15 => ?_) (fun h15 => ?_)))))
  ·have pr15 := odT h15
   refine Sk (Cq (Cb (Sr ?_)))
   obtain ⟨a0, a0h⟩ := sL (l := r.Then) (i := k) (by omega)
   have haz := act_sz a0h
   have hap : szAction a0 = szPattern a0.Pattern := rfl
   have hpa := szPat_args a0.Pattern
   obtain ⟨es16, at17, hr18⟩ := rd_elem (n := 3) rfl hu4 a0h
   obtain ⟨u19, rfl, hu20⟩ := open_Action hr18
   have hm21 := rd_max hu20
   have hb22 := sub_Action_Pattern hr18
   refine q1 Y (D_ix (l := r.Then) (j := k) s_94 Y Y Y (fun w' hs => (rA hs hu4)) Y (lS a0h)) (q1 Y (lra a_159 Y Y at17) (li Y (D_alloc y_159 Y Y Y Y fun g23 => ?_)))
   refine li Y (D_stb (vs := [(iv a0.Kind), (.string a0.Pattern.Rel), u19]) (cs' := [(iv a0.Kind), (.string a0.Pattern.Rel), u19]) 0 z_159 Y Y Y Y Y Y (ocons Y (ocons Y (ocons (one_rd hu20) onil))) (by simp) Y ?_)
   refine Dx (Dh ([bx g23 [(iv a0.Kind), (.string a0.Pattern.Rel), u19], _, _, _, _, _]) Y (C_draw mixed [9, 10, 11] (by kernel_rfl) (Tk 0 Y (by kernel_rfl) Y (Db f_96_3 Y Y (q := 3) Y) (Tk 1 Y (by kernel_rfl) Y (lb 2 o_94 Y Y Y Y) (Tk 2 Y (by kernel_rfl) Y (Db f_159_0 Y Y (q := 0) Y) (Tk 3 Y (by kernel_rfl) Y (lb 0 o_3 Y Y Y Y) (Tk 4 Y (by kernel_rfl) Y (Db f_159_1 Y Y (q := 1) Y) (Tk 5 Y (by kernel_rfl) Y (lba (es := [(.string a0.Pattern.Rel), u19]) 0 a_145 Y Y Y Y) (ty 6 Y (by kernel_rfl) Y (crs Y b_209 Y Y Y Y (fun w' hs => (impl_copyPattern (rA hs hb22) (by first | assumption | omega | (unfold szm at *; split at * <;> omega)))) fun cs24 => ?_))))))))))
   refine Dp (fun w' hs => shape_Pattern (rO (k := 0) hs Y)) ?_
   rintro ⟨v25, rfl, ho26⟩
   refine tS (fun _ hs => hs.pk [1, 2, 3, 4, 5, 6] Y Y) (Tj 7 Y (by kernel_rfl) Y (fun _ hs => hs.pk [1, 2, 3, 4, 5, 6] Y Y) (D_built (vs := [(0, (iv a0.Kind)), (1, (.agg #[(.string a0.Pattern.Rel), v25]))]) (xs := [(0, [(iv a0.Kind)]), (1, [(.string a0.Pattern.Rel), v25])]) (cs := [(iv a0.Kind), (.string a0.Pattern.Rel), v25]) pl_159 Y ⟨Y, Y, ⟨Y, Y, trivial⟩⟩ Y Y) (ty 8 Y (by kernel_rfl) Y (D_bs s_94 y_159 Y (by decide) (by decide) Y Y Y Y Y Y fun g27 => ?_)))
   refine tS (fun _ hs => hs.pk [2, 3, 4, 5, 6, 7] Y Y) (D_pkO [1, 0, 2, 3, 4, 5, 6, 7] Y (D_unpair (α := ByteArray) (β := (List ByteArray)) (c1 := [(.string a0.Pattern.Rel)]) (c2 := [v25]) (x := a0.Pattern.Rel) (y := (a0.Pattern.Args)) Y Y (D_fd [] 1 Y (pk_Action (r := (a0 : Action)) (D_pkO [3, 0, 1, 2, 4, 5, 6, 7] Y (ty 9 Y (by kernel_rfl) Y (D_ap s_94 y_159 Y (by decide) Y Y Y Y Y Y (by first | omega | (simp; omega)) (by first | omega | (simp; omega)) fun v28 => ?_)))))))
   refine tZ Y (ty 10 Y (by kernel_rfl) Y (sv Y Y (Db f_96_3 Y Y (q := 3) Y) ?_))
   refine tZ Y (Dp (fun w' hs => one_own (k := 0) hs Y) ?_)
   intro ho29
   refine ty 11 Y (by kernel_rfl) Y (D_stb (vs := [v28]) (cs' := [(.string r.Name), (iv r.Priority), v9, v28]) 2 z_94 Y Y Y Y Y (cells_of_one ho29) (ocons ho29 onil) (by simp) Y ?_)
   refine tZ Y (tE (by kernel_rfl) (Xb (Xt (D_wk [2, 3, 15, 16, 17] Y (D_pkO [0, 2, 3, 4, 5] Y (Dh ([ov [v28] ((r.Then.take k) ++ [(a0 : Action)] : (List Action)), bx g11 [(.string r.Name), (iv r.Priority), v9, v28], _, _, _]) Y (Cr (q1 Y (D_add Y Y Y (r := ((k + 1 : Nat) : Int)) (by omega) (by omega)) (Pe Y (D_eq 0 Y (show ((r.Then.take k) ++ [(a0 : Action)] : (List Action)) = r.Then.take (k + 1) from by exact (take_snoc a0h).symm) (fun ac w' hf hs => ⟨_, ?_, k + 1, v28, ?_, Y, hf.wk Y, hs⟩)))))))))))
   ·omega
   ·first | assumption | omega | simp
  ·have pr15 := odF h15
   refine Cx (Xx (Xx (Xe (Xt (Sr (q1 Y (lbw 1 a_96 Y Y Y) (Dp (fun w' hs => one_own (k := 0) hs Y) ?_)))))))
   intro ho30
   refine Dp (fun w' hs => one_own (k := 2) hs Y) ?_
   intro ho31
   refine li Y (D_stb (vs := [(.string r.Name), (iv r.Priority), v9, v]) (cs' := [(.string r.Name), (iv r.Priority), v9, v]) 3 z_96 Y Y Y Y Y Y (ocons Y (ocons Y (ocons ho31 (ocons ho30 onil)))) (by simp) Y ?_)
   refine Dx (Ct (D_pkO [2, 0, 1, 3, 4] Y (pk_Rule (r := (⟨r.Name, r.Priority, r.If, r.Then.take k⟩ : Rule)) (R_c 2 a_96 Y Y Y fun w' hs => res_of (k := 0) hs Y ?_))))
   show (⟨r.Name, r.Priority, r.If, r.Then.take k⟩ : Rule) = r
   show (⟨r.Name, r.Priority, r.If, r.Then.take k⟩ : Rule) = r; rw [List.take_of_length_le (by omega)]
theorem impl_copyRules {w : World} {v_l : Value} {l : (List Rule)} (h_l : Gd.rd w [v_l] l) (hn : szL szRule l ≤ 1048576) : Calls Tryz.prog 131 [v_l].toArray w (Res w (l : List Rule)) := by
 have hm1 := rd_max h_l
 unfold szL at hn
 refine enter 19 Tryz.func131 Y Y Y (Sr (Pe Y (Sr (Pe Y (Cq (Sr (p1 Y (q1 Y (Dl s_40 Y Y (rd_sl h_l)) (Pe Y (Cb (Cl (fun m_ ac w' => ∃ (k : Nat), ∃ (v : Value), (k ≤ l.length) ∧ m_ = l.length - k ∧ Fits ac 19 [(3, v), (6, v_l), (7, (nv l.length)), (8, (nv k))] ∧ St w ([ov [v] (l.take k : (List Rule))]) w') ?_ ?_)))))))))))
 ·refine D_nil (α := Rule) (D_eq 0 Y (show ([] : (List Rule)) = l.take 0 from by simp) (fun ac w' hf hs => ⟨_, 0, (.slice none 0 0), ?_, Y, hf.wk Y, hs⟩))
  ·first | assumption | omega | simp
 ·rintro m_ ac w' ⟨k, v, hk, rfl, hf, hs⟩
  refine D.use ?_ hf hs
  clear hf hs ac w'
  have hcl : (l.take k).length ≤ k := by rw [List.length_take]; omega
  refine Sr (Pe Y (Dh ([_]) Y (Cq (Ci _ Y (fun h2 => ?_) (fun h2 => ?_)))))
  ·have pr2 := odT h2
   refine Sk (Cq (Cb (Sr ?_)))
   obtain ⟨x0, x0h⟩ := sL (l := l) (i := k) (by omega)
   have hle := sumC_mem (c := szRule) (List.mem_of_getElem? x0h)
   obtain ⟨es3, at4, hr5⟩ := rd_elem (n := 4) rfl h_l x0h
   obtain ⟨u6, u9, rfl, hu7, hu10⟩ := open_Rule hr5
   have hm11 := rd_max hu7
   have hm12 := rd_max hu10
   refine q1 Y (D_ix (l := l) (j := k) s_40 Y Y Y (fun w' hs => (rA hs h_l)) Y (lS x0h)) (q1 Y (lra a_96 Y Y at4) (li Y (D_alloc y_96 Y Y Y Y fun g13 => ?_)))
   refine li Y (D_stb (vs := [(.string x0.Name), (iv x0.Priority), u6, u9]) (cs' := [(.string x0.Name), (iv x0.Priority), u6, u9]) 0 z_96 Y Y Y Y Y Y (ocons Y (ocons Y (ocons (one_rd hu7) (ocons (one_rd hu10) onil)))) (by simp) Y ?_)
   refine Dx (Dh ([bx g13 [(.string x0.Name), (iv x0.Priority), u6, u9], _]) Y (Cr (p1 Y (q1 Y (lbw 0 a_96 Y Y Y) (li Y (crs Y b_183 Y Y Y Y (fun w' hs => (impl_copyRule (rA hs hr5) (by first | assumption | omega | (unfold szm at *; split at * <;> omega)))) fun cs14 => ?_))))))
   refine Dp (fun w' hs => shape_Rule (rO (k := 0) hs Y)) ?_
   rintro ⟨v15, v16, rfl, ho17, ho18⟩
   refine li Y (D_bs s_40 y_96 Y (by decide) (by decide) Y Y Y Y Y Y fun g19 => ?_)
   refine D_pkO [3, 1, 0, 2] Y (li Y (D_ap s_40 y_96 Y (by decide) Y Y Y Y Y Y (by first | omega | (simp; omega)) (by first | omega | (simp; omega)) fun v20 => ?_))
   refine p1 Y (De (Xb (Xt (Dh ([ov [v20] ((l.take k) ++ [x0] : (List Rule)), _]) Y (Cr (q1 Y (D_add Y Y Y (r := ((k + 1 : Nat) : Int)) (by omega) (by omega)) (Pe Y (D_eq 0 Y (show ((l.take k) ++ [x0] : (List Rule)) = l.take (k + 1) from by exact (take_snoc x0h).symm) (fun ac w' hf hs => ⟨_, ?_, k + 1, v20, ?_, Y, hf.wk Y, hs.pk [0] Y Y⟩)))))))))
   ·omega
   ·first | assumption | omega | simp
  ·have pr2 := odF h2
   refine Cx (Xx (Xx (Xe (Xt (Sr (P2 Y Y (Dx (Ct (R_1 Y Y fun w' hs => res_of (k := 0) hs Y ?_)))))))))
   show l.take k = l
   rw [List.take_of_length_le (by omega)]
theorem spec_l5Copy {w : World} {c_r : List Value} {r : Rule} (h_r : Gd.rd w c_r r) (hn : szRule r ≤ 1048576) : Calls Tryz.prog 177 [(.agg c_r.toArray)].toArray w (Res w (r : Rule)) := by
 obtain ⟨u1, u3, rfl, hu2, hu4⟩ := open_Rule h_r
 have hm5 := rd_max hu2
 have hm6 := rd_max hu4
 unfold szRule szL at hn
 refine enter 56 Tryz.func177 Y Y Y (Sr (li Y (D_box Y Y Y Y Y fun g7 => ?_)))
 refine li Y (D_alloc y_96 Y Y Y Y fun g8 => ?_)
 refine Dx (Dh ([bx g8 [(.string ⟨#[]⟩), (iv 0), (.slice none 0 0), (.slice none 0 0)], bx g7 [(.string r.Name), (iv r.Priority), u1, u3]]) Y (Sr (q1 Y (Db f_96_0 Y Y (q := 0) Y) (q1 Y (lb 1 o_9 Y Y Y Y) (q1 Y (Db f_96_1 Y Y (q := 1) Y) (q1 Y (lb 1 o_3 Y Y Y Y) (q1 Y (D_build (vs := [(0, (.string r.Name)), (1, (iv r.Priority))]) (cs := [(.string r.Name), (iv r.Priority), (.slice none 0 0), (.slice none 0 0)]) Y (fun _ => by kernel_rfl) Y) (li Y (D_alloc y_96 Y Y Y Y fun g9 => ?_)))))))))
 refine li Y (D_stb (vs := [(.string r.Name), (iv r.Priority), (.slice none 0 0), (.slice none 0 0)]) (cs' := [(.string r.Name), (iv r.Priority), (.slice none 0 0), (.slice none 0 0)]) 0 z_96 Y Y Y Y Y Y (ocons Y (ocons Y (ocons Y (ocons Y onil)))) (by simp) Y ?_)
 refine Dx (Dh ([bx g9 [(.string r.Name), (iv r.Priority), (.slice none 0 0), (.slice none 0 0)], _, _]) Y (Cq (Sr (Pe Y (Cb (Cl (fun m_ ac w' => ∃ (k : Nat), ∃ (v : Value), (k ≤ r.If.length) ∧ m_ = r.If.length - k ∧ Fits ac 56 [(1, (pv g7)), (2, (pv g8)), (3, (pv g9)), (4, (nv k))] ∧ St w ([ov [v] (r.If.take k : (List Cond)), bx g9 [(.string r.Name), (iv r.Priority), v, (.slice none 0 0)], bx g8 [(.string ⟨#[]⟩), (iv 0), (.slice none 0 0), (.slice none 0 0)], bx g7 [(.string r.Name), (iv r.Priority), u1, u3]]) w') ?_ ?_))))))
 ·refine D_nil (α := Cond) (D_eq 0 Y (show ([] : (List Cond)) = r.If.take 0 from by simp) (fun ac w' hf hs => ⟨_, 0, (.slice none 0 0), ?_, Y, hf.wk Y, hs⟩))
  ·first | assumption | omega | simp
 ·rintro m_ ac w' ⟨k, v, hk, rfl, hf, hs⟩
  refine D.use ?_ hf hs
  clear hf hs ac w'
  have hclk : (r.If.take k).length ≤ k := by rw [List.length_take]; omega
  refine Cq (Sr (p1 Y (q1 Y (Db f_96_2 Y Y (q := 2) Y) (q1 Y (lb 3 o_93 Y Y Y Y) (q1 Y (Dl s_93 Y Y (rd_sl hu2)) (Pe Y (Dh ([_, _, _, _]) Y (Ci _ Y (fun h10 => ?_) (fun h10 => ?_)))))))))
  ·have pr10 := odT h10
   refine Sk (Cq (Cb (C_draw mixed [9, 10, 11] (by kernel_rfl) (Tk 0 Y (by kernel_rfl) Y (Db f_96_2 Y Y (q := 2) Y) (Tk 1 Y (by kernel_rfl) Y (lb 1 o_93 Y Y Y Y) (Tk 2 Y (by kernel_rfl) Y (Db f_96_2 Y Y (q := 2) Y) (Tk 3 Y (by kernel_rfl) Y (lb 3 o_93 Y Y Y Y) (Tk 4 Y (by kernel_rfl) Y (rp Y) ?_))))))))
   obtain ⟨x0, x0h⟩ := sL (l := r.If) (i := k) (by omega)
   have hcz := cond_sz x0h
   obtain ⟨es11, at12, hr13⟩ := rd_elem (n := 5) rfl hu2 x0h
   obtain ⟨u14, rfl, hu15⟩ := open_Cond hr13
   have hm16 := rd_max hu15
   have hb17 := sub_Cond_Pattern hr13
   refine Tk 5 Y (by kernel_rfl) Y (D_ix (l := r.If) (j := k) s_93 Y Y Y (fun w' hs => (rA hs hu2)) Y (lS x0h)) (Tk 6 Y (by kernel_rfl) Y (lra a_147 Y Y at12) (ty 7 Y (by kernel_rfl) Y (crs Y b_206 Y Y Y Y (fun w' hs => (spec_l4Copy (rA hs hr13) (by first | assumption | omega | (unfold szm at *; split at * <;> omega)))) fun cs18 => ?_)))
   refine Dp (fun w' hs => shape_Cond (rO (k := 0) hs Y)) ?_
   rintro ⟨v19, rfl, ho20⟩
   refine tS (fun _ hs => hs.pk [1, 2, 3, 4] Y Y) (ty 8 Y (by kernel_rfl) Y (D_bs s_93 y_147 Y (by decide) (by decide) Y Y Y Y Y Y fun g21 => ?_))
   refine tS (fun _ hs => hs.pk [2, 3, 4, 5] Y Y) (D_pkO [2, 1, 0, 3, 4, 5] Y (ty 9 Y (by kernel_rfl) Y (D_ap s_93 y_147 Y (by decide) Y Y Y Y Y Y (by first | omega | (simp; omega)) (by first | omega | (simp; omega)) fun v22 => ?_)))
   refine tZ Y (ty 10 Y (by kernel_rfl) Y (sv Y Y (Db f_96_2 Y Y (q := 2) Y) ?_))
   refine tZ Y (Dp (fun w' hs => one_own (k := 0) hs Y) ?_)
   intro ho23
   refine ty 11 Y (by kernel_rfl) Y (D_stb (vs := [v22]) (cs' := [(.string r.Name), (iv r.Priority), v22, (.slice none 0 0)]) 1 z_93 Y Y Y Y Y (cells_of_one ho23) (ocons ho23 onil) (by simp) Y ?_)
   refine tZ Y (tE (by kernel_rfl) (Xb (Xt (D_wk [1, 2, 3, 4] Y (Dh ([ov [v22] ((r.If.take k) ++ [x0] : (List Cond)), bx g9 [(.string r.Name), (iv r.Priority), v22, (.slice none 0 0)], _, _]) Y (Cr (p1 Y (q1 Y (D_add Y Y Y (r := ((k + 1 : Nat) : Int)) (by omega) (by omega)) (Pe Y (D_eq 0 Y (show ((r.If.take k) ++ [x0] : (List Cond)) = r.If.take (k + 1) from by exact (take_snoc x0h).symm) (fun ac w' hf hs => ⟨_, ?_, k + 1, v22, ?_, Y, hf.wk Y, hs⟩)))))))))))
   ·omega
   ·first | assumption | omega | simp
  ·have pr10 := odF h10
   refine Cx (Xx (Xx (Xe (Xt (Cq (Sr (Pe Y (Cb (Cl (fun m_ ac w' => ∃ (j : Nat), ∃ (v2 : Value), (j ≤ r.Then.length) ∧ m_ = r.Then.length - j ∧ Fits ac 56 [(1, (pv g7)), (2, (pv g8)), (3, (pv g9)), (5, (nv j))] ∧ St w ([ov [v2] (r.Then.take j : (List Action)), ov [v] (r.If.take k : (List Cond)), bx g9 [(.string r.Name), (iv r.Priority), v, v2], bx g8 [(.string ⟨#[]⟩), (iv 0), (.slice none 0 0), (.slice none 0 0)], bx g7 [(.string r.Name), (iv r.Priority), u1, u3]]) w') ?_ ?_)))))))))
   ·refine D_nil (α := Action) (D_eq 0 Y (show ([] : (List Action)) = r.Then.take 0 from by simp) (fun ac w' hf hs => ⟨_, 0, (.slice none 0 0), ?_, Y, hf.wk Y, hs⟩))
    ·first | assumption | omega | simp
   ·rintro m_ ac w' ⟨j, v2, hj, rfl, hf, hs⟩
    refine D.use ?_ hf hs
    clear hf hs ac w'
    have hclj : (r.Then.take j).length ≤ j := by rw [List.length_take]; omega
    refine Cq (Sr (p1 Y (q1 Y (Db f_96_3 Y Y (q := 3) Y) (q1 Y (lb 4 o_94 Y Y Y Y) (q1 Y (Dl s_94 Y Y (rd_sl hu4)) (Pe Y (Dh ([_, _, _, _, _]) Y (Ci _ Y (fun h24 => ?_) (fun h24 => ?_)))))))))
    ·have pr24 := odT h24
     refine Sk (Cq (Cb (C_draw mixed [17, 18, 19] (by kernel_rfl) (Tk 0 Y (by kernel_rfl) Y (Db f_96_3 Y Y (q := 3) Y) (Tk 1 Y (by kernel_rfl) Y (lb 2 o_94 Y Y Y Y) (Tk 2 Y (by kernel_rfl) Y (Db f_96_3 Y Y (q := 3) Y) (Tk 3 Y (by kernel_rfl) Y (lb 4 o_94 Y Y Y Y) (Tk 4 Y (by kernel_rfl) Y (rp Y) ?_))))))))
     obtain ⟨a0, a0h⟩ := sL (l := r.Then) (i := j) (by omega)
     have haz := act_sz a0h
     have hap : szAction a0 = szPattern a0.Pattern := rfl
     have hpa := szPat_args a0.Pattern
     obtain ⟨es25, at26, hr27⟩ := rd_elem (n := 3) rfl hu4 a0h
     obtain ⟨u28, rfl, hu29⟩ := open_Action hr27
     have hm30 := rd_max hu29
     have hb31 := sub_Action_Pattern hr27
     refine Tk 5 Y (by kernel_rfl) Y (D_ix (l := r.Then) (j := j) s_94 Y Y Y (fun w' hs => (rA hs hu4)) Y (lS a0h)) (Tk 6 Y (by kernel_rfl) Y (D_fa f_159_0 Y Y) (Tk 7 Y (by kernel_rfl) Y (lr o_3 Y Y at26 Y) (Tk 8 Y (by kernel_rfl) Y (Db f_96_3 Y Y (q := 3) Y) (Tk 9 Y (by kernel_rfl) Y (lb 4 o_94 Y Y Y Y) (Tk 10 Y (by kernel_rfl) Y (rp Y) (Tk 11 Y (by kernel_rfl) Y (D_ix (l := r.Then) (j := j) s_94 Y Y Y (fun w' hs => (rA hs hu4)) Y (lS a0h)) (Tk 12 Y (by kernel_rfl) Y (D_fa f_159_1 Y Y) (Tk 13 Y (by kernel_rfl) Y (lra a_145 Y Y (at_sub (f := 1) (n := 2) at26 Y)) (ty 14 Y (by kernel_rfl) Y (crs Y b_207 Y Y Y Y (fun w' hs => (spec_l3CopyPattern (rA hs hb31) (by first | assumption | omega | (unfold szm at *; split at * <;> omega)))) fun cs32 => ?_))))))))))
     refine Dp (fun w' hs => shape_Pattern (rO (k := 0) hs Y)) ?_
     rintro ⟨v33, rfl, ho34⟩
     refine tS (fun _ hs => hs.pk [1, 2, 3, 4, 5] Y Y) (Tj 15 Y (by kernel_rfl) Y (fun _ hs => hs.pk [1, 2, 3, 4, 5] Y Y) (D_built (vs := [(0, (iv a0.Kind)), (1, (.agg #[(.string a0.Pattern.Rel), v33]))]) (xs := [(0, [(iv a0.Kind)]), (1, [(.string a0.Pattern.Rel), v33])]) (cs := [(iv a0.Kind), (.string a0.Pattern.Rel), v33]) pl_159 Y ⟨Y, Y, ⟨Y, Y, trivial⟩⟩ Y Y) (ty 16 Y (by kernel_rfl) Y (D_bs s_94 y_159 Y (by decide) (by decide) Y Y Y Y Y Y fun g35 => ?_)))
     refine tS (fun _ hs => hs.pk [2, 3, 4, 5, 6] Y Y) (D_pkO [1, 0, 2, 3, 4, 5, 6] Y (D_unpair (α := ByteArray) (β := (List ByteArray)) (c1 := [(.string a0.Pattern.Rel)]) (c2 := [v33]) (x := a0.Pattern.Rel) (y := (a0.Pattern.Args)) Y Y (D_fd [] 1 Y (pk_Action (r := (a0 : Action)) (D_pkO [2, 0, 1, 3, 4, 5, 6] Y (ty 17 Y (by kernel_rfl) Y (D_ap s_94 y_159 Y (by decide) Y Y Y Y Y Y (by first | omega | (simp; omega)) (by first | omega | (simp; omega)) fun v36 => ?_)))))))
     refine tZ Y (ty 18 Y (by kernel_rfl) Y (sv Y Y (Db f_96_3 Y Y (q := 3) Y) ?_))
     refine tZ Y (Dp (fun w' hs => one_own (k := 0) hs Y) ?_)
     intro ho37
     refine ty 19 Y (by kernel_rfl) Y (D_stb (vs := [v36]) (cs' := [(.string r.Name), (iv r.Priority), v, v36]) 2 z_94 Y Y Y Y Y (cells_of_one ho37) (ocons ho37 onil) (by simp) Y ?_)
     refine tZ Y (tE (by kernel_rfl) (Xb (Xt (D_wk [1, 2, 3, 5] Y (Dh ([ov [v36] ((r.Then.take j) ++ [(a0 : Action)] : (List Action)), _, bx g9 [(.string r.Name), (iv r.Priority), v, v36], _, _]) Y (Cr (p1 Y (q1 Y (D_add Y Y Y (r := ((j + 1 : Nat) : Int)) (by omega) (by omega)) (Pe Y (D_eq 0 Y (show ((r.Then.take j) ++ [(a0 : Action)] : (List Action)) = r.Then.take (j + 1) from by exact (take_snoc a0h).symm) (fun ac w' hf hs => ⟨_, ?_, j + 1, v36, ?_, Y, hf.wk Y, hs⟩)))))))))))
     ·omega
     ·first | assumption | omega | simp
    ·have pr24 := odF h24
     refine Cx (Xx (Xx (Xe (Xt (Sr (q1 Y (lbw 2 a_96 Y Y Y) (Dp (fun w' hs => one_own (k := 0) hs Y) ?_)))))))
     intro ho38
     refine Dp (fun w' hs => one_own (k := 1) hs Y) ?_
     intro ho39
     refine li Y (D_stb (vs := [(.string r.Name), (iv r.Priority), v, v2]) (cs' := [(.string r.Name), (iv r.Priority), v, v2]) 3 z_96 Y Y Y Y Y Y (ocons Y (ocons Y (ocons ho39 (ocons ho38 onil)))) (by simp) Y ?_)
     refine Dx (Ct (D_pkO [1, 0, 2, 3, 4] Y (pk_Rule (r := (⟨r.Name, r.Priority, r.If.take k, r.Then.take j⟩ : Rule)) (R_c 2 a_96 Y Y Y fun w' hs => res_of (k := 0) hs Y ?_))))
     show (⟨r.Name, r.Priority, r.If.take k, r.Then.take j⟩ : Rule) = r
     show (⟨r.Name, r.Priority, r.If.take k, r.Then.take j⟩ : Rule) = r; rw [List.take_of_length_le (by omega), List.take_of_length_le (by omega)]
theorem spec_l5Copies {w : World} {v_l : Value} {l : (List Rule)} (h_l : Gd.rd w [v_l] l) (hn : szL szRule l ≤ 1048576) : Calls Tryz.prog 122 [v_l].toArray w (Res w (l : List Rule)) := by
 have hm1 := rd_max h_l
 unfold szL at hn
 refine enter 21 Tryz.func122 Y Y Y (Sr (Pe Y (Sr (li Y (D_bs0 (α := Rule) s_40 Y Y Y fun v2 => ?_)))))
 refine Pe Y (Dh ([ov [v2] ([] : (List Rule))]) Y (Cq (Sr (Pe Y (Cb (Cl (fun m_ ac w' => ∃ (k : Nat), ∃ (v : Value), (k ≤ l.length) ∧ m_ = l.length - k ∧ Fits ac 21 [(0, v_l), (3, v), (4, (nv k))] ∧ St w ([ov [v] (l.take k : (List Rule))]) w') ?_ ?_))))))
 ·refine D_eq 0 Y (show ([] : (List Rule)) = l.take 0 from by simp) (fun ac w' hf hs => ⟨_, 0, v2, ?_, Y, hf.wk Y, hs⟩)
  ·first | assumption | omega | simp
 ·rintro m_ ac w' ⟨k, v, hk, rfl, hf, hs⟩
  refine D.use ?_ hf hs
  clear hf hs ac w'
  have hcl : (l.take k).length ≤ k := by rw [List.length_take]; omega
  refine Cq (Sr (P2 Y Y (q1 Y (Dl s_40 Y Y (rd_sl h_l)) (Pe Y (Dh ([_]) Y (Ci _ Y (fun h3 => ?_) (fun h3 => ?_)))))))
  ·have pr3 := odT h3
   refine Sk (Cq (Cb (Cr (P3 Y Y Y ?_))))
   obtain ⟨x0, x0h⟩ := sL (l := l) (i := k) (by omega)
   have hle := sumC_mem (c := szRule) (List.mem_of_getElem? x0h)
   obtain ⟨es4, at5, hr6⟩ := rd_elem (n := 4) rfl h_l x0h
   obtain ⟨u7, u9, rfl, hu8, hu10⟩ := open_Rule hr6
   have hm11 := rd_max hu8
   have hm12 := rd_max hu10
   refine q1 Y (D_ix (l := l) (j := k) s_40 Y Y Y (fun w' hs => (rA hs h_l)) Y (lS x0h)) (q1 Y (lra a_96 Y Y at5) (li Y (crs Y b_177 Y Y Y Y (fun w' hs => (spec_l5Copy (rA hs hr6) (by first | assumption | omega | (unfold szm at *; split at * <;> omega)))) fun cs13 => ?_)))
   refine Dp (fun w' hs => shape_Rule (rO (k := 0) hs Y)) ?_
   rintro ⟨v14, v15, rfl, ho16, ho17⟩
   refine li Y (D_bs s_40 y_96 Y (by decide) (by decide) Y Y Y Y Y Y fun g18 => ?_)
   refine D_pkO [2, 1, 0] Y (li Y (D_ap s_40 y_96 Y (by decide) Y Y Y Y Y Y (by first | omega | (simp; omega)) (by first | omega | (simp; omega)) fun v19 => ?_))
   refine p1 Y (De (Xb (Xt (Dh ([ov [v19] ((l.take k) ++ [x0] : (List Rule))]) Y (Cr (p1 Y (q1 Y (D_add Y Y Y (r := ((k + 1 : Nat) : Int)) (by omega) (by omega)) (Pe Y (D_eq 0 Y (show ((l.take k) ++ [x0] : (List Rule)) = l.take (k + 1) from by exact (take_snoc x0h).symm) (fun ac w' hf hs => ⟨_, ?_, k + 1, v19, ?_, Y, hf.wk Y, hs⟩))))))))))
   ·omega
   ·first | assumption | omega | simp
  ·have pr3 := odF h3
   refine Cx (Xx (Xx (Xe (Xt (Sr (P2 Y Y (Dx (Ct (R_1 Y Y fun w' hs => res_of (k := 0) hs Y ?_)))))))))
   show l.take k = l
   rw [List.take_of_length_le (by omega)]
end Go.Sy.Eng4
