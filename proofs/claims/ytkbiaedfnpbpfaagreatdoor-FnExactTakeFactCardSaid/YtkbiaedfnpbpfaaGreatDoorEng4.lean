/-
  Contracts of functions of the program, walked (printed by a program of ours).
  Conditions: those that each theorem states.
-/
import Derived.Test.YtkbiaedfnpbpfaaGreatDoorEng3
set_option linter.unusedVariables false
set_option maxRecDepth 20000
namespace Go.Sy.Eng4
open Go Go.RowKit Go.Proofs Go.Sy
theorem mixed : Tryz.prog.follows .mixedOrders = true := by kernel_rfl
theorem y_145 : zeroTy Tryz.prog 145 = some (.agg #[(.string ⟨#[]⟩), (.slice none 0 0)]) := by kernel_rfl
theorem f_145_0 : fieldOff Tryz.prog 145 0 = some 0 := by kernel_rfl
theorem o_9 : oneTy Tryz.prog 9 = true := by kernel_rfl
theorem f_145_1 : fieldOff Tryz.prog 145 1 = some 1 := by kernel_rfl
theorem o_58 : oneTy Tryz.prog 58 = true := by kernel_rfl
theorem b_184 : hasBody Tryz.prog 184 = true := by kernel_rfl
theorem pl_145 : placeTy Tryz.prog 145 = some ([(0, 1), (1, 1)], [(.string ⟨#[]⟩), (.slice none 0 0)]) := by kernel_rfl
theorem z_145 : sizeTy Tryz.prog 145 = some 2 := by kernel_rfl
theorem a_145 : aggTy Tryz.prog 145 = some 2 := by kernel_rfl
theorem b_178 : hasBody Tryz.prog 178 = true := by kernel_rfl
theorem y_147 : zeroTy Tryz.prog 147 = some (.agg #[(.int .i64 0), (.string ⟨#[]⟩), (.slice none 0 0), (.string ⟨#[]⟩), (.string ⟨#[]⟩)]) := by kernel_rfl
theorem f_147_1 : fieldOff Tryz.prog 147 1 = some 1 := by kernel_rfl
theorem b_209 : hasBody Tryz.prog 209 = true := by kernel_rfl
theorem a_147 : aggTy Tryz.prog 147 = some 5 := by kernel_rfl
theorem z_147 : sizeTy Tryz.prog 147 = some 5 := by kernel_rfl
theorem s_32 : sliceTy Tryz.prog 32 = some (151, 2, 32) := by kernel_rfl
theorem f_147_0 : fieldOff Tryz.prog 147 0 = some 0 := by kernel_rfl
theorem o_3 : oneTy Tryz.prog 3 = true := by kernel_rfl
theorem f_147_2 : fieldOff Tryz.prog 147 2 = some 3 := by kernel_rfl
theorem f_147_3 : fieldOff Tryz.prog 147 3 = some 4 := by kernel_rfl
theorem b_223 : hasBody Tryz.prog 223 = true := by kernel_rfl
theorem s_58 : sliceTy Tryz.prog 58 = some (9, 1, 16) := by kernel_rfl
theorem y_9 : zeroTy Tryz.prog 9 = some (.string ⟨#[]⟩) := by kernel_rfl
theorem z_58 : sizeTy Tryz.prog 58 = some 1 := by kernel_rfl
theorem b_215 : hasBody Tryz.prog 215 = true := by kernel_rfl
theorem s_93 : sliceTy Tryz.prog 93 = some (147, 5, 80) := by kernel_rfl
theorem b_216 : hasBody Tryz.prog 216 = true := by kernel_rfl
theorem y_96 : zeroTy Tryz.prog 96 = some (.agg #[(.string ⟨#[]⟩), (.int .i64 0), (.slice none 0 0), (.slice none 0 0)]) := by kernel_rfl
theorem f_96_0 : fieldOff Tryz.prog 96 0 = some 0 := by kernel_rfl
theorem f_96_1 : fieldOff Tryz.prog 96 1 = some 1 := by kernel_rfl
theorem f_96_2 : fieldOff Tryz.prog 96 2 = some 2 := by kernel_rfl
theorem o_93 : oneTy Tryz.prog 93 = true := by kernel_rfl
theorem b_208 : hasBody Tryz.prog 208 = true := by kernel_rfl
theorem pl_96 : placeTy Tryz.prog 96 = some ([(0, 1), (1, 1), (2, 1), (3, 1)], [(.string ⟨#[]⟩), (.int .i64 0), (.slice none 0 0), (.slice none 0 0)]) := by kernel_rfl
theorem z_96 : sizeTy Tryz.prog 96 = some 4 := by kernel_rfl
theorem f_96_3 : fieldOff Tryz.prog 96 3 = some 3 := by kernel_rfl
theorem o_94 : oneTy Tryz.prog 94 = true := by kernel_rfl
theorem s_94 : sliceTy Tryz.prog 94 = some (159, 3, 48) := by kernel_rfl
theorem a_159 : aggTy Tryz.prog 159 = some 3 := by kernel_rfl
theorem y_159 : zeroTy Tryz.prog 159 = some (.agg #[(.int .i64 0), (.string ⟨#[]⟩), (.slice none 0 0)]) := by kernel_rfl
theorem z_159 : sizeTy Tryz.prog 159 = some 3 := by kernel_rfl
theorem f_159_0 : fieldOff Tryz.prog 159 0 = some 0 := by kernel_rfl
theorem f_159_1 : fieldOff Tryz.prog 159 1 = some 1 := by kernel_rfl
theorem pl_159 : placeTy Tryz.prog 159 = some ([(0, 1), (1, 2)], [(.int .i64 0), (.string ⟨#[]⟩), (.slice none 0 0)]) := by kernel_rfl
theorem z_94 : sizeTy Tryz.prog 94 = some 1 := by kernel_rfl
theorem a_96 : aggTy Tryz.prog 96 = some 4 := by kernel_rfl
theorem s_40 : sliceTy Tryz.prog 40 = some (96, 4, 72) := by kernel_rfl
theorem b_183 : hasBody Tryz.prog 183 = true := by kernel_rfl
theorem b_206 : hasBody Tryz.prog 206 = true := by kernel_rfl
theorem z_93 : sizeTy Tryz.prog 93 = some 1 := by kernel_rfl
theorem b_207 : hasBody Tryz.prog 207 = true := by kernel_rfl
theorem b_177 : hasBody Tryz.prog 177 = true := by kernel_rfl
open Go.Sy.Bel1 Go.Sy.Ev1 Go.Sy.Ev2 Go.Sy.Eng1 Go.Sy.Eng2 Go.Sy.Eng3
theorem impl_copyPattern (w : World) (c_p : List Value) (p : Pattern) (h_p : Gd.rd w c_p p) (hp : szPattern p ≤ 1048576) : Calls Tryz.prog 209 [(.agg c_p.toArray)].toArray w (Res w (p : Pattern)) := by
 obtain ⟨u1, rfl, hu2⟩ := open_Pattern h_p
 have hm3 := rd_max hu2
 have hpa := szPat_args p
 refine enter 9 Tryz.func209 rfl rfl rfl (Sr (li rfl (D_box rfl rfl rfl rfl rfl fun g4 => ?_)))
 refine li rfl (D_alloc y_145 rfl rfl rfl rfl fun g5 => ?_)
 refine Dx (Dh ([bx g5 [(.string ⟨#[]⟩), (.slice none 0 0)], bx g4 [(.string p.Rel), u1]]) rfl (Cq (C_draw mixed [6] (by kernel_rfl) (Tk 0 rfl (by kernel_rfl) rfl (Db f_145_0 rfl rfl (q := 0) rfl) (Tk 1 rfl (by kernel_rfl) rfl (lb 1 o_9 rfl rfl rfl rfl) (Tk 2 rfl (by kernel_rfl) rfl (Db f_145_1 rfl rfl (q := 1) rfl) (Tk 3 rfl (by kernel_rfl) rfl (lb 1 o_58 rfl rfl rfl rfl) (ty 4 rfl (by kernel_rfl) rfl (crl b_184 rfl rfl rfl rfl (fun w' hs => (impl_copyTexts w' u1 p.Args (rA hs hu2) (by first | assumption | omega | (unfold szm at *; split at * <;> omega)))) fun v6 => ?_)))))))))
 refine tS (fun _ hs => hs.pk [1, 2] rfl rfl) (Dp (fun w' hs => one_own (k := 0) hs rfl) ?_)
 intro ho7
 refine Tj 5 rfl (by kernel_rfl) rfl (fun _ hs => hs.pk [1, 2] rfl rfl) (D_built (vs := [(0, (.string p.Rel)), (1, v6)]) (xs := [(0, [(.string p.Rel)]), (1, [v6])]) (cs := [(.string p.Rel), v6]) pl_145 rfl ⟨rfl, rfl, ⟨rfl, (cells_of_one ho7), trivial⟩⟩ rfl rfl) (ty 6 rfl (by kernel_rfl) rfl (D_stb (vs := [(.string p.Rel), v6]) (cs' := [(.string p.Rel), v6]) 1 z_145 rfl rfl rfl rfl rfl rfl (ocons rfl (ocons ho7 onil)) (by simp) rfl ?_))
 refine tZ rfl (tE (by kernel_rfl) (Xt (Ct (pk_Pattern (r := (p : Pattern)) (R_c 1 a_145 rfl rfl rfl fun w' hs => res_of (k := 0) hs rfl ?_)))))
 show (p : Pattern) = p
 rfl
theorem spec_l3CopyPattern (w : World) (c_p : List Value) (p : Pattern) (h_p : Gd.rd w c_p p) (hp : szPattern p ≤ 1048576) : Calls Tryz.prog 207 [(.agg c_p.toArray)].toArray w (Res w (p : Pattern)) := by
 obtain ⟨u1, rfl, hu2⟩ := open_Pattern h_p
 have hm3 := rd_max hu2
 have hpa := szPat_args p
 refine enter 9 Tryz.func207 rfl rfl rfl (Sr (li rfl (D_box rfl rfl rfl rfl rfl fun g4 => ?_)))
 refine li rfl (D_alloc y_145 rfl rfl rfl rfl fun g5 => ?_)
 refine Dx (Dh ([bx g5 [(.string ⟨#[]⟩), (.slice none 0 0)], bx g4 [(.string p.Rel), u1]]) rfl (Cq (C_draw mixed [6] (by kernel_rfl) (Tk 0 rfl (by kernel_rfl) rfl (Db f_145_0 rfl rfl (q := 0) rfl) (Tk 1 rfl (by kernel_rfl) rfl (lb 1 o_9 rfl rfl rfl rfl) (Tk 2 rfl (by kernel_rfl) rfl (Db f_145_1 rfl rfl (q := 1) rfl) (Tk 3 rfl (by kernel_rfl) rfl (lb 1 o_58 rfl rfl rfl rfl) (ty 4 rfl (by kernel_rfl) rfl (crl b_178 rfl rfl rfl rfl (fun w' hs => (spec_l1Texts w' u1 p.Args (rA hs hu2) (by first | assumption | omega | (unfold szm at *; split at * <;> omega)))) fun v6 => ?_)))))))))
 refine tS (fun _ hs => hs.pk [1, 2] rfl rfl) (Dp (fun w' hs => one_own (k := 0) hs rfl) ?_)
 intro ho7
 refine Tj 5 rfl (by kernel_rfl) rfl (fun _ hs => hs.pk [1, 2] rfl rfl) (D_built (vs := [(0, (.string p.Rel)), (1, v6)]) (xs := [(0, [(.string p.Rel)]), (1, [v6])]) (cs := [(.string p.Rel), v6]) pl_145 rfl ⟨rfl, rfl, ⟨rfl, (cells_of_one ho7), trivial⟩⟩ rfl rfl) (ty 6 rfl (by kernel_rfl) rfl (D_stb (vs := [(.string p.Rel), v6]) (cs' := [(.string p.Rel), v6]) 1 z_145 rfl rfl rfl rfl rfl rfl (ocons rfl (ocons ho7 onil)) (by simp) rfl ?_))
 refine tZ rfl (tE (by kernel_rfl) (Xt (Ct (pk_Pattern (r := (p : Pattern)) (R_c 1 a_145 rfl rfl rfl fun w' hs => res_of (k := 0) hs rfl ?_)))))
 show (p : Pattern) = p
 rfl
theorem impl_copyCond (w : World) (c_x : List Value) (x : Cond) (h_x : Gd.rd w c_x x) (hx : szCond x ≤ 1048576) : Calls Tryz.prog 216 [(.agg c_x.toArray)].toArray w (Res w (x : Cond)) := by
 obtain ⟨u1, rfl, hu2⟩ := open_Cond h_x
 have hm3 := rd_max hu2
 have hb4 := sub_Cond_Pattern h_x
 unfold szCond at hx
 have hpa := szPat_args x.Pattern
 refine enter 8 Tryz.func216 rfl rfl rfl (Sr (li rfl (D_box rfl rfl rfl rfl rfl fun g5 => ?_)))
 refine li rfl (D_alloc y_147 rfl rfl rfl rfl fun g6 => ?_)
 refine Dx (Dh ([bx g6 [(.int .i64 0), (.string ⟨#[]⟩), (.slice none 0 0), (.string ⟨#[]⟩), (.string ⟨#[]⟩)], bx g5 [(.int .i64 x.Kind), (.string x.Pattern.Rel), u1, (.string x.Left), (.string x.Right)]]) rfl (Sr (q1 rfl (Db f_147_1 rfl rfl (q := 1) rfl) (q1 rfl (lba (es := [(.string x.Pattern.Rel), u1]) 1 a_145 rfl rfl rfl rfl) (li rfl (crs rfl b_209 rfl rfl rfl rfl (fun w' hs => (impl_copyPattern w' [(.string x.Pattern.Rel), u1] x.Pattern (rA hs hb4) (by first | assumption | omega | (unfold szm at *; split at * <;> omega)))) fun cs7 => ?_))))))
 refine Dp (fun w' hs => shape_Pattern (rO (k := 0) hs rfl)) ?_
 rintro ⟨v8, rfl, ho9⟩
 refine q1 rfl (Db f_147_1 rfl rfl (q := 1) rfl) (li rfl (D_stb (vs := [(.string x.Pattern.Rel), v8]) (cs' := [(.int .i64 x.Kind), (.string x.Pattern.Rel), v8, (.string x.Left), (.string x.Right)]) 2 z_145 rfl rfl rfl rfl rfl rfl (ocons rfl (ocons ho9 onil)) (by simp) rfl ?_))
 refine Dx (Dh ([ov [(.string x.Pattern.Rel), v8] (x.Pattern : Pattern), bx g6 [(.int .i64 0), (.string ⟨#[]⟩), (.slice none 0 0), (.string ⟨#[]⟩), (.string ⟨#[]⟩)], bx g5 [(.int .i64 x.Kind), (.string x.Pattern.Rel), v8, (.string x.Left), (.string x.Right)]]) rfl (Sr (q1 rfl (lbw 2 a_147 rfl rfl rfl) (li rfl (D_stb (vs := [(.int .i64 x.Kind), (.string x.Pattern.Rel), v8, (.string x.Left), (.string x.Right)]) (cs' := [(.int .i64 x.Kind), (.string x.Pattern.Rel), v8, (.string x.Left), (.string x.Right)]) 1 z_147 rfl rfl rfl rfl rfl rfl (ocons rfl (ocons rfl (ocons ho9 (ocons rfl (ocons rfl onil))))) (by simp) rfl ?_)))))
 refine Dx (Ct (D_unpair (α := ByteArray) (β := (List ByteArray)) (c1 := [(.string x.Pattern.Rel)]) (c2 := [v8]) (x := x.Pattern.Rel) (y := (x.Pattern.Args)) rfl rfl (D_fd [] 1 rfl (pk_Cond (r := (x : Cond)) (R_c 1 a_147 rfl rfl rfl fun w' hs => res_of (k := 0) hs rfl ?_)))))
 show (x : Cond) = x
 rfl
theorem spec_l4Renamed (w : World) (s : ByteArray) : Calls Tryz.prog 223 [(.string s), (.slice none 0 0)].toArray w (Val w (.string (s))) := by
 refine enter 25 Tryz.func223 rfl rfl rfl (Sr (Pe rfl (Cq (Sr (Pe rfl (Cb (Cl (fun m_ ac w' => ∃ (k : Nat), (k ≤ 0) ∧ m_ = 0 - k ∧ Fits ac 25 [(0, (.string s)), (1, (.slice none 0 0)), (5, (.int .i64 ((k : Nat) : Int)))] ∧ St w ([]) w') ?_ ?_)))))))
 ·refine fun ac w' hf hs => ⟨_, 0, ?_, rfl, hf.weak ⟨rfl, rfl, rfl, trivial⟩, hs⟩
  ·first | assumption | omega | simp
 ·rintro m_ ac w' ⟨k, hk, rfl, hf, hs⟩
  refine D.use ?_ hf hs
  clear hf hs ac w'
  refine Cq (Sr (P2 rfl rfl (q1 rfl (Dl s_32 rfl rfl (n := 0) ⟨_, _, rfl⟩) (Pe rfl (Ci _ rfl (fun h1 => ?_) (fun h1 => ?_))))))
  ·have pr1 : (((k : Nat) : Int) : Int) < 0 := odT h1
   refine Sk (Cq (Cb (Cq ?_)))
   exfalso; omega
  ·have pr1 : ¬ (((k : Nat) : Int) : Int) < 0 := odF h1
   refine Cx (Xx (Xx (Xe (Xt (Sr (P2 rfl rfl (Dx (Ct (Rs rfl rfl ?_)))))))))
   show (s : ByteArray) = _
   rfl
theorem spec_RenameCond (w : World) (c_x : List Value) (x : Cond) (h_x : Gd.rd w c_x x) (hx : szCond x ≤ 1048576) : Calls Tryz.prog 215 [(.agg c_x.toArray), (.slice none 0 0)].toArray w (Res w (x : Cond)) := by
 obtain ⟨u1, rfl, hu2⟩ := open_Cond h_x
 have hm3 := rd_max hu2
 have hb4 := sub_Cond_Pattern h_x
 unfold szCond at hx
 have hpa := szPat_args x.Pattern
 refine enter 46 Tryz.func215 rfl rfl rfl (Sr (li rfl (D_box rfl rfl rfl rfl rfl fun g5 => ?_)))
 refine li rfl (D_alloc y_147 rfl rfl rfl rfl fun g6 => ?_)
 refine Dx (Dh ([bx g6 [(.int .i64 0), (.string ⟨#[]⟩), (.slice none 0 0), (.string ⟨#[]⟩), (.string ⟨#[]⟩)], bx g5 [(.int .i64 x.Kind), (.string x.Pattern.Rel), u1, (.string x.Left), (.string x.Right)]]) rfl (Cq (C_join (fun ac w' => ∃ (g7 : Nat), Fits ac 46 [(1, (.slice none 0 0)), (2, (.pointer (some ⟨g5, 0, none⟩))), (4, (.pointer (some ⟨g6, 0, none⟩))), (5, (.pointer (some ⟨g7, 0, none⟩)))] ∧ St w ([bx g7 [(.int .i64 x.Kind), (.string x.Pattern.Rel), (.slice none 0 0), (.string x.Left), (.string x.Right)], bx g6 [(.int .i64 0), (.string ⟨#[]⟩), (.slice none 0 0), (.string ⟨#[]⟩), (.string ⟨#[]⟩)], bx g5 [(.int .i64 x.Kind), (.string x.Pattern.Rel), u1, (.string x.Left), (.string x.Right)]]) w') ?_ ?_)))
 ·refine C_draw mixed [16] (by kernel_rfl) (Tk 0 rfl (by kernel_rfl) rfl (Db f_147_0 rfl rfl (q := 0) rfl) (Tk 1 rfl (by kernel_rfl) rfl (lb 1 o_3 rfl rfl rfl rfl) (Tk 2 rfl (by kernel_rfl) rfl (Db f_147_1 rfl rfl (q := 1) rfl) (Tk 3 rfl (by kernel_rfl) rfl (Db f_145_0 rfl rfl (q := 1) rfl) (Tk 4 rfl (by kernel_rfl) rfl (lb 1 o_9 rfl rfl rfl rfl) (Tk 5 rfl (by kernel_rfl) rfl (D_build (vs := [(0, (.string x.Pattern.Rel))]) (cs := [(.string x.Pattern.Rel), (.slice none 0 0)]) rfl (fun _ => by kernel_rfl) rfl) (Tk 6 rfl (by kernel_rfl) rfl (Db f_147_2 rfl rfl (q := 3) rfl) (Tk 7 rfl (by kernel_rfl) rfl (lb 1 o_9 rfl rfl rfl rfl) (Tk 8 rfl (by kernel_rfl) rfl (rp rfl) (Tk 10 rfl (by kernel_rfl) rfl (Db f_147_3 rfl rfl (q := 4) rfl) (Tk 11 rfl (by kernel_rfl) rfl (lb 1 o_9 rfl rfl rfl rfl) (Tk 12 rfl (by kernel_rfl) rfl (rp rfl) (tyN [9, 15] rfl (by kernel_rfl) ⟨⟨_, rfl, rfl, ?_⟩, ⟨_, rfl, rfl, ?_⟩, trivial⟩)))))))))))))
  ·refine id (cv b_223 rfl rfl rfl rfl (fun w' hs => (spec_l4Renamed w' x.Left)) ?_)
   refine tS (fun _ hs => hs) (tyN [13, 15] rfl (by kernel_rfl) ⟨⟨_, rfl, rfl, ?_⟩, ⟨_, rfl, rfl, ?_⟩, trivial⟩)
   ·refine id (cv b_223 rfl rfl rfl rfl (fun w' hs => (spec_l4Renamed w' x.Right)) ?_)
    refine tS (fun _ hs => hs) (Tk 14 rfl (by kernel_rfl) rfl (D_build (vs := [(0, (.int .i64 x.Kind)), (1, (.agg #[(.string x.Pattern.Rel), (.slice none 0 0)])), (2, (.string x.Left)), (3, (.string x.Right))]) (cs := [(.int .i64 x.Kind), (.string x.Pattern.Rel), (.slice none 0 0), (.string x.Left), (.string x.Right)]) rfl (fun _ => by kernel_rfl) rfl) (ty 15 rfl (by kernel_rfl) rfl (D_alloc y_147 rfl rfl rfl rfl fun g7 => ?_)))
    refine tS (fun _ hs => hs.pk [1, 2] rfl rfl) (ty 16 rfl (by kernel_rfl) rfl (D_stb (vs := [(.int .i64 x.Kind), (.string x.Pattern.Rel), (.slice none 0 0), (.string x.Left), (.string x.Right)]) (cs' := [(.int .i64 x.Kind), (.string x.Pattern.Rel), (.slice none 0 0), (.string x.Left), (.string x.Right)]) 0 z_147 rfl rfl rfl rfl rfl rfl (ocons rfl (ocons rfl (ocons rfl (ocons rfl (ocons rfl onil))))) (by simp) rfl ?_))
    refine tZ rfl (tE (by kernel_rfl) (Xt (fun ac w' hf hs => ⟨g7, hf.weak ⟨rfl, rfl, rfl, rfl, trivial⟩, hs⟩)))
   ·refine id (D_alloc y_147 rfl rfl rfl rfl fun g8 => ?_)
    refine tS (fun _ hs => hs.pk [1, 2] rfl rfl) (ty 13 rfl (by kernel_rfl) rfl (cv b_223 rfl rfl rfl rfl (fun w' hs => (spec_l4Renamed w' x.Right)) ?_))
    refine tS (fun _ hs => hs.pk [1, 2] rfl rfl) (Tj 14 rfl (by kernel_rfl) rfl (fun _ hs => hs.pk [1, 2] rfl rfl) (D_build (vs := [(0, (.int .i64 x.Kind)), (1, (.agg #[(.string x.Pattern.Rel), (.slice none 0 0)])), (2, (.string x.Left)), (3, (.string x.Right))]) (cs := [(.int .i64 x.Kind), (.string x.Pattern.Rel), (.slice none 0 0), (.string x.Left), (.string x.Right)]) rfl (fun _ => by kernel_rfl) rfl) (ty 16 rfl (by kernel_rfl) rfl (D_stb (vs := [(.int .i64 x.Kind), (.string x.Pattern.Rel), (.slice none 0 0), (.string x.Left), (.string x.Right)]) (cs' := [(.int .i64 x.Kind), (.string x.Pattern.Rel), (.slice none 0 0), (.string x.Left), (.string x.Right)]) 0 z_147 rfl rfl rfl rfl rfl rfl (ocons rfl (ocons rfl (ocons rfl (ocons rfl (ocons rfl onil))))) (by simp) rfl ?_)))
    refine tZ rfl (tE (by kernel_rfl) (Xt (fun ac w' hf hs => ⟨g8, hf.weak ⟨rfl, rfl, rfl, rfl, trivial⟩, hs⟩)))
  ·refine id (D_alloc y_147 rfl rfl rfl rfl fun g9 => ?_)
   refine tS (fun _ hs => hs.pk [1, 2] rfl rfl) (ty 9 rfl (by kernel_rfl) rfl (cv b_223 rfl rfl rfl rfl (fun w' hs => (spec_l4Renamed w' x.Left)) ?_))
   refine tS (fun _ hs => hs.pk [1, 2] rfl rfl) (ty 13 rfl (by kernel_rfl) rfl (cv b_223 rfl rfl rfl rfl (fun w' hs => (spec_l4Renamed w' x.Right)) ?_))
   refine tS (fun _ hs => hs.pk [1, 2] rfl rfl) (Tj 14 rfl (by kernel_rfl) rfl (fun _ hs => hs.pk [1, 2] rfl rfl) (D_build (vs := [(0, (.int .i64 x.Kind)), (1, (.agg #[(.string x.Pattern.Rel), (.slice none 0 0)])), (2, (.string x.Left)), (3, (.string x.Right))]) (cs := [(.int .i64 x.Kind), (.string x.Pattern.Rel), (.slice none 0 0), (.string x.Left), (.string x.Right)]) rfl (fun _ => by kernel_rfl) rfl) (ty 16 rfl (by kernel_rfl) rfl (D_stb (vs := [(.int .i64 x.Kind), (.string x.Pattern.Rel), (.slice none 0 0), (.string x.Left), (.string x.Right)]) (cs' := [(.int .i64 x.Kind), (.string x.Pattern.Rel), (.slice none 0 0), (.string x.Left), (.string x.Right)]) 0 z_147 rfl rfl rfl rfl rfl rfl (ocons rfl (ocons rfl (ocons rfl (ocons rfl (ocons rfl onil))))) (by simp) rfl ?_)))
   refine tZ rfl (tE (by kernel_rfl) (Xt (fun ac w' hf hs => ⟨g9, hf.weak ⟨rfl, rfl, rfl, rfl, trivial⟩, hs⟩)))
 rintro ac w' ⟨g7, hf, hs⟩
 refine D.use ?_ hf hs
 clear hf hs ac w'
 refine Xt (Dh ([bx g7 [(.int .i64 x.Kind), (.string x.Pattern.Rel), (.slice none 0 0), (.string x.Left), (.string x.Right)], bx g6 [(.int .i64 0), (.string ⟨#[]⟩), (.slice none 0 0), (.string ⟨#[]⟩), (.string ⟨#[]⟩)], bx g5 [(.int .i64 x.Kind), (.string x.Pattern.Rel), u1, (.string x.Left), (.string x.Right)]]) rfl (Cq (Sr (Pe rfl (Cb (Cl (fun m_ ac w' => ∃ (k : Nat), ∃ (v : Value), (k ≤ x.Pattern.Args.length) ∧ m_ = x.Pattern.Args.length - k ∧ Fits ac 46 [(1, (.slice none 0 0)), (2, (.pointer (some ⟨g5, 0, none⟩))), (4, (.pointer (some ⟨g6, 0, none⟩))), (5, (.pointer (some ⟨g7, 0, none⟩))), (6, (.int .i64 ((k : Nat) : Int)))] ∧ St w ([ov [v] (x.Pattern.Args.take k : (List ByteArray)), bx g7 [(.int .i64 x.Kind), (.string x.Pattern.Rel), v, (.string x.Left), (.string x.Right)], bx g6 [(.int .i64 0), (.string ⟨#[]⟩), (.slice none 0 0), (.string ⟨#[]⟩), (.string ⟨#[]⟩)], bx g5 [(.int .i64 x.Kind), (.string x.Pattern.Rel), u1, (.string x.Left), (.string x.Right)]]) w') ?_ ?_))))))
 ·refine D_nil (α := ByteArray) (D_eq 0 rfl (show ([] : (List ByteArray)) = x.Pattern.Args.take 0 from by simp) (fun ac w' hf hs => ⟨_, 0, (.slice none 0 0), ?_, rfl, hf.weak ⟨rfl, rfl, rfl, rfl, rfl, trivial⟩, hs⟩))
  ·first | assumption | omega | simp
 ·rintro m_ ac w' ⟨k, v, hk, rfl, hf, hs⟩
  refine D.use ?_ hf hs
  clear hf hs ac w'
  have hcl : (x.Pattern.Args.take k).length ≤ k := by rw [List.length_take]; omega
  refine Cq (Sr (p1 rfl (q1 rfl (Db f_147_1 rfl rfl (q := 1) rfl) (q1 rfl (Db f_145_1 rfl rfl (q := 2) rfl) (q1 rfl (lb 3 o_58 rfl rfl rfl rfl) (q1 rfl (Dl s_58 rfl rfl (rd_sl hu2)) (Pe rfl (Dh ([ov [v] (x.Pattern.Args.take k : (List ByteArray)), bx g7 [(.int .i64 x.Kind), (.string x.Pattern.Rel), v, (.string x.Left), (.string x.Right)], bx g6 [(.int .i64 0), (.string ⟨#[]⟩), (.slice none 0 0), (.string ⟨#[]⟩), (.string ⟨#[]⟩)], bx g5 [(.int .i64 x.Kind), (.string x.Pattern.Rel), u1, (.string x.Left), (.string x.Right)]]) rfl (Ci _ rfl (fun h10 => ?_) (fun h10 => ?_))))))))))
  ·have pr10 : (((k : Nat) : Int) : Int) < ((x.Pattern.Args.length : Nat) : Int) := odT h10
   refine Sk (Cq (Cb (C_draw mixed [12, 13, 14, 15] (by kernel_rfl) (Tk 0 rfl (by kernel_rfl) rfl (Db f_147_1 rfl rfl (q := 1) rfl) (Tk 1 rfl (by kernel_rfl) rfl (Db f_145_1 rfl rfl (q := 2) rfl) (Tk 2 rfl (by kernel_rfl) rfl (lb 1 o_58 rfl rfl rfl rfl) (Tk 3 rfl (by kernel_rfl) rfl (Db f_147_1 rfl rfl (q := 1) rfl) (Tk 4 rfl (by kernel_rfl) rfl (Db f_145_1 rfl rfl (q := 2) rfl) (Tk 5 rfl (by kernel_rfl) rfl (lb 3 o_58 rfl rfl rfl rfl) (Tk 6 rfl (by kernel_rfl) rfl (rp rfl) ?_))))))))))
   obtain ⟨x0, x0h⟩ := sL (l := x.Pattern.Args) (i := k) (by omega)
   obtain ⟨es11, at12, hr13⟩ := rd_elem (n := 1) rfl hu2 x0h
   obtain rfl : es11 = [.string x0] := hr13
   refine Tk 7 rfl (by kernel_rfl) rfl (D_ix (l := x.Pattern.Args) (j := k) s_58 rfl rfl rfl (fun w' hs => (rA hs hu2)) rfl (lS x0h)) (Tk 8 rfl (by kernel_rfl) rfl (lr0 o_9 rfl rfl at12 rfl) (Tk 9 rfl (by kernel_rfl) rfl (rp rfl) (ty 10 rfl (by kernel_rfl) rfl (cv b_223 rfl rfl rfl rfl (fun w' hs => (spec_l4Renamed w' x0)) ?_))))
   refine tS (fun _ hs => hs) (ty 11 rfl (by kernel_rfl) rfl (D_bs s_58 y_9 rfl (by decide) (by decide) rfl rfl rfl rfl rfl rfl fun g14 => ?_))
   refine tS (fun _ hs => hs.pk [1, 2, 3, 4] rfl rfl) (D_fs x0 (D_pk (H' := [ov [v] (x.Pattern.Args.take k : (List ByteArray)), ov [(.string x0)] (x0 : ByteArray), bx g14 [(.string x0)], bx g7 [(.int .i64 x.Kind), (.string x.Pattern.Rel), v, (.string x.Left), (.string x.Right)], bx g6 [(.int .i64 0), (.string ⟨#[]⟩), (.slice none 0 0), (.string ⟨#[]⟩), (.string ⟨#[]⟩)], bx g5 [(.int .i64 x.Kind), (.string x.Pattern.Rel), u1, (.string x.Left), (.string x.Right)]]) [2, 0, 1, 3, 4, 5] rfl rfl (ty 12 rfl (by kernel_rfl) rfl (D_ap s_58 y_9 rfl (by decide) rfl rfl rfl rfl rfl rfl (by first | omega | (simp; omega)) (by first | omega | (simp; omega)) fun v15 => ?_))))
   refine tZ rfl (ty 13 rfl (by kernel_rfl) rfl (sv rfl rfl (Db f_147_1 rfl rfl (q := 1) rfl) ?_))
   refine tZ rfl (ty 14 rfl (by kernel_rfl) rfl (sv rfl rfl (Db f_145_1 rfl rfl (q := 2) rfl) ?_))
   refine tZ rfl (Dp (fun w' hs => one_own (k := 0) hs rfl) ?_)
   intro ho16
   refine ty 15 rfl (by kernel_rfl) rfl (D_stb (vs := [v15]) (cs' := [(.int .i64 x.Kind), (.string x.Pattern.Rel), v15, (.string x.Left), (.string x.Right)]) 1 z_58 rfl rfl rfl rfl rfl (cells_of_one ho16) (ocons ho16 onil) (by simp) rfl ?_)
   refine tZ rfl (tE (by kernel_rfl) (Xb (Xt (Dw [(1, (.slice none 0 0)), (2, (.pointer (some ⟨g5, 0, none⟩))), (4, (.pointer (some ⟨g6, 0, none⟩))), (5, (.pointer (some ⟨g7, 0, none⟩))), (6, (.int .i64 ((k : Nat) : Int)))] ⟨rfl, rfl, rfl, rfl, rfl, trivial⟩ (Dh ([ov [v15] ((x.Pattern.Args.take k) ++ [x0] : (List ByteArray)), bx g7 [(.int .i64 x.Kind), (.string x.Pattern.Rel), v15, (.string x.Left), (.string x.Right)], bx g6 [(.int .i64 0), (.string ⟨#[]⟩), (.slice none 0 0), (.string ⟨#[]⟩), (.string ⟨#[]⟩)], bx g5 [(.int .i64 x.Kind), (.string x.Pattern.Rel), u1, (.string x.Left), (.string x.Right)]]) rfl (Cr (p1 rfl (q1 rfl (D_add rfl rfl rfl (r := ((k + 1 : Nat) : Int)) (by omega) (by omega)) (Pe rfl (D_eq 0 rfl (show ((x.Pattern.Args.take k) ++ [x0] : (List ByteArray)) = x.Pattern.Args.take (k + 1) from by exact (take_snoc x0h).symm) (fun ac w' hf hs => ⟨_, ?_, k + 1, v15, ?_, rfl, hf.weak ⟨rfl, rfl, rfl, rfl, rfl, trivial⟩, hs⟩)))))))))))
   ·omega
   ·first | assumption | omega | simp
  ·have pr10 : ¬ (((k : Nat) : Int) : Int) < ((x.Pattern.Args.length : Nat) : Int) := odF h10
   refine Cx (Xx (Xx (Xe (Xt (Sr (q1 rfl (lbw 1 a_147 rfl rfl rfl) (Dp (fun w' hs => one_own (k := 0) hs rfl) ?_)))))))
   intro ho17
   refine li rfl (D_stb (vs := [(.int .i64 x.Kind), (.string x.Pattern.Rel), v, (.string x.Left), (.string x.Right)]) (cs' := [(.int .i64 x.Kind), (.string x.Pattern.Rel), v, (.string x.Left), (.string x.Right)]) 2 z_147 rfl rfl rfl rfl rfl rfl (ocons rfl (ocons rfl (ocons ho17 (ocons rfl (ocons rfl onil))))) (by simp) rfl ?_)
   refine Dx (Ct (pk_Cond (r := (⟨x.Kind, ⟨x.Pattern.Rel, x.Pattern.Args.take k⟩, x.Left, x.Right⟩ : Cond)) (R_c 2 a_147 rfl rfl rfl fun w' hs => res_of (k := 0) hs rfl ?_)))
   show (⟨x.Kind, ⟨x.Pattern.Rel, x.Pattern.Args.take k⟩, x.Left, x.Right⟩ : Cond) = x
   show (⟨x.Kind, ⟨x.Pattern.Rel, x.Pattern.Args.take k⟩, x.Left, x.Right⟩ : Cond) = x; rw [List.take_of_length_le (by omega)]
theorem spec_l4Copy (w : World) (c_x : List Value) (x : Cond) (h_x : Gd.rd w c_x x) (hx : szCond x ≤ 1048576) : Calls Tryz.prog 206 [(.agg c_x.toArray)].toArray w (Res w (x : Cond)) := by
 obtain ⟨u1, rfl, hu2⟩ := open_Cond h_x
 have hm3 := rd_max hu2
 have hb4 := sub_Cond_Pattern h_x
 refine enter 5 Tryz.func206 rfl rfl rfl (Sr (li rfl (D_box rfl rfl rfl rfl rfl fun g5 => ?_)))
 refine li rfl (D_alloc y_147 rfl rfl rfl rfl fun g6 => ?_)
 refine Dx (Dh ([bx g6 [(.int .i64 0), (.string ⟨#[]⟩), (.slice none 0 0), (.string ⟨#[]⟩), (.string ⟨#[]⟩)], bx g5 [(.int .i64 x.Kind), (.string x.Pattern.Rel), u1, (.string x.Left), (.string x.Right)]]) rfl (Sr (q1 rfl (lbw 1 a_147 rfl rfl rfl) (li rfl (crs rfl b_215 rfl rfl rfl rfl (fun w' hs => (spec_RenameCond w' [(.int .i64 x.Kind), (.string x.Pattern.Rel), u1, (.string x.Left), (.string x.Right)] x (rA hs h_x) (by first | assumption | omega | (unfold szm at *; split at * <;> omega)))) fun cs7 => ?_)))))
 refine Dp (fun w' hs => shape_Cond (rO (k := 0) hs rfl)) ?_
 rintro ⟨v8, rfl, ho9⟩
 refine li rfl (D_stb (vs := [(.int .i64 x.Kind), (.string x.Pattern.Rel), v8, (.string x.Left), (.string x.Right)]) (cs' := [(.int .i64 x.Kind), (.string x.Pattern.Rel), v8, (.string x.Left), (.string x.Right)]) 1 z_147 rfl rfl rfl rfl rfl rfl (ocons rfl (ocons rfl (ocons ho9 (ocons rfl (ocons rfl onil))))) (by simp) rfl ?_)
 refine Dx (Ct (R_c 1 a_147 rfl rfl rfl fun w' hs => res_of (k := 0) hs rfl ?_))
 show x = x
 rfl
theorem impl_copyConds (w : World) (v_l : Value) (l : (List Cond)) (h_l : Gd.rd w [v_l] l) (hn : szL szCond l ≤ 1048576) : Calls Tryz.prog 208 [v_l].toArray w (Res w (l : List Cond)) := by
 have hm1 := rd_max h_l
 unfold szL at hn
 refine enter 19 Tryz.func208 rfl rfl rfl (Sr (Pe rfl (Sr (Pe rfl (Cq (Sr (p1 rfl (q1 rfl (Dl s_93 rfl rfl (rd_sl h_l)) (Pe rfl (Cb (Cl (fun m_ ac w' => ∃ (k : Nat), ∃ (v : Value), (k ≤ l.length) ∧ m_ = l.length - k ∧ Fits ac 19 [(3, v), (6, v_l), (7, (.int .i64 ((l.length : Nat) : Int))), (8, (.int .i64 ((k : Nat) : Int)))] ∧ St w ([ov [v] (l.take k : (List Cond))]) w') ?_ ?_)))))))))))
 ·refine D_nil (α := Cond) (D_eq 0 rfl (show ([] : (List Cond)) = l.take 0 from by simp) (fun ac w' hf hs => ⟨_, 0, (.slice none 0 0), ?_, rfl, hf.weak ⟨rfl, rfl, rfl, rfl, trivial⟩, hs⟩))
  ·first | assumption | omega | simp
 ·rintro m_ ac w' ⟨k, v, hk, rfl, hf, hs⟩
  refine D.use ?_ hf hs
  clear hf hs ac w'
  have hcl : (l.take k).length ≤ k := by rw [List.length_take]; omega
  refine Sr (Pe rfl (Dh ([ov [v] (l.take k : (List Cond))]) rfl (Cq (Ci _ rfl (fun h2 => ?_) (fun h2 => ?_)))))
  ·have pr2 : (((k : Nat) : Int) : Int) < ((l.length : Nat) : Int) := odT h2
   refine Sk (Cq (Cb (Sr ?_)))
   obtain ⟨x0, x0h⟩ := sL (l := l) (i := k) (by omega)
   have hle := sumC_mem (c := szCond) (List.mem_of_getElem? x0h)
   obtain ⟨es3, at4, hr5⟩ := rd_elem (n := 5) rfl h_l x0h
   obtain ⟨u6, rfl, hu7⟩ := open_Cond hr5
   have hm8 := rd_max hu7
   have hb9 := sub_Cond_Pattern hr5
   refine q1 rfl (D_ix (l := l) (j := k) s_93 rfl rfl rfl (fun w' hs => (rA hs h_l)) rfl (lS x0h)) (q1 rfl (lra a_147 rfl rfl at4) (li rfl (D_alloc y_147 rfl rfl rfl rfl fun g10 => ?_)))
   refine li rfl (D_stb (vs := [(.int .i64 x0.Kind), (.string x0.Pattern.Rel), u6, (.string x0.Left), (.string x0.Right)]) (cs' := [(.int .i64 x0.Kind), (.string x0.Pattern.Rel), u6, (.string x0.Left), (.string x0.Right)]) 0 z_147 rfl rfl rfl rfl rfl rfl (ocons rfl (ocons rfl (ocons (one_rd hu7) (ocons rfl (ocons rfl onil))))) (by simp) rfl ?_)
   refine Dx (Dh ([bx g10 [(.int .i64 x0.Kind), (.string x0.Pattern.Rel), u6, (.string x0.Left), (.string x0.Right)], ov [v] (l.take k : (List Cond))]) rfl (Cr (p1 rfl (q1 rfl (lbw 0 a_147 rfl rfl rfl) (li rfl (crs rfl b_216 rfl rfl rfl rfl (fun w' hs => (impl_copyCond w' [(.int .i64 x0.Kind), (.string x0.Pattern.Rel), u6, (.string x0.Left), (.string x0.Right)] x0 (rA hs hr5) (by first | assumption | omega | (unfold szm at *; split at * <;> omega)))) fun cs11 => ?_))))))
   refine Dp (fun w' hs => shape_Cond (rO (k := 0) hs rfl)) ?_
   rintro ⟨v12, rfl, ho13⟩
   refine li rfl (D_bs s_93 y_147 rfl (by decide) (by decide) rfl rfl rfl rfl rfl rfl fun g14 => ?_)
   refine D_pk (H' := [ov [v] (l.take k : (List Cond)), ov [(.int .i64 x0.Kind), (.string x0.Pattern.Rel), v12, (.string x0.Left), (.string x0.Right)] (x0 : Cond), bx g14 [(.int .i64 x0.Kind), (.string x0.Pattern.Rel), v12, (.string x0.Left), (.string x0.Right)], bx g10 [(.int .i64 x0.Kind), (.string x0.Pattern.Rel), u6, (.string x0.Left), (.string x0.Right)]]) [3, 1, 0, 2] rfl rfl (li rfl (D_ap s_93 y_147 rfl (by decide) rfl rfl rfl rfl rfl rfl (by first | omega | (simp; omega)) (by first | omega | (simp; omega)) fun v15 => ?_))
   refine p1 rfl (De (Xb (Xt (Dh ([ov [v15] ((l.take k) ++ [x0] : (List Cond)), bx g10 [(.int .i64 x0.Kind), (.string x0.Pattern.Rel), u6, (.string x0.Left), (.string x0.Right)]]) rfl (Cr (q1 rfl (D_add rfl rfl rfl (r := ((k + 1 : Nat) : Int)) (by omega) (by omega)) (Pe rfl (D_eq 0 rfl (show ((l.take k) ++ [x0] : (List Cond)) = l.take (k + 1) from by exact (take_snoc x0h).symm) (fun ac w' hf hs => ⟨_, ?_, k + 1, v15, ?_, rfl, hf.weak ⟨rfl, rfl, rfl, rfl, trivial⟩, hs.pk [0] rfl rfl⟩)))))))))
   ·omega
   ·first | assumption | omega | simp
  ·have pr2 : ¬ (((k : Nat) : Int) : Int) < ((l.length : Nat) : Int) := odF h2
   refine Cx (Xx (Xx (Xe (Xt (Sr (P2 rfl rfl (Dx (Ct (R_1 rfl rfl fun w' hs => res_of (k := 0) hs rfl ?_)))))))))
   show l.take k = l
   rw [List.take_of_length_le (by omega)]
theorem impl_copyRule (w : World) (c_r : List Value) (r : Rule) (h_r : Gd.rd w c_r r) (hn : szRule r ≤ 1048576) : Calls Tryz.prog 183 [(.agg c_r.toArray)].toArray w (Res w (r : Rule)) := by
 obtain ⟨u1, u3, rfl, hu2, hu4⟩ := open_Rule h_r
 have hm5 := rd_max hu2
 have hm6 := rd_max hu4
 unfold szRule szL at hn
 refine enter 34 Tryz.func183 rfl rfl rfl (Sr (li rfl (D_box rfl rfl rfl rfl rfl fun g7 => ?_)))
 refine li rfl (D_alloc y_96 rfl rfl rfl rfl fun g8 => ?_)
 refine Dx (Dh ([bx g8 [(.string ⟨#[]⟩), (.int .i64 0), (.slice none 0 0), (.slice none 0 0)], bx g7 [(.string r.Name), (.int .i64 r.Priority), u1, u3]]) rfl (Cq (C_join (fun ac w' => ∃ (g11 : Nat), ∃ (v9 : Value), (v9.oneCell' = true) ∧ Fits ac 34 [(1, (.pointer (some ⟨g7, 0, none⟩))), (2, (.pointer (some ⟨g8, 0, none⟩))), (3, (.pointer (some ⟨g11, 0, none⟩)))] ∧ St w ([bx g11 [(.string r.Name), (.int .i64 r.Priority), v9, (.slice none 0 0)], ov [v9] (r.If : (List Cond)), bx g8 [(.string ⟨#[]⟩), (.int .i64 0), (.slice none 0 0), (.slice none 0 0)], bx g7 [(.string r.Name), (.int .i64 r.Priority), u1, u3]]) w') ?_ ?_)))
 ·refine C_draw mixed [9] (by kernel_rfl) (Tk 0 rfl (by kernel_rfl) rfl (Db f_96_0 rfl rfl (q := 0) rfl) (Tk 1 rfl (by kernel_rfl) rfl (lb 1 o_9 rfl rfl rfl rfl) (Tk 2 rfl (by kernel_rfl) rfl (Db f_96_1 rfl rfl (q := 1) rfl) (Tk 3 rfl (by kernel_rfl) rfl (lb 1 o_3 rfl rfl rfl rfl) (Tk 4 rfl (by kernel_rfl) rfl (Db f_96_2 rfl rfl (q := 2) rfl) (Tk 5 rfl (by kernel_rfl) rfl (lb 1 o_93 rfl rfl rfl rfl) (tyN [6, 8] rfl (by kernel_rfl) ⟨⟨_, rfl, rfl, ?_⟩, ⟨_, rfl, rfl, ?_⟩, trivial⟩)))))))
  ·refine id (crl b_208 rfl rfl rfl rfl (fun w' hs => (impl_copyConds w' u1 r.If (rA hs hu2) (by unfold szL; omega))) fun v9 => ?_)
   refine tS (fun _ hs => hs.pk [1, 2] rfl rfl) (Dp (fun w' hs => one_own (k := 0) hs rfl) ?_)
   intro ho10
   refine Tj 7 rfl (by kernel_rfl) rfl (fun _ hs => hs.pk [1, 2] rfl rfl) (D_built (vs := [(0, (.string r.Name)), (1, (.int .i64 r.Priority)), (2, v9)]) (xs := [(0, [(.string r.Name)]), (1, [(.int .i64 r.Priority)]), (2, [v9])]) (cs := [(.string r.Name), (.int .i64 r.Priority), v9, (.slice none 0 0)]) pl_96 rfl ⟨rfl, rfl, ⟨rfl, rfl, ⟨rfl, (cells_of_one ho10), trivial⟩⟩⟩ rfl rfl) (ty 8 rfl (by kernel_rfl) rfl (D_alloc y_96 rfl rfl rfl rfl fun g11 => ?_))
   refine tS (fun _ hs => hs.pk [2, 3] rfl rfl) (ty 9 rfl (by kernel_rfl) rfl (D_stb (vs := [(.string r.Name), (.int .i64 r.Priority), v9, (.slice none 0 0)]) (cs' := [(.string r.Name), (.int .i64 r.Priority), v9, (.slice none 0 0)]) 0 z_96 rfl rfl rfl rfl rfl rfl (ocons rfl (ocons rfl (ocons ho10 (ocons rfl onil)))) (by simp) rfl ?_))
   refine tZ rfl (tE (by kernel_rfl) (Xt (fun ac w' hf hs => ⟨g11, v9, ho10, hf.weak ⟨rfl, rfl, rfl, trivial⟩, hs⟩)))
  ·refine id (D_alloc y_96 rfl rfl rfl rfl fun g12 => ?_)
   refine tS (fun _ hs => hs.pk [1, 2] rfl rfl) (ty 6 rfl (by kernel_rfl) rfl (crl b_208 rfl rfl rfl rfl (fun w' hs => (impl_copyConds w' u1 r.If (rA hs hu2) (by unfold szL; omega))) fun v13 => ?_))
   refine tS (fun _ hs => hs.pk [2, 3] rfl rfl) (Dp (fun w' hs => one_own (k := 0) hs rfl) ?_)
   intro ho14
   refine Tj 7 rfl (by kernel_rfl) rfl (fun _ hs => hs.pk [2, 3] rfl rfl) (D_built (vs := [(0, (.string r.Name)), (1, (.int .i64 r.Priority)), (2, v13)]) (xs := [(0, [(.string r.Name)]), (1, [(.int .i64 r.Priority)]), (2, [v13])]) (cs := [(.string r.Name), (.int .i64 r.Priority), v13, (.slice none 0 0)]) pl_96 rfl ⟨rfl, rfl, ⟨rfl, rfl, ⟨rfl, (cells_of_one ho14), trivial⟩⟩⟩ rfl rfl) (ty 9 rfl (by kernel_rfl) rfl (D_stb (vs := [(.string r.Name), (.int .i64 r.Priority), v13, (.slice none 0 0)]) (cs' := [(.string r.Name), (.int .i64 r.Priority), v13, (.slice none 0 0)]) 1 z_96 rfl rfl rfl rfl rfl rfl (ocons rfl (ocons rfl (ocons ho14 (ocons rfl onil)))) (by simp) rfl ?_))
   refine tZ rfl (tE (by kernel_rfl) (Xt (fun ac w' hf hs => ⟨g12, v13, ho14, hf.weak ⟨rfl, rfl, rfl, trivial⟩, hs.pk [1, 0, 2, 3] rfl rfl⟩)))
 rintro ac w' ⟨g11, v9, ho10, hf, hs⟩
 refine D.use ?_ hf hs
 clear hf hs ac w'
 refine Xt (Dh ([bx g11 [(.string r.Name), (.int .i64 r.Priority), v9, (.slice none 0 0)], ov [v9] (r.If : (List Cond)), bx g8 [(.string ⟨#[]⟩), (.int .i64 0), (.slice none 0 0), (.slice none 0 0)], bx g7 [(.string r.Name), (.int .i64 r.Priority), u1, u3]]) rfl (Cq (Sr (q1 rfl (Db f_96_3 rfl rfl (q := 3) rfl) (q1 rfl (lb 3 o_94 rfl rfl rfl rfl) (q1 rfl (Dl s_94 rfl rfl (rd_sl hu4)) (Pe rfl (Cb (Cl (fun m_ ac w' => ∃ (k : Nat), ∃ (v : Value), (k ≤ r.Then.length) ∧ m_ = r.Then.length - k ∧ Fits ac 34 [(2, (.pointer (some ⟨g8, 0, none⟩))), (3, (.pointer (some ⟨g11, 0, none⟩))), (15, u3), (16, (.int .i64 ((r.Then.length : Nat) : Int))), (17, (.int .i64 ((k : Nat) : Int)))] ∧ St w ([ov [v] (r.Then.take k : (List Action)), bx g11 [(.string r.Name), (.int .i64 r.Priority), v9, v], ov [v9] (r.If : (List Cond)), bx g8 [(.string ⟨#[]⟩), (.int .i64 0), (.slice none 0 0), (.slice none 0 0)], bx g7 [(.string r.Name), (.int .i64 r.Priority), u1, u3]]) w') ?_ ?_)))))))))
 ·refine D_nil (α := Action) (D_eq 0 rfl (show ([] : (List Action)) = r.Then.take 0 from by simp) (fun ac w' hf hs => ⟨_, 0, (.slice none 0 0), ?_, rfl, hf.weak ⟨rfl, rfl, rfl, rfl, rfl, trivial⟩, hs⟩))
  ·first | assumption | omega | simp
 ·rintro m_ ac w' ⟨k, v, hk, rfl, hf, hs⟩
  refine D.use ?_ hf hs
  clear hf hs ac w'
  have hclk : (r.Then.take k).length ≤ k := by rw [List.length_take]; omega
  refine Sr (Pe rfl (Dh ([ov [v] (r.Then.take k : (List Action)), bx g11 [(.string r.Name), (.int .i64 r.Priority), v9, v], ov [v9] (r.If : (List Cond)), bx g8 [(.string ⟨#[]⟩), (.int .i64 0), (.slice none 0 0), (.slice none 0 0)], bx g7 [(.string r.Name), (.int .i64 r.Priority), u1, u3]]) rfl (Cq (Ci _ rfl (fun h15 => ?_) (fun h15 => ?_)))))
  ·have pr15 : (((k : Nat) : Int) : Int) < ((r.Then.length : Nat) : Int) := odT h15
   refine Sk (Cq (Cb (Sr ?_)))
   obtain ⟨a0, a0h⟩ := sL (l := r.Then) (i := k) (by omega)
   have haz := act_sz a0h
   have hap : szAction a0 = szPattern a0.Pattern := rfl
   have hpa := szPat_args a0.Pattern
   obtain ⟨es16, at17, hr18⟩ := rd_elem (n := 3) rfl hu4 a0h
   obtain ⟨u19, rfl, hu20⟩ := open_Action hr18
   have hm21 := rd_max hu20
   have hb22 := sub_Action_Pattern hr18
   refine q1 rfl (D_ix (l := r.Then) (j := k) s_94 rfl rfl rfl (fun w' hs => (rA hs hu4)) rfl (lS a0h)) (q1 rfl (lra a_159 rfl rfl at17) (li rfl (D_alloc y_159 rfl rfl rfl rfl fun g23 => ?_)))
   refine li rfl (D_stb (vs := [(.int .i64 a0.Kind), (.string a0.Pattern.Rel), u19]) (cs' := [(.int .i64 a0.Kind), (.string a0.Pattern.Rel), u19]) 0 z_159 rfl rfl rfl rfl rfl rfl (ocons rfl (ocons rfl (ocons (one_rd hu20) onil))) (by simp) rfl ?_)
   refine Dx (Dh ([bx g23 [(.int .i64 a0.Kind), (.string a0.Pattern.Rel), u19], ov [v] (r.Then.take k : (List Action)), bx g11 [(.string r.Name), (.int .i64 r.Priority), v9, v], ov [v9] (r.If : (List Cond)), bx g8 [(.string ⟨#[]⟩), (.int .i64 0), (.slice none 0 0), (.slice none 0 0)], bx g7 [(.string r.Name), (.int .i64 r.Priority), u1, u3]]) rfl (C_draw mixed [9, 10, 11] (by kernel_rfl) (Tk 0 rfl (by kernel_rfl) rfl (Db f_96_3 rfl rfl (q := 3) rfl) (Tk 1 rfl (by kernel_rfl) rfl (lb 2 o_94 rfl rfl rfl rfl) (Tk 2 rfl (by kernel_rfl) rfl (Db f_159_0 rfl rfl (q := 0) rfl) (Tk 3 rfl (by kernel_rfl) rfl (lb 0 o_3 rfl rfl rfl rfl) (Tk 4 rfl (by kernel_rfl) rfl (Db f_159_1 rfl rfl (q := 1) rfl) (Tk 5 rfl (by kernel_rfl) rfl (lba (es := [(.string a0.Pattern.Rel), u19]) 0 a_145 rfl rfl rfl rfl) (ty 6 rfl (by kernel_rfl) rfl (crs rfl b_209 rfl rfl rfl rfl (fun w' hs => (impl_copyPattern w' [(.string a0.Pattern.Rel), u19] a0.Pattern (rA hs hb22) (by first | assumption | omega | (unfold szm at *; split at * <;> omega)))) fun cs24 => ?_))))))))))
   refine Dp (fun w' hs => shape_Pattern (rO (k := 0) hs rfl)) ?_
   rintro ⟨v25, rfl, ho26⟩
   refine tS (fun _ hs => hs.pk [1, 2, 3, 4, 5, 6] rfl rfl) (Tj 7 rfl (by kernel_rfl) rfl (fun _ hs => hs.pk [1, 2, 3, 4, 5, 6] rfl rfl) (D_built (vs := [(0, (.int .i64 a0.Kind)), (1, (.agg #[(.string a0.Pattern.Rel), v25]))]) (xs := [(0, [(.int .i64 a0.Kind)]), (1, [(.string a0.Pattern.Rel), v25])]) (cs := [(.int .i64 a0.Kind), (.string a0.Pattern.Rel), v25]) pl_159 rfl ⟨rfl, rfl, ⟨rfl, rfl, trivial⟩⟩ rfl rfl) (ty 8 rfl (by kernel_rfl) rfl (D_bs s_94 y_159 rfl (by decide) (by decide) rfl rfl rfl rfl rfl rfl fun g27 => ?_)))
   refine tS (fun _ hs => hs.pk [2, 3, 4, 5, 6, 7] rfl rfl) (D_pk (H' := [ov [(.string a0.Pattern.Rel), v25] (a0.Pattern : Pattern), bx g27 [(.int .i64 a0.Kind), (.string a0.Pattern.Rel), v25], bx g23 [(.int .i64 a0.Kind), (.string a0.Pattern.Rel), u19], ov [v] (r.Then.take k : (List Action)), bx g11 [(.string r.Name), (.int .i64 r.Priority), v9, v], ov [v9] (r.If : (List Cond)), bx g8 [(.string ⟨#[]⟩), (.int .i64 0), (.slice none 0 0), (.slice none 0 0)], bx g7 [(.string r.Name), (.int .i64 r.Priority), u1, u3]]) [1, 0, 2, 3, 4, 5, 6, 7] rfl rfl (D_unpair (α := ByteArray) (β := (List ByteArray)) (c1 := [(.string a0.Pattern.Rel)]) (c2 := [v25]) (x := a0.Pattern.Rel) (y := (a0.Pattern.Args)) rfl rfl (D_fd [] 1 rfl (pk_Action (r := (a0 : Action)) (D_pk (H' := [ov [v] (r.Then.take k : (List Action)), ov [(.int .i64 a0.Kind), (.string a0.Pattern.Rel), v25] ((a0 : Action) : Action), bx g27 [(.int .i64 a0.Kind), (.string a0.Pattern.Rel), v25], bx g23 [(.int .i64 a0.Kind), (.string a0.Pattern.Rel), u19], bx g11 [(.string r.Name), (.int .i64 r.Priority), v9, v], ov [v9] (r.If : (List Cond)), bx g8 [(.string ⟨#[]⟩), (.int .i64 0), (.slice none 0 0), (.slice none 0 0)], bx g7 [(.string r.Name), (.int .i64 r.Priority), u1, u3]]) [3, 0, 1, 2, 4, 5, 6, 7] rfl rfl (ty 9 rfl (by kernel_rfl) rfl (D_ap s_94 y_159 rfl (by decide) rfl rfl rfl rfl rfl rfl (by first | omega | (simp; omega)) (by first | omega | (simp; omega)) fun v28 => ?_)))))))
   refine tZ rfl (ty 10 rfl (by kernel_rfl) rfl (sv rfl rfl (Db f_96_3 rfl rfl (q := 3) rfl) ?_))
   refine tZ rfl (Dp (fun w' hs => one_own (k := 0) hs rfl) ?_)
   intro ho29
   refine ty 11 rfl (by kernel_rfl) rfl (D_stb (vs := [v28]) (cs' := [(.string r.Name), (.int .i64 r.Priority), v9, v28]) 2 z_94 rfl rfl rfl rfl rfl (cells_of_one ho29) (ocons ho29 onil) (by simp) rfl ?_)
   refine tZ rfl (tE (by kernel_rfl) (Xb (Xt (Dw [(2, (.pointer (some ⟨g8, 0, none⟩))), (3, (.pointer (some ⟨g11, 0, none⟩))), (15, u3), (16, (.int .i64 ((r.Then.length : Nat) : Int))), (17, (.int .i64 ((k : Nat) : Int)))] ⟨rfl, rfl, rfl, rfl, rfl, trivial⟩ (Ds (H' := [ov [v28] ((r.Then.take k) ++ [(a0 : Action)] : (List Action)), bx g11 [(.string r.Name), (.int .i64 r.Priority), v9, v28], ov [v9] (r.If : (List Cond)), bx g8 [(.string ⟨#[]⟩), (.int .i64 0), (.slice none 0 0), (.slice none 0 0)], bx g7 [(.string r.Name), (.int .i64 r.Priority), u1, u3]]) [true, false, true, true, true, true] rfl (Cr (q1 rfl (D_add rfl rfl rfl (r := ((k + 1 : Nat) : Int)) (by omega) (by omega)) (Pe rfl (D_eq 0 rfl (show ((r.Then.take k) ++ [(a0 : Action)] : (List Action)) = r.Then.take (k + 1) from by exact (take_snoc a0h).symm) (fun ac w' hf hs => ⟨_, ?_, k + 1, v28, ?_, rfl, hf.weak ⟨rfl, rfl, rfl, rfl, rfl, trivial⟩, hs⟩))))))))))
   ·omega
   ·first | assumption | omega | simp
  ·have pr15 : ¬ (((k : Nat) : Int) : Int) < ((r.Then.length : Nat) : Int) := odF h15
   refine Cx (Xx (Xx (Xe (Xt (Sr (q1 rfl (lbw 1 a_96 rfl rfl rfl) (Dp (fun w' hs => one_own (k := 0) hs rfl) ?_)))))))
   intro ho30
   refine Dp (fun w' hs => one_own (k := 2) hs rfl) ?_
   intro ho31
   refine li rfl (D_stb (vs := [(.string r.Name), (.int .i64 r.Priority), v9, v]) (cs' := [(.string r.Name), (.int .i64 r.Priority), v9, v]) 3 z_96 rfl rfl rfl rfl rfl rfl (ocons rfl (ocons rfl (ocons ho31 (ocons ho30 onil)))) (by simp) rfl ?_)
   refine Dx (Ct (D_pk (H' := [ov [v9] (r.If : (List Cond)), ov [v] (r.Then.take k : (List Action)), bx g11 [(.string r.Name), (.int .i64 r.Priority), v9, v], bx g8 [(.string r.Name), (.int .i64 r.Priority), v9, v], bx g7 [(.string r.Name), (.int .i64 r.Priority), u1, u3]]) [2, 0, 1, 3, 4] rfl rfl (pk_Rule (r := (⟨r.Name, r.Priority, r.If, r.Then.take k⟩ : Rule)) (R_c 2 a_96 rfl rfl rfl fun w' hs => res_of (k := 0) hs rfl ?_))))
   show (⟨r.Name, r.Priority, r.If, r.Then.take k⟩ : Rule) = r
   show (⟨r.Name, r.Priority, r.If, r.Then.take k⟩ : Rule) = r; rw [List.take_of_length_le (by omega)]
theorem impl_copyRules (w : World) (v_l : Value) (l : (List Rule)) (h_l : Gd.rd w [v_l] l) (hn : szL szRule l ≤ 1048576) : Calls Tryz.prog 131 [v_l].toArray w (Res w (l : List Rule)) := by
 have hm1 := rd_max h_l
 unfold szL at hn
 refine enter 19 Tryz.func131 rfl rfl rfl (Sr (Pe rfl (Sr (Pe rfl (Cq (Sr (p1 rfl (q1 rfl (Dl s_40 rfl rfl (rd_sl h_l)) (Pe rfl (Cb (Cl (fun m_ ac w' => ∃ (k : Nat), ∃ (v : Value), (k ≤ l.length) ∧ m_ = l.length - k ∧ Fits ac 19 [(3, v), (6, v_l), (7, (.int .i64 ((l.length : Nat) : Int))), (8, (.int .i64 ((k : Nat) : Int)))] ∧ St w ([ov [v] (l.take k : (List Rule))]) w') ?_ ?_)))))))))))
 ·refine D_nil (α := Rule) (D_eq 0 rfl (show ([] : (List Rule)) = l.take 0 from by simp) (fun ac w' hf hs => ⟨_, 0, (.slice none 0 0), ?_, rfl, hf.weak ⟨rfl, rfl, rfl, rfl, trivial⟩, hs⟩))
  ·first | assumption | omega | simp
 ·rintro m_ ac w' ⟨k, v, hk, rfl, hf, hs⟩
  refine D.use ?_ hf hs
  clear hf hs ac w'
  have hcl : (l.take k).length ≤ k := by rw [List.length_take]; omega
  refine Sr (Pe rfl (Dh ([ov [v] (l.take k : (List Rule))]) rfl (Cq (Ci _ rfl (fun h2 => ?_) (fun h2 => ?_)))))
  ·have pr2 : (((k : Nat) : Int) : Int) < ((l.length : Nat) : Int) := odT h2
   refine Sk (Cq (Cb (Sr ?_)))
   obtain ⟨x0, x0h⟩ := sL (l := l) (i := k) (by omega)
   have hle := sumC_mem (c := szRule) (List.mem_of_getElem? x0h)
   obtain ⟨es3, at4, hr5⟩ := rd_elem (n := 4) rfl h_l x0h
   obtain ⟨u6, u9, rfl, hu7, hu10⟩ := open_Rule hr5
   have hm11 := rd_max hu7
   have hm12 := rd_max hu10
   refine q1 rfl (D_ix (l := l) (j := k) s_40 rfl rfl rfl (fun w' hs => (rA hs h_l)) rfl (lS x0h)) (q1 rfl (lra a_96 rfl rfl at4) (li rfl (D_alloc y_96 rfl rfl rfl rfl fun g13 => ?_)))
   refine li rfl (D_stb (vs := [(.string x0.Name), (.int .i64 x0.Priority), u6, u9]) (cs' := [(.string x0.Name), (.int .i64 x0.Priority), u6, u9]) 0 z_96 rfl rfl rfl rfl rfl rfl (ocons rfl (ocons rfl (ocons (one_rd hu7) (ocons (one_rd hu10) onil)))) (by simp) rfl ?_)
   refine Dx (Dh ([bx g13 [(.string x0.Name), (.int .i64 x0.Priority), u6, u9], ov [v] (l.take k : (List Rule))]) rfl (Cr (p1 rfl (q1 rfl (lbw 0 a_96 rfl rfl rfl) (li rfl (crs rfl b_183 rfl rfl rfl rfl (fun w' hs => (impl_copyRule w' [(.string x0.Name), (.int .i64 x0.Priority), u6, u9] x0 (rA hs hr5) (by first | assumption | omega | (unfold szm at *; split at * <;> omega)))) fun cs14 => ?_))))))
   refine Dp (fun w' hs => shape_Rule (rO (k := 0) hs rfl)) ?_
   rintro ⟨v15, v16, rfl, ho17, ho18⟩
   refine li rfl (D_bs s_40 y_96 rfl (by decide) (by decide) rfl rfl rfl rfl rfl rfl fun g19 => ?_)
   refine D_pk (H' := [ov [v] (l.take k : (List Rule)), ov [(.string x0.Name), (.int .i64 x0.Priority), v15, v16] (x0 : Rule), bx g19 [(.string x0.Name), (.int .i64 x0.Priority), v15, v16], bx g13 [(.string x0.Name), (.int .i64 x0.Priority), u6, u9]]) [3, 1, 0, 2] rfl rfl (li rfl (D_ap s_40 y_96 rfl (by decide) rfl rfl rfl rfl rfl rfl (by first | omega | (simp; omega)) (by first | omega | (simp; omega)) fun v20 => ?_))
   refine p1 rfl (De (Xb (Xt (Dh ([ov [v20] ((l.take k) ++ [x0] : (List Rule)), bx g13 [(.string x0.Name), (.int .i64 x0.Priority), u6, u9]]) rfl (Cr (q1 rfl (D_add rfl rfl rfl (r := ((k + 1 : Nat) : Int)) (by omega) (by omega)) (Pe rfl (D_eq 0 rfl (show ((l.take k) ++ [x0] : (List Rule)) = l.take (k + 1) from by exact (take_snoc x0h).symm) (fun ac w' hf hs => ⟨_, ?_, k + 1, v20, ?_, rfl, hf.weak ⟨rfl, rfl, rfl, rfl, trivial⟩, hs.pk [0] rfl rfl⟩)))))))))
   ·omega
   ·first | assumption | omega | simp
  ·have pr2 : ¬ (((k : Nat) : Int) : Int) < ((l.length : Nat) : Int) := odF h2
   refine Cx (Xx (Xx (Xe (Xt (Sr (P2 rfl rfl (Dx (Ct (R_1 rfl rfl fun w' hs => res_of (k := 0) hs rfl ?_)))))))))
   show l.take k = l
   rw [List.take_of_length_le (by omega)]
theorem spec_l5Copy (w : World) (c_r : List Value) (r : Rule) (h_r : Gd.rd w c_r r) (hn : szRule r ≤ 1048576) : Calls Tryz.prog 177 [(.agg c_r.toArray)].toArray w (Res w (r : Rule)) := by
 obtain ⟨u1, u3, rfl, hu2, hu4⟩ := open_Rule h_r
 have hm5 := rd_max hu2
 have hm6 := rd_max hu4
 unfold szRule szL at hn
 refine enter 56 Tryz.func177 rfl rfl rfl (Sr (li rfl (D_box rfl rfl rfl rfl rfl fun g7 => ?_)))
 refine li rfl (D_alloc y_96 rfl rfl rfl rfl fun g8 => ?_)
 refine Dx (Dh ([bx g8 [(.string ⟨#[]⟩), (.int .i64 0), (.slice none 0 0), (.slice none 0 0)], bx g7 [(.string r.Name), (.int .i64 r.Priority), u1, u3]]) rfl (Sr (q1 rfl (Db f_96_0 rfl rfl (q := 0) rfl) (q1 rfl (lb 1 o_9 rfl rfl rfl rfl) (q1 rfl (Db f_96_1 rfl rfl (q := 1) rfl) (q1 rfl (lb 1 o_3 rfl rfl rfl rfl) (q1 rfl (D_build (vs := [(0, (.string r.Name)), (1, (.int .i64 r.Priority))]) (cs := [(.string r.Name), (.int .i64 r.Priority), (.slice none 0 0), (.slice none 0 0)]) rfl (fun _ => by kernel_rfl) rfl) (li rfl (D_alloc y_96 rfl rfl rfl rfl fun g9 => ?_)))))))))
 refine li rfl (D_stb (vs := [(.string r.Name), (.int .i64 r.Priority), (.slice none 0 0), (.slice none 0 0)]) (cs' := [(.string r.Name), (.int .i64 r.Priority), (.slice none 0 0), (.slice none 0 0)]) 0 z_96 rfl rfl rfl rfl rfl rfl (ocons rfl (ocons rfl (ocons rfl (ocons rfl onil)))) (by simp) rfl ?_)
 refine Dx (Dh ([bx g9 [(.string r.Name), (.int .i64 r.Priority), (.slice none 0 0), (.slice none 0 0)], bx g8 [(.string ⟨#[]⟩), (.int .i64 0), (.slice none 0 0), (.slice none 0 0)], bx g7 [(.string r.Name), (.int .i64 r.Priority), u1, u3]]) rfl (Cq (Sr (Pe rfl (Cb (Cl (fun m_ ac w' => ∃ (k : Nat), ∃ (v : Value), (k ≤ r.If.length) ∧ m_ = r.If.length - k ∧ Fits ac 56 [(1, (.pointer (some ⟨g7, 0, none⟩))), (2, (.pointer (some ⟨g8, 0, none⟩))), (3, (.pointer (some ⟨g9, 0, none⟩))), (4, (.int .i64 ((k : Nat) : Int)))] ∧ St w ([ov [v] (r.If.take k : (List Cond)), bx g9 [(.string r.Name), (.int .i64 r.Priority), v, (.slice none 0 0)], bx g8 [(.string ⟨#[]⟩), (.int .i64 0), (.slice none 0 0), (.slice none 0 0)], bx g7 [(.string r.Name), (.int .i64 r.Priority), u1, u3]]) w') ?_ ?_))))))
 ·refine D_nil (α := Cond) (D_eq 0 rfl (show ([] : (List Cond)) = r.If.take 0 from by simp) (fun ac w' hf hs => ⟨_, 0, (.slice none 0 0), ?_, rfl, hf.weak ⟨rfl, rfl, rfl, rfl, trivial⟩, hs⟩))
  ·first | assumption | omega | simp
 ·rintro m_ ac w' ⟨k, v, hk, rfl, hf, hs⟩
  refine D.use ?_ hf hs
  clear hf hs ac w'
  have hclk : (r.If.take k).length ≤ k := by rw [List.length_take]; omega
  refine Cq (Sr (p1 rfl (q1 rfl (Db f_96_2 rfl rfl (q := 2) rfl) (q1 rfl (lb 3 o_93 rfl rfl rfl rfl) (q1 rfl (Dl s_93 rfl rfl (rd_sl hu2)) (Pe rfl (Dh ([ov [v] (r.If.take k : (List Cond)), bx g9 [(.string r.Name), (.int .i64 r.Priority), v, (.slice none 0 0)], bx g8 [(.string ⟨#[]⟩), (.int .i64 0), (.slice none 0 0), (.slice none 0 0)], bx g7 [(.string r.Name), (.int .i64 r.Priority), u1, u3]]) rfl (Ci _ rfl (fun h10 => ?_) (fun h10 => ?_)))))))))
  ·have pr10 : (((k : Nat) : Int) : Int) < ((r.If.length : Nat) : Int) := odT h10
   refine Sk (Cq (Cb (C_draw mixed [9, 10, 11] (by kernel_rfl) (Tk 0 rfl (by kernel_rfl) rfl (Db f_96_2 rfl rfl (q := 2) rfl) (Tk 1 rfl (by kernel_rfl) rfl (lb 1 o_93 rfl rfl rfl rfl) (Tk 2 rfl (by kernel_rfl) rfl (Db f_96_2 rfl rfl (q := 2) rfl) (Tk 3 rfl (by kernel_rfl) rfl (lb 3 o_93 rfl rfl rfl rfl) (Tk 4 rfl (by kernel_rfl) rfl (rp rfl) ?_))))))))
   obtain ⟨x0, x0h⟩ := sL (l := r.If) (i := k) (by omega)
   have hcz := cond_sz x0h
   obtain ⟨es11, at12, hr13⟩ := rd_elem (n := 5) rfl hu2 x0h
   obtain ⟨u14, rfl, hu15⟩ := open_Cond hr13
   have hm16 := rd_max hu15
   have hb17 := sub_Cond_Pattern hr13
   refine Tk 5 rfl (by kernel_rfl) rfl (D_ix (l := r.If) (j := k) s_93 rfl rfl rfl (fun w' hs => (rA hs hu2)) rfl (lS x0h)) (Tk 6 rfl (by kernel_rfl) rfl (lra a_147 rfl rfl at12) (ty 7 rfl (by kernel_rfl) rfl (crs rfl b_206 rfl rfl rfl rfl (fun w' hs => (spec_l4Copy w' [(.int .i64 x0.Kind), (.string x0.Pattern.Rel), u14, (.string x0.Left), (.string x0.Right)] x0 (rA hs hr13) (by first | assumption | omega | (unfold szm at *; split at * <;> omega)))) fun cs18 => ?_)))
   refine Dp (fun w' hs => shape_Cond (rO (k := 0) hs rfl)) ?_
   rintro ⟨v19, rfl, ho20⟩
   refine tS (fun _ hs => hs.pk [1, 2, 3, 4] rfl rfl) (ty 8 rfl (by kernel_rfl) rfl (D_bs s_93 y_147 rfl (by decide) (by decide) rfl rfl rfl rfl rfl rfl fun g21 => ?_))
   refine tS (fun _ hs => hs.pk [2, 3, 4, 5] rfl rfl) (D_pk (H' := [ov [v] (r.If.take k : (List Cond)), ov [(.int .i64 x0.Kind), (.string x0.Pattern.Rel), v19, (.string x0.Left), (.string x0.Right)] (x0 : Cond), bx g21 [(.int .i64 x0.Kind), (.string x0.Pattern.Rel), v19, (.string x0.Left), (.string x0.Right)], bx g9 [(.string r.Name), (.int .i64 r.Priority), v, (.slice none 0 0)], bx g8 [(.string ⟨#[]⟩), (.int .i64 0), (.slice none 0 0), (.slice none 0 0)], bx g7 [(.string r.Name), (.int .i64 r.Priority), u1, u3]]) [2, 1, 0, 3, 4, 5] rfl rfl (ty 9 rfl (by kernel_rfl) rfl (D_ap s_93 y_147 rfl (by decide) rfl rfl rfl rfl rfl rfl (by first | omega | (simp; omega)) (by first | omega | (simp; omega)) fun v22 => ?_)))
   refine tZ rfl (ty 10 rfl (by kernel_rfl) rfl (sv rfl rfl (Db f_96_2 rfl rfl (q := 2) rfl) ?_))
   refine tZ rfl (Dp (fun w' hs => one_own (k := 0) hs rfl) ?_)
   intro ho23
   refine ty 11 rfl (by kernel_rfl) rfl (D_stb (vs := [v22]) (cs' := [(.string r.Name), (.int .i64 r.Priority), v22, (.slice none 0 0)]) 1 z_93 rfl rfl rfl rfl rfl (cells_of_one ho23) (ocons ho23 onil) (by simp) rfl ?_)
   refine tZ rfl (tE (by kernel_rfl) (Xb (Xt (Dw [(1, (.pointer (some ⟨g7, 0, none⟩))), (2, (.pointer (some ⟨g8, 0, none⟩))), (3, (.pointer (some ⟨g9, 0, none⟩))), (4, (.int .i64 ((k : Nat) : Int)))] ⟨rfl, rfl, rfl, rfl, trivial⟩ (Dh ([ov [v22] ((r.If.take k) ++ [x0] : (List Cond)), bx g9 [(.string r.Name), (.int .i64 r.Priority), v22, (.slice none 0 0)], bx g8 [(.string ⟨#[]⟩), (.int .i64 0), (.slice none 0 0), (.slice none 0 0)], bx g7 [(.string r.Name), (.int .i64 r.Priority), u1, u3]]) rfl (Cr (p1 rfl (q1 rfl (D_add rfl rfl rfl (r := ((k + 1 : Nat) : Int)) (by omega) (by omega)) (Pe rfl (D_eq 0 rfl (show ((r.If.take k) ++ [x0] : (List Cond)) = r.If.take (k + 1) from by exact (take_snoc x0h).symm) (fun ac w' hf hs => ⟨_, ?_, k + 1, v22, ?_, rfl, hf.weak ⟨rfl, rfl, rfl, rfl, trivial⟩, hs⟩)))))))))))
   ·omega
   ·first | assumption | omega | simp
  ·have pr10 : ¬ (((k : Nat) : Int) : Int) < ((r.If.length : Nat) : Int) := odF h10
   refine Cx (Xx (Xx (Xe (Xt (Cq (Sr (Pe rfl (Cb (Cl (fun m_ ac w' => ∃ (j : Nat), ∃ (v2 : Value), (j ≤ r.Then.length) ∧ m_ = r.Then.length - j ∧ Fits ac 56 [(1, (.pointer (some ⟨g7, 0, none⟩))), (2, (.pointer (some ⟨g8, 0, none⟩))), (3, (.pointer (some ⟨g9, 0, none⟩))), (5, (.int .i64 ((j : Nat) : Int)))] ∧ St w ([ov [v2] (r.Then.take j : (List Action)), ov [v] (r.If.take k : (List Cond)), bx g9 [(.string r.Name), (.int .i64 r.Priority), v, v2], bx g8 [(.string ⟨#[]⟩), (.int .i64 0), (.slice none 0 0), (.slice none 0 0)], bx g7 [(.string r.Name), (.int .i64 r.Priority), u1, u3]]) w') ?_ ?_)))))))))
   ·refine D_nil (α := Action) (D_eq 0 rfl (show ([] : (List Action)) = r.Then.take 0 from by simp) (fun ac w' hf hs => ⟨_, 0, (.slice none 0 0), ?_, rfl, hf.weak ⟨rfl, rfl, rfl, rfl, trivial⟩, hs⟩))
    ·first | assumption | omega | simp
   ·rintro m_ ac w' ⟨j, v2, hj, rfl, hf, hs⟩
    refine D.use ?_ hf hs
    clear hf hs ac w'
    have hclj : (r.Then.take j).length ≤ j := by rw [List.length_take]; omega
    refine Cq (Sr (p1 rfl (q1 rfl (Db f_96_3 rfl rfl (q := 3) rfl) (q1 rfl (lb 4 o_94 rfl rfl rfl rfl) (q1 rfl (Dl s_94 rfl rfl (rd_sl hu4)) (Pe rfl (Dh ([ov [v2] (r.Then.take j : (List Action)), ov [v] (r.If.take k : (List Cond)), bx g9 [(.string r.Name), (.int .i64 r.Priority), v, v2], bx g8 [(.string ⟨#[]⟩), (.int .i64 0), (.slice none 0 0), (.slice none 0 0)], bx g7 [(.string r.Name), (.int .i64 r.Priority), u1, u3]]) rfl (Ci _ rfl (fun h24 => ?_) (fun h24 => ?_)))))))))
    ·have pr24 : (((j : Nat) : Int) : Int) < ((r.Then.length : Nat) : Int) := odT h24
     refine Sk (Cq (Cb (C_draw mixed [17, 18, 19] (by kernel_rfl) (Tk 0 rfl (by kernel_rfl) rfl (Db f_96_3 rfl rfl (q := 3) rfl) (Tk 1 rfl (by kernel_rfl) rfl (lb 2 o_94 rfl rfl rfl rfl) (Tk 2 rfl (by kernel_rfl) rfl (Db f_96_3 rfl rfl (q := 3) rfl) (Tk 3 rfl (by kernel_rfl) rfl (lb 4 o_94 rfl rfl rfl rfl) (Tk 4 rfl (by kernel_rfl) rfl (rp rfl) ?_))))))))
     obtain ⟨a0, a0h⟩ := sL (l := r.Then) (i := j) (by omega)
     have haz := act_sz a0h
     have hap : szAction a0 = szPattern a0.Pattern := rfl
     have hpa := szPat_args a0.Pattern
     obtain ⟨es25, at26, hr27⟩ := rd_elem (n := 3) rfl hu4 a0h
     obtain ⟨u28, rfl, hu29⟩ := open_Action hr27
     have hm30 := rd_max hu29
     have hb31 := sub_Action_Pattern hr27
     refine Tk 5 rfl (by kernel_rfl) rfl (D_ix (l := r.Then) (j := j) s_94 rfl rfl rfl (fun w' hs => (rA hs hu4)) rfl (lS a0h)) (Tk 6 rfl (by kernel_rfl) rfl (D_fa f_159_0 rfl rfl) (Tk 7 rfl (by kernel_rfl) rfl (lr o_3 rfl rfl at26 rfl) (Tk 8 rfl (by kernel_rfl) rfl (Db f_96_3 rfl rfl (q := 3) rfl) (Tk 9 rfl (by kernel_rfl) rfl (lb 4 o_94 rfl rfl rfl rfl) (Tk 10 rfl (by kernel_rfl) rfl (rp rfl) (Tk 11 rfl (by kernel_rfl) rfl (D_ix (l := r.Then) (j := j) s_94 rfl rfl rfl (fun w' hs => (rA hs hu4)) rfl (lS a0h)) (Tk 12 rfl (by kernel_rfl) rfl (D_fa f_159_1 rfl rfl) (Tk 13 rfl (by kernel_rfl) rfl (lra a_145 rfl rfl (at_sub (f := 1) (n := 2) at26 rfl)) (ty 14 rfl (by kernel_rfl) rfl (crs rfl b_207 rfl rfl rfl rfl (fun w' hs => (spec_l3CopyPattern w' [(.string a0.Pattern.Rel), u28] a0.Pattern (rA hs hb31) (by first | assumption | omega | (unfold szm at *; split at * <;> omega)))) fun cs32 => ?_))))))))))
     refine Dp (fun w' hs => shape_Pattern (rO (k := 0) hs rfl)) ?_
     rintro ⟨v33, rfl, ho34⟩
     refine tS (fun _ hs => hs.pk [1, 2, 3, 4, 5] rfl rfl) (Tj 15 rfl (by kernel_rfl) rfl (fun _ hs => hs.pk [1, 2, 3, 4, 5] rfl rfl) (D_built (vs := [(0, (.int .i64 a0.Kind)), (1, (.agg #[(.string a0.Pattern.Rel), v33]))]) (xs := [(0, [(.int .i64 a0.Kind)]), (1, [(.string a0.Pattern.Rel), v33])]) (cs := [(.int .i64 a0.Kind), (.string a0.Pattern.Rel), v33]) pl_159 rfl ⟨rfl, rfl, ⟨rfl, rfl, trivial⟩⟩ rfl rfl) (ty 16 rfl (by kernel_rfl) rfl (D_bs s_94 y_159 rfl (by decide) (by decide) rfl rfl rfl rfl rfl rfl fun g35 => ?_)))
     refine tS (fun _ hs => hs.pk [2, 3, 4, 5, 6] rfl rfl) (D_pk (H' := [ov [(.string a0.Pattern.Rel), v33] (a0.Pattern : Pattern), bx g35 [(.int .i64 a0.Kind), (.string a0.Pattern.Rel), v33], ov [v2] (r.Then.take j : (List Action)), ov [v] (r.If.take k : (List Cond)), bx g9 [(.string r.Name), (.int .i64 r.Priority), v, v2], bx g8 [(.string ⟨#[]⟩), (.int .i64 0), (.slice none 0 0), (.slice none 0 0)], bx g7 [(.string r.Name), (.int .i64 r.Priority), u1, u3]]) [1, 0, 2, 3, 4, 5, 6] rfl rfl (D_unpair (α := ByteArray) (β := (List ByteArray)) (c1 := [(.string a0.Pattern.Rel)]) (c2 := [v33]) (x := a0.Pattern.Rel) (y := (a0.Pattern.Args)) rfl rfl (D_fd [] 1 rfl (pk_Action (r := (a0 : Action)) (D_pk (H' := [ov [v2] (r.Then.take j : (List Action)), ov [(.int .i64 a0.Kind), (.string a0.Pattern.Rel), v33] ((a0 : Action) : Action), bx g35 [(.int .i64 a0.Kind), (.string a0.Pattern.Rel), v33], ov [v] (r.If.take k : (List Cond)), bx g9 [(.string r.Name), (.int .i64 r.Priority), v, v2], bx g8 [(.string ⟨#[]⟩), (.int .i64 0), (.slice none 0 0), (.slice none 0 0)], bx g7 [(.string r.Name), (.int .i64 r.Priority), u1, u3]]) [2, 0, 1, 3, 4, 5, 6] rfl rfl (ty 17 rfl (by kernel_rfl) rfl (D_ap s_94 y_159 rfl (by decide) rfl rfl rfl rfl rfl rfl (by first | omega | (simp; omega)) (by first | omega | (simp; omega)) fun v36 => ?_)))))))
     refine tZ rfl (ty 18 rfl (by kernel_rfl) rfl (sv rfl rfl (Db f_96_3 rfl rfl (q := 3) rfl) ?_))
     refine tZ rfl (Dp (fun w' hs => one_own (k := 0) hs rfl) ?_)
     intro ho37
     refine ty 19 rfl (by kernel_rfl) rfl (D_stb (vs := [v36]) (cs' := [(.string r.Name), (.int .i64 r.Priority), v, v36]) 2 z_94 rfl rfl rfl rfl rfl (cells_of_one ho37) (ocons ho37 onil) (by simp) rfl ?_)
     refine tZ rfl (tE (by kernel_rfl) (Xb (Xt (Dw [(1, (.pointer (some ⟨g7, 0, none⟩))), (2, (.pointer (some ⟨g8, 0, none⟩))), (3, (.pointer (some ⟨g9, 0, none⟩))), (5, (.int .i64 ((j : Nat) : Int)))] ⟨rfl, rfl, rfl, rfl, trivial⟩ (Dh ([ov [v36] ((r.Then.take j) ++ [(a0 : Action)] : (List Action)), ov [v] (r.If.take k : (List Cond)), bx g9 [(.string r.Name), (.int .i64 r.Priority), v, v36], bx g8 [(.string ⟨#[]⟩), (.int .i64 0), (.slice none 0 0), (.slice none 0 0)], bx g7 [(.string r.Name), (.int .i64 r.Priority), u1, u3]]) rfl (Cr (p1 rfl (q1 rfl (D_add rfl rfl rfl (r := ((j + 1 : Nat) : Int)) (by omega) (by omega)) (Pe rfl (D_eq 0 rfl (show ((r.Then.take j) ++ [(a0 : Action)] : (List Action)) = r.Then.take (j + 1) from by exact (take_snoc a0h).symm) (fun ac w' hf hs => ⟨_, ?_, j + 1, v36, ?_, rfl, hf.weak ⟨rfl, rfl, rfl, rfl, trivial⟩, hs⟩)))))))))))
     ·omega
     ·first | assumption | omega | simp
    ·have pr24 : ¬ (((j : Nat) : Int) : Int) < ((r.Then.length : Nat) : Int) := odF h24
     refine Cx (Xx (Xx (Xe (Xt (Sr (q1 rfl (lbw 2 a_96 rfl rfl rfl) (Dp (fun w' hs => one_own (k := 0) hs rfl) ?_)))))))
     intro ho38
     refine Dp (fun w' hs => one_own (k := 1) hs rfl) ?_
     intro ho39
     refine li rfl (D_stb (vs := [(.string r.Name), (.int .i64 r.Priority), v, v2]) (cs' := [(.string r.Name), (.int .i64 r.Priority), v, v2]) 3 z_96 rfl rfl rfl rfl rfl rfl (ocons rfl (ocons rfl (ocons ho39 (ocons ho38 onil)))) (by simp) rfl ?_)
     refine Dx (Ct (D_pk (H' := [ov [v] (r.If.take k : (List Cond)), ov [v2] (r.Then.take j : (List Action)), bx g9 [(.string r.Name), (.int .i64 r.Priority), v, v2], bx g8 [(.string r.Name), (.int .i64 r.Priority), v, v2], bx g7 [(.string r.Name), (.int .i64 r.Priority), u1, u3]]) [1, 0, 2, 3, 4] rfl rfl (pk_Rule (r := (⟨r.Name, r.Priority, r.If.take k, r.Then.take j⟩ : Rule)) (R_c 2 a_96 rfl rfl rfl fun w' hs => res_of (k := 0) hs rfl ?_))))
     show (⟨r.Name, r.Priority, r.If.take k, r.Then.take j⟩ : Rule) = r
     show (⟨r.Name, r.Priority, r.If.take k, r.Then.take j⟩ : Rule) = r; rw [List.take_of_length_le (by omega), List.take_of_length_le (by omega)]
theorem spec_l5Copies (w : World) (v_l : Value) (l : (List Rule)) (h_l : Gd.rd w [v_l] l) (hn : szL szRule l ≤ 1048576) : Calls Tryz.prog 122 [v_l].toArray w (Res w (l : List Rule)) := by
 have hm1 := rd_max h_l
 unfold szL at hn
 refine enter 21 Tryz.func122 rfl rfl rfl (Sr (Pe rfl (Sr (li rfl (D_bs0 (α := Rule) s_40 rfl rfl rfl fun v2 => ?_)))))
 refine Pe rfl (Dh ([ov [v2] ([] : (List Rule))]) rfl (Cq (Sr (Pe rfl (Cb (Cl (fun m_ ac w' => ∃ (k : Nat), ∃ (v : Value), (k ≤ l.length) ∧ m_ = l.length - k ∧ Fits ac 21 [(0, v_l), (3, v), (4, (.int .i64 ((k : Nat) : Int)))] ∧ St w ([ov [v] (l.take k : (List Rule))]) w') ?_ ?_))))))
 ·refine D_eq 0 rfl (show ([] : (List Rule)) = l.take 0 from by simp) (fun ac w' hf hs => ⟨_, 0, v2, ?_, rfl, hf.weak ⟨rfl, rfl, rfl, trivial⟩, hs⟩)
  ·first | assumption | omega | simp
 ·rintro m_ ac w' ⟨k, v, hk, rfl, hf, hs⟩
  refine D.use ?_ hf hs
  clear hf hs ac w'
  have hcl : (l.take k).length ≤ k := by rw [List.length_take]; omega
  refine Cq (Sr (P2 rfl rfl (q1 rfl (Dl s_40 rfl rfl (rd_sl h_l)) (Pe rfl (Dh ([ov [v] (l.take k : (List Rule))]) rfl (Ci _ rfl (fun h3 => ?_) (fun h3 => ?_)))))))
  ·have pr3 : (((k : Nat) : Int) : Int) < ((l.length : Nat) : Int) := odT h3
   refine Sk (Cq (Cb (Cr (P3 rfl rfl rfl ?_))))
   obtain ⟨x0, x0h⟩ := sL (l := l) (i := k) (by omega)
   have hle := sumC_mem (c := szRule) (List.mem_of_getElem? x0h)
   obtain ⟨es4, at5, hr6⟩ := rd_elem (n := 4) rfl h_l x0h
   obtain ⟨u7, u9, rfl, hu8, hu10⟩ := open_Rule hr6
   have hm11 := rd_max hu8
   have hm12 := rd_max hu10
   refine q1 rfl (D_ix (l := l) (j := k) s_40 rfl rfl rfl (fun w' hs => (rA hs h_l)) rfl (lS x0h)) (q1 rfl (lra a_96 rfl rfl at5) (li rfl (crs rfl b_177 rfl rfl rfl rfl (fun w' hs => (spec_l5Copy w' [(.string x0.Name), (.int .i64 x0.Priority), u7, u9] x0 (rA hs hr6) (by first | assumption | omega | (unfold szm at *; split at * <;> omega)))) fun cs13 => ?_)))
   refine Dp (fun w' hs => shape_Rule (rO (k := 0) hs rfl)) ?_
   rintro ⟨v14, v15, rfl, ho16, ho17⟩
   refine li rfl (D_bs s_40 y_96 rfl (by decide) (by decide) rfl rfl rfl rfl rfl rfl fun g18 => ?_)
   refine D_pk (H' := [ov [v] (l.take k : (List Rule)), ov [(.string x0.Name), (.int .i64 x0.Priority), v14, v15] (x0 : Rule), bx g18 [(.string x0.Name), (.int .i64 x0.Priority), v14, v15]]) [2, 1, 0] rfl rfl (li rfl (D_ap s_40 y_96 rfl (by decide) rfl rfl rfl rfl rfl rfl (by first | omega | (simp; omega)) (by first | omega | (simp; omega)) fun v19 => ?_))
   refine p1 rfl (De (Xb (Xt (Dh ([ov [v19] ((l.take k) ++ [x0] : (List Rule))]) rfl (Cr (p1 rfl (q1 rfl (D_add rfl rfl rfl (r := ((k + 1 : Nat) : Int)) (by omega) (by omega)) (Pe rfl (D_eq 0 rfl (show ((l.take k) ++ [x0] : (List Rule)) = l.take (k + 1) from by exact (take_snoc x0h).symm) (fun ac w' hf hs => ⟨_, ?_, k + 1, v19, ?_, rfl, hf.weak ⟨rfl, rfl, rfl, trivial⟩, hs⟩))))))))))
   ·omega
   ·first | assumption | omega | simp
  ·have pr3 : ¬ (((k : Nat) : Int) : Int) < ((l.length : Nat) : Int) := odF h3
   refine Cx (Xx (Xx (Xe (Xt (Sr (P2 rfl rfl (Dx (Ct (R_1 rfl rfl fun w' hs => res_of (k := 0) hs rfl ?_)))))))))
   show l.take k = l
   rw [List.take_of_length_le (by omega)]
end Go.Sy.Eng4
