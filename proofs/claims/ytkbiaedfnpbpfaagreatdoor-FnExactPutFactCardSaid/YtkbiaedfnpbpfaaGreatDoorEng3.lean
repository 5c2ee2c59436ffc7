/-
  Contracts of functions of the program, walked (printed by a program of ours).
  Conditions: those that each theorem states.
-/
import Derived.Test.YtkbiaedfnpbpfaaGreatDoorEng2
set_option linter.unusedVariables false
set_option maxRecDepth 20000
namespace Go.Sy.Eng3
open Go Go.RowKit Go.Proofs Go.Sy
theorem mixed : Tryz.prog.follows .mixedOrders = true := by kernel_rfl
theorem f_96_2 : fieldOff Tryz.prog 96 2 = some 2 := by kernel_rfl
theorem o_93 : oneTy Tryz.prog 93 = true := by kernel_rfl
theorem s_93 : sliceTy Tryz.prog 93 = some (147, 5, 80) := by kernel_rfl
theorem a_147 : aggTy Tryz.prog 147 = some 5 := by kernel_rfl
theorem y_147 : zeroTy Tryz.prog 147 = some (.agg #[(.int .i64 0), (.string ⟨#[]⟩), (.slice none 0 0), (.string ⟨#[]⟩), (.string ⟨#[]⟩)]) := by kernel_rfl
theorem z_147 : sizeTy Tryz.prog 147 = some 5 := by kernel_rfl
theorem f_147_0 : fieldOff Tryz.prog 147 0 = some 0 := by kernel_rfl
theorem o_3 : oneTy Tryz.prog 3 = true := by kernel_rfl
theorem f_147_1 : fieldOff Tryz.prog 147 1 = some 1 := by kernel_rfl
theorem f_145_1 : fieldOff Tryz.prog 145 1 = some 1 := by kernel_rfl
theorem o_58 : oneTy Tryz.prog 58 = true := by kernel_rfl
theorem b_167 : hasBody Tryz.prog 167 = true := by kernel_rfl
theorem s_58 : sliceTy Tryz.prog 58 = some (9, 1, 16) := by kernel_rfl
theorem y_9 : zeroTy Tryz.prog 9 = some (.string ⟨#[]⟩) := by kernel_rfl
theorem b_169 : hasBody Tryz.prog 169 = true := by kernel_rfl
theorem a_145 : aggTy Tryz.prog 145 = some 2 := by kernel_rfl
theorem b_159 : hasBody Tryz.prog 159 = true := by kernel_rfl
theorem o_9 : oneTy Tryz.prog 9 = true := by kernel_rfl
theorem b_193 : hasBody Tryz.prog 193 = true := by kernel_rfl
theorem b_201 : hasBody Tryz.prog 201 = true := by kernel_rfl
theorem b_168 : hasBody Tryz.prog 168 = true := by kernel_rfl
theorem f_96_3 : fieldOff Tryz.prog 96 3 = some 3 := by kernel_rfl
theorem o_94 : oneTy Tryz.prog 94 = true := by kernel_rfl
theorem s_94 : sliceTy Tryz.prog 94 = some (159, 3, 48) := by kernel_rfl
theorem a_159 : aggTy Tryz.prog 159 = some 3 := by kernel_rfl
theorem y_159 : zeroTy Tryz.prog 159 = some (.agg #[(.int .i64 0), (.string ⟨#[]⟩), (.slice none 0 0)]) := by kernel_rfl
theorem z_159 : sizeTy Tryz.prog 159 = some 3 := by kernel_rfl
theorem f_159_1 : fieldOff Tryz.prog 159 1 = some 1 := by kernel_rfl
theorem b_154 : hasBody Tryz.prog 154 = true := by kernel_rfl
theorem b_155 : hasBody Tryz.prog 155 = true := by kernel_rfl
theorem a_96 : aggTy Tryz.prog 96 = some 4 := by kernel_rfl
theorem b_165 : hasBody Tryz.prog 165 = true := by kernel_rfl
theorem b_202 : hasBody Tryz.prog 202 = true := by kernel_rfl
theorem s_40 : sliceTy Tryz.prog 40 = some (96, 4, 72) := by kernel_rfl
theorem y_96 : zeroTy Tryz.prog 96 = some (.agg #[(.string ⟨#[]⟩), (.int .i64 0), (.slice none 0 0), (.slice none 0 0)]) := by kernel_rfl
theorem z_96 : sizeTy Tryz.prog 96 = some 4 := by kernel_rfl
theorem f_96_0 : fieldOff Tryz.prog 96 0 = some 0 := by kernel_rfl
theorem b_147 : hasBody Tryz.prog 147 = true := by kernel_rfl
theorem f_96_1 : fieldOff Tryz.prog 96 1 = some 1 := by kernel_rfl
theorem b_163 : hasBody Tryz.prog 163 = true := by kernel_rfl
theorem b_164 : hasBody Tryz.prog 164 = true := by kernel_rfl
theorem b_166 : hasBody Tryz.prog 166 = true := by kernel_rfl
theorem b_170 : hasBody Tryz.prog 170 = true := by kernel_rfl
theorem b_145 : hasBody Tryz.prog 145 = true := by kernel_rfl
theorem b_99 : hasBody Tryz.prog 99 = true := by kernel_rfl
theorem b_152 : hasBody Tryz.prog 152 = true := by kernel_rfl
theorem b_153 : hasBody Tryz.prog 153 = true := by kernel_rfl
theorem b_156 : hasBody Tryz.prog 156 = true := by kernel_rfl
theorem b_157 : hasBody Tryz.prog 157 = true := by kernel_rfl
theorem b_158 : hasBody Tryz.prog 158 = true := by kernel_rfl
theorem b_160 : hasBody Tryz.prog 160 = true := by kernel_rfl
theorem b_108 : hasBody Tryz.prog 108 = true := by kernel_rfl
theorem b_109 : hasBody Tryz.prog 109 = true := by kernel_rfl
theorem b_98 : hasBody Tryz.prog 98 = true := by kernel_rfl
theorem b_40 : hasBody Tryz.prog 40 = true := by kernel_rfl
open Go.Sy.Bel1 Go.Sy.Ev1 Go.Sy.Ev2 Go.Sy.Eng1 Go.Sy.Eng2
theorem impl_BoundVars {w : World} {c_r : List Value} {r : Rule} {n : Int} (h_r : Gd.rd w c_r r) (hn : szRule r ≤ 1048576) : Calls Tryz.prog 165 [(.agg c_r.toArray), (iv n)].toArray w (Res w (sortT (bvars r n) : List ByteArray)) := by
 obtain ⟨u1, u3, rfl, hu2, hu4⟩ := open_Rule h_r
 have hm5 := rd_max hu2
 have hm6 := rd_max hu4
 unfold szRule szL at hn
 refine enter 33 Tryz.func165 Y Y Y (Sr (li Y (D_box Y Y Y Y Y fun g7 => ?_)))
 refine Pe Y (Dh ([bx g7 [(.string r.Name), (iv r.Priority), u1, u3]]) Y (Sr (Pe Y (Cq (Sr (q1 Y (Db f_96_2 Y Y (q := 2) Y) (q1 Y (lb 0 o_93 Y Y Y Y) (q1 Y (Dl s_93 Y Y (rd_sl hu2)) (Pe Y (Cb (Cl (fun m_ ac w' => ∃ (k : Nat), ∃ (v : Value), (k ≤ r.If.length) ∧ m_ = r.If.length - k ∧ Fits ac 33 [(1, (iv n)), (5, v), (9, u1), (10, (nv r.If.length)), (11, (nv k))] ∧ St w ([ov [v] (bwT r n k : (List ByteArray)), bx g7 [(.string r.Name), (iv r.Priority), u1, u3]]) w') ?_ ?_)))))))))))
 ·refine D_nil (α := ByteArray) (D_eq 0 Y (show ([] : (List ByteArray)) = bwT r n 0 from by exact bw_zero r n) (fun ac w' hf hs => ⟨_, 0, (.slice none 0 0), ?_, Y, hf.wk Y, hs⟩))
  ·first | assumption | omega | simp
 ·rintro m_ ac w' ⟨k, v, hk, rfl, hf, hs⟩
  refine D.use ?_ hf hs
  clear hf hs ac w'
  have hcl := bwT_len r n k
  refine Sr (Pe Y (Dh ([_, _]) Y (Cq (Ci _ Y (fun h8 => ?_) (fun h8 => ?_)))))
  ·have pr8 := odT h8
   refine Sk (Cq (Cb (Sr (p1 Y ?_))))
   obtain ⟨x0, x0h⟩ := sL (l := r.If) (i := k) (by omega)
   have hcz := cond_sz x0h
   have hca := szCond_args x0
   have hvl := varsL_len x0.Pattern.Args
   have hsl := sortT_len (varsL x0.Pattern.Args)
   have hcl0 := cvars_len x0
   have hscl := sortT_len (cvars x0)
   obtain ⟨es9, at10, hr11⟩ := rd_elem (n := 5) rfl hu2 x0h
   obtain ⟨u12, rfl, hu13⟩ := open_Cond hr11
   have hm14 := rd_max hu13
   have hb15 := sub_Cond_Pattern hr11
   refine q1 Y (D_ix (l := r.If) (j := k) s_93 Y Y Y (fun w' hs => (rA hs hu2)) Y (lS x0h)) (q1 Y (lra a_147 Y Y at10) (li Y (D_alloc y_147 Y Y Y Y fun g16 => ?_)))
   refine p1 Y (li Y (D_stb (vs := [(iv x0.Kind), (.string x0.Pattern.Rel), u12, (.string x0.Left), (.string x0.Right)]) (cs' := [(iv x0.Kind), (.string x0.Pattern.Rel), u12, (.string x0.Left), (.string x0.Right)]) 0 z_147 Y Y Y Y Y Y (ocons Y (ocons Y (ocons (one_rd hu13) (ocons Y (ocons Y onil))))) (by simp) Y ?_))
   refine Dx (Dh ([bx g16 [(iv x0.Kind), (.string x0.Pattern.Rel), u12, (.string x0.Left), (.string x0.Right)], _, _]) Y (Sr (P3 Y Y Y (p1 Y (gs 19 Y Y (fun h17 => ?_) (fun h17 => ?_))))))
   ·have pr17 := odT h17
    refine q1 Y (Db f_147_0 Y Y (q := 0) Y) (q1 Y (lb 0 o_3 Y Y Y Y) (P2 Y Y (Dx (Ci _ Y (fun h18 => ?_) (fun h18 => ?_)))))
    ·have pr18 := eq_of_beq h18
     refine Cr (p1 Y (q1 Y (Db f_147_1 Y Y (q := 1) Y) (q1 Y (Db f_145_1 Y Y (q := 2) Y) (q1 Y (lb 0 o_58 Y Y Y Y) (li Y (crl b_167 Y Y Y Y (fun w' hs => (impl_varsAmong (rA hs hu13) (by first | assumption | omega | (unfold szm at *; split at * <;> omega)))) fun v19 => ?_))))))
     refine D_pkO [2, 0, 1, 3] Y (li Y (D_apl (α := ByteArray) (ys := (varsL x0.Pattern.Args)) s_58 y_9 Y Y Y Y Y Y (fun w' hs => (rO (k := 1) hs Y)) (by first | omega | (simp; omega)) (by first | omega | (simp; omega)) fun v20 => ?_))
     refine p1 Y (De (Xb (Xt (D_wk [1, 5, 9, 10, 11] Y (D_pkO [0, 3] Y (Dh ([ov [v20] ((bwT r n k) ++ (varsL x0.Pattern.Args) : (List ByteArray)), _]) Y (Cr (q1 Y (D_add Y Y Y (r := ((k + 1 : Nat) : Int)) (by omega) (by omega)) (Pe Y (D_eq 0 Y (show ((bwT r n k) ++ (varsL x0.Pattern.Args) : (List ByteArray)) = bwT r n (k + 1) from by first | exact bwT_t x0h (by omega) (by omega) | exact bwT_f x0h (.inl (by omega)) | exact bwT_f x0h (.inr (by omega))) (fun ac w' hf hs => ⟨_, ?_, k + 1, v20, ?_, Y, hf.wk Y, hs⟩)))))))))))
     ·omega
     ·first | assumption | omega | simp
    ·have pr18 := ne_of_beq_false h18
     refine Ck (Xb (Xt (Cr (q1 Y (D_add Y Y Y (r := ((k + 1 : Nat) : Int)) (by omega) (by omega)) (Pe Y (D_eq 1 Y (show (bwT r n k : (List ByteArray)) = bwT r n (k + 1) from by first | exact bwT_t x0h (by omega) (by omega) | exact bwT_f x0h (.inl (by omega)) | exact bwT_f x0h (.inr (by omega))) (fun ac w' hf hs => ⟨_, ?_, k + 1, v, ?_, Y, hf.wk Y, hs.pk [1, 2] Y Y⟩)))))))
     ·omega
     ·first | assumption | omega | simp
   ·have pr17 := odF h17
    refine n1 Y (n1 Y (n1 Y (Pe Y (C_f Y (Ck (Xb (Xt (Cr (q1 Y (D_add Y Y Y (r := ((k + 1 : Nat) : Int)) (by omega) (by omega)) (Pe Y (D_eq 1 Y (show (bwT r n k : (List ByteArray)) = bwT r n (k + 1) from by first | exact bwT_t x0h (by omega) (by omega) | exact bwT_f x0h (.inl (by omega)) | exact bwT_f x0h (.inr (by omega))) (fun ac w' hf hs => ⟨_, ?_, k + 1, v, ?_, Y, hf.wk Y, hs.pk [1, 2] Y Y⟩))))))))))))
    ·omega
    ·first | assumption | omega | simp
  ·have pr8 := odF h8
   refine Cx (Xx (Xx (Xe (Xt (Sr (p1 Y (li Y (crl b_169 Y Y Y Y (fun w' hs => (impl_SortedTexts (rO (k := 0) hs Y) (by first | assumption | omega | (unfold szm at *; split at * <;> omega)))) fun v21 => ?_))))))))
   refine Pe Y (Ct (R_1 Y Y fun w' hs => res_of (k := 0) hs Y ?_))
   show sortT (bwT r n k) = sortT (bvars r n)
   rw [bwT_done (by omega) (by omega)]
theorem spec_BoundVars {w : World} {c_r : List Value} {r : Rule} {n : Int} (h_r : Gd.rd w c_r r) (hn : szRule r ≤ 1048576) (ho : okRule r) : Calls Tryz.prog 152 [(.agg c_r.toArray), (iv n)].toArray w (Res w (sortT (bvars r n) : List ByteArray)) := by
 obtain ⟨u1, u3, rfl, hu2, hu4⟩ := open_Rule h_r
 have hm5 := rd_max hu2
 have hm6 := rd_max hu4
 unfold szRule szL at hn
 refine enter 49 Tryz.func152 Y Y Y (Sr (li Y (D_box Y Y Y Y Y fun g7 => ?_)))
 refine Pe Y (Dh ([bx g7 [(.string r.Name), (iv r.Priority), u1, u3]]) Y (Sr (li Y (D_bs0 (α := ByteArray) s_58 Y Y Y fun v8 => ?_))))
 refine Pe Y (Dh ([ov [v8] ([] : (List ByteArray)), _]) Y (Cq (Sr (Pe Y (Cb (Cl (fun m_ ac w' => ∃ (i : Nat), ∃ (v : Value), (i ≤ r.If.length) ∧ (i = 0 ∨ (i : Int) ≤ n) ∧ m_ = r.If.length - i ∧ Fits ac 49 [(1, (iv n)), (2, (pv g7)), (5, v), (6, (nv i))] ∧ St w ([ov [v] (sortT (bvT r i) : (List ByteArray)), bx g7 [(.string r.Name), (iv r.Priority), u1, u3]]) w') ?_ ?_))))))
 ·refine D_eq 0 Y (show ([] : (List ByteArray)) = sortT (bvT r 0) from by exact bvS_zero r) (fun ac w' hf hs => ⟨_, 0, v8, ?_, ?_, Y, hf.wk Y, hs⟩)
  ·first | assumption | omega | simp
  ·exact .inl rfl
 ·rintro m_ ac w' ⟨i, v, hi, hin, rfl, hf, hs⟩
  refine D.use ?_ hf hs
  clear hf hs ac w'
  have hcl := bvT_len r i
  have hcs := sortT_len (bvT r i)
  refine Cq (Sr (p1 Y (q1 Y (Db f_96_2 Y Y (q := 2) Y) (q1 Y (lb 1 o_93 Y Y Y Y) (q1 Y (Dl s_93 Y Y (rd_sl hu2)) (P2 Y Y (gs 15 Y Y (fun h9 => ?_) (fun h9 => ?_))))))))
  ·have pr9 := odT h9
   refine P3 Y Y Y (Pe Y (Dh ([_, _]) Y (Ci _ Y (fun h10 => ?_) (fun h10 => ?_))))
   ·have pr10 := odT h10
    refine Sk (Cq (Cb (Sr (q1 Y (Db f_96_2 Y Y (q := 2) Y) (q1 Y (lb 1 o_93 Y Y Y Y) (p1 Y ?_))))))
    obtain ⟨x0, x0h⟩ := sL (l := r.If) (i := i) (by omega)
    have hcz := cond_sz x0h
    have hca := szCond_args x0
    have hvl := varsL_len x0.Pattern.Args
    have hsl := sortT_len (varsL x0.Pattern.Args)
    have hcl0 := cvars_len x0
    have hscl := sortT_len (cvars x0)
    have hco := ho.2.2.1 _ (List.mem_of_getElem? x0h)
    obtain ⟨es11, at12, hr13⟩ := rd_elem (n := 5) rfl hu2 x0h
    obtain ⟨u14, rfl, hu15⟩ := open_Cond hr13
    have hm16 := rd_max hu15
    have hb17 := sub_Cond_Pattern hr13
    refine q1 Y (D_ix (l := r.If) (j := i) s_93 Y Y Y (fun w' hs => (rA hs hu2)) Y (lS x0h)) (q1 Y (D_fa f_147_0 Y Y) (q1 Y (lr o_3 Y Y at12 Y) (Pe Y (D_wk [1, 2, 5, 6, 28] Y (Ci _ Y (fun h18 => ?_) (fun h18 => ?_))))))
    ·have pr18 := eq_of_beq h18
     refine Sr (q1 Y (Db f_96_2 Y Y (q := 2) Y) (q1 Y (lb 1 o_93 Y Y Y Y) (p1 Y (q1 Y (D_ix (l := r.If) (j := i) s_93 Y Y Y (fun w' hs => (rA hs hu2)) Y (lS x0h)) (q1 Y (D_fa f_147_1 Y Y) (q1 Y (lra a_145 Y Y (at_sub (f := 1) (n := 2) at12 Y)) (li Y (crl b_159 Y Y Y Y (fun w' hs => (spec_VarsOf (rA hs hb17) (by first | assumption | omega | (unfold szm at *; split at * <;> omega)) (by first | exact hco.2.1 | exact hao.2))) fun v19 => ?_))))))))
     refine Pe Y (Dh ([ov [v19] (sortT (varsL x0.Pattern.Args) : (List ByteArray)), _, _]) Y (Sr (Pe Y (Cb (Cl (fun m_ ac w' => ∃ (q : Nat), ∃ (v2 : Value), (q ≤ (sortT (varsL x0.Pattern.Args)).length) ∧ m_ = (sortT (varsL x0.Pattern.Args)).length - q ∧ Fits ac 49 [(1, (iv n)), (2, (pv g7)), (5, v2), (6, (nv i)), (7, v19), (8, (nv q))] ∧ St w ([ov [v19] (sortT (varsL x0.Pattern.Args) : (List ByteArray)), ov [v2] (((sortT (varsL x0.Pattern.Args)).take q).foldl putS (sortT (bvT r i)) : (List ByteArray)), bx g7 [(.string r.Name), (iv r.Priority), u1, u3]]) w') ?_ ?_)))))
     ·refine D_eq 1 Y (show (sortT (bvT r i) : (List ByteArray)) = ((sortT (varsL x0.Pattern.Args)).take 0).foldl putS (sortT (bvT r i)) from by rfl) (fun ac w' hf hs => ⟨_, 0, v, ?_, Y, hf.wk Y, hs⟩)
      ·first | assumption | omega | simp
     ·rintro m_ ac w' ⟨q, v2, hq, rfl, hf, hs⟩
      refine D.use ?_ hf hs
      clear hf hs ac w'
      have hfl := foldT_len (sortT (varsL x0.Pattern.Args)) (sortT (bvT r i)) q
      refine Cq (Sr (P2 Y Y (q1 Y (D_leno 0 s_58 Y Y Y) (Pe Y (Dh ([_, _, _]) Y (Ci _ Y (fun h20 => ?_) (fun h20 => ?_)))))))
      ·have pr20 := odT h20
       refine Sk (Cq (Cb (Cr (P3 Y Y Y ?_))))
       obtain ⟨y0, y0h⟩ := sL (l := (sortT (varsL x0.Pattern.Args))) (i := q) (by omega)
       refine q1 Y (D_ix (l := (sortT (varsL x0.Pattern.Args))) (j := q) s_58 Y Y Y (fun w' hs => (rO (k := 0) hs Y)) Y (lS y0h)) (q1 Y (lo (α := ByteArray) 0 o_9 Y Y Y y0h) (li Y (crl b_193 Y Y Y Y (fun w' hs => (spec_l1Put (rO (k := 1) hs Y) (by first | assumption | omega | (unfold szm at *; split at * <;> omega)))) fun v21 => ?_)))
       refine p1 Y (De (Xb (Xt (Dh ([ov [v21] (putS (((sortT (varsL x0.Pattern.Args)).take q).foldl putS (sortT (bvT r i))) y0 : (List ByteArray)), _, _, _]) Y (Cr (p1 Y (q1 Y (D_add Y Y Y (r := ((q + 1 : Nat) : Int)) (by omega) (by omega)) (Pe Y (D_eq 0 Y (show (putS (((sortT (varsL x0.Pattern.Args)).take q).foldl putS (sortT (bvT r i))) y0 : (List ByteArray)) = ((sortT (varsL x0.Pattern.Args)).take (q + 1)).foldl putS (sortT (bvT r i)) from by exact foldT_step y0h) (fun ac w' hf hs => ⟨_, ?_, q + 1, v21, ?_, Y, hf.wk Y, hs.pk [1, 0, 3] Y Y⟩))))))))))
       ·omega
       ·first | assumption | omega | simp
      ·have pr20 := odF h20
       refine Cx (Xx (Xx (Xe (Xb (Xt (Cr (p1 Y (q1 Y (D_add Y Y Y (r := ((i + 1 : Nat) : Int)) (by omega) (by omega)) (Pe Y (D_eq 1 Y (show (((sortT (varsL x0.Pattern.Args)).take q).foldl putS (sortT (bvT r i)) : (List ByteArray)) = sortT (bvT r (i + 1)) from by first | exact bvS_t x0h (by omega) (by omega) | exact bvS_f x0h (by omega)) (fun ac w' hf hs => ⟨_, ?_, i + 1, v2, ?_, ?_, Y, hf.wk Y, hs.pk [1, 2] Y Y⟩)))))))))))
       ·omega
       ·first | assumption | omega | simp
       ·omega
    ·have pr18 := ne_of_beq_false h18
     refine Ck (Xb (Xt (Cr (p1 Y (q1 Y (D_add Y Y Y (r := ((i + 1 : Nat) : Int)) (by omega) (by omega)) (Pe Y (D_eq 0 Y (show (sortT (bvT r i) : (List ByteArray)) = sortT (bvT r (i + 1)) from by first | exact bvS_t x0h (by omega) (by omega) | exact bvS_f x0h (by omega)) (fun ac w' hf hs => ⟨_, ?_, i + 1, v, ?_, ?_, Y, hf.wk Y, hs⟩))))))))
     ·omega
     ·first | assumption | omega | simp
     ·omega
   ·have pr10 := odF h10
    refine Cx (Xx (Xx (Xe (Xt (Sr (P2 Y Y (Dx (Ct (R_1 Y Y fun w' hs => res_of (k := 0) hs Y ?_)))))))))
    show sortT (bvT r i) = sortT (bvars r n)
    exact bvS_end (by omega) (by omega)
  ·have pr9 := odF h9
   refine n1 Y (n1 Y (n1 Y (Pe Y (Dh ([_, _]) Y (C_f Y (Cx (Xx (Xx (Xe (Xt (Sr (P2 Y Y (Dx (Ct (R_1 Y Y fun w' hs => res_of (k := 0) hs Y ?_)))))))))))))))
   show sortT (bvT r i) = sortT (bvars r n)
   exact bvS_end (by omega) (by omega)
theorem impl_condVarsOf {w : World} {v_l : Value} {l : (List Cond)} (h_l : Gd.rd w [v_l] l) (hn : szL szCond l ≤ 1048576) : Calls Tryz.prog 170 [v_l].toArray w (Res w (csT l l.length : List ByteArray)) := by
 have hm1 := rd_max h_l
 unfold szL at hn
 refine enter 18 Tryz.func170 Y Y Y (Sr (Pe Y (Sr (Pe Y (Cq (Sr (p1 Y (q1 Y (Dl s_93 Y Y (rd_sl h_l)) (Pe Y (Cb (Cl (fun m_ ac w' => ∃ (k : Nat), ∃ (v : Value), (k ≤ l.length) ∧ m_ = l.length - k ∧ Fits ac 18 [(3, v), (6, v_l), (7, (nv l.length)), (8, (nv k))] ∧ St w ([ov [v] (csT l k : (List ByteArray))]) w') ?_ ?_)))))))))))
 ·refine D_nil (α := ByteArray) (D_eq 0 Y (show ([] : (List ByteArray)) = csT l 0 from by rfl) (fun ac w' hf hs => ⟨_, 0, (.slice none 0 0), ?_, Y, hf.wk Y, hs⟩))
  ·first | assumption | omega | simp
 ·rintro m_ ac w' ⟨k, v, hk, rfl, hf, hs⟩
  refine D.use ?_ hf hs
  clear hf hs ac w'
  have hcl := csT_len l k
  refine Sr (Pe Y (Dh ([_]) Y (Cq (Ci _ Y (fun h2 => ?_) (fun h2 => ?_)))))
  ·have pr2 := odT h2
   refine Sk (Cq (Cb (Sr ?_)))
   obtain ⟨x0, x0h⟩ := sL (l := l) (i := k) (by omega)
   have hcz := sumC_mem (c := szCond) (List.mem_of_getElem? x0h)
   have hca := szCond_args x0
   have hcl0 := cvars_len x0
   have hscl := sortT_len (cvars x0)
   obtain ⟨es3, at4, hr5⟩ := rd_elem (n := 5) rfl h_l x0h
   obtain ⟨u6, rfl, hu7⟩ := open_Cond hr5
   have hm8 := rd_max hu7
   have hb9 := sub_Cond_Pattern hr5
   refine q1 Y (D_ix (l := l) (j := k) s_93 Y Y Y (fun w' hs => (rA hs h_l)) Y (lS x0h)) (q1 Y (lra a_147 Y Y at4) (li Y (D_alloc y_147 Y Y Y Y fun g10 => ?_)))
   refine li Y (D_stb (vs := [(iv x0.Kind), (.string x0.Pattern.Rel), u6, (.string x0.Left), (.string x0.Right)]) (cs' := [(iv x0.Kind), (.string x0.Pattern.Rel), u6, (.string x0.Left), (.string x0.Right)]) 0 z_147 Y Y Y Y Y Y (ocons Y (ocons Y (ocons (one_rd hu7) (ocons Y (ocons Y onil))))) (by simp) Y ?_)
   refine Dx (Dh ([bx g10 [(iv x0.Kind), (.string x0.Pattern.Rel), u6, (.string x0.Left), (.string x0.Right)], _]) Y (Cr (p1 Y (q1 Y (lbw 0 a_147 Y Y Y) (li Y (crl b_201 Y Y Y Y (fun w' hs => (impl_CondVars (rA hs hr5) (by first | assumption | omega | (unfold szm at *; split at * <;> omega)))) fun v11 => ?_))))))
   refine D_pkO [2, 0, 1] Y (li Y (D_apl (α := ByteArray) (ys := (sortT (cvars x0))) s_58 y_9 Y Y Y Y Y Y (fun w' hs => (rO (k := 1) hs Y)) (by first | omega | (simp; omega)) (by first | omega | (simp; omega)) fun v12 => ?_))
   refine p1 Y (De (Xb (Xt (Dh ([ov [v12] ((csT l k) ++ (sortT (cvars x0)) : (List ByteArray)), ov [v11] (sortT (cvars x0) : (List ByteArray)), _]) Y (Cr (q1 Y (D_add Y Y Y (r := ((k + 1 : Nat) : Int)) (by omega) (by omega)) (Pe Y (D_eq 0 Y (show ((csT l k) ++ (sortT (cvars x0)) : (List ByteArray)) = csT l (k + 1) from by exact csT_step x0h) (fun ac w' hf hs => ⟨_, ?_, k + 1, v12, ?_, Y, hf.wk Y, hs.pk [0] Y Y⟩)))))))))
   ·omega
   ·first | assumption | omega | simp
  ·have pr2 := odF h2
   refine Cx (Xx (Xx (Xe (Xt (Sr (P2 Y Y (Dx (Ct (R_1 Y Y fun w' hs => res_of (k := 0) hs Y ?_)))))))))
   show csT l k = csT l l.length
   exact cs_done (by omega) (by omega)
theorem impl_occursElsewhere {w : World} {c_r : List Value} {r : Rule} {k : Int} {v : ByteArray} (h_r : Gd.rd w c_r r) (hn : szRule r ≤ 1048576) (hv : isVarB v = true) : Calls Tryz.prog 202 [(.agg c_r.toArray), (iv k), (.string v)].toArray w (Val w (.bool (elsB r k v))) := by
 obtain ⟨u1, u3, rfl, hu2, hu4⟩ := open_Rule h_r
 have hm5 := rd_max hu2
 have hm6 := rd_max hu4
 unfold szRule szL at hn
 refine enter 42 Tryz.func202 Y Y Y (Sr (li Y (D_box Y Y Y Y Y fun g7 => ?_)))
 refine Pe Y (Dh ([bx g7 [(.string r.Name), (iv r.Priority), u1, u3]]) Y (Cq (Sr (q1 Y (Db f_96_2 Y Y (q := 2) Y) (q1 Y (lb 0 o_93 Y Y Y Y) (q1 Y (Dl s_93 Y Y (rd_sl hu2)) (Pe Y (Cb (Cl (fun m_ ac w' => ∃ (q : Nat), (q ≤ r.If.length) ∧ (∀ a, a < q → elsC r k v a = false) ∧ m_ = r.If.length - q ∧ Fits ac 42 [(1, (iv k)), (2, (.string v)), (3, (pv g7)), (12, u1), (13, (nv r.If.length)), (14, (nv q))] ∧ St w ([bx g7 [(.string r.Name), (iv r.Priority), u1, u3]]) w') ?_ ?_)))))))))
 ·refine fun ac w' hf hs => ⟨_, 0, ?_, ?_, Y, hf.wk Y, hs⟩
  ·first | assumption | omega | simp
  ·intro a ha; omega
 ·rintro m_ ac w' ⟨q, hq, hc, rfl, hf, hs⟩
  refine D.use ?_ hf hs
  clear hf hs ac w'
  refine Sr (Pe Y (Cq (Ci _ Y (fun h8 => ?_) (fun h8 => ?_))))
  ·have pr8 := odT h8
   refine Sk (Cq (Cb (Sr (p1 Y ?_))))
   obtain ⟨x0, x0h⟩ := sL (l := r.If) (i := q) (by omega)
   have hcz := cond_sz x0h
   have hca := szCond_args x0
   have hvl := varsL_len x0.Pattern.Args
   have hsl := sortT_len (varsL x0.Pattern.Args)
   have hcl0 := cvars_len x0
   have hscl := sortT_len (cvars x0)
   obtain ⟨es9, at10, hr11⟩ := rd_elem (n := 5) rfl hu2 x0h
   obtain ⟨u12, rfl, hu13⟩ := open_Cond hr11
   have hm14 := rd_max hu13
   have hb15 := sub_Cond_Pattern hr11
   refine q1 Y (D_ix (l := r.If) (j := q) s_93 Y Y Y (fun w' hs => (rA hs hu2)) Y (lS x0h)) (q1 Y (lra a_147 Y Y at10) (li Y (D_alloc y_147 Y Y Y Y fun g16 => ?_)))
   refine p1 Y (li Y (D_stb (vs := [(iv x0.Kind), (.string x0.Pattern.Rel), u12, (.string x0.Left), (.string x0.Right)]) (cs' := [(iv x0.Kind), (.string x0.Pattern.Rel), u12, (.string x0.Left), (.string x0.Right)]) 0 z_147 Y Y Y Y Y Y (ocons Y (ocons Y (ocons (one_rd hu13) (ocons Y (ocons Y onil))))) (by simp) Y ?_))
   refine Dx (Dh ([bx g16 [(iv x0.Kind), (.string x0.Pattern.Rel), u12, (.string x0.Left), (.string x0.Right)], _]) Y (Sr (P3 Y Y Y (p1 Y (gs 22 Y Y (fun h17 => ?_) (fun h17 => ?_))))))
   ·have pr17 := bne_iff_ne.1 h17
    refine q1 Y (lbw 0 a_147 Y Y Y) (li Y (crl b_201 Y Y Y Y (fun w' hs => (impl_CondVars (rA hs hr11) (by first | assumption | omega | (unfold szm at *; split at * <;> omega)))) fun v18 => ?_))
    refine p1 Y (li Y (cv b_168 Y Y Y Y (fun w' hs => (impl_hasText (rO (k := 0) hs Y))) ?_))
    refine Pe Y (Dh ([ov [v18] (sortT (cvars x0) : (List ByteArray)), _, _]) Y (Ci _ Y (fun h19 => ?_) (fun h19 => ?_)))
    ·refine Sr (Pe Y (Ct (Xq (Xr (Xr (Xq (Xr (Rb Y Y ?_))))))))
     exact els_t1s x0h (by omega) (by assumption)
    ·refine Ck (Xb (Xt (D_wk [1, 2, 3, 12, 13, 14] Y (D_pkO [2] Y (Cr (q1 Y (D_add Y Y Y (r := ((q + 1 : Nat) : Int)) (by omega) (by omega)) (Pe Y (fun ac w' hf hs => ⟨_, ?_, q + 1, ?_, ?_, Y, hf.wk Y, hs⟩))))))))
     ·omega
     ·first | assumption | omega | simp
     ·refine forall_step hc ?_; first | exact elsC_f0 (by omega) | exact elsC_f2s x0h (by assumption)
   ·have pr17 := eq_of_bne_f h17
    refine n1 Y (n1 Y (n1 Y (n1 Y (Pe Y (C_f Y (Ck (Xb (Xt (D_wk [1, 2, 3, 12, 13, 14] Y (D_pkO [1] Y (Cr (q1 Y (D_add Y Y Y (r := ((q + 1 : Nat) : Int)) (by omega) (by omega)) (Pe Y (fun ac w' hf hs => ⟨_, ?_, q + 1, ?_, ?_, Y, hf.wk Y, hs⟩))))))))))))))
    ·omega
    ·first | assumption | omega | simp
    ·refine forall_step hc ?_; first | exact elsC_f0 (by omega) | exact elsC_f2s x0h (by assumption)
  ·have pr8 := odF h8
   refine Cx (Xx (Xx (Xe (Xt (Cq (Sr (q1 Y (Db f_96_3 Y Y (q := 3) Y) (q1 Y (lb 0 o_94 Y Y Y Y) (q1 Y (Dl s_94 Y Y (rd_sl hu4)) (Pe Y (Cb (Cl (fun m_ ac w' => ∃ (j : Nat), (j ≤ r.Then.length) ∧ (∀ i, i < j → ∀ a, r.Then[i]? = some a → elsA v a = false) ∧ m_ = r.Then.length - j ∧ Fits ac 42 [(2, (.string v)), (30, u3), (31, (nv r.Then.length)), (32, (nv j))] ∧ St w ([bx g7 [(.string r.Name), (iv r.Priority), u1, u3]]) w') ?_ ?_))))))))))))
   ·refine fun ac w' hf hs => ⟨_, 0, ?_, ?_, Y, hf.wk Y, hs⟩
    ·first | assumption | omega | simp
    ·intro i hi; omega
   ·rintro m_ ac w' ⟨j, hj, ha, rfl, hf, hs⟩
    refine D.use ?_ hf hs
    clear hf hs ac w'
    refine Sr (Pe Y (Cq (Ci _ Y (fun h20 => ?_) (fun h20 => ?_))))
    ·have pr20 := odT h20
     refine Sk (Cq (Cb (Sr ?_)))
     obtain ⟨a0, a0h⟩ := sL (l := r.Then) (i := j) (by omega)
     obtain ⟨es21, at22, hr23⟩ := rd_elem (n := 3) rfl hu4 a0h
     obtain ⟨u24, rfl, hu25⟩ := open_Action hr23
     have hm26 := rd_max hu25
     have hb27 := sub_Action_Pattern hr23
     refine q1 Y (D_ix (l := r.Then) (j := j) s_94 Y Y Y (fun w' hs => (rA hs hu4)) Y (lS a0h)) (q1 Y (lra a_159 Y Y at22) (li Y (D_alloc y_159 Y Y Y Y fun g28 => ?_)))
     refine li Y (D_stb (vs := [(iv a0.Kind), (.string a0.Pattern.Rel), u24]) (cs' := [(iv a0.Kind), (.string a0.Pattern.Rel), u24]) 0 z_159 Y Y Y Y Y Y (ocons Y (ocons Y (ocons (one_rd hu25) onil))) (by simp) Y ?_)
     refine Dx (Dh ([bx g28 [(iv a0.Kind), (.string a0.Pattern.Rel), u24], _]) Y (Sr (q1 Y (Db f_159_1 Y Y (q := 1) Y) (q1 Y (Db f_145_1 Y Y (q := 2) Y) (q1 Y (lb 0 o_58 Y Y Y Y) (p1 Y (li Y (cv b_168 Y Y Y Y (fun w' hs => (impl_hasText (rA hs hu25))) ?_))))))))
     refine Dx (Ci _ Y (fun h29 => ?_) (fun h29 => ?_))
     ·refine Sr (Pe Y (Ct (Xq (Xr (Xr (Xq (Xr (Rb Y Y ?_))))))))
      first | exact els_t2i hv a0h (by assumption) | exact els_t2s a0h (by assumption)
     ·refine Ck (Xb (Xt (Cr (q1 Y (D_add Y Y Y (r := ((j + 1 : Nat) : Int)) (by omega) (by omega)) (Pe Y (fun ac w' hf hs => ⟨_, ?_, j + 1, ?_, ?_, Y, hf.wk Y, hs.pk [1] Y Y⟩))))))
      ·omega
      ·first | assumption | omega | simp
      ·refine forall_step ha ?_; intro y hy; obtain rfl : y = a0 := Option.some.inj (hy.symm.trans a0h); first | exact elsA_i hv (by assumption) | exact elsA_s (by assumption)
    ·have pr20 := odF h20
     refine Cx (Xx (Xx (Xe (Xt (Sr (Pe Y (Ct (Rb Y Y ?_))))))))
     exact els_f (fun i h => hc i (by omega)) (fun i h => ha i (by omega))
theorem spec_l5Elsewhere {w : World} {c_r : List Value} {r : Rule} {i : Int} {v : ByteArray} (h_r : Gd.rd w c_r r) (hn : szRule r ≤ 1048576) (ho : okRule r) : Calls Tryz.prog 157 [(.agg c_r.toArray), (iv i), (.string v)].toArray w (Val w (.bool (elsB r i v))) := by
 obtain ⟨u1, u3, rfl, hu2, hu4⟩ := open_Rule h_r
 have hm5 := rd_max hu2
 have hm6 := rd_max hu4
 unfold szRule szL at hn
 refine enter 45 Tryz.func157 Y Y Y (Sr (li Y (D_box Y Y Y Y Y fun g7 => ?_)))
 refine Pe Y (Dh ([bx g7 [(.string r.Name), (iv r.Priority), u1, u3]]) Y (Cq (Sr (Pe Y (Cb (Cl (fun m_ ac w' => ∃ (q : Nat), (q ≤ r.If.length) ∧ (∀ a, a < q → elsC r i v a = false) ∧ m_ = r.If.length - q ∧ Fits ac 45 [(1, (iv i)), (2, (.string v)), (3, (pv g7)), (7, (nv q))] ∧ St w ([bx g7 [(.string r.Name), (iv r.Priority), u1, u3]]) w') ?_ ?_))))))
 ·refine fun ac w' hf hs => ⟨_, 0, ?_, ?_, Y, hf.wk Y, hs⟩
  ·first | assumption | omega | simp
  ·intro a ha; omega
 ·rintro m_ ac w' ⟨q, hq, hc, rfl, hf, hs⟩
  refine D.use ?_ hf hs
  clear hf hs ac w'
  refine Cq (Sr (p1 Y (q1 Y (Db f_96_2 Y Y (q := 2) Y) (q1 Y (lb 0 o_93 Y Y Y Y) (q1 Y (Dl s_93 Y Y (rd_sl hu2)) (Pe Y (Ci _ Y (fun h8 => ?_) (fun h8 => ?_))))))))
  ·have pr8 := odT h8
   refine Sk (Cq (Cb (Sr (P3 Y Y Y (p1 Y (gs 19 Y Y (fun h9 => ?_) (fun h9 => ?_)))))))
   ·have pr9 := bne_iff_ne.1 h9
    refine q1 Y (Db f_96_2 Y Y (q := 2) Y) (q1 Y (lb 0 o_93 Y Y Y Y) (p1 Y ?_))
    obtain ⟨x0, x0h⟩ := sL (l := r.If) (i := q) (by omega)
    have hcz := cond_sz x0h
    have hca := szCond_args x0
    have hvl := varsL_len x0.Pattern.Args
    have hsl := sortT_len (varsL x0.Pattern.Args)
    have hcl0 := cvars_len x0
    have hscl := sortT_len (cvars x0)
    have hco := ho.2.2.1 _ (List.mem_of_getElem? x0h)
    obtain ⟨es10, at11, hr12⟩ := rd_elem (n := 5) rfl hu2 x0h
    obtain ⟨u13, rfl, hu14⟩ := open_Cond hr12
    have hm15 := rd_max hu14
    have hb16 := sub_Cond_Pattern hr12
    refine q1 Y (D_ix (l := r.If) (j := q) s_93 Y Y Y (fun w' hs => (rA hs hu2)) Y (lS x0h)) (q1 Y (lra a_147 Y Y at11) (li Y (crl b_154 Y Y Y Y (fun w' hs => (spec_CondVars (rA hs hr12) (by first | assumption | omega | (unfold szm at *; split at * <;> omega)) hco)) fun v17 => ?_)))
    refine p1 Y (li Y (cv b_155 Y Y Y Y (fun w' hs => (spec_l1HasText (rO (k := 0) hs Y))) ?_))
    refine Pe Y (D_wk [1, 2, 3, 7, 28] Y (D_pkO [1] Y (Ci _ Y (fun h18 => ?_) (fun h18 => ?_))))
    ·refine Sr (Pe Y (Ct (Xq (Xr (Xr (Xq (Xr (Rb Y Y ?_))))))))
     exact els_t1s x0h (by omega) (by assumption)
    ·refine Ck (Xb (Xt (Cr (p1 Y (q1 Y (D_add Y Y Y (r := ((q + 1 : Nat) : Int)) (by omega) (by omega)) (Pe Y (fun ac w' hf hs => ⟨_, ?_, q + 1, ?_, ?_, Y, hf.wk Y, hs⟩)))))))
     ·omega
     ·first | assumption | omega | simp
     ·refine forall_step hc ?_; first | exact elsC_f0 (by omega) | exact elsC_f2s x0h (by assumption)
   ·have pr9 := eq_of_bne_f h9
    refine n1 Y (n1 Y (n1 Y (n1 Y (n1 Y (n1 Y (n1 Y (n1 Y (Pe Y (D_wk [1, 2, 3, 7, 28] Y (C_f Y (Ck (Xb (Xt (Cr (p1 Y (q1 Y (D_add Y Y Y (r := ((q + 1 : Nat) : Int)) (by omega) (by omega)) (Pe Y (fun ac w' hf hs => ⟨_, ?_, q + 1, ?_, ?_, Y, hf.wk Y, hs⟩))))))))))))))))))
    ·omega
    ·first | assumption | omega | simp
    ·refine forall_step hc ?_; first | exact elsC_f0 (by omega) | exact elsC_f2s x0h (by assumption)
  ·have pr8 := odF h8
   refine Cx (Xx (Xx (Xe (Xt (Cq (Sr (Pe Y (Cb (Cl (fun m_ ac w' => ∃ (j : Nat), (j ≤ r.Then.length) ∧ (∀ i, i < j → ∀ a, r.Then[i]? = some a → elsA v a = false) ∧ m_ = r.Then.length - j ∧ Fits ac 45 [(2, (.string v)), (3, (pv g7)), (8, (nv j))] ∧ St w ([bx g7 [(.string r.Name), (iv r.Priority), u1, u3]]) w') ?_ ?_)))))))))
   ·refine fun ac w' hf hs => ⟨_, 0, ?_, ?_, Y, hf.wk Y, hs⟩
    ·first | assumption | omega | simp
    ·intro i hi; omega
   ·rintro m_ ac w' ⟨j, hj, ha, rfl, hf, hs⟩
    refine D.use ?_ hf hs
    clear hf hs ac w'
    refine Cq (Sr (p1 Y (q1 Y (Db f_96_3 Y Y (q := 3) Y) (q1 Y (lb 0 o_94 Y Y Y Y) (q1 Y (Dl s_94 Y Y (rd_sl hu4)) (Pe Y (Ci _ Y (fun h19 => ?_) (fun h19 => ?_))))))))
    ·have pr19 := odT h19
     refine Sk (Cq (Cb (Sr (q1 Y (Db f_96_3 Y Y (q := 3) Y) (q1 Y (lb 0 o_94 Y Y Y Y) (p1 Y ?_))))))
     obtain ⟨a0, a0h⟩ := sL (l := r.Then) (i := j) (by omega)
     have haz := act_sz a0h
     have haa := szAct_args a0
     have hvl2 := varsL_len a0.Pattern.Args
     have hsl2 := sortT_len (varsL a0.Pattern.Args)
     have hao := ho.2.2.2 _ (List.mem_of_getElem? a0h)
     obtain ⟨es20, at21, hr22⟩ := rd_elem (n := 3) rfl hu4 a0h
     obtain ⟨u23, rfl, hu24⟩ := open_Action hr22
     have hm25 := rd_max hu24
     have hb26 := sub_Action_Pattern hr22
     refine q1 Y (D_ix (l := r.Then) (j := j) s_94 Y Y Y (fun w' hs => (rA hs hu4)) Y (lS a0h)) (q1 Y (D_fa f_159_1 Y Y) (q1 Y (lra a_145 Y Y (at_sub (f := 1) (n := 2) at21 Y)) (li Y (crl b_159 Y Y Y Y (fun w' hs => (spec_VarsOf (rA hs hb26) (by first | assumption | omega | (unfold szm at *; split at * <;> omega)) (by first | exact hco.2.1 | exact hao.2))) fun v27 => ?_))))
     refine p1 Y (li Y (cv b_155 Y Y Y Y (fun w' hs => (spec_l1HasText (rO (k := 0) hs Y))) ?_))
     refine Dx (Dh ([ov [v27] (sortT (varsL a0.Pattern.Args) : (List ByteArray)), _]) Y (Ci _ Y (fun h28 => ?_) (fun h28 => ?_)))
     ·refine Sr (Pe Y (Ct (Xq (Xr (Xr (Xq (Xr (Rb Y Y ?_))))))))
      first | exact els_t2i hv a0h (by assumption) | exact els_t2s a0h (by assumption)
     ·refine Ck (Xb (Xt (Cr (p1 Y (q1 Y (D_add Y Y Y (r := ((j + 1 : Nat) : Int)) (by omega) (by omega)) (Pe Y (fun ac w' hf hs => ⟨_, ?_, j + 1, ?_, ?_, Y, hf.wk Y, hs.pk [1] Y Y⟩)))))))
      ·omega
      ·first | assumption | omega | simp
      ·refine forall_step ha ?_; intro y hy; obtain rfl : y = a0 := Option.some.inj (hy.symm.trans a0h); first | exact elsA_i hv (by assumption) | exact elsA_s (by assumption)
    ·have pr19 := odF h19
     refine Cx (Xx (Xx (Xe (Xt (Sr (Pe Y (Ct (Rb Y Y ?_))))))))
     exact els_f (fun i h => hc i (by omega)) (fun i h => ha i (by omega))
theorem impl_condFits {w : World} {c_r : List Value} {r : Rule} {k : Int} (h_r : Gd.rd w c_r r) (hn : szRule r ≤ 1048576) (h0 : 0 ≤ k) (h1 : k < r.If.length) : Calls Tryz.prog 164 [(.agg c_r.toArray), (iv k)].toArray w (Val w (.bool (fitB r k))) := by
 obtain ⟨u1, u3, rfl, hu2, hu4⟩ := open_Rule h_r
 have hm5 := rd_max hu2
 have hm6 := rd_max hu4
 have hn0 := hn
 refine enter 42 Tryz.func164 Y Y Y (Sr (li Y (D_box Y Y Y Y Y fun g7 => ?_)))
 refine Pe Y (Dh ([bx g7 [(.string r.Name), (iv r.Priority), u1, u3]]) Y (Sr (q1 Y (Db f_96_2 Y Y (q := 2) Y) (q1 Y (lb 0 o_93 Y Y Y Y) (p1 Y ?_)))))
 obtain ⟨x0, x0h⟩ := sL (l := r.If) (i := (k.toNat)) (by omega)
 unfold szRule szL at hn
 have hcz := cond_sz x0h
 have hca := szCond_args x0
 have hvl := varsL_len x0.Pattern.Args
 have hsl := sortT_len (varsL x0.Pattern.Args)
 have hcl0 := cvars_len x0
 have hscl := sortT_len (cvars x0)
 obtain ⟨es8, at9, hr10⟩ := rd_elem (n := 5) rfl hu2 x0h
 obtain ⟨u11, rfl, hu12⟩ := open_Cond hr10
 have hm13 := rd_max hu12
 have hb14 := sub_Cond_Pattern hr10
 refine q1 Y (D_ix (l := r.If) (j := (k.toNat)) s_93 Y Y Y (fun w' hs => (rA hs hu2)) (Int.toNat_of_nonneg (by omega)).symm (lS x0h)) (q1 Y (lra a_147 Y Y at9) (li Y (D_alloc y_147 Y Y Y Y fun g15 => ?_)))
 refine li Y (D_stb (vs := [(iv x0.Kind), (.string x0.Pattern.Rel), u11, (.string x0.Left), (.string x0.Right)]) (cs' := [(iv x0.Kind), (.string x0.Pattern.Rel), u11, (.string x0.Left), (.string x0.Right)]) 0 z_147 Y Y Y Y Y Y (ocons Y (ocons Y (ocons (one_rd hu12) (ocons Y (ocons Y onil))))) (by simp) Y ?_)
 refine Dx (Dh ([bx g15 [(iv x0.Kind), (.string x0.Pattern.Rel), u11, (.string x0.Left), (.string x0.Right)], _]) Y (Sr (q1 Y (lbw 1 a_96 Y Y Y) (p1 Y (li Y (crl b_165 Y Y Y Y (fun w' hs => (impl_BoundVars (rA hs h_r) hn0)) fun v16 => ?_))))))
 refine Pe Y (Dh ([ov [v16] (sortT (bvars r k) : (List ByteArray)), _, _]) Y (Cq (Sr (q1 Y (lbw 1 a_147 Y Y Y) (li Y (crl b_201 Y Y Y Y (fun w' hs => (impl_CondVars (rA hs hr10) (by first | assumption | omega | (unfold szm at *; split at * <;> omega)))) fun v17 => ?_))))))
 refine q1 Y (D_leno 0 s_58 Y Y Y) (Pe Y (Dh ([ov [v17] (sortT (cvars x0) : (List ByteArray)), _, _, _]) Y (Cb (Cl (fun m_ ac w' => ∃ (q : Nat), (q ≤ (sortT (cvars x0)).length) ∧ (∀ i, i < q → ∀ y, (sortT (cvars x0))[i]? = some y → okV r k x0 y = true) ∧ m_ = (sortT (cvars x0)).length - q ∧ Fits ac 42 [(1, (iv k)), (2, (pv g7)), (5, (pv g15)), (6, v16), (18, v17), (19, (nv ((sortT (cvars x0)).length))), (20, (nv q))] ∧ St w ([ov [v17] (sortT (cvars x0) : (List ByteArray)), ov [v16] (sortT (bvars r k) : (List ByteArray)), bx g15 [(iv x0.Kind), (.string x0.Pattern.Rel), u11, (.string x0.Left), (.string x0.Right)], bx g7 [(.string r.Name), (iv r.Priority), u1, u3]]) w') ?_ ?_))))
 ·refine fun ac w' hf hs => ⟨_, 0, ?_, ?_, Y, hf.wk Y, hs⟩
  ·first | assumption | omega | simp
  ·intro i hi; omega
 ·rintro m_ ac w' ⟨q, hq, hi, rfl, hf, hs⟩
  refine D.use ?_ hf hs
  clear hf hs ac w'
  refine Sr (Pe Y (Cq (Ci _ Y (fun h18 => ?_) (fun h18 => ?_))))
  ·have pr18 := odT h18
   refine Sk (Cq (Cb (Sr ?_)))
   obtain ⟨v0, v0h⟩ := sL (l := (sortT (cvars x0))) (i := q) (by omega)
   refine q1 Y (D_ix (l := (sortT (cvars x0))) (j := q) s_58 Y Y Y (fun w' hs => (rO (k := 0) hs Y)) Y (lS v0h)) (q1 Y (lo (α := ByteArray) 0 o_9 Y Y Y v0h) (Pe Y (Cq (Sr (q1 Y (Db f_147_0 Y Y (q := 0) Y) (q1 Y (lb 2 o_3 Y Y Y Y) (P2 Y Y (gs 27 Y Y (fun h19 => ?_) (fun h19 => ?_)))))))))
   ·have pr19 := eq_of_beq h19
    refine n1 Y (n1 Y (n1 Y (Pe Y (C_t Y (Cx (Xx (Xe (Xt (Cr (q1 Y (D_add Y Y Y (r := ((q + 1 : Nat) : Int)) (by omega) (by omega)) (Pe Y (fun ac w' hf hs => ⟨_, ?_, q + 1, ?_, ?_, Y, hf.wk Y, hs⟩))))))))))))
    ·omega
    ·first | assumption | omega | simp
    ·refine forall_step hi ?_; intro y hy; obtain rfl : y = v0 := Option.some.inj (hy.symm.trans v0h); first | exact okV_t1 (by omega) | exact okV_t2 (by assumption) | exact okV_t3 (by omega) (by assumption)
   ·have pr19 := ne_of_beq_false h19
    refine P2 Y Y (li Y (cv b_168 Y Y Y Y (fun w' hs => (impl_hasText (rO (k := 1) hs Y))) ?_))
    refine Pe Y (Ci _ Y (fun h20 => ?_) (fun h20 => ?_))
    ·refine Cx (Xx (Xe (Xt (Cr (q1 Y (D_add Y Y Y (r := ((q + 1 : Nat) : Int)) (by omega) (by omega)) (Pe Y (fun ac w' hf hs => ⟨_, ?_, q + 1, ?_, ?_, Y, hf.wk Y, hs⟩)))))))
     ·omega
     ·first | assumption | omega | simp
     ·refine forall_step hi ?_; intro y hy; obtain rfl : y = v0 := Option.some.inj (hy.symm.trans v0h); first | exact okV_t1 (by omega) | exact okV_t2 (by assumption) | exact okV_t3 (by omega) (by assumption)
    ·refine Sk (Sr (q1 Y (Db f_147_0 Y Y (q := 0) Y) (q1 Y (lb 2 o_3 Y Y Y Y) (P2 Y Y (gs 35 Y Y (fun h21 => ?_) (fun h21 => ?_))))))
     ·have pr21 := bne_iff_ne.1 h21
      refine n1 Y (n1 Y (n1 Y (n1 Y (Pe Y (D_wk [1, 2, 5, 6, 18, 19, 20, 40] Y (C_t Y (Sr (Pe Y (Ct (Xq (Xr (Xr (Xq (Xr (Rb Y Y ?_)))))))))))))))
      exact fit_n x0h v0h (okV_f (by omega) (by assumption) (.inl (by omega)))
     ·have pr21 := eq_of_bne_f h21
      refine q1 Y (lbw 3 a_96 Y Y Y) (P2 Y Y (li Y (cv b_202 Y Y Y Y (fun w' hs => (impl_occursElsewhere (rA hs h_r) hn0 (cv_var (sortT_mem.1 (List.mem_of_getElem? v0h))))) ?_)))
      refine Pe Y (D_wk [1, 2, 5, 6, 18, 19, 20, 40] Y (Ci _ Y (fun h22 => ?_) (fun h22 => ?_)))
      ·refine Sr (Pe Y (Ct (Xq (Xr (Xr (Xq (Xr (Rb Y Y ?_))))))))
       exact fit_n x0h v0h (okV_f (by omega) (by assumption) (.inr (by assumption)))
      ·refine Ck (Xb (Xt (Cr (q1 Y (D_add Y Y Y (r := ((q + 1 : Nat) : Int)) (by omega) (by omega)) (Pe Y (fun ac w' hf hs => ⟨_, ?_, q + 1, ?_, ?_, Y, hf.wk Y, hs⟩))))))
       ·omega
       ·first | assumption | omega | simp
       ·refine forall_step hi ?_; intro y hy; obtain rfl : y = v0 := Option.some.inj (hy.symm.trans v0h); first | exact okV_t1 (by omega) | exact okV_t2 (by assumption) | exact okV_t3 (by omega) (by assumption)
  ·have pr18 := odF h18
   refine Cx (Xx (Xx (Xe (Xt (Sr (Pe Y (Ct (Rb Y Y ?_))))))))
   exact fit_y x0h (fun i h => hi i (by omega))
set_option maxHeartbeats 4000000 in
theorem spec_RuleVars {w : World} {c_r : List Value} {r : Rule} (h_r : Gd.rd w c_r r) (hn : szRule r ≤ 1048576) (ho : okRule r) : Calls Tryz.prog 160 [(.agg c_r.toArray)].toArray w (Res w (sortT (allV r ++ avT r r.Then.length) : List ByteArray)) := by
 obtain ⟨u1, u3, rfl, hu2, hu4⟩ := open_Rule h_r
 have hm5 := rd_max hu2
 have hm6 := rd_max hu4
 unfold szRule szL at hn
 refine enter 63 Tryz.func160 Y Y Y (Sr (li Y (D_box Y Y Y Y Y fun g7 => ?_)))
 refine Pe Y (Dh ([bx g7 [(.string r.Name), (iv r.Priority), u1, u3]]) Y (Sr (li Y (D_bs0 (α := ByteArray) s_58 Y Y Y fun v8 => ?_))))
 refine Pe Y (Dh ([ov [v8] ([] : (List ByteArray)), _]) Y (Cq (Sr (Pe Y (Cb (Cl (fun m_ ac w' => ∃ (k : Nat), ∃ (v : Value), (k ≤ r.If.length) ∧ m_ = r.If.length - k ∧ Fits ac 63 [(1, (pv g7)), (3, v), (4, (nv k))] ∧ St w ([ov [v] (sortT (cvT r.If k) : (List ByteArray)), bx g7 [(.string r.Name), (iv r.Priority), u1, u3]]) w') ?_ ?_))))))
 ·refine D_eq 0 Y (show ([] : (List ByteArray)) = sortT (cvT r.If 0) from by exact cvS_zero r.If) (fun ac w' hf hs => ⟨_, 0, v8, ?_, Y, hf.wk Y, hs⟩)
  ·first | assumption | omega | simp
 ·rintro m_ ac w' ⟨k, v, hk, rfl, hf, hs⟩
  refine D.use ?_ hf hs
  clear hf hs ac w'
  have hcl := cvT_len r.If k
  have hcs := sortT_len (cvT r.If k)
  refine Cq (Sr (p1 Y (q1 Y (Db f_96_2 Y Y (q := 2) Y) (q1 Y (lb 1 o_93 Y Y Y Y) (q1 Y (Dl s_93 Y Y (rd_sl hu2)) (Pe Y (Dh ([_, _]) Y (Ci _ Y (fun h9 => ?_) (fun h9 => ?_)))))))))
  ·have pr9 := odT h9
   refine Sk (Cq (Cb (Sr (q1 Y (Db f_96_2 Y Y (q := 2) Y) (q1 Y (lb 1 o_93 Y Y Y Y) (p1 Y ?_))))))
   obtain ⟨x0, x0h⟩ := sL (l := r.If) (i := k) (by omega)
   have hcz := cond_sz x0h
   have hca := szCond_args x0
   have hvl := varsL_len x0.Pattern.Args
   have hsl := sortT_len (varsL x0.Pattern.Args)
   have hcl0 := cvars_len x0
   have hscl := sortT_len (cvars x0)
   have hco := ho.2.2.1 _ (List.mem_of_getElem? x0h)
   obtain ⟨es10, at11, hr12⟩ := rd_elem (n := 5) rfl hu2 x0h
   obtain ⟨u13, rfl, hu14⟩ := open_Cond hr12
   have hm15 := rd_max hu14
   have hb16 := sub_Cond_Pattern hr12
   refine q1 Y (D_ix (l := r.If) (j := k) s_93 Y Y Y (fun w' hs => (rA hs hu2)) Y (lS x0h)) (q1 Y (lra a_147 Y Y at11) (li Y (crl b_154 Y Y Y Y (fun w' hs => (spec_CondVars (rA hs hr12) (by first | assumption | omega | (unfold szm at *; split at * <;> omega)) hco)) fun v17 => ?_)))
   refine Pe Y (Dh ([ov [v17] (sortT (cvars x0) : (List ByteArray)), _, _]) Y (Sr (Pe Y (Cb (Cl (fun m_ ac w' => ∃ (q : Nat), ∃ (v2 : Value), (q ≤ (sortT (cvars x0)).length) ∧ m_ = (sortT (cvars x0)).length - q ∧ Fits ac 63 [(1, (pv g7)), (3, v2), (4, (nv k)), (5, v17), (6, (nv q))] ∧ St w ([ov [v17] (sortT (cvars x0) : (List ByteArray)), ov [v2] (((sortT (cvars x0)).take q).foldl putS (sortT (cvT r.If k)) : (List ByteArray)), bx g7 [(.string r.Name), (iv r.Priority), u1, u3]]) w') ?_ ?_)))))
   ·refine D_eq 1 Y (show (sortT (cvT r.If k) : (List ByteArray)) = ((sortT (cvars x0)).take 0).foldl putS (sortT (cvT r.If k)) from by rfl) (fun ac w' hf hs => ⟨_, 0, v, ?_, Y, hf.wk Y, hs⟩)
    ·first | assumption | omega | simp
   ·rintro m_ ac w' ⟨q, v2, hq, rfl, hf, hs⟩
    refine D.use ?_ hf hs
    clear hf hs ac w'
    have hfl := foldT_len (sortT (cvars x0)) (sortT (cvT r.If k)) q
    refine Cq (Sr (P2 Y Y (q1 Y (D_leno 0 s_58 Y Y Y) (Pe Y (Dh ([_, _, _]) Y (Ci _ Y (fun h18 => ?_) (fun h18 => ?_)))))))
    ·have pr18 := odT h18
     refine Sk (Cq (Cb (Cr (P3 Y Y Y ?_))))
     obtain ⟨y0, y0h⟩ := sL (l := (sortT (cvars x0))) (i := q) (by omega)
     refine q1 Y (D_ix (l := (sortT (cvars x0))) (j := q) s_58 Y Y Y (fun w' hs => (rO (k := 0) hs Y)) Y (lS y0h)) (q1 Y (lo (α := ByteArray) 0 o_9 Y Y Y y0h) (li Y (crl b_193 Y Y Y Y (fun w' hs => (spec_l1Put (rO (k := 1) hs Y) (by first | assumption | omega | (unfold szm at *; split at * <;> omega)))) fun v19 => ?_)))
     refine p1 Y (De (Xb (Xt (Dh ([ov [v19] (putS (((sortT (cvars x0)).take q).foldl putS (sortT (cvT r.If k))) y0 : (List ByteArray)), _, _, _]) Y (Cr (p1 Y (q1 Y (D_add Y Y Y (r := ((q + 1 : Nat) : Int)) (by omega) (by omega)) (Pe Y (D_eq 0 Y (show (putS (((sortT (cvars x0)).take q).foldl putS (sortT (cvT r.If k))) y0 : (List ByteArray)) = ((sortT (cvars x0)).take (q + 1)).foldl putS (sortT (cvT r.If k)) from by exact foldT_step y0h) (fun ac w' hf hs => ⟨_, ?_, q + 1, v19, ?_, Y, hf.wk Y, hs.pk [1, 0, 3] Y Y⟩))))))))))
     ·omega
     ·first | assumption | omega | simp
    ·have pr18 := odF h18
     refine Cx (Xx (Xx (Xe (Xb (Xt (Cr (p1 Y (q1 Y (D_add Y Y Y (r := ((k + 1 : Nat) : Int)) (by omega) (by omega)) (Pe Y (D_eq 1 Y (show (((sortT (cvars x0)).take q).foldl putS (sortT (cvT r.If k)) : (List ByteArray)) = sortT (cvT r.If (k + 1)) from by exact cvS_t x0h (by omega)) (fun ac w' hf hs => ⟨_, ?_, k + 1, v2, ?_, Y, hf.wk Y, hs.pk [1, 2] Y Y⟩)))))))))))
     ·omega
     ·first | assumption | omega | simp
  ·have pr9 := odF h9
   refine Cx (Xx (Xx (Xe (Xt (Cq (Sr (Pe Y (Cb (Cl (fun m_ ac w' => ∃ (j : Nat), ∃ (v3 : Value), (j ≤ r.Then.length) ∧ m_ = r.Then.length - j ∧ Fits ac 63 [(1, (pv g7)), (3, v3), (7, (nv j))] ∧ St w ([ov [v3] (sortT (allV r ++ avT r j) : (List ByteArray)), bx g7 [(.string r.Name), (iv r.Priority), u1, u3]]) w') ?_ ?_)))))))))
   ·refine D_eq 0 Y (show (sortT (cvT r.If k) : (List ByteArray)) = sortT (allV r ++ avT r 0) from by exact avS_zero (by omega) (by omega)) (fun ac w' hf hs => ⟨_, 0, v, ?_, Y, hf.wk Y, hs⟩)
    ·first | assumption | omega | simp
   ·rintro m_ ac w' ⟨j, v3, hj, rfl, hf, hs⟩
    refine D.use ?_ hf hs
    clear hf hs ac w'
    have hcl2 := avT_len r j
    have hall := allV_len r
    have hcs2 := sortT_len (allV r ++ avT r j)
    rw [List.length_append] at hcs2
    refine Cq (Sr (p1 Y (q1 Y (Db f_96_3 Y Y (q := 3) Y) (q1 Y (lb 1 o_94 Y Y Y Y) (q1 Y (Dl s_94 Y Y (rd_sl hu4)) (Pe Y (Dh ([_, _]) Y (Ci _ Y (fun h20 => ?_) (fun h20 => ?_)))))))))
    ·have pr20 := odT h20
     refine Sk (Cq (Cb (Sr (q1 Y (Db f_96_3 Y Y (q := 3) Y) (q1 Y (lb 1 o_94 Y Y Y Y) (p1 Y ?_))))))
     obtain ⟨a0, a0h⟩ := sL (l := r.Then) (i := j) (by omega)
     have haz := act_sz a0h
     have haa := szAct_args a0
     have hvl2 := varsL_len a0.Pattern.Args
     have hsl2 := sortT_len (varsL a0.Pattern.Args)
     have hao := ho.2.2.2 _ (List.mem_of_getElem? a0h)
     obtain ⟨es21, at22, hr23⟩ := rd_elem (n := 3) rfl hu4 a0h
     obtain ⟨u24, rfl, hu25⟩ := open_Action hr23
     have hm26 := rd_max hu25
     have hb27 := sub_Action_Pattern hr23
     refine q1 Y (D_ix (l := r.Then) (j := j) s_94 Y Y Y (fun w' hs => (rA hs hu4)) Y (lS a0h)) (q1 Y (D_fa f_159_1 Y Y) (q1 Y (lra a_145 Y Y (at_sub (f := 1) (n := 2) at22 Y)) (li Y (crl b_159 Y Y Y Y (fun w' hs => (spec_VarsOf (rA hs hb27) (by first | assumption | omega | (unfold szm at *; split at * <;> omega)) (by first | exact hco.2.1 | exact hao.2))) fun v28 => ?_))))
     refine Pe Y (Dh ([ov [v28] (sortT (varsL a0.Pattern.Args) : (List ByteArray)), _, _]) Y (Sr (Pe Y (Cb (Cl (fun m_ ac w' => ∃ (p : Nat), ∃ (v4 : Value), (p ≤ (sortT (varsL a0.Pattern.Args)).length) ∧ m_ = (sortT (varsL a0.Pattern.Args)).length - p ∧ Fits ac 63 [(1, (pv g7)), (3, v4), (7, (nv j)), (8, v28), (9, (nv p))] ∧ St w ([ov [v28] (sortT (varsL a0.Pattern.Args) : (List ByteArray)), ov [v4] (((sortT (varsL a0.Pattern.Args)).take p).foldl putS (sortT (allV r ++ avT r j)) : (List ByteArray)), bx g7 [(.string r.Name), (iv r.Priority), u1, u3]]) w') ?_ ?_)))))
     ·refine D_eq 1 Y (show (sortT (allV r ++ avT r j) : (List ByteArray)) = ((sortT (varsL a0.Pattern.Args)).take 0).foldl putS (sortT (allV r ++ avT r j)) from by rfl) (fun ac w' hf hs => ⟨_, 0, v3, ?_, Y, hf.wk Y, hs⟩)
      ·first | assumption | omega | simp
     ·rintro m_ ac w' ⟨p, v4, hp, rfl, hf, hs⟩
      refine D.use ?_ hf hs
      clear hf hs ac w'
      have hfl := foldT_len (sortT (varsL a0.Pattern.Args)) (sortT (allV r ++ avT r j)) p
      refine Cq (Sr (P2 Y Y (q1 Y (D_leno 0 s_58 Y Y Y) (Pe Y (Dh ([_, _, _]) Y (Ci _ Y (fun h29 => ?_) (fun h29 => ?_)))))))
      ·have pr29 := odT h29
       refine Sk (Cq (Cb (Cr (P3 Y Y Y ?_))))
       obtain ⟨z0, z0h⟩ := sL (l := (sortT (varsL a0.Pattern.Args))) (i := p) (by omega)
       refine q1 Y (D_ix (l := (sortT (varsL a0.Pattern.Args))) (j := p) s_58 Y Y Y (fun w' hs => (rO (k := 0) hs Y)) Y (lS z0h)) (q1 Y (lo (α := ByteArray) 0 o_9 Y Y Y z0h) (li Y (crl b_193 Y Y Y Y (fun w' hs => (spec_l1Put (rO (k := 1) hs Y) (by first | assumption | omega | (unfold szm at *; split at * <;> omega)))) fun v30 => ?_)))
       refine p1 Y (De (Xb (Xt (Dh ([ov [v30] (putS (((sortT (varsL a0.Pattern.Args)).take p).foldl putS (sortT (allV r ++ avT r j))) z0 : (List ByteArray)), _, _, _]) Y (Cr (p1 Y (q1 Y (D_add Y Y Y (r := ((p + 1 : Nat) : Int)) (by omega) (by omega)) (Pe Y (D_eq 0 Y (show (putS (((sortT (varsL a0.Pattern.Args)).take p).foldl putS (sortT (allV r ++ avT r j))) z0 : (List ByteArray)) = ((sortT (varsL a0.Pattern.Args)).take (p + 1)).foldl putS (sortT (allV r ++ avT r j)) from by exact foldT_step z0h) (fun ac w' hf hs => ⟨_, ?_, p + 1, v30, ?_, Y, hf.wk Y, hs.pk [1, 0, 3] Y Y⟩))))))))))
       ·omega
       ·first | assumption | omega | simp
      ·have pr29 := odF h29
       refine Cx (Xx (Xx (Xe (Xb (Xt (Cr (p1 Y (q1 Y (D_add Y Y Y (r := ((j + 1 : Nat) : Int)) (by omega) (by omega)) (Pe Y (D_eq 1 Y (show (((sortT (varsL a0.Pattern.Args)).take p).foldl putS (sortT (allV r ++ avT r j)) : (List ByteArray)) = sortT (allV r ++ avT r (j + 1)) from by exact avS_t a0h (by omega)) (fun ac w' hf hs => ⟨_, ?_, j + 1, v4, ?_, Y, hf.wk Y, hs.pk [1, 2] Y Y⟩)))))))))))
       ·omega
       ·first | assumption | omega | simp
    ·have pr20 := odF h20
     refine Cx (Xx (Xx (Xe (Xt (Sr (P2 Y Y (Dx (Ct (R_1 Y Y fun w' hs => res_of (k := 0) hs Y ?_)))))))))
     show sortT (allV r ++ avT r j) = sortT (allV r ++ avT r r.Then.length)
     exact avS_done (by omega) (by omega)
theorem impl_FindRule {w : World} {v_l : Value} {l : (List Rule)} {name : ByteArray} (h_l : Gd.rd w [v_l] l) : Calls Tryz.prog 109 [v_l, (.string name)].toArray w (Val w (iv (findT l name))) := by
 have hm1 := rd_max h_l
 refine enter 20 Tryz.func109 Y Y Y (Sr (Pe Y (Cq (Sr (p1 Y (q1 Y (Dl s_40 Y Y (rd_sl h_l)) (Pe Y (Cb (Cl (fun m_ ac w' => ∃ (i : Nat), (i ≤ l.length) ∧ (∀ j, j < i → ∀ q, l[j]? = some q → q.Name ≠ name) ∧ m_ = l.length - i ∧ Fits ac 20 [(1, (.string name)), (7, v_l), (8, (nv l.length)), (9, (nv i))] ∧ St w ([]) w') ?_ ?_)))))))))
 ·refine fun ac w' hf hs => ⟨_, 0, ?_, ?_, Y, hf.wk Y, hs⟩
  ·first | assumption | omega | simp
  ·intro j hj; omega
 ·rintro m_ ac w' ⟨i, hi, hfn, rfl, hf, hs⟩
  refine D.use ?_ hf hs
  clear hf hs ac w'
  refine Sr (Pe Y (Cq (Ci _ Y (fun h2 => ?_) (fun h2 => ?_))))
  ·have pr2 := odT h2
   refine Sk (Cq (Cb (Sr (p1 Y ?_))))
   obtain ⟨q0, q0h⟩ := sL (l := l) (i := i) (by omega)
   obtain ⟨es3, at4, hr5⟩ := rd_elem (n := 4) rfl h_l q0h
   obtain ⟨u6, u9, rfl, hu7, hu10⟩ := open_Rule hr5
   have hm11 := rd_max hu7
   have hm12 := rd_max hu10
   refine q1 Y (D_ix (l := l) (j := i) s_40 Y Y Y (fun w' hs => (rA hs h_l)) Y (lS q0h)) (q1 Y (lra a_96 Y Y at4) (li Y (D_alloc y_96 Y Y Y Y fun g13 => ?_)))
   refine p1 Y (li Y (D_stb (vs := [(.string q0.Name), (iv q0.Priority), u6, u9]) (cs' := [(.string q0.Name), (iv q0.Priority), u6, u9]) 0 z_96 Y Y Y Y Y Y (ocons Y (ocons Y (ocons (one_rd hu7) (ocons (one_rd hu10) onil)))) (by simp) Y ?_))
   refine Dx (Dh ([bx g13 [(.string q0.Name), (iv q0.Priority), u6, u9]]) Y (Sr (q1 Y (Db f_96_0 Y Y (q := 0) Y) (q1 Y (lb 0 o_9 Y Y Y Y) (p1 Y (q1 Y (D_eqS Y Y Y) (Dx (Ci _ Y (fun h14 => ?_) (fun h14 => ?_)))))))))
   ·have pr14 := odT h14
    refine Sr (P2 Y Y (Dx (Ct (Xq (Xr (Xr (Xq (Xr (Ri Y Y ?_)))))))))
    show (((i : Nat) : Int) : Int) = _
    exact find_y q0h (by assumption) hfn
   ·have pr14 := odF h14
    refine Ck (Xb (Xt (Cr (q1 Y (D_add Y Y Y (r := ((i + 1 : Nat) : Int)) (by omega) (by omega)) (Pe Y (fun ac w' hf hs => ⟨_, ?_, i + 1, ?_, ?_, Y, hf.wk Y, hs.pk [] Y Y⟩))))))
    ·omega
    ·first | assumption | omega | simp
    ·refine forall_step hfn ?_; intro y hy; obtain rfl : y = q0 := Option.some.inj (hy.symm.trans q0h); assumption
  ·have pr2 := odF h2
   refine Cx (Xx (Xx (Xe (Xt (Sr (Pe Y (Ct (Ri Y Y ?_))))))))
   show ((-1) : Int) = _
   exact find_n (fun j h => hfn j (by omega))
theorem spec_FindRule {w : World} {v_l : Value} {l : (List Rule)} {name : ByteArray} (h_l : Gd.rd w [v_l] l) : Calls Tryz.prog 40 [v_l, (.string name)].toArray w (Val w (iv (findT l name))) := by
 have hm1 := rd_max h_l
 refine enter 20 Tryz.func40 Y Y Y (Sr (Pe Y (Cq (Sr (Pe Y (Cb (Cl (fun m_ ac w' => ∃ (i : Nat), (i ≤ l.length) ∧ (∀ j, j < i → ∀ q, l[j]? = some q → q.Name ≠ name) ∧ m_ = l.length - i ∧ Fits ac 20 [(0, v_l), (1, (.string name)), (5, (nv i))] ∧ St w ([]) w') ?_ ?_)))))))
 ·refine fun ac w' hf hs => ⟨_, 0, ?_, ?_, Y, hf.wk Y, hs⟩
  ·first | assumption | omega | simp
  ·intro j hj; omega
 ·rintro m_ ac w' ⟨i, hi, hfn, rfl, hf, hs⟩
  refine D.use ?_ hf hs
  clear hf hs ac w'
  refine Cq (Sr (P2 Y Y (q1 Y (Dl s_40 Y Y (rd_sl h_l)) (Pe Y (Ci _ Y (fun h2 => ?_) (fun h2 => ?_))))))
  ·have pr2 := odT h2
   refine Sk (Cq (Cb (Sr (P2 Y Y ?_))))
   obtain ⟨q0, q0h⟩ := sL (l := l) (i := i) (by omega)
   obtain ⟨es3, at4, hr5⟩ := rd_elem (n := 4) rfl h_l q0h
   obtain ⟨u6, u9, rfl, hu7, hu10⟩ := open_Rule hr5
   have hm11 := rd_max hu7
   have hm12 := rd_max hu10
   refine q1 Y (D_ix (l := l) (j := i) s_40 Y Y Y (fun w' hs => (rA hs h_l)) Y (lS q0h)) (q1 Y (D_fa f_96_0 Y Y) (q1 Y (lr o_9 Y Y at4 Y) (p1 Y (q1 Y (D_eqS Y Y Y) (Dx (Ci _ Y (fun h13 => ?_) (fun h13 => ?_)))))))
   ·have pr13 := odT h13
    refine Sr (P2 Y Y (Dx (Ct (Xq (Xr (Xr (Xq (Xr (Ri Y Y ?_)))))))))
    show (((i : Nat) : Int) : Int) = _
    exact find_y q0h (by assumption) hfn
   ·have pr13 := odF h13
    refine Ck (Xb (Xt (Cr (p1 Y (q1 Y (D_add Y Y Y (r := ((i + 1 : Nat) : Int)) (by omega) (by omega)) (Pe Y (fun ac w' hf hs => ⟨_, ?_, i + 1, ?_, ?_, Y, hf.wk Y, hs⟩)))))))
    ·omega
    ·first | assumption | omega | simp
    ·refine forall_step hfn ?_; intro y hy; obtain rfl : y = q0 := Option.some.inj (hy.symm.trans q0h); assumption
  ·have pr2 := odF h2
   refine Cx (Xx (Xx (Xe (Xt (Sr (Pe Y (Ct (Ri Y Y ?_))))))))
   show ((-1) : Int) = _
   exact find_n (fun j h => hfn j (by omega))
set_option maxHeartbeats 4000000 in
theorem impl_IsRule {w : World} {c_r : List Value} {r : Rule} (h_r : Gd.rd w c_r r) (hn : szRule r ≤ 1048576) : Calls Tryz.prog 108 [(.agg c_r.toArray)].toArray w (Val w (.bool (isRuleB r))) := by
 obtain ⟨u1, u3, rfl, hu2, hu4⟩ := open_Rule h_r
 have hm5 := rd_max hu2
 have hm6 := rd_max hu4
 have hn0 := hn
 unfold szRule szL at hn
 have hcl := csT_len r.If r.If.length
 refine enter 111 Tryz.func108 Y Y Y (Sr (li Y (D_box Y Y Y Y Y fun g7 => ?_)))
 refine Pe Y (Dh ([bx g7 [(.string r.Name), (iv r.Priority), u1, u3]]) Y (Cq (Sr (q1 Y (Db f_96_0 Y Y (q := 0) Y) (q1 Y (lb 0 o_9 Y Y Y Y) (li Y (cv b_147 Y Y Y Y (fun w' hs => impl_IsName) ?_)))))))
 refine P2 Y Y (gs 14 Y Y (fun h8 => ?_) (fun h8 => ?_))
 ·have h8n := not_t h8
  refine n1 Y (n1 Y (n1 Y (P2 Y Y (n1 Y (n1 Y (n1 Y (P2 Y Y (n1 Y (n1 Y (n1 Y (n1 Y (P2 Y Y (n1 Y (n1 Y (n1 Y (n1 Y (P2 Y Y (n1 Y (n1 Y (n1 Y (n1 Y (P2 Y Y (n1 Y ?_)))))))))))))))))))))))
  refine n1 Y (n1 Y (n1 Y (Pe Y (D_wk [1, 47] Y (C_t Y (Sr (Pe Y (Ct (Xr (Rb Y Y ?_))))))))))
  first | (first | exact ru_n1 (.inl (by assumption)) | exact ru_n1 (.inr (.inl (by first | assumption | (unfold inR; simp; omega)))) | exact ru_n1 (.inr (.inr (.inl (by first | assumption | (unfold inR; simp; omega))))) | exact ru_n1 (.inr (.inr (.inr (by first | assumption | (unfold inR; simp; omega))))); done) | (exact ru_n2 (k := k) (lS x0h) (by first | exact condOk_f1 x0h (by assumption) | exact condOk_f2 x0h (by omega) (by omega) | exact condOk_f3 x0h (by assumption) | exact condOk_f3s x0h v0h (okV_sf (by assumption) (by assumption)) | exact condOk_f3s x0h v0h (okV_f (by omega) (by assumption) (.inr (by assumption)))); done) | (exact ru_n3 a0h (by first | exact actOk_f1 (by assumption) | exact actOk_f2 w0h (by assumption) | exact actOk_f2s w0h (by assumption)); done) | (refine ru_y (by assumption) (by first | assumption | (unfold inR; simp; omega)) (by first | assumption | (unfold inR; simp; omega)) (by first | assumption | (unfold inR; simp; omega)) (fun i h => hc i (by omega)) (fun i h => ha i (by omega)) ?_; first | (rw [cs_cv]; rfl) | exact rv_len (fun i h => ha i (by omega)); done)
 ·have h8n := not_f h8
  refine q1 Y (Db f_96_1 Y Y (q := 1) Y) (q1 Y (lb 0 o_3 Y Y Y Y) (P3 Y Y Y (gs 19 Y Y (fun h9 => ?_) (fun h9 => ?_))))
  ·have pr9 := odT h9
   refine n1 Y (n1 Y (n1 Y (P2 Y Y (n1 Y (n1 Y (n1 Y (n1 Y (P2 Y Y (n1 Y (n1 Y (n1 Y (n1 Y (P2 Y Y (n1 Y (n1 Y (n1 Y (n1 Y (P2 Y Y (n1 Y (n1 Y (n1 Y (n1 Y (p1 Y ?_)))))))))))))))))))))))
   refine Dx (D_wk [1, 47] Y (C_t Y (Sr (Pe Y (Ct (Xr (Rb Y Y ?_)))))))
   first | (first | exact ru_n1 (.inl (by assumption)) | exact ru_n1 (.inr (.inl (by first | assumption | (unfold inR; simp; omega)))) | exact ru_n1 (.inr (.inr (.inl (by first | assumption | (unfold inR; simp; omega))))) | exact ru_n1 (.inr (.inr (.inr (by first | assumption | (unfold inR; simp; omega))))); done) | (exact ru_n2 (k := k) (lS x0h) (by first | exact condOk_f1 x0h (by assumption) | exact condOk_f2 x0h (by omega) (by omega) | exact condOk_f3 x0h (by assumption) | exact condOk_f3s x0h v0h (okV_sf (by assumption) (by assumption)) | exact condOk_f3s x0h v0h (okV_f (by omega) (by assumption) (.inr (by assumption)))); done) | (exact ru_n3 a0h (by first | exact actOk_f1 (by assumption) | exact actOk_f2 w0h (by assumption) | exact actOk_f2s w0h (by assumption)); done) | (refine ru_y (by assumption) (by first | assumption | (unfold inR; simp; omega)) (by first | assumption | (unfold inR; simp; omega)) (by first | assumption | (unfold inR; simp; omega)) (fun i h => hc i (by omega)) (fun i h => ha i (by omega)) ?_; first | (rw [cs_cv]; rfl) | exact rv_len (fun i h => ha i (by omega)); done)
  ·have pr9 := odF h9
   refine q1 Y (Db f_96_1 Y Y (q := 1) Y) (q1 Y (lb 0 o_3 Y Y Y Y) (P3 Y Y Y (gs 24 Y Y (fun h10 => ?_) (fun h10 => ?_))))
   ·have pr10 := odT h10
    refine n1 Y (n1 Y (n1 Y (n1 Y (P2 Y Y (n1 Y (n1 Y (n1 Y (n1 Y (P2 Y Y (n1 Y (n1 Y (n1 Y (n1 Y (P2 Y Y (n1 Y (n1 Y (n1 Y (n1 Y (Pe Y (D_wk [1, 47] Y (C_t Y ?_)))))))))))))))))))))
    refine Sr (Pe Y (Ct (Xr (Rb Y Y ?_))))
    first | (first | exact ru_n1 (.inl (by assumption)) | exact ru_n1 (.inr (.inl (by first | assumption | (unfold inR; simp; omega)))) | exact ru_n1 (.inr (.inr (.inl (by first | assumption | (unfold inR; simp; omega))))) | exact ru_n1 (.inr (.inr (.inr (by first | assumption | (unfold inR; simp; omega))))); done) | (exact ru_n2 (k := k) (lS x0h) (by first | exact condOk_f1 x0h (by assumption) | exact condOk_f2 x0h (by omega) (by omega) | exact condOk_f3 x0h (by assumption) | exact condOk_f3s x0h v0h (okV_sf (by assumption) (by assumption)) | exact condOk_f3s x0h v0h (okV_f (by omega) (by assumption) (.inr (by assumption)))); done) | (exact ru_n3 a0h (by first | exact actOk_f1 (by assumption) | exact actOk_f2 w0h (by assumption) | exact actOk_f2s w0h (by assumption)); done) | (refine ru_y (by assumption) (by first | assumption | (unfold inR; simp; omega)) (by first | assumption | (unfold inR; simp; omega)) (by first | assumption | (unfold inR; simp; omega)) (fun i h => hc i (by omega)) (fun i h => ha i (by omega)) ?_; first | (rw [cs_cv]; rfl) | exact rv_len (fun i h => ha i (by omega)); done)
   ·have pr10 := odF h10
    refine q1 Y (Db f_96_2 Y Y (q := 2) Y) (q1 Y (lb 0 o_93 Y Y Y Y) (q1 Y (Dl s_93 Y Y (rd_sl hu2)) (P3 Y Y Y (gs 30 Y Y (fun h11 => ?_) (fun h11 => ?_)))))
    ·have pr11 := odT h11
     refine n1 Y (n1 Y (n1 Y (n1 Y (P2 Y Y (n1 Y (n1 Y (n1 Y (n1 Y (P2 Y Y (n1 Y (n1 Y (n1 Y (n1 Y (Pe Y (D_wk [1, 47] Y (C_t Y (Sr (Pe Y ?_))))))))))))))))))
     refine Ct (Xr (Rb Y Y ?_))
     first | (first | exact ru_n1 (.inl (by assumption)) | exact ru_n1 (.inr (.inl (by first | assumption | (unfold inR; simp; omega)))) | exact ru_n1 (.inr (.inr (.inl (by first | assumption | (unfold inR; simp; omega))))) | exact ru_n1 (.inr (.inr (.inr (by first | assumption | (unfold inR; simp; omega))))); done) | (exact ru_n2 (k := k) (lS x0h) (by first | exact condOk_f1 x0h (by assumption) | exact condOk_f2 x0h (by omega) (by omega) | exact condOk_f3 x0h (by assumption) | exact condOk_f3s x0h v0h (okV_sf (by assumption) (by assumption)) | exact condOk_f3s x0h v0h (okV_f (by omega) (by assumption) (.inr (by assumption)))); done) | (exact ru_n3 a0h (by first | exact actOk_f1 (by assumption) | exact actOk_f2 w0h (by assumption) | exact actOk_f2s w0h (by assumption)); done) | (refine ru_y (by assumption) (by first | assumption | (unfold inR; simp; omega)) (by first | assumption | (unfold inR; simp; omega)) (by first | assumption | (unfold inR; simp; omega)) (fun i h => hc i (by omega)) (fun i h => ha i (by omega)) ?_; first | (rw [cs_cv]; rfl) | exact rv_len (fun i h => ha i (by omega)); done)
    ·have pr11 := odF h11
     refine q1 Y (Db f_96_2 Y Y (q := 2) Y) (q1 Y (lb 0 o_93 Y Y Y Y) (q1 Y (Dl s_93 Y Y (rd_sl hu2)) (P3 Y Y Y (gs 36 Y Y (fun h12 => ?_) (fun h12 => ?_)))))
     ·have pr12 := odT h12
      refine n1 Y (n1 Y (n1 Y (n1 Y (P2 Y Y (n1 Y (n1 Y (n1 Y (n1 Y (Pe Y (D_wk [1, 47] Y (C_t Y (Sr (Pe Y (Ct (Xr (Rb Y Y ?_))))))))))))))))
      first | (first | exact ru_n1 (.inl (by assumption)) | exact ru_n1 (.inr (.inl (by first | assumption | (unfold inR; simp; omega)))) | exact ru_n1 (.inr (.inr (.inl (by first | assumption | (unfold inR; simp; omega))))) | exact ru_n1 (.inr (.inr (.inr (by first | assumption | (unfold inR; simp; omega))))); done) | (exact ru_n2 (k := k) (lS x0h) (by first | exact condOk_f1 x0h (by assumption) | exact condOk_f2 x0h (by omega) (by omega) | exact condOk_f3 x0h (by assumption) | exact condOk_f3s x0h v0h (okV_sf (by assumption) (by assumption)) | exact condOk_f3s x0h v0h (okV_f (by omega) (by assumption) (.inr (by assumption)))); done) | (exact ru_n3 a0h (by first | exact actOk_f1 (by assumption) | exact actOk_f2 w0h (by assumption) | exact actOk_f2s w0h (by assumption)); done) | (refine ru_y (by assumption) (by first | assumption | (unfold inR; simp; omega)) (by first | assumption | (unfold inR; simp; omega)) (by first | assumption | (unfold inR; simp; omega)) (fun i h => hc i (by omega)) (fun i h => ha i (by omega)) ?_; first | (rw [cs_cv]; rfl) | exact rv_len (fun i h => ha i (by omega)); done)
     ·have pr12 := odF h12
      refine q1 Y (Db f_96_3 Y Y (q := 3) Y) (q1 Y (lb 0 o_94 Y Y Y Y) (q1 Y (Dl s_94 Y Y (rd_sl hu4)) (P3 Y Y Y (gs 42 Y Y (fun h13 => ?_) (fun h13 => ?_)))))
      ·have pr13 := odT h13
       refine n1 Y (n1 Y (n1 Y (n1 Y (Pe Y (D_wk [1, 47] Y (C_t Y (Sr (Pe Y (Ct (Xr (Rb Y Y ?_)))))))))))
       first | (first | exact ru_n1 (.inl (by assumption)) | exact ru_n1 (.inr (.inl (by first | assumption | (unfold inR; simp; omega)))) | exact ru_n1 (.inr (.inr (.inl (by first | assumption | (unfold inR; simp; omega))))) | exact ru_n1 (.inr (.inr (.inr (by first | assumption | (unfold inR; simp; omega))))); done) | (exact ru_n2 (k := k) (lS x0h) (by first | exact condOk_f1 x0h (by assumption) | exact condOk_f2 x0h (by omega) (by omega) | exact condOk_f3 x0h (by assumption) | exact condOk_f3s x0h v0h (okV_sf (by assumption) (by assumption)) | exact condOk_f3s x0h v0h (okV_f (by omega) (by assumption) (.inr (by assumption)))); done) | (exact ru_n3 a0h (by first | exact actOk_f1 (by assumption) | exact actOk_f2 w0h (by assumption) | exact actOk_f2s w0h (by assumption)); done) | (refine ru_y (by assumption) (by first | assumption | (unfold inR; simp; omega)) (by first | assumption | (unfold inR; simp; omega)) (by first | assumption | (unfold inR; simp; omega)) (fun i h => hc i (by omega)) (fun i h => ha i (by omega)) ?_; first | (rw [cs_cv]; rfl) | exact rv_len (fun i h => ha i (by omega)); done)
      ·have pr13 := odF h13
       refine q1 Y (Db f_96_3 Y Y (q := 3) Y) (q1 Y (lb 0 o_94 Y Y Y Y) (q1 Y (Dl s_94 Y Y (rd_sl hu4)) (P2 Y Y (Dx (D_wk [1, 47] Y (Ci _ Y (fun h14 => ?_) (fun h14 => ?_)))))))
       ·have pr14 := odT h14
        refine Sr (Pe Y (Ct (Xr (Rb Y Y ?_))))
        first | (first | exact ru_n1 (.inl (by assumption)) | exact ru_n1 (.inr (.inl (by first | assumption | (unfold inR; simp; omega)))) | exact ru_n1 (.inr (.inr (.inl (by first | assumption | (unfold inR; simp; omega))))) | exact ru_n1 (.inr (.inr (.inr (by first | assumption | (unfold inR; simp; omega))))); done) | (exact ru_n2 (k := k) (lS x0h) (by first | exact condOk_f1 x0h (by assumption) | exact condOk_f2 x0h (by omega) (by omega) | exact condOk_f3 x0h (by assumption) | exact condOk_f3s x0h v0h (okV_sf (by assumption) (by assumption)) | exact condOk_f3s x0h v0h (okV_f (by omega) (by assumption) (.inr (by assumption)))); done) | (exact ru_n3 a0h (by first | exact actOk_f1 (by assumption) | exact actOk_f2 w0h (by assumption) | exact actOk_f2s w0h (by assumption)); done) | (refine ru_y (by assumption) (by first | assumption | (unfold inR; simp; omega)) (by first | assumption | (unfold inR; simp; omega)) (by first | assumption | (unfold inR; simp; omega)) (fun i h => hc i (by omega)) (fun i h => ha i (by omega)) ?_; first | (rw [cs_cv]; rfl) | exact rv_len (fun i h => ha i (by omega)); done)
       ·have pr14 := odF h14
        refine Sk (Cq (Sr (q1 Y (Db f_96_2 Y Y (q := 2) Y) (q1 Y (lb 0 o_93 Y Y Y Y) (q1 Y (Dl s_93 Y Y (rd_sl hu2)) (Pe Y (Cb (Cl (fun m_ ac w' => ∃ (k : Nat), (k ≤ r.If.length) ∧ (∀ i, i < k → condOk r i = true) ∧ m_ = r.If.length - k ∧ Fits ac 111 [(1, (pv g7)), (49, u1), (50, (nv r.If.length)), (51, (nv k))] ∧ St w ([bx g7 [(.string r.Name), (iv r.Priority), u1, u3]]) w') ?_ ?_))))))))
        ·refine fun ac w' hf hs => ⟨_, 0, ?_, ?_, Y, hf.wk Y, hs⟩
         ·first | assumption | omega | simp
         ·intro i hi; omega
        ·rintro m_ ac w' ⟨k, hk, hc, rfl, hf, hs⟩
         refine D.use ?_ hf hs
         clear hf hs ac w'
         refine Sr (Pe Y (Cq (Ci _ Y (fun h15 => ?_) (fun h15 => ?_))))
         ·have pr15 := odT h15
          refine Sk (Cq (Cb (Sr (p1 Y ?_))))
          obtain ⟨x0, x0h⟩ := sL (l := r.If) (i := k) (by omega)
          have hcz := cond_sz x0h
          have hca := szCond_args x0
          have hvl := varsL_len x0.Pattern.Args
          have hsl := sortT_len (varsL x0.Pattern.Args)
          have hcl0 := cvars_len x0
          have hscl := sortT_len (cvars x0)
          obtain ⟨es16, at17, hr18⟩ := rd_elem (n := 5) rfl hu2 x0h
          obtain ⟨u19, rfl, hu20⟩ := open_Cond hr18
          have hm21 := rd_max hu20
          have hb22 := sub_Cond_Pattern hr18
          refine q1 Y (D_ix (l := r.If) (j := k) s_93 Y Y Y (fun w' hs => (rA hs hu2)) Y (lS x0h)) (q1 Y (lra a_147 Y Y at17) (li Y (D_alloc y_147 Y Y Y Y fun g23 => ?_)))
          refine p1 Y (li Y (D_stb (vs := [(iv x0.Kind), (.string x0.Pattern.Rel), u19, (.string x0.Left), (.string x0.Right)]) (cs' := [(iv x0.Kind), (.string x0.Pattern.Rel), u19, (.string x0.Left), (.string x0.Right)]) 0 z_147 Y Y Y Y Y Y (ocons Y (ocons Y (ocons (one_rd hu20) (ocons Y (ocons Y onil))))) (by simp) Y ?_))
          refine Dx (Dh ([bx g23 [(iv x0.Kind), (.string x0.Pattern.Rel), u19, (.string x0.Left), (.string x0.Right)], _]) Y (Sr (q1 Y (lbw 0 a_147 Y Y Y) (li Y (cv b_163 Y Y Y Y (fun w' hs => (impl_IsCond (rA hs hr18))) ?_)))))
          refine P2 Y Y (gs 59 Y Y (fun h24 => ?_) (fun h24 => ?_))
          ·have h24n := not_t h24
           refine n1 Y (n1 Y (n1 Y (n1 Y (n1 Y (n1 Y (n1 Y (P2 Y Y (n1 Y (n1 Y (n1 Y (n1 Y (Pe Y (D_wk [1, 49, 50, 51, 73] Y (D_pkO [1] Y (C_t Y (Sr (Pe Y (Ct ?_))))))))))))))))))
           refine Xq (Xr (Xr (Xq (Xr (Rb Y Y ?_)))))
           first | (first | exact ru_n1 (.inl (by assumption)) | exact ru_n1 (.inr (.inl (by first | assumption | (unfold inR; simp; omega)))) | exact ru_n1 (.inr (.inr (.inl (by first | assumption | (unfold inR; simp; omega))))) | exact ru_n1 (.inr (.inr (.inr (by first | assumption | (unfold inR; simp; omega))))); done) | (exact ru_n2 (k := k) (lS x0h) (by first | exact condOk_f1 x0h (by assumption) | exact condOk_f2 x0h (by omega) (by omega) | exact condOk_f3 x0h (by assumption) | exact condOk_f3s x0h v0h (okV_sf (by assumption) (by assumption)) | exact condOk_f3s x0h v0h (okV_f (by omega) (by assumption) (.inr (by assumption)))); done) | (exact ru_n3 a0h (by first | exact actOk_f1 (by assumption) | exact actOk_f2 w0h (by assumption) | exact actOk_f2s w0h (by assumption)); done) | (refine ru_y (by assumption) (by first | assumption | (unfold inR; simp; omega)) (by first | assumption | (unfold inR; simp; omega)) (by first | assumption | (unfold inR; simp; omega)) (fun i h => hc i (by omega)) (fun i h => ha i (by omega)) ?_; first | (rw [cs_cv]; rfl) | exact rv_len (fun i h => ha i (by omega)); done)
          ·have h24n := not_f h24
           refine P3 Y Y Y (gs 62 Y Y (fun h25 => ?_) (fun h25 => ?_))
           ·have pr25 := eq_of_beq h25
            refine q1 Y (Db f_147_0 Y Y (q := 0) Y) (q1 Y (lb 0 o_3 Y Y Y Y) (P3 Y Y Y (p1 Y (gs 68 Y Y (fun h26 => ?_) (fun h26 => ?_)))))
            ·have pr26 := bne_iff_ne.1 h26
             refine n1 Y (n1 Y (n1 Y (n1 Y (Pe Y (D_wk [1, 49, 50, 51, 73] Y (D_pkO [1] Y (C_t Y (Sr (Pe Y (Ct (Xq (Xr (Xr (Xq (Xr (Rb Y Y ?_))))))))))))))))
             first | (first | exact ru_n1 (.inl (by assumption)) | exact ru_n1 (.inr (.inl (by first | assumption | (unfold inR; simp; omega)))) | exact ru_n1 (.inr (.inr (.inl (by first | assumption | (unfold inR; simp; omega))))) | exact ru_n1 (.inr (.inr (.inr (by first | assumption | (unfold inR; simp; omega))))); done) | (exact ru_n2 (k := k) (lS x0h) (by first | exact condOk_f1 x0h (by assumption) | exact condOk_f2 x0h (by omega) (by omega) | exact condOk_f3 x0h (by assumption) | exact condOk_f3s x0h v0h (okV_sf (by assumption) (by assumption)) | exact condOk_f3s x0h v0h (okV_f (by omega) (by assumption) (.inr (by assumption)))); done) | (exact ru_n3 a0h (by first | exact actOk_f1 (by assumption) | exact actOk_f2 w0h (by assumption) | exact actOk_f2s w0h (by assumption)); done) | (refine ru_y (by assumption) (by first | assumption | (unfold inR; simp; omega)) (by first | assumption | (unfold inR; simp; omega)) (by first | assumption | (unfold inR; simp; omega)) (fun i h => hc i (by omega)) (fun i h => ha i (by omega)) ?_; first | (rw [cs_cv]; rfl) | exact rv_len (fun i h => ha i (by omega)); done)
            ·have pr26 := eq_of_bne_f h26
             refine q1 Y (lbw 1 a_96 Y Y Y) (p1 Y (li Y (cv b_164 Y Y Y Y (fun w' hs => (impl_condFits (rA hs h_r) hn0 (by first | assumption | omega | (unfold szm at *; split at * <;> omega)) (by first | assumption | omega | (unfold szm at *; split at * <;> omega)))) ?_)))
             refine P2 Y Y (Dx (D_wk [1, 49, 50, 51, 73] Y (D_pkO [1] Y (Ci _ Y (fun h27 => ?_) (fun h27 => ?_)))))
             ·have h27n := not_t h27
              refine Sr (Pe Y (Ct (Xq (Xr (Xr (Xq (Xr (Rb Y Y ?_))))))))
              first | (first | exact ru_n1 (.inl (by assumption)) | exact ru_n1 (.inr (.inl (by first | assumption | (unfold inR; simp; omega)))) | exact ru_n1 (.inr (.inr (.inl (by first | assumption | (unfold inR; simp; omega))))) | exact ru_n1 (.inr (.inr (.inr (by first | assumption | (unfold inR; simp; omega))))); done) | (exact ru_n2 (k := k) (lS x0h) (by first | exact condOk_f1 x0h (by assumption) | exact condOk_f2 x0h (by omega) (by omega) | exact condOk_f3 x0h (by assumption) | exact condOk_f3s x0h v0h (okV_sf (by assumption) (by assumption)) | exact condOk_f3s x0h v0h (okV_f (by omega) (by assumption) (.inr (by assumption)))); done) | (exact ru_n3 a0h (by first | exact actOk_f1 (by assumption) | exact actOk_f2 w0h (by assumption) | exact actOk_f2s w0h (by assumption)); done) | (refine ru_y (by assumption) (by first | assumption | (unfold inR; simp; omega)) (by first | assumption | (unfold inR; simp; omega)) (by first | assumption | (unfold inR; simp; omega)) (fun i h => hc i (by omega)) (fun i h => ha i (by omega)) ?_; first | (rw [cs_cv]; rfl) | exact rv_len (fun i h => ha i (by omega)); done)
             ·have h27n := not_f h27
              refine Ck (Xb (Xt (Cr (q1 Y (D_add Y Y Y (r := ((k + 1 : Nat) : Int)) (by omega) (by omega)) (Pe Y (fun ac w' hf hs => ⟨_, ?_, k + 1, ?_, ?_, Y, hf.wk Y, hs⟩))))))
              ·omega
              ·first | assumption | omega | simp
              ·refine forall_step hc ?_; first | exact condOk_t x0h (by assumption) (by omega) (by assumption) | exact condOk_ts x0h (by assumption) (by omega) (fun i h => hok i (by omega))
           ·have pr25 := ne_of_beq_false h25
            refine n1 Y (n1 Y (n1 Y (P3 Y Y Y (q1 Y (lbw 1 a_96 Y Y Y) (p1 Y (li Y (cv b_164 Y Y Y Y (fun w' hs => (impl_condFits (rA hs h_r) hn0 (by first | assumption | omega | (unfold szm at *; split at * <;> omega)) (by first | assumption | omega | (unfold szm at *; split at * <;> omega)))) ?_)))))))
            refine P2 Y Y (Dx (D_wk [1, 49, 50, 51, 73] Y (D_pkO [1] Y (Ci _ Y (fun h28 => ?_) (fun h28 => ?_)))))
            ·have h28n := not_t h28
             refine Sr (Pe Y (Ct (Xq (Xr (Xr (Xq (Xr (Rb Y Y ?_))))))))
             first | (first | exact ru_n1 (.inl (by assumption)) | exact ru_n1 (.inr (.inl (by first | assumption | (unfold inR; simp; omega)))) | exact ru_n1 (.inr (.inr (.inl (by first | assumption | (unfold inR; simp; omega))))) | exact ru_n1 (.inr (.inr (.inr (by first | assumption | (unfold inR; simp; omega))))); done) | (exact ru_n2 (k := k) (lS x0h) (by first | exact condOk_f1 x0h (by assumption) | exact condOk_f2 x0h (by omega) (by omega) | exact condOk_f3 x0h (by assumption) | exact condOk_f3s x0h v0h (okV_sf (by assumption) (by assumption)) | exact condOk_f3s x0h v0h (okV_f (by omega) (by assumption) (.inr (by assumption)))); done) | (exact ru_n3 a0h (by first | exact actOk_f1 (by assumption) | exact actOk_f2 w0h (by assumption) | exact actOk_f2s w0h (by assumption)); done) | (refine ru_y (by assumption) (by first | assumption | (unfold inR; simp; omega)) (by first | assumption | (unfold inR; simp; omega)) (by first | assumption | (unfold inR; simp; omega)) (fun i h => hc i (by omega)) (fun i h => ha i (by omega)) ?_; first | (rw [cs_cv]; rfl) | exact rv_len (fun i h => ha i (by omega)); done)
            ·have h28n := not_f h28
             refine Ck (Xb (Xt (Cr (q1 Y (D_add Y Y Y (r := ((k + 1 : Nat) : Int)) (by omega) (by omega)) (Pe Y (fun ac w' hf hs => ⟨_, ?_, k + 1, ?_, ?_, Y, hf.wk Y, hs⟩))))))
             ·omega
             ·first | assumption | omega | simp
             ·refine forall_step hc ?_; first | exact condOk_t x0h (by assumption) (by omega) (by assumption) | exact condOk_ts x0h (by assumption) (by omega) (fun i h => hok i (by omega))
         ·have pr15 := odF h15
          refine Cx (Xx (Xx (Xe (Xt (Sr (q1 Y (lbw 0 a_96 Y Y Y) (q1 Y (Db f_96_2 Y Y (q := 2) Y) (q1 Y (lb 0 o_93 Y Y Y Y) (q1 Y (Dl s_93 Y Y (rd_sl hu2)) (li Y (crl b_165 Y Y Y Y (fun w' hs => (impl_BoundVars (rA hs h_r) hn0)) fun v29 => ?_)))))))))))
          refine Pe Y (Dh ([ov [v29] (sortT (bvars r ((r.If.length : Nat) : Int)) : (List ByteArray)), _]) Y (Cq (Sr (q1 Y (Db f_96_3 Y Y (q := 3) Y) (q1 Y (lb 1 o_94 Y Y Y Y) (q1 Y (Dl s_94 Y Y (rd_sl hu4)) (Pe Y (Cb (Cl (fun m_ ac w' => ∃ (j : Nat), (j ≤ r.Then.length) ∧ (∀ i, i < j → ∀ a, r.Then[i]? = some a → actOk r a = true) ∧ m_ = r.Then.length - j ∧ Fits ac 111 [(1, (pv g7)), (5, v29), (81, u3), (82, (nv r.Then.length)), (83, (nv j))] ∧ St w ([ov [v29] (sortT (bvars r ((r.If.length : Nat) : Int)) : (List ByteArray)), bx g7 [(.string r.Name), (iv r.Priority), u1, u3]]) w') ?_ ?_)))))))))
          ·refine fun ac w' hf hs => ⟨_, 0, ?_, ?_, Y, hf.wk Y, hs⟩
           ·first | assumption | omega | simp
           ·intro i hi; omega
          ·rintro m_ ac w' ⟨j, hj, ha, rfl, hf, hs⟩
           refine D.use ?_ hf hs
           clear hf hs ac w'
           refine Sr (Pe Y (Cq (Ci _ Y (fun h30 => ?_) (fun h30 => ?_))))
           ·have pr30 := odT h30
            refine Sk (Cq (Cb (Sr ?_)))
            obtain ⟨a0, a0h⟩ := sL (l := r.Then) (i := j) (by omega)
            have haz := act_sz a0h
            have haa := szAct_args a0
            have hvl2 := varsL_len a0.Pattern.Args
            have hsl2 := sortT_len (varsL a0.Pattern.Args)
            obtain ⟨es31, at32, hr33⟩ := rd_elem (n := 3) rfl hu4 a0h
            obtain ⟨u34, rfl, hu35⟩ := open_Action hr33
            have hm36 := rd_max hu35
            have hb37 := sub_Action_Pattern hr33
            refine q1 Y (D_ix (l := r.Then) (j := j) s_94 Y Y Y (fun w' hs => (rA hs hu4)) Y (lS a0h)) (q1 Y (lra a_159 Y Y at32) (li Y (D_alloc y_159 Y Y Y Y fun g38 => ?_)))
            refine li Y (D_stb (vs := [(iv a0.Kind), (.string a0.Pattern.Rel), u34]) (cs' := [(iv a0.Kind), (.string a0.Pattern.Rel), u34]) 0 z_159 Y Y Y Y Y Y (ocons Y (ocons Y (ocons (one_rd hu35) onil))) (by simp) Y ?_)
            refine Dx (Dh ([bx g38 [(iv a0.Kind), (.string a0.Pattern.Rel), u34], _, _]) Y (Cq (Sr (q1 Y (lbw 0 a_159 Y Y Y) (li Y (cv b_166 Y Y Y Y (fun w' hs => (impl_IsAction (rA hs hr33))) ?_))))))
            refine Pe Y (Ci _ Y (fun h39 => ?_) (fun h39 => ?_))
            ·have h39n := not_t h39
             refine Sr (Pe Y (Ct (Xr (Xq (Xr (Xr (Xq (Xr (Rb Y Y ?_)))))))))
             first | (first | exact ru_n1 (.inl (by assumption)) | exact ru_n1 (.inr (.inl (by first | assumption | (unfold inR; simp; omega)))) | exact ru_n1 (.inr (.inr (.inl (by first | assumption | (unfold inR; simp; omega))))) | exact ru_n1 (.inr (.inr (.inr (by first | assumption | (unfold inR; simp; omega))))); done) | (exact ru_n2 (k := k) (lS x0h) (by first | exact condOk_f1 x0h (by assumption) | exact condOk_f2 x0h (by omega) (by omega) | exact condOk_f3 x0h (by assumption) | exact condOk_f3s x0h v0h (okV_sf (by assumption) (by assumption)) | exact condOk_f3s x0h v0h (okV_f (by omega) (by assumption) (.inr (by assumption)))); done) | (exact ru_n3 a0h (by first | exact actOk_f1 (by assumption) | exact actOk_f2 w0h (by assumption) | exact actOk_f2s w0h (by assumption)); done) | (refine ru_y (by assumption) (by first | assumption | (unfold inR; simp; omega)) (by first | assumption | (unfold inR; simp; omega)) (by first | assumption | (unfold inR; simp; omega)) (fun i h => hc i (by omega)) (fun i h => ha i (by omega)) ?_; first | (rw [cs_cv]; rfl) | exact rv_len (fun i h => ha i (by omega)); done)
            ·have h39n := not_f h39
             refine Sk (Sr (q1 Y (Db f_159_1 Y Y (q := 1) Y) (q1 Y (Db f_145_1 Y Y (q := 2) Y) (q1 Y (lb 0 o_58 Y Y Y Y) (li Y (crl b_167 Y Y Y Y (fun w' hs => (impl_varsAmong (rA hs hu35) (by first | assumption | omega | (unfold szm at *; split at * <;> omega)))) fun v40 => ?_))))))
             refine q1 Y (D_leno 0 s_58 Y Y Y) (Pe Y (Dh ([ov [v40] (varsL a0.Pattern.Args : (List ByteArray)), _, _, _]) Y (Cb (Cl (fun m_ ac w' => ∃ (p : Nat), (p ≤ (varsL a0.Pattern.Args).length) ∧ (∀ i, i < p → ∀ y, (varsL a0.Pattern.Args)[i]? = some y → hasS (sortT (bvars r (r.If.length : Int))) y = true) ∧ m_ = (varsL a0.Pattern.Args).length - p ∧ Fits ac 111 [(1, (pv g7)), (5, v29), (81, u3), (82, (nv r.Then.length)), (83, (nv j)), (93, v40), (94, (nv ((varsL a0.Pattern.Args).length))), (95, (nv p))] ∧ St w ([ov [v40] (varsL a0.Pattern.Args : (List ByteArray)), bx g38 [(iv a0.Kind), (.string a0.Pattern.Rel), u34], ov [v29] (sortT (bvars r ((r.If.length : Nat) : Int)) : (List ByteArray)), bx g7 [(.string r.Name), (iv r.Priority), u1, u3]]) w') ?_ ?_))))
             ·refine fun ac w' hf hs => ⟨_, 0, ?_, ?_, Y, hf.wk Y, hs⟩
              ·first | assumption | omega | simp
              ·intro i hi; omega
             ·rintro m_ ac w' ⟨p, hpk, hp, rfl, hf, hs⟩
              refine D.use ?_ hf hs
              clear hf hs ac w'
              refine Sr (Pe Y (Cq (Ci _ Y (fun h41 => ?_) (fun h41 => ?_))))
              ·have pr41 := odT h41
               refine Sk (Cq (Cb (Sr ?_)))
               obtain ⟨w0_, w0h⟩ := sL (l := (varsL a0.Pattern.Args)) (i := p) (by omega)
               refine q1 Y (D_ix (l := (varsL a0.Pattern.Args)) (j := p) s_58 Y Y Y (fun w' hs => (rO (k := 0) hs Y)) Y (lS w0h)) (q1 Y (lo (α := ByteArray) 0 o_9 Y Y Y w0h) (Pe Y (Sr (P2 Y Y (li Y (cv b_168 Y Y Y Y (fun w' hs => (impl_hasText (rO (k := 2) hs Y))) ?_))))))
               refine Pe Y (Ci _ Y (fun h42 => ?_) (fun h42 => ?_))
               ·have h42n := not_t h42
                refine Sr (Pe Y (Ct (Xq (Xr (Xr (Xq (Xq (Xr (Xr (Xq (Xr (Rb Y Y ?_))))))))))))
                first | (first | exact ru_n1 (.inl (by assumption)) | exact ru_n1 (.inr (.inl (by first | assumption | (unfold inR; simp; omega)))) | exact ru_n1 (.inr (.inr (.inl (by first | assumption | (unfold inR; simp; omega))))) | exact ru_n1 (.inr (.inr (.inr (by first | assumption | (unfold inR; simp; omega))))); done) | (exact ru_n2 (k := k) (lS x0h) (by first | exact condOk_f1 x0h (by assumption) | exact condOk_f2 x0h (by omega) (by omega) | exact condOk_f3 x0h (by assumption) | exact condOk_f3s x0h v0h (okV_sf (by assumption) (by assumption)) | exact condOk_f3s x0h v0h (okV_f (by omega) (by assumption) (.inr (by assumption)))); done) | (exact ru_n3 a0h (by first | exact actOk_f1 (by assumption) | exact actOk_f2 w0h (by assumption) | exact actOk_f2s w0h (by assumption)); done) | (refine ru_y (by assumption) (by first | assumption | (unfold inR; simp; omega)) (by first | assumption | (unfold inR; simp; omega)) (by first | assumption | (unfold inR; simp; omega)) (fun i h => hc i (by omega)) (fun i h => ha i (by omega)) ?_; first | (rw [cs_cv]; rfl) | exact rv_len (fun i h => ha i (by omega)); done)
               ·have h42n := not_f h42
                refine Ck (Xb (Xt (Cr (q1 Y (D_add Y Y Y (r := ((p + 1 : Nat) : Int)) (by omega) (by omega)) (Pe Y (fun ac w' hf hs => ⟨_, ?_, p + 1, ?_, ?_, Y, hf.wk Y, hs⟩))))))
                ·omega
                ·first | assumption | omega | simp
                ·refine forall_step hp ?_; intro y hy; obtain rfl : y = w0_ := Option.some.inj (hy.symm.trans w0h); assumption
              ·have pr41 := odF h41
               refine Cx (Xx (Xx (Xe (Xb (Xt (Cr (q1 Y (D_add Y Y Y (r := ((j + 1 : Nat) : Int)) (by omega) (by omega)) (Pe Y (fun ac w' hf hs => ⟨_, ?_, j + 1, ?_, ?_, Y, hf.wk Y, hs.pk [2, 3] Y Y⟩)))))))))
               ·omega
               ·first | assumption | omega | simp
               ·refine forall_step ha ?_; intro y hy; obtain rfl : y = a0 := Option.some.inj (hy.symm.trans a0h); first | exact actOk_t (by assumption) (fun i h => hp i (by omega)) | exact actOk_ts (by assumption) (fun i h => hp i (by omega))
           ·have pr30 := odF h30
            refine Cx (Xx (Xx (Xe (Xt (Sr (q1 Y (Db f_96_2 Y Y (q := 2) Y) (q1 Y (lb 1 o_93 Y Y Y Y) (li Y (crl b_170 Y Y Y Y (fun w' hs => (impl_condVarsOf (rA hs hu2) (by unfold szL; omega))) fun v43 => ?_)))))))))
            refine li Y (crl b_169 Y Y Y Y (fun w' hs => (impl_SortedTexts (rO (k := 0) hs Y) (by first | assumption | omega | (unfold szm at *; split at * <;> omega)))) fun v44 => ?_)
            refine q1 Y (D_leno 0 s_58 Y Y Y) (P2 Y Y (Dx (Ct (Rb Y Y ?_))))
            show ((decide (((((sortT (csT r.If r.If.length)).length : Nat) : Int) : Int) ≤ 6)) : Bool) = _
            first | (first | exact ru_n1 (.inl (by assumption)) | exact ru_n1 (.inr (.inl (by first | assumption | (unfold inR; simp; omega)))) | exact ru_n1 (.inr (.inr (.inl (by first | assumption | (unfold inR; simp; omega))))) | exact ru_n1 (.inr (.inr (.inr (by first | assumption | (unfold inR; simp; omega))))); done) | (exact ru_n2 (k := k) (lS x0h) (by first | exact condOk_f1 x0h (by assumption) | exact condOk_f2 x0h (by omega) (by omega) | exact condOk_f3 x0h (by assumption) | exact condOk_f3s x0h v0h (okV_sf (by assumption) (by assumption)) | exact condOk_f3s x0h v0h (okV_f (by omega) (by assumption) (.inr (by assumption)))); done) | (exact ru_n3 a0h (by first | exact actOk_f1 (by assumption) | exact actOk_f2 w0h (by assumption) | exact actOk_f2s w0h (by assumption)); done) | (refine ru_y (by assumption) (by first | assumption | (unfold inR; simp; omega)) (by first | assumption | (unfold inR; simp; omega)) (by first | assumption | (unfold inR; simp; omega)) (fun i h => hc i (by omega)) (fun i h => ha i (by omega)) ?_; first | (rw [cs_cv]; rfl) | exact rv_len (fun i h => ha i (by omega)); done)
set_option maxHeartbeats 4000000 in
theorem spec_IsRule {w : World} {c_r : List Value} {r : Rule} (h_r : Gd.rd w c_r r) (hn : szRule r ≤ 1048576) (ho : okRule r) : Calls Tryz.prog 98 [(.agg c_r.toArray)].toArray w (Val w (.bool (isRuleB r))) := by
 obtain ⟨u1, u3, rfl, hu2, hu4⟩ := open_Rule h_r
 have hm5 := rd_max hu2
 have hm6 := rd_max hu4
 have hn0 := hn
 unfold szRule szL at hn
 have hcl := csT_len r.If r.If.length
 refine enter 145 Tryz.func98 Y Y Y (Sr (li Y (D_box Y Y Y Y Y fun g7 => ?_)))
 refine Pe Y (Dh ([bx g7 [(.string r.Name), (iv r.Priority), u1, u3]]) Y (Cq (Sr (q1 Y (Db f_96_0 Y Y (q := 0) Y) (q1 Y (lb 0 o_9 Y Y Y Y) (li Y (cv b_145 Y Y Y Y (fun w' hs => (spec_IsName ho.1)) ?_)))))))
 refine P2 Y Y (gs 17 Y Y (fun h8 => ?_) (fun h8 => ?_))
 ·have h8n := not_t h8
  refine n1 Y (n1 Y (n1 Y (n1 Y (P2 Y Y (n1 Y (n1 Y (n1 Y (n1 Y (n1 Y (P2 Y Y (n1 Y (n1 Y (n1 Y (n1 Y (n1 Y (Pe Y (D_wk [1, 36] Y (C_t Y (Sr (p1 Y ?_))))))))))))))))))))
  refine Dx (Ct (Xr (Rb Y Y ?_)))
  first | (first | exact ru_n1 (.inl (by assumption)) | exact ru_n1 (.inr (.inl (by first | assumption | (unfold inR; simp; omega)))) | exact ru_n1 (.inr (.inr (.inl (by first | assumption | (unfold inR; simp; omega))))) | exact ru_n1 (.inr (.inr (.inr (by first | assumption | (unfold inR; simp; omega))))); done) | (exact ru_n2 (k := k) (lS x0h) (by first | exact condOk_f1 x0h (by assumption) | exact condOk_f2 x0h (by omega) (by omega) | exact condOk_f3 x0h (by assumption) | exact condOk_f3s x0h v0h (okV_sf (by assumption) (by assumption)) | exact condOk_f3s x0h v0h (okV_f (by omega) (by assumption) (.inr (by assumption)))); done) | (exact ru_n3 a0h (by first | exact actOk_f1 (by assumption) | exact actOk_f2 w0h (by assumption) | exact actOk_f2s w0h (by assumption)); done) | (refine ru_y (by assumption) (by first | assumption | (unfold inR; simp; omega)) (by first | assumption | (unfold inR; simp; omega)) (by first | assumption | (unfold inR; simp; omega)) (fun i h => hc i (by omega)) (fun i h => ha i (by omega)) ?_; first | (rw [cs_cv]; rfl) | exact rv_len (fun i h => ha i (by omega)); done)
 ·have h8n := not_f h8
  refine q1 Y (Db f_96_1 Y Y (q := 1) Y) (q1 Y (lb 0 o_3 Y Y Y Y) (li Y (cv b_99 Y Y Y Y (fun w' hs => spec_l1In) ?_)))
  refine P3 Y Y Y (gs 23 Y Y (fun h9 => ?_) (fun h9 => ?_))
  ·have h9n := not_t h9
   refine n1 Y (n1 Y (n1 Y (n1 Y (n1 Y (P2 Y Y (n1 Y (n1 Y (n1 Y (n1 Y (n1 Y (Pe Y (D_wk [1, 36] Y (C_t Y (Sr (Pe Y (Ct (Xr (Rb Y Y ?_))))))))))))))))))
   first | (first | exact ru_n1 (.inl (by assumption)) | exact ru_n1 (.inr (.inl (by first | assumption | (unfold inR; simp; omega)))) | exact ru_n1 (.inr (.inr (.inl (by first | assumption | (unfold inR; simp; omega))))) | exact ru_n1 (.inr (.inr (.inr (by first | assumption | (unfold inR; simp; omega))))); done) | (exact ru_n2 (k := k) (lS x0h) (by first | exact condOk_f1 x0h (by assumption) | exact condOk_f2 x0h (by omega) (by omega) | exact condOk_f3 x0h (by assumption) | exact condOk_f3s x0h v0h (okV_sf (by assumption) (by assumption)) | exact condOk_f3s x0h v0h (okV_f (by omega) (by assumption) (.inr (by assumption)))); done) | (exact ru_n3 a0h (by first | exact actOk_f1 (by assumption) | exact actOk_f2 w0h (by assumption) | exact actOk_f2s w0h (by assumption)); done) | (refine ru_y (by assumption) (by first | assumption | (unfold inR; simp; omega)) (by first | assumption | (unfold inR; simp; omega)) (by first | assumption | (unfold inR; simp; omega)) (fun i h => hc i (by omega)) (fun i h => ha i (by omega)) ?_; first | (rw [cs_cv]; rfl) | exact rv_len (fun i h => ha i (by omega)); done)
  ·have h9n := not_f h9
   refine q1 Y (Db f_96_2 Y Y (q := 2) Y) (q1 Y (lb 0 o_93 Y Y Y Y) (q1 Y (Dl s_93 Y Y (rd_sl hu2)) (li Y (cv b_99 Y Y Y Y (fun w' hs => spec_l1In) ?_))))
   refine P3 Y Y Y (gs 30 Y Y (fun h10 => ?_) (fun h10 => ?_))
   ·have h10n := not_t h10
    refine n1 Y (n1 Y (n1 Y (n1 Y (n1 Y (Pe Y (D_wk [1, 36] Y (C_t Y (Sr (Pe Y (Ct (Xr (Rb Y Y ?_))))))))))))
    first | (first | exact ru_n1 (.inl (by assumption)) | exact ru_n1 (.inr (.inl (by first | assumption | (unfold inR; simp; omega)))) | exact ru_n1 (.inr (.inr (.inl (by first | assumption | (unfold inR; simp; omega))))) | exact ru_n1 (.inr (.inr (.inr (by first | assumption | (unfold inR; simp; omega))))); done) | (exact ru_n2 (k := k) (lS x0h) (by first | exact condOk_f1 x0h (by assumption) | exact condOk_f2 x0h (by omega) (by omega) | exact condOk_f3 x0h (by assumption) | exact condOk_f3s x0h v0h (okV_sf (by assumption) (by assumption)) | exact condOk_f3s x0h v0h (okV_f (by omega) (by assumption) (.inr (by assumption)))); done) | (exact ru_n3 a0h (by first | exact actOk_f1 (by assumption) | exact actOk_f2 w0h (by assumption) | exact actOk_f2s w0h (by assumption)); done) | (refine ru_y (by assumption) (by first | assumption | (unfold inR; simp; omega)) (by first | assumption | (unfold inR; simp; omega)) (by first | assumption | (unfold inR; simp; omega)) (fun i h => hc i (by omega)) (fun i h => ha i (by omega)) ?_; first | (rw [cs_cv]; rfl) | exact rv_len (fun i h => ha i (by omega)); done)
   ·have h10n := not_f h10
    refine q1 Y (Db f_96_3 Y Y (q := 3) Y) (q1 Y (lb 0 o_94 Y Y Y Y) (q1 Y (Dl s_94 Y Y (rd_sl hu4)) (li Y (cv b_99 Y Y Y Y (fun w' hs => spec_l1In) ?_))))
    refine P2 Y Y (Dx (D_wk [1, 36] Y (Ci _ Y (fun h11 => ?_) (fun h11 => ?_))))
    ·have h11n := not_t h11
     refine Sr (Pe Y (Ct (Xr (Rb Y Y ?_))))
     first | (first | exact ru_n1 (.inl (by assumption)) | exact ru_n1 (.inr (.inl (by first | assumption | (unfold inR; simp; omega)))) | exact ru_n1 (.inr (.inr (.inl (by first | assumption | (unfold inR; simp; omega))))) | exact ru_n1 (.inr (.inr (.inr (by first | assumption | (unfold inR; simp; omega))))); done) | (exact ru_n2 (k := k) (lS x0h) (by first | exact condOk_f1 x0h (by assumption) | exact condOk_f2 x0h (by omega) (by omega) | exact condOk_f3 x0h (by assumption) | exact condOk_f3s x0h v0h (okV_sf (by assumption) (by assumption)) | exact condOk_f3s x0h v0h (okV_f (by omega) (by assumption) (.inr (by assumption)))); done) | (exact ru_n3 a0h (by first | exact actOk_f1 (by assumption) | exact actOk_f2 w0h (by assumption) | exact actOk_f2s w0h (by assumption)); done) | (refine ru_y (by assumption) (by first | assumption | (unfold inR; simp; omega)) (by first | assumption | (unfold inR; simp; omega)) (by first | assumption | (unfold inR; simp; omega)) (fun i h => hc i (by omega)) (fun i h => ha i (by omega)) ?_; first | (rw [cs_cv]; rfl) | exact rv_len (fun i h => ha i (by omega)); done)
    ·have h11n := not_f h11
     refine Sk (Sr (q1 Y (lbw 0 a_96 Y Y Y) (q1 Y (Db f_96_2 Y Y (q := 2) Y) (q1 Y (lb 0 o_93 Y Y Y Y) (q1 Y (Dl s_93 Y Y (rd_sl hu2)) (li Y (crl b_152 Y Y Y Y (fun w' hs => (spec_BoundVars (rA hs h_r) hn0 ho)) fun v12 => ?_)))))))
     refine Pe Y (Dh ([ov [v12] (sortT (bvars r ((r.If.length : Nat) : Int)) : (List ByteArray)), _]) Y (Cq (Sr (Pe Y (Cb (Cl (fun m_ ac w' => ∃ (k : Nat), (k ≤ r.If.length) ∧ (∀ i, i < k → condOk r i = true) ∧ m_ = r.If.length - k ∧ Fits ac 145 [(1, (pv g7)), (3, v12), (4, (nv k))] ∧ St w ([ov [v12] (sortT (bvars r ((r.If.length : Nat) : Int)) : (List ByteArray)), bx g7 [(.string r.Name), (iv r.Priority), u1, u3]]) w') ?_ ?_))))))
     ·refine fun ac w' hf hs => ⟨_, 0, ?_, ?_, Y, hf.wk Y, hs⟩
      ·first | assumption | omega | simp
      ·intro i hi; omega
     ·rintro m_ ac w' ⟨k, hk, hc, rfl, hf, hs⟩
      refine D.use ?_ hf hs
      clear hf hs ac w'
      refine Cq (Sr (p1 Y (q1 Y (Db f_96_2 Y Y (q := 2) Y) (q1 Y (lb 1 o_93 Y Y Y Y) (q1 Y (Dl s_93 Y Y (rd_sl hu2)) (Pe Y (Ci _ Y (fun h13 => ?_) (fun h13 => ?_))))))))
      ·have pr13 := odT h13
       refine Sk (Cq (Cb (Sr (q1 Y (Db f_96_2 Y Y (q := 2) Y) (q1 Y (lb 1 o_93 Y Y Y Y) (p1 Y ?_))))))
       obtain ⟨x0, x0h⟩ := sL (l := r.If) (i := k) (by omega)
       have hcz := cond_sz x0h
       have hca := szCond_args x0
       have hvl := varsL_len x0.Pattern.Args
       have hsl := sortT_len (varsL x0.Pattern.Args)
       have hcl0 := cvars_len x0
       have hscl := sortT_len (cvars x0)
       have hco := ho.2.2.1 _ (List.mem_of_getElem? x0h)
       obtain ⟨es14, at15, hr16⟩ := rd_elem (n := 5) rfl hu2 x0h
       obtain ⟨u17, rfl, hu18⟩ := open_Cond hr16
       have hm19 := rd_max hu18
       have hb20 := sub_Cond_Pattern hr16
       refine q1 Y (D_ix (l := r.If) (j := k) s_93 Y Y Y (fun w' hs => (rA hs hu2)) Y (lS x0h)) (q1 Y (lra a_147 Y Y at15) (li Y (D_alloc y_147 Y Y Y Y fun g21 => ?_)))
       refine li Y (D_stb (vs := [(iv x0.Kind), (.string x0.Pattern.Rel), u17, (.string x0.Left), (.string x0.Right)]) (cs' := [(iv x0.Kind), (.string x0.Pattern.Rel), u17, (.string x0.Left), (.string x0.Right)]) 0 z_147 Y Y Y Y Y Y (ocons Y (ocons Y (ocons (one_rd hu18) (ocons Y (ocons Y onil))))) (by simp) Y ?_)
       refine Dx (Dh ([bx g21 [(iv x0.Kind), (.string x0.Pattern.Rel), u17, (.string x0.Left), (.string x0.Right)], _, _]) Y (Cq (Sr (q1 Y (lbw 0 a_147 Y Y Y) (li Y (cv b_153 Y Y Y Y (fun w' hs => (spec_IsCond (rA hs hr16) hco)) ?_))))))
       refine P2 Y Y (gs 57 Y Y (fun h22 => ?_) (fun h22 => ?_))
       ·have h22n := not_t h22
        refine n1 Y (n1 Y (n1 Y (n1 Y (n1 Y (n1 Y (n1 Y (Pe Y (D_wk [1, 3, 4, 5, 65] Y (C_t Y (Sr (Pe Y (Ct (Xr (Xq (Xr (Xr (Xq (Xr ?_))))))))))))))))))
        refine Rb Y Y ?_
        first | (first | exact ru_n1 (.inl (by assumption)) | exact ru_n1 (.inr (.inl (by first | assumption | (unfold inR; simp; omega)))) | exact ru_n1 (.inr (.inr (.inl (by first | assumption | (unfold inR; simp; omega))))) | exact ru_n1 (.inr (.inr (.inr (by first | assumption | (unfold inR; simp; omega))))); done) | (exact ru_n2 (k := k) (lS x0h) (by first | exact condOk_f1 x0h (by assumption) | exact condOk_f2 x0h (by omega) (by omega) | exact condOk_f3 x0h (by assumption) | exact condOk_f3s x0h v0h (okV_sf (by assumption) (by assumption)) | exact condOk_f3s x0h v0h (okV_f (by omega) (by assumption) (.inr (by assumption)))); done) | (exact ru_n3 a0h (by first | exact actOk_f1 (by assumption) | exact actOk_f2 w0h (by assumption) | exact actOk_f2s w0h (by assumption)); done) | (refine ru_y (by assumption) (by first | assumption | (unfold inR; simp; omega)) (by first | assumption | (unfold inR; simp; omega)) (by first | assumption | (unfold inR; simp; omega)) (fun i h => hc i (by omega)) (fun i h => ha i (by omega)) ?_; first | (rw [cs_cv]; rfl) | exact rv_len (fun i h => ha i (by omega)); done)
       ·have h22n := not_f h22
        refine P3 Y Y Y (gs 60 Y Y (fun h23 => ?_) (fun h23 => ?_))
        ·have pr23 := eq_of_beq h23
         refine q1 Y (Db f_147_0 Y Y (q := 0) Y) (q1 Y (lb 0 o_3 Y Y Y Y) (P3 Y Y Y (Dx (D_wk [1, 3, 4, 5, 65] Y (Ci _ Y (fun h24 => ?_) (fun h24 => ?_))))))
         ·have pr24 := bne_iff_ne.1 h24
          refine Sr (Pe Y (Ct (Xr (Xq (Xr (Xr (Xq (Xr (Rb Y Y ?_)))))))))
          first | (first | exact ru_n1 (.inl (by assumption)) | exact ru_n1 (.inr (.inl (by first | assumption | (unfold inR; simp; omega)))) | exact ru_n1 (.inr (.inr (.inl (by first | assumption | (unfold inR; simp; omega))))) | exact ru_n1 (.inr (.inr (.inr (by first | assumption | (unfold inR; simp; omega))))); done) | (exact ru_n2 (k := k) (lS x0h) (by first | exact condOk_f1 x0h (by assumption) | exact condOk_f2 x0h (by omega) (by omega) | exact condOk_f3 x0h (by assumption) | exact condOk_f3s x0h v0h (okV_sf (by assumption) (by assumption)) | exact condOk_f3s x0h v0h (okV_f (by omega) (by assumption) (.inr (by assumption)))); done) | (exact ru_n3 a0h (by first | exact actOk_f1 (by assumption) | exact actOk_f2 w0h (by assumption) | exact actOk_f2s w0h (by assumption)); done) | (refine ru_y (by assumption) (by first | assumption | (unfold inR; simp; omega)) (by first | assumption | (unfold inR; simp; omega)) (by first | assumption | (unfold inR; simp; omega)) (fun i h => hc i (by omega)) (fun i h => ha i (by omega)) ?_; first | (rw [cs_cv]; rfl) | exact rv_len (fun i h => ha i (by omega)); done)
         ·have pr24 := eq_of_bne_f h24
          refine Sk (Sr (q1 Y (lbw 2 a_96 Y Y Y) (p1 Y (li Y (crl b_152 Y Y Y Y (fun w' hs => (spec_BoundVars (rA hs h_r) hn0 ho)) fun v25 => ?_)))))
          refine Pe Y (Dh ([ov [v25] (sortT (bvars r ((k : Nat) : Int)) : (List ByteArray)), _, _, _]) Y (Sr (q1 Y (lbw 1 a_147 Y Y Y) (li Y (crl b_154 Y Y Y Y (fun w' hs => (spec_CondVars (rA hs hr16) (by first | assumption | omega | (unfold szm at *; split at * <;> omega)) hco)) fun v26 => ?_)))))
          refine Pe Y (Dh ([ov [v26] (sortT (cvars x0) : (List ByteArray)), _, _, _, _]) Y (Sr (Pe Y (Cb (Cl (fun m_ ac w' => ∃ (q : Nat), (q ≤ (sortT (cvars x0)).length) ∧ (∀ i, i < q → ∀ y, (sortT (cvars x0))[i]? = some y → okV r (k : Int) x0 y = true) ∧ m_ = (sortT (cvars x0)).length - q ∧ Fits ac 145 [(1, (pv g7)), (3, v12), (4, (nv k)), (5, (pv g21)), (6, v25), (7, v26), (8, (nv q))] ∧ St w ([ov [v26] (sortT (cvars x0) : (List ByteArray)), ov [v25] (sortT (bvars r ((k : Nat) : Int)) : (List ByteArray)), bx g21 [(iv x0.Kind), (.string x0.Pattern.Rel), u17, (.string x0.Left), (.string x0.Right)], ov [v12] (sortT (bvars r ((r.If.length : Nat) : Int)) : (List ByteArray)), bx g7 [(.string r.Name), (iv r.Priority), u1, u3]]) w') ?_ ?_)))))
          ·refine fun ac w' hf hs => ⟨_, 0, ?_, ?_, Y, hf.wk Y, hs⟩
           ·first | assumption | omega | simp
           ·intro i hi; omega
          ·rintro m_ ac w' ⟨q, hq, hok, rfl, hf, hs⟩
           refine D.use ?_ hf hs
           clear hf hs ac w'
           refine Cq (Sr (P2 Y Y (q1 Y (D_leno 0 s_58 Y Y Y) (Pe Y (Ci _ Y (fun h27 => ?_) (fun h27 => ?_))))))
           ·have pr27 := odT h27
            refine Sk (Cq (Cb (Sr (P3 Y Y Y ?_))))
            obtain ⟨v0, v0h⟩ := sL (l := (sortT (cvars x0))) (i := q) (by omega)
            refine q1 Y (D_ix (l := (sortT (cvars x0))) (j := q) s_58 Y Y Y (fun w' hs => (rO (k := 0) hs Y)) Y (lS v0h)) (q1 Y (lo (α := ByteArray) 0 o_9 Y Y Y v0h) (li Y (cv b_155 Y Y Y Y (fun w' hs => (spec_l1HasText (rO (k := 1) hs Y))) ?_)))
            refine Pe Y (Cq (C_draw mixed [1, 2, 3, 4, 5, 6, 7, 8, 9, 10, 11, 12, 13, 14, 21, 22, 23] (by kernel_rfl) (Tk 0 Y (by kernel_rfl) Y (lbw 2 a_147 Y Y Y) (ty 1 Y (by kernel_rfl) Y (cv b_156 Y Y Y Y (fun w' hs => (spec_IsTest (rA hs hr16) hco)) ?_)))))
            refine tZ Y (ty 2 Y (by kernel_rfl) Y (sv Y Y (rp Y) ?_))
            refine tZ Y (gs 85 Y Y (fun h28 => ?_) (fun h28 => ?_))
            ·refine ty 3 Y (by kernel_rfl) Y (sv Y Y (rp Y) ?_)
             refine tZ Y (ty 4 Y (by kernel_rfl) Y (sv Y Y (rp Y) ?_))
             refine tZ Y (ty 5 Y (by kernel_rfl) Y (sv Y Y (rp Y) ?_))
             refine tZ Y (ty 6 Y (by kernel_rfl) Y (sv Y Y (rp Y) ?_))
             refine tZ Y (gs 89 Y Y (fun h29 => ?_) (fun h29 => ?_))
             ·have h29n := not_t h29
              refine tn 7 Y (by kernel_rfl) (by kernel_rfl) (by kernel_rfl) Y Y Y (fun _ hs => hs) (tn 8 Y (by kernel_rfl) (by kernel_rfl) (by kernel_rfl) Y Y Y (fun _ hs => hs) (tn 9 Y (by kernel_rfl) (by kernel_rfl) (by kernel_rfl) Y Y Y (fun _ hs => hs) (tn 10 Y (by kernel_rfl) (by kernel_rfl) (by kernel_rfl) Y Y Y (fun _ hs => hs) (tn 11 Y (by kernel_rfl) (by kernel_rfl) (by kernel_rfl) Y Y Y (fun _ hs => hs) (tn 12 Y (by kernel_rfl) (by kernel_rfl) (by kernel_rfl) Y Y Y (fun _ hs => hs) (tn 13 Y (by kernel_rfl) (by kernel_rfl) (by kernel_rfl) Y Y Y (fun _ hs => hs) (tn 14 Y (by kernel_rfl) (by kernel_rfl) (by kernel_rfl) Y Y Y (fun _ hs => hs) (tn 15 Y (by kernel_rfl) (by kernel_rfl) (by kernel_rfl) Y Y Y (fun _ hs => hs) (tn 16 Y (by kernel_rfl) (by kernel_rfl) (by kernel_rfl) Y Y Y (fun _ hs => hs) (tn 17 Y (by kernel_rfl) (by kernel_rfl) (by kernel_rfl) Y Y Y (fun _ hs => hs) (tn 18 Y (by kernel_rfl) (by kernel_rfl) (by kernel_rfl) Y Y Y (fun _ hs => hs) (tn 19 Y (by kernel_rfl) (by kernel_rfl) (by kernel_rfl) Y Y Y (fun _ hs => hs) (tn 20 Y (by kernel_rfl) (by kernel_rfl) (by kernel_rfl) Y Y Y (fun _ hs => hs) (tn 21 Y (by kernel_rfl) (by kernel_rfl) (by kernel_rfl) Y Y Y (fun _ hs => hs) (tn 22 Y (by kernel_rfl) (by kernel_rfl) (by kernel_rfl) Y Y Y (fun _ hs => hs) (ty 23 Y (by kernel_rfl) Y (sv Y Y (rp Y) ?_)))))))))))))))))
              refine tZ Y (tE (by kernel_rfl) (Xt (D_wk [1, 3, 4, 5, 6, 7, 8, 106] Y (C_t Y (Sr (Pe Y (Ct (Xq (Xr (Xr (Xq (Xq (Xr (Xr (Xq (Xr (Rb Y Y ?_)))))))))))))))))
              first | (first | exact ru_n1 (.inl (by assumption)) | exact ru_n1 (.inr (.inl (by first | assumption | (unfold inR; simp; omega)))) | exact ru_n1 (.inr (.inr (.inl (by first | assumption | (unfold inR; simp; omega))))) | exact ru_n1 (.inr (.inr (.inr (by first | assumption | (unfold inR; simp; omega))))); done) | (exact ru_n2 (k := k) (lS x0h) (by first | exact condOk_f1 x0h (by assumption) | exact condOk_f2 x0h (by omega) (by omega) | exact condOk_f3 x0h (by assumption) | exact condOk_f3s x0h v0h (okV_sf (by assumption) (by assumption)) | exact condOk_f3s x0h v0h (okV_f (by omega) (by assumption) (.inr (by assumption)))); done) | (exact ru_n3 a0h (by first | exact actOk_f1 (by assumption) | exact actOk_f2 w0h (by assumption) | exact actOk_f2s w0h (by assumption)); done) | (refine ru_y (by assumption) (by first | assumption | (unfold inR; simp; omega)) (by first | assumption | (unfold inR; simp; omega)) (by first | assumption | (unfold inR; simp; omega)) (fun i h => hc i (by omega)) (fun i h => ha i (by omega)) ?_; first | (rw [cs_cv]; rfl) | exact rv_len (fun i h => ha i (by omega)); done)
             ·have h29n := not_f h29
              refine ty 7 Y (by kernel_rfl) Y (sv Y Y (Db f_147_0 Y Y (q := 0) Y) ?_)
              refine tZ Y (ty 8 Y (by kernel_rfl) Y (sv Y Y (lb 2 o_3 Y Y Y Y) ?_))
              refine tZ Y (ty 9 Y (by kernel_rfl) Y (sv Y Y (rp Y) ?_))
              refine tZ Y (ty 10 Y (by kernel_rfl) Y (sv Y Y (rp Y) ?_))
              refine tZ Y (gkf 93 Y Y (beq_nf pr24 Y) ?_)
              have h30 : ((x0.Kind : Int) == 2) = false := (beq_nf pr24 rfl)
              refine tn 11 Y (by kernel_rfl) (by kernel_rfl) (by kernel_rfl) Y Y Y (fun _ hs => hs) (tn 12 Y (by kernel_rfl) (by kernel_rfl) (by kernel_rfl) Y Y Y (fun _ hs => hs) (ty 13 Y (by kernel_rfl) Y (sv Y Y (rp Y) ?_)))
              refine tZ Y (ty 14 Y (by kernel_rfl) Y (sv Y Y (rp Y) ?_))
              refine tZ Y (tn 15 Y (by kernel_rfl) (by kernel_rfl) (by kernel_rfl) Y Y Y (fun _ hs => hs) (tn 16 Y (by kernel_rfl) (by kernel_rfl) (by kernel_rfl) Y Y Y (fun _ hs => hs) (tn 17 Y (by kernel_rfl) (by kernel_rfl) (by kernel_rfl) Y Y Y (fun _ hs => hs) (tn 18 Y (by kernel_rfl) (by kernel_rfl) (by kernel_rfl) Y Y Y (fun _ hs => hs) (tn 19 Y (by kernel_rfl) (by kernel_rfl) (by kernel_rfl) Y Y Y (fun _ hs => hs) (tn 20 Y (by kernel_rfl) (by kernel_rfl) (by kernel_rfl) Y Y Y (fun _ hs => hs) (tn 21 Y (by kernel_rfl) (by kernel_rfl) (by kernel_rfl) Y Y Y (fun _ hs => hs) (ty 22 Y (by kernel_rfl) Y (sv Y Y (rp Y) ?_)))))))))
              refine tZ Y (ty 23 Y (by kernel_rfl) Y (sv Y Y (rp Y) ?_))
              refine tZ Y (tE (by kernel_rfl) (Xt (D_wk [1, 3, 4, 5, 6, 7, 8, 106] Y (C_f Y (Ck (Xb (Xt (Cr (p1 Y (q1 Y (D_add Y Y Y (r := ((q + 1 : Nat) : Int)) (by omega) (by omega)) (Pe Y (fun ac w' hf hs => ⟨_, ?_, q + 1, ?_, ?_, Y, hf.wk Y, hs⟩))))))))))))
              ·omega
              ·first | assumption | omega | simp
              ·refine forall_step hok ?_; intro y hy; obtain rfl : y = v0 := Option.some.inj (hy.symm.trans v0h); first | exact okV_t2 (by assumption) | exact okV_st (by assumption) (by assumption) (.inl (by omega)) | exact okV_st (by assumption) (by assumption) (.inr (by assumption))
            ·refine tn 3 Y (by kernel_rfl) (by kernel_rfl) (by kernel_rfl) Y Y Y (fun _ hs => hs) (tn 4 Y (by kernel_rfl) (by kernel_rfl) (by kernel_rfl) Y Y Y (fun _ hs => hs) (ty 5 Y (by kernel_rfl) Y (sv Y Y (rp Y) ?_)))
             refine tZ Y (ty 6 Y (by kernel_rfl) Y (sv Y Y (rp Y) ?_))
             refine tZ Y (ty 7 Y (by kernel_rfl) Y (sv Y Y (Db f_147_0 Y Y (q := 0) Y) ?_))
             refine tZ Y (ty 8 Y (by kernel_rfl) Y (sv Y Y (lb 2 o_3 Y Y Y Y) ?_))
             refine tZ Y (ty 9 Y (by kernel_rfl) Y (sv Y Y (rp Y) ?_))
             refine tZ Y (ty 10 Y (by kernel_rfl) Y (sv Y Y (rp Y) ?_))
             refine tZ Y (gkf 93 Y Y (beq_nf pr24 Y) ?_)
             have h33 : ((x0.Kind : Int) == 2) = false := (beq_nf pr24 rfl)
             refine tn 11 Y (by kernel_rfl) (by kernel_rfl) (by kernel_rfl) Y Y Y (fun _ hs => hs) (tn 12 Y (by kernel_rfl) (by kernel_rfl) (by kernel_rfl) Y Y Y (fun _ hs => hs) (ty 13 Y (by kernel_rfl) Y (sv Y Y (rp Y) ?_)))
             refine tZ Y (ty 14 Y (by kernel_rfl) Y (sv Y Y (rp Y) ?_))
             refine tZ Y (tn 15 Y (by kernel_rfl) (by kernel_rfl) (by kernel_rfl) Y Y Y (fun _ hs => hs) (tn 16 Y (by kernel_rfl) (by kernel_rfl) (by kernel_rfl) Y Y Y (fun _ hs => hs) (tn 17 Y (by kernel_rfl) (by kernel_rfl) (by kernel_rfl) Y Y Y (fun _ hs => hs) (tn 18 Y (by kernel_rfl) (by kernel_rfl) (by kernel_rfl) Y Y Y (fun _ hs => hs) (tn 19 Y (by kernel_rfl) (by kernel_rfl) (by kernel_rfl) Y Y Y (fun _ hs => hs) (tn 20 Y (by kernel_rfl) (by kernel_rfl) (by kernel_rfl) Y Y Y (fun _ hs => hs) (tn 21 Y (by kernel_rfl) (by kernel_rfl) (by kernel_rfl) Y Y Y (fun _ hs => hs) (ty 22 Y (by kernel_rfl) Y (sv Y Y (rp Y) ?_)))))))))
             refine tZ Y (ty 23 Y (by kernel_rfl) Y (sv Y Y (rp Y) ?_))
             refine tZ Y (tE (by kernel_rfl) (Xt (D_wk [1, 3, 4, 5, 6, 7, 8, 106] Y (C_f Y (Ck (Xb (Xt (Cr (p1 Y (q1 Y (D_add Y Y Y (r := ((q + 1 : Nat) : Int)) (by omega) (by omega)) (Pe Y (fun ac w' hf hs => ⟨_, ?_, q + 1, ?_, ?_, Y, hf.wk Y, hs⟩))))))))))))
             ·omega
             ·first | assumption | omega | simp
             ·refine forall_step hok ?_; intro y hy; obtain rfl : y = v0 := Option.some.inj (hy.symm.trans v0h); first | exact okV_t2 (by assumption) | exact okV_st (by assumption) (by assumption) (.inl (by omega)) | exact okV_st (by assumption) (by assumption) (.inr (by assumption))
           ·have pr27 := odF h27
            refine Cx (Xx (Xx (Xe (Xb (Xt (Cr (p1 Y (q1 Y (D_add Y Y Y (r := ((k + 1 : Nat) : Int)) (by omega) (by omega)) (Pe Y (fun ac w' hf hs => ⟨_, ?_, k + 1, ?_, ?_, Y, hf.wk Y, hs.pk [3, 4] Y Y⟩))))))))))
            ·omega
            ·first | assumption | omega | simp
            ·refine forall_step hc ?_; first | exact condOk_t x0h (by assumption) (by omega) (by assumption) | exact condOk_ts x0h (by assumption) (by omega) (fun i h => hok i (by omega))
        ·have pr23 := ne_of_beq_false h23
         refine n1 Y (n1 Y (n1 Y (P2 Y Y (Dx (D_wk [1, 3, 4, 5, 65] Y (C_f Y (Sk (Sr (q1 Y (lbw 2 a_96 Y Y Y) (p1 Y (li Y (crl b_152 Y Y Y Y (fun w' hs => (spec_BoundVars (rA hs h_r) hn0 ho)) fun v36 => ?_))))))))))))
         refine Pe Y (Dh ([ov [v36] (sortT (bvars r ((k : Nat) : Int)) : (List ByteArray)), _, _, _]) Y (Sr (q1 Y (lbw 1 a_147 Y Y Y) (li Y (crl b_154 Y Y Y Y (fun w' hs => (spec_CondVars (rA hs hr16) (by first | assumption | omega | (unfold szm at *; split at * <;> omega)) hco)) fun v37 => ?_)))))
         refine Pe Y (Dh ([ov [v37] (sortT (cvars x0) : (List ByteArray)), _, _, _, _]) Y (Sr (Pe Y (Cb (Cl (fun m_ ac w' => ∃ (q : Nat), (q ≤ (sortT (cvars x0)).length) ∧ (∀ i, i < q → ∀ y, (sortT (cvars x0))[i]? = some y → okV r (k : Int) x0 y = true) ∧ m_ = (sortT (cvars x0)).length - q ∧ Fits ac 145 [(1, (pv g7)), (3, v12), (4, (nv k)), (5, (pv g21)), (6, v36), (7, v37), (8, (nv q))] ∧ St w ([ov [v37] (sortT (cvars x0) : (List ByteArray)), ov [v36] (sortT (bvars r ((k : Nat) : Int)) : (List ByteArray)), bx g21 [(iv x0.Kind), (.string x0.Pattern.Rel), u17, (.string x0.Left), (.string x0.Right)], ov [v12] (sortT (bvars r ((r.If.length : Nat) : Int)) : (List ByteArray)), bx g7 [(.string r.Name), (iv r.Priority), u1, u3]]) w') ?_ ?_)))))
         ·refine fun ac w' hf hs => ⟨_, 0, ?_, ?_, Y, hf.wk Y, hs⟩
          ·first | assumption | omega | simp
          ·intro i hi; omega
         ·rintro m_ ac w' ⟨q, hq, hok, rfl, hf, hs⟩
          refine D.use ?_ hf hs
          clear hf hs ac w'
          refine Cq (Sr (P2 Y Y (q1 Y (D_leno 0 s_58 Y Y Y) (Pe Y (Ci _ Y (fun h38 => ?_) (fun h38 => ?_))))))
          ·have pr38 := odT h38
           refine Sk (Cq (Cb (Sr (P3 Y Y Y ?_))))
           obtain ⟨v0, v0h⟩ := sL (l := (sortT (cvars x0))) (i := q) (by omega)
           refine q1 Y (D_ix (l := (sortT (cvars x0))) (j := q) s_58 Y Y Y (fun w' hs => (rO (k := 0) hs Y)) Y (lS v0h)) (q1 Y (lo (α := ByteArray) 0 o_9 Y Y Y v0h) (li Y (cv b_155 Y Y Y Y (fun w' hs => (spec_l1HasText (rO (k := 1) hs Y))) ?_)))
           refine Pe Y (Cq (C_draw mixed [1, 2, 3, 4, 5, 6, 7, 8, 9, 10, 11, 12, 13, 14, 21, 22, 23] (by kernel_rfl) (Tk 0 Y (by kernel_rfl) Y (lbw 2 a_147 Y Y Y) (ty 1 Y (by kernel_rfl) Y (cv b_156 Y Y Y Y (fun w' hs => (spec_IsTest (rA hs hr16) hco)) ?_)))))
           refine tZ Y (ty 2 Y (by kernel_rfl) Y (sv Y Y (rp Y) ?_))
           refine tZ Y (gs 85 Y Y (fun h39 => ?_) (fun h39 => ?_))
           ·refine ty 3 Y (by kernel_rfl) Y (sv Y Y (rp Y) ?_)
            refine tZ Y (ty 4 Y (by kernel_rfl) Y (sv Y Y (rp Y) ?_))
            refine tZ Y (ty 5 Y (by kernel_rfl) Y (sv Y Y (rp Y) ?_))
            refine tZ Y (ty 6 Y (by kernel_rfl) Y (sv Y Y (rp Y) ?_))
            refine tZ Y (gs 89 Y Y (fun h40 => ?_) (fun h40 => ?_))
            ·have h40n := not_t h40
             refine tn 7 Y (by kernel_rfl) (by kernel_rfl) (by kernel_rfl) Y Y Y (fun _ hs => hs) (tn 8 Y (by kernel_rfl) (by kernel_rfl) (by kernel_rfl) Y Y Y (fun _ hs => hs) (tn 9 Y (by kernel_rfl) (by kernel_rfl) (by kernel_rfl) Y Y Y (fun _ hs => hs) (tn 10 Y (by kernel_rfl) (by kernel_rfl) (by kernel_rfl) Y Y Y (fun _ hs => hs) (tn 11 Y (by kernel_rfl) (by kernel_rfl) (by kernel_rfl) Y Y Y (fun _ hs => hs) (tn 12 Y (by kernel_rfl) (by kernel_rfl) (by kernel_rfl) Y Y Y (fun _ hs => hs) (tn 13 Y (by kernel_rfl) (by kernel_rfl) (by kernel_rfl) Y Y Y (fun _ hs => hs) (tn 14 Y (by kernel_rfl) (by kernel_rfl) (by kernel_rfl) Y Y Y (fun _ hs => hs) (tn 15 Y (by kernel_rfl) (by kernel_rfl) (by kernel_rfl) Y Y Y (fun _ hs => hs) (tn 16 Y (by kernel_rfl) (by kernel_rfl) (by kernel_rfl) Y Y Y (fun _ hs => hs) (tn 17 Y (by kernel_rfl) (by kernel_rfl) (by kernel_rfl) Y Y Y (fun _ hs => hs) (tn 18 Y (by kernel_rfl) (by kernel_rfl) (by kernel_rfl) Y Y Y (fun _ hs => hs) (tn 19 Y (by kernel_rfl) (by kernel_rfl) (by kernel_rfl) Y Y Y (fun _ hs => hs) (tn 20 Y (by kernel_rfl) (by kernel_rfl) (by kernel_rfl) Y Y Y (fun _ hs => hs) (tn 21 Y (by kernel_rfl) (by kernel_rfl) (by kernel_rfl) Y Y Y (fun _ hs => hs) (tn 22 Y (by kernel_rfl) (by kernel_rfl) (by kernel_rfl) Y Y Y (fun _ hs => hs) (ty 23 Y (by kernel_rfl) Y (sv Y Y (rp Y) ?_)))))))))))))))))
             refine tZ Y (tE (by kernel_rfl) (Xt (D_wk [1, 3, 4, 5, 6, 7, 8, 106] Y (C_t Y (Sr (Pe Y (Ct (Xq (Xr (Xr (Xq (Xq (Xr (Xr (Xq (Xr (Rb Y Y ?_)))))))))))))))))
             first | (first | exact ru_n1 (.inl (by assumption)) | exact ru_n1 (.inr (.inl (by first | assumption | (unfold inR; simp; omega)))) | exact ru_n1 (.inr (.inr (.inl (by first | assumption | (unfold inR; simp; omega))))) | exact ru_n1 (.inr (.inr (.inr (by first | assumption | (unfold inR; simp; omega))))); done) | (exact ru_n2 (k := k) (lS x0h) (by first | exact condOk_f1 x0h (by assumption) | exact condOk_f2 x0h (by omega) (by omega) | exact condOk_f3 x0h (by assumption) | exact condOk_f3s x0h v0h (okV_sf (by assumption) (by assumption)) | exact condOk_f3s x0h v0h (okV_f (by omega) (by assumption) (.inr (by assumption)))); done) | (exact ru_n3 a0h (by first | exact actOk_f1 (by assumption) | exact actOk_f2 w0h (by assumption) | exact actOk_f2s w0h (by assumption)); done) | (refine ru_y (by assumption) (by first | assumption | (unfold inR; simp; omega)) (by first | assumption | (unfold inR; simp; omega)) (by first | assumption | (unfold inR; simp; omega)) (fun i h => hc i (by omega)) (fun i h => ha i (by omega)) ?_; first | (rw [cs_cv]; rfl) | exact rv_len (fun i h => ha i (by omega)); done)
            ·have h40n := not_f h40
             refine ty 7 Y (by kernel_rfl) Y (sv Y Y (Db f_147_0 Y Y (q := 0) Y) ?_)
             refine tZ Y (ty 8 Y (by kernel_rfl) Y (sv Y Y (lb 2 o_3 Y Y Y Y) ?_))
             refine tZ Y (ty 9 Y (by kernel_rfl) Y (sv Y Y (rp Y) ?_))
             refine tZ Y (ty 10 Y (by kernel_rfl) Y (sv Y Y (rp Y) ?_))
             refine tZ Y (gs 93 Y Y (fun h41 => ?_) (fun h41 => ?_))
             ·have pr41 := eq_of_beq h41
              refine ty 11 Y (by kernel_rfl) Y (sv Y Y (rp Y) ?_)
              refine tZ Y (ty 12 Y (by kernel_rfl) Y (sv Y Y (rp Y) ?_))
              refine tZ Y (ty 13 Y (by kernel_rfl) Y (sv Y Y (rp Y) ?_))
              refine tZ Y (ty 14 Y (by kernel_rfl) Y (sv Y Y (rp Y) ?_))
              refine tZ Y (gkf 97 Y Y h40 (tn 15 Y (by kernel_rfl) (by kernel_rfl) (by kernel_rfl) Y Y Y (fun _ hs => hs) (tn 16 Y (by kernel_rfl) (by kernel_rfl) (by kernel_rfl) Y Y Y (fun _ hs => hs) (tn 17 Y (by kernel_rfl) (by kernel_rfl) (by kernel_rfl) Y Y Y (fun _ hs => hs) (tn 18 Y (by kernel_rfl) (by kernel_rfl) (by kernel_rfl) Y Y Y (fun _ hs => hs) (tn 19 Y (by kernel_rfl) (by kernel_rfl) (by kernel_rfl) Y Y Y (fun _ hs => hs) (tn 20 Y (by kernel_rfl) (by kernel_rfl) (by kernel_rfl) Y Y Y (fun _ hs => hs) (tn 21 Y (by kernel_rfl) (by kernel_rfl) (by kernel_rfl) Y Y Y (fun _ hs => hs) (ty 22 Y (by kernel_rfl) Y (sv Y Y (rp Y) ?_))))))))))
              refine tZ Y (ty 23 Y (by kernel_rfl) Y (sv Y Y (rp Y) ?_))
              refine tZ Y (tE (by kernel_rfl) (Xt (D_wk [1, 3, 4, 5, 6, 7, 8, 106] Y (C_f Y (Ck (Xb (Xt (Cr (p1 Y (q1 Y (D_add Y Y Y (r := ((q + 1 : Nat) : Int)) (by omega) (by omega)) (Pe Y (fun ac w' hf hs => ⟨_, ?_, q + 1, ?_, ?_, Y, hf.wk Y, hs⟩))))))))))))
              ·omega
              ·first | assumption | omega | simp
              ·refine forall_step hok ?_; intro y hy; obtain rfl : y = v0 := Option.some.inj (hy.symm.trans v0h); first | exact okV_t2 (by assumption) | exact okV_st (by assumption) (by assumption) (.inl (by omega)) | exact okV_st (by assumption) (by assumption) (.inr (by assumption))
             ·have pr41 := ne_of_beq_false h41
              refine tn 11 Y (by kernel_rfl) (by kernel_rfl) (by kernel_rfl) Y Y Y (fun _ hs => hs) (tn 12 Y (by kernel_rfl) (by kernel_rfl) (by kernel_rfl) Y Y Y (fun _ hs => hs) (ty 13 Y (by kernel_rfl) Y (sv Y Y (rp Y) ?_)))
              refine tZ Y (ty 14 Y (by kernel_rfl) Y (sv Y Y (rp Y) ?_))
              refine tZ Y (tn 15 Y (by kernel_rfl) (by kernel_rfl) (by kernel_rfl) Y Y Y (fun _ hs => hs) (tn 16 Y (by kernel_rfl) (by kernel_rfl) (by kernel_rfl) Y Y Y (fun _ hs => hs) (tn 17 Y (by kernel_rfl) (by kernel_rfl) (by kernel_rfl) Y Y Y (fun _ hs => hs) (tn 18 Y (by kernel_rfl) (by kernel_rfl) (by kernel_rfl) Y Y Y (fun _ hs => hs) (tn 19 Y (by kernel_rfl) (by kernel_rfl) (by kernel_rfl) Y Y Y (fun _ hs => hs) (tn 20 Y (by kernel_rfl) (by kernel_rfl) (by kernel_rfl) Y Y Y (fun _ hs => hs) (tn 21 Y (by kernel_rfl) (by kernel_rfl) (by kernel_rfl) Y Y Y (fun _ hs => hs) (ty 22 Y (by kernel_rfl) Y (sv Y Y (rp Y) ?_)))))))))
              refine tZ Y (ty 23 Y (by kernel_rfl) Y (sv Y Y (rp Y) ?_))
              refine tZ Y (tE (by kernel_rfl) (Xt (D_wk [1, 3, 4, 5, 6, 7, 8, 106] Y (C_f Y (Ck (Xb (Xt (Cr (p1 Y (q1 Y (D_add Y Y Y (r := ((q + 1 : Nat) : Int)) (by omega) (by omega)) (Pe Y (fun ac w' hf hs => ⟨_, ?_, q + 1, ?_, ?_, Y, hf.wk Y, hs⟩))))))))))))
              ·omega
              ·first | assumption | omega | simp
              ·refine forall_step hok ?_; intro y hy; obtain rfl : y = v0 := Option.some.inj (hy.symm.trans v0h); first | exact okV_t2 (by assumption) | exact okV_st (by assumption) (by assumption) (.inl (by omega)) | exact okV_st (by assumption) (by assumption) (.inr (by assumption))
           ·refine tn 3 Y (by kernel_rfl) (by kernel_rfl) (by kernel_rfl) Y Y Y (fun _ hs => hs) (tn 4 Y (by kernel_rfl) (by kernel_rfl) (by kernel_rfl) Y Y Y (fun _ hs => hs) (ty 5 Y (by kernel_rfl) Y (sv Y Y (rp Y) ?_)))
            refine tZ Y (ty 6 Y (by kernel_rfl) Y (sv Y Y (rp Y) ?_))
            refine tZ Y (ty 7 Y (by kernel_rfl) Y (sv Y Y (Db f_147_0 Y Y (q := 0) Y) ?_))
            refine tZ Y (ty 8 Y (by kernel_rfl) Y (sv Y Y (lb 2 o_3 Y Y Y Y) ?_))
            refine tZ Y (ty 9 Y (by kernel_rfl) Y (sv Y Y (rp Y) ?_))
            refine tZ Y (ty 10 Y (by kernel_rfl) Y (sv Y Y (rp Y) ?_))
            refine tZ Y (gs 93 Y Y (fun h44 => ?_) (fun h44 => ?_))
            ·have pr44 := eq_of_beq h44
             refine ty 11 Y (by kernel_rfl) Y (sv Y Y (rp Y) ?_)
             refine tZ Y (ty 12 Y (by kernel_rfl) Y (sv Y Y (rp Y) ?_))
             refine tZ Y (ty 13 Y (by kernel_rfl) Y (sv Y Y (rp Y) ?_))
             refine tZ Y (ty 14 Y (by kernel_rfl) Y (sv Y Y (rp Y) ?_))
             refine tZ Y (gs 97 Y Y (fun h45 => ?_) (fun h45 => ?_))
             ·have h45n := not_t h45
              refine Tk 15 Y (by kernel_rfl) Y (lbw 4 a_96 Y Y Y) (Tk 16 Y (by kernel_rfl) Y (rp Y) (Tk 17 Y (by kernel_rfl) Y (rp Y) (Tk 18 Y (by kernel_rfl) Y (rp Y) (Tk 19 Y (by kernel_rfl) Y (D_ix (l := (sortT (cvars x0))) (j := q) s_58 Y Y Y (fun w' hs => (rO (k := 0) hs Y)) Y (lS v0h)) (Tk 20 Y (by kernel_rfl) Y (lo (α := ByteArray) 0 o_9 Y Y Y v0h) (ty 21 Y (by kernel_rfl) Y (cv b_157 Y Y Y Y (fun w' hs => (spec_l5Elsewhere (rA hs h_r) hn0 ho)) ?_)))))))
              refine tZ Y (ty 22 Y (by kernel_rfl) Y (sv Y Y (rp Y) ?_))
              refine tZ Y (ty 23 Y (by kernel_rfl) Y (sv Y Y (rp Y) ?_))
              refine tZ Y (tE (by kernel_rfl) (Xt (D_wk [1, 3, 4, 5, 6, 7, 8, 106] Y (Ci _ Y (fun h46 => ?_) (fun h46 => ?_)))))
              ·refine Sr (Pe Y (Ct (Xq (Xr (Xr (Xq (Xq (Xr (Xr (Xq (Xr (Rb Y Y ?_))))))))))))
               first | (first | exact ru_n1 (.inl (by assumption)) | exact ru_n1 (.inr (.inl (by first | assumption | (unfold inR; simp; omega)))) | exact ru_n1 (.inr (.inr (.inl (by first | assumption | (unfold inR; simp; omega))))) | exact ru_n1 (.inr (.inr (.inr (by first | assumption | (unfold inR; simp; omega))))); done) | (exact ru_n2 (k := k) (lS x0h) (by first | exact condOk_f1 x0h (by assumption) | exact condOk_f2 x0h (by omega) (by omega) | exact condOk_f3 x0h (by assumption) | exact condOk_f3s x0h v0h (okV_sf (by assumption) (by assumption)) | exact condOk_f3s x0h v0h (okV_f (by omega) (by assumption) (.inr (by assumption)))); done) | (exact ru_n3 a0h (by first | exact actOk_f1 (by assumption) | exact actOk_f2 w0h (by assumption) | exact actOk_f2s w0h (by assumption)); done) | (refine ru_y (by assumption) (by first | assumption | (unfold inR; simp; omega)) (by first | assumption | (unfold inR; simp; omega)) (by first | assumption | (unfold inR; simp; omega)) (fun i h => hc i (by omega)) (fun i h => ha i (by omega)) ?_; first | (rw [cs_cv]; rfl) | exact rv_len (fun i h => ha i (by omega)); done)
              ·refine Ck (Xb (Xt (Cr (p1 Y (q1 Y (D_add Y Y Y (r := ((q + 1 : Nat) : Int)) (by omega) (by omega)) (Pe Y (fun ac w' hf hs => ⟨_, ?_, q + 1, ?_, ?_, Y, hf.wk Y, hs⟩)))))))
               ·omega
               ·first | assumption | omega | simp
               ·refine forall_step hok ?_; intro y hy; obtain rfl : y = v0 := Option.some.inj (hy.symm.trans v0h); first | exact okV_t2 (by assumption) | exact okV_st (by assumption) (by assumption) (.inl (by omega)) | exact okV_st (by assumption) (by assumption) (.inr (by assumption))
             ·have h45n := not_f h45
              refine tn 15 Y (by kernel_rfl) (by kernel_rfl) (by kernel_rfl) Y Y Y (fun _ hs => hs) (tn 16 Y (by kernel_rfl) (by kernel_rfl) (by kernel_rfl) Y Y Y (fun _ hs => hs) (tn 17 Y (by kernel_rfl) (by kernel_rfl) (by kernel_rfl) Y Y Y (fun _ hs => hs) (tn 18 Y (by kernel_rfl) (by kernel_rfl) (by kernel_rfl) Y Y Y (fun _ hs => hs) (tn 19 Y (by kernel_rfl) (by kernel_rfl) (by kernel_rfl) Y Y Y (fun _ hs => hs) (tn 20 Y (by kernel_rfl) (by kernel_rfl) (by kernel_rfl) Y Y Y (fun _ hs => hs) (tn 21 Y (by kernel_rfl) (by kernel_rfl) (by kernel_rfl) Y Y Y (fun _ hs => hs) (ty 22 Y (by kernel_rfl) Y (sv Y Y (rp Y) ?_))))))))
              refine tZ Y (ty 23 Y (by kernel_rfl) Y (sv Y Y (rp Y) ?_))
              refine tZ Y (tE (by kernel_rfl) (Xt (D_wk [1, 3, 4, 5, 6, 7, 8, 106] Y (C_f Y (Ck (Xb (Xt (Cr (p1 Y (q1 Y (D_add Y Y Y (r := ((q + 1 : Nat) : Int)) (by omega) (by omega)) (Pe Y (fun ac w' hf hs => ⟨_, ?_, q + 1, ?_, ?_, Y, hf.wk Y, hs⟩))))))))))))
              ·omega
              ·first | assumption | omega | simp
              ·refine forall_step hok ?_; intro y hy; obtain rfl : y = v0 := Option.some.inj (hy.symm.trans v0h); first | exact okV_t2 (by assumption) | exact okV_st (by assumption) (by assumption) (.inl (by omega)) | exact okV_st (by assumption) (by assumption) (.inr (by assumption))
            ·have pr44 := ne_of_beq_false h44
             refine tn 11 Y (by kernel_rfl) (by kernel_rfl) (by kernel_rfl) Y Y Y (fun _ hs => hs) (tn 12 Y (by kernel_rfl) (by kernel_rfl) (by kernel_rfl) Y Y Y (fun _ hs => hs) (ty 13 Y (by kernel_rfl) Y (sv Y Y (rp Y) ?_)))
             refine tZ Y (ty 14 Y (by kernel_rfl) Y (sv Y Y (rp Y) ?_))
             refine tZ Y (tn 15 Y (by kernel_rfl) (by kernel_rfl) (by kernel_rfl) Y Y Y (fun _ hs => hs) (tn 16 Y (by kernel_rfl) (by kernel_rfl) (by kernel_rfl) Y Y Y (fun _ hs => hs) (tn 17 Y (by kernel_rfl) (by kernel_rfl) (by kernel_rfl) Y Y Y (fun _ hs => hs) (tn 18 Y (by kernel_rfl) (by kernel_rfl) (by kernel_rfl) Y Y Y (fun _ hs => hs) (tn 19 Y (by kernel_rfl) (by kernel_rfl) (by kernel_rfl) Y Y Y (fun _ hs => hs) (tn 20 Y (by kernel_rfl) (by kernel_rfl) (by kernel_rfl) Y Y Y (fun _ hs => hs) (tn 21 Y (by kernel_rfl) (by kernel_rfl) (by kernel_rfl) Y Y Y (fun _ hs => hs) (ty 22 Y (by kernel_rfl) Y (sv Y Y (rp Y) ?_)))))))))
             refine tZ Y (ty 23 Y (by kernel_rfl) Y (sv Y Y (rp Y) ?_))
             refine tZ Y (tE (by kernel_rfl) (Xt (D_wk [1, 3, 4, 5, 6, 7, 8, 106] Y (C_f Y (Ck (Xb (Xt (Cr (p1 Y (q1 Y (D_add Y Y Y (r := ((q + 1 : Nat) : Int)) (by omega) (by omega)) (Pe Y (fun ac w' hf hs => ⟨_, ?_, q + 1, ?_, ?_, Y, hf.wk Y, hs⟩))))))))))))
             ·omega
             ·first | assumption | omega | simp
             ·refine forall_step hok ?_; intro y hy; obtain rfl : y = v0 := Option.some.inj (hy.symm.trans v0h); first | exact okV_t2 (by assumption) | exact okV_st (by assumption) (by assumption) (.inl (by omega)) | exact okV_st (by assumption) (by assumption) (.inr (by assumption))
          ·have pr38 := odF h38
           refine Cx (Xx (Xx (Xe (Xb (Xt (Cr (p1 Y (q1 Y (D_add Y Y Y (r := ((k + 1 : Nat) : Int)) (by omega) (by omega)) (Pe Y (fun ac w' hf hs => ⟨_, ?_, k + 1, ?_, ?_, Y, hf.wk Y, hs.pk [3, 4] Y Y⟩))))))))))
           ·omega
           ·first | assumption | omega | simp
           ·refine forall_step hc ?_; first | exact condOk_t x0h (by assumption) (by omega) (by assumption) | exact condOk_ts x0h (by assumption) (by omega) (fun i h => hok i (by omega))
      ·have pr13 := odF h13
       refine Cx (Xx (Xx (Xe (Xt (Cq (Sr (Pe Y (Cb (Cl (fun m_ ac w' => ∃ (j : Nat), (j ≤ r.Then.length) ∧ (∀ i, i < j → ∀ a, r.Then[i]? = some a → actOk r a = true) ∧ m_ = r.Then.length - j ∧ Fits ac 145 [(1, (pv g7)), (3, v12), (10, (nv j))] ∧ St w ([ov [v12] (sortT (bvars r ((r.If.length : Nat) : Int)) : (List ByteArray)), bx g7 [(.string r.Name), (iv r.Priority), u1, u3]]) w') ?_ ?_)))))))))
       ·refine fun ac w' hf hs => ⟨_, 0, ?_, ?_, Y, hf.wk Y, hs⟩
        ·first | assumption | omega | simp
        ·intro i hi; omega
       ·rintro m_ ac w' ⟨j, hj, ha, rfl, hf, hs⟩
        refine D.use ?_ hf hs
        clear hf hs ac w'
        refine Cq (Sr (p1 Y (q1 Y (Db f_96_3 Y Y (q := 3) Y) (q1 Y (lb 1 o_94 Y Y Y Y) (q1 Y (Dl s_94 Y Y (rd_sl hu4)) (Pe Y (Ci _ Y (fun h47 => ?_) (fun h47 => ?_))))))))
        ·have pr47 := odT h47
         refine Sk (Cq (Cb (Cq (Sr (q1 Y (Db f_96_3 Y Y (q := 3) Y) (q1 Y (lb 1 o_94 Y Y Y Y) (p1 Y ?_)))))))
         obtain ⟨a0, a0h⟩ := sL (l := r.Then) (i := j) (by omega)
         have haz := act_sz a0h
         have haa := szAct_args a0
         have hvl2 := varsL_len a0.Pattern.Args
         have hsl2 := sortT_len (varsL a0.Pattern.Args)
         have hao := ho.2.2.2 _ (List.mem_of_getElem? a0h)
         obtain ⟨es48, at49, hr50⟩ := rd_elem (n := 3) rfl hu4 a0h
         obtain ⟨u51, rfl, hu52⟩ := open_Action hr50
         have hm53 := rd_max hu52
         have hb54 := sub_Action_Pattern hr50
         refine q1 Y (D_ix (l := r.Then) (j := j) s_94 Y Y Y (fun w' hs => (rA hs hu4)) Y (lS a0h)) (q1 Y (lra a_159 Y Y at49) (li Y (cv b_158 Y Y Y Y (fun w' hs => (spec_IsAction (rA hs hr50) hao)) ?_)))
         refine Pe Y (Ci _ Y (fun h55 => ?_) (fun h55 => ?_))
         ·have h55n := not_t h55
          refine Sr (Pe Y (Ct (Xr (Xq (Xr (Xr (Xq (Xr (Rb Y Y ?_)))))))))
          first | (first | exact ru_n1 (.inl (by assumption)) | exact ru_n1 (.inr (.inl (by first | assumption | (unfold inR; simp; omega)))) | exact ru_n1 (.inr (.inr (.inl (by first | assumption | (unfold inR; simp; omega))))) | exact ru_n1 (.inr (.inr (.inr (by first | assumption | (unfold inR; simp; omega))))); done) | (exact ru_n2 (k := k) (lS x0h) (by first | exact condOk_f1 x0h (by assumption) | exact condOk_f2 x0h (by omega) (by omega) | exact condOk_f3 x0h (by assumption) | exact condOk_f3s x0h v0h (okV_sf (by assumption) (by assumption)) | exact condOk_f3s x0h v0h (okV_f (by omega) (by assumption) (.inr (by assumption)))); done) | (exact ru_n3 a0h (by first | exact actOk_f1 (by assumption) | exact actOk_f2 w0h (by assumption) | exact actOk_f2s w0h (by assumption)); done) | (refine ru_y (by assumption) (by first | assumption | (unfold inR; simp; omega)) (by first | assumption | (unfold inR; simp; omega)) (by first | assumption | (unfold inR; simp; omega)) (fun i h => hc i (by omega)) (fun i h => ha i (by omega)) ?_; first | (rw [cs_cv]; rfl) | exact rv_len (fun i h => ha i (by omega)); done)
         ·have h55n := not_f h55
          refine Sk (Sr (q1 Y (Db f_96_3 Y Y (q := 3) Y) (q1 Y (lb 1 o_94 Y Y Y Y) (p1 Y (q1 Y (D_ix (l := r.Then) (j := j) s_94 Y Y Y (fun w' hs => (rA hs hu4)) Y (lS a0h)) (q1 Y (D_fa f_159_1 Y Y) (q1 Y (lra a_145 Y Y (at_sub (f := 1) (n := 2) at49 Y)) (li Y (crl b_159 Y Y Y Y (fun w' hs => (spec_VarsOf (rA hs hb54) (by first | assumption | omega | (unfold szm at *; split at * <;> omega)) (by first | exact hco.2.1 | exact hao.2))) fun v56 => ?_)))))))))
          refine Pe Y (D_wk [1, 3, 10, 11] Y (Dh ([ov [v56] (sortT (varsL a0.Pattern.Args) : (List ByteArray)), _, _]) Y (Sr (Pe Y (Cb (Cl (fun m_ ac w' => ∃ (p : Nat), (p ≤ (sortT (varsL a0.Pattern.Args)).length) ∧ (∀ i, i < p → ∀ y, (sortT (varsL a0.Pattern.Args))[i]? = some y → hasS (sortT (bvars r (r.If.length : Int))) y = true) ∧ m_ = (sortT (varsL a0.Pattern.Args)).length - p ∧ Fits ac 145 [(1, (pv g7)), (3, v12), (10, (nv j)), (11, v56), (12, (nv p))] ∧ St w ([ov [v56] (sortT (varsL a0.Pattern.Args) : (List ByteArray)), ov [v12] (sortT (bvars r ((r.If.length : Nat) : Int)) : (List ByteArray)), bx g7 [(.string r.Name), (iv r.Priority), u1, u3]]) w') ?_ ?_))))))
          ·refine fun ac w' hf hs => ⟨_, 0, ?_, ?_, Y, hf.wk Y, hs⟩
           ·first | assumption | omega | simp
           ·intro i hi; omega
          ·rintro m_ ac w' ⟨p, hpk, hp, rfl, hf, hs⟩
           refine D.use ?_ hf hs
           clear hf hs ac w'
           refine Cq (Sr (P2 Y Y (q1 Y (D_leno 0 s_58 Y Y Y) (Pe Y (Ci _ Y (fun h57 => ?_) (fun h57 => ?_))))))
           ·have pr57 := odT h57
            refine Sk (Cq (Cb (Sr (P3 Y Y Y ?_))))
            obtain ⟨w0_, w0h⟩ := sL (l := (sortT (varsL a0.Pattern.Args))) (i := p) (by omega)
            refine q1 Y (D_ix (l := (sortT (varsL a0.Pattern.Args))) (j := p) s_58 Y Y Y (fun w' hs => (rO (k := 0) hs Y)) Y (lS w0h)) (q1 Y (lo (α := ByteArray) 0 o_9 Y Y Y w0h) (li Y (cv b_155 Y Y Y Y (fun w' hs => (spec_l1HasText (rO (k := 1) hs Y))) ?_)))
            refine Pe Y (Ci _ Y (fun h58 => ?_) (fun h58 => ?_))
            ·have h58n := not_t h58
             refine Sr (Pe Y (Ct (Xq (Xr (Xr (Xq (Xq (Xr (Xr (Xq (Xr (Rb Y Y ?_))))))))))))
             first | (first | exact ru_n1 (.inl (by assumption)) | exact ru_n1 (.inr (.inl (by first | assumption | (unfold inR; simp; omega)))) | exact ru_n1 (.inr (.inr (.inl (by first | assumption | (unfold inR; simp; omega))))) | exact ru_n1 (.inr (.inr (.inr (by first | assumption | (unfold inR; simp; omega))))); done) | (exact ru_n2 (k := k) (lS x0h) (by first | exact condOk_f1 x0h (by assumption) | exact condOk_f2 x0h (by omega) (by omega) | exact condOk_f3 x0h (by assumption) | exact condOk_f3s x0h v0h (okV_sf (by assumption) (by assumption)) | exact condOk_f3s x0h v0h (okV_f (by omega) (by assumption) (.inr (by assumption)))); done) | (exact ru_n3 a0h (by first | exact actOk_f1 (by assumption) | exact actOk_f2 w0h (by assumption) | exact actOk_f2s w0h (by assumption)); done) | (refine ru_y (by assumption) (by first | assumption | (unfold inR; simp; omega)) (by first | assumption | (unfold inR; simp; omega)) (by first | assumption | (unfold inR; simp; omega)) (fun i h => hc i (by omega)) (fun i h => ha i (by omega)) ?_; first | (rw [cs_cv]; rfl) | exact rv_len (fun i h => ha i (by omega)); done)
            ·have h58n := not_f h58
             refine Ck (Xb (Xt (Cr (p1 Y (q1 Y (D_add Y Y Y (r := ((p + 1 : Nat) : Int)) (by omega) (by omega)) (Pe Y (fun ac w' hf hs => ⟨_, ?_, p + 1, ?_, ?_, Y, hf.wk Y, hs⟩)))))))
             ·omega
             ·first | assumption | omega | simp
             ·refine forall_step hp ?_; intro y hy; obtain rfl : y = w0_ := Option.some.inj (hy.symm.trans w0h); assumption
           ·have pr57 := odF h57
            refine Cx (Xx (Xx (Xe (Xb (Xt (Cr (p1 Y (q1 Y (D_add Y Y Y (r := ((j + 1 : Nat) : Int)) (by omega) (by omega)) (Pe Y (fun ac w' hf hs => ⟨_, ?_, j + 1, ?_, ?_, Y, hf.wk Y, hs.pk [1, 2] Y Y⟩))))))))))
            ·omega
            ·first | assumption | omega | simp
            ·refine forall_step ha ?_; intro y hy; obtain rfl : y = a0 := Option.some.inj (hy.symm.trans a0h); first | exact actOk_t (by assumption) (fun i h => hp i (by omega)) | exact actOk_ts (by assumption) (fun i h => hp i (by omega))
        ·have pr47 := odF h47
         refine Cx (Xx (Xx (Xe (Xt (Sr (q1 Y (lbw 1 a_96 Y Y Y) (li Y (crl b_160 Y Y Y Y (fun w' hs => (spec_RuleVars (rA hs h_r) hn0 ho)) fun v59 => ?_))))))))
         refine q1 Y (D_leno 0 s_58 Y Y Y) (P2 Y Y (Dx (Ct (Rb Y Y ?_))))
         show ((decide (((((sortT (allV r ++ avT r r.Then.length)).length : Nat) : Int) : Int) ≤ 6)) : Bool) = _
         first | (first | exact ru_n1 (.inl (by assumption)) | exact ru_n1 (.inr (.inl (by first | assumption | (unfold inR; simp; omega)))) | exact ru_n1 (.inr (.inr (.inl (by first | assumption | (unfold inR; simp; omega))))) | exact ru_n1 (.inr (.inr (.inr (by first | assumption | (unfold inR; simp; omega))))); done) | (exact ru_n2 (k := k) (lS x0h) (by first | exact condOk_f1 x0h (by assumption) | exact condOk_f2 x0h (by omega) (by omega) | exact condOk_f3 x0h (by assumption) | exact condOk_f3s x0h v0h (okV_sf (by assumption) (by assumption)) | exact condOk_f3s x0h v0h (okV_f (by omega) (by assumption) (.inr (by assumption)))); done) | (exact ru_n3 a0h (by first | exact actOk_f1 (by assumption) | exact actOk_f2 w0h (by assumption) | exact actOk_f2s w0h (by assumption)); done) | (refine ru_y (by assumption) (by first | assumption | (unfold inR; simp; omega)) (by first | assumption | (unfold inR; simp; omega)) (by first | assumption | (unfold inR; simp; omega)) (fun i h => hc i (by omega)) (fun i h => ha i (by omega)) ?_; first | (rw [cs_cv]; rfl) | exact rv_len (fun i h => ha i (by omega)); done)
theorem impl_AreRules {w : World} {v_l : Value} {l : (List Rule)} (h_l : Gd.rd w [v_l] l) (hn : szL szRule l ≤ 1048576) : Calls Tryz.prog 51 [v_l].toArray w (Val w (.bool (areRulesB l))) := by
 have hm1 := rd_max h_l
 unfold szL at hn
 refine enter 27 Tryz.func51 Y Y Y (Sr (Pe Y (Cq (Sr (p1 Y (q1 Y (Dl s_40 Y Y (rd_sl h_l)) (Pe Y (Ci _ Y (fun h2 => ?_) (fun h2 => ?_)))))))))
 ·have pr2 := odT h2
  refine Sr (Pe Y (Ct (Xr (Rb Y Y ?_))))
  first | exact are_n1 (by omega) | exact are_n2 (lS q0h) (areOk_f1 q0h (by assumption)) | exact are_n2 (lS q0h) (areOk_f2 q0h (by omega)) | exact are_y2 (by omega) (fun j h => hr j (by omega)) | exact are_y3 (fun j h => hr j (by omega))
 ·have pr2 := odF h2
  refine Sk (Cq (Sr (p1 Y (q1 Y (Dl s_40 Y Y (rd_sl h_l)) (Pe Y (Cb (Cl (fun m_ ac w' => ∃ (i : Nat), (i ≤ l.length) ∧ (∀ j, j < i → areOk l j = true) ∧ m_ = l.length - i ∧ Fits ac 27 [(0, v_l), (8, v_l), (9, (nv l.length)), (10, (nv i))] ∧ St w ([]) w') ?_ ?_)))))))
  ·refine fun ac w' hf hs => ⟨_, 0, ?_, ?_, Y, hf.wk Y, hs⟩
   ·first | assumption | omega | simp
   ·intro j hj; omega
  ·rintro m_ ac w' ⟨i, hi, hr, rfl, hf, hs⟩
   refine D.use ?_ hf hs
   clear hf hs ac w'
   refine Sr (Pe Y (Cq (Ci _ Y (fun h3 => ?_) (fun h3 => ?_))))
   ·have pr3 := odT h3
    refine Sk (Cq (Cb (Sr (p1 Y ?_))))
    obtain ⟨q0, q0h⟩ := sL (l := l) (i := i) (by omega)
    have hqz := sumC_mem (c := szRule) (List.mem_of_getElem? q0h)
    obtain ⟨es4, at5, hr6⟩ := rd_elem (n := 4) rfl h_l q0h
    obtain ⟨u7, u9, rfl, hu8, hu10⟩ := open_Rule hr6
    have hm11 := rd_max hu8
    have hm12 := rd_max hu10
    refine q1 Y (D_ix (l := l) (j := i) s_40 Y Y Y (fun w' hs => (rA hs h_l)) Y (lS q0h)) (q1 Y (lra a_96 Y Y at5) (li Y (D_alloc y_96 Y Y Y Y fun g13 => ?_)))
    refine p1 Y (li Y (D_stb (vs := [(.string q0.Name), (iv q0.Priority), u7, u9]) (cs' := [(.string q0.Name), (iv q0.Priority), u7, u9]) 0 z_96 Y Y Y Y Y Y (ocons Y (ocons Y (ocons (one_rd hu8) (ocons (one_rd hu10) onil)))) (by simp) Y ?_))
    refine Dx (Dh ([bx g13 [(.string q0.Name), (iv q0.Priority), u7, u9]]) Y (Sr (q1 Y (lbw 0 a_96 Y Y Y) (li Y (cv b_108 Y Y Y Y (fun w' hs => (impl_IsRule (rA hs hr6) (by first | assumption | omega | (unfold szm at *; split at * <;> omega)))) ?_)))))
    refine P2 Y Y (gs 18 Y Y (fun h14 => ?_) (fun h14 => ?_))
    ·have h14n := not_t h14
     refine n1 Y (n1 Y (n1 Y (n1 Y (n1 Y (n1 Y (Pe Y (D_wk [0, 8, 9, 10, 25] Y (D_pkO [] Y (C_t Y (Sr (Pe Y (Ct (Xq (Xr (Xr (Xq (Xr (Rb Y Y ?_))))))))))))))))))
     first | exact are_n1 (by omega) | exact are_n2 (lS q0h) (areOk_f1 q0h (by assumption)) | exact are_n2 (lS q0h) (areOk_f2 q0h (by omega)) | exact are_y2 (by omega) (fun j h => hr j (by omega)) | exact are_y3 (fun j h => hr j (by omega))
    ·have h14n := not_f h14
     refine p1 Y (q1 Y (Db f_96_0 Y Y (q := 0) Y) (q1 Y (lb 0 o_9 Y Y Y Y) (li Y (cv b_109 Y Y Y Y (fun w' hs => (impl_FindRule (rA hs h_l))) ?_))))
     refine P3 Y Y Y (Dx (D_wk [0, 8, 9, 10, 25] Y (D_pkO [] Y (Ci _ Y (fun h15 => ?_) (fun h15 => ?_)))))
     ·have pr15 := bne_iff_ne.1 h15
      refine Sr (Pe Y (Ct (Xq (Xr (Xr (Xq (Xr (Rb Y Y ?_))))))))
      first | exact are_n1 (by omega) | exact are_n2 (lS q0h) (areOk_f1 q0h (by assumption)) | exact are_n2 (lS q0h) (areOk_f2 q0h (by omega)) | exact are_y2 (by omega) (fun j h => hr j (by omega)) | exact are_y3 (fun j h => hr j (by omega))
     ·have pr15 := eq_of_bne_f h15
      refine Ck (Xb (Xt (Cr (q1 Y (D_add Y Y Y (r := ((i + 1 : Nat) : Int)) (by omega) (by omega)) (Pe Y (fun ac w' hf hs => ⟨_, ?_, i + 1, ?_, ?_, Y, hf.wk Y, hs⟩))))))
      ·omega
      ·first | assumption | omega | simp
      ·refine forall_step hr ?_; exact areOk_t q0h (by assumption) (by omega)
   ·have pr3 := odF h3
    refine Cx (Xx (Xx (Xe (Xt (Sr (Pe Y (Ct (Rb Y Y ?_))))))))
    first | exact are_n1 (by omega) | exact are_n2 (lS q0h) (areOk_f1 q0h (by assumption)) | exact are_n2 (lS q0h) (areOk_f2 q0h (by omega)) | exact are_y2 (by omega) (fun j h => hr j (by omega)) | exact are_y3 (fun j h => hr j (by omega))
theorem spec_AreRules {w : World} {v_l : Value} {l : (List Rule)} (h_l : Gd.rd w [v_l] l) (hn : szL szRule l ≤ 1048576) (ho : okL okRule l) : Calls Tryz.prog 42 [v_l].toArray w (Val w (.bool (areRulesB l))) := by
 have hm1 := rd_max h_l
 unfold szL at hn
 refine enter 30 Tryz.func42 Y Y Y (Sr (Pe Y (Cq (Sr (Pe Y (Cb (Cl (fun m_ ac w' => ∃ (i : Nat), (i ≤ l.length) ∧ (∀ j, j < i → areOk l j = true) ∧ m_ = l.length - i ∧ Fits ac 30 [(0, v_l), (3, (nv i))] ∧ St w ([]) w') ?_ ?_)))))))
 ·refine fun ac w' hf hs => ⟨_, 0, ?_, ?_, Y, hf.wk Y, hs⟩
  ·first | assumption | omega | simp
  ·intro j hj; omega
 ·rintro m_ ac w' ⟨i, hi, hr, rfl, hf, hs⟩
  refine D.use ?_ hf hs
  clear hf hs ac w'
  refine Cq (Sr (P2 Y Y (q1 Y (Dl s_40 Y Y (rd_sl h_l)) (Pe Y (Ci _ Y (fun h2 => ?_) (fun h2 => ?_))))))
  ·have pr2 := odT h2
   refine Sk (Cq (Cb (Sr (P2 Y Y ?_))))
   obtain ⟨q0, q0h⟩ := sL (l := l) (i := i) (by omega)
   have hqz := sumC_mem (c := szRule) (List.mem_of_getElem? q0h)
   obtain ⟨es3, at4, hr5⟩ := rd_elem (n := 4) rfl h_l q0h
   obtain ⟨u6, u9, rfl, hu7, hu10⟩ := open_Rule hr5
   have hm11 := rd_max hu7
   have hm12 := rd_max hu10
   refine q1 Y (D_ix (l := l) (j := i) s_40 Y Y Y (fun w' hs => (rA hs h_l)) Y (lS q0h)) (q1 Y (lra a_96 Y Y at4) (li Y (cv b_98 Y Y Y Y (fun w' hs => (spec_IsRule (rA hs hr5) (by first | assumption | omega | (unfold szm at *; split at * <;> omega)) (ho _ (List.mem_of_getElem? q0h)))) ?_)))
   refine P2 Y Y (gs 16 Y Y (fun h13 => ?_) (fun h13 => ?_))
   ·have h13n := not_t h13
    refine n1 Y (n1 Y (n1 Y (n1 Y (n1 Y (n1 Y (n1 Y (n1 Y (n1 Y (Pe Y (D_wk [0, 3, 26] Y (C_t Y (Sr (Pe Y (Ct (Xq (Xr (Xr (Xq ?_))))))))))))))))))
    refine Xr (Rb Y Y ?_)
    first | exact are_n1 (by omega) | exact are_n2 (lS q0h) (areOk_f1 q0h (by assumption)) | exact are_n2 (lS q0h) (areOk_f2 q0h (by omega)) | exact are_y2 (by omega) (fun j h => hr j (by omega)) | exact are_y3 (fun j h => hr j (by omega))
   ·have h13n := not_f h13
    refine P3 Y Y Y (q1 Y (D_ix (l := l) (j := i) s_40 Y Y Y (fun w' hs => (rA hs h_l)) Y (lS q0h)) (q1 Y (D_fa f_96_0 Y Y) (q1 Y (lr o_9 Y Y at4 Y) (li Y (cv b_40 Y Y Y Y (fun w' hs => (spec_FindRule (rA hs h_l))) ?_)))))
    refine P3 Y Y Y (Dx (D_wk [0, 3, 26] Y (Ci _ Y (fun h14 => ?_) (fun h14 => ?_))))
    ·have pr14 := bne_iff_ne.1 h14
     refine Sr (Pe Y (Ct (Xq (Xr (Xr (Xq (Xr (Rb Y Y ?_))))))))
     first | exact are_n1 (by omega) | exact are_n2 (lS q0h) (areOk_f1 q0h (by assumption)) | exact are_n2 (lS q0h) (areOk_f2 q0h (by omega)) | exact are_y2 (by omega) (fun j h => hr j (by omega)) | exact are_y3 (fun j h => hr j (by omega))
    ·have pr14 := eq_of_bne_f h14
     refine Ck (Xb (Xt (Cr (p1 Y (q1 Y (D_add Y Y Y (r := ((i + 1 : Nat) : Int)) (by omega) (by omega)) (Pe Y (fun ac w' hf hs => ⟨_, ?_, i + 1, ?_, ?_, Y, hf.wk Y, hs⟩)))))))
     ·omega
     ·first | assumption | omega | simp
     ·refine forall_step hr ?_; exact areOk_t q0h (by assumption) (by omega)
  ·have pr2 := odF h2
   refine Cx (Xx (Xx (Xe (Xt (Sr (p1 Y (q1 Y (Dl s_40 Y Y (rd_sl h_l)) (P2 Y Y (Dx (Ct (Rb Y Y ?_)))))))))))
   show ((decide ((((l.length : Nat) : Int) : Int) ≤ 6)) : Bool) = _
   first | exact are_n1 (by omega) | exact are_n2 (lS q0h) (areOk_f1 q0h (by assumption)) | exact are_n2 (lS q0h) (areOk_f2 q0h (by omega)) | exact are_y2 (by omega) (fun j h => hr j (by omega)) | exact are_y3 (fun j h => hr j (by omega))
end Go.Sy.Eng3
