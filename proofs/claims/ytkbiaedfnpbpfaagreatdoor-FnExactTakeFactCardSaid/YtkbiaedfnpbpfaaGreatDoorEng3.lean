/-
  Contracts of functions of the program, walked (printed by a program of ours).
  Conditions: those that each theorem states.
-/
import Derived.Test.YtkbiaedfnpbpfaaGreatDoorEng2
set_option linter.unusedVariables false
set_option maxRecDepth 20000
namespace Go.Sy.Eng3
open Go Go.RowKit Go.Proofs Go.Sy
theorem mixed : Tryz.prog.follows .mixedOrders = true := by kernel_rfl
theorem f_96_2 : fieldOff Tryz.prog 96 2 = some 2 := by kernel_rfl
theorem o_93 : oneTy Tryz.prog 93 = true := by kernel_rfl
theorem s_93 : sliceTy Tryz.prog 93 = some (147, 5, 80) := by kernel_rfl
theorem a_147 : aggTy Tryz.prog 147 = some 5 := by kernel_rfl
theorem y_147 : zeroTy Tryz.prog 147 = some (.agg #[(.int .i64 0), (.string ⟨#[]⟩), (.slice none 0 0), (.string ⟨#[]⟩), (.string ⟨#[]⟩)]) := by kernel_rfl
theorem z_147 : sizeTy Tryz.prog 147 = some 5 := by kernel_rfl
theorem f_147_0 : fieldOff Tryz.prog 147 0 = some 0 := by kernel_rfl
theorem o_3 : oneTy Tryz.prog 3 = true := by kernel_rfl
theorem f_147_1 : fieldOff Tryz.prog 147 1 = some 1 := by kernel_rfl
theorem f_145_1 : fieldOff Tryz.prog 145 1 = some 1 := by kernel_rfl
theorem o_58 : oneTy Tryz.prog 58 = true := by kernel_rfl
theorem b_167 : hasBody Tryz.prog 167 = true := by kernel_rfl
theorem s_58 : sliceTy Tryz.prog 58 = some (9, 1, 16) := by kernel_rfl
theorem y_9 : zeroTy Tryz.prog 9 = some (.string ⟨#[]⟩) := by kernel_rfl
theorem b_169 : hasBody Tryz.prog 169 = true := by kernel_rfl
theorem a_145 : aggTy Tryz.prog 145 = some 2 := by kernel_rfl
theorem b_159 : hasBody Tryz.prog 159 = true := by kernel_rfl
theorem o_9 : oneTy Tryz.prog 9 = true := by kernel_rfl
theorem b_193 : hasBody Tryz.prog 193 = true := by kernel_rfl
theorem b_201 : hasBody Tryz.prog 201 = true := by kernel_rfl
theorem b_168 : hasBody Tryz.prog 168 = true := by kernel_rfl
theorem f_96_3 : fieldOff Tryz.prog 96 3 = some 3 := by kernel_rfl
theorem o_94 : oneTy Tryz.prog 94 = true := by kernel_rfl
theorem s_94 : sliceTy Tryz.prog 94 = some (159, 3, 48) := by kernel_rfl
theorem a_159 : aggTy Tryz.prog 159 = some 3 := by kernel_rfl
theorem y_159 : zeroTy Tryz.prog 159 = some (.agg #[(.int .i64 0), (.string ⟨#[]⟩), (.slice none 0 0)]) := by kernel_rfl
theorem z_159 : sizeTy Tryz.prog 159 = some 3 := by kernel_rfl
theorem f_159_1 : fieldOff Tryz.prog 159 1 = some 1 := by kernel_rfl
theorem b_154 : hasBody Tryz.prog 154 = true := by kernel_rfl
theorem b_155 : hasBody Tryz.prog 155 = true := by kernel_rfl
theorem a_96 : aggTy Tryz.prog 96 = some 4 := by kernel_rfl
theorem b_165 : hasBody Tryz.prog 165 = true := by kernel_rfl
theorem b_202 : hasBody Tryz.prog 202 = true := by kernel_rfl
theorem s_40 : sliceTy Tryz.prog 40 = some (96, 4, 72) := by kernel_rfl
theorem y_96 : zeroTy Tryz.prog 96 = some (.agg #[(.string ⟨#[]⟩), (.int .i64 0), (.slice none 0 0), (.slice none 0 0)]) := by kernel_rfl
theorem z_96 : sizeTy Tryz.prog 96 = some 4 := by kernel_rfl
theorem f_96_0 : fieldOff Tryz.prog 96 0 = some 0 := by kernel_rfl
theorem b_147 : hasBody Tryz.prog 147 = true := by kernel_rfl
theorem f_96_1 : fieldOff Tryz.prog 96 1 = some 1 := by kernel_rfl
theorem b_163 : hasBody Tryz.prog 163 = true := by kernel_rfl
theorem b_164 : hasBody Tryz.prog 164 = true := by kernel_rfl
theorem b_166 : hasBody Tryz.prog 166 = true := by kernel_rfl
theorem b_170 : hasBody Tryz.prog 170 = true := by kernel_rfl
theorem b_145 : hasBody Tryz.prog 145 = true := by kernel_rfl
theorem b_99 : hasBody Tryz.prog 99 = true := by kernel_rfl
theorem b_152 : hasBody Tryz.prog 152 = true := by kernel_rfl
theorem b_153 : hasBody Tryz.prog 153 = true := by kernel_rfl
theorem b_156 : hasBody Tryz.prog 156 = true := by kernel_rfl
theorem b_157 : hasBody Tryz.prog 157 = true := by kernel_rfl
theorem b_158 : hasBody Tryz.prog 158 = true := by kernel_rfl
theorem b_160 : hasBody Tryz.prog 160 = true := by kernel_rfl
theorem b_108 : hasBody Tryz.prog 108 = true := by kernel_rfl
theorem b_109 : hasBody Tryz.prog 109 = true := by kernel_rfl
theorem b_98 : hasBody Tryz.prog 98 = true := by kernel_rfl
theorem b_40 : hasBody Tryz.prog 40 = true := by kernel_rfl
open Go.Sy.Bel1 Go.Sy.Ev1 Go.Sy.Ev2 Go.Sy.Eng1 Go.Sy.Eng2
theorem impl_BoundVars (w : World) (c_r : List Value) (r : Rule) (n : Int) (h_r : Gd.rd w c_r r) (hn : szRule r ≤ 1048576) : Calls Tryz.prog 165 [(.agg c_r.toArray), (.int .i64 n)].toArray w (Res w (sortT (bvars r n) : List ByteArray)) := by
 obtain ⟨u1, u3, rfl, hu2, hu4⟩ := open_Rule h_r
 have hm5 := rd_max hu2
 have hm6 := rd_max hu4
 unfold szRule szL at hn
 refine enter 33 Tryz.func165 rfl rfl rfl (Sr (li rfl (D_box rfl rfl rfl rfl rfl fun g7 => ?_)))
 refine Pe rfl (Dh ([bx g7 [(.string r.Name), (.int .i64 r.Priority), u1, u3]]) rfl (Sr (Pe rfl (Cq (Sr (q1 rfl (Db f_96_2 rfl rfl (q := 2) rfl) (q1 rfl (lb 0 o_93 rfl rfl rfl rfl) (q1 rfl (Dl s_93 rfl rfl (rd_sl hu2)) (Pe rfl (Cb (Cl (fun m_ ac w' => ∃ (k : Nat), ∃ (v : Value), (k ≤ r.If.length) ∧ m_ = r.If.length - k ∧ Fits ac 33 [(1, (.int .i64 n)), (5, v), (9, u1), (10, (.int .i64 ((r.If.length : Nat) : Int))), (11, (.int .i64 ((k : Nat) : Int)))] ∧ St w ([ov [v] (bwT r n k : (List ByteArray)), bx g7 [(.string r.Name), (.int .i64 r.Priority), u1, u3]]) w') ?_ ?_)))))))))))
 ·refine D_nil (α := ByteArray) (D_eq 0 rfl (show ([] : (List ByteArray)) = bwT r n 0 from by exact bw_zero r n) (fun ac w' hf hs => ⟨_, 0, (.slice none 0 0), ?_, rfl, hf.weak ⟨rfl, rfl, rfl, rfl, rfl, trivial⟩, hs⟩))
  ·first | assumption | omega | simp
 ·rintro m_ ac w' ⟨k, v, hk, rfl, hf, hs⟩
  refine D.use ?_ hf hs
  clear hf hs ac w'
  have hcl := bwT_len r n k
  refine Sr (Pe rfl (Dh ([ov [v] (bwT r n k : (List ByteArray)), bx g7 [(.string r.Name), (.int .i64 r.Priority), u1, u3]]) rfl (Cq (Ci _ rfl (fun h8 => ?_) (fun h8 => ?_)))))
  ·have pr8 : (((k : Nat) : Int) : Int) < ((r.If.length : Nat) : Int) := odT h8
   refine Sk (Cq (Cb (Sr (p1 rfl ?_))))
   obtain ⟨x0, x0h⟩ := sL (l := r.If) (i := k) (by omega)
   have hcz := cond_sz x0h
   have hca := szCond_args x0
   have hvl := varsL_len x0.Pattern.Args
   have hsl := sortT_len (varsL x0.Pattern.Args)
   have hcl0 := cvars_len x0
   have hscl := sortT_len (cvars x0)
   obtain ⟨es9, at10, hr11⟩ := rd_elem (n := 5) rfl hu2 x0h
   obtain ⟨u12, rfl, hu13⟩ := open_Cond hr11
   have hm14 := rd_max hu13
   have hb15 := sub_Cond_Pattern hr11
   refine q1 rfl (D_ix (l := r.If) (j := k) s_93 rfl rfl rfl (fun w' hs => (rA hs hu2)) rfl (lS x0h)) (q1 rfl (lra a_147 rfl rfl at10) (li rfl (D_alloc y_147 rfl rfl rfl rfl fun g16 => ?_)))
   refine p1 rfl (li rfl (D_stb (vs := [(.int .i64 x0.Kind), (.string x0.Pattern.Rel), u12, (.string x0.Left), (.string x0.Right)]) (cs' := [(.int .i64 x0.Kind), (.string x0.Pattern.Rel), u12, (.string x0.Left), (.string x0.Right)]) 0 z_147 rfl rfl rfl rfl rfl rfl (ocons rfl (ocons rfl (ocons (one_rd hu13) (ocons rfl (ocons rfl onil))))) (by simp) rfl ?_))
   refine Dx (Dh ([bx g16 [(.int .i64 x0.Kind), (.string x0.Pattern.Rel), u12, (.string x0.Left), (.string x0.Right)], ov [v] (bwT r n k : (List ByteArray)), bx g7 [(.string r.Name), (.int .i64 r.Priority), u1, u3]]) rfl (Sr (P3 rfl rfl rfl (p1 rfl (gs 19 rfl rfl (fun h17 => ?_) (fun h17 => ?_))))))
   ·have pr17 : (((k : Nat) : Int) : Int) < n := odT h17
    refine q1 rfl (Db f_147_0 rfl rfl (q := 0) rfl) (q1 rfl (lb 0 o_3 rfl rfl rfl rfl) (P2 rfl rfl (Dx (Ci _ rfl (fun h18 => ?_) (fun h18 => ?_)))))
    ·have pr18 : (x0.Kind : Int) = 1 := eq_of_beq h18
     refine Cr (p1 rfl (q1 rfl (Db f_147_1 rfl rfl (q := 1) rfl) (q1 rfl (Db f_145_1 rfl rfl (q := 2) rfl) (q1 rfl (lb 0 o_58 rfl rfl rfl rfl) (li rfl (crl b_167 rfl rfl rfl rfl (fun w' hs => (impl_varsAmong w' u12 x0.Pattern.Args (rA hs hu13) (by first | assumption | omega | (unfold szm at *; split at * <;> omega)))) fun v19 => ?_))))))
     refine D_pk (H' := [ov [v] (bwT r n k : (List ByteArray)), ov [v19] (varsL x0.Pattern.Args : (List ByteArray)), bx g16 [(.int .i64 x0.Kind), (.string x0.Pattern.Rel), u12, (.string x0.Left), (.string x0.Right)], bx g7 [(.string r.Name), (.int .i64 r.Priority), u1, u3]]) [2, 0, 1, 3] rfl rfl (li rfl (D_apl (α := ByteArray) (ys := (varsL x0.Pattern.Args)) s_58 y_9 rfl rfl rfl rfl rfl rfl (fun w' hs => (rO (k := 1) hs rfl)) (by first | omega | (simp; omega)) (by first | omega | (simp; omega)) fun v20 => ?_))
     refine p1 rfl (De (Xb (Xt (Dw [(1, (.int .i64 n)), (5, v20), (9, u1), (10, (.int .i64 ((r.If.length : Nat) : Int))), (11, (.int .i64 ((k : Nat) : Int)))] ⟨rfl, rfl, rfl, rfl, rfl, trivial⟩ (Ds (H' := [ov [v20] ((bwT r n k) ++ (varsL x0.Pattern.Args) : (List ByteArray)), bx g7 [(.string r.Name), (.int .i64 r.Priority), u1, u3]]) [true, false, false, true] rfl (Cr (q1 rfl (D_add rfl rfl rfl (r := ((k + 1 : Nat) : Int)) (by omega) (by omega)) (Pe rfl (D_eq 0 rfl (show ((bwT r n k) ++ (varsL x0.Pattern.Args) : (List ByteArray)) = bwT r n (k + 1) from by first | exact bwT_t x0h (by omega) (by omega) | exact bwT_f x0h (.inl (by omega)) | exact bwT_f x0h (.inr (by omega))) (fun ac w' hf hs => ⟨_, ?_, k + 1, v20, ?_, rfl, hf.weak ⟨rfl, rfl, rfl, rfl, rfl, trivial⟩, hs⟩))))))))))
     ·omega
     ·first | assumption | omega | simp
    ·have pr18 : (x0.Kind : Int) ≠ 1 := ne_of_beq_false h18
     refine Ck (Xb (Xt (Cr (q1 rfl (D_add rfl rfl rfl (r := ((k + 1 : Nat) : Int)) (by omega) (by omega)) (Pe rfl (D_eq 1 rfl (show (bwT r n k : (List ByteArray)) = bwT r n (k + 1) from by first | exact bwT_t x0h (by omega) (by omega) | exact bwT_f x0h (.inl (by omega)) | exact bwT_f x0h (.inr (by omega))) (fun ac w' hf hs => ⟨_, ?_, k + 1, v, ?_, rfl, hf.weak ⟨rfl, rfl, rfl, rfl, rfl, trivial⟩, hs.pk [1, 2] rfl rfl⟩)))))))
     ·omega
     ·first | assumption | omega | simp
   ·have pr17 : ¬ (((k : Nat) : Int) : Int) < n := odF h17
    refine n1 rfl (n1 rfl (n1 rfl (Pe rfl (C_f rfl (Ck (Xb (Xt (Cr (q1 rfl (D_add rfl rfl rfl (r := ((k + 1 : Nat) : Int)) (by omega) (by omega)) (Pe rfl (D_eq 1 rfl (show (bwT r n k : (List ByteArray)) = bwT r n (k + 1) from by first | exact bwT_t x0h (by omega) (by omega) | exact bwT_f x0h (.inl (by omega)) | exact bwT_f x0h (.inr (by omega))) (fun ac w' hf hs => ⟨_, ?_, k + 1, v, ?_, rfl, hf.weak ⟨rfl, rfl, rfl, rfl, rfl, trivial⟩, hs.pk [1, 2] rfl rfl⟩))))))))))))
    ·omega
    ·first | assumption | omega | simp
  ·have pr8 : ¬ (((k : Nat) : Int) : Int) < ((r.If.length : Nat) : Int) := odF h8
   refine Cx (Xx (Xx (Xe (Xt (Sr (p1 rfl (li rfl (crl b_169 rfl rfl rfl rfl (fun w' hs => (impl_SortedTexts w' v (bwT r n k) (rO (k := 0) hs rfl) (by first | assumption | omega | (unfold szm at *; split at * <;> omega)))) fun v21 => ?_))))))))
   refine Pe rfl (Ct (R_1 rfl rfl fun w' hs => res_of (k := 0) hs rfl ?_))
   show sortT (bwT r n k) = sortT (bvars r n)
   rw [bwT_done (by omega) (by omega)]
theorem spec_BoundVars (w : World) (c_r : List Value) (r : Rule) (n : Int) (h_r : Gd.rd w c_r r) (hn : szRule r ≤ 1048576) (ho : okRule r) : Calls Tryz.prog 152 [(.agg c_r.toArray), (.int .i64 n)].toArray w (Res w (sortT (bvars r n) : List ByteArray)) := by
 obtain ⟨u1, u3, rfl, hu2, hu4⟩ := open_Rule h_r
 have hm5 := rd_max hu2
 have hm6 := rd_max hu4
 unfold szRule szL at hn
 refine enter 49 Tryz.func152 rfl rfl rfl (Sr (li rfl (D_box rfl rfl rfl rfl rfl fun g7 => ?_)))
 refine Pe rfl (Dh ([bx g7 [(.string r.Name), (.int .i64 r.Priority), u1, u3]]) rfl (Sr (li rfl (D_bs0 (α := ByteArray) s_58 rfl rfl rfl fun v8 => ?_))))
 refine Pe rfl (Dh ([ov [v8] ([] : (List ByteArray)), bx g7 [(.string r.Name), (.int .i64 r.Priority), u1, u3]]) rfl (Cq (Sr (Pe rfl (Cb (Cl (fun m_ ac w' => ∃ (i : Nat), ∃ (v : Value), (i ≤ r.If.length) ∧ (i = 0 ∨ (i : Int) ≤ n) ∧ m_ = r.If.length - i ∧ Fits ac 49 [(1, (.int .i64 n)), (2, (.pointer (some ⟨g7, 0, none⟩))), (5, v), (6, (.int .i64 ((i : Nat) : Int)))] ∧ St w ([ov [v] (sortT (bvT r i) : (List ByteArray)), bx g7 [(.string r.Name), (.int .i64 r.Priority), u1, u3]]) w') ?_ ?_))))))
 ·refine D_eq 0 rfl (show ([] : (List ByteArray)) = sortT (bvT r 0) from by exact bvS_zero r) (fun ac w' hf hs => ⟨_, 0, v8, ?_, ?_, rfl, hf.weak ⟨rfl, rfl, rfl, rfl, trivial⟩, hs⟩)
  ·first | assumption | omega | simp
  ·exact .inl rfl
 ·rintro m_ ac w' ⟨i, v, hi, hin, rfl, hf, hs⟩
  refine D.use ?_ hf hs
  clear hf hs ac w'
  have hcl := bvT_len r i
  have hcs := sortT_len (bvT r i)
  refine Cq (Sr (p1 rfl (q1 rfl (Db f_96_2 rfl rfl (q := 2) rfl) (q1 rfl (lb 1 o_93 rfl rfl rfl rfl) (q1 rfl (Dl s_93 rfl rfl (rd_sl hu2)) (P2 rfl rfl (gs 15 rfl rfl (fun h9 => ?_) (fun h9 => ?_))))))))
  ·have pr9 : (((i : Nat) : Int) : Int) < ((r.If.length : Nat) : Int) := odT h9
   refine P3 rfl rfl rfl (Pe rfl (Dh ([ov [v] (sortT (bvT r i) : (List ByteArray)), bx g7 [(.string r.Name), (.int .i64 r.Priority), u1, u3]]) rfl (Ci _ rfl (fun h10 => ?_) (fun h10 => ?_))))
   ·have pr10 : (((i : Nat) : Int) : Int) < n := odT h10
    refine Sk (Cq (Cb (Sr (q1 rfl (Db f_96_2 rfl rfl (q := 2) rfl) (q1 rfl (lb 1 o_93 rfl rfl rfl rfl) (p1 rfl ?_))))))
    obtain ⟨x0, x0h⟩ := sL (l := r.If) (i := i) (by omega)
    have hcz := cond_sz x0h
    have hca := szCond_args x0
    have hvl := varsL_len x0.Pattern.Args
    have hsl := sortT_len (varsL x0.Pattern.Args)
    have hcl0 := cvars_len x0
    have hscl := sortT_len (cvars x0)
    have hco := ho.2.2.1 _ (List.mem_of_getElem? x0h)
    obtain ⟨es11, at12, hr13⟩ := rd_elem (n := 5) rfl hu2 x0h
    obtain ⟨u14, rfl, hu15⟩ := open_Cond hr13
    have hm16 := rd_max hu15
    have hb17 := sub_Cond_Pattern hr13
    refine q1 rfl (D_ix (l := r.If) (j := i) s_93 rfl rfl rfl (fun w' hs => (rA hs hu2)) rfl (lS x0h)) (q1 rfl (D_fa f_147_0 rfl rfl) (q1 rfl (lr o_3 rfl rfl at12 rfl) (Pe rfl (Dw [(1, (.int .i64 n)), (2, (.pointer (some ⟨g7, 0, none⟩))), (5, v), (6, (.int .i64 ((i : Nat) : Int))), (28, (.bool ((x0.Kind : Int) == 1)))] ⟨rfl, rfl, rfl, rfl, rfl, trivial⟩ (Ci _ rfl (fun h18 => ?_) (fun h18 => ?_))))))
    ·have pr18 : (x0.Kind : Int) = 1 := eq_of_beq h18
     refine Sr (q1 rfl (Db f_96_2 rfl rfl (q := 2) rfl) (q1 rfl (lb 1 o_93 rfl rfl rfl rfl) (p1 rfl (q1 rfl (D_ix (l := r.If) (j := i) s_93 rfl rfl rfl (fun w' hs => (rA hs hu2)) rfl (lS x0h)) (q1 rfl (D_fa f_147_1 rfl rfl) (q1 rfl (lra a_145 rfl rfl (at_sub (f := 1) (n := 2) at12 rfl)) (li rfl (crl b_159 rfl rfl rfl rfl (fun w' hs => (spec_VarsOf w' [(.string x0.Pattern.Rel), u14] x0.Pattern (rA hs hb17) (by first | assumption | omega | (unfold szm at *; split at * <;> omega)) (by first | exact hco.2.1 | exact hao.2))) fun v19 => ?_))))))))
     refine Pe rfl (Dh ([ov [v19] (sortT (varsL x0.Pattern.Args) : (List ByteArray)), ov [v] (sortT (bvT r i) : (List ByteArray)), bx g7 [(.string r.Name), (.int .i64 r.Priority), u1, u3]]) rfl (Sr (Pe rfl (Cb (Cl (fun m_ ac w' => ∃ (q : Nat), ∃ (v2 : Value), (q ≤ (sortT (varsL x0.Pattern.Args)).length) ∧ m_ = (sortT (varsL x0.Pattern.Args)).length - q ∧ Fits ac 49 [(1, (.int .i64 n)), (2, (.pointer (some ⟨g7, 0, none⟩))), (5, v2), (6, (.int .i64 ((i : Nat) : Int))), (7, v19), (8, (.int .i64 ((q : Nat) : Int)))] ∧ St w ([ov [v19] (sortT (varsL x0.Pattern.Args) : (List ByteArray)), ov [v2] (((sortT (varsL x0.Pattern.Args)).take q).foldl putS (sortT (bvT r i)) : (List ByteArray)), bx g7 [(.string r.Name), (.int .i64 r.Priority), u1, u3]]) w') ?_ ?_)))))
     ·refine D_eq 1 rfl (show (sortT (bvT r i) : (List ByteArray)) = ((sortT (varsL x0.Pattern.Args)).take 0).foldl putS (sortT (bvT r i)) from by rfl) (fun ac w' hf hs => ⟨_, 0, v, ?_, rfl, hf.weak ⟨rfl, rfl, rfl, rfl, rfl, rfl, trivial⟩, hs⟩)
      ·first | assumption | omega | simp
     ·rintro m_ ac w' ⟨q, v2, hq, rfl, hf, hs⟩
      refine D.use ?_ hf hs
      clear hf hs ac w'
      have hfl := foldT_len (sortT (varsL x0.Pattern.Args)) (sortT (bvT r i)) q
      refine Cq (Sr (P2 rfl rfl (q1 rfl (D_leno 0 s_58 rfl rfl rfl) (Pe rfl (Dh ([ov [v19] (sortT (varsL x0.Pattern.Args) : (List ByteArray)), ov [v2] (((sortT (varsL x0.Pattern.Args)).take q).foldl putS (sortT (bvT r i)) : (List ByteArray)), bx g7 [(.string r.Name), (.int .i64 r.Priority), u1, u3]]) rfl (Ci _ rfl (fun h20 => ?_) (fun h20 => ?_)))))))
      ·have pr20 : (((q : Nat) : Int) : Int) < (((sortT (varsL x0.Pattern.Args)).length : Nat) : Int) := odT h20
       refine Sk (Cq (Cb (Cr (P3 rfl rfl rfl ?_))))
       obtain ⟨y0, y0h⟩ := sL (l := (sortT (varsL x0.Pattern.Args))) (i := q) (by omega)
       refine q1 rfl (D_ix (l := (sortT (varsL x0.Pattern.Args))) (j := q) s_58 rfl rfl rfl (fun w' hs => (rO (k := 0) hs rfl)) rfl (lS y0h)) (q1 rfl (lo (α := ByteArray) 0 o_9 rfl rfl rfl y0h) (li rfl (crl b_193 rfl rfl rfl rfl (fun w' hs => (spec_l1Put w' v2 (((sortT (varsL x0.Pattern.Args)).take q).foldl putS (sortT (bvT r i))) y0 (rO (k := 1) hs rfl) (by first | assumption | omega | (unfold szm at *; split at * <;> omega)))) fun v21 => ?_)))
       refine p1 rfl (De (Xb (Xt (Dh ([ov [v21] (putS (((sortT (varsL x0.Pattern.Args)).take q).foldl putS (sortT (bvT r i))) y0 : (List ByteArray)), ov [v19] (sortT (varsL x0.Pattern.Args) : (List ByteArray)), ov [v2] (((sortT (varsL x0.Pattern.Args)).take q).foldl putS (sortT (bvT r i)) : (List ByteArray)), bx g7 [(.string r.Name), (.int .i64 r.Priority), u1, u3]]) rfl (Cr (p1 rfl (q1 rfl (D_add rfl rfl rfl (r := ((q + 1 : Nat) : Int)) (by omega) (by omega)) (Pe rfl (D_eq 0 rfl (show (putS (((sortT (varsL x0.Pattern.Args)).take q).foldl putS (sortT (bvT r i))) y0 : (List ByteArray)) = ((sortT (varsL x0.Pattern.Args)).take (q + 1)).foldl putS (sortT (bvT r i)) from by exact foldT_step y0h) (fun ac w' hf hs => ⟨_, ?_, q + 1, v21, ?_, rfl, hf.weak ⟨rfl, rfl, rfl, rfl, rfl, rfl, trivial⟩, hs.pk [1, 0, 3] rfl rfl⟩))))))))))
       ·omega
       ·first | assumption | omega | simp
      ·have pr20 : ¬ (((q : Nat) : Int) : Int) < (((sortT (varsL x0.Pattern.Args)).length : Nat) : Int) := odF h20
       refine Cx (Xx (Xx (Xe (Xb (Xt (Cr (p1 rfl (q1 rfl (D_add rfl rfl rfl (r := ((i + 1 : Nat) : Int)) (by omega) (by omega)) (Pe rfl (D_eq 1 rfl (show (((sortT (varsL x0.Pattern.Args)).take q).foldl putS (sortT (bvT r i)) : (List ByteArray)) = sortT (bvT r (i + 1)) from by first | exact bvS_t x0h (by omega) (by omega) | exact bvS_f x0h (by omega)) (fun ac w' hf hs => ⟨_, ?_, i + 1, v2, ?_, ?_, rfl, hf.weak ⟨rfl, rfl, rfl, rfl, trivial⟩, hs.pk [1, 2] rfl rfl⟩)))))))))))
       ·omega
       ·first | assumption | omega | simp
       ·omega
    ·have pr18 : (x0.Kind : Int) ≠ 1 := ne_of_beq_false h18
     refine Ck (Xb (Xt (Cr (p1 rfl (q1 rfl (D_add rfl rfl rfl (r := ((i + 1 : Nat) : Int)) (by omega) (by omega)) (Pe rfl (D_eq 0 rfl (show (sortT (bvT r i) : (List ByteArray)) = sortT (bvT r (i + 1)) from by first | exact bvS_t x0h (by omega) (by omega) | exact bvS_f x0h (by omega)) (fun ac w' hf hs => ⟨_, ?_, i + 1, v, ?_, ?_, rfl, hf.weak ⟨rfl, rfl, rfl, rfl, trivial⟩, hs⟩))))))))
     ·omega
     ·first | assumption | omega | simp
     ·omega
   ·have pr10 : ¬ (((i : Nat) : Int) : Int) < n := odF h10
    refine Cx (Xx (Xx (Xe (Xt (Sr (P2 rfl rfl (Dx (Ct (R_1 rfl rfl fun w' hs => res_of (k := 0) hs rfl ?_)))))))))
    show sortT (bvT r i) = sortT (bvars r n)
    exact bvS_end (by omega) (by omega)
  ·have pr9 : ¬ (((i : Nat) : Int) : Int) < ((r.If.length : Nat) : Int) := odF h9
   refine n1 rfl (n1 rfl (n1 rfl (Pe rfl (Dh ([ov [v] (sortT (bvT r i) : (List ByteArray)), bx g7 [(.string r.Name), (.int .i64 r.Priority), u1, u3]]) rfl (C_f rfl (Cx (Xx (Xx (Xe (Xt (Sr (P2 rfl rfl (Dx (Ct (R_1 rfl rfl fun w' hs => res_of (k := 0) hs rfl ?_)))))))))))))))
   show sortT (bvT r i) = sortT (bvars r n)
   exact bvS_end (by omega) (by omega)
theorem impl_condVarsOf (w : World) (v_l : Value) (l : (List Cond)) (h_l : Gd.rd w [v_l] l) (hn : szL szCond l ≤ 1048576) : Calls Tryz.prog 170 [v_l].toArray w (Res w (csT l l.length : List ByteArray)) := by
 have hm1 := rd_max h_l
 unfold szL at hn
 refine enter 18 Tryz.func170 rfl rfl rfl (Sr (Pe rfl (Sr (Pe rfl (Cq (Sr (p1 rfl (q1 rfl (Dl s_93 rfl rfl (rd_sl h_l)) (Pe rfl (Cb (Cl (fun m_ ac w' => ∃ (k : Nat), ∃ (v : Value), (k ≤ l.length) ∧ m_ = l.length - k ∧ Fits ac 18 [(3, v), (6, v_l), (7, (.int .i64 ((l.length : Nat) : Int))), (8, (.int .i64 ((k : Nat) : Int)))] ∧ St w ([ov [v] (csT l k : (List ByteArray))]) w') ?_ ?_)))))))))))
 ·refine D_nil (α := ByteArray) (D_eq 0 rfl (show ([] : (List ByteArray)) = csT l 0 from by rfl) (fun ac w' hf hs => ⟨_, 0, (.slice none 0 0), ?_, rfl, hf.weak ⟨rfl, rfl, rfl, rfl, trivial⟩, hs⟩))
  ·first | assumption | omega | simp
 ·rintro m_ ac w' ⟨k, v, hk, rfl, hf, hs⟩
  refine D.use ?_ hf hs
  clear hf hs ac w'
  have hcl := csT_len l k
  refine Sr (Pe rfl (Dh ([ov [v] (csT l k : (List ByteArray))]) rfl (Cq (Ci _ rfl (fun h2 => ?_) (fun h2 => ?_)))))
  ·have pr2 : (((k : Nat) : Int) : Int) < ((l.length : Nat) : Int) := odT h2
   refine Sk (Cq (Cb (Sr ?_)))
   obtain ⟨x0, x0h⟩ := sL (l := l) (i := k) (by omega)
   have hcz := sumC_mem (c := szCond) (List.mem_of_getElem? x0h)
   have hca := szCond_args x0
   have hcl0 := cvars_len x0
   have hscl := sortT_len (cvars x0)
   obtain ⟨es3, at4, hr5⟩ := rd_elem (n := 5) rfl h_l x0h
   obtain ⟨u6, rfl, hu7⟩ := open_Cond hr5
   have hm8 := rd_max hu7
   have hb9 := sub_Cond_Pattern hr5
   refine q1 rfl (D_ix (l := l) (j := k) s_93 rfl rfl rfl (fun w' hs => (rA hs h_l)) rfl (lS x0h)) (q1 rfl (lra a_147 rfl rfl at4) (li rfl (D_alloc y_147 rfl rfl rfl rfl fun g10 => ?_)))
   refine li rfl (D_stb (vs := [(.int .i64 x0.Kind), (.string x0.Pattern.Rel), u6, (.string x0.Left), (.string x0.Right)]) (cs' := [(.int .i64 x0.Kind), (.string x0.Pattern.Rel), u6, (.string x0.Left), (.string x0.Right)]) 0 z_147 rfl rfl rfl rfl rfl rfl (ocons rfl (ocons rfl (ocons (one_rd hu7) (ocons rfl (ocons rfl onil))))) (by simp) rfl ?_)
   refine Dx (Dh ([bx g10 [(.int .i64 x0.Kind), (.string x0.Pattern.Rel), u6, (.string x0.Left), (.string x0.Right)], ov [v] (csT l k : (List ByteArray))]) rfl (Cr (p1 rfl (q1 rfl (lbw 0 a_147 rfl rfl rfl) (li rfl (crl b_201 rfl rfl rfl rfl (fun w' hs => (impl_CondVars w' [(.int .i64 x0.Kind), (.string x0.Pattern.Rel), u6, (.string x0.Left), (.string x0.Right)] x0 (rA hs hr5) (by first | assumption | omega | (unfold szm at *; split at * <;> omega)))) fun v11 => ?_))))))
   refine D_pk (H' := [ov [v] (csT l k : (List ByteArray)), ov [v11] (sortT (cvars x0) : (List ByteArray)), bx g10 [(.int .i64 x0.Kind), (.string x0.Pattern.Rel), u6, (.string x0.Left), (.string x0.Right)]]) [2, 0, 1] rfl rfl (li rfl (D_apl (α := ByteArray) (ys := (sortT (cvars x0))) s_58 y_9 rfl rfl rfl rfl rfl rfl (fun w' hs => (rO (k := 1) hs rfl)) (by first | omega | (simp; omega)) (by first | omega | (simp; omega)) fun v12 => ?_))
   refine p1 rfl (De (Xb (Xt (Dh ([ov [v12] ((csT l k) ++ (sortT (cvars x0)) : (List ByteArray)), ov [v11] (sortT (cvars x0) : (List ByteArray)), bx g10 [(.int .i64 x0.Kind), (.string x0.Pattern.Rel), u6, (.string x0.Left), (.string x0.Right)]]) rfl (Cr (q1 rfl (D_add rfl rfl rfl (r := ((k + 1 : Nat) : Int)) (by omega) (by omega)) (Pe rfl (D_eq 0 rfl (show ((csT l k) ++ (sortT (cvars x0)) : (List ByteArray)) = csT l (k + 1) from by exact csT_step x0h) (fun ac w' hf hs => ⟨_, ?_, k + 1, v12, ?_, rfl, hf.weak ⟨rfl, rfl, rfl, rfl, trivial⟩, hs.pk [0] rfl rfl⟩)))))))))
   ·omega
   ·first | assumption | omega | simp
  ·have pr2 : ¬ (((k : Nat) : Int) : Int) < ((l.length : Nat) : Int) := odF h2
   refine Cx (Xx (Xx (Xe (Xt (Sr (P2 rfl rfl (Dx (Ct (R_1 rfl rfl fun w' hs => res_of (k := 0) hs rfl ?_)))))))))
   show csT l k = csT l l.length
   exact cs_done (by omega) (by omega)
theorem impl_occursElsewhere (w : World) (c_r : List Value) (r : Rule) (k : Int) (v : ByteArray) (h_r : Gd.rd w c_r r) (hn : szRule r ≤ 1048576) (hv : isVarB v = true) : Calls Tryz.prog 202 [(.agg c_r.toArray), (.int .i64 k), (.string v)].toArray w (Val w (.bool (elsB r k v))) := by
 obtain ⟨u1, u3, rfl, hu2, hu4⟩ := open_Rule h_r
 have hm5 := rd_max hu2
 have hm6 := rd_max hu4
 unfold szRule szL at hn
 refine enter 42 Tryz.func202 rfl rfl rfl (Sr (li rfl (D_box rfl rfl rfl rfl rfl fun g7 => ?_)))
 refine Pe rfl (Dh ([bx g7 [(.string r.Name), (.int .i64 r.Priority), u1, u3]]) rfl (Cq (Sr (q1 rfl (Db f_96_2 rfl rfl (q := 2) rfl) (q1 rfl (lb 0 o_93 rfl rfl rfl rfl) (q1 rfl (Dl s_93 rfl rfl (rd_sl hu2)) (Pe rfl (Cb (Cl (fun m_ ac w' => ∃ (q : Nat), (q ≤ r.If.length) ∧ (∀ a, a < q → elsC r k v a = false) ∧ m_ = r.If.length - q ∧ Fits ac 42 [(1, (.int .i64 k)), (2, (.string v)), (3, (.pointer (some ⟨g7, 0, none⟩))), (12, u1), (13, (.int .i64 ((r.If.length : Nat) : Int))), (14, (.int .i64 ((q : Nat) : Int)))] ∧ St w ([bx g7 [(.string r.Name), (.int .i64 r.Priority), u1, u3]]) w') ?_ ?_)))))))))
 ·refine fun ac w' hf hs => ⟨_, 0, ?_, ?_, rfl, hf.weak ⟨rfl, rfl, rfl, rfl, rfl, rfl, trivial⟩, hs⟩
  ·first | assumption | omega | simp
  ·intro a ha; omega
 ·rintro m_ ac w' ⟨q, hq, hc, rfl, hf, hs⟩
  refine D.use ?_ hf hs
  clear hf hs ac w'
  refine Sr (Pe rfl (Cq (Ci _ rfl (fun h8 => ?_) (fun h8 => ?_))))
  ·have pr8 : (((q : Nat) : Int) : Int) < ((r.If.length : Nat) : Int) := odT h8
   refine Sk (Cq (Cb (Sr (p1 rfl ?_))))
   obtain ⟨x0, x0h⟩ := sL (l := r.If) (i := q) (by omega)
   have hcz := cond_sz x0h
   have hca := szCond_args x0
   have hvl := varsL_len x0.Pattern.Args
   have hsl := sortT_len (varsL x0.Pattern.Args)
   have hcl0 := cvars_len x0
   have hscl := sortT_len (cvars x0)
   obtain ⟨es9, at10, hr11⟩ := rd_elem (n := 5) rfl hu2 x0h
   obtain ⟨u12, rfl, hu13⟩ := open_Cond hr11
   have hm14 := rd_max hu13
   have hb15 := sub_Cond_Pattern hr11
   refine q1 rfl (D_ix (l := r.If) (j := q) s_93 rfl rfl rfl (fun w' hs => (rA hs hu2)) rfl (lS x0h)) (q1 rfl (lra a_147 rfl rfl at10) (li rfl (D_alloc y_147 rfl rfl rfl rfl fun g16 => ?_)))
   refine p1 rfl (li rfl (D_stb (vs := [(.int .i64 x0.Kind), (.string x0.Pattern.Rel), u12, (.string x0.Left), (.string x0.Right)]) (cs' := [(.int .i64 x0.Kind), (.string x0.Pattern.Rel), u12, (.string x0.Left), (.string x0.Right)]) 0 z_147 rfl rfl rfl rfl rfl rfl (ocons rfl (ocons rfl (ocons (one_rd hu13) (ocons rfl (ocons rfl onil))))) (by simp) rfl ?_))
   refine Dx (Dh ([bx g16 [(.int .i64 x0.Kind), (.string x0.Pattern.Rel), u12, (.string x0.Left), (.string x0.Right)], bx g7 [(.string r.Name), (.int .i64 r.Priority), u1, u3]]) rfl (Sr (P3 rfl rfl rfl (p1 rfl (gs 22 rfl rfl (fun h17 => ?_) (fun h17 => ?_))))))
   ·have pr17 : (((q : Nat) : Int) : Int) ≠ k := bne_iff_ne.1 h17
    refine q1 rfl (lbw 0 a_147 rfl rfl rfl) (li rfl (crl b_201 rfl rfl rfl rfl (fun w' hs => (impl_CondVars w' [(.int .i64 x0.Kind), (.string x0.Pattern.Rel), u12, (.string x0.Left), (.string x0.Right)] x0 (rA hs hr11) (by first | assumption | omega | (unfold szm at *; split at * <;> omega)))) fun v18 => ?_))
    refine p1 rfl (li rfl (cv b_168 rfl rfl rfl rfl (fun w' hs => (impl_hasText w' v18 (sortT (cvars x0)) v (rO (k := 0) hs rfl))) ?_))
    refine Pe rfl (Dh ([ov [v18] (sortT (cvars x0) : (List ByteArray)), bx g16 [(.int .i64 x0.Kind), (.string x0.Pattern.Rel), u12, (.string x0.Left), (.string x0.Right)], bx g7 [(.string r.Name), (.int .i64 r.Priority), u1, u3]]) rfl (Ci _ rfl (fun h19 => ?_) (fun h19 => ?_)))
    ·refine Sr (Pe rfl (Ct (Xq (Xr (Xr (Xq (Xr (Rb rfl rfl ?_))))))))
     exact els_t1s x0h (by omega) (by assumption)
    ·refine Ck (Xb (Xt (Dw [(1, (.int .i64 k)), (2, (.string v)), (3, (.pointer (some ⟨g7, 0, none⟩))), (12, u1), (13, (.int .i64 ((r.If.length : Nat) : Int))), (14, (.int .i64 ((q : Nat) : Int)))] ⟨rfl, rfl, rfl, rfl, rfl, rfl, trivial⟩ (Ds (H' := [bx g7 [(.string r.Name), (.int .i64 r.Priority), u1, u3]]) [false, false, true] rfl (Cr (q1 rfl (D_add rfl rfl rfl (r := ((q + 1 : Nat) : Int)) (by omega) (by omega)) (Pe rfl (fun ac w' hf hs => ⟨_, ?_, q + 1, ?_, ?_, rfl, hf.weak ⟨rfl, rfl, rfl, rfl, rfl, rfl, trivial⟩, hs⟩))))))))
     ·omega
     ·first | assumption | omega | simp
     ·refine forall_step hc ?_; first | exact elsC_f0 (by omega) | exact elsC_f2s x0h (by assumption)
   ·have pr17 : (((q : Nat) : Int) : Int) = k := eq_of_bne_f h17
    refine n1 rfl (n1 rfl (n1 rfl (n1 rfl (Pe rfl (C_f rfl (Ck (Xb (Xt (Dw [(1, (.int .i64 k)), (2, (.string v)), (3, (.pointer (some ⟨g7, 0, none⟩))), (12, u1), (13, (.int .i64 ((r.If.length : Nat) : Int))), (14, (.int .i64 ((q : Nat) : Int)))] ⟨rfl, rfl, rfl, rfl, rfl, rfl, trivial⟩ (Ds (H' := [bx g7 [(.string r.Name), (.int .i64 r.Priority), u1, u3]]) [false, true] rfl (Cr (q1 rfl (D_add rfl rfl rfl (r := ((q + 1 : Nat) : Int)) (by omega) (by omega)) (Pe rfl (fun ac w' hf hs => ⟨_, ?_, q + 1, ?_, ?_, rfl, hf.weak ⟨rfl, rfl, rfl, rfl, rfl, rfl, trivial⟩, hs⟩))))))))))))))
    ·omega
    ·first | assumption | omega | simp
    ·refine forall_step hc ?_; first | exact elsC_f0 (by omega) | exact elsC_f2s x0h (by assumption)
  ·have pr8 : ¬ (((q : Nat) : Int) : Int) < ((r.If.length : Nat) : Int) := odF h8
   refine Cx (Xx (Xx (Xe (Xt (Cq (Sr (q1 rfl (Db f_96_3 rfl rfl (q := 3) rfl) (q1 rfl (lb 0 o_94 rfl rfl rfl rfl) (q1 rfl (Dl s_94 rfl rfl (rd_sl hu4)) (Pe rfl (Cb (Cl (fun m_ ac w' => ∃ (j : Nat), (j ≤ r.Then.length) ∧ (∀ i, i < j → ∀ a, r.Then[i]? = some a → elsA v a = false) ∧ m_ = r.Then.length - j ∧ Fits ac 42 [(2, (.string v)), (30, u3), (31, (.int .i64 ((r.Then.length : Nat) : Int))), (32, (.int .i64 ((j : Nat) : Int)))] ∧ St w ([bx g7 [(.string r.Name), (.int .i64 r.Priority), u1, u3]]) w') ?_ ?_))))))))))))
   ·refine fun ac w' hf hs => ⟨_, 0, ?_, ?_, rfl, hf.weak ⟨rfl, rfl, rfl, rfl, trivial⟩, hs⟩
    ·first | assumption | omega | simp
    ·intro i hi; omega
   ·rintro m_ ac w' ⟨j, hj, ha, rfl, hf, hs⟩
    refine D.use ?_ hf hs
    clear hf hs ac w'
    refine Sr (Pe rfl (Cq (Ci _ rfl (fun h20 => ?_) (fun h20 => ?_))))
    ·have pr20 : (((j : Nat) : Int) : Int) < ((r.Then.length : Nat) : Int) := odT h20
     refine Sk (Cq (Cb (Sr ?_)))
     obtain ⟨a0, a0h⟩ := sL (l := r.Then) (i := j) (by omega)
     obtain ⟨es21, at22, hr23⟩ := rd_elem (n := 3) rfl hu4 a0h
     obtain ⟨u24, rfl, hu25⟩ := open_Action hr23
     have hm26 := rd_max hu25
     have hb27 := sub_Action_Pattern hr23
     refine q1 rfl (D_ix (l := r.Then) (j := j) s_94 rfl rfl rfl (fun w' hs => (rA hs hu4)) rfl (lS a0h)) (q1 rfl (lra a_159 rfl rfl at22) (li rfl (D_alloc y_159 rfl rfl rfl rfl fun g28 => ?_)))
     refine li rfl (D_stb (vs := [(.int .i64 a0.Kind), (.string a0.Pattern.Rel), u24]) (cs' := [(.int .i64 a0.Kind), (.string a0.Pattern.Rel), u24]) 0 z_159 rfl rfl rfl rfl rfl rfl (ocons rfl (ocons rfl (ocons (one_rd hu25) onil))) (by simp) rfl ?_)
     refine Dx (Dh ([bx g28 [(.int .i64 a0.Kind), (.string a0.Pattern.Rel), u24], bx g7 [(.string r.Name), (.int .i64 r.Priority), u1, u3]]) rfl (Sr (q1 rfl (Db f_159_1 rfl rfl (q := 1) rfl) (q1 rfl (Db f_145_1 rfl rfl (q := 2) rfl) (q1 rfl (lb 0 o_58 rfl rfl rfl rfl) (p1 rfl (li rfl (cv b_168 rfl rfl rfl rfl (fun w' hs => (impl_hasText w' u24 a0.Pattern.Args v (rA hs hu25))) ?_))))))))
     refine Dx (Ci _ rfl (fun h29 => ?_) (fun h29 => ?_))
     ·refine Sr (Pe rfl (Ct (Xq (Xr (Xr (Xq (Xr (Rb rfl rfl ?_))))))))
      first | exact els_t2i hv a0h (by assumption) | exact els_t2s a0h (by assumption)
     ·refine Ck (Xb (Xt (Cr (q1 rfl (D_add rfl rfl rfl (r := ((j + 1 : Nat) : Int)) (by omega) (by omega)) (Pe rfl (fun ac w' hf hs => ⟨_, ?_, j + 1, ?_, ?_, rfl, hf.weak ⟨rfl, rfl, rfl, rfl, trivial⟩, hs.pk [1] rfl rfl⟩))))))
      ·omega
      ·first | assumption | omega | simp
      ·refine forall_step ha ?_; intro y hy; obtain rfl : y = a0 := Option.some.inj (hy.symm.trans a0h); first | exact elsA_i hv (by assumption) | exact elsA_s (by assumption)
    ·have pr20 : ¬ (((j : Nat) : Int) : Int) < ((r.Then.length : Nat) : Int) := odF h20
     refine Cx (Xx (Xx (Xe (Xt (Sr (Pe rfl (Ct (Rb rfl rfl ?_))))))))
     exact els_f (fun i h => hc i (by omega)) (fun i h => ha i (by omega))
theorem spec_l5Elsewhere (w : World) (c_r : List Value) (r : Rule) (i : Int) (v : ByteArray) (h_r : Gd.rd w c_r r) (hn : szRule r ≤ 1048576) (ho : okRule r) : Calls Tryz.prog 157 [(.agg c_r.toArray), (.int .i64 i), (.string v)].toArray w (Val w (.bool (elsB r i v))) := by
 obtain ⟨u1, u3, rfl, hu2, hu4⟩ := open_Rule h_r
 have hm5 := rd_max hu2
 have hm6 := rd_max hu4
 unfold szRule szL at hn
 refine enter 45 Tryz.func157 rfl rfl rfl (Sr (li rfl (D_box rfl rfl rfl rfl rfl fun g7 => ?_)))
 refine Pe rfl (Dh ([bx g7 [(.string r.Name), (.int .i64 r.Priority), u1, u3]]) rfl (Cq (Sr (Pe rfl (Cb (Cl (fun m_ ac w' => ∃ (q : Nat), (q ≤ r.If.length) ∧ (∀ a, a < q → elsC r i v a = false) ∧ m_ = r.If.length - q ∧ Fits ac 45 [(1, (.int .i64 i)), (2, (.string v)), (3, (.pointer (some ⟨g7, 0, none⟩))), (7, (.int .i64 ((q : Nat) : Int)))] ∧ St w ([bx g7 [(.string r.Name), (.int .i64 r.Priority), u1, u3]]) w') ?_ ?_))))))
 ·refine fun ac w' hf hs => ⟨_, 0, ?_, ?_, rfl, hf.weak ⟨rfl, rfl, rfl, rfl, trivial⟩, hs⟩
  ·first | assumption | omega | simp
  ·intro a ha; omega
 ·rintro m_ ac w' ⟨q, hq, hc, rfl, hf, hs⟩
  refine D.use ?_ hf hs
  clear hf hs ac w'
  refine Cq (Sr (p1 rfl (q1 rfl (Db f_96_2 rfl rfl (q := 2) rfl) (q1 rfl (lb 0 o_93 rfl rfl rfl rfl) (q1 rfl (Dl s_93 rfl rfl (rd_sl hu2)) (Pe rfl (Ci _ rfl (fun h8 => ?_) (fun h8 => ?_))))))))
  ·have pr8 : (((q : Nat) : Int) : Int) < ((r.If.length : Nat) : Int) := odT h8
   refine Sk (Cq (Cb (Sr (P3 rfl rfl rfl (p1 rfl (gs 19 rfl rfl (fun h9 => ?_) (fun h9 => ?_)))))))
   ·have pr9 : (((q : Nat) : Int) : Int) ≠ i := bne_iff_ne.1 h9
    refine q1 rfl (Db f_96_2 rfl rfl (q := 2) rfl) (q1 rfl (lb 0 o_93 rfl rfl rfl rfl) (p1 rfl ?_))
    obtain ⟨x0, x0h⟩ := sL (l := r.If) (i := q) (by omega)
    have hcz := cond_sz x0h
    have hca := szCond_args x0
    have hvl := varsL_len x0.Pattern.Args
    have hsl := sortT_len (varsL x0.Pattern.Args)
    have hcl0 := cvars_len x0
    have hscl := sortT_len (cvars x0)
    have hco := ho.2.2.1 _ (List.mem_of_getElem? x0h)
    obtain ⟨es10, at11, hr12⟩ := rd_elem (n := 5) rfl hu2 x0h
    obtain ⟨u13, rfl, hu14⟩ := open_Cond hr12
    have hm15 := rd_max hu14
    have hb16 := sub_Cond_Pattern hr12
    refine q1 rfl (D_ix (l := r.If) (j := q) s_93 rfl rfl rfl (fun w' hs => (rA hs hu2)) rfl (lS x0h)) (q1 rfl (lra a_147 rfl rfl at11) (li rfl (crl b_154 rfl rfl rfl rfl (fun w' hs => (spec_CondVars w' [(.int .i64 x0.Kind), (.string x0.Pattern.Rel), u13, (.string x0.Left), (.string x0.Right)] x0 (rA hs hr12) (by first | assumption | omega | (unfold szm at *; split at * <;> omega)) hco)) fun v17 => ?_)))
    refine p1 rfl (li rfl (cv b_155 rfl rfl rfl rfl (fun w' hs => (spec_l1HasText w' v17 (sortT (cvars x0)) v (rO (k := 0) hs rfl))) ?_))
    refine Pe rfl (Dw [(1, (.int .i64 i)), (2, (.string v)), (3, (.pointer (some ⟨g7, 0, none⟩))), (7, (.int .i64 ((q : Nat) : Int))), (28, (.bool (hasS (sortT (cvars x0)) v)))] ⟨rfl, rfl, rfl, rfl, rfl, trivial⟩ (Ds (H' := [bx g7 [(.string r.Name), (.int .i64 r.Priority), u1, u3]]) [false, true] rfl (Ci _ rfl (fun h18 => ?_) (fun h18 => ?_))))
    ·refine Sr (Pe rfl (Ct (Xq (Xr (Xr (Xq (Xr (Rb rfl rfl ?_))))))))
     exact els_t1s x0h (by omega) (by assumption)
    ·refine Ck (Xb (Xt (Cr (p1 rfl (q1 rfl (D_add rfl rfl rfl (r := ((q + 1 : Nat) : Int)) (by omega) (by omega)) (Pe rfl (fun ac w' hf hs => ⟨_, ?_, q + 1, ?_, ?_, rfl, hf.weak ⟨rfl, rfl, rfl, rfl, trivial⟩, hs⟩)))))))
     ·omega
     ·first | assumption | omega | simp
     ·refine forall_step hc ?_; first | exact elsC_f0 (by omega) | exact elsC_f2s x0h (by assumption)
   ·have pr9 : (((q : Nat) : Int) : Int) = i := eq_of_bne_f h9
    refine n1 rfl (n1 rfl (n1 rfl (n1 rfl (n1 rfl (n1 rfl (n1 rfl (n1 rfl (Pe rfl (Dw [(1, (.int .i64 i)), (2, (.string v)), (3, (.pointer (some ⟨g7, 0, none⟩))), (7, (.int .i64 ((q : Nat) : Int))), (28, (.bool false))] ⟨rfl, rfl, rfl, rfl, rfl, trivial⟩ (C_f rfl (Ck (Xb (Xt (Cr (p1 rfl (q1 rfl (D_add rfl rfl rfl (r := ((q + 1 : Nat) : Int)) (by omega) (by omega)) (Pe rfl (fun ac w' hf hs => ⟨_, ?_, q + 1, ?_, ?_, rfl, hf.weak ⟨rfl, rfl, rfl, rfl, trivial⟩, hs⟩))))))))))))))))))
    ·omega
    ·first | assumption | omega | simp
    ·refine forall_step hc ?_; first | exact elsC_f0 (by omega) | exact elsC_f2s x0h (by assumption)
  ·have pr8 : ¬ (((q : Nat) : Int) : Int) < ((r.If.length : Nat) : Int) := odF h8
   refine Cx (Xx (Xx (Xe (Xt (Cq (Sr (Pe rfl (Cb (Cl (fun m_ ac w' => ∃ (j : Nat), (j ≤ r.Then.length) ∧ (∀ i, i < j → ∀ a, r.Then[i]? = some a → elsA v a = false) ∧ m_ = r.Then.length - j ∧ Fits ac 45 [(2, (.string v)), (3, (.pointer (some ⟨g7, 0, none⟩))), (8, (.int .i64 ((j : Nat) : Int)))] ∧ St w ([bx g7 [(.string r.Name), (.int .i64 r.Priority), u1, u3]]) w') ?_ ?_)))))))))
   ·refine fun ac w' hf hs => ⟨_, 0, ?_, ?_, rfl, hf.weak ⟨rfl, rfl, rfl, trivial⟩, hs⟩
    ·first | assumption | omega | simp
    ·intro i hi; omega
   ·rintro m_ ac w' ⟨j, hj, ha, rfl, hf, hs⟩
    refine D.use ?_ hf hs
    clear hf hs ac w'
    refine Cq (Sr (p1 rfl (q1 rfl (Db f_96_3 rfl rfl (q := 3) rfl) (q1 rfl (lb 0 o_94 rfl rfl rfl rfl) (q1 rfl (Dl s_94 rfl rfl (rd_sl hu4)) (Pe rfl (Ci _ rfl (fun h19 => ?_) (fun h19 => ?_))))))))
    ·have pr19 : (((j : Nat) : Int) : Int) < ((r.Then.length : Nat) : Int) := odT h19
     refine Sk (Cq (Cb (Sr (q1 rfl (Db f_96_3 rfl rfl (q := 3) rfl) (q1 rfl (lb 0 o_94 rfl rfl rfl rfl) (p1 rfl ?_))))))
     obtain ⟨a0, a0h⟩ := sL (l := r.Then) (i := j) (by omega)
     have haz := act_sz a0h
     have haa := szAct_args a0
     have hvl2 := varsL_len a0.Pattern.Args
     have hsl2 := sortT_len (varsL a0.Pattern.Args)
     have hao := ho.2.2.2 _ (List.mem_of_getElem? a0h)
     obtain ⟨es20, at21, hr22⟩ := rd_elem (n := 3) rfl hu4 a0h
     obtain ⟨u23, rfl, hu24⟩ := open_Action hr22
     have hm25 := rd_max hu24
     have hb26 := sub_Action_Pattern hr22
     refine q1 rfl (D_ix (l := r.Then) (j := j) s_94 rfl rfl rfl (fun w' hs => (rA hs hu4)) rfl (lS a0h)) (q1 rfl (D_fa f_159_1 rfl rfl) (q1 rfl (lra a_145 rfl rfl (at_sub (f := 1) (n := 2) at21 rfl)) (li rfl (crl b_159 rfl rfl rfl rfl (fun w' hs => (spec_VarsOf w' [(.string a0.Pattern.Rel), u23] a0.Pattern (rA hs hb26) (by first | assumption | omega | (unfold szm at *; split at * <;> omega)) (by first | exact hco.2.1 | exact hao.2))) fun v27 => ?_))))
     refine p1 rfl (li rfl (cv b_155 rfl rfl rfl rfl (fun w' hs => (spec_l1HasText w' v27 (sortT (varsL a0.Pattern.Args)) v (rO (k := 0) hs rfl))) ?_))
     refine Dx (Dh ([ov [v27] (sortT (varsL a0.Pattern.Args) : (List ByteArray)), bx g7 [(.string r.Name), (.int .i64 r.Priority), u1, u3]]) rfl (Ci _ rfl (fun h28 => ?_) (fun h28 => ?_)))
     ·refine Sr (Pe rfl (Ct (Xq (Xr (Xr (Xq (Xr (Rb rfl rfl ?_))))))))
      first | exact els_t2i hv a0h (by assumption) | exact els_t2s a0h (by assumption)
     ·refine Ck (Xb (Xt (Cr (p1 rfl (q1 rfl (D_add rfl rfl rfl (r := ((j + 1 : Nat) : Int)) (by omega) (by omega)) (Pe rfl (fun ac w' hf hs => ⟨_, ?_, j + 1, ?_, ?_, rfl, hf.weak ⟨rfl, rfl, rfl, trivial⟩, hs.pk [1] rfl rfl⟩)))))))
      ·omega
      ·first | assumption | omega | simp
      ·refine forall_step ha ?_; intro y hy; obtain rfl : y = a0 := Option.some.inj (hy.symm.trans a0h); first | exact elsA_i hv (by assumption) | exact elsA_s (by assumption)
    ·have pr19 : ¬ (((j : Nat) : Int) : Int) < ((r.Then.length : Nat) : Int) := odF h19
     refine Cx (Xx (Xx (Xe (Xt (Sr (Pe rfl (Ct (Rb rfl rfl ?_))))))))
     exact els_f (fun i h => hc i (by omega)) (fun i h => ha i (by omega))
theorem impl_condFits (w : World) (c_r : List Value) (r : Rule) (k : Int) (h_r : Gd.rd w c_r r) (hn : szRule r ≤ 1048576) (h0 : 0 ≤ k) (h1 : k < r.If.length) : Calls Tryz.prog 164 [(.agg c_r.toArray), (.int .i64 k)].toArray w (Val w (.bool (fitB r k))) := by
 obtain ⟨u1, u3, rfl, hu2, hu4⟩ := open_Rule h_r
 have hm5 := rd_max hu2
 have hm6 := rd_max hu4
 have hn0 := hn
 refine enter 42 Tryz.func164 rfl rfl rfl (Sr (li rfl (D_box rfl rfl rfl rfl rfl fun g7 => ?_)))
 refine Pe rfl (Dh ([bx g7 [(.string r.Name), (.int .i64 r.Priority), u1, u3]]) rfl (Sr (q1 rfl (Db f_96_2 rfl rfl (q := 2) rfl) (q1 rfl (lb 0 o_93 rfl rfl rfl rfl) (p1 rfl ?_)))))
 obtain ⟨x0, x0h⟩ := sL (l := r.If) (i := (k.toNat)) (by omega)
 unfold szRule szL at hn
 have hcz := cond_sz x0h
 have hca := szCond_args x0
 have hvl := varsL_len x0.Pattern.Args
 have hsl := sortT_len (varsL x0.Pattern.Args)
 have hcl0 := cvars_len x0
 have hscl := sortT_len (cvars x0)
 obtain ⟨es8, at9, hr10⟩ := rd_elem (n := 5) rfl hu2 x0h
 obtain ⟨u11, rfl, hu12⟩ := open_Cond hr10
 have hm13 := rd_max hu12
 have hb14 := sub_Cond_Pattern hr10
 refine q1 rfl (D_ix (l := r.If) (j := (k.toNat)) s_93 rfl rfl rfl (fun w' hs => (rA hs hu2)) (Int.toNat_of_nonneg (by omega)).symm (lS x0h)) (q1 rfl (lra a_147 rfl rfl at9) (li rfl (D_alloc y_147 rfl rfl rfl rfl fun g15 => ?_)))
 refine li rfl (D_stb (vs := [(.int .i64 x0.Kind), (.string x0.Pattern.Rel), u11, (.string x0.Left), (.string x0.Right)]) (cs' := [(.int .i64 x0.Kind), (.string x0.Pattern.Rel), u11, (.string x0.Left), (.string x0.Right)]) 0 z_147 rfl rfl rfl rfl rfl rfl (ocons rfl (ocons rfl (ocons (one_rd hu12) (ocons rfl (ocons rfl onil))))) (by simp) rfl ?_)
 refine Dx (Dh ([bx g15 [(.int .i64 x0.Kind), (.string x0.Pattern.Rel), u11, (.string x0.Left), (.string x0.Right)], bx g7 [(.string r.Name), (.int .i64 r.Priority), u1, u3]]) rfl (Sr (q1 rfl (lbw 1 a_96 rfl rfl rfl) (p1 rfl (li rfl (crl b_165 rfl rfl rfl rfl (fun w' hs => (impl_BoundVars w' [(.string r.Name), (.int .i64 r.Priority), u1, u3] r k (rA hs h_r) hn0)) fun v16 => ?_))))))
 refine Pe rfl (Dh ([ov [v16] (sortT (bvars r k) : (List ByteArray)), bx g15 [(.int .i64 x0.Kind), (.string x0.Pattern.Rel), u11, (.string x0.Left), (.string x0.Right)], bx g7 [(.string r.Name), (.int .i64 r.Priority), u1, u3]]) rfl (Cq (Sr (q1 rfl (lbw 1 a_147 rfl rfl rfl) (li rfl (crl b_201 rfl rfl rfl rfl (fun w' hs => (impl_CondVars w' [(.int .i64 x0.Kind), (.string x0.Pattern.Rel), u11, (.string x0.Left), (.string x0.Right)] x0 (rA hs hr10) (by first | assumption | omega | (unfold szm at *; split at * <;> omega)))) fun v17 => ?_))))))
 refine q1 rfl (D_leno 0 s_58 rfl rfl rfl) (Pe rfl (Dh ([ov [v17] (sortT (cvars x0) : (List ByteArray)), ov [v16] (sortT (bvars r k) : (List ByteArray)), bx g15 [(.int .i64 x0.Kind), (.string x0.Pattern.Rel), u11, (.string x0.Left), (.string x0.Right)], bx g7 [(.string r.Name), (.int .i64 r.Priority), u1, u3]]) rfl (Cb (Cl (fun m_ ac w' => ∃ (q : Nat), (q ≤ (sortT (cvars x0)).length) ∧ (∀ i, i < q → ∀ y, (sortT (cvars x0))[i]? = some y → okV r k x0 y = true) ∧ m_ = (sortT (cvars x0)).length - q ∧ Fits ac 42 [(1, (.int .i64 k)), (2, (.pointer (some ⟨g7, 0, none⟩))), (5, (.pointer (some ⟨g15, 0, none⟩))), (6, v16), (18, v17), (19, (.int .i64 (((sortT (cvars x0)).length : Nat) : Int))), (20, (.int .i64 ((q : Nat) : Int)))] ∧ St w ([ov [v17] (sortT (cvars x0) : (List ByteArray)), ov [v16] (sortT (bvars r k) : (List ByteArray)), bx g15 [(.int .i64 x0.Kind), (.string x0.Pattern.Rel), u11, (.string x0.Left), (.string x0.Right)], bx g7 [(.string r.Name), (.int .i64 r.Priority), u1, u3]]) w') ?_ ?_))))
 ·refine fun ac w' hf hs => ⟨_, 0, ?_, ?_, rfl, hf.weak ⟨rfl, rfl, rfl, rfl, rfl, rfl, rfl, trivial⟩, hs⟩
  ·first | assumption | omega | simp
  ·intro i hi; omega
 ·rintro m_ ac w' ⟨q, hq, hi, rfl, hf, hs⟩
  refine D.use ?_ hf hs
  clear hf hs ac w'
  refine Sr (Pe rfl (Cq (Ci _ rfl (fun h18 => ?_) (fun h18 => ?_))))
  ·have pr18 : (((q : Nat) : Int) : Int) < (((sortT (cvars x0)).length : Nat) : Int) := odT h18
   refine Sk (Cq (Cb (Sr ?_)))
   obtain ⟨v0, v0h⟩ := sL (l := (sortT (cvars x0))) (i := q) (by omega)
   refine q1 rfl (D_ix (l := (sortT (cvars x0))) (j := q) s_58 rfl rfl rfl (fun w' hs => (rO (k := 0) hs rfl)) rfl (lS v0h)) (q1 rfl (lo (α := ByteArray) 0 o_9 rfl rfl rfl v0h) (Pe rfl (Cq (Sr (q1 rfl (Db f_147_0 rfl rfl (q := 0) rfl) (q1 rfl (lb 2 o_3 rfl rfl rfl rfl) (P2 rfl rfl (gs 27 rfl rfl (fun h19 => ?_) (fun h19 => ?_)))))))))
   ·have pr19 : (x0.Kind : Int) = 1 := eq_of_beq h19
    refine n1 rfl (n1 rfl (n1 rfl (Pe rfl (C_t rfl (Cx (Xx (Xe (Xt (Cr (q1 rfl (D_add rfl rfl rfl (r := ((q + 1 : Nat) : Int)) (by omega) (by omega)) (Pe rfl (fun ac w' hf hs => ⟨_, ?_, q + 1, ?_, ?_, rfl, hf.weak ⟨rfl, rfl, rfl, rfl, rfl, rfl, rfl, trivial⟩, hs⟩))))))))))))
    ·omega
    ·first | assumption | omega | simp
    ·refine forall_step hi ?_; intro y hy; obtain rfl : y = v0 := Option.some.inj (hy.symm.trans v0h); first | exact okV_t1 (by omega) | exact okV_t2 (by assumption) | exact okV_t3 (by omega) (by assumption)
   ·have pr19 : (x0.Kind : Int) ≠ 1 := ne_of_beq_false h19
    refine P2 rfl rfl (li rfl (cv b_168 rfl rfl rfl rfl (fun w' hs => (impl_hasText w' v16 (sortT (bvars r k)) v0 (rO (k := 1) hs rfl))) ?_))
    refine Pe rfl (Ci _ rfl (fun h20 => ?_) (fun h20 => ?_))
    ·refine Cx (Xx (Xe (Xt (Cr (q1 rfl (D_add rfl rfl rfl (r := ((q + 1 : Nat) : Int)) (by omega) (by omega)) (Pe rfl (fun ac w' hf hs => ⟨_, ?_, q + 1, ?_, ?_, rfl, hf.weak ⟨rfl, rfl, rfl, rfl, rfl, rfl, rfl, trivial⟩, hs⟩)))))))
     ·omega
     ·first | assumption | omega | simp
     ·refine forall_step hi ?_; intro y hy; obtain rfl : y = v0 := Option.some.inj (hy.symm.trans v0h); first | exact okV_t1 (by omega) | exact okV_t2 (by assumption) | exact okV_t3 (by omega) (by assumption)
    ·refine Sk (Sr (q1 rfl (Db f_147_0 rfl rfl (q := 0) rfl) (q1 rfl (lb 2 o_3 rfl rfl rfl rfl) (P2 rfl rfl (gs 35 rfl rfl (fun h21 => ?_) (fun h21 => ?_))))))
     ·have pr21 : (x0.Kind : Int) ≠ 2 := bne_iff_ne.1 h21
      refine n1 rfl (n1 rfl (n1 rfl (n1 rfl (Pe rfl (Dw [(1, (.int .i64 k)), (2, (.pointer (some ⟨g7, 0, none⟩))), (5, (.pointer (some ⟨g15, 0, none⟩))), (6, v16), (18, v17), (19, (.int .i64 (((sortT (cvars x0)).length : Nat) : Int))), (20, (.int .i64 ((q : Nat) : Int))), (40, (.bool true))] ⟨rfl, rfl, rfl, rfl, rfl, rfl, rfl, rfl, trivial⟩ (C_t rfl (Sr (Pe rfl (Ct (Xq (Xr (Xr (Xq (Xr (Rb rfl rfl ?_)))))))))))))))
      exact fit_n x0h v0h (okV_f (by omega) (by assumption) (.inl (by omega)))
     ·have pr21 : (x0.Kind : Int) = 2 := eq_of_bne_f h21
      refine q1 rfl (lbw 3 a_96 rfl rfl rfl) (P2 rfl rfl (li rfl (cv b_202 rfl rfl rfl rfl (fun w' hs => (impl_occursElsewhere w' [(.string r.Name), (.int .i64 r.Priority), u1, u3] r k v0 (rA hs h_r) hn0 (cv_var (sortT_mem.1 (List.mem_of_getElem? v0h))))) ?_)))
      refine Pe rfl (Dw [(1, (.int .i64 k)), (2, (.pointer (some ⟨g7, 0, none⟩))), (5, (.pointer (some ⟨g15, 0, none⟩))), (6, v16), (18, v17), (19, (.int .i64 (((sortT (cvars x0)).length : Nat) : Int))), (20, (.int .i64 ((q : Nat) : Int))), (40, (.bool (elsB r k v0)))] ⟨rfl, rfl, rfl, rfl, rfl, rfl, rfl, rfl, trivial⟩ (Ci _ rfl (fun h22 => ?_) (fun h22 => ?_)))
      ·refine Sr (Pe rfl (Ct (Xq (Xr (Xr (Xq (Xr (Rb rfl rfl ?_))))))))
       exact fit_n x0h v0h (okV_f (by omega) (by assumption) (.inr (by assumption)))
      ·refine Ck (Xb (Xt (Cr (q1 rfl (D_add rfl rfl rfl (r := ((q + 1 : Nat) : Int)) (by omega) (by omega)) (Pe rfl (fun ac w' hf hs => ⟨_, ?_, q + 1, ?_, ?_, rfl, hf.weak ⟨rfl, rfl, rfl, rfl, rfl, rfl, rfl, trivial⟩, hs⟩))))))
       ·omega
       ·first | assumption | omega | simp
       ·refine forall_step hi ?_; intro y hy; obtain rfl : y = v0 := Option.some.inj (hy.symm.trans v0h); first | exact okV_t1 (by omega) | exact okV_t2 (by assumption) | exact okV_t3 (by omega) (by assumption)
  ·have pr18 : ¬ (((q : Nat) : Int) : Int) < (((sortT (cvars x0)).length : Nat) : Int) := odF h18
   refine Cx (Xx (Xx (Xe (Xt (Sr (Pe rfl (Ct (Rb rfl rfl ?_))))))))
   exact fit_y x0h (fun i h => hi i (by omega))
set_option maxHeartbeats 4000000 in
theorem spec_RuleVars (w : World) (c_r : List Value) (r : Rule) (h_r : Gd.rd w c_r r) (hn : szRule r ≤ 1048576) (ho : okRule r) : Calls Tryz.prog 160 [(.agg c_r.toArray)].toArray w (Res w (sortT (allV r ++ avT r r.Then.length) : List ByteArray)) := by
 obtain ⟨u1, u3, rfl, hu2, hu4⟩ := open_Rule h_r
 have hm5 := rd_max hu2
 have hm6 := rd_max hu4
 unfold szRule szL at hn
 refine enter 63 Tryz.func160 rfl rfl rfl (Sr (li rfl (D_box rfl rfl rfl rfl rfl fun g7 => ?_)))
 refine Pe rfl (Dh ([bx g7 [(.string r.Name), (.int .i64 r.Priority), u1, u3]]) rfl (Sr (li rfl (D_bs0 (α := ByteArray) s_58 rfl rfl rfl fun v8 => ?_))))
 refine Pe rfl (Dh ([ov [v8] ([] : (List ByteArray)), bx g7 [(.string r.Name), (.int .i64 r.Priority), u1, u3]]) rfl (Cq (Sr (Pe rfl (Cb (Cl (fun m_ ac w' => ∃ (k : Nat), ∃ (v : Value), (k ≤ r.If.length) ∧ m_ = r.If.length - k ∧ Fits ac 63 [(1, (.pointer (some ⟨g7, 0, none⟩))), (3, v), (4, (.int .i64 ((k : Nat) : Int)))] ∧ St w ([ov [v] (sortT (cvT r.If k) : (List ByteArray)), bx g7 [(.string r.Name), (.int .i64 r.Priority), u1, u3]]) w') ?_ ?_))))))
 ·refine D_eq 0 rfl (show ([] : (List ByteArray)) = sortT (cvT r.If 0) from by exact cvS_zero r.If) (fun ac w' hf hs => ⟨_, 0, v8, ?_, rfl, hf.weak ⟨rfl, rfl, rfl, trivial⟩, hs⟩)
  ·first | assumption | omega | simp
 ·rintro m_ ac w' ⟨k, v, hk, rfl, hf, hs⟩
  refine D.use ?_ hf hs
  clear hf hs ac w'
  have hcl := cvT_len r.If k
  have hcs := sortT_len (cvT r.If k)
  refine Cq (Sr (p1 rfl (q1 rfl (Db f_96_2 rfl rfl (q := 2) rfl) (q1 rfl (lb 1 o_93 rfl rfl rfl rfl) (q1 rfl (Dl s_93 rfl rfl (rd_sl hu2)) (Pe rfl (Dh ([ov [v] (sortT (cvT r.If k) : (List ByteArray)), bx g7 [(.string r.Name), (.int .i64 r.Priority), u1, u3]]) rfl (Ci _ rfl (fun h9 => ?_) (fun h9 => ?_)))))))))
  ·have pr9 : (((k : Nat) : Int) : Int) < ((r.If.length : Nat) : Int) := odT h9
   refine Sk (Cq (Cb (Sr (q1 rfl (Db f_96_2 rfl rfl (q := 2) rfl) (q1 rfl (lb 1 o_93 rfl rfl rfl rfl) (p1 rfl ?_))))))
   obtain ⟨x0, x0h⟩ := sL (l := r.If) (i := k) (by omega)
   have hcz := cond_sz x0h
   have hca := szCond_args x0
   have hvl := varsL_len x0.Pattern.Args
   have hsl := sortT_len (varsL x0.Pattern.Args)
   have hcl0 := cvars_len x0
   have hscl := sortT_len (cvars x0)
   have hco := ho.2.2.1 _ (List.mem_of_getElem? x0h)
   obtain ⟨es10, at11, hr12⟩ := rd_elem (n := 5) rfl hu2 x0h
   obtain ⟨u13, rfl, hu14⟩ := open_Cond hr12
   have hm15 := rd_max hu14
   have hb16 := sub_Cond_Pattern hr12
   refine q1 rfl (D_ix (l := r.If) (j := k) s_93 rfl rfl rfl (fun w' hs => (rA hs hu2)) rfl (lS x0h)) (q1 rfl (lra a_147 rfl rfl at11) (li rfl (crl b_154 rfl rfl rfl rfl (fun w' hs => (spec_CondVars w' [(.int .i64 x0.Kind), (.string x0.Pattern.Rel), u13, (.string x0.Left), (.string x0.Right)] x0 (rA hs hr12) (by first | assumption | omega | (unfold szm at *; split at * <;> omega)) hco)) fun v17 => ?_)))
   refine Pe rfl (Dh ([ov [v17] (sortT (cvars x0) : (List ByteArray)), ov [v] (sortT (cvT r.If k) : (List ByteArray)), bx g7 [(.string r.Name), (.int .i64 r.Priority), u1, u3]]) rfl (Sr (Pe rfl (Cb (Cl (fun m_ ac w' => ∃ (q : Nat), ∃ (v2 : Value), (q ≤ (sortT (cvars x0)).length) ∧ m_ = (sortT (cvars x0)).length - q ∧ Fits ac 63 [(1, (.pointer (some ⟨g7, 0, none⟩))), (3, v2), (4, (.int .i64 ((k : Nat) : Int))), (5, v17), (6, (.int .i64 ((q : Nat) : Int)))] ∧ St w ([ov [v17] (sortT (cvars x0) : (List ByteArray)), ov [v2] (((sortT (cvars x0)).take q).foldl putS (sortT (cvT r.If k)) : (List ByteArray)), bx g7 [(.string r.Name), (.int .i64 r.Priority), u1, u3]]) w') ?_ ?_)))))
   ·refine D_eq 1 rfl (show (sortT (cvT r.If k) : (List ByteArray)) = ((sortT (cvars x0)).take 0).foldl putS (sortT (cvT r.If k)) from by rfl) (fun ac w' hf hs => ⟨_, 0, v, ?_, rfl, hf.weak ⟨rfl, rfl, rfl, rfl, rfl, trivial⟩, hs⟩)
    ·first | assumption | omega | simp
   ·rintro m_ ac w' ⟨q, v2, hq, rfl, hf, hs⟩
    refine D.use ?_ hf hs
    clear hf hs ac w'
    have hfl := foldT_len (sortT (cvars x0)) (sortT (cvT r.If k)) q
    refine Cq (Sr (P2 rfl rfl (q1 rfl (D_leno 0 s_58 rfl rfl rfl) (Pe rfl (Dh ([ov [v17] (sortT (cvars x0) : (List ByteArray)), ov [v2] (((sortT (cvars x0)).take q).foldl putS (sortT (cvT r.If k)) : (List ByteArray)), bx g7 [(.string r.Name), (.int .i64 r.Priority), u1, u3]]) rfl (Ci _ rfl (fun h18 => ?_) (fun h18 => ?_)))))))
    ·have pr18 : (((q : Nat) : Int) : Int) < (((sortT (cvars x0)).length : Nat) : Int) := odT h18
     refine Sk (Cq (Cb (Cr (P3 rfl rfl rfl ?_))))
     obtain ⟨y0, y0h⟩ := sL (l := (sortT (cvars x0))) (i := q) (by omega)
     refine q1 rfl (D_ix (l := (sortT (cvars x0))) (j := q) s_58 rfl rfl rfl (fun w' hs => (rO (k := 0) hs rfl)) rfl (lS y0h)) (q1 rfl (lo (α := ByteArray) 0 o_9 rfl rfl rfl y0h) (li rfl (crl b_193 rfl rfl rfl rfl (fun w' hs => (spec_l1Put w' v2 (((sortT (cvars x0)).take q).foldl putS (sortT (cvT r.If k))) y0 (rO (k := 1) hs rfl) (by first | assumption | omega | (unfold szm at *; split at * <;> omega)))) fun v19 => ?_)))
     refine p1 rfl (De (Xb (Xt (Dh ([ov [v19] (putS (((sortT (cvars x0)).take q).foldl putS (sortT (cvT r.If k))) y0 : (List ByteArray)), ov [v17] (sortT (cvars x0) : (List ByteArray)), ov [v2] (((sortT (cvars x0)).take q).foldl putS (sortT (cvT r.If k)) : (List ByteArray)), bx g7 [(.string r.Name), (.int .i64 r.Priority), u1, u3]]) rfl (Cr (p1 rfl (q1 rfl (D_add rfl rfl rfl (r := ((q + 1 : Nat) : Int)) (by omega) (by omega)) (Pe rfl (D_eq 0 rfl (show (putS (((sortT (cvars x0)).take q).foldl putS (sortT (cvT r.If k))) y0 : (List ByteArray)) = ((sortT (cvars x0)).take (q + 1)).foldl putS (sortT (cvT r.If k)) from by exact foldT_step y0h) (fun ac w' hf hs => ⟨_, ?_, q + 1, v19, ?_, rfl, hf.weak ⟨rfl, rfl, rfl, rfl, rfl, trivial⟩, hs.pk [1, 0, 3] rfl rfl⟩))))))))))
     ·omega
     ·first | assumption | omega | simp
    ·have pr18 : ¬ (((q : Nat) : Int) : Int) < (((sortT (cvars x0)).length : Nat) : Int) := odF h18
     refine Cx (Xx (Xx (Xe (Xb (Xt (Cr (p1 rfl (q1 rfl (D_add rfl rfl rfl (r := ((k + 1 : Nat) : Int)) (by omega) (by omega)) (Pe rfl (D_eq 1 rfl (show (((sortT (cvars x0)).take q).foldl putS (sortT (cvT r.If k)) : (List ByteArray)) = sortT (cvT r.If (k + 1)) from by exact cvS_t x0h (by omega)) (fun ac w' hf hs => ⟨_, ?_, k + 1, v2, ?_, rfl, hf.weak ⟨rfl, rfl, rfl, trivial⟩, hs.pk [1, 2] rfl rfl⟩)))))))))))
     ·omega
     ·first | assumption | omega | simp
  ·have pr9 : ¬ (((k : Nat) : Int) : Int) < ((r.If.length : Nat) : Int) := odF h9
   refine Cx (Xx (Xx (Xe (Xt (Cq (Sr (Pe rfl (Cb (Cl (fun m_ ac w' => ∃ (j : Nat), ∃ (v3 : Value), (j ≤ r.Then.length) ∧ m_ = r.Then.length - j ∧ Fits ac 63 [(1, (.pointer (some ⟨g7, 0, none⟩))), (3, v3), (7, (.int .i64 ((j : Nat) : Int)))] ∧ St w ([ov [v3] (sortT (allV r ++ avT r j) : (List ByteArray)), bx g7 [(.string r.Name), (.int .i64 r.Priority), u1, u3]]) w') ?_ ?_)))))))))
   ·refine D_eq 0 rfl (show (sortT (cvT r.If k) : (List ByteArray)) = sortT (allV r ++ avT r 0) from by exact avS_zero (by omega) (by omega)) (fun ac w' hf hs => ⟨_, 0, v, ?_, rfl, hf.weak ⟨rfl, rfl, rfl, trivial⟩, hs⟩)
    ·first | assumption | omega | simp
   ·rintro m_ ac w' ⟨j, v3, hj, rfl, hf, hs⟩
    refine D.use ?_ hf hs
    clear hf hs ac w'
    have hcl2 := avT_len r j
    have hall := allV_len r
    have hcs2 := sortT_len (allV r ++ avT r j)
    rw [List.length_append] at hcs2
    refine Cq (Sr (p1 rfl (q1 rfl (Db f_96_3 rfl rfl (q := 3) rfl) (q1 rfl (lb 1 o_94 rfl rfl rfl rfl) (q1 rfl (Dl s_94 rfl rfl (rd_sl hu4)) (Pe rfl (Dh ([ov [v3] (sortT (allV r ++ avT r j) : (List ByteArray)), bx g7 [(.string r.Name), (.int .i64 r.Priority), u1, u3]]) rfl (Ci _ rfl (fun h20 => ?_) (fun h20 => ?_)))))))))
    ·have pr20 : (((j : Nat) : Int) : Int) < ((r.Then.length : Nat) : Int) := odT h20
     refine Sk (Cq (Cb (Sr (q1 rfl (Db f_96_3 rfl rfl (q := 3) rfl) (q1 rfl (lb 1 o_94 rfl rfl rfl rfl) (p1 rfl ?_))))))
     obtain ⟨a0, a0h⟩ := sL (l := r.Then) (i := j) (by omega)
     have haz := act_sz a0h
     have haa := szAct_args a0
     have hvl2 := varsL_len a0.Pattern.Args
     have hsl2 := sortT_len (varsL a0.Pattern.Args)
     have hao := ho.2.2.2 _ (List.mem_of_getElem? a0h)
     obtain ⟨es21, at22, hr23⟩ := rd_elem (n := 3) rfl hu4 a0h
     obtain ⟨u24, rfl, hu25⟩ := open_Action hr23
     have hm26 := rd_max hu25
     have hb27 := sub_Action_Pattern hr23
     refine q1 rfl (D_ix (l := r.Then) (j := j) s_94 rfl rfl rfl (fun w' hs => (rA hs hu4)) rfl (lS a0h)) (q1 rfl (D_fa f_159_1 rfl rfl) (q1 rfl (lra a_145 rfl rfl (at_sub (f := 1) (n := 2) at22 rfl)) (li rfl (crl b_159 rfl rfl rfl rfl (fun w' hs => (spec_VarsOf w' [(.string a0.Pattern.Rel), u24] a0.Pattern (rA hs hb27) (by first | assumption | omega | (unfold szm at *; split at * <;> omega)) (by first | exact hco.2.1 | exact hao.2))) fun v28 => ?_))))
     refine Pe rfl (Dh ([ov [v28] (sortT (varsL a0.Pattern.Args) : (List ByteArray)), ov [v3] (sortT (allV r ++ avT r j) : (List ByteArray)), bx g7 [(.string r.Name), (.int .i64 r.Priority), u1, u3]]) rfl (Sr (Pe rfl (Cb (Cl (fun m_ ac w' => ∃ (p : Nat), ∃ (v4 : Value), (p ≤ (sortT (varsL a0.Pattern.Args)).length) ∧ m_ = (sortT (varsL a0.Pattern.Args)).length - p ∧ Fits ac 63 [(1, (.pointer (some ⟨g7, 0, none⟩))), (3, v4), (7, (.int .i64 ((j : Nat) : Int))), (8, v28), (9, (.int .i64 ((p : Nat) : Int)))] ∧ St w ([ov [v28] (sortT (varsL a0.Pattern.Args) : (List ByteArray)), ov [v4] (((sortT (varsL a0.Pattern.Args)).take p).foldl putS (sortT (allV r ++ avT r j)) : (List ByteArray)), bx g7 [(.string r.Name), (.int .i64 r.Priority), u1, u3]]) w') ?_ ?_)))))
     ·refine D_eq 1 rfl (show (sortT (allV r ++ avT r j) : (List ByteArray)) = ((sortT (varsL a0.Pattern.Args)).take 0).foldl putS (sortT (allV r ++ avT r j)) from by rfl) (fun ac w' hf hs => ⟨_, 0, v3, ?_, rfl, hf.weak ⟨rfl, rfl, rfl, rfl, rfl, trivial⟩, hs⟩)
      ·first | assumption | omega | simp
     ·rintro m_ ac w' ⟨p, v4, hp, rfl, hf, hs⟩
      refine D.use ?_ hf hs
      clear hf hs ac w'
      have hfl := foldT_len (sortT (varsL a0.Pattern.Args)) (sortT (allV r ++ avT r j)) p
      refine Cq (Sr (P2 rfl rfl (q1 rfl (D_leno 0 s_58 rfl rfl rfl) (Pe rfl (Dh ([ov [v28] (sortT (varsL a0.Pattern.Args) : (List ByteArray)), ov [v4] (((sortT (varsL a0.Pattern.Args)).take p).foldl putS (sortT (allV r ++ avT r j)) : (List ByteArray)), bx g7 [(.string r.Name), (.int .i64 r.Priority), u1, u3]]) rfl (Ci _ rfl (fun h29 => ?_) (fun h29 => ?_)))))))
      ·have pr29 : (((p : Nat) : Int) : Int) < (((sortT (varsL a0.Pattern.Args)).length : Nat) : Int) := odT h29
       refine Sk (Cq (Cb (Cr (P3 rfl rfl rfl ?_))))
       obtain ⟨z0, z0h⟩ := sL (l := (sortT (varsL a0.Pattern.Args))) (i := p) (by omega)
       refine q1 rfl (D_ix (l := (sortT (varsL a0.Pattern.Args))) (j := p) s_58 rfl rfl rfl (fun w' hs => (rO (k := 0) hs rfl)) rfl (lS z0h)) (q1 rfl (lo (α := ByteArray) 0 o_9 rfl rfl rfl z0h) (li rfl (crl b_193 rfl rfl rfl rfl (fun w' hs => (spec_l1Put w' v4 (((sortT (varsL a0.Pattern.Args)).take p).foldl putS (sortT (allV r ++ avT r j))) z0 (rO (k := 1) hs rfl) (by first | assumption | omega | (unfold szm at *; split at * <;> omega)))) fun v30 => ?_)))
       refine p1 rfl (De (Xb (Xt (Dh ([ov [v30] (putS (((sortT (varsL a0.Pattern.Args)).take p).foldl putS (sortT (allV r ++ avT r j))) z0 : (List ByteArray)), ov [v28] (sortT (varsL a0.Pattern.Args) : (List ByteArray)), ov [v4] (((sortT (varsL a0.Pattern.Args)).take p).foldl putS (sortT (allV r ++ avT r j)) : (List ByteArray)), bx g7 [(.string r.Name), (.int .i64 r.Priority), u1, u3]]) rfl (Cr (p1 rfl (q1 rfl (D_add rfl rfl rfl (r := ((p + 1 : Nat) : Int)) (by omega) (by omega)) (Pe rfl (D_eq 0 rfl (show (putS (((sortT (varsL a0.Pattern.Args)).take p).foldl putS (sortT (allV r ++ avT r j))) z0 : (List ByteArray)) = ((sortT (varsL a0.Pattern.Args)).take (p + 1)).foldl putS (sortT (allV r ++ avT r j)) from by exact foldT_step z0h) (fun ac w' hf hs => ⟨_, ?_, p + 1, v30, ?_, rfl, hf.weak ⟨rfl, rfl, rfl, rfl, rfl, trivial⟩, hs.pk [1, 0, 3] rfl rfl⟩))))))))))
       ·omega
       ·first | assumption | omega | simp
      ·have pr29 : ¬ (((p : Nat) : Int) : Int) < (((sortT (varsL a0.Pattern.Args)).length : Nat) : Int) := odF h29
       refine Cx (Xx (Xx (Xe (Xb (Xt (Cr (p1 rfl (q1 rfl (D_add rfl rfl rfl (r := ((j + 1 : Nat) : Int)) (by omega) (by omega)) (Pe rfl (D_eq 1 rfl (show (((sortT (varsL a0.Pattern.Args)).take p).foldl putS (sortT (allV r ++ avT r j)) : (List ByteArray)) = sortT (allV r ++ avT r (j + 1)) from by exact avS_t a0h (by omega)) (fun ac w' hf hs => ⟨_, ?_, j + 1, v4, ?_, rfl, hf.weak ⟨rfl, rfl, rfl, trivial⟩, hs.pk [1, 2] rfl rfl⟩)))))))))))
       ·omega
       ·first | assumption | omega | simp
    ·have pr20 : ¬ (((j : Nat) : Int) : Int) < ((r.Then.length : Nat) : Int) := odF h20
     refine Cx (Xx (Xx (Xe (Xt (Sr (P2 rfl rfl (Dx (Ct (R_1 rfl rfl fun w' hs => res_of (k := 0) hs rfl ?_)))))))))
     show sortT (allV r ++ avT r j) = sortT (allV r ++ avT r r.Then.length)
     exact avS_done (by omega) (by omega)
theorem impl_FindRule (w : World) (v_l : Value) (l : (List Rule)) (name : ByteArray) (h_l : Gd.rd w [v_l] l) : Calls Tryz.prog 109 [v_l, (.string name)].toArray w (Val w (.int .i64 (findT l name))) := by
 have hm1 := rd_max h_l
 refine enter 20 Tryz.func109 rfl rfl rfl (Sr (Pe rfl (Cq (Sr (p1 rfl (q1 rfl (Dl s_40 rfl rfl (rd_sl h_l)) (Pe rfl (Cb (Cl (fun m_ ac w' => ∃ (i : Nat), (i ≤ l.length) ∧ (∀ j, j < i → ∀ q, l[j]? = some q → q.Name ≠ name) ∧ m_ = l.length - i ∧ Fits ac 20 [(1, (.string name)), (7, v_l), (8, (.int .i64 ((l.length : Nat) : Int))), (9, (.int .i64 ((i : Nat) : Int)))] ∧ St w ([]) w') ?_ ?_)))))))))
 ·refine fun ac w' hf hs => ⟨_, 0, ?_, ?_, rfl, hf.weak ⟨rfl, rfl, rfl, rfl, trivial⟩, hs⟩
  ·first | assumption | omega | simp
  ·intro j hj; omega
 ·rintro m_ ac w' ⟨i, hi, hfn, rfl, hf, hs⟩
  refine D.use ?_ hf hs
  clear hf hs ac w'
  refine Sr (Pe rfl (Cq (Ci _ rfl (fun h2 => ?_) (fun h2 => ?_))))
  ·have pr2 : (((i : Nat) : Int) : Int) < ((l.length : Nat) : Int) := odT h2
   refine Sk (Cq (Cb (Sr (p1 rfl ?_))))
   obtain ⟨q0, q0h⟩ := sL (l := l) (i := i) (by omega)
   obtain ⟨es3, at4, hr5⟩ := rd_elem (n := 4) rfl h_l q0h
   obtain ⟨u6, u9, rfl, hu7, hu10⟩ := open_Rule hr5
   have hm11 := rd_max hu7
   have hm12 := rd_max hu10
   refine q1 rfl (D_ix (l := l) (j := i) s_40 rfl rfl rfl (fun w' hs => (rA hs h_l)) rfl (lS q0h)) (q1 rfl (lra a_96 rfl rfl at4) (li rfl (D_alloc y_96 rfl rfl rfl rfl fun g13 => ?_)))
   refine p1 rfl (li rfl (D_stb (vs := [(.string q0.Name), (.int .i64 q0.Priority), u6, u9]) (cs' := [(.string q0.Name), (.int .i64 q0.Priority), u6, u9]) 0 z_96 rfl rfl rfl rfl rfl rfl (ocons rfl (ocons rfl (ocons (one_rd hu7) (ocons (one_rd hu10) onil)))) (by simp) rfl ?_))
   refine Dx (Dh ([bx g13 [(.string q0.Name), (.int .i64 q0.Priority), u6, u9]]) rfl (Sr (q1 rfl (Db f_96_0 rfl rfl (q := 0) rfl) (q1 rfl (lb 0 o_9 rfl rfl rfl rfl) (p1 rfl (q1 rfl (D_eqS rfl rfl rfl) (Dx (Ci _ rfl (fun h14 => ?_) (fun h14 => ?_)))))))))
   ·have pr14 : (q0.Name : ByteArray) = name := odT h14
    refine Sr (P2 rfl rfl (Dx (Ct (Xq (Xr (Xr (Xq (Xr (Ri rfl rfl ?_)))))))))
    show (((i : Nat) : Int) : Int) = _
    exact find_y q0h (by assumption) hfn
   ·have pr14 : ¬ (q0.Name : ByteArray) = name := odF h14
    refine Ck (Xb (Xt (Cr (q1 rfl (D_add rfl rfl rfl (r := ((i + 1 : Nat) : Int)) (by omega) (by omega)) (Pe rfl (fun ac w' hf hs => ⟨_, ?_, i + 1, ?_, ?_, rfl, hf.weak ⟨rfl, rfl, rfl, rfl, trivial⟩, hs.pk [] rfl rfl⟩))))))
    ·omega
    ·first | assumption | omega | simp
    ·refine forall_step hfn ?_; intro y hy; obtain rfl : y = q0 := Option.some.inj (hy.symm.trans q0h); assumption
  ·have pr2 : ¬ (((i : Nat) : Int) : Int) < ((l.length : Nat) : Int) := odF h2
   refine Cx (Xx (Xx (Xe (Xt (Sr (Pe rfl (Ct (Ri rfl rfl ?_))))))))
   show ((-1) : Int) = _
   exact find_n (fun j h => hfn j (by omega))
theorem spec_FindRule (w : World) (v_l : Value) (l : (List Rule)) (name : ByteArray) (h_l : Gd.rd w [v_l] l) : Calls Tryz.prog 40 [v_l, (.string name)].toArray w (Val w (.int .i64 (findT l name))) := by
 have hm1 := rd_max h_l
 refine enter 20 Tryz.func40 rfl rfl rfl (Sr (Pe rfl (Cq (Sr (Pe rfl (Cb (Cl (fun m_ ac w' => ∃ (i : Nat), (i ≤ l.length) ∧ (∀ j, j < i → ∀ q, l[j]? = some q → q.Name ≠ name) ∧ m_ = l.length - i ∧ Fits ac 20 [(0, v_l), (1, (.string name)), (5, (.int .i64 ((i : Nat) : Int)))] ∧ St w ([]) w') ?_ ?_)))))))
 ·refine fun ac w' hf hs => ⟨_, 0, ?_, ?_, rfl, hf.weak ⟨rfl, rfl, rfl, trivial⟩, hs⟩
  ·first | assumption | omega | simp
  ·intro j hj; omega
 ·rintro m_ ac w' ⟨i, hi, hfn, rfl, hf, hs⟩
  refine D.use ?_ hf hs
  clear hf hs ac w'
  refine Cq (Sr (P2 rfl rfl (q1 rfl (Dl s_40 rfl rfl (rd_sl h_l)) (Pe rfl (Ci _ rfl (fun h2 => ?_) (fun h2 => ?_))))))
  ·have pr2 : (((i : Nat) : Int) : Int) < ((l.length : Nat) : Int) := odT h2
   refine Sk (Cq (Cb (Sr (P2 rfl rfl ?_))))
   obtain ⟨q0, q0h⟩ := sL (l := l) (i := i) (by omega)
   obtain ⟨es3, at4, hr5⟩ := rd_elem (n := 4) rfl h_l q0h
   obtain ⟨u6, u9, rfl, hu7, hu10⟩ := open_Rule hr5
   have hm11 := rd_max hu7
   have hm12 := rd_max hu10
   refine q1 rfl (D_ix (l := l) (j := i) s_40 rfl rfl rfl (fun w' hs => (rA hs h_l)) rfl (lS q0h)) (q1 rfl (D_fa f_96_0 rfl rfl) (q1 rfl (lr o_9 rfl rfl at4 rfl) (p1 rfl (q1 rfl (D_eqS rfl rfl rfl) (Dx (Ci _ rfl (fun h13 => ?_) (fun h13 => ?_)))))))
   ·have pr13 : (q0.Name : ByteArray) = name := odT h13
    refine Sr (P2 rfl rfl (Dx (Ct (Xq (Xr (Xr (Xq (Xr (Ri rfl rfl ?_)))))))))
    show (((i : Nat) : Int) : Int) = _
    exact find_y q0h (by assumption) hfn
   ·have pr13 : ¬ (q0.Name : ByteArray) = name := odF h13
    refine Ck (Xb (Xt (Cr (p1 rfl (q1 rfl (D_add rfl rfl rfl (r := ((i + 1 : Nat) : Int)) (by omega) (by omega)) (Pe rfl (fun ac w' hf hs => ⟨_, ?_, i + 1, ?_, ?_, rfl, hf.weak ⟨rfl, rfl, rfl, trivial⟩, hs⟩)))))))
    ·omega
    ·first | assumption | omega | simp
    ·refine forall_step hfn ?_; intro y hy; obtain rfl : y = q0 := Option.some.inj (hy.symm.trans q0h); assumption
  ·have pr2 : ¬ (((i : Nat) : Int) : Int) < ((l.length : Nat) : Int) := odF h2
   refine Cx (Xx (Xx (Xe (Xt (Sr (Pe rfl (Ct (Ri rfl rfl ?_))))))))
   show ((-1) : Int) = _
   exact find_n (fun j h => hfn j (by omega))
set_option maxHeartbeats 4000000 in
theorem impl_IsRule (w : World) (c_r : List Value) (r : Rule) (h_r : Gd.rd w c_r r) (hn : szRule r ≤ 1048576) : Calls Tryz.prog 108 [(.agg c_r.toArray)].toArray w (Val w (.bool (isRuleB r))) := by
 obtain ⟨u1, u3, rfl, hu2, hu4⟩ := open_Rule h_r
 have hm5 := rd_max hu2
 have hm6 := rd_max hu4
 have hn0 := hn
 unfold szRule szL at hn
 have hcl := csT_len r.If r.If.length
 refine enter 111 Tryz.func108 rfl rfl rfl (Sr (li rfl (D_box rfl rfl rfl rfl rfl fun g7 => ?_)))
 refine Pe rfl (Dh ([bx g7 [(.string r.Name), (.int .i64 r.Priority), u1, u3]]) rfl (Cq (Sr (q1 rfl (Db f_96_0 rfl rfl (q := 0) rfl) (q1 rfl (lb 0 o_9 rfl rfl rfl rfl) (li rfl (cv b_147 rfl rfl rfl rfl (fun w' hs => (impl_IsName w' r.Name)) ?_)))))))
 refine P2 rfl rfl (gs 14 rfl rfl (fun h8 => ?_) (fun h8 => ?_))
 ·have h8n : (isNameB r.Name) = false := not_t h8
  refine n1 rfl (n1 rfl (n1 rfl (P2 rfl rfl (n1 rfl (n1 rfl (n1 rfl (P2 rfl rfl (n1 rfl (n1 rfl (n1 rfl (n1 rfl (P2 rfl rfl (n1 rfl (n1 rfl (n1 rfl (n1 rfl (P2 rfl rfl (n1 rfl (n1 rfl (n1 rfl (n1 rfl (P2 rfl rfl (n1 rfl ?_)))))))))))))))))))))))
  refine n1 rfl (n1 rfl (n1 rfl (Pe rfl (Dw [(1, (.pointer (some ⟨g7, 0, none⟩))), (47, (.bool true))] ⟨rfl, rfl, trivial⟩ (C_t rfl (Sr (Pe rfl (Ct (Xr (Rb rfl rfl ?_))))))))))
  first | (first | exact ru_n1 (.inl (by assumption)) | exact ru_n1 (.inr (.inl (by first | assumption | (unfold inR; simp; omega)))) | exact ru_n1 (.inr (.inr (.inl (by first | assumption | (unfold inR; simp; omega))))) | exact ru_n1 (.inr (.inr (.inr (by first | assumption | (unfold inR; simp; omega))))); done) | (exact ru_n2 (k := k) (lS x0h) (by first | exact condOk_f1 x0h (by assumption) | exact condOk_f2 x0h (by omega) (by omega) | exact condOk_f3 x0h (by assumption) | exact condOk_f3s x0h v0h (okV_sf (by assumption) (by assumption)) | exact condOk_f3s x0h v0h (okV_f (by omega) (by assumption) (.inr (by assumption)))); done) | (exact ru_n3 a0h (by first | exact actOk_f1 (by assumption) | exact actOk_f2 w0h (by assumption) | exact actOk_f2s w0h (by assumption)); done) | (refine ru_y (by assumption) (by first | assumption | (unfold inR; simp; omega)) (by first | assumption | (unfold inR; simp; omega)) (by first | assumption | (unfold inR; simp; omega)) (fun i h => hc i (by omega)) (fun i h => ha i (by omega)) ?_; first | (rw [cs_cv]; rfl) | exact rv_len (fun i h => ha i (by omega)); done)
 ·have h8n : (isNameB r.Name) = true := not_f h8
  refine q1 rfl (Db f_96_1 rfl rfl (q := 1) rfl) (q1 rfl (lb 0 o_3 rfl rfl rfl rfl) (P3 rfl rfl rfl (gs 19 rfl rfl (fun h9 => ?_) (fun h9 => ?_))))
  ·have pr9 : (r.Priority : Int) < 0 := odT h9
   refine n1 rfl (n1 rfl (n1 rfl (P2 rfl rfl (n1 rfl (n1 rfl (n1 rfl (n1 rfl (P2 rfl rfl (n1 rfl (n1 rfl (n1 rfl (n1 rfl (P2 rfl rfl (n1 rfl (n1 rfl (n1 rfl (n1 rfl (P2 rfl rfl (n1 rfl (n1 rfl (n1 rfl (n1 rfl (p1 rfl ?_)))))))))))))))))))))))
   refine Dx (Dw [(1, (.pointer (some ⟨g7, 0, none⟩))), (47, (.bool true))] ⟨rfl, rfl, trivial⟩ (C_t rfl (Sr (Pe rfl (Ct (Xr (Rb rfl rfl ?_)))))))
   first | (first | exact ru_n1 (.inl (by assumption)) | exact ru_n1 (.inr (.inl (by first | assumption | (unfold inR; simp; omega)))) | exact ru_n1 (.inr (.inr (.inl (by first | assumption | (unfold inR; simp; omega))))) | exact ru_n1 (.inr (.inr (.inr (by first | assumption | (unfold inR; simp; omega))))); done) | (exact ru_n2 (k := k) (lS x0h) (by first | exact condOk_f1 x0h (by assumption) | exact condOk_f2 x0h (by omega) (by omega) | exact condOk_f3 x0h (by assumption) | exact condOk_f3s x0h v0h (okV_sf (by assumption) (by assumption)) | exact condOk_f3s x0h v0h (okV_f (by omega) (by assumption) (.inr (by assumption)))); done) | (exact ru_n3 a0h (by first | exact actOk_f1 (by assumption) | exact actOk_f2 w0h (by assumption) | exact actOk_f2s w0h (by assumption)); done) | (refine ru_y (by assumption) (by first | assumption | (unfold inR; simp; omega)) (by first | assumption | (unfold inR; simp; omega)) (by first | assumption | (unfold inR; simp; omega)) (fun i h => hc i (by omega)) (fun i h => ha i (by omega)) ?_; first | (rw [cs_cv]; rfl) | exact rv_len (fun i h => ha i (by omega)); done)
  ·have pr9 : ¬ (r.Priority : Int) < 0 := odF h9
   refine q1 rfl (Db f_96_1 rfl rfl (q := 1) rfl) (q1 rfl (lb 0 o_3 rfl rfl rfl rfl) (P3 rfl rfl rfl (gs 24 rfl rfl (fun h10 => ?_) (fun h10 => ?_))))
   ·have pr10 : (9 : Int) < r.Priority := odT h10
    refine n1 rfl (n1 rfl (n1 rfl (n1 rfl (P2 rfl rfl (n1 rfl (n1 rfl (n1 rfl (n1 rfl (P2 rfl rfl (n1 rfl (n1 rfl (n1 rfl (n1 rfl (P2 rfl rfl (n1 rfl (n1 rfl (n1 rfl (n1 rfl (Pe rfl (Dw [(1, (.pointer (some ⟨g7, 0, none⟩))), (47, (.bool true))] ⟨rfl, rfl, trivial⟩ (C_t rfl ?_)))))))))))))))))))))
    refine Sr (Pe rfl (Ct (Xr (Rb rfl rfl ?_))))
    first | (first | exact ru_n1 (.inl (by assumption)) | exact ru_n1 (.inr (.inl (by first | assumption | (unfold inR; simp; omega)))) | exact ru_n1 (.inr (.inr (.inl (by first | assumption | (unfold inR; simp; omega))))) | exact ru_n1 (.inr (.inr (.inr (by first | assumption | (unfold inR; simp; omega))))); done) | (exact ru_n2 (k := k) (lS x0h) (by first | exact condOk_f1 x0h (by assumption) | exact condOk_f2 x0h (by omega) (by omega) | exact condOk_f3 x0h (by assumption) | exact condOk_f3s x0h v0h (okV_sf (by assumption) (by assumption)) | exact condOk_f3s x0h v0h (okV_f (by omega) (by assumption) (.inr (by assumption)))); done) | (exact ru_n3 a0h (by first | exact actOk_f1 (by assumption) | exact actOk_f2 w0h (by assumption) | exact actOk_f2s w0h (by assumption)); done) | (refine ru_y (by assumption) (by first | assumption | (unfold inR; simp; omega)) (by first | assumption | (unfold inR; simp; omega)) (by first | assumption | (unfold inR; simp; omega)) (fun i h => hc i (by omega)) (fun i h => ha i (by omega)) ?_; first | (rw [cs_cv]; rfl) | exact rv_len (fun i h => ha i (by omega)); done)
   ·have pr10 : ¬ (9 : Int) < r.Priority := odF h10
    refine q1 rfl (Db f_96_2 rfl rfl (q := 2) rfl) (q1 rfl (lb 0 o_93 rfl rfl rfl rfl) (q1 rfl (Dl s_93 rfl rfl (rd_sl hu2)) (P3 rfl rfl rfl (gs 30 rfl rfl (fun h11 => ?_) (fun h11 => ?_)))))
    ·have pr11 : (((r.If.length : Nat) : Int) : Int) < 1 := odT h11
     refine n1 rfl (n1 rfl (n1 rfl (n1 rfl (P2 rfl rfl (n1 rfl (n1 rfl (n1 rfl (n1 rfl (P2 rfl rfl (n1 rfl (n1 rfl (n1 rfl (n1 rfl (Pe rfl (Dw [(1, (.pointer (some ⟨g7, 0, none⟩))), (47, (.bool true))] ⟨rfl, rfl, trivial⟩ (C_t rfl (Sr (Pe rfl ?_))))))))))))))))))
     refine Ct (Xr (Rb rfl rfl ?_))
     first | (first | exact ru_n1 (.inl (by assumption)) | exact ru_n1 (.inr (.inl (by first | assumption | (unfold inR; simp; omega)))) | exact ru_n1 (.inr (.inr (.inl (by first | assumption | (unfold inR; simp; omega))))) | exact ru_n1 (.inr (.inr (.inr (by first | assumption | (unfold inR; simp; omega))))); done) | (exact ru_n2 (k := k) (lS x0h) (by first | exact condOk_f1 x0h (by assumption) | exact condOk_f2 x0h (by omega) (by omega) | exact condOk_f3 x0h (by assumption) | exact condOk_f3s x0h v0h (okV_sf (by assumption) (by assumption)) | exact condOk_f3s x0h v0h (okV_f (by omega) (by assumption) (.inr (by assumption)))); done) | (exact ru_n3 a0h (by first | exact actOk_f1 (by assumption) | exact actOk_f2 w0h (by assumption) | exact actOk_f2s w0h (by assumption)); done) | (refine ru_y (by assumption) (by first | assumption | (unfold inR; simp; omega)) (by first | assumption | (unfold inR; simp; omega)) (by first | assumption | (unfold inR; simp; omega)) (fun i h => hc i (by omega)) (fun i h => ha i (by omega)) ?_; first | (rw [cs_cv]; rfl) | exact rv_len (fun i h => ha i (by omega)); done)
    ·have pr11 : ¬ (((r.If.length : Nat) : Int) : Int) < 1 := odF h11
     refine q1 rfl (Db f_96_2 rfl rfl (q := 2) rfl) (q1 rfl (lb 0 o_93 rfl rfl rfl rfl) (q1 rfl (Dl s_93 rfl rfl (rd_sl hu2)) (P3 rfl rfl rfl (gs 36 rfl rfl (fun h12 => ?_) (fun h12 => ?_)))))
     ·have pr12 : (4 : Int) < ((r.If.length : Nat) : Int) := odT h12
      refine n1 rfl (n1 rfl (n1 rfl (n1 rfl (P2 rfl rfl (n1 rfl (n1 rfl (n1 rfl (n1 rfl (Pe rfl (Dw [(1, (.pointer (some ⟨g7, 0, none⟩))), (47, (.bool true))] ⟨rfl, rfl, trivial⟩ (C_t rfl (Sr (Pe rfl (Ct (Xr (Rb rfl rfl ?_))))))))))))))))
      first | (first | exact ru_n1 (.inl (by assumption)) | exact ru_n1 (.inr (.inl (by first | assumption | (unfold inR; simp; omega)))) | exact ru_n1 (.inr (.inr (.inl (by first | assumption | (unfold inR; simp; omega))))) | exact ru_n1 (.inr (.inr (.inr (by first | assumption | (unfold inR; simp; omega))))); done) | (exact ru_n2 (k := k) (lS x0h) (by first | exact condOk_f1 x0h (by assumption) | exact condOk_f2 x0h (by omega) (by omega) | exact condOk_f3 x0h (by assumption) | exact condOk_f3s x0h v0h (okV_sf (by assumption) (by assumption)) | exact condOk_f3s x0h v0h (okV_f (by omega) (by assumption) (.inr (by assumption)))); done) | (exact ru_n3 a0h (by first | exact actOk_f1 (by assumption) | exact actOk_f2 w0h (by assumption) | exact actOk_f2s w0h (by assumption)); done) | (refine ru_y (by assumption) (by first | assumption | (unfold inR; simp; omega)) (by first | assumption | (unfold inR; simp; omega)) (by first | assumption | (unfold inR; simp; omega)) (fun i h => hc i (by omega)) (fun i h => ha i (by omega)) ?_; first | (rw [cs_cv]; rfl) | exact rv_len (fun i h => ha i (by omega)); done)
     ·have pr12 : ¬ (4 : Int) < ((r.If.length : Nat) : Int) := odF h12
      refine q1 rfl (Db f_96_3 rfl rfl (q := 3) rfl) (q1 rfl (lb 0 o_94 rfl rfl rfl rfl) (q1 rfl (Dl s_94 rfl rfl (rd_sl hu4)) (P3 rfl rfl rfl (gs 42 rfl rfl (fun h13 => ?_) (fun h13 => ?_)))))
      ·have pr13 : (((r.Then.length : Nat) : Int) : Int) < 1 := odT h13
       refine n1 rfl (n1 rfl (n1 rfl (n1 rfl (Pe rfl (Dw [(1, (.pointer (some ⟨g7, 0, none⟩))), (47, (.bool true))] ⟨rfl, rfl, trivial⟩ (C_t rfl (Sr (Pe rfl (Ct (Xr (Rb rfl rfl ?_)))))))))))
       first | (first | exact ru_n1 (.inl (by assumption)) | exact ru_n1 (.inr (.inl (by first | assumption | (unfold inR; simp; omega)))) | exact ru_n1 (.inr (.inr (.inl (by first | assumption | (unfold inR; simp; omega))))) | exact ru_n1 (.inr (.inr (.inr (by first | assumption | (unfold inR; simp; omega))))); done) | (exact ru_n2 (k := k) (lS x0h) (by first | exact condOk_f1 x0h (by assumption) | exact condOk_f2 x0h (by omega) (by omega) | exact condOk_f3 x0h (by assumption) | exact condOk_f3s x0h v0h (okV_sf (by assumption) (by assumption)) | exact condOk_f3s x0h v0h (okV_f (by omega) (by assumption) (.inr (by assumption)))); done) | (exact ru_n3 a0h (by first | exact actOk_f1 (by assumption) | exact actOk_f2 w0h (by assumption) | exact actOk_f2s w0h (by assumption)); done) | (refine ru_y (by assumption) (by first | assumption | (unfold inR; simp; omega)) (by first | assumption | (unfold inR; simp; omega)) (by first | assumption | (unfold inR; simp; omega)) (fun i h => hc i (by omega)) (fun i h => ha i (by omega)) ?_; first | (rw [cs_cv]; rfl) | exact rv_len (fun i h => ha i (by omega)); done)
      ·have pr13 : ¬ (((r.Then.length : Nat) : Int) : Int) < 1 := odF h13
       refine q1 rfl (Db f_96_3 rfl rfl (q := 3) rfl) (q1 rfl (lb 0 o_94 rfl rfl rfl rfl) (q1 rfl (Dl s_94 rfl rfl (rd_sl hu4)) (P2 rfl rfl (Dx (Dw [(1, (.pointer (some ⟨g7, 0, none⟩))), (47, (.bool (decide ((2 : Int) < ((r.Then.length : Nat) : Int)))))] ⟨rfl, rfl, trivial⟩ (Ci _ rfl (fun h14 => ?_) (fun h14 => ?_)))))))
       ·have pr14 : (2 : Int) < ((r.Then.length : Nat) : Int) := odT h14
        refine Sr (Pe rfl (Ct (Xr (Rb rfl rfl ?_))))
        first | (first | exact ru_n1 (.inl (by assumption)) | exact ru_n1 (.inr (.inl (by first | assumption | (unfold inR; simp; omega)))) | exact ru_n1 (.inr (.inr (.inl (by first | assumption | (unfold inR; simp; omega))))) | exact ru_n1 (.inr (.inr (.inr (by first | assumption | (unfold inR; simp; omega))))); done) | (exact ru_n2 (k := k) (lS x0h) (by first | exact condOk_f1 x0h (by assumption) | exact condOk_f2 x0h (by omega) (by omega) | exact condOk_f3 x0h (by assumption) | exact condOk_f3s x0h v0h (okV_sf (by assumption) (by assumption)) | exact condOk_f3s x0h v0h (okV_f (by omega) (by assumption) (.inr (by assumption)))); done) | (exact ru_n3 a0h (by first | exact actOk_f1 (by assumption) | exact actOk_f2 w0h (by assumption) | exact actOk_f2s w0h (by assumption)); done) | (refine ru_y (by assumption) (by first | assumption | (unfold inR; simp; omega)) (by first | assumption | (unfold inR; simp; omega)) (by first | assumption | (unfold inR; simp; omega)) (fun i h => hc i (by omega)) (fun i h => ha i (by omega)) ?_; first | (rw [cs_cv]; rfl) | exact rv_len (fun i h => ha i (by omega)); done)
       ·have pr14 : ¬ (2 : Int) < ((r.Then.length : Nat) : Int) := odF h14
        refine Sk (Cq (Sr (q1 rfl (Db f_96_2 rfl rfl (q := 2) rfl) (q1 rfl (lb 0 o_93 rfl rfl rfl rfl) (q1 rfl (Dl s_93 rfl rfl (rd_sl hu2)) (Pe rfl (Cb (Cl (fun m_ ac w' => ∃ (k : Nat), (k ≤ r.If.length) ∧ (∀ i, i < k → condOk r i = true) ∧ m_ = r.If.length - k ∧ Fits ac 111 [(1, (.pointer (some ⟨g7, 0, none⟩))), (49, u1), (50, (.int .i64 ((r.If.length : Nat) : Int))), (51, (.int .i64 ((k : Nat) : Int)))] ∧ St w ([bx g7 [(.string r.Name), (.int .i64 r.Priority), u1, u3]]) w') ?_ ?_))))))))
        ·refine fun ac w' hf hs => ⟨_, 0, ?_, ?_, rfl, hf.weak ⟨rfl, rfl, rfl, rfl, trivial⟩, hs⟩
         ·first | assumption | omega | simp
         ·intro i hi; omega
        ·rintro m_ ac w' ⟨k, hk, hc, rfl, hf, hs⟩
         refine D.use ?_ hf hs
         clear hf hs ac w'
         refine Sr (Pe rfl (Cq (Ci _ rfl (fun h15 => ?_) (fun h15 => ?_))))
         ·have pr15 : (((k : Nat) : Int) : Int) < ((r.If.length : Nat) : Int) := odT h15
          refine Sk (Cq (Cb (Sr (p1 rfl ?_))))
          obtain ⟨x0, x0h⟩ := sL (l := r.If) (i := k) (by omega)
          have hcz := cond_sz x0h
          have hca := szCond_args x0
          have hvl := varsL_len x0.Pattern.Args
          have hsl := sortT_len (varsL x0.Pattern.Args)
          have hcl0 := cvars_len x0
          have hscl := sortT_len (cvars x0)
          obtain ⟨es16, at17, hr18⟩ := rd_elem (n := 5) rfl hu2 x0h
          obtain ⟨u19, rfl, hu20⟩ := open_Cond hr18
          have hm21 := rd_max hu20
          have hb22 := sub_Cond_Pattern hr18
          refine q1 rfl (D_ix (l := r.If) (j := k) s_93 rfl rfl rfl (fun w' hs => (rA hs hu2)) rfl (lS x0h)) (q1 rfl (lra a_147 rfl rfl at17) (li rfl (D_alloc y_147 rfl rfl rfl rfl fun g23 => ?_)))
          refine p1 rfl (li rfl (D_stb (vs := [(.int .i64 x0.Kind), (.string x0.Pattern.Rel), u19, (.string x0.Left), (.string x0.Right)]) (cs' := [(.int .i64 x0.Kind), (.string x0.Pattern.Rel), u19, (.string x0.Left), (.string x0.Right)]) 0 z_147 rfl rfl rfl rfl rfl rfl (ocons rfl (ocons rfl (ocons (one_rd hu20) (ocons rfl (ocons rfl onil))))) (by simp) rfl ?_))
          refine Dx (Dh ([bx g23 [(.int .i64 x0.Kind), (.string x0.Pattern.Rel), u19, (.string x0.Left), (.string x0.Right)], bx g7 [(.string r.Name), (.int .i64 r.Priority), u1, u3]]) rfl (Sr (q1 rfl (lbw 0 a_147 rfl rfl rfl) (li rfl (cv b_163 rfl rfl rfl rfl (fun w' hs => (impl_IsCond w' [(.int .i64 x0.Kind), (.string x0.Pattern.Rel), u19, (.string x0.Left), (.string x0.Right)] x0 (rA hs hr18))) ?_)))))
          refine P2 rfl rfl (gs 59 rfl rfl (fun h24 => ?_) (fun h24 => ?_))
          ·have h24n : (isCondB x0) = false := not_t h24
           refine n1 rfl (n1 rfl (n1 rfl (n1 rfl (n1 rfl (n1 rfl (n1 rfl (P2 rfl rfl (n1 rfl (n1 rfl (n1 rfl (n1 rfl (Pe rfl (Dw [(1, (.pointer (some ⟨g7, 0, none⟩))), (49, u1), (50, (.int .i64 ((r.If.length : Nat) : Int))), (51, (.int .i64 ((k : Nat) : Int))), (73, (.bool true))] ⟨rfl, rfl, rfl, rfl, rfl, trivial⟩ (Ds (H' := [bx g7 [(.string r.Name), (.int .i64 r.Priority), u1, u3]]) [false, true] rfl (C_t rfl (Sr (Pe rfl (Ct ?_))))))))))))))))))
           refine Xq (Xr (Xr (Xq (Xr (Rb rfl rfl ?_)))))
           first | (first | exact ru_n1 (.inl (by assumption)) | exact ru_n1 (.inr (.inl (by first | assumption | (unfold inR; simp; omega)))) | exact ru_n1 (.inr (.inr (.inl (by first | assumption | (unfold inR; simp; omega))))) | exact ru_n1 (.inr (.inr (.inr (by first | assumption | (unfold inR; simp; omega))))); done) | (exact ru_n2 (k := k) (lS x0h) (by first | exact condOk_f1 x0h (by assumption) | exact condOk_f2 x0h (by omega) (by omega) | exact condOk_f3 x0h (by assumption) | exact condOk_f3s x0h v0h (okV_sf (by assumption) (by assumption)) | exact condOk_f3s x0h v0h (okV_f (by omega) (by assumption) (.inr (by assumption)))); done) | (exact ru_n3 a0h (by first | exact actOk_f1 (by assumption) | exact actOk_f2 w0h (by assumption) | exact actOk_f2s w0h (by assumption)); done) | (refine ru_y (by assumption) (by first | assumption | (unfold inR; simp; omega)) (by first | assumption | (unfold inR; simp; omega)) (by first | assumption | (unfold inR; simp; omega)) (fun i h => hc i (by omega)) (fun i h => ha i (by omega)) ?_; first | (rw [cs_cv]; rfl) | exact rv_len (fun i h => ha i (by omega)); done)
          ·have h24n : (isCondB x0) = true := not_f h24
           refine P3 rfl rfl rfl (gs 62 rfl rfl (fun h25 => ?_) (fun h25 => ?_))
           ·have pr25 : (((k : Nat) : Int) : Int) = 0 := eq_of_beq h25
            refine q1 rfl (Db f_147_0 rfl rfl (q := 0) rfl) (q1 rfl (lb 0 o_3 rfl rfl rfl rfl) (P3 rfl rfl rfl (p1 rfl (gs 68 rfl rfl (fun h26 => ?_) (fun h26 => ?_)))))
            ·have pr26 : (x0.Kind : Int) ≠ 1 := bne_iff_ne.1 h26
             refine n1 rfl (n1 rfl (n1 rfl (n1 rfl (Pe rfl (Dw [(1, (.pointer (some ⟨g7, 0, none⟩))), (49, u1), (50, (.int .i64 ((r.If.length : Nat) : Int))), (51, (.int .i64 ((k : Nat) : Int))), (73, (.bool true))] ⟨rfl, rfl, rfl, rfl, rfl, trivial⟩ (Ds (H' := [bx g7 [(.string r.Name), (.int .i64 r.Priority), u1, u3]]) [false, true] rfl (C_t rfl (Sr (Pe rfl (Ct (Xq (Xr (Xr (Xq (Xr (Rb rfl rfl ?_))))))))))))))))
             first | (first | exact ru_n1 (.inl (by assumption)) | exact ru_n1 (.inr (.inl (by first | assumption | (unfold inR; simp; omega)))) | exact ru_n1 (.inr (.inr (.inl (by first | assumption | (unfold inR; simp; omega))))) | exact ru_n1 (.inr (.inr (.inr (by first | assumption | (unfold inR; simp; omega))))); done) | (exact ru_n2 (k := k) (lS x0h) (by first | exact condOk_f1 x0h (by assumption) | exact condOk_f2 x0h (by omega) (by omega) | exact condOk_f3 x0h (by assumption) | exact condOk_f3s x0h v0h (okV_sf (by assumption) (by assumption)) | exact condOk_f3s x0h v0h (okV_f (by omega) (by assumption) (.inr (by assumption)))); done) | (exact ru_n3 a0h (by first | exact actOk_f1 (by assumption) | exact actOk_f2 w0h (by assumption) | exact actOk_f2s w0h (by assumption)); done) | (refine ru_y (by assumption) (by first | assumption | (unfold inR; simp; omega)) (by first | assumption | (unfold inR; simp; omega)) (by first | assumption | (unfold inR; simp; omega)) (fun i h => hc i (by omega)) (fun i h => ha i (by omega)) ?_; first | (rw [cs_cv]; rfl) | exact rv_len (fun i h => ha i (by omega)); done)
            ·have pr26 : (x0.Kind : Int) = 1 := eq_of_bne_f h26
             refine q1 rfl (lbw 1 a_96 rfl rfl rfl) (p1 rfl (li rfl (cv b_164 rfl rfl rfl rfl (fun w' hs => (impl_condFits w' [(.string r.Name), (.int .i64 r.Priority), u1, u3] r ((k : Nat) : Int) (rA hs h_r) hn0 (by first | assumption | omega | (unfold szm at *; split at * <;> omega)) (by first | assumption | omega | (unfold szm at *; split at * <;> omega)))) ?_)))
             refine P2 rfl rfl (Dx (Dw [(1, (.pointer (some ⟨g7, 0, none⟩))), (49, u1), (50, (.int .i64 ((r.If.length : Nat) : Int))), (51, (.int .i64 ((k : Nat) : Int))), (73, (.bool (!(fitB r ((k : Nat) : Int)))))] ⟨rfl, rfl, rfl, rfl, rfl, trivial⟩ (Ds (H' := [bx g7 [(.string r.Name), (.int .i64 r.Priority), u1, u3]]) [false, true] rfl (Ci _ rfl (fun h27 => ?_) (fun h27 => ?_)))))
             ·have h27n : (fitB r ((k : Nat) : Int)) = false := not_t h27
              refine Sr (Pe rfl (Ct (Xq (Xr (Xr (Xq (Xr (Rb rfl rfl ?_))))))))
              first | (first | exact ru_n1 (.inl (by assumption)) | exact ru_n1 (.inr (.inl (by first | assumption | (unfold inR; simp; omega)))) | exact ru_n1 (.inr (.inr (.inl (by first | assumption | (unfold inR; simp; omega))))) | exact ru_n1 (.inr (.inr (.inr (by first | assumption | (unfold inR; simp; omega))))); done) | (exact ru_n2 (k := k) (lS x0h) (by first | exact condOk_f1 x0h (by assumption) | exact condOk_f2 x0h (by omega) (by omega) | exact condOk_f3 x0h (by assumption) | exact condOk_f3s x0h v0h (okV_sf (by assumption) (by assumption)) | exact condOk_f3s x0h v0h (okV_f (by omega) (by assumption) (.inr (by assumption)))); done) | (exact ru_n3 a0h (by first | exact actOk_f1 (by assumption) | exact actOk_f2 w0h (by assumption) | exact actOk_f2s w0h (by assumption)); done) | (refine ru_y (by assumption) (by first | assumption | (unfold inR; simp; omega)) (by first | assumption | (unfold inR; simp; omega)) (by first | assumption | (unfold inR; simp; omega)) (fun i h => hc i (by omega)) (fun i h => ha i (by omega)) ?_; first | (rw [cs_cv]; rfl) | exact rv_len (fun i h => ha i (by omega)); done)
             ·have h27n : (fitB r ((k : Nat) : Int)) = true := not_f h27
              refine Ck (Xb (Xt (Cr (q1 rfl (D_add rfl rfl rfl (r := ((k + 1 : Nat) : Int)) (by omega) (by omega)) (Pe rfl (fun ac w' hf hs => ⟨_, ?_, k + 1, ?_, ?_, rfl, hf.weak ⟨rfl, rfl, rfl, rfl, trivial⟩, hs⟩))))))
              ·omega
              ·first | assumption | omega | simp
              ·refine forall_step hc ?_; first | exact condOk_t x0h (by assumption) (by omega) (by assumption) | exact condOk_ts x0h (by assumption) (by omega) (fun i h => hok i (by omega))
           ·have pr25 : (((k : Nat) : Int) : Int) ≠ 0 := ne_of_beq_false h25
            refine n1 rfl (n1 rfl (n1 rfl (P3 rfl rfl rfl (q1 rfl (lbw 1 a_96 rfl rfl rfl) (p1 rfl (li rfl (cv b_164 rfl rfl rfl rfl (fun w' hs => (impl_condFits w' [(.string r.Name), (.int .i64 r.Priority), u1, u3] r ((k : Nat) : Int) (rA hs h_r) hn0 (by first | assumption | omega | (unfold szm at *; split at * <;> omega)) (by first | assumption | omega | (unfold szm at *; split at * <;> omega)))) ?_)))))))
            refine P2 rfl rfl (Dx (Dw [(1, (.pointer (some ⟨g7, 0, none⟩))), (49, u1), (50, (.int .i64 ((r.If.length : Nat) : Int))), (51, (.int .i64 ((k : Nat) : Int))), (73, (.bool (!(fitB r ((k : Nat) : Int)))))] ⟨rfl, rfl, rfl, rfl, rfl, trivial⟩ (Ds (H' := [bx g7 [(.string r.Name), (.int .i64 r.Priority), u1, u3]]) [false, true] rfl (Ci _ rfl (fun h28 => ?_) (fun h28 => ?_)))))
            ·have h28n : (fitB r ((k : Nat) : Int)) = false := not_t h28
             refine Sr (Pe rfl (Ct (Xq (Xr (Xr (Xq (Xr (Rb rfl rfl ?_))))))))
             first | (first | exact ru_n1 (.inl (by assumption)) | exact ru_n1 (.inr (.inl (by first | assumption | (unfold inR; simp; omega)))) | exact ru_n1 (.inr (.inr (.inl (by first | assumption | (unfold inR; simp; omega))))) | exact ru_n1 (.inr (.inr (.inr (by first | assumption | (unfold inR; simp; omega))))); done) | (exact ru_n2 (k := k) (lS x0h) (by first | exact condOk_f1 x0h (by assumption) | exact condOk_f2 x0h (by omega) (by omega) | exact condOk_f3 x0h (by assumption) | exact condOk_f3s x0h v0h (okV_sf (by assumption) (by assumption)) | exact condOk_f3s x0h v0h (okV_f (by omega) (by assumption) (.inr (by assumption)))); done) | (exact ru_n3 a0h (by first | exact actOk_f1 (by assumption) | exact actOk_f2 w0h (by assumption) | exact actOk_f2s w0h (by assumption)); done) | (refine ru_y (by assumption) (by first | assumption | (unfold inR; simp; omega)) (by first | assumption | (unfold inR; simp; omega)) (by first | assumption | (unfold inR; simp; omega)) (fun i h => hc i (by omega)) (fun i h => ha i (by omega)) ?_; first | (rw [cs_cv]; rfl) | exact rv_len (fun i h => ha i (by omega)); done)
            ·have h28n : (fitB r ((k : Nat) : Int)) = true := not_f h28
             refine Ck (Xb (Xt (Cr (q1 rfl (D_add rfl rfl rfl (r := ((k + 1 : Nat) : Int)) (by omega) (by omega)) (Pe rfl (fun ac w' hf hs => ⟨_, ?_, k + 1, ?_, ?_, rfl, hf.weak ⟨rfl, rfl, rfl, rfl, trivial⟩, hs⟩))))))
             ·omega
             ·first | assumption | omega | simp
             ·refine forall_step hc ?_; first | exact condOk_t x0h (by assumption) (by omega) (by assumption) | exact condOk_ts x0h (by assumption) (by omega) (fun i h => hok i (by omega))
         ·have pr15 : ¬ (((k : Nat) : Int) : Int) < ((r.If.length : Nat) : Int) := odF h15
          refine Cx (Xx (Xx (Xe (Xt (Sr (q1 rfl (lbw 0 a_96 rfl rfl rfl) (q1 rfl (Db f_96_2 rfl rfl (q := 2) rfl) (q1 rfl (lb 0 o_93 rfl rfl rfl rfl) (q1 rfl (Dl s_93 rfl rfl (rd_sl hu2)) (li rfl (crl b_165 rfl rfl rfl rfl (fun w' hs => (impl_BoundVars w' [(.string r.Name), (.int .i64 r.Priority), u1, u3] r ((r.If.length : Nat) : Int) (rA hs h_r) hn0)) fun v29 => ?_)))))))))))
          refine Pe rfl (Dh ([ov [v29] (sortT (bvars r ((r.If.length : Nat) : Int)) : (List ByteArray)), bx g7 [(.string r.Name), (.int .i64 r.Priority), u1, u3]]) rfl (Cq (Sr (q1 rfl (Db f_96_3 rfl rfl (q := 3) rfl) (q1 rfl (lb 1 o_94 rfl rfl rfl rfl) (q1 rfl (Dl s_94 rfl rfl (rd_sl hu4)) (Pe rfl (Cb (Cl (fun m_ ac w' => ∃ (j : Nat), (j ≤ r.Then.length) ∧ (∀ i, i < j → ∀ a, r.Then[i]? = some a → actOk r a = true) ∧ m_ = r.Then.length - j ∧ Fits ac 111 [(1, (.pointer (some ⟨g7, 0, none⟩))), (5, v29), (81, u3), (82, (.int .i64 ((r.Then.length : Nat) : Int))), (83, (.int .i64 ((j : Nat) : Int)))] ∧ St w ([ov [v29] (sortT (bvars r ((r.If.length : Nat) : Int)) : (List ByteArray)), bx g7 [(.string r.Name), (.int .i64 r.Priority), u1, u3]]) w') ?_ ?_)))))))))
          ·refine fun ac w' hf hs => ⟨_, 0, ?_, ?_, rfl, hf.weak ⟨rfl, rfl, rfl, rfl, rfl, trivial⟩, hs⟩
           ·first | assumption | omega | simp
           ·intro i hi; omega
          ·rintro m_ ac w' ⟨j, hj, ha, rfl, hf, hs⟩
           refine D.use ?_ hf hs
           clear hf hs ac w'
           refine Sr (Pe rfl (Cq (Ci _ rfl (fun h30 => ?_) (fun h30 => ?_))))
           ·have pr30 : (((j : Nat) : Int) : Int) < ((r.Then.length : Nat) : Int) := odT h30
            refine Sk (Cq (Cb (Sr ?_)))
            obtain ⟨a0, a0h⟩ := sL (l := r.Then) (i := j) (by omega)
            have haz := act_sz a0h
            have haa := szAct_args a0
            have hvl2 := varsL_len a0.Pattern.Args
            have hsl2 := sortT_len (varsL a0.Pattern.Args)
            obtain ⟨es31, at32, hr33⟩ := rd_elem (n := 3) rfl hu4 a0h
            obtain ⟨u34, rfl, hu35⟩ := open_Action hr33
            have hm36 := rd_max hu35
            have hb37 := sub_Action_Pattern hr33
            refine q1 rfl (D_ix (l := r.Then) (j := j) s_94 rfl rfl rfl (fun w' hs => (rA hs hu4)) rfl (lS a0h)) (q1 rfl (lra a_159 rfl rfl at32) (li rfl (D_alloc y_159 rfl rfl rfl rfl fun g38 => ?_)))
            refine li rfl (D_stb (vs := [(.int .i64 a0.Kind), (.string a0.Pattern.Rel), u34]) (cs' := [(.int .i64 a0.Kind), (.string a0.Pattern.Rel), u34]) 0 z_159 rfl rfl rfl rfl rfl rfl (ocons rfl (ocons rfl (ocons (one_rd hu35) onil))) (by simp) rfl ?_)
            refine Dx (Dh ([bx g38 [(.int .i64 a0.Kind), (.string a0.Pattern.Rel), u34], ov [v29] (sortT (bvars r ((r.If.length : Nat) : Int)) : (List ByteArray)), bx g7 [(.string r.Name), (.int .i64 r.Priority), u1, u3]]) rfl (Cq (Sr (q1 rfl (lbw 0 a_159 rfl rfl rfl) (li rfl (cv b_166 rfl rfl rfl rfl (fun w' hs => (impl_IsAction w' [(.int .i64 a0.Kind), (.string a0.Pattern.Rel), u34] a0 (rA hs hr33))) ?_))))))
            refine Pe rfl (Ci _ rfl (fun h39 => ?_) (fun h39 => ?_))
            ·have h39n : (isActionB a0) = false := not_t h39
             refine Sr (Pe rfl (Ct (Xr (Xq (Xr (Xr (Xq (Xr (Rb rfl rfl ?_)))))))))
             first | (first | exact ru_n1 (.inl (by assumption)) | exact ru_n1 (.inr (.inl (by first | assumption | (unfold inR; simp; omega)))) | exact ru_n1 (.inr (.inr (.inl (by first | assumption | (unfold inR; simp; omega))))) | exact ru_n1 (.inr (.inr (.inr (by first | assumption | (unfold inR; simp; omega))))); done) | (exact ru_n2 (k := k) (lS x0h) (by first | exact condOk_f1 x0h (by assumption) | exact condOk_f2 x0h (by omega) (by omega) | exact condOk_f3 x0h (by assumption) | exact condOk_f3s x0h v0h (okV_sf (by assumption) (by assumption)) | exact condOk_f3s x0h v0h (okV_f (by omega) (by assumption) (.inr (by assumption)))); done) | (exact ru_n3 a0h (by first | exact actOk_f1 (by assumption) | exact actOk_f2 w0h (by assumption) | exact actOk_f2s w0h (by assumption)); done) | (refine ru_y (by assumption) (by first | assumption | (unfold inR; simp; omega)) (by first | assumption | (unfold inR; simp; omega)) (by first | assumption | (unfold inR; simp; omega)) (fun i h => hc i (by omega)) (fun i h => ha i (by omega)) ?_; first | (rw [cs_cv]; rfl) | exact rv_len (fun i h => ha i (by omega)); done)
            ·have h39n : (isActionB a0) = true := not_f h39
             refine Sk (Sr (q1 rfl (Db f_159_1 rfl rfl (q := 1) rfl) (q1 rfl (Db f_145_1 rfl rfl (q := 2) rfl) (q1 rfl (lb 0 o_58 rfl rfl rfl rfl) (li rfl (crl b_167 rfl rfl rfl rfl (fun w' hs => (impl_varsAmong w' u34 a0.Pattern.Args (rA hs hu35) (by first | assumption | omega | (unfold szm at *; split at * <;> omega)))) fun v40 => ?_))))))
             refine q1 rfl (D_leno 0 s_58 rfl rfl rfl) (Pe rfl (Dh ([ov [v40] (varsL a0.Pattern.Args : (List ByteArray)), bx g38 [(.int .i64 a0.Kind), (.string a0.Pattern.Rel), u34], ov [v29] (sortT (bvars r ((r.If.length : Nat) : Int)) : (List ByteArray)), bx g7 [(.string r.Name), (.int .i64 r.Priority), u1, u3]]) rfl (Cb (Cl (fun m_ ac w' => ∃ (p : Nat), (p ≤ (varsL a0.Pattern.Args).length) ∧ (∀ i, i < p → ∀ y, (varsL a0.Pattern.Args)[i]? = some y → hasS (sortT (bvars r (r.If.length : Int))) y = true) ∧ m_ = (varsL a0.Pattern.Args).length - p ∧ Fits ac 111 [(1, (.pointer (some ⟨g7, 0, none⟩))), (5, v29), (81, u3), (82, (.int .i64 ((r.Then.length : Nat) : Int))), (83, (.int .i64 ((j : Nat) : Int))), (93, v40), (94, (.int .i64 (((varsL a0.Pattern.Args).length : Nat) : Int))), (95, (.int .i64 ((p : Nat) : Int)))] ∧ St w ([ov [v40] (varsL a0.Pattern.Args : (List ByteArray)), bx g38 [(.int .i64 a0.Kind), (.string a0.Pattern.Rel), u34], ov [v29] (sortT (bvars r ((r.If.length : Nat) : Int)) : (List ByteArray)), bx g7 [(.string r.Name), (.int .i64 r.Priority), u1, u3]]) w') ?_ ?_))))
             ·refine fun ac w' hf hs => ⟨_, 0, ?_, ?_, rfl, hf.weak ⟨rfl, rfl, rfl, rfl, rfl, rfl, rfl, rfl, trivial⟩, hs⟩
              ·first | assumption | omega | simp
              ·intro i hi; omega
             ·rintro m_ ac w' ⟨p, hpk, hp, rfl, hf, hs⟩
              refine D.use ?_ hf hs
              clear hf hs ac w'
              refine Sr (Pe rfl (Cq (Ci _ rfl (fun h41 => ?_) (fun h41 => ?_))))
              ·have pr41 : (((p : Nat) : Int) : Int) < (((varsL a0.Pattern.Args).length : Nat) : Int) := odT h41
               refine Sk (Cq (Cb (Sr ?_)))
               obtain ⟨w0_, w0h⟩ := sL (l := (varsL a0.Pattern.Args)) (i := p) (by omega)
               refine q1 rfl (D_ix (l := (varsL a0.Pattern.Args)) (j := p) s_58 rfl rfl rfl (fun w' hs => (rO (k := 0) hs rfl)) rfl (lS w0h)) (q1 rfl (lo (α := ByteArray) 0 o_9 rfl rfl rfl w0h) (Pe rfl (Sr (P2 rfl rfl (li rfl (cv b_168 rfl rfl rfl rfl (fun w' hs => (impl_hasText w' v29 (sortT (bvars r ((r.If.length : Nat) : Int))) w0_ (rO (k := 2) hs rfl))) ?_))))))
               refine Pe rfl (Ci _ rfl (fun h42 => ?_) (fun h42 => ?_))
               ·have h42n : (hasS (sortT (bvars r ((r.If.length : Nat) : Int))) w0_) = false := not_t h42
                refine Sr (Pe rfl (Ct (Xq (Xr (Xr (Xq (Xq (Xr (Xr (Xq (Xr (Rb rfl rfl ?_))))))))))))
                first | (first | exact ru_n1 (.inl (by assumption)) | exact ru_n1 (.inr (.inl (by first | assumption | (unfold inR; simp; omega)))) | exact ru_n1 (.inr (.inr (.inl (by first | assumption | (unfold inR; simp; omega))))) | exact ru_n1 (.inr (.inr (.inr (by first | assumption | (unfold inR; simp; omega))))); done) | (exact ru_n2 (k := k) (lS x0h) (by first | exact condOk_f1 x0h (by assumption) | exact condOk_f2 x0h (by omega) (by omega) | exact condOk_f3 x0h (by assumption) | exact condOk_f3s x0h v0h (okV_sf (by assumption) (by assumption)) | exact condOk_f3s x0h v0h (okV_f (by omega) (by assumption) (.inr (by assumption)))); done) | (exact ru_n3 a0h (by first | exact actOk_f1 (by assumption) | exact actOk_f2 w0h (by assumption) | exact actOk_f2s w0h (by assumption)); done) | (refine ru_y (by assumption) (by first | assumption | (unfold inR; simp; omega)) (by first | assumption | (unfold inR; simp; omega)) (by first | assumption | (unfold inR; simp; omega)) (fun i h => hc i (by omega)) (fun i h => ha i (by omega)) ?_; first | (rw [cs_cv]; rfl) | exact rv_len (fun i h => ha i (by omega)); done)
               ·have h42n : (hasS (sortT (bvars r ((r.If.length : Nat) : Int))) w0_) = true := not_f h42
                refine Ck (Xb (Xt (Cr (q1 rfl (D_add rfl rfl rfl (r := ((p + 1 : Nat) : Int)) (by omega) (by omega)) (Pe rfl (fun ac w' hf hs => ⟨_, ?_, p + 1, ?_, ?_, rfl, hf.weak ⟨rfl, rfl, rfl, rfl, rfl, rfl, rfl, rfl, trivial⟩, hs⟩))))))
                ·omega
                ·first | assumption | omega | simp
                ·refine forall_step hp ?_; intro y hy; obtain rfl : y = w0_ := Option.some.inj (hy.symm.trans w0h); assumption
              ·have pr41 : ¬ (((p : Nat) : Int) : Int) < (((varsL a0.Pattern.Args).length : Nat) : Int) := odF h41
               refine Cx (Xx (Xx (Xe (Xb (Xt (Cr (q1 rfl (D_add rfl rfl rfl (r := ((j + 1 : Nat) : Int)) (by omega) (by omega)) (Pe rfl (fun ac w' hf hs => ⟨_, ?_, j + 1, ?_, ?_, rfl, hf.weak ⟨rfl, rfl, rfl, rfl, rfl, trivial⟩, hs.pk [2, 3] rfl rfl⟩)))))))))
               ·omega
               ·first | assumption | omega | simp
               ·refine forall_step ha ?_; intro y hy; obtain rfl : y = a0 := Option.some.inj (hy.symm.trans a0h); first | exact actOk_t (by assumption) (fun i h => hp i (by omega)) | exact actOk_ts (by assumption) (fun i h => hp i (by omega))
           ·have pr30 : ¬ (((j : Nat) : Int) : Int) < ((r.Then.length : Nat) : Int) := odF h30
            refine Cx (Xx (Xx (Xe (Xt (Sr (q1 rfl (Db f_96_2 rfl rfl (q := 2) rfl) (q1 rfl (lb 1 o_93 rfl rfl rfl rfl) (li rfl (crl b_170 rfl rfl rfl rfl (fun w' hs => (impl_condVarsOf w' u1 r.If (rA hs hu2) (by unfold szL; omega))) fun v43 => ?_)))))))))
            refine li rfl (crl b_169 rfl rfl rfl rfl (fun w' hs => (impl_SortedTexts w' v43 (csT r.If r.If.length) (rO (k := 0) hs rfl) (by first | assumption | omega | (unfold szm at *; split at * <;> omega)))) fun v44 => ?_)
            refine q1 rfl (D_leno 0 s_58 rfl rfl rfl) (P2 rfl rfl (Dx (Ct (Rb rfl rfl ?_))))
            show ((decide (((((sortT (csT r.If r.If.length)).length : Nat) : Int) : Int) ≤ 6)) : Bool) = _
            first | (first | exact ru_n1 (.inl (by assumption)) | exact ru_n1 (.inr (.inl (by first | assumption | (unfold inR; simp; omega)))) | exact ru_n1 (.inr (.inr (.inl (by first | assumption | (unfold inR; simp; omega))))) | exact ru_n1 (.inr (.inr (.inr (by first | assumption | (unfold inR; simp; omega))))); done) | (exact ru_n2 (k := k) (lS x0h) (by first | exact condOk_f1 x0h (by assumption) | exact condOk_f2 x0h (by omega) (by omega) | exact condOk_f3 x0h (by assumption) | exact condOk_f3s x0h v0h (okV_sf (by assumption) (by assumption)) | exact condOk_f3s x0h v0h (okV_f (by omega) (by assumption) (.inr (by assumption)))); done) | (exact ru_n3 a0h (by first | exact actOk_f1 (by assumption) | exact actOk_f2 w0h (by assumption) | exact actOk_f2s w0h (by assumption)); done) | (refine ru_y (by assumption) (by first | assumption | (unfold inR; simp; omega)) (by first | assumption | (unfold inR; simp; omega)) (by first | assumption | (unfold inR; simp; omega)) (fun i h => hc i (by omega)) (fun i h => ha i (by omega)) ?_; first | (rw [cs_cv]; rfl) | exact rv_len (fun i h => ha i (by omega)); done)
set_option maxHeartbeats 4000000 in
theorem spec_IsRule (w : World) (c_r : List Value) (r : Rule) (h_r : Gd.rd w c_r r) (hn : szRule r ≤ 1048576) (ho : okRule r) : Calls Tryz.prog 98 [(.agg c_r.toArray)].toArray w (Val w (.bool (isRuleB r))) := by
 obtain ⟨u1, u3, rfl, hu2, hu4⟩ := open_Rule h_r
 have hm5 := rd_max hu2
 have hm6 := rd_max hu4
 have hn0 := hn
 unfold szRule szL at hn
 have hcl := csT_len r.If r.If.length
 refine enter 145 Tryz.func98 rfl rfl rfl (Sr (li rfl (D_box rfl rfl rfl rfl rfl fun g7 => ?_)))
 refine Pe rfl (Dh ([bx g7 [(.string r.Name), (.int .i64 r.Priority), u1, u3]]) rfl (Cq (Sr (q1 rfl (Db f_96_0 rfl rfl (q := 0) rfl) (q1 rfl (lb 0 o_9 rfl rfl rfl rfl) (li rfl (cv b_145 rfl rfl rfl rfl (fun w' hs => (spec_IsName w' r.Name ho.1)) ?_)))))))
 refine P2 rfl rfl (gs 17 rfl rfl (fun h8 => ?_) (fun h8 => ?_))
 ·have h8n : (isNameB r.Name) = false := not_t h8
  refine n1 rfl (n1 rfl (n1 rfl (n1 rfl (P2 rfl rfl (n1 rfl (n1 rfl (n1 rfl (n1 rfl (n1 rfl (P2 rfl rfl (n1 rfl (n1 rfl (n1 rfl (n1 rfl (n1 rfl (Pe rfl (Dw [(1, (.pointer (some ⟨g7, 0, none⟩))), (36, (.bool true))] ⟨rfl, rfl, trivial⟩ (C_t rfl (Sr (p1 rfl ?_))))))))))))))))))))
  refine Dx (Ct (Xr (Rb rfl rfl ?_)))
  first | (first | exact ru_n1 (.inl (by assumption)) | exact ru_n1 (.inr (.inl (by first | assumption | (unfold inR; simp; omega)))) | exact ru_n1 (.inr (.inr (.inl (by first | assumption | (unfold inR; simp; omega))))) | exact ru_n1 (.inr (.inr (.inr (by first | assumption | (unfold inR; simp; omega))))); done) | (exact ru_n2 (k := k) (lS x0h) (by first | exact condOk_f1 x0h (by assumption) | exact condOk_f2 x0h (by omega) (by omega) | exact condOk_f3 x0h (by assumption) | exact condOk_f3s x0h v0h (okV_sf (by assumption) (by assumption)) | exact condOk_f3s x0h v0h (okV_f (by omega) (by assumption) (.inr (by assumption)))); done) | (exact ru_n3 a0h (by first | exact actOk_f1 (by assumption) | exact actOk_f2 w0h (by assumption) | exact actOk_f2s w0h (by assumption)); done) | (refine ru_y (by assumption) (by first | assumption | (unfold inR; simp; omega)) (by first | assumption | (unfold inR; simp; omega)) (by first | assumption | (unfold inR; simp; omega)) (fun i h => hc i (by omega)) (fun i h => ha i (by omega)) ?_; first | (rw [cs_cv]; rfl) | exact rv_len (fun i h => ha i (by omega)); done)
 ·have h8n : (isNameB r.Name) = true := not_f h8
  refine q1 rfl (Db f_96_1 rfl rfl (q := 1) rfl) (q1 rfl (lb 0 o_3 rfl rfl rfl rfl) (li rfl (cv b_99 rfl rfl rfl rfl (fun w' hs => (spec_l1In w' r.Priority 0 9)) ?_)))
  refine P3 rfl rfl rfl (gs 23 rfl rfl (fun h9 => ?_) (fun h9 => ?_))
  ·have h9n : (inR r.Priority 0 9) = false := not_t h9
   refine n1 rfl (n1 rfl (n1 rfl (n1 rfl (n1 rfl (P2 rfl rfl (n1 rfl (n1 rfl (n1 rfl (n1 rfl (n1 rfl (Pe rfl (Dw [(1, (.pointer (some ⟨g7, 0, none⟩))), (36, (.bool true))] ⟨rfl, rfl, trivial⟩ (C_t rfl (Sr (Pe rfl (Ct (Xr (Rb rfl rfl ?_))))))))))))))))))
   first | (first | exact ru_n1 (.inl (by assumption)) | exact ru_n1 (.inr (.inl (by first | assumption | (unfold inR; simp; omega)))) | exact ru_n1 (.inr (.inr (.inl (by first | assumption | (unfold inR; simp; omega))))) | exact ru_n1 (.inr (.inr (.inr (by first | assumption | (unfold inR; simp; omega))))); done) | (exact ru_n2 (k := k) (lS x0h) (by first | exact condOk_f1 x0h (by assumption) | exact condOk_f2 x0h (by omega) (by omega) | exact condOk_f3 x0h (by assumption) | exact condOk_f3s x0h v0h (okV_sf (by assumption) (by assumption)) | exact condOk_f3s x0h v0h (okV_f (by omega) (by assumption) (.inr (by assumption)))); done) | (exact ru_n3 a0h (by first | exact actOk_f1 (by assumption) | exact actOk_f2 w0h (by assumption) | exact actOk_f2s w0h (by assumption)); done) | (refine ru_y (by assumption) (by first | assumption | (unfold inR; simp; omega)) (by first | assumption | (unfold inR; simp; omega)) (by first | assumption | (unfold inR; simp; omega)) (fun i h => hc i (by omega)) (fun i h => ha i (by omega)) ?_; first | (rw [cs_cv]; rfl) | exact rv_len (fun i h => ha i (by omega)); done)
  ·have h9n : (inR r.Priority 0 9) = true := not_f h9
   refine q1 rfl (Db f_96_2 rfl rfl (q := 2) rfl) (q1 rfl (lb 0 o_93 rfl rfl rfl rfl) (q1 rfl (Dl s_93 rfl rfl (rd_sl hu2)) (li rfl (cv b_99 rfl rfl rfl rfl (fun w' hs => (spec_l1In w' ((r.If.length : Nat) : Int) 1 4)) ?_))))
   refine P3 rfl rfl rfl (gs 30 rfl rfl (fun h10 => ?_) (fun h10 => ?_))
   ·have h10n : (inR ((r.If.length : Nat) : Int) 1 4) = false := not_t h10
    refine n1 rfl (n1 rfl (n1 rfl (n1 rfl (n1 rfl (Pe rfl (Dw [(1, (.pointer (some ⟨g7, 0, none⟩))), (36, (.bool true))] ⟨rfl, rfl, trivial⟩ (C_t rfl (Sr (Pe rfl (Ct (Xr (Rb rfl rfl ?_))))))))))))
    first | (first | exact ru_n1 (.inl (by assumption)) | exact ru_n1 (.inr (.inl (by first | assumption | (unfold inR; simp; omega)))) | exact ru_n1 (.inr (.inr (.inl (by first | assumption | (unfold inR; simp; omega))))) | exact ru_n1 (.inr (.inr (.inr (by first | assumption | (unfold inR; simp; omega))))); done) | (exact ru_n2 (k := k) (lS x0h) (by first | exact condOk_f1 x0h (by assumption) | exact condOk_f2 x0h (by omega) (by omega) | exact condOk_f3 x0h (by assumption) | exact condOk_f3s x0h v0h (okV_sf (by assumption) (by assumption)) | exact condOk_f3s x0h v0h (okV_f (by omega) (by assumption) (.inr (by assumption)))); done) | (exact ru_n3 a0h (by first | exact actOk_f1 (by assumption) | exact actOk_f2 w0h (by assumption) | exact actOk_f2s w0h (by assumption)); done) | (refine ru_y (by assumption) (by first | assumption | (unfold inR; simp; omega)) (by first | assumption | (unfold inR; simp; omega)) (by first | assumption | (unfold inR; simp; omega)) (fun i h => hc i (by omega)) (fun i h => ha i (by omega)) ?_; first | (rw [cs_cv]; rfl) | exact rv_len (fun i h => ha i (by omega)); done)
   ·have h10n : (inR ((r.If.length : Nat) : Int) 1 4) = true := not_f h10
    refine q1 rfl (Db f_96_3 rfl rfl (q := 3) rfl) (q1 rfl (lb 0 o_94 rfl rfl rfl rfl) (q1 rfl (Dl s_94 rfl rfl (rd_sl hu4)) (li rfl (cv b_99 rfl rfl rfl rfl (fun w' hs => (spec_l1In w' ((r.Then.length : Nat) : Int) 1 2)) ?_))))
    refine P2 rfl rfl (Dx (Dw [(1, (.pointer (some ⟨g7, 0, none⟩))), (36, (.bool (!(inR ((r.Then.length : Nat) : Int) 1 2))))] ⟨rfl, rfl, trivial⟩ (Ci _ rfl (fun h11 => ?_) (fun h11 => ?_))))
    ·have h11n : (inR ((r.Then.length : Nat) : Int) 1 2) = false := not_t h11
     refine Sr (Pe rfl (Ct (Xr (Rb rfl rfl ?_))))
     first | (first | exact ru_n1 (.inl (by assumption)) | exact ru_n1 (.inr (.inl (by first | assumption | (unfold inR; simp; omega)))) | exact ru_n1 (.inr (.inr (.inl (by first | assumption | (unfold inR; simp; omega))))) | exact ru_n1 (.inr (.inr (.inr (by first | assumption | (unfold inR; simp; omega))))); done) | (exact ru_n2 (k := k) (lS x0h) (by first | exact condOk_f1 x0h (by assumption) | exact condOk_f2 x0h (by omega) (by omega) | exact condOk_f3 x0h (by assumption) | exact condOk_f3s x0h v0h (okV_sf (by assumption) (by assumption)) | exact condOk_f3s x0h v0h (okV_f (by omega) (by assumption) (.inr (by assumption)))); done) | (exact ru_n3 a0h (by first | exact actOk_f1 (by assumption) | exact actOk_f2 w0h (by assumption) | exact actOk_f2s w0h (by assumption)); done) | (refine ru_y (by assumption) (by first | assumption | (unfold inR; simp; omega)) (by first | assumption | (unfold inR; simp; omega)) (by first | assumption | (unfold inR; simp; omega)) (fun i h => hc i (by omega)) (fun i h => ha i (by omega)) ?_; first | (rw [cs_cv]; rfl) | exact rv_len (fun i h => ha i (by omega)); done)
    ·have h11n : (inR ((r.Then.length : Nat) : Int) 1 2) = true := not_f h11
     refine Sk (Sr (q1 rfl (lbw 0 a_96 rfl rfl rfl) (q1 rfl (Db f_96_2 rfl rfl (q := 2) rfl) (q1 rfl (lb 0 o_93 rfl rfl rfl rfl) (q1 rfl (Dl s_93 rfl rfl (rd_sl hu2)) (li rfl (crl b_152 rfl rfl rfl rfl (fun w' hs => (spec_BoundVars w' [(.string r.Name), (.int .i64 r.Priority), u1, u3] r ((r.If.length : Nat) : Int) (rA hs h_r) hn0 ho)) fun v12 => ?_)))))))
     refine Pe rfl (Dh ([ov [v12] (sortT (bvars r ((r.If.length : Nat) : Int)) : (List ByteArray)), bx g7 [(.string r.Name), (.int .i64 r.Priority), u1, u3]]) rfl (Cq (Sr (Pe rfl (Cb (Cl (fun m_ ac w' => ∃ (k : Nat), (k ≤ r.If.length) ∧ (∀ i, i < k → condOk r i = true) ∧ m_ = r.If.length - k ∧ Fits ac 145 [(1, (.pointer (some ⟨g7, 0, none⟩))), (3, v12), (4, (.int .i64 ((k : Nat) : Int)))] ∧ St w ([ov [v12] (sortT (bvars r ((r.If.length : Nat) : Int)) : (List ByteArray)), bx g7 [(.string r.Name), (.int .i64 r.Priority), u1, u3]]) w') ?_ ?_))))))
     ·refine fun ac w' hf hs => ⟨_, 0, ?_, ?_, rfl, hf.weak ⟨rfl, rfl, rfl, trivial⟩, hs⟩
      ·first | assumption | omega | simp
      ·intro i hi; omega
     ·rintro m_ ac w' ⟨k, hk, hc, rfl, hf, hs⟩
      refine D.use ?_ hf hs
      clear hf hs ac w'
      refine Cq (Sr (p1 rfl (q1 rfl (Db f_96_2 rfl rfl (q := 2) rfl) (q1 rfl (lb 1 o_93 rfl rfl rfl rfl) (q1 rfl (Dl s_93 rfl rfl (rd_sl hu2)) (Pe rfl (Ci _ rfl (fun h13 => ?_) (fun h13 => ?_))))))))
      ·have pr13 : (((k : Nat) : Int) : Int) < ((r.If.length : Nat) : Int) := odT h13
       refine Sk (Cq (Cb (Sr (q1 rfl (Db f_96_2 rfl rfl (q := 2) rfl) (q1 rfl (lb 1 o_93 rfl rfl rfl rfl) (p1 rfl ?_))))))
       obtain ⟨x0, x0h⟩ := sL (l := r.If) (i := k) (by omega)
       have hcz := cond_sz x0h
       have hca := szCond_args x0
       have hvl := varsL_len x0.Pattern.Args
       have hsl := sortT_len (varsL x0.Pattern.Args)
       have hcl0 := cvars_len x0
       have hscl := sortT_len (cvars x0)
       have hco := ho.2.2.1 _ (List.mem_of_getElem? x0h)
       obtain ⟨es14, at15, hr16⟩ := rd_elem (n := 5) rfl hu2 x0h
       obtain ⟨u17, rfl, hu18⟩ := open_Cond hr16
       have hm19 := rd_max hu18
       have hb20 := sub_Cond_Pattern hr16
       refine q1 rfl (D_ix (l := r.If) (j := k) s_93 rfl rfl rfl (fun w' hs => (rA hs hu2)) rfl (lS x0h)) (q1 rfl (lra a_147 rfl rfl at15) (li rfl (D_alloc y_147 rfl rfl rfl rfl fun g21 => ?_)))
       refine li rfl (D_stb (vs := [(.int .i64 x0.Kind), (.string x0.Pattern.Rel), u17, (.string x0.Left), (.string x0.Right)]) (cs' := [(.int .i64 x0.Kind), (.string x0.Pattern.Rel), u17, (.string x0.Left), (.string x0.Right)]) 0 z_147 rfl rfl rfl rfl rfl rfl (ocons rfl (ocons rfl (ocons (one_rd hu18) (ocons rfl (ocons rfl onil))))) (by simp) rfl ?_)
       refine Dx (Dh ([bx g21 [(.int .i64 x0.Kind), (.string x0.Pattern.Rel), u17, (.string x0.Left), (.string x0.Right)], ov [v12] (sortT (bvars r ((r.If.length : Nat) : Int)) : (List ByteArray)), bx g7 [(.string r.Name), (.int .i64 r.Priority), u1, u3]]) rfl (Cq (Sr (q1 rfl (lbw 0 a_147 rfl rfl rfl) (li rfl (cv b_153 rfl rfl rfl rfl (fun w' hs => (spec_IsCond w' [(.int .i64 x0.Kind), (.string x0.Pattern.Rel), u17, (.string x0.Left), (.string x0.Right)] x0 (rA hs hr16) hco)) ?_))))))
       refine P2 rfl rfl (gs 57 rfl rfl (fun h22 => ?_) (fun h22 => ?_))
       ·have h22n : (isCondB x0) = false := not_t h22
        refine n1 rfl (n1 rfl (n1 rfl (n1 rfl (n1 rfl (n1 rfl (n1 rfl (Pe rfl (Dw [(1, (.pointer (some ⟨g7, 0, none⟩))), (3, v12), (4, (.int .i64 ((k : Nat) : Int))), (5, (.pointer (some ⟨g21, 0, none⟩))), (65, (.bool true))] ⟨rfl, rfl, rfl, rfl, rfl, trivial⟩ (C_t rfl (Sr (Pe rfl (Ct (Xr (Xq (Xr (Xr (Xq (Xr ?_))))))))))))))))))
        refine Rb rfl rfl ?_
        first | (first | exact ru_n1 (.inl (by assumption)) | exact ru_n1 (.inr (.inl (by first | assumption | (unfold inR; simp; omega)))) | exact ru_n1 (.inr (.inr (.inl (by first | assumption | (unfold inR; simp; omega))))) | exact ru_n1 (.inr (.inr (.inr (by first | assumption | (unfold inR; simp; omega))))); done) | (exact ru_n2 (k := k) (lS x0h) (by first | exact condOk_f1 x0h (by assumption) | exact condOk_f2 x0h (by omega) (by omega) | exact condOk_f3 x0h (by assumption) | exact condOk_f3s x0h v0h (okV_sf (by assumption) (by assumption)) | exact condOk_f3s x0h v0h (okV_f (by omega) (by assumption) (.inr (by assumption)))); done) | (exact ru_n3 a0h (by first | exact actOk_f1 (by assumption) | exact actOk_f2 w0h (by assumption) | exact actOk_f2s w0h (by assumption)); done) | (refine ru_y (by assumption) (by first | assumption | (unfold inR; simp; omega)) (by first | assumption | (unfold inR; simp; omega)) (by first | assumption | (unfold inR; simp; omega)) (fun i h => hc i (by omega)) (fun i h => ha i (by omega)) ?_; first | (rw [cs_cv]; rfl) | exact rv_len (fun i h => ha i (by omega)); done)
       ·have h22n : (isCondB x0) = true := not_f h22
        refine P3 rfl rfl rfl (gs 60 rfl rfl (fun h23 => ?_) (fun h23 => ?_))
        ·have pr23 : (((k : Nat) : Int) : Int) = 0 := eq_of_beq h23
         refine q1 rfl (Db f_147_0 rfl rfl (q := 0) rfl) (q1 rfl (lb 0 o_3 rfl rfl rfl rfl) (P3 rfl rfl rfl (Dx (Dw [(1, (.pointer (some ⟨g7, 0, none⟩))), (3, v12), (4, (.int .i64 ((k : Nat) : Int))), (5, (.pointer (some ⟨g21, 0, none⟩))), (65, (.bool ((x0.Kind : Int) != 1)))] ⟨rfl, rfl, rfl, rfl, rfl, trivial⟩ (Ci _ rfl (fun h24 => ?_) (fun h24 => ?_))))))
         ·have pr24 : (x0.Kind : Int) ≠ 1 := bne_iff_ne.1 h24
          refine Sr (Pe rfl (Ct (Xr (Xq (Xr (Xr (Xq (Xr (Rb rfl rfl ?_)))))))))
          first | (first | exact ru_n1 (.inl (by assumption)) | exact ru_n1 (.inr (.inl (by first | assumption | (unfold inR; simp; omega)))) | exact ru_n1 (.inr (.inr (.inl (by first | assumption | (unfold inR; simp; omega))))) | exact ru_n1 (.inr (.inr (.inr (by first | assumption | (unfold inR; simp; omega))))); done) | (exact ru_n2 (k := k) (lS x0h) (by first | exact condOk_f1 x0h (by assumption) | exact condOk_f2 x0h (by omega) (by omega) | exact condOk_f3 x0h (by assumption) | exact condOk_f3s x0h v0h (okV_sf (by assumption) (by assumption)) | exact condOk_f3s x0h v0h (okV_f (by omega) (by assumption) (.inr (by assumption)))); done) | (exact ru_n3 a0h (by first | exact actOk_f1 (by assumption) | exact actOk_f2 w0h (by assumption) | exact actOk_f2s w0h (by assumption)); done) | (refine ru_y (by assumption) (by first | assumption | (unfold inR; simp; omega)) (by first | assumption | (unfold inR; simp; omega)) (by first | assumption | (unfold inR; simp; omega)) (fun i h => hc i (by omega)) (fun i h => ha i (by omega)) ?_; first | (rw [cs_cv]; rfl) | exact rv_len (fun i h => ha i (by omega)); done)
         ·have pr24 : (x0.Kind : Int) = 1 := eq_of_bne_f h24
          refine Sk (Sr (q1 rfl (lbw 2 a_96 rfl rfl rfl) (p1 rfl (li rfl (crl b_152 rfl rfl rfl rfl (fun w' hs => (spec_BoundVars w' [(.string r.Name), (.int .i64 r.Priority), u1, u3] r ((k : Nat) : Int) (rA hs h_r) hn0 ho)) fun v25 => ?_)))))
          refine Pe rfl (Dh ([ov [v25] (sortT (bvars r ((k : Nat) : Int)) : (List ByteArray)), bx g21 [(.int .i64 x0.Kind), (.string x0.Pattern.Rel), u17, (.string x0.Left), (.string x0.Right)], ov [v12] (sortT (bvars r ((r.If.length : Nat) : Int)) : (List ByteArray)), bx g7 [(.string r.Name), (.int .i64 r.Priority), u1, u3]]) rfl (Sr (q1 rfl (lbw 1 a_147 rfl rfl rfl) (li rfl (crl b_154 rfl rfl rfl rfl (fun w' hs => (spec_CondVars w' [(.int .i64 x0.Kind), (.string x0.Pattern.Rel), u17, (.string x0.Left), (.string x0.Right)] x0 (rA hs hr16) (by first | assumption | omega | (unfold szm at *; split at * <;> omega)) hco)) fun v26 => ?_)))))
          refine Pe rfl (Dh ([ov [v26] (sortT (cvars x0) : (List ByteArray)), ov [v25] (sortT (bvars r ((k : Nat) : Int)) : (List ByteArray)), bx g21 [(.int .i64 x0.Kind), (.string x0.Pattern.Rel), u17, (.string x0.Left), (.string x0.Right)], ov [v12] (sortT (bvars r ((r.If.length : Nat) : Int)) : (List ByteArray)), bx g7 [(.string r.Name), (.int .i64 r.Priority), u1, u3]]) rfl (Sr (Pe rfl (Cb (Cl (fun m_ ac w' => ∃ (q : Nat), (q ≤ (sortT (cvars x0)).length) ∧ (∀ i, i < q → ∀ y, (sortT (cvars x0))[i]? = some y → okV r (k : Int) x0 y = true) ∧ m_ = (sortT (cvars x0)).length - q ∧ Fits ac 145 [(1, (.pointer (some ⟨g7, 0, none⟩))), (3, v12), (4, (.int .i64 ((k : Nat) : Int))), (5, (.pointer (some ⟨g21, 0, none⟩))), (6, v25), (7, v26), (8, (.int .i64 ((q : Nat) : Int)))] ∧ St w ([ov [v26] (sortT (cvars x0) : (List ByteArray)), ov [v25] (sortT (bvars r ((k : Nat) : Int)) : (List ByteArray)), bx g21 [(.int .i64 x0.Kind), (.string x0.Pattern.Rel), u17, (.string x0.Left), (.string x0.Right)], ov [v12] (sortT (bvars r ((r.If.length : Nat) : Int)) : (List ByteArray)), bx g7 [(.string r.Name), (.int .i64 r.Priority), u1, u3]]) w') ?_ ?_)))))
          ·refine fun ac w' hf hs => ⟨_, 0, ?_, ?_, rfl, hf.weak ⟨rfl, rfl, rfl, rfl, rfl, rfl, rfl, trivial⟩, hs⟩
           ·first | assumption | omega | simp
           ·intro i hi; omega
          ·rintro m_ ac w' ⟨q, hq, hok, rfl, hf, hs⟩
           refine D.use ?_ hf hs
           clear hf hs ac w'
           refine Cq (Sr (P2 rfl rfl (q1 rfl (D_leno 0 s_58 rfl rfl rfl) (Pe rfl (Ci _ rfl (fun h27 => ?_) (fun h27 => ?_))))))
           ·have pr27 : (((q : Nat) : Int) : Int) < (((sortT (cvars x0)).length : Nat) : Int) := odT h27
            refine Sk (Cq (Cb (Sr (P3 rfl rfl rfl ?_))))
            obtain ⟨v0, v0h⟩ := sL (l := (sortT (cvars x0))) (i := q) (by omega)
            refine q1 rfl (D_ix (l := (sortT (cvars x0))) (j := q) s_58 rfl rfl rfl (fun w' hs => (rO (k := 0) hs rfl)) rfl (lS v0h)) (q1 rfl (lo (α := ByteArray) 0 o_9 rfl rfl rfl v0h) (li rfl (cv b_155 rfl rfl rfl rfl (fun w' hs => (spec_l1HasText w' v25 (sortT (bvars r ((k : Nat) : Int))) v0 (rO (k := 1) hs rfl))) ?_)))
            refine Pe rfl (Cq (C_draw mixed [1, 2, 3, 4, 5, 6, 7, 8, 9, 10, 11, 12, 13, 14, 21, 22, 23] (by kernel_rfl) (Tk 0 rfl (by kernel_rfl) rfl (lbw 2 a_147 rfl rfl rfl) (ty 1 rfl (by kernel_rfl) rfl (cv b_156 rfl rfl rfl rfl (fun w' hs => (spec_IsTest w' [(.int .i64 x0.Kind), (.string x0.Pattern.Rel), u17, (.string x0.Left), (.string x0.Right)] x0 (rA hs hr16) hco)) ?_)))))
            refine tZ rfl (ty 2 rfl (by kernel_rfl) rfl (sv rfl rfl (rp rfl) ?_))
            refine tZ rfl (gs 85 rfl rfl (fun h28 => ?_) (fun h28 => ?_))
            ·refine ty 3 rfl (by kernel_rfl) rfl (sv rfl rfl (rp rfl) ?_)
             refine tZ rfl (ty 4 rfl (by kernel_rfl) rfl (sv rfl rfl (rp rfl) ?_))
             refine tZ rfl (ty 5 rfl (by kernel_rfl) rfl (sv rfl rfl (rp rfl) ?_))
             refine tZ rfl (ty 6 rfl (by kernel_rfl) rfl (sv rfl rfl (rp rfl) ?_))
             refine tZ rfl (gs 89 rfl rfl (fun h29 => ?_) (fun h29 => ?_))
             ·have h29n : (hasS (sortT (bvars r ((k : Nat) : Int))) v0) = false := not_t h29
              refine tn 7 rfl (by kernel_rfl) (by kernel_rfl) (by kernel_rfl) rfl rfl rfl (fun _ hs => hs) (tn 8 rfl (by kernel_rfl) (by kernel_rfl) (by kernel_rfl) rfl rfl rfl (fun _ hs => hs) (tn 9 rfl (by kernel_rfl) (by kernel_rfl) (by kernel_rfl) rfl rfl rfl (fun _ hs => hs) (tn 10 rfl (by kernel_rfl) (by kernel_rfl) (by kernel_rfl) rfl rfl rfl (fun _ hs => hs) (tn 11 rfl (by kernel_rfl) (by kernel_rfl) (by kernel_rfl) rfl rfl rfl (fun _ hs => hs) (tn 12 rfl (by kernel_rfl) (by kernel_rfl) (by kernel_rfl) rfl rfl rfl (fun _ hs => hs) (tn 13 rfl (by kernel_rfl) (by kernel_rfl) (by kernel_rfl) rfl rfl rfl (fun _ hs => hs) (tn 14 rfl (by kernel_rfl) (by kernel_rfl) (by kernel_rfl) rfl rfl rfl (fun _ hs => hs) (tn 15 rfl (by kernel_rfl) (by kernel_rfl) (by kernel_rfl) rfl rfl rfl (fun _ hs => hs) (tn 16 rfl (by kernel_rfl) (by kernel_rfl) (by kernel_rfl) rfl rfl rfl (fun _ hs => hs) (tn 17 rfl (by kernel_rfl) (by kernel_rfl) (by kernel_rfl) rfl rfl rfl (fun _ hs => hs) (tn 18 rfl (by kernel_rfl) (by kernel_rfl) (by kernel_rfl) rfl rfl rfl (fun _ hs => hs) (tn 19 rfl (by kernel_rfl) (by kernel_rfl) (by kernel_rfl) rfl rfl rfl (fun _ hs => hs) (tn 20 rfl (by kernel_rfl) (by kernel_rfl) (by kernel_rfl) rfl rfl rfl (fun _ hs => hs) (tn 21 rfl (by kernel_rfl) (by kernel_rfl) (by kernel_rfl) rfl rfl rfl (fun _ hs => hs) (tn 22 rfl (by kernel_rfl) (by kernel_rfl) (by kernel_rfl) rfl rfl rfl (fun _ hs => hs) (ty 23 rfl (by kernel_rfl) rfl (sv rfl rfl (rp rfl) ?_)))))))))))))))))
              refine tZ rfl (tE (by kernel_rfl) (Xt (Dw [(1, (.pointer (some ⟨g7, 0, none⟩))), (3, v12), (4, (.int .i64 ((k : Nat) : Int))), (5, (.pointer (some ⟨g21, 0, none⟩))), (6, v25), (7, v26), (8, (.int .i64 ((q : Nat) : Int))), (106, (.bool true))] ⟨rfl, rfl, rfl, rfl, rfl, rfl, rfl, rfl, trivial⟩ (C_t rfl (Sr (Pe rfl (Ct (Xq (Xr (Xr (Xq (Xq (Xr (Xr (Xq (Xr (Rb rfl rfl ?_)))))))))))))))))
              first | (first | exact ru_n1 (.inl (by assumption)) | exact ru_n1 (.inr (.inl (by first | assumption | (unfold inR; simp; omega)))) | exact ru_n1 (.inr (.inr (.inl (by first | assumption | (unfold inR; simp; omega))))) | exact ru_n1 (.inr (.inr (.inr (by first | assumption | (unfold inR; simp; omega))))); done) | (exact ru_n2 (k := k) (lS x0h) (by first | exact condOk_f1 x0h (by assumption) | exact condOk_f2 x0h (by omega) (by omega) | exact condOk_f3 x0h (by assumption) | exact condOk_f3s x0h v0h (okV_sf (by assumption) (by assumption)) | exact condOk_f3s x0h v0h (okV_f (by omega) (by assumption) (.inr (by assumption)))); done) | (exact ru_n3 a0h (by first | exact actOk_f1 (by assumption) | exact actOk_f2 w0h (by assumption) | exact actOk_f2s w0h (by assumption)); done) | (refine ru_y (by assumption) (by first | assumption | (unfold inR; simp; omega)) (by first | assumption | (unfold inR; simp; omega)) (by first | assumption | (unfold inR; simp; omega)) (fun i h => hc i (by omega)) (fun i h => ha i (by omega)) ?_; first | (rw [cs_cv]; rfl) | exact rv_len (fun i h => ha i (by omega)); done)
             ·have h29n : (hasS (sortT (bvars r ((k : Nat) : Int))) v0) = true := not_f h29
              refine ty 7 rfl (by kernel_rfl) rfl (sv rfl rfl (Db f_147_0 rfl rfl (q := 0) rfl) ?_)
              refine tZ rfl (ty 8 rfl (by kernel_rfl) rfl (sv rfl rfl (lb 2 o_3 rfl rfl rfl rfl) ?_))
              refine tZ rfl (ty 9 rfl (by kernel_rfl) rfl (sv rfl rfl (rp rfl) ?_))
              refine tZ rfl (ty 10 rfl (by kernel_rfl) rfl (sv rfl rfl (rp rfl) ?_))
              refine tZ rfl (gkf 93 rfl rfl (beq_nf pr24 rfl) ?_)
              have h30 : ((x0.Kind : Int) == 2) = false := (beq_nf pr24 rfl)
              refine tn 11 rfl (by kernel_rfl) (by kernel_rfl) (by kernel_rfl) rfl rfl rfl (fun _ hs => hs) (tn 12 rfl (by kernel_rfl) (by kernel_rfl) (by kernel_rfl) rfl rfl rfl (fun _ hs => hs) (ty 13 rfl (by kernel_rfl) rfl (sv rfl rfl (rp rfl) ?_)))
              refine tZ rfl (ty 14 rfl (by kernel_rfl) rfl (sv rfl rfl (rp rfl) ?_))
              refine tZ rfl (tn 15 rfl (by kernel_rfl) (by kernel_rfl) (by kernel_rfl) rfl rfl rfl (fun _ hs => hs) (tn 16 rfl (by kernel_rfl) (by kernel_rfl) (by kernel_rfl) rfl rfl rfl (fun _ hs => hs) (tn 17 rfl (by kernel_rfl) (by kernel_rfl) (by kernel_rfl) rfl rfl rfl (fun _ hs => hs) (tn 18 rfl (by kernel_rfl) (by kernel_rfl) (by kernel_rfl) rfl rfl rfl (fun _ hs => hs) (tn 19 rfl (by kernel_rfl) (by kernel_rfl) (by kernel_rfl) rfl rfl rfl (fun _ hs => hs) (tn 20 rfl (by kernel_rfl) (by kernel_rfl) (by kernel_rfl) rfl rfl rfl (fun _ hs => hs) (tn 21 rfl (by kernel_rfl) (by kernel_rfl) (by kernel_rfl) rfl rfl rfl (fun _ hs => hs) (ty 22 rfl (by kernel_rfl) rfl (sv rfl rfl (rp rfl) ?_)))))))))
              refine tZ rfl (ty 23 rfl (by kernel_rfl) rfl (sv rfl rfl (rp rfl) ?_))
              refine tZ rfl (tE (by kernel_rfl) (Xt (Dw [(1, (.pointer (some ⟨g7, 0, none⟩))), (3, v12), (4, (.int .i64 ((k : Nat) : Int))), (5, (.pointer (some ⟨g21, 0, none⟩))), (6, v25), (7, v26), (8, (.int .i64 ((q : Nat) : Int))), (106, (.bool false))] ⟨rfl, rfl, rfl, rfl, rfl, rfl, rfl, rfl, trivial⟩ (C_f rfl (Ck (Xb (Xt (Cr (p1 rfl (q1 rfl (D_add rfl rfl rfl (r := ((q + 1 : Nat) : Int)) (by omega) (by omega)) (Pe rfl (fun ac w' hf hs => ⟨_, ?_, q + 1, ?_, ?_, rfl, hf.weak ⟨rfl, rfl, rfl, rfl, rfl, rfl, rfl, trivial⟩, hs⟩))))))))))))
              ·omega
              ·first | assumption | omega | simp
              ·refine forall_step hok ?_; intro y hy; obtain rfl : y = v0 := Option.some.inj (hy.symm.trans v0h); first | exact okV_t2 (by assumption) | exact okV_st (by assumption) (by assumption) (.inl (by omega)) | exact okV_st (by assumption) (by assumption) (.inr (by assumption))
            ·refine tn 3 rfl (by kernel_rfl) (by kernel_rfl) (by kernel_rfl) rfl rfl rfl (fun _ hs => hs) (tn 4 rfl (by kernel_rfl) (by kernel_rfl) (by kernel_rfl) rfl rfl rfl (fun _ hs => hs) (ty 5 rfl (by kernel_rfl) rfl (sv rfl rfl (rp rfl) ?_)))
             refine tZ rfl (ty 6 rfl (by kernel_rfl) rfl (sv rfl rfl (rp rfl) ?_))
             refine tZ rfl (ty 7 rfl (by kernel_rfl) rfl (sv rfl rfl (Db f_147_0 rfl rfl (q := 0) rfl) ?_))
             refine tZ rfl (ty 8 rfl (by kernel_rfl) rfl (sv rfl rfl (lb 2 o_3 rfl rfl rfl rfl) ?_))
             refine tZ rfl (ty 9 rfl (by kernel_rfl) rfl (sv rfl rfl (rp rfl) ?_))
             refine tZ rfl (ty 10 rfl (by kernel_rfl) rfl (sv rfl rfl (rp rfl) ?_))
             refine tZ rfl (gkf 93 rfl rfl (beq_nf pr24 rfl) ?_)
             have h33 : ((x0.Kind : Int) == 2) = false := (beq_nf pr24 rfl)
             refine tn 11 rfl (by kernel_rfl) (by kernel_rfl) (by kernel_rfl) rfl rfl rfl (fun _ hs => hs) (tn 12 rfl (by kernel_rfl) (by kernel_rfl) (by kernel_rfl) rfl rfl rfl (fun _ hs => hs) (ty 13 rfl (by kernel_rfl) rfl (sv rfl rfl (rp rfl) ?_)))
             refine tZ rfl (ty 14 rfl (by kernel_rfl) rfl (sv rfl rfl (rp rfl) ?_))
             refine tZ rfl (tn 15 rfl (by kernel_rfl) (by kernel_rfl) (by kernel_rfl) rfl rfl rfl (fun _ hs => hs) (tn 16 rfl (by kernel_rfl) (by kernel_rfl) (by kernel_rfl) rfl rfl rfl (fun _ hs => hs) (tn 17 rfl (by kernel_rfl) (by kernel_rfl) (by kernel_rfl) rfl rfl rfl (fun _ hs => hs) (tn 18 rfl (by kernel_rfl) (by kernel_rfl) (by kernel_rfl) rfl rfl rfl (fun _ hs => hs) (tn 19 rfl (by kernel_rfl) (by kernel_rfl) (by kernel_rfl) rfl rfl rfl (fun _ hs => hs) (tn 20 rfl (by kernel_rfl) (by kernel_rfl) (by kernel_rfl) rfl rfl rfl (fun _ hs => hs) (tn 21 rfl (by kernel_rfl) (by kernel_rfl) (by kernel_rfl) rfl rfl rfl (fun _ hs => hs) (ty 22 rfl (by kernel_rfl) rfl (sv rfl rfl (rp rfl) ?_)))))))))
             refine tZ rfl (ty 23 rfl (by kernel_rfl) rfl (sv rfl rfl (rp rfl) ?_))
             refine tZ rfl (tE (by kernel_rfl) (Xt (Dw [(1, (.pointer (some ⟨g7, 0, none⟩))), (3, v12), (4, (.int .i64 ((k : Nat) : Int))), (5, (.pointer (some ⟨g21, 0, none⟩))), (6, v25), (7, v26), (8, (.int .i64 ((q : Nat) : Int))), (106, (.bool false))] ⟨rfl, rfl, rfl, rfl, rfl, rfl, rfl, rfl, trivial⟩ (C_f rfl (Ck (Xb (Xt (Cr (p1 rfl (q1 rfl (D_add rfl rfl rfl (r := ((q + 1 : Nat) : Int)) (by omega) (by omega)) (Pe rfl (fun ac w' hf hs => ⟨_, ?_, q + 1, ?_, ?_, rfl, hf.weak ⟨rfl, rfl, rfl, rfl, rfl, rfl, rfl, trivial⟩, hs⟩))))))))))))
             ·omega
             ·first | assumption | omega | simp
             ·refine forall_step hok ?_; intro y hy; obtain rfl : y = v0 := Option.some.inj (hy.symm.trans v0h); first | exact okV_t2 (by assumption) | exact okV_st (by assumption) (by assumption) (.inl (by omega)) | exact okV_st (by assumption) (by assumption) (.inr (by assumption))
           ·have pr27 : ¬ (((q : Nat) : Int) : Int) < (((sortT (cvars x0)).length : Nat) : Int) := odF h27
            refine Cx (Xx (Xx (Xe (Xb (Xt (Cr (p1 rfl (q1 rfl (D_add rfl rfl rfl (r := ((k + 1 : Nat) : Int)) (by omega) (by omega)) (Pe rfl (fun ac w' hf hs => ⟨_, ?_, k + 1, ?_, ?_, rfl, hf.weak ⟨rfl, rfl, rfl, trivial⟩, hs.pk [3, 4] rfl rfl⟩))))))))))
            ·omega
            ·first | assumption | omega | simp
            ·refine forall_step hc ?_; first | exact condOk_t x0h (by assumption) (by omega) (by assumption) | exact condOk_ts x0h (by assumption) (by omega) (fun i h => hok i (by omega))
        ·have pr23 : (((k : Nat) : Int) : Int) ≠ 0 := ne_of_beq_false h23
         refine n1 rfl (n1 rfl (n1 rfl (P2 rfl rfl (Dx (Dw [(1, (.pointer (some ⟨g7, 0, none⟩))), (3, v12), (4, (.int .i64 ((k : Nat) : Int))), (5, (.pointer (some ⟨g21, 0, none⟩))), (65, (.bool false))] ⟨rfl, rfl, rfl, rfl, rfl, trivial⟩ (C_f rfl (Sk (Sr (q1 rfl (lbw 2 a_96 rfl rfl rfl) (p1 rfl (li rfl (crl b_152 rfl rfl rfl rfl (fun w' hs => (spec_BoundVars w' [(.string r.Name), (.int .i64 r.Priority), u1, u3] r ((k : Nat) : Int) (rA hs h_r) hn0 ho)) fun v36 => ?_))))))))))))
         refine Pe rfl (Dh ([ov [v36] (sortT (bvars r ((k : Nat) : Int)) : (List ByteArray)), bx g21 [(.int .i64 x0.Kind), (.string x0.Pattern.Rel), u17, (.string x0.Left), (.string x0.Right)], ov [v12] (sortT (bvars r ((r.If.length : Nat) : Int)) : (List ByteArray)), bx g7 [(.string r.Name), (.int .i64 r.Priority), u1, u3]]) rfl (Sr (q1 rfl (lbw 1 a_147 rfl rfl rfl) (li rfl (crl b_154 rfl rfl rfl rfl (fun w' hs => (spec_CondVars w' [(.int .i64 x0.Kind), (.string x0.Pattern.Rel), u17, (.string x0.Left), (.string x0.Right)] x0 (rA hs hr16) (by first | assumption | omega | (unfold szm at *; split at * <;> omega)) hco)) fun v37 => ?_)))))
         refine Pe rfl (Dh ([ov [v37] (sortT (cvars x0) : (List ByteArray)), ov [v36] (sortT (bvars r ((k : Nat) : Int)) : (List ByteArray)), bx g21 [(.int .i64 x0.Kind), (.string x0.Pattern.Rel), u17, (.string x0.Left), (.string x0.Right)], ov [v12] (sortT (bvars r ((r.If.length : Nat) : Int)) : (List ByteArray)), bx g7 [(.string r.Name), (.int .i64 r.Priority), u1, u3]]) rfl (Sr (Pe rfl (Cb (Cl (fun m_ ac w' => ∃ (q : Nat), (q ≤ (sortT (cvars x0)).length) ∧ (∀ i, i < q → ∀ y, (sortT (cvars x0))[i]? = some y → okV r (k : Int) x0 y = true) ∧ m_ = (sortT (cvars x0)).length - q ∧ Fits ac 145 [(1, (.pointer (some ⟨g7, 0, none⟩))), (3, v12), (4, (.int .i64 ((k : Nat) : Int))), (5, (.pointer (some ⟨g21, 0, none⟩))), (6, v36), (7, v37), (8, (.int .i64 ((q : Nat) : Int)))] ∧ St w ([ov [v37] (sortT (cvars x0) : (List ByteArray)), ov [v36] (sortT (bvars r ((k : Nat) : Int)) : (List ByteArray)), bx g21 [(.int .i64 x0.Kind), (.string x0.Pattern.Rel), u17, (.string x0.Left), (.string x0.Right)], ov [v12] (sortT (bvars r ((r.If.length : Nat) : Int)) : (List ByteArray)), bx g7 [(.string r.Name), (.int .i64 r.Priority), u1, u3]]) w') ?_ ?_)))))
         ·refine fun ac w' hf hs => ⟨_, 0, ?_, ?_, rfl, hf.weak ⟨rfl, rfl, rfl, rfl, rfl, rfl, rfl, trivial⟩, hs⟩
          ·first | assumption | omega | simp
          ·intro i hi; omega
         ·rintro m_ ac w' ⟨q, hq, hok, rfl, hf, hs⟩
          refine D.use ?_ hf hs
          clear hf hs ac w'
          refine Cq (Sr (P2 rfl rfl (q1 rfl (D_leno 0 s_58 rfl rfl rfl) (Pe rfl (Ci _ rfl (fun h38 => ?_) (fun h38 => ?_))))))
          ·have pr38 : (((q : Nat) : Int) : Int) < (((sortT (cvars x0)).length : Nat) : Int) := odT h38
           refine Sk (Cq (Cb (Sr (P3 rfl rfl rfl ?_))))
           obtain ⟨v0, v0h⟩ := sL (l := (sortT (cvars x0))) (i := q) (by omega)
           refine q1 rfl (D_ix (l := (sortT (cvars x0))) (j := q) s_58 rfl rfl rfl (fun w' hs => (rO (k := 0) hs rfl)) rfl (lS v0h)) (q1 rfl (lo (α := ByteArray) 0 o_9 rfl rfl rfl v0h) (li rfl (cv b_155 rfl rfl rfl rfl (fun w' hs => (spec_l1HasText w' v36 (sortT (bvars r ((k : Nat) : Int))) v0 (rO (k := 1) hs rfl))) ?_)))
           refine Pe rfl (Cq (C_draw mixed [1, 2, 3, 4, 5, 6, 7, 8, 9, 10, 11, 12, 13, 14, 21, 22, 23] (by kernel_rfl) (Tk 0 rfl (by kernel_rfl) rfl (lbw 2 a_147 rfl rfl rfl) (ty 1 rfl (by kernel_rfl) rfl (cv b_156 rfl rfl rfl rfl (fun w' hs => (spec_IsTest w' [(.int .i64 x0.Kind), (.string x0.Pattern.Rel), u17, (.string x0.Left), (.string x0.Right)] x0 (rA hs hr16) hco)) ?_)))))
           refine tZ rfl (ty 2 rfl (by kernel_rfl) rfl (sv rfl rfl (rp rfl) ?_))
           refine tZ rfl (gs 85 rfl rfl (fun h39 => ?_) (fun h39 => ?_))
           ·refine ty 3 rfl (by kernel_rfl) rfl (sv rfl rfl (rp rfl) ?_)
            refine tZ rfl (ty 4 rfl (by kernel_rfl) rfl (sv rfl rfl (rp rfl) ?_))
            refine tZ rfl (ty 5 rfl (by kernel_rfl) rfl (sv rfl rfl (rp rfl) ?_))
            refine tZ rfl (ty 6 rfl (by kernel_rfl) rfl (sv rfl rfl (rp rfl) ?_))
            refine tZ rfl (gs 89 rfl rfl (fun h40 => ?_) (fun h40 => ?_))
            ·have h40n : (hasS (sortT (bvars r ((k : Nat) : Int))) v0) = false := not_t h40
             refine tn 7 rfl (by kernel_rfl) (by kernel_rfl) (by kernel_rfl) rfl rfl rfl (fun _ hs => hs) (tn 8 rfl (by kernel_rfl) (by kernel_rfl) (by kernel_rfl) rfl rfl rfl (fun _ hs => hs) (tn 9 rfl (by kernel_rfl) (by kernel_rfl) (by kernel_rfl) rfl rfl rfl (fun _ hs => hs) (tn 10 rfl (by kernel_rfl) (by kernel_rfl) (by kernel_rfl) rfl rfl rfl (fun _ hs => hs) (tn 11 rfl (by kernel_rfl) (by kernel_rfl) (by kernel_rfl) rfl rfl rfl (fun _ hs => hs) (tn 12 rfl (by kernel_rfl) (by kernel_rfl) (by kernel_rfl) rfl rfl rfl (fun _ hs => hs) (tn 13 rfl (by kernel_rfl) (by kernel_rfl) (by kernel_rfl) rfl rfl rfl (fun _ hs => hs) (tn 14 rfl (by kernel_rfl) (by kernel_rfl) (by kernel_rfl) rfl rfl rfl (fun _ hs => hs) (tn 15 rfl (by kernel_rfl) (by kernel_rfl) (by kernel_rfl) rfl rfl rfl (fun _ hs => hs) (tn 16 rfl (by kernel_rfl) (by kernel_rfl) (by kernel_rfl) rfl rfl rfl (fun _ hs => hs) (tn 17 rfl (by kernel_rfl) (by kernel_rfl) (by kernel_rfl) rfl rfl rfl (fun _ hs => hs) (tn 18 rfl (by kernel_rfl) (by kernel_rfl) (by kernel_rfl) rfl rfl rfl (fun _ hs => hs) (tn 19 rfl (by kernel_rfl) (by kernel_rfl) (by kernel_rfl) rfl rfl rfl (fun _ hs => hs) (tn 20 rfl (by kernel_rfl) (by kernel_rfl) (by kernel_rfl) rfl rfl rfl (fun _ hs => hs) (tn 21 rfl (by kernel_rfl) (by kernel_rfl) (by kernel_rfl) rfl rfl rfl (fun _ hs => hs) (tn 22 rfl (by kernel_rfl) (by kernel_rfl) (by kernel_rfl) rfl rfl rfl (fun _ hs => hs) (ty 23 rfl (by kernel_rfl) rfl (sv rfl rfl (rp rfl) ?_)))))))))))))))))
             refine tZ rfl (tE (by kernel_rfl) (Xt (Dw [(1, (.pointer (some ⟨g7, 0, none⟩))), (3, v12), (4, (.int .i64 ((k : Nat) : Int))), (5, (.pointer (some ⟨g21, 0, none⟩))), (6, v36), (7, v37), (8, (.int .i64 ((q : Nat) : Int))), (106, (.bool true))] ⟨rfl, rfl, rfl, rfl, rfl, rfl, rfl, rfl, trivial⟩ (C_t rfl (Sr (Pe rfl (Ct (Xq (Xr (Xr (Xq (Xq (Xr (Xr (Xq (Xr (Rb rfl rfl ?_)))))))))))))))))
             first | (first | exact ru_n1 (.inl (by assumption)) | exact ru_n1 (.inr (.inl (by first | assumption | (unfold inR; simp; omega)))) | exact ru_n1 (.inr (.inr (.inl (by first | assumption | (unfold inR; simp; omega))))) | exact ru_n1 (.inr (.inr (.inr (by first | assumption | (unfold inR; simp; omega))))); done) | (exact ru_n2 (k := k) (lS x0h) (by first | exact condOk_f1 x0h (by assumption) | exact condOk_f2 x0h (by omega) (by omega) | exact condOk_f3 x0h (by assumption) | exact condOk_f3s x0h v0h (okV_sf (by assumption) (by assumption)) | exact condOk_f3s x0h v0h (okV_f (by omega) (by assumption) (.inr (by assumption)))); done) | (exact ru_n3 a0h (by first | exact actOk_f1 (by assumption) | exact actOk_f2 w0h (by assumption) | exact actOk_f2s w0h (by assumption)); done) | (refine ru_y (by assumption) (by first | assumption | (unfold inR; simp; omega)) (by first | assumption | (unfold inR; simp; omega)) (by first | assumption | (unfold inR; simp; omega)) (fun i h => hc i (by omega)) (fun i h => ha i (by omega)) ?_; first | (rw [cs_cv]; rfl) | exact rv_len (fun i h => ha i (by omega)); done)
            ·have h40n : (hasS (sortT (bvars r ((k : Nat) : Int))) v0) = true := not_f h40
             refine ty 7 rfl (by kernel_rfl) rfl (sv rfl rfl (Db f_147_0 rfl rfl (q := 0) rfl) ?_)
             refine tZ rfl (ty 8 rfl (by kernel_rfl) rfl (sv rfl rfl (lb 2 o_3 rfl rfl rfl rfl) ?_))
             refine tZ rfl (ty 9 rfl (by kernel_rfl) rfl (sv rfl rfl (rp rfl) ?_))
             refine tZ rfl (ty 10 rfl (by kernel_rfl) rfl (sv rfl rfl (rp rfl) ?_))
             refine tZ rfl (gs 93 rfl rfl (fun h41 => ?_) (fun h41 => ?_))
             ·have pr41 : (x0.Kind : Int) = 2 := eq_of_beq h41
              refine ty 11 rfl (by kernel_rfl) rfl (sv rfl rfl (rp rfl) ?_)
              refine tZ rfl (ty 12 rfl (by kernel_rfl) rfl (sv rfl rfl (rp rfl) ?_))
              refine tZ rfl (ty 13 rfl (by kernel_rfl) rfl (sv rfl rfl (rp rfl) ?_))
              refine tZ rfl (ty 14 rfl (by kernel_rfl) rfl (sv rfl rfl (rp rfl) ?_))
              refine tZ rfl (gkf 97 rfl rfl h40 (tn 15 rfl (by kernel_rfl) (by kernel_rfl) (by kernel_rfl) rfl rfl rfl (fun _ hs => hs) (tn 16 rfl (by kernel_rfl) (by kernel_rfl) (by kernel_rfl) rfl rfl rfl (fun _ hs => hs) (tn 17 rfl (by kernel_rfl) (by kernel_rfl) (by kernel_rfl) rfl rfl rfl (fun _ hs => hs) (tn 18 rfl (by kernel_rfl) (by kernel_rfl) (by kernel_rfl) rfl rfl rfl (fun _ hs => hs) (tn 19 rfl (by kernel_rfl) (by kernel_rfl) (by kernel_rfl) rfl rfl rfl (fun _ hs => hs) (tn 20 rfl (by kernel_rfl) (by kernel_rfl) (by kernel_rfl) rfl rfl rfl (fun _ hs => hs) (tn 21 rfl (by kernel_rfl) (by kernel_rfl) (by kernel_rfl) rfl rfl rfl (fun _ hs => hs) (ty 22 rfl (by kernel_rfl) rfl (sv rfl rfl (rp rfl) ?_))))))))))
              refine tZ rfl (ty 23 rfl (by kernel_rfl) rfl (sv rfl rfl (rp rfl) ?_))
              refine tZ rfl (tE (by kernel_rfl) (Xt (Dw [(1, (.pointer (some ⟨g7, 0, none⟩))), (3, v12), (4, (.int .i64 ((k : Nat) : Int))), (5, (.pointer (some ⟨g21, 0, none⟩))), (6, v36), (7, v37), (8, (.int .i64 ((q : Nat) : Int))), (106, (.bool false))] ⟨rfl, rfl, rfl, rfl, rfl, rfl, rfl, rfl, trivial⟩ (C_f rfl (Ck (Xb (Xt (Cr (p1 rfl (q1 rfl (D_add rfl rfl rfl (r := ((q + 1 : Nat) : Int)) (by omega) (by omega)) (Pe rfl (fun ac w' hf hs => ⟨_, ?_, q + 1, ?_, ?_, rfl, hf.weak ⟨rfl, rfl, rfl, rfl, rfl, rfl, rfl, trivial⟩, hs⟩))))))))))))
              ·omega
              ·first | assumption | omega | simp
              ·refine forall_step hok ?_; intro y hy; obtain rfl : y = v0 := Option.some.inj (hy.symm.trans v0h); first | exact okV_t2 (by assumption) | exact okV_st (by assumption) (by assumption) (.inl (by omega)) | exact okV_st (by assumption) (by assumption) (.inr (by assumption))
             ·have pr41 : (x0.Kind : Int) ≠ 2 := ne_of_beq_false h41
              refine tn 11 rfl (by kernel_rfl) (by kernel_rfl) (by kernel_rfl) rfl rfl rfl (fun _ hs => hs) (tn 12 rfl (by kernel_rfl) (by kernel_rfl) (by kernel_rfl) rfl rfl rfl (fun _ hs => hs) (ty 13 rfl (by kernel_rfl) rfl (sv rfl rfl (rp rfl) ?_)))
              refine tZ rfl (ty 14 rfl (by kernel_rfl) rfl (sv rfl rfl (rp rfl) ?_))
              refine tZ rfl (tn 15 rfl (by kernel_rfl) (by kernel_rfl) (by kernel_rfl) rfl rfl rfl (fun _ hs => hs) (tn 16 rfl (by kernel_rfl) (by kernel_rfl) (by kernel_rfl) rfl rfl rfl (fun _ hs => hs) (tn 17 rfl (by kernel_rfl) (by kernel_rfl) (by kernel_rfl) rfl rfl rfl (fun _ hs => hs) (tn 18 rfl (by kernel_rfl) (by kernel_rfl) (by kernel_rfl) rfl rfl rfl (fun _ hs => hs) (tn 19 rfl (by kernel_rfl) (by kernel_rfl) (by kernel_rfl) rfl rfl rfl (fun _ hs => hs) (tn 20 rfl (by kernel_rfl) (by kernel_rfl) (by kernel_rfl) rfl rfl rfl (fun _ hs => hs) (tn 21 rfl (by kernel_rfl) (by kernel_rfl) (by kernel_rfl) rfl rfl rfl (fun _ hs => hs) (ty 22 rfl (by kernel_rfl) rfl (sv rfl rfl (rp rfl) ?_)))))))))
              refine tZ rfl (ty 23 rfl (by kernel_rfl) rfl (sv rfl rfl (rp rfl) ?_))
              refine tZ rfl (tE (by kernel_rfl) (Xt (Dw [(1, (.pointer (some ⟨g7, 0, none⟩))), (3, v12), (4, (.int .i64 ((k : Nat) : Int))), (5, (.pointer (some ⟨g21, 0, none⟩))), (6, v36), (7, v37), (8, (.int .i64 ((q : Nat) : Int))), (106, (.bool false))] ⟨rfl, rfl, rfl, rfl, rfl, rfl, rfl, rfl, trivial⟩ (C_f rfl (Ck (Xb (Xt (Cr (p1 rfl (q1 rfl (D_add rfl rfl rfl (r := ((q + 1 : Nat) : Int)) (by omega) (by omega)) (Pe rfl (fun ac w' hf hs => ⟨_, ?_, q + 1, ?_, ?_, rfl, hf.weak ⟨rfl, rfl, rfl, rfl, rfl, rfl, rfl, trivial⟩, hs⟩))))))))))))
              ·omega
              ·first | assumption | omega | simp
              ·refine forall_step hok ?_; intro y hy; obtain rfl : y = v0 := Option.some.inj (hy.symm.trans v0h); first | exact okV_t2 (by assumption) | exact okV_st (by assumption) (by assumption) (.inl (by omega)) | exact okV_st (by assumption) (by assumption) (.inr (by assumption))
           ·refine tn 3 rfl (by kernel_rfl) (by kernel_rfl) (by kernel_rfl) rfl rfl rfl (fun _ hs => hs) (tn 4 rfl (by kernel_rfl) (by kernel_rfl) (by kernel_rfl) rfl rfl rfl (fun _ hs => hs) (ty 5 rfl (by kernel_rfl) rfl (sv rfl rfl (rp rfl) ?_)))
            refine tZ rfl (ty 6 rfl (by kernel_rfl) rfl (sv rfl rfl (rp rfl) ?_))
            refine tZ rfl (ty 7 rfl (by kernel_rfl) rfl (sv rfl rfl (Db f_147_0 rfl rfl (q := 0) rfl) ?_))
            refine tZ rfl (ty 8 rfl (by kernel_rfl) rfl (sv rfl rfl (lb 2 o_3 rfl rfl rfl rfl) ?_))
            refine tZ rfl (ty 9 rfl (by kernel_rfl) rfl (sv rfl rfl (rp rfl) ?_))
            refine tZ rfl (ty 10 rfl (by kernel_rfl) rfl (sv rfl rfl (rp rfl) ?_))
            refine tZ rfl (gs 93 rfl rfl (fun h44 => ?_) (fun h44 => ?_))
            ·have pr44 : (x0.Kind : Int) = 2 := eq_of_beq h44
             refine ty 11 rfl (by kernel_rfl) rfl (sv rfl rfl (rp rfl) ?_)
             refine tZ rfl (ty 12 rfl (by kernel_rfl) rfl (sv rfl rfl (rp rfl) ?_))
             refine tZ rfl (ty 13 rfl (by kernel_rfl) rfl (sv rfl rfl (rp rfl) ?_))
             refine tZ rfl (ty 14 rfl (by kernel_rfl) rfl (sv rfl rfl (rp rfl) ?_))
             refine tZ rfl (gs 97 rfl rfl (fun h45 => ?_) (fun h45 => ?_))
             ·have h45n : (hasS (sortT (bvars r ((k : Nat) : Int))) v0) = false := not_t h45
              refine Tk 15 rfl (by kernel_rfl) rfl (lbw 4 a_96 rfl rfl rfl) (Tk 16 rfl (by kernel_rfl) rfl (rp rfl) (Tk 17 rfl (by kernel_rfl) rfl (rp rfl) (Tk 18 rfl (by kernel_rfl) rfl (rp rfl) (Tk 19 rfl (by kernel_rfl) rfl (D_ix (l := (sortT (cvars x0))) (j := q) s_58 rfl rfl rfl (fun w' hs => (rO (k := 0) hs rfl)) rfl (lS v0h)) (Tk 20 rfl (by kernel_rfl) rfl (lo (α := ByteArray) 0 o_9 rfl rfl rfl v0h) (ty 21 rfl (by kernel_rfl) rfl (cv b_157 rfl rfl rfl rfl (fun w' hs => (spec_l5Elsewhere w' [(.string r.Name), (.int .i64 r.Priority), u1, u3] r ((k : Nat) : Int) v0 (rA hs h_r) hn0 ho)) ?_)))))))
              refine tZ rfl (ty 22 rfl (by kernel_rfl) rfl (sv rfl rfl (rp rfl) ?_))
              refine tZ rfl (ty 23 rfl (by kernel_rfl) rfl (sv rfl rfl (rp rfl) ?_))
              refine tZ rfl (tE (by kernel_rfl) (Xt (Dw [(1, (.pointer (some ⟨g7, 0, none⟩))), (3, v12), (4, (.int .i64 ((k : Nat) : Int))), (5, (.pointer (some ⟨g21, 0, none⟩))), (6, v36), (7, v37), (8, (.int .i64 ((q : Nat) : Int))), (106, (.bool (elsB r ((k : Nat) : Int) v0)))] ⟨rfl, rfl, rfl, rfl, rfl, rfl, rfl, rfl, trivial⟩ (Ci _ rfl (fun h46 => ?_) (fun h46 => ?_)))))
              ·refine Sr (Pe rfl (Ct (Xq (Xr (Xr (Xq (Xq (Xr (Xr (Xq (Xr (Rb rfl rfl ?_))))))))))))
               first | (first | exact ru_n1 (.inl (by assumption)) | exact ru_n1 (.inr (.inl (by first | assumption | (unfold inR; simp; omega)))) | exact ru_n1 (.inr (.inr (.inl (by first | assumption | (unfold inR; simp; omega))))) | exact ru_n1 (.inr (.inr (.inr (by first | assumption | (unfold inR; simp; omega))))); done) | (exact ru_n2 (k := k) (lS x0h) (by first | exact condOk_f1 x0h (by assumption) | exact condOk_f2 x0h (by omega) (by omega) | exact condOk_f3 x0h (by assumption) | exact condOk_f3s x0h v0h (okV_sf (by assumption) (by assumption)) | exact condOk_f3s x0h v0h (okV_f (by omega) (by assumption) (.inr (by assumption)))); done) | (exact ru_n3 a0h (by first | exact actOk_f1 (by assumption) | exact actOk_f2 w0h (by assumption) | exact actOk_f2s w0h (by assumption)); done) | (refine ru_y (by assumption) (by first | assumption | (unfold inR; simp; omega)) (by first | assumption | (unfold inR; simp; omega)) (by first | assumption | (unfold inR; simp; omega)) (fun i h => hc i (by omega)) (fun i h => ha i (by omega)) ?_; first | (rw [cs_cv]; rfl) | exact rv_len (fun i h => ha i (by omega)); done)
              ·refine Ck (Xb (Xt (Cr (p1 rfl (q1 rfl (D_add rfl rfl rfl (r := ((q + 1 : Nat) : Int)) (by omega) (by omega)) (Pe rfl (fun ac w' hf hs => ⟨_, ?_, q + 1, ?_, ?_, rfl, hf.weak ⟨rfl, rfl, rfl, rfl, rfl, rfl, rfl, trivial⟩, hs⟩)))))))
               ·omega
               ·first | assumption | omega | simp
               ·refine forall_step hok ?_; intro y hy; obtain rfl : y = v0 := Option.some.inj (hy.symm.trans v0h); first | exact okV_t2 (by assumption) | exact okV_st (by assumption) (by assumption) (.inl (by omega)) | exact okV_st (by assumption) (by assumption) (.inr (by assumption))
             ·have h45n : (hasS (sortT (bvars r ((k : Nat) : Int))) v0) = true := not_f h45
              refine tn 15 rfl (by kernel_rfl) (by kernel_rfl) (by kernel_rfl) rfl rfl rfl (fun _ hs => hs) (tn 16 rfl (by kernel_rfl) (by kernel_rfl) (by kernel_rfl) rfl rfl rfl (fun _ hs => hs) (tn 17 rfl (by kernel_rfl) (by kernel_rfl) (by kernel_rfl) rfl rfl rfl (fun _ hs => hs) (tn 18 rfl (by kernel_rfl) (by kernel_rfl) (by kernel_rfl) rfl rfl rfl (fun _ hs => hs) (tn 19 rfl (by kernel_rfl) (by kernel_rfl) (by kernel_rfl) rfl rfl rfl (fun _ hs => hs) (tn 20 rfl (by kernel_rfl) (by kernel_rfl) (by kernel_rfl) rfl rfl rfl (fun _ hs => hs) (tn 21 rfl (by kernel_rfl) (by kernel_rfl) (by kernel_rfl) rfl rfl rfl (fun _ hs => hs) (ty 22 rfl (by kernel_rfl) rfl (sv rfl rfl (rp rfl) ?_))))))))
              refine tZ rfl (ty 23 rfl (by kernel_rfl) rfl (sv rfl rfl (rp rfl) ?_))
              refine tZ rfl (tE (by kernel_rfl) (Xt (Dw [(1, (.pointer (some ⟨g7, 0, none⟩))), (3, v12), (4, (.int .i64 ((k : Nat) : Int))), (5, (.pointer (some ⟨g21, 0, none⟩))), (6, v36), (7, v37), (8, (.int .i64 ((q : Nat) : Int))), (106, (.bool false))] ⟨rfl, rfl, rfl, rfl, rfl, rfl, rfl, rfl, trivial⟩ (C_f rfl (Ck (Xb (Xt (Cr (p1 rfl (q1 rfl (D_add rfl rfl rfl (r := ((q + 1 : Nat) : Int)) (by omega) (by omega)) (Pe rfl (fun ac w' hf hs => ⟨_, ?_, q + 1, ?_, ?_, rfl, hf.weak ⟨rfl, rfl, rfl, rfl, rfl, rfl, rfl, trivial⟩, hs⟩))))))))))))
              ·omega
              ·first | assumption | omega | simp
              ·refine forall_step hok ?_; intro y hy; obtain rfl : y = v0 := Option.some.inj (hy.symm.trans v0h); first | exact okV_t2 (by assumption) | exact okV_st (by assumption) (by assumption) (.inl (by omega)) | exact okV_st (by assumption) (by assumption) (.inr (by assumption))
            ·have pr44 : (x0.Kind : Int) ≠ 2 := ne_of_beq_false h44
             refine tn 11 rfl (by kernel_rfl) (by kernel_rfl) (by kernel_rfl) rfl rfl rfl (fun _ hs => hs) (tn 12 rfl (by kernel_rfl) (by kernel_rfl) (by kernel_rfl) rfl rfl rfl (fun _ hs => hs) (ty 13 rfl (by kernel_rfl) rfl (sv rfl rfl (rp rfl) ?_)))
             refine tZ rfl (ty 14 rfl (by kernel_rfl) rfl (sv rfl rfl (rp rfl) ?_))
             refine tZ rfl (tn 15 rfl (by kernel_rfl) (by kernel_rfl) (by kernel_rfl) rfl rfl rfl (fun _ hs => hs) (tn 16 rfl (by kernel_rfl) (by kernel_rfl) (by kernel_rfl) rfl rfl rfl (fun _ hs => hs) (tn 17 rfl (by kernel_rfl) (by kernel_rfl) (by kernel_rfl) rfl rfl rfl (fun _ hs => hs) (tn 18 rfl (by kernel_rfl) (by kernel_rfl) (by kernel_rfl) rfl rfl rfl (fun _ hs => hs) (tn 19 rfl (by kernel_rfl) (by kernel_rfl) (by kernel_rfl) rfl rfl rfl (fun _ hs => hs) (tn 20 rfl (by kernel_rfl) (by kernel_rfl) (by kernel_rfl) rfl rfl rfl (fun _ hs => hs) (tn 21 rfl (by kernel_rfl) (by kernel_rfl) (by kernel_rfl) rfl rfl rfl (fun _ hs => hs) (ty 22 rfl (by kernel_rfl) rfl (sv rfl rfl (rp rfl) ?_)))))))))
             refine tZ rfl (ty 23 rfl (by kernel_rfl) rfl (sv rfl rfl (rp rfl) ?_))
             refine tZ rfl (tE (by kernel_rfl) (Xt (Dw [(1, (.pointer (some ⟨g7, 0, none⟩))), (3, v12), (4, (.int .i64 ((k : Nat) : Int))), (5, (.pointer (some ⟨g21, 0, none⟩))), (6, v36), (7, v37), (8, (.int .i64 ((q : Nat) : Int))), (106, (.bool false))] ⟨rfl, rfl, rfl, rfl, rfl, rfl, rfl, rfl, trivial⟩ (C_f rfl (Ck (Xb (Xt (Cr (p1 rfl (q1 rfl (D_add rfl rfl rfl (r := ((q + 1 : Nat) : Int)) (by omega) (by omega)) (Pe rfl (fun ac w' hf hs => ⟨_, ?_, q + 1, ?_, ?_, rfl, hf.weak ⟨rfl, rfl, rfl, rfl, rfl, rfl, rfl, trivial⟩, hs⟩))))))))))))
             ·omega
             ·first | assumption | omega | simp
             ·refine forall_step hok ?_; intro y hy; obtain rfl : y = v0 := Option.some.inj (hy.symm.trans v0h); first | exact okV_t2 (by assumption) | exact okV_st (by assumption) (by assumption) (.inl (by omega)) | exact okV_st (by assumption) (by assumption) (.inr (by assumption))
          ·have pr38 : ¬ (((q : Nat) : Int) : Int) < (((sortT (cvars x0)).length : Nat) : Int) := odF h38
           refine Cx (Xx (Xx (Xe (Xb (Xt (Cr (p1 rfl (q1 rfl (D_add rfl rfl rfl (r := ((k + 1 : Nat) : Int)) (by omega) (by omega)) (Pe rfl (fun ac w' hf hs => ⟨_, ?_, k + 1, ?_, ?_, rfl, hf.weak ⟨rfl, rfl, rfl, trivial⟩, hs.pk [3, 4] rfl rfl⟩))))))))))
           ·omega
           ·first | assumption | omega | simp
           ·refine forall_step hc ?_; first | exact condOk_t x0h (by assumption) (by omega) (by assumption) | exact condOk_ts x0h (by assumption) (by omega) (fun i h => hok i (by omega))
      ·have pr13 : ¬ (((k : Nat) : Int) : Int) < ((r.If.length : Nat) : Int) := odF h13
       refine Cx (Xx (Xx (Xe (Xt (Cq (Sr (Pe rfl (Cb (Cl (fun m_ ac w' => ∃ (j : Nat), (j ≤ r.Then.length) ∧ (∀ i, i < j → ∀ a, r.Then[i]? = some a → actOk r a = true) ∧ m_ = r.Then.length - j ∧ Fits ac 145 [(1, (.pointer (some ⟨g7, 0, none⟩))), (3, v12), (10, (.int .i64 ((j : Nat) : Int)))] ∧ St w ([ov [v12] (sortT (bvars r ((r.If.length : Nat) : Int)) : (List ByteArray)), bx g7 [(.string r.Name), (.int .i64 r.Priority), u1, u3]]) w') ?_ ?_)))))))))
       ·refine fun ac w' hf hs => ⟨_, 0, ?_, ?_, rfl, hf.weak ⟨rfl, rfl, rfl, trivial⟩, hs⟩
        ·first | assumption | omega | simp
        ·intro i hi; omega
       ·rintro m_ ac w' ⟨j, hj, ha, rfl, hf, hs⟩
        refine D.use ?_ hf hs
        clear hf hs ac w'
        refine Cq (Sr (p1 rfl (q1 rfl (Db f_96_3 rfl rfl (q := 3) rfl) (q1 rfl (lb 1 o_94 rfl rfl rfl rfl) (q1 rfl (Dl s_94 rfl rfl (rd_sl hu4)) (Pe rfl (Ci _ rfl (fun h47 => ?_) (fun h47 => ?_))))))))
        ·have pr47 : (((j : Nat) : Int) : Int) < ((r.Then.length : Nat) : Int) := odT h47
         refine Sk (Cq (Cb (Cq (Sr (q1 rfl (Db f_96_3 rfl rfl (q := 3) rfl) (q1 rfl (lb 1 o_94 rfl rfl rfl rfl) (p1 rfl ?_)))))))
         obtain ⟨a0, a0h⟩ := sL (l := r.Then) (i := j) (by omega)
         have haz := act_sz a0h
         have haa := szAct_args a0
         have hvl2 := varsL_len a0.Pattern.Args
         have hsl2 := sortT_len (varsL a0.Pattern.Args)
         have hao := ho.2.2.2 _ (List.mem_of_getElem? a0h)
         obtain ⟨es48, at49, hr50⟩ := rd_elem (n := 3) rfl hu4 a0h
         obtain ⟨u51, rfl, hu52⟩ := open_Action hr50
         have hm53 := rd_max hu52
         have hb54 := sub_Action_Pattern hr50
         refine q1 rfl (D_ix (l := r.Then) (j := j) s_94 rfl rfl rfl (fun w' hs => (rA hs hu4)) rfl (lS a0h)) (q1 rfl (lra a_159 rfl rfl at49) (li rfl (cv b_158 rfl rfl rfl rfl (fun w' hs => (spec_IsAction w' [(.int .i64 a0.Kind), (.string a0.Pattern.Rel), u51] a0 (rA hs hr50) hao)) ?_)))
         refine Pe rfl (Ci _ rfl (fun h55 => ?_) (fun h55 => ?_))
         ·have h55n : (isActionB a0) = false := not_t h55
          refine Sr (Pe rfl (Ct (Xr (Xq (Xr (Xr (Xq (Xr (Rb rfl rfl ?_)))))))))
          first | (first | exact ru_n1 (.inl (by assumption)) | exact ru_n1 (.inr (.inl (by first | assumption | (unfold inR; simp; omega)))) | exact ru_n1 (.inr (.inr (.inl (by first | assumption | (unfold inR; simp; omega))))) | exact ru_n1 (.inr (.inr (.inr (by first | assumption | (unfold inR; simp; omega))))); done) | (exact ru_n2 (k := k) (lS x0h) (by first | exact condOk_f1 x0h (by assumption) | exact condOk_f2 x0h (by omega) (by omega) | exact condOk_f3 x0h (by assumption) | exact condOk_f3s x0h v0h (okV_sf (by assumption) (by assumption)) | exact condOk_f3s x0h v0h (okV_f (by omega) (by assumption) (.inr (by assumption)))); done) | (exact ru_n3 a0h (by first | exact actOk_f1 (by assumption) | exact actOk_f2 w0h (by assumption) | exact actOk_f2s w0h (by assumption)); done) | (refine ru_y (by assumption) (by first | assumption | (unfold inR; simp; omega)) (by first | assumption | (unfold inR; simp; omega)) (by first | assumption | (unfold inR; simp; omega)) (fun i h => hc i (by omega)) (fun i h => ha i (by omega)) ?_; first | (rw [cs_cv]; rfl) | exact rv_len (fun i h => ha i (by omega)); done)
         ·have h55n : (isActionB a0) = true := not_f h55
          refine Sk (Sr (q1 rfl (Db f_96_3 rfl rfl (q := 3) rfl) (q1 rfl (lb 1 o_94 rfl rfl rfl rfl) (p1 rfl (q1 rfl (D_ix (l := r.Then) (j := j) s_94 rfl rfl rfl (fun w' hs => (rA hs hu4)) rfl (lS a0h)) (q1 rfl (D_fa f_159_1 rfl rfl) (q1 rfl (lra a_145 rfl rfl (at_sub (f := 1) (n := 2) at49 rfl)) (li rfl (crl b_159 rfl rfl rfl rfl (fun w' hs => (spec_VarsOf w' [(.string a0.Pattern.Rel), u51] a0.Pattern (rA hs hb54) (by first | assumption | omega | (unfold szm at *; split at * <;> omega)) (by first | exact hco.2.1 | exact hao.2))) fun v56 => ?_)))))))))
          refine Pe rfl (Dw [(1, (.pointer (some ⟨g7, 0, none⟩))), (3, v12), (10, (.int .i64 ((j : Nat) : Int))), (11, v56)] ⟨rfl, rfl, rfl, rfl, trivial⟩ (Dh ([ov [v56] (sortT (varsL a0.Pattern.Args) : (List ByteArray)), ov [v12] (sortT (bvars r ((r.If.length : Nat) : Int)) : (List ByteArray)), bx g7 [(.string r.Name), (.int .i64 r.Priority), u1, u3]]) rfl (Sr (Pe rfl (Cb (Cl (fun m_ ac w' => ∃ (p : Nat), (p ≤ (sortT (varsL a0.Pattern.Args)).length) ∧ (∀ i, i < p → ∀ y, (sortT (varsL a0.Pattern.Args))[i]? = some y → hasS (sortT (bvars r (r.If.length : Int))) y = true) ∧ m_ = (sortT (varsL a0.Pattern.Args)).length - p ∧ Fits ac 145 [(1, (.pointer (some ⟨g7, 0, none⟩))), (3, v12), (10, (.int .i64 ((j : Nat) : Int))), (11, v56), (12, (.int .i64 ((p : Nat) : Int)))] ∧ St w ([ov [v56] (sortT (varsL a0.Pattern.Args) : (List ByteArray)), ov [v12] (sortT (bvars r ((r.If.length : Nat) : Int)) : (List ByteArray)), bx g7 [(.string r.Name), (.int .i64 r.Priority), u1, u3]]) w') ?_ ?_))))))
          ·refine fun ac w' hf hs => ⟨_, 0, ?_, ?_, rfl, hf.weak ⟨rfl, rfl, rfl, rfl, rfl, trivial⟩, hs⟩
           ·first | assumption | omega | simp
           ·intro i hi; omega
          ·rintro m_ ac w' ⟨p, hpk, hp, rfl, hf, hs⟩
           refine D.use ?_ hf hs
           clear hf hs ac w'
           refine Cq (Sr (P2 rfl rfl (q1 rfl (D_leno 0 s_58 rfl rfl rfl) (Pe rfl (Ci _ rfl (fun h57 => ?_) (fun h57 => ?_))))))
           ·have pr57 : (((p : Nat) : Int) : Int) < (((sortT (varsL a0.Pattern.Args)).length : Nat) : Int) := odT h57
            refine Sk (Cq (Cb (Sr (P3 rfl rfl rfl ?_))))
            obtain ⟨w0_, w0h⟩ := sL (l := (sortT (varsL a0.Pattern.Args))) (i := p) (by omega)
            refine q1 rfl (D_ix (l := (sortT (varsL a0.Pattern.Args))) (j := p) s_58 rfl rfl rfl (fun w' hs => (rO (k := 0) hs rfl)) rfl (lS w0h)) (q1 rfl (lo (α := ByteArray) 0 o_9 rfl rfl rfl w0h) (li rfl (cv b_155 rfl rfl rfl rfl (fun w' hs => (spec_l1HasText w' v12 (sortT (bvars r ((r.If.length : Nat) : Int))) w0_ (rO (k := 1) hs rfl))) ?_)))
            refine Pe rfl (Ci _ rfl (fun h58 => ?_) (fun h58 => ?_))
            ·have h58n : (hasS (sortT (bvars r ((r.If.length : Nat) : Int))) w0_) = false := not_t h58
             refine Sr (Pe rfl (Ct (Xq (Xr (Xr (Xq (Xq (Xr (Xr (Xq (Xr (Rb rfl rfl ?_))))))))))))
             first | (first | exact ru_n1 (.inl (by assumption)) | exact ru_n1 (.inr (.inl (by first | assumption | (unfold inR; simp; omega)))) | exact ru_n1 (.inr (.inr (.inl (by first | assumption | (unfold inR; simp; omega))))) | exact ru_n1 (.inr (.inr (.inr (by first | assumption | (unfold inR; simp; omega))))); done) | (exact ru_n2 (k := k) (lS x0h) (by first | exact condOk_f1 x0h (by assumption) | exact condOk_f2 x0h (by omega) (by omega) | exact condOk_f3 x0h (by assumption) | exact condOk_f3s x0h v0h (okV_sf (by assumption) (by assumption)) | exact condOk_f3s x0h v0h (okV_f (by omega) (by assumption) (.inr (by assumption)))); done) | (exact ru_n3 a0h (by first | exact actOk_f1 (by assumption) | exact actOk_f2 w0h (by assumption) | exact actOk_f2s w0h (by assumption)); done) | (refine ru_y (by assumption) (by first | assumption | (unfold inR; simp; omega)) (by first | assumption | (unfold inR; simp; omega)) (by first | assumption | (unfold inR; simp; omega)) (fun i h => hc i (by omega)) (fun i h => ha i (by omega)) ?_; first | (rw [cs_cv]; rfl) | exact rv_len (fun i h => ha i (by omega)); done)
            ·have h58n : (hasS (sortT (bvars r ((r.If.length : Nat) : Int))) w0_) = true := not_f h58
             refine Ck (Xb (Xt (Cr (p1 rfl (q1 rfl (D_add rfl rfl rfl (r := ((p + 1 : Nat) : Int)) (by omega) (by omega)) (Pe rfl (fun ac w' hf hs => ⟨_, ?_, p + 1, ?_, ?_, rfl, hf.weak ⟨rfl, rfl, rfl, rfl, rfl, trivial⟩, hs⟩)))))))
             ·omega
             ·first | assumption | omega | simp
             ·refine forall_step hp ?_; intro y hy; obtain rfl : y = w0_ := Option.some.inj (hy.symm.trans w0h); assumption
           ·have pr57 : ¬ (((p : Nat) : Int) : Int) < (((sortT (varsL a0.Pattern.Args)).length : Nat) : Int) := odF h57
            refine Cx (Xx (Xx (Xe (Xb (Xt (Cr (p1 rfl (q1 rfl (D_add rfl rfl rfl (r := ((j + 1 : Nat) : Int)) (by omega) (by omega)) (Pe rfl (fun ac w' hf hs => ⟨_, ?_, j + 1, ?_, ?_, rfl, hf.weak ⟨rfl, rfl, rfl, trivial⟩, hs.pk [1, 2] rfl rfl⟩))))))))))
            ·omega
            ·first | assumption | omega | simp
            ·refine forall_step ha ?_; intro y hy; obtain rfl : y = a0 := Option.some.inj (hy.symm.trans a0h); first | exact actOk_t (by assumption) (fun i h => hp i (by omega)) | exact actOk_ts (by assumption) (fun i h => hp i (by omega))
        ·have pr47 : ¬ (((j : Nat) : Int) : Int) < ((r.Then.length : Nat) : Int) := odF h47
         refine Cx (Xx (Xx (Xe (Xt (Sr (q1 rfl (lbw 1 a_96 rfl rfl rfl) (li rfl (crl b_160 rfl rfl rfl rfl (fun w' hs => (spec_RuleVars w' [(.string r.Name), (.int .i64 r.Priority), u1, u3] r (rA hs h_r) hn0 ho)) fun v59 => ?_))))))))
         refine q1 rfl (D_leno 0 s_58 rfl rfl rfl) (P2 rfl rfl (Dx (Ct (Rb rfl rfl ?_))))
         show ((decide (((((sortT (allV r ++ avT r r.Then.length)).length : Nat) : Int) : Int) ≤ 6)) : Bool) = _
         first | (first | exact ru_n1 (.inl (by assumption)) | exact ru_n1 (.inr (.inl (by first | assumption | (unfold inR; simp; omega)))) | exact ru_n1 (.inr (.inr (.inl (by first | assumption | (unfold inR; simp; omega))))) | exact ru_n1 (.inr (.inr (.inr (by first | assumption | (unfold inR; simp; omega))))); done) | (exact ru_n2 (k := k) (lS x0h) (by first | exact condOk_f1 x0h (by assumption) | exact condOk_f2 x0h (by omega) (by omega) | exact condOk_f3 x0h (by assumption) | exact condOk_f3s x0h v0h (okV_sf (by assumption) (by assumption)) | exact condOk_f3s x0h v0h (okV_f (by omega) (by assumption) (.inr (by assumption)))); done) | (exact ru_n3 a0h (by first | exact actOk_f1 (by assumption) | exact actOk_f2 w0h (by assumption) | exact actOk_f2s w0h (by assumption)); done) | (refine ru_y (by assumption) (by first | assumption | (unfold inR; simp; omega)) (by first | assumption | (unfold inR; simp; omega)) (by first | assumption | (unfold inR; simp; omega)) (fun i h => hc i (by omega)) (fun i h => ha i (by omega)) ?_; first | (rw [cs_cv]; rfl) | exact rv_len (fun i h => ha i (by omega)); done)
theorem impl_AreRules (w : World) (v_l : Value) (l : (List Rule)) (h_l : Gd.rd w [v_l] l) (hn : szL szRule l ≤ 1048576) : Calls Tryz.prog 51 [v_l].toArray w (Val w (.bool (areRulesB l))) := by
 have hm1 := rd_max h_l
 unfold szL at hn
 refine enter 27 Tryz.func51 rfl rfl rfl (Sr (Pe rfl (Cq (Sr (p1 rfl (q1 rfl (Dl s_40 rfl rfl (rd_sl h_l)) (Pe rfl (Ci _ rfl (fun h2 => ?_) (fun h2 => ?_)))))))))
 ·have pr2 : (6 : Int) < ((l.length : Nat) : Int) := odT h2
  refine Sr (Pe rfl (Ct (Xr (Rb rfl rfl ?_))))
  first | exact are_n1 (by omega) | exact are_n2 (lS q0h) (areOk_f1 q0h (by assumption)) | exact are_n2 (lS q0h) (areOk_f2 q0h (by omega)) | exact are_y2 (by omega) (fun j h => hr j (by omega)) | exact are_y3 (fun j h => hr j (by omega))
 ·have pr2 : ¬ (6 : Int) < ((l.length : Nat) : Int) := odF h2
  refine Sk (Cq (Sr (p1 rfl (q1 rfl (Dl s_40 rfl rfl (rd_sl h_l)) (Pe rfl (Cb (Cl (fun m_ ac w' => ∃ (i : Nat), (i ≤ l.length) ∧ (∀ j, j < i → areOk l j = true) ∧ m_ = l.length - i ∧ Fits ac 27 [(0, v_l), (8, v_l), (9, (.int .i64 ((l.length : Nat) : Int))), (10, (.int .i64 ((i : Nat) : Int)))] ∧ St w ([]) w') ?_ ?_)))))))
  ·refine fun ac w' hf hs => ⟨_, 0, ?_, ?_, rfl, hf.weak ⟨rfl, rfl, rfl, rfl, trivial⟩, hs⟩
   ·first | assumption | omega | simp
   ·intro j hj; omega
  ·rintro m_ ac w' ⟨i, hi, hr, rfl, hf, hs⟩
   refine D.use ?_ hf hs
   clear hf hs ac w'
   refine Sr (Pe rfl (Cq (Ci _ rfl (fun h3 => ?_) (fun h3 => ?_))))
   ·have pr3 : (((i : Nat) : Int) : Int) < ((l.length : Nat) : Int) := odT h3
    refine Sk (Cq (Cb (Sr (p1 rfl ?_))))
    obtain ⟨q0, q0h⟩ := sL (l := l) (i := i) (by omega)
    have hqz := sumC_mem (c := szRule) (List.mem_of_getElem? q0h)
    obtain ⟨es4, at5, hr6⟩ := rd_elem (n := 4) rfl h_l q0h
    obtain ⟨u7, u9, rfl, hu8, hu10⟩ := open_Rule hr6
    have hm11 := rd_max hu8
    have hm12 := rd_max hu10
    refine q1 rfl (D_ix (l := l) (j := i) s_40 rfl rfl rfl (fun w' hs => (rA hs h_l)) rfl (lS q0h)) (q1 rfl (lra a_96 rfl rfl at5) (li rfl (D_alloc y_96 rfl rfl rfl rfl fun g13 => ?_)))
    refine p1 rfl (li rfl (D_stb (vs := [(.string q0.Name), (.int .i64 q0.Priority), u7, u9]) (cs' := [(.string q0.Name), (.int .i64 q0.Priority), u7, u9]) 0 z_96 rfl rfl rfl rfl rfl rfl (ocons rfl (ocons rfl (ocons (one_rd hu8) (ocons (one_rd hu10) onil)))) (by simp) rfl ?_))
    refine Dx (Dh ([bx g13 [(.string q0.Name), (.int .i64 q0.Priority), u7, u9]]) rfl (Sr (q1 rfl (lbw 0 a_96 rfl rfl rfl) (li rfl (cv b_108 rfl rfl rfl rfl (fun w' hs => (impl_IsRule w' [(.string q0.Name), (.int .i64 q0.Priority), u7, u9] q0 (rA hs hr6) (by first | assumption | omega | (unfold szm at *; split at * <;> omega)))) ?_)))))
    refine P2 rfl rfl (gs 18 rfl rfl (fun h14 => ?_) (fun h14 => ?_))
    ·have h14n : (isRuleB q0) = false := not_t h14
     refine n1 rfl (n1 rfl (n1 rfl (n1 rfl (n1 rfl (n1 rfl (Pe rfl (Dw [(0, v_l), (8, v_l), (9, (.int .i64 ((l.length : Nat) : Int))), (10, (.int .i64 ((i : Nat) : Int))), (25, (.bool true))] ⟨rfl, rfl, rfl, rfl, rfl, trivial⟩ (Ds (H' := []) [false] rfl (C_t rfl (Sr (Pe rfl (Ct (Xq (Xr (Xr (Xq (Xr (Rb rfl rfl ?_))))))))))))))))))
     first | exact are_n1 (by omega) | exact are_n2 (lS q0h) (areOk_f1 q0h (by assumption)) | exact are_n2 (lS q0h) (areOk_f2 q0h (by omega)) | exact are_y2 (by omega) (fun j h => hr j (by omega)) | exact are_y3 (fun j h => hr j (by omega))
    ·have h14n : (isRuleB q0) = true := not_f h14
     refine p1 rfl (q1 rfl (Db f_96_0 rfl rfl (q := 0) rfl) (q1 rfl (lb 0 o_9 rfl rfl rfl rfl) (li rfl (cv b_109 rfl rfl rfl rfl (fun w' hs => (impl_FindRule w' v_l l q0.Name (rA hs h_l))) ?_))))
     refine P3 rfl rfl rfl (Dx (Dw [(0, v_l), (8, v_l), (9, (.int .i64 ((l.length : Nat) : Int))), (10, (.int .i64 ((i : Nat) : Int))), (25, (.bool (((findT l q0.Name) : Int) != ((i : Nat) : Int))))] ⟨rfl, rfl, rfl, rfl, rfl, trivial⟩ (Ds (H' := []) [false] rfl (Ci _ rfl (fun h15 => ?_) (fun h15 => ?_)))))
     ·have pr15 : ((findT l q0.Name) : Int) ≠ ((i : Nat) : Int) := bne_iff_ne.1 h15
      refine Sr (Pe rfl (Ct (Xq (Xr (Xr (Xq (Xr (Rb rfl rfl ?_))))))))
      first | exact are_n1 (by omega) | exact are_n2 (lS q0h) (areOk_f1 q0h (by assumption)) | exact are_n2 (lS q0h) (areOk_f2 q0h (by omega)) | exact are_y2 (by omega) (fun j h => hr j (by omega)) | exact are_y3 (fun j h => hr j (by omega))
     ·have pr15 : ((findT l q0.Name) : Int) = ((i : Nat) : Int) := eq_of_bne_f h15
      refine Ck (Xb (Xt (Cr (q1 rfl (D_add rfl rfl rfl (r := ((i + 1 : Nat) : Int)) (by omega) (by omega)) (Pe rfl (fun ac w' hf hs => ⟨_, ?_, i + 1, ?_, ?_, rfl, hf.weak ⟨rfl, rfl, rfl, rfl, trivial⟩, hs⟩))))))
      ·omega
      ·first | assumption | omega | simp
      ·refine forall_step hr ?_; exact areOk_t q0h (by assumption) (by omega)
   ·have pr3 : ¬ (((i : Nat) : Int) : Int) < ((l.length : Nat) : Int) := odF h3
    refine Cx (Xx (Xx (Xe (Xt (Sr (Pe rfl (Ct (Rb rfl rfl ?_))))))))
    first | exact are_n1 (by omega) | exact are_n2 (lS q0h) (areOk_f1 q0h (by assumption)) | exact are_n2 (lS q0h) (areOk_f2 q0h (by omega)) | exact are_y2 (by omega) (fun j h => hr j (by omega)) | exact are_y3 (fun j h => hr j (by omega))
theorem spec_AreRules (w : World) (v_l : Value) (l : (List Rule)) (h_l : Gd.rd w [v_l] l) (hn : szL szRule l ≤ 1048576) (ho : okL okRule l) : Calls Tryz.prog 42 [v_l].toArray w (Val w (.bool (areRulesB l))) := by
 have hm1 := rd_max h_l
 unfold szL at hn
 refine enter 30 Tryz.func42 rfl rfl rfl (Sr (Pe rfl (Cq (Sr (Pe rfl (Cb (Cl (fun m_ ac w' => ∃ (i : Nat), (i ≤ l.length) ∧ (∀ j, j < i → areOk l j = true) ∧ m_ = l.length - i ∧ Fits ac 30 [(0, v_l), (3, (.int .i64 ((i : Nat) : Int)))] ∧ St w ([]) w') ?_ ?_)))))))
 ·refine fun ac w' hf hs => ⟨_, 0, ?_, ?_, rfl, hf.weak ⟨rfl, rfl, trivial⟩, hs⟩
  ·first | assumption | omega | simp
  ·intro j hj; omega
 ·rintro m_ ac w' ⟨i, hi, hr, rfl, hf, hs⟩
  refine D.use ?_ hf hs
  clear hf hs ac w'
  refine Cq (Sr (P2 rfl rfl (q1 rfl (Dl s_40 rfl rfl (rd_sl h_l)) (Pe rfl (Ci _ rfl (fun h2 => ?_) (fun h2 => ?_))))))
  ·have pr2 : (((i : Nat) : Int) : Int) < ((l.length : Nat) : Int) := odT h2
   refine Sk (Cq (Cb (Sr (P2 rfl rfl ?_))))
   obtain ⟨q0, q0h⟩ := sL (l := l) (i := i) (by omega)
   have hqz := sumC_mem (c := szRule) (List.mem_of_getElem? q0h)
   obtain ⟨es3, at4, hr5⟩ := rd_elem (n := 4) rfl h_l q0h
   obtain ⟨u6, u9, rfl, hu7, hu10⟩ := open_Rule hr5
   have hm11 := rd_max hu7
   have hm12 := rd_max hu10
   refine q1 rfl (D_ix (l := l) (j := i) s_40 rfl rfl rfl (fun w' hs => (rA hs h_l)) rfl (lS q0h)) (q1 rfl (lra a_96 rfl rfl at4) (li rfl (cv b_98 rfl rfl rfl rfl (fun w' hs => (spec_IsRule w' [(.string q0.Name), (.int .i64 q0.Priority), u6, u9] q0 (rA hs hr5) (by first | assumption | omega | (unfold szm at *; split at * <;> omega)) (ho _ (List.mem_of_getElem? q0h)))) ?_)))
   refine P2 rfl rfl (gs 16 rfl rfl (fun h13 => ?_) (fun h13 => ?_))
   ·have h13n : (isRuleB q0) = false := not_t h13
    refine n1 rfl (n1 rfl (n1 rfl (n1 rfl (n1 rfl (n1 rfl (n1 rfl (n1 rfl (n1 rfl (Pe rfl (Dw [(0, v_l), (3, (.int .i64 ((i : Nat) : Int))), (26, (.bool true))] ⟨rfl, rfl, rfl, trivial⟩ (C_t rfl (Sr (Pe rfl (Ct (Xq (Xr (Xr (Xq ?_))))))))))))))))))
    refine Xr (Rb rfl rfl ?_)
    first | exact are_n1 (by omega) | exact are_n2 (lS q0h) (areOk_f1 q0h (by assumption)) | exact are_n2 (lS q0h) (areOk_f2 q0h (by omega)) | exact are_y2 (by omega) (fun j h => hr j (by omega)) | exact are_y3 (fun j h => hr j (by omega))
   ·have h13n : (isRuleB q0) = true := not_f h13
    refine P3 rfl rfl rfl (q1 rfl (D_ix (l := l) (j := i) s_40 rfl rfl rfl (fun w' hs => (rA hs h_l)) rfl (lS q0h)) (q1 rfl (D_fa f_96_0 rfl rfl) (q1 rfl (lr o_9 rfl rfl at4 rfl) (li rfl (cv b_40 rfl rfl rfl rfl (fun w' hs => (spec_FindRule w' v_l l q0.Name (rA hs h_l))) ?_)))))
    refine P3 rfl rfl rfl (Dx (Dw [(0, v_l), (3, (.int .i64 ((i : Nat) : Int))), (26, (.bool (((findT l q0.Name) : Int) != ((i : Nat) : Int))))] ⟨rfl, rfl, rfl, trivial⟩ (Ci _ rfl (fun h14 => ?_) (fun h14 => ?_))))
    ·have pr14 : ((findT l q0.Name) : Int) ≠ ((i : Nat) : Int) := bne_iff_ne.1 h14
     refine Sr (Pe rfl (Ct (Xq (Xr (Xr (Xq (Xr (Rb rfl rfl ?_))))))))
     first | exact are_n1 (by omega) | exact are_n2 (lS q0h) (areOk_f1 q0h (by assumption)) | exact are_n2 (lS q0h) (areOk_f2 q0h (by omega)) | exact are_y2 (by omega) (fun j h => hr j (by omega)) | exact are_y3 (fun j h => hr j (by omega))
    ·have pr14 : ((findT l q0.Name) : Int) = ((i : Nat) : Int) := eq_of_bne_f h14
     refine Ck (Xb (Xt (Cr (p1 rfl (q1 rfl (D_add rfl rfl rfl (r := ((i + 1 : Nat) : Int)) (by omega) (by omega)) (Pe rfl (fun ac w' hf hs => ⟨_, ?_, i + 1, ?_, ?_, rfl, hf.weak ⟨rfl, rfl, trivial⟩, hs⟩)))))))
     ·omega
     ·first | assumption | omega | simp
     ·refine forall_step hr ?_; exact areOk_t q0h (by assumption) (by omega)
  ·have pr2 : ¬ (((i : Nat) : Int) : Int) < ((l.length : Nat) : Int) := odF h2
   refine Cx (Xx (Xx (Xe (Xt (Sr (p1 rfl (q1 rfl (Dl s_40 rfl rfl (rd_sl h_l)) (P2 rfl rfl (Dx (Ct (Rb rfl rfl ?_)))))))))))
   show ((decide ((((l.length : Nat) : Int) : Int) ≤ 6)) : Bool) = _
   first | exact are_n1 (by omega) | exact are_n2 (lS q0h) (areOk_f1 q0h (by assumption)) | exact are_n2 (lS q0h) (areOk_f2 q0h (by omega)) | exact are_y2 (by omega) (fun j h => hr j (by omega)) | exact are_y3 (fun j h => hr j (by omega))
end Go.Sy.Eng3
