/-
  Contracts of functions of the program, walked (printed by a program of ours).
  Conditions: those that each theorem states.
-/
import Derived.Test.YtkbiaedfnpbpfaaGreatDoorNum2
set_option linter.unusedVariables false
set_option maxRecDepth 20000
namespace Go.Sy.Num3
open Go Go.RowKit Go.Proofs Go.Sy
theorem mixed : Tryz.prog.follows .mixedOrders = true := by kernel_rfl
theorem f_66_0 : fieldOff Tryz.prog 66 0 = some 0 := by kernel_rfl
theorem o_40 : oneTy Tryz.prog 40 = true := by kernel_rfl
theorem f_168_0 : fieldOff Tryz.prog 168 0 = some 0 := by kernel_rfl
theorem o_9 : oneTy Tryz.prog 9 = true := by kernel_rfl
theorem b_109 : hasBody Tryz.prog 109 = true := by kernel_rfl
theorem s_40 : sliceTy Tryz.prog 40 = some (96, 4, 72) := by kernel_rfl
theorem f_96_2 : fieldOff Tryz.prog 96 2 = some 2 := by kernel_rfl
theorem o_93 : oneTy Tryz.prog 93 = true := by kernel_rfl
theorem s_93 : sliceTy Tryz.prog 93 = some (147, 5, 80) := by kernel_rfl
theorem a_147 : aggTy Tryz.prog 147 = some 5 := by kernel_rfl
theorem y_147 : zeroTy Tryz.prog 147 = some (.agg #[(.int .i64 0), (.string ⟨#[]⟩), (.slice none 0 0), (.string ⟨#[]⟩), (.string ⟨#[]⟩)]) := by kernel_rfl
theorem z_147 : sizeTy Tryz.prog 147 = some 5 := by kernel_rfl
theorem f_147_0 : fieldOff Tryz.prog 147 0 = some 0 := by kernel_rfl
theorem o_3 : oneTy Tryz.prog 3 = true := by kernel_rfl
theorem f_168_1 : fieldOff Tryz.prog 168 1 = some 1 := by kernel_rfl
theorem o_35 : oneTy Tryz.prog 35 = true := by kernel_rfl
theorem s_35 : sliceTy Tryz.prog 35 = some (3, 1, 8) := by kernel_rfl
theorem f_66_2 : fieldOff Tryz.prog 66 2 = some 2 := by kernel_rfl
theorem b_40 : hasBody Tryz.prog 40 = true := by kernel_rfl
theorem a_96 : aggTy Tryz.prog 96 = some 4 := by kernel_rfl
theorem b_179 : hasBody Tryz.prog 179 = true := by kernel_rfl
theorem b_99 : hasBody Tryz.prog 99 = true := by kernel_rfl
theorem s_63 : sliceTy Tryz.prog 63 = some (168, 2, 40) := by kernel_rfl
theorem f_37_0 : fieldOff Tryz.prog 37 0 = some 0 := by kernel_rfl
theorem f_34_0 : fieldOff Tryz.prog 34 0 = some 0 := by kernel_rfl
theorem f_37_2 : fieldOff Tryz.prog 37 2 = some 4 := by kernel_rfl
theorem b_180 : hasBody Tryz.prog 180 = true := by kernel_rfl
theorem b_51 : hasBody Tryz.prog 51 = true := by kernel_rfl
theorem f_66_1 : fieldOff Tryz.prog 66 1 = some 1 := by kernel_rfl
theorem o_42 : oneTy Tryz.prog 42 = true := by kernel_rfl
theorem b_52 : hasBody Tryz.prog 52 = true := by kernel_rfl
theorem f_66_3 : fieldOff Tryz.prog 66 3 = some 3 := by kernel_rfl
theorem o_63 : oneTy Tryz.prog 63 = true := by kernel_rfl
theorem f_66_5 : fieldOff Tryz.prog 66 5 = some 5 := by kernel_rfl
theorem o_64 : oneTy Tryz.prog 64 = true := by kernel_rfl
theorem s_64 : sliceTy Tryz.prog 64 = some (171, 4, 64) := by kernel_rfl
theorem s_42 : sliceTy Tryz.prog 42 = some (100, 3, 48) := by kernel_rfl
theorem a_100 : aggTy Tryz.prog 100 = some 3 := by kernel_rfl
theorem y_100 : zeroTy Tryz.prog 100 = some (.agg #[(.string ⟨#[]⟩), (.slice none 0 0), (.int .i64 0)]) := by kernel_rfl
theorem z_100 : sizeTy Tryz.prog 100 = some 3 := by kernel_rfl
theorem f_100_1 : fieldOff Tryz.prog 100 1 = some 2 := by kernel_rfl
theorem a_168 : aggTy Tryz.prog 168 = some 2 := by kernel_rfl
theorem y_168 : zeroTy Tryz.prog 168 = some (.agg #[(.string ⟨#[]⟩), (.slice none 0 0)]) := by kernel_rfl
theorem z_168 : sizeTy Tryz.prog 168 = some 2 := by kernel_rfl
theorem a_66 : aggTy Tryz.prog 66 = some 6 := by kernel_rfl
theorem b_135 : hasBody Tryz.prog 135 = true := by kernel_rfl
theorem b_136 : hasBody Tryz.prog 136 = true := by kernel_rfl
theorem a_171 : aggTy Tryz.prog 171 = some 4 := by kernel_rfl
theorem y_171 : zeroTy Tryz.prog 171 = some (.agg #[(.int .i64 0), (.string ⟨#[]⟩), (.string ⟨#[]⟩), (.slice none 0 0)]) := by kernel_rfl
theorem z_171 : sizeTy Tryz.prog 171 = some 4 := by kernel_rfl
theorem b_137 : hasBody Tryz.prog 137 = true := by kernel_rfl
theorem b_42 : hasBody Tryz.prog 42 = true := by kernel_rfl
theorem b_43 : hasBody Tryz.prog 43 = true := by kernel_rfl
theorem b_125 : hasBody Tryz.prog 125 = true := by kernel_rfl
theorem pl_37 : placeTy Tryz.prog 37 = some ([(0, 3), (3, 1), (4, 1), (5, 1), (6, 1)], [(.string ⟨#[]⟩), (.slice none 0 0), (.slice none 0 0), (iv 0), (.slice none 0 0), (iv 0), (iv 0)]) := by kernel_rfl
theorem b_126 : hasBody Tryz.prog 126 = true := by kernel_rfl
theorem b_127 : hasBody Tryz.prog 127 = true := by kernel_rfl
open Go.Sy.Bel1 Go.Sy.Ev1 Go.Sy.Ev2 Go.Sy.Fmt1 Go.Sy.Eng1 Go.Sy.Eng2 Go.Sy.Eng3 Go.Sy.Num1 Go.Sy.Num2
set_option maxHeartbeats 4000000 in
theorem impl_firingFits {w : World} {c_e : List Value} {e : Engine} {c_f : List Value} {f : Firing} (h_e : Gd.rd w c_e e) (h_f : Gd.rd w c_f f) : Calls Tryz.prog 135 [(.agg c_e.toArray), (.agg c_f.toArray)].toArray w (Val w (.bool (fireB e f))) := by
 obtain ⟨u1, u3, u5, u7, rfl, hu2, hu4, hu6, hu8⟩ := open_Engine h_e
 have hm9 := rd_max hu2
 have hm10 := rd_max hu4
 have hm11 := rd_max hu6
 have hm12 := rd_max hu8
 obtain ⟨u13, rfl, hu14⟩ := open_Firing h_f
 have hm15 := rd_max hu14
 refine enter 56 Tryz.func135 Y Y Y (Sr (li Y (D_box Y Y Y Y Y fun g16 => ?_)))
 refine li Y (D_box Y Y Y Y Y fun g17 => ?_)
 refine Pe Y (Dh ([bx g17 [(.string f.Rule), u13], bx g16 [u1, u3, (iv e.Clock), u5, (.bool e.Halted), u7]]) Y (Sr (q1 Y (Db f_66_0 Y Y (q := 0) Y) (q1 Y (lb 1 o_40 Y Y Y Y) (q1 Y (Db f_168_0 Y Y (q := 0) Y) (q1 Y (lb 0 o_9 Y Y Y Y) (li Y (cv b_109 Y Y Y Y (fun w' hs => (impl_FindRule (rA hs hu2))) ?_))))))))
 refine Pe Y (Cq (Cq ?_))
 have hfl := findT_lt e.Rules f.Rule
 refine Cr (P2 Y Y (Dx (Ci _ Y (fun h18 => ?_) (fun h18 => ?_))))
 ·have pr18 := odT h18
  refine Sr (Pe Y (Ct (Xr (Rb Y Y ?_))))
  first | exact fi_n0 (by omega) | exact fi_n1 t0h (by unfold inR; simp; omega) | exact fi_eq r0h (by omega) (fun i h => ht i (by omega)) (nPosT_end hc (by omega) (by omega))
 ·have pr18 := odF h18
  refine Sk (Sr (Pe Y (Cq (Sr (q1 Y (Db f_66_0 Y Y (q := 0) Y) (q1 Y (lb 1 o_40 Y Y Y Y) (p1 Y ?_)))))))
  obtain ⟨r0, r0h⟩ := sL (l := e.Rules) (i := ((findT e.Rules f.Rule).toNat)) (by omega)
  obtain ⟨es19, at20, hr21⟩ := rd_elem (n := 4) rfl hu2 r0h
  obtain ⟨u22, u24, rfl, hu23, hu25⟩ := open_Rule hr21
  have hm26 := rd_max hu23
  have hm27 := rd_max hu25
  refine q1 Y (D_ix (l := e.Rules) (j := ((findT e.Rules f.Rule).toNat)) s_40 Y Y Y (fun w' hs => (rA hs hu2)) (Int.toNat_of_nonneg (by omega)).symm (lS r0h)) (q1 Y (D_fa f_96_2 Y Y) (q1 Y (lr o_93 Y Y at20 Y) (q1 Y (Dl s_93 Y Y (rd_sl hu23)) (Pe Y (D_wk [2, 3, 6, 23, 24, 25] Y (Cb (Cl (fun m_ ac w' => ∃ (k : Nat), ∃ (c : Nat), (k ≤ r0.If.length) ∧ (c = nPosT r0.If k) ∧ m_ = r0.If.length - k ∧ Fits ac 56 [(2, (pv g16)), (3, (pv g17)), (6, (nv c)), (23, u22), (24, (nv r0.If.length)), (25, (nv k))] ∧ St w ([bx g17 [(.string f.Rule), u13], bx g16 [u1, u3, (iv e.Clock), u5, (.bool e.Halted), u7]]) w') ?_ ?_)))))))
  ·refine fun ac w' hf hs => ⟨_, 0, 0, ?_, ?_, Y, hf.wk Y, hs⟩
   ·first | assumption | omega | simp
   ·simp [nPosT]
  ·rintro m_ ac w' ⟨k, c, hk, hc, rfl, hf, hs⟩
   refine D.use ?_ hf hs
   clear hf hs ac w'
   have hcl := nPosT_le r0.If k
   refine Sr (Pe Y (Cq (Ci _ Y (fun h28 => ?_) (fun h28 => ?_))))
   ·have pr28 := odT h28
    refine Sk (Cq (Cb (Sr ?_)))
    obtain ⟨x0, x0h⟩ := sL (l := r0.If) (i := k) (by omega)
    obtain ⟨es29, at30, hr31⟩ := rd_elem (n := 5) rfl hu23 x0h
    obtain ⟨u33, rfl, hu34⟩ := open_Cond hr31
    have hm35 := rd_max hu34
    have hb36 := sub_Cond_Pattern hr31
    refine q1 Y (D_ix (l := r0.If) (j := k) s_93 Y Y Y (fun w' hs => (rA hs hu23)) Y (lS x0h)) (q1 Y (lra a_147 Y Y at30) (li Y (D_alloc y_147 Y Y Y Y fun g37 => ?_)))
    refine li Y (D_stb (vs := [(iv x0.Kind), (.string x0.Pattern.Rel), u33, (.string x0.Left), (.string x0.Right)]) (cs' := [(iv x0.Kind), (.string x0.Pattern.Rel), u33, (.string x0.Left), (.string x0.Right)]) 0 z_147 Y Y Y Y Y Y (ocons Y (ocons Y (ocons (one_rd hu34) (ocons Y (ocons Y onil))))) (by simp) Y ?_)
    refine Dx (Dh ([bx g37 [(iv x0.Kind), (.string x0.Pattern.Rel), u33, (.string x0.Left), (.string x0.Right)], _, _]) Y (Sr (q1 Y (Db f_147_0 Y Y (q := 0) Y) (q1 Y (lb 0 o_3 Y Y Y Y) (Pe Y (Ci _ Y (fun h38 => ?_) (fun h38 => ?_)))))))
    ·have pr38 := eq_of_beq h38
     refine Cr (p1 Y (q1 Y (D_add Y Y Y (r := ((c + 1 : Nat) : Int)) (by omega) (by omega)) (p1 Y (De (Xb (Xt (Cr (q1 Y (D_add Y Y Y (r := ((k + 1 : Nat) : Int)) (by omega) (by omega)) (Pe Y (fun ac w' hf hs => ⟨_, ?_, k + 1, c + 1, ?_, ?_, Y, hf.wk Y, hs.pk [1, 2] Y Y⟩))))))))))
     ·omega
     ·first | assumption | omega | simp
     ·first | (rw [hc]; exact nPosT_t x0h (by omega)) | (rw [hc]; exact nPosT_f x0h (by omega))
    ·have pr38 := ne_of_beq_false h38
     refine Ck (Xb (Xt (Cr (q1 Y (D_add Y Y Y (r := ((k + 1 : Nat) : Int)) (by omega) (by omega)) (Pe Y (fun ac w' hf hs => ⟨_, ?_, k + 1, c, ?_, ?_, Y, hf.wk Y, hs.pk [1, 2] Y Y⟩))))))
     ·omega
     ·first | assumption | omega | simp
     ·first | (rw [hc]; exact nPosT_t x0h (by omega)) | (rw [hc]; exact nPosT_f x0h (by omega))
   ·have pr28 := odF h28
    refine Cx (Xx (Xx (Xe (Xt (Cq (Sr (q1 Y (Db f_168_1 Y Y (q := 1) Y) (q1 Y (lb 0 o_35 Y Y Y Y) (q1 Y (Dl s_35 Y Y (rd_sl hu14)) (Pe Y (Cb (Cl (fun m_ ac w' => ∃ (j : Nat), (j ≤ f.Times.length) ∧ (∀ i, i < j → ∀ t, f.Times[i]? = some t → inR t 1 e.Clock = true) ∧ m_ = f.Times.length - j ∧ Fits ac 56 [(2, (pv g16)), (3, (pv g17)), (6, (nv c)), (36, u13), (37, (nv f.Times.length)), (38, (nv j))] ∧ St w ([bx g17 [(.string f.Rule), u13], bx g16 [u1, u3, (iv e.Clock), u5, (.bool e.Halted), u7]]) w') ?_ ?_))))))))))))
    ·refine fun ac w' hf hs => ⟨_, 0, ?_, ?_, Y, hf.wk Y, hs⟩
     ·first | assumption | omega | simp
     ·intro i hi; omega
    ·rintro m_ ac w' ⟨j, hj, ht, rfl, hf, hs⟩
     refine D.use ?_ hf hs
     clear hf hs ac w'
     refine Sr (Pe Y (Cq (Ci _ Y (fun h39 => ?_) (fun h39 => ?_))))
     ·have pr39 := odT h39
      refine Sk (Cq (Cb (Sr ?_)))
      obtain ⟨t0, t0h⟩ := sL (l := f.Times) (i := j) (by omega)
      obtain ⟨es40, at41, hr42⟩ := rd_elem (n := 1) rfl hu14 t0h
      obtain rfl : es40 = [.int .i64 t0] := hr42
      refine q1 Y (D_ix (l := f.Times) (j := j) s_35 Y Y Y (fun w' hs => (rA hs hu14)) Y (lS t0h)) (q1 Y (lr0 o_3 Y Y at41 Y) (Pe Y (Sr (P3 Y Y Y (gs 44 Y Y (fun h43 => ?_) (fun h43 => ?_))))))
      ·have pr43 := odT h43
       refine n1 Y (n1 Y (n1 Y (n1 Y (Pe Y (C_t Y (Sr (Pe Y (Ct (Xq (Xr (Xr (Xq (Xr (Rb Y Y ?_))))))))))))))
       first | exact fi_n0 (by omega) | exact fi_n1 t0h (by unfold inR; simp; omega) | exact fi_eq r0h (by omega) (fun i h => ht i (by omega)) (nPosT_end hc (by omega) (by omega))
      ·have pr43 := odF h43
       refine p1 Y (q1 Y (Db f_66_2 Y Y (q := 2) Y) (q1 Y (lb 1 o_3 Y Y Y Y) (P2 Y Y (Dx (Ci _ Y (fun h44 => ?_) (fun h44 => ?_))))))
       ·have pr44 := odT h44
        refine Sr (Pe Y (Ct (Xq (Xr (Xr (Xq (Xr (Rb Y Y ?_))))))))
        first | exact fi_n0 (by omega) | exact fi_n1 t0h (by unfold inR; simp; omega) | exact fi_eq r0h (by omega) (fun i h => ht i (by omega)) (nPosT_end hc (by omega) (by omega))
       ·have pr44 := odF h44
        refine Ck (Xb (Xt (Cr (q1 Y (D_add Y Y Y (r := ((j + 1 : Nat) : Int)) (by omega) (by omega)) (Pe Y (fun ac w' hf hs => ⟨_, ?_, j + 1, ?_, ?_, Y, hf.wk Y, hs⟩))))))
        ·omega
        ·first | assumption | omega | simp
        ·refine forall_step ht ?_; intro y hy; obtain rfl : y = t0 := Option.some.inj (hy.symm.trans t0h); first | assumption | (unfold inR; simp; omega)
     ·have pr39 := odF h39
      refine Cx (Xx (Xx (Xe (Xt (Sr (q1 Y (Db f_168_1 Y Y (q := 1) Y) (q1 Y (lb 0 o_35 Y Y Y Y) (q1 Y (Dl s_35 Y Y (rd_sl hu14)) (P3 Y Y Y (Dx (Ct (Rb Y Y ?_))))))))))))
      show (((((f.Times.length : Nat) : Int) : Int) == ((c : Nat) : Int)) : Bool) = _
      first | exact fi_n0 (by omega) | exact fi_n1 t0h (by unfold inR; simp; omega) | exact fi_eq r0h (by omega) (fun i h => ht i (by omega)) (nPosT_end hc (by omega) (by omega))
theorem spec_l10Has {w : World} {c_r : List Value} {r : Rule} (h_r : Gd.rd w c_r r) : Calls Tryz.prog 179 [(.agg c_r.toArray)].toArray w (Val w (iv ((nPos r : Int)))) := by
 obtain ⟨u1, u3, rfl, hu2, hu4⟩ := open_Rule h_r
 have hm5 := rd_max hu2
 have hm6 := rd_max hu4
 refine enter 22 Tryz.func179 Y Y Y (Sr (li Y (D_box Y Y Y Y Y fun g7 => ?_)))
 refine Pe Y (Dh ([bx g7 [(.string r.Name), (iv r.Priority), u1, u3]]) Y (Sr (Pe Y (Cq (Sr (Pe Y (Cb (Cl (fun m_ ac w' => ∃ (k : Nat), ∃ (c : Nat), (k ≤ r.If.length) ∧ (c = nPosT r.If k) ∧ m_ = r.If.length - k ∧ Fits ac 22 [(1, (pv g7)), (3, (nv c)), (4, (nv k))] ∧ St w ([bx g7 [(.string r.Name), (iv r.Priority), u1, u3]]) w') ?_ ?_))))))))
 ·refine fun ac w' hf hs => ⟨_, 0, 0, ?_, ?_, Y, hf.wk Y, hs⟩
  ·first | assumption | omega | simp
  ·simp [nPosT]
 ·rintro m_ ac w' ⟨k, c, hk, hc, rfl, hf, hs⟩
  refine D.use ?_ hf hs
  clear hf hs ac w'
  have hcl := nPosT_le r.If k
  refine Cq (Sr (p1 Y (q1 Y (Db f_96_2 Y Y (q := 2) Y) (q1 Y (lb 0 o_93 Y Y Y Y) (q1 Y (Dl s_93 Y Y (rd_sl hu2)) (Pe Y (Ci _ Y (fun h8 => ?_) (fun h8 => ?_))))))))
  ·have pr8 := odT h8
   refine Sk (Cq (Cb (Sr (q1 Y (Db f_96_2 Y Y (q := 2) Y) (q1 Y (lb 0 o_93 Y Y Y Y) (p1 Y ?_))))))
   obtain ⟨x0, x0h⟩ := sL (l := r.If) (i := k) (by omega)
   obtain ⟨es9, at10, hr11⟩ := rd_elem (n := 5) rfl hu2 x0h
   obtain ⟨u12, rfl, hu13⟩ := open_Cond hr11
   have hm14 := rd_max hu13
   have hb15 := sub_Cond_Pattern hr11
   refine q1 Y (D_ix (l := r.If) (j := k) s_93 Y Y Y (fun w' hs => (rA hs hu2)) Y (lS x0h)) (q1 Y (D_fa f_147_0 Y Y) (q1 Y (lr o_3 Y Y at10 Y) (Pe Y (Ci _ Y (fun h16 => ?_) (fun h16 => ?_)))))
   ·have pr16 := eq_of_beq h16
    refine Cr (p1 Y (q1 Y (D_add Y Y Y (r := ((c + 1 : Nat) : Int)) (by omega) (by omega)) (p1 Y (De (Xb (Xt (Cr (p1 Y (q1 Y (D_add Y Y Y (r := ((k + 1 : Nat) : Int)) (by omega) (by omega)) (Pe Y (fun ac w' hf hs => ⟨_, ?_, k + 1, c + 1, ?_, ?_, Y, hf.wk Y, hs⟩)))))))))))
    ·omega
    ·first | assumption | omega | simp
    ·first | (rw [hc]; exact nPosT_t x0h (by omega)) | (rw [hc]; exact nPosT_f x0h (by omega))
   ·have pr16 := ne_of_beq_false h16
    refine Ck (Xb (Xt (Cr (p1 Y (q1 Y (D_add Y Y Y (r := ((k + 1 : Nat) : Int)) (by omega) (by omega)) (Pe Y (fun ac w' hf hs => ⟨_, ?_, k + 1, c, ?_, ?_, Y, hf.wk Y, hs⟩)))))))
    ·omega
    ·first | assumption | omega | simp
    ·first | (rw [hc]; exact nPosT_t x0h (by omega)) | (rw [hc]; exact nPosT_f x0h (by omega))
  ·have pr8 := odF h8
   refine Cx (Xx (Xx (Xe (Xt (Sr (P2 Y Y (Dx (Ct (Ri Y Y ?_)))))))))
   show (((c : Nat) : Int) : Int) = _
   rw [nPosT_end hc (by omega) (by omega)]
theorem spec_l10Firing {w : World} {c_e : List Value} {e : Engine} {c_x : List Value} {x : Firing} (h_e : Gd.rd w c_e e) (h_x : Gd.rd w c_x x) : Calls Tryz.prog 125 [(.agg c_e.toArray), (.agg c_x.toArray)].toArray w (Val w (.bool (fireB e x))) := by
 obtain ⟨u1, u3, u5, u7, rfl, hu2, hu4, hu6, hu8⟩ := open_Engine h_e
 have hm9 := rd_max hu2
 have hm10 := rd_max hu4
 have hm11 := rd_max hu6
 have hm12 := rd_max hu8
 obtain ⟨u13, rfl, hu14⟩ := open_Firing h_x
 have hm15 := rd_max hu14
 refine enter 42 Tryz.func125 Y Y Y (Sr (li Y (D_box Y Y Y Y Y fun g16 => ?_)))
 refine li Y (D_box Y Y Y Y Y fun g17 => ?_)
 refine Pe Y (Dh ([bx g17 [(.string x.Rule), u13], bx g16 [u1, u3, (iv e.Clock), u5, (.bool e.Halted), u7]]) Y (Sr (q1 Y (Db f_66_0 Y Y (q := 0) Y) (q1 Y (lb 1 o_40 Y Y Y Y) (q1 Y (Db f_168_0 Y Y (q := 0) Y) (q1 Y (lb 0 o_9 Y Y Y Y) (li Y (cv b_40 Y Y Y Y (fun w' hs => (spec_FindRule (rA hs hu2))) ?_))))))))
 refine Pe Y (Cq (Cq ?_))
 have hfl := findT_lt e.Rules x.Rule
 refine C_draw mixed [] (by kernel_rfl) (Tk 0 Y (by kernel_rfl) Y (rp Y) (Tk 1 Y (by kernel_rfl) Y (rp Y) (Tk 2 Y (by kernel_rfl) Y (rp Y) (gs 14 Y Y (fun h18 => ?_) (fun h18 => ?_)))))
 ·have pr18 := odT h18
  refine tn 3 Y (by kernel_rfl) (by kernel_rfl) (by kernel_rfl) Y Y Y (fun _ hs => hs) (tn 4 Y (by kernel_rfl) (by kernel_rfl) (by kernel_rfl) Y Y Y (fun _ hs => hs) (tn 5 Y (by kernel_rfl) (by kernel_rfl) (by kernel_rfl) Y Y Y (fun _ hs => hs) (tn 6 Y (by kernel_rfl) (by kernel_rfl) (by kernel_rfl) Y Y Y (fun _ hs => hs) (tn 7 Y (by kernel_rfl) (by kernel_rfl) (by kernel_rfl) Y Y Y (fun _ hs => hs) (tn 8 Y (by kernel_rfl) (by kernel_rfl) (by kernel_rfl) Y Y Y (fun _ hs => hs) (tn 9 Y (by kernel_rfl) (by kernel_rfl) (by kernel_rfl) Y Y Y (fun _ hs => hs) (tn 10 Y (by kernel_rfl) (by kernel_rfl) (by kernel_rfl) Y Y Y (fun _ hs => hs) (tn 11 Y (by kernel_rfl) (by kernel_rfl) (by kernel_rfl) Y Y Y (fun _ hs => hs) (tn 12 Y (by kernel_rfl) (by kernel_rfl) (by kernel_rfl) Y Y Y (fun _ hs => hs) (Tk 13 Y (by kernel_rfl) Y (rp Y) (tE (by kernel_rfl) (Xt (D_wk [2, 3, 25] Y (C_t Y (Sr (Pe Y (Ct (Xr (Rb Y Y ?_)))))))))))))))))))
  first | exact fi_n0 (by omega) | exact fi_n2 r0h (by omega) | exact fi_n1 t0h (by assumption) | exact fi_t r0h (by omega) (fun i h => ht i (by omega)) (by omega)
 ·have pr18 := odF h18
  refine Tk 3 Y (by kernel_rfl) Y (Db f_168_1 Y Y (q := 1) Y) (Tk 4 Y (by kernel_rfl) Y (lb 0 o_35 Y Y Y Y) (Tk 5 Y (by kernel_rfl) Y (Dl s_35 Y Y (rd_sl hu14)) (Tk 6 Y (by kernel_rfl) Y (Db f_66_0 Y Y (q := 0) Y) (Tk 7 Y (by kernel_rfl) Y (lb 1 o_40 Y Y Y Y) (Tk 8 Y (by kernel_rfl) Y (rp Y) ?_)))))
  obtain ⟨r0, r0h⟩ := sL (l := e.Rules) (i := ((findT e.Rules x.Rule).toNat)) (by omega)
  obtain ⟨es19, at20, hr21⟩ := rd_elem (n := 4) rfl hu2 r0h
  obtain ⟨u22, u24, rfl, hu23, hu25⟩ := open_Rule hr21
  have hm26 := rd_max hu23
  have hm27 := rd_max hu25
  refine Tk 9 Y (by kernel_rfl) Y (D_ix (l := e.Rules) (j := ((findT e.Rules x.Rule).toNat)) s_40 Y Y Y (fun w' hs => (rA hs hu2)) (Int.toNat_of_nonneg (by omega)).symm (lS r0h)) (Tk 10 Y (by kernel_rfl) Y (lra a_96 Y Y at20) (ty 11 Y (by kernel_rfl) Y (cv b_179 Y Y Y Y (fun w' hs => (spec_l10Has (rA hs hr21))) ?_)))
  refine tS (fun _ hs => hs) (Tk 12 Y (by kernel_rfl) Y (rp Y) (Tk 13 Y (by kernel_rfl) Y (rp Y) (tE (by kernel_rfl) (Xt (D_wk [2, 3, 25] Y (Ci _ Y (fun h28 => ?_) (fun h28 => ?_)))))))
  ·have pr28 := bne_iff_ne.1 h28
   refine Sr (Pe Y (Ct (Xr (Rb Y Y ?_))))
   first | exact fi_n0 (by omega) | exact fi_n2 r0h (by omega) | exact fi_n1 t0h (by assumption) | exact fi_t r0h (by omega) (fun i h => ht i (by omega)) (by omega)
  ·have pr28 := eq_of_bne_f h28
   refine Sk (Cq (Sr (Pe Y (Cb (Cl (fun m_ ac w' => ∃ (j : Nat), (j ≤ x.Times.length) ∧ (∀ i, i < j → ∀ t, x.Times[i]? = some t → inR t 1 e.Clock = true) ∧ m_ = x.Times.length - j ∧ Fits ac 42 [(2, (pv g16)), (3, (pv g17)), (6, (nv j))] ∧ St w ([bx g17 [(.string x.Rule), u13], bx g16 [u1, u3, (iv e.Clock), u5, (.bool e.Halted), u7]]) w') ?_ ?_)))))
   ·refine fun ac w' hf hs => ⟨_, 0, ?_, ?_, Y, hf.wk Y, hs⟩
    ·first | assumption | omega | simp
    ·intro i hi; omega
   ·rintro m_ ac w' ⟨j, hj, ht, rfl, hf, hs⟩
    refine D.use ?_ hf hs
    clear hf hs ac w'
    refine Cq (Sr (p1 Y (q1 Y (Db f_168_1 Y Y (q := 1) Y) (q1 Y (lb 0 o_35 Y Y Y Y) (q1 Y (Dl s_35 Y Y (rd_sl hu14)) (Pe Y (Ci _ Y (fun h29 => ?_) (fun h29 => ?_))))))))
    ·have pr29 := odT h29
     refine Sk (Cq (Cb (Cq (C_draw mixed [7, 8] (by kernel_rfl) (Tk 0 Y (by kernel_rfl) Y (Db f_168_1 Y Y (q := 1) Y) (Tk 1 Y (by kernel_rfl) Y (lb 0 o_35 Y Y Y Y) (Tk 2 Y (by kernel_rfl) Y (rp Y) ?_)))))))
     obtain ⟨t0, t0h⟩ := sL (l := x.Times) (i := j) (by omega)
     obtain ⟨es30, at31, hr32⟩ := rd_elem (n := 1) rfl hu14 t0h
     obtain rfl : es30 = [.int .i64 t0] := hr32
     refine Tk 3 Y (by kernel_rfl) Y (D_ix (l := x.Times) (j := j) s_35 Y Y Y (fun w' hs => (rA hs hu14)) Y (lS t0h)) (Tk 4 Y (by kernel_rfl) Y (lr0 o_3 Y Y at31 Y) (Tk 5 Y (by kernel_rfl) Y (Db f_66_2 Y Y (q := 2) Y) (Tk 6 Y (by kernel_rfl) Y (lb 1 o_3 Y Y Y Y) (ty 7 Y (by kernel_rfl) Y (cv b_99 Y Y Y Y (fun w' hs => spec_l1In) ?_)))))
     refine tZ Y (ty 8 Y (by kernel_rfl) Y (sv Y Y (rp Y) ?_))
     refine tZ Y (tE (by kernel_rfl) (Xt (Ci _ Y (fun h33 => ?_) (fun h33 => ?_))))
     ·have h33n := not_t h33
      refine Sr (Pe Y (Ct (Xq (Xr (Xr (Xq (Xr (Rb Y Y ?_))))))))
      first | exact fi_n0 (by omega) | exact fi_n2 r0h (by omega) | exact fi_n1 t0h (by assumption) | exact fi_t r0h (by omega) (fun i h => ht i (by omega)) (by omega)
     ·have h33n := not_f h33
      refine Ck (Xb (Xt (Cr (p1 Y (q1 Y (D_add Y Y Y (r := ((j + 1 : Nat) : Int)) (by omega) (by omega)) (Pe Y (fun ac w' hf hs => ⟨_, ?_, j + 1, ?_, ?_, Y, hf.wk Y, hs⟩)))))))
      ·omega
      ·first | assumption | omega | simp
      ·refine forall_step ht ?_; intro y hy; obtain rfl : y = t0 := Option.some.inj (hy.symm.trans t0h); first | assumption | (unfold inR; simp; omega)
    ·have pr29 := odF h29
     refine Cx (Xx (Xx (Xe (Xt (Sr (Pe Y (Ct (Rb Y Y ?_))))))))
     first | exact fi_n0 (by omega) | exact fi_n2 r0h (by omega) | exact fi_n1 t0h (by assumption) | exact fi_t r0h (by omega) (fun i h => ht i (by omega)) (by omega)
theorem spec_HasFired {w : World} {v_l : Value} {l : (List Firing)} {c_x : List Value} {x : Choice} (h_l : Gd.rd w [v_l] l) (h_x : Gd.rd w c_x x) : Calls Tryz.prog 126 [v_l, (.agg c_x.toArray)].toArray w (Val w (.bool (hasF l x.Match.Rule x.Times))) := by
 have hm1 := rd_max h_l
 obtain ⟨u2, u4, u6, rfl, hu3, hu5, hu7⟩ := open_Choice h_x
 have hm8 := rd_max hu3
 have hm9 := rd_max hu5
 have hm10 := rd_max hu7
 have hb11 := sub_Choice_Match h_x
 refine enter 31 Tryz.func126 Y Y Y (Sr (li Y (D_box Y Y Y Y Y fun g12 => ?_)))
 refine Pe Y (Dh ([bx g12 [(.string x.Match.Rule), u2, u4, (iv x.Priority), u6, (iv x.Specific), (iv x.Order)]]) Y (Cq (Sr (Pe Y (Cb (Cl (fun m_ ac w' => ∃ (k : Nat), (k ≤ l.length) ∧ (∀ i, i < k → ∀ f, l[i]? = some f → ¬ (f.Rule = x.Match.Rule ∧ f.Times = x.Times)) ∧ m_ = l.length - k ∧ Fits ac 31 [(0, v_l), (3, (pv g12)), (5, (nv k))] ∧ St w ([bx g12 [(.string x.Match.Rule), u2, u4, (iv x.Priority), u6, (iv x.Specific), (iv x.Order)]]) w') ?_ ?_))))))
 ·refine fun ac w' hf hs => ⟨_, 0, ?_, ?_, Y, hf.wk Y, hs⟩
  ·first | assumption | omega | simp
  ·intro i hi; omega
 ·rintro m_ ac w' ⟨k, hk, hi, rfl, hf, hs⟩
  refine D.use ?_ hf hs
  clear hf hs ac w'
  refine Cq (Sr (P2 Y Y (q1 Y (Dl s_63 Y Y (rd_sl h_l)) (Pe Y (Ci _ Y (fun h13 => ?_) (fun h13 => ?_))))))
  ·have pr13 := odT h13
   refine Sk (Cq (Cb (Cq (C_draw mixed [17, 18] (by kernel_rfl) (Tk 0 Y (by kernel_rfl) Y (rp Y) (Tk 1 Y (by kernel_rfl) Y (rp Y) ?_))))))
   obtain ⟨f0, f0h⟩ := sL (l := l) (i := k) (by omega)
   obtain ⟨es14, at15, hr16⟩ := rd_elem (n := 2) rfl h_l f0h
   obtain ⟨u17, rfl, hu18⟩ := open_Firing hr16
   have hm19 := rd_max hu18
   refine Tk 2 Y (by kernel_rfl) Y (D_ix (l := l) (j := k) s_63 Y Y Y (fun w' hs => (rA hs h_l)) Y (lS f0h)) (Tk 3 Y (by kernel_rfl) Y (D_fa f_168_0 Y Y) (Tk 4 Y (by kernel_rfl) Y (lr o_9 Y Y at15 Y) (Tk 5 Y (by kernel_rfl) Y (Db f_37_0 Y Y (q := 0) Y) (Tk 6 Y (by kernel_rfl) Y (Db f_34_0 Y Y (q := 0) Y) (Tk 7 Y (by kernel_rfl) Y (lb 0 o_9 Y Y Y Y) (Tk 8 Y (by kernel_rfl) Y (D_eqS Y Y Y) (Tk 9 Y (by kernel_rfl) Y (rp Y) (gs 21 Y Y (fun h20 => ?_) (fun h20 => ?_)))))))))
   ·have pr20 := odT h20
    refine Tk 10 Y (by kernel_rfl) Y (rp Y) (Tk 11 Y (by kernel_rfl) Y (rp Y) (Tk 12 Y (by kernel_rfl) Y (D_ix (l := l) (j := k) s_63 Y Y Y (fun w' hs => (rA hs h_l)) Y (lS f0h)) (Tk 13 Y (by kernel_rfl) Y (D_fa f_168_1 Y Y) (Tk 14 Y (by kernel_rfl) Y (lr o_35 Y Y at15 Y) (Tk 15 Y (by kernel_rfl) Y (Db f_37_2 Y Y (q := 4) Y) (Tk 16 Y (by kernel_rfl) Y (lb 0 o_35 Y Y Y Y) (ty 17 Y (by kernel_rfl) Y (cv b_180 Y Y Y Y (fun w' hs => (spec_l9SameInts (rA hs hu18) (rA hs hu7))) ?_))))))))
    refine tZ Y (ty 18 Y (by kernel_rfl) Y (sv Y Y (rp Y) ?_))
    refine tZ Y (tE (by kernel_rfl) (Xt (D_wk [0, 3, 5, 30] Y (Ci _ Y (fun h21 => ?_) (fun h21 => ?_)))))
    ·refine Sr (Pe Y (Ct (Xq (Xr (Xr (Xq (Xr (Rb Y Y ?_))))))))
     exact hasF_t f0h (by assumption) (by simp_all)
    ·refine Ck (Xb (Xt (Cr (p1 Y (q1 Y (D_add Y Y Y (r := ((k + 1 : Nat) : Int)) (by omega) (by omega)) (Pe Y (fun ac w' hf hs => ⟨_, ?_, k + 1, ?_, ?_, Y, hf.wk Y, hs⟩)))))))
     ·omega
     ·first | assumption | omega | simp
     ·refine forall_step hi ?_; intro y hy; first | (obtain rfl : y = f0 := Option.some.inj (hy.symm.trans f0h); simp_all; done) | simp_all
   ·have pr20 := odF h20
    refine tn 10 Y (by kernel_rfl) (by kernel_rfl) (by kernel_rfl) Y Y Y (fun _ hs => hs) (tn 11 Y (by kernel_rfl) (by kernel_rfl) (by kernel_rfl) Y Y Y (fun _ hs => hs) (tn 12 Y (by kernel_rfl) (by kernel_rfl) (by kernel_rfl) Y Y Y (fun _ hs => hs) (tn 13 Y (by kernel_rfl) (by kernel_rfl) (by kernel_rfl) Y Y Y (fun _ hs => hs) (tn 14 Y (by kernel_rfl) (by kernel_rfl) (by kernel_rfl) Y Y Y (fun _ hs => hs) (tn 15 Y (by kernel_rfl) (by kernel_rfl) (by kernel_rfl) Y Y Y (fun _ hs => hs) (tn 16 Y (by kernel_rfl) (by kernel_rfl) (by kernel_rfl) Y Y Y (fun _ hs => hs) (tn 17 Y (by kernel_rfl) (by kernel_rfl) (by kernel_rfl) Y Y Y (fun _ hs => hs) (ty 18 Y (by kernel_rfl) Y (sv Y Y (rp Y) ?_)))))))))
    refine tZ Y (tE (by kernel_rfl) (Xt (D_wk [0, 3, 5, 30] Y (C_f Y (Ck (Xb (Xt (Cr (p1 Y (q1 Y (D_add Y Y Y (r := ((k + 1 : Nat) : Int)) (by omega) (by omega)) (Pe Y (fun ac w' hf hs => ⟨_, ?_, k + 1, ?_, ?_, Y, hf.wk Y, hs⟩))))))))))))
    ·omega
    ·first | assumption | omega | simp
    ·refine forall_step hi ?_; intro y hy; first | (obtain rfl : y = f0 := Option.some.inj (hy.symm.trans f0h); simp_all; done) | simp_all
  ·have pr13 := odF h13
   refine Cx (Xx (Xx (Xe (Xt (Sr (Pe Y (Ct (Rb Y Y ?_))))))))
   exact hasF_f (fun i h => hi i (by omega))
set_option maxHeartbeats 4000000 in
theorem impl_IsEngine {w : World} {c_e : List Value} {e : Engine} (h_e : Gd.rd w c_e e) (hn : szEngine e ≤ 1048576) (htb : Tb w) : Calls Tryz.prog 79 [(.agg c_e.toArray)].toArray w (Val w (.bool (isEngB e))) := by
 obtain ⟨u1, u3, u5, u7, rfl, hu2, hu4, hu6, hu8⟩ := open_Engine h_e
 have hm9 := rd_max hu2
 have hm10 := rd_max hu4
 have hm11 := rd_max hu6
 have hm12 := rd_max hu8
 unfold szEngine at hn
 refine enter 91 Tryz.func79 Y Y Y (Sr (li Y (D_box Y Y Y Y Y fun g13 => ?_)))
 refine Pe Y (Dh ([bx g13 [u1, u3, (iv e.Clock), u5, (.bool e.Halted), u7]]) Y (Cq (Sr (q1 Y (Db f_66_0 Y Y (q := 0) Y) (q1 Y (lb 0 o_40 Y Y Y Y) (li Y (cv b_51 Y Y Y Y (fun w' hs => (impl_AreRules (rA hs hu2) (by first | assumption | omega | (unfold szm at *; split at * <;> omega)))) ?_)))))))
 refine P2 Y Y (gs 14 Y Y (fun h14 => ?_) (fun h14 => ?_))
 ·have h14n := not_t h14
  refine n1 Y (n1 Y (n1 Y (n1 Y (P2 Y Y (n1 Y (n1 Y (n1 Y (P2 Y Y (n1 Y (n1 Y (n1 Y (P2 Y Y (n1 Y (n1 Y (n1 Y (n1 Y (P2 Y Y (n1 Y (n1 Y (n1 Y (n1 Y (p1 Y (De ?_)))))))))))))))))))))))
  refine Xt (D_wk [1, 41] Y (C_t Y (Sr (Pe Y (Ct (Xr (Rb Y Y ?_)))))))
  first | exact en_n1 (.inl (by assumption)) | exact en_n1 (.inr (.inl (by assumption))) | exact en_n1 (.inr (.inr (.inl (by first | assumption | (unfold inR; simp; omega))))) | exact en_n1 (.inr (.inr (.inr (.inl (by omega))))) | exact en_n1 (.inr (.inr (.inr (.inr (by omega))))) | exact en_n2 s0h (by omega) | exact en_n3 (lS f0h) (firAt_f1 f0h (by assumption)) | exact en_n3 (lS f0h) (firAt_f2 f0h (by assumption)) | exact en_n3 (lS f0h) (firAt_f3 f0h g0h (by omega) (by simp_all)) | exact en_n4 v0h (by assumption) | exact en_y (by assumption) (by assumption) (by first | assumption | (unfold inR; simp; omega)) (by omega) (by omega) (fun i h => hm i (by omega)) (fun i h => hf_ i (by omega)) (fun i h => hv i (by omega))
 ·have h14n := not_f h14
  refine q1 Y (Db f_66_1 Y Y (q := 1) Y) (q1 Y (lb 0 o_42 Y Y Y Y) (li Y (cv b_52 Y Y Y Y (fun w' hs => (impl_IsMemory (rA hs hu4) (by first | assumption | omega | (unfold szm at *; split at * <;> omega)) (Tb.ext htb hs.bel))) ?_)))
  refine P3 Y Y Y (gs 20 Y Y (fun h15 => ?_) (fun h15 => ?_))
  ·have h15n := not_t h15
   refine n1 Y (n1 Y (n1 Y (P2 Y Y (n1 Y (n1 Y (n1 Y (P2 Y Y (n1 Y (n1 Y (n1 Y (n1 Y (P2 Y Y (n1 Y (n1 Y (n1 Y (n1 Y (Pe Y (D_wk [1, 41] Y (C_t Y (Sr ?_))))))))))))))))))))
   refine Pe Y (Ct (Xr (Rb Y Y ?_)))
   first | exact en_n1 (.inl (by assumption)) | exact en_n1 (.inr (.inl (by assumption))) | exact en_n1 (.inr (.inr (.inl (by first | assumption | (unfold inR; simp; omega))))) | exact en_n1 (.inr (.inr (.inr (.inl (by omega))))) | exact en_n1 (.inr (.inr (.inr (.inr (by omega))))) | exact en_n2 s0h (by omega) | exact en_n3 (lS f0h) (firAt_f1 f0h (by assumption)) | exact en_n3 (lS f0h) (firAt_f2 f0h (by assumption)) | exact en_n3 (lS f0h) (firAt_f3 f0h g0h (by omega) (by simp_all)) | exact en_n4 v0h (by assumption) | exact en_y (by assumption) (by assumption) (by first | assumption | (unfold inR; simp; omega)) (by omega) (by omega) (fun i h => hm i (by omega)) (fun i h => hf_ i (by omega)) (fun i h => hv i (by omega))
  ·have h15n := not_f h15
   refine q1 Y (Db f_66_2 Y Y (q := 2) Y) (q1 Y (lb 0 o_3 Y Y Y Y) (P3 Y Y Y (gs 25 Y Y (fun h16 => ?_) (fun h16 => ?_))))
   ·have pr16 := odT h16
    refine n1 Y (n1 Y (n1 Y (P2 Y Y (n1 Y (n1 Y (n1 Y (n1 Y (P2 Y Y (n1 Y (n1 Y (n1 Y (n1 Y (Pe Y (D_wk [1, 41] Y (C_t Y (Sr (Pe Y (Ct ?_))))))))))))))))))
    refine Xr (Rb Y Y ?_)
    first | exact en_n1 (.inl (by assumption)) | exact en_n1 (.inr (.inl (by assumption))) | exact en_n1 (.inr (.inr (.inl (by first | assumption | (unfold inR; simp; omega))))) | exact en_n1 (.inr (.inr (.inr (.inl (by omega))))) | exact en_n1 (.inr (.inr (.inr (.inr (by omega))))) | exact en_n2 s0h (by omega) | exact en_n3 (lS f0h) (firAt_f1 f0h (by assumption)) | exact en_n3 (lS f0h) (firAt_f2 f0h (by assumption)) | exact en_n3 (lS f0h) (firAt_f3 f0h g0h (by omega) (by simp_all)) | exact en_n4 v0h (by assumption) | exact en_y (by assumption) (by assumption) (by first | assumption | (unfold inR; simp; omega)) (by omega) (by omega) (fun i h => hm i (by omega)) (fun i h => hf_ i (by omega)) (fun i h => hv i (by omega))
   ·have pr16 := odF h16
    refine q1 Y (Db f_66_2 Y Y (q := 2) Y) (q1 Y (lb 0 o_3 Y Y Y Y) (P3 Y Y Y (gs 30 Y Y (fun h17 => ?_) (fun h17 => ?_))))
    ·have pr17 := odT h17
     refine n1 Y (n1 Y (n1 Y (n1 Y (P2 Y Y (n1 Y (n1 Y (n1 Y (n1 Y (Pe Y (D_wk [1, 41] Y (C_t Y (Sr (Pe Y (Ct (Xr (Rb Y Y ?_))))))))))))))))
     first | exact en_n1 (.inl (by assumption)) | exact en_n1 (.inr (.inl (by assumption))) | exact en_n1 (.inr (.inr (.inl (by first | assumption | (unfold inR; simp; omega))))) | exact en_n1 (.inr (.inr (.inr (.inl (by omega))))) | exact en_n1 (.inr (.inr (.inr (.inr (by omega))))) | exact en_n2 s0h (by omega) | exact en_n3 (lS f0h) (firAt_f1 f0h (by assumption)) | exact en_n3 (lS f0h) (firAt_f2 f0h (by assumption)) | exact en_n3 (lS f0h) (firAt_f3 f0h g0h (by omega) (by simp_all)) | exact en_n4 v0h (by assumption) | exact en_y (by assumption) (by assumption) (by first | assumption | (unfold inR; simp; omega)) (by omega) (by omega) (fun i h => hm i (by omega)) (fun i h => hf_ i (by omega)) (fun i h => hv i (by omega))
    ·have pr17 := odF h17
     refine q1 Y (Db f_66_3 Y Y (q := 3) Y) (q1 Y (lb 0 o_63 Y Y Y Y) (q1 Y (Dl s_63 Y Y (rd_sl hu6)) (P3 Y Y Y (gs 36 Y Y (fun h18 => ?_) (fun h18 => ?_)))))
     ·have pr18 := odT h18
      refine n1 Y (n1 Y (n1 Y (n1 Y (Pe Y (D_wk [1, 41] Y (C_t Y (Sr (Pe Y (Ct (Xr (Rb Y Y ?_)))))))))))
      first | exact en_n1 (.inl (by assumption)) | exact en_n1 (.inr (.inl (by assumption))) | exact en_n1 (.inr (.inr (.inl (by first | assumption | (unfold inR; simp; omega))))) | exact en_n1 (.inr (.inr (.inr (.inl (by omega))))) | exact en_n1 (.inr (.inr (.inr (.inr (by omega))))) | exact en_n2 s0h (by omega) | exact en_n3 (lS f0h) (firAt_f1 f0h (by assumption)) | exact en_n3 (lS f0h) (firAt_f2 f0h (by assumption)) | exact en_n3 (lS f0h) (firAt_f3 f0h g0h (by omega) (by simp_all)) | exact en_n4 v0h (by assumption) | exact en_y (by assumption) (by assumption) (by first | assumption | (unfold inR; simp; omega)) (by omega) (by omega) (fun i h => hm i (by omega)) (fun i h => hf_ i (by omega)) (fun i h => hv i (by omega))
     ·have pr18 := odF h18
      refine q1 Y (Db f_66_5 Y Y (q := 5) Y) (q1 Y (lb 0 o_64 Y Y Y Y) (q1 Y (Dl s_64 Y Y (rd_sl hu8)) (P2 Y Y (Dx (D_wk [1, 41] Y (Ci _ Y (fun h19 => ?_) (fun h19 => ?_)))))))
      ·have pr19 := odT h19
       refine Sr (Pe Y (Ct (Xr (Rb Y Y ?_))))
       first | exact en_n1 (.inl (by assumption)) | exact en_n1 (.inr (.inl (by assumption))) | exact en_n1 (.inr (.inr (.inl (by first | assumption | (unfold inR; simp; omega))))) | exact en_n1 (.inr (.inr (.inr (.inl (by omega))))) | exact en_n1 (.inr (.inr (.inr (.inr (by omega))))) | exact en_n2 s0h (by omega) | exact en_n3 (lS f0h) (firAt_f1 f0h (by assumption)) | exact en_n3 (lS f0h) (firAt_f2 f0h (by assumption)) | exact en_n3 (lS f0h) (firAt_f3 f0h g0h (by omega) (by simp_all)) | exact en_n4 v0h (by assumption) | exact en_y (by assumption) (by assumption) (by first | assumption | (unfold inR; simp; omega)) (by omega) (by omega) (fun i h => hm i (by omega)) (fun i h => hf_ i (by omega)) (fun i h => hv i (by omega))
      ·have pr19 := odF h19
       refine Sk (Cq (Sr (q1 Y (Db f_66_1 Y Y (q := 1) Y) (q1 Y (lb 0 o_42 Y Y Y Y) (q1 Y (Dl s_42 Y Y (rd_sl hu4)) (Pe Y (Cb (Cl (fun m_ ac w' => ∃ (k : Nat), (k ≤ e.Memory.length) ∧ (∀ i, i < k → ∀ s, e.Memory[i]? = some s → s.Time ≤ e.Clock) ∧ m_ = e.Memory.length - k ∧ Fits ac 91 [(1, (pv g13)), (43, u3), (44, (nv e.Memory.length)), (45, (nv k))] ∧ St w ([bx g13 [u1, u3, (iv e.Clock), u5, (.bool e.Halted), u7]]) w') ?_ ?_))))))))
       ·refine fun ac w' hf hs => ⟨_, 0, ?_, ?_, Y, hf.wk Y, hs⟩
        ·first | assumption | omega | simp
        ·intro i hi; omega
       ·rintro m_ ac w' ⟨k, hk, hm, rfl, hf, hs⟩
        refine D.use ?_ hf hs
        clear hf hs ac w'
        refine Sr (Pe Y (Cq (Ci _ Y (fun h20 => ?_) (fun h20 => ?_))))
        ·have pr20 := odT h20
         refine Sk (Cq (Cb (Sr ?_)))
         obtain ⟨s0, s0h⟩ := sL (l := e.Memory) (i := k) (by omega)
         obtain ⟨es21, at22, hr23⟩ := rd_elem (n := 3) rfl hu4 s0h
         obtain ⟨u24, rfl, hu25⟩ := open_Stamp hr23
         have hm26 := rd_max hu25
         have hb27 := sub_Stamp_Fact hr23
         refine q1 Y (D_ix (l := e.Memory) (j := k) s_42 Y Y Y (fun w' hs => (rA hs hu4)) Y (lS s0h)) (q1 Y (lra a_100 Y Y at22) (li Y (D_alloc y_100 Y Y Y Y fun g28 => ?_)))
         refine li Y (D_stb (vs := [(.string s0.Fact.Rel), u24, (iv s0.Time)]) (cs' := [(.string s0.Fact.Rel), u24, (iv s0.Time)]) 0 z_100 Y Y Y Y Y Y (ocons Y (ocons (one_rd hu25) (ocons Y onil))) (by simp) Y ?_)
         refine Dx (Dh ([bx g28 [(.string s0.Fact.Rel), u24, (iv s0.Time)], _]) Y (Sr (q1 Y (Db f_100_1 Y Y (q := 2) Y) (q1 Y (lb 0 o_3 Y Y Y Y) (q1 Y (Db f_66_2 Y Y (q := 2) Y) (q1 Y (lb 1 o_3 Y Y Y Y) (Pe Y (Ci _ Y (fun h29 => ?_) (fun h29 => ?_)))))))))
         ·have pr29 := odT h29
          refine Sr (Pe Y (Ct (Xq (Xr (Xr (Xq (Xr (Rb Y Y ?_))))))))
          first | exact en_n1 (.inl (by assumption)) | exact en_n1 (.inr (.inl (by assumption))) | exact en_n1 (.inr (.inr (.inl (by first | assumption | (unfold inR; simp; omega))))) | exact en_n1 (.inr (.inr (.inr (.inl (by omega))))) | exact en_n1 (.inr (.inr (.inr (.inr (by omega))))) | exact en_n2 s0h (by omega) | exact en_n3 (lS f0h) (firAt_f1 f0h (by assumption)) | exact en_n3 (lS f0h) (firAt_f2 f0h (by assumption)) | exact en_n3 (lS f0h) (firAt_f3 f0h g0h (by omega) (by simp_all)) | exact en_n4 v0h (by assumption) | exact en_y (by assumption) (by assumption) (by first | assumption | (unfold inR; simp; omega)) (by omega) (by omega) (fun i h => hm i (by omega)) (fun i h => hf_ i (by omega)) (fun i h => hv i (by omega))
         ·have pr29 := odF h29
          refine Ck (Xb (Xt (Cr (q1 Y (D_add Y Y Y (r := ((k + 1 : Nat) : Int)) (by omega) (by omega)) (Pe Y (fun ac w' hf hs => ⟨_, ?_, k + 1, ?_, ?_, Y, hf.wk Y, hs.pk [1] Y Y⟩))))))
          ·omega
          ·first | assumption | omega | simp
          ·refine forall_step hm ?_; intro y hy; obtain rfl : y = s0 := Option.some.inj (hy.symm.trans s0h); omega
        ·have pr20 := odF h20
         refine Cx (Xx (Xx (Xe (Xt (Cq (Sr (q1 Y (Db f_66_3 Y Y (q := 3) Y) (q1 Y (lb 0 o_63 Y Y Y Y) (q1 Y (Dl s_63 Y Y (rd_sl hu6)) (Pe Y (Cb (Cl (fun m_ ac w' => ∃ (j : Nat), (j ≤ e.Fired.length) ∧ (∀ i, i < j → firAt e i = true) ∧ m_ = e.Fired.length - j ∧ Fits ac 91 [(1, (pv g13)), (56, u5), (57, (nv e.Fired.length)), (58, (nv j))] ∧ St w ([bx g13 [u1, u3, (iv e.Clock), u5, (.bool e.Halted), u7]]) w') ?_ ?_))))))))))))
         ·refine fun ac w' hf hs => ⟨_, 0, ?_, ?_, Y, hf.wk Y, hs⟩
          ·first | assumption | omega | simp
          ·intro i hi; omega
         ·rintro m_ ac w' ⟨j, hj, hf_, rfl, hf, hs⟩
          refine D.use ?_ hf hs
          clear hf hs ac w'
          refine Sr (Pe Y (Cq (Ci _ Y (fun h30 => ?_) (fun h30 => ?_))))
          ·have pr30 := odT h30
           refine Sk (Cq (Cb (Sr (p1 Y ?_))))
           obtain ⟨f0, f0h⟩ := sL (l := e.Fired) (i := j) (by omega)
           obtain ⟨es31, at32, hr33⟩ := rd_elem (n := 2) rfl hu6 f0h
           obtain ⟨u34, rfl, hu35⟩ := open_Firing hr33
           have hm36 := rd_max hu35
           refine q1 Y (D_ix (l := e.Fired) (j := j) s_63 Y Y Y (fun w' hs => (rA hs hu6)) Y (lS f0h)) (q1 Y (lra a_168 Y Y at32) (li Y (D_alloc y_168 Y Y Y Y fun g37 => ?_)))
           refine p1 Y (li Y (D_stb (vs := [(.string f0.Rule), u34]) (cs' := [(.string f0.Rule), u34]) 0 z_168 Y Y Y Y Y Y (ocons Y (ocons (one_rd hu35) onil)) (by simp) Y ?_))
           refine Dx (Dh ([bx g37 [(.string f0.Rule), u34], _]) Y (Cq (Sr (q1 Y (lbw 1 a_66 Y Y Y) (q1 Y (lbw 0 a_168 Y Y Y) (li Y (cv b_135 Y Y Y Y (fun w' hs => (impl_firingFits (rA hs h_e) (rA hs hr33))) ?_)))))))
           refine Pe Y (Ci _ Y (fun h38 => ?_) (fun h38 => ?_))
           ·have h38n := not_t h38
            refine Sr (Pe Y (Ct (Xr (Xq (Xr (Xr (Xq (Xr (Rb Y Y ?_)))))))))
            first | exact en_n1 (.inl (by assumption)) | exact en_n1 (.inr (.inl (by assumption))) | exact en_n1 (.inr (.inr (.inl (by first | assumption | (unfold inR; simp; omega))))) | exact en_n1 (.inr (.inr (.inr (.inl (by omega))))) | exact en_n1 (.inr (.inr (.inr (.inr (by omega))))) | exact en_n2 s0h (by omega) | exact en_n3 (lS f0h) (firAt_f1 f0h (by assumption)) | exact en_n3 (lS f0h) (firAt_f2 f0h (by assumption)) | exact en_n3 (lS f0h) (firAt_f3 f0h g0h (by omega) (by simp_all)) | exact en_n4 v0h (by assumption) | exact en_y (by assumption) (by assumption) (by first | assumption | (unfold inR; simp; omega)) (by omega) (by omega) (fun i h => hm i (by omega)) (fun i h => hf_ i (by omega)) (fun i h => hv i (by omega))
           ·have h38n := not_f h38
            refine Sk (Sr (Pe Y (Cb (Cl (fun m_ ac w' => ∃ (q : Nat), (q ≤ j) ∧ (∀ i, i < q → ∀ g, e.Fired[i]? = some g → g ≠ f0) ∧ m_ = j - q ∧ Fits ac 91 [(1, (pv g13)), (5, (nv j)), (6, (pv g37)), (7, (nv q)), (56, u5), (57, (nv e.Fired.length)), (58, (nv j))] ∧ St w ([bx g37 [(.string f0.Rule), u34], bx g13 [u1, u3, (iv e.Clock), u5, (.bool e.Halted), u7]]) w') ?_ ?_))))
            ·refine fun ac w' hf hs => ⟨_, 0, ?_, ?_, Y, hf.wk Y, hs⟩
             ·first | assumption | omega | simp
             ·intro i hi; omega
            ·rintro m_ ac w' ⟨q, hq, hs_, rfl, hf, hs⟩
             refine D.use ?_ hf hs
             clear hf hs ac w'
             refine Cq (Sr (P3 Y Y Y (Dx (Ci _ Y (fun h39 => ?_) (fun h39 => ?_)))))
             ·have pr39 := odT h39
              refine Sk (Cq (Cb (Cq (C_draw mixed [6] (by kernel_rfl) (Tk 0 Y (by kernel_rfl) Y (Db f_66_3 Y Y (q := 3) Y) (Tk 1 Y (by kernel_rfl) Y (lb 1 o_63 Y Y Y Y) (Tk 2 Y (by kernel_rfl) Y (rp Y) ?_)))))))
              obtain ⟨g0, g0h⟩ := sL (l := e.Fired) (i := q) (by omega)
              obtain ⟨es40, at41, hr42⟩ := rd_elem (n := 2) rfl hu6 g0h
              obtain ⟨u43, rfl, hu44⟩ := open_Firing hr42
              have hm45 := rd_max hu44
              refine Tk 3 Y (by kernel_rfl) Y (D_ix (l := e.Fired) (j := q) s_63 Y Y Y (fun w' hs => (rA hs hu6)) Y (lS g0h)) (Tk 4 Y (by kernel_rfl) Y (lra a_168 Y Y at41) (Tk 5 Y (by kernel_rfl) Y (lbw 0 a_168 Y Y Y) (ty 6 Y (by kernel_rfl) Y (cv b_136 Y Y Y Y (fun w' hs => (impl_sameFiring (rA hs hr42) (rA hs hr33))) ?_))))
              refine tZ Y (tE (by kernel_rfl) (Xt (Ci _ Y (fun h46 => ?_) (fun h46 => ?_))))
              ·refine Sr (Pe Y (Ct (Xq (Xr (Xr (Xq (Xq (Xr (Xr (Xq (Xr (Rb Y Y ?_))))))))))))
               first | exact en_n1 (.inl (by assumption)) | exact en_n1 (.inr (.inl (by assumption))) | exact en_n1 (.inr (.inr (.inl (by first | assumption | (unfold inR; simp; omega))))) | exact en_n1 (.inr (.inr (.inr (.inl (by omega))))) | exact en_n1 (.inr (.inr (.inr (.inr (by omega))))) | exact en_n2 s0h (by omega) | exact en_n3 (lS f0h) (firAt_f1 f0h (by assumption)) | exact en_n3 (lS f0h) (firAt_f2 f0h (by assumption)) | exact en_n3 (lS f0h) (firAt_f3 f0h g0h (by omega) (by simp_all)) | exact en_n4 v0h (by assumption) | exact en_y (by assumption) (by assumption) (by first | assumption | (unfold inR; simp; omega)) (by omega) (by omega) (fun i h => hm i (by omega)) (fun i h => hf_ i (by omega)) (fun i h => hv i (by omega))
              ·refine Ck (Xb (Xt (Cr (p1 Y (q1 Y (D_add Y Y Y (r := ((q + 1 : Nat) : Int)) (by omega) (by omega)) (Pe Y (fun ac w' hf hs => ⟨_, ?_, q + 1, ?_, ?_, Y, hf.wk Y, hs⟩)))))))
               ·omega
               ·first | assumption | omega | simp
               ·refine forall_step hs_ ?_; intro y hy; obtain rfl : y = g0 := Option.some.inj (hy.symm.trans g0h); simp_all
             ·have pr39 := odF h39
              refine Cx (Xx (Xx (Xe (Xb (Xt (Cr (q1 Y (D_add Y Y Y (r := ((j + 1 : Nat) : Int)) (by omega) (by omega)) (Pe Y (fun ac w' hf hs => ⟨_, ?_, j + 1, ?_, ?_, Y, hf.wk Y, hs.pk [1] Y Y⟩)))))))))
              ·omega
              ·first | assumption | omega | simp
              ·refine forall_step hf_ ?_; exact firAt_s f0h (by assumption) (fun i h => hs_ i (by omega))
          ·have pr30 := odF h30
           refine Cx (Xx (Xx (Xe (Xt (Cq (Sr (q1 Y (Db f_66_5 Y Y (q := 5) Y) (q1 Y (lb 0 o_64 Y Y Y Y) (q1 Y (Dl s_64 Y Y (rd_sl hu8)) (Pe Y (Cb (Cl (fun m_ ac w' => ∃ (p : Nat), (p ≤ e.Log.length) ∧ (∀ i, i < p → ∀ v, e.Log[i]? = some v → isEventB v = true) ∧ m_ = e.Log.length - p ∧ Fits ac 91 [(81, u7), (82, (nv e.Log.length)), (83, (nv p))] ∧ St w ([bx g13 [u1, u3, (iv e.Clock), u5, (.bool e.Halted), u7]]) w') ?_ ?_))))))))))))
           ·refine fun ac w' hf hs => ⟨_, 0, ?_, ?_, Y, hf.wk Y, hs⟩
            ·first | assumption | omega | simp
            ·intro i hi; omega
           ·rintro m_ ac w' ⟨p, hp, hv, rfl, hf, hs⟩
            refine D.use ?_ hf hs
            clear hf hs ac w'
            refine Sr (Pe Y (Cq (Ci _ Y (fun h47 => ?_) (fun h47 => ?_))))
            ·have pr47 := odT h47
             refine Sk (Cq (Cb (Sr ?_)))
             obtain ⟨v0, v0h⟩ := sL (l := e.Log) (i := p) (by omega)
             obtain ⟨es48, at49, hr50⟩ := rd_elem (n := 4) rfl hu8 v0h
             obtain ⟨u51, rfl, hu52⟩ := open_Event hr50
             have hm53 := rd_max hu52
             have hb54 := sub_Event_Fact hr50
             refine q1 Y (D_ix (l := e.Log) (j := p) s_64 Y Y Y (fun w' hs => (rA hs hu8)) Y (lS v0h)) (q1 Y (lra a_171 Y Y at49) (li Y (D_alloc y_171 Y Y Y Y fun g55 => ?_)))
             refine li Y (D_stb (vs := [(iv v0.Kind), (.string v0.Rule), (.string v0.Fact.Rel), u51]) (cs' := [(iv v0.Kind), (.string v0.Rule), (.string v0.Fact.Rel), u51]) 0 z_171 Y Y Y Y Y Y (ocons Y (ocons Y (ocons Y (ocons (one_rd hu52) onil)))) (by simp) Y ?_)
             refine Dx (Dh ([bx g55 [(iv v0.Kind), (.string v0.Rule), (.string v0.Fact.Rel), u51], _]) Y (Sr (q1 Y (lbw 0 a_171 Y Y Y) (li Y (cv b_137 Y Y Y Y (fun w' hs => (impl_IsEvent (rA hs hr50))) ?_)))))
             refine Pe Y (Ci _ Y (fun h56 => ?_) (fun h56 => ?_))
             ·have h56n := not_t h56
              refine Sr (Pe Y (Ct (Xq (Xr (Xr (Xq (Xr (Rb Y Y ?_))))))))
              first | exact en_n1 (.inl (by assumption)) | exact en_n1 (.inr (.inl (by assumption))) | exact en_n1 (.inr (.inr (.inl (by first | assumption | (unfold inR; simp; omega))))) | exact en_n1 (.inr (.inr (.inr (.inl (by omega))))) | exact en_n1 (.inr (.inr (.inr (.inr (by omega))))) | exact en_n2 s0h (by omega) | exact en_n3 (lS f0h) (firAt_f1 f0h (by assumption)) | exact en_n3 (lS f0h) (firAt_f2 f0h (by assumption)) | exact en_n3 (lS f0h) (firAt_f3 f0h g0h (by omega) (by simp_all)) | exact en_n4 v0h (by assumption) | exact en_y (by assumption) (by assumption) (by first | assumption | (unfold inR; simp; omega)) (by omega) (by omega) (fun i h => hm i (by omega)) (fun i h => hf_ i (by omega)) (fun i h => hv i (by omega))
             ·have h56n := not_f h56
              refine Ck (Xb (Xt (Cr (q1 Y (D_add Y Y Y (r := ((p + 1 : Nat) : Int)) (by omega) (by omega)) (Pe Y (fun ac w' hf hs => ⟨_, ?_, p + 1, ?_, ?_, Y, hf.wk Y, hs.pk [1] Y Y⟩))))))
              ·omega
              ·first | assumption | omega | simp
              ·refine forall_step hv ?_; intro y hy; obtain rfl : y = v0 := Option.some.inj (hy.symm.trans v0h); assumption
            ·have pr47 := odF h47
             refine Cx (Xx (Xx (Xe (Xt (Sr (Pe Y (Ct (Rb Y Y ?_))))))))
             first | exact en_n1 (.inl (by assumption)) | exact en_n1 (.inr (.inl (by assumption))) | exact en_n1 (.inr (.inr (.inl (by first | assumption | (unfold inR; simp; omega))))) | exact en_n1 (.inr (.inr (.inr (.inl (by omega))))) | exact en_n1 (.inr (.inr (.inr (.inr (by omega))))) | exact en_n2 s0h (by omega) | exact en_n3 (lS f0h) (firAt_f1 f0h (by assumption)) | exact en_n3 (lS f0h) (firAt_f2 f0h (by assumption)) | exact en_n3 (lS f0h) (firAt_f3 f0h g0h (by omega) (by simp_all)) | exact en_n4 v0h (by assumption) | exact en_y (by assumption) (by assumption) (by first | assumption | (unfold inR; simp; omega)) (by omega) (by omega) (fun i h => hm i (by omega)) (fun i h => hf_ i (by omega)) (fun i h => hv i (by omega))
set_option maxHeartbeats 4000000 in
theorem spec_IsEngine {w : World} {c_e : List Value} {e : Engine} (h_e : Gd.rd w c_e e) (hn : szEngine e ≤ 1048576) (ho : okEngine e) : Calls Tryz.prog 72 [(.agg c_e.toArray)].toArray w (Val w (.bool (isEngB e))) := by
 obtain ⟨u1, u3, u5, u7, rfl, hu2, hu4, hu6, hu8⟩ := open_Engine h_e
 have hm9 := rd_max hu2
 have hm10 := rd_max hu4
 have hm11 := rd_max hu6
 have hm12 := rd_max hu8
 unfold szEngine at hn
 refine enter 100 Tryz.func72 Y Y Y (Sr (li Y (D_box Y Y Y Y Y fun g13 => ?_)))
 refine Pe Y (Dh ([bx g13 [u1, u3, (iv e.Clock), u5, (.bool e.Halted), u7]]) Y (Cq (Sr (q1 Y (Db f_66_0 Y Y (q := 0) Y) (q1 Y (lb 0 o_40 Y Y Y Y) (li Y (cv b_42 Y Y Y Y (fun w' hs => (spec_AreRules (rA hs hu2) (by first | assumption | omega | (unfold szm at *; split at * <;> omega)) ho.1)) ?_)))))))
 refine P2 Y Y (gs 10 Y Y (fun h14 => ?_) (fun h14 => ?_))
 ·have h14n := not_t h14
  refine n1 Y (n1 Y (n1 Y (n1 Y (P2 Y Y (n1 Y (n1 Y (n1 Y (n1 Y (P2 Y Y (n1 Y (n1 Y (n1 Y (n1 Y (P2 Y Y (n1 Y (n1 Y (n1 Y (n1 Y (Pe Y (D_wk [1, 33] Y (C_t Y ?_)))))))))))))))))))))
  refine Sr (Pe Y (Ct (Xr (Rb Y Y ?_))))
  first | exact en_n1 (.inl (by assumption)) | exact en_n1 (.inr (.inl (by assumption))) | exact en_n1 (.inr (.inr (.inl (by first | assumption | (unfold inR; simp; omega))))) | exact en_n1 (.inr (.inr (.inr (.inl (by omega))))) | exact en_n1 (.inr (.inr (.inr (.inr (by omega))))) | exact en_n2 s0h (by omega) | exact en_n3 (lS f0h) (firAt_f1 f0h (by assumption)) | exact en_n3 (lS f0h) (firAt_f2 f0h (by assumption)) | exact en_n3 (lS f0h) (firAt_f3 f0h g0h (by omega) (by simp_all)) | exact en_n4 v0h (by assumption) | exact en_y (by assumption) (by assumption) (by first | assumption | (unfold inR; simp; omega)) (by omega) (by omega) (fun i h => hm i (by omega)) (fun i h => hf_ i (by omega)) (fun i h => hv i (by omega))
 ·have h14n := not_f h14
  refine q1 Y (Db f_66_1 Y Y (q := 1) Y) (q1 Y (lb 0 o_42 Y Y Y Y) (li Y (cv b_43 Y Y Y Y (fun w' hs => (spec_IsMemory (rA hs hu4) (by first | assumption | omega | (unfold szm at *; split at * <;> omega)) ho.2.1)) ?_)))
  refine P3 Y Y Y (gs 16 Y Y (fun h15 => ?_) (fun h15 => ?_))
  ·have h15n := not_t h15
   refine n1 Y (n1 Y (n1 Y (n1 Y (P2 Y Y (n1 Y (n1 Y (n1 Y (n1 Y (P2 Y Y (n1 Y (n1 Y (n1 Y (n1 Y (Pe Y (D_wk [1, 33] Y (C_t Y (Sr (Pe Y ?_))))))))))))))))))
   refine Ct (Xr (Rb Y Y ?_))
   first | exact en_n1 (.inl (by assumption)) | exact en_n1 (.inr (.inl (by assumption))) | exact en_n1 (.inr (.inr (.inl (by first | assumption | (unfold inR; simp; omega))))) | exact en_n1 (.inr (.inr (.inr (.inl (by omega))))) | exact en_n1 (.inr (.inr (.inr (.inr (by omega))))) | exact en_n2 s0h (by omega) | exact en_n3 (lS f0h) (firAt_f1 f0h (by assumption)) | exact en_n3 (lS f0h) (firAt_f2 f0h (by assumption)) | exact en_n3 (lS f0h) (firAt_f3 f0h g0h (by omega) (by simp_all)) | exact en_n4 v0h (by assumption) | exact en_y (by assumption) (by assumption) (by first | assumption | (unfold inR; simp; omega)) (by omega) (by omega) (fun i h => hm i (by omega)) (fun i h => hf_ i (by omega)) (fun i h => hv i (by omega))
  ·have h15n := not_f h15
   refine q1 Y (Db f_66_2 Y Y (q := 2) Y) (q1 Y (lb 0 o_3 Y Y Y Y) (li Y (cv b_99 Y Y Y Y (fun w' hs => spec_l1In) ?_)))
   refine P3 Y Y Y (gs 22 Y Y (fun h16 => ?_) (fun h16 => ?_))
   ·have h16n := not_t h16
    refine n1 Y (n1 Y (n1 Y (n1 Y (P2 Y Y (n1 Y (n1 Y (n1 Y (n1 Y (Pe Y (D_wk [1, 33] Y (C_t Y (Sr (Pe Y (Ct (Xr (Rb Y Y ?_))))))))))))))))
    first | exact en_n1 (.inl (by assumption)) | exact en_n1 (.inr (.inl (by assumption))) | exact en_n1 (.inr (.inr (.inl (by first | assumption | (unfold inR; simp; omega))))) | exact en_n1 (.inr (.inr (.inr (.inl (by omega))))) | exact en_n1 (.inr (.inr (.inr (.inr (by omega))))) | exact en_n2 s0h (by omega) | exact en_n3 (lS f0h) (firAt_f1 f0h (by assumption)) | exact en_n3 (lS f0h) (firAt_f2 f0h (by assumption)) | exact en_n3 (lS f0h) (firAt_f3 f0h g0h (by omega) (by simp_all)) | exact en_n4 v0h (by assumption) | exact en_y (by assumption) (by assumption) (by first | assumption | (unfold inR; simp; omega)) (by omega) (by omega) (fun i h => hm i (by omega)) (fun i h => hf_ i (by omega)) (fun i h => hv i (by omega))
   ·have h16n := not_f h16
    refine q1 Y (Db f_66_3 Y Y (q := 3) Y) (q1 Y (lb 0 o_63 Y Y Y Y) (q1 Y (Dl s_63 Y Y (rd_sl hu6)) (P3 Y Y Y (gs 28 Y Y (fun h17 => ?_) (fun h17 => ?_)))))
    ·have pr17 := odT h17
     refine n1 Y (n1 Y (n1 Y (n1 Y (Pe Y (D_wk [1, 33] Y (C_t Y (Sr (Pe Y (Ct (Xr (Rb Y Y ?_)))))))))))
     first | exact en_n1 (.inl (by assumption)) | exact en_n1 (.inr (.inl (by assumption))) | exact en_n1 (.inr (.inr (.inl (by first | assumption | (unfold inR; simp; omega))))) | exact en_n1 (.inr (.inr (.inr (.inl (by omega))))) | exact en_n1 (.inr (.inr (.inr (.inr (by omega))))) | exact en_n2 s0h (by omega) | exact en_n3 (lS f0h) (firAt_f1 f0h (by assumption)) | exact en_n3 (lS f0h) (firAt_f2 f0h (by assumption)) | exact en_n3 (lS f0h) (firAt_f3 f0h g0h (by omega) (by simp_all)) | exact en_n4 v0h (by assumption) | exact en_y (by assumption) (by assumption) (by first | assumption | (unfold inR; simp; omega)) (by omega) (by omega) (fun i h => hm i (by omega)) (fun i h => hf_ i (by omega)) (fun i h => hv i (by omega))
    ·have pr17 := odF h17
     refine q1 Y (Db f_66_5 Y Y (q := 5) Y) (q1 Y (lb 0 o_64 Y Y Y Y) (q1 Y (Dl s_64 Y Y (rd_sl hu8)) (P2 Y Y (Dx (D_wk [1, 33] Y (Ci _ Y (fun h18 => ?_) (fun h18 => ?_)))))))
     ·have pr18 := odT h18
      refine Sr (Pe Y (Ct (Xr (Rb Y Y ?_))))
      first | exact en_n1 (.inl (by assumption)) | exact en_n1 (.inr (.inl (by assumption))) | exact en_n1 (.inr (.inr (.inl (by first | assumption | (unfold inR; simp; omega))))) | exact en_n1 (.inr (.inr (.inr (.inl (by omega))))) | exact en_n1 (.inr (.inr (.inr (.inr (by omega))))) | exact en_n2 s0h (by omega) | exact en_n3 (lS f0h) (firAt_f1 f0h (by assumption)) | exact en_n3 (lS f0h) (firAt_f2 f0h (by assumption)) | exact en_n3 (lS f0h) (firAt_f3 f0h g0h (by omega) (by simp_all)) | exact en_n4 v0h (by assumption) | exact en_y (by assumption) (by assumption) (by first | assumption | (unfold inR; simp; omega)) (by omega) (by omega) (fun i h => hm i (by omega)) (fun i h => hf_ i (by omega)) (fun i h => hv i (by omega))
     ·have pr18 := odF h18
      refine Sk (Cq (Sr (Pe Y (Cb (Cl (fun m_ ac w' => ∃ (k : Nat), (k ≤ e.Memory.length) ∧ (∀ i, i < k → ∀ s, e.Memory[i]? = some s → s.Time ≤ e.Clock) ∧ m_ = e.Memory.length - k ∧ Fits ac 100 [(1, (pv g13)), (3, (nv k))] ∧ St w ([bx g13 [u1, u3, (iv e.Clock), u5, (.bool e.Halted), u7]]) w') ?_ ?_)))))
      ·refine fun ac w' hf hs => ⟨_, 0, ?_, ?_, Y, hf.wk Y, hs⟩
       ·first | assumption | omega | simp
       ·intro i hi; omega
      ·rintro m_ ac w' ⟨k, hk, hm, rfl, hf, hs⟩
       refine D.use ?_ hf hs
       clear hf hs ac w'
       refine Cq (Sr (p1 Y (q1 Y (Db f_66_1 Y Y (q := 1) Y) (q1 Y (lb 0 o_42 Y Y Y Y) (q1 Y (Dl s_42 Y Y (rd_sl hu4)) (Pe Y (Ci _ Y (fun h19 => ?_) (fun h19 => ?_))))))))
       ·have pr19 := odT h19
        refine Sk (Cq (Cb (Cq (C_draw mixed [] (by kernel_rfl) (Tk 0 Y (by kernel_rfl) Y (Db f_66_1 Y Y (q := 1) Y) (Tk 1 Y (by kernel_rfl) Y (lb 0 o_42 Y Y Y Y) (Tk 2 Y (by kernel_rfl) Y (rp Y) ?_)))))))
        obtain ⟨s0, s0h⟩ := sL (l := e.Memory) (i := k) (by omega)
        obtain ⟨es20, at21, hr22⟩ := rd_elem (n := 3) rfl hu4 s0h
        obtain ⟨u23, rfl, hu24⟩ := open_Stamp hr22
        have hm25 := rd_max hu24
        have hb26 := sub_Stamp_Fact hr22
        refine Tk 3 Y (by kernel_rfl) Y (D_ix (l := e.Memory) (j := k) s_42 Y Y Y (fun w' hs => (rA hs hu4)) Y (lS s0h)) (Tk 4 Y (by kernel_rfl) Y (D_fa f_100_1 Y Y) (Tk 5 Y (by kernel_rfl) Y (lr o_3 Y Y at21 Y) (Tk 6 Y (by kernel_rfl) Y (Db f_66_2 Y Y (q := 2) Y) (Tk 7 Y (by kernel_rfl) Y (lb 0 o_3 Y Y Y Y) (Tk 8 Y (by kernel_rfl) Y (rp Y) (tE (by kernel_rfl) (Xt (Ci _ Y (fun h27 => ?_) (fun h27 => ?_)))))))))
        ·have pr27 := odT h27
         refine Sr (Pe Y (Ct (Xq (Xr (Xr (Xq (Xr (Rb Y Y ?_))))))))
         first | exact en_n1 (.inl (by assumption)) | exact en_n1 (.inr (.inl (by assumption))) | exact en_n1 (.inr (.inr (.inl (by first | assumption | (unfold inR; simp; omega))))) | exact en_n1 (.inr (.inr (.inr (.inl (by omega))))) | exact en_n1 (.inr (.inr (.inr (.inr (by omega))))) | exact en_n2 s0h (by omega) | exact en_n3 (lS f0h) (firAt_f1 f0h (by assumption)) | exact en_n3 (lS f0h) (firAt_f2 f0h (by assumption)) | exact en_n3 (lS f0h) (firAt_f3 f0h g0h (by omega) (by simp_all)) | exact en_n4 v0h (by assumption) | exact en_y (by assumption) (by assumption) (by first | assumption | (unfold inR; simp; omega)) (by omega) (by omega) (fun i h => hm i (by omega)) (fun i h => hf_ i (by omega)) (fun i h => hv i (by omega))
        ·have pr27 := odF h27
         refine Ck (Xb (Xt (Cr (p1 Y (q1 Y (D_add Y Y Y (r := ((k + 1 : Nat) : Int)) (by omega) (by omega)) (Pe Y (fun ac w' hf hs => ⟨_, ?_, k + 1, ?_, ?_, Y, hf.wk Y, hs⟩)))))))
         ·omega
         ·first | assumption | omega | simp
         ·refine forall_step hm ?_; intro y hy; obtain rfl : y = s0 := Option.some.inj (hy.symm.trans s0h); omega
       ·have pr19 := odF h19
        refine Cx (Xx (Xx (Xe (Xt (Cq (Sr (Pe Y (Cb (Cl (fun m_ ac w' => ∃ (j : Nat), (j ≤ e.Fired.length) ∧ (∀ i, i < j → firAt e i = true) ∧ m_ = e.Fired.length - j ∧ Fits ac 100 [(1, (pv g13)), (4, (nv j))] ∧ St w ([bx g13 [u1, u3, (iv e.Clock), u5, (.bool e.Halted), u7]]) w') ?_ ?_)))))))))
        ·refine fun ac w' hf hs => ⟨_, 0, ?_, ?_, Y, hf.wk Y, hs⟩
         ·first | assumption | omega | simp
         ·intro i hi; omega
        ·rintro m_ ac w' ⟨j, hj, hf_, rfl, hf, hs⟩
         refine D.use ?_ hf hs
         clear hf hs ac w'
         refine Cq (Sr (p1 Y (q1 Y (Db f_66_3 Y Y (q := 3) Y) (q1 Y (lb 0 o_63 Y Y Y Y) (q1 Y (Dl s_63 Y Y (rd_sl hu6)) (Pe Y (Ci _ Y (fun h28 => ?_) (fun h28 => ?_))))))))
         ·have pr28 := odT h28
          refine Sk (Cq (Cb (Cq (C_draw mixed [6, 7, 8, 27, 28] (by kernel_rfl) (Tk 0 Y (by kernel_rfl) Y (lbw 0 a_66 Y Y Y) (Tk 1 Y (by kernel_rfl) Y (Db f_66_3 Y Y (q := 3) Y) (Tk 2 Y (by kernel_rfl) Y (lb 0 o_63 Y Y Y Y) (Tk 3 Y (by kernel_rfl) Y (rp Y) ?_))))))))
          obtain ⟨f0, f0h⟩ := sL (l := e.Fired) (i := j) (by omega)
          obtain ⟨es29, at30, hr31⟩ := rd_elem (n := 2) rfl hu6 f0h
          obtain ⟨u33, rfl, hu34⟩ := open_Firing hr31
          have hm35 := rd_max hu34
          refine Tk 4 Y (by kernel_rfl) Y (D_ix (l := e.Fired) (j := j) s_63 Y Y Y (fun w' hs => (rA hs hu6)) Y (lS f0h)) (Tk 5 Y (by kernel_rfl) Y (lra a_168 Y Y at30) (ty 6 Y (by kernel_rfl) Y (cv b_125 Y Y Y Y (fun w' hs => (spec_l10Firing (rA hs h_e) (rA hs hr31))) ?_)))
          refine tZ Y (ty 7 Y (by kernel_rfl) Y (sv Y Y (rp Y) ?_))
          refine tZ Y (ty 8 Y (by kernel_rfl) Y (sv Y Y (rp Y) ?_))
          refine tZ Y (gs 65 Y Y (fun h36 => ?_) (fun h36 => ?_))
          ·have h36n := not_t h36
           refine tn 9 Y (by kernel_rfl) (by kernel_rfl) (by kernel_rfl) Y Y Y (fun _ hs => hs) (tn 10 Y (by kernel_rfl) (by kernel_rfl) (by kernel_rfl) Y Y Y (fun _ hs => hs) (tn 11 Y (by kernel_rfl) (by kernel_rfl) (by kernel_rfl) Y Y Y (fun _ hs => hs) (tn 12 Y (by kernel_rfl) (by kernel_rfl) (by kernel_rfl) Y Y Y (fun _ hs => hs) (tn 13 Y (by kernel_rfl) (by kernel_rfl) (by kernel_rfl) Y Y Y (fun _ hs => hs) (tn 14 Y (by kernel_rfl) (by kernel_rfl) (by kernel_rfl) Y Y Y (fun _ hs => hs) (tn 15 Y (by kernel_rfl) (by kernel_rfl) (by kernel_rfl) Y Y Y (fun _ hs => hs) (tn 16 Y (by kernel_rfl) (by kernel_rfl) (by kernel_rfl) Y Y Y (fun _ hs => hs) (tn 17 Y (by kernel_rfl) (by kernel_rfl) (by kernel_rfl) Y Y Y (fun _ hs => hs) (tn 18 Y (by kernel_rfl) (by kernel_rfl) (by kernel_rfl) Y Y Y (fun _ hs => hs) (tn 19 Y (by kernel_rfl) (by kernel_rfl) (by kernel_rfl) Y Y Y (fun _ hs => hs) (tn 20 Y (by kernel_rfl) (by kernel_rfl) (by kernel_rfl) Y Y Y (fun _ hs => hs) (tn 21 Y (by kernel_rfl) (by kernel_rfl) (by kernel_rfl) Y Y Y (fun _ hs => hs) (tn 22 Y (by kernel_rfl) (by kernel_rfl) (by kernel_rfl) Y Y Y (fun _ hs => hs) (tn 23 Y (by kernel_rfl) (by kernel_rfl) (by kernel_rfl) Y Y Y (fun _ hs => hs) (tn 24 Y (by kernel_rfl) (by kernel_rfl) (by kernel_rfl) Y Y Y (fun _ hs => hs) (tn 25 Y (by kernel_rfl) (by kernel_rfl) (by kernel_rfl) Y Y Y (fun _ hs => hs) (tn 26 Y (by kernel_rfl) (by kernel_rfl) (by kernel_rfl) Y Y Y (fun _ hs => hs) (tn 27 Y (by kernel_rfl) (by kernel_rfl) (by kernel_rfl) Y Y Y (fun _ hs => hs) (ty 28 Y (by kernel_rfl) Y (sv Y Y (rp Y) ?_))))))))))))))))))))
           refine tZ Y (tE (by kernel_rfl) (Xt (D_wk [1, 4, 85] Y (C_t Y (Sr (Pe Y (Ct (Xq (Xr (Xr (Xq (Xr (Rb Y Y ?_)))))))))))))
           first | exact en_n1 (.inl (by assumption)) | exact en_n1 (.inr (.inl (by assumption))) | exact en_n1 (.inr (.inr (.inl (by first | assumption | (unfold inR; simp; omega))))) | exact en_n1 (.inr (.inr (.inr (.inl (by omega))))) | exact en_n1 (.inr (.inr (.inr (.inr (by omega))))) | exact en_n2 s0h (by omega) | exact en_n3 (lS f0h) (firAt_f1 f0h (by assumption)) | exact en_n3 (lS f0h) (firAt_f2 f0h (by assumption)) | exact en_n3 (lS f0h) (firAt_f3 f0h g0h (by omega) (by simp_all)) | exact en_n4 v0h (by assumption) | exact en_y (by assumption) (by assumption) (by first | assumption | (unfold inR; simp; omega)) (by omega) (by omega) (fun i h => hm i (by omega)) (fun i h => hf_ i (by omega)) (fun i h => hv i (by omega))
          ·have h36n := not_f h36
           refine Tk 9 Y (by kernel_rfl) Y (Db f_66_3 Y Y (q := 3) Y) (Tk 10 Y (by kernel_rfl) Y (lb 0 o_63 Y Y Y Y) (Tk 11 Y (by kernel_rfl) Y (rp Y) ?_))
           have hr37 := rd_slPr (m := j) hu6 (by omega)
           refine Tk 12 Y (by kernel_rfl) Y (D_slpr (l := e.Fired) (m := j) s_63 Y Y Y Y (fun w' hs => (rA hs hu6)) (by omega)) (Tk 13 Y (by kernel_rfl) Y (Db f_66_3 Y Y (q := 3) Y) (Tk 14 Y (by kernel_rfl) Y (lb 0 o_63 Y Y Y Y) (Tk 15 Y (by kernel_rfl) Y (rp Y) (Tk 16 Y (by kernel_rfl) Y (D_ix (l := e.Fired) (j := j) s_63 Y Y Y (fun w' hs => (rA hs hu6)) Y (lS f0h)) (Tk 17 Y (by kernel_rfl) Y (D_fa f_168_0 Y Y) (Tk 18 Y (by kernel_rfl) Y (lr o_9 Y Y at30 Y) (Tk 19 Y (by kernel_rfl) Y (D_build (vs := [(0, (.string f0.Rule))]) (cs := [(.string f0.Rule), (.slice none 0 0), (.slice none 0 0)]) Y (fun _ => by kernel_rfl) Y) (Tk 20 Y (by kernel_rfl) Y (Db f_66_3 Y Y (q := 3) Y) (Tk 21 Y (by kernel_rfl) Y (lb 0 o_63 Y Y Y Y) (Tk 22 Y (by kernel_rfl) Y (rp Y) (Tk 23 Y (by kernel_rfl) Y (D_ix (l := e.Fired) (j := j) s_63 Y Y Y (fun w' hs => (rA hs hu6)) Y (lS f0h)) (Tk 24 Y (by kernel_rfl) Y (D_fa f_168_1 Y Y) (Tk 25 Y (by kernel_rfl) Y (lr o_35 Y Y at30 Y) (Tk 26 Y (by kernel_rfl) Y (D_built (vs := [(0, (.agg #[(.string f0.Rule), (.slice none 0 0), (.slice none 0 0)])), (2, u33)]) (xs := [(0, [(.string f0.Rule), (.slice none 0 0), (.slice none 0 0)]), (2, [u33])]) (cs := [(.string f0.Rule), (.slice none 0 0), (.slice none 0 0), (iv 0), u33, (iv 0), (iv 0)]) pl_37 Y ⟨Y, Y, ⟨Y, (cells_of_one (one_rd hu34)), trivial⟩⟩ Y Y) ?_))))))))))))))
           have hk38 : Gd.rd w [(.string f0.Rule), (.slice none 0 0), (.slice none 0 0), (iv 0), u33, (iv 0), (iv 0)] (⟨⟨f0.Rule, [], []⟩, 0, f0.Times, 0, 0⟩ : Choice) := mk_Choice (⟨⟨f0.Rule, [], []⟩, 0, f0.Times, 0, 0⟩ : Choice) rd_nil rd_nil hu34
           refine ty 27 Y (by kernel_rfl) Y (cv b_126 Y Y Y Y (fun w' hs => (spec_HasFired (rA hs hr37) (rA hs hk38))) ?_)
           refine tZ Y (ty 28 Y (by kernel_rfl) Y (sv Y Y (rp Y) ?_))
           refine tZ Y (tE (by kernel_rfl) (Xt (D_wk [1, 4, 85] Y (Ci _ Y (fun h39 => ?_) (fun h39 => ?_)))))
           ·refine Sr (Pe Y (Ct (Xq (Xr (Xr (Xq (Xr (Rb Y Y ?_))))))))
            first | exact en_n1 (.inl (by assumption)) | exact en_n1 (.inr (.inl (by assumption))) | exact en_n1 (.inr (.inr (.inl (by first | assumption | (unfold inR; simp; omega))))) | exact en_n1 (.inr (.inr (.inr (.inl (by omega))))) | exact en_n1 (.inr (.inr (.inr (.inr (by omega))))) | exact en_n2 s0h (by omega) | exact en_n3 (lS f0h) (firAt_f1 f0h (by assumption)) | exact en_n3 (lS f0h) (firAt_f2 f0h (by assumption)) | exact en_n3 (lS f0h) (firAt_f3 f0h g0h (by omega) (by simp_all)) | exact en_n4 v0h (by assumption) | exact en_y (by assumption) (by assumption) (by first | assumption | (unfold inR; simp; omega)) (by omega) (by omega) (fun i h => hm i (by omega)) (fun i h => hf_ i (by omega)) (fun i h => hv i (by omega))
           ·refine Ck (Xb (Xt (Cr (p1 Y (q1 Y (D_add Y Y Y (r := ((j + 1 : Nat) : Int)) (by omega) (by omega)) (Pe Y (fun ac w' hf hs => ⟨_, ?_, j + 1, ?_, ?_, Y, hf.wk Y, hs⟩)))))))
            ·omega
            ·first | assumption | omega | simp
            ·refine forall_step hf_ ?_; exact firAt_t f0h (by assumption) (by assumption)
         ·have pr28 := odF h28
          refine Cx (Xx (Xx (Xe (Xt (Cq (Sr (Pe Y (Cb (Cl (fun m_ ac w' => ∃ (p : Nat), (p ≤ e.Log.length) ∧ (∀ i, i < p → ∀ v, e.Log[i]? = some v → isEventB v = true) ∧ m_ = e.Log.length - p ∧ Fits ac 100 [(1, (pv g13)), (5, (nv p))] ∧ St w ([bx g13 [u1, u3, (iv e.Clock), u5, (.bool e.Halted), u7]]) w') ?_ ?_)))))))))
          ·refine fun ac w' hf hs => ⟨_, 0, ?_, ?_, Y, hf.wk Y, hs⟩
           ·first | assumption | omega | simp
           ·intro i hi; omega
          ·rintro m_ ac w' ⟨p, hp, hv, rfl, hf, hs⟩
           refine D.use ?_ hf hs
           clear hf hs ac w'
           refine Cq (Sr (p1 Y (q1 Y (Db f_66_5 Y Y (q := 5) Y) (q1 Y (lb 0 o_64 Y Y Y Y) (q1 Y (Dl s_64 Y Y (rd_sl hu8)) (Pe Y (Ci _ Y (fun h40 => ?_) (fun h40 => ?_))))))))
           ·have pr40 := odT h40
            refine Sk (Cq (Cb (Sr (q1 Y (Db f_66_5 Y Y (q := 5) Y) (q1 Y (lb 0 o_64 Y Y Y Y) (p1 Y ?_))))))
            obtain ⟨v0, v0h⟩ := sL (l := e.Log) (i := p) (by omega)
            obtain ⟨es41, at42, hr43⟩ := rd_elem (n := 4) rfl hu8 v0h
            obtain ⟨u44, rfl, hu45⟩ := open_Event hr43
            have hm46 := rd_max hu45
            have hb47 := sub_Event_Fact hr43
            refine q1 Y (D_ix (l := e.Log) (j := p) s_64 Y Y Y (fun w' hs => (rA hs hu8)) Y (lS v0h)) (q1 Y (lra a_171 Y Y at42) (li Y (cv b_127 Y Y Y Y (fun w' hs => (spec_IsEvent (rA hs hr43) (ho.2.2.2.2.2 _ (List.mem_of_getElem? v0h)))) ?_)))
            refine Pe Y (Ci _ Y (fun h48 => ?_) (fun h48 => ?_))
            ·have h48n := not_t h48
             refine Sr (Pe Y (Ct (Xq (Xr (Xr (Xq (Xr (Rb Y Y ?_))))))))
             first | exact en_n1 (.inl (by assumption)) | exact en_n1 (.inr (.inl (by assumption))) | exact en_n1 (.inr (.inr (.inl (by first | assumption | (unfold inR; simp; omega))))) | exact en_n1 (.inr (.inr (.inr (.inl (by omega))))) | exact en_n1 (.inr (.inr (.inr (.inr (by omega))))) | exact en_n2 s0h (by omega) | exact en_n3 (lS f0h) (firAt_f1 f0h (by assumption)) | exact en_n3 (lS f0h) (firAt_f2 f0h (by assumption)) | exact en_n3 (lS f0h) (firAt_f3 f0h g0h (by omega) (by simp_all)) | exact en_n4 v0h (by assumption) | exact en_y (by assumption) (by assumption) (by first | assumption | (unfold inR; simp; omega)) (by omega) (by omega) (fun i h => hm i (by omega)) (fun i h => hf_ i (by omega)) (fun i h => hv i (by omega))
            ·have h48n := not_f h48
             refine Ck (Xb (Xt (Cr (p1 Y (q1 Y (D_add Y Y Y (r := ((p + 1 : Nat) : Int)) (by omega) (by omega)) (Pe Y (fun ac w' hf hs => ⟨_, ?_, p + 1, ?_, ?_, Y, hf.wk Y, hs⟩)))))))
             ·omega
             ·first | assumption | omega | simp
             ·refine forall_step hv ?_; intro y hy; obtain rfl : y = v0 := Option.some.inj (hy.symm.trans v0h); assumption
           ·have pr40 := odF h40
            refine Cx (Xx (Xx (Xe (Xt (Sr (Pe Y (Ct (Rb Y Y ?_))))))))
            first | exact en_n1 (.inl (by assumption)) | exact en_n1 (.inr (.inl (by assumption))) | exact en_n1 (.inr (.inr (.inl (by first | assumption | (unfold inR; simp; omega))))) | exact en_n1 (.inr (.inr (.inr (.inl (by omega))))) | exact en_n1 (.inr (.inr (.inr (.inr (by omega))))) | exact en_n2 s0h (by omega) | exact en_n3 (lS f0h) (firAt_f1 f0h (by assumption)) | exact en_n3 (lS f0h) (firAt_f2 f0h (by assumption)) | exact en_n3 (lS f0h) (firAt_f3 f0h g0h (by omega) (by simp_all)) | exact en_n4 v0h (by assumption) | exact en_y (by assumption) (by assumption) (by first | assumption | (unfold inR; simp; omega)) (by omega) (by omega) (fun i h => hm i (by omega)) (fun i h => hf_ i (by omega)) (fun i h => hv i (by omega))
end Go.Sy.Num3
