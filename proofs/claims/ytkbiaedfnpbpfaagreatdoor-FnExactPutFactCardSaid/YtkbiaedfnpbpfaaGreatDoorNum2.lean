/-
  Contracts of functions of the program, walked (printed by a program of ours).
  Conditions: those that each theorem states.
-/
import Derived.Test.YtkbiaedfnpbpfaaGreatDoorNum1
import Derived.Test.YtkbiaedfnpbpfaaGreatDoorMem2
set_option linter.unusedVariables false
set_option maxRecDepth 20000
namespace Go.Sy.Num2
open Go Go.RowKit Go.Proofs Go.Sy
theorem mixed : Tryz.prog.follows .mixedOrders = true := by kernel_rfl
theorem s_31 : sliceTy Tryz.prog 31 = some (70, 2, 40) := by kernel_rfl
theorem a_70 : aggTy Tryz.prog 70 = some 2 := by kernel_rfl
theorem y_70 : zeroTy Tryz.prog 70 = some (.agg #[(.string ⟨#[]⟩), (.slice none 0 0)]) := by kernel_rfl
theorem z_70 : sizeTy Tryz.prog 70 = some 2 := by kernel_rfl
theorem b_93 : hasBody Tryz.prog 93 = true := by kernel_rfl
theorem b_149 : hasBody Tryz.prog 149 = true := by kernel_rfl
theorem b_91 : hasBody Tryz.prog 91 = true := by kernel_rfl
theorem b_146 : hasBody Tryz.prog 146 = true := by kernel_rfl
theorem f_70_0 : fieldOff Tryz.prog 70 0 = some 0 := by kernel_rfl
theorem o_9 : oneTy Tryz.prog 9 = true := by kernel_rfl
theorem f_70_1 : fieldOff Tryz.prog 70 1 = some 1 := by kernel_rfl
theorem o_58 : oneTy Tryz.prog 58 = true := by kernel_rfl
theorem b_184 : hasBody Tryz.prog 184 = true := by kernel_rfl
theorem pl_70 : placeTy Tryz.prog 70 = some ([(0, 1), (1, 1)], [(.string ⟨#[]⟩), (.slice none 0 0)]) := by kernel_rfl
theorem b_178 : hasBody Tryz.prog 178 = true := by kernel_rfl
theorem s_42 : sliceTy Tryz.prog 42 = some (100, 3, 48) := by kernel_rfl
theorem a_100 : aggTy Tryz.prog 100 = some 3 := by kernel_rfl
theorem y_100 : zeroTy Tryz.prog 100 = some (.agg #[(.string ⟨#[]⟩), (.slice none 0 0), (.int .i64 0)]) := by kernel_rfl
theorem z_100 : sizeTy Tryz.prog 100 = some 3 := by kernel_rfl
theorem f_100_0 : fieldOff Tryz.prog 100 0 = some 0 := by kernel_rfl
theorem b_132 : hasBody Tryz.prog 132 = true := by kernel_rfl
theorem b_123 : hasBody Tryz.prog 123 = true := by kernel_rfl
theorem f_100_1 : fieldOff Tryz.prog 100 1 = some 2 := by kernel_rfl
theorem o_3 : oneTy Tryz.prog 3 = true := by kernel_rfl
theorem um_153 : Tryz.prog.underlying 153 = some (.map 3 4) := by kernel_rfl
theorem ui_3 : Tryz.prog.underlying 3 = some (.int .i64) := by kernel_rfl
theorem y_4 : zeroTy Tryz.prog 4 = some (.bool false) := by kernel_rfl
theorem b_111 : hasBody Tryz.prog 111 = true := by kernel_rfl
theorem b_110 : hasBody Tryz.prog 110 = true := by kernel_rfl
theorem b_99 : hasBody Tryz.prog 99 = true := by kernel_rfl
theorem b_101 : hasBody Tryz.prog 101 = true := by kernel_rfl
theorem b_100 : hasBody Tryz.prog 100 = true := by kernel_rfl
theorem s_35 : sliceTy Tryz.prog 35 = some (3, 1, 8) := by kernel_rfl
theorem f_168_0 : fieldOff Tryz.prog 168 0 = some 0 := by kernel_rfl
theorem f_168_1 : fieldOff Tryz.prog 168 1 = some 1 := by kernel_rfl
theorem o_35 : oneTy Tryz.prog 35 = true := by kernel_rfl
theorem b_185 : hasBody Tryz.prog 185 = true := by kernel_rfl
open Go.Sy.Bel1 Go.Sy.Ev1 Go.Sy.Ev2 Go.Sy.Fmt1 Go.Sy.Eng1 Go.Sy.Eng2 Go.Sy.Eng3 Go.Sy.Num1
theorem impl_AreFacts {w : World} {v_l : Value} {l : (List Fact)} (h_l : Gd.rd w [v_l] l) (htb : Tb w) : Calls Tryz.prog 110 [v_l].toArray w (Val w (.bool (areFactsB l))) := by
 have hm1 := rd_max h_l
 refine enter 33 Tryz.func110 Y Y Y (Sr (Pe Y (Cq (Sr (p1 Y (q1 Y (Dl s_31 Y Y (rd_sl h_l)) (Pe Y (Ci _ Y (fun h2 => ?_) (fun h2 => ?_)))))))))
 ·have pr2 := odT h2
  refine Sr (Pe Y (Ct (Xr (Rb Y Y ?_))))
  first | exact af_n1 (by omega) | exact af_n2 (k := k) (by omega) (factAt_f1 f0h (by assumption)) | exact af_n2 (k := k) (by omega) (factAt_f2 f0h p0h (by omega) (by omega)) | exact af_y (by omega) (fun i h => hi i (by omega)) | exact af_z (fun i h => hi i (by omega))
 ·have pr2 := odF h2
  refine Sk (Cq (Sr (p1 Y (q1 Y (Dl s_31 Y Y (rd_sl h_l)) (Pe Y (Cb (Cl (fun m_ ac w' => ∃ (k : Nat), (k ≤ l.length) ∧ (∀ i, i < k → factAt l i = true) ∧ m_ = l.length - k ∧ Fits ac 33 [(0, v_l), (8, v_l), (9, (nv l.length)), (10, (nv k))] ∧ St w ([]) w') ?_ ?_)))))))
  ·refine fun ac w' hf hs => ⟨_, 0, ?_, ?_, Y, hf.wk Y, hs⟩
   ·first | assumption | omega | simp
   ·intro i hi; omega
  ·rintro m_ ac w' ⟨k, hk, hi, rfl, hf, hs⟩
   refine D.use ?_ hf hs
   clear hf hs ac w'
   refine Sr (Pe Y (Cq (Ci _ Y (fun h3 => ?_) (fun h3 => ?_))))
   ·have pr3 := odT h3
    refine Sk (Cq (Cb (Sr (p1 Y ?_))))
    obtain ⟨f0, f0h⟩ := sL (l := l) (i := k) (by omega)
    obtain ⟨es4, at5, hr6⟩ := rd_elem (n := 2) rfl h_l f0h
    obtain ⟨u7, rfl, hu8⟩ := open_Fact hr6
    have hm9 := rd_max hu8
    refine q1 Y (D_ix (l := l) (j := k) s_31 Y Y Y (fun w' hs => (rA hs h_l)) Y (lS f0h)) (q1 Y (lra a_70 Y Y at5) (li Y (D_alloc y_70 Y Y Y Y fun g10 => ?_)))
    refine p1 Y (li Y (D_stb (vs := [(.string f0.Rel), u7]) (cs' := [(.string f0.Rel), u7]) 0 z_70 Y Y Y Y Y Y (ocons Y (ocons (one_rd hu8) onil)) (by simp) Y ?_))
    refine Dx (Dh ([bx g10 [(.string f0.Rel), u7]]) Y (Cq (C_draw mixed [1, 2, 3, 4, 5, 6, 13, 14, 15, 16] (by kernel_rfl) (Tk 0 Y (by kernel_rfl) Y (lbw 0 a_70 Y Y Y) (ty 1 Y (by kernel_rfl) Y (cv b_93 Y Y Y Y (fun w' hs => (impl_IsFact (rA hs hr6))) ?_))))))
    refine tZ Y (ty 2 Y (by kernel_rfl) Y (sv Y Y (rp Y) ?_))
    refine tZ Y (ty 3 Y (by kernel_rfl) Y (sv Y Y (rp Y) ?_))
    refine tZ Y (gs 18 Y Y (fun h11 => ?_) (fun h11 => ?_))
    ·have h11n := not_t h11
     refine tn 4 Y (by kernel_rfl) (by kernel_rfl) (by kernel_rfl) Y Y Y (fun _ hs => hs) (tn 5 Y (by kernel_rfl) (by kernel_rfl) (by kernel_rfl) Y Y Y (fun _ hs => hs) (tn 6 Y (by kernel_rfl) (by kernel_rfl) (by kernel_rfl) Y Y Y (fun _ hs => hs) (tn 7 Y (by kernel_rfl) (by kernel_rfl) (by kernel_rfl) Y Y Y (fun _ hs => hs) (tn 8 Y (by kernel_rfl) (by kernel_rfl) (by kernel_rfl) Y Y Y (fun _ hs => hs) (tn 9 Y (by kernel_rfl) (by kernel_rfl) (by kernel_rfl) Y Y Y (fun _ hs => hs) (tn 10 Y (by kernel_rfl) (by kernel_rfl) (by kernel_rfl) Y Y Y (fun _ hs => hs) (tn 11 Y (by kernel_rfl) (by kernel_rfl) (by kernel_rfl) Y Y Y (fun _ hs => hs) (tn 12 Y (by kernel_rfl) (by kernel_rfl) (by kernel_rfl) Y Y Y (fun _ hs => hs) (tn 13 Y (by kernel_rfl) (by kernel_rfl) (by kernel_rfl) Y Y Y (fun _ hs => hs) (tn 14 Y (by kernel_rfl) (by kernel_rfl) (by kernel_rfl) Y Y Y (fun _ hs => hs) (tn 15 Y (by kernel_rfl) (by kernel_rfl) (by kernel_rfl) Y Y Y (fun _ hs => hs) (ty 16 Y (by kernel_rfl) Y (sv Y Y (rp Y) ?_)))))))))))))
     refine tZ Y (tE (by kernel_rfl) (Xt (D_wk [0, 8, 9, 10, 31] Y (D_pkO [] Y (C_t Y (Sr (Pe Y (Ct (Xq (Xr (Xr (Xq (Xr (Rb Y Y ?_))))))))))))))
     first | exact af_n1 (by omega) | exact af_n2 (k := k) (by omega) (factAt_f1 f0h (by assumption)) | exact af_n2 (k := k) (by omega) (factAt_f2 f0h p0h (by omega) (by omega)) | exact af_y (by omega) (fun i h => hi i (by omega)) | exact af_z (fun i h => hi i (by omega))
    ·have h11n := not_f h11
     refine ty 4 Y (by kernel_rfl) Y (sv Y Y (rp Y) ?_)
     refine tZ Y (ty 5 Y (by kernel_rfl) Y (sv Y Y (rp Y) ?_))
     refine tZ Y (ty 6 Y (by kernel_rfl) Y (sv Y Y (rp Y) ?_))
     refine tZ Y (gs 21 Y Y (fun h12 => ?_) (fun h12 => ?_))
     ·have pr12 := odT h12
      refine Tk 7 Y (by kernel_rfl) Y (rp Y) (Tk 8 Y (by kernel_rfl) Y (rp Y) (Tk 9 Y (by kernel_rfl) Y (D_sub Y Y Y (r := ((k - 1 : Nat) : Int)) (by omega) (by omega)) ?_))
      obtain ⟨p0, p0h⟩ := sL (l := l) (i := (k - 1)) (by omega)
      obtain ⟨es13, at14, hr15⟩ := rd_elem (n := 2) rfl h_l p0h
      obtain ⟨u17, rfl, hu18⟩ := open_Fact hr15
      have hm19 := rd_max hu18
      refine Tk 10 Y (by kernel_rfl) Y (D_ix (l := l) (j := (k - 1)) s_31 Y Y Y (fun w' hs => (rA hs h_l)) Y (lS p0h)) (Tk 11 Y (by kernel_rfl) Y (lra a_70 Y Y at14) (Tk 12 Y (by kernel_rfl) Y (lbw 0 a_70 Y Y Y) (ty 13 Y (by kernel_rfl) Y (cv b_149 Y Y Y Y (fun w' hs => (impl_CompareFacts (rA hs hr15) (rA hs hr6) (Tb.ext htb hs.bel))) ?_))))
      refine tZ Y (ty 14 Y (by kernel_rfl) Y (sv Y Y (rp Y) ?_))
      refine tZ Y (ty 15 Y (by kernel_rfl) Y (sv Y Y (rp Y) ?_))
      refine tZ Y (ty 16 Y (by kernel_rfl) Y (sv Y Y (rp Y) ?_))
      refine tZ Y (tE (by kernel_rfl) (Xt (D_wk [0, 8, 9, 10, 31] Y (D_pkO [] Y (Ci _ Y (fun h20 => ?_) (fun h20 => ?_))))))
      ·have pr20 := odT h20
       refine Sr (Pe Y (Ct (Xq (Xr (Xr (Xq (Xr (Rb Y Y ?_))))))))
       first | exact af_n1 (by omega) | exact af_n2 (k := k) (by omega) (factAt_f1 f0h (by assumption)) | exact af_n2 (k := k) (by omega) (factAt_f2 f0h p0h (by omega) (by omega)) | exact af_y (by omega) (fun i h => hi i (by omega)) | exact af_z (fun i h => hi i (by omega))
      ·have pr20 := odF h20
       refine Ck (Xb (Xt (Cr (q1 Y (D_add Y Y Y (r := ((k + 1 : Nat) : Int)) (by omega) (by omega)) (Pe Y (fun ac w' hf hs => ⟨_, ?_, k + 1, ?_, ?_, Y, hf.wk Y, hs⟩))))))
       ·omega
       ·first | assumption | omega | simp
       ·refine forall_step hi ?_; first | exact factAt_0 f0h (by assumption) (by omega) | exact factAt_s f0h p0h (by omega) (by assumption) (by omega)
     ·have pr12 := odF h12
      refine tn 7 Y (by kernel_rfl) (by kernel_rfl) (by kernel_rfl) Y Y Y (fun _ hs => hs) (tn 8 Y (by kernel_rfl) (by kernel_rfl) (by kernel_rfl) Y Y Y (fun _ hs => hs) (tn 9 Y (by kernel_rfl) (by kernel_rfl) (by kernel_rfl) Y Y Y (fun _ hs => hs) (tn 10 Y (by kernel_rfl) (by kernel_rfl) (by kernel_rfl) Y Y Y (fun _ hs => hs) (tn 11 Y (by kernel_rfl) (by kernel_rfl) (by kernel_rfl) Y Y Y (fun _ hs => hs) (tn 12 Y (by kernel_rfl) (by kernel_rfl) (by kernel_rfl) Y Y Y (fun _ hs => hs) (tn 13 Y (by kernel_rfl) (by kernel_rfl) (by kernel_rfl) Y Y Y (fun _ hs => hs) (tn 14 Y (by kernel_rfl) (by kernel_rfl) (by kernel_rfl) Y Y Y (fun _ hs => hs) (ty 15 Y (by kernel_rfl) Y (sv Y Y (rp Y) ?_)))))))))
      refine tZ Y (ty 16 Y (by kernel_rfl) Y (sv Y Y (rp Y) ?_))
      refine tZ Y (tE (by kernel_rfl) (Xt (D_wk [0, 8, 9, 10, 31] Y (D_pkO [] Y (C_f Y (Ck (Xb (Xt (Cr (q1 Y (D_add Y Y Y (r := ((k + 1 : Nat) : Int)) (by omega) (by omega)) (Pe Y (fun ac w' hf hs => ⟨_, ?_, k + 1, ?_, ?_, Y, hf.wk Y, hs⟩))))))))))))
      ·omega
      ·first | assumption | omega | simp
      ·refine forall_step hi ?_; first | exact factAt_0 f0h (by assumption) (by omega) | exact factAt_s f0h p0h (by omega) (by assumption) (by omega)
   ·have pr3 := odF h3
    refine Cx (Xx (Xx (Xe (Xt (Sr (Pe Y (Ct (Rb Y Y ?_))))))))
    first | exact af_n1 (by omega) | exact af_n2 (k := k) (by omega) (factAt_f1 f0h (by assumption)) | exact af_n2 (k := k) (by omega) (factAt_f2 f0h p0h (by omega) (by omega)) | exact af_y (by omega) (fun i h => hi i (by omega)) | exact af_z (fun i h => hi i (by omega))
theorem spec_AreFacts {w : World} {v_l : Value} {l : (List Fact)} (h_l : Gd.rd w [v_l] l) (ho : okL okFa l) : Calls Tryz.prog 100 [v_l].toArray w (Val w (.bool (areFactsB l))) := by
 have hm1 := rd_max h_l
 refine enter 36 Tryz.func100 Y Y Y (Sr (Pe Y (Cq (Sr (Pe Y (Cb (Cl (fun m_ ac w' => ∃ (k : Nat), (k ≤ l.length) ∧ (∀ i, i < k → factAt l i = true) ∧ m_ = l.length - k ∧ Fits ac 36 [(0, v_l), (3, (nv k))] ∧ St w ([]) w') ?_ ?_)))))))
 ·refine fun ac w' hf hs => ⟨_, 0, ?_, ?_, Y, hf.wk Y, hs⟩
  ·first | assumption | omega | simp
  ·intro i hi; omega
 ·rintro m_ ac w' ⟨k, hk, hi, rfl, hf, hs⟩
  refine D.use ?_ hf hs
  clear hf hs ac w'
  refine Cq (Sr (P2 Y Y (q1 Y (Dl s_31 Y Y (rd_sl h_l)) (Pe Y (Ci _ Y (fun h2 => ?_) (fun h2 => ?_))))))
  ·have pr2 := odT h2
   refine Sk (Cq (Cb (Cq (C_draw mixed [4, 5, 6, 7, 8, 9, 19, 20, 21, 22] (by kernel_rfl) (Tk 0 Y (by kernel_rfl) Y (rp Y) (Tk 1 Y (by kernel_rfl) Y (rp Y) ?_))))))
   obtain ⟨f0, f0h⟩ := sL (l := l) (i := k) (by omega)
   obtain ⟨es3, at4, hr5⟩ := rd_elem (n := 2) rfl h_l f0h
   obtain ⟨u6, rfl, hu7⟩ := open_Fact hr5
   have hm8 := rd_max hu7
   refine Tk 2 Y (by kernel_rfl) Y (D_ix (l := l) (j := k) s_31 Y Y Y (fun w' hs => (rA hs h_l)) Y (lS f0h)) (Tk 3 Y (by kernel_rfl) Y (lra a_70 Y Y at4) (ty 4 Y (by kernel_rfl) Y (cv b_91 Y Y Y Y (fun w' hs => (spec_IsFact (rA hs hr5) (ho _ (List.mem_of_getElem? f0h)))) ?_)))
   refine tZ Y (ty 5 Y (by kernel_rfl) Y (sv Y Y (rp Y) ?_))
   refine tZ Y (ty 6 Y (by kernel_rfl) Y (sv Y Y (rp Y) ?_))
   refine tZ Y (gs 16 Y Y (fun h9 => ?_) (fun h9 => ?_))
   ·have h9n := not_t h9
    refine tn 7 Y (by kernel_rfl) (by kernel_rfl) (by kernel_rfl) Y Y Y (fun _ hs => hs) (tn 8 Y (by kernel_rfl) (by kernel_rfl) (by kernel_rfl) Y Y Y (fun _ hs => hs) (tn 9 Y (by kernel_rfl) (by kernel_rfl) (by kernel_rfl) Y Y Y (fun _ hs => hs) (tn 10 Y (by kernel_rfl) (by kernel_rfl) (by kernel_rfl) Y Y Y (fun _ hs => hs) (tn 11 Y (by kernel_rfl) (by kernel_rfl) (by kernel_rfl) Y Y Y (fun _ hs => hs) (tn 12 Y (by kernel_rfl) (by kernel_rfl) (by kernel_rfl) Y Y Y (fun _ hs => hs) (tn 13 Y (by kernel_rfl) (by kernel_rfl) (by kernel_rfl) Y Y Y (fun _ hs => hs) (tn 14 Y (by kernel_rfl) (by kernel_rfl) (by kernel_rfl) Y Y Y (fun _ hs => hs) (tn 15 Y (by kernel_rfl) (by kernel_rfl) (by kernel_rfl) Y Y Y (fun _ hs => hs) (tn 16 Y (by kernel_rfl) (by kernel_rfl) (by kernel_rfl) Y Y Y (fun _ hs => hs) (tn 17 Y (by kernel_rfl) (by kernel_rfl) (by kernel_rfl) Y Y Y (fun _ hs => hs) (tn 18 Y (by kernel_rfl) (by kernel_rfl) (by kernel_rfl) Y Y Y (fun _ hs => hs) (tn 19 Y (by kernel_rfl) (by kernel_rfl) (by kernel_rfl) Y Y Y (fun _ hs => hs) (tn 20 Y (by kernel_rfl) (by kernel_rfl) (by kernel_rfl) Y Y Y (fun _ hs => hs) (tn 21 Y (by kernel_rfl) (by kernel_rfl) (by kernel_rfl) Y Y Y (fun _ hs => hs) (ty 22 Y (by kernel_rfl) Y (sv Y Y (rp Y) ?_))))))))))))))))
    refine tZ Y (tE (by kernel_rfl) (Xt (D_wk [0, 3, 32] Y (C_t Y (Sr (Pe Y (Ct (Xq (Xr (Xr (Xq (Xr (Rb Y Y ?_)))))))))))))
    first | exact af_n1 (by omega) | exact af_n2 (k := k) (by omega) (factAt_f1 f0h (by assumption)) | exact af_n2 (k := k) (by omega) (factAt_f2 f0h p0h (by omega) (by omega)) | exact af_y (by omega) (fun i h => hi i (by omega)) | exact af_z (fun i h => hi i (by omega))
   ·have h9n := not_f h9
    refine ty 7 Y (by kernel_rfl) Y (sv Y Y (rp Y) ?_)
    refine tZ Y (ty 8 Y (by kernel_rfl) Y (sv Y Y (rp Y) ?_))
    refine tZ Y (ty 9 Y (by kernel_rfl) Y (sv Y Y (rp Y) ?_))
    refine tZ Y (gs 19 Y Y (fun h10 => ?_) (fun h10 => ?_))
    ·have pr10 := odT h10
     refine Tk 10 Y (by kernel_rfl) Y (rp Y) (Tk 11 Y (by kernel_rfl) Y (rp Y) (Tk 12 Y (by kernel_rfl) Y (D_sub Y Y Y (r := ((k - 1 : Nat) : Int)) (by omega) (by omega)) ?_))
     obtain ⟨p0, p0h⟩ := sL (l := l) (i := (k - 1)) (by omega)
     obtain ⟨es11, at12, hr13⟩ := rd_elem (n := 2) rfl h_l p0h
     obtain ⟨u14, rfl, hu15⟩ := open_Fact hr13
     have hm16 := rd_max hu15
     refine Tk 13 Y (by kernel_rfl) Y (D_ix (l := l) (j := (k - 1)) s_31 Y Y Y (fun w' hs => (rA hs h_l)) Y (lS p0h)) (Tk 14 Y (by kernel_rfl) Y (lra a_70 Y Y at12) (Tk 15 Y (by kernel_rfl) Y (rp Y) (Tk 16 Y (by kernel_rfl) Y (rp Y) (Tk 17 Y (by kernel_rfl) Y (D_ix (l := l) (j := k) s_31 Y Y Y (fun w' hs => (rA hs h_l)) Y (lS f0h)) (Tk 18 Y (by kernel_rfl) Y (lra a_70 Y Y at4) (ty 19 Y (by kernel_rfl) Y (cv b_146 Y Y Y Y (fun w' hs => (spec_CompareFacts (rA hs hr13) (rA hs hr5))) ?_)))))))
     refine tZ Y (ty 20 Y (by kernel_rfl) Y (sv Y Y (rp Y) ?_))
     refine tZ Y (ty 21 Y (by kernel_rfl) Y (sv Y Y (rp Y) ?_))
     refine tZ Y (ty 22 Y (by kernel_rfl) Y (sv Y Y (rp Y) ?_))
     refine tZ Y (tE (by kernel_rfl) (Xt (D_wk [0, 3, 32] Y (Ci _ Y (fun h17 => ?_) (fun h17 => ?_)))))
     ·have pr17 := odT h17
      refine Sr (Pe Y (Ct (Xq (Xr (Xr (Xq (Xr (Rb Y Y ?_))))))))
      first | exact af_n1 (by omega) | exact af_n2 (k := k) (by omega) (factAt_f1 f0h (by assumption)) | exact af_n2 (k := k) (by omega) (factAt_f2 f0h p0h (by omega) (by omega)) | exact af_y (by omega) (fun i h => hi i (by omega)) | exact af_z (fun i h => hi i (by omega))
     ·have pr17 := odF h17
      refine Ck (Xb (Xt (Cr (p1 Y (q1 Y (D_add Y Y Y (r := ((k + 1 : Nat) : Int)) (by omega) (by omega)) (Pe Y (fun ac w' hf hs => ⟨_, ?_, k + 1, ?_, ?_, Y, hf.wk Y, hs⟩)))))))
      ·omega
      ·first | assumption | omega | simp
      ·refine forall_step hi ?_; first | exact factAt_0 f0h (by assumption) (by omega) | exact factAt_s f0h p0h (by omega) (by assumption) (by omega)
    ·have pr10 := odF h10
     refine tn 10 Y (by kernel_rfl) (by kernel_rfl) (by kernel_rfl) Y Y Y (fun _ hs => hs) (tn 11 Y (by kernel_rfl) (by kernel_rfl) (by kernel_rfl) Y Y Y (fun _ hs => hs) (tn 12 Y (by kernel_rfl) (by kernel_rfl) (by kernel_rfl) Y Y Y (fun _ hs => hs) (tn 13 Y (by kernel_rfl) (by kernel_rfl) (by kernel_rfl) Y Y Y (fun _ hs => hs) (tn 14 Y (by kernel_rfl) (by kernel_rfl) (by kernel_rfl) Y Y Y (fun _ hs => hs) (tn 15 Y (by kernel_rfl) (by kernel_rfl) (by kernel_rfl) Y Y Y (fun _ hs => hs) (tn 16 Y (by kernel_rfl) (by kernel_rfl) (by kernel_rfl) Y Y Y (fun _ hs => hs) (tn 17 Y (by kernel_rfl) (by kernel_rfl) (by kernel_rfl) Y Y Y (fun _ hs => hs) (tn 18 Y (by kernel_rfl) (by kernel_rfl) (by kernel_rfl) Y Y Y (fun _ hs => hs) (tn 19 Y (by kernel_rfl) (by kernel_rfl) (by kernel_rfl) Y Y Y (fun _ hs => hs) (tn 20 Y (by kernel_rfl) (by kernel_rfl) (by kernel_rfl) Y Y Y (fun _ hs => hs) (ty 21 Y (by kernel_rfl) Y (sv Y Y (rp Y) ?_))))))))))))
     refine tZ Y (ty 22 Y (by kernel_rfl) Y (sv Y Y (rp Y) ?_))
     refine tZ Y (tE (by kernel_rfl) (Xt (D_wk [0, 3, 32] Y (C_f Y (Ck (Xb (Xt (Cr (p1 Y (q1 Y (D_add Y Y Y (r := ((k + 1 : Nat) : Int)) (by omega) (by omega)) (Pe Y (fun ac w' hf hs => ⟨_, ?_, k + 1, ?_, ?_, Y, hf.wk Y, hs⟩))))))))))))
     ·omega
     ·first | assumption | omega | simp
     ·refine forall_step hi ?_; first | exact factAt_0 f0h (by assumption) (by omega) | exact factAt_s f0h p0h (by omega) (by assumption) (by omega)
  ·have pr2 := odF h2
   refine Cx (Xx (Xx (Xe (Xt (Sr (p1 Y (q1 Y (Dl s_31 Y Y (rd_sl h_l)) (P2 Y Y (Dx (Ct (Rb Y Y ?_)))))))))))
   show ((decide ((((l.length : Nat) : Int) : Int) ≤ 24)) : Bool) = _
   first | exact af_n1 (by omega) | exact af_n2 (k := k) (by omega) (factAt_f1 f0h (by assumption)) | exact af_n2 (k := k) (by omega) (factAt_f2 f0h p0h (by omega) (by omega)) | exact af_y (by omega) (fun i h => hi i (by omega)) | exact af_z (fun i h => hi i (by omega))
theorem impl_copyFact {w : World} {c_f : List Value} {f : Fact} (h_f : Gd.rd w c_f f) (hp : szFa f ≤ 1048576) : Calls Tryz.prog 132 [(.agg c_f.toArray)].toArray w (Res w (f : Fact)) := by
 obtain ⟨u1, rfl, hu2⟩ := open_Fact h_f
 have hm3 := rd_max hu2
 unfold szFa szSs at hp
 refine enter 9 Tryz.func132 Y Y Y (Sr (li Y (D_box Y Y Y Y Y fun g4 => ?_)))
 refine li Y (D_alloc y_70 Y Y Y Y fun g5 => ?_)
 refine Dx (Dh ([bx g5 [(.string ⟨#[]⟩), (.slice none 0 0)], bx g4 [(.string f.Rel), u1]]) Y (Cq (C_draw mixed [6] (by kernel_rfl) (Tk 0 Y (by kernel_rfl) Y (Db f_70_0 Y Y (q := 0) Y) (Tk 1 Y (by kernel_rfl) Y (lb 1 o_9 Y Y Y Y) (Tk 2 Y (by kernel_rfl) Y (Db f_70_1 Y Y (q := 1) Y) (Tk 3 Y (by kernel_rfl) Y (lb 1 o_58 Y Y Y Y) (ty 4 Y (by kernel_rfl) Y (crl b_184 Y Y Y Y (fun w' hs => (impl_copyTexts (rA hs hu2) (by first | assumption | omega | (unfold szm at *; split at * <;> omega)))) fun v6 => ?_)))))))))
 refine tS (fun _ hs => hs.pk [1, 2] Y Y) (Dp (fun w' hs => one_own (k := 0) hs Y) ?_)
 intro ho7
 refine Tj 5 Y (by kernel_rfl) Y (fun _ hs => hs.pk [1, 2] Y Y) (D_built (vs := [(0, (.string f.Rel)), (1, v6)]) (xs := [(0, [(.string f.Rel)]), (1, [v6])]) (cs := [(.string f.Rel), v6]) pl_70 Y ⟨Y, Y, ⟨Y, (cells_of_one ho7), trivial⟩⟩ Y Y) (ty 6 Y (by kernel_rfl) Y (D_stb (vs := [(.string f.Rel), v6]) (cs' := [(.string f.Rel), v6]) 1 z_70 Y Y Y Y Y Y (ocons Y (ocons ho7 onil)) (by simp) Y ?_))
 refine tZ Y (tE (by kernel_rfl) (Xt (Ct (pk_Fact (r := (f : Fact)) (R_c 1 a_70 Y Y Y fun w' hs => res_of (k := 0) hs Y ?_)))))
 show (f : Fact) = f
 rfl
theorem spec_l2Copy {w : World} {c_f : List Value} {f : Fact} (h_f : Gd.rd w c_f f) (hp : szFa f ≤ 1048576) : Calls Tryz.prog 123 [(.agg c_f.toArray)].toArray w (Res w (f : Fact)) := by
 obtain ⟨u1, rfl, hu2⟩ := open_Fact h_f
 have hm3 := rd_max hu2
 unfold szFa szSs at hp
 refine enter 9 Tryz.func123 Y Y Y (Sr (li Y (D_box Y Y Y Y Y fun g4 => ?_)))
 refine li Y (D_alloc y_70 Y Y Y Y fun g5 => ?_)
 refine Dx (Dh ([bx g5 [(.string ⟨#[]⟩), (.slice none 0 0)], bx g4 [(.string f.Rel), u1]]) Y (Cq (C_draw mixed [6] (by kernel_rfl) (Tk 0 Y (by kernel_rfl) Y (Db f_70_0 Y Y (q := 0) Y) (Tk 1 Y (by kernel_rfl) Y (lb 1 o_9 Y Y Y Y) (Tk 2 Y (by kernel_rfl) Y (Db f_70_1 Y Y (q := 1) Y) (Tk 3 Y (by kernel_rfl) Y (lb 1 o_58 Y Y Y Y) (ty 4 Y (by kernel_rfl) Y (crl b_178 Y Y Y Y (fun w' hs => (spec_l1Texts (rA hs hu2) (by first | assumption | omega | (unfold szm at *; split at * <;> omega)))) fun v6 => ?_)))))))))
 refine tS (fun _ hs => hs.pk [1, 2] Y Y) (Dp (fun w' hs => one_own (k := 0) hs Y) ?_)
 intro ho7
 refine Tj 5 Y (by kernel_rfl) Y (fun _ hs => hs.pk [1, 2] Y Y) (D_built (vs := [(0, (.string f.Rel)), (1, v6)]) (xs := [(0, [(.string f.Rel)]), (1, [v6])]) (cs := [(.string f.Rel), v6]) pl_70 Y ⟨Y, Y, ⟨Y, (cells_of_one ho7), trivial⟩⟩ Y Y) (ty 6 Y (by kernel_rfl) Y (D_stb (vs := [(.string f.Rel), v6]) (cs' := [(.string f.Rel), v6]) 1 z_70 Y Y Y Y Y Y (ocons Y (ocons ho7 onil)) (by simp) Y ?_))
 refine tZ Y (tE (by kernel_rfl) (Xt (Ct (pk_Fact (r := (f : Fact)) (R_c 1 a_70 Y Y Y fun w' hs => res_of (k := 0) hs Y ?_)))))
 show (f : Fact) = f
 rfl
theorem impl_FactsIn {w : World} {v_l : Value} {l : (List Stamp)} (h_l : Gd.rd w [v_l] l) (hn : szL szStamp l ≤ 1048576) : Calls Tryz.prog 111 [v_l].toArray w (Res w (l.map (·.Fact) : List Fact)) := by
 have hm1 := rd_max h_l
 unfold szL at hn
 refine enter 20 Tryz.func111 Y Y Y (Sr (Pe Y (Sr (Pe Y (Cq (Sr (p1 Y (q1 Y (Dl s_42 Y Y (rd_sl h_l)) (Pe Y (Cb (Cl (fun m_ ac w' => ∃ (k : Nat), ∃ (v : Value), (k ≤ l.length) ∧ m_ = l.length - k ∧ Fits ac 20 [(3, v), (6, v_l), (7, (nv l.length)), (8, (nv k))] ∧ St w ([ov [v] ((l.take k).map (·.Fact) : (List Fact))]) w') ?_ ?_)))))))))))
 ·refine D_nil (α := Fact) (D_eq 0 Y (show ([] : (List Fact)) = (l.take 0).map (·.Fact) from by simp) (fun ac w' hf hs => ⟨_, 0, (.slice none 0 0), ?_, Y, hf.wk Y, hs⟩))
  ·first | assumption | omega | simp
 ·rintro m_ ac w' ⟨k, v, hk, rfl, hf, hs⟩
  refine D.use ?_ hf hs
  clear hf hs ac w'
  have hcl : ((l.take k).map (·.Fact)).length ≤ k := by rw [List.length_map, List.length_take]; omega
  refine Sr (Pe Y (Dh ([_]) Y (Cq (Ci _ Y (fun h2 => ?_) (fun h2 => ?_)))))
  ·have pr2 := odT h2
   refine Sk (Cq (Cb (Sr ?_)))
   obtain ⟨s0, s0h⟩ := sL (l := l) (i := k) (by omega)
   have hle := sumC_mem (c := szStamp) (List.mem_of_getElem? s0h)
   have hle2 : szStamp s0 = szFa s0.Fact := rfl
   obtain ⟨es3, at4, hr5⟩ := rd_elem (n := 3) rfl h_l s0h
   obtain ⟨u6, rfl, hu7⟩ := open_Stamp hr5
   have hm8 := rd_max hu7
   have hb9 := sub_Stamp_Fact hr5
   refine q1 Y (D_ix (l := l) (j := k) s_42 Y Y Y (fun w' hs => (rA hs h_l)) Y (lS s0h)) (q1 Y (lra a_100 Y Y at4) (li Y (D_alloc y_100 Y Y Y Y fun g10 => ?_)))
   refine li Y (D_stb (vs := [(.string s0.Fact.Rel), u6, (iv s0.Time)]) (cs' := [(.string s0.Fact.Rel), u6, (iv s0.Time)]) 0 z_100 Y Y Y Y Y Y (ocons Y (ocons (one_rd hu7) (ocons Y onil))) (by simp) Y ?_)
   refine Dx (Dh ([bx g10 [(.string s0.Fact.Rel), u6, (iv s0.Time)], _]) Y (Cr (p1 Y (q1 Y (Db f_100_0 Y Y (q := 0) Y) (q1 Y (lba (es := [(.string s0.Fact.Rel), u6]) 0 a_70 Y Y Y Y) (li Y (crs Y b_132 Y Y Y Y (fun w' hs => (impl_copyFact (rA hs hb9) (by first | assumption | omega | (unfold szm at *; split at * <;> omega)))) fun cs11 => ?_)))))))
   refine Dp (fun w' hs => shape_Fact (rO (k := 0) hs Y)) ?_
   rintro ⟨v12, rfl, ho13⟩
   refine li Y (D_bs s_31 y_70 Y (by decide) (by decide) Y Y Y Y Y Y fun g14 => ?_)
   refine D_pkO [3, 1, 0, 2] Y (li Y (D_ap s_31 y_70 Y (by decide) Y Y Y Y Y Y (by first | omega | (simp; omega)) (by first | omega | (simp; omega)) fun v15 => ?_))
   refine p1 Y (De (Xb (Xt (Dh ([ov [v15] (((l.take k).map (·.Fact)) ++ [s0.Fact] : (List Fact)), _]) Y (Cr (q1 Y (D_add Y Y Y (r := ((k + 1 : Nat) : Int)) (by omega) (by omega)) (Pe Y (D_eq 0 Y (show (((l.take k).map (·.Fact)) ++ [s0.Fact] : (List Fact)) = (l.take (k + 1)).map (·.Fact) from by rw [take_snoc s0h, List.map_append]; rfl) (fun ac w' hf hs => ⟨_, ?_, k + 1, v15, ?_, Y, hf.wk Y, hs.pk [0] Y Y⟩)))))))))
   ·omega
   ·first | assumption | omega | simp
  ·have pr2 := odF h2
   refine Cx (Xx (Xx (Xe (Xt (Sr (P2 Y Y (Dx (Ct (R_1 Y Y fun w' hs => res_of (k := 0) hs Y ?_)))))))))
   show (l.take k).map (·.Fact) = l.map (·.Fact)
   rw [List.take_of_length_le (by omega)]
theorem spec_FactsIn {w : World} {v_l : Value} {l : (List Stamp)} (h_l : Gd.rd w [v_l] l) (hn : szL szStamp l ≤ 1048576) : Calls Tryz.prog 101 [v_l].toArray w (Res w (l.map (·.Fact) : List Fact)) := by
 have hm1 := rd_max h_l
 unfold szL at hn
 refine enter 22 Tryz.func101 Y Y Y (Sr (Pe Y (Sr (li Y (D_bs0 (α := Fact) s_31 Y Y Y fun v2 => ?_)))))
 refine Pe Y (Dh ([ov [v2] ([] : (List Fact))]) Y (Cq (Sr (Pe Y (Cb (Cl (fun m_ ac w' => ∃ (k : Nat), ∃ (v : Value), (k ≤ l.length) ∧ m_ = l.length - k ∧ Fits ac 22 [(0, v_l), (3, v), (4, (nv k))] ∧ St w ([ov [v] ((l.take k).map (·.Fact) : (List Fact))]) w') ?_ ?_))))))
 ·refine D_eq 0 Y (show ([] : (List Fact)) = (l.take 0).map (·.Fact) from by simp) (fun ac w' hf hs => ⟨_, 0, v2, ?_, Y, hf.wk Y, hs⟩)
  ·first | assumption | omega | simp
 ·rintro m_ ac w' ⟨k, v, hk, rfl, hf, hs⟩
  refine D.use ?_ hf hs
  clear hf hs ac w'
  have hcl : ((l.take k).map (·.Fact)).length ≤ k := by rw [List.length_map, List.length_take]; omega
  refine Cq (Sr (P2 Y Y (q1 Y (Dl s_42 Y Y (rd_sl h_l)) (Pe Y (Dh ([_]) Y (Ci _ Y (fun h3 => ?_) (fun h3 => ?_)))))))
  ·have pr3 := odT h3
   refine Sk (Cq (Cb (Cr (P3 Y Y Y ?_))))
   obtain ⟨s0, s0h⟩ := sL (l := l) (i := k) (by omega)
   have hle := sumC_mem (c := szStamp) (List.mem_of_getElem? s0h)
   have hle2 : szStamp s0 = szFa s0.Fact := rfl
   obtain ⟨es4, at5, hr6⟩ := rd_elem (n := 3) rfl h_l s0h
   obtain ⟨u7, rfl, hu8⟩ := open_Stamp hr6
   have hm9 := rd_max hu8
   have hb10 := sub_Stamp_Fact hr6
   refine q1 Y (D_ix (l := l) (j := k) s_42 Y Y Y (fun w' hs => (rA hs h_l)) Y (lS s0h)) (q1 Y (D_fa f_100_0 Y Y) (q1 Y (lra a_70 Y Y (at_sub (f := 0) (n := 2) at5 Y)) (li Y (crs Y b_123 Y Y Y Y (fun w' hs => (spec_l2Copy (rA hs hb10) (by first | assumption | omega | (unfold szm at *; split at * <;> omega)))) fun cs11 => ?_))))
   refine Dp (fun w' hs => shape_Fact (rO (k := 0) hs Y)) ?_
   rintro ⟨v12, rfl, ho13⟩
   refine li Y (D_bs s_31 y_70 Y (by decide) (by decide) Y Y Y Y Y Y fun g14 => ?_)
   refine D_pkO [2, 1, 0] Y (li Y (D_ap s_31 y_70 Y (by decide) Y Y Y Y Y Y (by first | omega | (simp; omega)) (by first | omega | (simp; omega)) fun v15 => ?_))
   refine p1 Y (De (Xb (Xt (Dh ([ov [v15] (((l.take k).map (·.Fact)) ++ [s0.Fact] : (List Fact))]) Y (Cr (p1 Y (q1 Y (D_add Y Y Y (r := ((k + 1 : Nat) : Int)) (by omega) (by omega)) (Pe Y (D_eq 0 Y (show (((l.take k).map (·.Fact)) ++ [s0.Fact] : (List Fact)) = (l.take (k + 1)).map (·.Fact) from by rw [take_snoc s0h, List.map_append]; rfl) (fun ac w' hf hs => ⟨_, ?_, k + 1, v15, ?_, Y, hf.wk Y, hs⟩))))))))))
   ·omega
   ·first | assumption | omega | simp
  ·have pr3 := odF h3
   refine Cx (Xx (Xx (Xe (Xt (Sr (P2 Y Y (Dx (Ct (R_1 Y Y fun w' hs => res_of (k := 0) hs Y ?_)))))))))
   show (l.take k).map (·.Fact) = l.map (·.Fact)
   rw [List.take_of_length_le (by omega)]
theorem impl_IsMemory {w : World} {v_l : Value} {l : (List Stamp)} (h_l : Gd.rd w [v_l] l) (hn : szL szStamp l ≤ 1048576) (htb : Tb w) : Calls Tryz.prog 52 [v_l].toArray w (Val w (.bool (isMemB l))) := by
 have hm1 := rd_max h_l
 have hn0 := hn
 unfold szL at hn
 refine enter 34 Tryz.func52 Y Y Y (Sr (Pe Y (Sr (li Y (D_mkmap Y Y Y fun g2 => ?_)))))
 refine Pe Y (Dh ([ov [(.map (some g2))] ((⟨[]⟩ : ISet) : ISet)]) Y (Cq (Sr (p1 Y (q1 Y (Dl s_42 Y Y (rd_sl h_l)) (Pe Y (Cb (Cl (fun m_ ac w' => ∃ (k : Nat), (k ≤ l.length) ∧ (∀ i, i < k → timeAt l i = true) ∧ m_ = l.length - k ∧ Fits ac 34 [(0, v_l), (3, (.map (some g2))), (7, v_l), (8, (nv l.length)), (9, (nv k))] ∧ St w ([ov [(.map (some g2))] (seenT l k : ISet)]) w') ?_ ?_))))))))
 ·refine D_eq 0 Y (show ((⟨[]⟩ : ISet) : ISet) = seenT l 0 from by rfl) (fun ac w' hf hs => ⟨_, 0, ?_, ?_, Y, hf.wk Y, hs⟩)
  ·first | assumption | omega | simp
  ·intro i hi; omega
 ·rintro m_ ac w' ⟨k, hk, hi, rfl, hf, hs⟩
  refine D.use ?_ hf hs
  clear hf hs ac w'
  refine Sr (Pe Y (Dh ([_]) Y (Cq (Ci _ Y (fun h3 => ?_) (fun h3 => ?_)))))
  ·have pr3 := odT h3
   refine Sk (Cq (Cb (Sr ?_)))
   obtain ⟨s0, s0h⟩ := sL (l := l) (i := k) (by omega)
   obtain ⟨es4, at5, hr6⟩ := rd_elem (n := 3) rfl h_l s0h
   obtain ⟨u7, rfl, hu8⟩ := open_Stamp hr6
   have hm9 := rd_max hu8
   have hb10 := sub_Stamp_Fact hr6
   refine q1 Y (D_ix (l := l) (j := k) s_42 Y Y Y (fun w' hs => (rA hs h_l)) Y (lS s0h)) (q1 Y (lra a_100 Y Y at5) (li Y (D_alloc y_100 Y Y Y Y fun g11 => ?_)))
   refine li Y (D_stb (vs := [(.string s0.Fact.Rel), u7, (iv s0.Time)]) (cs' := [(.string s0.Fact.Rel), u7, (iv s0.Time)]) 0 z_100 Y Y Y Y Y Y (ocons Y (ocons (one_rd hu8) (ocons Y onil))) (by simp) Y ?_)
   refine Dx (Dh ([bx g11 [(.string s0.Fact.Rel), u7, (iv s0.Time)], _]) Y (Cq (Sr (q1 Y (Db f_100_1 Y Y (q := 2) Y) (q1 Y (lb 0 o_3 Y Y Y Y) (P2 Y Y (gs 16 Y Y (fun h12 => ?_) (fun h12 => ?_))))))))
   ·have pr12 := odT h12
    refine n1 Y (n1 Y (n1 Y (P2 Y Y (n1 Y (n1 Y (n1 Y (n1 Y (Pe Y (D_wk [0, 3, 5, 7, 8, 9, 26] Y (C_t Y (Sr (Pe Y (Ct (Xr (Xq (Xr (Xr (Xq ?_))))))))))))))))))
    refine Xr (Rb Y Y ?_)
    first | exact mem_n (k := k) (lS s0h) (timeAt_f1 s0h (by first | assumption | (unfold inR; simp; omega))) | exact mem_n (k := k) (lS s0h) (timeAt_f2 s0h (by assumption)) | exact mem_n (k := k) (lS s0h) (timeAt_f3 s0h q0h (by omega) (by assumption)) | exact mem_y (fun i h => hi i (by omega))
   ·have pr12 := odF h12
    refine q1 Y (Db f_100_1 Y Y (q := 2) Y) (q1 Y (lb 0 o_3 Y Y Y Y) (P3 Y Y Y (gs 21 Y Y (fun h13 => ?_) (fun h13 => ?_))))
    ·have pr13 := odT h13
     refine n1 Y (n1 Y (n1 Y (n1 Y (Pe Y (D_wk [0, 3, 5, 7, 8, 9, 26] Y (C_t Y (Sr (Pe Y (Ct (Xr (Xq (Xr (Xr (Xq (Xr (Rb Y Y ?_))))))))))))))))
     first | exact mem_n (k := k) (lS s0h) (timeAt_f1 s0h (by first | assumption | (unfold inR; simp; omega))) | exact mem_n (k := k) (lS s0h) (timeAt_f2 s0h (by assumption)) | exact mem_n (k := k) (lS s0h) (timeAt_f3 s0h q0h (by omega) (by assumption)) | exact mem_y (fun i h => hi i (by omega))
    ·have pr13 := odF h13
     refine p1 Y (q1 Y (Db f_100_1 Y Y (q := 2) Y) (q1 Y (lb 0 o_3 Y Y Y Y) (q1 Y (D_lookup 1 um_153 ui_3 y_4 Y Y Y Y) (Pe Y (D_wk [0, 3, 5, 7, 8, 9, 26] Y (Ci _ Y (fun h14 => ?_) (fun h14 => ?_)))))))
     ·refine Sr (Pe Y (Ct (Xr (Xq (Xr (Xr (Xq (Xr (Rb Y Y ?_)))))))))
      first | exact mem_n (k := k) (lS s0h) (timeAt_f1 s0h (by first | assumption | (unfold inR; simp; omega))) | exact mem_n (k := k) (lS s0h) (timeAt_f2 s0h (by assumption)) | exact mem_n (k := k) (lS s0h) (timeAt_f3 s0h q0h (by omega) (by assumption)) | exact mem_y (fun i h => hi i (by omega))
     ·refine Sk (Cr (p1 Y (q1 Y (Db f_100_1 Y Y (q := 2) Y) (q1 Y (lb 0 o_3 Y Y Y Y) (li Y (D_mapup 1 um_153 ui_3 Y Y Y Y Y Y (by assumption) ?_))))))
      refine De (Xb (Xt (Dh ([_, ov [(.map (some g2))] (ISet.add (seenT l k) s0.Time : ISet)]) Y (Cr (q1 Y (D_add Y Y Y (r := ((k + 1 : Nat) : Int)) (by omega) (by omega)) (Pe Y (D_eq 1 Y (show (ISet.add (seenT l k) s0.Time : ISet) = seenT l (k + 1) from by exact seenT_step s0h) (fun ac w' hf hs => ⟨_, ?_, k + 1, ?_, ?_, Y, hf.wk Y, hs.pk [1] Y Y⟩))))))))
      ·omega
      ·first | assumption | omega | simp
      ·refine forall_step hi ?_; exact timeAt_t s0h (by unfold inR; simp; omega) (by assumption)
  ·have pr3 := odF h3
   refine Cx (Xx (Xx (Xe (Xt (Sr (p1 Y (li Y (crl b_111 Y Y Y Y (fun w' hs => (impl_FactsIn (rA hs h_l) hn0)) fun v15 => ?_))))))))
   refine li Y (cv b_110 Y Y Y Y (fun w' hs => (impl_AreFacts (rO (k := 0) hs Y) (Tb.ext htb hs.bel))) ?_)
   refine Pe Y (Ct (Rb Y Y ?_))
   show ((areFactsB (l.map (·.Fact))) : Bool) = _
   first | exact mem_n (k := k) (lS s0h) (timeAt_f1 s0h (by first | assumption | (unfold inR; simp; omega))) | exact mem_n (k := k) (lS s0h) (timeAt_f2 s0h (by assumption)) | exact mem_n (k := k) (lS s0h) (timeAt_f3 s0h q0h (by omega) (by assumption)) | exact mem_y (fun i h => hi i (by omega))
theorem spec_IsMemory {w : World} {v_l : Value} {l : (List Stamp)} (h_l : Gd.rd w [v_l] l) (hn : szL szStamp l ≤ 1048576) (ho : okL okStamp l) : Calls Tryz.prog 43 [v_l].toArray w (Val w (.bool (isMemB l))) := by
 have hm1 := rd_max h_l
 have hn0 := hn
 unfold szL at hn
 refine enter 37 Tryz.func43 Y Y Y (Sr (Pe Y (Cq (Sr (Pe Y (Cb (Cl (fun m_ ac w' => ∃ (k : Nat), (k ≤ l.length) ∧ (∀ i, i < k → timeAt l i = true) ∧ m_ = l.length - k ∧ Fits ac 37 [(0, v_l), (3, (nv k))] ∧ St w ([]) w') ?_ ?_)))))))
 ·refine fun ac w' hf hs => ⟨_, 0, ?_, ?_, Y, hf.wk Y, hs⟩
  ·first | assumption | omega | simp
  ·intro i hi; omega
 ·rintro m_ ac w' ⟨k, hk, hi, rfl, hf, hs⟩
  refine D.use ?_ hf hs
  clear hf hs ac w'
  refine Cq (Sr (P2 Y Y (q1 Y (Dl s_42 Y Y (rd_sl h_l)) (Pe Y (Ci _ Y (fun h2 => ?_) (fun h2 => ?_))))))
  ·have pr2 := odT h2
   refine Sk (Cq (Cb (Cq (Sr (P2 Y Y ?_)))))
   obtain ⟨s0, s0h⟩ := sL (l := l) (i := k) (by omega)
   obtain ⟨es3, at4, hr5⟩ := rd_elem (n := 3) rfl h_l s0h
   obtain ⟨u6, rfl, hu7⟩ := open_Stamp hr5
   have hm8 := rd_max hu7
   have hb9 := sub_Stamp_Fact hr5
   refine q1 Y (D_ix (l := l) (j := k) s_42 Y Y Y (fun w' hs => (rA hs h_l)) Y (lS s0h)) (q1 Y (D_fa f_100_1 Y Y) (q1 Y (lr o_3 Y Y at4 Y) (li Y (cv b_99 Y Y Y Y (fun w' hs => spec_l1In) ?_))))
   refine Pe Y (Ci _ Y (fun h10 => ?_) (fun h10 => ?_))
   ·have h10n := not_t h10
    refine Sr (Pe Y (Ct (Xr (Xq (Xr (Xr (Xq (Xr (Rb Y Y ?_)))))))))
    first | exact mem_n (k := k) (lS s0h) (timeAt_f1 s0h (by first | assumption | (unfold inR; simp; omega))) | exact mem_n (k := k) (lS s0h) (timeAt_f2 s0h (by assumption)) | exact mem_n (k := k) (lS s0h) (timeAt_f3 s0h q0h (by omega) (by assumption)) | exact mem_y (fun i h => hi i (by omega))
   ·have h10n := not_f h10
    refine Sk (Sr (Pe Y (Cb (Cl (fun m_ ac w' => ∃ (j : Nat), (j ≤ k) ∧ (∀ i, i < j → ∀ q, l[i]? = some q → q.Time ≠ s0.Time) ∧ m_ = k - j ∧ Fits ac 37 [(0, v_l), (3, (nv k)), (4, (nv j))] ∧ St w ([]) w') ?_ ?_))))
    ·refine fun ac w' hf hs => ⟨_, 0, ?_, ?_, Y, hf.wk Y, hs⟩
     ·first | assumption | omega | simp
     ·intro i hi; omega
    ·rintro m_ ac w' ⟨j, hjk, hj, rfl, hf, hs⟩
     refine D.use ?_ hf hs
     clear hf hs ac w'
     refine Cq (Sr (P3 Y Y Y (Dx (Ci _ Y (fun h11 => ?_) (fun h11 => ?_)))))
     ·have pr11 := odT h11
      refine Sk (Cq (Cb (Cq (C_draw mixed [] (by kernel_rfl) (Tk 0 Y (by kernel_rfl) Y (rp Y) (Tk 1 Y (by kernel_rfl) Y (rp Y) ?_))))))
      obtain ⟨q0, q0h⟩ := sL (l := l) (i := j) (by omega)
      obtain ⟨es12, at13, hr14⟩ := rd_elem (n := 3) rfl h_l q0h
      obtain ⟨u15, rfl, hu16⟩ := open_Stamp hr14
      have hm17 := rd_max hu16
      have hb18 := sub_Stamp_Fact hr14
      refine Tk 2 Y (by kernel_rfl) Y (D_ix (l := l) (j := j) s_42 Y Y Y (fun w' hs => (rA hs h_l)) Y (lS q0h)) (Tk 3 Y (by kernel_rfl) Y (D_fa f_100_1 Y Y) (Tk 4 Y (by kernel_rfl) Y (lr o_3 Y Y at13 Y) (Tk 5 Y (by kernel_rfl) Y (rp Y) (Tk 6 Y (by kernel_rfl) Y (rp Y) (Tk 7 Y (by kernel_rfl) Y (D_ix (l := l) (j := k) s_42 Y Y Y (fun w' hs => (rA hs h_l)) Y (lS s0h)) (Tk 8 Y (by kernel_rfl) Y (D_fa f_100_1 Y Y) (Tk 9 Y (by kernel_rfl) Y (lr o_3 Y Y at4 Y) (Tk 10 Y (by kernel_rfl) Y (rp Y) (tE (by kernel_rfl) (Xt (Ci _ Y (fun h19 => ?_) (fun h19 => ?_))))))))))))
      ·have pr19 := eq_of_beq h19
       refine Sr (Pe Y (Ct (Xq (Xr (Xr (Xq (Xq (Xr (Xr (Xq (Xr (Rb Y Y ?_))))))))))))
       first | exact mem_n (k := k) (lS s0h) (timeAt_f1 s0h (by first | assumption | (unfold inR; simp; omega))) | exact mem_n (k := k) (lS s0h) (timeAt_f2 s0h (by assumption)) | exact mem_n (k := k) (lS s0h) (timeAt_f3 s0h q0h (by omega) (by assumption)) | exact mem_y (fun i h => hi i (by omega))
      ·have pr19 := ne_of_beq_false h19
       refine Ck (Xb (Xt (Cr (p1 Y (q1 Y (D_add Y Y Y (r := ((j + 1 : Nat) : Int)) (by omega) (by omega)) (Pe Y (fun ac w' hf hs => ⟨_, ?_, j + 1, ?_, ?_, Y, hf.wk Y, hs⟩)))))))
       ·omega
       ·first | assumption | omega | simp
       ·refine forall_step hj ?_; intro y hy; obtain rfl : y = q0 := Option.some.inj (hy.symm.trans q0h); omega
     ·have pr11 := odF h11
      refine Cx (Xx (Xx (Xe (Xb (Xt (Cr (p1 Y (q1 Y (D_add Y Y Y (r := ((k + 1 : Nat) : Int)) (by omega) (by omega)) (Pe Y (fun ac w' hf hs => ⟨_, ?_, k + 1, ?_, ?_, Y, hf.wk Y, hs⟩))))))))))
      ·omega
      ·first | assumption | omega | simp
      ·refine forall_step hi ?_; exact timeAt_s s0h (by assumption) (fun i h => hj i (by omega))
  ·have pr2 := odF h2
   refine Cx (Xx (Xx (Xe (Xt (Sr (p1 Y (li Y (crl b_101 Y Y Y Y (fun w' hs => (spec_FactsIn (rA hs h_l) hn0)) fun v20 => ?_))))))))
   refine li Y (cv b_100 Y Y Y Y (fun w' hs => (spec_AreFacts (rO (k := 0) hs Y) (okF_map ho))) ?_)
   refine Pe Y (Ct (Rb Y Y ?_))
   show ((areFactsB (l.map (·.Fact))) : Bool) = _
   first | exact mem_n (k := k) (lS s0h) (timeAt_f1 s0h (by first | assumption | (unfold inR; simp; omega))) | exact mem_n (k := k) (lS s0h) (timeAt_f2 s0h (by assumption)) | exact mem_n (k := k) (lS s0h) (timeAt_f3 s0h q0h (by omega) (by assumption)) | exact mem_y (fun i h => hi i (by omega))
theorem impl_sameInts {w : World} {v_a : Value} {a : (List Int)} {v_b : Value} {b : (List Int)} (h_a : Gd.rd w [v_a] a) (h_b : Gd.rd w [v_b] b) : Calls Tryz.prog 185 [v_a, v_b].toArray w (Val w (.bool (decide (a = b)))) := by
 have hm1 := rd_max h_a
 have hm2 := rd_max h_b
 refine enter 26 Tryz.func185 Y Y Y (Sr (Pe Y (Cq (Sr (p1 Y (q1 Y (Dl s_35 Y Y (rd_sl h_a)) (p1 Y (q1 Y (Dl s_35 Y Y (rd_sl h_b)) (Pe Y (Ci _ Y (fun h3 => ?_) (fun h3 => ?_)))))))))))
 ·have pr3 := bne_iff_ne.1 h3
  refine Sr (Pe Y (Ct (Xr (Rb Y Y ?_))))
  simp; intro e; subst e; simp_all
 ·have pr3 := eq_of_bne_f h3
  refine Sk (Cq (Sr (p1 Y (q1 Y (Dl s_35 Y Y (rd_sl h_a)) (Pe Y (Cb (Cl (fun m_ ac w' => ∃ (k : Nat), (k ≤ a.length) ∧ (∀ i, i < k → a[i]? = b[i]?) ∧ m_ = a.length - k ∧ Fits ac 26 [(0, v_a), (1, v_b), (12, (nv a.length)), (13, (nv k))] ∧ St w ([]) w') ?_ ?_)))))))
  ·refine fun ac w' hf hs => ⟨_, 0, ?_, ?_, Y, hf.wk Y, hs⟩
   ·first | assumption | omega | simp
   ·intro i hi; omega
  ·rintro m_ ac w' ⟨k, hk, hi, rfl, hf, hs⟩
   refine D.use ?_ hf hs
   clear hf hs ac w'
   refine Sr (Pe Y (Cq (Ci _ Y (fun h4 => ?_) (fun h4 => ?_))))
   ·have pr4 := odT h4
    refine Sk (Cq (Cb (Sr (P2 Y Y (Dx (Cq (C_draw mixed [] (by kernel_rfl) (Tk 0 Y (by kernel_rfl) Y (rp Y) (Tk 1 Y (by kernel_rfl) Y (rp Y) ?_)))))))))
    obtain ⟨x5, hx6⟩ := sL (l := a) (i := k) (by omega)
    obtain ⟨es7, at8, hr9⟩ := rd_elem (n := 1) rfl h_a hx6
    obtain rfl : es7 = [.int .i64 x5] := hr9
    refine Tk 2 Y (by kernel_rfl) Y (D_ix (l := a) (j := k) s_35 Y Y Y (fun w' hs => (rA hs h_a)) Y (lS hx6)) (Tk 3 Y (by kernel_rfl) Y (lr0 o_3 Y Y at8 Y) (Tk 4 Y (by kernel_rfl) Y (rp Y) (Tk 5 Y (by kernel_rfl) Y (rp Y) ?_)))
    obtain ⟨x10, hx11⟩ := sL (l := b) (i := k) (by omega)
    obtain ⟨es12, at13, hr14⟩ := rd_elem (n := 1) rfl h_b hx11
    obtain rfl : es12 = [.int .i64 x10] := hr14
    refine Tk 6 Y (by kernel_rfl) Y (D_ix (l := b) (j := k) s_35 Y Y Y (fun w' hs => (rA hs h_b)) Y (lS hx11)) (Tk 7 Y (by kernel_rfl) Y (lr0 o_3 Y Y at13 Y) (Tk 8 Y (by kernel_rfl) Y (rp Y) (tE (by kernel_rfl) (Xt (Ci _ Y (fun h15 => ?_) (fun h15 => ?_))))))
    ·have pr15 := bne_iff_ne.1 h15
     refine Sr (Pe Y (Ct (Xq (Xr (Xr (Xq (Xr (Rb Y Y ?_))))))))
     simp; intro e; subst e; simp_all
    ·have pr15 := eq_of_bne_f h15
     refine Ck (Xb (Xt (Cr (q1 Y (D_add Y Y Y (r := ((k + 1 : Nat) : Int)) (by omega) (by omega)) (Pe Y (fun ac w' hf hs => ⟨_, ?_, k + 1, ?_, ?_, Y, hf.wk Y, hs⟩))))))
     ·omega
     ·first | assumption | omega | simp
     ·exact idx_step hi (by assumption) (by assumption) (by simp_all)
   ·have pr4 := odF h4
    refine Cx (Xx (Xx (Xe (Xt (Sr (Pe Y (Ct (Rb Y Y ?_))))))))
    simp; exact eq_of_idx (by omega) (fun i h => hi i (by omega))
theorem spec_l9SameInts {w : World} {v_a : Value} {a : (List Int)} {v_b : Value} {b : (List Int)} (h_a : Gd.rd w [v_a] a) (h_b : Gd.rd w [v_b] b) : Calls Tryz.prog 180 [v_a, v_b].toArray w (Val w (.bool (decide (a = b)))) := by
 have hm1 := rd_max h_a
 have hm2 := rd_max h_b
 refine enter 26 Tryz.func180 Y Y Y (Sr (Pe Y (Cq (Sr (p1 Y (q1 Y (Dl s_35 Y Y (rd_sl h_a)) (p1 Y (q1 Y (Dl s_35 Y Y (rd_sl h_b)) (Pe Y (Ci _ Y (fun h3 => ?_) (fun h3 => ?_)))))))))))
 ·have pr3 := bne_iff_ne.1 h3
  refine Sr (Pe Y (Ct (Xr (Rb Y Y ?_))))
  simp; intro e; subst e; simp_all
 ·have pr3 := eq_of_bne_f h3
  refine Sk (Cq (Sr (Pe Y (Cb (Cl (fun m_ ac w' => ∃ (k : Nat), (k ≤ a.length) ∧ (∀ i, i < k → a[i]? = b[i]?) ∧ m_ = a.length - k ∧ Fits ac 26 [(0, v_a), (1, v_b), (5, (nv k))] ∧ St w ([]) w') ?_ ?_)))))
  ·refine fun ac w' hf hs => ⟨_, 0, ?_, ?_, Y, hf.wk Y, hs⟩
   ·first | assumption | omega | simp
   ·intro i hi; omega
  ·rintro m_ ac w' ⟨k, hk, hi, rfl, hf, hs⟩
   refine D.use ?_ hf hs
   clear hf hs ac w'
   refine Cq (Sr (P2 Y Y (q1 Y (Dl s_35 Y Y (rd_sl h_a)) (Pe Y (Ci _ Y (fun h4 => ?_) (fun h4 => ?_))))))
   ·have pr4 := odT h4
    refine Sk (Cq (Cb (Cq (C_draw mixed [] (by kernel_rfl) (Tk 0 Y (by kernel_rfl) Y (rp Y) (Tk 1 Y (by kernel_rfl) Y (rp Y) ?_))))))
    obtain ⟨x5, hx6⟩ := sL (l := a) (i := k) (by omega)
    obtain ⟨es7, at8, hr9⟩ := rd_elem (n := 1) rfl h_a hx6
    obtain rfl : es7 = [.int .i64 x5] := hr9
    refine Tk 2 Y (by kernel_rfl) Y (D_ix (l := a) (j := k) s_35 Y Y Y (fun w' hs => (rA hs h_a)) Y (lS hx6)) (Tk 3 Y (by kernel_rfl) Y (lr0 o_3 Y Y at8 Y) (Tk 4 Y (by kernel_rfl) Y (rp Y) (Tk 5 Y (by kernel_rfl) Y (rp Y) ?_)))
    obtain ⟨x10, hx11⟩ := sL (l := b) (i := k) (by omega)
    obtain ⟨es12, at13, hr14⟩ := rd_elem (n := 1) rfl h_b hx11
    obtain rfl : es12 = [.int .i64 x10] := hr14
    refine Tk 6 Y (by kernel_rfl) Y (D_ix (l := b) (j := k) s_35 Y Y Y (fun w' hs => (rA hs h_b)) Y (lS hx11)) (Tk 7 Y (by kernel_rfl) Y (lr0 o_3 Y Y at13 Y) (Tk 8 Y (by kernel_rfl) Y (rp Y) (tE (by kernel_rfl) (Xt (Ci _ Y (fun h15 => ?_) (fun h15 => ?_))))))
    ·have pr15 := bne_iff_ne.1 h15
     refine Sr (Pe Y (Ct (Xq (Xr (Xr (Xq (Xr (Rb Y Y ?_))))))))
     simp; intro e; subst e; simp_all
    ·have pr15 := eq_of_bne_f h15
     refine Ck (Xb (Xt (Cr (p1 Y (q1 Y (D_add Y Y Y (r := ((k + 1 : Nat) : Int)) (by omega) (by omega)) (Pe Y (fun ac w' hf hs => ⟨_, ?_, k + 1, ?_, ?_, Y, hf.wk Y, hs⟩)))))))
     ·omega
     ·first | assumption | omega | simp
     ·exact idx_step hi (by assumption) (by assumption) (by simp_all)
   ·have pr4 := odF h4
    refine Cx (Xx (Xx (Xe (Xt (Sr (Pe Y (Ct (Rb Y Y ?_))))))))
    simp; exact eq_of_idx (by omega) (fun i h => hi i (by omega))
theorem impl_sameFiring {w : World} {c_a : List Value} {a : Firing} {c_b : List Value} {b : Firing} (h_a : Gd.rd w c_a a) (h_b : Gd.rd w c_b b) : Calls Tryz.prog 136 [(.agg c_a.toArray), (.agg c_b.toArray)].toArray w (Val w (.bool (decide (a = b)))) := by
 obtain ⟨u1, rfl, hu2⟩ := open_Firing h_a
 have hm3 := rd_max hu2
 obtain ⟨u4, rfl, hu5⟩ := open_Firing h_b
 have hm6 := rd_max hu5
 refine enter 17 Tryz.func136 Y Y Y (Sr (li Y (D_box Y Y Y Y Y fun g7 => ?_)))
 refine li Y (D_box Y Y Y Y Y fun g8 => ?_)
 refine Pe Y (Dh ([bx g8 [(.string b.Rule), u4], bx g7 [(.string a.Rule), u1]]) Y (Sr (q1 Y (Db f_168_0 Y Y (q := 0) Y) (q1 Y (lb 1 o_9 Y Y Y Y) (q1 Y (Db f_168_0 Y Y (q := 0) Y) (q1 Y (lb 0 o_9 Y Y Y Y) (q1 Y (D_eqS Y Y Y) (p1 Y (gs 10 Y Y (fun h9 => ?_) (fun h9 => ?_))))))))))
 ·have pr9 := odT h9
  refine q1 Y (Db f_168_1 Y Y (q := 1) Y) (q1 Y (lb 1 o_35 Y Y Y Y) (q1 Y (Db f_168_1 Y Y (q := 1) Y) (q1 Y (lb 0 o_35 Y Y Y Y) (li Y (cv b_185 Y Y Y Y (fun w' hs => (impl_sameInts (rA hs hu2) (rA hs hu5))) ?_)))))
  refine P2 Y Y (Dx (Ct (Rb Y Y ?_)))
  show ((decide (a.Times = b.Times)) : Bool) = _
  cases a; cases b; simp_all
 ·have pr9 := odF h9
  refine n1 Y (n1 Y (n1 Y (n1 Y (n1 Y (P2 Y Y (Dx (Ct (Rb Y Y ?_))))))))
  cases a; cases b; simp_all
end Go.Sy.Num2
