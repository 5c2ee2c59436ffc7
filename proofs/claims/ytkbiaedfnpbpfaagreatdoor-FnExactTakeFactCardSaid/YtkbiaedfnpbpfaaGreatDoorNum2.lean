/-
  Contracts of functions of the program, walked (printed by a program of ours).
  Conditions: those that each theorem states.
-/
import Derived.Test.YtkbiaedfnpbpfaaGreatDoorNum1
import Derived.Test.YtkbiaedfnpbpfaaGreatDoorMem2
set_option linter.unusedVariables false
set_option maxRecDepth 20000
namespace Go.Sy.Num2
open Go Go.RowKit Go.Proofs Go.Sy
theorem mixed : Tryz.prog.follows .mixedOrders = true := by kernel_rfl
theorem s_31 : sliceTy Tryz.prog 31 = some (70, 2, 40) := by kernel_rfl
theorem a_70 : aggTy Tryz.prog 70 = some 2 := by kernel_rfl
theorem y_70 : zeroTy Tryz.prog 70 = some (.agg #[(.string ⟨#[]⟩), (.slice none 0 0)]) := by kernel_rfl
theorem z_70 : sizeTy Tryz.prog 70 = some 2 := by kernel_rfl
theorem b_93 : hasBody Tryz.prog 93 = true := by kernel_rfl
theorem b_149 : hasBody Tryz.prog 149 = true := by kernel_rfl
theorem b_91 : hasBody Tryz.prog 91 = true := by kernel_rfl
theorem b_146 : hasBody Tryz.prog 146 = true := by kernel_rfl
theorem f_70_0 : fieldOff Tryz.prog 70 0 = some 0 := by kernel_rfl
theorem o_9 : oneTy Tryz.prog 9 = true := by kernel_rfl
theorem f_70_1 : fieldOff Tryz.prog 70 1 = some 1 := by kernel_rfl
theorem o_58 : oneTy Tryz.prog 58 = true := by kernel_rfl
theorem b_184 : hasBody Tryz.prog 184 = true := by kernel_rfl
theorem pl_70 : placeTy Tryz.prog 70 = some ([(0, 1), (1, 1)], [(.string ⟨#[]⟩), (.slice none 0 0)]) := by kernel_rfl
theorem b_178 : hasBody Tryz.prog 178 = true := by kernel_rfl
theorem s_42 : sliceTy Tryz.prog 42 = some (100, 3, 48) := by kernel_rfl
theorem a_100 : aggTy Tryz.prog 100 = some 3 := by kernel_rfl
theorem y_100 : zeroTy Tryz.prog 100 = some (.agg #[(.string ⟨#[]⟩), (.slice none 0 0), (.int .i64 0)]) := by kernel_rfl
theorem z_100 : sizeTy Tryz.prog 100 = some 3 := by kernel_rfl
theorem f_100_0 : fieldOff Tryz.prog 100 0 = some 0 := by kernel_rfl
theorem b_132 : hasBody Tryz.prog 132 = true := by kernel_rfl
theorem b_123 : hasBody Tryz.prog 123 = true := by kernel_rfl
theorem f_100_1 : fieldOff Tryz.prog 100 1 = some 2 := by kernel_rfl
theorem o_3 : oneTy Tryz.prog 3 = true := by kernel_rfl
theorem um_153 : Tryz.prog.underlying 153 = some (.map 3 4) := by kernel_rfl
theorem ui_3 : Tryz.prog.underlying 3 = some (.int .i64) := by kernel_rfl
theorem y_4 : zeroTy Tryz.prog 4 = some (.bool false) := by kernel_rfl
theorem b_111 : hasBody Tryz.prog 111 = true := by kernel_rfl
theorem b_110 : hasBody Tryz.prog 110 = true := by kernel_rfl
theorem b_99 : hasBody Tryz.prog 99 = true := by kernel_rfl
theorem b_101 : hasBody Tryz.prog 101 = true := by kernel_rfl
theorem b_100 : hasBody Tryz.prog 100 = true := by kernel_rfl
theorem s_35 : sliceTy Tryz.prog 35 = some (3, 1, 8) := by kernel_rfl
theorem f_168_0 : fieldOff Tryz.prog 168 0 = some 0 := by kernel_rfl
theorem f_168_1 : fieldOff Tryz.prog 168 1 = some 1 := by kernel_rfl
theorem o_35 : oneTy Tryz.prog 35 = true := by kernel_rfl
theorem b_185 : hasBody Tryz.prog 185 = true := by kernel_rfl
open Go.Sy.Bel1 Go.Sy.Ev1 Go.Sy.Ev2 Go.Sy.Fmt1 Go.Sy.Eng1 Go.Sy.Eng2 Go.Sy.Eng3 Go.Sy.Num1
theorem impl_AreFacts (w : World) (v_l : Value) (l : (List Fact)) (h_l : Gd.rd w [v_l] l) (htb : Tb w) : Calls Tryz.prog 110 [v_l].toArray w (Val w (.bool (areFactsB l))) := by
 have hm1 := rd_max h_l
 refine enter 33 Tryz.func110 rfl rfl rfl (Sr (Pe rfl (Cq (Sr (p1 rfl (q1 rfl (Dl s_31 rfl rfl (rd_sl h_l)) (Pe rfl (Ci _ rfl (fun h2 => ?_) (fun h2 => ?_)))))))))
 ·have pr2 : (24 : Int) < ((l.length : Nat) : Int) := odT h2
  refine Sr (Pe rfl (Ct (Xr (Rb rfl rfl ?_))))
  first | exact af_n1 (by omega) | exact af_n2 (k := k) (by omega) (factAt_f1 f0h (by assumption)) | exact af_n2 (k := k) (by omega) (factAt_f2 f0h p0h (by omega) (by omega)) | exact af_y (by omega) (fun i h => hi i (by omega)) | exact af_z (fun i h => hi i (by omega))
 ·have pr2 : ¬ (24 : Int) < ((l.length : Nat) : Int) := odF h2
  refine Sk (Cq (Sr (p1 rfl (q1 rfl (Dl s_31 rfl rfl (rd_sl h_l)) (Pe rfl (Cb (Cl (fun m_ ac w' => ∃ (k : Nat), (k ≤ l.length) ∧ (∀ i, i < k → factAt l i = true) ∧ m_ = l.length - k ∧ Fits ac 33 [(0, v_l), (8, v_l), (9, (.int .i64 ((l.length : Nat) : Int))), (10, (.int .i64 ((k : Nat) : Int)))] ∧ St w ([]) w') ?_ ?_)))))))
  ·refine fun ac w' hf hs => ⟨_, 0, ?_, ?_, rfl, hf.weak ⟨rfl, rfl, rfl, rfl, trivial⟩, hs⟩
   ·first | assumption | omega | simp
   ·intro i hi; omega
  ·rintro m_ ac w' ⟨k, hk, hi, rfl, hf, hs⟩
   refine D.use ?_ hf hs
   clear hf hs ac w'
   refine Sr (Pe rfl (Cq (Ci _ rfl (fun h3 => ?_) (fun h3 => ?_))))
   ·have pr3 : (((k : Nat) : Int) : Int) < ((l.length : Nat) : Int) := odT h3
    refine Sk (Cq (Cb (Sr (p1 rfl ?_))))
    obtain ⟨f0, f0h⟩ := sL (l := l) (i := k) (by omega)
    obtain ⟨es4, at5, hr6⟩ := rd_elem (n := 2) rfl h_l f0h
    obtain ⟨u7, rfl, hu8⟩ := open_Fact hr6
    have hm9 := rd_max hu8
    refine q1 rfl (D_ix (l := l) (j := k) s_31 rfl rfl rfl (fun w' hs => (rA hs h_l)) rfl (lS f0h)) (q1 rfl (lra a_70 rfl rfl at5) (li rfl (D_alloc y_70 rfl rfl rfl rfl fun g10 => ?_)))
    refine p1 rfl (li rfl (D_stb (vs := [(.string f0.Rel), u7]) (cs' := [(.string f0.Rel), u7]) 0 z_70 rfl rfl rfl rfl rfl rfl (ocons rfl (ocons (one_rd hu8) onil)) (by simp) rfl ?_))
    refine Dx (Dh ([bx g10 [(.string f0.Rel), u7]]) rfl (Cq (C_draw mixed [1, 2, 3, 4, 5, 6, 13, 14, 15, 16] (by kernel_rfl) (Tk 0 rfl (by kernel_rfl) rfl (lbw 0 a_70 rfl rfl rfl) (ty 1 rfl (by kernel_rfl) rfl (cv b_93 rfl rfl rfl rfl (fun w' hs => (impl_IsFact w' [(.string f0.Rel), u7] f0 (rA hs hr6))) ?_))))))
    refine tZ rfl (ty 2 rfl (by kernel_rfl) rfl (sv rfl rfl (rp rfl) ?_))
    refine tZ rfl (ty 3 rfl (by kernel_rfl) rfl (sv rfl rfl (rp rfl) ?_))
    refine tZ rfl (gs 18 rfl rfl (fun h11 => ?_) (fun h11 => ?_))
    ·have h11n : (isFactB f0) = false := not_t h11
     refine tn 4 rfl (by kernel_rfl) (by kernel_rfl) (by kernel_rfl) rfl rfl rfl (fun _ hs => hs) (tn 5 rfl (by kernel_rfl) (by kernel_rfl) (by kernel_rfl) rfl rfl rfl (fun _ hs => hs) (tn 6 rfl (by kernel_rfl) (by kernel_rfl) (by kernel_rfl) rfl rfl rfl (fun _ hs => hs) (tn 7 rfl (by kernel_rfl) (by kernel_rfl) (by kernel_rfl) rfl rfl rfl (fun _ hs => hs) (tn 8 rfl (by kernel_rfl) (by kernel_rfl) (by kernel_rfl) rfl rfl rfl (fun _ hs => hs) (tn 9 rfl (by kernel_rfl) (by kernel_rfl) (by kernel_rfl) rfl rfl rfl (fun _ hs => hs) (tn 10 rfl (by kernel_rfl) (by kernel_rfl) (by kernel_rfl) rfl rfl rfl (fun _ hs => hs) (tn 11 rfl (by kernel_rfl) (by kernel_rfl) (by kernel_rfl) rfl rfl rfl (fun _ hs => hs) (tn 12 rfl (by kernel_rfl) (by kernel_rfl) (by kernel_rfl) rfl rfl rfl (fun _ hs => hs) (tn 13 rfl (by kernel_rfl) (by kernel_rfl) (by kernel_rfl) rfl rfl rfl (fun _ hs => hs) (tn 14 rfl (by kernel_rfl) (by kernel_rfl) (by kernel_rfl) rfl rfl rfl (fun _ hs => hs) (tn 15 rfl (by kernel_rfl) (by kernel_rfl) (by kernel_rfl) rfl rfl rfl (fun _ hs => hs) (ty 16 rfl (by kernel_rfl) rfl (sv rfl rfl (rp rfl) ?_)))))))))))))
     refine tZ rfl (tE (by kernel_rfl) (Xt (Dw [(0, v_l), (8, v_l), (9, (.int .i64 ((l.length : Nat) : Int))), (10, (.int .i64 ((k : Nat) : Int))), (31, (.bool true))] ⟨rfl, rfl, rfl, rfl, rfl, trivial⟩ (Ds (H' := []) [false] rfl (C_t rfl (Sr (Pe rfl (Ct (Xq (Xr (Xr (Xq (Xr (Rb rfl rfl ?_))))))))))))))
     first | exact af_n1 (by omega) | exact af_n2 (k := k) (by omega) (factAt_f1 f0h (by assumption)) | exact af_n2 (k := k) (by omega) (factAt_f2 f0h p0h (by omega) (by omega)) | exact af_y (by omega) (fun i h => hi i (by omega)) | exact af_z (fun i h => hi i (by omega))
    ·have h11n : (isFactB f0) = true := not_f h11
     refine ty 4 rfl (by kernel_rfl) rfl (sv rfl rfl (rp rfl) ?_)
     refine tZ rfl (ty 5 rfl (by kernel_rfl) rfl (sv rfl rfl (rp rfl) ?_))
     refine tZ rfl (ty 6 rfl (by kernel_rfl) rfl (sv rfl rfl (rp rfl) ?_))
     refine tZ rfl (gs 21 rfl rfl (fun h12 => ?_) (fun h12 => ?_))
     ·have pr12 : (0 : Int) < ((k : Nat) : Int) := odT h12
      refine Tk 7 rfl (by kernel_rfl) rfl (rp rfl) (Tk 8 rfl (by kernel_rfl) rfl (rp rfl) (Tk 9 rfl (by kernel_rfl) rfl (D_sub rfl rfl rfl (r := ((k - 1 : Nat) : Int)) (by omega) (by omega)) ?_))
      obtain ⟨p0, p0h⟩ := sL (l := l) (i := (k - 1)) (by omega)
      obtain ⟨es13, at14, hr15⟩ := rd_elem (n := 2) rfl h_l p0h
      obtain ⟨u17, rfl, hu18⟩ := open_Fact hr15
      have hm19 := rd_max hu18
      refine Tk 10 rfl (by kernel_rfl) rfl (D_ix (l := l) (j := (k - 1)) s_31 rfl rfl rfl (fun w' hs => (rA hs h_l)) rfl (lS p0h)) (Tk 11 rfl (by kernel_rfl) rfl (lra a_70 rfl rfl at14) (Tk 12 rfl (by kernel_rfl) rfl (lbw 0 a_70 rfl rfl rfl) (ty 13 rfl (by kernel_rfl) rfl (cv b_149 rfl rfl rfl rfl (fun w' hs => (impl_CompareFacts w' [(.string p0.Rel), u17] p0 [(.string f0.Rel), u7] f0 (rA hs hr15) (rA hs hr6) (Tb.ext htb hs.bel))) ?_))))
      refine tZ rfl (ty 14 rfl (by kernel_rfl) rfl (sv rfl rfl (rp rfl) ?_))
      refine tZ rfl (ty 15 rfl (by kernel_rfl) rfl (sv rfl rfl (rp rfl) ?_))
      refine tZ rfl (ty 16 rfl (by kernel_rfl) rfl (sv rfl rfl (rp rfl) ?_))
      refine tZ rfl (tE (by kernel_rfl) (Xt (Dw [(0, v_l), (8, v_l), (9, (.int .i64 ((l.length : Nat) : Int))), (10, (.int .i64 ((k : Nat) : Int))), (31, (.bool (decide ((0 : Int) ≤ (cmpF p0 f0)))))] ⟨rfl, rfl, rfl, rfl, rfl, trivial⟩ (Ds (H' := []) [false] rfl (Ci _ rfl (fun h20 => ?_) (fun h20 => ?_))))))
      ·have pr20 : (0 : Int) ≤ (cmpF p0 f0) := odT h20
       refine Sr (Pe rfl (Ct (Xq (Xr (Xr (Xq (Xr (Rb rfl rfl ?_))))))))
       first | exact af_n1 (by omega) | exact af_n2 (k := k) (by omega) (factAt_f1 f0h (by assumption)) | exact af_n2 (k := k) (by omega) (factAt_f2 f0h p0h (by omega) (by omega)) | exact af_y (by omega) (fun i h => hi i (by omega)) | exact af_z (fun i h => hi i (by omega))
      ·have pr20 : ¬ (0 : Int) ≤ (cmpF p0 f0) := odF h20
       refine Ck (Xb (Xt (Cr (q1 rfl (D_add rfl rfl rfl (r := ((k + 1 : Nat) : Int)) (by omega) (by omega)) (Pe rfl (fun ac w' hf hs => ⟨_, ?_, k + 1, ?_, ?_, rfl, hf.weak ⟨rfl, rfl, rfl, rfl, trivial⟩, hs⟩))))))
       ·omega
       ·first | assumption | omega | simp
       ·refine forall_step hi ?_; first | exact factAt_0 f0h (by assumption) (by omega) | exact factAt_s f0h p0h (by omega) (by assumption) (by omega)
     ·have pr12 : ¬ (0 : Int) < ((k : Nat) : Int) := odF h12
      refine tn 7 rfl (by kernel_rfl) (by kernel_rfl) (by kernel_rfl) rfl rfl rfl (fun _ hs => hs) (tn 8 rfl (by kernel_rfl) (by kernel_rfl) (by kernel_rfl) rfl rfl rfl (fun _ hs => hs) (tn 9 rfl (by kernel_rfl) (by kernel_rfl) (by kernel_rfl) rfl rfl rfl (fun _ hs => hs) (tn 10 rfl (by kernel_rfl) (by kernel_rfl) (by kernel_rfl) rfl rfl rfl (fun _ hs => hs) (tn 11 rfl (by kernel_rfl) (by kernel_rfl) (by kernel_rfl) rfl rfl rfl (fun _ hs => hs) (tn 12 rfl (by kernel_rfl) (by kernel_rfl) (by kernel_rfl) rfl rfl rfl (fun _ hs => hs) (tn 13 rfl (by kernel_rfl) (by kernel_rfl) (by kernel_rfl) rfl rfl rfl (fun _ hs => hs) (tn 14 rfl (by kernel_rfl) (by kernel_rfl) (by kernel_rfl) rfl rfl rfl (fun _ hs => hs) (ty 15 rfl (by kernel_rfl) rfl (sv rfl rfl (rp rfl) ?_)))))))))
      refine tZ rfl (ty 16 rfl (by kernel_rfl) rfl (sv rfl rfl (rp rfl) ?_))
      refine tZ rfl (tE (by kernel_rfl) (Xt (Dw [(0, v_l), (8, v_l), (9, (.int .i64 ((l.length : Nat) : Int))), (10, (.int .i64 ((k : Nat) : Int))), (31, (.bool false))] ⟨rfl, rfl, rfl, rfl, rfl, trivial⟩ (Ds (H' := []) [false] rfl (C_f rfl (Ck (Xb (Xt (Cr (q1 rfl (D_add rfl rfl rfl (r := ((k + 1 : Nat) : Int)) (by omega) (by omega)) (Pe rfl (fun ac w' hf hs => ⟨_, ?_, k + 1, ?_, ?_, rfl, hf.weak ⟨rfl, rfl, rfl, rfl, trivial⟩, hs⟩))))))))))))
      ·omega
      ·first | assumption | omega | simp
      ·refine forall_step hi ?_; first | exact factAt_0 f0h (by assumption) (by omega) | exact factAt_s f0h p0h (by omega) (by assumption) (by omega)
   ·have pr3 : ¬ (((k : Nat) : Int) : Int) < ((l.length : Nat) : Int) := odF h3
    refine Cx (Xx (Xx (Xe (Xt (Sr (Pe rfl (Ct (Rb rfl rfl ?_))))))))
    first | exact af_n1 (by omega) | exact af_n2 (k := k) (by omega) (factAt_f1 f0h (by assumption)) | exact af_n2 (k := k) (by omega) (factAt_f2 f0h p0h (by omega) (by omega)) | exact af_y (by omega) (fun i h => hi i (by omega)) | exact af_z (fun i h => hi i (by omega))
theorem spec_AreFacts (w : World) (v_l : Value) (l : (List Fact)) (h_l : Gd.rd w [v_l] l) (ho : okL okFa l) : Calls Tryz.prog 100 [v_l].toArray w (Val w (.bool (areFactsB l))) := by
 have hm1 := rd_max h_l
 refine enter 36 Tryz.func100 rfl rfl rfl (Sr (Pe rfl (Cq (Sr (Pe rfl (Cb (Cl (fun m_ ac w' => ∃ (k : Nat), (k ≤ l.length) ∧ (∀ i, i < k → factAt l i = true) ∧ m_ = l.length - k ∧ Fits ac 36 [(0, v_l), (3, (.int .i64 ((k : Nat) : Int)))] ∧ St w ([]) w') ?_ ?_)))))))
 ·refine fun ac w' hf hs => ⟨_, 0, ?_, ?_, rfl, hf.weak ⟨rfl, rfl, trivial⟩, hs⟩
  ·first | assumption | omega | simp
  ·intro i hi; omega
 ·rintro m_ ac w' ⟨k, hk, hi, rfl, hf, hs⟩
  refine D.use ?_ hf hs
  clear hf hs ac w'
  refine Cq (Sr (P2 rfl rfl (q1 rfl (Dl s_31 rfl rfl (rd_sl h_l)) (Pe rfl (Ci _ rfl (fun h2 => ?_) (fun h2 => ?_))))))
  ·have pr2 : (((k : Nat) : Int) : Int) < ((l.length : Nat) : Int) := odT h2
   refine Sk (Cq (Cb (Cq (C_draw mixed [4, 5, 6, 7, 8, 9, 19, 20, 21, 22] (by kernel_rfl) (Tk 0 rfl (by kernel_rfl) rfl (rp rfl) (Tk 1 rfl (by kernel_rfl) rfl (rp rfl) ?_))))))
   obtain ⟨f0, f0h⟩ := sL (l := l) (i := k) (by omega)
   obtain ⟨es3, at4, hr5⟩ := rd_elem (n := 2) rfl h_l f0h
   obtain ⟨u6, rfl, hu7⟩ := open_Fact hr5
   have hm8 := rd_max hu7
   refine Tk 2 rfl (by kernel_rfl) rfl (D_ix (l := l) (j := k) s_31 rfl rfl rfl (fun w' hs => (rA hs h_l)) rfl (lS f0h)) (Tk 3 rfl (by kernel_rfl) rfl (lra a_70 rfl rfl at4) (ty 4 rfl (by kernel_rfl) rfl (cv b_91 rfl rfl rfl rfl (fun w' hs => (spec_IsFact w' [(.string f0.Rel), u6] f0 (rA hs hr5) (ho _ (List.mem_of_getElem? f0h)))) ?_)))
   refine tZ rfl (ty 5 rfl (by kernel_rfl) rfl (sv rfl rfl (rp rfl) ?_))
   refine tZ rfl (ty 6 rfl (by kernel_rfl) rfl (sv rfl rfl (rp rfl) ?_))
   refine tZ rfl (gs 16 rfl rfl (fun h9 => ?_) (fun h9 => ?_))
   ·have h9n : (isFactB f0) = false := not_t h9
    refine tn 7 rfl (by kernel_rfl) (by kernel_rfl) (by kernel_rfl) rfl rfl rfl (fun _ hs => hs) (tn 8 rfl (by kernel_rfl) (by kernel_rfl) (by kernel_rfl) rfl rfl rfl (fun _ hs => hs) (tn 9 rfl (by kernel_rfl) (by kernel_rfl) (by kernel_rfl) rfl rfl rfl (fun _ hs => hs) (tn 10 rfl (by kernel_rfl) (by kernel_rfl) (by kernel_rfl) rfl rfl rfl (fun _ hs => hs) (tn 11 rfl (by kernel_rfl) (by kernel_rfl) (by kernel_rfl) rfl rfl rfl (fun _ hs => hs) (tn 12 rfl (by kernel_rfl) (by kernel_rfl) (by kernel_rfl) rfl rfl rfl (fun _ hs => hs) (tn 13 rfl (by kernel_rfl) (by kernel_rfl) (by kernel_rfl) rfl rfl rfl (fun _ hs => hs) (tn 14 rfl (by kernel_rfl) (by kernel_rfl) (by kernel_rfl) rfl rfl rfl (fun _ hs => hs) (tn 15 rfl (by kernel_rfl) (by kernel_rfl) (by kernel_rfl) rfl rfl rfl (fun _ hs => hs) (tn 16 rfl (by kernel_rfl) (by kernel_rfl) (by kernel_rfl) rfl rfl rfl (fun _ hs => hs) (tn 17 rfl (by kernel_rfl) (by kernel_rfl) (by kernel_rfl) rfl rfl rfl (fun _ hs => hs) (tn 18 rfl (by kernel_rfl) (by kernel_rfl) (by kernel_rfl) rfl rfl rfl (fun _ hs => hs) (tn 19 rfl (by kernel_rfl) (by kernel_rfl) (by kernel_rfl) rfl rfl rfl (fun _ hs => hs) (tn 20 rfl (by kernel_rfl) (by kernel_rfl) (by kernel_rfl) rfl rfl rfl (fun _ hs => hs) (tn 21 rfl (by kernel_rfl) (by kernel_rfl) (by kernel_rfl) rfl rfl rfl (fun _ hs => hs) (ty 22 rfl (by kernel_rfl) rfl (sv rfl rfl (rp rfl) ?_))))))))))))))))
    refine tZ rfl (tE (by kernel_rfl) (Xt (Dw [(0, v_l), (3, (.int .i64 ((k : Nat) : Int))), (32, (.bool true))] ⟨rfl, rfl, rfl, trivial⟩ (C_t rfl (Sr (Pe rfl (Ct (Xq (Xr (Xr (Xq (Xr (Rb rfl rfl ?_)))))))))))))
    first | exact af_n1 (by omega) | exact af_n2 (k := k) (by omega) (factAt_f1 f0h (by assumption)) | exact af_n2 (k := k) (by omega) (factAt_f2 f0h p0h (by omega) (by omega)) | exact af_y (by omega) (fun i h => hi i (by omega)) | exact af_z (fun i h => hi i (by omega))
   ·have h9n : (isFactB f0) = true := not_f h9
    refine ty 7 rfl (by kernel_rfl) rfl (sv rfl rfl (rp rfl) ?_)
    refine tZ rfl (ty 8 rfl (by kernel_rfl) rfl (sv rfl rfl (rp rfl) ?_))
    refine tZ rfl (ty 9 rfl (by kernel_rfl) rfl (sv rfl rfl (rp rfl) ?_))
    refine tZ rfl (gs 19 rfl rfl (fun h10 => ?_) (fun h10 => ?_))
    ·have pr10 : (0 : Int) < ((k : Nat) : Int) := odT h10
     refine Tk 10 rfl (by kernel_rfl) rfl (rp rfl) (Tk 11 rfl (by kernel_rfl) rfl (rp rfl) (Tk 12 rfl (by kernel_rfl) rfl (D_sub rfl rfl rfl (r := ((k - 1 : Nat) : Int)) (by omega) (by omega)) ?_))
     obtain ⟨p0, p0h⟩ := sL (l := l) (i := (k - 1)) (by omega)
     obtain ⟨es11, at12, hr13⟩ := rd_elem (n := 2) rfl h_l p0h
     obtain ⟨u14, rfl, hu15⟩ := open_Fact hr13
     have hm16 := rd_max hu15
     refine Tk 13 rfl (by kernel_rfl) rfl (D_ix (l := l) (j := (k - 1)) s_31 rfl rfl rfl (fun w' hs => (rA hs h_l)) rfl (lS p0h)) (Tk 14 rfl (by kernel_rfl) rfl (lra a_70 rfl rfl at12) (Tk 15 rfl (by kernel_rfl) rfl (rp rfl) (Tk 16 rfl (by kernel_rfl) rfl (rp rfl) (Tk 17 rfl (by kernel_rfl) rfl (D_ix (l := l) (j := k) s_31 rfl rfl rfl (fun w' hs => (rA hs h_l)) rfl (lS f0h)) (Tk 18 rfl (by kernel_rfl) rfl (lra a_70 rfl rfl at4) (ty 19 rfl (by kernel_rfl) rfl (cv b_146 rfl rfl rfl rfl (fun w' hs => (spec_CompareFacts w' [(.string p0.Rel), u14] p0 [(.string f0.Rel), u6] f0 (rA hs hr13) (rA hs hr5))) ?_)))))))
     refine tZ rfl (ty 20 rfl (by kernel_rfl) rfl (sv rfl rfl (rp rfl) ?_))
     refine tZ rfl (ty 21 rfl (by kernel_rfl) rfl (sv rfl rfl (rp rfl) ?_))
     refine tZ rfl (ty 22 rfl (by kernel_rfl) rfl (sv rfl rfl (rp rfl) ?_))
     refine tZ rfl (tE (by kernel_rfl) (Xt (Dw [(0, v_l), (3, (.int .i64 ((k : Nat) : Int))), (32, (.bool (decide ((0 : Int) ≤ (cmpF p0 f0)))))] ⟨rfl, rfl, rfl, trivial⟩ (Ci _ rfl (fun h17 => ?_) (fun h17 => ?_)))))
     ·have pr17 : (0 : Int) ≤ (cmpF p0 f0) := odT h17
      refine Sr (Pe rfl (Ct (Xq (Xr (Xr (Xq (Xr (Rb rfl rfl ?_))))))))
      first | exact af_n1 (by omega) | exact af_n2 (k := k) (by omega) (factAt_f1 f0h (by assumption)) | exact af_n2 (k := k) (by omega) (factAt_f2 f0h p0h (by omega) (by omega)) | exact af_y (by omega) (fun i h => hi i (by omega)) | exact af_z (fun i h => hi i (by omega))
     ·have pr17 : ¬ (0 : Int) ≤ (cmpF p0 f0) := odF h17
      refine Ck (Xb (Xt (Cr (p1 rfl (q1 rfl (D_add rfl rfl rfl (r := ((k + 1 : Nat) : Int)) (by omega) (by omega)) (Pe rfl (fun ac w' hf hs => ⟨_, ?_, k + 1, ?_, ?_, rfl, hf.weak ⟨rfl, rfl, trivial⟩, hs⟩)))))))
      ·omega
      ·first | assumption | omega | simp
      ·refine forall_step hi ?_; first | exact factAt_0 f0h (by assumption) (by omega) | exact factAt_s f0h p0h (by omega) (by assumption) (by omega)
    ·have pr10 : ¬ (0 : Int) < ((k : Nat) : Int) := odF h10
     refine tn 10 rfl (by kernel_rfl) (by kernel_rfl) (by kernel_rfl) rfl rfl rfl (fun _ hs => hs) (tn 11 rfl (by kernel_rfl) (by kernel_rfl) (by kernel_rfl) rfl rfl rfl (fun _ hs => hs) (tn 12 rfl (by kernel_rfl) (by kernel_rfl) (by kernel_rfl) rfl rfl rfl (fun _ hs => hs) (tn 13 rfl (by kernel_rfl) (by kernel_rfl) (by kernel_rfl) rfl rfl rfl (fun _ hs => hs) (tn 14 rfl (by kernel_rfl) (by kernel_rfl) (by kernel_rfl) rfl rfl rfl (fun _ hs => hs) (tn 15 rfl (by kernel_rfl) (by kernel_rfl) (by kernel_rfl) rfl rfl rfl (fun _ hs => hs) (tn 16 rfl (by kernel_rfl) (by kernel_rfl) (by kernel_rfl) rfl rfl rfl (fun _ hs => hs) (tn 17 rfl (by kernel_rfl) (by kernel_rfl) (by kernel_rfl) rfl rfl rfl (fun _ hs => hs) (tn 18 rfl (by kernel_rfl) (by kernel_rfl) (by kernel_rfl) rfl rfl rfl (fun _ hs => hs) (tn 19 rfl (by kernel_rfl) (by kernel_rfl) (by kernel_rfl) rfl rfl rfl (fun _ hs => hs) (tn 20 rfl (by kernel_rfl) (by kernel_rfl) (by kernel_rfl) rfl rfl rfl (fun _ hs => hs) (ty 21 rfl (by kernel_rfl) rfl (sv rfl rfl (rp rfl) ?_))))))))))))
     refine tZ rfl (ty 22 rfl (by kernel_rfl) rfl (sv rfl rfl (rp rfl) ?_))
     refine tZ rfl (tE (by kernel_rfl) (Xt (Dw [(0, v_l), (3, (.int .i64 ((k : Nat) : Int))), (32, (.bool false))] ⟨rfl, rfl, rfl, trivial⟩ (C_f rfl (Ck (Xb (Xt (Cr (p1 rfl (q1 rfl (D_add rfl rfl rfl (r := ((k + 1 : Nat) : Int)) (by omega) (by omega)) (Pe rfl (fun ac w' hf hs => ⟨_, ?_, k + 1, ?_, ?_, rfl, hf.weak ⟨rfl, rfl, trivial⟩, hs⟩))))))))))))
     ·omega
     ·first | assumption | omega | simp
     ·refine forall_step hi ?_; first | exact factAt_0 f0h (by assumption) (by omega) | exact factAt_s f0h p0h (by omega) (by assumption) (by omega)
  ·have pr2 : ¬ (((k : Nat) : Int) : Int) < ((l.length : Nat) : Int) := odF h2
   refine Cx (Xx (Xx (Xe (Xt (Sr (p1 rfl (q1 rfl (Dl s_31 rfl rfl (rd_sl h_l)) (P2 rfl rfl (Dx (Ct (Rb rfl rfl ?_)))))))))))
   show ((decide ((((l.length : Nat) : Int) : Int) ≤ 24)) : Bool) = _
   first | exact af_n1 (by omega) | exact af_n2 (k := k) (by omega) (factAt_f1 f0h (by assumption)) | exact af_n2 (k := k) (by omega) (factAt_f2 f0h p0h (by omega) (by omega)) | exact af_y (by omega) (fun i h => hi i (by omega)) | exact af_z (fun i h => hi i (by omega))
theorem impl_copyFact (w : World) (c_f : List Value) (f : Fact) (h_f : Gd.rd w c_f f) (hp : szFa f ≤ 1048576) : Calls Tryz.prog 132 [(.agg c_f.toArray)].toArray w (Res w (f : Fact)) := by
 obtain ⟨u1, rfl, hu2⟩ := open_Fact h_f
 have hm3 := rd_max hu2
 unfold szFa szSs at hp
 refine enter 9 Tryz.func132 rfl rfl rfl (Sr (li rfl (D_box rfl rfl rfl rfl rfl fun g4 => ?_)))
 refine li rfl (D_alloc y_70 rfl rfl rfl rfl fun g5 => ?_)
 refine Dx (Dh ([bx g5 [(.string ⟨#[]⟩), (.slice none 0 0)], bx g4 [(.string f.Rel), u1]]) rfl (Cq (C_draw mixed [6] (by kernel_rfl) (Tk 0 rfl (by kernel_rfl) rfl (Db f_70_0 rfl rfl (q := 0) rfl) (Tk 1 rfl (by kernel_rfl) rfl (lb 1 o_9 rfl rfl rfl rfl) (Tk 2 rfl (by kernel_rfl) rfl (Db f_70_1 rfl rfl (q := 1) rfl) (Tk 3 rfl (by kernel_rfl) rfl (lb 1 o_58 rfl rfl rfl rfl) (ty 4 rfl (by kernel_rfl) rfl (crl b_184 rfl rfl rfl rfl (fun w' hs => (impl_copyTexts w' u1 f.Args (rA hs hu2) (by first | assumption | omega | (unfold szm at *; split at * <;> omega)))) fun v6 => ?_)))))))))
 refine tS (fun _ hs => hs.pk [1, 2] rfl rfl) (Dp (fun w' hs => one_own (k := 0) hs rfl) ?_)
 intro ho7
 refine Tj 5 rfl (by kernel_rfl) rfl (fun _ hs => hs.pk [1, 2] rfl rfl) (D_built (vs := [(0, (.string f.Rel)), (1, v6)]) (xs := [(0, [(.string f.Rel)]), (1, [v6])]) (cs := [(.string f.Rel), v6]) pl_70 rfl ⟨rfl, rfl, ⟨rfl, (cells_of_one ho7), trivial⟩⟩ rfl rfl) (ty 6 rfl (by kernel_rfl) rfl (D_stb (vs := [(.string f.Rel), v6]) (cs' := [(.string f.Rel), v6]) 1 z_70 rfl rfl rfl rfl rfl rfl (ocons rfl (ocons ho7 onil)) (by simp) rfl ?_))
 refine tZ rfl (tE (by kernel_rfl) (Xt (Ct (pk_Fact (r := (f : Fact)) (R_c 1 a_70 rfl rfl rfl fun w' hs => res_of (k := 0) hs rfl ?_)))))
 show (f : Fact) = f
 rfl
theorem spec_l2Copy (w : World) (c_f : List Value) (f : Fact) (h_f : Gd.rd w c_f f) (hp : szFa f ≤ 1048576) : Calls Tryz.prog 123 [(.agg c_f.toArray)].toArray w (Res w (f : Fact)) := by
 obtain ⟨u1, rfl, hu2⟩ := open_Fact h_f
 have hm3 := rd_max hu2
 unfold szFa szSs at hp
 refine enter 9 Tryz.func123 rfl rfl rfl (Sr (li rfl (D_box rfl rfl rfl rfl rfl fun g4 => ?_)))
 refine li rfl (D_alloc y_70 rfl rfl rfl rfl fun g5 => ?_)
 refine Dx (Dh ([bx g5 [(.string ⟨#[]⟩), (.slice none 0 0)], bx g4 [(.string f.Rel), u1]]) rfl (Cq (C_draw mixed [6] (by kernel_rfl) (Tk 0 rfl (by kernel_rfl) rfl (Db f_70_0 rfl rfl (q := 0) rfl) (Tk 1 rfl (by kernel_rfl) rfl (lb 1 o_9 rfl rfl rfl rfl) (Tk 2 rfl (by kernel_rfl) rfl (Db f_70_1 rfl rfl (q := 1) rfl) (Tk 3 rfl (by kernel_rfl) rfl (lb 1 o_58 rfl rfl rfl rfl) (ty 4 rfl (by kernel_rfl) rfl (crl b_178 rfl rfl rfl rfl (fun w' hs => (spec_l1Texts w' u1 f.Args (rA hs hu2) (by first | assumption | omega | (unfold szm at *; split at * <;> omega)))) fun v6 => ?_)))))))))
 refine tS (fun _ hs => hs.pk [1, 2] rfl rfl) (Dp (fun w' hs => one_own (k := 0) hs rfl) ?_)
 intro ho7
 refine Tj 5 rfl (by kernel_rfl) rfl (fun _ hs => hs.pk [1, 2] rfl rfl) (D_built (vs := [(0, (.string f.Rel)), (1, v6)]) (xs := [(0, [(.string f.Rel)]), (1, [v6])]) (cs := [(.string f.Rel), v6]) pl_70 rfl ⟨rfl, rfl, ⟨rfl, (cells_of_one ho7), trivial⟩⟩ rfl rfl) (ty 6 rfl (by kernel_rfl) rfl (D_stb (vs := [(.string f.Rel), v6]) (cs' := [(.string f.Rel), v6]) 1 z_70 rfl rfl rfl rfl rfl rfl (ocons rfl (ocons ho7 onil)) (by simp) rfl ?_))
 refine tZ rfl (tE (by kernel_rfl) (Xt (Ct (pk_Fact (r := (f : Fact)) (R_c 1 a_70 rfl rfl rfl fun w' hs => res_of (k := 0) hs rfl ?_)))))
 show (f : Fact) = f
 rfl
theorem impl_FactsIn (w : World) (v_l : Value) (l : (List Stamp)) (h_l : Gd.rd w [v_l] l) (hn : szL szStamp l ≤ 1048576) : Calls Tryz.prog 111 [v_l].toArray w (Res w (l.map (·.Fact) : List Fact)) := by
 have hm1 := rd_max h_l
 unfold szL at hn
 refine enter 20 Tryz.func111 rfl rfl rfl (Sr (Pe rfl (Sr (Pe rfl (Cq (Sr (p1 rfl (q1 rfl (Dl s_42 rfl rfl (rd_sl h_l)) (Pe rfl (Cb (Cl (fun m_ ac w' => ∃ (k : Nat), ∃ (v : Value), (k ≤ l.length) ∧ m_ = l.length - k ∧ Fits ac 20 [(3, v), (6, v_l), (7, (.int .i64 ((l.length : Nat) : Int))), (8, (.int .i64 ((k : Nat) : Int)))] ∧ St w ([ov [v] ((l.take k).map (·.Fact) : (List Fact))]) w') ?_ ?_)))))))))))
 ·refine D_nil (α := Fact) (D_eq 0 rfl (show ([] : (List Fact)) = (l.take 0).map (·.Fact) from by simp) (fun ac w' hf hs => ⟨_, 0, (.slice none 0 0), ?_, rfl, hf.weak ⟨rfl, rfl, rfl, rfl, trivial⟩, hs⟩))
  ·first | assumption | omega | simp
 ·rintro m_ ac w' ⟨k, v, hk, rfl, hf, hs⟩
  refine D.use ?_ hf hs
  clear hf hs ac w'
  have hcl : ((l.take k).map (·.Fact)).length ≤ k := by rw [List.length_map, List.length_take]; omega
  refine Sr (Pe rfl (Dh ([ov [v] ((l.take k).map (·.Fact) : (List Fact))]) rfl (Cq (Ci _ rfl (fun h2 => ?_) (fun h2 => ?_)))))
  ·have pr2 : (((k : Nat) : Int) : Int) < ((l.length : Nat) : Int) := odT h2
   refine Sk (Cq (Cb (Sr ?_)))
   obtain ⟨s0, s0h⟩ := sL (l := l) (i := k) (by omega)
   have hle := sumC_mem (c := szStamp) (List.mem_of_getElem? s0h)
   have hle2 : szStamp s0 = szFa s0.Fact := rfl
   obtain ⟨es3, at4, hr5⟩ := rd_elem (n := 3) rfl h_l s0h
   obtain ⟨u6, rfl, hu7⟩ := open_Stamp hr5
   have hm8 := rd_max hu7
   have hb9 := sub_Stamp_Fact hr5
   refine q1 rfl (D_ix (l := l) (j := k) s_42 rfl rfl rfl (fun w' hs => (rA hs h_l)) rfl (lS s0h)) (q1 rfl (lra a_100 rfl rfl at4) (li rfl (D_alloc y_100 rfl rfl rfl rfl fun g10 => ?_)))
   refine li rfl (D_stb (vs := [(.string s0.Fact.Rel), u6, (.int .i64 s0.Time)]) (cs' := [(.string s0.Fact.Rel), u6, (.int .i64 s0.Time)]) 0 z_100 rfl rfl rfl rfl rfl rfl (ocons rfl (ocons (one_rd hu7) (ocons rfl onil))) (by simp) rfl ?_)
   refine Dx (Dh ([bx g10 [(.string s0.Fact.Rel), u6, (.int .i64 s0.Time)], ov [v] ((l.take k).map (·.Fact) : (List Fact))]) rfl (Cr (p1 rfl (q1 rfl (Db f_100_0 rfl rfl (q := 0) rfl) (q1 rfl (lba (es := [(.string s0.Fact.Rel), u6]) 0 a_70 rfl rfl rfl rfl) (li rfl (crs rfl b_132 rfl rfl rfl rfl (fun w' hs => (impl_copyFact w' [(.string s0.Fact.Rel), u6] s0.Fact (rA hs hb9) (by first | assumption | omega | (unfold szm at *; split at * <;> omega)))) fun cs11 => ?_)))))))
   refine Dp (fun w' hs => shape_Fact (rO (k := 0) hs rfl)) ?_
   rintro ⟨v12, rfl, ho13⟩
   refine li rfl (D_bs s_31 y_70 rfl (by decide) (by decide) rfl rfl rfl rfl rfl rfl fun g14 => ?_)
   refine D_pk (H' := [ov [v] ((l.take k).map (·.Fact) : (List Fact)), ov [(.string s0.Fact.Rel), v12] (s0.Fact : Fact), bx g14 [(.string s0.Fact.Rel), v12], bx g10 [(.string s0.Fact.Rel), u6, (.int .i64 s0.Time)]]) [3, 1, 0, 2] rfl rfl (li rfl (D_ap s_31 y_70 rfl (by decide) rfl rfl rfl rfl rfl rfl (by first | omega | (simp; omega)) (by first | omega | (simp; omega)) fun v15 => ?_))
   refine p1 rfl (De (Xb (Xt (Dh ([ov [v15] (((l.take k).map (·.Fact)) ++ [s0.Fact] : (List Fact)), bx g10 [(.string s0.Fact.Rel), u6, (.int .i64 s0.Time)]]) rfl (Cr (q1 rfl (D_add rfl rfl rfl (r := ((k + 1 : Nat) : Int)) (by omega) (by omega)) (Pe rfl (D_eq 0 rfl (show (((l.take k).map (·.Fact)) ++ [s0.Fact] : (List Fact)) = (l.take (k + 1)).map (·.Fact) from by rw [take_snoc s0h, List.map_append]; rfl) (fun ac w' hf hs => ⟨_, ?_, k + 1, v15, ?_, rfl, hf.weak ⟨rfl, rfl, rfl, rfl, trivial⟩, hs.pk [0] rfl rfl⟩)))))))))
   ·omega
   ·first | assumption | omega | simp
  ·have pr2 : ¬ (((k : Nat) : Int) : Int) < ((l.length : Nat) : Int) := odF h2
   refine Cx (Xx (Xx (Xe (Xt (Sr (P2 rfl rfl (Dx (Ct (R_1 rfl rfl fun w' hs => res_of (k := 0) hs rfl ?_)))))))))
   show (l.take k).map (·.Fact) = l.map (·.Fact)
   rw [List.take_of_length_le (by omega)]
theorem spec_FactsIn (w : World) (v_l : Value) (l : (List Stamp)) (h_l : Gd.rd w [v_l] l) (hn : szL szStamp l ≤ 1048576) : Calls Tryz.prog 101 [v_l].toArray w (Res w (l.map (·.Fact) : List Fact)) := by
 have hm1 := rd_max h_l
 unfold szL at hn
 refine enter 22 Tryz.func101 rfl rfl rfl (Sr (Pe rfl (Sr (li rfl (D_bs0 (α := Fact) s_31 rfl rfl rfl fun v2 => ?_)))))
 refine Pe rfl (Dh ([ov [v2] ([] : (List Fact))]) rfl (Cq (Sr (Pe rfl (Cb (Cl (fun m_ ac w' => ∃ (k : Nat), ∃ (v : Value), (k ≤ l.length) ∧ m_ = l.length - k ∧ Fits ac 22 [(0, v_l), (3, v), (4, (.int .i64 ((k : Nat) : Int)))] ∧ St w ([ov [v] ((l.take k).map (·.Fact) : (List Fact))]) w') ?_ ?_))))))
 ·refine D_eq 0 rfl (show ([] : (List Fact)) = (l.take 0).map (·.Fact) from by simp) (fun ac w' hf hs => ⟨_, 0, v2, ?_, rfl, hf.weak ⟨rfl, rfl, rfl, trivial⟩, hs⟩)
  ·first | assumption | omega | simp
 ·rintro m_ ac w' ⟨k, v, hk, rfl, hf, hs⟩
  refine D.use ?_ hf hs
  clear hf hs ac w'
  have hcl : ((l.take k).map (·.Fact)).length ≤ k := by rw [List.length_map, List.length_take]; omega
  refine Cq (Sr (P2 rfl rfl (q1 rfl (Dl s_42 rfl rfl (rd_sl h_l)) (Pe rfl (Dh ([ov [v] ((l.take k).map (·.Fact) : (List Fact))]) rfl (Ci _ rfl (fun h3 => ?_) (fun h3 => ?_)))))))
  ·have pr3 : (((k : Nat) : Int) : Int) < ((l.length : Nat) : Int) := odT h3
   refine Sk (Cq (Cb (Cr (P3 rfl rfl rfl ?_))))
   obtain ⟨s0, s0h⟩ := sL (l := l) (i := k) (by omega)
   have hle := sumC_mem (c := szStamp) (List.mem_of_getElem? s0h)
   have hle2 : szStamp s0 = szFa s0.Fact := rfl
   obtain ⟨es4, at5, hr6⟩ := rd_elem (n := 3) rfl h_l s0h
   obtain ⟨u7, rfl, hu8⟩ := open_Stamp hr6
   have hm9 := rd_max hu8
   have hb10 := sub_Stamp_Fact hr6
   refine q1 rfl (D_ix (l := l) (j := k) s_42 rfl rfl rfl (fun w' hs => (rA hs h_l)) rfl (lS s0h)) (q1 rfl (D_fa f_100_0 rfl rfl) (q1 rfl (lra a_70 rfl rfl (at_sub (f := 0) (n := 2) at5 rfl)) (li rfl (crs rfl b_123 rfl rfl rfl rfl (fun w' hs => (spec_l2Copy w' [(.string s0.Fact.Rel), u7] s0.Fact (rA hs hb10) (by first | assumption | omega | (unfold szm at *; split at * <;> omega)))) fun cs11 => ?_))))
   refine Dp (fun w' hs => shape_Fact (rO (k := 0) hs rfl)) ?_
   rintro ⟨v12, rfl, ho13⟩
   refine li rfl (D_bs s_31 y_70 rfl (by decide) (by decide) rfl rfl rfl rfl rfl rfl fun g14 => ?_)
   refine D_pk (H' := [ov [v] ((l.take k).map (·.Fact) : (List Fact)), ov [(.string s0.Fact.Rel), v12] (s0.Fact : Fact), bx g14 [(.string s0.Fact.Rel), v12]]) [2, 1, 0] rfl rfl (li rfl (D_ap s_31 y_70 rfl (by decide) rfl rfl rfl rfl rfl rfl (by first | omega | (simp; omega)) (by first | omega | (simp; omega)) fun v15 => ?_))
   refine p1 rfl (De (Xb (Xt (Dh ([ov [v15] (((l.take k).map (·.Fact)) ++ [s0.Fact] : (List Fact))]) rfl (Cr (p1 rfl (q1 rfl (D_add rfl rfl rfl (r := ((k + 1 : Nat) : Int)) (by omega) (by omega)) (Pe rfl (D_eq 0 rfl (show (((l.take k).map (·.Fact)) ++ [s0.Fact] : (List Fact)) = (l.take (k + 1)).map (·.Fact) from by rw [take_snoc s0h, List.map_append]; rfl) (fun ac w' hf hs => ⟨_, ?_, k + 1, v15, ?_, rfl, hf.weak ⟨rfl, rfl, rfl, trivial⟩, hs⟩))))))))))
   ·omega
   ·first | assumption | omega | simp
  ·have pr3 : ¬ (((k : Nat) : Int) : Int) < ((l.length : Nat) : Int) := odF h3
   refine Cx (Xx (Xx (Xe (Xt (Sr (P2 rfl rfl (Dx (Ct (R_1 rfl rfl fun w' hs => res_of (k := 0) hs rfl ?_)))))))))
   show (l.take k).map (·.Fact) = l.map (·.Fact)
   rw [List.take_of_length_le (by omega)]
theorem impl_IsMemory (w : World) (v_l : Value) (l : (List Stamp)) (h_l : Gd.rd w [v_l] l) (hn : szL szStamp l ≤ 1048576) (htb : Tb w) : Calls Tryz.prog 52 [v_l].toArray w (Val w (.bool (isMemB l))) := by
 have hm1 := rd_max h_l
 have hn0 := hn
 unfold szL at hn
 refine enter 34 Tryz.func52 rfl rfl rfl (Sr (Pe rfl (Sr (li rfl (D_mkmap rfl rfl rfl fun g2 => ?_)))))
 refine Pe rfl (Dh ([ov [(.map (some g2))] ((⟨[]⟩ : ISet) : ISet)]) rfl (Cq (Sr (p1 rfl (q1 rfl (Dl s_42 rfl rfl (rd_sl h_l)) (Pe rfl (Cb (Cl (fun m_ ac w' => ∃ (k : Nat), (k ≤ l.length) ∧ (∀ i, i < k → timeAt l i = true) ∧ m_ = l.length - k ∧ Fits ac 34 [(0, v_l), (3, (.map (some g2))), (7, v_l), (8, (.int .i64 ((l.length : Nat) : Int))), (9, (.int .i64 ((k : Nat) : Int)))] ∧ St w ([ov [(.map (some g2))] (seenT l k : ISet)]) w') ?_ ?_))))))))
 ·refine D_eq 0 rfl (show ((⟨[]⟩ : ISet) : ISet) = seenT l 0 from by rfl) (fun ac w' hf hs => ⟨_, 0, ?_, ?_, rfl, hf.weak ⟨rfl, rfl, rfl, rfl, rfl, trivial⟩, hs⟩)
  ·first | assumption | omega | simp
  ·intro i hi; omega
 ·rintro m_ ac w' ⟨k, hk, hi, rfl, hf, hs⟩
  refine D.use ?_ hf hs
  clear hf hs ac w'
  refine Sr (Pe rfl (Dh ([ov [(.map (some g2))] (seenT l k : ISet)]) rfl (Cq (Ci _ rfl (fun h3 => ?_) (fun h3 => ?_)))))
  ·have pr3 : (((k : Nat) : Int) : Int) < ((l.length : Nat) : Int) := odT h3
   refine Sk (Cq (Cb (Sr ?_)))
   obtain ⟨s0, s0h⟩ := sL (l := l) (i := k) (by omega)
   obtain ⟨es4, at5, hr6⟩ := rd_elem (n := 3) rfl h_l s0h
   obtain ⟨u7, rfl, hu8⟩ := open_Stamp hr6
   have hm9 := rd_max hu8
   have hb10 := sub_Stamp_Fact hr6
   refine q1 rfl (D_ix (l := l) (j := k) s_42 rfl rfl rfl (fun w' hs => (rA hs h_l)) rfl (lS s0h)) (q1 rfl (lra a_100 rfl rfl at5) (li rfl (D_alloc y_100 rfl rfl rfl rfl fun g11 => ?_)))
   refine li rfl (D_stb (vs := [(.string s0.Fact.Rel), u7, (.int .i64 s0.Time)]) (cs' := [(.string s0.Fact.Rel), u7, (.int .i64 s0.Time)]) 0 z_100 rfl rfl rfl rfl rfl rfl (ocons rfl (ocons (one_rd hu8) (ocons rfl onil))) (by simp) rfl ?_)
   refine Dx (Dh ([bx g11 [(.string s0.Fact.Rel), u7, (.int .i64 s0.Time)], ov [(.map (some g2))] (seenT l k : ISet)]) rfl (Cq (Sr (q1 rfl (Db f_100_1 rfl rfl (q := 2) rfl) (q1 rfl (lb 0 o_3 rfl rfl rfl rfl) (P2 rfl rfl (gs 16 rfl rfl (fun h12 => ?_) (fun h12 => ?_))))))))
   ·have pr12 : (s0.Time : Int) < 1 := odT h12
    refine n1 rfl (n1 rfl (n1 rfl (P2 rfl rfl (n1 rfl (n1 rfl (n1 rfl (n1 rfl (Pe rfl (Dw [(0, v_l), (3, (.map (some g2))), (5, (.pointer (some ⟨g11, 0, none⟩))), (7, v_l), (8, (.int .i64 ((l.length : Nat) : Int))), (9, (.int .i64 ((k : Nat) : Int))), (26, (.bool true))] ⟨rfl, rfl, rfl, rfl, rfl, rfl, rfl, trivial⟩ (C_t rfl (Sr (Pe rfl (Ct (Xr (Xq (Xr (Xr (Xq ?_))))))))))))))))))
    refine Xr (Rb rfl rfl ?_)
    first | exact mem_n (k := k) (lS s0h) (timeAt_f1 s0h (by first | assumption | (unfold inR; simp; omega))) | exact mem_n (k := k) (lS s0h) (timeAt_f2 s0h (by assumption)) | exact mem_n (k := k) (lS s0h) (timeAt_f3 s0h q0h (by omega) (by assumption)) | exact mem_y (fun i h => hi i (by omega))
   ·have pr12 : ¬ (s0.Time : Int) < 1 := odF h12
    refine q1 rfl (Db f_100_1 rfl rfl (q := 2) rfl) (q1 rfl (lb 0 o_3 rfl rfl rfl rfl) (P3 rfl rfl rfl (gs 21 rfl rfl (fun h13 => ?_) (fun h13 => ?_))))
    ·have pr13 : (200 : Int) < s0.Time := odT h13
     refine n1 rfl (n1 rfl (n1 rfl (n1 rfl (Pe rfl (Dw [(0, v_l), (3, (.map (some g2))), (5, (.pointer (some ⟨g11, 0, none⟩))), (7, v_l), (8, (.int .i64 ((l.length : Nat) : Int))), (9, (.int .i64 ((k : Nat) : Int))), (26, (.bool true))] ⟨rfl, rfl, rfl, rfl, rfl, rfl, rfl, trivial⟩ (C_t rfl (Sr (Pe rfl (Ct (Xr (Xq (Xr (Xr (Xq (Xr (Rb rfl rfl ?_))))))))))))))))
     first | exact mem_n (k := k) (lS s0h) (timeAt_f1 s0h (by first | assumption | (unfold inR; simp; omega))) | exact mem_n (k := k) (lS s0h) (timeAt_f2 s0h (by assumption)) | exact mem_n (k := k) (lS s0h) (timeAt_f3 s0h q0h (by omega) (by assumption)) | exact mem_y (fun i h => hi i (by omega))
    ·have pr13 : ¬ (200 : Int) < s0.Time := odF h13
     refine p1 rfl (q1 rfl (Db f_100_1 rfl rfl (q := 2) rfl) (q1 rfl (lb 0 o_3 rfl rfl rfl rfl) (q1 rfl (D_lookup 1 um_153 ui_3 y_4 rfl rfl rfl rfl) (Pe rfl (Dw [(0, v_l), (3, (.map (some g2))), (5, (.pointer (some ⟨g11, 0, none⟩))), (7, v_l), (8, (.int .i64 ((l.length : Nat) : Int))), (9, (.int .i64 ((k : Nat) : Int))), (26, (.bool (ISet.has (seenT l k) s0.Time)))] ⟨rfl, rfl, rfl, rfl, rfl, rfl, rfl, trivial⟩ (Ci _ rfl (fun h14 => ?_) (fun h14 => ?_)))))))
     ·refine Sr (Pe rfl (Ct (Xr (Xq (Xr (Xr (Xq (Xr (Rb rfl rfl ?_)))))))))
      first | exact mem_n (k := k) (lS s0h) (timeAt_f1 s0h (by first | assumption | (unfold inR; simp; omega))) | exact mem_n (k := k) (lS s0h) (timeAt_f2 s0h (by assumption)) | exact mem_n (k := k) (lS s0h) (timeAt_f3 s0h q0h (by omega) (by assumption)) | exact mem_y (fun i h => hi i (by omega))
     ·refine Sk (Cr (p1 rfl (q1 rfl (Db f_100_1 rfl rfl (q := 2) rfl) (q1 rfl (lb 0 o_3 rfl rfl rfl rfl) (li rfl (D_mapup 1 um_153 ui_3 rfl rfl rfl rfl rfl rfl (by assumption) ?_))))))
      refine De (Xb (Xt (Dh ([bx g11 [(.string s0.Fact.Rel), u7, (.int .i64 s0.Time)], ov [(.map (some g2))] (ISet.add (seenT l k) s0.Time : ISet)]) rfl (Cr (q1 rfl (D_add rfl rfl rfl (r := ((k + 1 : Nat) : Int)) (by omega) (by omega)) (Pe rfl (D_eq 1 rfl (show (ISet.add (seenT l k) s0.Time : ISet) = seenT l (k + 1) from by exact seenT_step s0h) (fun ac w' hf hs => ⟨_, ?_, k + 1, ?_, ?_, rfl, hf.weak ⟨rfl, rfl, rfl, rfl, rfl, trivial⟩, hs.pk [1] rfl rfl⟩))))))))
      ·omega
      ·first | assumption | omega | simp
      ·refine forall_step hi ?_; exact timeAt_t s0h (by unfold inR; simp; omega) (by assumption)
  ·have pr3 : ¬ (((k : Nat) : Int) : Int) < ((l.length : Nat) : Int) := odF h3
   refine Cx (Xx (Xx (Xe (Xt (Sr (p1 rfl (li rfl (crl b_111 rfl rfl rfl rfl (fun w' hs => (impl_FactsIn w' v_l l (rA hs h_l) hn0)) fun v15 => ?_))))))))
   refine li rfl (cv b_110 rfl rfl rfl rfl (fun w' hs => (impl_AreFacts w' v15 (l.map (·.Fact)) (rO (k := 0) hs rfl) (Tb.ext htb hs.bel))) ?_)
   refine Pe rfl (Ct (Rb rfl rfl ?_))
   show ((areFactsB (l.map (·.Fact))) : Bool) = _
   first | exact mem_n (k := k) (lS s0h) (timeAt_f1 s0h (by first | assumption | (unfold inR; simp; omega))) | exact mem_n (k := k) (lS s0h) (timeAt_f2 s0h (by assumption)) | exact mem_n (k := k) (lS s0h) (timeAt_f3 s0h q0h (by omega) (by assumption)) | exact mem_y (fun i h => hi i (by omega))
theorem spec_IsMemory (w : World) (v_l : Value) (l : (List Stamp)) (h_l : Gd.rd w [v_l] l) (hn : szL szStamp l ≤ 1048576) (ho : okL okStamp l) : Calls Tryz.prog 43 [v_l].toArray w (Val w (.bool (isMemB l))) := by
 have hm1 := rd_max h_l
 have hn0 := hn
 unfold szL at hn
 refine enter 37 Tryz.func43 rfl rfl rfl (Sr (Pe rfl (Cq (Sr (Pe rfl (Cb (Cl (fun m_ ac w' => ∃ (k : Nat), (k ≤ l.length) ∧ (∀ i, i < k → timeAt l i = true) ∧ m_ = l.length - k ∧ Fits ac 37 [(0, v_l), (3, (.int .i64 ((k : Nat) : Int)))] ∧ St w ([]) w') ?_ ?_)))))))
 ·refine fun ac w' hf hs => ⟨_, 0, ?_, ?_, rfl, hf.weak ⟨rfl, rfl, trivial⟩, hs⟩
  ·first | assumption | omega | simp
  ·intro i hi; omega
 ·rintro m_ ac w' ⟨k, hk, hi, rfl, hf, hs⟩
  refine D.use ?_ hf hs
  clear hf hs ac w'
  refine Cq (Sr (P2 rfl rfl (q1 rfl (Dl s_42 rfl rfl (rd_sl h_l)) (Pe rfl (Ci _ rfl (fun h2 => ?_) (fun h2 => ?_))))))
  ·have pr2 : (((k : Nat) : Int) : Int) < ((l.length : Nat) : Int) := odT h2
   refine Sk (Cq (Cb (Cq (Sr (P2 rfl rfl ?_)))))
   obtain ⟨s0, s0h⟩ := sL (l := l) (i := k) (by omega)
   obtain ⟨es3, at4, hr5⟩ := rd_elem (n := 3) rfl h_l s0h
   obtain ⟨u6, rfl, hu7⟩ := open_Stamp hr5
   have hm8 := rd_max hu7
   have hb9 := sub_Stamp_Fact hr5
   refine q1 rfl (D_ix (l := l) (j := k) s_42 rfl rfl rfl (fun w' hs => (rA hs h_l)) rfl (lS s0h)) (q1 rfl (D_fa f_100_1 rfl rfl) (q1 rfl (lr o_3 rfl rfl at4 rfl) (li rfl (cv b_99 rfl rfl rfl rfl (fun w' hs => (spec_l1In w' s0.Time 1 200)) ?_))))
   refine Pe rfl (Ci _ rfl (fun h10 => ?_) (fun h10 => ?_))
   ·have h10n : (inR s0.Time 1 200) = false := not_t h10
    refine Sr (Pe rfl (Ct (Xr (Xq (Xr (Xr (Xq (Xr (Rb rfl rfl ?_)))))))))
    first | exact mem_n (k := k) (lS s0h) (timeAt_f1 s0h (by first | assumption | (unfold inR; simp; omega))) | exact mem_n (k := k) (lS s0h) (timeAt_f2 s0h (by assumption)) | exact mem_n (k := k) (lS s0h) (timeAt_f3 s0h q0h (by omega) (by assumption)) | exact mem_y (fun i h => hi i (by omega))
   ·have h10n : (inR s0.Time 1 200) = true := not_f h10
    refine Sk (Sr (Pe rfl (Cb (Cl (fun m_ ac w' => ∃ (j : Nat), (j ≤ k) ∧ (∀ i, i < j → ∀ q, l[i]? = some q → q.Time ≠ s0.Time) ∧ m_ = k - j ∧ Fits ac 37 [(0, v_l), (3, (.int .i64 ((k : Nat) : Int))), (4, (.int .i64 ((j : Nat) : Int)))] ∧ St w ([]) w') ?_ ?_))))
    ·refine fun ac w' hf hs => ⟨_, 0, ?_, ?_, rfl, hf.weak ⟨rfl, rfl, rfl, trivial⟩, hs⟩
     ·first | assumption | omega | simp
     ·intro i hi; omega
    ·rintro m_ ac w' ⟨j, hjk, hj, rfl, hf, hs⟩
     refine D.use ?_ hf hs
     clear hf hs ac w'
     refine Cq (Sr (P3 rfl rfl rfl (Dx (Ci _ rfl (fun h11 => ?_) (fun h11 => ?_)))))
     ·have pr11 : (((j : Nat) : Int) : Int) < ((k : Nat) : Int) := odT h11
      refine Sk (Cq (Cb (Cq (C_draw mixed [] (by kernel_rfl) (Tk 0 rfl (by kernel_rfl) rfl (rp rfl) (Tk 1 rfl (by kernel_rfl) rfl (rp rfl) ?_))))))
      obtain ⟨q0, q0h⟩ := sL (l := l) (i := j) (by omega)
      obtain ⟨es12, at13, hr14⟩ := rd_elem (n := 3) rfl h_l q0h
      obtain ⟨u15, rfl, hu16⟩ := open_Stamp hr14
      have hm17 := rd_max hu16
      have hb18 := sub_Stamp_Fact hr14
      refine Tk 2 rfl (by kernel_rfl) rfl (D_ix (l := l) (j := j) s_42 rfl rfl rfl (fun w' hs => (rA hs h_l)) rfl (lS q0h)) (Tk 3 rfl (by kernel_rfl) rfl (D_fa f_100_1 rfl rfl) (Tk 4 rfl (by kernel_rfl) rfl (lr o_3 rfl rfl at13 rfl) (Tk 5 rfl (by kernel_rfl) rfl (rp rfl) (Tk 6 rfl (by kernel_rfl) rfl (rp rfl) (Tk 7 rfl (by kernel_rfl) rfl (D_ix (l := l) (j := k) s_42 rfl rfl rfl (fun w' hs => (rA hs h_l)) rfl (lS s0h)) (Tk 8 rfl (by kernel_rfl) rfl (D_fa f_100_1 rfl rfl) (Tk 9 rfl (by kernel_rfl) rfl (lr o_3 rfl rfl at4 rfl) (Tk 10 rfl (by kernel_rfl) rfl (rp rfl) (tE (by kernel_rfl) (Xt (Ci _ rfl (fun h19 => ?_) (fun h19 => ?_))))))))))))
      ·have pr19 : (q0.Time : Int) = s0.Time := eq_of_beq h19
       refine Sr (Pe rfl (Ct (Xq (Xr (Xr (Xq (Xq (Xr (Xr (Xq (Xr (Rb rfl rfl ?_))))))))))))
       first | exact mem_n (k := k) (lS s0h) (timeAt_f1 s0h (by first | assumption | (unfold inR; simp; omega))) | exact mem_n (k := k) (lS s0h) (timeAt_f2 s0h (by assumption)) | exact mem_n (k := k) (lS s0h) (timeAt_f3 s0h q0h (by omega) (by assumption)) | exact mem_y (fun i h => hi i (by omega))
      ·have pr19 : (q0.Time : Int) ≠ s0.Time := ne_of_beq_false h19
       refine Ck (Xb (Xt (Cr (p1 rfl (q1 rfl (D_add rfl rfl rfl (r := ((j + 1 : Nat) : Int)) (by omega) (by omega)) (Pe rfl (fun ac w' hf hs => ⟨_, ?_, j + 1, ?_, ?_, rfl, hf.weak ⟨rfl, rfl, rfl, trivial⟩, hs⟩)))))))
       ·omega
       ·first | assumption | omega | simp
       ·refine forall_step hj ?_; intro y hy; obtain rfl : y = q0 := Option.some.inj (hy.symm.trans q0h); omega
     ·have pr11 : ¬ (((j : Nat) : Int) : Int) < ((k : Nat) : Int) := odF h11
      refine Cx (Xx (Xx (Xe (Xb (Xt (Cr (p1 rfl (q1 rfl (D_add rfl rfl rfl (r := ((k + 1 : Nat) : Int)) (by omega) (by omega)) (Pe rfl (fun ac w' hf hs => ⟨_, ?_, k + 1, ?_, ?_, rfl, hf.weak ⟨rfl, rfl, trivial⟩, hs⟩))))))))))
      ·omega
      ·first | assumption | omega | simp
      ·refine forall_step hi ?_; exact timeAt_s s0h (by assumption) (fun i h => hj i (by omega))
  ·have pr2 : ¬ (((k : Nat) : Int) : Int) < ((l.length : Nat) : Int) := odF h2
   refine Cx (Xx (Xx (Xe (Xt (Sr (p1 rfl (li rfl (crl b_101 rfl rfl rfl rfl (fun w' hs => (spec_FactsIn w' v_l l (rA hs h_l) hn0)) fun v20 => ?_))))))))
   refine li rfl (cv b_100 rfl rfl rfl rfl (fun w' hs => (spec_AreFacts w' v20 (l.map (·.Fact)) (rO (k := 0) hs rfl) (okF_map ho))) ?_)
   refine Pe rfl (Ct (Rb rfl rfl ?_))
   show ((areFactsB (l.map (·.Fact))) : Bool) = _
   first | exact mem_n (k := k) (lS s0h) (timeAt_f1 s0h (by first | assumption | (unfold inR; simp; omega))) | exact mem_n (k := k) (lS s0h) (timeAt_f2 s0h (by assumption)) | exact mem_n (k := k) (lS s0h) (timeAt_f3 s0h q0h (by omega) (by assumption)) | exact mem_y (fun i h => hi i (by omega))
theorem impl_sameInts (w : World) (v_a : Value) (a : (List Int)) (v_b : Value) (b : (List Int)) (h_a : Gd.rd w [v_a] a) (h_b : Gd.rd w [v_b] b) : Calls Tryz.prog 185 [v_a, v_b].toArray w (Val w (.bool (decide (a = b)))) := by
 have hm1 := rd_max h_a
 have hm2 := rd_max h_b
 refine enter 26 Tryz.func185 rfl rfl rfl (Sr (Pe rfl (Cq (Sr (p1 rfl (q1 rfl (Dl s_35 rfl rfl (rd_sl h_a)) (p1 rfl (q1 rfl (Dl s_35 rfl rfl (rd_sl h_b)) (Pe rfl (Ci _ rfl (fun h3 => ?_) (fun h3 => ?_)))))))))))
 ·have pr3 : (((a.length : Nat) : Int) : Int) ≠ ((b.length : Nat) : Int) := bne_iff_ne.1 h3
  refine Sr (Pe rfl (Ct (Xr (Rb rfl rfl ?_))))
  simp; intro e; subst e; simp_all
 ·have pr3 : (((a.length : Nat) : Int) : Int) = ((b.length : Nat) : Int) := eq_of_bne_f h3
  refine Sk (Cq (Sr (p1 rfl (q1 rfl (Dl s_35 rfl rfl (rd_sl h_a)) (Pe rfl (Cb (Cl (fun m_ ac w' => ∃ (k : Nat), (k ≤ a.length) ∧ (∀ i, i < k → a[i]? = b[i]?) ∧ m_ = a.length - k ∧ Fits ac 26 [(0, v_a), (1, v_b), (12, (.int .i64 ((a.length : Nat) : Int))), (13, (.int .i64 ((k : Nat) : Int)))] ∧ St w ([]) w') ?_ ?_)))))))
  ·refine fun ac w' hf hs => ⟨_, 0, ?_, ?_, rfl, hf.weak ⟨rfl, rfl, rfl, rfl, trivial⟩, hs⟩
   ·first | assumption | omega | simp
   ·intro i hi; omega
  ·rintro m_ ac w' ⟨k, hk, hi, rfl, hf, hs⟩
   refine D.use ?_ hf hs
   clear hf hs ac w'
   refine Sr (Pe rfl (Cq (Ci _ rfl (fun h4 => ?_) (fun h4 => ?_))))
   ·have pr4 : (((k : Nat) : Int) : Int) < ((a.length : Nat) : Int) := odT h4
    refine Sk (Cq (Cb (Sr (P2 rfl rfl (Dx (Cq (C_draw mixed [] (by kernel_rfl) (Tk 0 rfl (by kernel_rfl) rfl (rp rfl) (Tk 1 rfl (by kernel_rfl) rfl (rp rfl) ?_)))))))))
    obtain ⟨x5, hx6⟩ := sL (l := a) (i := k) (by omega)
    obtain ⟨es7, at8, hr9⟩ := rd_elem (n := 1) rfl h_a hx6
    obtain rfl : es7 = [.int .i64 x5] := hr9
    refine Tk 2 rfl (by kernel_rfl) rfl (D_ix (l := a) (j := k) s_35 rfl rfl rfl (fun w' hs => (rA hs h_a)) rfl (lS hx6)) (Tk 3 rfl (by kernel_rfl) rfl (lr0 o_3 rfl rfl at8 rfl) (Tk 4 rfl (by kernel_rfl) rfl (rp rfl) (Tk 5 rfl (by kernel_rfl) rfl (rp rfl) ?_)))
    obtain ⟨x10, hx11⟩ := sL (l := b) (i := k) (by omega)
    obtain ⟨es12, at13, hr14⟩ := rd_elem (n := 1) rfl h_b hx11
    obtain rfl : es12 = [.int .i64 x10] := hr14
    refine Tk 6 rfl (by kernel_rfl) rfl (D_ix (l := b) (j := k) s_35 rfl rfl rfl (fun w' hs => (rA hs h_b)) rfl (lS hx11)) (Tk 7 rfl (by kernel_rfl) rfl (lr0 o_3 rfl rfl at13 rfl) (Tk 8 rfl (by kernel_rfl) rfl (rp rfl) (tE (by kernel_rfl) (Xt (Ci _ rfl (fun h15 => ?_) (fun h15 => ?_))))))
    ·have pr15 : (x5 : Int) ≠ x10 := bne_iff_ne.1 h15
     refine Sr (Pe rfl (Ct (Xq (Xr (Xr (Xq (Xr (Rb rfl rfl ?_))))))))
     simp; intro e; subst e; simp_all
    ·have pr15 : (x5 : Int) = x10 := eq_of_bne_f h15
     refine Ck (Xb (Xt (Cr (q1 rfl (D_add rfl rfl rfl (r := ((k + 1 : Nat) : Int)) (by omega) (by omega)) (Pe rfl (fun ac w' hf hs => ⟨_, ?_, k + 1, ?_, ?_, rfl, hf.weak ⟨rfl, rfl, rfl, rfl, trivial⟩, hs⟩))))))
     ·omega
     ·first | assumption | omega | simp
     ·exact idx_step hi (by assumption) (by assumption) (by simp_all)
   ·have pr4 : ¬ (((k : Nat) : Int) : Int) < ((a.length : Nat) : Int) := odF h4
    refine Cx (Xx (Xx (Xe (Xt (Sr (Pe rfl (Ct (Rb rfl rfl ?_))))))))
    simp; exact eq_of_idx (by omega) (fun i h => hi i (by omega))
theorem spec_l9SameInts (w : World) (v_a : Value) (a : (List Int)) (v_b : Value) (b : (List Int)) (h_a : Gd.rd w [v_a] a) (h_b : Gd.rd w [v_b] b) : Calls Tryz.prog 180 [v_a, v_b].toArray w (Val w (.bool (decide (a = b)))) := by
 have hm1 := rd_max h_a
 have hm2 := rd_max h_b
 refine enter 26 Tryz.func180 rfl rfl rfl (Sr (Pe rfl (Cq (Sr (p1 rfl (q1 rfl (Dl s_35 rfl rfl (rd_sl h_a)) (p1 rfl (q1 rfl (Dl s_35 rfl rfl (rd_sl h_b)) (Pe rfl (Ci _ rfl (fun h3 => ?_) (fun h3 => ?_)))))))))))
 ·have pr3 : (((a.length : Nat) : Int) : Int) ≠ ((b.length : Nat) : Int) := bne_iff_ne.1 h3
  refine Sr (Pe rfl (Ct (Xr (Rb rfl rfl ?_))))
  simp; intro e; subst e; simp_all
 ·have pr3 : (((a.length : Nat) : Int) : Int) = ((b.length : Nat) : Int) := eq_of_bne_f h3
  refine Sk (Cq (Sr (Pe rfl (Cb (Cl (fun m_ ac w' => ∃ (k : Nat), (k ≤ a.length) ∧ (∀ i, i < k → a[i]? = b[i]?) ∧ m_ = a.length - k ∧ Fits ac 26 [(0, v_a), (1, v_b), (5, (.int .i64 ((k : Nat) : Int)))] ∧ St w ([]) w') ?_ ?_)))))
  ·refine fun ac w' hf hs => ⟨_, 0, ?_, ?_, rfl, hf.weak ⟨rfl, rfl, rfl, trivial⟩, hs⟩
   ·first | assumption | omega | simp
   ·intro i hi; omega
  ·rintro m_ ac w' ⟨k, hk, hi, rfl, hf, hs⟩
   refine D.use ?_ hf hs
   clear hf hs ac w'
   refine Cq (Sr (P2 rfl rfl (q1 rfl (Dl s_35 rfl rfl (rd_sl h_a)) (Pe rfl (Ci _ rfl (fun h4 => ?_) (fun h4 => ?_))))))
   ·have pr4 : (((k : Nat) : Int) : Int) < ((a.length : Nat) : Int) := odT h4
    refine Sk (Cq (Cb (Cq (C_draw mixed [] (by kernel_rfl) (Tk 0 rfl (by kernel_rfl) rfl (rp rfl) (Tk 1 rfl (by kernel_rfl) rfl (rp rfl) ?_))))))
    obtain ⟨x5, hx6⟩ := sL (l := a) (i := k) (by omega)
    obtain ⟨es7, at8, hr9⟩ := rd_elem (n := 1) rfl h_a hx6
    obtain rfl : es7 = [.int .i64 x5] := hr9
    refine Tk 2 rfl (by kernel_rfl) rfl (D_ix (l := a) (j := k) s_35 rfl rfl rfl (fun w' hs => (rA hs h_a)) rfl (lS hx6)) (Tk 3 rfl (by kernel_rfl) rfl (lr0 o_3 rfl rfl at8 rfl) (Tk 4 rfl (by kernel_rfl) rfl (rp rfl) (Tk 5 rfl (by kernel_rfl) rfl (rp rfl) ?_)))
    obtain ⟨x10, hx11⟩ := sL (l := b) (i := k) (by omega)
    obtain ⟨es12, at13, hr14⟩ := rd_elem (n := 1) rfl h_b hx11
    obtain rfl : es12 = [.int .i64 x10] := hr14
    refine Tk 6 rfl (by kernel_rfl) rfl (D_ix (l := b) (j := k) s_35 rfl rfl rfl (fun w' hs => (rA hs h_b)) rfl (lS hx11)) (Tk 7 rfl (by kernel_rfl) rfl (lr0 o_3 rfl rfl at13 rfl) (Tk 8 rfl (by kernel_rfl) rfl (rp rfl) (tE (by kernel_rfl) (Xt (Ci _ rfl (fun h15 => ?_) (fun h15 => ?_))))))
    ·have pr15 : (x5 : Int) ≠ x10 := bne_iff_ne.1 h15
     refine Sr (Pe rfl (Ct (Xq (Xr (Xr (Xq (Xr (Rb rfl rfl ?_))))))))
     simp; intro e; subst e; simp_all
    ·have pr15 : (x5 : Int) = x10 := eq_of_bne_f h15
     refine Ck (Xb (Xt (Cr (p1 rfl (q1 rfl (D_add rfl rfl rfl (r := ((k + 1 : Nat) : Int)) (by omega) (by omega)) (Pe rfl (fun ac w' hf hs => ⟨_, ?_, k + 1, ?_, ?_, rfl, hf.weak ⟨rfl, rfl, rfl, trivial⟩, hs⟩)))))))
     ·omega
     ·first | assumption | omega | simp
     ·exact idx_step hi (by assumption) (by assumption) (by simp_all)
   ·have pr4 : ¬ (((k : Nat) : Int) : Int) < ((a.length : Nat) : Int) := odF h4
    refine Cx (Xx (Xx (Xe (Xt (Sr (Pe rfl (Ct (Rb rfl rfl ?_))))))))
    simp; exact eq_of_idx (by omega) (fun i h => hi i (by omega))
theorem impl_sameFiring (w : World) (c_a : List Value) (a : Firing) (c_b : List Value) (b : Firing) (h_a : Gd.rd w c_a a) (h_b : Gd.rd w c_b b) : Calls Tryz.prog 136 [(.agg c_a.toArray), (.agg c_b.toArray)].toArray w (Val w (.bool (decide (a = b)))) := by
 obtain ⟨u1, rfl, hu2⟩ := open_Firing h_a
 have hm3 := rd_max hu2
 obtain ⟨u4, rfl, hu5⟩ := open_Firing h_b
 have hm6 := rd_max hu5
 refine enter 17 Tryz.func136 rfl rfl rfl (Sr (li rfl (D_box rfl rfl rfl rfl rfl fun g7 => ?_)))
 refine li rfl (D_box rfl rfl rfl rfl rfl fun g8 => ?_)
 refine Pe rfl (Dh ([bx g8 [(.string b.Rule), u4], bx g7 [(.string a.Rule), u1]]) rfl (Sr (q1 rfl (Db f_168_0 rfl rfl (q := 0) rfl) (q1 rfl (lb 1 o_9 rfl rfl rfl rfl) (q1 rfl (Db f_168_0 rfl rfl (q := 0) rfl) (q1 rfl (lb 0 o_9 rfl rfl rfl rfl) (q1 rfl (D_eqS rfl rfl rfl) (p1 rfl (gs 10 rfl rfl (fun h9 => ?_) (fun h9 => ?_))))))))))
 ·have pr9 : (a.Rule : ByteArray) = b.Rule := odT h9
  refine q1 rfl (Db f_168_1 rfl rfl (q := 1) rfl) (q1 rfl (lb 1 o_35 rfl rfl rfl rfl) (q1 rfl (Db f_168_1 rfl rfl (q := 1) rfl) (q1 rfl (lb 0 o_35 rfl rfl rfl rfl) (li rfl (cv b_185 rfl rfl rfl rfl (fun w' hs => (impl_sameInts w' u1 a.Times u4 b.Times (rA hs hu2) (rA hs hu5))) ?_)))))
  refine P2 rfl rfl (Dx (Ct (Rb rfl rfl ?_)))
  show ((decide (a.Times = b.Times)) : Bool) = _
  cases a; cases b; simp_all
 ·have pr9 : ¬ (a.Rule : ByteArray) = b.Rule := odF h9
  refine n1 rfl (n1 rfl (n1 rfl (n1 rfl (n1 rfl (P2 rfl rfl (Dx (Ct (Rb rfl rfl ?_))))))))
  cases a; cases b; simp_all
end Go.Sy.Num2
