/-
  Contracts of functions of the program, walked (printed by a program of ours).
  Conditions: those that each theorem states.
-/
import Derived.Test.YtobihkjhlopggaaGreatDoorFct
import Derived.Test.YtobihkjhlopggaaGreatDoorEng3
import Derived.Test.YtobihkjhlopggaaGreatDoorFmt1
import Derived.Test.YtobihkjhlopggaaGreatDoorNum
import Derived.Test.YtobihkjhlopggaaGreatDoorShelf
set_option linter.unusedVariables false
set_option maxRecDepth 20000
namespace Go.Sy.Num1
open Go Go.RowKit Go.Proofs Go.Sy
theorem ifc_278 : Tryz.prog.isIface 278 = true := by kernel_rfl
open Go.Sy.Bel1 Go.Sy.Ev1 Go.Sy.Ev2 Go.Sy.Fmt1 Go.Sy.Eng1 Go.Sy.Eng2 Go.Sy.Eng3
theorem strconv_Atoi_c (w : World) (s : ByteArray) (hl : s.size ≤ 18) (htb : Tb w) : Cy 251 [Value.string s] w (fun e w' => ∃ x, e = .returned (.tuple #[.int .i64 (aN s), x]) ∧ ErrV (aE s) x ∧ Ex w w') := by
 cases e : Lib.atoi s.data.toList with
 | some n =>
  refine (Tryz.strconv_Atoi s n hl e w).mono fun e' w' ⟨he, t, hw⟩ => ⟨.nilIface, ?_, .inr ⟨?_, Y⟩, ?_⟩
  ·rw [he]; simp [aN, e]
  ·simp [aE, e]
  ·rw [hw]; exact Go.Joins.below_bytesWorld _ w 5 t (Nat.le_refl _)
 | none =>
  obtain ⟨tp, p, hv⟩ := htb.2;refine (Tryz.strconv_Atoi_err_var s hl e tp p w hv).mono fun e' w' ⟨N, he, _, _, hb⟩ => ?_
  have h0 : aN s = 0 := by simp [aN, e]
  have h1 : aE s = true := by simp [aE, e]
  rw [h0, h1];exact ⟨_, he, .inl ⟨rfl, _, _, rfl⟩, hb⟩
theorem strings_Compare_c (w : World) (a b : ByteArray) : Cy 155 [Value.string a, Value.string b] w (Val w (iv (cmS a b))) :=
 (Tryz.strings_Compare a b w).mono fun e w' ⟨he, hw⟩ => ⟨by rw [he, cmp_str], hw ▸ Ex.refl w⟩
theorem impl_ParseInt {w : World} {s : ByteArray} (htb : Tb w) : Cy 218 [(.string s)] w (Res2 w (pI s : Int) (pO s : Bool)) := by
 refine enter 36 Tryz.func218 Y Y Y (Sr (P2 Y Y (Dx (Cq (Sr (p1 Y (q1 Y (D_lens us_9 Y Y) (P2 Y Y (gxd 9 Y Y (fun pr1 => ?_) (fun pr1 => ?_))))))))))
 ·refine n1 Y (n1 Y (n1 Y (Pe Y (C_t Y (Sr (P2 Y Y (Dx (Ct (Xr (D_fi 0 (D_fbool false (D_pkO [1, 0] Y (R_2g Y (rvt Y) (rvt Y) fun w' hs => res2_of (c1 := [(iv 0)]) (c2 := [(.bool false)]) hs ?_ ?_)))))))))))))
  ·show (0 : Int) = pI s;exact (pn_sz (by omega)).1
  ·show (false : Bool) = pO s;exact (pn_sz (by omega)).2
 ·refine p1 Y (q1 Y (D_lens us_9 Y Y) (P2 Y Y (Dx (Cd Y (fun pr2 => ?_) (fun pr2 => ?_)))))
  ·refine Sr (P2 Y Y (Dx (Ct (Xr (D_fi 0 (D_fbool false (D_pkO [1, 0] Y (R_2g Y (rvt Y) (rvt Y) fun w' hs => res2_of (c1 := [(iv 0)]) (c2 := [(.bool false)]) hs ?_ ?_))))))))
   ·show (0 : Int) = pI s;exact (pn_sz (by omega)).1
   ·show (false : Bool) = pO s;exact (pn_sz (by omega)).2
  ·refine Sk (Sr (p1 Y (li Y (cve (g := fun x => .tuple #[.int .i64 (aN s), x]) (J := ErrV (aE s)) b_251 Y Y Y Y (fun w' hs => (strconv_Atoi_c w' s (by omega) (Tb.ext htb hs.bel))) fun er3 her3 => ?_))));refine P3 Y Y Y (P2 Y Y (Dx (D_wk [0, 4, 5] Y (Cq (Cq ?_)))));have har := aN_rng s (by omega);refine Cr (p1 Y (q1 Y (D_errne ifc_278 Y Y her3) (p1 Y (gs 21 Y Y (fun h4 => ?_) (fun h4 => ?_)))))
   ·refine n1 Y (n1 Y (P2 Y Y (n1 Y (n1 Y (P2 Y Y (n1 Y (n1 Y (n1 Y (n1 Y (Pe Y (D_wk [4, 34] Y (C_t Y (Sr (P2 Y Y (Dx (Ct (Xr (D_fi 0 (D_fbool false ?_)))))))))))))))))));refine D_pkO [1, 0] Y (R_2g Y (rvt Y) (rvt Y) fun w' hs => res2_of (c1 := [(iv 0)]) (c2 := [(.bool false)]) hs ?_ ?_)
    ·show (0 : Int) = pI s;exact (pn_ae (by assumption)).1
    ·show (false : Bool) = pO s;exact (pn_ae (by assumption)).2
   ·refine P3 Y Y Y (p1 Y (gxd 25 Y Y (fun pr5 => ?_) (fun pr5 => ?_)))
    ·refine n1 Y (n1 Y (P2 Y Y (n1 Y (n1 Y (n1 Y (n1 Y (Pe Y (D_wk [4, 34] Y (C_t Y (Sr (P2 Y Y (Dx (Ct (Xr (D_fi 0 (D_fbool false (D_pkO [1, 0] Y (R_2g Y (rvt Y) (rvt Y) fun w' hs => res2_of (c1 := [(iv 0)]) (c2 := [(.bool false)]) hs ?_ ?_))))))))))))))))))
     ·show (0 : Int) = pI s;exact (pn_rng (by omega)).1
     ·show (false : Bool) = pO s;exact (pn_rng (by omega)).2
    ·refine P3 Y Y Y (p1 Y (gxd 29 Y Y (fun pr6 => ?_) (fun pr6 => ?_)))
     ·refine n1 Y (n1 Y (n1 Y (n1 Y (Pe Y (D_wk [4, 34] Y (C_t Y (Sr (P2 Y Y (Dx (Ct (Xr (D_fi 0 (D_fbool false (D_pkO [1, 0] Y (R_2g Y (rvt Y) (rvt Y) fun w' hs => res2_of (c1 := [(iv 0)]) (c2 := [(.bool false)]) hs ?_ ?_)))))))))))))))
      ·show (0 : Int) = pI s;exact (pn_rng (by omega)).1
      ·show (false : Bool) = pO s;exact (pn_rng (by omega)).2
     ·refine p1 Y (li Y (cv b_252 Y Y Y Y (fun w' hs => (impl_FormatInt (by omega) (Tb.ext htb hs.bel))) ?_));refine p1 Y (q1 Y (D_neS Y Y Y) (Pe Y (D_wk [4, 34] Y (Cnd Y (fun pr7 => ?_) (fun pr7 => ?_)))))
      ·refine Sr (P2 Y Y (Dx (Ct (Xr (D_fi 0 (D_fbool false (D_pkO [1, 0] Y (R_2g Y (rvt Y) (rvt Y) fun w' hs => res2_of (c1 := [(iv 0)]) (c2 := [(.bool false)]) hs ?_ ?_))))))))
       ·show (0 : Int) = pI s;exact (pn_ne (by assumption)).1
       ·show (false : Bool) = pO s;exact (pn_ne (by assumption)).2
      ·refine Sk (Sr (P3 Y Y Y (Dx (Ct (D_fi (aN s) (D_fbool true (D_pkO [1, 0] Y (R_2g Y (rvt Y) (rvt Y) fun w' hs => res2_of (c1 := [(iv (aN s))]) (c2 := [(.bool true)]) hs ?_ ?_))))))))
       ·show ((aN s) : Int) = pI s;exact (pn_t (n := aN s) (by omega) (by omega) (by assumption)).1
       ·show (true : Bool) = pO s;exact (pn_t (n := aN s) (by omega) (by omega) (by assumption)).2
theorem spec_ParseInt {w : World} {s : ByteArray} : Cy 206 [(.string s)] w (Res2 w (pI s : Int) (pO s : Bool)) := by
 refine enter 39 Tryz.func206 Y Y Y (Sr (P2 Y Y (Dx (Cq (Sr (p1 Y (q1 Y (D_lens us_9 Y Y) (li Y (cv b_141 Y Y Y Y (fun w' hs => spec_l1In) ?_)))))))));refine Pe Y (CN Y (fun h1n => ?_) (fun h1n => ?_))
 ·refine Sr (P2 Y Y (Dx (Ct (Xr (D_fi 0 (D_fbool false (D_pkO [1, 0] Y (R_2g Y (rvt Y) (rvt Y) fun w' hs => res2_of (c1 := [(iv 0)]) (c2 := [(.bool false)]) hs ?_ ?_))))))))
  ·show (0 : Int) = pI s;exact (pn_sz (by unfold inR at *; simp_all; omega)).1
  ·show (false : Bool) = pO s;exact (pn_sz (by unfold inR at *; simp_all; omega)).2
 ·refine Sk (Sr (Pe Y (Cq (Sr (Pe Y (Cb (Cl (fun m_ ac w' => ∃ (k : Nat), ∃ (nn : Int), (k ≤ s.size) ∧ (dvT s k nn) ∧ m_ = s.size - k ∧ Fits ac 39 [(0, (.string s)), (4, (iv nn)), (5, (nv k))] ∧ St w ([]) w') ?_ ?_)))))))
  ·refine fun ac w' hf hs => ⟨_, 0, 0, ?_, ?_, Y, hf.wk Y, hs⟩
   ·omega
   ·exact dvT_zero s
  ·rintro m_ ac w' ⟨k, nn, hk, hd, rfl, hf, hs⟩;refine D.use ?_ hf hs;clear hf hs ac w';have hz4 : s.size ≤ 4 := by unfold inR at *; simp_all; omega
   have hdl0 := dvT_le hd (by omega);refine Cq (Sr (P2 Y Y (q1 Y (D_lens us_9 Y Y) (Pe Y (Cd Y (fun pr2 => ?_) (fun pr2 => ?_))))))
   ·refine Sk (Cq (Cb (Cq (Sr (P2 Y Y (q1 Y (D_sidx (j := k) us_9 Y Y Y Y (by omega)) (P2 Y Y (gxd 20 Y Y (fun pr3 => ?_) (fun pr3 => ?_)))))))))
    ·refine n1 Y (n1 Y (n1 Y (n1 Y (Pe Y (C_t Y (Sr (P2 Y Y (Dx (Ct (Xr (Xq (Xr (Xr (Xq (Xr (D_fi 0 (D_fbool false (D_pkO [1, 0] Y (R_2g Y (rvt Y) (rvt Y) fun w' hs => res2_of (c1 := [(iv 0)]) (c2 := [(.bool false)]) hs ?_ ?_)))))))))))))))))))
     ·show (0 : Int) = pI s;exact (sp_dig (k := k) (by omega) (by omega)).1
     ·show (false : Bool) = pO s;exact (sp_dig (k := k) (by omega) (by omega)).2
    ·refine P2 Y Y (q1 Y (D_sidx (j := k) us_9 Y Y Y Y (by omega)) (P2 Y Y (Dx (Cd Y (fun pr4 => ?_) (fun pr4 => ?_)))))
     ·refine Sr (P2 Y Y (Dx (Ct (Xr (Xq (Xr (Xr (Xq (Xr (D_fi 0 (D_fbool false (D_pkO [1, 0] Y (R_2g Y (rvt Y) (rvt Y) fun w' hs => res2_of (c1 := [(iv 0)]) (c2 := [(.bool false)]) hs ?_ ?_)))))))))))))
      ·show (0 : Int) = pI s;exact (sp_dig (k := k) (by omega) (by omega)).1
      ·show (false : Bool) = pO s;exact (sp_dig (k := k) (by omega) (by omega)).2
     ·refine Sk (Cr ?_);have hdl := dvT_le hd (by omega);have hsr := sB_rng s k;refine p1 Y (q1 Y (D_mulR Y Y Y (by omega)) (P2 Y Y (q1 Y (D_sidx (j := k) us_9 Y Y Y Y (by omega)) (q1 Y (D_sub8 Y Y Y (by omega)) (q1 Y (D_cvw ui_3 ⟨_, u8_5⟩ Y Y (by omega)) (q1 Y (D_add Y Y Y Y (by omega)) (p1 Y (De (Xb (Xt (D_wk [0, 4, 5] Y (Cr (p1 Y (ad (k + 1) Y Y Y Y (by omega) (by omega) (Pe Y (fun ac w' hf hs => ⟨_, ?_, k + 1, ((10 * nn) + ((sB s k) - 48)), ?_, ?_, Y, hf.wk Y, hs⟩))))))))))))))))
      ·omega
      ·omega
      ·exact dvT_step hd (by omega) (by omega) (by omega)
   ·refine Cx (Xx (Xx (Xe (Xt (Cq (Sr (p1 Y (li Y (cv b_244 Y Y Y Y (fun w' hs => (spec_FormatInt (by omega))) ?_)))))))));refine p1 Y (q1 Y (D_neS Y Y Y) (Dx (Cnd Y (fun pr5 => ?_) (fun pr5 => ?_))))
    ·refine Sr (P2 Y Y (Dx (Ct (Xr (D_fi 0 (D_fbool false (D_pkO [1, 0] Y (R_2g Y (rvt Y) (rvt Y) fun w' hs => res2_of (c1 := [(iv 0)]) (c2 := [(.bool false)]) hs ?_ ?_))))))))
     ·show (0 : Int) = pI s;exact (sp_ne hd (by omega) (by assumption)).1
     ·show (false : Bool) = pO s;exact (sp_ne hd (by omega) (by assumption)).2
    ·refine Sk (Sr (P3 Y Y Y (Dx (Ct (D_fi nn (D_fbool true (D_pkO [1, 0] Y (R_2g Y (rvt Y) (rvt Y) fun w' hs => res2_of (c1 := [(iv nn)]) (c2 := [(.bool true)]) hs ?_ ?_))))))))
     ·show (nn : Int) = pI s;exact (pn_t (n := nn) (by omega) (by omega) (by assumption)).1
     ·show (true : Bool) = pO s;exact (pn_t (n := nn) (by omega) (by omega) (by assumption)).2
theorem impl_compareInts {w : World} {a : Int} {b : Int} : Cy 50 [(iv a), (iv b)] w (Val w (iv (cmZ a b))) := by
 refine enter 13 Tryz.func50 Y Y Y (Sr (Pe Y (Cq (Cb (Sr (P3 Y Y Y (Pe Y (Cd Y (fun pr1 => ?_) (fun pr1 => ?_)))))))))
 ·refine Sr (Pe Y (Ct (Xq (Xr (Ri Y Y ?_)))));show ((-1) : Int) = _;unfold cmZ; repeat (split <;> try omega)
 ·refine Sr (P3 Y Y Y (Pe Y (Cd Y (fun pr2 => ?_) (fun pr2 => ?_))))
  ·refine Sr (Pe Y (Ct (Xq (Xr (Ri Y Y ?_)))));show (1 : Int) = _;unfold cmZ; repeat (split <;> try omega)
  ·refine Ck (Xb (Xt (Sr (Pe Y (Ct (Ri Y Y ?_))))));show (0 : Int) = _;unfold cmZ; repeat (split <;> try omega)
theorem spec_l1Cmp {w : World} {a : ByteArray} {b : ByteArray} : Cy 150 [(.string a), (.string b)] w (Val w (iv (cmS a b))) := by
 refine enter 13 Tryz.func150 Y Y Y (Sr (Pe Y (Cq (Cb (Sr (P2 Y Y (q1 Y (D_ltS Y Y Y) (Pe Y (Ci _ Y (fun h1 => ?_) (fun h1 => ?_))))))))))
 ·refine Sr (Pe Y (Ct (Xq (Xr (Ri Y Y ?_)))));show ((-1) : Int) = _;unfold cmS; simp_all
 ·refine Sr (P2 Y Y (q1 Y (D_gtS Y Y Y) (Pe Y (CN Y (fun h2n => ?_) (fun h2n => ?_)))))
  ·refine Sr (Pe Y (Ct (Xq (Xr (Ri Y Y ?_)))));show (1 : Int) = _;refine cmS_gt ?_ ?_ <;> simp_all
  ·refine Ck (Xb (Xt (Sr (Pe Y (Ct (Ri Y Y ?_))))));show (0 : Int) = _;unfold cmS; simp_all
theorem impl_CompareAtoms {w : World} {a : ByteArray} {b : ByteArray} (htb : Tb w) : Cy 156 [(.string a), (.string b)] w (Val w (iv (cmpA a b))) := by
 refine enter 34 Tryz.func156 Y Y Y (Sr (Pe Y (Sr (p1 Y (li Y (cr2 b_218 Y Y Y Y (fun w' hs => (impl_ParseInt (Tb.ext htb hs.bel))) fun cs1 cs2 => ?_))))));refine Dp (fun w' hs => show cs1 = [(iv (pI a))] from rO (k := 0) hs Y) ?_;rintro rfl;refine Dp (fun w' hs => show cs2 = [(.bool (pO a))] from rO (k := 1) hs Y) ?_;rintro rfl;refine D_re 11 (v' := (.tuple #[(iv (pI a)), (.bool (pO a))])) Y Y Y (D_pkO [] Y (P3 Y Y Y (P2 Y Y (Dx (Sr (p1 Y (li Y (cr2 b_218 Y Y Y Y (fun w' hs => (impl_ParseInt (Tb.ext htb hs.bel))) fun cs3 cs4 => ?_))))))));refine Dp (fun w' hs => show cs3 = [(iv (pI b))] from rO (k := 0) hs Y) ?_;rintro rfl;refine Dp (fun w' hs => show cs4 = [(.bool (pO b))] from rO (k := 1) hs Y) ?_;rintro rfl;refine D_re 16 (v' := (.tuple #[(iv (pI b)), (.bool (pO b))])) Y Y Y (D_pkO [] Y (P3 Y Y Y (P2 Y Y (Dx (Cq (Cb (Sr (P2 Y Y (gs 21 Y Y (fun h5 => ?_) (fun h5 => ?_))))))))))
 ·refine P3 Y Y Y (Dx (D_wk [0, 1, 5, 6, 7, 8, 19] Y (Ci _ Y (fun h6 => ?_) (fun h6 => ?_))))
  ·refine Sr (P2 Y Y (li Y (cv b_50 Y Y Y Y (fun w' hs => impl_compareInts) ?_)));refine Pe Y (Ct (Xq (Xr (Ri Y Y ?_))));show ((cmZ (pI a) (pI b)) : Int) = _;unfold cmpA; simp_all
  ·refine Sr (P2 Y Y (Dx (C_kt Y h5 (Sr (Pe Y (Ct (Xq (Xr (Ri Y Y ?_)))))))));show ((-1) : Int) = _;unfold cmpA; simp_all
 ·refine n1 Y (P2 Y Y (Dx (D_wk [0, 1, 5, 6, 7, 8, 19] Y (C_f Y (Sr (P2 Y Y (Dx (C_kf Y h5 (Sr (P2 Y Y (Dx (Ci _ Y (fun h10 => ?_) (fun h10 => ?_)))))))))))))
  ·refine Sr (Pe Y (Ct (Xq (Xr (Ri Y Y ?_)))));show (1 : Int) = _;unfold cmpA; simp_all
  ·refine Ck (Xb (Xt (Sr (P2 Y Y (li Y (cv b_155 Y Y Y Y (fun w' hs => (strings_Compare_c w' a b)) ?_))))));refine Pe Y (Ct (Ri Y Y ?_));show ((cmS a b) : Int) = _;unfold cmpA; simp_all
theorem spec_CompareAtoms {w : World} {a : ByteArray} {b : ByteArray} : Cy 151 [(.string a), (.string b)] w (Val w (iv (cmpA a b))) := by
 refine enter 54 Tryz.func151 Y Y Y (Sr (Pe Y (Sr (p1 Y (li Y (cr2 b_206 Y Y Y Y (fun w' hs => spec_ParseInt) fun cs1 cs2 => ?_))))));refine Dp (fun w' hs => show cs1 = [(iv (pI a))] from rO (k := 0) hs Y) ?_;rintro rfl;refine Dp (fun w' hs => show cs2 = [(.bool (pO a))] from rO (k := 1) hs Y) ?_;rintro rfl;refine D_re 11 (v' := (.tuple #[(iv (pI a)), (.bool (pO a))])) Y Y Y (D_pkO [] Y (P3 Y Y Y (P2 Y Y (Dx (Sr (p1 Y (li Y (cr2 b_206 Y Y Y Y (fun w' hs => spec_ParseInt) fun cs3 cs4 => ?_))))))));refine Dp (fun w' hs => show cs3 = [(iv (pI b))] from rO (k := 0) hs Y) ?_;rintro rfl;refine Dp (fun w' hs => show cs4 = [(.bool (pO b))] from rO (k := 1) hs Y) ?_;rintro rfl;refine D_re 16 (v' := (.tuple #[(iv (pI b)), (.bool (pO b))])) Y Y Y (D_pkO [] Y (P3 Y Y Y (P2 Y Y (Dx (Cq (Cb (Cq (Sr (P2 Y Y (gs 21 Y Y (fun h5 => ?_) (fun h5 => ?_)))))))))))
 ·refine P3 Y Y Y (gs 24 Y Y (fun h6 => ?_) (fun h6 => ?_))
  ·refine P3 Y Y Y (P2 Y Y (Dx (D_wk [0, 1, 5, 6, 7, 8, 19] Y (Cd Y (fun pr7 => ?_) (fun pr7 => ?_)))))
   ·refine Sk (C_kt Y (decide_eq_true pr7) (Sr (Pe Y (Ct (Xq (Xr (Ri Y Y ?_)))))));show ((-1) : Int) = _;unfold cmpA cmZ; simp_all; try omega
   ·refine Cr (P2 Y Y (gkt 30 Y Y h5 (P3 Y Y Y (Pe Y (C_kf Y (nt_f h6) ?_)))));have h27 : (!(pO b)) = false := (nt_f h6);refine Cq (Sr (P2 Y Y (gkt 36 Y Y h5 (P3 Y Y Y (gkt 39 Y Y h6 (P3 Y Y Y (P2 Y Y (Dx (D_wk [0, 1, 6, 8, 34] Y (Cd Y (fun pr30 => ?_) (fun pr30 => ?_)))))))))))
    ·refine Sk (C_kt Y (decide_eq_true pr30) (Sr (Pe Y (Ct (Xq (Xr (Ri Y Y ?_)))))));show (1 : Int) = _;unfold cmpA cmZ; simp_all; try omega
    ·refine Cr (P2 Y Y (gkt 45 Y Y h6 (P3 Y Y Y (Pe Y (C_kf Y (nt_f h5) ?_)))));have h34 : (!(pO a)) = false := (nt_f h5);refine Sr (P2 Y Y (Dx (C_kt Y h5 (Sr (Pe Y (Ct (Xq (Xr (Ri Y Y ?_)))))))));show (0 : Int) = _;unfold cmpA cmZ; simp_all; try omega
  ·refine n1 Y (n1 Y (n1 Y (P2 Y Y (Dx (D_wk [0, 1, 5, 6, 7, 8, 19] Y (C_f Y (Cr (P2 Y Y (gkt 30 Y Y h5 (P3 Y Y Y (Pe Y (C_kt Y (nf_t h6) ?_))))))))))));have h63 : (!(pO b)) = true := (nf_t h6);refine Sr (Pe Y (Ct (Xq (Xr (Ri Y Y ?_)))));show ((-1) : Int) = _;unfold cmpA cmZ; simp_all; try omega
 ·refine n1 Y (P2 Y Y (n1 Y (n1 Y (n1 Y (P2 Y Y (Dx (D_wk [0, 1, 5, 6, 7, 8, 19] Y (C_f Y (Cr (P2 Y Y (gkf 30 Y Y h5 (n1 Y (n1 Y (P2 Y Y (Dx (C_f Y (Cq (Sr (P2 Y Y (gkf 36 Y Y h5 ?_))))))))))))))))))));refine n1 Y (P2 Y Y (n1 Y (n1 Y (n1 Y (P2 Y Y (Dx (D_wk [0, 1, 6, 8, 34] Y (C_f Y (Cr (P2 Y Y (gs 45 Y Y (fun h130 => ?_) (fun h130 => ?_))))))))))))
  ·refine P3 Y Y Y (Pe Y (C_kt Y (nf_t h5) ?_));have h131 : (!(pO a)) = true := (nf_t h5);refine Sr (Pe Y (Ct (Xq (Xr (Ri Y Y ?_)))));show (1 : Int) = _;unfold cmpA cmZ; simp_all; try omega
  ·refine n1 Y (n1 Y (P2 Y Y (Dx (C_f Y (Sr (P2 Y Y (Dx (C_kf Y h5 (Ck (Xb (Xt (Sr (P2 Y Y (li Y (cv b_150 Y Y Y Y (fun w' hs => spec_l1Cmp) ?_)))))))))))))));refine Pe Y (Ct (Ri Y Y ?_));show ((cmS a b) : Int) = _;unfold cmpA cmZ; simp_all; try omega
theorem impl_CompareFacts {w : World} {c_a : List Value} {a : Fact} {c_b : List Value} {b : Fact} (h_a : Gd.rd w c_a a) (h_b : Gd.rd w c_b b) (htb : Tb w) : Cy 102 [(.agg c_a.toArray), (.agg c_b.toArray)] w (Val w (iv (cmpF a b))) := by
 obtain ⟨u1, rfl, hu2⟩ := open_Fact h_a;have hm3 := rd_max hu2;obtain ⟨u4, rfl, hu5⟩ := open_Fact h_b;have hm6 := rd_max hu5;refine enter 51 Tryz.func102 Y Y Y (Sr (li Y (D_box Y Y Y Y Y fun g7 => ?_)));refine li Y (D_box Y Y Y Y Y fun g8 => ?_);refine Pe Y (Dh ([bx g8 [(.string b.Rel), u4], bx g7 [(.string a.Rel), u1]]) Y (Cq (Sr (fl 1 f_124_0 o_9 Y Y Y Y Y Y Y Y Y (fl 0 f_124_0 o_9 Y Y Y Y Y Y Y Y Y (li Y (cv b_155 Y Y Y Y (fun w' hs => (strings_Compare_c w' a.Rel b.Rel)) ?_)))))));refine Pe Y (Sr (P2 Y Y (Dx (Cn Y (fun pr9 => ?_) (fun pr9 => ?_)))))
 ·refine Sr (P2 Y Y (Dx (Ct (Xr (Ri Y Y ?_)))));show ((cmS a.Rel b.Rel) : Int) = _;exact cmpF_rel (by omega)
 ·refine Sk (Cq (Sr (Pe Y (Cb (Cl (fun m_ ac w' => ∃ (k : Nat), (k ≤ a.Args.length) ∧ (k ≤ b.Args.length) ∧ (∀ i, i < k → ∀ x y, a.Args[i]? = some x → b.Args[i]? = some y → cmpA x y = 0) ∧ m_ = a.Args.length - k ∧ Fits ac 51 [(2, (pv g7)), (3, (pv g8)), (6, (nv k))] ∧ St w ([bx g8 [(.string b.Rel), u4], bx g7 [(.string a.Rel), u1]]) w') ?_ ?_)))))
  ·refine fun ac w' hf hs => ⟨_, 0, ?_, ?_, ?_, Y, hf.wk Y, hs⟩
   ·omega
   ·omega
   ·intro i hi; omega
  ·rintro m_ ac w' ⟨k, hka, hkb, hi, rfl, hf, hs⟩;refine D.use ?_ hf hs;clear hf hs ac w';refine Cq (Sr (p1 Y (fl 1 f_124_1 o_105 Y Y Y Y Y Y Y Y Y (q1 Y (Dl s_105 Y Y (rd_sl hu2)) (P2 Y Y (gxd 21 Y Y (fun pr10 => ?_) (fun pr10 => ?_)))))))
   ·refine p1 Y (fl 0 f_124_1 o_105 Y Y Y Y Y Y Y Y Y (q1 Y (Dl s_105 Y Y (rd_sl hu5)) (P2 Y Y (Dx (Cd Y (fun pr11 => ?_) (fun pr11 => ?_))))))
    ·refine Sk (Cq (Cb (Cq (C_draw mixed [10, 11] (by kernel_rfl) (Tk 0 Y (by kernel_rfl) Y (Db f_124_1 Y Y (q := 1) Y) (Tk 1 Y (by kernel_rfl) Y (lb 1 o_105 Y Y Y Y) (tR 2 Y (by kernel_rfl) Y ?_)))))));obtain ⟨x0, x0h⟩ := sL (l := a.Args) (i := k) (by omega);obtain ⟨es12, at13, hr14⟩ := rd_elem (n := 1) rfl hu2 x0h;obtain rfl : es12 = [.string x0] := hr14;refine Tk 3 Y (by kernel_rfl) Y (D_ix (l := a.Args) (j := k) s_105 Y Y Y (fun w' hs => (rA hs hu2)) Y (lS x0h)) (Tk 4 Y (by kernel_rfl) Y (lr0 o_9 Y Y at13 Y) (Tk 5 Y (by kernel_rfl) Y (Db f_124_1 Y Y (q := 1) Y) (Tk 6 Y (by kernel_rfl) Y (lb 0 o_105 Y Y Y Y) (tR 7 Y (by kernel_rfl) Y ?_))));obtain ⟨y0, y0h⟩ := sL (l := b.Args) (i := k) (by omega);obtain ⟨es15, at16, hr17⟩ := rd_elem (n := 1) rfl hu5 y0h;obtain rfl : es15 = [.string y0] := hr17;refine Tk 8 Y (by kernel_rfl) Y (D_ix (l := b.Args) (j := k) s_105 Y Y Y (fun w' hs => (rA hs hu5)) Y (lS y0h)) (Tk 9 Y (by kernel_rfl) Y (lr0 o_9 Y Y at16 Y) (ty 10 Y (by kernel_rfl) Y (cv b_156 Y Y Y Y (fun w' hs => (impl_CompareAtoms (Tb.ext htb hs.bel))) ?_)));refine tZ Y (ty 11 Y (by kernel_rfl) Y (sv Y Y (rp Y) ?_));refine tZ Y (tE (by kernel_rfl) (Xt (D_wk [2, 3, 6, 7] Y (Sr (P2 Y Y (Dx (Cn Y (fun pr18 => ?_) (fun pr18 => ?_))))))))
     ·refine Sr (P2 Y Y (Dx (Ct (Xq (Xr (Xr (Xq (Xr (Ri Y Y ?_)))))))));show ((cmpA x0 y0) : Int) = _;exact cmpF_arg (cmS_eq (by omega)) hi x0h y0h (by omega)
     ·refine Ck (Xb (Xt (Cr (p1 Y (ad (k + 1) Y Y Y Y (by omega) (by omega) (Pe Y (fun ac w' hf hs => ⟨_, ?_, k + 1, ?_, ?_, ?_, Y, hf.wk Y, hs⟩)))))))
      ·omega
      ·omega
      ·omega
      ·refine forall_step hi ?_; intro x y hx hy; obtain rfl : x = x0 := Option.some.inj (hx.symm.trans x0h); obtain rfl : y = y0 := Option.some.inj (hy.symm.trans y0h); omega
    ·refine Cx (Xx (Xx (Xe (Xt (Sr (fl 1 f_124_1 o_105 Y Y Y Y Y Y Y Y Y (q1 Y (Dl s_105 Y Y (rd_sl hu2)) (fl 0 f_124_1 o_105 Y Y Y Y Y Y Y Y Y (q1 Y (Dl s_105 Y Y (rd_sl hu5)) (li Y (cv b_50 Y Y Y Y (fun w' hs => impl_compareInts) ?_)))))))))));refine Pe Y (Ct (Ri Y Y ?_));show ((cmZ ((a.Args.length : Nat) : Int) ((b.Args.length : Nat) : Int)) : Int) = _;exact cmpF_end (cmS_eq (by omega)) (fun i x y hx hy => hi i (by have := lS hx; have := lS hy; omega) x y hx hy)
   ·refine n1 Y (n1 Y (n1 Y (n1 Y (n1 Y (Pe Y (C_f Y (Cx (Xx (Xx (Xe (Xt (Sr (fl 1 f_124_1 o_105 Y Y Y Y Y Y Y Y Y (q1 Y (Dl s_105 Y Y (rd_sl hu2)) (fl 0 f_124_1 o_105 Y Y Y Y Y Y Y Y Y (q1 Y (Dl s_105 Y Y (rd_sl hu5)) (li Y (cv b_50 Y Y Y Y (fun w' hs => impl_compareInts) ?_))))))))))))))))));refine Pe Y (Ct (Ri Y Y ?_));show ((cmZ ((a.Args.length : Nat) : Int) ((b.Args.length : Nat) : Int)) : Int) = _;exact cmpF_end (cmS_eq (by omega)) (fun i x y hx hy => hi i (by have := lS hx; have := lS hy; omega) x y hx hy)
set_option maxHeartbeats 4000000 in
theorem spec_CompareFacts {w : World} {c_a : List Value} {a : Fact} {c_b : List Value} {b : Fact} (h_a : Gd.rd w c_a a) (h_b : Gd.rd w c_b b) : Cy 96 [(.agg c_a.toArray), (.agg c_b.toArray)] w (Val w (iv (cmpF a b))) := by
 obtain ⟨u1, rfl, hu2⟩ := open_Fact h_a;have hm3 := rd_max hu2;obtain ⟨u4, rfl, hu5⟩ := open_Fact h_b;have hm6 := rd_max hu5;refine enter 61 Tryz.func96 Y Y Y (Sr (li Y (D_box Y Y Y Y Y fun g7 => ?_)));refine li Y (D_box Y Y Y Y Y fun g8 => ?_);refine Pe Y (Dh ([bx g8 [(.string b.Rel), u4], bx g7 [(.string a.Rel), u1]]) Y (Cq (Sr (fl 1 f_124_0 o_9 Y Y Y Y Y Y Y Y Y (fl 0 f_124_0 o_9 Y Y Y Y Y Y Y Y Y (q1 Y (D_neS Y Y Y) (Dx (Cnd Y (fun pr9 => ?_) (fun pr9 => ?_)))))))))
 ·refine Sr (fl 1 f_124_0 o_9 Y Y Y Y Y Y Y Y Y (fl 0 f_124_0 o_9 Y Y Y Y Y Y Y Y Y (li Y (cv b_150 Y Y Y Y (fun w' hs => spec_l1Cmp) ?_))));refine Pe Y (Ct (Xr (Ri Y Y ?_)));show ((cmS a.Rel b.Rel) : Int) = _;exact cmpF_ne (by assumption)
 ·refine Sk (Cq (Sr (Pe Y (Cb (Cl (fun m_ ac w' => ∃ (k : Nat), (k ≤ a.Args.length) ∧ (k ≤ b.Args.length) ∧ (∀ i, i < k → ∀ x y, a.Args[i]? = some x → b.Args[i]? = some y → cmpA x y = 0) ∧ m_ = a.Args.length - k ∧ Fits ac 61 [(2, (pv g7)), (3, (pv g8)), (5, (nv k))] ∧ St w ([bx g8 [(.string b.Rel), u4], bx g7 [(.string a.Rel), u1]]) w') ?_ ?_)))))
  ·refine fun ac w' hf hs => ⟨_, 0, ?_, ?_, ?_, Y, hf.wk Y, hs⟩
   ·omega
   ·omega
   ·intro i hi; omega
  ·rintro m_ ac w' ⟨k, hka, hkb, hi, rfl, hf, hs⟩;refine D.use ?_ hf hs;clear hf hs ac w';refine Cq (Sr (p1 Y (fl 1 f_124_1 o_105 Y Y Y Y Y Y Y Y Y (q1 Y (Dl s_105 Y Y (rd_sl hu2)) (P2 Y Y (gxd 22 Y Y (fun pr10 => ?_) (fun pr10 => ?_)))))))
   ·refine p1 Y (fl 0 f_124_1 o_105 Y Y Y Y Y Y Y Y Y (q1 Y (Dl s_105 Y Y (rd_sl hu5)) (P2 Y Y (Dx (Cd Y (fun pr11 => ?_) (fun pr11 => ?_))))))
    ·refine Sk (Cq (Cb (Cq (C_draw mixed [10, 11] (by kernel_rfl) (Tk 0 Y (by kernel_rfl) Y (Db f_124_1 Y Y (q := 1) Y) (Tk 1 Y (by kernel_rfl) Y (lb 1 o_105 Y Y Y Y) (tR 2 Y (by kernel_rfl) Y ?_)))))));obtain ⟨x0, x0h⟩ := sL (l := a.Args) (i := k) (by omega);obtain ⟨es12, at13, hr14⟩ := rd_elem (n := 1) rfl hu2 x0h;obtain rfl : es12 = [.string x0] := hr14;refine Tk 3 Y (by kernel_rfl) Y (D_ix (l := a.Args) (j := k) s_105 Y Y Y (fun w' hs => (rA hs hu2)) Y (lS x0h)) (Tk 4 Y (by kernel_rfl) Y (lr0 o_9 Y Y at13 Y) (Tk 5 Y (by kernel_rfl) Y (Db f_124_1 Y Y (q := 1) Y) (Tk 6 Y (by kernel_rfl) Y (lb 0 o_105 Y Y Y Y) (tR 7 Y (by kernel_rfl) Y ?_))));obtain ⟨y0, y0h⟩ := sL (l := b.Args) (i := k) (by omega);obtain ⟨es15, at16, hr17⟩ := rd_elem (n := 1) rfl hu5 y0h;obtain rfl : es15 = [.string y0] := hr17;refine Tk 8 Y (by kernel_rfl) Y (D_ix (l := b.Args) (j := k) s_105 Y Y Y (fun w' hs => (rA hs hu5)) Y (lS y0h)) (Tk 9 Y (by kernel_rfl) Y (lr0 o_9 Y Y at16 Y) (ty 10 Y (by kernel_rfl) Y (cv b_151 Y Y Y Y (fun w' hs => spec_CompareAtoms) ?_)));refine tZ Y (ty 11 Y (by kernel_rfl) Y (sv Y Y (rp Y) ?_));refine tZ Y (tE (by kernel_rfl) (Xt (D_wk [2, 3, 5, 6] Y (Sr (P2 Y Y (Dx (Cn Y (fun pr18 => ?_) (fun pr18 => ?_))))))))
     ·refine Sr (P2 Y Y (Dx (Ct (Xq (Xr (Xr (Xq (Xr (Ri Y Y ?_)))))))));show ((cmpA x0 y0) : Int) = _;exact cmpF_arg (by assumption) hi x0h y0h (by omega)
     ·refine Ck (Xb (Xt (Cr (p1 Y (ad (k + 1) Y Y Y Y (by omega) (by omega) (Pe Y (fun ac w' hf hs => ⟨_, ?_, k + 1, ?_, ?_, ?_, Y, hf.wk Y, hs⟩)))))))
      ·omega
      ·omega
      ·omega
      ·refine forall_step hi ?_; intro x y hx hy; obtain rfl : x = x0 := Option.some.inj (hx.symm.trans x0h); obtain rfl : y = y0 := Option.some.inj (hy.symm.trans y0h); omega
    ·refine Cx (Xx (Xx (Xe (Xt (Cq (Cb (Sr (fl 1 f_124_1 o_105 Y Y Y Y Y Y Y Y Y (q1 Y (Dl s_105 Y Y (rd_sl hu2)) (fl 0 f_124_1 o_105 Y Y Y Y Y Y Y Y Y (q1 Y (Dl s_105 Y Y (rd_sl hu5)) (P2 Y Y (Dx (D_wk [2, 3, 45] Y (Cd Y (fun pr19 => ?_) (fun pr19 => ?_))))))))))))))))
     ·refine Sr (Pe Y (Ct (Xq (Xr (Ri Y Y ?_)))));show ((-1) : Int) = _;rw [← cmpF_end (by assumption) (fun i x y hx hy => hi i (by have := lS hx; have := lS hy; omega) x y hx hy)]; unfold cmZ; repeat (split <;> try omega)
     ·refine Sr (fl 1 f_124_1 o_105 Y Y Y Y Y Y Y Y Y (q1 Y (Dl s_105 Y Y (rd_sl hu2)) (fl 0 f_124_1 o_105 Y Y Y Y Y Y Y Y Y (q1 Y (Dl s_105 Y Y (rd_sl hu5)) (P2 Y Y (Dx (Cd Y (fun pr20 => ?_) (fun pr20 => ?_))))))))
      ·refine Sr (Pe Y (Ct (Xq (Xr (Ri Y Y ?_)))));show (1 : Int) = _;rw [← cmpF_end (by assumption) (fun i x y hx hy => hi i (by have := lS hx; have := lS hy; omega) x y hx hy)]; unfold cmZ; repeat (split <;> try omega)
      ·refine Ck (Xb (Xt (Sr (Pe Y (Ct (Ri Y Y ?_))))));show (0 : Int) = _;rw [← cmpF_end (by assumption) (fun i x y hx hy => hi i (by have := lS hx; have := lS hy; omega) x y hx hy)]; unfold cmZ; repeat (split <;> try omega)
   ·refine n1 Y (n1 Y (n1 Y (n1 Y (n1 Y (Pe Y (C_f Y (Cx (Xx (Xx (Xe (Xt (Cq (Cb (Sr (fl 1 f_124_1 o_105 Y Y Y Y Y Y Y Y Y (q1 Y (Dl s_105 Y Y (rd_sl hu2)) (fl 0 f_124_1 o_105 Y Y Y Y Y Y Y Y Y (q1 Y (Dl s_105 Y Y (rd_sl hu5)) ?_))))))))))))))))));refine P2 Y Y (Dx (D_wk [2, 3, 45] Y (Cd Y (fun pr21 => ?_) (fun pr21 => ?_))))
    ·refine Sr (Pe Y (Ct (Xq (Xr (Ri Y Y ?_)))));show ((-1) : Int) = _;rw [← cmpF_end (by assumption) (fun i x y hx hy => hi i (by have := lS hx; have := lS hy; omega) x y hx hy)]; unfold cmZ; repeat (split <;> try omega)
    ·refine Sr (fl 1 f_124_1 o_105 Y Y Y Y Y Y Y Y Y (q1 Y (Dl s_105 Y Y (rd_sl hu2)) (fl 0 f_124_1 o_105 Y Y Y Y Y Y Y Y Y (q1 Y (Dl s_105 Y Y (rd_sl hu5)) (P2 Y Y (Dx (Cd Y (fun pr22 => ?_) (fun pr22 => ?_))))))))
     ·refine Sr (Pe Y (Ct (Xq (Xr (Ri Y Y ?_)))));show (1 : Int) = _;rw [← cmpF_end (by assumption) (fun i x y hx hy => hi i (by have := lS hx; have := lS hy; omega) x y hx hy)]; unfold cmZ; repeat (split <;> try omega)
     ·refine Ck (Xb (Xt (Sr (Pe Y (Ct (Ri Y Y ?_))))));show (0 : Int) = _;rw [← cmpF_end (by assumption) (fun i x y hx hy => hi i (by have := lS hx; have := lS hy; omega) x y hx hy)]; unfold cmZ; repeat (split <;> try omega)
end Go.Sy.Num1
