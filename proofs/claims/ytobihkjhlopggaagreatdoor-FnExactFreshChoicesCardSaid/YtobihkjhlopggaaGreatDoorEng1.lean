/-
  Contracts of functions of the program, walked (printed by a program of ours).
  Conditions: those that each theorem states.
-/
import Derived.Test.YtobihkjhlopggaaGreatDoorFct
import Derived.Test.YtobihkjhlopggaaGreatDoorEv1
import Derived.Test.YtobihkjhlopggaaGreatDoorEv2
import Derived.Test.YtobihkjhlopggaaGreatDoorRul
import Derived.Test.YtobihkjhlopggaaGreatDoorOwn2
set_option linter.unusedVariables false
set_option maxRecDepth 20000
namespace Go.Sy.Eng1
open Go Go.RowKit Go.Proofs Go.Sy
open Go.Sy.Bel1 Go.Sy.Ev1 Go.Sy.Ev2
theorem impl_IsVar {w : World} {s : ByteArray} : Cy 238 [(.string s)] w (Val w (.bool (isVarB s))) := by
 refine enter 16 Tryz.func238 Y Y Y (Sr (Pe Y (Sr (p1 Y (q1 Y (D_lens us_9 Y Y) (P2 Y Y (gxd 6 Y Y (fun pr1 => ?_) (fun pr1 => ?_))))))))
 ·refine p1 Y (q1 Y (D_sidx (j := 0) us_9 Y Y Y Y (by omega)) (P3 Y Y Y (gxe 11 Y Y (fun pr2 => ?_) (fun pr2 => ?_))))
  ·refine p1 Y (q1 Y (D_sslc (k := 1) us_9 Y Y Y Y (by omega)) (li Y (cv b_199 Y Y Y Y (fun w' hs => impl_IsAtom) ?_)));refine P2 Y Y (Dx (Ct (Rb Y Y ?_)));show ((isAtomB (s.extract 1 s.size)) : Bool) = _;unfold isVarB; simp_all; try (intro h; omega)
  ·refine n1 Y (n1 Y (n1 Y (P2 Y Y (Dx (Ct (Rb Y Y ?_))))));unfold isVarB; simp_all; try (intro h; omega)
 ·refine n1 Y (n1 Y (n1 Y (P2 Y Y (n1 Y (n1 Y (n1 Y (P2 Y Y (Dx (Ct (Rb Y Y ?_))))))))));unfold isVarB; simp_all; try (intro h; omega)
theorem spec_IsVar {w : World} {s : ByteArray} (hs0 : s.size ≤ 9223372036854775807) : Cy 257 [(.string s)] w (Val w (.bool (isVarB s))) := by
 refine enter 16 Tryz.func257 Y Y Y (Sr (Pe Y (Sr (p1 Y (q1 Y (D_lens us_9 Y Y) (P2 Y Y (gxd 6 Y Y (fun pr1 => ?_) (fun pr1 => ?_))))))))
 ·refine p1 Y (q1 Y (D_sidx (j := 0) us_9 Y Y Y Y (by omega)) (P3 Y Y Y (gxe 11 Y Y (fun pr2 => ?_) (fun pr2 => ?_))))
  ·refine p1 Y (q1 Y (D_sslc (k := 1) us_9 Y Y Y Y (by omega)) (li Y (cv b_181 Y Y Y Y (fun w' hs => (spec_IsAtom (by rw [ByteArray.size_extract]; omega))) ?_)));refine P2 Y Y (Dx (Ct (Rb Y Y ?_)));show ((isAtomB (s.extract 1 s.size)) : Bool) = _;unfold isVarB; simp_all; try (intro h; omega)
  ·refine n1 Y (n1 Y (n1 Y (P2 Y Y (Dx (Ct (Rb Y Y ?_))))));unfold isVarB; simp_all; try (intro h; omega)
 ·refine n1 Y (n1 Y (n1 Y (P2 Y Y (n1 Y (n1 Y (n1 Y (P2 Y Y (Dx (Ct (Rb Y Y ?_))))))))));unfold isVarB; simp_all; try (intro h; omega)
theorem impl_IsTerm {w : World} {s : ByteArray} : Cy 234 [(.string s)] w (Val w (.bool (isTermB s))) := by
 refine enter 9 Tryz.func234 Y Y Y (Sr (Pe Y (Sr (p1 Y (li Y (cv b_199 Y Y Y Y (fun w' hs => impl_IsAtom) ?_))))));refine p1 Y (gs 5 Y Y (fun h1 => ?_) (fun h1 => ?_))
 ·refine n1 Y (n1 Y (P2 Y Y (Dx (Ct (Rb Y Y ?_)))));unfold isTermB; simp_all
 ·refine p1 Y (li Y (cv b_238 Y Y Y Y (fun w' hs => impl_IsVar) ?_));refine P2 Y Y (Dx (Ct (Rb Y Y ?_)));show ((isVarB s) : Bool) = _;unfold isTermB; simp_all
theorem spec_IsTerm {w : World} {s : ByteArray} (hs0 : s.size ≤ 9223372036854775807) : Cy 256 [(.string s)] w (Val w (.bool (isTermB s))) := by
 refine enter 9 Tryz.func256 Y Y Y (Sr (Pe Y (Sr (p1 Y (li Y (cv b_181 Y Y Y Y (fun w' hs => (spec_IsAtom (by assumption))) ?_))))));refine p1 Y (gs 5 Y Y (fun h1 => ?_) (fun h1 => ?_))
 ·refine n1 Y (n1 Y (P2 Y Y (Dx (Ct (Rb Y Y ?_)))));unfold isTermB; simp_all
 ·refine p1 Y (li Y (cv b_257 Y Y Y Y (fun w' hs => (spec_IsVar (by assumption))) ?_));refine P2 Y Y (Dx (Ct (Rb Y Y ?_)));show ((isVarB s) : Bool) = _;unfold isTermB; simp_all
theorem impl_IsPattern {w : World} {c_p : List Value} {p : Pattern} (h_p : Gd.rd w c_p p) : Cy 233 [(.agg c_p.toArray)] w (Val w (.bool (isPatternB p))) := by
 obtain ⟨u1, rfl, hu2⟩ := open_Pattern h_p;have hm3 := rd_max hu2;refine enter 26 Tryz.func233 Y Y Y (Sr (li Y (D_box Y Y Y Y Y fun g4 => ?_)));refine Pe Y (Dh ([bx g4 [(.string p.Rel), u1]]) Y (Cq (Sr (fl 0 f_188_0 o_9 Y Y Y Y Y Y Y Y Y (li Y (cv b_185 Y Y Y Y (fun w' hs => impl_IsName) ?_))))));refine P2 Y Y (gxN 9 Y Y (fun h5n => ?_) (fun h5n => ?_))
 ·refine n1 Y (n1 Y (n1 Y (n1 Y (Pe Y (C_t Y (Sr (Pe Y (Ct (Xr (Rb Y Y ?_))))))))));unfold isPatternB; simp_all
 ·refine fl 0 f_188_1 o_105 Y Y Y Y Y Y Y Y Y (q1 Y (Dl s_105 Y Y (rd_sl hu2)) (P2 Y Y (Dx (Cd Y (fun pr6 => ?_) (fun pr6 => ?_)))))
  ·refine Sr (Pe Y (Ct (Xr (Rb Y Y ?_))));unfold isPatternB; rw [decide_eq_false (by omega : ¬ p.Args.length ≤ 3)]; simp
  ·refine Sk (Cq (Sr (fl 0 f_188_1 o_105 Y Y Y Y Y Y Y Y Y (q1 Y (Dl s_105 Y Y (rd_sl hu2)) (Pe Y (Cb (Cl (fun m_ ac w' => ∃ (k : Nat), (k ≤ p.Args.length) ∧ (∀ i, i < k → ∀ y, p.Args[i]? = some y → isTermB y = true) ∧ m_ = p.Args.length - k ∧ Fits ac 26 [(16, u1), (17, (nv p.Args.length)), (18, (nv k))] ∧ St w ([bx g4 [(.string p.Rel), u1]]) w') ?_ ?_)))))))
   ·refine fun ac w' hf hs => ⟨_, 0, ?_, ?_, Y, hf.wk Y, hs⟩
    ·omega
    ·intro i hi; omega
   ·rintro m_ ac w' ⟨k, hk, hi, rfl, hf, hs⟩;refine D.use ?_ hf hs;clear hf hs ac w';refine Sr (Pe Y (Cq (Cd Y (fun pr7 => ?_) (fun pr7 => ?_))))
    ·refine Sk (Cq (Cb (Sr ?_)));obtain ⟨a0, ha0⟩ := sL (l := p.Args) (i := k) (by omega);obtain ⟨es8, at9, hr10⟩ := rd_elem (n := 1) rfl hu2 ha0;obtain rfl : es8 = [.string a0] := hr10;refine q1 Y (D_ix (l := p.Args) (j := k) s_105 Y Y Y (fun w' hs => (rA hs hu2)) Y (lS ha0)) (q1 Y (lr0 o_9 Y Y at9 Y) (Pe Y (Sr (p1 Y (li Y (cv b_234 Y Y Y Y (fun w' hs => impl_IsTerm) ?_))))));refine Pe Y (CN Y (fun h11n => ?_) (fun h11n => ?_))
     ·refine Sr (Pe Y (Ct (Xq (Xr (Xr (Xq (Xr (Rb Y Y ?_))))))));unfold isPatternB; rw [all_bad (p := isTermB) ha0 h11n]; simp
     ·refine Ck (Xb (Xt (Cr (ad (k + 1) Y Y Y Y (by omega) (by omega) (Pe Y (fun ac w' hf hs => ⟨_, ?_, k + 1, ?_, ?_, Y, hf.wk Y, hs⟩))))))
      ·omega
      ·omega
      ·refine forall_step hi ?_; intro y hy; obtain rfl : y = a0 := Option.some.inj (hy.symm.trans ha0); exact h11n
    ·refine Cx (Xx (Xx (Xe (Xt (Sr (Pe Y (Ct (Rb Y Y ?_))))))));unfold isPatternB; rw [all_of_idx (p := isTermB) (fun i h => hi i (by omega)), decide_eq_true (by omega : p.Args.length ≤ 3)]; simp_all
theorem spec_IsPattern {w : World} {c_p : List Value} {p : Pattern} (h_p : Gd.rd w c_p p) (hf0 : okPattern p) : Cy 255 [(.agg c_p.toArray)] w (Val w (.bool (isPatternB p))) := by
 obtain ⟨u1, rfl, hu2⟩ := open_Pattern h_p;have hm3 := rd_max hu2;refine enter 27 Tryz.func255 Y Y Y (Sr (li Y (D_box Y Y Y Y Y fun g4 => ?_)));refine Pe Y (Dh ([bx g4 [(.string p.Rel), u1]]) Y (Cq (Sr (Pe Y (Cb (Cl (fun m_ ac w' => ∃ (k : Nat), (k ≤ p.Args.length) ∧ (∀ i, i < k → ∀ y, p.Args[i]? = some y → isTermB y = true) ∧ m_ = p.Args.length - k ∧ Fits ac 27 [(1, (pv g4)), (3, (nv k))] ∧ St w ([bx g4 [(.string p.Rel), u1]]) w') ?_ ?_))))))
 ·refine fun ac w' hf hs => ⟨_, 0, ?_, ?_, Y, hf.wk Y, hs⟩
  ·omega
  ·intro i hi; omega
 ·rintro m_ ac w' ⟨k, hk, hi, rfl, hf, hs⟩;refine D.use ?_ hf hs;clear hf hs ac w';refine Cq (Sr (p1 Y (fl 0 f_188_1 o_105 Y Y Y Y Y Y Y Y Y (q1 Y (Dl s_105 Y Y (rd_sl hu2)) (Pe Y (Cd Y (fun pr5 => ?_) (fun pr5 => ?_)))))))
  ·refine Sk (Cq (Cb (Sr (fl 0 f_188_1 o_105 Y Y Y Y Y Y Y Y Y (p1 Y ?_)))));obtain ⟨a0, ha0⟩ := sL (l := p.Args) (i := k) (by omega);have hs1 : a0.size ≤ 9223372036854775807 := hf0.2 _ (List.mem_of_getElem? ha0);obtain ⟨es6, at7, hr8⟩ := rd_elem (n := 1) rfl hu2 ha0;obtain rfl : es6 = [.string a0] := hr8;refine q1 Y (D_ix (l := p.Args) (j := k) s_105 Y Y Y (fun w' hs => (rA hs hu2)) Y (lS ha0)) (q1 Y (lr0 o_9 Y Y at7 Y) (li Y (cv b_256 Y Y Y Y (fun w' hs => (spec_IsTerm hs1)) ?_)));refine Pe Y (CN Y (fun h9n => ?_) (fun h9n => ?_))
   ·refine Sr (Pe Y (Ct (Xq (Xr (Xr (Xq (Xr (Rb Y Y ?_))))))));unfold isPatternB; rw [all_bad (p := isTermB) ha0 h9n]; simp
   ·refine Ck (Xb (Xt (Cr (p1 Y (ad (k + 1) Y Y Y Y (by omega) (by omega) (Pe Y (fun ac w' hf hs => ⟨_, ?_, k + 1, ?_, ?_, Y, hf.wk Y, hs⟩)))))))
    ·omega
    ·omega
    ·refine forall_step hi ?_; intro y hy; obtain rfl : y = a0 := Option.some.inj (hy.symm.trans ha0); exact h9n
  ·refine Cx (Xx (Xx (Xe (Xt (Sr (fl 0 f_188_0 o_9 Y Y Y Y Y Y Y Y Y (li Y (cv b_205 Y Y Y Y (fun w' hs => (spec_IsName hf0.1)) ?_))))))));refine p1 Y (gs 21 Y Y (fun h10 => ?_) (fun h10 => ?_))
   ·refine fl 0 f_188_1 o_105 Y Y Y Y Y Y Y Y Y (q1 Y (Dl s_105 Y Y (rd_sl hu2)) (P3 Y Y Y (Dx (Ct (Rb Y Y ?_)))));show ((decide ((((p.Args.length : Nat) : Int) : Int) ≤ 3)) : Bool) = _;unfold isPatternB; rw [all_of_idx (p := isTermB) (fun i h => hi i (by omega))]; simp_all; try omega
   ·refine n1 Y (n1 Y (n1 Y (n1 Y (P2 Y Y (Dx (Ct (Rb Y Y ?_)))))));unfold isPatternB; rw [all_of_idx (p := isTermB) (fun i h => hi i (by omega))]; simp_all; try omega
theorem impl_zeroPattern {w : World} {c_p : List Value} {p : Pattern} (h_p : Gd.rd w c_p p) : Cy 235 [(.agg c_p.toArray)] w (Val w (.bool (zeroP p))) := by
 obtain ⟨u1, rfl, hu2⟩ := open_Pattern h_p;have hm3 := rd_max hu2;refine enter 12 Tryz.func235 Y Y Y (Sr (li Y (D_box Y Y Y Y Y fun g4 => ?_)));refine Pe Y (Dh ([bx g4 [(.string p.Rel), u1]]) Y (Sr (fl 0 f_188_0 o_9 Y Y Y Y Y Y Y Y Y (q1 Y (D_eqS Y Y Y) (p1 Y (gxd 6 Y Y (fun pr5 => ?_) (fun pr5 => ?_)))))))
 ·refine fl 0 f_188_1 o_105 Y Y Y Y Y Y Y Y Y (q1 Y (Dl s_105 Y Y (rd_sl hu2)) (P3 Y Y Y (Dx (Ct (Rb Y Y ?_)))));show (((((p.Args.length : Nat) : Int) : Int) == 0) : Bool) = _;unfold zeroP; simp_all; try (rw [Bool.eq_iff_iff]; simp)
 ·refine n1 Y (n1 Y (n1 Y (n1 Y (P2 Y Y (Dx (Ct (Rb Y Y ?_)))))));unfold zeroP; simp_all; try (rw [Bool.eq_iff_iff]; simp)
set_option maxHeartbeats 4000000 in
theorem impl_IsCond {w : World} {c_x : List Value} {x : Cond} (h_x : Gd.rd w c_x x) : Cy 186 [(.agg c_x.toArray)] w (Val w (.bool (isCondB x))) := by
 obtain ⟨u1, rfl, hu2⟩ := open_Cond h_x;have hm3 := rd_max hu2;have hb4 := sub_Cond_Pattern h_x;refine enter 38 Tryz.func186 Y Y Y (Sr (li Y (D_box Y Y Y Y Y fun g5 => ?_)));refine Pe Y (Dh ([bx g5 [(iv x.Kind), (.string x.Pattern.Rel), u1, (.string x.Left), (.string x.Right)]]) Y (Cq (Sr (fl 0 f_190_0 o_3 Y Y Y Y Y Y Y Y Y (Dx (Cb (Cq (Sr (P2 Y Y (Dx (Ce Y (fun pr6 => ?_) (fun pr6 => ?_))))))))))))
 ·refine Sk (C_kt Y (beq_iff_eq.2 pr6) (Sr (q1 Y (Db f_190_1 Y Y (q := 1) Y) (q1 Y (lba (es := [(.string x.Pattern.Rel), u1]) 0 a_188 Y Y Y Y) (li Y (cv b_233 Y Y Y Y (fun w' hs => (impl_IsPattern (rA hs hb4))) ?_))))));refine p1 Y (gs 11 Y Y (fun h8 => ?_) (fun h8 => ?_))
  ·refine fl 0 f_190_2 o_9 Y Y Y Y Y Y Y Y Y (q1 Y (D_eqS Y Y Y) (P2 Y Y (gxd 16 Y Y (fun pr9 => ?_) (fun pr9 => ?_))))
   ·refine fl 0 f_190_3 o_9 Y Y Y Y Y Y Y Y Y (q1 Y (D_eqS Y Y Y) (P2 Y Y (Dx (Ct (Xq (Xr (Rb Y Y ?_)))))));show ((decide ((x.Right : ByteArray) = ⟨#[]⟩)) : Bool) = _;unfold isCondB zeroP; simp_all
   ·refine n1 Y (n1 Y (n1 Y (P2 Y Y (Dx (Ct (Xq (Xr (Rb Y Y ?_))))))));unfold isCondB zeroP; simp_all
  ·refine n1 Y (n1 Y (n1 Y (P2 Y Y (n1 Y (n1 Y (n1 Y (P2 Y Y (Dx (Ct (Xq (Xr (Rb Y Y ?_))))))))))));unfold isCondB zeroP; simp_all
 ·refine Cr (P2 Y Y (Dx (Ce Y (fun pr21 => ?_) (fun pr21 => ?_))))
  ·refine Sr (q1 Y (Db f_190_1 Y Y (q := 1) Y) (q1 Y (lba (es := [(.string x.Pattern.Rel), u1]) 0 a_188 Y Y Y Y) (li Y (cv b_233 Y Y Y Y (fun w' hs => (impl_IsPattern (rA hs hb4))) ?_))));refine p1 Y (gs 11 Y Y (fun h22 => ?_) (fun h22 => ?_))
   ·refine fl 0 f_190_2 o_9 Y Y Y Y Y Y Y Y Y (q1 Y (D_eqS Y Y Y) (P2 Y Y (gxd 16 Y Y (fun pr23 => ?_) (fun pr23 => ?_))))
    ·refine fl 0 f_190_3 o_9 Y Y Y Y Y Y Y Y Y (q1 Y (D_eqS Y Y Y) (P2 Y Y (Dx (Ct (Xq (Xr (Rb Y Y ?_)))))));show ((decide ((x.Right : ByteArray) = ⟨#[]⟩)) : Bool) = _;unfold isCondB zeroP; simp_all
    ·refine n1 Y (n1 Y (n1 Y (P2 Y Y (Dx (Ct (Xq (Xr (Rb Y Y ?_))))))));unfold isCondB zeroP; simp_all
   ·refine n1 Y (n1 Y (n1 Y (P2 Y Y (n1 Y (n1 Y (n1 Y (P2 Y Y (Dx (Ct (Xq (Xr (Rb Y Y ?_))))))))))));unfold isCondB zeroP; simp_all
  ·refine Cq (Sr (P2 Y Y (Dx (Ce Y (fun pr24 => ?_) (fun pr24 => ?_)))))
   ·refine Sk (C_kt Y (beq_iff_eq.2 pr24) (Sr (fl 0 f_190_2 o_9 Y Y Y Y Y Y Y Y Y (li Y (cv b_234 Y Y Y Y (fun w' hs => impl_IsTerm) ?_)))));refine p1 Y (gs 28 Y Y (fun h26 => ?_) (fun h26 => ?_))
    ·refine fl 0 f_190_3 o_9 Y Y Y Y Y Y Y Y Y (li Y (cv b_234 Y Y Y Y (fun w' hs => impl_IsTerm) ?_));refine P2 Y Y (gs 33 Y Y (fun h27 => ?_) (fun h27 => ?_))
     ·refine q1 Y (Db f_190_1 Y Y (q := 1) Y) (q1 Y (lba (es := [(.string x.Pattern.Rel), u1]) 0 a_188 Y Y Y Y) (li Y (cv b_235 Y Y Y Y (fun w' hs => (impl_zeroPattern (rA hs hb4))) ?_)));refine P2 Y Y (Dx (Ct (Xq (Xr (Rb Y Y ?_)))));show ((zeroP x.Pattern) : Bool) = _;unfold isCondB zeroP; simp_all
     ·refine n1 Y (n1 Y (n1 Y (P2 Y Y (Dx (Ct (Xq (Xr (Rb Y Y ?_))))))));unfold isCondB zeroP; simp_all
    ·refine n1 Y (n1 Y (n1 Y (P2 Y Y (n1 Y (n1 Y (n1 Y (P2 Y Y (Dx (Ct (Xq (Xr (Rb Y Y ?_))))))))))));unfold isCondB zeroP; simp_all
   ·refine Sr (P2 Y Y (Dx (Ce Y (fun pr28 => ?_) (fun pr28 => ?_))))
    ·refine Sk (C_kt Y (beq_iff_eq.2 pr28) (Sr (fl 0 f_190_2 o_9 Y Y Y Y Y Y Y Y Y (li Y (cv b_234 Y Y Y Y (fun w' hs => impl_IsTerm) ?_)))));refine p1 Y (gs 28 Y Y (fun h30 => ?_) (fun h30 => ?_))
     ·refine fl 0 f_190_3 o_9 Y Y Y Y Y Y Y Y Y (li Y (cv b_234 Y Y Y Y (fun w' hs => impl_IsTerm) ?_));refine P2 Y Y (gs 33 Y Y (fun h31 => ?_) (fun h31 => ?_))
      ·refine q1 Y (Db f_190_1 Y Y (q := 1) Y) (q1 Y (lba (es := [(.string x.Pattern.Rel), u1]) 0 a_188 Y Y Y Y) (li Y (cv b_235 Y Y Y Y (fun w' hs => (impl_zeroPattern (rA hs hb4))) ?_)));refine P2 Y Y (Dx (Ct (Xq (Xr (Rb Y Y ?_)))));show ((zeroP x.Pattern) : Bool) = _;unfold isCondB zeroP; simp_all
      ·refine n1 Y (n1 Y (n1 Y (P2 Y Y (Dx (Ct (Xq (Xr (Rb Y Y ?_))))))));unfold isCondB zeroP; simp_all
     ·refine n1 Y (n1 Y (n1 Y (P2 Y Y (n1 Y (n1 Y (n1 Y (P2 Y Y (Dx (Ct (Xq (Xr (Rb Y Y ?_))))))))))));unfold isCondB zeroP; simp_all
    ·refine Cr (P2 Y Y (Dx (Ce Y (fun pr32 => ?_) (fun pr32 => ?_))))
     ·refine Sr (fl 0 f_190_2 o_9 Y Y Y Y Y Y Y Y Y (li Y (cv b_234 Y Y Y Y (fun w' hs => impl_IsTerm) ?_)));refine p1 Y (gs 28 Y Y (fun h33 => ?_) (fun h33 => ?_))
      ·refine fl 0 f_190_3 o_9 Y Y Y Y Y Y Y Y Y (li Y (cv b_234 Y Y Y Y (fun w' hs => impl_IsTerm) ?_));refine P2 Y Y (gs 33 Y Y (fun h34 => ?_) (fun h34 => ?_))
       ·refine q1 Y (Db f_190_1 Y Y (q := 1) Y) (q1 Y (lba (es := [(.string x.Pattern.Rel), u1]) 0 a_188 Y Y Y Y) (li Y (cv b_235 Y Y Y Y (fun w' hs => (impl_zeroPattern (rA hs hb4))) ?_)));refine P2 Y Y (Dx (Ct (Xq (Xr (Rb Y Y ?_)))));show ((zeroP x.Pattern) : Bool) = _;unfold isCondB zeroP; simp_all
       ·refine n1 Y (n1 Y (n1 Y (P2 Y Y (Dx (Ct (Xq (Xr (Rb Y Y ?_))))))));unfold isCondB zeroP; simp_all
      ·refine n1 Y (n1 Y (n1 Y (P2 Y Y (n1 Y (n1 Y (n1 Y (P2 Y Y (Dx (Ct (Xq (Xr (Rb Y Y ?_))))))))))));unfold isCondB zeroP; simp_all
     ·refine Ck (Xb (Xt (Sr (Pe Y (Ct (Rb Y Y ?_))))));unfold isCondB zeroP; simp_all
set_option maxHeartbeats 4000000 in
theorem spec_IsCond {w : World} {c_x : List Value} {x : Cond} (h_x : Gd.rd w c_x x) (hx0 : okCond x) : Cy 222 [(.agg c_x.toArray)] w (Val w (.bool (isCondB x))) := by
 obtain ⟨u1, rfl, hu2⟩ := open_Cond h_x;have hm3 := rd_max hu2;have hb4 := sub_Cond_Pattern h_x;refine enter 46 Tryz.func222 Y Y Y (Sr (li Y (D_box Y Y Y Y Y fun g5 => ?_)));refine Pe Y (Dh ([bx g5 [(iv x.Kind), (.string x.Pattern.Rel), u1, (.string x.Left), (.string x.Right)]]) Y (Cq (Sr (fl 0 f_190_0 o_3 Y Y Y Y Y Y Y Y Y (Dx (Cb (Cq (Sr (P2 Y Y (Dx (Ce Y (fun pr6 => ?_) (fun pr6 => ?_))))))))))))
 ·refine Sk (C_kt Y (beq_iff_eq.2 pr6) (Sr (q1 Y (Db f_190_1 Y Y (q := 1) Y) (q1 Y (lba (es := [(.string x.Pattern.Rel), u1]) 0 a_188 Y Y Y Y) (li Y (cv b_255 Y Y Y Y (fun w' hs => (spec_IsPattern (rA hs hb4) hx0.2.1)) ?_))))));refine p1 Y (gs 11 Y Y (fun h8 => ?_) (fun h8 => ?_))
  ·refine fl 0 f_190_2 o_9 Y Y Y Y Y Y Y Y Y (q1 Y (D_eqS Y Y Y) (P2 Y Y (gxd 16 Y Y (fun pr9 => ?_) (fun pr9 => ?_))))
   ·refine fl 0 f_190_3 o_9 Y Y Y Y Y Y Y Y Y (q1 Y (D_eqS Y Y Y) (P2 Y Y (Dx (Ct (Xq (Xr (Rb Y Y ?_)))))));show ((decide ((x.Right : ByteArray) = ⟨#[]⟩)) : Bool) = _;unfold isCondB zeroP; simp_all
   ·refine n1 Y (n1 Y (n1 Y (P2 Y Y (Dx (Ct (Xq (Xr (Rb Y Y ?_))))))));unfold isCondB zeroP; simp_all
  ·refine n1 Y (n1 Y (n1 Y (P2 Y Y (n1 Y (n1 Y (n1 Y (P2 Y Y (Dx (Ct (Xq (Xr (Rb Y Y ?_))))))))))));unfold isCondB zeroP; simp_all
 ·refine Cr (P2 Y Y (Dx (Ce Y (fun pr24 => ?_) (fun pr24 => ?_))))
  ·refine Sr (q1 Y (Db f_190_1 Y Y (q := 1) Y) (q1 Y (lba (es := [(.string x.Pattern.Rel), u1]) 0 a_188 Y Y Y Y) (li Y (cv b_255 Y Y Y Y (fun w' hs => (spec_IsPattern (rA hs hb4) hx0.2.1)) ?_))));refine p1 Y (gs 11 Y Y (fun h25 => ?_) (fun h25 => ?_))
   ·refine fl 0 f_190_2 o_9 Y Y Y Y Y Y Y Y Y (q1 Y (D_eqS Y Y Y) (P2 Y Y (gxd 16 Y Y (fun pr26 => ?_) (fun pr26 => ?_))))
    ·refine fl 0 f_190_3 o_9 Y Y Y Y Y Y Y Y Y (q1 Y (D_eqS Y Y Y) (P2 Y Y (Dx (Ct (Xq (Xr (Rb Y Y ?_)))))));show ((decide ((x.Right : ByteArray) = ⟨#[]⟩)) : Bool) = _;unfold isCondB zeroP; simp_all
    ·refine n1 Y (n1 Y (n1 Y (P2 Y Y (Dx (Ct (Xq (Xr (Rb Y Y ?_))))))));unfold isCondB zeroP; simp_all
   ·refine n1 Y (n1 Y (n1 Y (P2 Y Y (n1 Y (n1 Y (n1 Y (P2 Y Y (Dx (Ct (Xq (Xr (Rb Y Y ?_))))))))))));unfold isCondB zeroP; simp_all
  ·refine Cq (Sr (P2 Y Y (Dx (Ce Y (fun pr27 => ?_) (fun pr27 => ?_)))))
   ·refine Sk (C_kt Y (beq_iff_eq.2 pr27) (Sr (q1 Y (Db f_190_1 Y Y (q := 1) Y) (fl 0 f_188_0 o_9 Y Y Y Y Y Y Y Y Y (q1 Y (D_eqS Y Y Y) (p1 Y (gxd 29 Y Y (fun pr29 => ?_) (fun pr29 => ?_))))))))
    ·refine q1 Y (Db f_190_1 Y Y (q := 1) Y) (fl 0 f_188_1 o_105 Y Y Y Y Y Y Y Y Y (q1 Y (Dl s_105 Y Y (rd_sl hu2)) (P3 Y Y Y (gxe 36 Y Y (fun pr30 => ?_) (fun pr30 => ?_)))))
     ·refine fl 0 f_190_2 o_9 Y Y Y Y Y Y Y Y Y (li Y (cv b_256 Y Y Y Y (fun w' hs => (spec_IsTerm (by exact hx0.2.2.1))) ?_));refine P2 Y Y (gs 41 Y Y (fun h31 => ?_) (fun h31 => ?_))
      ·refine fl 0 f_190_3 o_9 Y Y Y Y Y Y Y Y Y (li Y (cv b_256 Y Y Y Y (fun w' hs => (spec_IsTerm (by exact hx0.2.2.2))) ?_));refine P2 Y Y (Dx (Ct (Xq (Xr (Rb Y Y ?_)))));show ((isTermB x.Right) : Bool) = _;unfold isCondB zeroP; simp_all
      ·refine n1 Y (n1 Y (n1 Y (P2 Y Y (Dx (Ct (Xq (Xr (Rb Y Y ?_))))))));unfold isCondB zeroP; simp_all
     ·refine n1 Y (n1 Y (n1 Y (P2 Y Y (n1 Y (n1 Y (n1 Y (P2 Y Y (Dx (Ct (Xq (Xr (Rb Y Y ?_))))))))))));unfold isCondB zeroP; simp_all
    ·refine n1 Y (n1 Y (n1 Y (n1 Y (n1 Y (P2 Y Y (n1 Y (n1 Y (n1 Y (P2 Y Y (n1 Y (n1 Y (n1 Y (P2 Y Y (Dx (Ct (Xq (Xr (Rb Y Y ?_))))))))))))))))));unfold isCondB zeroP; simp_all
   ·refine Sr (P2 Y Y (Dx (Ce Y (fun pr32 => ?_) (fun pr32 => ?_))))
    ·refine Sk (C_kt Y (beq_iff_eq.2 pr32) (Sr (q1 Y (Db f_190_1 Y Y (q := 1) Y) (fl 0 f_188_0 o_9 Y Y Y Y Y Y Y Y Y (q1 Y (D_eqS Y Y Y) (p1 Y (gxd 29 Y Y (fun pr34 => ?_) (fun pr34 => ?_))))))))
     ·refine q1 Y (Db f_190_1 Y Y (q := 1) Y) (fl 0 f_188_1 o_105 Y Y Y Y Y Y Y Y Y (q1 Y (Dl s_105 Y Y (rd_sl hu2)) (P3 Y Y Y (gxe 36 Y Y (fun pr35 => ?_) (fun pr35 => ?_)))))
      ·refine fl 0 f_190_2 o_9 Y Y Y Y Y Y Y Y Y (li Y (cv b_256 Y Y Y Y (fun w' hs => (spec_IsTerm (by exact hx0.2.2.1))) ?_));refine P2 Y Y (gs 41 Y Y (fun h36 => ?_) (fun h36 => ?_))
       ·refine fl 0 f_190_3 o_9 Y Y Y Y Y Y Y Y Y (li Y (cv b_256 Y Y Y Y (fun w' hs => (spec_IsTerm (by exact hx0.2.2.2))) ?_));refine P2 Y Y (Dx (Ct (Xq (Xr (Rb Y Y ?_)))));show ((isTermB x.Right) : Bool) = _;unfold isCondB zeroP; simp_all
       ·refine n1 Y (n1 Y (n1 Y (P2 Y Y (Dx (Ct (Xq (Xr (Rb Y Y ?_))))))));unfold isCondB zeroP; simp_all
      ·refine n1 Y (n1 Y (n1 Y (P2 Y Y (n1 Y (n1 Y (n1 Y (P2 Y Y (Dx (Ct (Xq (Xr (Rb Y Y ?_))))))))))));unfold isCondB zeroP; simp_all
     ·refine n1 Y (n1 Y (n1 Y (n1 Y (n1 Y (P2 Y Y (n1 Y (n1 Y (n1 Y (P2 Y Y (n1 Y (n1 Y (n1 Y (P2 Y Y (Dx (Ct (Xq (Xr (Rb Y Y ?_))))))))))))))))));unfold isCondB zeroP; simp_all
    ·refine Cr (P2 Y Y (Dx (Ce Y (fun pr37 => ?_) (fun pr37 => ?_))))
     ·refine Sr (q1 Y (Db f_190_1 Y Y (q := 1) Y) (fl 0 f_188_0 o_9 Y Y Y Y Y Y Y Y Y (q1 Y (D_eqS Y Y Y) (p1 Y (gxd 29 Y Y (fun pr38 => ?_) (fun pr38 => ?_))))))
      ·refine q1 Y (Db f_190_1 Y Y (q := 1) Y) (fl 0 f_188_1 o_105 Y Y Y Y Y Y Y Y Y (q1 Y (Dl s_105 Y Y (rd_sl hu2)) (P3 Y Y Y (gxe 36 Y Y (fun pr39 => ?_) (fun pr39 => ?_)))))
       ·refine fl 0 f_190_2 o_9 Y Y Y Y Y Y Y Y Y (li Y (cv b_256 Y Y Y Y (fun w' hs => (spec_IsTerm (by exact hx0.2.2.1))) ?_));refine P2 Y Y (gs 41 Y Y (fun h40 => ?_) (fun h40 => ?_))
        ·refine fl 0 f_190_3 o_9 Y Y Y Y Y Y Y Y Y (li Y (cv b_256 Y Y Y Y (fun w' hs => (spec_IsTerm (by exact hx0.2.2.2))) ?_));refine P2 Y Y (Dx (Ct (Xq (Xr (Rb Y Y ?_)))));show ((isTermB x.Right) : Bool) = _;unfold isCondB zeroP; simp_all
        ·refine n1 Y (n1 Y (n1 Y (P2 Y Y (Dx (Ct (Xq (Xr (Rb Y Y ?_))))))));unfold isCondB zeroP; simp_all
       ·refine n1 Y (n1 Y (n1 Y (P2 Y Y (n1 Y (n1 Y (n1 Y (P2 Y Y (Dx (Ct (Xq (Xr (Rb Y Y ?_))))))))))));unfold isCondB zeroP; simp_all
      ·refine n1 Y (n1 Y (n1 Y (n1 Y (n1 Y (P2 Y Y (n1 Y (n1 Y (n1 Y (P2 Y Y (n1 Y (n1 Y (n1 Y (P2 Y Y (Dx (Ct (Xq (Xr (Rb Y Y ?_))))))))))))))))));unfold isCondB zeroP; simp_all
     ·refine Ck (Xb (Xt (Sr (Pe Y (Ct (Rb Y Y ?_))))));unfold isCondB zeroP; simp_all
theorem spec_IsTest {w : World} {c_x : List Value} {x : Cond} (h_x : Gd.rd w c_x x) (hx0 : okCond x) : Cy 225 [(.agg c_x.toArray)] w (Val w (.bool (isTestB x))) := by
 obtain ⟨u1, rfl, hu2⟩ := open_Cond h_x;have hm3 := rd_max hu2;have hb4 := sub_Cond_Pattern h_x;refine enter 10 Tryz.func225 Y Y Y (Sr (li Y (D_box Y Y Y Y Y fun g5 => ?_)));refine Pe Y (Dh ([bx g5 [(iv x.Kind), (.string x.Pattern.Rel), u1, (.string x.Left), (.string x.Right)]]) Y (Sr (q1 Y (lbw 0 a_190 Y Y Y) (li Y (cv b_222 Y Y Y Y (fun w' hs => (spec_IsCond (rA hs h_x) (by assumption))) ?_)))));refine p1 Y (gs 5 Y Y (fun h6 => ?_) (fun h6 => ?_))
 ·refine fl 0 f_190_0 o_3 Y Y Y Y Y Y Y Y Y (P3 Y Y Y (Dx (Ct (Rb Y Y ?_))));show ((decide ((3 : Int) ≤ x.Kind)) : Bool) = _;unfold isTestB; simp_all
 ·refine n1 Y (n1 Y (n1 Y (P2 Y Y (Dx (Ct (Rb Y Y ?_))))));unfold isTestB; simp_all
theorem impl_IsAction {w : World} {c_a : List Value} {a : Action} (h_a : Gd.rd w c_a a) : Cy 189 [(.agg c_a.toArray)] w (Val w (.bool (isActionB a))) := by
 obtain ⟨u1, rfl, hu2⟩ := open_Action h_a;have hm3 := rd_max hu2;have hb4 := sub_Action_Pattern h_a;refine enter 16 Tryz.func189 Y Y Y (Sr (li Y (D_box Y Y Y Y Y fun g5 => ?_)));refine Pe Y (Dh ([bx g5 [(iv a.Kind), (.string a.Pattern.Rel), u1]]) Y (Cq (Sr (fl 0 f_192_0 o_3 Y Y Y Y Y Y Y Y Y (Dx (Cb (Cq (Sr (P2 Y Y (Dx (Ce Y (fun pr6 => ?_) (fun pr6 => ?_))))))))))))
 ·refine Sk (C_kt Y (beq_iff_eq.2 pr6) (Sr (q1 Y (Db f_192_1 Y Y (q := 1) Y) (q1 Y (lba (es := [(.string a.Pattern.Rel), u1]) 0 a_188 Y Y Y Y) (li Y (cv b_233 Y Y Y Y (fun w' hs => (impl_IsPattern (rA hs hb4))) ?_))))));refine Pe Y (Ct (Xq (Xr (Rb Y Y ?_))));show ((isPatternB a.Pattern) : Bool) = _;unfold isActionB zeroP; simp_all
 ·refine Cr (P2 Y Y (Dx (Ce Y (fun pr9 => ?_) (fun pr9 => ?_))))
  ·refine Sr (q1 Y (Db f_192_1 Y Y (q := 1) Y) (q1 Y (lba (es := [(.string a.Pattern.Rel), u1]) 0 a_188 Y Y Y Y) (li Y (cv b_233 Y Y Y Y (fun w' hs => (impl_IsPattern (rA hs hb4))) ?_))));refine Pe Y (Ct (Xq (Xr (Rb Y Y ?_))));show ((isPatternB a.Pattern) : Bool) = _;unfold isActionB zeroP; simp_all
  ·refine Sr (P2 Y Y (Dx (Ce Y (fun pr10 => ?_) (fun pr10 => ?_))))
   ·refine Sr (q1 Y (Db f_192_1 Y Y (q := 1) Y) (q1 Y (lba (es := [(.string a.Pattern.Rel), u1]) 0 a_188 Y Y Y Y) (li Y (cv b_235 Y Y Y Y (fun w' hs => (impl_zeroPattern (rA hs hb4))) ?_))));refine Pe Y (Ct (Xq (Xr (Rb Y Y ?_))));show ((zeroP a.Pattern) : Bool) = _;unfold isActionB zeroP; simp_all
   ·refine Ck (Xb (Xt (Sr (Pe Y (Ct (Rb Y Y ?_))))));unfold isActionB zeroP; simp_all
theorem spec_IsAction {w : World} {c_a : List Value} {a : Action} (h_a : Gd.rd w c_a a) (hx0 : okAction a) : Cy 227 [(.agg c_a.toArray)] w (Val w (.bool (isActionB a))) := by
 obtain ⟨u1, rfl, hu2⟩ := open_Action h_a;have hm3 := rd_max hu2;have hb4 := sub_Action_Pattern h_a;refine enter 24 Tryz.func227 Y Y Y (Sr (li Y (D_box Y Y Y Y Y fun g5 => ?_)));refine Pe Y (Dh ([bx g5 [(iv a.Kind), (.string a.Pattern.Rel), u1]]) Y (Cq (Sr (fl 0 f_192_0 o_3 Y Y Y Y Y Y Y Y Y (Dx (Cb (Cq (Sr (P2 Y Y (Dx (Ce Y (fun pr6 => ?_) (fun pr6 => ?_))))))))))))
 ·refine Sk (C_kt Y (beq_iff_eq.2 pr6) (Sr (q1 Y (Db f_192_1 Y Y (q := 1) Y) (q1 Y (lba (es := [(.string a.Pattern.Rel), u1]) 0 a_188 Y Y Y Y) (li Y (cv b_255 Y Y Y Y (fun w' hs => (spec_IsPattern (rA hs hb4) hx0.2)) ?_))))));refine Pe Y (Ct (Xq (Xr (Rb Y Y ?_))));show ((isPatternB a.Pattern) : Bool) = _;unfold isActionB zeroP; simp_all
 ·refine Cr (P2 Y Y (Dx (Ce Y (fun pr10 => ?_) (fun pr10 => ?_))))
  ·refine Sr (q1 Y (Db f_192_1 Y Y (q := 1) Y) (q1 Y (lba (es := [(.string a.Pattern.Rel), u1]) 0 a_188 Y Y Y Y) (li Y (cv b_255 Y Y Y Y (fun w' hs => (spec_IsPattern (rA hs hb4) hx0.2)) ?_))));refine Pe Y (Ct (Xq (Xr (Rb Y Y ?_))));show ((isPatternB a.Pattern) : Bool) = _;unfold isActionB zeroP; simp_all
  ·refine Sr (P2 Y Y (Dx (Ce Y (fun pr11 => ?_) (fun pr11 => ?_))))
   ·refine Sr (q1 Y (Db f_192_1 Y Y (q := 1) Y) (fl 0 f_188_0 o_9 Y Y Y Y Y Y Y Y Y (q1 Y (D_eqS Y Y Y) (p1 Y (gxd 17 Y Y (fun pr12 => ?_) (fun pr12 => ?_))))))
    ·refine q1 Y (Db f_192_1 Y Y (q := 1) Y) (fl 0 f_188_1 o_105 Y Y Y Y Y Y Y Y Y (q1 Y (Dl s_105 Y Y (rd_sl hu2)) (P3 Y Y Y (Dx (Ct (Xq (Xr (Rb Y Y ?_))))))));show (((((a.Pattern.Args.length : Nat) : Int) : Int) == 0) : Bool) = _;unfold isActionB zeroP; simp_all; rw [Bool.eq_iff_iff]; simp
    ·refine n1 Y (n1 Y (n1 Y (n1 Y (n1 Y (P2 Y Y (Dx (Ct (Xq (Xr (Rb Y Y ?_))))))))));unfold isActionB zeroP; simp_all
   ·refine Ck (Xb (Xt (Sr (Pe Y (Ct (Rb Y Y ?_))))));unfold isActionB zeroP; simp_all
theorem impl_hasText {w : World} {v_l : Value} {l : (List ByteArray)} {s : ByteArray} (h_l : Gd.rd w [v_l] l) : Cy 191 [v_l, (.string s)] w (Val w (.bool (hasS l s))) := by
 have hm1 := rd_max h_l;refine enter 17 Tryz.func191 Y Y Y (Sr (Pe Y (Cq (Sr (p1 Y (q1 Y (Dl s_105 Y Y (rd_sl h_l)) (Pe Y (Cb (Cl (fun m_ ac w' => ∃ (k : Nat), (k ≤ l.length) ∧ (∀ i, i < k → l[i]? ≠ some s) ∧ m_ = l.length - k ∧ Fits ac 17 [(1, (.string s)), (7, v_l), (8, (nv l.length)), (9, (nv k))] ∧ St w ([]) w') ?_ ?_)))))))))
 ·refine fun ac w' hf hs => ⟨_, 0, ?_, ?_, Y, hf.wk Y, hs⟩
  ·omega
  ·intro i hi; omega
 ·rintro m_ ac w' ⟨k, hk, hi, rfl, hf, hs⟩;refine D.use ?_ hf hs;clear hf hs ac w';refine Sr (Pe Y (Cq (Cd Y (fun pr2 => ?_) (fun pr2 => ?_))))
  ·refine Sk (Cq (Cb (Sr ?_)));obtain ⟨x0, x0h⟩ := sL (l := l) (i := k) (by omega);obtain ⟨es3, at4, hr5⟩ := rd_elem (n := 1) rfl h_l x0h;obtain rfl : es3 = [.string x0] := hr5;refine q1 Y (D_ix (l := l) (j := k) s_105 Y Y Y (fun w' hs => (rA hs h_l)) Y (lS x0h)) (q1 Y (lr0 o_9 Y Y at4 Y) (Pe Y (Sr (P2 Y Y (q1 Y (D_eqS Y Y Y) (Dx (Cd Y (fun pr6 => ?_) (fun pr6 => ?_))))))))
   ·refine Sr (Pe Y (Ct (Xq (Xr (Xr (Xq (Xr (Rb Y Y ?_))))))));exact hasS_y x0h (by assumption)
   ·refine Ck (Xb (Xt (Cr (ad (k + 1) Y Y Y Y (by omega) (by omega) (Pe Y (fun ac w' hf hs => ⟨_, ?_, k + 1, ?_, ?_, Y, hf.wk Y, hs⟩))))))
    ·omega
    ·omega
    ·refine forall_step hi ?_; intro y; simp_all
  ·refine Cx (Xx (Xx (Xe (Xt (Sr (Pe Y (Ct (Rb Y Y ?_))))))));exact hasS_n (fun i h => hi i (by omega))
theorem spec_l1HasText {w : World} {v_l : Value} {l : (List ByteArray)} {s : ByteArray} (h_l : Gd.rd w [v_l] l) : Cy 224 [v_l, (.string s)] w (Val w (.bool (hasS l s))) := by
 have hm1 := rd_max h_l;refine enter 18 Tryz.func224 Y Y Y (Sr (Pe Y (Cq (Sr (Pe Y (Cb (Cl (fun m_ ac w' => ∃ (k : Nat), (k ≤ l.length) ∧ (∀ i, i < k → l[i]? ≠ some s) ∧ m_ = l.length - k ∧ Fits ac 18 [(0, v_l), (1, (.string s)), (5, (nv k))] ∧ St w ([]) w') ?_ ?_)))))))
 ·refine fun ac w' hf hs => ⟨_, 0, ?_, ?_, Y, hf.wk Y, hs⟩
  ·omega
  ·intro i hi; omega
 ·rintro m_ ac w' ⟨k, hk, hi, rfl, hf, hs⟩;refine D.use ?_ hf hs;clear hf hs ac w';refine Cq (Sr (P2 Y Y (q1 Y (Dl s_105 Y Y (rd_sl h_l)) (Pe Y (Cd Y (fun pr2 => ?_) (fun pr2 => ?_))))))
  ·refine Sk (Cq (Cb (Sr (P2 Y Y ?_))));obtain ⟨x0, x0h⟩ := sL (l := l) (i := k) (by omega);obtain ⟨es3, at4, hr5⟩ := rd_elem (n := 1) rfl h_l x0h;obtain rfl : es3 = [.string x0] := hr5;refine q1 Y (D_ix (l := l) (j := k) s_105 Y Y Y (fun w' hs => (rA hs h_l)) Y (lS x0h)) (q1 Y (lr0 o_9 Y Y at4 Y) (p1 Y (q1 Y (D_eqS Y Y Y) (Dx (Cd Y (fun pr6 => ?_) (fun pr6 => ?_))))))
   ·refine Sr (Pe Y (Ct (Xq (Xr (Xr (Xq (Xr (Rb Y Y ?_))))))));exact hasS_y x0h (by assumption)
   ·refine Ck (Xb (Xt (Cr (p1 Y (ad (k + 1) Y Y Y Y (by omega) (by omega) (Pe Y (fun ac w' hf hs => ⟨_, ?_, k + 1, ?_, ?_, Y, hf.wk Y, hs⟩)))))))
    ·omega
    ·omega
    ·refine forall_step hi ?_; intro y; simp_all
  ·refine Cx (Xx (Xx (Xe (Xt (Sr (Pe Y (Ct (Rb Y Y ?_))))))));exact hasS_n (fun i h => hi i (by omega))
theorem spec_l1Put {w : World} {v_l : Value} {l : (List ByteArray)} {s : ByteArray} (h_l : Gd.rd w [v_l] l) (hln : l.length ≤ 4294967296) : Cy 254 [v_l, (.string s)] w (Res w (putS l s : List ByteArray)) := by
 have hm1 := rd_max h_l;refine enter 49 Tryz.func254 Y Y Y (Sr (Pe Y (Sr (li Y (D_bs0 (α := ByteArray) s_105 Y Y Y fun v2 => ?_)))));refine Pe Y (Dh ([ov [v2] ([] : (List ByteArray))]) Y (Sr (Pe Y (Cq (Sr (Pe Y (Cb (Cl (fun m_ ac w' => ∃ (k : Nat), ∃ (dn : Bool), ∃ (v : Value), (k ≤ l.length) ∧ (dn = putD2 l s k) ∧ m_ = l.length - k ∧ Fits ac 49 [(0, v_l), (1, (.string s)), (5, v), (6, (.bool dn)), (7, (nv k))] ∧ St w ([ov [v] (putT2 l s k : (List ByteArray))]) w') ?_ ?_))))))))
 ·refine D_eq 0 Y (show ([] : (List ByteArray)) = putT2 l s 0 from by rfl) (fun ac w' hf hs => ⟨_, 0, false, v2, ?_, ?_, Y, hf.wk Y, hs⟩)
  ·omega
  ·rfl
 ·rintro m_ ac w' ⟨k, dn, v, hk, hd, rfl, hf, hs⟩;refine D.use ?_ hf hs;clear hf hs ac w';have hcl := putT2_len l s k;refine Cq (Sr (P2 Y Y (q1 Y (Dl s_105 Y Y (rd_sl h_l)) (Pe Y (Dh ([_]) Y (Cd Y (fun pr3 => ?_) (fun pr3 => ?_)))))))
  ·refine Sk (Cq (Cb (Cq (Sr (P3 Y Y Y (gxN 17 Y Y (fun h4n => ?_) (fun h4n => ?_)))))))
   ·refine P2 Y Y ?_;obtain ⟨x5, hx6⟩ := sL (l := l) (i := k) (by omega);obtain ⟨es7, at8, hr9⟩ := rd_elem (n := 1) rfl h_l hx6;obtain rfl : es7 = [.string x5] := hr9;refine q1 Y (D_ix (l := l) (j := k) s_105 Y Y Y (fun w' hs => (rA hs h_l)) Y (lS hx6)) (q1 Y (lr0 o_9 Y Y at8 Y) (p1 Y (q1 Y (D_geS Y Y Y) (Pe Y (CN Y (fun h10n => ?_) (fun h10n => ?_))))))
    ·refine Sr (Pe Y (Sr (P2 Y Y (q1 Y (D_ix (l := l) (j := k) s_105 Y Y Y (fun w' hs => (rA hs h_l)) Y (lS hx6)) (q1 Y (lr0 o_9 Y Y at8 Y) (p1 Y (q1 Y (D_neS Y Y Y) (Dx (D_wk [0, 1, 5, 6, 7, 30] Y (Cnd Y (fun pr11 => ?_) (fun pr11 => ?_)))))))))))
     ·refine Cr (P2 Y Y (li Y (D_bs s_105 y_9 Y (by decide) (by decide) Y Y Y Y Y Y fun g12 => ?_)));refine D_fs s (D_pkO [2, 0, 1] Y (li Y (D_ap s_105 y_9 Y (by decide) Y Y Y Y Y Y (by omega) (by omega) fun v13 => ?_)));refine Pe Y (Dh ([ov [v13] ((putT2 l s k) ++ [s] : (List ByteArray))]) Y (Cr (P3 Y Y Y (q1 Y (D_ix (l := l) (j := k) s_105 Y Y Y (fun w' hs => (rA hs h_l)) Y (lS hx6)) (q1 Y (lr0 o_9 Y Y at8 Y) (li Y (D_bs s_105 y_9 Y (by decide) (by decide) Y Y Y Y Y Y fun g14 => ?_)))))));refine D_fs x5 (D_pkO [2, 0, 1] Y (li Y (D_ap s_105 y_9 Y (by decide) Y Y Y Y Y Y (by simp; omega) (by simp; omega) fun v15 => ?_)));refine p1 Y (De (Xb (Xt (Dh ([ov [v15] (((putT2 l s k) ++ [s]) ++ [x5] : (List ByteArray))]) Y (Cr (p1 Y (ad (k + 1) Y Y Y Y (by omega) (by omega) (Pe Y (D_eq 0 Y (show (((putT2 l s k) ++ [s]) ++ [x5] : (List ByteArray)) = putT2 l s (k + 1) from by exact putT2_put hx6 (by simp_all) (by simp_all) (by assumption)) (fun ac w' hf hs => ⟨_, ?_, k + 1, true, v15, ?_, ?_, Y, hf.wk Y, hs⟩))))))))))
      ·omega
      ·omega
      ·exact putD2_s hx6 hd (by simp_all)
     ·refine Sk (Cr (P3 Y Y Y (q1 Y (D_ix (l := l) (j := k) s_105 Y Y Y (fun w' hs => (rA hs h_l)) Y (lS hx6)) (q1 Y (lr0 o_9 Y Y at8 Y) (li Y (D_bs s_105 y_9 Y (by decide) (by decide) Y Y Y Y Y Y fun g16 => ?_))))));refine D_fs x5 (D_pkO [2, 0, 1] Y (li Y (D_ap s_105 y_9 Y (by decide) Y Y Y Y Y Y (by omega) (by omega) fun v17 => ?_)));refine p1 Y (De (Xb (Xt (Dh ([ov [v17] ((putT2 l s k) ++ [x5] : (List ByteArray))]) Y (Cr (p1 Y (ad (k + 1) Y Y Y Y (by omega) (by omega) (Pe Y (D_eq 0 Y (show ((putT2 l s k) ++ [x5] : (List ByteArray)) = putT2 l s (k + 1) from by exact putT2_keep hx6 (by simp_all)) (fun ac w' hf hs => ⟨_, ?_, k + 1, true, v17, ?_, ?_, Y, hf.wk Y, hs⟩))))))))))
      ·omega
      ·omega
      ·exact putD2_s hx6 hd (by simp_all)
    ·refine Sk (Cr (P3 Y Y Y (q1 Y (D_ix (l := l) (j := k) s_105 Y Y Y (fun w' hs => (rA hs h_l)) Y (lS hx6)) (q1 Y (lr0 o_9 Y Y at8 Y) (li Y (D_bs s_105 y_9 Y (by decide) (by decide) Y Y Y Y Y Y fun g18 => ?_))))));refine D_fs x5 (D_pkO [2, 0, 1] Y (li Y (D_ap s_105 y_9 Y (by decide) Y Y Y Y Y Y (by omega) (by omega) fun v19 => ?_)));refine p1 Y (De (Xb (Xt (D_wk [0, 1, 5, 6, 7] Y (Dh ([ov [v19] ((putT2 l s k) ++ [x5] : (List ByteArray))]) Y (Cr (p1 Y (ad (k + 1) Y Y Y Y (by omega) (by omega) (Pe Y (D_eq 0 Y (show ((putT2 l s k) ++ [x5] : (List ByteArray)) = putT2 l s (k + 1) from by exact putT2_keep hx6 (by simp_all)) (fun ac w' hf hs => ⟨_, ?_, k + 1, dn, v19, ?_, ?_, Y, hf.wk Y, hs⟩)))))))))))
     ·omega
     ·omega
     ·exact putD2_s hx6 hd (by simp_all)
   ·refine n1 Y (n1 Y (n1 Y (n1 Y (n1 Y (n1 Y (Pe Y (C_f Y (Sk (Cr (P3 Y Y Y ?_))))))))));obtain ⟨x20, hx21⟩ := sL (l := l) (i := k) (by omega);obtain ⟨es22, at23, hr24⟩ := rd_elem (n := 1) rfl h_l hx21;obtain rfl : es22 = [.string x20] := hr24;refine q1 Y (D_ix (l := l) (j := k) s_105 Y Y Y (fun w' hs => (rA hs h_l)) Y (lS hx21)) (q1 Y (lr0 o_9 Y Y at23 Y) (li Y (D_bs s_105 y_9 Y (by decide) (by decide) Y Y Y Y Y Y fun g25 => ?_)));refine D_fs x20 (D_pkO [2, 0, 1] Y (li Y (D_ap s_105 y_9 Y (by decide) Y Y Y Y Y Y (by omega) (by omega) fun v26 => ?_)));refine p1 Y (De (Xb (Xt (D_wk [0, 1, 5, 6, 7] Y (Dh ([ov [v26] ((putT2 l s k) ++ [x20] : (List ByteArray))]) Y (Cr (p1 Y (ad (k + 1) Y Y Y Y (by omega) (by omega) (Pe Y (D_eq 0 Y (show ((putT2 l s k) ++ [x20] : (List ByteArray)) = putT2 l s (k + 1) from by exact putT2_keep hx21 (by simp_all)) (fun ac w' hf hs => ⟨_, ?_, k + 1, dn, v26, ?_, ?_, Y, hf.wk Y, hs⟩)))))))))))
    ·omega
    ·omega
    ·exact putD2_s hx21 hd (by simp_all)
  ·refine Cx (Xx (Xx (Xe (Xt (Cq (Sr (P2 Y Y (Dx (CN Y (fun h27n => ?_) (fun h27n => ?_))))))))))
   ·refine Cr (P2 Y Y (li Y (D_bs s_105 y_9 Y (by decide) (by decide) Y Y Y Y Y Y fun g28 => ?_)));refine D_fs s (D_pkO [2, 0, 1] Y (li Y (D_ap s_105 y_9 Y (by decide) Y Y Y Y Y Y (by omega) (by omega) fun v29 => ?_)));refine Pe Y (Sr (P2 Y Y (Dx (Ct (R_1 Y Y fun w' hs => res_of (k := 0) hs Y ?_)))));show (putT2 l s k) ++ [s] = putS l s;exact putT2_last (by omega) (by simp_all)
   ·refine Sk (Sr (P2 Y Y (Dx (Ct (R_1 Y Y fun w' hs => res_of (k := 0) hs Y ?_)))));show putT2 l s k = putS l s;exact putT2_done (by omega) (by simp_all)
end Go.Sy.Eng1
