/-
  Contracts of functions of the program, walked (printed by a program of ours).
  Conditions: those that each theorem states.
-/
import Derived.Test.YtobihkjhlopggaaGreatDoorFct
import Derived.Test.YtobihkjhlopggaaGreatDoorBel1
import Derived.Test.YtobihkjhlopggaaGreatDoorTypes
import Derived.Test.YtobihkjhlopggaaGreatDoorEv
import Derived.Test.YtobihkjhlopggaaGreatDoorBase
set_option linter.unusedVariables false
set_option maxRecDepth 20000
namespace Go.Sy.Ev1
open Go Go.RowKit Go.Proofs Go.Sy
open Go.Sy.Bel1
theorem impl_IsAtom {w : World} {s : ByteArray} : Cy 199 [(.string s)] w (Val w (.bool (isAtomB s))) := by
 refine enter 40 Tryz.func199 Y Y Y (Sr (Pe Y (Cq (Sr (p1 Y (q1 Y (D_lens us_9 Y Y) (P2 Y Y (gxd 7 Y Y (fun pr1 => ?_) (fun pr1 => ?_)))))))))
 ·refine n1 Y (n1 Y (n1 Y (Pe Y (C_t Y (Sr (Pe Y (Ct (Xr (Rb Y Y ?_)))))))));exact atom_n1 (by omega)
 ·refine p1 Y (q1 Y (D_lens us_9 Y Y) (P2 Y Y (Dx (Cd Y (fun pr2 => ?_) (fun pr2 => ?_)))))
  ·refine Sr (Pe Y (Ct (Xr (Rb Y Y ?_))));exact atom_n1 (by omega)
  ·refine Sk (Cq (Sr (Pe Y (Cb (Cl (fun m_ ac w' => ∃ (k : Nat), (k ≤ s.size) ∧ (∀ i, i < k → okCh (sB s i) = true) ∧ m_ = s.size - k ∧ Fits ac 40 [(0, (.string s)), (3, (nv k))] ∧ St w ([]) w') ?_ ?_)))))
   ·refine fun ac w' hf hs => ⟨_, 0, ?_, ?_, Y, hf.wk Y, hs⟩
    ·omega
    ·intro i hi; omega
   ·rintro m_ ac w' ⟨k, hk, hi, rfl, hf, hs⟩;refine D.use ?_ hf hs;clear hf hs ac w';refine Cq (Sr (P2 Y Y (q1 Y (D_lens us_9 Y Y) (Pe Y (Cd Y (fun pr3 => ?_) (fun pr3 => ?_))))))
    ·refine Sk (Cq (Cb (Sr (P2 Y Y (q1 Y (D_sidx (j := k) us_9 Y Y Y Y (by omega)) (P2 Y Y (gxd 22 Y Y (fun pr4 => ?_) (fun pr4 => ?_))))))))
     ·refine n1 Y (n1 Y (n1 Y (n1 Y (P3 Y Y Y (p1 Y (q1 Y (D_sidx (j := k) us_9 Y Y Y Y (by omega)) (P2 Y Y (gxd 33 Y Y (fun pr5 => ?_) (fun pr5 => ?_)))))))))
      ·refine n1 Y (n1 Y (n1 Y (n1 Y (P2 Y Y (Dx (D_wk [0, 3, 39] Y (C_t Y (Sr (Pe Y (Ct (Xq (Xr (Xr (Xq (Xr (Rb Y Y ?_))))))))))))))));exact atom_n2 (k := k) (by omega) (okCh_f (by omega))
      ·refine P2 Y Y (q1 Y (D_sidx (j := k) us_9 Y Y Y Y (by omega)) (P3 Y Y Y (Dx (D_wk [0, 3, 39] Y (Cd Y (fun pr6 => ?_) (fun pr6 => ?_))))))
       ·refine Sr (Pe Y (Ct (Xq (Xr (Xr (Xq (Xr (Rb Y Y ?_))))))));exact atom_n2 (k := k) (by omega) (okCh_f (by omega))
       ·refine Ck (Xb (Xt (Cr (p1 Y (ad (k + 1) Y Y Y Y (by omega) (by omega) (Pe Y (fun ac w' hf hs => ⟨_, ?_, k + 1, ?_, ?_, Y, hf.wk Y, hs⟩)))))))
        ·omega
        ·omega
        ·exact forall_step hi (okCh_t (by omega))
     ·refine P2 Y Y (q1 Y (D_sidx (j := k) us_9 Y Y Y Y (by omega)) (P3 Y Y Y (gxd 28 Y Y (fun pr7 => ?_) (fun pr7 => ?_))))
      ·refine P2 Y Y (q1 Y (D_sidx (j := k) us_9 Y Y Y Y (by omega)) (P2 Y Y (gxd 33 Y Y (fun pr8 => ?_) (fun pr8 => ?_))))
       ·refine n1 Y (n1 Y (n1 Y (n1 Y (P2 Y Y (Dx (D_wk [0, 3, 39] Y (C_t Y (Sr (Pe Y (Ct (Xq (Xr (Xr (Xq (Xr (Rb Y Y ?_))))))))))))))));exact atom_n1 (by omega)
       ·refine P2 Y Y (q1 Y (D_sidx (j := k) us_9 Y Y Y Y (by omega)) (P3 Y Y Y (Dx (D_wk [0, 3, 39] Y (Cd Y (fun pr9 => ?_) (fun pr9 => ?_))))))
        ·refine Sr (Pe Y (Ct (Xq (Xr (Xr (Xq (Xr (Rb Y Y ?_))))))));exact atom_n2 (k := k) (by omega) (okCh_f (by omega))
        ·refine Ck (Xb (Xt (Cr (p1 Y (ad (k + 1) Y Y Y Y (by omega) (by omega) (Pe Y (fun ac w' hf hs => ⟨_, ?_, k + 1, ?_, ?_, Y, hf.wk Y, hs⟩)))))))
         ·omega
         ·omega
         ·exact forall_step hi (okCh_t (by omega))
      ·refine n1 Y (n1 Y (n1 Y (n1 Y (n1 Y (n1 Y (n1 Y (n1 Y (n1 Y (n1 Y (Pe Y (D_wk [0, 3, 39] Y (C_f Y (Ck (Xb (Xt (Cr (p1 Y (ad (k + 1) Y Y Y Y (by omega) (by omega) (Pe Y ?_)))))))))))))))))));refine fun ac w' hf hs => ⟨_, ?_, k + 1, ?_, ?_, Y, hf.wk Y, hs⟩
       ·omega
       ·omega
       ·exact forall_step hi (okCh_t (by omega))
    ·refine Cx (Xx (Xx (Xe (Xt (Sr (Pe Y (Ct (Rb Y Y ?_))))))));exact atom_y (by omega) (fun i h => hi i (by omega))
theorem spec_IsAtom {w : World} {s : ByteArray} (hs0 : s.size ≤ 9223372036854775807) : Cy 181 [(.string s)] w (Val w (.bool (isAtomB s))) := by
 refine enter 27 Tryz.func181 Y Y Y (Sr (Pe Y (Cq (Sr (Pe Y (Cb (Cl (fun m_ ac w' => ∃ (k : Nat), (k ≤ s.size) ∧ (∀ i, i < k → okCh (sB s i) = true) ∧ m_ = s.size - k ∧ Fits ac 27 [(0, (.string s)), (3, (nv k))] ∧ St w ([]) w') ?_ ?_)))))))
 ·refine fun ac w' hf hs => ⟨_, 0, ?_, ?_, Y, hf.wk Y, hs⟩
  ·omega
  ·intro i hi; omega
 ·rintro m_ ac w' ⟨k, hk, hi, rfl, hf, hs⟩;refine D.use ?_ hf hs;clear hf hs ac w';refine Cq (Sr (P2 Y Y (q1 Y (D_lens us_9 Y Y) (Pe Y (Cd Y (fun pr1 => ?_) (fun pr1 => ?_))))))
  ·refine Sk (Cq (Cb (Sr (P2 Y Y (q1 Y (D_sidx (j := k) us_9 Y Y Y Y (by omega)) (q1 Y (D_cvt ui_3 ⟨_, u8_5⟩ Y Y) (li Y (cv b_141 Y Y Y Y (fun w' hs => spec_l1In) ?_))))))));refine P2 Y Y (gxN 16 Y Y (fun h2n => ?_) (fun h2n => ?_))
   ·refine P2 Y Y (q1 Y (D_sidx (j := k) us_9 Y Y Y Y (by omega)) (q1 Y (D_cvt ui_3 ⟨_, u8_5⟩ Y Y) (li Y (cv b_141 Y Y Y Y (fun w' hs => spec_l1In) ?_))));refine P2 Y Y (Dx (D_wk [0, 3, 23] Y (CN Y (fun h3n => ?_) (fun h3n => ?_))))
    ·refine Sr (Pe Y (Ct (Xq (Xr (Xr (Xq (Xr (Rb Y Y ?_))))))));exact atom_n2 (k := k) (by omega) (by unfold okCh; simp_all)
    ·refine Ck (Xb (Xt (Cr (p1 Y (ad (k + 1) Y Y Y Y (by omega) (by omega) (Pe Y (fun ac w' hf hs => ⟨_, ?_, k + 1, ?_, ?_, Y, hf.wk Y, hs⟩)))))))
     ·omega
     ·omega
     ·exact forall_step hi (by unfold okCh; simp_all)
   ·refine n1 Y (n1 Y (n1 Y (n1 Y (n1 Y (n1 Y (Pe Y (D_wk [0, 3, 23] Y (C_f Y (Ck (Xb (Xt (Cr (p1 Y (ad (k + 1) Y Y Y Y (by omega) (by omega) (Pe Y (fun ac w' hf hs => ⟨_, ?_, k + 1, ?_, ?_, Y, hf.wk Y, hs⟩))))))))))))))))
    ·omega
    ·omega
    ·exact forall_step hi (by unfold okCh; simp_all)
  ·refine Cx (Xx (Xx (Xe (Xt (Sr (p1 Y (q1 Y (D_lens us_9 Y Y) (li Y (cv b_141 Y Y Y Y (fun w' hs => spec_l1In) ?_)))))))));refine Pe Y (Ct (Rb Y Y ?_));show ((inR ((s.size : Nat) : Int) 1 8) : Bool) = _;exact atom_w (fun i h => hi i (by omega))
theorem impl_IsName {w : World} {s : ByteArray} : Cy 185 [(.string s)] w (Val w (.bool (isNameB s))) := by
 refine enter 10 Tryz.func185 Y Y Y (Sr (Pe Y (Sr (p1 Y (li Y (cv b_199 Y Y Y Y (fun w' hs => impl_IsAtom) ?_))))));refine p1 Y (gs 5 Y Y (fun h1 => ?_) (fun h1 => ?_))
 ·refine p1 Y ?_;have hsz := atom_sz (s := s) (by assumption);refine q1 Y (D_sidx (j := 0) us_9 Y Y Y Y (by omega)) (P3 Y Y Y (Dx (Ct (Rb Y Y ?_))));show ((decide ((97 : Int) ≤ (sB s 0))) : Bool) = _;unfold isNameB; simp_all
 ·refine n1 Y (n1 Y (n1 Y (P2 Y Y (Dx (Ct (Rb Y Y ?_))))));unfold isNameB; simp_all
theorem spec_IsName {w : World} {s : ByteArray} (hs0 : s.size ≤ 9223372036854775807) : Cy 205 [(.string s)] w (Val w (.bool (isNameB s))) := by
 refine enter 11 Tryz.func205 Y Y Y (Sr (Pe Y (Sr (p1 Y (li Y (cv b_181 Y Y Y Y (fun w' hs => (spec_IsAtom (by assumption))) ?_))))));refine p1 Y (gs 5 Y Y (fun h1 => ?_) (fun h1 => ?_))
 ·refine p1 Y ?_;have hsz := atom_sz (s := s) (by assumption);refine q1 Y (D_sidx (j := 0) us_9 Y Y Y Y (by omega)) (q1 Y (D_cvt ui_3 ⟨_, u8_5⟩ Y Y) (li Y (cv b_141 Y Y Y Y (fun w' hs => spec_l1In) ?_)));refine P2 Y Y (Dx (Ct (Rb Y Y ?_)));show ((inR (sB s 0) 97 122) : Bool) = _;unfold isNameB; rw [name_w (by assumption)]; simp_all
 ·refine n1 Y (n1 Y (n1 Y (n1 Y (P2 Y Y (Dx (Ct (Rb Y Y ?_)))))));unfold isNameB; simp_all
theorem impl_IsFact {w : World} {c_f : List Value} {f : Fact} (h_f : Gd.rd w c_f f) : Cy 194 [(.agg c_f.toArray)] w (Val w (.bool (isFactB f))) := by
 obtain ⟨u1, rfl, hu2⟩ := open_Fact h_f;have hm3 := rd_max hu2;refine enter 26 Tryz.func194 Y Y Y (Sr (li Y (D_box Y Y Y Y Y fun g4 => ?_)));refine Pe Y (Dh ([bx g4 [(.string f.Rel), u1]]) Y (Cq (Sr (fl 0 f_124_0 o_9 Y Y Y Y Y Y Y Y Y (li Y (cv b_185 Y Y Y Y (fun w' hs => impl_IsName) ?_))))));refine P2 Y Y (gxN 9 Y Y (fun h5n => ?_) (fun h5n => ?_))
 ·refine n1 Y (n1 Y (n1 Y (n1 Y (Pe Y (C_t Y (Sr (Pe Y (Ct (Xr (Rb Y Y ?_))))))))));unfold isFactB; simp_all
 ·refine fl 0 f_124_1 o_105 Y Y Y Y Y Y Y Y Y (q1 Y (Dl s_105 Y Y (rd_sl hu2)) (P2 Y Y (Dx (Cd Y (fun pr6 => ?_) (fun pr6 => ?_)))))
  ·refine Sr (Pe Y (Ct (Xr (Rb Y Y ?_))));unfold isFactB; rw [decide_eq_false (by omega : ¬ f.Args.length ≤ 3)]; simp
  ·refine Sk (Cq (Sr (fl 0 f_124_1 o_105 Y Y Y Y Y Y Y Y Y (q1 Y (Dl s_105 Y Y (rd_sl hu2)) (Pe Y (Cb (Cl (fun m_ ac w' => ∃ (k : Nat), (k ≤ f.Args.length) ∧ (∀ i, i < k → ∀ y, f.Args[i]? = some y → isAtomB y = true) ∧ m_ = f.Args.length - k ∧ Fits ac 26 [(16, u1), (17, (nv f.Args.length)), (18, (nv k))] ∧ St w ([bx g4 [(.string f.Rel), u1]]) w') ?_ ?_)))))))
   ·refine fun ac w' hf hs => ⟨_, 0, ?_, ?_, Y, hf.wk Y, hs⟩
    ·omega
    ·intro i hi; omega
   ·rintro m_ ac w' ⟨k, hk, hi, rfl, hf, hs⟩;refine D.use ?_ hf hs;clear hf hs ac w';refine Sr (Pe Y (Cq (Cd Y (fun pr7 => ?_) (fun pr7 => ?_))))
    ·refine Sk (Cq (Cb (Sr ?_)));obtain ⟨a0, ha0⟩ := sL (l := f.Args) (i := k) (by omega);obtain ⟨es8, at9, hr10⟩ := rd_elem (n := 1) rfl hu2 ha0;obtain rfl : es8 = [.string a0] := hr10;refine q1 Y (D_ix (l := f.Args) (j := k) s_105 Y Y Y (fun w' hs => (rA hs hu2)) Y (lS ha0)) (q1 Y (lr0 o_9 Y Y at9 Y) (Pe Y (Sr (p1 Y (li Y (cv b_199 Y Y Y Y (fun w' hs => impl_IsAtom) ?_))))));refine Pe Y (CN Y (fun h11n => ?_) (fun h11n => ?_))
     ·refine Sr (Pe Y (Ct (Xq (Xr (Xr (Xq (Xr (Rb Y Y ?_))))))));unfold isFactB; rw [all_bad (p := isAtomB) ha0 h11n]; simp
     ·refine Ck (Xb (Xt (Cr (ad (k + 1) Y Y Y Y (by omega) (by omega) (Pe Y (fun ac w' hf hs => ⟨_, ?_, k + 1, ?_, ?_, Y, hf.wk Y, hs⟩))))))
      ·omega
      ·omega
      ·refine forall_step hi ?_; intro y hy; obtain rfl : y = a0 := Option.some.inj (hy.symm.trans ha0); exact h11n
    ·refine Cx (Xx (Xx (Xe (Xt (Sr (Pe Y (Ct (Rb Y Y ?_))))))));unfold isFactB; rw [all_of_idx (p := isAtomB) (fun i h => hi i (by omega)), decide_eq_true (by omega : f.Args.length ≤ 3)]; simp_all
theorem spec_IsFact {w : World} {c_f : List Value} {f : Fact} (h_f : Gd.rd w c_f f) (hf0 : okFa f) : Cy 204 [(.agg c_f.toArray)] w (Val w (.bool (isFactB f))) := by
 obtain ⟨u1, rfl, hu2⟩ := open_Fact h_f;have hm3 := rd_max hu2;refine enter 27 Tryz.func204 Y Y Y (Sr (li Y (D_box Y Y Y Y Y fun g4 => ?_)));refine Pe Y (Dh ([bx g4 [(.string f.Rel), u1]]) Y (Cq (Sr (Pe Y (Cb (Cl (fun m_ ac w' => ∃ (k : Nat), (k ≤ f.Args.length) ∧ (∀ i, i < k → ∀ y, f.Args[i]? = some y → isAtomB y = true) ∧ m_ = f.Args.length - k ∧ Fits ac 27 [(1, (pv g4)), (3, (nv k))] ∧ St w ([bx g4 [(.string f.Rel), u1]]) w') ?_ ?_))))))
 ·refine fun ac w' hf hs => ⟨_, 0, ?_, ?_, Y, hf.wk Y, hs⟩
  ·omega
  ·intro i hi; omega
 ·rintro m_ ac w' ⟨k, hk, hi, rfl, hf, hs⟩;refine D.use ?_ hf hs;clear hf hs ac w';refine Cq (Sr (p1 Y (fl 0 f_124_1 o_105 Y Y Y Y Y Y Y Y Y (q1 Y (Dl s_105 Y Y (rd_sl hu2)) (Pe Y (Cd Y (fun pr5 => ?_) (fun pr5 => ?_)))))))
  ·refine Sk (Cq (Cb (Sr (fl 0 f_124_1 o_105 Y Y Y Y Y Y Y Y Y (p1 Y ?_)))));obtain ⟨a0, ha0⟩ := sL (l := f.Args) (i := k) (by omega);have hs1 : a0.size ≤ 9223372036854775807 := hf0.2 _ (List.mem_of_getElem? ha0);obtain ⟨es6, at7, hr8⟩ := rd_elem (n := 1) rfl hu2 ha0;obtain rfl : es6 = [.string a0] := hr8;refine q1 Y (D_ix (l := f.Args) (j := k) s_105 Y Y Y (fun w' hs => (rA hs hu2)) Y (lS ha0)) (q1 Y (lr0 o_9 Y Y at7 Y) (li Y (cv b_181 Y Y Y Y (fun w' hs => (spec_IsAtom (by assumption))) ?_)));refine Pe Y (CN Y (fun h9n => ?_) (fun h9n => ?_))
   ·refine Sr (Pe Y (Ct (Xq (Xr (Xr (Xq (Xr (Rb Y Y ?_))))))));unfold isFactB; rw [all_bad (p := isAtomB) ha0 h9n]; simp
   ·refine Ck (Xb (Xt (Cr (p1 Y (ad (k + 1) Y Y Y Y (by omega) (by omega) (Pe Y (fun ac w' hf hs => ⟨_, ?_, k + 1, ?_, ?_, Y, hf.wk Y, hs⟩)))))))
    ·omega
    ·omega
    ·refine forall_step hi ?_; intro y hy; obtain rfl : y = a0 := Option.some.inj (hy.symm.trans ha0); exact h9n
  ·refine Cx (Xx (Xx (Xe (Xt (Sr (fl 0 f_124_0 o_9 Y Y Y Y Y Y Y Y Y (li Y (cv b_205 Y Y Y Y (fun w' hs => (spec_IsName hf0.1)) ?_))))))));refine p1 Y (gs 21 Y Y (fun h10 => ?_) (fun h10 => ?_))
   ·refine fl 0 f_124_1 o_105 Y Y Y Y Y Y Y Y Y (q1 Y (Dl s_105 Y Y (rd_sl hu2)) (P3 Y Y Y (Dx (Ct (Rb Y Y ?_)))));show ((decide ((((f.Args.length : Nat) : Int) : Int) ≤ 3)) : Bool) = _;unfold isFactB; rw [all_of_idx (p := isAtomB) (fun i h => hi i (by omega))]; simp_all; try omega
   ·refine n1 Y (n1 Y (n1 Y (n1 Y (P2 Y Y (Dx (Ct (Rb Y Y ?_)))))));unfold isFactB; rw [all_of_idx (p := isAtomB) (fun i h => hi i (by omega))]; simp_all; try omega
theorem laws_szStringS {w : World} {v_a : Value} {a : (List ByteArray)} {left : Int} (h_a : Gd.rd w [v_a] a) (h0 : 0 ≤ left) (h1 : left ≤ 1048576) (ho : okSs a) : Cy 175 [v_a, (iv left)] w (Val w (iv (szm (szSs a) left))) := by
 have hm1 := rd_max h_a;refine enter 28 Tryz.func175 Y Y Y (Sr (Pe Y (Sr (P2 Y Y (q1 Y (Dl s_105 Y Y (rd_sl h_a)) (q1 Y (D_sub Y Y Y Y (by omega)) (Pe Y (Cq (Sr (P2 Y Y (Dx (Cd Y (fun pr2 => ?_) (fun pr2 => ?_)))))))))))))
 ·refine Sr (Pe Y (Ct (Xr (Ri Y Y ?_))));show ((-1) : Int) = _;refine (szm_neg ?_).symm; unfold szSs; omega
 ·refine Sk (Cq (Sr (Pe Y (Cb (Cl (fun m_ ac w' => ∃ (k : Nat), ∃ (lf : Int), (k ≤ a.length) ∧ (0 ≤ lf ∧ lf = left - a.length - ((a.take k).map (·.size)).sum) ∧ m_ = a.length - k ∧ Fits ac 28 [(0, v_a), (1, (iv lf)), (5, (nv k))] ∧ St w ([]) w') ?_ ?_)))))
  ·refine fun ac w' hf hs => ⟨_, 0, (left - ((a.length : Nat) : Int)), ?_, ?_, Y, hf.wk Y, hs⟩
   ·omega
   ·simp; omega
  ·rintro m_ ac w' ⟨k, lf, hk, hl, rfl, hf, hs⟩;refine D.use ?_ hf hs;clear hf hs ac w';have ht := sums_take_le a k;refine Cq (Sr (P2 Y Y (q1 Y (Dl s_105 Y Y (rd_sl h_a)) (Pe Y (Cd Y (fun pr3 => ?_) (fun pr3 => ?_))))))
   ·refine Sk (Cq (Cb (Sr (P3 Y Y Y ?_))));obtain ⟨s0, hs0⟩ := sL (l := a) (i := k) (by omega);have hs1 : s0.size ≤ 9223372036854775807 := ho _ (List.mem_of_getElem? hs0);obtain ⟨es4, at5, hr6⟩ := rd_elem (n := 1) rfl h_a hs0;obtain rfl : es4 = [.string s0] := hr6;refine q1 Y (D_ix (l := a) (j := k) s_105 Y Y Y (fun w' hs => (rA hs h_a)) Y (lS hs0)) (q1 Y (lr0 o_9 Y Y at5 Y) (q1 Y (D_lens us_9 Y Y) (q1 Y (D_sub Y Y Y Y (by omega)) (Pe Y (Sr (P2 Y Y (Dx (Cd Y (fun pr7 => ?_) (fun pr7 => ?_)))))))))
    ·refine Sr (Pe Y (Ct (Xq (Xr (Xr (Xq (Xr (Ri Y Y ?_))))))));show ((-1) : Int) = _;refine (szm_neg ?_).symm; have := sums_take (l := a) hs0; have := sums_take_le a (k + 1); unfold szSs; omega
    ·refine Ck (Xb (Xt (Cr (p1 Y (ad (k + 1) Y Y Y Y (by omega) (by omega) (Pe Y (fun ac w' hf hs => ⟨_, ?_, k + 1, (lf - ((s0.size : Nat) : Int)), ?_, ?_, Y, hf.wk Y, hs⟩)))))))
     ·omega
     ·omega
     ·have hst := sums_take (l := a) (k := k) (by assumption); rw [hst]; omega
   ·refine Cx (Xx (Xx (Xe (Xt (Sr (P2 Y Y (Dx (Ct (Ri Y Y ?_)))))))));show (lf : Int) = _;rw [szm_pos]; all_goals (unfold szSs; rw [List.take_of_length_le (by omega)] at hl; omega)
theorem laws_szFact {w : World} {c_a : List Value} {a : Fact} {left : Int} (h_a : Gd.rd w c_a a) (h0 : 0 ≤ left) (h1 : left ≤ 1048576) (ho : okFa a) : Cy 115 [(.agg c_a.toArray), (iv left)] w (Val w (iv (szm (szFa a) left))) := by
 obtain ⟨u1, rfl, hu2⟩ := open_Fact h_a;have hm3 := rd_max hu2;have ho1 : a.Rel.size ≤ 9223372036854775807 := ho.1;refine enter 19 Tryz.func115 Y Y Y (Sr (li Y (D_box Y Y Y Y Y fun g4 => ?_)));refine Pe Y (Dh ([bx g4 [(.string a.Rel), u1]]) Y (Sr (p1 Y (fl 0 f_107_0 o_9 Y Y Y Y Y Y Y Y Y (q1 Y (D_lens us_9 Y Y) (q1 Y (D_sub Y Y Y Y (by omega)) (Pe Y (Cq (Sr (P2 Y Y (Dx (Cd Y (fun pr5 => ?_) (fun pr5 => ?_)))))))))))))
 ·refine Sr (Pe Y (Ct (Xr (Ri Y Y ?_))));show ((-1) : Int) = _;unfold szFa szm at *; repeat (split at * <;> try omega)
 ·refine Sk (Sr (fl 0 f_107_1 o_105 Y Y Y Y Y Y Y Y Y (p1 Y (li Y (cv b_175 Y Y Y Y (fun w' hs => (laws_szStringS (rA hs hu2) (by omega) (by omega) ho.2)) ?_)))));refine Pe Y (Cq (Sr (P2 Y Y (Dx (D_wk [1, 17] Y (D_pkO [] Y (Cd Y (fun pr6 => ?_) (fun pr6 => ?_))))))))
  ·refine Sr (Pe Y (Ct (Xr (Ri Y Y ?_))));show ((-1) : Int) = _;unfold szFa szm at *; repeat (split at * <;> try omega)
  ·have pr6z := szm_val pr6;refine Sk (Sr (P2 Y Y (Dx (Ct (Ri Y Y ?_)))));show ((szm (szSs a.Args) (left - ((a.Rel.size : Nat) : Int))) : Int) = _;unfold szFa szm at *; repeat (split at * <;> try omega)
theorem laws_toStringS {w : World} {v_a : Value} {a : (List ByteArray)} (h_a : Gd.rd w [v_a] a) (hn : a.length ≤ 1048576) : Cy 184 [v_a] w (Res w (a : List ByteArray)) := by
 have hm1 := rd_max h_a;refine enter 22 Tryz.func184 Y Y Y (Sr (Pe Y (Sr (p1 Y (q1 Y (Dl s_105 Y Y (rd_sl h_a)) (li Y (D_mk (α := ByteArray) (z := ⟨#[]⟩) s_105 y_9 Y Y Y Y (by omega) (by omega) fun v2 => ?_)))))));refine Pe Y (Dh ([ov [v2] (List.replicate a.length (⟨#[]⟩) : (List ByteArray))]) Y (Cq (Sr (Pe Y (Cb (Cl (fun m_ ac w' => ∃ (k : Nat), ∃ (v : Value), (k ≤ a.length) ∧ m_ = a.length - k ∧ Fits ac 22 [(0, v_a), (3, v), (4, (nv k))] ∧ St w ([ov [v] (cp a ⟨#[]⟩ k : (List ByteArray))]) w') ?_ ?_))))))
 ·refine D_eq 0 Y (show (List.replicate a.length (⟨#[]⟩) : (List ByteArray)) = cp a ⟨#[]⟩ 0 from by rw [cp_zero]) (fun ac w' hf hs => ⟨_, 0, v2, ?_, Y, hf.wk Y, hs⟩)
  ·omega
 ·rintro m_ ac w' ⟨k, v, hk, rfl, hf, hs⟩;refine D.use ?_ hf hs;clear hf hs ac w';have hcl := cp_len a ⟨#[]⟩ k hk;refine Cq (Sr (P2 Y Y (q1 Y (Dl s_105 Y Y (rd_sl h_a)) (Pe Y (Dh ([_]) Y (Cd Y (fun pr3 => ?_) (fun pr3 => ?_)))))))
  ·refine Sk (Cq (Cb (Cr (P3 Y Y Y (p1 Y ?_)))));obtain ⟨x4, hx5⟩ := sL (l := a) (i := k) (by omega);obtain ⟨es6, at7, hr8⟩ := rd_elem (n := 1) rfl h_a hx5;obtain rfl : es6 = [.string x4] := hr8;refine q1 Y (D_ix (l := a) (j := k) s_105 Y Y Y (fun w' hs => (rA hs h_a)) Y (lS hx5)) (q1 Y (lr0 o_9 Y Y at7 Y) ?_);obtain ⟨x9, hx10⟩ := sL (l := (cp a ⟨#[]⟩ k)) (i := k) (by omega);refine q1 Y (D_ix (l := (cp a ⟨#[]⟩ k)) (j := k) s_105 Y Y Y (fun w' hs => (rO (k := 0) hs Y)) Y (lS hx10)) (li Y (so (α := ByteArray) (z := x4) 0 z_9 Y Y Y Y Y (lS hx10) ?_));refine De (Xb (Xt (Dh ([ov [v] ((cp a ⟨#[]⟩ k).set k x4 : (List ByteArray))]) Y (Cr (p1 Y (ad (k + 1) Y Y Y Y (by omega) (by omega) (Pe Y (D_eq 0 Y (show ((cp a ⟨#[]⟩ k).set k x4 : (List ByteArray)) = cp a ⟨#[]⟩ (k + 1) from by rw [cp_set (by assumption)]) (fun ac w' hf hs => ⟨_, ?_, k + 1, v, ?_, Y, hf.wk Y, hs⟩)))))))))
   ·omega
   ·omega
  ·refine Cx (Xx (Xx (Xe (Xt (Sr (P2 Y Y (Dx (Ct (R_1 Y Y fun w' hs => res_of (k := 0) hs Y ?_)))))))));show cp a ⟨#[]⟩ k = a;exact cp_done (by omega)
theorem laws_toFact {w : World} {c_a : List Value} {a : Fact} (h_a : Gd.rd w c_a a) (hn : szFa a ≤ 1048576) : Cy 127 [(.agg c_a.toArray)] w (Res w (a : Fact)) := by
 obtain ⟨u1, rfl, hu2⟩ := open_Fact h_a;have hm3 := rd_max hu2;unfold szFa szSs at hn;refine enter 12 Tryz.func127 Y Y Y (Sr (li Y (D_box Y Y Y Y Y fun g4 => ?_)));refine li Y (D_alloc y_124 Y Y Y Y fun g5 => ?_);refine Dx (Dh ([bx g5 [(.string ⟨#[]⟩), (.slice none 0 0)], bx g4 [(.string a.Rel), u1]]) Y (Sr (li Y (D_alloc y_124 Y Y Y Y fun g6 => ?_))));refine Dx (Dh ([bx g6 [(.string ⟨#[]⟩), (.slice none 0 0)], _, _]) Y (Sr (fl 2 f_107_0 o_9 Y Y Y Y Y Y Y Y Y (q1 Y (Db f_124_0 Y Y (q := 0) Y) (li Y (D_stb (vs := [(.string a.Rel)]) (cs' := [(.string a.Rel), (.slice none 0 0)]) 0 z_9 Y Y Y Y Y Y (ocons Y onil) (by simp) Y ?_))))));refine Dx (Dh ([bx g6 [(.string a.Rel), (.slice none 0 0)], _, _]) Y (Sr (fl 2 f_107_1 o_105 Y Y Y Y Y Y Y Y Y (li Y (crl b_184 Y Y Y Y (fun w' hs => (laws_toStringS (rA hs hu2) (by omega))) fun v7 => ?_)))));refine q1 Y (Db f_124_1 Y Y (q := 1) Y) (Dp (fun w' hs => one_own (k := 0) hs Y) ?_);intro ho8;refine li Y (D_stb (vs := [v7]) (cs' := [(.string a.Rel), v7]) 1 z_105 Y Y Y Y Y (cells_of_one ho8) (ocons ho8 onil) (by simp) Y ?_);refine Dx (Dh ([ov [v7] (a.Args : (List ByteArray)), bx g6 [(.string a.Rel), v7], _, _]) Y (Sr (q1 Y (lbw 1 a_124 Y Y Y) (li Y (D_stb (vs := [(.string a.Rel), v7]) (cs' := [(.string a.Rel), v7]) 2 z_124 Y Y Y Y Y Y (ocons Y (ocons ho8 onil)) (by simp) Y ?_)))));refine Dx (Ct (pk_Fact (r := (a : Fact)) (R_c 2 a_124 Y Y Y fun w' hs => res_of (k := 0) hs Y ?_)));show (a : Fact) = a;rfl
theorem laws_eqStringS {w : World} {v_a : Value} {a : (List ByteArray)} {v_b : Value} {b : (List ByteArray)} (h_a : Gd.rd w [v_a] a) (h_b : Gd.rd w [v_b] b) : Cy 202 [v_a, v_b] w (Val w (.bool (decide (a = b)))) := by
 have hm1 := rd_max h_a;have hm2 := rd_max h_b;refine enter 26 Tryz.func202 Y Y Y (Sr (Pe Y (Cq (Sr (p1 Y (q1 Y (Dl s_105 Y Y (rd_sl h_a)) (p1 Y (q1 Y (Dl s_105 Y Y (rd_sl h_b)) (Pe Y (Cn Y (fun pr3 => ?_) (fun pr3 => ?_)))))))))))
 ·refine Sr (Pe Y (Ct (Xr (Rb Y Y ?_))));simp; intro e; subst e; simp_all
 ·refine Sk (Cq (Sr (Pe Y (Cb (Cl (fun m_ ac w' => ∃ (k : Nat), (k ≤ a.length) ∧ (∀ i, i < k → a[i]? = b[i]?) ∧ m_ = a.length - k ∧ Fits ac 26 [(0, v_a), (1, v_b), (5, (nv k))] ∧ St w ([]) w') ?_ ?_)))))
  ·refine fun ac w' hf hs => ⟨_, 0, ?_, ?_, Y, hf.wk Y, hs⟩
   ·omega
   ·intro i hi; omega
  ·rintro m_ ac w' ⟨k, hk, hi, rfl, hf, hs⟩;refine D.use ?_ hf hs;clear hf hs ac w';refine Cq (Sr (P2 Y Y (q1 Y (Dl s_105 Y Y (rd_sl h_a)) (Pe Y (Cd Y (fun pr4 => ?_) (fun pr4 => ?_))))))
   ·refine Sk (Cq (Cb (Cq (C_draw mixed [] (by kernel_rfl) (tR 0 Y (by kernel_rfl) Y (tR 1 Y (by kernel_rfl) Y ?_))))));obtain ⟨x5, hx6⟩ := sL (l := a) (i := k) (by omega);obtain ⟨es7, at8, hr9⟩ := rd_elem (n := 1) rfl h_a hx6;obtain rfl : es7 = [.string x5] := hr9;refine Tk 2 Y (by kernel_rfl) Y (D_ix (l := a) (j := k) s_105 Y Y Y (fun w' hs => (rA hs h_a)) Y (lS hx6)) (Tk 3 Y (by kernel_rfl) Y (lr0 o_9 Y Y at8 Y) (tR 4 Y (by kernel_rfl) Y (tR 5 Y (by kernel_rfl) Y ?_)));obtain ⟨x10, hx11⟩ := sL (l := b) (i := k) (by omega);obtain ⟨es12, at13, hr14⟩ := rd_elem (n := 1) rfl h_b hx11;obtain rfl : es12 = [.string x10] := hr14;refine Tk 6 Y (by kernel_rfl) Y (D_ix (l := b) (j := k) s_105 Y Y Y (fun w' hs => (rA hs h_b)) Y (lS hx11)) (Tk 7 Y (by kernel_rfl) Y (lr0 o_9 Y Y at13 Y) (Tk 8 Y (by kernel_rfl) Y (D_neS Y Y Y) (tE (by kernel_rfl) (Xt (Cnd Y (fun pr15 => ?_) (fun pr15 => ?_))))))
    ·refine Sr (Pe Y (Ct (Xq (Xr (Xr (Xq (Xr (Rb Y Y ?_))))))));simp; intro e; subst e; simp_all
    ·refine Ck (Xb (Xt (Cr (p1 Y (ad (k + 1) Y Y Y Y (by omega) (by omega) (Pe Y (fun ac w' hf hs => ⟨_, ?_, k + 1, ?_, ?_, Y, hf.wk Y, hs⟩)))))))
     ·omega
     ·omega
     ·exact idx_step hi (by assumption) (by assumption) (by simp_all)
   ·refine Cx (Xx (Xx (Xe (Xt (Sr (Pe Y (Ct (Rb Y Y ?_))))))));simp; exact eq_of_idx (by omega) (fun i h => hi i (by omega))
theorem laws_eqFact {w : World} {c_a : List Value} {a : Fact} {c_b : List Value} {b : Fact} (h_a : Gd.rd w c_a a) (h_b : Gd.rd w c_b b) : Cy 139 [(.agg c_a.toArray), (.agg c_b.toArray)] w (Val w (.bool (decide (a = b)))) := by
 obtain ⟨u1, rfl, hu2⟩ := open_Fact h_a;have hm3 := rd_max hu2;obtain ⟨u4, rfl, hu5⟩ := open_Fact h_b;have hm6 := rd_max hu5;refine enter 16 Tryz.func139 Y Y Y (Sr (li Y (D_box Y Y Y Y Y fun g7 => ?_)));refine li Y (D_box Y Y Y Y Y fun g8 => ?_);refine Pe Y (Dh ([bx g8 [(.string b.Rel), u4], bx g7 [(.string a.Rel), u1]]) Y (Cq (Sr (fl 1 f_124_0 o_9 Y Y Y Y Y Y Y Y Y (fl 0 f_124_0 o_9 Y Y Y Y Y Y Y Y Y (q1 Y (D_neS Y Y Y) (Dx (Cnd Y (fun pr9 => ?_) (fun pr9 => ?_)))))))))
 ·refine Sr (Pe Y (Ct (Xr (Rb Y Y ?_))))
  cases a; cases b; simp_all
 ·refine Sk (Cq (Sr (fl 1 f_124_1 o_105 Y Y Y Y Y Y Y Y Y (fl 0 f_124_1 o_105 Y Y Y Y Y Y Y Y Y (li Y (cv b_202 Y Y Y Y (fun w' hs => (laws_eqStringS (rA hs hu2) (rA hs hu5))) ?_))))));refine Pe Y (D_wk [15] Y (D_pkO [] Y (CN Y (fun h10n => ?_) (fun h10n => ?_))))
  ·refine Sr (Pe Y (Ct (Xr (Rb Y Y ?_))))
   cases a; cases b; simp_all
  ·refine Sk (Sr (Pe Y (Ct (Rb Y Y ?_))))
   cases a; cases b; simp_all
end Go.Sy.Ev1
