/-
  Contracts of functions of the program, walked (printed by a program of ours).
  Conditions: those that each theorem states.
-/
import Derived.Test.YtobihkjhlopggaaGreatDoorFct
import Derived.Test.YtobihkjhlopggaaGreatDoorEng5
import Derived.Test.YtobihkjhlopggaaGreatDoorEv3
import Derived.Test.YtobihkjhlopggaaGreatDoorNum2
import Derived.Test.YtobihkjhlopggaaGreatDoorCho
set_option linter.unusedVariables false
set_option maxRecDepth 20000
namespace Go.Sy.Cho1
open Go Go.RowKit Go.Proofs Go.Sy
open Go.Sy.Bel1 Go.Sy.Bel3 Go.Sy.Ev1 Go.Sy.Ev2 Go.Sy.Ev3 Go.Sy.Fmt1 Go.Sy.Eng1 Go.Sy.Eng2 Go.Sy.Eng3 Go.Sy.Eng5 Go.Sy.Num1 Go.Sy.Num2
theorem laws_eqPair {w : World} {c_a : List Value} {a : Pair} {c_b : List Value} {b : Pair} (h_a : Gd.rd w c_a a) (h_b : Gd.rd w c_b b) : Cy 157 [(.agg c_a.toArray), (.agg c_b.toArray)] w (Val w (.bool (decide (a = b)))) := by
 obtain ⟨rfl⟩ := open_Pair h_a;obtain ⟨rfl⟩ := open_Pair h_b;refine enter 15 Tryz.func157 Y Y Y (Sr (li Y (D_box Y Y Y Y Y fun g1 => ?_)));refine li Y (D_box Y Y Y Y Y fun g2 => ?_);refine Pe Y (Dh ([bx g2 [(.string b.Var), (.string b.Value)], bx g1 [(.string a.Var), (.string a.Value)]]) Y (Cq (Sr (fl 1 f_168_0 o_9 Y Y Y Y Y Y Y Y Y (fl 0 f_168_0 o_9 Y Y Y Y Y Y Y Y Y (q1 Y (D_neS Y Y Y) (Dx (Cnd Y (fun pr3 => ?_) (fun pr3 => ?_)))))))))
 ·refine Sr (Pe Y (Ct (Xr (Rb Y Y ?_))))
  cases a; cases b; simp_all
 ·refine Sk (Cq (Sr (fl 1 f_168_1 o_9 Y Y Y Y Y Y Y Y Y (fl 0 f_168_1 o_9 Y Y Y Y Y Y Y Y Y (q1 Y (D_neS Y Y Y) (Dx (Cnd Y (fun pr4 => ?_) (fun pr4 => ?_))))))))
  ·refine Sr (Pe Y (Ct (Xr (Rb Y Y ?_))))
   cases a; cases b; simp_all
  ·refine Sk (Sr (Pe Y (Ct (Rb Y Y ?_))))
   cases a; cases b; simp_all
theorem laws_eqFactS {w : World} {v_a : Value} {a : (List Fact)} {v_b : Value} {b : (List Fact)} (h_a : Gd.rd w [v_a] a) (h_b : Gd.rd w [v_b] b) : Cy 103 [v_a, v_b] w (Val w (.bool (decide (a = b)))) := by
 have hm1 := rd_max h_a;have hm2 := rd_max h_b;refine enter 27 Tryz.func103 Y Y Y (Sr (Pe Y (Cq (Sr (p1 Y (q1 Y (Dl s_31 Y Y (rd_sl h_a)) (p1 Y (q1 Y (Dl s_31 Y Y (rd_sl h_b)) (Pe Y (Cn Y (fun pr3 => ?_) (fun pr3 => ?_)))))))))))
 ·refine Sr (Pe Y (Ct (Xr (Rb Y Y ?_))));simp; intro e; subst e; simp_all
 ·refine Sk (Cq (Sr (Pe Y (Cb (Cl (fun m_ ac w' => ∃ (k : Nat), (k ≤ a.length) ∧ (∀ i, i < k → a[i]? = b[i]?) ∧ m_ = a.length - k ∧ Fits ac 27 [(0, v_a), (1, v_b), (5, (nv k))] ∧ St w ([]) w') ?_ ?_)))))
  ·refine fun ac w' hf hs => ⟨_, 0, ?_, ?_, Y, hf.wk Y, hs⟩
   ·omega
   ·intro i hi; omega
  ·rintro m_ ac w' ⟨k, hk, hi, rfl, hf, hs⟩;refine D.use ?_ hf hs;clear hf hs ac w';refine Cq (Sr (P2 Y Y (q1 Y (Dl s_31 Y Y (rd_sl h_a)) (Pe Y (Cd Y (fun pr4 => ?_) (fun pr4 => ?_))))))
   ·refine Sk (Cq (Cb (Cq (C_draw mixed [8, 9] (by kernel_rfl) (tR 0 Y (by kernel_rfl) Y (tR 1 Y (by kernel_rfl) Y ?_))))));obtain ⟨x5, hx6⟩ := sL (l := a) (i := k) (by omega);obtain ⟨es7, at8, hr9⟩ := rd_elem (n := 2) rfl h_a hx6;obtain ⟨u10, rfl, hu11⟩ := open_Fact hr9;have hm12 := rd_max hu11;refine Tk 2 Y (by kernel_rfl) Y (D_ix (l := a) (j := k) s_31 Y Y Y (fun w' hs => (rA hs h_a)) Y (lS hx6)) (Tk 3 Y (by kernel_rfl) Y (lra a_124 Y Y at8) (tR 4 Y (by kernel_rfl) Y (tR 5 Y (by kernel_rfl) Y ?_)));obtain ⟨x13, hx14⟩ := sL (l := b) (i := k) (by omega);obtain ⟨es15, at16, hr17⟩ := rd_elem (n := 2) rfl h_b hx14;obtain ⟨u18, rfl, hu19⟩ := open_Fact hr17;have hm20 := rd_max hu19;refine Tk 6 Y (by kernel_rfl) Y (D_ix (l := b) (j := k) s_31 Y Y Y (fun w' hs => (rA hs h_b)) Y (lS hx14)) (Tk 7 Y (by kernel_rfl) Y (lra a_124 Y Y at16) (ty 8 Y (by kernel_rfl) Y (cv b_139 Y Y Y Y (fun w' hs => (laws_eqFact (rA hs hr9) (rA hs hr17))) ?_)));refine tZ Y (ty 9 Y (by kernel_rfl) Y (sv Y Y (rp Y) ?_));refine tZ Y (tE (by kernel_rfl) (Xt (CN Y (fun h21n => ?_) (fun h21n => ?_))))
    ·refine Sr (Pe Y (Ct (Xq (Xr (Xr (Xq (Xr (Rb Y Y ?_))))))));simp; intro e; subst e; simp_all
    ·refine Ck (Xb (Xt (Cr (p1 Y (ad (k + 1) Y Y Y Y (by omega) (by omega) (Pe Y (fun ac w' hf hs => ⟨_, ?_, k + 1, ?_, ?_, Y, hf.wk Y, hs⟩)))))))
     ·omega
     ·omega
     ·refine idx_step hi (by assumption) (by assumption) ?_; simp_all
   ·refine Cx (Xx (Xx (Xe (Xt (Sr (Pe Y (Ct (Rb Y Y ?_))))))));simp; exact eq_of_idx (by omega) (fun i h => hi i (by omega))
theorem laws_eqPairS {w : World} {v_a : Value} {a : (List Pair)} {v_b : Value} {b : (List Pair)} (h_a : Gd.rd w [v_a] a) (h_b : Gd.rd w [v_b] b) : Cy 104 [v_a, v_b] w (Val w (.bool (decide (a = b)))) := by
 have hm1 := rd_max h_a;have hm2 := rd_max h_b;refine enter 27 Tryz.func104 Y Y Y (Sr (Pe Y (Cq (Sr (p1 Y (q1 Y (Dl s_32 Y Y (rd_sl h_a)) (p1 Y (q1 Y (Dl s_32 Y Y (rd_sl h_b)) (Pe Y (Cn Y (fun pr3 => ?_) (fun pr3 => ?_)))))))))))
 ·refine Sr (Pe Y (Ct (Xr (Rb Y Y ?_))));simp; intro e; subst e; simp_all
 ·refine Sk (Cq (Sr (Pe Y (Cb (Cl (fun m_ ac w' => ∃ (k : Nat), (k ≤ a.length) ∧ (∀ i, i < k → a[i]? = b[i]?) ∧ m_ = a.length - k ∧ Fits ac 27 [(0, v_a), (1, v_b), (5, (nv k))] ∧ St w ([]) w') ?_ ?_)))))
  ·refine fun ac w' hf hs => ⟨_, 0, ?_, ?_, Y, hf.wk Y, hs⟩
   ·omega
   ·intro i hi; omega
  ·rintro m_ ac w' ⟨k, hk, hi, rfl, hf, hs⟩;refine D.use ?_ hf hs;clear hf hs ac w';refine Cq (Sr (P2 Y Y (q1 Y (Dl s_32 Y Y (rd_sl h_a)) (Pe Y (Cd Y (fun pr4 => ?_) (fun pr4 => ?_))))))
   ·refine Sk (Cq (Cb (Cq (C_draw mixed [8, 9] (by kernel_rfl) (tR 0 Y (by kernel_rfl) Y (tR 1 Y (by kernel_rfl) Y ?_))))));obtain ⟨x5, hx6⟩ := sL (l := a) (i := k) (by omega);obtain ⟨es7, at8, hr9⟩ := rd_elem (n := 2) rfl h_a hx6;obtain ⟨rfl⟩ := open_Pair hr9;refine Tk 2 Y (by kernel_rfl) Y (D_ix (l := a) (j := k) s_32 Y Y Y (fun w' hs => (rA hs h_a)) Y (lS hx6)) (Tk 3 Y (by kernel_rfl) Y (lra a_168 Y Y at8) (tR 4 Y (by kernel_rfl) Y (tR 5 Y (by kernel_rfl) Y ?_)));obtain ⟨x10, hx11⟩ := sL (l := b) (i := k) (by omega);obtain ⟨es12, at13, hr14⟩ := rd_elem (n := 2) rfl h_b hx11;obtain ⟨rfl⟩ := open_Pair hr14;refine Tk 6 Y (by kernel_rfl) Y (D_ix (l := b) (j := k) s_32 Y Y Y (fun w' hs => (rA hs h_b)) Y (lS hx11)) (Tk 7 Y (by kernel_rfl) Y (lra a_168 Y Y at13) (ty 8 Y (by kernel_rfl) Y (cv b_157 Y Y Y Y (fun w' hs => (laws_eqPair (rA hs hr9) (rA hs hr14))) ?_)));refine tZ Y (ty 9 Y (by kernel_rfl) Y (sv Y Y (rp Y) ?_));refine tZ Y (tE (by kernel_rfl) (Xt (CN Y (fun h15n => ?_) (fun h15n => ?_))))
    ·refine Sr (Pe Y (Ct (Xq (Xr (Xr (Xq (Xr (Rb Y Y ?_))))))));simp; intro e; subst e; simp_all
    ·refine Ck (Xb (Xt (Cr (p1 Y (ad (k + 1) Y Y Y Y (by omega) (by omega) (Pe Y (fun ac w' hf hs => ⟨_, ?_, k + 1, ?_, ?_, Y, hf.wk Y, hs⟩)))))))
     ·omega
     ·omega
     ·refine idx_step hi (by assumption) (by assumption) ?_; simp_all
   ·refine Cx (Xx (Xx (Xe (Xt (Sr (Pe Y (Ct (Rb Y Y ?_))))))));simp; exact eq_of_idx (by omega) (fun i h => hi i (by omega))
theorem laws_eqMatch {w : World} {c_a : List Value} {a : Match} {c_b : List Value} {b : Match} (h_a : Gd.rd w c_a a) (h_b : Gd.rd w c_b b) : Cy 53 [(.agg c_a.toArray), (.agg c_b.toArray)] w (Val w (.bool (decide (a = b)))) := by
 obtain ⟨u1, u3, rfl, hu2, hu4⟩ := open_Match h_a;have hm5 := rd_max hu2;have hm6 := rd_max hu4;obtain ⟨u7, u9, rfl, hu8, hu10⟩ := open_Match h_b;have hm11 := rd_max hu8;have hm12 := rd_max hu10;refine enter 22 Tryz.func53 Y Y Y (Sr (li Y (D_box Y Y Y Y Y fun g13 => ?_)));refine li Y (D_box Y Y Y Y Y fun g14 => ?_);refine Pe Y (Dh ([bx g14 [(.string b.Rule), u7, u9], bx g13 [(.string a.Rule), u1, u3]]) Y (Cq (Sr (fl 1 f_34_0 o_9 Y Y Y Y Y Y Y Y Y (fl 0 f_34_0 o_9 Y Y Y Y Y Y Y Y Y (q1 Y (D_neS Y Y Y) (Dx (Cnd Y (fun pr15 => ?_) (fun pr15 => ?_)))))))))
 ·refine Sr (Pe Y (Ct (Xr (Rb Y Y ?_))))
  cases a; cases b; simp_all
 ·refine Sk (Cq (Sr (fl 1 f_34_1 o_31 Y Y Y Y Y Y Y Y Y (fl 0 f_34_1 o_31 Y Y Y Y Y Y Y Y Y (li Y (cv b_103 Y Y Y Y (fun w' hs => (laws_eqFactS (rA hs hu2) (rA hs hu8))) ?_))))));refine Pe Y (CN Y (fun h16n => ?_) (fun h16n => ?_))
  ·refine Sr (Pe Y (Ct (Xr (Rb Y Y ?_))))
   cases a; cases b; simp_all
  ·refine Sk (Cq (Sr (fl 1 f_34_2 o_32 Y Y Y Y Y Y Y Y Y (fl 0 f_34_2 o_32 Y Y Y Y Y Y Y Y Y (li Y (cv b_104 Y Y Y Y (fun w' hs => (laws_eqPairS (rA hs hu4) (rA hs hu10))) ?_))))));refine Pe Y (D_wk [21] Y (D_pkO [] Y (CN Y (fun h17n => ?_) (fun h17n => ?_))))
   ·refine Sr (Pe Y (Ct (Xr (Rb Y Y ?_))))
    cases a; cases b; simp_all
   ·refine Sk (Sr (Pe Y (Ct (Rb Y Y ?_))))
    cases a; cases b; simp_all
theorem laws_eqChoice {w : World} {c_a : List Value} {a : Choice} {c_b : List Value} {b : Choice} (h_a : Gd.rd w c_a a) (h_b : Gd.rd w c_b b) : Cy 12 [(.agg c_a.toArray), (.agg c_b.toArray)] w (Val w (.bool (decide (a = b)))) := by
 obtain ⟨u1, u3, u5, rfl, hu2, hu4, hu6⟩ := open_Choice h_a;have hm7 := rd_max hu2;have hm8 := rd_max hu4;have hm9 := rd_max hu6;have hb10 := sub_Choice_Match h_a;obtain ⟨u11, u13, u15, rfl, hu12, hu14, hu16⟩ := open_Choice h_b;have hm17 := rd_max hu12;have hm18 := rd_max hu14;have hm19 := rd_max hu16;have hb20 := sub_Choice_Match h_b;refine enter 32 Tryz.func12 Y Y Y (Sr (li Y (D_box Y Y Y Y Y fun g21 => ?_)));refine li Y (D_box Y Y Y Y Y fun g22 => ?_);refine Pe Y (Dh ([bx g22 [(.string b.Match.Rule), u11, u13, (iv b.Priority), u15, (iv b.Specific), (iv b.Order)], bx g21 [(.string a.Match.Rule), u1, u3, (iv a.Priority), u5, (iv a.Specific), (iv a.Order)]]) Y (Cq (Sr (q1 Y (Db f_36_0 Y Y (q := 0) Y) (q1 Y (lba (es := [(.string a.Match.Rule), u1, u3]) 1 a_34 Y Y Y Y) (q1 Y (Db f_36_0 Y Y (q := 0) Y) (q1 Y (lba (es := [(.string b.Match.Rule), u11, u13]) 0 a_34 Y Y Y Y) (li Y (cv b_53 Y Y Y Y (fun w' hs => (laws_eqMatch (rA hs hb10) (rA hs hb20))) ?_)))))))));refine Pe Y (CN Y (fun h23n => ?_) (fun h23n => ?_))
 ·refine Sr (Pe Y (Ct (Xr (Rb Y Y ?_))))
  cases a; cases b; simp_all
 ·refine Sk (Cq (Sr (fl 1 f_36_1 o_3 Y Y Y Y Y Y Y Y Y (fl 0 f_36_1 o_3 Y Y Y Y Y Y Y Y Y (Pe Y (Cn Y (fun pr24 => ?_) (fun pr24 => ?_)))))))
  ·refine Sr (Pe Y (Ct (Xr (Rb Y Y ?_))))
   cases a; cases b; simp_all
  ·refine Sk (Cq (Sr (fl 1 f_36_2 o_26 Y Y Y Y Y Y Y Y Y (fl 0 f_36_2 o_26 Y Y Y Y Y Y Y Y Y (li Y (cv b_54 Y Y Y Y (fun w' hs => (laws_eqIntS (rA hs hu6) (rA hs hu16))) ?_))))));refine Pe Y (D_wk [2, 3, 21] Y (CN Y (fun h25n => ?_) (fun h25n => ?_)))
   ·refine Sr (Pe Y (Ct (Xr (Rb Y Y ?_))))
    cases a; cases b; simp_all
   ·refine Sk (Cq (Sr (fl 1 f_36_3 o_3 Y Y Y Y Y Y Y Y Y (fl 0 f_36_3 o_3 Y Y Y Y Y Y Y Y Y (Pe Y (Cn Y (fun pr26 => ?_) (fun pr26 => ?_)))))))
    ·refine Sr (Pe Y (Ct (Xr (Rb Y Y ?_))))
     cases a; cases b; simp_all
    ·refine Sk (Cq (Sr (fl 1 f_36_4 o_3 Y Y Y Y Y Y Y Y Y (fl 0 f_36_4 o_3 Y Y Y Y Y Y Y Y Y (Pe Y (Cn Y (fun pr27 => ?_) (fun pr27 => ?_)))))))
     ·refine Sr (Pe Y (Ct (Xr (Rb Y Y ?_))))
      cases a; cases b; simp_all
     ·refine Sk (Sr (Pe Y (Ct (Rb Y Y ?_))))
      cases a; cases b; simp_all
theorem laws_eqChoiceS {w : World} {v_a : Value} {a : (List Choice)} {v_b : Value} {b : (List Choice)} (h_a : Gd.rd w [v_a] a) (h_b : Gd.rd w [v_b] b) : Cy 17 [v_a, v_b] w (Val w (.bool (decide (a = b)))) := by
 have hm1 := rd_max h_a;have hm2 := rd_max h_b;refine enter 27 Tryz.func17 Y Y Y (Sr (Pe Y (Cq (Sr (p1 Y (q1 Y (Dl s_42 Y Y (rd_sl h_a)) (p1 Y (q1 Y (Dl s_42 Y Y (rd_sl h_b)) (Pe Y (Cn Y (fun pr3 => ?_) (fun pr3 => ?_)))))))))))
 ·refine Sr (Pe Y (Ct (Xr (Rb Y Y ?_))));simp; intro e; subst e; simp_all
 ·refine Sk (Cq (Sr (Pe Y (Cb (Cl (fun m_ ac w' => ∃ (k : Nat), (k ≤ a.length) ∧ (∀ i, i < k → a[i]? = b[i]?) ∧ m_ = a.length - k ∧ Fits ac 27 [(0, v_a), (1, v_b), (5, (nv k))] ∧ St w ([]) w') ?_ ?_)))))
  ·refine fun ac w' hf hs => ⟨_, 0, ?_, ?_, Y, hf.wk Y, hs⟩
   ·omega
   ·intro i hi; omega
  ·rintro m_ ac w' ⟨k, hk, hi, rfl, hf, hs⟩;refine D.use ?_ hf hs;clear hf hs ac w';refine Cq (Sr (P2 Y Y (q1 Y (Dl s_42 Y Y (rd_sl h_a)) (Pe Y (Cd Y (fun pr4 => ?_) (fun pr4 => ?_))))))
   ·refine Sk (Cq (Cb (Cq (C_draw mixed [8, 9] (by kernel_rfl) (tR 0 Y (by kernel_rfl) Y (tR 1 Y (by kernel_rfl) Y ?_))))));obtain ⟨x5, hx6⟩ := sL (l := a) (i := k) (by omega);obtain ⟨es7, at8, hr9⟩ := rd_elem (n := 7) rfl h_a hx6;obtain ⟨u10, u12, u14, rfl, hu11, hu13, hu15⟩ := open_Choice hr9;have hm16 := rd_max hu11;have hm17 := rd_max hu13;have hm18 := rd_max hu15;have hb19 := sub_Choice_Match hr9;refine Tk 2 Y (by kernel_rfl) Y (D_ix (l := a) (j := k) s_42 Y Y Y (fun w' hs => (rA hs h_a)) Y (lS hx6)) (Tk 3 Y (by kernel_rfl) Y (lra a_36 Y Y at8) (tR 4 Y (by kernel_rfl) Y (tR 5 Y (by kernel_rfl) Y ?_)));obtain ⟨x20, hx21⟩ := sL (l := b) (i := k) (by omega);obtain ⟨es22, at23, hr24⟩ := rd_elem (n := 7) rfl h_b hx21;obtain ⟨u25, u27, u29, rfl, hu26, hu28, hu30⟩ := open_Choice hr24;have hm31 := rd_max hu26;have hm32 := rd_max hu28;have hm33 := rd_max hu30;have hb34 := sub_Choice_Match hr24;refine Tk 6 Y (by kernel_rfl) Y (D_ix (l := b) (j := k) s_42 Y Y Y (fun w' hs => (rA hs h_b)) Y (lS hx21)) (Tk 7 Y (by kernel_rfl) Y (lra a_36 Y Y at23) (ty 8 Y (by kernel_rfl) Y (cv b_12 Y Y Y Y (fun w' hs => (laws_eqChoice (rA hs hr9) (rA hs hr24))) ?_)));refine tZ Y (ty 9 Y (by kernel_rfl) Y (sv Y Y (rp Y) ?_));refine tZ Y (tE (by kernel_rfl) (Xt (CN Y (fun h35n => ?_) (fun h35n => ?_))))
    ·refine Sr (Pe Y (Ct (Xq (Xr (Xr (Xq (Xr (Rb Y Y ?_))))))));simp; intro e; subst e; simp_all
    ·refine Ck (Xb (Xt (Cr (p1 Y (ad (k + 1) Y Y Y Y (by omega) (by omega) (Pe Y (fun ac w' hf hs => ⟨_, ?_, k + 1, ?_, ?_, Y, hf.wk Y, hs⟩)))))))
     ·omega
     ·omega
     ·refine idx_step hi (by assumption) (by assumption) ?_; simp_all
   ·refine Cx (Xx (Xx (Xe (Xt (Sr (Pe Y (Ct (Rb Y Y ?_))))))));simp; exact eq_of_idx (by omega) (fun i h => hi i (by omega))
theorem laws_markFactS (w0 : World) (Hs : List Chunk) (w : World) (v_a : Value) (a : (List Fact)) (k : Int) (h0 : 0 ≤ k) (h1 : k + sumC cFa a ≤ 4611686018427387904) (hst : St w0 (ov [v_a] (a : (List Fact)) :: Hs) w) : Cy 60 [v_a, (iv k)] w (fun e w' => e = .returned (iv (k + sumC cFa a)) ∧ St w0 (ov [v_a] (mapS fFa cFa k a : (List Fact)) :: Hs) w') := by
 have hm1 := rd_max (rO (k := 0) hst rfl);refine enterS 28 Tryz.func60 Y Y Y hst (Sr (Pe Y (Dh (ov [v_a] (a : (List Fact)) :: Hs) Y (Cq (Sr (Pe Y (Cb (Cl (fun m_ ac w' => ∃ (i : Nat), ∃ (kk : Int), (i ≤ a.length) ∧ (kk = k + sumC cFa (a.take i)) ∧ m_ = a.length - i ∧ Fits ac 28 [(0, v_a), (1, (iv kk)), (5, (nv i))] ∧ St w0 (ov [v_a] (mapAt fFa cFa k a i : (List Fact)) :: Hs) w') ?_ ?_))))))))
 ·refine D_eq 0 Y (show (a : (List Fact)) = mapAt fFa cFa k a 0 from by rw [mapAt_zero]) (fun ac w' hf hs => ⟨_, 0, k, ?_, ?_, Y, hf.wk Y, hs⟩)
  ·omega
  ·simp [sumC]
 ·rintro m_ ac w' ⟨i, kk, hi, hk, rfl, hf, hs⟩;refine D.use ?_ hf hs;clear hf hs ac w';have hcl := mapAt_len (f := fFa) (c := cFa) (k := k) hi;have htk := sumC_take_le a cFa i;refine Cq (Sr (P2 Y Y (q1 Y (D_leno 0 s_31 Y Y Y) (Pe Y (Dh (_ :: Hs) Y (Cd Y (fun pr2 => ?_) (fun pr2 => ?_)))))))
  ·refine Sk (Cq (Cb (Sr (P3 Y Y Y (li Y (cv b_59 Y Y Y Y (fun w' hs => (laws_markText (by omega))) ?_))))));obtain ⟨x3, hx4⟩ := sL (l := (mapAt fFa cFa k a i)) (i := i) (by omega);refine D_take hx4 fun es5 => ?_
   refine Dp (fun w' hs => shape_Fact (rO (k := 0) hs Y)) ?_;rintro ⟨v6, rfl, ho7⟩;refine q1 Y (D_ixh 1 s_31 Y Y Y Y Y) ?_;have hstep := mk_step hi hx4 hk;have hcc : cFa x3 = 1 + x3.Args.length := rfl;refine q1 Y (D_fa f_124_0 Y Y) (D_unpair (α := ByteArray) (β := (List ByteArray)) (c1 := [(.string x3.Rel)]) (c2 := [v6]) (x := x3.Rel) (y := (x3.Args)) Y Y (D_fd [] 1 Y (li Y (sh (n := 2) (f := 0) 1 Y z_9 Y Y Y Y Y Y Y (by simp) ?_))));refine Dx (Sr (p1 Y (q1 Y (D_add Y Y Y Y (by omega)) (Pe Y (Cr (P2 Y Y (q1 Y (D_ixh 1 s_31 Y Y Y Y Y) (q1 Y (D_fa f_124_1 Y Y) (q1 Y (lh (n := 2) 1 Y o_105 Y Y Y Y) (p1 Y (li Y (cm b_87 Y Y Y Y (fun w' hs => laws_markStringS _ _ w' v6 x3.Args (kk + 1) (by omega) (by omega) hs) ?_))))))))))));refine p1 Y (De (Xb (Xt (D_wk [0, 1, 5] Y (Cr (p1 Y (ad (i + 1) Y Y Y Y (by omega) (by omega) (Pe Y (pk_Fact (r := (⟨(markS kk), mkSs (kk + 1) x3.Args⟩ : Fact)) (D_put (D_eq 0 Y (show ((mapAt fFa cFa k a i).set i (⟨(markS kk), mkSs (kk + 1) x3.Args⟩ : Fact) : (List Fact)) = mapAt fFa cFa k a (i + 1) from by exact mk_set hi hx4 hk Y) (fun ac w' hf hs => ⟨_, ?_, i + 1, ((kk + 1) + x3.Args.length), ?_, ?_, Y, hf.wk Y, hs⟩))))))))))))
   ·omega
   ·omega
   ·omega
  ·refine Cx (Xx (Xx (Xe (Xt (Sr (P2 Y Y (Dx (Ct (D_eq 0 Y (show (mapAt fFa cFa k a i : (List Fact)) = mapS fFa cFa k a from by exact mapAt_done (by omega)) (R_1 Y Y fun w' hs => ⟨congrArg (fun z => Ending.returned (Value.int .i64 z)) ?_, hs⟩))))))))));show (kk : Int) = k + sumC cFa a;rw [List.take_of_length_le (by omega)] at hk; exact hk
theorem laws_heldFactS {w : World} {v_a : Value} {a : (List Fact)} {k : Int} (h_a : Gd.rd w [v_a] a) (h0 : 0 ≤ k) (h1 : k + sumC cFa a ≤ 4611686018427387904) (he : a = mapS fFa cFa k a) : Cy 63 [v_a, (iv k)] w (Val w (iv (k + sumC cFa a))) := by
 have hm1 := rd_max h_a;refine enter 32 Tryz.func63 Y Y Y (Sr (Pe Y (Cq (Sr (Pe Y (Cb (Cl (fun m_ ac w' => ∃ (i : Nat), ∃ (kk : Int), (i ≤ a.length) ∧ (kk = k + sumC cFa (a.take i)) ∧ m_ = a.length - i ∧ Fits ac 32 [(0, v_a), (1, (iv kk)), (5, (nv i))] ∧ St w ([]) w') ?_ ?_)))))))
 ·refine fun ac w' hf hs => ⟨_, 0, k, ?_, ?_, Y, hf.wk Y, hs⟩
  ·omega
  ·simp [sumC]
 ·rintro m_ ac w' ⟨i, kk, hi, hk, rfl, hf, hs⟩;refine D.use ?_ hf hs;clear hf hs ac w';have htk := sumC_take_le a cFa i;refine Cq (Sr (P2 Y Y (q1 Y (Dl s_31 Y Y (rd_sl h_a)) (Pe Y (Cd Y (fun pr2 => ?_) (fun pr2 => ?_))))))
  ·refine Sk (Cq (Cb (Cq (Cq (C_draw mixed [] (by kernel_rfl) (tR 0 Y (by kernel_rfl) Y (tR 1 Y (by kernel_rfl) Y ?_)))))));obtain ⟨x3, hx4⟩ := sL (l := a) (i := i) (by omega);obtain ⟨es5, at6, hr7⟩ := rd_elem (n := 2) rfl h_a hx4;obtain ⟨u9, rfl, hu10⟩ := open_Fact hr7;have hm11 := rd_max hu10;refine Tk 2 Y (by kernel_rfl) Y (D_ix (l := a) (j := i) s_31 Y Y Y (fun w' hs => (rA hs h_a)) Y (lS hx4)) ?_;have hfx := mapS_fix he hx4;rw [← hk] at hfx;have hF0 : x3.Rel = markS kk := congrArg (fun y => y.Rel) hfx;have hF1 : x3.Args = mkSs (kk + 1) x3.Args := congrArg (fun y => y.Args) hfx;have hstep := mk_stepH (c := cFa) hx4 hk;have hcc : cFa x3 = 1 + x3.Args.length := rfl;refine Tk 3 Y (by kernel_rfl) Y (D_fa f_124_0 Y Y) (Tk 4 Y (by kernel_rfl) Y (lr o_9 Y Y at6 Y) (tR 5 Y (by kernel_rfl) Y (ty 6 Y (by kernel_rfl) Y (cv b_59 Y Y Y Y (fun w' hs => (laws_markText (by omega))) ?_))));refine tS (fun _ hs => hs) (Tk 7 Y (by kernel_rfl) Y (D_neS Y Y Y) (tE (by kernel_rfl) (Xt (Cnd Y (fun pr12 => ?_) (fun pr12 => ?_)))))
   ·refine Sr (Pe Y (Ct (Xr (Xq (Xr (Xr (Xq (Xr (Ri Y Y ?_)))))))));show ((-1) : Int) = _;exfalso; contradiction
   ·refine Sk (Sr (p1 Y (q1 Y (D_add Y Y Y Y (by omega)) (Pe Y (Sr (P2 Y Y (q1 Y (D_ix (l := a) (j := i) s_31 Y Y Y (fun w' hs => (rA hs h_a)) Y (lS hx4)) (q1 Y (D_fa f_124_1 Y Y) (q1 Y (lr o_105 Y Y at6 Y) (p1 Y (li Y (cv b_112 Y Y Y Y (fun w' hs => (laws_heldStringS (rA hs hu10) (by omega) (by omega) (by assumption))) ?_))))))))))));refine Pe Y (D_wk [0, 1, 5] Y (Sr (P2 Y Y (Dx (Cd Y (fun pr13 => ?_) (fun pr13 => ?_))))))
    ·refine Sr (Pe Y (Ct (Xq (Xr (Xr (Xq (Xr (Ri Y Y ?_))))))));show ((-1) : Int) = _;exfalso; omega
    ·refine Ck (Xb (Xt (Cr (p1 Y (ad (i + 1) Y Y Y Y (by omega) (by omega) (Pe Y (fun ac w' hf hs => ⟨_, ?_, i + 1, ((kk + 1) + x3.Args.length), ?_, ?_, Y, hf.wk Y, hs⟩)))))))
     ·omega
     ·omega
     ·omega
  ·refine Cx (Xx (Xx (Xe (Xt (Sr (P2 Y Y (Dx (Ct (Ri Y Y ?_)))))))));show (kk : Int) = _;rw [List.take_of_length_le (by omega)] at hk; exact hk
theorem laws_markPairS (w0 : World) (Hs : List Chunk) (w : World) (v_a : Value) (a : (List Pair)) (k : Int) (h0 : 0 ≤ k) (h1 : k + sumC cPa a ≤ 4611686018427387904) (hst : St w0 (ov [v_a] (a : (List Pair)) :: Hs) w) : Cy 61 [v_a, (iv k)] w (fun e w' => e = .returned (iv (k + sumC cPa a)) ∧ St w0 (ov [v_a] (mapS fPa cPa k a : (List Pair)) :: Hs) w') := by
 have hm1 := rd_max (rO (k := 0) hst rfl);refine enterS 29 Tryz.func61 Y Y Y hst (Sr (Pe Y (Dh (ov [v_a] (a : (List Pair)) :: Hs) Y (Cq (Sr (Pe Y (Cb (Cl (fun m_ ac w' => ∃ (i : Nat), ∃ (kk : Int), (i ≤ a.length) ∧ (kk = k + sumC cPa (a.take i)) ∧ m_ = a.length - i ∧ Fits ac 29 [(0, v_a), (1, (iv kk)), (5, (nv i))] ∧ St w0 (ov [v_a] (mapAt fPa cPa k a i : (List Pair)) :: Hs) w') ?_ ?_))))))))
 ·refine D_eq 0 Y (show (a : (List Pair)) = mapAt fPa cPa k a 0 from by rw [mapAt_zero]) (fun ac w' hf hs => ⟨_, 0, k, ?_, ?_, Y, hf.wk Y, hs⟩)
  ·omega
  ·simp [sumC]
 ·rintro m_ ac w' ⟨i, kk, hi, hk, rfl, hf, hs⟩;refine D.use ?_ hf hs;clear hf hs ac w';have hcl := mapAt_len (f := fPa) (c := cPa) (k := k) hi;have htk := sumC_take_le a cPa i;refine Cq (Sr (P2 Y Y (q1 Y (D_leno 0 s_32 Y Y Y) (Pe Y (Dh (_ :: Hs) Y (Cd Y (fun pr2 => ?_) (fun pr2 => ?_)))))))
  ·refine Sk (Cq (Cb (Sr (P3 Y Y Y (li Y (cv b_59 Y Y Y Y (fun w' hs => (laws_markText (by omega))) ?_))))));obtain ⟨x3, hx4⟩ := sL (l := (mapAt fPa cPa k a i)) (i := i) (by omega);refine D_take hx4 fun es5 => ?_
   refine Dp (fun w' hs => shape_Pair (rO (k := 0) hs Y)) ?_;rintro ⟨rfl⟩;refine q1 Y (D_ixh 1 s_32 Y Y Y Y Y) ?_;have hstep := mk_step hi hx4 hk;have hcc : cPa x3 = 2 := rfl;refine q1 Y (D_fa f_168_0 Y Y) (D_unpair (α := ByteArray) (β := ByteArray) (c1 := [(.string x3.Var)]) (c2 := [(.string x3.Value)]) (x := x3.Var) (y := (x3.Value)) Y Y (D_fd [] 1 Y (D_fd [] 1 Y (li Y (sh (n := 2) (f := 0) 0 Y z_9 Y Y Y Y Y Y Y (by simp) ?_)))));refine Dx (Sr (p1 Y (q1 Y (D_add Y Y Y Y (by omega)) (Pe Y (Sr (P3 Y Y Y (li Y (cv b_59 Y Y Y Y (fun w' hs => (laws_markText (by omega))) ?_))))))));refine q1 Y (D_ixh 0 s_32 Y Y Y Y Y) (q1 Y (D_fa f_168_1 Y Y) (li Y (sh (n := 2) (f := 1) 0 Y z_9 Y Y Y Y Y Y Y (by simp) ?_)));refine Dx (D_wk [0, 1, 5] Y (Cr (p1 Y (q1 Y (D_add Y Y Y Y (by omega)) (p1 Y (De (Xb (Xt (Cr (p1 Y (ad (i + 1) Y Y Y Y (by omega) (by omega) (Pe Y (pk_Pair (r := (⟨(markS kk), (markS (kk + 1))⟩ : Pair)) (D_put (D_eq 0 Y (show ((mapAt fPa cPa k a i).set i (⟨(markS kk), (markS (kk + 1))⟩ : Pair) : (List Pair)) = mapAt fPa cPa k a (i + 1) from by exact mk_set hi hx4 hk Y) (fun ac w' hf hs => ⟨_, ?_, i + 1, ((kk + 1) + 1), ?_, ?_, Y, hf.wk Y, hs⟩))))))))))))))))
   ·omega
   ·omega
   ·omega
  ·refine Cx (Xx (Xx (Xe (Xt (Sr (P2 Y Y (Dx (Ct (D_eq 0 Y (show (mapAt fPa cPa k a i : (List Pair)) = mapS fPa cPa k a from by exact mapAt_done (by omega)) (R_1 Y Y fun w' hs => ⟨congrArg (fun z => Ending.returned (Value.int .i64 z)) ?_, hs⟩))))))))));show (kk : Int) = k + sumC cPa a;rw [List.take_of_length_le (by omega)] at hk; exact hk
theorem laws_heldPairS {w : World} {v_a : Value} {a : (List Pair)} {k : Int} (h_a : Gd.rd w [v_a] a) (h0 : 0 ≤ k) (h1 : k + sumC cPa a ≤ 4611686018427387904) (he : a = mapS fPa cPa k a) : Cy 64 [v_a, (iv k)] w (Val w (iv (k + sumC cPa a))) := by
 have hm1 := rd_max h_a;refine enter 33 Tryz.func64 Y Y Y (Sr (Pe Y (Cq (Sr (Pe Y (Cb (Cl (fun m_ ac w' => ∃ (i : Nat), ∃ (kk : Int), (i ≤ a.length) ∧ (kk = k + sumC cPa (a.take i)) ∧ m_ = a.length - i ∧ Fits ac 33 [(0, v_a), (1, (iv kk)), (5, (nv i))] ∧ St w ([]) w') ?_ ?_)))))))
 ·refine fun ac w' hf hs => ⟨_, 0, k, ?_, ?_, Y, hf.wk Y, hs⟩
  ·omega
  ·simp [sumC]
 ·rintro m_ ac w' ⟨i, kk, hi, hk, rfl, hf, hs⟩;refine D.use ?_ hf hs;clear hf hs ac w';have htk := sumC_take_le a cPa i;refine Cq (Sr (P2 Y Y (q1 Y (Dl s_32 Y Y (rd_sl h_a)) (Pe Y (Cd Y (fun pr2 => ?_) (fun pr2 => ?_))))))
  ·refine Sk (Cq (Cb (Cq (Cq (C_draw mixed [] (by kernel_rfl) (tR 0 Y (by kernel_rfl) Y (tR 1 Y (by kernel_rfl) Y ?_)))))));obtain ⟨x3, hx4⟩ := sL (l := a) (i := i) (by omega);obtain ⟨es5, at6, hr7⟩ := rd_elem (n := 2) rfl h_a hx4;obtain ⟨rfl⟩ := open_Pair hr7;refine Tk 2 Y (by kernel_rfl) Y (D_ix (l := a) (j := i) s_32 Y Y Y (fun w' hs => (rA hs h_a)) Y (lS hx4)) ?_;have hfx := mapS_fix he hx4;rw [← hk] at hfx;have hF0 : x3.Var = markS kk := congrArg (fun y => y.Var) hfx;have hF1 : x3.Value = markS (kk + 1) := congrArg (fun y => y.Value) hfx;have hstep := mk_stepH (c := cPa) hx4 hk;have hcc : cPa x3 = 2 := rfl;refine Tk 3 Y (by kernel_rfl) Y (D_fa f_168_0 Y Y) (Tk 4 Y (by kernel_rfl) Y (lr o_9 Y Y at6 Y) (tR 5 Y (by kernel_rfl) Y (ty 6 Y (by kernel_rfl) Y (cv b_59 Y Y Y Y (fun w' hs => (laws_markText (by omega))) ?_))));refine tS (fun _ hs => hs) (Tk 7 Y (by kernel_rfl) Y (D_neS Y Y Y) (tE (by kernel_rfl) (Xt (Cnd Y (fun pr8 => ?_) (fun pr8 => ?_)))))
   ·refine Sr (Pe Y (Ct (Xr (Xq (Xr (Xr (Xq (Xr (Ri Y Y ?_)))))))));show ((-1) : Int) = _;exfalso; contradiction
   ·refine Sk (Sr (p1 Y (q1 Y (D_add Y Y Y Y (by omega)) (Pe Y (Cq (Cq (C_draw mixed [] (by kernel_rfl) (tR 0 Y (by kernel_rfl) Y (tR 1 Y (by kernel_rfl) Y (Tk 2 Y (by kernel_rfl) Y (D_ix (l := a) (j := i) s_32 Y Y Y (fun w' hs => (rA hs h_a)) Y (lS hx4)) (Tk 3 Y (by kernel_rfl) Y (D_fa f_168_1 Y Y) (Tk 4 Y (by kernel_rfl) Y (lr o_9 Y Y at6 Y) (tR 5 Y (by kernel_rfl) Y (ty 6 Y (by kernel_rfl) Y (cv b_59 Y Y Y Y (fun w' hs => (laws_markText (by omega))) ?_)))))))))))))));refine tS (fun _ hs => hs) (Tk 7 Y (by kernel_rfl) Y (D_neS Y Y Y) (tE (by kernel_rfl) (Xt (D_wk [0, 1, 5, 29] Y (Cnd Y (fun pr9 => ?_) (fun pr9 => ?_))))))
    ·refine Sr (Pe Y (Ct (Xr (Xq (Xr (Xr (Xq (Xr (Ri Y Y ?_)))))))));show ((-1) : Int) = _;exfalso; contradiction
    ·refine Sk (Cr (p1 Y (q1 Y (D_add Y Y Y Y (by omega)) (p1 Y (De (Xb (Xt (Cr (p1 Y (ad (i + 1) Y Y Y Y (by omega) (by omega) (Pe Y (fun ac w' hf hs => ⟨_, ?_, i + 1, ((kk + 1) + 1), ?_, ?_, Y, hf.wk Y, hs⟩))))))))))))
     ·omega
     ·omega
     ·omega
  ·refine Cx (Xx (Xx (Xe (Xt (Sr (P2 Y Y (Dx (Ct (Ri Y Y ?_)))))))));show (kk : Int) = _;rw [List.take_of_length_le (by omega)] at hk; exact hk
end Go.Sy.Cho1
