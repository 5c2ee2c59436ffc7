/-
  Contracts of functions of the program, walked (printed by a program of ours).
  Conditions: those that each theorem states.
-/
import Derived.Test.YtobihkjhlopggaaGreatDoorFct
import Derived.Test.YtobihkjhlopggaaGreatDoorEv2
set_option linter.unusedVariables false
set_option maxRecDepth 20000
namespace Go.Sy.Ev3
open Go Go.RowKit Go.Proofs Go.Sy
open Go.Sy.Bel1 Go.Sy.Ev1 Go.Sy.Ev2
theorem impl_sameTexts {w : World} {v_a : Value} {a : (List ByteArray)} {v_b : Value} {b : (List ByteArray)} (h_a : Gd.rd w [v_a] a) (h_b : Gd.rd w [v_b] b) : Cy 242 [v_a, v_b] w (Val w (.bool (decide (a = b)))) := by
 have hm1 := rd_max h_a;have hm2 := rd_max h_b;refine enter 26 Tryz.func242 Y Y Y (Sr (Pe Y (Cq (Sr (p1 Y (q1 Y (Dl s_105 Y Y (rd_sl h_a)) (p1 Y (q1 Y (Dl s_105 Y Y (rd_sl h_b)) (Pe Y (Cn Y (fun pr3 => ?_) (fun pr3 => ?_)))))))))))
 ·refine Sr (Pe Y (Ct (Xr (Rb Y Y ?_))));simp; intro e; subst e; simp_all
 ·refine Sk (Cq (Sr (p1 Y (q1 Y (Dl s_105 Y Y (rd_sl h_a)) (Pe Y (Cb (Cl (fun m_ ac w' => ∃ (k : Nat), (k ≤ a.length) ∧ (∀ i, i < k → a[i]? = b[i]?) ∧ m_ = a.length - k ∧ Fits ac 26 [(0, v_a), (1, v_b), (12, (nv a.length)), (13, (nv k))] ∧ St w ([]) w') ?_ ?_)))))))
  ·refine fun ac w' hf hs => ⟨_, 0, ?_, ?_, Y, hf.wk Y, hs⟩
   ·omega
   ·intro i hi; omega
  ·rintro m_ ac w' ⟨k, hk, hi, rfl, hf, hs⟩;refine D.use ?_ hf hs;clear hf hs ac w';refine Sr (Pe Y (Cq (Cd Y (fun pr4 => ?_) (fun pr4 => ?_))))
   ·refine Sk (Cq (Cb (Sr (P2 Y Y (Dx (Cq (C_draw mixed [] (by kernel_rfl) (tR 0 Y (by kernel_rfl) Y (tR 1 Y (by kernel_rfl) Y ?_)))))))));obtain ⟨x5, hx6⟩ := sL (l := a) (i := k) (by omega);obtain ⟨es7, at8, hr9⟩ := rd_elem (n := 1) rfl h_a hx6;obtain rfl : es7 = [.string x5] := hr9;refine Tk 2 Y (by kernel_rfl) Y (D_ix (l := a) (j := k) s_105 Y Y Y (fun w' hs => (rA hs h_a)) Y (lS hx6)) (Tk 3 Y (by kernel_rfl) Y (lr0 o_9 Y Y at8 Y) (tR 4 Y (by kernel_rfl) Y (tR 5 Y (by kernel_rfl) Y ?_)));obtain ⟨x10, hx11⟩ := sL (l := b) (i := k) (by omega);obtain ⟨es12, at13, hr14⟩ := rd_elem (n := 1) rfl h_b hx11;obtain rfl : es12 = [.string x10] := hr14;refine Tk 6 Y (by kernel_rfl) Y (D_ix (l := b) (j := k) s_105 Y Y Y (fun w' hs => (rA hs h_b)) Y (lS hx11)) (Tk 7 Y (by kernel_rfl) Y (lr0 o_9 Y Y at13 Y) (Tk 8 Y (by kernel_rfl) Y (D_neS Y Y Y) (tE (by kernel_rfl) (Xt (Cnd Y (fun pr15 => ?_) (fun pr15 => ?_))))))
    ·refine Sr (Pe Y (Ct (Xq (Xr (Xr (Xq (Xr (Rb Y Y ?_))))))));simp; intro e; subst e; simp_all
    ·refine Ck (Xb (Xt (Cr (ad (k + 1) Y Y Y Y (by omega) (by omega) (Pe Y (fun ac w' hf hs => ⟨_, ?_, k + 1, ?_, ?_, Y, hf.wk Y, hs⟩))))))
     ·omega
     ·omega
     ·refine idx_step hi (by assumption) (by assumption) ?_; simp_all
   ·refine Cx (Xx (Xx (Xe (Xt (Sr (Pe Y (Ct (Rb Y Y ?_))))))));simp; exact eq_of_idx (by omega) (fun i h => hi i (by omega))
theorem impl_sameInts {w : World} {v_a : Value} {a : (List Int)} {v_b : Value} {b : (List Int)} (h_a : Gd.rd w [v_a] a) (h_b : Gd.rd w [v_b] b) : Cy 136 [v_a, v_b] w (Val w (.bool (decide (a = b)))) := by
 have hm1 := rd_max h_a;have hm2 := rd_max h_b;refine enter 26 Tryz.func136 Y Y Y (Sr (Pe Y (Cq (Sr (p1 Y (q1 Y (Dl s_26 Y Y (rd_sl h_a)) (p1 Y (q1 Y (Dl s_26 Y Y (rd_sl h_b)) (Pe Y (Cn Y (fun pr3 => ?_) (fun pr3 => ?_)))))))))))
 ·refine Sr (Pe Y (Ct (Xr (Rb Y Y ?_))));simp; intro e; subst e; simp_all
 ·refine Sk (Cq (Sr (p1 Y (q1 Y (Dl s_26 Y Y (rd_sl h_a)) (Pe Y (Cb (Cl (fun m_ ac w' => ∃ (k : Nat), (k ≤ a.length) ∧ (∀ i, i < k → a[i]? = b[i]?) ∧ m_ = a.length - k ∧ Fits ac 26 [(0, v_a), (1, v_b), (12, (nv a.length)), (13, (nv k))] ∧ St w ([]) w') ?_ ?_)))))))
  ·refine fun ac w' hf hs => ⟨_, 0, ?_, ?_, Y, hf.wk Y, hs⟩
   ·omega
   ·intro i hi; omega
  ·rintro m_ ac w' ⟨k, hk, hi, rfl, hf, hs⟩;refine D.use ?_ hf hs;clear hf hs ac w';refine Sr (Pe Y (Cq (Cd Y (fun pr4 => ?_) (fun pr4 => ?_))))
   ·refine Sk (Cq (Cb (Sr (P2 Y Y (Dx (Cq (C_draw mixed [] (by kernel_rfl) (tR 0 Y (by kernel_rfl) Y (tR 1 Y (by kernel_rfl) Y ?_)))))))));obtain ⟨x5, hx6⟩ := sL (l := a) (i := k) (by omega);obtain ⟨es7, at8, hr9⟩ := rd_elem (n := 1) rfl h_a hx6;obtain rfl : es7 = [.int .i64 x5] := hr9;refine Tk 2 Y (by kernel_rfl) Y (D_ix (l := a) (j := k) s_26 Y Y Y (fun w' hs => (rA hs h_a)) Y (lS hx6)) (Tk 3 Y (by kernel_rfl) Y (lr0 o_3 Y Y at8 Y) (tR 4 Y (by kernel_rfl) Y (tR 5 Y (by kernel_rfl) Y ?_)));obtain ⟨x10, hx11⟩ := sL (l := b) (i := k) (by omega);obtain ⟨es12, at13, hr14⟩ := rd_elem (n := 1) rfl h_b hx11;obtain rfl : es12 = [.int .i64 x10] := hr14;refine Tk 6 Y (by kernel_rfl) Y (D_ix (l := b) (j := k) s_26 Y Y Y (fun w' hs => (rA hs h_b)) Y (lS hx11)) (Tk 7 Y (by kernel_rfl) Y (lr0 o_3 Y Y at13 Y) (tR 8 Y (by kernel_rfl) Y (tE (by kernel_rfl) (Xt (Cn Y (fun pr15 => ?_) (fun pr15 => ?_))))))
    ·refine Sr (Pe Y (Ct (Xq (Xr (Xr (Xq (Xr (Rb Y Y ?_))))))));simp; intro e; subst e; simp_all
    ·refine Ck (Xb (Xt (Cr (ad (k + 1) Y Y Y Y (by omega) (by omega) (Pe Y (fun ac w' hf hs => ⟨_, ?_, k + 1, ?_, ?_, Y, hf.wk Y, hs⟩))))))
     ·omega
     ·omega
     ·refine idx_step hi (by assumption) (by assumption) ?_; simp_all
   ·refine Cx (Xx (Xx (Xe (Xt (Sr (Pe Y (Ct (Rb Y Y ?_))))))));simp; exact eq_of_idx (by omega) (fun i h => hi i (by omega))
theorem spec_l1SameTexts {w : World} {v_a : Value} {a : (List ByteArray)} {v_b : Value} {b : (List ByteArray)} (h_a : Gd.rd w [v_a] a) (h_b : Gd.rd w [v_b] b) : Cy 259 [v_a, v_b] w (Val w (.bool (decide (a = b)))) := by
 have hm1 := rd_max h_a;have hm2 := rd_max h_b;refine enter 26 Tryz.func259 Y Y Y (Sr (Pe Y (Cq (Sr (p1 Y (q1 Y (Dl s_105 Y Y (rd_sl h_a)) (p1 Y (q1 Y (Dl s_105 Y Y (rd_sl h_b)) (Pe Y (Cn Y (fun pr3 => ?_) (fun pr3 => ?_)))))))))))
 ·refine Sr (Pe Y (Ct (Xr (Rb Y Y ?_))));simp; intro e; subst e; simp_all
 ·refine Sk (Cq (Sr (Pe Y (Cb (Cl (fun m_ ac w' => ∃ (k : Nat), (k ≤ a.length) ∧ (∀ i, i < k → a[i]? = b[i]?) ∧ m_ = a.length - k ∧ Fits ac 26 [(0, v_a), (1, v_b), (5, (nv k))] ∧ St w ([]) w') ?_ ?_)))))
  ·refine fun ac w' hf hs => ⟨_, 0, ?_, ?_, Y, hf.wk Y, hs⟩
   ·omega
   ·intro i hi; omega
  ·rintro m_ ac w' ⟨k, hk, hi, rfl, hf, hs⟩;refine D.use ?_ hf hs;clear hf hs ac w';refine Cq (Sr (P2 Y Y (q1 Y (Dl s_105 Y Y (rd_sl h_a)) (Pe Y (Cd Y (fun pr4 => ?_) (fun pr4 => ?_))))))
   ·refine Sk (Cq (Cb (Cq (C_draw mixed [] (by kernel_rfl) (tR 0 Y (by kernel_rfl) Y (tR 1 Y (by kernel_rfl) Y ?_))))));obtain ⟨x5, hx6⟩ := sL (l := a) (i := k) (by omega);obtain ⟨es7, at8, hr9⟩ := rd_elem (n := 1) rfl h_a hx6;obtain rfl : es7 = [.string x5] := hr9;refine Tk 2 Y (by kernel_rfl) Y (D_ix (l := a) (j := k) s_105 Y Y Y (fun w' hs => (rA hs h_a)) Y (lS hx6)) (Tk 3 Y (by kernel_rfl) Y (lr0 o_9 Y Y at8 Y) (tR 4 Y (by kernel_rfl) Y (tR 5 Y (by kernel_rfl) Y ?_)));obtain ⟨x10, hx11⟩ := sL (l := b) (i := k) (by omega);obtain ⟨es12, at13, hr14⟩ := rd_elem (n := 1) rfl h_b hx11;obtain rfl : es12 = [.string x10] := hr14;refine Tk 6 Y (by kernel_rfl) Y (D_ix (l := b) (j := k) s_105 Y Y Y (fun w' hs => (rA hs h_b)) Y (lS hx11)) (Tk 7 Y (by kernel_rfl) Y (lr0 o_9 Y Y at13 Y) (Tk 8 Y (by kernel_rfl) Y (D_neS Y Y Y) (tE (by kernel_rfl) (Xt (Cnd Y (fun pr15 => ?_) (fun pr15 => ?_))))))
    ·refine Sr (Pe Y (Ct (Xq (Xr (Xr (Xq (Xr (Rb Y Y ?_))))))));simp; intro e; subst e; simp_all
    ·refine Ck (Xb (Xt (Cr (p1 Y (ad (k + 1) Y Y Y Y (by omega) (by omega) (Pe Y (fun ac w' hf hs => ⟨_, ?_, k + 1, ?_, ?_, Y, hf.wk Y, hs⟩)))))))
     ·omega
     ·omega
     ·refine idx_step hi (by assumption) (by assumption) ?_; simp_all
   ·refine Cx (Xx (Xx (Xe (Xt (Sr (Pe Y (Ct (Rb Y Y ?_))))))));simp; exact eq_of_idx (by omega) (fun i h => hi i (by omega))
theorem spec_l9SameInts {w : World} {v_a : Value} {a : (List Int)} {v_b : Value} {b : (List Int)} (h_a : Gd.rd w [v_a] a) (h_b : Gd.rd w [v_b] b) : Cy 124 [v_a, v_b] w (Val w (.bool (decide (a = b)))) := by
 have hm1 := rd_max h_a;have hm2 := rd_max h_b;refine enter 26 Tryz.func124 Y Y Y (Sr (Pe Y (Cq (Sr (p1 Y (q1 Y (Dl s_26 Y Y (rd_sl h_a)) (p1 Y (q1 Y (Dl s_26 Y Y (rd_sl h_b)) (Pe Y (Cn Y (fun pr3 => ?_) (fun pr3 => ?_)))))))))))
 ·refine Sr (Pe Y (Ct (Xr (Rb Y Y ?_))));simp; intro e; subst e; simp_all
 ·refine Sk (Cq (Sr (Pe Y (Cb (Cl (fun m_ ac w' => ∃ (k : Nat), (k ≤ a.length) ∧ (∀ i, i < k → a[i]? = b[i]?) ∧ m_ = a.length - k ∧ Fits ac 26 [(0, v_a), (1, v_b), (5, (nv k))] ∧ St w ([]) w') ?_ ?_)))))
  ·refine fun ac w' hf hs => ⟨_, 0, ?_, ?_, Y, hf.wk Y, hs⟩
   ·omega
   ·intro i hi; omega
  ·rintro m_ ac w' ⟨k, hk, hi, rfl, hf, hs⟩;refine D.use ?_ hf hs;clear hf hs ac w';refine Cq (Sr (P2 Y Y (q1 Y (Dl s_26 Y Y (rd_sl h_a)) (Pe Y (Cd Y (fun pr4 => ?_) (fun pr4 => ?_))))))
   ·refine Sk (Cq (Cb (Cq (C_draw mixed [] (by kernel_rfl) (tR 0 Y (by kernel_rfl) Y (tR 1 Y (by kernel_rfl) Y ?_))))));obtain ⟨x5, hx6⟩ := sL (l := a) (i := k) (by omega);obtain ⟨es7, at8, hr9⟩ := rd_elem (n := 1) rfl h_a hx6;obtain rfl : es7 = [.int .i64 x5] := hr9;refine Tk 2 Y (by kernel_rfl) Y (D_ix (l := a) (j := k) s_26 Y Y Y (fun w' hs => (rA hs h_a)) Y (lS hx6)) (Tk 3 Y (by kernel_rfl) Y (lr0 o_3 Y Y at8 Y) (tR 4 Y (by kernel_rfl) Y (tR 5 Y (by kernel_rfl) Y ?_)));obtain ⟨x10, hx11⟩ := sL (l := b) (i := k) (by omega);obtain ⟨es12, at13, hr14⟩ := rd_elem (n := 1) rfl h_b hx11;obtain rfl : es12 = [.int .i64 x10] := hr14;refine Tk 6 Y (by kernel_rfl) Y (D_ix (l := b) (j := k) s_26 Y Y Y (fun w' hs => (rA hs h_b)) Y (lS hx11)) (Tk 7 Y (by kernel_rfl) Y (lr0 o_3 Y Y at13 Y) (tR 8 Y (by kernel_rfl) Y (tE (by kernel_rfl) (Xt (Cn Y (fun pr15 => ?_) (fun pr15 => ?_))))))
    ·refine Sr (Pe Y (Ct (Xq (Xr (Xr (Xq (Xr (Rb Y Y ?_))))))));simp; intro e; subst e; simp_all
    ·refine Ck (Xb (Xt (Cr (p1 Y (ad (k + 1) Y Y Y Y (by omega) (by omega) (Pe Y (fun ac w' hf hs => ⟨_, ?_, k + 1, ?_, ?_, Y, hf.wk Y, hs⟩)))))))
     ·omega
     ·omega
     ·refine idx_step hi (by assumption) (by assumption) ?_; simp_all
   ·refine Cx (Xx (Xx (Xe (Xt (Sr (Pe Y (Ct (Rb Y Y ?_))))))));simp; exact eq_of_idx (by omega) (fun i h => hi i (by omega))
theorem impl_sameFact {w : World} {c_a : List Value} {a : Fact} {c_b : List Value} {b : Fact} (h_a : Gd.rd w c_a a) (h_b : Gd.rd w c_b b) : Cy 197 [(.agg c_a.toArray), (.agg c_b.toArray)] w (Val w (.bool (decide (a = b)))) := by
 obtain ⟨u1, rfl, hu2⟩ := open_Fact h_a;have hm3 := rd_max hu2;obtain ⟨u4, rfl, hu5⟩ := open_Fact h_b;have hm6 := rd_max hu5;refine enter 17 Tryz.func197 Y Y Y (Sr (li Y (D_box Y Y Y Y Y fun g7 => ?_)));refine li Y (D_box Y Y Y Y Y fun g8 => ?_);refine Pe Y (Dh ([bx g8 [(.string b.Rel), u4], bx g7 [(.string a.Rel), u1]]) Y (Sr (fl 1 f_124_0 o_9 Y Y Y Y Y Y Y Y Y (fl 0 f_124_0 o_9 Y Y Y Y Y Y Y Y Y (q1 Y (D_eqS Y Y Y) (p1 Y (gxd 10 Y Y (fun pr9 => ?_) (fun pr9 => ?_))))))))
 ·refine fl 1 f_124_1 o_105 Y Y Y Y Y Y Y Y Y (fl 0 f_124_1 o_105 Y Y Y Y Y Y Y Y Y (li Y (cv b_242 Y Y Y Y (fun w' hs => (impl_sameTexts (rA hs hu2) (rA hs hu5))) ?_)));refine P2 Y Y (Dx (Ct (Rb Y Y ?_)));show ((decide (a.Args = b.Args)) : Bool) = _
  cases a; cases b; simp_all
 ·refine n1 Y (n1 Y (n1 Y (n1 Y (n1 Y (P2 Y Y (Dx (Ct (Rb Y Y ?_))))))))
  cases a; cases b; simp_all
theorem spec_l2Same {w : World} {c_a : List Value} {a : Fact} {c_b : List Value} {b : Fact} (h_a : Gd.rd w c_a a) (h_b : Gd.rd w c_b b) : Cy 231 [(.agg c_a.toArray), (.agg c_b.toArray)] w (Val w (.bool (decide (a = b)))) := by
 obtain ⟨u1, rfl, hu2⟩ := open_Fact h_a;have hm3 := rd_max hu2;obtain ⟨u4, rfl, hu5⟩ := open_Fact h_b;have hm6 := rd_max hu5;refine enter 17 Tryz.func231 Y Y Y (Sr (li Y (D_box Y Y Y Y Y fun g7 => ?_)));refine li Y (D_box Y Y Y Y Y fun g8 => ?_);refine Pe Y (Dh ([bx g8 [(.string b.Rel), u4], bx g7 [(.string a.Rel), u1]]) Y (Sr (fl 1 f_124_0 o_9 Y Y Y Y Y Y Y Y Y (fl 0 f_124_0 o_9 Y Y Y Y Y Y Y Y Y (q1 Y (D_eqS Y Y Y) (p1 Y (gxd 10 Y Y (fun pr9 => ?_) (fun pr9 => ?_))))))))
 ·refine fl 1 f_124_1 o_105 Y Y Y Y Y Y Y Y Y (fl 0 f_124_1 o_105 Y Y Y Y Y Y Y Y Y (li Y (cv b_259 Y Y Y Y (fun w' hs => (spec_l1SameTexts (rA hs hu2) (rA hs hu5))) ?_)));refine P2 Y Y (Dx (Ct (Rb Y Y ?_)));show ((decide (a.Args = b.Args)) : Bool) = _
  cases a; cases b; simp_all
 ·refine n1 Y (n1 Y (n1 Y (n1 Y (n1 Y (P2 Y Y (Dx (Ct (Rb Y Y ?_))))))))
  cases a; cases b; simp_all
end Go.Sy.Ev3
