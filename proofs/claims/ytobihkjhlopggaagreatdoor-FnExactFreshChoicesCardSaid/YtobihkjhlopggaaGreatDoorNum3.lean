/-
  Contracts of functions of the program, walked (printed by a program of ours).
  Conditions: those that each theorem states.
-/
import Derived.Test.YtobihkjhlopggaaGreatDoorFct
import Derived.Test.YtobihkjhlopggaaGreatDoorNum2
set_option linter.unusedVariables false
set_option maxRecDepth 20000
namespace Go.Sy.Num3
open Go Go.RowKit Go.Proofs Go.Sy
open Go.Sy.Bel1 Go.Sy.Ev1 Go.Sy.Ev2 Go.Sy.Fmt1 Go.Sy.Eng1 Go.Sy.Eng2 Go.Sy.Eng3 Go.Sy.Num1 Go.Sy.Num2
theorem spec_HasFired {w : World} {v_l : Value} {l : (List Firing)} {c_x : List Value} {x : Choice} (h_l : Gd.rd w [v_l] l) (h_x : Gd.rd w c_x x) : Cy 72 [v_l, (.agg c_x.toArray)] w (Val w (.bool (hasF l x.Match.Rule x.Times))) := by
 have hm1 := rd_max h_l;obtain ⟨u2, u4, u6, rfl, hu3, hu5, hu7⟩ := open_Choice h_x;have hm8 := rd_max hu3;have hm9 := rd_max hu5;have hm10 := rd_max hu7;have hb11 := sub_Choice_Match h_x;refine enter 31 Tryz.func72 Y Y Y (Sr (li Y (D_box Y Y Y Y Y fun g12 => ?_)));refine Pe Y (Dh ([bx g12 [(.string x.Match.Rule), u2, u4, (iv x.Priority), u6, (iv x.Specific), (iv x.Order)]]) Y (Cq (Sr (Pe Y (Cb (Cl (fun m_ ac w' => ∃ (k : Nat), (k ≤ l.length) ∧ (∀ i, i < k → ∀ f, l[i]? = some f → ¬ (f.Rule = x.Match.Rule ∧ f.Times = x.Times)) ∧ m_ = l.length - k ∧ Fits ac 31 [(0, v_l), (3, (pv g12)), (5, (nv k))] ∧ St w ([bx g12 [(.string x.Match.Rule), u2, u4, (iv x.Priority), u6, (iv x.Specific), (iv x.Order)]]) w') ?_ ?_))))))
 ·refine fun ac w' hf hs => ⟨_, 0, ?_, ?_, Y, hf.wk Y, hs⟩
  ·omega
  ·intro i hi; omega
 ·rintro m_ ac w' ⟨k, hk, hi, rfl, hf, hs⟩;refine D.use ?_ hf hs;clear hf hs ac w';refine Cq (Sr (P2 Y Y (q1 Y (Dl s_59 Y Y (rd_sl h_l)) (Pe Y (Cd Y (fun pr13 => ?_) (fun pr13 => ?_))))))
  ·refine Sk (Cq (Cb (Cq (C_draw mixed [17, 18] (by kernel_rfl) (tR 0 Y (by kernel_rfl) Y (tR 1 Y (by kernel_rfl) Y ?_))))));obtain ⟨f0, f0h⟩ := sL (l := l) (i := k) (by omega);obtain ⟨es14, at15, hr16⟩ := rd_elem (n := 2) rfl h_l f0h;obtain ⟨u17, rfl, hu18⟩ := open_Firing hr16;have hm19 := rd_max hu18;refine Tk 2 Y (by kernel_rfl) Y (D_ix (l := l) (j := k) s_59 Y Y Y (fun w' hs => (rA hs h_l)) Y (lS f0h)) (Tk 3 Y (by kernel_rfl) Y (D_fa f_128_0 Y Y) (Tk 4 Y (by kernel_rfl) Y (lr o_9 Y Y at15 Y) (Tk 5 Y (by kernel_rfl) Y (Db f_36_0 Y Y (q := 0) Y) (Tk 6 Y (by kernel_rfl) Y (Db f_34_0 Y Y (q := 0) Y) (Tk 7 Y (by kernel_rfl) Y (lb 0 o_9 Y Y Y Y) (Tk 8 Y (by kernel_rfl) Y (D_eqS Y Y Y) (tR 9 Y (by kernel_rfl) Y (gxd 21 Y Y (fun pr20 => ?_) (fun pr20 => ?_)))))))))
   ·refine tR 10 Y (by kernel_rfl) Y (tR 11 Y (by kernel_rfl) Y (Tk 12 Y (by kernel_rfl) Y (D_ix (l := l) (j := k) s_59 Y Y Y (fun w' hs => (rA hs h_l)) Y (lS f0h)) (Tk 13 Y (by kernel_rfl) Y (D_fa f_128_1 Y Y) (Tk 14 Y (by kernel_rfl) Y (lr o_26 Y Y at15 Y) (Tk 15 Y (by kernel_rfl) Y (Db f_36_2 Y Y (q := 4) Y) (Tk 16 Y (by kernel_rfl) Y (lb 0 o_26 Y Y Y Y) (ty 17 Y (by kernel_rfl) Y (cv b_124 Y Y Y Y (fun w' hs => (spec_l9SameInts (rA hs hu18) (rA hs hu7))) ?_))))))));refine tZ Y (ty 18 Y (by kernel_rfl) Y (sv Y Y (rp Y) ?_));refine tZ Y (tE (by kernel_rfl) (Xt (D_wk [0, 3, 5, 30] Y (Ci _ Y (fun h21 => ?_) (fun h21 => ?_)))))
    ·refine Sr (Pe Y (Ct (Xq (Xr (Xr (Xq (Xr (Rb Y Y ?_))))))));exact hasF_t f0h (by assumption) (by simp_all)
    ·refine Ck (Xb (Xt (Cr (p1 Y (ad (k + 1) Y Y Y Y (by omega) (by omega) (Pe Y (fun ac w' hf hs => ⟨_, ?_, k + 1, ?_, ?_, Y, hf.wk Y, hs⟩)))))))
     ·omega
     ·omega
     ·refine forall_step hi ?_; intro y hy; obtain rfl : y = f0 := Option.some.inj (hy.symm.trans f0h); simp_all
   ·refine tN 10 Y (by kernel_rfl) Y (tN 11 Y (by kernel_rfl) Y (tN 12 Y (by kernel_rfl) Y (tN 13 Y (by kernel_rfl) Y (tN 14 Y (by kernel_rfl) Y (tN 15 Y (by kernel_rfl) Y (tN 16 Y (by kernel_rfl) Y (tN 17 Y (by kernel_rfl) Y (ty 18 Y (by kernel_rfl) Y (sv Y Y (rp Y) ?_)))))))));refine tZ Y (tE (by kernel_rfl) (Xt (D_wk [0, 3, 5, 30] Y (C_f Y (Ck (Xb (Xt (Cr (p1 Y (ad (k + 1) Y Y Y Y (by omega) (by omega) (Pe Y (fun ac w' hf hs => ⟨_, ?_, k + 1, ?_, ?_, Y, hf.wk Y, hs⟩))))))))))))
    ·omega
    ·omega
    ·refine forall_step hi ?_; intro y hy; obtain rfl : y = f0 := Option.some.inj (hy.symm.trans f0h); simp_all
  ·refine Cx (Xx (Xx (Xe (Xt (Sr (Pe Y (Ct (Rb Y Y ?_))))))));exact hasF_f (fun i h => hi i (by omega))
end Go.Sy.Num3
