/-
  Contracts of functions of the program, walked (printed by a program of ours).
  Conditions: those that each theorem states.
-/
import Derived.Test.YtobihkjhlopggaaGreatDoorFct
import Derived.Test.YtobihkjhlopggaaGreatDoorProg
import Derived.Test.YtobihkjhlopggaaGreatDoorTypes
import Derived.Test.YtobihkjhlopggaaGreatDoorBase
set_option linter.unusedVariables false
set_option maxRecDepth 20000
namespace Go.Sy.Bel1
open Go Go.RowKit Go.Proofs Go.Sy
theorem laws_szIntS {w : World} {v_a : Value} {a : (List Int)} {left : Int} (h_a : Gd.rd w [v_a] a) (h0 : 0 ≤ left) (h1 : left ≤ 1048576) : Cy 43 [v_a, (iv left)] w (Val w (iv (szm a.length left))) := by
 have hm1 := rd_max h_a;refine enter 12 Tryz.func43 Y Y Y (Sr (Pe Y (Sr (P2 Y Y (q1 Y (Dl s_26 Y Y (rd_sl h_a)) (q1 Y (D_sub Y Y Y Y (by omega)) (Pe Y (Cq (Sr (P2 Y Y (Dx (Cd Y (fun pr2 => ?_) (fun pr2 => ?_)))))))))))))
 ·refine Sr (Pe Y (Ct (Xr (Ri Y Y ?_))));show ((-1) : Int) = _;exact (szm_neg (by omega)).symm
 ·refine Sk (Sr (P2 Y Y (Dx (Ct (Ri Y Y ?_)))));show ((left - ((a.length : Nat) : Int)) : Int) = _;exact (szm_pos (by omega)).symm
theorem laws_toIntS {w : World} {v_a : Value} {a : (List Int)} (h_a : Gd.rd w [v_a] a) (hn : a.length ≤ 1048576) : Cy 49 [v_a] w (Res w (a : List Int)) := by
 have hm1 := rd_max h_a;refine enter 22 Tryz.func49 Y Y Y (Sr (Pe Y (Sr (p1 Y (q1 Y (Dl s_26 Y Y (rd_sl h_a)) (li Y (D_mk (α := Int) (z := 0) s_26 y_3 Y Y Y Y (by omega) (by omega) fun v2 => ?_)))))));refine Pe Y (Dh ([ov [v2] (List.replicate a.length 0 : (List Int))]) Y (Cq (Sr (Pe Y (Cb (Cl (fun m_ ac w' => ∃ (k : Nat), ∃ (v : Value), (k ≤ a.length) ∧ m_ = a.length - k ∧ Fits ac 22 [(0, v_a), (3, v), (4, (nv k))] ∧ St w ([ov [v] (cp a 0 k : (List Int))]) w') ?_ ?_))))))
 ·refine D_eq 0 Y (show (List.replicate a.length 0 : (List Int)) = cp a 0 0 from by rw [cp_zero]) (fun ac w' hf hs => ⟨_, 0, v2, ?_, Y, hf.wk Y, hs⟩)
  ·omega
 ·rintro m_ ac w' ⟨k, v, hk, rfl, hf, hs⟩;refine D.use ?_ hf hs;clear hf hs ac w';have hcl := cp_len a 0 k hk;refine Cq (Sr (P2 Y Y (q1 Y (Dl s_26 Y Y (rd_sl h_a)) (Pe Y (Dh ([_]) Y (Cd Y (fun pr3 => ?_) (fun pr3 => ?_)))))))
  ·refine Sk (Cq (Cb (Cr (P3 Y Y Y (p1 Y ?_)))));obtain ⟨x4, hx5⟩ := sL (l := a) (i := k) (by omega);obtain ⟨es6, at7, hr8⟩ := rd_elem (n := 1) rfl h_a hx5;obtain rfl : es6 = [.int .i64 x4] := hr8;refine q1 Y (D_ix (l := a) (j := k) s_26 Y Y Y (fun w' hs => (rA hs h_a)) Y (lS hx5)) (q1 Y (lr0 o_3 Y Y at7 Y) ?_);obtain ⟨x9, hx10⟩ := sL (l := (cp a 0 k)) (i := k) (by omega);refine q1 Y (D_ix (l := (cp a 0 k)) (j := k) s_26 Y Y Y (fun w' hs => (rO (k := 0) hs Y)) Y (lS hx10)) (li Y (so (α := Int) (z := x4) 0 z_3 Y Y Y Y Y (lS hx10) ?_));refine De (Xb (Xt (Dh ([ov [v] ((cp a 0 k).set k x4 : (List Int))]) Y (Cr (p1 Y (ad (k + 1) Y Y Y Y (by omega) (by omega) (Pe Y (D_eq 0 Y (show ((cp a 0 k).set k x4 : (List Int)) = cp a 0 (k + 1) from by rw [cp_set (by assumption)]) (fun ac w' hf hs => ⟨_, ?_, k + 1, v, ?_, Y, hf.wk Y, hs⟩)))))))))
   ·omega
   ·omega
  ·refine Cx (Xx (Xx (Xe (Xt (Sr (P2 Y Y (Dx (Ct (R_1 Y Y fun w' hs => res_of (k := 0) hs Y ?_)))))))));show cp a 0 k = a;exact cp_done (by omega)
theorem laws_eqIntS {w : World} {v_a : Value} {a : (List Int)} {v_b : Value} {b : (List Int)} (h_a : Gd.rd w [v_a] a) (h_b : Gd.rd w [v_b] b) : Cy 54 [v_a, v_b] w (Val w (.bool (decide (a = b)))) := by
 have hm1 := rd_max h_a;have hm2 := rd_max h_b;refine enter 26 Tryz.func54 Y Y Y (Sr (Pe Y (Cq (Sr (p1 Y (q1 Y (Dl s_26 Y Y (rd_sl h_a)) (p1 Y (q1 Y (Dl s_26 Y Y (rd_sl h_b)) (Pe Y (Cn Y (fun pr3 => ?_) (fun pr3 => ?_)))))))))))
 ·refine Sr (Pe Y (Ct (Xr (Rb Y Y ?_))));simp; intro e; subst e; simp_all
 ·refine Sk (Cq (Sr (Pe Y (Cb (Cl (fun m_ ac w' => ∃ (k : Nat), (k ≤ a.length) ∧ (∀ i, i < k → a[i]? = b[i]?) ∧ m_ = a.length - k ∧ Fits ac 26 [(0, v_a), (1, v_b), (5, (nv k))] ∧ St w ([]) w') ?_ ?_)))))
  ·refine fun ac w' hf hs => ⟨_, 0, ?_, ?_, Y, hf.wk Y, hs⟩
   ·omega
   ·intro i hi; omega
  ·rintro m_ ac w' ⟨k, hk, hi, rfl, hf, hs⟩;refine D.use ?_ hf hs;clear hf hs ac w';refine Cq (Sr (P2 Y Y (q1 Y (Dl s_26 Y Y (rd_sl h_a)) (Pe Y (Cd Y (fun pr4 => ?_) (fun pr4 => ?_))))))
   ·refine Sk (Cq (Cb (Cq (C_draw mixed [] (by kernel_rfl) (tR 0 Y (by kernel_rfl) Y (tR 1 Y (by kernel_rfl) Y ?_))))));obtain ⟨x5, hx6⟩ := sL (l := a) (i := k) (by omega);obtain ⟨es7, at8, hr9⟩ := rd_elem (n := 1) rfl h_a hx6;obtain rfl : es7 = [.int .i64 x5] := hr9;refine Tk 2 Y (by kernel_rfl) Y (D_ix (l := a) (j := k) s_26 Y Y Y (fun w' hs => (rA hs h_a)) Y (lS hx6)) (Tk 3 Y (by kernel_rfl) Y (lr0 o_3 Y Y at8 Y) (tR 4 Y (by kernel_rfl) Y (tR 5 Y (by kernel_rfl) Y ?_)));obtain ⟨x10, hx11⟩ := sL (l := b) (i := k) (by omega);obtain ⟨es12, at13, hr14⟩ := rd_elem (n := 1) rfl h_b hx11;obtain rfl : es12 = [.int .i64 x10] := hr14;refine Tk 6 Y (by kernel_rfl) Y (D_ix (l := b) (j := k) s_26 Y Y Y (fun w' hs => (rA hs h_b)) Y (lS hx11)) (Tk 7 Y (by kernel_rfl) Y (lr0 o_3 Y Y at13 Y) (tR 8 Y (by kernel_rfl) Y (tE (by kernel_rfl) (Xt (Cn Y (fun pr15 => ?_) (fun pr15 => ?_))))))
    ·refine Sr (Pe Y (Ct (Xq (Xr (Xr (Xq (Xr (Rb Y Y ?_))))))));simp; intro e; subst e; simp_all
    ·refine Ck (Xb (Xt (Cr (p1 Y (ad (k + 1) Y Y Y Y (by omega) (by omega) (Pe Y (fun ac w' hf hs => ⟨_, ?_, k + 1, ?_, ?_, Y, hf.wk Y, hs⟩)))))))
     ·omega
     ·omega
     ·exact idx_step hi (by assumption) (by assumption) (by simp_all)
   ·refine Cx (Xx (Xx (Xe (Xt (Sr (Pe Y (Ct (Rb Y Y ?_))))))));simp; exact eq_of_idx (by omega) (fun i h => hi i (by omega))
theorem spec_l1In {w : World} {x : Int} {least : Int} {most : Int} : Cy 141 [(iv x), (iv least), (iv most)] w (Val w (.bool (inR x least most))) := by
 refine enter 15 Tryz.func141 Y Y Y (Sr (Pe Y (Sr (P3 Y Y Y (p1 Y (gxd 10 Y Y (fun pr1 => ?_) (fun pr1 => ?_)))))))
 ·refine P3 Y Y Y (P2 Y Y (Dx (Ct (Rb Y Y ?_))));show ((decide ((x : Int) ≤ most)) : Bool) = _;simp_all [inR]; try omega
 ·refine n1 Y (n1 Y (n1 Y (P2 Y Y (Dx (Ct (Rb Y Y ?_))))));simp_all [inR]; try omega
end Go.Sy.Bel1
