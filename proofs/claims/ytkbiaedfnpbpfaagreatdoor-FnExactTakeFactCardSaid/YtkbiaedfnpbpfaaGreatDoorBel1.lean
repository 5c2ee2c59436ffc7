/-
  Contracts of functions of the program, walked (printed by a program of ours).
  Conditions: those that each theorem states.
-/
import Derived.Test.YtkbiaedfnpbpfaaGreatDoorProg
import Derived.Test.YtkbiaedfnpbpfaaGreatDoorTypes
import Derived.Test.YtkbiaedfnpbpfaaGreatDoorBase
set_option linter.unusedVariables false
set_option maxRecDepth 20000
namespace Go.Sy.Bel1
open Go Go.RowKit Go.Proofs Go.Sy
theorem mixed : Tryz.prog.follows .mixedOrders = true := by kernel_rfl
theorem s_35 : sliceTy Tryz.prog 35 = some (3, 1, 8) := by kernel_rfl
theorem y_3 : zeroTy Tryz.prog 3 = some (.int .i64 0) := by kernel_rfl
theorem o_3 : oneTy Tryz.prog 3 = true := by kernel_rfl
theorem z_3 : sizeTy Tryz.prog 3 = some 1 := by kernel_rfl
theorem laws_szIntS (w : World) (v_a : Value) (a : (List Int)) (left : Int) (h_a : Gd.rd w [v_a] a) (h0 : 0 ≤ left) (h1 : left ≤ 1048576) : Calls Tryz.prog 176 [v_a, (.int .i64 left)].toArray w (Val w (.int .i64 (szm a.length left))) := by
 have hm1 := rd_max h_a
 refine enter 12 Tryz.func176 rfl rfl rfl (Sr (Pe rfl (Sr (P2 rfl rfl (q1 rfl (Dl s_35 rfl rfl (rd_sl h_a)) (q1 rfl (D_sub rfl rfl rfl rfl (by omega)) (Pe rfl (Cq (Sr (P2 rfl rfl (Dx (Ci _ rfl (fun h2 => ?_) (fun h2 => ?_)))))))))))))
 ·have pr2 : ((left - ((a.length : Nat) : Int)) : Int) < 0 := odT h2
  refine Sr (Pe rfl (Ct (Xr (Ri rfl rfl ?_))))
  show ((-1) : Int) = _
  exact (szm_neg (by omega)).symm
 ·have pr2 : ¬ ((left - ((a.length : Nat) : Int)) : Int) < 0 := odF h2
  refine Sk (Sr (P2 rfl rfl (Dx (Ct (Ri rfl rfl ?_)))))
  show ((left - ((a.length : Nat) : Int)) : Int) = _
  exact (szm_pos (by omega)).symm
theorem laws_toIntS (w : World) (v_a : Value) (a : (List Int)) (h_a : Gd.rd w [v_a] a) (hn : a.length ≤ 1048576) : Calls Tryz.prog 182 [v_a].toArray w (Res w (a : List Int)) := by
 have hm1 := rd_max h_a
 refine enter 22 Tryz.func182 rfl rfl rfl (Sr (Pe rfl (Sr (p1 rfl (q1 rfl (Dl s_35 rfl rfl (rd_sl h_a)) (li rfl (D_mk (α := Int) (z := 0) s_35 y_3 rfl rfl rfl rfl (by omega) (by omega) fun v2 => ?_)))))))
 refine Pe rfl (Dh ([ov [v2] (List.replicate a.length 0 : (List Int))]) rfl (Cq (Sr (Pe rfl (Cb (Cl (fun m_ ac w' => ∃ (k : Nat), ∃ (v : Value), (k ≤ a.length) ∧ m_ = a.length - k ∧ Fits ac 22 [(0, v_a), (3, v), (4, (.int .i64 ((k : Nat) : Int)))] ∧ St w ([ov [v] (cp a 0 k : (List Int))]) w') ?_ ?_))))))
 ·refine D_eq 0 rfl (show (List.replicate a.length 0 : (List Int)) = cp a 0 0 from by rw [cp_zero]) (fun ac w' hf hs => ⟨_, 0, v2, ?_, rfl, hf.weak ⟨rfl, rfl, rfl, trivial⟩, hs⟩)
  ·first | assumption | omega | simp
 ·rintro m_ ac w' ⟨k, v, hk, rfl, hf, hs⟩
  refine D.use ?_ hf hs
  clear hf hs ac w'
  have hcl := cp_len a 0 k hk
  refine Cq (Sr (P2 rfl rfl (q1 rfl (Dl s_35 rfl rfl (rd_sl h_a)) (Pe rfl (Dh ([ov [v] (cp a 0 k : (List Int))]) rfl (Ci _ rfl (fun h3 => ?_) (fun h3 => ?_)))))))
  ·have pr3 : (((k : Nat) : Int) : Int) < ((a.length : Nat) : Int) := odT h3
   refine Sk (Cq (Cb (Cr (P3 rfl rfl rfl (p1 rfl ?_)))))
   obtain ⟨x4, hx5⟩ := sL (l := a) (i := k) (by omega)
   obtain ⟨es6, at7, hr8⟩ := rd_elem (n := 1) rfl h_a hx5
   obtain rfl : es6 = [.int .i64 x4] := hr8
   refine q1 rfl (D_ix (l := a) (j := k) s_35 rfl rfl rfl (fun w' hs => (rA hs h_a)) rfl (lS hx5)) (q1 rfl (lr0 o_3 rfl rfl at7 rfl) ?_)
   obtain ⟨x9, hx10⟩ := sL (l := (cp a 0 k)) (i := k) (by omega)
   refine q1 rfl (D_ix (l := (cp a 0 k)) (j := k) s_35 rfl rfl rfl (fun w' hs => (rO (k := 0) hs rfl)) rfl (lS hx10)) (li rfl (so (α := Int) (z := x4) 0 z_3 rfl rfl rfl rfl rfl (lS hx10) ?_))
   refine De (Xb (Xt (Dh ([ov [v] ((cp a 0 k).set k x4 : (List Int))]) rfl (Cr (p1 rfl (q1 rfl (D_add rfl rfl rfl (r := ((k + 1 : Nat) : Int)) (by omega) (by omega)) (Pe rfl (D_eq 0 rfl (show ((cp a 0 k).set k x4 : (List Int)) = cp a 0 (k + 1) from by rw [cp_set (by assumption)]) (fun ac w' hf hs => ⟨_, ?_, k + 1, v, ?_, rfl, hf.weak ⟨rfl, rfl, rfl, trivial⟩, hs⟩)))))))))
   ·omega
   ·first | assumption | omega | simp
  ·have pr3 : ¬ (((k : Nat) : Int) : Int) < ((a.length : Nat) : Int) := odF h3
   refine Cx (Xx (Xx (Xe (Xt (Sr (P2 rfl rfl (Dx (Ct (R_1 rfl rfl fun w' hs => res_of (k := 0) hs rfl ?_)))))))))
   show cp a 0 k = a
   exact cp_done (by omega)
theorem laws_eqIntS (w : World) (v_a : Value) (a : (List Int)) (v_b : Value) (b : (List Int)) (h_a : Gd.rd w [v_a] a) (h_b : Gd.rd w [v_b] b) : Calls Tryz.prog 54 [v_a, v_b].toArray w (Val w (.bool (decide (a = b)))) := by
 have hm1 := rd_max h_a
 have hm2 := rd_max h_b
 refine enter 26 Tryz.func54 rfl rfl rfl (Sr (Pe rfl (Cq (Sr (p1 rfl (q1 rfl (Dl s_35 rfl rfl (rd_sl h_a)) (p1 rfl (q1 rfl (Dl s_35 rfl rfl (rd_sl h_b)) (Pe rfl (Ci _ rfl (fun h3 => ?_) (fun h3 => ?_)))))))))))
 ·have pr3 : (((a.length : Nat) : Int) : Int) ≠ ((b.length : Nat) : Int) := bne_iff_ne.1 h3
  refine Sr (Pe rfl (Ct (Xr (Rb rfl rfl ?_))))
  simp; intro e; subst e; simp_all
 ·have pr3 : (((a.length : Nat) : Int) : Int) = ((b.length : Nat) : Int) := eq_of_bne_f h3
  refine Sk (Cq (Sr (Pe rfl (Cb (Cl (fun m_ ac w' => ∃ (k : Nat), (k ≤ a.length) ∧ (∀ i, i < k → a[i]? = b[i]?) ∧ m_ = a.length - k ∧ Fits ac 26 [(0, v_a), (1, v_b), (5, (.int .i64 ((k : Nat) : Int)))] ∧ St w ([]) w') ?_ ?_)))))
  ·refine fun ac w' hf hs => ⟨_, 0, ?_, ?_, rfl, hf.weak ⟨rfl, rfl, rfl, trivial⟩, hs⟩
   ·first | assumption | omega | simp
   ·intro i hi; omega
  ·rintro m_ ac w' ⟨k, hk, hi, rfl, hf, hs⟩
   refine D.use ?_ hf hs
   clear hf hs ac w'
   refine Cq (Sr (P2 rfl rfl (q1 rfl (Dl s_35 rfl rfl (rd_sl h_a)) (Pe rfl (Ci _ rfl (fun h4 => ?_) (fun h4 => ?_))))))
   ·have pr4 : (((k : Nat) : Int) : Int) < ((a.length : Nat) : Int) := odT h4
    refine Sk (Cq (Cb (Cq (C_draw mixed [] (by kernel_rfl) (Tk 0 rfl (by kernel_rfl) rfl (rp rfl) (Tk 1 rfl (by kernel_rfl) rfl (rp rfl) ?_))))))
    obtain ⟨x5, hx6⟩ := sL (l := a) (i := k) (by omega)
    obtain ⟨es7, at8, hr9⟩ := rd_elem (n := 1) rfl h_a hx6
    obtain rfl : es7 = [.int .i64 x5] := hr9
    refine Tk 2 rfl (by kernel_rfl) rfl (D_ix (l := a) (j := k) s_35 rfl rfl rfl (fun w' hs => (rA hs h_a)) rfl (lS hx6)) (Tk 3 rfl (by kernel_rfl) rfl (lr0 o_3 rfl rfl at8 rfl) (Tk 4 rfl (by kernel_rfl) rfl (rp rfl) (Tk 5 rfl (by kernel_rfl) rfl (rp rfl) ?_)))
    obtain ⟨x10, hx11⟩ := sL (l := b) (i := k) (by omega)
    obtain ⟨es12, at13, hr14⟩ := rd_elem (n := 1) rfl h_b hx11
    obtain rfl : es12 = [.int .i64 x10] := hr14
    refine Tk 6 rfl (by kernel_rfl) rfl (D_ix (l := b) (j := k) s_35 rfl rfl rfl (fun w' hs => (rA hs h_b)) rfl (lS hx11)) (Tk 7 rfl (by kernel_rfl) rfl (lr0 o_3 rfl rfl at13 rfl) (Tk 8 rfl (by kernel_rfl) rfl (rp rfl) (tE (by kernel_rfl) (Xt (Ci _ rfl (fun h15 => ?_) (fun h15 => ?_))))))
    ·have pr15 : (x5 : Int) ≠ x10 := bne_iff_ne.1 h15
     refine Sr (Pe rfl (Ct (Xq (Xr (Xr (Xq (Xr (Rb rfl rfl ?_))))))))
     simp; intro e; subst e; simp_all
    ·have pr15 : (x5 : Int) = x10 := eq_of_bne_f h15
     refine Ck (Xb (Xt (Cr (p1 rfl (q1 rfl (D_add rfl rfl rfl (r := ((k + 1 : Nat) : Int)) (by omega) (by omega)) (Pe rfl (fun ac w' hf hs => ⟨_, ?_, k + 1, ?_, ?_, rfl, hf.weak ⟨rfl, rfl, rfl, trivial⟩, hs⟩)))))))
     ·omega
     ·first | assumption | omega | simp
     ·exact idx_step hi (by assumption) (by assumption) (by simp_all)
   ·have pr4 : ¬ (((k : Nat) : Int) : Int) < ((a.length : Nat) : Int) := odF h4
    refine Cx (Xx (Xx (Xe (Xt (Sr (Pe rfl (Ct (Rb rfl rfl ?_))))))))
    simp; exact eq_of_idx (by omega) (fun i h => hi i (by omega))
theorem spec_l1In (w : World) (x : Int) (least : Int) (most : Int) : Calls Tryz.prog 99 [(.int .i64 x), (.int .i64 least), (.int .i64 most)].toArray w (Val w (.bool (inR x least most))) := by
 refine enter 15 Tryz.func99 rfl rfl rfl (Sr (Pe rfl (Sr (P3 rfl rfl rfl (p1 rfl (gs 10 rfl rfl (fun h1 => ?_) (fun h1 => ?_)))))))
 ·have pr1 : (least : Int) ≤ x := odT h1
  refine P3 rfl rfl rfl (P2 rfl rfl (Dx (Ct (Rb rfl rfl ?_))))
  show ((decide ((x : Int) ≤ most)) : Bool) = _
  simp_all [inR]; try omega
 ·have pr1 : ¬ (least : Int) ≤ x := odF h1
  refine n1 rfl (n1 rfl (n1 rfl (P2 rfl rfl (Dx (Ct (Rb rfl rfl ?_))))))
  simp_all [inR]; try omega
end Go.Sy.Bel1
