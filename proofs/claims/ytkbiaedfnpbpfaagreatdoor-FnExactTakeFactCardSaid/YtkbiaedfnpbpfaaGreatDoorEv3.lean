/-
  Contracts of functions of the program, walked (printed by a program of ours).
  Conditions: those that each theorem states.
-/
import Derived.Test.YtkbiaedfnpbpfaaGreatDoorEv2
set_option linter.unusedVariables false
set_option maxRecDepth 20000
namespace Go.Sy.Ev3
open Go Go.RowKit Go.Proofs Go.Sy
theorem mixed : Tryz.prog.follows .mixedOrders = true := by kernel_rfl
theorem s_58 : sliceTy Tryz.prog 58 = some (9, 1, 16) := by kernel_rfl
theorem o_9 : oneTy Tryz.prog 9 = true := by kernel_rfl
theorem s_35 : sliceTy Tryz.prog 35 = some (3, 1, 8) := by kernel_rfl
theorem o_3 : oneTy Tryz.prog 3 = true := by kernel_rfl
theorem f_70_0 : fieldOff Tryz.prog 70 0 = some 0 := by kernel_rfl
theorem f_70_1 : fieldOff Tryz.prog 70 1 = some 1 := by kernel_rfl
theorem o_58 : oneTy Tryz.prog 58 = true := by kernel_rfl
theorem b_186 : hasBody Tryz.prog 186 = true := by kernel_rfl
theorem b_181 : hasBody Tryz.prog 181 = true := by kernel_rfl
theorem f_168_0 : fieldOff Tryz.prog 168 0 = some 0 := by kernel_rfl
theorem f_168_1 : fieldOff Tryz.prog 168 1 = some 1 := by kernel_rfl
theorem o_35 : oneTy Tryz.prog 35 = true := by kernel_rfl
theorem b_185 : hasBody Tryz.prog 185 = true := by kernel_rfl
open Go.Sy.Bel1 Go.Sy.Ev1 Go.Sy.Ev2
theorem impl_sameTexts (w : World) (v_a : Value) (a : (List ByteArray)) (v_b : Value) (b : (List ByteArray)) (h_a : Gd.rd w [v_a] a) (h_b : Gd.rd w [v_b] b) : Calls Tryz.prog 186 [v_a, v_b].toArray w (Val w (.bool (decide (a = b)))) := by
 have hm1 := rd_max h_a
 have hm2 := rd_max h_b
 refine enter 26 Tryz.func186 rfl rfl rfl (Sr (Pe rfl (Cq (Sr (p1 rfl (q1 rfl (Dl s_58 rfl rfl (rd_sl h_a)) (p1 rfl (q1 rfl (Dl s_58 rfl rfl (rd_sl h_b)) (Pe rfl (Ci _ rfl (fun h3 => ?_) (fun h3 => ?_)))))))))))
 ·have pr3 : (((a.length : Nat) : Int) : Int) ≠ ((b.length : Nat) : Int) := bne_iff_ne.1 h3
  refine Sr (Pe rfl (Ct (Xr (Rb rfl rfl ?_))))
  simp; intro e; subst e; simp_all
 ·have pr3 : (((a.length : Nat) : Int) : Int) = ((b.length : Nat) : Int) := eq_of_bne_f h3
  refine Sk (Cq (Sr (p1 rfl (q1 rfl (Dl s_58 rfl rfl (rd_sl h_a)) (Pe rfl (Cb (Cl (fun m_ ac w' => ∃ (k : Nat), (k ≤ a.length) ∧ (∀ i, i < k → a[i]? = b[i]?) ∧ m_ = a.length - k ∧ Fits ac 26 [(0, v_a), (1, v_b), (12, (.int .i64 ((a.length : Nat) : Int))), (13, (.int .i64 ((k : Nat) : Int)))] ∧ St w ([]) w') ?_ ?_)))))))
  ·refine fun ac w' hf hs => ⟨_, 0, ?_, ?_, rfl, hf.weak ⟨rfl, rfl, rfl, rfl, trivial⟩, hs⟩
   ·first | assumption | omega | simp
   ·intro i hi; omega
  ·rintro m_ ac w' ⟨k, hk, hi, rfl, hf, hs⟩
   refine D.use ?_ hf hs
   clear hf hs ac w'
   refine Sr (Pe rfl (Cq (Ci _ rfl (fun h4 => ?_) (fun h4 => ?_))))
   ·have pr4 : (((k : Nat) : Int) : Int) < ((a.length : Nat) : Int) := odT h4
    refine Sk (Cq (Cb (Sr (P2 rfl rfl (Dx (Cq (C_draw mixed [] (by kernel_rfl) (Tk 0 rfl (by kernel_rfl) rfl (rp rfl) (Tk 1 rfl (by kernel_rfl) rfl (rp rfl) ?_)))))))))
    obtain ⟨x5, hx6⟩ := sL (l := a) (i := k) (by omega)
    obtain ⟨es7, at8, hr9⟩ := rd_elem (n := 1) rfl h_a hx6
    obtain rfl : es7 = [.string x5] := hr9
    refine Tk 2 rfl (by kernel_rfl) rfl (D_ix (l := a) (j := k) s_58 rfl rfl rfl (fun w' hs => (rA hs h_a)) rfl (lS hx6)) (Tk 3 rfl (by kernel_rfl) rfl (lr0 o_9 rfl rfl at8 rfl) (Tk 4 rfl (by kernel_rfl) rfl (rp rfl) (Tk 5 rfl (by kernel_rfl) rfl (rp rfl) ?_)))
    obtain ⟨x10, hx11⟩ := sL (l := b) (i := k) (by omega)
    obtain ⟨es12, at13, hr14⟩ := rd_elem (n := 1) rfl h_b hx11
    obtain rfl : es12 = [.string x10] := hr14
    refine Tk 6 rfl (by kernel_rfl) rfl (D_ix (l := b) (j := k) s_58 rfl rfl rfl (fun w' hs => (rA hs h_b)) rfl (lS hx11)) (Tk 7 rfl (by kernel_rfl) rfl (lr0 o_9 rfl rfl at13 rfl) (Tk 8 rfl (by kernel_rfl) rfl (D_neS rfl rfl rfl) (tE (by kernel_rfl) (Xt (Ci _ rfl (fun h15 => ?_) (fun h15 => ?_))))))
    ·have pr15 : ¬ (x5 : ByteArray) = x10 := of_decide_eq_false (not_t h15)
     refine Sr (Pe rfl (Ct (Xq (Xr (Xr (Xq (Xr (Rb rfl rfl ?_))))))))
     simp; intro e; subst e; simp_all
    ·have pr15 : (x5 : ByteArray) = x10 := of_decide_eq_true (not_f h15)
     refine Ck (Xb (Xt (Cr (q1 rfl (D_add rfl rfl rfl (r := ((k + 1 : Nat) : Int)) (by omega) (by omega)) (Pe rfl (fun ac w' hf hs => ⟨_, ?_, k + 1, ?_, ?_, rfl, hf.weak ⟨rfl, rfl, rfl, rfl, trivial⟩, hs⟩))))))
     ·omega
     ·first | assumption | omega | simp
     ·refine idx_step hi (by assumption) (by assumption) ?_; first | (simp_all; done) | (apply Fact.mk_eq <;> simp_all)
   ·have pr4 : ¬ (((k : Nat) : Int) : Int) < ((a.length : Nat) : Int) := odF h4
    refine Cx (Xx (Xx (Xe (Xt (Sr (Pe rfl (Ct (Rb rfl rfl ?_))))))))
    simp; exact eq_of_idx (by omega) (fun i h => hi i (by omega))
theorem impl_sameInts (w : World) (v_a : Value) (a : (List Int)) (v_b : Value) (b : (List Int)) (h_a : Gd.rd w [v_a] a) (h_b : Gd.rd w [v_b] b) : Calls Tryz.prog 185 [v_a, v_b].toArray w (Val w (.bool (decide (a = b)))) := by
 have hm1 := rd_max h_a
 have hm2 := rd_max h_b
 refine enter 26 Tryz.func185 rfl rfl rfl (Sr (Pe rfl (Cq (Sr (p1 rfl (q1 rfl (Dl s_35 rfl rfl (rd_sl h_a)) (p1 rfl (q1 rfl (Dl s_35 rfl rfl (rd_sl h_b)) (Pe rfl (Ci _ rfl (fun h3 => ?_) (fun h3 => ?_)))))))))))
 ·have pr3 : (((a.length : Nat) : Int) : Int) ≠ ((b.length : Nat) : Int) := bne_iff_ne.1 h3
  refine Sr (Pe rfl (Ct (Xr (Rb rfl rfl ?_))))
  simp; intro e; subst e; simp_all
 ·have pr3 : (((a.length : Nat) : Int) : Int) = ((b.length : Nat) : Int) := eq_of_bne_f h3
  refine Sk (Cq (Sr (p1 rfl (q1 rfl (Dl s_35 rfl rfl (rd_sl h_a)) (Pe rfl (Cb (Cl (fun m_ ac w' => ∃ (k : Nat), (k ≤ a.length) ∧ (∀ i, i < k → a[i]? = b[i]?) ∧ m_ = a.length - k ∧ Fits ac 26 [(0, v_a), (1, v_b), (12, (.int .i64 ((a.length : Nat) : Int))), (13, (.int .i64 ((k : Nat) : Int)))] ∧ St w ([]) w') ?_ ?_)))))))
  ·refine fun ac w' hf hs => ⟨_, 0, ?_, ?_, rfl, hf.weak ⟨rfl, rfl, rfl, rfl, trivial⟩, hs⟩
   ·first | assumption | omega | simp
   ·intro i hi; omega
  ·rintro m_ ac w' ⟨k, hk, hi, rfl, hf, hs⟩
   refine D.use ?_ hf hs
   clear hf hs ac w'
   refine Sr (Pe rfl (Cq (Ci _ rfl (fun h4 => ?_) (fun h4 => ?_))))
   ·have pr4 : (((k : Nat) : Int) : Int) < ((a.length : Nat) : Int) := odT h4
    refine Sk (Cq (Cb (Sr (P2 rfl rfl (Dx (Cq (C_draw mixed [] (by kernel_rfl) (Tk 0 rfl (by kernel_rfl) rfl (rp rfl) (Tk 1 rfl (by kernel_rfl) rfl (rp rfl) ?_)))))))))
    obtain ⟨x5, hx6⟩ := sL (l := a) (i := k) (by omega)
    obtain ⟨es7, at8, hr9⟩ := rd_elem (n := 1) rfl h_a hx6
    obtain rfl : es7 = [.int .i64 x5] := hr9
    refine Tk 2 rfl (by kernel_rfl) rfl (D_ix (l := a) (j := k) s_35 rfl rfl rfl (fun w' hs => (rA hs h_a)) rfl (lS hx6)) (Tk 3 rfl (by kernel_rfl) rfl (lr0 o_3 rfl rfl at8 rfl) (Tk 4 rfl (by kernel_rfl) rfl (rp rfl) (Tk 5 rfl (by kernel_rfl) rfl (rp rfl) ?_)))
    obtain ⟨x10, hx11⟩ := sL (l := b) (i := k) (by omega)
    obtain ⟨es12, at13, hr14⟩ := rd_elem (n := 1) rfl h_b hx11
    obtain rfl : es12 = [.int .i64 x10] := hr14
    refine Tk 6 rfl (by kernel_rfl) rfl (D_ix (l := b) (j := k) s_35 rfl rfl rfl (fun w' hs => (rA hs h_b)) rfl (lS hx11)) (Tk 7 rfl (by kernel_rfl) rfl (lr0 o_3 rfl rfl at13 rfl) (Tk 8 rfl (by kernel_rfl) rfl (rp rfl) (tE (by kernel_rfl) (Xt (Ci _ rfl (fun h15 => ?_) (fun h15 => ?_))))))
    ·have pr15 : (x5 : Int) ≠ x10 := bne_iff_ne.1 h15
     refine Sr (Pe rfl (Ct (Xq (Xr (Xr (Xq (Xr (Rb rfl rfl ?_))))))))
     simp; intro e; subst e; simp_all
    ·have pr15 : (x5 : Int) = x10 := eq_of_bne_f h15
     refine Ck (Xb (Xt (Cr (q1 rfl (D_add rfl rfl rfl (r := ((k + 1 : Nat) : Int)) (by omega) (by omega)) (Pe rfl (fun ac w' hf hs => ⟨_, ?_, k + 1, ?_, ?_, rfl, hf.weak ⟨rfl, rfl, rfl, rfl, trivial⟩, hs⟩))))))
     ·omega
     ·first | assumption | omega | simp
     ·refine idx_step hi (by assumption) (by assumption) ?_; first | (simp_all; done) | (apply Fact.mk_eq <;> simp_all)
   ·have pr4 : ¬ (((k : Nat) : Int) : Int) < ((a.length : Nat) : Int) := odF h4
    refine Cx (Xx (Xx (Xe (Xt (Sr (Pe rfl (Ct (Rb rfl rfl ?_))))))))
    simp; exact eq_of_idx (by omega) (fun i h => hi i (by omega))
theorem spec_l1SameTexts (w : World) (v_a : Value) (a : (List ByteArray)) (v_b : Value) (b : (List ByteArray)) (h_a : Gd.rd w [v_a] a) (h_b : Gd.rd w [v_b] b) : Calls Tryz.prog 181 [v_a, v_b].toArray w (Val w (.bool (decide (a = b)))) := by
 have hm1 := rd_max h_a
 have hm2 := rd_max h_b
 refine enter 26 Tryz.func181 rfl rfl rfl (Sr (Pe rfl (Cq (Sr (p1 rfl (q1 rfl (Dl s_58 rfl rfl (rd_sl h_a)) (p1 rfl (q1 rfl (Dl s_58 rfl rfl (rd_sl h_b)) (Pe rfl (Ci _ rfl (fun h3 => ?_) (fun h3 => ?_)))))))))))
 ·have pr3 : (((a.length : Nat) : Int) : Int) ≠ ((b.length : Nat) : Int) := bne_iff_ne.1 h3
  refine Sr (Pe rfl (Ct (Xr (Rb rfl rfl ?_))))
  simp; intro e; subst e; simp_all
 ·have pr3 : (((a.length : Nat) : Int) : Int) = ((b.length : Nat) : Int) := eq_of_bne_f h3
  refine Sk (Cq (Sr (Pe rfl (Cb (Cl (fun m_ ac w' => ∃ (k : Nat), (k ≤ a.length) ∧ (∀ i, i < k → a[i]? = b[i]?) ∧ m_ = a.length - k ∧ Fits ac 26 [(0, v_a), (1, v_b), (5, (.int .i64 ((k : Nat) : Int)))] ∧ St w ([]) w') ?_ ?_)))))
  ·refine fun ac w' hf hs => ⟨_, 0, ?_, ?_, rfl, hf.weak ⟨rfl, rfl, rfl, trivial⟩, hs⟩
   ·first | assumption | omega | simp
   ·intro i hi; omega
  ·rintro m_ ac w' ⟨k, hk, hi, rfl, hf, hs⟩
   refine D.use ?_ hf hs
   clear hf hs ac w'
   refine Cq (Sr (P2 rfl rfl (q1 rfl (Dl s_58 rfl rfl (rd_sl h_a)) (Pe rfl (Ci _ rfl (fun h4 => ?_) (fun h4 => ?_))))))
   ·have pr4 : (((k : Nat) : Int) : Int) < ((a.length : Nat) : Int) := odT h4
    refine Sk (Cq (Cb (Cq (C_draw mixed [] (by kernel_rfl) (Tk 0 rfl (by kernel_rfl) rfl (rp rfl) (Tk 1 rfl (by kernel_rfl) rfl (rp rfl) ?_))))))
    obtain ⟨x5, hx6⟩ := sL (l := a) (i := k) (by omega)
    obtain ⟨es7, at8, hr9⟩ := rd_elem (n := 1) rfl h_a hx6
    obtain rfl : es7 = [.string x5] := hr9
    refine Tk 2 rfl (by kernel_rfl) rfl (D_ix (l := a) (j := k) s_58 rfl rfl rfl (fun w' hs => (rA hs h_a)) rfl (lS hx6)) (Tk 3 rfl (by kernel_rfl) rfl (lr0 o_9 rfl rfl at8 rfl) (Tk 4 rfl (by kernel_rfl) rfl (rp rfl) (Tk 5 rfl (by kernel_rfl) rfl (rp rfl) ?_)))
    obtain ⟨x10, hx11⟩ := sL (l := b) (i := k) (by omega)
    obtain ⟨es12, at13, hr14⟩ := rd_elem (n := 1) rfl h_b hx11
    obtain rfl : es12 = [.string x10] := hr14
    refine Tk 6 rfl (by kernel_rfl) rfl (D_ix (l := b) (j := k) s_58 rfl rfl rfl (fun w' hs => (rA hs h_b)) rfl (lS hx11)) (Tk 7 rfl (by kernel_rfl) rfl (lr0 o_9 rfl rfl at13 rfl) (Tk 8 rfl (by kernel_rfl) rfl (D_neS rfl rfl rfl) (tE (by kernel_rfl) (Xt (Ci _ rfl (fun h15 => ?_) (fun h15 => ?_))))))
    ·have pr15 : ¬ (x5 : ByteArray) = x10 := of_decide_eq_false (not_t h15)
     refine Sr (Pe rfl (Ct (Xq (Xr (Xr (Xq (Xr (Rb rfl rfl ?_))))))))
     simp; intro e; subst e; simp_all
    ·have pr15 : (x5 : ByteArray) = x10 := of_decide_eq_true (not_f h15)
     refine Ck (Xb (Xt (Cr (p1 rfl (q1 rfl (D_add rfl rfl rfl (r := ((k + 1 : Nat) : Int)) (by omega) (by omega)) (Pe rfl (fun ac w' hf hs => ⟨_, ?_, k + 1, ?_, ?_, rfl, hf.weak ⟨rfl, rfl, rfl, trivial⟩, hs⟩)))))))
     ·omega
     ·first | assumption | omega | simp
     ·refine idx_step hi (by assumption) (by assumption) ?_; first | (simp_all; done) | (apply Fact.mk_eq <;> simp_all)
   ·have pr4 : ¬ (((k : Nat) : Int) : Int) < ((a.length : Nat) : Int) := odF h4
    refine Cx (Xx (Xx (Xe (Xt (Sr (Pe rfl (Ct (Rb rfl rfl ?_))))))))
    simp; exact eq_of_idx (by omega) (fun i h => hi i (by omega))
theorem spec_l9SameInts (w : World) (v_a : Value) (a : (List Int)) (v_b : Value) (b : (List Int)) (h_a : Gd.rd w [v_a] a) (h_b : Gd.rd w [v_b] b) : Calls Tryz.prog 180 [v_a, v_b].toArray w (Val w (.bool (decide (a = b)))) := by
 have hm1 := rd_max h_a
 have hm2 := rd_max h_b
 refine enter 26 Tryz.func180 rfl rfl rfl (Sr (Pe rfl (Cq (Sr (p1 rfl (q1 rfl (Dl s_35 rfl rfl (rd_sl h_a)) (p1 rfl (q1 rfl (Dl s_35 rfl rfl (rd_sl h_b)) (Pe rfl (Ci _ rfl (fun h3 => ?_) (fun h3 => ?_)))))))))))
 ·have pr3 : (((a.length : Nat) : Int) : Int) ≠ ((b.length : Nat) : Int) := bne_iff_ne.1 h3
  refine Sr (Pe rfl (Ct (Xr (Rb rfl rfl ?_))))
  simp; intro e; subst e; simp_all
 ·have pr3 : (((a.length : Nat) : Int) : Int) = ((b.length : Nat) : Int) := eq_of_bne_f h3
  refine Sk (Cq (Sr (Pe rfl (Cb (Cl (fun m_ ac w' => ∃ (k : Nat), (k ≤ a.length) ∧ (∀ i, i < k → a[i]? = b[i]?) ∧ m_ = a.length - k ∧ Fits ac 26 [(0, v_a), (1, v_b), (5, (.int .i64 ((k : Nat) : Int)))] ∧ St w ([]) w') ?_ ?_)))))
  ·refine fun ac w' hf hs => ⟨_, 0, ?_, ?_, rfl, hf.weak ⟨rfl, rfl, rfl, trivial⟩, hs⟩
   ·first | assumption | omega | simp
   ·intro i hi; omega
  ·rintro m_ ac w' ⟨k, hk, hi, rfl, hf, hs⟩
   refine D.use ?_ hf hs
   clear hf hs ac w'
   refine Cq (Sr (P2 rfl rfl (q1 rfl (Dl s_35 rfl rfl (rd_sl h_a)) (Pe rfl (Ci _ rfl (fun h4 => ?_) (fun h4 => ?_))))))
   ·have pr4 : (((k : Nat) : Int) : Int) < ((a.length : Nat) : Int) := odT h4
    refine Sk (Cq (Cb (Cq (C_draw mixed [] (by kernel_rfl) (Tk 0 rfl (by kernel_rfl) rfl (rp rfl) (Tk 1 rfl (by kernel_rfl) rfl (rp rfl) ?_))))))
    obtain ⟨x5, hx6⟩ := sL (l := a) (i := k) (by omega)
    obtain ⟨es7, at8, hr9⟩ := rd_elem (n := 1) rfl h_a hx6
    obtain rfl : es7 = [.int .i64 x5] := hr9
    refine Tk 2 rfl (by kernel_rfl) rfl (D_ix (l := a) (j := k) s_35 rfl rfl rfl (fun w' hs => (rA hs h_a)) rfl (lS hx6)) (Tk 3 rfl (by kernel_rfl) rfl (lr0 o_3 rfl rfl at8 rfl) (Tk 4 rfl (by kernel_rfl) rfl (rp rfl) (Tk 5 rfl (by kernel_rfl) rfl (rp rfl) ?_)))
    obtain ⟨x10, hx11⟩ := sL (l := b) (i := k) (by omega)
    obtain ⟨es12, at13, hr14⟩ := rd_elem (n := 1) rfl h_b hx11
    obtain rfl : es12 = [.int .i64 x10] := hr14
    refine Tk 6 rfl (by kernel_rfl) rfl (D_ix (l := b) (j := k) s_35 rfl rfl rfl (fun w' hs => (rA hs h_b)) rfl (lS hx11)) (Tk 7 rfl (by kernel_rfl) rfl (lr0 o_3 rfl rfl at13 rfl) (Tk 8 rfl (by kernel_rfl) rfl (rp rfl) (tE (by kernel_rfl) (Xt (Ci _ rfl (fun h15 => ?_) (fun h15 => ?_))))))
    ·have pr15 : (x5 : Int) ≠ x10 := bne_iff_ne.1 h15
     refine Sr (Pe rfl (Ct (Xq (Xr (Xr (Xq (Xr (Rb rfl rfl ?_))))))))
     simp; intro e; subst e; simp_all
    ·have pr15 : (x5 : Int) = x10 := eq_of_bne_f h15
     refine Ck (Xb (Xt (Cr (p1 rfl (q1 rfl (D_add rfl rfl rfl (r := ((k + 1 : Nat) : Int)) (by omega) (by omega)) (Pe rfl (fun ac w' hf hs => ⟨_, ?_, k + 1, ?_, ?_, rfl, hf.weak ⟨rfl, rfl, rfl, trivial⟩, hs⟩)))))))
     ·omega
     ·first | assumption | omega | simp
     ·refine idx_step hi (by assumption) (by assumption) ?_; first | (simp_all; done) | (apply Fact.mk_eq <;> simp_all)
   ·have pr4 : ¬ (((k : Nat) : Int) : Int) < ((a.length : Nat) : Int) := odF h4
    refine Cx (Xx (Xx (Xe (Xt (Sr (Pe rfl (Ct (Rb rfl rfl ?_))))))))
    simp; exact eq_of_idx (by omega) (fun i h => hi i (by omega))
theorem impl_sameFact (w : World) (c_a : List Value) (a : Fact) (c_b : List Value) (b : Fact) (h_a : Gd.rd w c_a a) (h_b : Gd.rd w c_b b) : Calls Tryz.prog 138 [(.agg c_a.toArray), (.agg c_b.toArray)].toArray w (Val w (.bool (decide (a = b)))) := by
 obtain ⟨u1, rfl, hu2⟩ := open_Fact h_a
 have hm3 := rd_max hu2
 obtain ⟨u4, rfl, hu5⟩ := open_Fact h_b
 have hm6 := rd_max hu5
 refine enter 17 Tryz.func138 rfl rfl rfl (Sr (li rfl (D_box rfl rfl rfl rfl rfl fun g7 => ?_)))
 refine li rfl (D_box rfl rfl rfl rfl rfl fun g8 => ?_)
 refine Pe rfl (Dh ([bx g8 [(.string b.Rel), u4], bx g7 [(.string a.Rel), u1]]) rfl (Sr (q1 rfl (Db f_70_0 rfl rfl (q := 0) rfl) (q1 rfl (lb 1 o_9 rfl rfl rfl rfl) (q1 rfl (Db f_70_0 rfl rfl (q := 0) rfl) (q1 rfl (lb 0 o_9 rfl rfl rfl rfl) (q1 rfl (D_eqS rfl rfl rfl) (p1 rfl (gs 10 rfl rfl (fun h9 => ?_) (fun h9 => ?_))))))))))
 ·have pr9 : (a.Rel : ByteArray) = b.Rel := odT h9
  refine q1 rfl (Db f_70_1 rfl rfl (q := 1) rfl) (q1 rfl (lb 1 o_58 rfl rfl rfl rfl) (q1 rfl (Db f_70_1 rfl rfl (q := 1) rfl) (q1 rfl (lb 0 o_58 rfl rfl rfl rfl) (li rfl (cv b_186 rfl rfl rfl rfl (fun w' hs => (impl_sameTexts w' u1 a.Args u4 b.Args (rA hs hu2) (rA hs hu5))) ?_)))))
  refine P2 rfl rfl (Dx (Ct (Rb rfl rfl ?_)))
  show ((decide (a.Args = b.Args)) : Bool) = _
  cases a; cases b; simp_all
 ·have pr9 : ¬ (a.Rel : ByteArray) = b.Rel := odF h9
  refine n1 rfl (n1 rfl (n1 rfl (n1 rfl (n1 rfl (P2 rfl rfl (Dx (Ct (Rb rfl rfl ?_))))))))
  cases a; cases b; simp_all
theorem spec_l2Same (w : World) (c_a : List Value) (a : Fact) (c_b : List Value) (b : Fact) (h_a : Gd.rd w c_a a) (h_b : Gd.rd w c_b b) : Calls Tryz.prog 128 [(.agg c_a.toArray), (.agg c_b.toArray)].toArray w (Val w (.bool (decide (a = b)))) := by
 obtain ⟨u1, rfl, hu2⟩ := open_Fact h_a
 have hm3 := rd_max hu2
 obtain ⟨u4, rfl, hu5⟩ := open_Fact h_b
 have hm6 := rd_max hu5
 refine enter 17 Tryz.func128 rfl rfl rfl (Sr (li rfl (D_box rfl rfl rfl rfl rfl fun g7 => ?_)))
 refine li rfl (D_box rfl rfl rfl rfl rfl fun g8 => ?_)
 refine Pe rfl (Dh ([bx g8 [(.string b.Rel), u4], bx g7 [(.string a.Rel), u1]]) rfl (Sr (q1 rfl (Db f_70_0 rfl rfl (q := 0) rfl) (q1 rfl (lb 1 o_9 rfl rfl rfl rfl) (q1 rfl (Db f_70_0 rfl rfl (q := 0) rfl) (q1 rfl (lb 0 o_9 rfl rfl rfl rfl) (q1 rfl (D_eqS rfl rfl rfl) (p1 rfl (gs 10 rfl rfl (fun h9 => ?_) (fun h9 => ?_))))))))))
 ·have pr9 : (a.Rel : ByteArray) = b.Rel := odT h9
  refine q1 rfl (Db f_70_1 rfl rfl (q := 1) rfl) (q1 rfl (lb 1 o_58 rfl rfl rfl rfl) (q1 rfl (Db f_70_1 rfl rfl (q := 1) rfl) (q1 rfl (lb 0 o_58 rfl rfl rfl rfl) (li rfl (cv b_181 rfl rfl rfl rfl (fun w' hs => (spec_l1SameTexts w' u1 a.Args u4 b.Args (rA hs hu2) (rA hs hu5))) ?_)))))
  refine P2 rfl rfl (Dx (Ct (Rb rfl rfl ?_)))
  show ((decide (a.Args = b.Args)) : Bool) = _
  cases a; cases b; simp_all
 ·have pr9 : ¬ (a.Rel : ByteArray) = b.Rel := odF h9
  refine n1 rfl (n1 rfl (n1 rfl (n1 rfl (n1 rfl (P2 rfl rfl (Dx (Ct (Rb rfl rfl ?_))))))))
  cases a; cases b; simp_all
theorem impl_sameFiring (w : World) (c_a : List Value) (a : Firing) (c_b : List Value) (b : Firing) (h_a : Gd.rd w c_a a) (h_b : Gd.rd w c_b b) : Calls Tryz.prog 136 [(.agg c_a.toArray), (.agg c_b.toArray)].toArray w (Val w (.bool (decide (a = b)))) := by
 obtain ⟨u1, rfl, hu2⟩ := open_Firing h_a
 have hm3 := rd_max hu2
 obtain ⟨u4, rfl, hu5⟩ := open_Firing h_b
 have hm6 := rd_max hu5
 refine enter 17 Tryz.func136 rfl rfl rfl (Sr (li rfl (D_box rfl rfl rfl rfl rfl fun g7 => ?_)))
 refine li rfl (D_box rfl rfl rfl rfl rfl fun g8 => ?_)
 refine Pe rfl (Dh ([bx g8 [(.string b.Rule), u4], bx g7 [(.string a.Rule), u1]]) rfl (Sr (q1 rfl (Db f_168_0 rfl rfl (q := 0) rfl) (q1 rfl (lb 1 o_9 rfl rfl rfl rfl) (q1 rfl (Db f_168_0 rfl rfl (q := 0) rfl) (q1 rfl (lb 0 o_9 rfl rfl rfl rfl) (q1 rfl (D_eqS rfl rfl rfl) (p1 rfl (gs 10 rfl rfl (fun h9 => ?_) (fun h9 => ?_))))))))))
 ·have pr9 : (a.Rule : ByteArray) = b.Rule := odT h9
  refine q1 rfl (Db f_168_1 rfl rfl (q := 1) rfl) (q1 rfl (lb 1 o_35 rfl rfl rfl rfl) (q1 rfl (Db f_168_1 rfl rfl (q := 1) rfl) (q1 rfl (lb 0 o_35 rfl rfl rfl rfl) (li rfl (cv b_185 rfl rfl rfl rfl (fun w' hs => (impl_sameInts w' u1 a.Times u4 b.Times (rA hs hu2) (rA hs hu5))) ?_)))))
  refine P2 rfl rfl (Dx (Ct (Rb rfl rfl ?_)))
  show ((decide (a.Times = b.Times)) : Bool) = _
  cases a; cases b; simp_all
 ·have pr9 : ¬ (a.Rule : ByteArray) = b.Rule := odF h9
  refine n1 rfl (n1 rfl (n1 rfl (n1 rfl (n1 rfl (P2 rfl rfl (Dx (Ct (Rb rfl rfl ?_))))))))
  cases a; cases b; simp_all
end Go.Sy.Ev3
