/-
  Contracts of functions of the program, walked (printed by a program of ours).
  Conditions: those that each theorem states.
-/
import Derived.Test.YtkbiaedfnpbpfaaGreatDoorEv2
set_option linter.unusedVariables false
set_option maxRecDepth 20000
namespace Go.Sy.Ev3
open Go Go.RowKit Go.Proofs Go.Sy
theorem mixed : Tryz.prog.follows .mixedOrders = true := by kernel_rfl
theorem s_58 : sliceTy Tryz.prog 58 = some (9, 1, 16) := by kernel_rfl
theorem o_9 : oneTy Tryz.prog 9 = true := by kernel_rfl
theorem s_35 : sliceTy Tryz.prog 35 = some (3, 1, 8) := by kernel_rfl
theorem o_3 : oneTy Tryz.prog 3 = true := by kernel_rfl
theorem f_70_0 : fieldOff Tryz.prog 70 0 = some 0 := by kernel_rfl
theorem f_70_1 : fieldOff Tryz.prog 70 1 = some 1 := by kernel_rfl
theorem o_58 : oneTy Tryz.prog 58 = true := by kernel_rfl
theorem b_186 : hasBody Tryz.prog 186 = true := by kernel_rfl
theorem b_181 : hasBody Tryz.prog 181 = true := by kernel_rfl
theorem f_168_0 : fieldOff Tryz.prog 168 0 = some 0 := by kernel_rfl
theorem f_168_1 : fieldOff Tryz.prog 168 1 = some 1 := by kernel_rfl
theorem o_35 : oneTy Tryz.prog 35 = true := by kernel_rfl
theorem b_185 : hasBody Tryz.prog 185 = true := by kernel_rfl
open Go.Sy.Bel1 Go.Sy.Ev1 Go.Sy.Ev2
theorem impl_sameTexts {w : World} {v_a : Value} {a : (List ByteArray)} {v_b : Value} {b : (List ByteArray)} (h_a : Gd.rd w [v_a] a) (h_b : Gd.rd w [v_b] b) : Calls Tryz.prog 186 [v_a, v_b].toArray w (Val w (.bool (decide (a = b)))) := by
 have hm1 := rd_max h_a
 have hm2 := rd_max h_b
 refine enter 26 Tryz.func186 Y Y Y (Sr (Pe Y (Cq (Sr (p1 Y (q1 Y (Dl s_58 Y Y (rd_sl h_a)) (p1 Y (q1 Y (Dl s_58 Y Y (rd_sl h_b)) (Pe Y (Ci _ Y (fun h3 => ?_) (fun h3 => ?_)))))))))))
 ·have pr3 := bne_iff_ne.1 h3
  refine Sr (Pe Y (Ct (Xr (Rb Y Y ?_))))
  simp; intro e; subst e; simp_all
 ·have pr3 := eq_of_bne_f h3
  refine Sk (Cq (Sr (p1 Y (q1 Y (Dl s_58 Y Y (rd_sl h_a)) (Pe Y (Cb (Cl (fun m_ ac w' => ∃ (k : Nat), (k ≤ a.length) ∧ (∀ i, i < k → a[i]? = b[i]?) ∧ m_ = a.length - k ∧ Fits ac 26 [(0, v_a), (1, v_b), (12, (nv a.length)), (13, (nv k))] ∧ St w ([]) w') ?_ ?_)))))))
  ·refine fun ac w' hf hs => ⟨_, 0, ?_, ?_, Y, hf.wk Y, hs⟩
   ·first | assumption | omega | simp
   ·intro i hi; omega
  ·rintro m_ ac w' ⟨k, hk, hi, rfl, hf, hs⟩
   refine D.use ?_ hf hs
   clear hf hs ac w'
   refine Sr (Pe Y (Cq (Ci _ Y (fun h4 => ?_) (fun h4 => ?_))))
   ·have pr4 := odT h4
    refine Sk (Cq (Cb (Sr (P2 Y Y (Dx (Cq (C_draw mixed [] (by kernel_rfl) (Tk 0 Y (by kernel_rfl) Y (rp Y) (Tk 1 Y (by kernel_rfl) Y (rp Y) ?_)))))))))
    obtain ⟨x5, hx6⟩ := sL (l := a) (i := k) (by omega)
    obtain ⟨es7, at8, hr9⟩ := rd_elem (n := 1) rfl h_a hx6
    obtain rfl : es7 = [.string x5] := hr9
    refine Tk 2 Y (by kernel_rfl) Y (D_ix (l := a) (j := k) s_58 Y Y Y (fun w' hs => (rA hs h_a)) Y (lS hx6)) (Tk 3 Y (by kernel_rfl) Y (lr0 o_9 Y Y at8 Y) (Tk 4 Y (by kernel_rfl) Y (rp Y) (Tk 5 Y (by kernel_rfl) Y (rp Y) ?_)))
    obtain ⟨x10, hx11⟩ := sL (l := b) (i := k) (by omega)
    obtain ⟨es12, at13, hr14⟩ := rd_elem (n := 1) rfl h_b hx11
    obtain rfl : es12 = [.string x10] := hr14
    refine Tk 6 Y (by kernel_rfl) Y (D_ix (l := b) (j := k) s_58 Y Y Y (fun w' hs => (rA hs h_b)) Y (lS hx11)) (Tk 7 Y (by kernel_rfl) Y (lr0 o_9 Y Y at13 Y) (Tk 8 Y (by kernel_rfl) Y (D_neS Y Y Y) (tE (by kernel_rfl) (Xt (Ci _ Y (fun h15 => ?_) (fun h15 => ?_))))))
    ·have pr15 := odF (not_t h15)
     refine Sr (Pe Y (Ct (Xq (Xr (Xr (Xq (Xr (Rb Y Y ?_))))))))
     simp; intro e; subst e; simp_all
    ·have pr15 := odT (not_f h15)
     refine Ck (Xb (Xt (Cr (q1 Y (D_add Y Y Y (r := ((k + 1 : Nat) : Int)) (by omega) (by omega)) (Pe Y (fun ac w' hf hs => ⟨_, ?_, k + 1, ?_, ?_, Y, hf.wk Y, hs⟩))))))
     ·omega
     ·first | assumption | omega | simp
     ·refine idx_step hi (by assumption) (by assumption) ?_; first | (simp_all; done) | (apply Fact.mk_eq <;> simp_all)
   ·have pr4 := odF h4
    refine Cx (Xx (Xx (Xe (Xt (Sr (Pe Y (Ct (Rb Y Y ?_))))))))
    simp; exact eq_of_idx (by omega) (fun i h => hi i (by omega))
theorem impl_sameInts {w : World} {v_a : Value} {a : (List Int)} {v_b : Value} {b : (List Int)} (h_a : Gd.rd w [v_a] a) (h_b : Gd.rd w [v_b] b) : Calls Tryz.prog 185 [v_a, v_b].toArray w (Val w (.bool (decide (a = b)))) := by
 have hm1 := rd_max h_a
 have hm2 := rd_max h_b
 refine enter 26 Tryz.func185 Y Y Y (Sr (Pe Y (Cq (Sr (p1 Y (q1 Y (Dl s_35 Y Y (rd_sl h_a)) (p1 Y (q1 Y (Dl s_35 Y Y (rd_sl h_b)) (Pe Y (Ci _ Y (fun h3 => ?_) (fun h3 => ?_)))))))))))
 ·have pr3 := bne_iff_ne.1 h3
  refine Sr (Pe Y (Ct (Xr (Rb Y Y ?_))))
  simp; intro e; subst e; simp_all
 ·have pr3 := eq_of_bne_f h3
  refine Sk (Cq (Sr (p1 Y (q1 Y (Dl s_35 Y Y (rd_sl h_a)) (Pe Y (Cb (Cl (fun m_ ac w' => ∃ (k : Nat), (k ≤ a.length) ∧ (∀ i, i < k → a[i]? = b[i]?) ∧ m_ = a.length - k ∧ Fits ac 26 [(0, v_a), (1, v_b), (12, (nv a.length)), (13, (nv k))] ∧ St w ([]) w') ?_ ?_)))))))
  ·refine fun ac w' hf hs => ⟨_, 0, ?_, ?_, Y, hf.wk Y, hs⟩
   ·first | assumption | omega | simp
   ·intro i hi; omega
  ·rintro m_ ac w' ⟨k, hk, hi, rfl, hf, hs⟩
   refine D.use ?_ hf hs
   clear hf hs ac w'
   refine Sr (Pe Y (Cq (Ci _ Y (fun h4 => ?_) (fun h4 => ?_))))
   ·have pr4 := odT h4
    refine Sk (Cq (Cb (Sr (P2 Y Y (Dx (Cq (C_draw mixed [] (by kernel_rfl) (Tk 0 Y (by kernel_rfl) Y (rp Y) (Tk 1 Y (by kernel_rfl) Y (rp Y) ?_)))))))))
    obtain ⟨x5, hx6⟩ := sL (l := a) (i := k) (by omega)
    obtain ⟨es7, at8, hr9⟩ := rd_elem (n := 1) rfl h_a hx6
    obtain rfl : es7 = [.int .i64 x5] := hr9
    refine Tk 2 Y (by kernel_rfl) Y (D_ix (l := a) (j := k) s_35 Y Y Y (fun w' hs => (rA hs h_a)) Y (lS hx6)) (Tk 3 Y (by kernel_rfl) Y (lr0 o_3 Y Y at8 Y) (Tk 4 Y (by kernel_rfl) Y (rp Y) (Tk 5 Y (by kernel_rfl) Y (rp Y) ?_)))
    obtain ⟨x10, hx11⟩ := sL (l := b) (i := k) (by omega)
    obtain ⟨es12, at13, hr14⟩ := rd_elem (n := 1) rfl h_b hx11
    obtain rfl : es12 = [.int .i64 x10] := hr14
    refine Tk 6 Y (by kernel_rfl) Y (D_ix (l := b) (j := k) s_35 Y Y Y (fun w' hs => (rA hs h_b)) Y (lS hx11)) (Tk 7 Y (by kernel_rfl) Y (lr0 o_3 Y Y at13 Y) (Tk 8 Y (by kernel_rfl) Y (rp Y) (tE (by kernel_rfl) (Xt (Ci _ Y (fun h15 => ?_) (fun h15 => ?_))))))
    ·have pr15 := bne_iff_ne.1 h15
     refine Sr (Pe Y (Ct (Xq (Xr (Xr (Xq (Xr (Rb Y Y ?_))))))))
     simp; intro e; subst e; simp_all
    ·have pr15 := eq_of_bne_f h15
     refine Ck (Xb (Xt (Cr (q1 Y (D_add Y Y Y (r := ((k + 1 : Nat) : Int)) (by omega) (by omega)) (Pe Y (fun ac w' hf hs => ⟨_, ?_, k + 1, ?_, ?_, Y, hf.wk Y, hs⟩))))))
     ·omega
     ·first | assumption | omega | simp
     ·refine idx_step hi (by assumption) (by assumption) ?_; first | (simp_all; done) | (apply Fact.mk_eq <;> simp_all)
   ·have pr4 := odF h4
    refine Cx (Xx (Xx (Xe (Xt (Sr (Pe Y (Ct (Rb Y Y ?_))))))))
    simp; exact eq_of_idx (by omega) (fun i h => hi i (by omega))
theorem spec_l1SameTexts {w : World} {v_a : Value} {a : (List ByteArray)} {v_b : Value} {b : (List ByteArray)} (h_a : Gd.rd w [v_a] a) (h_b : Gd.rd w [v_b] b) : Calls Tryz.prog 181 [v_a, v_b].toArray w (Val w (.bool (decide (a = b)))) := by
 have hm1 := rd_max h_a
 have hm2 := rd_max h_b
 refine enter 26 Tryz.func181 Y Y Y (Sr (Pe Y (Cq (Sr (p1 Y (q1 Y (Dl s_58 Y Y (rd_sl h_a)) (p1 Y (q1 Y (Dl s_58 Y Y (rd_sl h_b)) (Pe Y (Ci _ Y (fun h3 => ?_) (fun h3 => ?_)))))))))))
 ·have pr3 := bne_iff_ne.1 h3
  refine Sr (Pe Y (Ct (Xr (Rb Y Y ?_))))
  simp; intro e; subst e; simp_all
 ·have pr3 := eq_of_bne_f h3
  refine Sk (Cq (Sr (Pe Y (Cb (Cl (fun m_ ac w' => ∃ (k : Nat), (k ≤ a.length) ∧ (∀ i, i < k → a[i]? = b[i]?) ∧ m_ = a.length - k ∧ Fits ac 26 [(0, v_a), (1, v_b), (5, (nv k))] ∧ St w ([]) w') ?_ ?_)))))
  ·refine fun ac w' hf hs => ⟨_, 0, ?_, ?_, Y, hf.wk Y, hs⟩
   ·first | assumption | omega | simp
   ·intro i hi; omega
  ·rintro m_ ac w' ⟨k, hk, hi, rfl, hf, hs⟩
   refine D.use ?_ hf hs
   clear hf hs ac w'
   refine Cq (Sr (P2 Y Y (q1 Y (Dl s_58 Y Y (rd_sl h_a)) (Pe Y (Ci _ Y (fun h4 => ?_) (fun h4 => ?_))))))
   ·have pr4 := odT h4
    refine Sk (Cq (Cb (Cq (C_draw mixed [] (by kernel_rfl) (Tk 0 Y (by kernel_rfl) Y (rp Y) (Tk 1 Y (by kernel_rfl) Y (rp Y) ?_))))))
    obtain ⟨x5, hx6⟩ := sL (l := a) (i := k) (by omega)
    obtain ⟨es7, at8, hr9⟩ := rd_elem (n := 1) rfl h_a hx6
    obtain rfl : es7 = [.string x5] := hr9
    refine Tk 2 Y (by kernel_rfl) Y (D_ix (l := a) (j := k) s_58 Y Y Y (fun w' hs => (rA hs h_a)) Y (lS hx6)) (Tk 3 Y (by kernel_rfl) Y (lr0 o_9 Y Y at8 Y) (Tk 4 Y (by kernel_rfl) Y (rp Y) (Tk 5 Y (by kernel_rfl) Y (rp Y) ?_)))
    obtain ⟨x10, hx11⟩ := sL (l := b) (i := k) (by omega)
    obtain ⟨es12, at13, hr14⟩ := rd_elem (n := 1) rfl h_b hx11
    obtain rfl : es12 = [.string x10] := hr14
    refine Tk 6 Y (by kernel_rfl) Y (D_ix (l := b) (j := k) s_58 Y Y Y (fun w' hs => (rA hs h_b)) Y (lS hx11)) (Tk 7 Y (by kernel_rfl) Y (lr0 o_9 Y Y at13 Y) (Tk 8 Y (by kernel_rfl) Y (D_neS Y Y Y) (tE (by kernel_rfl) (Xt (Ci _ Y (fun h15 => ?_) (fun h15 => ?_))))))
    ·have pr15 := odF (not_t h15)
     refine Sr (Pe Y (Ct (Xq (Xr (Xr (Xq (Xr (Rb Y Y ?_))))))))
     simp; intro e; subst e; simp_all
    ·have pr15 := odT (not_f h15)
     refine Ck (Xb (Xt (Cr (p1 Y (q1 Y (D_add Y Y Y (r := ((k + 1 : Nat) : Int)) (by omega) (by omega)) (Pe Y (fun ac w' hf hs => ⟨_, ?_, k + 1, ?_, ?_, Y, hf.wk Y, hs⟩)))))))
     ·omega
     ·first | assumption | omega | simp
     ·refine idx_step hi (by assumption) (by assumption) ?_; first | (simp_all; done) | (apply Fact.mk_eq <;> simp_all)
   ·have pr4 := odF h4
    refine Cx (Xx (Xx (Xe (Xt (Sr (Pe Y (Ct (Rb Y Y ?_))))))))
    simp; exact eq_of_idx (by omega) (fun i h => hi i (by omega))
theorem spec_l9SameInts {w : World} {v_a : Value} {a : (List Int)} {v_b : Value} {b : (List Int)} (h_a : Gd.rd w [v_a] a) (h_b : Gd.rd w [v_b] b) : Calls Tryz.prog 180 [v_a, v_b].toArray w (Val w (.bool (decide (a = b)))) := by
 have hm1 := rd_max h_a
 have hm2 := rd_max h_b
 refine enter 26 Tryz.func180 Y Y Y (Sr (Pe Y (Cq (Sr (p1 Y (q1 Y (Dl s_35 Y Y (rd_sl h_a)) (p1 Y (q1 Y (Dl s_35 Y Y (rd_sl h_b)) (Pe Y (Ci _ Y (fun h3 => ?_) (fun h3 => ?_)))))))))))
 ·have pr3 := bne_iff_ne.1 h3
  refine Sr (Pe Y (Ct (Xr (Rb Y Y ?_))))
  simp; intro e; subst e; simp_all
 ·have pr3 := eq_of_bne_f h3
  refine Sk (Cq (Sr (Pe Y (Cb (Cl (fun m_ ac w' => ∃ (k : Nat), (k ≤ a.length) ∧ (∀ i, i < k → a[i]? = b[i]?) ∧ m_ = a.length - k ∧ Fits ac 26 [(0, v_a), (1, v_b), (5, (nv k))] ∧ St w ([]) w') ?_ ?_)))))
  ·refine fun ac w' hf hs => ⟨_, 0, ?_, ?_, Y, hf.wk Y, hs⟩
   ·first | assumption | omega | simp
   ·intro i hi; omega
  ·rintro m_ ac w' ⟨k, hk, hi, rfl, hf, hs⟩
   refine D.use ?_ hf hs
   clear hf hs ac w'
   refine Cq (Sr (P2 Y Y (q1 Y (Dl s_35 Y Y (rd_sl h_a)) (Pe Y (Ci _ Y (fun h4 => ?_) (fun h4 => ?_))))))
   ·have pr4 := odT h4
    refine Sk (Cq (Cb (Cq (C_draw mixed [] (by kernel_rfl) (Tk 0 Y (by kernel_rfl) Y (rp Y) (Tk 1 Y (by kernel_rfl) Y (rp Y) ?_))))))
    obtain ⟨x5, hx6⟩ := sL (l := a) (i := k) (by omega)
    obtain ⟨es7, at8, hr9⟩ := rd_elem (n := 1) rfl h_a hx6
    obtain rfl : es7 = [.int .i64 x5] := hr9
    refine Tk 2 Y (by kernel_rfl) Y (D_ix (l := a) (j := k) s_35 Y Y Y (fun w' hs => (rA hs h_a)) Y (lS hx6)) (Tk 3 Y (by kernel_rfl) Y (lr0 o_3 Y Y at8 Y) (Tk 4 Y (by kernel_rfl) Y (rp Y) (Tk 5 Y (by kernel_rfl) Y (rp Y) ?_)))
    obtain ⟨x10, hx11⟩ := sL (l := b) (i := k) (by omega)
    obtain ⟨es12, at13, hr14⟩ := rd_elem (n := 1) rfl h_b hx11
    obtain rfl : es12 = [.int .i64 x10] := hr14
    refine Tk 6 Y (by kernel_rfl) Y (D_ix (l := b) (j := k) s_35 Y Y Y (fun w' hs => (rA hs h_b)) Y (lS hx11)) (Tk 7 Y (by kernel_rfl) Y (lr0 o_3 Y Y at13 Y) (Tk 8 Y (by kernel_rfl) Y (rp Y) (tE (by kernel_rfl) (Xt (Ci _ Y (fun h15 => ?_) (fun h15 => ?_))))))
    ·have pr15 := bne_iff_ne.1 h15
     refine Sr (Pe Y (Ct (Xq (Xr (Xr (Xq (Xr (Rb Y Y ?_))))))))
     simp; intro e; subst e; simp_all
    ·have pr15 := eq_of_bne_f h15
     refine Ck (Xb (Xt (Cr (p1 Y (q1 Y (D_add Y Y Y (r := ((k + 1 : Nat) : Int)) (by omega) (by omega)) (Pe Y (fun ac w' hf hs => ⟨_, ?_, k + 1, ?_, ?_, Y, hf.wk Y, hs⟩)))))))
     ·omega
     ·first | assumption | omega | simp
     ·refine idx_step hi (by assumption) (by assumption) ?_; first | (simp_all; done) | (apply Fact.mk_eq <;> simp_all)
   ·have pr4 := odF h4
    refine Cx (Xx (Xx (Xe (Xt (Sr (Pe Y (Ct (Rb Y Y ?_))))))))
    simp; exact eq_of_idx (by omega) (fun i h => hi i (by omega))
theorem impl_sameFact {w : World} {c_a : List Value} {a : Fact} {c_b : List Value} {b : Fact} (h_a : Gd.rd w c_a a) (h_b : Gd.rd w c_b b) : Calls Tryz.prog 138 [(.agg c_a.toArray), (.agg c_b.toArray)].toArray w (Val w (.bool (decide (a = b)))) := by
 obtain ⟨u1, rfl, hu2⟩ := open_Fact h_a
 have hm3 := rd_max hu2
 obtain ⟨u4, rfl, hu5⟩ := open_Fact h_b
 have hm6 := rd_max hu5
 refine enter 17 Tryz.func138 Y Y Y (Sr (li Y (D_box Y Y Y Y Y fun g7 => ?_)))
 refine li Y (D_box Y Y Y Y Y fun g8 => ?_)
 refine Pe Y (Dh ([bx g8 [(.string b.Rel), u4], bx g7 [(.string a.Rel), u1]]) Y (Sr (q1 Y (Db f_70_0 Y Y (q := 0) Y) (q1 Y (lb 1 o_9 Y Y Y Y) (q1 Y (Db f_70_0 Y Y (q := 0) Y) (q1 Y (lb 0 o_9 Y Y Y Y) (q1 Y (D_eqS Y Y Y) (p1 Y (gs 10 Y Y (fun h9 => ?_) (fun h9 => ?_))))))))))
 ·have pr9 := odT h9
  refine q1 Y (Db f_70_1 Y Y (q := 1) Y) (q1 Y (lb 1 o_58 Y Y Y Y) (q1 Y (Db f_70_1 Y Y (q := 1) Y) (q1 Y (lb 0 o_58 Y Y Y Y) (li Y (cv b_186 Y Y Y Y (fun w' hs => (impl_sameTexts (rA hs hu2) (rA hs hu5))) ?_)))))
  refine P2 Y Y (Dx (Ct (Rb Y Y ?_)))
  show ((decide (a.Args = b.Args)) : Bool) = _
  cases a; cases b; simp_all
 ·have pr9 := odF h9
  refine n1 Y (n1 Y (n1 Y (n1 Y (n1 Y (P2 Y Y (Dx (Ct (Rb Y Y ?_))))))))
  cases a; cases b; simp_all
theorem spec_l2Same {w : World} {c_a : List Value} {a : Fact} {c_b : List Value} {b : Fact} (h_a : Gd.rd w c_a a) (h_b : Gd.rd w c_b b) : Calls Tryz.prog 128 [(.agg c_a.toArray), (.agg c_b.toArray)].toArray w (Val w (.bool (decide (a = b)))) := by
 obtain ⟨u1, rfl, hu2⟩ := open_Fact h_a
 have hm3 := rd_max hu2
 obtain ⟨u4, rfl, hu5⟩ := open_Fact h_b
 have hm6 := rd_max hu5
 refine enter 17 Tryz.func128 Y Y Y (Sr (li Y (D_box Y Y Y Y Y fun g7 => ?_)))
 refine li Y (D_box Y Y Y Y Y fun g8 => ?_)
 refine Pe Y (Dh ([bx g8 [(.string b.Rel), u4], bx g7 [(.string a.Rel), u1]]) Y (Sr (q1 Y (Db f_70_0 Y Y (q := 0) Y) (q1 Y (lb 1 o_9 Y Y Y Y) (q1 Y (Db f_70_0 Y Y (q := 0) Y) (q1 Y (lb 0 o_9 Y Y Y Y) (q1 Y (D_eqS Y Y Y) (p1 Y (gs 10 Y Y (fun h9 => ?_) (fun h9 => ?_))))))))))
 ·have pr9 := odT h9
  refine q1 Y (Db f_70_1 Y Y (q := 1) Y) (q1 Y (lb 1 o_58 Y Y Y Y) (q1 Y (Db f_70_1 Y Y (q := 1) Y) (q1 Y (lb 0 o_58 Y Y Y Y) (li Y (cv b_181 Y Y Y Y (fun w' hs => (spec_l1SameTexts (rA hs hu2) (rA hs hu5))) ?_)))))
  refine P2 Y Y (Dx (Ct (Rb Y Y ?_)))
  show ((decide (a.Args = b.Args)) : Bool) = _
  cases a; cases b; simp_all
 ·have pr9 := odF h9
  refine n1 Y (n1 Y (n1 Y (n1 Y (n1 Y (P2 Y Y (Dx (Ct (Rb Y Y ?_))))))))
  cases a; cases b; simp_all
theorem impl_sameFiring {w : World} {c_a : List Value} {a : Firing} {c_b : List Value} {b : Firing} (h_a : Gd.rd w c_a a) (h_b : Gd.rd w c_b b) : Calls Tryz.prog 136 [(.agg c_a.toArray), (.agg c_b.toArray)].toArray w (Val w (.bool (decide (a = b)))) := by
 obtain ⟨u1, rfl, hu2⟩ := open_Firing h_a
 have hm3 := rd_max hu2
 obtain ⟨u4, rfl, hu5⟩ := open_Firing h_b
 have hm6 := rd_max hu5
 refine enter 17 Tryz.func136 Y Y Y (Sr (li Y (D_box Y Y Y Y Y fun g7 => ?_)))
 refine li Y (D_box Y Y Y Y Y fun g8 => ?_)
 refine Pe Y (Dh ([bx g8 [(.string b.Rule), u4], bx g7 [(.string a.Rule), u1]]) Y (Sr (q1 Y (Db f_168_0 Y Y (q := 0) Y) (q1 Y (lb 1 o_9 Y Y Y Y) (q1 Y (Db f_168_0 Y Y (q := 0) Y) (q1 Y (lb 0 o_9 Y Y Y Y) (q1 Y (D_eqS Y Y Y) (p1 Y (gs 10 Y Y (fun h9 => ?_) (fun h9 => ?_))))))))))
 ·have pr9 := odT h9
  refine q1 Y (Db f_168_1 Y Y (q := 1) Y) (q1 Y (lb 1 o_35 Y Y Y Y) (q1 Y (Db f_168_1 Y Y (q := 1) Y) (q1 Y (lb 0 o_35 Y Y Y Y) (li Y (cv b_185 Y Y Y Y (fun w' hs => (impl_sameInts (rA hs hu2) (rA hs hu5))) ?_)))))
  refine P2 Y Y (Dx (Ct (Rb Y Y ?_)))
  show ((decide (a.Times = b.Times)) : Bool) = _
  cases a; cases b; simp_all
 ·have pr9 := odF h9
  refine n1 Y (n1 Y (n1 Y (n1 Y (n1 Y (P2 Y Y (Dx (Ct (Rb Y Y ?_))))))))
  cases a; cases b; simp_all
end Go.Sy.Ev3
