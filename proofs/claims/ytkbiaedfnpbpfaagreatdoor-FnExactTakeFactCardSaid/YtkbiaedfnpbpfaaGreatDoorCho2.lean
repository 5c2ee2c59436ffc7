/-
  Contracts of functions of the program, walked (printed by a program of ours).
  Conditions: those that each theorem states.
-/
import Derived.Test.YtkbiaedfnpbpfaaGreatDoorCho1
set_option linter.unusedVariables false
set_option maxRecDepth 20000
namespace Go.Sy.Cho2
open Go Go.RowKit Go.Proofs Go.Sy
theorem mixed : Tryz.prog.follows .mixedOrders = true := by kernel_rfl
theorem s_35 : sliceTy Tryz.prog 35 = some (3, 1, 8) := by kernel_rfl
theorem y_3 : zeroTy Tryz.prog 3 = some (.int .i64 0) := by kernel_rfl
theorem s_42 : sliceTy Tryz.prog 42 = some (100, 3, 48) := by kernel_rfl
theorem f_100_0 : fieldOff Tryz.prog 100 0 = some 0 := by kernel_rfl
theorem a_70 : aggTy Tryz.prog 70 = some 2 := by kernel_rfl
theorem b_128 : hasBody Tryz.prog 128 = true := by kernel_rfl
theorem f_100_1 : fieldOff Tryz.prog 100 1 = some 2 := by kernel_rfl
theorem o_3 : oneTy Tryz.prog 3 = true := by kernel_rfl
theorem a_100 : aggTy Tryz.prog 100 = some 3 := by kernel_rfl
theorem y_100 : zeroTy Tryz.prog 100 = some (.agg #[(.string ⟨#[]⟩), (.slice none 0 0), (.int .i64 0)]) := by kernel_rfl
theorem z_100 : sizeTy Tryz.prog 100 = some 3 := by kernel_rfl
theorem b_138 : hasBody Tryz.prog 138 = true := by kernel_rfl
open Go.Sy.Bel1 Go.Sy.Bel3 Go.Sy.Ev1 Go.Sy.Ev2 Go.Sy.Ev3 Go.Sy.Fmt1 Go.Sy.Eng1 Go.Sy.Eng2 Go.Sy.Eng3 Go.Sy.Eng4 Go.Sy.Eng5 Go.Sy.Num1 Go.Sy.Num2 Go.Sy.Cho1
theorem impl_copyInts (w : World) (v_l : Value) (l : (List Int)) (h_l : Gd.rd w [v_l] l) (hl : l.length ≤ 1048576) : Calls Tryz.prog 133 [v_l].toArray w (Res w (l : List Int)) := by
 have hm1 := rd_max h_l
 refine enter 5 Tryz.func133 rfl rfl rfl (Sr (Pe rfl (Sr (p1 rfl (D_nil (α := Int) (li rfl (D_apl (α := Int) (ys := l) s_35 y_3 rfl rfl rfl rfl rfl rfl (fun w' hs => (rA hs h_l)) (by first | omega | (simp; omega)) (by first | omega | (simp; omega)) fun v2 => ?_)))))))
 refine Pe rfl (Ct (R_1 rfl rfl fun w' hs => res_of (k := 0) hs rfl ?_))
 show ([]) ++ l = l
 simp
theorem spec_l1Ints (w : World) (v_l : Value) (l : (List Int)) (h_l : Gd.rd w [v_l] l) (hl : l.length ≤ 1048576) : Calls Tryz.prog 124 [v_l].toArray w (Res w (l : List Int)) := by
 have hm1 := rd_max h_l
 refine enter 6 Tryz.func124 rfl rfl rfl (Sr (Pe rfl (Sr (li rfl (D_bs0 (α := Int) s_35 rfl rfl rfl fun v2 => ?_)))))
 refine p1 rfl (li rfl (D_apl (α := Int) (ys := l) s_35 y_3 rfl rfl rfl rfl rfl rfl (fun w' hs => (rA hs h_l)) (by first | omega | (simp; omega)) (by first | omega | (simp; omega)) fun v3 => ?_))
 refine Pe rfl (Ct (R_1 rfl rfl fun w' hs => res_of (k := 0) hs rfl ?_))
 show ([]) ++ l = l
 simp
theorem spec_TimeOf (w : World) (v_l : Value) (l : (List Stamp)) (c_f : List Value) (f : Fact) (h_l : Gd.rd w [v_l] l) (h_f : Gd.rd w c_f f) : Calls Tryz.prog 73 [v_l, (.agg c_f.toArray)].toArray w (Val w (.int .i64 (timeOf l f))) := by
 have hm1 := rd_max h_l
 obtain ⟨u2, rfl, hu3⟩ := open_Fact h_f
 have hm4 := rd_max hu3
 refine enter 24 Tryz.func73 rfl rfl rfl (Sr (li rfl (D_box rfl rfl rfl rfl rfl fun g5 => ?_)))
 refine Pe rfl (Dh ([bx g5 [(.string f.Rel), u2]]) rfl (Cq (Sr (Pe rfl (Cb (Cl (fun m_ ac w' => ∃ (k : Nat), (k ≤ l.length) ∧ (∀ i, i < k → ∀ y, l[i]? = some y → y.Fact ≠ f) ∧ m_ = l.length - k ∧ Fits ac 24 [(0, v_l), (3, (.pointer (some ⟨g5, 0, none⟩))), (5, (.int .i64 ((k : Nat) : Int)))] ∧ St w ([bx g5 [(.string f.Rel), u2]]) w') ?_ ?_))))))
 ·refine fun ac w' hf hs => ⟨_, 0, ?_, ?_, rfl, hf.weak ⟨rfl, rfl, rfl, trivial⟩, hs⟩
  ·first | assumption | omega | simp
  ·intro i hi; omega
 ·rintro m_ ac w' ⟨k, hk, hi, rfl, hf, hs⟩
  refine D.use ?_ hf hs
  clear hf hs ac w'
  refine Cq (Sr (P2 rfl rfl (q1 rfl (Dl s_42 rfl rfl (rd_sl h_l)) (Pe rfl (Ci _ rfl (fun h6 => ?_) (fun h6 => ?_))))))
  ·have pr6 : (((k : Nat) : Int) : Int) < ((l.length : Nat) : Int) := odT h6
   refine Sk (Cq (Cb (Cq (C_draw mixed [6] (by kernel_rfl) (Tk 0 rfl (by kernel_rfl) rfl (rp rfl) (Tk 1 rfl (by kernel_rfl) rfl (rp rfl) ?_))))))
   obtain ⟨s0, s0h⟩ := sL (l := l) (i := k) (by omega)
   obtain ⟨es7, at8, hr9⟩ := rd_elem (n := 3) rfl h_l s0h
   obtain ⟨u10, rfl, hu11⟩ := open_Stamp hr9
   have hm12 := rd_max hu11
   have hb13 := sub_Stamp_Fact hr9
   refine Tk 2 rfl (by kernel_rfl) rfl (D_ix (l := l) (j := k) s_42 rfl rfl rfl (fun w' hs => (rA hs h_l)) rfl (lS s0h)) (Tk 3 rfl (by kernel_rfl) rfl (D_fa f_100_0 rfl rfl) (Tk 4 rfl (by kernel_rfl) rfl (lra a_70 rfl rfl (at_sub (f := 0) (n := 2) at8 rfl)) (Tk 5 rfl (by kernel_rfl) rfl (lbw 0 a_70 rfl rfl rfl) (ty 6 rfl (by kernel_rfl) rfl (cv b_128 rfl rfl rfl rfl (fun w' hs => (spec_l2Same w' [(.string s0.Fact.Rel), u10] s0.Fact [(.string f.Rel), u2] f (rA hs hb13) (rA hs h_f))) ?_)))))
   refine tZ rfl (tE (by kernel_rfl) (Xt (Ci _ rfl (fun h14 => ?_) (fun h14 => ?_))))
   ·refine Sr (P2 rfl rfl (q1 rfl (D_ix (l := l) (j := k) s_42 rfl rfl rfl (fun w' hs => (rA hs h_l)) rfl (lS s0h)) (q1 rfl (D_fa f_100_1 rfl rfl) (q1 rfl (lr o_3 rfl rfl at8 rfl) (Pe rfl (Ct (Xq (Xr (Xr (Xq (Xr (Ri rfl rfl ?_))))))))))))
    show (s0.Time : Int) = _
    exact timeOf_t s0h (by simp_all) hi
   ·refine Ck (Xb (Xt (Cr (p1 rfl (q1 rfl (D_add rfl rfl rfl (r := ((k + 1 : Nat) : Int)) (by omega) (by omega)) (Pe rfl (fun ac w' hf hs => ⟨_, ?_, k + 1, ?_, ?_, rfl, hf.weak ⟨rfl, rfl, rfl, trivial⟩, hs⟩)))))))
    ·omega
    ·first | assumption | omega | simp
    ·refine forall_step hi ?_; intro y hy; obtain rfl : y = s0 := Option.some.inj (hy.symm.trans s0h); simp_all
  ·have pr6 : ¬ (((k : Nat) : Int) : Int) < ((l.length : Nat) : Int) := odF h6
   refine Cx (Xx (Xx (Xe (Xt (Sr (Pe rfl (Ct (Ri rfl rfl ?_))))))))
   show (0 : Int) = _
   exact timeOf_n (fun i h => hi i (by omega))
theorem impl_hasStamp (w : World) (v_l : Value) (l : (List Stamp)) (c_f : List Value) (f : Fact) (h_l : Gd.rd w [v_l] l) (h_f : Gd.rd w c_f f) : Calls Tryz.prog 80 [v_l, (.agg c_f.toArray)].toArray w (Val w (.bool (hasSt l f))) := by
 have hm1 := rd_max h_l
 obtain ⟨u2, rfl, hu3⟩ := open_Fact h_f
 have hm4 := rd_max hu3
 refine enter 18 Tryz.func80 rfl rfl rfl (Sr (li rfl (D_box rfl rfl rfl rfl rfl fun g5 => ?_)))
 refine Pe rfl (Dh ([bx g5 [(.string f.Rel), u2]]) rfl (Cq (Sr (p1 rfl (q1 rfl (Dl s_42 rfl rfl (rd_sl h_l)) (Pe rfl (Cb (Cl (fun m_ ac w' => ∃ (k : Nat), (k ≤ l.length) ∧ (∀ i, i < k → ∀ y, l[i]? = some y → y.Fact ≠ f) ∧ m_ = l.length - k ∧ Fits ac 18 [(3, (.pointer (some ⟨g5, 0, none⟩))), (7, v_l), (8, (.int .i64 ((l.length : Nat) : Int))), (9, (.int .i64 ((k : Nat) : Int)))] ∧ St w ([bx g5 [(.string f.Rel), u2]]) w') ?_ ?_))))))))
 ·refine fun ac w' hf hs => ⟨_, 0, ?_, ?_, rfl, hf.weak ⟨rfl, rfl, rfl, rfl, trivial⟩, hs⟩
  ·first | assumption | omega | simp
  ·intro i hi; omega
 ·rintro m_ ac w' ⟨k, hk, hi, rfl, hf, hs⟩
  refine D.use ?_ hf hs
  clear hf hs ac w'
  refine Sr (Pe rfl (Cq (Ci _ rfl (fun h6 => ?_) (fun h6 => ?_))))
  ·have pr6 : (((k : Nat) : Int) : Int) < ((l.length : Nat) : Int) := odT h6
   refine Sk (Cq (Cb (Sr ?_)))
   obtain ⟨s0, s0h⟩ := sL (l := l) (i := k) (by omega)
   obtain ⟨es7, at8, hr9⟩ := rd_elem (n := 3) rfl h_l s0h
   obtain ⟨u10, rfl, hu11⟩ := open_Stamp hr9
   have hm12 := rd_max hu11
   have hb13 := sub_Stamp_Fact hr9
   refine q1 rfl (D_ix (l := l) (j := k) s_42 rfl rfl rfl (fun w' hs => (rA hs h_l)) rfl (lS s0h)) (q1 rfl (lra a_100 rfl rfl at8) (li rfl (D_alloc y_100 rfl rfl rfl rfl fun g14 => ?_)))
   refine li rfl (D_stb (vs := [(.string s0.Fact.Rel), u10, (.int .i64 s0.Time)]) (cs' := [(.string s0.Fact.Rel), u10, (.int .i64 s0.Time)]) 0 z_100 rfl rfl rfl rfl rfl rfl (ocons rfl (ocons (one_rd hu11) (ocons rfl onil))) (by simp) rfl ?_)
   refine Dx (Dh ([bx g14 [(.string s0.Fact.Rel), u10, (.int .i64 s0.Time)], bx g5 [(.string f.Rel), u2]]) rfl (Sr (q1 rfl (Db f_100_0 rfl rfl (q := 0) rfl) (q1 rfl (lba (es := [(.string s0.Fact.Rel), u10]) 0 a_70 rfl rfl rfl rfl) (q1 rfl (lbw 1 a_70 rfl rfl rfl) (li rfl (cv b_138 rfl rfl rfl rfl (fun w' hs => (impl_sameFact w' [(.string s0.Fact.Rel), u10] s0.Fact [(.string f.Rel), u2] f (rA hs hb13) (rA hs h_f))) ?_)))))))
   refine Dx (Ci _ rfl (fun h15 => ?_) (fun h15 => ?_))
   ·refine Sr (Pe rfl (Ct (Xq (Xr (Xr (Xq (Xr (Rb rfl rfl ?_))))))))
    exact hasSt_t s0h (by simp_all) hi
   ·refine Ck (Xb (Xt (Cr (q1 rfl (D_add rfl rfl rfl (r := ((k + 1 : Nat) : Int)) (by omega) (by omega)) (Pe rfl (fun ac w' hf hs => ⟨_, ?_, k + 1, ?_, ?_, rfl, hf.weak ⟨rfl, rfl, rfl, rfl, trivial⟩, hs.pk [1] rfl rfl⟩))))))
    ·omega
    ·first | assumption | omega | simp
    ·refine forall_step hi ?_; intro y hy; obtain rfl : y = s0 := Option.some.inj (hy.symm.trans s0h); simp_all
  ·have pr6 : ¬ (((k : Nat) : Int) : Int) < ((l.length : Nat) : Int) := odF h6
   refine Cx (Xx (Xx (Xe (Xt (Sr (Pe rfl (Ct (Rb rfl rfl ?_))))))))
   exact hasSt_n (fun i h => hi i (by omega))
end Go.Sy.Cho2
