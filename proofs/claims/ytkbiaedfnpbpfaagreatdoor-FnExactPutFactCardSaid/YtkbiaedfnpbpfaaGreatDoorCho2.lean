/-
  Contracts of functions of the program, walked (printed by a program of ours).
  Conditions: those that each theorem states.
-/
import Derived.Test.YtkbiaedfnpbpfaaGreatDoorCho1
set_option linter.unusedVariables false
set_option maxRecDepth 20000
namespace Go.Sy.Cho2
open Go Go.RowKit Go.Proofs Go.Sy
theorem mixed : Tryz.prog.follows .mixedOrders = true := by kernel_rfl
theorem s_35 : sliceTy Tryz.prog 35 = some (3, 1, 8) := by kernel_rfl
theorem y_3 : zeroTy Tryz.prog 3 = some (.int .i64 0) := by kernel_rfl
theorem s_42 : sliceTy Tryz.prog 42 = some (100, 3, 48) := by kernel_rfl
theorem f_100_0 : fieldOff Tryz.prog 100 0 = some 0 := by kernel_rfl
theorem a_70 : aggTy Tryz.prog 70 = some 2 := by kernel_rfl
theorem b_128 : hasBody Tryz.prog 128 = true := by kernel_rfl
theorem f_100_1 : fieldOff Tryz.prog 100 1 = some 2 := by kernel_rfl
theorem o_3 : oneTy Tryz.prog 3 = true := by kernel_rfl
theorem a_100 : aggTy Tryz.prog 100 = some 3 := by kernel_rfl
theorem y_100 : zeroTy Tryz.prog 100 = some (.agg #[(.string ⟨#[]⟩), (.slice none 0 0), (.int .i64 0)]) := by kernel_rfl
theorem z_100 : sizeTy Tryz.prog 100 = some 3 := by kernel_rfl
theorem b_138 : hasBody Tryz.prog 138 = true := by kernel_rfl
open Go.Sy.Bel1 Go.Sy.Bel3 Go.Sy.Ev1 Go.Sy.Ev2 Go.Sy.Ev3 Go.Sy.Fmt1 Go.Sy.Eng1 Go.Sy.Eng2 Go.Sy.Eng3 Go.Sy.Eng4 Go.Sy.Eng5 Go.Sy.Num1 Go.Sy.Num2 Go.Sy.Cho1
theorem impl_copyInts {w : World} {v_l : Value} {l : (List Int)} (h_l : Gd.rd w [v_l] l) (hl : l.length ≤ 1048576) : Calls Tryz.prog 133 [v_l].toArray w (Res w (l : List Int)) := by
 have hm1 := rd_max h_l
 refine enter 5 Tryz.func133 Y Y Y (Sr (Pe Y (Sr (p1 Y (D_nil (α := Int) (li Y (D_apl (α := Int) (ys := l) s_35 y_3 Y Y Y Y Y Y (fun w' hs => (rA hs h_l)) (by first | omega | (simp; omega)) (by first | omega | (simp; omega)) fun v2 => ?_)))))))
 refine Pe Y (Ct (R_1 Y Y fun w' hs => res_of (k := 0) hs Y ?_))
 show ([]) ++ l = l
 simp
theorem spec_l1Ints {w : World} {v_l : Value} {l : (List Int)} (h_l : Gd.rd w [v_l] l) (hl : l.length ≤ 1048576) : Calls Tryz.prog 124 [v_l].toArray w (Res w (l : List Int)) := by
 have hm1 := rd_max h_l
 refine enter 6 Tryz.func124 Y Y Y (Sr (Pe Y (Sr (li Y (D_bs0 (α := Int) s_35 Y Y Y fun v2 => ?_)))))
 refine p1 Y (li Y (D_apl (α := Int) (ys := l) s_35 y_3 Y Y Y Y Y Y (fun w' hs => (rA hs h_l)) (by first | omega | (simp; omega)) (by first | omega | (simp; omega)) fun v3 => ?_))
 refine Pe Y (Ct (R_1 Y Y fun w' hs => res_of (k := 0) hs Y ?_))
 show ([]) ++ l = l
 simp
theorem spec_TimeOf {w : World} {v_l : Value} {l : (List Stamp)} {c_f : List Value} {f : Fact} (h_l : Gd.rd w [v_l] l) (h_f : Gd.rd w c_f f) : Calls Tryz.prog 73 [v_l, (.agg c_f.toArray)].toArray w (Val w (iv (timeOf l f))) := by
 have hm1 := rd_max h_l
 obtain ⟨u2, rfl, hu3⟩ := open_Fact h_f
 have hm4 := rd_max hu3
 refine enter 24 Tryz.func73 Y Y Y (Sr (li Y (D_box Y Y Y Y Y fun g5 => ?_)))
 refine Pe Y (Dh ([bx g5 [(.string f.Rel), u2]]) Y (Cq (Sr (Pe Y (Cb (Cl (fun m_ ac w' => ∃ (k : Nat), (k ≤ l.length) ∧ (∀ i, i < k → ∀ y, l[i]? = some y → y.Fact ≠ f) ∧ m_ = l.length - k ∧ Fits ac 24 [(0, v_l), (3, (pv g5)), (5, (nv k))] ∧ St w ([bx g5 [(.string f.Rel), u2]]) w') ?_ ?_))))))
 ·refine fun ac w' hf hs => ⟨_, 0, ?_, ?_, Y, hf.wk Y, hs⟩
  ·first | assumption | omega | simp
  ·intro i hi; omega
 ·rintro m_ ac w' ⟨k, hk, hi, rfl, hf, hs⟩
  refine D.use ?_ hf hs
  clear hf hs ac w'
  refine Cq (Sr (P2 Y Y (q1 Y (Dl s_42 Y Y (rd_sl h_l)) (Pe Y (Ci _ Y (fun h6 => ?_) (fun h6 => ?_))))))
  ·have pr6 := odT h6
   refine Sk (Cq (Cb (Cq (C_draw mixed [6] (by kernel_rfl) (Tk 0 Y (by kernel_rfl) Y (rp Y) (Tk 1 Y (by kernel_rfl) Y (rp Y) ?_))))))
   obtain ⟨s0, s0h⟩ := sL (l := l) (i := k) (by omega)
   obtain ⟨es7, at8, hr9⟩ := rd_elem (n := 3) rfl h_l s0h
   obtain ⟨u10, rfl, hu11⟩ := open_Stamp hr9
   have hm12 := rd_max hu11
   have hb13 := sub_Stamp_Fact hr9
   refine Tk 2 Y (by kernel_rfl) Y (D_ix (l := l) (j := k) s_42 Y Y Y (fun w' hs => (rA hs h_l)) Y (lS s0h)) (Tk 3 Y (by kernel_rfl) Y (D_fa f_100_0 Y Y) (Tk 4 Y (by kernel_rfl) Y (lra a_70 Y Y (at_sub (f := 0) (n := 2) at8 Y)) (Tk 5 Y (by kernel_rfl) Y (lbw 0 a_70 Y Y Y) (ty 6 Y (by kernel_rfl) Y (cv b_128 Y Y Y Y (fun w' hs => (spec_l2Same (rA hs hb13) (rA hs h_f))) ?_)))))
   refine tZ Y (tE (by kernel_rfl) (Xt (Ci _ Y (fun h14 => ?_) (fun h14 => ?_))))
   ·refine Sr (P2 Y Y (q1 Y (D_ix (l := l) (j := k) s_42 Y Y Y (fun w' hs => (rA hs h_l)) Y (lS s0h)) (q1 Y (D_fa f_100_1 Y Y) (q1 Y (lr o_3 Y Y at8 Y) (Pe Y (Ct (Xq (Xr (Xr (Xq (Xr (Ri Y Y ?_))))))))))))
    show (s0.Time : Int) = _
    exact timeOf_t s0h (by simp_all) hi
   ·refine Ck (Xb (Xt (Cr (p1 Y (q1 Y (D_add Y Y Y (r := ((k + 1 : Nat) : Int)) (by omega) (by omega)) (Pe Y (fun ac w' hf hs => ⟨_, ?_, k + 1, ?_, ?_, Y, hf.wk Y, hs⟩)))))))
    ·omega
    ·first | assumption | omega | simp
    ·refine forall_step hi ?_; intro y hy; obtain rfl : y = s0 := Option.some.inj (hy.symm.trans s0h); simp_all
  ·have pr6 := odF h6
   refine Cx (Xx (Xx (Xe (Xt (Sr (Pe Y (Ct (Ri Y Y ?_))))))))
   show (0 : Int) = _
   exact timeOf_n (fun i h => hi i (by omega))
theorem impl_hasStamp {w : World} {v_l : Value} {l : (List Stamp)} {c_f : List Value} {f : Fact} (h_l : Gd.rd w [v_l] l) (h_f : Gd.rd w c_f f) : Calls Tryz.prog 80 [v_l, (.agg c_f.toArray)].toArray w (Val w (.bool (hasSt l f))) := by
 have hm1 := rd_max h_l
 obtain ⟨u2, rfl, hu3⟩ := open_Fact h_f
 have hm4 := rd_max hu3
 refine enter 18 Tryz.func80 Y Y Y (Sr (li Y (D_box Y Y Y Y Y fun g5 => ?_)))
 refine Pe Y (Dh ([bx g5 [(.string f.Rel), u2]]) Y (Cq (Sr (p1 Y (q1 Y (Dl s_42 Y Y (rd_sl h_l)) (Pe Y (Cb (Cl (fun m_ ac w' => ∃ (k : Nat), (k ≤ l.length) ∧ (∀ i, i < k → ∀ y, l[i]? = some y → y.Fact ≠ f) ∧ m_ = l.length - k ∧ Fits ac 18 [(3, (pv g5)), (7, v_l), (8, (nv l.length)), (9, (nv k))] ∧ St w ([bx g5 [(.string f.Rel), u2]]) w') ?_ ?_))))))))
 ·refine fun ac w' hf hs => ⟨_, 0, ?_, ?_, Y, hf.wk Y, hs⟩
  ·first | assumption | omega | simp
  ·intro i hi; omega
 ·rintro m_ ac w' ⟨k, hk, hi, rfl, hf, hs⟩
  refine D.use ?_ hf hs
  clear hf hs ac w'
  refine Sr (Pe Y (Cq (Ci _ Y (fun h6 => ?_) (fun h6 => ?_))))
  ·have pr6 := odT h6
   refine Sk (Cq (Cb (Sr ?_)))
   obtain ⟨s0, s0h⟩ := sL (l := l) (i := k) (by omega)
   obtain ⟨es7, at8, hr9⟩ := rd_elem (n := 3) rfl h_l s0h
   obtain ⟨u10, rfl, hu11⟩ := open_Stamp hr9
   have hm12 := rd_max hu11
   have hb13 := sub_Stamp_Fact hr9
   refine q1 Y (D_ix (l := l) (j := k) s_42 Y Y Y (fun w' hs => (rA hs h_l)) Y (lS s0h)) (q1 Y (lra a_100 Y Y at8) (li Y (D_alloc y_100 Y Y Y Y fun g14 => ?_)))
   refine li Y (D_stb (vs := [(.string s0.Fact.Rel), u10, (iv s0.Time)]) (cs' := [(.string s0.Fact.Rel), u10, (iv s0.Time)]) 0 z_100 Y Y Y Y Y Y (ocons Y (ocons (one_rd hu11) (ocons Y onil))) (by simp) Y ?_)
   refine Dx (Dh ([bx g14 [(.string s0.Fact.Rel), u10, (iv s0.Time)], _]) Y (Sr (q1 Y (Db f_100_0 Y Y (q := 0) Y) (q1 Y (lba (es := [(.string s0.Fact.Rel), u10]) 0 a_70 Y Y Y Y) (q1 Y (lbw 1 a_70 Y Y Y) (li Y (cv b_138 Y Y Y Y (fun w' hs => (impl_sameFact (rA hs hb13) (rA hs h_f))) ?_)))))))
   refine Dx (Ci _ Y (fun h15 => ?_) (fun h15 => ?_))
   ·refine Sr (Pe Y (Ct (Xq (Xr (Xr (Xq (Xr (Rb Y Y ?_))))))))
    exact hasSt_t s0h (by simp_all) hi
   ·refine Ck (Xb (Xt (Cr (q1 Y (D_add Y Y Y (r := ((k + 1 : Nat) : Int)) (by omega) (by omega)) (Pe Y (fun ac w' hf hs => ⟨_, ?_, k + 1, ?_, ?_, Y, hf.wk Y, hs.pk [1] Y Y⟩))))))
    ·omega
    ·first | assumption | omega | simp
    ·refine forall_step hi ?_; intro y hy; obtain rfl : y = s0 := Option.some.inj (hy.symm.trans s0h); simp_all
  ·have pr6 := odF h6
   refine Cx (Xx (Xx (Xe (Xt (Sr (Pe Y (Ct (Rb Y Y ?_))))))))
   exact hasSt_n (fun i h => hi i (by omega))
end Go.Sy.Cho2
