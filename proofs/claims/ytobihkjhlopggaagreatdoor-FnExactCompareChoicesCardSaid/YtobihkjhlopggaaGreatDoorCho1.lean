/-
  Contracts of functions of the program, walked (printed by a program of ours).
  Conditions: those that each theorem states.
-/
import Derived.Test.YtobihkjhlopggaaGreatDoorFct
import Derived.Test.YtobihkjhlopggaaGreatDoorEv1
import Derived.Test.YtobihkjhlopggaaGreatDoorEng
import Derived.Test.YtobihkjhlopggaaGreatDoorRul
import Derived.Test.YtobihkjhlopggaaGreatDoorOwn2
import Derived.Test.YtobihkjhlopggaaGreatDoorShelf
import Derived.Test.YtobihkjhlopggaaGreatDoorBel1
import Derived.Test.YtobihkjhlopggaaGreatDoorNum1
import Derived.Test.YtobihkjhlopggaaGreatDoorNum
import Derived.Test.YtobihkjhlopggaaGreatDoorCho
set_option linter.unusedVariables false
set_option maxRecDepth 20000
namespace Go.Sy.Cho1
open Go Go.RowKit Go.Proofs Go.Sy
open Go.Sy.Bel1 Go.Sy.Ev1 Go.Sy.Fmt1 Go.Sy.Num1
theorem laws_szPair {w : World} {c_a : List Value} {a : Pair} {left : Int} (h_a : Gd.rd w c_a a) (h0 : 0 ≤ left) (h1 : left ≤ 1048576) (ho : okPair a) : Calls Tryz.prog 149 [(.agg c_a.toArray), (iv left)].toArray w (Val w (iv (szm (szPair a) left))) := by
 obtain ⟨rfl⟩ := open_Pair h_a
 have ho1 : a.Var.size ≤ 9223372036854775807 := ho.1
 have ho2 : a.Value.size ≤ 9223372036854775807 := ho.2
 refine enter 20 Tryz.func149 Y Y Y (Sr (li Y (D_box Y Y Y Y Y fun g1 => ?_)))
 refine Pe Y (Dh ([bx g1 [(.string a.Var), (.string a.Value)]]) Y (Sr (p1 Y (q1 Y (Db f_204_0 Y Y (q := 0) Y) (q1 Y (lb 0 o_9 Y Y Y Y) (q1 Y (D_lens us_9 Y Y) (q1 Y (D_sub Y Y Y Y (by omega)) (Pe Y (Cq (Sr (P2 Y Y (Dx (Ci _ Y (fun h2 => ?_) (fun h2 => ?_))))))))))))))
 ·have pr2 := odT h2
  refine Sr (Pe Y (Ct (Xr (Ri Y Y ?_))))
  show ((-1) : Int) = _
  unfold szPair szm at *; repeat (split at * <;> try omega)
 ·have pr2 := odF h2
  refine Sk (Sr (p1 Y (q1 Y (Db f_204_1 Y Y (q := 1) Y) (q1 Y (lb 0 o_9 Y Y Y Y) (q1 Y (D_lens us_9 Y Y) (q1 Y (D_sub Y Y Y Y (by omega)) (Pe Y (D_wk [1] Y (D_pkO [] Y (Cq (Sr (P2 Y Y (Dx (Ci _ Y (fun h3 => ?_) (fun h3 => ?_)))))))))))))))
  ·have pr3 := odT h3
   refine Sr (Pe Y (Ct (Xr (Ri Y Y ?_))))
   show ((-1) : Int) = _
   unfold szPair szm at *; repeat (split at * <;> try omega)
  ·have pr3 := odF h3
   refine Sk (Sr (P2 Y Y (Dx (Ct (Ri Y Y ?_)))))
   show (((left - ((a.Var.size : Nat) : Int)) - ((a.Value.size : Nat) : Int)) : Int) = _
   unfold szPair szm at *; repeat (split at * <;> try omega)
theorem laws_toPair {w : World} {c_a : List Value} {a : Pair} (h_a : Gd.rd w c_a a) (hn : szPair a ≤ 1048576) : Calls Tryz.prog 152 [(.agg c_a.toArray)].toArray w (Res w (a : Pair)) := by
 obtain ⟨rfl⟩ := open_Pair h_a
 unfold szPair at hn
 refine enter 11 Tryz.func152 Y Y Y (Sr (li Y (D_box Y Y Y Y Y fun g1 => ?_)))
 refine li Y (D_alloc y_168 Y Y Y Y fun g2 => ?_)
 refine Dx (Dh ([bx g2 [(.string ⟨#[]⟩), (.string ⟨#[]⟩)], bx g1 [(.string a.Var), (.string a.Value)]]) Y (Sr (li Y (D_alloc y_168 Y Y Y Y fun g3 => ?_))))
 refine Dx (Dh ([bx g3 [(.string ⟨#[]⟩), (.string ⟨#[]⟩)], _, _]) Y (Sr (q1 Y (Db f_204_0 Y Y (q := 0) Y) (q1 Y (lb 2 o_9 Y Y Y Y) (q1 Y (Db f_168_0 Y Y (q := 0) Y) (li Y (D_stb (vs := [(.string a.Var)]) (cs' := [(.string a.Var), (.string ⟨#[]⟩)]) 0 z_9 Y Y Y Y Y Y (ocons Y onil) (by simp) Y ?_)))))))
 refine Dx (Dh ([bx g3 [(.string a.Var), (.string ⟨#[]⟩)], _, _]) Y (Sr (q1 Y (Db f_204_1 Y Y (q := 1) Y) (q1 Y (lb 2 o_9 Y Y Y Y) (q1 Y (Db f_168_1 Y Y (q := 1) Y) (li Y (D_stb (vs := [(.string a.Value)]) (cs' := [(.string a.Var), (.string a.Value)]) 0 z_9 Y Y Y Y Y Y (ocons Y onil) (by simp) Y ?_)))))))
 refine Dx (Dh ([bx g3 [(.string a.Var), (.string a.Value)], _, _]) Y (Sr (q1 Y (lbw 0 a_168 Y Y Y) (li Y (D_stb (vs := [(.string a.Var), (.string a.Value)]) (cs' := [(.string a.Var), (.string a.Value)]) 1 z_168 Y Y Y Y Y Y (ocons Y (ocons Y onil)) (by simp) Y ?_)))))
 refine Dx (Ct (pk_Pair (r := (a : Pair)) (R_c 2 a_168 Y Y Y fun w' hs => res_of (k := 0) hs Y ?_)))
 show (a : Pair) = a
 rfl
theorem laws_eqPair {w : World} {c_a : List Value} {a : Pair} {c_b : List Value} {b : Pair} (h_a : Gd.rd w c_a a) (h_b : Gd.rd w c_b b) : Calls Tryz.prog 157 [(.agg c_a.toArray), (.agg c_b.toArray)].toArray w (Val w (.bool (decide (a = b)))) := by
 obtain ⟨rfl⟩ := open_Pair h_a
 obtain ⟨rfl⟩ := open_Pair h_b
 refine enter 15 Tryz.func157 Y Y Y (Sr (li Y (D_box Y Y Y Y Y fun g1 => ?_)))
 refine li Y (D_box Y Y Y Y Y fun g2 => ?_)
 refine Pe Y (Dh ([bx g2 [(.string b.Var), (.string b.Value)], bx g1 [(.string a.Var), (.string a.Value)]]) Y (Cq (Sr (q1 Y (Db f_168_0 Y Y (q := 0) Y) (q1 Y (lb 1 o_9 Y Y Y Y) (q1 Y (Db f_168_0 Y Y (q := 0) Y) (q1 Y (lb 0 o_9 Y Y Y Y) (q1 Y (D_neS Y Y Y) (Dx (Ci _ Y (fun h3 => ?_) (fun h3 => ?_)))))))))))
 ·have pr3 := odF (not_t h3)
  refine Sr (Pe Y (Ct (Xr (Rb Y Y ?_))))
  cases a; cases b; simp_all
 ·have pr3 := odT (not_f h3)
  refine Sk (Cq (Sr (q1 Y (Db f_168_1 Y Y (q := 1) Y) (q1 Y (lb 1 o_9 Y Y Y Y) (q1 Y (Db f_168_1 Y Y (q := 1) Y) (q1 Y (lb 0 o_9 Y Y Y Y) (q1 Y (D_neS Y Y Y) (Dx (Ci _ Y (fun h4 => ?_) (fun h4 => ?_))))))))))
  ·have pr4 := odF (not_t h4)
   refine Sr (Pe Y (Ct (Xr (Rb Y Y ?_))))
   cases a; cases b; simp_all
  ·have pr4 := odT (not_f h4)
   refine Sk (Sr (Pe Y (Ct (Rb Y Y ?_))))
   cases a; cases b; simp_all
theorem laws_szFactS {w : World} {v_a : Value} {a : (List Fact)} {left : Int} (h_a : Gd.rd w [v_a] a) (h0 : 0 ≤ left) (h1 : left ≤ 1048576) (ho : okL okFa a) : Calls Tryz.prog 94 [v_a, (iv left)].toArray w (Val w (iv (szm (szL szFa a) left))) := by
 have hm1 := rd_max h_a
 refine enter 27 Tryz.func94 Y Y Y (Sr (Pe Y (Sr (P2 Y Y (q1 Y (Dl s_22 Y Y (rd_sl h_a)) (q1 Y (D_sub Y Y Y Y (by omega)) (Pe Y (Cq (Sr (P2 Y Y (Dx (Ci _ Y (fun h2 => ?_) (fun h2 => ?_)))))))))))))
 ·have pr2 := odT h2
  refine Sr (Pe Y (Ct (Xr (Ri Y Y ?_))))
  show ((-1) : Int) = _
  refine (szm_neg ?_).symm; unfold szL; omega
 ·have pr2 := odF h2
  refine Sk (Cq (Sr (Pe Y (Cb (Cl (fun m_ ac w' => ∃ (k : Nat), ∃ (lf : Int), (k ≤ a.length) ∧ (0 ≤ lf ∧ lf = left - a.length - sumC szFa (a.take k)) ∧ m_ = a.length - k ∧ Fits ac 27 [(0, v_a), (1, (iv lf)), (5, (nv k))] ∧ St w ([]) w') ?_ ?_)))))
  ·refine fun ac w' hf hs => ⟨_, 0, (left - ((a.length : Nat) : Int)), ?_, ?_, Y, hf.wk Y, hs⟩
   ·omega
   ·simp [sumC]; omega
  ·rintro m_ ac w' ⟨k, lf, hk, hl, rfl, hf, hs⟩
   refine D.use ?_ hf hs
   clear hf hs ac w'
   have ht := sumC_take_le a szFa k
   refine Cq (Sr (P2 Y Y (q1 Y (Dl s_22 Y Y (rd_sl h_a)) (Pe Y (Ci _ Y (fun h3 => ?_) (fun h3 => ?_))))))
   ·have pr3 := odT h3
    refine Sk (Cq (Cb (Sr (P2 Y Y ?_))))
    obtain ⟨r0, hr0⟩ := sL (l := a) (i := k) (by omega)
    have hro := ho _ (List.mem_of_getElem? hr0)
    have ht1 := sumC_take_le a szFa (k + 1)
    have hst := sumC_take (c := szFa) hr0
    obtain ⟨es4, at5, hr6⟩ := rd_elem (n := 2) rfl h_a hr0
    obtain ⟨u7, rfl, hu8⟩ := open_Fact hr6
    have hm9 := rd_max hu8
    refine q1 Y (D_ix (l := a) (j := k) s_22 Y Y Y (fun w' hs => (rA hs h_a)) Y (lS hr0)) (q1 Y (lra a_107 Y Y at5) (p1 Y (li Y (cv b_115 Y Y Y Y (fun w' hs => (laws_szFact (rA hs hr6) (by omega) (by omega) hro)) ?_))))
    refine Pe Y (Sr (P2 Y Y (Dx (Ci _ Y (fun h10 => ?_) (fun h10 => ?_)))))
    ·have pr10 := odT h10
     refine Sr (Pe Y (Ct (Xq (Xr (Xr (Xq (Xr (Ri Y Y ?_))))))))
     show ((-1) : Int) = _
     refine (szm_neg ?_).symm; unfold szL; unfold szm at *; split at * <;> omega
    ·have pr10 := odF h10
     have pr10z := szm_val pr10
     refine Ck (Xb (Xt (Cr (p1 Y (q1 Y (D_add Y Y Y (r := ((k + 1 : Nat) : Int)) (by omega) (by omega)) (Pe Y (fun ac w' hf hs => ⟨_, ?_, k + 1, (szm (szFa r0) lf), ?_, ?_, Y, hf.wk Y, hs⟩)))))))
     ·omega
     ·omega
     ·rw [hst]; unfold szm at *; split at * <;> omega
   ·have pr3 := odF h3
    refine Cx (Xx (Xx (Xe (Xt (Sr (P2 Y Y (Dx (Ct (Ri Y Y ?_)))))))))
    show (lf : Int) = _
    rw [szm_pos]; all_goals (unfold szL; rw [List.take_of_length_le (by omega)] at hl; omega)
theorem laws_toFactS {w : World} {v_a : Value} {a : (List Fact)} (h_a : Gd.rd w [v_a] a) (hn : szL szFa a ≤ 1048576) : Calls Tryz.prog 97 [v_a].toArray w (Res w (a : List Fact)) := by
 have hm1 := rd_max h_a
 unfold szL at hn
 refine enter 23 Tryz.func97 Y Y Y (Sr (Pe Y (Sr (p1 Y (q1 Y (Dl s_22 Y Y (rd_sl h_a)) (li Y (D_mkG (α := Fact) (z0 := z0_Fact) s_31 y_124 Y Y Y Y Y Y zz_Fact (by omega) (by omega) fun v2 => ?_)))))))
 refine Pe Y (Dh ([ov [v2] (List.replicate a.length z0_Fact : (List Fact))]) Y (Cq (Sr (Pe Y (Cb (Cl (fun m_ ac w' => ∃ (k : Nat), ∃ (v : Value), (k ≤ a.length) ∧ m_ = a.length - k ∧ Fits ac 23 [(0, v_a), (3, v), (4, (nv k))] ∧ St w ([ov [v] (cp a z0_Fact k : (List Fact))]) w') ?_ ?_))))))
 ·refine D_eq 0 Y (show (List.replicate a.length z0_Fact : (List Fact)) = cp a z0_Fact 0 from by rw [cp_zero]) (fun ac w' hf hs => ⟨_, 0, v2, ?_, Y, hf.wk Y, hs⟩)
  ·omega
 ·rintro m_ ac w' ⟨k, v, hk, rfl, hf, hs⟩
  refine D.use ?_ hf hs
  clear hf hs ac w'
  have hcl := cp_len a z0_Fact k hk
  refine Cq (Sr (P2 Y Y (q1 Y (Dl s_22 Y Y (rd_sl h_a)) (Pe Y (Dh ([_]) Y (Ci _ Y (fun h3 => ?_) (fun h3 => ?_)))))))
  ·have pr3 := odT h3
   refine Sk (Cq (Cb (Cr (P3 Y Y Y (p1 Y ?_)))))
   obtain ⟨x4, hx5⟩ := sL (l := a) (i := k) (by omega)
   have hle := sumC_mem (c := szFa) (mem_idx hx5)
   obtain ⟨es6, at7, hr8⟩ := rd_elem (n := 2) rfl h_a hx5
   obtain ⟨u9, rfl, hu10⟩ := open_Fact hr8
   have hm11 := rd_max hu10
   refine q1 Y (D_ix (l := a) (j := k) s_22 Y Y Y (fun w' hs => (rA hs h_a)) Y (lS hx5)) (q1 Y (lra a_107 Y Y at7) (li Y (crs Y b_127 Y Y Y Y (fun w' hs => (laws_toFact (rA hs hr8) (by omega))) fun cs12 => ?_)))
   refine Dp (fun w' hs => shape_Fact (rO (k := 0) hs Y)) ?_
   rintro ⟨v13, rfl, ho14⟩
   obtain ⟨x15, hx16⟩ := sL (l := (cp a z0_Fact k)) (i := k) (by omega)
   refine q1 Y (D_ix (l := (cp a z0_Fact k)) (j := k) s_31 Y Y Y (fun w' hs => (rO (k := 1) hs Y)) Y (lS hx16)) (D_pkO [1, 0] Y (li Y (soG (α := Fact) Y z_124 Y Y Y Y Y (lS hx16) ?_)))
   refine De (Xb (Xt (Dh ([ov [v] ((cp a z0_Fact k).set k x4 : (List Fact))]) Y (Cr (p1 Y (q1 Y (D_add Y Y Y (r := ((k + 1 : Nat) : Int)) (by omega) (by omega)) (Pe Y (D_eq 0 Y (show ((cp a z0_Fact k).set k x4 : (List Fact)) = cp a z0_Fact (k + 1) from by rw [cp_set (by assumption)]) (fun ac w' hf hs => ⟨_, ?_, k + 1, v, ?_, Y, hf.wk Y, hs⟩)))))))))
   ·omega
   ·omega
  ·have pr3 := odF h3
   refine Cx (Xx (Xx (Xe (Xt (Sr (P2 Y Y (Dx (Ct (R_1 Y Y fun w' hs => res_of (k := 0) hs Y ?_)))))))))
   show cp a z0_Fact k = a
   exact cp_done (by omega)
theorem laws_eqFactS {w : World} {v_a : Value} {a : (List Fact)} {v_b : Value} {b : (List Fact)} (h_a : Gd.rd w [v_a] a) (h_b : Gd.rd w [v_b] b) : Calls Tryz.prog 103 [v_a, v_b].toArray w (Val w (.bool (decide (a = b)))) := by
 have hm1 := rd_max h_a
 have hm2 := rd_max h_b
 refine enter 27 Tryz.func103 Y Y Y (Sr (Pe Y (Cq (Sr (p1 Y (q1 Y (Dl s_31 Y Y (rd_sl h_a)) (p1 Y (q1 Y (Dl s_31 Y Y (rd_sl h_b)) (Pe Y (Ci _ Y (fun h3 => ?_) (fun h3 => ?_)))))))))))
 ·have pr3 := bne_iff_ne.1 h3
  refine Sr (Pe Y (Ct (Xr (Rb Y Y ?_))))
  simp; intro e; subst e; simp_all
 ·have pr3 := eq_of_bne_f h3
  refine Sk (Cq (Sr (Pe Y (Cb (Cl (fun m_ ac w' => ∃ (k : Nat), (k ≤ a.length) ∧ (∀ i, i < k → a[i]? = b[i]?) ∧ m_ = a.length - k ∧ Fits ac 27 [(0, v_a), (1, v_b), (5, (nv k))] ∧ St w ([]) w') ?_ ?_)))))
  ·refine fun ac w' hf hs => ⟨_, 0, ?_, ?_, Y, hf.wk Y, hs⟩
   ·omega
   ·intro i hi; omega
  ·rintro m_ ac w' ⟨k, hk, hi, rfl, hf, hs⟩
   refine D.use ?_ hf hs
   clear hf hs ac w'
   refine Cq (Sr (P2 Y Y (q1 Y (Dl s_31 Y Y (rd_sl h_a)) (Pe Y (Ci _ Y (fun h4 => ?_) (fun h4 => ?_))))))
   ·have pr4 := odT h4
    refine Sk (Cq (Cb (Cq (C_draw mixed [8, 9] (by kernel_rfl) (Tk 0 Y (by kernel_rfl) Y (rp Y) (Tk 1 Y (by kernel_rfl) Y (rp Y) ?_))))))
    obtain ⟨x5, hx6⟩ := sL (l := a) (i := k) (by omega)
    obtain ⟨es7, at8, hr9⟩ := rd_elem (n := 2) rfl h_a hx6
    obtain ⟨u10, rfl, hu11⟩ := open_Fact hr9
    have hm12 := rd_max hu11
    refine Tk 2 Y (by kernel_rfl) Y (D_ix (l := a) (j := k) s_31 Y Y Y (fun w' hs => (rA hs h_a)) Y (lS hx6)) (Tk 3 Y (by kernel_rfl) Y (lra a_124 Y Y at8) (Tk 4 Y (by kernel_rfl) Y (rp Y) (Tk 5 Y (by kernel_rfl) Y (rp Y) ?_)))
    obtain ⟨x13, hx14⟩ := sL (l := b) (i := k) (by omega)
    obtain ⟨es15, at16, hr17⟩ := rd_elem (n := 2) rfl h_b hx14
    obtain ⟨u18, rfl, hu19⟩ := open_Fact hr17
    have hm20 := rd_max hu19
    refine Tk 6 Y (by kernel_rfl) Y (D_ix (l := b) (j := k) s_31 Y Y Y (fun w' hs => (rA hs h_b)) Y (lS hx14)) (Tk 7 Y (by kernel_rfl) Y (lra a_124 Y Y at16) (ty 8 Y (by kernel_rfl) Y (cv b_139 Y Y Y Y (fun w' hs => (laws_eqFact (rA hs hr9) (rA hs hr17))) ?_)))
    refine tZ Y (ty 9 Y (by kernel_rfl) Y (sv Y Y (rp Y) ?_))
    refine tZ Y (tE (by kernel_rfl) (Xt (Ci _ Y (fun h21 => ?_) (fun h21 => ?_))))
    ·have h21n := not_t h21
     refine Sr (Pe Y (Ct (Xq (Xr (Xr (Xq (Xr (Rb Y Y ?_))))))))
     simp; intro e; subst e; simp_all
    ·have h21n := not_f h21
     refine Ck (Xb (Xt (Cr (p1 Y (q1 Y (D_add Y Y Y (r := ((k + 1 : Nat) : Int)) (by omega) (by omega)) (Pe Y (fun ac w' hf hs => ⟨_, ?_, k + 1, ?_, ?_, Y, hf.wk Y, hs⟩)))))))
     ·omega
     ·omega
     ·refine idx_step hi (by assumption) (by assumption) ?_; simp_all
   ·have pr4 := odF h4
    refine Cx (Xx (Xx (Xe (Xt (Sr (Pe Y (Ct (Rb Y Y ?_))))))))
    simp; exact eq_of_idx (by omega) (fun i h => hi i (by omega))
theorem laws_szPairS {w : World} {v_a : Value} {a : (List Pair)} {left : Int} (h_a : Gd.rd w [v_a] a) (h0 : 0 ≤ left) (h1 : left ≤ 1048576) (ho : okL okPair a) : Calls Tryz.prog 95 [v_a, (iv left)].toArray w (Val w (iv (szm (szL szPair a) left))) := by
 have hm1 := rd_max h_a
 refine enter 27 Tryz.func95 Y Y Y (Sr (Pe Y (Sr (P2 Y Y (q1 Y (Dl s_23 Y Y (rd_sl h_a)) (q1 Y (D_sub Y Y Y Y (by omega)) (Pe Y (Cq (Sr (P2 Y Y (Dx (Ci _ Y (fun h2 => ?_) (fun h2 => ?_)))))))))))))
 ·have pr2 := odT h2
  refine Sr (Pe Y (Ct (Xr (Ri Y Y ?_))))
  show ((-1) : Int) = _
  refine (szm_neg ?_).symm; unfold szL; omega
 ·have pr2 := odF h2
  refine Sk (Cq (Sr (Pe Y (Cb (Cl (fun m_ ac w' => ∃ (k : Nat), ∃ (lf : Int), (k ≤ a.length) ∧ (0 ≤ lf ∧ lf = left - a.length - sumC szPair (a.take k)) ∧ m_ = a.length - k ∧ Fits ac 27 [(0, v_a), (1, (iv lf)), (5, (nv k))] ∧ St w ([]) w') ?_ ?_)))))
  ·refine fun ac w' hf hs => ⟨_, 0, (left - ((a.length : Nat) : Int)), ?_, ?_, Y, hf.wk Y, hs⟩
   ·omega
   ·simp [sumC]; omega
  ·rintro m_ ac w' ⟨k, lf, hk, hl, rfl, hf, hs⟩
   refine D.use ?_ hf hs
   clear hf hs ac w'
   have ht := sumC_take_le a szPair k
   refine Cq (Sr (P2 Y Y (q1 Y (Dl s_23 Y Y (rd_sl h_a)) (Pe Y (Ci _ Y (fun h3 => ?_) (fun h3 => ?_))))))
   ·have pr3 := odT h3
    refine Sk (Cq (Cb (Sr (P2 Y Y ?_))))
    obtain ⟨r0, hr0⟩ := sL (l := a) (i := k) (by omega)
    have hro := ho _ (List.mem_of_getElem? hr0)
    have ht1 := sumC_take_le a szPair (k + 1)
    have hst := sumC_take (c := szPair) hr0
    obtain ⟨es4, at5, hr6⟩ := rd_elem (n := 2) rfl h_a hr0
    obtain ⟨rfl⟩ := open_Pair hr6
    refine q1 Y (D_ix (l := a) (j := k) s_23 Y Y Y (fun w' hs => (rA hs h_a)) Y (lS hr0)) (q1 Y (lra a_204 Y Y at5) (p1 Y (li Y (cv b_149 Y Y Y Y (fun w' hs => (laws_szPair (rA hs hr6) (by omega) (by omega) hro)) ?_))))
    refine Pe Y (Sr (P2 Y Y (Dx (Ci _ Y (fun h7 => ?_) (fun h7 => ?_)))))
    ·have pr7 := odT h7
     refine Sr (Pe Y (Ct (Xq (Xr (Xr (Xq (Xr (Ri Y Y ?_))))))))
     show ((-1) : Int) = _
     refine (szm_neg ?_).symm; unfold szL; unfold szm at *; split at * <;> omega
    ·have pr7 := odF h7
     have pr7z := szm_val pr7
     refine Ck (Xb (Xt (Cr (p1 Y (q1 Y (D_add Y Y Y (r := ((k + 1 : Nat) : Int)) (by omega) (by omega)) (Pe Y (fun ac w' hf hs => ⟨_, ?_, k + 1, (szm (szPair r0) lf), ?_, ?_, Y, hf.wk Y, hs⟩)))))))
     ·omega
     ·omega
     ·rw [hst]; unfold szm at *; split at * <;> omega
   ·have pr3 := odF h3
    refine Cx (Xx (Xx (Xe (Xt (Sr (P2 Y Y (Dx (Ct (Ri Y Y ?_)))))))))
    show (lf : Int) = _
    rw [szm_pos]; all_goals (unfold szL; rw [List.take_of_length_le (by omega)] at hl; omega)
theorem laws_toPairS {w : World} {v_a : Value} {a : (List Pair)} (h_a : Gd.rd w [v_a] a) (hn : szL szPair a ≤ 1048576) : Calls Tryz.prog 98 [v_a].toArray w (Res w (a : List Pair)) := by
 have hm1 := rd_max h_a
 unfold szL at hn
 refine enter 23 Tryz.func98 Y Y Y (Sr (Pe Y (Sr (p1 Y (q1 Y (Dl s_23 Y Y (rd_sl h_a)) (li Y (D_mkG (α := Pair) (z0 := z0_Pair) s_32 y_168 Y Y Y Y Y Y zz_Pair (by omega) (by omega) fun v2 => ?_)))))))
 refine Pe Y (Dh ([ov [v2] (List.replicate a.length z0_Pair : (List Pair))]) Y (Cq (Sr (Pe Y (Cb (Cl (fun m_ ac w' => ∃ (k : Nat), ∃ (v : Value), (k ≤ a.length) ∧ m_ = a.length - k ∧ Fits ac 23 [(0, v_a), (3, v), (4, (nv k))] ∧ St w ([ov [v] (cp a z0_Pair k : (List Pair))]) w') ?_ ?_))))))
 ·refine D_eq 0 Y (show (List.replicate a.length z0_Pair : (List Pair)) = cp a z0_Pair 0 from by rw [cp_zero]) (fun ac w' hf hs => ⟨_, 0, v2, ?_, Y, hf.wk Y, hs⟩)
  ·omega
 ·rintro m_ ac w' ⟨k, v, hk, rfl, hf, hs⟩
  refine D.use ?_ hf hs
  clear hf hs ac w'
  have hcl := cp_len a z0_Pair k hk
  refine Cq (Sr (P2 Y Y (q1 Y (Dl s_23 Y Y (rd_sl h_a)) (Pe Y (Dh ([_]) Y (Ci _ Y (fun h3 => ?_) (fun h3 => ?_)))))))
  ·have pr3 := odT h3
   refine Sk (Cq (Cb (Cr (P3 Y Y Y (p1 Y ?_)))))
   obtain ⟨x4, hx5⟩ := sL (l := a) (i := k) (by omega)
   have hle := sumC_mem (c := szPair) (mem_idx hx5)
   obtain ⟨es6, at7, hr8⟩ := rd_elem (n := 2) rfl h_a hx5
   obtain ⟨rfl⟩ := open_Pair hr8
   refine q1 Y (D_ix (l := a) (j := k) s_23 Y Y Y (fun w' hs => (rA hs h_a)) Y (lS hx5)) (q1 Y (lra a_204 Y Y at7) (li Y (crs Y b_152 Y Y Y Y (fun w' hs => (laws_toPair (rA hs hr8) (by omega))) fun cs9 => ?_)))
   refine Dp (fun w' hs => shape_Pair (rO (k := 0) hs Y)) ?_
   rintro ⟨rfl⟩
   obtain ⟨x10, hx11⟩ := sL (l := (cp a z0_Pair k)) (i := k) (by omega)
   refine q1 Y (D_ix (l := (cp a z0_Pair k)) (j := k) s_32 Y Y Y (fun w' hs => (rO (k := 1) hs Y)) Y (lS hx11)) (D_pkO [1, 0] Y (li Y (soG (α := Pair) Y z_168 Y Y Y Y Y (lS hx11) ?_)))
   refine De (Xb (Xt (Dh ([ov [v] ((cp a z0_Pair k).set k x4 : (List Pair))]) Y (Cr (p1 Y (q1 Y (D_add Y Y Y (r := ((k + 1 : Nat) : Int)) (by omega) (by omega)) (Pe Y (D_eq 0 Y (show ((cp a z0_Pair k).set k x4 : (List Pair)) = cp a z0_Pair (k + 1) from by rw [cp_set (by assumption)]) (fun ac w' hf hs => ⟨_, ?_, k + 1, v, ?_, Y, hf.wk Y, hs⟩)))))))))
   ·omega
   ·omega
  ·have pr3 := odF h3
   refine Cx (Xx (Xx (Xe (Xt (Sr (P2 Y Y (Dx (Ct (R_1 Y Y fun w' hs => res_of (k := 0) hs Y ?_)))))))))
   show cp a z0_Pair k = a
   exact cp_done (by omega)
theorem laws_eqPairS {w : World} {v_a : Value} {a : (List Pair)} {v_b : Value} {b : (List Pair)} (h_a : Gd.rd w [v_a] a) (h_b : Gd.rd w [v_b] b) : Calls Tryz.prog 104 [v_a, v_b].toArray w (Val w (.bool (decide (a = b)))) := by
 have hm1 := rd_max h_a
 have hm2 := rd_max h_b
 refine enter 27 Tryz.func104 Y Y Y (Sr (Pe Y (Cq (Sr (p1 Y (q1 Y (Dl s_32 Y Y (rd_sl h_a)) (p1 Y (q1 Y (Dl s_32 Y Y (rd_sl h_b)) (Pe Y (Ci _ Y (fun h3 => ?_) (fun h3 => ?_)))))))))))
 ·have pr3 := bne_iff_ne.1 h3
  refine Sr (Pe Y (Ct (Xr (Rb Y Y ?_))))
  simp; intro e; subst e; simp_all
 ·have pr3 := eq_of_bne_f h3
  refine Sk (Cq (Sr (Pe Y (Cb (Cl (fun m_ ac w' => ∃ (k : Nat), (k ≤ a.length) ∧ (∀ i, i < k → a[i]? = b[i]?) ∧ m_ = a.length - k ∧ Fits ac 27 [(0, v_a), (1, v_b), (5, (nv k))] ∧ St w ([]) w') ?_ ?_)))))
  ·refine fun ac w' hf hs => ⟨_, 0, ?_, ?_, Y, hf.wk Y, hs⟩
   ·omega
   ·intro i hi; omega
  ·rintro m_ ac w' ⟨k, hk, hi, rfl, hf, hs⟩
   refine D.use ?_ hf hs
   clear hf hs ac w'
   refine Cq (Sr (P2 Y Y (q1 Y (Dl s_32 Y Y (rd_sl h_a)) (Pe Y (Ci _ Y (fun h4 => ?_) (fun h4 => ?_))))))
   ·have pr4 := odT h4
    refine Sk (Cq (Cb (Cq (C_draw mixed [8, 9] (by kernel_rfl) (Tk 0 Y (by kernel_rfl) Y (rp Y) (Tk 1 Y (by kernel_rfl) Y (rp Y) ?_))))))
    obtain ⟨x5, hx6⟩ := sL (l := a) (i := k) (by omega)
    obtain ⟨es7, at8, hr9⟩ := rd_elem (n := 2) rfl h_a hx6
    obtain ⟨rfl⟩ := open_Pair hr9
    refine Tk 2 Y (by kernel_rfl) Y (D_ix (l := a) (j := k) s_32 Y Y Y (fun w' hs => (rA hs h_a)) Y (lS hx6)) (Tk 3 Y (by kernel_rfl) Y (lra a_168 Y Y at8) (Tk 4 Y (by kernel_rfl) Y (rp Y) (Tk 5 Y (by kernel_rfl) Y (rp Y) ?_)))
    obtain ⟨x10, hx11⟩ := sL (l := b) (i := k) (by omega)
    obtain ⟨es12, at13, hr14⟩ := rd_elem (n := 2) rfl h_b hx11
    obtain ⟨rfl⟩ := open_Pair hr14
    refine Tk 6 Y (by kernel_rfl) Y (D_ix (l := b) (j := k) s_32 Y Y Y (fun w' hs => (rA hs h_b)) Y (lS hx11)) (Tk 7 Y (by kernel_rfl) Y (lra a_168 Y Y at13) (ty 8 Y (by kernel_rfl) Y (cv b_157 Y Y Y Y (fun w' hs => (laws_eqPair (rA hs hr9) (rA hs hr14))) ?_)))
    refine tZ Y (ty 9 Y (by kernel_rfl) Y (sv Y Y (rp Y) ?_))
    refine tZ Y (tE (by kernel_rfl) (Xt (Ci _ Y (fun h15 => ?_) (fun h15 => ?_))))
    ·have h15n := not_t h15
     refine Sr (Pe Y (Ct (Xq (Xr (Xr (Xq (Xr (Rb Y Y ?_))))))))
     simp; intro e; subst e; simp_all
    ·have h15n := not_f h15
     refine Ck (Xb (Xt (Cr (p1 Y (q1 Y (D_add Y Y Y (r := ((k + 1 : Nat) : Int)) (by omega) (by omega)) (Pe Y (fun ac w' hf hs => ⟨_, ?_, k + 1, ?_, ?_, Y, hf.wk Y, hs⟩)))))))
     ·omega
     ·omega
     ·refine idx_step hi (by assumption) (by assumption) ?_; simp_all
   ·have pr4 := odF h4
    refine Cx (Xx (Xx (Xe (Xt (Sr (Pe Y (Ct (Rb Y Y ?_))))))))
    simp; exact eq_of_idx (by omega) (fun i h => hi i (by omega))
theorem laws_szMatch {w : World} {c_a : List Value} {a : Match} {left : Int} (h_a : Gd.rd w c_a a) (h0 : 0 ≤ left) (h1 : left ≤ 1048576) (ho : okMatch a) : Calls Tryz.prog 42 [(.agg c_a.toArray), (iv left)].toArray w (Val w (iv (szm (szMatch a) left))) := by
 obtain ⟨u1, u3, rfl, hu2, hu4⟩ := open_Match h_a
 have hm5 := rd_max hu2
 have hm6 := rd_max hu4
 have ho1 : a.Rule.size ≤ 9223372036854775807 := ho.1
 refine enter 25 Tryz.func42 Y Y Y (Sr (li Y (D_box Y Y Y Y Y fun g7 => ?_)))
 refine Pe Y (Dh ([bx g7 [(.string a.Rule), u1, u3]]) Y (Sr (p1 Y (q1 Y (Db f_25_0 Y Y (q := 0) Y) (q1 Y (lb 0 o_9 Y Y Y Y) (q1 Y (D_lens us_9 Y Y) (q1 Y (D_sub Y Y Y Y (by omega)) (Pe Y (Cq (Sr (P2 Y Y (Dx (Ci _ Y (fun h8 => ?_) (fun h8 => ?_))))))))))))))
 ·have pr8 := odT h8
  refine Sr (Pe Y (Ct (Xr (Ri Y Y ?_))))
  show ((-1) : Int) = _
  unfold szMatch szm at *; repeat (split at * <;> try omega)
 ·have pr8 := odF h8
  refine Sk (Sr (q1 Y (Db f_25_1 Y Y (q := 1) Y) (q1 Y (lb 0 o_22 Y Y Y Y) (p1 Y (li Y (cv b_94 Y Y Y Y (fun w' hs => (laws_szFactS (rA hs hu2) (by omega) (by omega) ho.2.1)) ?_))))))
  refine Pe Y (Cq (Sr (P2 Y Y (Dx (Ci _ Y (fun h9 => ?_) (fun h9 => ?_))))))
  ·have pr9 := odT h9
   refine Sr (Pe Y (Ct (Xr (Ri Y Y ?_))))
   show ((-1) : Int) = _
   unfold szMatch szm at *; repeat (split at * <;> try omega)
  ·have pr9 := odF h9
   have pr9z := szm_val pr9
   refine Sk (D_wk [1, 2] Y (Sr (q1 Y (Db f_25_2 Y Y (q := 2) Y) (q1 Y (lb 0 o_23 Y Y Y Y) (p1 Y (li Y (cv b_95 Y Y Y Y (fun w' hs => (laws_szPairS (rA hs hu4) (by omega) (by omega) ho.2.2)) ?_)))))))
   refine Pe Y (Cq (Sr (P2 Y Y (Dx (Ci _ Y (fun h10 => ?_) (fun h10 => ?_))))))
   ·have pr10 := odT h10
    refine Sr (Pe Y (Ct (Xr (Ri Y Y ?_))))
    show ((-1) : Int) = _
    unfold szMatch szm at *; repeat (split at * <;> try omega)
   ·have pr10 := odF h10
    have pr10z := szm_val pr10
    refine Sk (Sr (P2 Y Y (Dx (Ct (Ri Y Y ?_)))))
    show ((szm (szL szPair a.Binding) (szm (szL szFa a.Facts) (left - ((a.Rule.size : Nat) : Int)))) : Int) = _
    unfold szMatch szm at *; repeat (split at * <;> try omega)
theorem laws_toMatch {w : World} {c_a : List Value} {a : Match} (h_a : Gd.rd w c_a a) (hn : szMatch a ≤ 1048576) : Calls Tryz.prog 48 [(.agg c_a.toArray)].toArray w (Res w (a : Match)) := by
 obtain ⟨u1, u3, rfl, hu2, hu4⟩ := open_Match h_a
 have hm5 := rd_max hu2
 have hm6 := rd_max hu4
 unfold szMatch at hn
 refine enter 16 Tryz.func48 Y Y Y (Sr (li Y (D_box Y Y Y Y Y fun g7 => ?_)))
 refine li Y (D_alloc y_34 Y Y Y Y fun g8 => ?_)
 refine Dx (Dh ([bx g8 [(.string ⟨#[]⟩), (.slice none 0 0), (.slice none 0 0)], bx g7 [(.string a.Rule), u1, u3]]) Y (Sr (li Y (D_alloc y_34 Y Y Y Y fun g9 => ?_))))
 refine Dx (Dh ([bx g9 [(.string ⟨#[]⟩), (.slice none 0 0), (.slice none 0 0)], _, _]) Y (Sr (q1 Y (Db f_25_0 Y Y (q := 0) Y) (q1 Y (lb 2 o_9 Y Y Y Y) (q1 Y (Db f_34_0 Y Y (q := 0) Y) (li Y (D_stb (vs := [(.string a.Rule)]) (cs' := [(.string a.Rule), (.slice none 0 0), (.slice none 0 0)]) 0 z_9 Y Y Y Y Y Y (ocons Y onil) (by simp) Y ?_)))))))
 refine Dx (Dh ([bx g9 [(.string a.Rule), (.slice none 0 0), (.slice none 0 0)], _, _]) Y (Sr (q1 Y (Db f_25_1 Y Y (q := 1) Y) (q1 Y (lb 2 o_22 Y Y Y Y) (li Y (crl b_97 Y Y Y Y (fun w' hs => (laws_toFactS (rA hs hu2) (by omega))) fun v10 => ?_))))))
 refine q1 Y (Db f_34_1 Y Y (q := 1) Y) (Dp (fun w' hs => one_own (k := 0) hs Y) ?_)
 intro ho11
 refine li Y (D_stb (vs := [v10]) (cs' := [(.string a.Rule), v10, (.slice none 0 0)]) 1 z_31 Y Y Y Y Y (cells_of_one ho11) (ocons ho11 onil) (by simp) Y ?_)
 refine Dx (Dh ([ov [v10] (a.Facts : (List Fact)), bx g9 [(.string a.Rule), v10, (.slice none 0 0)], _, _]) Y (Sr (q1 Y (Db f_25_2 Y Y (q := 2) Y) (q1 Y (lb 3 o_23 Y Y Y Y) (li Y (crl b_98 Y Y Y Y (fun w' hs => (laws_toPairS (rA hs hu4) (by omega))) fun v12 => ?_))))))
 refine q1 Y (Db f_34_2 Y Y (q := 2) Y) (Dp (fun w' hs => one_own (k := 0) hs Y) ?_)
 intro ho13
 refine li Y (D_stb (vs := [v12]) (cs' := [(.string a.Rule), v10, v12]) 2 z_32 Y Y Y Y Y (cells_of_one ho13) (ocons ho13 onil) (by simp) Y ?_)
 refine Dx (Dh ([ov [v12] (a.Binding : (List Pair)), _, bx g9 [(.string a.Rule), v10, v12], _, _]) Y (Sr (q1 Y (lbw 2 a_34 Y Y Y) (li Y (D_stb (vs := [(.string a.Rule), v10, v12]) (cs' := [(.string a.Rule), v10, v12]) 3 z_34 Y Y Y Y Y Y (ocons Y (ocons ho11 (ocons ho13 onil))) (by simp) Y ?_)))))
 refine Dx (Ct (D_pkO [1, 0, 2, 3, 4] Y (pk_Match (r := (a : Match)) (R_c 2 a_34 Y Y Y fun w' hs => res_of (k := 0) hs Y ?_))))
 show (a : Match) = a
 rfl
theorem laws_eqMatch {w : World} {c_a : List Value} {a : Match} {c_b : List Value} {b : Match} (h_a : Gd.rd w c_a a) (h_b : Gd.rd w c_b b) : Calls Tryz.prog 53 [(.agg c_a.toArray), (.agg c_b.toArray)].toArray w (Val w (.bool (decide (a = b)))) := by
 obtain ⟨u1, u3, rfl, hu2, hu4⟩ := open_Match h_a
 have hm5 := rd_max hu2
 have hm6 := rd_max hu4
 obtain ⟨u7, u9, rfl, hu8, hu10⟩ := open_Match h_b
 have hm11 := rd_max hu8
 have hm12 := rd_max hu10
 refine enter 22 Tryz.func53 Y Y Y (Sr (li Y (D_box Y Y Y Y Y fun g13 => ?_)))
 refine li Y (D_box Y Y Y Y Y fun g14 => ?_)
 refine Pe Y (Dh ([bx g14 [(.string b.Rule), u7, u9], bx g13 [(.string a.Rule), u1, u3]]) Y (Cq (Sr (q1 Y (Db f_34_0 Y Y (q := 0) Y) (q1 Y (lb 1 o_9 Y Y Y Y) (q1 Y (Db f_34_0 Y Y (q := 0) Y) (q1 Y (lb 0 o_9 Y Y Y Y) (q1 Y (D_neS Y Y Y) (Dx (Ci _ Y (fun h15 => ?_) (fun h15 => ?_)))))))))))
 ·have pr15 := odF (not_t h15)
  refine Sr (Pe Y (Ct (Xr (Rb Y Y ?_))))
  cases a; cases b; simp_all
 ·have pr15 := odT (not_f h15)
  refine Sk (Cq (Sr (q1 Y (Db f_34_1 Y Y (q := 1) Y) (q1 Y (lb 1 o_31 Y Y Y Y) (q1 Y (Db f_34_1 Y Y (q := 1) Y) (q1 Y (lb 0 o_31 Y Y Y Y) (li Y (cv b_103 Y Y Y Y (fun w' hs => (laws_eqFactS (rA hs hu2) (rA hs hu8))) ?_))))))))
  refine Pe Y (Ci _ Y (fun h16 => ?_) (fun h16 => ?_))
  ·have h16n := not_t h16
   refine Sr (Pe Y (Ct (Xr (Rb Y Y ?_))))
   cases a; cases b; simp_all
  ·have h16n := not_f h16
   refine Sk (Cq (Sr (q1 Y (Db f_34_2 Y Y (q := 2) Y) (q1 Y (lb 1 o_32 Y Y Y Y) (q1 Y (Db f_34_2 Y Y (q := 2) Y) (q1 Y (lb 0 o_32 Y Y Y Y) (li Y (cv b_104 Y Y Y Y (fun w' hs => (laws_eqPairS (rA hs hu4) (rA hs hu10))) ?_))))))))
   refine Pe Y (D_wk [21] Y (D_pkO [] Y (Ci _ Y (fun h17 => ?_) (fun h17 => ?_))))
   ·have h17n := not_t h17
    refine Sr (Pe Y (Ct (Xr (Rb Y Y ?_))))
    cases a; cases b; simp_all
   ·have h17n := not_f h17
    refine Sk (Sr (Pe Y (Ct (Rb Y Y ?_))))
    cases a; cases b; simp_all
theorem laws_szChoice {w : World} {c_a : List Value} {a : Choice} {left : Int} (h_a : Gd.rd w c_a a) (h0 : 0 ≤ left) (h1 : left ≤ 1048576) (ho : okChoice a) : Calls Tryz.prog 8 [(.agg c_a.toArray), (iv left)].toArray w (Val w (iv (szm (szChoice a) left))) := by
 obtain ⟨u1, u3, u5, rfl, hu2, hu4, hu6⟩ := open_Choice h_a
 have hm7 := rd_max hu2
 have hm8 := rd_max hu4
 have hm9 := rd_max hu6
 have hb10 := sub_Choice_Match h_a
 refine enter 18 Tryz.func8 Y Y Y (Sr (li Y (D_box Y Y Y Y Y fun g11 => ?_)))
 refine Pe Y (Dh ([bx g11 [(.string a.Match.Rule), u1, u3, (iv a.Priority), u5, (iv a.Specific), (iv a.Order)]]) Y (Sr (q1 Y (Db f_28_0 Y Y (q := 0) Y) (q1 Y (lba (es := [(.string a.Match.Rule), u1, u3]) 0 a_25 Y Y Y Y) (p1 Y (li Y (cv b_42 Y Y Y Y (fun w' hs => (laws_szMatch (rA hs hb10) (by assumption) (by assumption) ho.1)) ?_)))))))
 refine Pe Y (Cq (Sr (P2 Y Y (Dx (Ci _ Y (fun h12 => ?_) (fun h12 => ?_))))))
 ·have pr12 := odT h12
  refine Sr (Pe Y (Ct (Xr (Ri Y Y ?_))))
  show ((-1) : Int) = _
  unfold szChoice szm at *; repeat (split at * <;> try omega)
 ·have pr12 := odF h12
  have pr12z := szm_val pr12
  refine Sk (Sr (q1 Y (Db f_28_2 Y Y (q := 4) Y) (q1 Y (lb 0 o_26 Y Y Y Y) (p1 Y (li Y (cv b_43 Y Y Y Y (fun w' hs => (laws_szIntS (rA hs hu6) (by omega) (by omega))) ?_))))))
  refine Pe Y (Cq (Sr (P2 Y Y (Dx (Ci _ Y (fun h13 => ?_) (fun h13 => ?_))))))
  ·have pr13 := odT h13
   refine Sr (Pe Y (Ct (Xr (Ri Y Y ?_))))
   show ((-1) : Int) = _
   unfold szChoice szm at *; repeat (split at * <;> try omega)
  ·have pr13 := odF h13
   have pr13z := szm_val pr13
   refine Sk (Sr (P2 Y Y (Dx (Ct (Ri Y Y ?_)))))
   show ((szm a.Times.length (szm (szMatch a.Match) left)) : Int) = _
   unfold szChoice szm at *; repeat (split at * <;> try omega)
theorem laws_toChoice {w : World} {c_a : List Value} {a : Choice} (h_a : Gd.rd w c_a a) (hn : szChoice a ≤ 1048576) : Calls Tryz.prog 10 [(.agg c_a.toArray)].toArray w (Res w (a : Choice)) := by
 obtain ⟨u1, u3, u5, rfl, hu2, hu4, hu6⟩ := open_Choice h_a
 have hm7 := rd_max hu2
 have hm8 := rd_max hu4
 have hm9 := rd_max hu6
 have hb10 := sub_Choice_Match h_a
 unfold szChoice at hn
 refine enter 22 Tryz.func10 Y Y Y (Sr (li Y (D_box Y Y Y Y Y fun g11 => ?_)))
 refine li Y (D_alloc y_36 Y Y Y Y fun g12 => ?_)
 refine Dx (Dh ([bx g12 [(.string ⟨#[]⟩), (.slice none 0 0), (.slice none 0 0), (iv 0), (.slice none 0 0), (iv 0), (iv 0)], bx g11 [(.string a.Match.Rule), u1, u3, (iv a.Priority), u5, (iv a.Specific), (iv a.Order)]]) Y (Sr (li Y (D_alloc y_36 Y Y Y Y fun g13 => ?_))))
 refine Dx (Dh ([bx g13 [(.string ⟨#[]⟩), (.slice none 0 0), (.slice none 0 0), (iv 0), (.slice none 0 0), (iv 0), (iv 0)], _, _]) Y (Sr (q1 Y (Db f_28_0 Y Y (q := 0) Y) (q1 Y (lba (es := [(.string a.Match.Rule), u1, u3]) 2 a_25 Y Y Y Y) (li Y (crs Y b_48 Y Y Y Y (fun w' hs => (laws_toMatch (rA hs hb10) (by omega))) fun cs14 => ?_))))))
 refine Dp (fun w' hs => shape_Match (rO (k := 0) hs Y)) ?_
 rintro ⟨v15, v16, rfl, ho17, ho18⟩
 refine q1 Y (Db f_36_0 Y Y (q := 0) Y) (li Y (D_stb (vs := [(.string a.Match.Rule), v15, v16]) (cs' := [(.string a.Match.Rule), v15, v16, (iv 0), (.slice none 0 0), (iv 0), (iv 0)]) 1 z_34 Y Y Y Y Y Y (ocons Y (ocons ho17 (ocons ho18 onil))) (by simp) Y ?_))
 refine Dx (Dh ([ov [(.string a.Match.Rule), v15, v16] (a.Match : Match), bx g13 [(.string a.Match.Rule), v15, v16, (iv 0), (.slice none 0 0), (iv 0), (iv 0)], _, _]) Y (Sr (q1 Y (Db f_28_1 Y Y (q := 3) Y) (q1 Y (lb 3 o_3 Y Y Y Y) (q1 Y (Db f_36_1 Y Y (q := 3) Y) (li Y (D_stb (vs := [(iv a.Priority)]) (cs' := [(.string a.Match.Rule), v15, v16, (iv a.Priority), (.slice none 0 0), (iv 0), (iv 0)]) 1 z_3 Y Y Y Y Y Y (ocons Y onil) (by simp) Y ?_)))))))
 refine Dx (Dh ([_, bx g13 [(.string a.Match.Rule), v15, v16, (iv a.Priority), (.slice none 0 0), (iv 0), (iv 0)], _, _]) Y (Sr (q1 Y (Db f_28_2 Y Y (q := 4) Y) (q1 Y (lb 3 o_26 Y Y Y Y) (li Y (crl b_49 Y Y Y Y (fun w' hs => (laws_toIntS (rA hs hu6) (by omega))) fun v19 => ?_))))))
 refine q1 Y (Db f_36_2 Y Y (q := 4) Y) (Dp (fun w' hs => one_own (k := 0) hs Y) ?_)
 intro ho20
 refine li Y (D_stb (vs := [v19]) (cs' := [(.string a.Match.Rule), v15, v16, (iv a.Priority), v19, (iv 0), (iv 0)]) 2 z_26 Y Y Y Y Y (cells_of_one ho20) (ocons ho20 onil) (by simp) Y ?_)
 refine Dx (Dh ([ov [v19] (a.Times : (List Int)), _, bx g13 [(.string a.Match.Rule), v15, v16, (iv a.Priority), v19, (iv 0), (iv 0)], _, _]) Y (Sr (q1 Y (Db f_28_3 Y Y (q := 5) Y) (q1 Y (lb 4 o_3 Y Y Y Y) (q1 Y (Db f_36_3 Y Y (q := 5) Y) (li Y (D_stb (vs := [(iv a.Specific)]) (cs' := [(.string a.Match.Rule), v15, v16, (iv a.Priority), v19, (iv a.Specific), (iv 0)]) 2 z_3 Y Y Y Y Y Y (ocons Y onil) (by simp) Y ?_)))))))
 refine Dx (D_wk [1, 2, 3] Y (Dh ([_, _, bx g13 [(.string a.Match.Rule), v15, v16, (iv a.Priority), v19, (iv a.Specific), (iv 0)], _, _]) Y (Sr (q1 Y (Db f_28_4 Y Y (q := 6) Y) (q1 Y (lb 4 o_3 Y Y Y Y) (q1 Y (Db f_36_4 Y Y (q := 6) Y) (li Y (D_stb (vs := [(iv a.Order)]) (cs' := [(.string a.Match.Rule), v15, v16, (iv a.Priority), v19, (iv a.Specific), (iv a.Order)]) 2 z_3 Y Y Y Y Y Y (ocons Y onil) (by simp) Y ?_))))))))
 refine Dx (Dh ([_, _, bx g13 [(.string a.Match.Rule), v15, v16, (iv a.Priority), v19, (iv a.Specific), (iv a.Order)], _, _]) Y (Sr (q1 Y (lbw 2 a_36 Y Y Y) (li Y (D_stb (vs := [(.string a.Match.Rule), v15, v16, (iv a.Priority), v19, (iv a.Specific), (iv a.Order)]) (cs' := [(.string a.Match.Rule), v15, v16, (iv a.Priority), v19, (iv a.Specific), (iv a.Order)]) 3 z_36 Y Y Y Y Y Y (ocons Y (ocons ho17 (ocons ho18 (ocons Y (ocons ho20 (ocons Y (ocons Y onil))))))) (by simp) Y ?_)))))
 refine Dx (Ct (D_pkO [1, 0, 2, 3, 4] Y (D_unpair (α := ByteArray) (β := (List Fact) × (List Pair)) (c1 := [(.string a.Match.Rule)]) (c2 := [v15, v16]) (x := a.Match.Rule) (y := (a.Match.Facts, a.Match.Binding)) Y Y (D_fd [] 1 Y (D_unpair (α := (List Fact)) (β := (List Pair)) (c1 := [v15]) (c2 := [v16]) (x := a.Match.Facts) (y := (a.Match.Binding)) Y Y (D_fd [1] 0 Y (D_pkO [1, 0, 2, 3, 4, 5] Y (pk_Choice (r := (a : Choice)) (R_c 2 a_36 Y Y Y fun w' hs => res_of (k := 0) hs Y ?_)))))))))
 show (a : Choice) = a
 rfl
theorem laws_eqChoice {w : World} {c_a : List Value} {a : Choice} {c_b : List Value} {b : Choice} (h_a : Gd.rd w c_a a) (h_b : Gd.rd w c_b b) : Calls Tryz.prog 12 [(.agg c_a.toArray), (.agg c_b.toArray)].toArray w (Val w (.bool (decide (a = b)))) := by
 obtain ⟨u1, u3, u5, rfl, hu2, hu4, hu6⟩ := open_Choice h_a
 have hm7 := rd_max hu2
 have hm8 := rd_max hu4
 have hm9 := rd_max hu6
 have hb10 := sub_Choice_Match h_a
 obtain ⟨u11, u13, u15, rfl, hu12, hu14, hu16⟩ := open_Choice h_b
 have hm17 := rd_max hu12
 have hm18 := rd_max hu14
 have hm19 := rd_max hu16
 have hb20 := sub_Choice_Match h_b
 refine enter 32 Tryz.func12 Y Y Y (Sr (li Y (D_box Y Y Y Y Y fun g21 => ?_)))
 refine li Y (D_box Y Y Y Y Y fun g22 => ?_)
 refine Pe Y (Dh ([bx g22 [(.string b.Match.Rule), u11, u13, (iv b.Priority), u15, (iv b.Specific), (iv b.Order)], bx g21 [(.string a.Match.Rule), u1, u3, (iv a.Priority), u5, (iv a.Specific), (iv a.Order)]]) Y (Cq (Sr (q1 Y (Db f_36_0 Y Y (q := 0) Y) (q1 Y (lba (es := [(.string a.Match.Rule), u1, u3]) 1 a_34 Y Y Y Y) (q1 Y (Db f_36_0 Y Y (q := 0) Y) (q1 Y (lba (es := [(.string b.Match.Rule), u11, u13]) 0 a_34 Y Y Y Y) (li Y (cv b_53 Y Y Y Y (fun w' hs => (laws_eqMatch (rA hs hb10) (rA hs hb20))) ?_)))))))))
 refine Pe Y (Ci _ Y (fun h23 => ?_) (fun h23 => ?_))
 ·have h23n := not_t h23
  refine Sr (Pe Y (Ct (Xr (Rb Y Y ?_))))
  cases a; cases b; simp_all
 ·have h23n := not_f h23
  refine Sk (Cq (Sr (q1 Y (Db f_36_1 Y Y (q := 3) Y) (q1 Y (lb 1 o_3 Y Y Y Y) (q1 Y (Db f_36_1 Y Y (q := 3) Y) (q1 Y (lb 0 o_3 Y Y Y Y) (Pe Y (Ci _ Y (fun h24 => ?_) (fun h24 => ?_)))))))))
  ·have pr24 := bne_iff_ne.1 h24
   refine Sr (Pe Y (Ct (Xr (Rb Y Y ?_))))
   cases a; cases b; simp_all
  ·have pr24 := eq_of_bne_f h24
   refine Sk (Cq (Sr (q1 Y (Db f_36_2 Y Y (q := 4) Y) (q1 Y (lb 1 o_26 Y Y Y Y) (q1 Y (Db f_36_2 Y Y (q := 4) Y) (q1 Y (lb 0 o_26 Y Y Y Y) (li Y (cv b_54 Y Y Y Y (fun w' hs => (laws_eqIntS (rA hs hu6) (rA hs hu16))) ?_))))))))
   refine Pe Y (D_wk [2, 3, 21] Y (Ci _ Y (fun h25 => ?_) (fun h25 => ?_)))
   ·have h25n := not_t h25
    refine Sr (Pe Y (Ct (Xr (Rb Y Y ?_))))
    cases a; cases b; simp_all
   ·have h25n := not_f h25
    refine Sk (Cq (Sr (q1 Y (Db f_36_3 Y Y (q := 5) Y) (q1 Y (lb 1 o_3 Y Y Y Y) (q1 Y (Db f_36_3 Y Y (q := 5) Y) (q1 Y (lb 0 o_3 Y Y Y Y) (Pe Y (Ci _ Y (fun h26 => ?_) (fun h26 => ?_)))))))))
    ·have pr26 := bne_iff_ne.1 h26
     refine Sr (Pe Y (Ct (Xr (Rb Y Y ?_))))
     cases a; cases b; simp_all
    ·have pr26 := eq_of_bne_f h26
     refine Sk (Cq (Sr (q1 Y (Db f_36_4 Y Y (q := 6) Y) (q1 Y (lb 1 o_3 Y Y Y Y) (q1 Y (Db f_36_4 Y Y (q := 6) Y) (q1 Y (lb 0 o_3 Y Y Y Y) (Pe Y (Ci _ Y (fun h27 => ?_) (fun h27 => ?_)))))))))
     ·have pr27 := bne_iff_ne.1 h27
      refine Sr (Pe Y (Ct (Xr (Rb Y Y ?_))))
      cases a; cases b; simp_all
     ·have pr27 := eq_of_bne_f h27
      refine Sk (Sr (Pe Y (Ct (Rb Y Y ?_))))
      cases a; cases b; simp_all
end Go.Sy.Cho1
