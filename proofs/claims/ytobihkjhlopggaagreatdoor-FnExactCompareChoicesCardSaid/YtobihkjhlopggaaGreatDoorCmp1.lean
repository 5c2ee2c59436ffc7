/-
  Contracts of functions of the program, walked (printed by a program of ours).
  Conditions: those that each theorem states.
-/
import Derived.Test.YtobihkjhlopggaaGreatDoorFct
import Derived.Test.YtobihkjhlopggaaGreatDoorNum1
import Derived.Test.YtobihkjhlopggaaGreatDoorNum
import Derived.Test.YtobihkjhlopggaaGreatDoorCho1
import Derived.Test.YtobihkjhlopggaaGreatDoorFal2
import Derived.Test.YtobihkjhlopggaaGreatDoorChs
import Derived.Test.YtobihkjhlopggaaGreatDoorOwn2
set_option linter.unusedVariables false
set_option maxRecDepth 20000
namespace Go.Sy.Cmp1
open Go Go.RowKit Go.Proofs Go.Sy
open Go.Sy.Bel1 Go.Sy.Ev1 Go.Sy.Fmt1 Go.Sy.Num1 Go.Sy.Cho1 Go.Sy.Fal2 Go.Sy.Pdqs Go.Sy.Fal1
theorem spec_Falling {w : World} {v_l : Value} {l : (List Int)} (h_l : Gd.rd w [v_l] l) (hl : l.length ≤ 1048576) : Calls Tryz.prog 46 [v_l].toArray w (Res w (fallL l : (List Int))) := by
 have hm1 := rd_max h_l
 refine enter 54 Tryz.func46 Y Y Y (Sr (Pe Y (Sr (li Y (D_bs0 (α := Int) s_26 Y Y Y fun v2 => ?_)))))
 refine Pe Y (Dh ([ov [v2] ([] : (List Int))]) Y (Cq (Sr (Pe Y (Cb (Cl (fun m_ ac w' => ∃ (i : Nat), ∃ (va : Value), (i ≤ l.length) ∧ m_ = l.length - i ∧ Fits ac 54 [(0, v_l), (3, va), (4, (nv i))] ∧ St w ([ov [va] (fallL (l.take i) : (List Int))]) w') ?_ ?_))))))
 ·refine D_eq 0 Y (show ([] : (List Int)) = fallL (l.take 0) from by exact fall_zero l) (fun ac w' hf hs => ⟨_, 0, v2, ?_, Y, hf.wk Y, hs⟩)
  ·omega
 ·rintro m_ ac w' ⟨i, va, hil, rfl, hf, hs⟩
  refine D.use ?_ hf hs
  clear hf hs ac w'
  have hfl : (fallL (l.take i)).length = i := by rw [fall_len, List.length_take]; omega
  refine Cq (Sr (P2 Y Y (q1 Y (Dl s_26 Y Y (rd_sl h_l)) (Pe Y (Dh ([_]) Y (Ci _ Y (fun h3 => ?_) (fun h3 => ?_)))))))
  ·have pr3 := odT h3
   refine Sk (Cq (Cb (Sr (p1 Y (q1 Y (D_leno 0 s_26 Y Y Y) (Pe Y (Sr (P3 Y Y Y ?_))))))))
   obtain ⟨x0, x0h⟩ := sL (l := l) (i := i) (by omega)
   obtain ⟨es4, at5, hr6⟩ := rd_elem (n := 1) rfl h_l x0h
   obtain rfl : es4 = [.int .i64 x0] := hr6
   refine q1 Y (D_ix (l := l) (j := i) s_26 Y Y Y (fun w' hs => (rA hs h_l)) Y (lS x0h)) (q1 Y (lr0 o_3 Y Y at5 Y) (li Y (D_bs s_26 y_3 Y (by decide) (by decide) Y Y Y Y Y Y fun g7 => ?_)))
   refine D_fi x0 (D_pkO [2, 0, 1] Y (li Y (D_ap s_26 y_3 Y (by decide) Y Y Y Y Y Y (by omega) (by omega) fun v8 => ?_)))
   refine Pe Y (Dh ([ov [v8] ((fallL (l.take i)) ++ [x0] : (List Int))]) Y (Cq (Cb (Cl (fun m_ ac w' => ∃ (k : Nat), ∃ (vb : Value), (k ≤ i) ∧ (∀ p, k ≤ p → ∀ y, (fallL (l.take i))[p]? = some y → y < x0) ∧ m_ = k + 1 ∧ Fits ac 54 [(0, v_l), (3, vb), (4, (nv i)), (5, (nv k))] ∧ St w ([ov [vb] (shG (fallL (l.take i)) x0 k : (List Int))]) w') ?_ ?_))))
   ·refine D_eq 0 Y (show ((fallL (l.take i)) ++ [x0] : (List Int)) = shG (fallL (l.take i)) x0 ((fallL (l.take i)).length) from by rw [shG_start, hfl]) (fun ac w' hf hs => ⟨_, (fallL (l.take i)).length, v8, ?_, ?_, Y, hf.wk Y, hs⟩)
    ·omega
    ·intro p hp y hy; have := lS hy; omega
   ·rintro m_ ac w' ⟨k, vb, hki, hlo, rfl, hf, hs⟩
    refine D.use ?_ hf hs
    clear hf hs ac w'
    have hsl : (shG (fallL (l.take i)) x0 k).length = i + 1 := by rw [shG_len (by omega)]; omega
    refine Cq (Cq (C_draw mixed [] (by kernel_rfl) (Tk 0 Y (by kernel_rfl) Y (rp Y) (Tk 1 Y (by kernel_rfl) Y (rp Y) (Tk 2 Y (by kernel_rfl) Y (rp Y) (gs 24 Y Y (fun h9 => ?_) (fun h9 => ?_)))))))
    ·have pr9 := odT h9
     refine Tk 3 Y (by kernel_rfl) Y (rp Y) (Tk 4 Y (by kernel_rfl) Y (rp Y) (Tk 5 Y (by kernel_rfl) Y (D_sub Y Y Y (r := ((k - 1 : Nat) : Int)) (by omega) (by omega)) ?_))
     obtain ⟨y0, y0h⟩ := sL (l := (shG (fallL (l.take i)) x0 k)) (i := (k - 1)) (by omega)
     refine Tk 6 Y (by kernel_rfl) Y (D_ix (l := (shG (fallL (l.take i)) x0 k)) (j := (k - 1)) s_26 Y Y Y (fun w' hs => (rO (k := 0) hs Y)) Y (lS y0h)) (Tk 7 Y (by kernel_rfl) Y (lo (α := Int) 0 o_3 Y Y Y y0h) (Tk 8 Y (by kernel_rfl) Y (rp Y) (Tk 9 Y (by kernel_rfl) Y (rp Y) (Tk 10 Y (by kernel_rfl) Y (D_ix (l := l) (j := i) s_26 Y Y Y (fun w' hs => (rA hs h_l)) Y (lS x0h)) (Tk 11 Y (by kernel_rfl) Y (lr0 o_3 Y Y at5 Y) (Tk 12 Y (by kernel_rfl) Y (rp Y) (Tk 13 Y (by kernel_rfl) Y (rp Y) (tE (by kernel_rfl) (Xt (Dh ([_]) Y (Ci _ Y (fun h10 => ?_) (fun h10 => ?_))))))))))))
     ·have pr10 := odT h10
      refine Sk (Cb (Sr (P3 Y Y Y (p1 Y (q1 Y (D_sub Y Y Y (r := ((k - 1 : Nat) : Int)) (by omega) (by omega)) (q1 Y (D_ix (l := (shG (fallL (l.take i)) x0 k)) (j := (k - 1)) s_26 Y Y Y (fun w' hs => (rO (k := 0) hs Y)) Y (lS y0h)) (q1 Y (lo (α := Int) 0 o_3 Y Y Y y0h) ?_)))))))
      obtain ⟨x11, hx12⟩ := sL (l := (shG (fallL (l.take i)) x0 k)) (i := k) (by omega)
      refine q1 Y (D_ix (l := (shG (fallL (l.take i)) x0 k)) (j := k) s_26 Y Y Y (fun w' hs => (rO (k := 0) hs Y)) Y (lS hx12)) (li Y (so (α := Int) (z := y0) 0 z_3 Y Y Y Y Y (lS hx12) ?_))
      refine Dx (D_wk [0, 3, 4, 5] Y (Dh ([ov [vb] ((shG (fallL (l.take i)) x0 k).set k y0 : (List Int))]) Y (Cr (p1 Y (q1 Y (D_sub Y Y Y (r := ((k - 1 : Nat) : Int)) (by omega) (by omega)) (p1 Y (De (Xb (Xt (D_eq 0 Y (show ((shG (fallL (l.take i)) x0 k).set k y0 : (List Int)) = shG (fallL (l.take i)) x0 (k - 1) from by exact shG_step (by omega) (by omega) y0h) (fun ac w' hf hs => ⟨_, ?_, k - 1, vb, ?_, ?_, Y, hf.wk Y, hs⟩)))))))))))
      ·omega
      ·omega
      ·exact shG_lo (p := (· < x0)) ⟨by omega, by omega⟩ hlo y0h (by omega)
     ·have pr10 := odF h10
      refine Cx (Xx (Xx (Xe (Xt (Cr (P3 Y Y Y (p1 Y (q1 Y (D_ix (l := l) (j := i) s_26 Y Y Y (fun w' hs => (rA hs h_l)) Y (lS x0h)) (q1 Y (lr0 o_3 Y Y at5 Y) ?_)))))))))
      obtain ⟨x13, hx14⟩ := sL (l := (shG (fallL (l.take i)) x0 k)) (i := k) (by omega)
      refine q1 Y (D_ix (l := (shG (fallL (l.take i)) x0 k)) (j := k) s_26 Y Y Y (fun w' hs => (rO (k := 0) hs Y)) Y (lS hx14)) (li Y (so (α := Int) (z := x0) 0 z_3 Y Y Y Y Y (lS hx14) ?_))
      refine De (Xb (Xt (D_wk [0, 3, 4] Y (Dh ([ov [vb] ((shG (fallL (l.take i)) x0 k).set k x0 : (List Int))]) Y (Cr (p1 Y (q1 Y (D_add Y Y Y (r := ((i + 1 : Nat) : Int)) (by omega) (by omega)) (Pe Y (D_eq 0 Y (show ((shG (fallL (l.take i)) x0 k).set k x0 : (List Int)) = fallL (l.take (i + 1)) from by exact fall_s x0h hki hlo (by exact .inr ⟨_, y0h, by omega⟩)) (fun ac w' hf hs => ⟨_, ?_, i + 1, vb, ?_, Y, hf.wk Y, hs⟩))))))))))
      ·omega
      ·omega
    ·have pr9 := odF h9
     refine tn 3 Y (by kernel_rfl) (by kernel_rfl) (by kernel_rfl) Y Y Y (fun _ hs => hs) (tn 4 Y (by kernel_rfl) (by kernel_rfl) (by kernel_rfl) Y Y Y (fun _ hs => hs) (tn 5 Y (by kernel_rfl) (by kernel_rfl) (by kernel_rfl) Y Y Y (fun _ hs => hs) (tn 6 Y (by kernel_rfl) (by kernel_rfl) (by kernel_rfl) Y Y Y (fun _ hs => hs) (tn 7 Y (by kernel_rfl) (by kernel_rfl) (by kernel_rfl) Y Y Y (fun _ hs => hs) (tn 8 Y (by kernel_rfl) (by kernel_rfl) (by kernel_rfl) Y Y Y (fun _ hs => hs) (tn 9 Y (by kernel_rfl) (by kernel_rfl) (by kernel_rfl) Y Y Y (fun _ hs => hs) (tn 10 Y (by kernel_rfl) (by kernel_rfl) (by kernel_rfl) Y Y Y (fun _ hs => hs) (tn 11 Y (by kernel_rfl) (by kernel_rfl) (by kernel_rfl) Y Y Y (fun _ hs => hs) (tn 12 Y (by kernel_rfl) (by kernel_rfl) (by kernel_rfl) Y Y Y (fun _ hs => hs) (Tk 13 Y (by kernel_rfl) Y (rp Y) (tE (by kernel_rfl) (Xt (Dh ([_]) Y (C_f Y (Cx (Xx (Xx (Xe (Xt (Cr (P3 Y Y Y (p1 Y (q1 Y (D_ix (l := l) (j := i) s_26 Y Y Y (fun w' hs => (rA hs h_l)) Y (lS x0h)) (q1 Y (lr0 o_3 Y Y at5 Y) ?_))))))))))))))))))))))))
     obtain ⟨x15, hx16⟩ := sL (l := (shG (fallL (l.take i)) x0 k)) (i := k) (by omega)
     refine q1 Y (D_ix (l := (shG (fallL (l.take i)) x0 k)) (j := k) s_26 Y Y Y (fun w' hs => (rO (k := 0) hs Y)) Y (lS hx16)) (li Y (so (α := Int) (z := x0) 0 z_3 Y Y Y Y Y (lS hx16) ?_))
     refine De (Xb (Xt (D_wk [0, 3, 4] Y (Dh ([ov [vb] ((shG (fallL (l.take i)) x0 k).set k x0 : (List Int))]) Y (Cr (p1 Y (q1 Y (D_add Y Y Y (r := ((i + 1 : Nat) : Int)) (by omega) (by omega)) (Pe Y (D_eq 0 Y (show ((shG (fallL (l.take i)) x0 k).set k x0 : (List Int)) = fallL (l.take (i + 1)) from by exact fall_s x0h hki hlo (by left; omega)) (fun ac w' hf hs => ⟨_, ?_, i + 1, vb, ?_, Y, hf.wk Y, hs⟩))))))))))
     ·omega
     ·omega
  ·have pr3 := odF h3
   refine Cx (Xx (Xx (Xe (Xt (Sr (P2 Y Y (Dx (Ct (R_1 Y Y fun w' hs => res_of (k := 0) hs Y ?_)))))))))
   show fallL (l.take i) = fallL l
   exact fall_done (by omega)
theorem spec_l9Int {w : World} {a : Int} {b : Int} : Calls Tryz.prog 44 [(iv a), (iv b)].toArray w (Val w (iv (cmZ a b))) := by
 refine enter 13 Tryz.func44 Y Y Y (Sr (Pe Y (Cq (Cb (Sr (P3 Y Y Y (Pe Y (Ci _ Y (fun h1 => ?_) (fun h1 => ?_)))))))))
 ·have pr1 := odT h1
  refine Sr (Pe Y (Ct (Xq (Xr (Ri Y Y ?_)))))
  show ((-1) : Int) = _
  unfold cmZ; repeat (split <;> try omega)
 ·have pr1 := odF h1
  refine Sr (P3 Y Y Y (Pe Y (Ci _ Y (fun h2 => ?_) (fun h2 => ?_))))
  ·have pr2 := odT h2
   refine Sr (Pe Y (Ct (Xq (Xr (Ri Y Y ?_)))))
   show (1 : Int) = _
   unfold cmZ; repeat (split <;> try omega)
  ·have pr2 := odF h2
   refine Ck (Xb (Xt (Sr (Pe Y (Ct (Ri Y Y ?_))))))
   show (0 : Int) = _
   unfold cmZ; repeat (split <;> try omega)
theorem spec_l9Recency {w : World} {v_a : Value} {a : (List Int)} {v_b : Value} {b : (List Int)} (h_a : Gd.rd w [v_a] a) (h_b : Gd.rd w [v_b] b) : Calls Tryz.prog 45 [v_a, v_b].toArray w (Val w (iv (recL a b))) := by
 have hm1 := rd_max h_a
 have hm2 := rd_max h_b
 refine enter 43 Tryz.func45 Y Y Y (Sr (Pe Y (Cq (Sr (Pe Y (Cb (Cl (fun m_ ac w' => ∃ (k : Nat), (k ≤ a.length) ∧ (k ≤ b.length) ∧ (∀ i, i < k → a[i]? = b[i]?) ∧ m_ = a.length - k ∧ Fits ac 43 [(0, v_a), (1, v_b), (5, (nv k))] ∧ St w ([]) w') ?_ ?_)))))))
 ·refine fun ac w' hf hs => ⟨_, 0, ?_, ?_, ?_, Y, hf.wk Y, hs⟩
  ·omega
  ·omega
  ·intro i hi; omega
 ·rintro m_ ac w' ⟨k, hka, hkb, hi, rfl, hf, hs⟩
  refine D.use ?_ hf hs
  clear hf hs ac w'
  refine Cq (Sr (P2 Y Y (q1 Y (Dl s_26 Y Y (rd_sl h_a)) (P2 Y Y (gs 10 Y Y (fun h3 => ?_) (fun h3 => ?_))))))
  ·have pr3 := odT h3
   refine P2 Y Y (q1 Y (Dl s_26 Y Y (rd_sl h_b)) (P2 Y Y (Dx (Ci _ Y (fun h4 => ?_) (fun h4 => ?_)))))
   ·have pr4 := odT h4
    refine Sk (Cq (Cb (Cb (Cq (C_draw mixed [] (by kernel_rfl) (Tk 0 Y (by kernel_rfl) Y (rp Y) (Tk 1 Y (by kernel_rfl) Y (rp Y) ?_)))))))
    obtain ⟨x0, x0h⟩ := sL (l := a) (i := k) (by omega)
    obtain ⟨es5, at6, hr7⟩ := rd_elem (n := 1) rfl h_a x0h
    obtain rfl : es5 = [.int .i64 x0] := hr7
    refine Tk 2 Y (by kernel_rfl) Y (D_ix (l := a) (j := k) s_26 Y Y Y (fun w' hs => (rA hs h_a)) Y (lS x0h)) (Tk 3 Y (by kernel_rfl) Y (lr0 o_3 Y Y at6 Y) (Tk 4 Y (by kernel_rfl) Y (rp Y) (Tk 5 Y (by kernel_rfl) Y (rp Y) ?_)))
    obtain ⟨y0, y0h⟩ := sL (l := b) (i := k) (by omega)
    obtain ⟨es8, at9, hr10⟩ := rd_elem (n := 1) rfl h_b y0h
    obtain rfl : es8 = [.int .i64 y0] := hr10
    refine Tk 6 Y (by kernel_rfl) Y (D_ix (l := b) (j := k) s_26 Y Y Y (fun w' hs => (rA hs h_b)) Y (lS y0h)) (Tk 7 Y (by kernel_rfl) Y (lr0 o_3 Y Y at9 Y) (Tk 8 Y (by kernel_rfl) Y (rp Y) (Tk 9 Y (by kernel_rfl) Y (rp Y) (tE (by kernel_rfl) (Xt (D_wk [0, 1, 5, 18] Y (Ci _ Y (fun h11 => ?_) (fun h11 => ?_))))))))
    ·have pr11 := odT h11
     refine Sr (Pe Y (Ct (Xq (Xq (Xr (Xr (Xq (Xr (Ri Y Y ?_)))))))))
     show ((-1) : Int) = _
     rw [recL_at hi x0h y0h (by omega)]; unfold cmZ; repeat (split <;> try omega)
    ·have pr11 := odF h11
     refine Cq (C_draw mixed [] (by kernel_rfl) (Tk 0 Y (by kernel_rfl) Y (rp Y) (Tk 1 Y (by kernel_rfl) Y (rp Y) (Tk 2 Y (by kernel_rfl) Y (D_ix (l := a) (j := k) s_26 Y Y Y (fun w' hs => (rA hs h_a)) Y (lS x0h)) (Tk 3 Y (by kernel_rfl) Y (lr0 o_3 Y Y at6 Y) (Tk 4 Y (by kernel_rfl) Y (rp Y) (Tk 5 Y (by kernel_rfl) Y (rp Y) (Tk 6 Y (by kernel_rfl) Y (D_ix (l := b) (j := k) s_26 Y Y Y (fun w' hs => (rA hs h_b)) Y (lS y0h)) (Tk 7 Y (by kernel_rfl) Y (lr0 o_3 Y Y at9 Y) (Tk 8 Y (by kernel_rfl) Y (rp Y) (Tk 9 Y (by kernel_rfl) Y (rp Y) (tE (by kernel_rfl) (Xt (Ci _ Y (fun h12 => ?_) (fun h12 => ?_)))))))))))))))
     ·have pr12 := odT h12
      refine Sr (Pe Y (Ct (Xq (Xq (Xr (Xr (Xq (Xr (Ri Y Y ?_)))))))))
      show (1 : Int) = _
      rw [recL_at hi x0h y0h (by omega)]; unfold cmZ; repeat (split <;> try omega)
     ·have pr12 := odF h12
      refine Ck (Xb (Xb (Xt (Cr (p1 Y (q1 Y (D_add Y Y Y (r := ((k + 1 : Nat) : Int)) (by omega) (by omega)) (Pe Y (fun ac w' hf hs => ⟨_, ?_, k + 1, ?_, ?_, ?_, Y, hf.wk Y, hs⟩))))))))
      ·omega
      ·omega
      ·omega
      ·exact idx_step hi x0h y0h (by omega)
   ·have pr4 := odF h4
    refine Cx (Xx (Xx (Xe (Xt (Sr (p1 Y (q1 Y (Dl s_26 Y Y (rd_sl h_b)) (p1 Y (q1 Y (Dl s_26 Y Y (rd_sl h_a)) (li Y (cv b_44 Y Y Y Y (fun w' hs => spec_l9Int) ?_)))))))))))
    refine Pe Y (Ct (Ri Y Y ?_))
    show ((cmZ ((b.length : Nat) : Int) ((a.length : Nat) : Int)) : Int) = _
    exact (recL_end (fun i h1 h2 => hi i (by omega))).symm
  ·have pr3 := odF h3
   refine n1 Y (n1 Y (n1 Y (n1 Y (Pe Y (C_f Y (Cx (Xx (Xx (Xe (Xt (Sr (p1 Y (q1 Y (Dl s_26 Y Y (rd_sl h_b)) (p1 Y (q1 Y (Dl s_26 Y Y (rd_sl h_a)) (li Y (cv b_44 Y Y Y Y (fun w' hs => spec_l9Int) ?_)))))))))))))))))
   refine Pe Y (Ct (Ri Y Y ?_))
   show ((cmZ ((b.length : Nat) : Int) ((a.length : Nat) : Int)) : Int) = _
   exact (recL_end (fun i h1 h2 => hi i (by omega))).symm
theorem impl_compareFactLists {w : World} {v_a : Value} {a : (List Fact)} {v_b : Value} {b : (List Fact)} (h_a : Gd.rd w [v_a] a) (h_b : Gd.rd w [v_b] b) (htb : Tb w) : Calls Tryz.prog 52 [v_a, v_b].toArray w (Val w (iv (cmpT a b))) := by
 have hm1 := rd_max h_a
 have hm2 := rd_max h_b
 refine enter 36 Tryz.func52 Y Y Y (Sr (Pe Y (Cq (Sr (Pe Y (Cb (Cl (fun m_ ac w' => ∃ (k : Nat), (k ≤ a.length) ∧ (k ≤ b.length) ∧ (∀ i, i < k → ∀ u v, a[i]? = some u → b[i]? = some v → cmpF u v = 0) ∧ m_ = a.length - k ∧ Fits ac 36 [(0, v_a), (1, v_b), (5, (nv k))] ∧ St w ([]) w') ?_ ?_)))))))
 ·refine fun ac w' hf hs => ⟨_, 0, ?_, ?_, ?_, Y, hf.wk Y, hs⟩
  ·omega
  ·omega
  ·intro i hi; omega
 ·rintro m_ ac w' ⟨k, hka, hkb, hi, rfl, hf, hs⟩
  refine D.use ?_ hf hs
  clear hf hs ac w'
  refine Cq (Sr (P2 Y Y (q1 Y (Dl s_31 Y Y (rd_sl h_a)) (P2 Y Y (gs 11 Y Y (fun h3 => ?_) (fun h3 => ?_))))))
  ·have pr3 := odT h3
   refine P2 Y Y (q1 Y (Dl s_31 Y Y (rd_sl h_b)) (P2 Y Y (Dx (Ci _ Y (fun h4 => ?_) (fun h4 => ?_)))))
   ·have pr4 := odT h4
    refine Sk (Cq (Cb (Cq (C_draw mixed [8, 9] (by kernel_rfl) (Tk 0 Y (by kernel_rfl) Y (rp Y) (Tk 1 Y (by kernel_rfl) Y (rp Y) ?_))))))
    obtain ⟨x0, x0h⟩ := sL (l := a) (i := k) (by omega)
    obtain ⟨es5, at6, hr7⟩ := rd_elem (n := 2) rfl h_a x0h
    obtain ⟨u9, rfl, hu10⟩ := open_Fact hr7
    have hm11 := rd_max hu10
    refine Tk 2 Y (by kernel_rfl) Y (D_ix (l := a) (j := k) s_31 Y Y Y (fun w' hs => (rA hs h_a)) Y (lS x0h)) (Tk 3 Y (by kernel_rfl) Y (lra a_124 Y Y at6) (Tk 4 Y (by kernel_rfl) Y (rp Y) (Tk 5 Y (by kernel_rfl) Y (rp Y) ?_)))
    obtain ⟨y0, y0h⟩ := sL (l := b) (i := k) (by omega)
    obtain ⟨es12, at13, hr14⟩ := rd_elem (n := 2) rfl h_b y0h
    obtain ⟨u15, rfl, hu16⟩ := open_Fact hr14
    have hm17 := rd_max hu16
    refine Tk 6 Y (by kernel_rfl) Y (D_ix (l := b) (j := k) s_31 Y Y Y (fun w' hs => (rA hs h_b)) Y (lS y0h)) (Tk 7 Y (by kernel_rfl) Y (lra a_124 Y Y at13) (ty 8 Y (by kernel_rfl) Y (cv b_102 Y Y Y Y (fun w' hs => (impl_CompareFacts (rA hs hr7) (rA hs hr14) (Tb.ext htb hs.bel))) ?_)))
    refine tZ Y (ty 9 Y (by kernel_rfl) Y (sv Y Y (rp Y) ?_))
    refine tZ Y (tE (by kernel_rfl) (Xt (D_wk [0, 1, 5, 6] Y (Sr (P2 Y Y (Dx (Ci _ Y (fun h18 => ?_) (fun h18 => ?_))))))))
    ·have pr18 := bne_iff_ne.1 h18
     refine Sr (P2 Y Y (Dx (Ct (Xq (Xr (Xr (Xq (Xr (Ri Y Y ?_)))))))))
     show ((cmpF x0 y0) : Int) = _
     exact cmpT_at hi x0h y0h (by omega)
    ·have pr18 := eq_of_bne_f h18
     refine Ck (Xb (Xt (Cr (p1 Y (q1 Y (D_add Y Y Y (r := ((k + 1 : Nat) : Int)) (by omega) (by omega)) (Pe Y (fun ac w' hf hs => ⟨_, ?_, k + 1, ?_, ?_, ?_, Y, hf.wk Y, hs⟩)))))))
     ·omega
     ·omega
     ·omega
     ·refine forall_step hi ?_; intro x y hx hy; obtain rfl : x = x0 := Option.some.inj (hx.symm.trans x0h); obtain rfl : y = y0 := Option.some.inj (hy.symm.trans y0h); omega
   ·have pr4 := odF h4
    refine Cx (Xx (Xx (Xe (Xt (Sr (p1 Y (q1 Y (Dl s_31 Y Y (rd_sl h_a)) (p1 Y (q1 Y (Dl s_31 Y Y (rd_sl h_b)) (li Y (cv b_50 Y Y Y Y (fun w' hs => impl_compareInts) ?_)))))))))))
    refine Pe Y (Ct (Ri Y Y ?_))
    show ((cmZ ((a.length : Nat) : Int) ((b.length : Nat) : Int)) : Int) = _
    exact cmpT_end (fun i h1 h2 => hi i (by omega))
  ·have pr3 := odF h3
   refine n1 Y (n1 Y (n1 Y (n1 Y (Pe Y (C_f Y (Cx (Xx (Xx (Xe (Xt (Sr (p1 Y (q1 Y (Dl s_31 Y Y (rd_sl h_a)) (p1 Y (q1 Y (Dl s_31 Y Y (rd_sl h_b)) (li Y (cv b_50 Y Y Y Y (fun w' hs => impl_compareInts) ?_)))))))))))))))))
   refine Pe Y (Ct (Ri Y Y ?_))
   show ((cmZ ((a.length : Nat) : Int) ((b.length : Nat) : Int)) : Int) = _
   exact cmpT_end (fun i h1 h2 => hi i (by omega))
set_option maxHeartbeats 4000000 in
theorem spec_CompareTokens {w : World} {c_a : List Value} {a : Token} {c_b : List Value} {b : Token} (h_a : Gd.rd w c_a a) (h_b : Gd.rd w c_b b) : Calls Tryz.prog 47 [(.agg c_a.toArray), (.agg c_b.toArray)].toArray w (Val w (iv (cmpT a.Facts b.Facts))) := by
 obtain ⟨u1, u3, rfl, hu2, hu4⟩ := open_Token h_a
 have hm5 := rd_max hu2
 have hm6 := rd_max hu4
 obtain ⟨u7, u9, rfl, hu8, hu10⟩ := open_Token h_b
 have hm11 := rd_max hu8
 have hm12 := rd_max hu10
 refine enter 51 Tryz.func47 Y Y Y (Sr (li Y (D_box Y Y Y Y Y fun g13 => ?_)))
 refine li Y (D_box Y Y Y Y Y fun g14 => ?_)
 refine Pe Y (Dh ([bx g14 [u7, u9], bx g13 [u1, u3]]) Y (Cq (Sr (Pe Y (Cb (Cl (fun m_ ac w' => ∃ (k : Nat), (k ≤ a.Facts.length) ∧ (k ≤ b.Facts.length) ∧ (∀ i, i < k → ∀ u v, a.Facts[i]? = some u → b.Facts[i]? = some v → cmpF u v = 0) ∧ m_ = a.Facts.length - k ∧ Fits ac 51 [(2, (pv g13)), (3, (pv g14)), (5, (nv k))] ∧ St w ([bx g14 [u7, u9], bx g13 [u1, u3]]) w') ?_ ?_))))))
 ·refine fun ac w' hf hs => ⟨_, 0, ?_, ?_, ?_, Y, hf.wk Y, hs⟩
  ·omega
  ·omega
  ·intro i hi; omega
 ·rintro m_ ac w' ⟨k, hka, hkb, hi, rfl, hf, hs⟩
  refine D.use ?_ hf hs
  clear hf hs ac w'
  refine Cq (Sr (p1 Y (q1 Y (Db f_88_0 Y Y (q := 0) Y) (q1 Y (lb 1 o_31 Y Y Y Y) (q1 Y (Dl s_31 Y Y (rd_sl hu2)) (P2 Y Y (gs 12 Y Y (fun h15 => ?_) (fun h15 => ?_))))))))
  ·have pr15 := odT h15
   refine p1 Y (q1 Y (Db f_88_0 Y Y (q := 0) Y) (q1 Y (lb 0 o_31 Y Y Y Y) (q1 Y (Dl s_31 Y Y (rd_sl hu8)) (P2 Y Y (Dx (Ci _ Y (fun h16 => ?_) (fun h16 => ?_)))))))
   ·have pr16 := odT h16
    refine Sk (Cq (Cb (Cq (C_draw mixed [10, 11] (by kernel_rfl) (Tk 0 Y (by kernel_rfl) Y (Db f_88_0 Y Y (q := 0) Y) (Tk 1 Y (by kernel_rfl) Y (lb 1 o_31 Y Y Y Y) (Tk 2 Y (by kernel_rfl) Y (rp Y) ?_)))))))
    obtain ⟨x0, x0h⟩ := sL (l := a.Facts) (i := k) (by omega)
    obtain ⟨es17, at18, hr19⟩ := rd_elem (n := 2) rfl hu2 x0h
    obtain ⟨u20, rfl, hu21⟩ := open_Fact hr19
    have hm22 := rd_max hu21
    refine Tk 3 Y (by kernel_rfl) Y (D_ix (l := a.Facts) (j := k) s_31 Y Y Y (fun w' hs => (rA hs hu2)) Y (lS x0h)) (Tk 4 Y (by kernel_rfl) Y (lra a_124 Y Y at18) (Tk 5 Y (by kernel_rfl) Y (Db f_88_0 Y Y (q := 0) Y) (Tk 6 Y (by kernel_rfl) Y (lb 0 o_31 Y Y Y Y) (Tk 7 Y (by kernel_rfl) Y (rp Y) ?_))))
    obtain ⟨y0, y0h⟩ := sL (l := b.Facts) (i := k) (by omega)
    obtain ⟨es23, at24, hr25⟩ := rd_elem (n := 2) rfl hu8 y0h
    obtain ⟨u26, rfl, hu27⟩ := open_Fact hr25
    have hm28 := rd_max hu27
    refine Tk 8 Y (by kernel_rfl) Y (D_ix (l := b.Facts) (j := k) s_31 Y Y Y (fun w' hs => (rA hs hu8)) Y (lS y0h)) (Tk 9 Y (by kernel_rfl) Y (lra a_124 Y Y at24) (ty 10 Y (by kernel_rfl) Y (cv b_96 Y Y Y Y (fun w' hs => (spec_CompareFacts (rA hs hr19) (rA hs hr25))) ?_)))
    refine tZ Y (ty 11 Y (by kernel_rfl) Y (sv Y Y (rp Y) ?_))
    refine tZ Y (tE (by kernel_rfl) (Xt (D_wk [2, 3, 5, 6] Y (Sr (P2 Y Y (Dx (Ci _ Y (fun h29 => ?_) (fun h29 => ?_))))))))
    ·have pr29 := bne_iff_ne.1 h29
     refine Sr (P2 Y Y (Dx (Ct (Xq (Xr (Xr (Xq (Xr (Ri Y Y ?_)))))))))
     show ((cmpF x0 y0) : Int) = _
     exact cmpT_at hi x0h y0h (by omega)
    ·have pr29 := eq_of_bne_f h29
     refine Ck (Xb (Xt (Cr (p1 Y (q1 Y (D_add Y Y Y (r := ((k + 1 : Nat) : Int)) (by omega) (by omega)) (Pe Y (fun ac w' hf hs => ⟨_, ?_, k + 1, ?_, ?_, ?_, Y, hf.wk Y, hs⟩)))))))
     ·omega
     ·omega
     ·omega
     ·refine forall_step hi ?_; intro x y hx hy; obtain rfl : x = x0 := Option.some.inj (hx.symm.trans x0h); obtain rfl : y = y0 := Option.some.inj (hy.symm.trans y0h); omega
   ·have pr16 := odF h16
    refine Cx (Xx (Xx (Xe (Xt (Cq (Cb (Sr (q1 Y (Db f_88_0 Y Y (q := 0) Y) (q1 Y (lb 1 o_31 Y Y Y Y) (q1 Y (Dl s_31 Y Y (rd_sl hu2)) (q1 Y (Db f_88_0 Y Y (q := 0) Y) (q1 Y (lb 0 o_31 Y Y Y Y) (q1 Y (Dl s_31 Y Y (rd_sl hu8)) (P2 Y Y (Dx (D_wk [2, 3, 35] Y (Ci _ Y (fun h30 => ?_) (fun h30 => ?_))))))))))))))))))
    ·have pr30 := odT h30
     refine Sr (Pe Y (Ct (Xq (Xr (Ri Y Y ?_)))))
     show ((-1) : Int) = _
     rw [← cmpT_end (fun i h1 h2 => hi i (by omega))]; unfold cmZ; repeat (split <;> try omega)
    ·have pr30 := odF h30
     refine Sr (q1 Y (Db f_88_0 Y Y (q := 0) Y) (q1 Y (lb 1 o_31 Y Y Y Y) (q1 Y (Dl s_31 Y Y (rd_sl hu2)) (q1 Y (Db f_88_0 Y Y (q := 0) Y) (q1 Y (lb 0 o_31 Y Y Y Y) (q1 Y (Dl s_31 Y Y (rd_sl hu8)) (P2 Y Y (Dx (Ci _ Y (fun h31 => ?_) (fun h31 => ?_))))))))))
     ·have pr31 := odT h31
      refine Sr (Pe Y (Ct (Xq (Xr (Ri Y Y ?_)))))
      show (1 : Int) = _
      rw [← cmpT_end (fun i h1 h2 => hi i (by omega))]; unfold cmZ; repeat (split <;> try omega)
     ·have pr31 := odF h31
      refine Ck (Xb (Xt (Sr (Pe Y (Ct (Ri Y Y ?_))))))
      show (0 : Int) = _
      rw [← cmpT_end (fun i h1 h2 => hi i (by omega))]; unfold cmZ; repeat (split <;> try omega)
  ·have pr15 := odF h15
   refine n1 Y (n1 Y (n1 Y (n1 Y (n1 Y (Pe Y (C_f Y (Cx (Xx (Xx (Xe (Xt (Cq (Cb (Sr (q1 Y (Db f_88_0 Y Y (q := 0) Y) (q1 Y (lb 1 o_31 Y Y Y Y) (q1 Y (Dl s_31 Y Y (rd_sl hu2)) (q1 Y (Db f_88_0 Y Y (q := 0) Y) (q1 Y (lb 0 o_31 Y Y Y Y) (q1 Y (Dl s_31 Y Y (rd_sl hu8)) ?_))))))))))))))))))))
   refine P2 Y Y (Dx (D_wk [2, 3, 35] Y (Ci _ Y (fun h32 => ?_) (fun h32 => ?_))))
   ·have pr32 := odT h32
    refine Sr (Pe Y (Ct (Xq (Xr (Ri Y Y ?_)))))
    show ((-1) : Int) = _
    rw [← cmpT_end (fun i h1 h2 => hi i (by omega))]; unfold cmZ; repeat (split <;> try omega)
   ·have pr32 := odF h32
    refine Sr (q1 Y (Db f_88_0 Y Y (q := 0) Y) (q1 Y (lb 1 o_31 Y Y Y Y) (q1 Y (Dl s_31 Y Y (rd_sl hu2)) (q1 Y (Db f_88_0 Y Y (q := 0) Y) (q1 Y (lb 0 o_31 Y Y Y Y) (q1 Y (Dl s_31 Y Y (rd_sl hu8)) (P2 Y Y (Dx (Ci _ Y (fun h33 => ?_) (fun h33 => ?_))))))))))
    ·have pr33 := odT h33
     refine Sr (Pe Y (Ct (Xq (Xr (Ri Y Y ?_)))))
     show (1 : Int) = _
     rw [← cmpT_end (fun i h1 h2 => hi i (by omega))]; unfold cmZ; repeat (split <;> try omega)
    ·have pr33 := odF h33
     refine Ck (Xb (Xt (Sr (Pe Y (Ct (Ri Y Y ?_))))))
     show (0 : Int) = _
     rw [← cmpT_end (fun i h1 h2 => hi i (by omega))]; unfold cmZ; repeat (split <;> try omega)
set_option maxHeartbeats 4000000 in
theorem impl_CompareChoices {w : World} {c_a : List Value} {a : Choice} {c_b : List Value} {b : Choice} (h_a : Gd.rd w c_a a) (h_b : Gd.rd w c_b b) (htb : Tb w) (hta : a.Times.length ≤ 1048576) (htq : b.Times.length ≤ 1048576) : Calls Tryz.prog 11 [(.agg c_a.toArray), (.agg c_b.toArray)].toArray w (Val w (iv (cmpC a b))) := by
 obtain ⟨u1, u3, u5, rfl, hu2, hu4, hu6⟩ := open_Choice h_a
 have hm7 := rd_max hu2
 have hm8 := rd_max hu4
 have hm9 := rd_max hu6
 have hb10 := sub_Choice_Match h_a
 obtain ⟨u11, u13, u15, rfl, hu12, hu14, hu16⟩ := open_Choice h_b
 have hm17 := rd_max hu12
 have hm18 := rd_max hu14
 have hm19 := rd_max hu16
 have hb20 := sub_Choice_Match h_b
 have hfa := fall_len a.Times
 have hfb := fall_len b.Times
 refine enter 91 Tryz.func11 Y Y Y (Sr (li Y (D_box Y Y Y Y Y fun g21 => ?_)))
 refine li Y (D_box Y Y Y Y Y fun g22 => ?_)
 refine Pe Y (Dh ([bx g22 [(.string b.Match.Rule), u11, u13, (iv b.Priority), u15, (iv b.Specific), (iv b.Order)], bx g21 [(.string a.Match.Rule), u1, u3, (iv a.Priority), u5, (iv a.Specific), (iv a.Order)]]) Y (Cq (Sr (q1 Y (Db f_36_1 Y Y (q := 3) Y) (q1 Y (lb 1 o_3 Y Y Y Y) (q1 Y (Db f_36_1 Y Y (q := 3) Y) (q1 Y (lb 0 o_3 Y Y Y Y) (Pe Y (Ci _ Y (fun h23 => ?_) (fun h23 => ?_))))))))))
 ·have pr23 := bne_iff_ne.1 h23
  refine Sr (q1 Y (Db f_36_1 Y Y (q := 3) Y) (q1 Y (lb 0 o_3 Y Y Y Y) (q1 Y (Db f_36_1 Y Y (q := 3) Y) (q1 Y (lb 1 o_3 Y Y Y Y) (li Y (cv b_50 Y Y Y Y (fun w' hs => impl_compareInts) ?_))))))
  refine Pe Y (Ct (Xr (Ri Y Y ?_)))
  show ((cmZ b.Priority a.Priority) : Int) = _
  exact cmpC1 (by omega)
 ·have pr23 := eq_of_bne_f h23
  refine Sk (Cq (C_draw mixed [5, 6, 7] (by kernel_rfl) (Tk 0 Y (by kernel_rfl) Y (Db f_36_2 Y Y (q := 4) Y) (Tk 1 Y (by kernel_rfl) Y (lb 1 o_26 Y Y Y Y) (Tk 3 Y (by kernel_rfl) Y (Db f_36_2 Y Y (q := 4) Y) (Tk 4 Y (by kernel_rfl) Y (lb 0 o_26 Y Y Y Y) (ty 2 Y (by kernel_rfl) Y (crl b_51 Y Y Y Y (fun w' hs => (impl_Falling (rA hs hu6) (by assumption))) fun v24 => ?_))))))))
  refine tS (fun _ hs => hs.pk [1, 2] Y Y) (ty 5 Y (by kernel_rfl) Y (crl b_51 Y Y Y Y (fun w' hs => (impl_Falling (rA hs hu16) (by assumption))) fun v25 => ?_))
  refine tZ Y (ty 6 Y (by kernel_rfl) Y (sv Y Y (rp Y) ?_))
  refine tZ Y (ty 7 Y (by kernel_rfl) Y (sv Y Y (rp Y) ?_))
  refine tZ Y (tE (by kernel_rfl) (Xt (Dh ([ov [v25] (fallL b.Times : (List Int)), ov [v24] (fallL a.Times : (List Int)), _, _]) Y (Cq (Sr (Pe Y (Cb (Cl (fun m_ ac w' => ∃ (k : Nat), (k ≤ (fallL a.Times).length) ∧ (k ≤ (fallL b.Times).length) ∧ (∀ i, i < k → (fallL a.Times)[i]? = (fallL b.Times)[i]?) ∧ m_ = (fallL a.Times).length - k ∧ Fits ac 91 [(2, (pv g21)), (3, (pv g22)), (5, v24), (6, v25), (7, (nv k))] ∧ St w ([ov [v25] (fallL b.Times : (List Int)), ov [v24] (fallL a.Times : (List Int)), bx g22 [(.string b.Match.Rule), u11, u13, (iv b.Priority), u15, (iv b.Specific), (iv b.Order)], bx g21 [(.string a.Match.Rule), u1, u3, (iv a.Priority), u5, (iv a.Specific), (iv a.Order)]]) w') ?_ ?_))))))))
  ·refine fun ac w' hf hs => ⟨_, 0, ?_, ?_, ?_, Y, hf.wk Y, hs⟩
   ·omega
   ·omega
   ·intro i hi; omega
  ·rintro m_ ac w' ⟨k, hka, hkb, hi, rfl, hf, hs⟩
   refine D.use ?_ hf hs
   clear hf hs ac w'
   refine Cq (Sr (P2 Y Y (q1 Y (D_leno 1 s_26 Y Y Y) (P2 Y Y (gs 28 Y Y (fun h26 => ?_) (fun h26 => ?_))))))
   ·have pr26 := odT h26
    refine P2 Y Y (q1 Y (D_leno 0 s_26 Y Y Y) (P2 Y Y (Dx (Ci _ Y (fun h27 => ?_) (fun h27 => ?_)))))
    ·have pr27 := odT h27
     refine Sk (Cq (Cb (Cq (C_draw mixed [] (by kernel_rfl) (Tk 0 Y (by kernel_rfl) Y (rp Y) (Tk 1 Y (by kernel_rfl) Y (rp Y) ?_))))))
     obtain ⟨x0, x0h⟩ := sL (l := (fallL a.Times)) (i := k) (by omega)
     refine Tk 2 Y (by kernel_rfl) Y (D_ix (l := (fallL a.Times)) (j := k) s_26 Y Y Y (fun w' hs => (rO (k := 1) hs Y)) Y (lS x0h)) (Tk 3 Y (by kernel_rfl) Y (lo (α := Int) 1 o_3 Y Y Y x0h) (Tk 4 Y (by kernel_rfl) Y (rp Y) (Tk 5 Y (by kernel_rfl) Y (rp Y) ?_)))
     obtain ⟨y0, y0h⟩ := sL (l := (fallL b.Times)) (i := k) (by omega)
     refine Tk 6 Y (by kernel_rfl) Y (D_ix (l := (fallL b.Times)) (j := k) s_26 Y Y Y (fun w' hs => (rO (k := 0) hs Y)) Y (lS y0h)) (Tk 7 Y (by kernel_rfl) Y (lo (α := Int) 0 o_3 Y Y Y y0h) (Tk 8 Y (by kernel_rfl) Y (rp Y) (tE (by kernel_rfl) (Xt (D_wk [2, 3, 5, 6, 7, 44] Y (Ci _ Y (fun h28 => ?_) (fun h28 => ?_)))))))
     ·have pr28 := bne_iff_ne.1 h28
      refine Cq (C_draw mixed [8, 9] (by kernel_rfl) (Tk 0 Y (by kernel_rfl) Y (rp Y) (Tk 1 Y (by kernel_rfl) Y (rp Y) (Tk 2 Y (by kernel_rfl) Y (D_ix (l := (fallL b.Times)) (j := k) s_26 Y Y Y (fun w' hs => (rO (k := 0) hs Y)) Y (lS y0h)) (Tk 3 Y (by kernel_rfl) Y (lo (α := Int) 0 o_3 Y Y Y y0h) (Tk 4 Y (by kernel_rfl) Y (rp Y) (Tk 5 Y (by kernel_rfl) Y (rp Y) (Tk 6 Y (by kernel_rfl) Y (D_ix (l := (fallL a.Times)) (j := k) s_26 Y Y Y (fun w' hs => (rO (k := 1) hs Y)) Y (lS x0h)) (Tk 7 Y (by kernel_rfl) Y (lo (α := Int) 1 o_3 Y Y Y x0h) (ty 8 Y (by kernel_rfl) Y (cv b_50 Y Y Y Y (fun w' hs => impl_compareInts) ?_)))))))))))
      refine tZ Y (ty 9 Y (by kernel_rfl) Y (sv Y Y (rp Y) ?_))
      refine tZ Y (tE (by kernel_rfl) (Xt (Ct (Xq (Xr (Xr (Xq (Xr (Ri Y Y ?_)))))))))
      show ((cmZ y0 x0) : Int) = _
      exact cmpC2a (by omega) hi x0h y0h (by omega)
     ·have pr28 := eq_of_bne_f h28
      refine Ck (Xb (Xt (Cr (p1 Y (q1 Y (D_add Y Y Y (r := ((k + 1 : Nat) : Int)) (by omega) (by omega)) (Pe Y (fun ac w' hf hs => ⟨_, ?_, k + 1, ?_, ?_, ?_, Y, hf.wk Y, hs⟩)))))))
      ·omega
      ·omega
      ·omega
      ·exact idx_step hi x0h y0h (by omega)
    ·have pr27 := odF h27
     refine Cx (Xx (Xx (Xe (Xt (Cq (Sr (p1 Y (q1 Y (D_leno 1 s_26 Y Y Y) (p1 Y (q1 Y (D_leno 0 s_26 Y Y Y) (Pe Y (D_wk [2, 3, 5, 6, 58] Y (Ci _ Y (fun h29 => ?_) (fun h29 => ?_))))))))))))))
     ·have pr29 := bne_iff_ne.1 h29
      refine Sr (p1 Y (q1 Y (D_leno 0 s_26 Y Y Y) (p1 Y (q1 Y (D_leno 1 s_26 Y Y Y) (li Y (cv b_50 Y Y Y Y (fun w' hs => impl_compareInts) ?_))))))
      refine Pe Y (Ct (Xr (Ri Y Y ?_)))
      show ((cmZ (((fallL b.Times).length : Nat) : Int) (((fallL a.Times).length : Nat) : Int)) : Int) = _
      exact cmpC2b (by omega) (fun i h1 h2 => hi i (by omega)) (by omega)
     ·have pr29 := eq_of_bne_f h29
      refine Sk (Cq (Sr (q1 Y (Db f_36_3 Y Y (q := 5) Y) (q1 Y (lb 3 o_3 Y Y Y Y) (q1 Y (Db f_36_3 Y Y (q := 5) Y) (q1 Y (lb 2 o_3 Y Y Y Y) (Pe Y (Ci _ Y (fun h30 => ?_) (fun h30 => ?_)))))))))
      ·have pr30 := bne_iff_ne.1 h30
       refine Sr (q1 Y (Db f_36_3 Y Y (q := 5) Y) (q1 Y (lb 2 o_3 Y Y Y Y) (q1 Y (Db f_36_3 Y Y (q := 5) Y) (q1 Y (lb 3 o_3 Y Y Y Y) (li Y (cv b_50 Y Y Y Y (fun w' hs => impl_compareInts) ?_))))))
       refine Pe Y (Ct (Xr (Ri Y Y ?_)))
       show ((cmZ b.Specific a.Specific) : Int) = _
       exact cmpC3 (by omega) (recL_z (fun i h1 h2 => hi i (by omega)) (by omega)) (by omega)
      ·have pr30 := eq_of_bne_f h30
       refine Sk (Cq (Sr (q1 Y (Db f_36_4 Y Y (q := 6) Y) (q1 Y (lb 3 o_3 Y Y Y Y) (q1 Y (Db f_36_4 Y Y (q := 6) Y) (q1 Y (lb 2 o_3 Y Y Y Y) (Pe Y (Ci _ Y (fun h31 => ?_) (fun h31 => ?_)))))))))
       ·have pr31 := bne_iff_ne.1 h31
        refine Sr (q1 Y (Db f_36_4 Y Y (q := 6) Y) (q1 Y (lb 3 o_3 Y Y Y Y) (q1 Y (Db f_36_4 Y Y (q := 6) Y) (q1 Y (lb 2 o_3 Y Y Y Y) (li Y (cv b_50 Y Y Y Y (fun w' hs => impl_compareInts) ?_))))))
        refine Pe Y (Ct (Xr (Ri Y Y ?_)))
        show ((cmZ a.Order b.Order) : Int) = _
        exact cmpC4 (by omega) (recL_z (fun i h1 h2 => hi i (by omega)) (by omega)) (by omega) (by omega)
       ·have pr31 := eq_of_bne_f h31
        refine Sk (Sr (q1 Y (Db f_36_0 Y Y (q := 0) Y) (q1 Y (Db f_34_1 Y Y (q := 1) Y) (q1 Y (lb 3 o_31 Y Y Y Y) (q1 Y (Db f_36_0 Y Y (q := 0) Y) (q1 Y (Db f_34_1 Y Y (q := 1) Y) (q1 Y (lb 2 o_31 Y Y Y Y) (li Y (cv b_52 Y Y Y Y (fun w' hs => (impl_compareFactLists (rA hs hu2) (rA hs hu12) (Tb.ext htb hs.bel))) ?_)))))))))
        refine Pe Y (Ct (Ri Y Y ?_))
        show ((cmpT a.Match.Facts b.Match.Facts) : Int) = _
        exact cmpC5 (by omega) (recL_z (fun i h1 h2 => hi i (by omega)) (by omega)) (by omega) (by omega)
   ·have pr26 := odF h26
    refine n1 Y (n1 Y (n1 Y (n1 Y (Pe Y (C_f Y (Cx (Xx (Xx (Xe (Xt (Cq (Sr (p1 Y (q1 Y (D_leno 1 s_26 Y Y Y) (p1 Y (q1 Y (D_leno 0 s_26 Y Y Y) (Pe Y (D_wk [2, 3, 5, 6, 58] Y ?_))))))))))))))))))
    refine Ci _ Y (fun h32 => ?_) (fun h32 => ?_)
    ·have pr32 := bne_iff_ne.1 h32
     refine Sr (p1 Y (q1 Y (D_leno 0 s_26 Y Y Y) (p1 Y (q1 Y (D_leno 1 s_26 Y Y Y) (li Y (cv b_50 Y Y Y Y (fun w' hs => impl_compareInts) ?_))))))
     refine Pe Y (Ct (Xr (Ri Y Y ?_)))
     show ((cmZ (((fallL b.Times).length : Nat) : Int) (((fallL a.Times).length : Nat) : Int)) : Int) = _
     exact cmpC2b (by omega) (fun i h1 h2 => hi i (by omega)) (by omega)
    ·have pr32 := eq_of_bne_f h32
     refine Sk (Cq (Sr (q1 Y (Db f_36_3 Y Y (q := 5) Y) (q1 Y (lb 3 o_3 Y Y Y Y) (q1 Y (Db f_36_3 Y Y (q := 5) Y) (q1 Y (lb 2 o_3 Y Y Y Y) (Pe Y (Ci _ Y (fun h33 => ?_) (fun h33 => ?_)))))))))
     ·have pr33 := bne_iff_ne.1 h33
      refine Sr (q1 Y (Db f_36_3 Y Y (q := 5) Y) (q1 Y (lb 2 o_3 Y Y Y Y) (q1 Y (Db f_36_3 Y Y (q := 5) Y) (q1 Y (lb 3 o_3 Y Y Y Y) (li Y (cv b_50 Y Y Y Y (fun w' hs => impl_compareInts) ?_))))))
      refine Pe Y (Ct (Xr (Ri Y Y ?_)))
      show ((cmZ b.Specific a.Specific) : Int) = _
      exact cmpC3 (by omega) (recL_z (fun i h1 h2 => hi i (by omega)) (by omega)) (by omega)
     ·have pr33 := eq_of_bne_f h33
      refine Sk (Cq (Sr (q1 Y (Db f_36_4 Y Y (q := 6) Y) (q1 Y (lb 3 o_3 Y Y Y Y) (q1 Y (Db f_36_4 Y Y (q := 6) Y) (q1 Y (lb 2 o_3 Y Y Y Y) (Pe Y (Ci _ Y (fun h34 => ?_) (fun h34 => ?_)))))))))
      ·have pr34 := bne_iff_ne.1 h34
       refine Sr (q1 Y (Db f_36_4 Y Y (q := 6) Y) (q1 Y (lb 3 o_3 Y Y Y Y) (q1 Y (Db f_36_4 Y Y (q := 6) Y) (q1 Y (lb 2 o_3 Y Y Y Y) (li Y (cv b_50 Y Y Y Y (fun w' hs => impl_compareInts) ?_))))))
       refine Pe Y (Ct (Xr (Ri Y Y ?_)))
       show ((cmZ a.Order b.Order) : Int) = _
       exact cmpC4 (by omega) (recL_z (fun i h1 h2 => hi i (by omega)) (by omega)) (by omega) (by omega)
      ·have pr34 := eq_of_bne_f h34
       refine Sk (Sr (q1 Y (Db f_36_0 Y Y (q := 0) Y) (q1 Y (Db f_34_1 Y Y (q := 1) Y) (q1 Y (lb 3 o_31 Y Y Y Y) (q1 Y (Db f_36_0 Y Y (q := 0) Y) (q1 Y (Db f_34_1 Y Y (q := 1) Y) (q1 Y (lb 2 o_31 Y Y Y Y) (li Y (cv b_52 Y Y Y Y (fun w' hs => (impl_compareFactLists (rA hs hu2) (rA hs hu12) (Tb.ext htb hs.bel))) ?_)))))))))
       refine Pe Y (Ct (Ri Y Y ?_))
       show ((cmpT a.Match.Facts b.Match.Facts) : Int) = _
       exact cmpC5 (by omega) (recL_z (fun i h1 h2 => hi i (by omega)) (by omega)) (by omega) (by omega)
theorem spec_CompareChoices {w : World} {c_a : List Value} {a : Choice} {c_b : List Value} {b : Choice} (h_a : Gd.rd w c_a a) (h_b : Gd.rd w c_b b) (hta : a.Times.length ≤ 1048576) (htq : b.Times.length ≤ 1048576) : Calls Tryz.prog 9 [(.agg c_a.toArray), (.agg c_b.toArray)].toArray w (Val w (iv (cmpC a b))) := by
 obtain ⟨u1, u3, u5, rfl, hu2, hu4, hu6⟩ := open_Choice h_a
 have hm7 := rd_max hu2
 have hm8 := rd_max hu4
 have hm9 := rd_max hu6
 have hb10 := sub_Choice_Match h_a
 obtain ⟨u11, u13, u15, rfl, hu12, hu14, hu16⟩ := open_Choice h_b
 have hm17 := rd_max hu12
 have hm18 := rd_max hu14
 have hm19 := rd_max hu16
 have hb20 := sub_Choice_Match h_b
 have hfl : ([cmZ b.Priority a.Priority, recL (fallL a.Times) (fallL b.Times), cmZ b.Specific a.Specific, cmZ a.Order b.Order] : List Int).length = 4 := rfl
 refine enter 54 Tryz.func9 Y Y Y (Sr (li Y (D_box Y Y Y Y Y fun g21 => ?_)))
 refine li Y (D_box Y Y Y Y Y fun g22 => ?_)
 refine Pe Y (Dh ([bx g22 [(.string b.Match.Rule), u11, u13, (iv b.Priority), u15, (iv b.Specific), (iv b.Order)], bx g21 [(.string a.Match.Rule), u1, u3, (iv a.Priority), u5, (iv a.Specific), (iv a.Order)]]) Y (Cq (C_draw mixed [21, 22, 23] (by kernel_rfl) (Tk 0 Y (by kernel_rfl) Y (Db f_36_1 Y Y (q := 3) Y) (Tk 1 Y (by kernel_rfl) Y (lb 0 o_3 Y Y Y Y) (Tk 2 Y (by kernel_rfl) Y (Db f_36_1 Y Y (q := 3) Y) (Tk 3 Y (by kernel_rfl) Y (lb 1 o_3 Y Y Y Y) (Tk 5 Y (by kernel_rfl) Y (Db f_36_2 Y Y (q := 4) Y) (Tk 6 Y (by kernel_rfl) Y (lb 1 o_26 Y Y Y Y) (Tk 8 Y (by kernel_rfl) Y (Db f_36_2 Y Y (q := 4) Y) (Tk 9 Y (by kernel_rfl) Y (lb 0 o_26 Y Y Y Y) (Tk 12 Y (by kernel_rfl) Y (Db f_36_3 Y Y (q := 5) Y) (Tk 13 Y (by kernel_rfl) Y (lb 0 o_3 Y Y Y Y) (Tk 14 Y (by kernel_rfl) Y (Db f_36_3 Y Y (q := 5) Y) (Tk 15 Y (by kernel_rfl) Y (lb 1 o_3 Y Y Y Y) (Tk 17 Y (by kernel_rfl) Y (Db f_36_4 Y Y (q := 6) Y) (Tk 18 Y (by kernel_rfl) Y (lb 1 o_3 Y Y Y Y) (Tk 19 Y (by kernel_rfl) Y (Db f_36_4 Y Y (q := 6) Y) (Tk 20 Y (by kernel_rfl) Y (lb 0 o_3 Y Y Y Y) (ty 4 Y (by kernel_rfl) Y (cv b_44 Y Y Y Y (fun w' hs => spec_l9Int) ?_)))))))))))))))))))))
 refine tS (fun _ hs => hs) (ty 7 Y (by kernel_rfl) Y (crl b_46 Y Y Y Y (fun w' hs => (spec_Falling (rA hs hu6) (by assumption))) fun v23 => ?_))
 refine tS (fun _ hs => hs.pk [1, 2] Y Y) (ty 10 Y (by kernel_rfl) Y (crl b_46 Y Y Y Y (fun w' hs => (spec_Falling (rA hs hu16) (by assumption))) fun v24 => ?_))
 refine tS (fun _ hs => hs.pk [2, 3] Y Y) (ty 11 Y (by kernel_rfl) Y (cv b_45 Y Y Y Y (fun w' hs => (spec_l9Recency (rO (k := 1) hs Y) (rO (k := 0) hs Y))) ?_))
 refine tS (fun _ hs => hs.pk [2, 3] Y Y) (ty 16 Y (by kernel_rfl) Y (cv b_44 Y Y Y Y (fun w' hs => spec_l9Int) ?_))
 refine tS (fun _ hs => hs.pk [2, 3] Y Y) (ty 21 Y (by kernel_rfl) Y (cv b_44 Y Y Y Y (fun w' hs => spec_l9Int) ?_))
 refine tZ Y (ty 22 Y (by kernel_rfl) Y (D_bsn (α := Int) (xs := [.tmp 11, .tmp 18, .tmp 23, .tmp 28]) (ys := [(cmZ b.Priority a.Priority), (recL (fallL a.Times) (fallL b.Times)), (cmZ b.Specific a.Specific), (cmZ a.Order b.Order)]) s_26 y_3 Y Y Y Y (by decide) (by decide) Y Y fun v25 => ?_))
 refine tZ Y (ty 23 Y (by kernel_rfl) Y (sv Y Y (rp Y) ?_))
 refine tZ Y (tE (by kernel_rfl) (Xt (D_wk [2, 3, 5] Y (D_pkO [0, 3, 4] Y (Dh ([ov [v25] ([(cmZ b.Priority a.Priority), (recL (fallL a.Times) (fallL b.Times)), (cmZ b.Specific a.Specific), (cmZ a.Order b.Order)] : (List Int)), _, _]) Y (Cq (Sr (Pe Y (Cb (Cl (fun m_ ac w' => ∃ (k : Nat), (k ≤ 4) ∧ (∀ i, i < k → ∀ y, (fourC a b)[i]? = some y → y = 0) ∧ m_ = 4 - k ∧ Fits ac 54 [(2, (pv g21)), (3, (pv g22)), (5, v25), (6, (nv k))] ∧ St w ([ov [v25] ([(cmZ b.Priority a.Priority), (recL (fallL a.Times) (fallL b.Times)), (cmZ b.Specific a.Specific), (cmZ a.Order b.Order)] : (List Int)), bx g22 [(.string b.Match.Rule), u11, u13, (iv b.Priority), u15, (iv b.Specific), (iv b.Order)], bx g21 [(.string a.Match.Rule), u1, u3, (iv a.Priority), u5, (iv a.Specific), (iv a.Order)]]) w') ?_ ?_))))))))))
 ·refine fun ac w' hf hs => ⟨_, 0, ?_, ?_, Y, hf.wk Y, hs⟩
  ·omega
  ·intro i hi; omega
 ·rintro m_ ac w' ⟨k, hk, hi, rfl, hf, hs⟩
  refine D.use ?_ hf hs
  clear hf hs ac w'
  refine Cq (Sr (P2 Y Y (q1 Y (D_leno 0 s_26 Y Y Y) (Pe Y (Ci _ Y (fun h26 => ?_) (fun h26 => ?_))))))
  ·have pr26 := odT h26
   refine Sk (Cq (Cb (Sr (P2 Y Y ?_))))
   obtain ⟨x0, x0h⟩ := sL (l := ([(cmZ b.Priority a.Priority), (recL (fallL a.Times) (fallL b.Times)), (cmZ b.Specific a.Specific), (cmZ a.Order b.Order)])) (i := k) (by omega)
   refine q1 Y (D_ix (l := ([(cmZ b.Priority a.Priority), (recL (fallL a.Times) (fallL b.Times)), (cmZ b.Specific a.Specific), (cmZ a.Order b.Order)])) (j := k) s_26 Y Y Y (fun w' hs => (rO (k := 0) hs Y)) Y (lS x0h)) (q1 Y (lo (α := Int) 0 o_3 Y Y Y x0h) (Pe Y (Ci _ Y (fun h27 => ?_) (fun h27 => ?_))))
   ·have pr27 := bne_iff_ne.1 h27
    refine Sr (P2 Y Y (q1 Y (D_ix (l := ([(cmZ b.Priority a.Priority), (recL (fallL a.Times) (fallL b.Times)), (cmZ b.Specific a.Specific), (cmZ a.Order b.Order)])) (j := k) s_26 Y Y Y (fun w' hs => (rO (k := 0) hs Y)) Y (lS x0h)) (q1 Y (lo (α := Int) 0 o_3 Y Y Y x0h) (Pe Y (Ct (Xq (Xr (Xr (Xq (Xr (Ri Y Y ?_)))))))))))
    show (x0 : Int) = _
    exact cmpC_l x0h hi (by omega)
   ·have pr27 := eq_of_bne_f h27
    refine Ck (Xb (Xt (Cr (p1 Y (q1 Y (D_add Y Y Y (r := ((k + 1 : Nat) : Int)) (by omega) (by omega)) (Pe Y (fun ac w' hf hs => ⟨_, ?_, k + 1, ?_, ?_, Y, hf.wk Y, hs⟩)))))))
    ·omega
    ·omega
    ·refine forall_step hi ?_; intro y hy; obtain rfl : y = x0 := Option.some.inj (hy.symm.trans x0h); omega
  ·have pr26 := odF h26
   refine Cx (Xx (Xx (Xe (Xt (Sr (q1 Y (Db f_36_0 Y Y (q := 0) Y) (q1 Y (Db f_34_1 Y Y (q := 1) Y) (q1 Y (lb 2 o_31 Y Y Y Y) (q1 Y (D_built (vs := [(0, u1)]) (xs := [(0, [u1])]) (cs := [u1, (.slice none 0 0)]) pl_88 Y ⟨Y, (cells_of_one (one_rd hu2)), trivial⟩ Y Y) (q1 Y (Db f_36_0 Y Y (q := 0) Y) (q1 Y (Db f_34_1 Y Y (q := 1) Y) (q1 Y (lb 1 o_31 Y Y Y Y) (q1 Y (D_built (vs := [(0, u11)]) (xs := [(0, [u11])]) (cs := [u11, (.slice none 0 0)]) pl_88 Y ⟨Y, (cells_of_one (one_rd hu12)), trivial⟩ Y Y) ?_)))))))))))))
   have hk28 : Gd.rd w [u1, (.slice none 0 0)] (⟨a.Match.Facts, []⟩ : Token) := mk_Token (⟨a.Match.Facts, []⟩ : Token) hu2 rd_nil
   have hk29 : Gd.rd w [u11, (.slice none 0 0)] (⟨b.Match.Facts, []⟩ : Token) := mk_Token (⟨b.Match.Facts, []⟩ : Token) hu12 rd_nil
   refine li Y (cv b_47 Y Y Y Y (fun w' hs => (spec_CompareTokens (rA hs hk28) (rA hs hk29))) ?_)
   refine Pe Y (Ct (Ri Y Y ?_))
   show ((cmpT (⟨a.Match.Facts, []⟩ : Token).Facts (⟨b.Match.Facts, []⟩ : Token).Facts) : Int) = _
   exact cmpC_e (fun i h => hi i (by omega))
end Go.Sy.Cmp1
