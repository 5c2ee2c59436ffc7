/-
  Contracts of functions of the program, walked (printed by a program of ours).
  Conditions: those that each theorem states.
-/
import Derived.Test.YtobihkjhlopggaaGreatDoorFct
import Derived.Test.YtobihkjhlopggaaGreatDoorProg
import Derived.Test.YtobihkjhlopggaaGreatDoorTypes
import Derived.Test.YtobihkjhlopggaaGreatDoorBase
import Derived.Test.YtobihkjhlopggaaGreatDoorSort
set_option linter.unusedVariables false
set_option maxRecDepth 20000
namespace Go.Sy.Sorts
open Go Go.RowKit Go.Proofs Go.Sy
theorem sort_swapRange_func {α : Type} [Inhabited α] {C : List α → Chunk} {lt : α → α → Bool} {d0 : List α} {lf sf : Nat} {lc sc : List Value} {w0 : World} (S : Srt Tryz.prog C lt d0 lf lc sf sc w0) (ho : Ordr lt) (hmx : d0.length ≤ 2305843009213693951) (Hs : List Chunk) (w : World) (d : List α) (hp : List.Perm d d0) (a : Nat) (b : Nat) (n : Nat) (hab : a + n ≤ b) (hbn : b + n ≤ d0.length) (hst : St w0 (C d :: Hs) w) : Cy 253 [(.agg #[(.func (.func lf) #[] lc.toArray), (.func (.func sf) #[] sc.toArray)]), (nv a), (nv b), (nv n)] w (fun e_ w' => e_ = .returned (.tuple #[]) ∧ ∃ e, (SwR d e a b n) ∧ St w0 (C e :: Hs) w') := by
 have hdl : d.length = d0.length := hp.length_eq;refine enterS 23 Tryz.func253 Y Y Y hst (Sr (li Y (D_box Y Y Y Y Y fun g1 => ?_)));refine Dx (Dh (bx g1 [(.func (.func lf) #[] lc.toArray), (.func (.func sf) #[] sc.toArray)] :: C d :: Hs) Y (Sr (Pe Y (Cb (Cl (fun m_ ac w' => ∃ (i : Nat), ∃ (e : List α), (i ≤ n) ∧ (SwR d e a b i) ∧ m_ = n - i ∧ Fits ac 23 [(1, (nv a)), (2, (nv b)), (3, (nv n)), (4, (pv g1)), (8, (nv i))] ∧ St w0 (bx g1 [(.func (.func lf) #[] lc.toArray), (.func (.func sf) #[] sc.toArray)] :: C e :: Hs) w') ?_ ?_)))))
 ·refine fun ac w' hf hs => ⟨_, 0, d, ?_, ?_, Y, hf.wk Y, hs⟩
  ·omega
  ·exact swr_zero _ _ _
 ·rintro m_ ac w' ⟨i, e, hi, hw, rfl, hf, hs⟩;refine D.use ?_ hf hs;clear hf hs ac w';refine Cq (Sr (P3 Y Y Y (Dx (Dh (_ :: _ :: Hs) Y (Cd Y (fun pr2 => ?_) (fun pr2 => ?_))))))
  ·refine Sk (Cq (Cb (Cr (fl 0 f_164_1 o_160 Y Y Y Y Y Y Y Y Y (P2 Y Y (ad (a + i) Y Y Y Y (by omega) (by omega) (P2 Y Y (ad (b + i) Y Y Y Y (by omega) (by omega) (D_fd [1] 0 Y (li Y (cswap S (hw.2.1.trans hp) (i := a + i) (j := b + i) Y Y Y Y Y (by omega) (by omega) (by omega) ?_)))))))))));refine De (Xb (Xt (Dh (C (swp e (a + i) (b + i)) :: _ :: Hs) Y (Cr (p1 Y (ad (i + 1) Y Y Y Y (by omega) (by omega) (Pe Y (fun ac w' hf hs => ⟨_, ?_, i + 1, swp e (a + i) (b + i), ?_, ?_, Y, hf.wk Y, hs.fd [0, 1] 0 Y⟩))))))))
   ·omega
   ·omega
   ·exact swr_step hw (by omega) hab (by omega)
  ·refine Cx (Xx (Xx (Xe (R_0n Y fun w' hs => ⟨Y, e, ?_, hs.fd [] 1 Y⟩))));rw [show n = i from by omega]; exact hw
theorem sort_rotate_func {α : Type} [Inhabited α] {C : List α → Chunk} {lt : α → α → Bool} {d0 : List α} {lf sf : Nat} {lc sc : List Value} {w0 : World} (S : Srt Tryz.prog C lt d0 lf lc sf sc w0) (ho : Ordr lt) (hmx : d0.length ≤ 2305843009213693951) (Hs : List Chunk) (w : World) (d : List α) (hp : List.Perm d d0) (a : Nat) (m : Nat) (b : Nat) (ham : a < m) (hmb : m < b) (hb : b ≤ d0.length) (hst : St w0 (C d :: Hs) w) : Cy 219 [(.agg #[(.func (.func lf) #[] lc.toArray), (.func (.func sf) #[] sc.toArray)]), (nv a), (nv m), (nv b)] w (fun e_ w' => e_ = .returned (.tuple #[]) ∧ ∃ e, (Rot d e a m b) ∧ St w0 (C e :: Hs) w') := by
 have hdl : d.length = d0.length := hp.length_eq;refine enterS 53 Tryz.func219 Y Y Y hst (Sr (li Y (D_box Y Y Y Y Y fun g1 => ?_)));refine Dx (Dh (bx g1 [(.func (.func lf) #[] lc.toArray), (.func (.func sf) #[] sc.toArray)] :: C d :: Hs) Y (Sr (P2 Y Y (q1 Y (D_sub Y Y Y (r := ((m - a : Nat) : Int)) (by omega) (by omega)) (Pe Y (Sr (P2 Y Y (q1 Y (D_sub Y Y Y (r := ((b - m : Nat) : Int)) (by omega) (by omega)) (Pe Y (Cq (Cb (Cl (fun m_ ac w' => ∃ (i : Nat), ∃ (j : Nat), ∃ (e : List α), (0 < i) ∧ (0 < j) ∧ (i ≤ m) ∧ (m + j ≤ b) ∧ (List.Perm e d) ∧ (∀ f, Rot e f (m - i) m (m + j) → Rot d f a m b) ∧ m_ = i + j ∧ Fits ac 53 [(2, (nv m)), (4, (pv g1)), (8, (nv i)), (9, (nv j))] ∧ St w0 (bx g1 [(.func (.func lf) #[] lc.toArray), (.func (.func sf) #[] sc.toArray)] :: C e :: Hs) w') ?_ ?_))))))))))))
 ·refine fun ac w' hf hs => ⟨_, m - a, b - m, d, ?_, ?_, ?_, ?_, ?_, ?_, Y, hf.wk Y, hs⟩
  ·omega
  ·omega
  ·omega
  ·omega
  ·exact List.Perm.refl _
  ·intro f hf; rwa [show m - (m - a) = a from by omega, show m + (b - m) = b from by omega] at hf
 ·rintro m_ ac w' ⟨i, j, e, h0, h1, hi, hj, hpe, hr, rfl, hf, hs⟩;refine D.use ?_ hf hs;clear hf hs ac w';refine Cq (Sr (P3 Y Y Y (Dx (Dh (_ :: _ :: Hs) Y (Cn Y (fun pr2 => ?_) (fun pr2 => ?_))))))
  ·refine Sk (Cb (Sr (P3 Y Y Y (Dx (Cd Y (fun pr3 => ?_) (fun pr3 => ?_))))))
   ·refine Sr (q1 Y (lbw 0 a_164 Y Y Y) (P2 Y Y (q1 Y (D_sub Y Y Y (r := ((m - i : Nat) : Int)) (by omega) (by omega)) (P2 Y Y (D_fd [1] 0 Y (li Y (csrt b_253 Y Y Y Y (fun w' hs => sort_swapRange_func S ho hmx _ w' e (hpe.trans hp) (m - i) m j (by omega) (by omega) hs) fun e2 hw2 => ?_)))))));refine Dx (Dh (C e2 :: _ :: Hs) Y (Cr (P2 Y Y (q1 Y (D_sub Y Y Y (r := ((i - j : Nat) : Int)) (by omega) (by omega)) (p1 Y (De (Xb (Xt (fun ac w' hf hs => ⟨_, ?_, i - j, j, e2, ?_, ?_, ?_, ?_, ?_, ?_, Y, hf.wk Y, hs.fd [0, 1] 0 Y⟩)))))))))
    ·omega
    ·omega
    ·assumption
    ·omega
    ·assumption
    ·exact hw2.2.1.trans hpe
    ·intro f hf; exact hr f (rot_gt hw2 (by omega) (by omega) hf)
   ·refine Sr (q1 Y (lbw 0 a_164 Y Y Y) (P2 Y Y (q1 Y (D_sub Y Y Y (r := ((m - i : Nat) : Int)) (by omega) (by omega)) (P2 Y Y (ad (m + j) Y Y Y Y (by omega) (by omega) (p1 Y (q1 Y (D_sub Y Y Y (r := ((m + j - i : Nat) : Int)) (by omega) (by omega)) (p1 Y (D_fd [1] 0 Y (li Y (csrt b_253 Y Y Y Y (fun w' hs => sort_swapRange_func S ho hmx _ w' e (hpe.trans hp) (m - i) (m + j - i) i (by omega) (by omega) hs) fun e2 hw2 => ?_)))))))))));refine Dx (D_wk [2, 4, 8, 9] Y (Dh (C e2 :: _ :: Hs) Y (Cr (P2 Y Y (q1 Y (D_sub Y Y Y (r := ((j - i : Nat) : Int)) (by omega) (by omega)) (p1 Y (De (Xb (Xt (fun ac w' hf hs => ⟨_, ?_, i, j - i, e2, ?_, ?_, ?_, ?_, ?_, ?_, Y, hf.wk Y, hs.fd [0, 1] 0 Y⟩))))))))))
    ·omega
    ·assumption
    ·omega
    ·assumption
    ·omega
    ·exact hw2.2.1.trans hpe
    ·intro f hf; exact hr f (rot_lt hw2 (by omega) (by omega) hf)
  ·refine Cx (Xx (Xx (Xe (Xt (Cr (q1 Y (lbw 0 a_164 Y Y Y) (P2 Y Y (q1 Y (D_sub Y Y Y (r := ((m - i : Nat) : Int)) (by omega) (by omega)) (P2 Y Y (D_fd [1] 0 Y (li Y (csrt b_253 Y Y Y Y (fun w' hs => sort_swapRange_func S ho hmx _ w' e (hpe.trans hp) (m - i) m i (by omega) (by omega) hs) fun e3 hw3 => ?_))))))))))));refine De (R_0n Y fun w' hs => ⟨Y, e3, ?_, hs.fd [0, 1] 1 Y⟩);exact hr _ (by have hq := rot_eq hw3 (by omega); rwa [show m + i = m + j from by omega] at hq)
theorem sort_insertionSort_func {α : Type} [Inhabited α] {C : List α → Chunk} {lt : α → α → Bool} {d0 : List α} {lf sf : Nat} {lc sc : List Value} {w0 : World} (S : Srt Tryz.prog C lt d0 lf lc sf sc w0) (ho : Ordr lt) (hmx : d0.length ≤ 2305843009213693951) (Hs : List Chunk) (w : World) (d : List α) (hp : List.Perm d d0) (a : Nat) (b : Nat) (hab : a ≤ b) (hb : b ≤ d0.length) (hst : St w0 (C d :: Hs) w) : Cy 171 [(.agg #[(.func (.func lf) #[] lc.toArray), (.func (.func sf) #[] sc.toArray)]), (nv a), (nv b)] w (fun e_ w' => e_ = .returned (.tuple #[]) ∧ ∃ e, (Chg d e a b ∧ Srd lt e a b ∧ Stb lt d e) ∧ St w0 (C e :: Hs) w') := by
 have hdl : d.length = d0.length := hp.length_eq;refine enterS 35 Tryz.func171 Y Y Y hst (Sr (li Y (D_box Y Y Y Y Y fun g1 => ?_)));refine Dx (Dh (bx g1 [(.func (.func lf) #[] lc.toArray), (.func (.func sf) #[] sc.toArray)] :: C d :: Hs) Y (Sr (p1 Y (ad (a + 1) Y Y Y Y (by omega) (by omega) (Pe Y (Cb (Cl (fun m_ ac w' => ∃ (i : Nat), ∃ (e : List α), (a + 1 ≤ i) ∧ (i ≤ b ∨ i = a + 1) ∧ (Chg d e a b) ∧ (Srd lt e a i) ∧ (Stb lt d e) ∧ m_ = b - i ∧ Fits ac 35 [(1, (nv a)), (2, (nv b)), (3, (pv g1)), (6, (nv i))] ∧ St w0 (bx g1 [(.func (.func lf) #[] lc.toArray), (.func (.func sf) #[] sc.toArray)] :: C e :: Hs) w') ?_ ?_)))))))
 ·refine fun ac w' hf hs => ⟨_, a + 1, d, ?_, ?_, ?_, ?_, ?_, Y, hf.wk Y, hs⟩
  ·omega
  ·omega
  ·exact Chg.refl _ _ _
  ·exact srd_one _ _
  ·exact stb_refl _
 ·rintro m_ ac w' ⟨i, e, hia, hib, hc, hsr, hsb, rfl, hf, hs⟩;refine D.use ?_ hf hs;clear hf hs ac w';refine Cq (Sr (P3 Y Y Y (Dx (Dh (_ :: _ :: Hs) Y (Cd Y (fun pr2 => ?_) (fun pr2 => ?_))))))
  ·refine Sk (Cq (Cb (Sr (P2 Y Y (Dx (Cb (Cl (fun m_ ac w' => ∃ (j : Nat), ∃ (e2 : List α), (a ≤ j) ∧ (j ≤ i) ∧ (Chg d e2 a b) ∧ (InsI lt e2 a i j) ∧ (Stb lt d e2) ∧ m_ = j + 1 ∧ Fits ac 35 [(1, (nv a)), (2, (nv b)), (3, (pv g1)), (6, (nv i)), (7, (nv j))] ∧ St w0 (bx g1 [(.func (.func lf) #[] lc.toArray), (.func (.func sf) #[] sc.toArray)] :: C e2 :: Hs) w') ?_ ?_)))))))
   ·refine fun ac w' hf hs => ⟨_, i, e, ?_, ?_, ?_, ?_, ?_, Y, hf.wk Y, hs⟩
    ·omega
    ·omega
    ·exact hc
    ·exact ins_start hsr
    ·exact hsb
   ·rintro m_ ac w' ⟨j, e2, haj, hji, hc2, hin, hsb2, rfl, hf, hs⟩;refine D.use ?_ hf hs;clear hf hs ac w';refine Cq (Sr (P3 Y Y Y (p1 Y (gxd 19 Y Y (fun pr3 => ?_) (fun pr3 => ?_)))))
    ·refine fl 0 f_164_0 o_95 Y Y Y Y Y Y Y Y Y (P2 Y Y (q1 Y (D_sub Y Y Y (r := ((j - 1 : Nat) : Int)) (by omega) (by omega)) (D_fd [1] 0 Y (li Y (cless S (hc2.perm.trans hp) (i := j) (j := j - 1) Y Y Y Y Y (by omega) (by omega) ?_)))));refine Pe Y (Dh (_ :: _ :: Hs) Y (Ci _ Y (fun h4 => ?_) (fun h4 => ?_)))
     ·refine Sk (Cq (Cb (Cr (fl 1 f_164_1 o_160 Y Y Y Y Y Y Y Y Y (P2 Y Y (q1 Y (D_sub Y Y Y (r := ((j - 1 : Nat) : Int)) (by omega) (by omega)) (li Y (cswap S (hc2.perm.trans hp) (i := j) (j := j - 1) Y Y Y Y Y (by omega) (by omega) (by omega) ?_))))))));refine De (Xb (Xt (D_wk [1, 2, 3, 6, 7] Y (Dh (C (swp e2 j (j - 1)) :: _ :: Hs) Y (Cr (p1 Y (q1 Y (D_sub Y Y Y (r := ((j - 1 : Nat) : Int)) (by omega) (by omega)) (Pe Y (fun ac w' hf hs => ⟨_, ?_, j - 1, swp e2 j (j - 1), ?_, ?_, ?_, ?_, ?_, Y, hf.wk Y, hs.fd [0, 1] 0 Y⟩)))))))))
      ·omega
      ·omega
      ·omega
      ·exact hc2.trans (Chg.swp (by omega) (by omega) (by have := hc2.len; omega))
      ·exact ins_step ho hin (by omega) (by omega) (by have := hc2.len; omega) (by assumption)
      ·exact stb_trans hsb2 (stb_adj (by omega) (by have := hc2.len; omega) (by assumption))
     ·refine Cx (Xx (Xx (Xe (Xb (Xt (Cr (p1 Y (ad (i + 1) Y Y Y Y (by omega) (by omega) (Pe Y (fun ac w' hf hs => ⟨_, ?_, i + 1, e2, ?_, ?_, ?_, ?_, ?_, Y, hf.wk Y, hs.fd [0, 1] 0 Y⟩))))))))))
      ·omega
      ·omega
      ·omega
      ·exact hc2
      ·exact ins_end2 ho hin (by omega) (by omega) (by assumption)
      ·exact hsb2
    ·refine n1 Y (n1 Y (n1 Y (n1 Y (n1 Y (n1 Y (Pe Y (Dh (_ :: _ :: Hs) Y (C_f Y (Cx (Xx (Xx (Xe (Xb (Xt (Cr (p1 Y (ad (i + 1) Y Y Y Y (by omega) (by omega) (Pe Y (fun ac w' hf hs => ⟨_, ?_, i + 1, e2, ?_, ?_, ?_, ?_, ?_, Y, hf.wk Y, hs⟩)))))))))))))))))))
     ·omega
     ·omega
     ·omega
     ·exact hc2
     ·exact ins_end1 hin (by omega)
     ·exact hsb2
  ·refine Cx (Xx (Xx (Xe (R_0n Y fun w' hs => ⟨Y, e, ?_, hs.fd [] 1 Y⟩))));exact ⟨hc, srd_sub hsr (Nat.le_refl _) (by omega), hsb⟩
set_option maxHeartbeats 4000000 in
theorem sort_symMerge_func {α : Type} [Inhabited α] {C : List α → Chunk} {lt : α → α → Bool} {d0 : List α} {lf sf : Nat} {lc sc : List Value} {w0 : World} (S : Srt Tryz.prog C lt d0 lf lc sf sc w0) (ho : Ordr lt) (hmx : d0.length ≤ 2305843009213693951) (f : Nat) : ∀ (Hs : List Chunk) (w : World) (d : List α) (hp : List.Perm d d0) (a : Nat) (m : Nat) (b : Nat) (ham : a < m) (hmb : m < b) (hb : b ≤ d0.length) (hs1 : Srd lt d a m) (hs2 : Srd lt d m b) (hfu : b - a ≤ f) (hst : St w0 (C d :: Hs) w), Cy 172 [(.agg #[(.func (.func lf) #[] lc.toArray), (.func (.func sf) #[] sc.toArray)]), (nv a), (nv m), (nv b)] w (fun e_ w' => e_ = .returned (.tuple #[]) ∧ ∃ e, (Chg d e a b ∧ Srd lt e a b ∧ Stb lt d e) ∧ St w0 (C e :: Hs) w') := by
 induction f using Nat.strongRecOn with
 | _ f ih =>
 intro Hs w d hp a m b ham hmb hb hs1 hs2 hfu hst;have hdl : d.length = d0.length := hp.length_eq;refine enterS 177 Tryz.func172 Y Y Y hst (Sr (li Y (D_box Y Y Y Y Y fun g1 => ?_)));refine Dx (Dh (bx g1 [(.func (.func lf) #[] lc.toArray), (.func (.func sf) #[] sc.toArray)] :: C d :: Hs) Y (Cq (Sr (P2 Y Y (q1 Y (D_sub Y Y Y (r := ((m - a : Nat) : Int)) (by omega) (by omega)) (Pe Y (Ci _ Y (fun h2 => ?_) (fun h2 => ?_))))))))
 ·have pr2 := eq_of_beq h2;refine Sr (P2 Y Y (Dx (Sr (P2 Y Y (Dx (Cq (Cb (Cl (fun m_ ac w' => ∃ (i : Nat), ∃ (j : Nat), (m ≤ i) ∧ (i ≤ j) ∧ (j ≤ b) ∧ (Low lt d a m b i j) ∧ m_ = j - i ∧ Fits ac 177 [(1, (nv a)), (4, (pv g1)), (8, (nv i)), (9, (nv j))] ∧ St w0 (bx g1 [(.func (.func lf) #[] lc.toArray), (.func (.func sf) #[] sc.toArray)] :: C d :: Hs) w') ?_ ?_))))))))
  ·refine fun ac w' hf hs => ⟨_, m, b, ?_, ?_, ?_, ?_, Y, hf.wk Y, hs⟩
   ·omega
   ·omega
   ·omega
   ·exact low_start _ _ _ _
  ·rintro m_ ac w' ⟨i, j, h1, h2, h3, hl, rfl, hf, hs⟩;refine D.use ?_ hf hs;clear hf hs ac w';refine Cq (Sr (P3 Y Y Y (Dx (Cd Y (fun pr3 => ?_) (fun pr3 => ?_)))))
   ·refine Sk (Cb (Sr (P2 Y Y (ad (i + j) Y Y Y Y (by omega) (by omega) (q1 Y (D_cvU (n := (i + j)) uu_208 ⟨_, ui_3⟩ Y Y (by omega)) (q1 Y (D_shU (n := (i + j)) Y Y Y (by omega)) (q1 Y (D_cvI (n := ((i + j) / 2)) ui_3 ⟨_, uu_208⟩ Y Y (by omega)) (Pe Y (Sr (fl 0 f_164_0 o_95 Y Y Y Y Y Y Y Y Y (P2 Y Y (D_fd [1] 0 Y (li Y (cless S hp (i := (i + j) / 2) (j := a) Y Y Y Y Y (by omega) (by omega) ?_))))))))))))));refine Dx (Dh (_ :: _ :: Hs) Y (Ci _ Y (fun h4 => ?_) (fun h4 => ?_)))
    ·refine Cr (p1 Y (ad ((i + j) / 2 + 1) Y Y Y Y (by omega) (by omega) (p1 Y (De (Xb (Xt (fun ac w' hf hs => ⟨_, ?_, (i + j) / 2 + 1, j, ?_, ?_, ?_, ?_, Y, hf.wk Y, hs.fd [0, 1] 0 Y⟩)))))))
     ·omega
     ·omega
     ·omega
     ·assumption
     ·exact low_up ho hl hs2 (by omega) (by omega) (by omega) (by omega) (by assumption)
    ·refine Cr (P2 Y Y (De (Xb (Xt (fun ac w' hf hs => ⟨_, ?_, i, (i + j) / 2, ?_, ?_, ?_, ?_, Y, hf.wk Y, hs.fd [0, 1] 0 Y⟩)))))
     ·omega
     ·assumption
     ·omega
     ·omega
     ·exact low_dn ho hl hs2 (by omega) (by omega) (by omega) (by assumption)
   ·refine Cx (Xx (Xx (Xe (Xt (Cq (Sr (P2 Y Y (Dx (Cb (Cl (fun m_ ac w' => ∃ (k : Nat), ∃ (e : List α), (a ≤ k) ∧ (k ≤ i - 1) ∧ (Up d e a k b) ∧ (Stb lt d e) ∧ m_ = i - k ∧ Fits ac 177 [(4, (pv g1)), (8, (nv i)), (11, (nv k))] ∧ St w0 (bx g1 [(.func (.func lf) #[] lc.toArray), (.func (.func sf) #[] sc.toArray)] :: C e :: Hs) w') ?_ ?_))))))))))
    ·refine fun ac w' hf hs => ⟨_, a, d, ?_, ?_, ?_, ?_, Y, hf.wk Y, hs⟩
     ·omega
     ·omega
     ·exact up_start _ _ _
     ·exact stb_refl _
    ·rintro m_ ac w' ⟨k, e, hk, hk2, hu, hsb, rfl, hf, hs⟩;refine D.use ?_ hf hs;clear hf hs ac w';refine Cq (Sr (P2 Y Y (q1 Y (D_sub Y Y Y (r := ((i - 1 : Nat) : Int)) (by omega) (by omega)) (Pe Y (Dh (_ :: _ :: Hs) Y (Cd Y (fun pr5 => ?_) (fun pr5 => ?_)))))))
     ·refine Sk (Cq (Cb (Cr (fl 0 f_164_1 o_160 Y Y Y Y Y Y Y Y Y (P2 Y Y (ad (k + 1) Y Y Y Y (by omega) (by omega) (D_fd [1] 0 Y (li Y (cswap S (hu.chg.perm.trans hp) (i := k) (j := k + 1) Y Y Y Y Y (by omega) (by omega) (by omega) ?_)))))))));refine De (Xb (Xt (Dh (C (swp e k (k + 1)) :: _ :: Hs) Y (Cr (p1 Y (ad (k + 1) Y Y Y Y (by omega) (by omega) (Pe Y (fun ac w' hf hs => ⟨_, ?_, k + 1, swp e k (k + 1), ?_, ?_, ?_, ?_, Y, hf.wk Y, hs.fd [0, 1] 0 Y⟩))))))))
      ·omega
      ·omega
      ·omega
      ·exact up_step hu (by omega) (by omega) (by omega)
      ·exact up_stb (i := i) hu (by have hji : j = i := (by omega); rw [hji] at hl; exact hl) (by omega) (by omega) (by omega) (by omega) (by omega) hsb
     ·refine Cx (Xx (Xx (Xe (Xt (Ct (Xr (R_0 Y fun w' hs => ⟨Y, e, ?_, hs.fd [] 1 Y⟩)))))));have hki : k = i - 1 := (by omega); have hji : j = i := (by omega); subst hki; subst hji; exact ⟨hu.chg, up_end ho hu (by omega) (by omega) (by omega) hl hs2, hsb⟩
 ·have pr2 := ne_of_beq_false h2;refine Sk (Cq (Sr (P2 Y Y (q1 Y (D_sub Y Y Y (r := ((b - m : Nat) : Int)) (by omega) (by omega)) (Pe Y (Ce Y (fun pr6 => ?_) (fun pr6 => ?_)))))))
  ·refine Sr (P2 Y Y (Dx (Sr (P2 Y Y (Dx (Cq (Cb (Cl (fun m_ ac w' => ∃ (i : Nat), ∃ (j : Nat), (a ≤ i) ∧ (i ≤ j) ∧ (j ≤ m) ∧ (Hgh lt d a m i j) ∧ m_ = j - i ∧ Fits ac 177 [(2, (nv m)), (4, (pv g1)), (12, (nv i)), (13, (nv j))] ∧ St w0 (bx g1 [(.func (.func lf) #[] lc.toArray), (.func (.func sf) #[] sc.toArray)] :: C d :: Hs) w') ?_ ?_))))))))
   ·refine fun ac w' hf hs => ⟨_, a, m, ?_, ?_, ?_, ?_, Y, hf.wk Y, hs⟩
    ·omega
    ·omega
    ·omega
    ·exact hgh_start _ _ _
   ·rintro m_ ac w' ⟨i, j, h1, h2, h3, hl, rfl, hf, hs⟩;refine D.use ?_ hf hs;clear hf hs ac w';refine Cq (Sr (P3 Y Y Y (Dx (Cd Y (fun pr7 => ?_) (fun pr7 => ?_)))))
    ·refine Sk (Cb (Sr (P2 Y Y (ad (i + j) Y Y Y Y (by omega) (by omega) (q1 Y (D_cvU (n := (i + j)) uu_208 ⟨_, ui_3⟩ Y Y (by omega)) (q1 Y (D_shU (n := (i + j)) Y Y Y (by omega)) (q1 Y (D_cvI (n := ((i + j) / 2)) ui_3 ⟨_, uu_208⟩ Y Y (by omega)) (Pe Y (Sr (fl 0 f_164_0 o_95 Y Y Y Y Y Y Y Y Y (P2 Y Y (D_fd [1] 0 Y (li Y (cless S hp (i := m) (j := (i + j) / 2) Y Y Y Y Y (by omega) (by omega) ?_))))))))))))));refine Pe Y (Dh (_ :: _ :: Hs) Y (CN Y (fun h8n => ?_) (fun h8n => ?_)))
     ·refine Cr (p1 Y (ad ((i + j) / 2 + 1) Y Y Y Y (by omega) (by omega) (p1 Y (De (Xb (Xt (fun ac w' hf hs => ⟨_, ?_, (i + j) / 2 + 1, j, ?_, ?_, ?_, ?_, Y, hf.wk Y, hs.fd [0, 1] 0 Y⟩)))))))
      ·omega
      ·omega
      ·omega
      ·assumption
      ·exact hgh_up ho hl hs1 (by omega) (by omega) (by omega) (by omega) (by assumption)
     ·refine Cr (P2 Y Y (De (Xb (Xt (fun ac w' hf hs => ⟨_, ?_, i, (i + j) / 2, ?_, ?_, ?_, ?_, Y, hf.wk Y, hs.fd [0, 1] 0 Y⟩)))))
      ·omega
      ·assumption
      ·omega
      ·omega
      ·exact hgh_dn ho hl hs1 (by omega) (by omega) (by omega) (by assumption)
    ·refine Cx (Xx (Xx (Xe (Xt (Cq (Sr (P2 Y Y (Dx (Cb (Cl (fun m_ ac w' => ∃ (k : Nat), ∃ (e : List α), (i ≤ k) ∧ (k ≤ m) ∧ (Dwn d e a k m) ∧ (Stb lt d e) ∧ m_ = k + 1 ∧ Fits ac 177 [(4, (pv g1)), (12, (nv i)), (15, (nv k))] ∧ St w0 (bx g1 [(.func (.func lf) #[] lc.toArray), (.func (.func sf) #[] sc.toArray)] :: C e :: Hs) w') ?_ ?_))))))))))
     ·refine fun ac w' hf hs => ⟨_, m, d, ?_, ?_, ?_, ?_, Y, hf.wk Y, hs⟩
      ·omega
      ·omega
      ·exact dwn_start _ _ _
      ·exact stb_refl _
     ·rintro m_ ac w' ⟨k, e, hk, hk2, hu, hsb, rfl, hf, hs⟩;refine D.use ?_ hf hs;clear hf hs ac w';refine Cq (Sr (P3 Y Y Y (Dx (Dh (_ :: _ :: Hs) Y (Cd Y (fun pr9 => ?_) (fun pr9 => ?_))))))
      ·refine Sk (Cq (Cb (Cr (fl 0 f_164_1 o_160 Y Y Y Y Y Y Y Y Y (P2 Y Y (q1 Y (D_sub Y Y Y (r := ((k - 1 : Nat) : Int)) (by omega) (by omega)) (D_fd [1] 0 Y (li Y (cswap S (hu.chg.perm.trans hp) (i := k) (j := k - 1) Y Y Y Y Y (by omega) (by omega) (by omega) ?_)))))))));refine De (Xb (Xt (Dh (C (swp e k (k - 1)) :: _ :: Hs) Y (Cr (p1 Y (q1 Y (D_sub Y Y Y (r := ((k - 1 : Nat) : Int)) (by omega) (by omega)) (Pe Y (fun ac w' hf hs => ⟨_, ?_, k - 1, swp e k (k - 1), ?_, ?_, ?_, ?_, Y, hf.wk Y, hs.fd [0, 1] 0 Y⟩))))))))
       ·omega
       ·omega
       ·omega
       ·exact dwn_step hu (by omega) (by omega) (by omega)
       ·exact dwn_stb (i := i) hu (by have hji : j = i := (by omega); rw [hji] at hl; exact hl) (by omega) (by omega) (by omega) hsb
      ·refine Cx (Xx (Xx (Xe (Xt (Ct (Xr (R_0 Y fun w' hs => ⟨Y, e, ?_, hs.fd [] 1 Y⟩)))))));have hki : k = i := (by omega); have hji : j = i := (by omega); have hbm : b = m + 1 := (by omega); subst hki; subst hji; subst hbm; exact ⟨hu.chg, dwn_end ho hu (by omega) (by omega) hl hs1, hsb⟩
  ·refine Sk (Sr (P2 Y Y (ad (a + b) Y Y Y Y (by omega) (by omega) (q1 Y (D_cvU (n := (a + b)) uu_208 ⟨_, ui_3⟩ Y Y (by omega)) (q1 Y (D_shU (n := (a + b)) Y Y Y (by omega)) (q1 Y (D_cvI (n := ((a + b) / 2)) ui_3 ⟨_, uu_208⟩ Y Y (by omega)) ?_))))));obtain ⟨mid, hg_mid⟩ : ∃ mid : Nat, (a + b) / 2 = mid := ⟨_, rfl⟩;refine D_re 100 (v' := .int .i64 ((mid : Nat) : Int)) Y (by rw [hg_mid]) Y (Pe Y (D_wk [1, 2, 3, 4, 16] Y (Sr (P2 Y Y (ad (mid + m) Y Y Y Y (by omega) (by omega) (Pe Y (Sr (P2 Y Y (Dx (Cq (Sr (P3 Y Y Y (Dx (Cd Y (fun pr10 => ?_) (fun pr10 => ?_)))))))))))))))
   ·refine Sr (P2 Y Y (q1 Y (D_sub Y Y Y (r := ((mid + m - b : Nat) : Int)) (by omega) (by omega)) (Pe Y (Cr (P2 Y Y (Dx (Sr (p1 Y (q1 Y (D_sub Y Y Y (r := ((mid + m - 1 : Nat) : Int)) (by omega) (by omega)) (Pe Y (Cq (Cb (Cl (fun m_ ac w' => ∃ (s : Nat), ∃ (r : Nat), (max a (mid + m - b) ≤ s) ∧ (s ≤ r) ∧ (r ≤ min m mid) ∧ (Sea lt d (max a (mid + m - b)) (min m mid) (mid + m) s r) ∧ m_ = r - s ∧ Fits ac 177 [(1, (nv a)), (2, (nv m)), (3, (nv b)), (4, (pv g1)), (16, (nv mid)), (17, (nv (mid + m))), (18, (nv s)), (19, (nv r)), (20, (nv (mid + m - 1)))] ∧ St w0 (bx g1 [(.func (.func lf) #[] lc.toArray), (.func (.func sf) #[] sc.toArray)] :: C d :: Hs) w') ?_ ?_)))))))))))))
    ·refine fun ac w' hf hs => ⟨_, mid + m - b, mid, ?_, ?_, ?_, ?_, Y, hf.wk Y, hs⟩
     ·omega
     ·omega
     ·omega
     ·rw [show max a (mid + m - b) = mid + m - b from by omega, show min m mid = mid from by omega]; exact sea_start _ _ _ _
    ·rintro m_ ac w' ⟨s, r, h1, h2, h3, hsea, rfl, hf, hs⟩;refine D.use ?_ hf hs;clear hf hs ac w';refine Cq (Sr (P3 Y Y Y (Dx (Cd Y (fun pr11 => ?_) (fun pr11 => ?_)))))
     ·refine Sk (Cb (Sr (P2 Y Y (ad (s + r) Y Y Y Y (by omega) (by omega) (q1 Y (D_cvU (n := (s + r)) uu_208 ⟨_, ui_3⟩ Y Y (by omega)) (q1 Y (D_shU (n := (s + r)) Y Y Y (by omega)) (q1 Y (D_cvI (n := ((s + r) / 2)) ui_3 ⟨_, uu_208⟩ Y Y (by omega)) (Pe Y (Sr (fl 0 f_164_0 o_95 Y Y Y Y Y Y Y Y Y (P2 Y Y (q1 Y (D_sub Y Y Y (r := ((mid + m - 1 - ((s + r) / 2) : Nat) : Int)) (by omega) (by omega)) (p1 Y (D_fd [1] 0 Y (li Y (cless S hp (i := mid + m - 1 - ((s + r) / 2)) (j := (s + r) / 2) Y Y Y Y Y (by omega) (by omega) ?_))))))))))))))));refine Pe Y (D_wk [1, 2, 3, 4, 16, 17, 18, 19, 20, 21, 131] Y (Dh (_ :: _ :: Hs) Y (CN Y (fun h12n => ?_) (fun h12n => ?_))))
      ·refine Cr (p1 Y (ad ((s + r) / 2 + 1) Y Y Y Y (by omega) (by omega) (p1 Y (De (Xb (Xt (fun ac w' hf hs => ⟨_, ?_, (s + r) / 2 + 1, r, ?_, ?_, ?_, ?_, Y, hf.wk Y, hs.fd [0, 1] 0 Y⟩)))))))
       ·omega
       ·omega
       ·omega
       ·assumption
       ·exact sea_up ho hsea hs1 hs2 (by omega) (by omega) (by omega) (by omega) (by omega) (by omega) (by omega) (by omega) (by assumption)
      ·refine Cr (P2 Y Y (De (Xb (Xt (fun ac w' hf hs => ⟨_, ?_, s, (s + r) / 2, ?_, ?_, ?_, ?_, Y, hf.wk Y, hs.fd [0, 1] 0 Y⟩)))))
       ·omega
       ·assumption
       ·omega
       ·omega
       ·exact sea_dn ho hsea hs1 hs2 (by omega) (by omega) (by omega) (by omega) (by omega) (by omega) (by omega) (by omega) (by assumption)
     ·refine Cx (Xx (Xx (Xe (Xt (Sr (P2 Y Y (q1 Y (D_sub Y Y Y (r := ((mid + m - s : Nat) : Int)) (by omega) (by omega)) (Pe Y (Cq (Sr (P3 Y Y Y (p1 Y (gxd 141 Y Y (fun pr13 => ?_) (fun pr13 => ?_))))))))))))))
      ·refine P3 Y Y Y (Pe Y (D_wk [1, 2, 3, 4, 16, 18, 22, 145] Y (Cd Y (fun pr14 => ?_) (fun pr14 => ?_))))
       ·refine Cr (q1 Y (lbw 0 a_164 Y Y Y) (P3 Y Y Y (D_fd [1] 0 Y (li Y (csrt b_219 Y Y Y Y (fun w' hs => sort_rotate_func S ho hmx _ w' d hp s m (mid + m - s) (by omega) (by omega) (by omega) hs) fun e1 hro => ?_)))));refine Dx (Dh (C e1 :: _ :: Hs) Y (Cq (Cq ?_)));have hrot : Rot d e1 s m (mid + m - s) := by exact hro
        have hsea2 : Sea lt d (max a (mid + m - b)) (min m mid) (mid + m) s s := by rwa [show r = s from by omega] at hsea
        have hcr : Crs lt e1 a mid b := sym_crs ho rfl rfl hsea2 hs1 hs2 (by omega) (by omega) (by omega) (by omega) (by omega) (by omega) (by omega) (by omega) (by omega) hrot;have hsbr : Stb lt d e1 := stb_rot hrot (by omega) (by omega) (by omega) (sym_strict ho rfl rfl hsea2 hs1 hs2 (by omega) (by omega) (by omega) (by omega) (by omega) (by omega) (by omega) (by omega) (by omega));have hsd := rot_srd hrot hs1 hs2 (by omega) (by omega) (by omega) (by omega);rw [show s + (mid + m - s - m) = mid from by omega] at hsd;refine Cr (P3 Y Y Y (p1 Y (gxd 154 Y Y (fun pr15 => ?_) (fun pr15 => ?_))))
        ·refine P3 Y Y Y (Pe Y (Cd Y (fun pr16 => ?_) (fun pr16 => ?_)))
         ·refine Cr (q1 Y (lbw 1 a_164 Y Y Y) (P3 Y Y Y (li Y (csrt b_172 Y Y Y Y (fun w' hs => ih (mid - a) (by omega) _ w' e1 (hro.2.1.trans hp) a s mid (by omega) (by omega) (by omega) hsd.1 hsd.2.1 (Nat.le_refl _) hs) fun e2 hA0 => ?_))));refine Dx (D_wk [3, 4, 16, 22] Y (Dh (C e2 :: _ :: Hs) Y (Cq ?_)));have hA : Chg e1 e2 a mid ∧ Srd lt e2 a mid ∧ Stb lt e1 e2 := by exact hA0
          have hsm := srd_out hsd.2.2.1 hA.1 (.inr (Nat.le_refl _));have hsn := srd_out hsd.2.2.2 hA.1 (.inr (by omega));refine Cr (P3 Y Y Y (p1 Y (gxd 167 Y Y (fun pr17 => ?_) (fun pr17 => ?_))))
          ·refine P3 Y Y Y (Pe Y (Cd Y (fun pr18 => ?_) (fun pr18 => ?_)))
           ·refine Cr (q1 Y (lbw 1 a_164 Y Y Y) (P3 Y Y Y (li Y (csrt b_172 Y Y Y Y (fun w' hs => ih (b - mid) (by omega) _ w' e2 (hA0.1.perm.trans (hro.2.1.trans hp)) mid (mid + m - s) b (by omega) (by omega) (by assumption) hsm hsn (Nat.le_refl _) hs) fun e3 hB0 => ?_))));refine De (R_0n Y fun w' hs => ⟨Y, e3, ?_, hs.fd [0, 1] 1 Y⟩);have hB : Chg e2 e3 mid b ∧ Srd lt e3 mid b ∧ Stb lt e2 e3 := (by exact hB0); exact ⟨(((rot_chg hrot (by omega) (by omega)).mono (by omega) (by omega)).trans (hA.1.mono (by omega) (by omega))).trans (hB.1.mono (by omega) (by omega)), srd_join (srd_out hA.2.1 hB.1 (.inl (Nat.le_refl _))) hB.2.1 (crs_chg hcr hA.1 hB.1), stb_trans hsbr (stb_trans hA.2.2 hB.2.2)⟩
           ·refine Ck (R_0n Y fun w' hs => ⟨Y, e2, ?_, hs.fd [0, 1] 1 Y⟩);have hB : Chg e2 e2 mid b ∧ Srd lt e2 mid b ∧ Stb lt e2 e2 := (by exact ⟨Chg.refl _ _ _, srd_sub hsm (Nat.le_refl _) (by omega), stb_refl _⟩); exact ⟨(((rot_chg hrot (by omega) (by omega)).mono (by omega) (by omega)).trans (hA.1.mono (by omega) (by omega))).trans (hB.1.mono (by omega) (by omega)), srd_join (srd_out hA.2.1 hB.1 (.inl (Nat.le_refl _))) hB.2.1 (crs_chg hcr hA.1 hB.1), stb_trans hsbr (stb_trans hA.2.2 hB.2.2)⟩
          ·refine n1 Y (n1 Y (n1 Y (Pe Y (C_f Y (Ck (R_0n Y fun w' hs => ⟨Y, e2, ?_, hs.fd [0, 1] 1 Y⟩))))));have hB : Chg e2 e2 mid b ∧ Srd lt e2 mid b ∧ Stb lt e2 e2 := (by exact ⟨Chg.refl _ _ _, srd_sub hsm (Nat.le_refl _) (by omega), stb_refl _⟩); exact ⟨(((rot_chg hrot (by omega) (by omega)).mono (by omega) (by omega)).trans (hA.1.mono (by omega) (by omega))).trans (hB.1.mono (by omega) (by omega)), srd_join (srd_out hA.2.1 hB.1 (.inl (Nat.le_refl _))) hB.2.1 (crs_chg hcr hA.1 hB.1), stb_trans hsbr (stb_trans hA.2.2 hB.2.2)⟩
         ·refine Sk (D_wk [3, 4, 16, 22] Y (Cq ?_));have hA : Chg e1 e1 a mid ∧ Srd lt e1 a mid ∧ Stb lt e1 e1 := by exact ⟨Chg.refl _ _ _, srd_sub hsd.1 (Nat.le_refl _) (by omega), stb_refl _⟩
          have hsm := srd_out hsd.2.2.1 hA.1 (.inr (Nat.le_refl _));have hsn := srd_out hsd.2.2.2 hA.1 (.inr (by omega));refine Cr (P3 Y Y Y (p1 Y (gxd 167 Y Y (fun pr19 => ?_) (fun pr19 => ?_))))
          ·refine P3 Y Y Y (Pe Y (Cd Y (fun pr20 => ?_) (fun pr20 => ?_)))
           ·refine Cr (q1 Y (lbw 1 a_164 Y Y Y) (P3 Y Y Y (li Y (csrt b_172 Y Y Y Y (fun w' hs => ih (b - mid) (by omega) _ w' e1 (hro.2.1.trans hp) mid (mid + m - s) b (by omega) (by omega) (by assumption) hsm hsn (Nat.le_refl _) hs) fun e3 hB0 => ?_))));refine De (R_0n Y fun w' hs => ⟨Y, e3, ?_, hs.fd [0, 1] 1 Y⟩);have hB : Chg e1 e3 mid b ∧ Srd lt e3 mid b ∧ Stb lt e1 e3 := (by exact hB0); exact ⟨(((rot_chg hrot (by omega) (by omega)).mono (by omega) (by omega)).trans (hA.1.mono (by omega) (by omega))).trans (hB.1.mono (by omega) (by omega)), srd_join (srd_out hA.2.1 hB.1 (.inl (Nat.le_refl _))) hB.2.1 (crs_chg hcr hA.1 hB.1), stb_trans hsbr (stb_trans hA.2.2 hB.2.2)⟩
           ·refine Ck (R_0n Y fun w' hs => ⟨Y, e1, ?_, hs.fd [0, 1] 1 Y⟩);have hB : Chg e1 e1 mid b ∧ Srd lt e1 mid b ∧ Stb lt e1 e1 := (by exact ⟨Chg.refl _ _ _, srd_sub hsm (Nat.le_refl _) (by omega), stb_refl _⟩); exact ⟨(((rot_chg hrot (by omega) (by omega)).mono (by omega) (by omega)).trans (hA.1.mono (by omega) (by omega))).trans (hB.1.mono (by omega) (by omega)), srd_join (srd_out hA.2.1 hB.1 (.inl (Nat.le_refl _))) hB.2.1 (crs_chg hcr hA.1 hB.1), stb_trans hsbr (stb_trans hA.2.2 hB.2.2)⟩
          ·refine n1 Y (n1 Y (n1 Y (Pe Y (C_f Y (Ck (R_0n Y fun w' hs => ⟨Y, e1, ?_, hs.fd [0, 1] 1 Y⟩))))));have hB : Chg e1 e1 mid b ∧ Srd lt e1 mid b ∧ Stb lt e1 e1 := (by exact ⟨Chg.refl _ _ _, srd_sub hsm (Nat.le_refl _) (by omega), stb_refl _⟩); exact ⟨(((rot_chg hrot (by omega) (by omega)).mono (by omega) (by omega)).trans (hA.1.mono (by omega) (by omega))).trans (hB.1.mono (by omega) (by omega)), srd_join (srd_out hA.2.1 hB.1 (.inl (Nat.le_refl _))) hB.2.1 (crs_chg hcr hA.1 hB.1), stb_trans hsbr (stb_trans hA.2.2 hB.2.2)⟩
        ·refine n1 Y (n1 Y (n1 Y (Pe Y (C_f Y (Sk (D_wk [3, 4, 16, 22] Y (Cq ?_)))))));have hA : Chg e1 e1 a mid ∧ Srd lt e1 a mid ∧ Stb lt e1 e1 := by exact ⟨Chg.refl _ _ _, srd_sub hsd.2.1 (by omega) (Nat.le_refl _), stb_refl _⟩
         have hsm := srd_out hsd.2.2.1 hA.1 (.inr (Nat.le_refl _));have hsn := srd_out hsd.2.2.2 hA.1 (.inr (by omega));refine Cr (P3 Y Y Y (p1 Y (gxd 167 Y Y (fun pr21 => ?_) (fun pr21 => ?_))))
         ·refine P3 Y Y Y (Pe Y (Cd Y (fun pr22 => ?_) (fun pr22 => ?_)))
          ·refine Cr (q1 Y (lbw 1 a_164 Y Y Y) (P3 Y Y Y (li Y (csrt b_172 Y Y Y Y (fun w' hs => ih (b - mid) (by omega) _ w' e1 (hro.2.1.trans hp) mid (mid + m - s) b (by omega) (by omega) (by assumption) hsm hsn (Nat.le_refl _) hs) fun e3 hB0 => ?_))));refine De (R_0n Y fun w' hs => ⟨Y, e3, ?_, hs.fd [0, 1] 1 Y⟩);have hB : Chg e1 e3 mid b ∧ Srd lt e3 mid b ∧ Stb lt e1 e3 := (by exact hB0); exact ⟨(((rot_chg hrot (by omega) (by omega)).mono (by omega) (by omega)).trans (hA.1.mono (by omega) (by omega))).trans (hB.1.mono (by omega) (by omega)), srd_join (srd_out hA.2.1 hB.1 (.inl (Nat.le_refl _))) hB.2.1 (crs_chg hcr hA.1 hB.1), stb_trans hsbr (stb_trans hA.2.2 hB.2.2)⟩
          ·refine Ck (R_0n Y fun w' hs => ⟨Y, e1, ?_, hs.fd [0, 1] 1 Y⟩);have hB : Chg e1 e1 mid b ∧ Srd lt e1 mid b ∧ Stb lt e1 e1 := (by exact ⟨Chg.refl _ _ _, srd_sub hsm (Nat.le_refl _) (by omega), stb_refl _⟩); exact ⟨(((rot_chg hrot (by omega) (by omega)).mono (by omega) (by omega)).trans (hA.1.mono (by omega) (by omega))).trans (hB.1.mono (by omega) (by omega)), srd_join (srd_out hA.2.1 hB.1 (.inl (Nat.le_refl _))) hB.2.1 (crs_chg hcr hA.1 hB.1), stb_trans hsbr (stb_trans hA.2.2 hB.2.2)⟩
         ·refine n1 Y (n1 Y (n1 Y (Pe Y (C_f Y (Ck (R_0n Y fun w' hs => ⟨Y, e1, ?_, hs.fd [0, 1] 1 Y⟩))))));have hB : Chg e1 e1 mid b ∧ Srd lt e1 mid b ∧ Stb lt e1 e1 := (by exact ⟨Chg.refl _ _ _, srd_sub hsm (Nat.le_refl _) (by omega), stb_refl _⟩); exact ⟨(((rot_chg hrot (by omega) (by omega)).mono (by omega) (by omega)).trans (hA.1.mono (by omega) (by omega))).trans (hB.1.mono (by omega) (by omega)), srd_join (srd_out hA.2.1 hB.1 (.inl (Nat.le_refl _))) hB.2.1 (crs_chg hcr hA.1 hB.1), stb_trans hsbr (stb_trans hA.2.2 hB.2.2)⟩
       ·refine Sk (Cq (Cq ?_));have hrot : Rot d d s m (mid + m - s) := by exact rot_none (by omega) (by omega) (by omega)
        have hsea2 : Sea lt d (max a (mid + m - b)) (min m mid) (mid + m) s s := by rwa [show r = s from by omega] at hsea
        have hcr : Crs lt d a mid b := sym_crs ho rfl rfl hsea2 hs1 hs2 (by omega) (by omega) (by omega) (by omega) (by omega) (by omega) (by omega) (by omega) (by omega) hrot;have hsbr : Stb lt d d := stb_rot hrot (by omega) (by omega) (by omega) (sym_strict ho rfl rfl hsea2 hs1 hs2 (by omega) (by omega) (by omega) (by omega) (by omega) (by omega) (by omega) (by omega) (by omega));have hsd := rot_srd hrot hs1 hs2 (by omega) (by omega) (by omega) (by omega);rw [show s + (mid + m - s - m) = mid from by omega] at hsd;refine Cr (P3 Y Y Y (p1 Y (gxd 154 Y Y (fun pr23 => ?_) (fun pr23 => ?_))))
        ·refine P3 Y Y Y (Pe Y (Cd Y (fun pr24 => ?_) (fun pr24 => ?_)))
         ·refine Cr (q1 Y (lbw 0 a_164 Y Y Y) (P3 Y Y Y (D_fd [1] 0 Y (li Y (csrt b_172 Y Y Y Y (fun w' hs => ih (mid - a) (by omega) _ w' d hp a s mid (by omega) (by omega) (by omega) hsd.1 hsd.2.1 (Nat.le_refl _) hs) fun e2 hA0 => ?_)))));refine Dx (D_wk [3, 4, 16, 22] Y (Dh (C e2 :: _ :: Hs) Y (Cq ?_)));have hA : Chg d e2 a mid ∧ Srd lt e2 a mid ∧ Stb lt d e2 := by exact hA0
          have hsm := srd_out hsd.2.2.1 hA.1 (.inr (Nat.le_refl _));have hsn := srd_out hsd.2.2.2 hA.1 (.inr (by omega));refine Cr (P3 Y Y Y (p1 Y (gxd 167 Y Y (fun pr25 => ?_) (fun pr25 => ?_))))
          ·refine P3 Y Y Y (Pe Y (Cd Y (fun pr26 => ?_) (fun pr26 => ?_)))
           ·refine Cr (q1 Y (lbw 1 a_164 Y Y Y) (P3 Y Y Y (li Y (csrt b_172 Y Y Y Y (fun w' hs => ih (b - mid) (by omega) _ w' e2 (hA0.1.perm.trans hp) mid (mid + m - s) b (by omega) (by omega) (by assumption) hsm hsn (Nat.le_refl _) hs) fun e3 hB0 => ?_))));refine De (R_0n Y fun w' hs => ⟨Y, e3, ?_, hs.fd [0, 1] 1 Y⟩);have hB : Chg e2 e3 mid b ∧ Srd lt e3 mid b ∧ Stb lt e2 e3 := (by exact hB0); exact ⟨(((rot_chg hrot (by omega) (by omega)).mono (by omega) (by omega)).trans (hA.1.mono (by omega) (by omega))).trans (hB.1.mono (by omega) (by omega)), srd_join (srd_out hA.2.1 hB.1 (.inl (Nat.le_refl _))) hB.2.1 (crs_chg hcr hA.1 hB.1), stb_trans hsbr (stb_trans hA.2.2 hB.2.2)⟩
           ·refine Ck (R_0n Y fun w' hs => ⟨Y, e2, ?_, hs.fd [0, 1] 1 Y⟩);have hB : Chg e2 e2 mid b ∧ Srd lt e2 mid b ∧ Stb lt e2 e2 := (by exact ⟨Chg.refl _ _ _, srd_sub hsm (Nat.le_refl _) (by omega), stb_refl _⟩); exact ⟨(((rot_chg hrot (by omega) (by omega)).mono (by omega) (by omega)).trans (hA.1.mono (by omega) (by omega))).trans (hB.1.mono (by omega) (by omega)), srd_join (srd_out hA.2.1 hB.1 (.inl (Nat.le_refl _))) hB.2.1 (crs_chg hcr hA.1 hB.1), stb_trans hsbr (stb_trans hA.2.2 hB.2.2)⟩
          ·refine n1 Y (n1 Y (n1 Y (Pe Y (C_f Y (Ck (R_0n Y fun w' hs => ⟨Y, e2, ?_, hs.fd [0, 1] 1 Y⟩))))));have hB : Chg e2 e2 mid b ∧ Srd lt e2 mid b ∧ Stb lt e2 e2 := (by exact ⟨Chg.refl _ _ _, srd_sub hsm (Nat.le_refl _) (by omega), stb_refl _⟩); exact ⟨(((rot_chg hrot (by omega) (by omega)).mono (by omega) (by omega)).trans (hA.1.mono (by omega) (by omega))).trans (hB.1.mono (by omega) (by omega)), srd_join (srd_out hA.2.1 hB.1 (.inl (Nat.le_refl _))) hB.2.1 (crs_chg hcr hA.1 hB.1), stb_trans hsbr (stb_trans hA.2.2 hB.2.2)⟩
         ·refine Sk (Cq ?_);have hA : Chg d d a mid ∧ Srd lt d a mid ∧ Stb lt d d := by exact ⟨Chg.refl _ _ _, srd_sub hsd.1 (Nat.le_refl _) (by omega), stb_refl _⟩
          have hsm := srd_out hsd.2.2.1 hA.1 (.inr (Nat.le_refl _));have hsn := srd_out hsd.2.2.2 hA.1 (.inr (by omega));refine Cr (P3 Y Y Y (p1 Y (gxd 167 Y Y (fun pr27 => ?_) (fun pr27 => ?_))))
          ·refine P3 Y Y Y (Pe Y (D_wk [3, 4, 16, 22, 171] Y (Cd Y (fun pr28 => ?_) (fun pr28 => ?_))))
           ·refine Cr (q1 Y (lbw 0 a_164 Y Y Y) (P3 Y Y Y (D_fd [1] 0 Y (li Y (csrt b_172 Y Y Y Y (fun w' hs => ih (b - mid) (by omega) _ w' d hp mid (mid + m - s) b (by omega) (by omega) (by assumption) hsm hsn (Nat.le_refl _) hs) fun e3 hB0 => ?_)))));refine De (R_0n Y fun w' hs => ⟨Y, e3, ?_, hs.fd [0, 1] 1 Y⟩);have hB : Chg d e3 mid b ∧ Srd lt e3 mid b ∧ Stb lt d e3 := (by exact hB0); exact ⟨(((rot_chg hrot (by omega) (by omega)).mono (by omega) (by omega)).trans (hA.1.mono (by omega) (by omega))).trans (hB.1.mono (by omega) (by omega)), srd_join (srd_out hA.2.1 hB.1 (.inl (Nat.le_refl _))) hB.2.1 (crs_chg hcr hA.1 hB.1), stb_trans hsbr (stb_trans hA.2.2 hB.2.2)⟩
           ·refine Ck (R_0n Y fun w' hs => ⟨Y, d, ?_, hs.fd [] 1 Y⟩);have hB : Chg d d mid b ∧ Srd lt d mid b ∧ Stb lt d d := (by exact ⟨Chg.refl _ _ _, srd_sub hsm (Nat.le_refl _) (by omega), stb_refl _⟩); exact ⟨(((rot_chg hrot (by omega) (by omega)).mono (by omega) (by omega)).trans (hA.1.mono (by omega) (by omega))).trans (hB.1.mono (by omega) (by omega)), srd_join (srd_out hA.2.1 hB.1 (.inl (Nat.le_refl _))) hB.2.1 (crs_chg hcr hA.1 hB.1), stb_trans hsbr (stb_trans hA.2.2 hB.2.2)⟩
          ·refine n1 Y (n1 Y (n1 Y (Pe Y (D_wk [3, 4, 16, 22, 171] Y (C_f Y (Ck (R_0n Y fun w' hs => ⟨Y, d, ?_, hs.fd [] 1 Y⟩)))))));have hB : Chg d d mid b ∧ Srd lt d mid b ∧ Stb lt d d := (by exact ⟨Chg.refl _ _ _, srd_sub hsm (Nat.le_refl _) (by omega), stb_refl _⟩); exact ⟨(((rot_chg hrot (by omega) (by omega)).mono (by omega) (by omega)).trans (hA.1.mono (by omega) (by omega))).trans (hB.1.mono (by omega) (by omega)), srd_join (srd_out hA.2.1 hB.1 (.inl (Nat.le_refl _))) hB.2.1 (crs_chg hcr hA.1 hB.1), stb_trans hsbr (stb_trans hA.2.2 hB.2.2)⟩
        ·refine n1 Y (n1 Y (n1 Y (Pe Y (C_f Y (Sk (Cq ?_))))));have hA : Chg d d a mid ∧ Srd lt d a mid ∧ Stb lt d d := by exact ⟨Chg.refl _ _ _, srd_sub hsd.1 (Nat.le_refl _) (by omega), stb_refl _⟩
         have hsm := srd_out hsd.2.2.1 hA.1 (.inr (Nat.le_refl _));have hsn := srd_out hsd.2.2.2 hA.1 (.inr (by omega));refine Cr (P3 Y Y Y (p1 Y (gxd 167 Y Y (fun pr29 => ?_) (fun pr29 => ?_))))
         ·refine P3 Y Y Y (Pe Y (D_wk [3, 4, 16, 22, 171] Y (Cd Y (fun pr30 => ?_) (fun pr30 => ?_))))
          ·refine Cr (q1 Y (lbw 0 a_164 Y Y Y) (P3 Y Y Y (D_fd [1] 0 Y (li Y (csrt b_172 Y Y Y Y (fun w' hs => ih (b - mid) (by omega) _ w' d hp mid (mid + m - s) b (by omega) (by omega) (by assumption) hsm hsn (Nat.le_refl _) hs) fun e3 hB0 => ?_)))));refine De (R_0n Y fun w' hs => ⟨Y, e3, ?_, hs.fd [0, 1] 1 Y⟩);have hB : Chg d e3 mid b ∧ Srd lt e3 mid b ∧ Stb lt d e3 := (by exact hB0); exact ⟨(((rot_chg hrot (by omega) (by omega)).mono (by omega) (by omega)).trans (hA.1.mono (by omega) (by omega))).trans (hB.1.mono (by omega) (by omega)), srd_join (srd_out hA.2.1 hB.1 (.inl (Nat.le_refl _))) hB.2.1 (crs_chg hcr hA.1 hB.1), stb_trans hsbr (stb_trans hA.2.2 hB.2.2)⟩
          ·refine Ck (R_0n Y fun w' hs => ⟨Y, d, ?_, hs.fd [] 1 Y⟩);have hB : Chg d d mid b ∧ Srd lt d mid b ∧ Stb lt d d := (by exact ⟨Chg.refl _ _ _, srd_sub hsm (Nat.le_refl _) (by omega), stb_refl _⟩); exact ⟨(((rot_chg hrot (by omega) (by omega)).mono (by omega) (by omega)).trans (hA.1.mono (by omega) (by omega))).trans (hB.1.mono (by omega) (by omega)), srd_join (srd_out hA.2.1 hB.1 (.inl (Nat.le_refl _))) hB.2.1 (crs_chg hcr hA.1 hB.1), stb_trans hsbr (stb_trans hA.2.2 hB.2.2)⟩
         ·refine n1 Y (n1 Y (n1 Y (Pe Y (D_wk [3, 4, 16, 22, 171] Y (C_f Y (Ck (R_0n Y fun w' hs => ⟨Y, d, ?_, hs.fd [] 1 Y⟩)))))));have hB : Chg d d mid b ∧ Srd lt d mid b ∧ Stb lt d d := (by exact ⟨Chg.refl _ _ _, srd_sub hsm (Nat.le_refl _) (by omega), stb_refl _⟩); exact ⟨(((rot_chg hrot (by omega) (by omega)).mono (by omega) (by omega)).trans (hA.1.mono (by omega) (by omega))).trans (hB.1.mono (by omega) (by omega)), srd_join (srd_out hA.2.1 hB.1 (.inl (Nat.le_refl _))) hB.2.1 (crs_chg hcr hA.1 hB.1), stb_trans hsbr (stb_trans hA.2.2 hB.2.2)⟩
      ·refine n1 Y (n1 Y (n1 Y (Pe Y (D_wk [1, 2, 3, 4, 16, 18, 22, 145] Y (C_f Y (Sk (Cq (Cq ?_))))))));have hrot : Rot d d s m (mid + m - s) := by exact rot_none (by omega) (by omega) (by omega)
       have hsea2 : Sea lt d (max a (mid + m - b)) (min m mid) (mid + m) s s := by rwa [show r = s from by omega] at hsea
       have hcr : Crs lt d a mid b := sym_crs ho rfl rfl hsea2 hs1 hs2 (by omega) (by omega) (by omega) (by omega) (by omega) (by omega) (by omega) (by omega) (by omega) hrot;have hsbr : Stb lt d d := stb_rot hrot (by omega) (by omega) (by omega) (sym_strict ho rfl rfl hsea2 hs1 hs2 (by omega) (by omega) (by omega) (by omega) (by omega) (by omega) (by omega) (by omega) (by omega));have hsd := rot_srd hrot hs1 hs2 (by omega) (by omega) (by omega) (by omega);rw [show s + (mid + m - s - m) = mid from by omega] at hsd;refine Cr (P3 Y Y Y (p1 Y (gxd 154 Y Y (fun pr31 => ?_) (fun pr31 => ?_))))
       ·refine P3 Y Y Y (Pe Y (Cd Y (fun pr32 => ?_) (fun pr32 => ?_)))
        ·refine Cr (q1 Y (lbw 0 a_164 Y Y Y) (P3 Y Y Y (D_fd [1] 0 Y (li Y (csrt b_172 Y Y Y Y (fun w' hs => ih (mid - a) (by omega) _ w' d hp a s mid (by omega) (by omega) (by omega) hsd.1 hsd.2.1 (Nat.le_refl _) hs) fun e2 hA0 => ?_)))));refine Dx (D_wk [3, 4, 16, 22] Y (Dh (C e2 :: _ :: Hs) Y (Cq ?_)));have hA : Chg d e2 a mid ∧ Srd lt e2 a mid ∧ Stb lt d e2 := by exact hA0
         have hsm := srd_out hsd.2.2.1 hA.1 (.inr (Nat.le_refl _));have hsn := srd_out hsd.2.2.2 hA.1 (.inr (by omega));refine Cr (P3 Y Y Y (p1 Y (gxd 167 Y Y (fun pr33 => ?_) (fun pr33 => ?_))))
         ·refine P3 Y Y Y (Pe Y (Cd Y (fun pr34 => ?_) (fun pr34 => ?_)))
          ·refine Cr (q1 Y (lbw 1 a_164 Y Y Y) (P3 Y Y Y (li Y (csrt b_172 Y Y Y Y (fun w' hs => ih (b - mid) (by omega) _ w' e2 (hA0.1.perm.trans hp) mid (mid + m - s) b (by omega) (by omega) (by assumption) hsm hsn (Nat.le_refl _) hs) fun e3 hB0 => ?_))));refine De (R_0n Y fun w' hs => ⟨Y, e3, ?_, hs.fd [0, 1] 1 Y⟩);have hB : Chg e2 e3 mid b ∧ Srd lt e3 mid b ∧ Stb lt e2 e3 := (by exact hB0); exact ⟨(((rot_chg hrot (by omega) (by omega)).mono (by omega) (by omega)).trans (hA.1.mono (by omega) (by omega))).trans (hB.1.mono (by omega) (by omega)), srd_join (srd_out hA.2.1 hB.1 (.inl (Nat.le_refl _))) hB.2.1 (crs_chg hcr hA.1 hB.1), stb_trans hsbr (stb_trans hA.2.2 hB.2.2)⟩
          ·refine Ck (R_0n Y fun w' hs => ⟨Y, e2, ?_, hs.fd [0, 1] 1 Y⟩);have hB : Chg e2 e2 mid b ∧ Srd lt e2 mid b ∧ Stb lt e2 e2 := (by exact ⟨Chg.refl _ _ _, srd_sub hsm (Nat.le_refl _) (by omega), stb_refl _⟩); exact ⟨(((rot_chg hrot (by omega) (by omega)).mono (by omega) (by omega)).trans (hA.1.mono (by omega) (by omega))).trans (hB.1.mono (by omega) (by omega)), srd_join (srd_out hA.2.1 hB.1 (.inl (Nat.le_refl _))) hB.2.1 (crs_chg hcr hA.1 hB.1), stb_trans hsbr (stb_trans hA.2.2 hB.2.2)⟩
         ·refine n1 Y (n1 Y (n1 Y (Pe Y (C_f Y (Ck (R_0n Y fun w' hs => ⟨Y, e2, ?_, hs.fd [0, 1] 1 Y⟩))))));have hB : Chg e2 e2 mid b ∧ Srd lt e2 mid b ∧ Stb lt e2 e2 := (by exact ⟨Chg.refl _ _ _, srd_sub hsm (Nat.le_refl _) (by omega), stb_refl _⟩); exact ⟨(((rot_chg hrot (by omega) (by omega)).mono (by omega) (by omega)).trans (hA.1.mono (by omega) (by omega))).trans (hB.1.mono (by omega) (by omega)), srd_join (srd_out hA.2.1 hB.1 (.inl (Nat.le_refl _))) hB.2.1 (crs_chg hcr hA.1 hB.1), stb_trans hsbr (stb_trans hA.2.2 hB.2.2)⟩
        ·refine Sk (Cq ?_);have hA : Chg d d a mid ∧ Srd lt d a mid ∧ Stb lt d d := by exact ⟨Chg.refl _ _ _, srd_sub hsd.1 (Nat.le_refl _) (by omega), stb_refl _⟩
         have hsm := srd_out hsd.2.2.1 hA.1 (.inr (Nat.le_refl _));have hsn := srd_out hsd.2.2.2 hA.1 (.inr (by omega));refine Cr (P3 Y Y Y (p1 Y (gxd 167 Y Y (fun pr35 => ?_) (fun pr35 => ?_))))
         ·refine P3 Y Y Y (Pe Y (D_wk [3, 4, 16, 22, 171] Y (Cd Y (fun pr36 => ?_) (fun pr36 => ?_))))
          ·refine Cr (q1 Y (lbw 0 a_164 Y Y Y) (P3 Y Y Y (D_fd [1] 0 Y (li Y (csrt b_172 Y Y Y Y (fun w' hs => ih (b - mid) (by omega) _ w' d hp mid (mid + m - s) b (by omega) (by omega) (by assumption) hsm hsn (Nat.le_refl _) hs) fun e3 hB0 => ?_)))));refine De (R_0n Y fun w' hs => ⟨Y, e3, ?_, hs.fd [0, 1] 1 Y⟩);have hB : Chg d e3 mid b ∧ Srd lt e3 mid b ∧ Stb lt d e3 := (by exact hB0); exact ⟨(((rot_chg hrot (by omega) (by omega)).mono (by omega) (by omega)).trans (hA.1.mono (by omega) (by omega))).trans (hB.1.mono (by omega) (by omega)), srd_join (srd_out hA.2.1 hB.1 (.inl (Nat.le_refl _))) hB.2.1 (crs_chg hcr hA.1 hB.1), stb_trans hsbr (stb_trans hA.2.2 hB.2.2)⟩
          ·refine Ck (R_0n Y fun w' hs => ⟨Y, d, ?_, hs.fd [] 1 Y⟩);have hB : Chg d d mid b ∧ Srd lt d mid b ∧ Stb lt d d := (by exact ⟨Chg.refl _ _ _, srd_sub hsm (Nat.le_refl _) (by omega), stb_refl _⟩); exact ⟨(((rot_chg hrot (by omega) (by omega)).mono (by omega) (by omega)).trans (hA.1.mono (by omega) (by omega))).trans (hB.1.mono (by omega) (by omega)), srd_join (srd_out hA.2.1 hB.1 (.inl (Nat.le_refl _))) hB.2.1 (crs_chg hcr hA.1 hB.1), stb_trans hsbr (stb_trans hA.2.2 hB.2.2)⟩
         ·refine n1 Y (n1 Y (n1 Y (Pe Y (D_wk [3, 4, 16, 22, 171] Y (C_f Y (Ck (R_0n Y fun w' hs => ⟨Y, d, ?_, hs.fd [] 1 Y⟩)))))));have hB : Chg d d mid b ∧ Srd lt d mid b ∧ Stb lt d d := (by exact ⟨Chg.refl _ _ _, srd_sub hsm (Nat.le_refl _) (by omega), stb_refl _⟩); exact ⟨(((rot_chg hrot (by omega) (by omega)).mono (by omega) (by omega)).trans (hA.1.mono (by omega) (by omega))).trans (hB.1.mono (by omega) (by omega)), srd_join (srd_out hA.2.1 hB.1 (.inl (Nat.le_refl _))) hB.2.1 (crs_chg hcr hA.1 hB.1), stb_trans hsbr (stb_trans hA.2.2 hB.2.2)⟩
       ·refine n1 Y (n1 Y (n1 Y (Pe Y (C_f Y (Sk (Cq ?_))))));have hA : Chg d d a mid ∧ Srd lt d a mid ∧ Stb lt d d := by exact ⟨Chg.refl _ _ _, srd_sub hsd.1 (Nat.le_refl _) (by omega), stb_refl _⟩
        have hsm := srd_out hsd.2.2.1 hA.1 (.inr (Nat.le_refl _));have hsn := srd_out hsd.2.2.2 hA.1 (.inr (by omega));refine Cr (P3 Y Y Y (p1 Y (gxd 167 Y Y (fun pr37 => ?_) (fun pr37 => ?_))))
        ·refine P3 Y Y Y (Pe Y (D_wk [3, 4, 16, 22, 171] Y (Cd Y (fun pr38 => ?_) (fun pr38 => ?_))))
         ·refine Cr (q1 Y (lbw 0 a_164 Y Y Y) (P3 Y Y Y (D_fd [1] 0 Y (li Y (csrt b_172 Y Y Y Y (fun w' hs => ih (b - mid) (by omega) _ w' d hp mid (mid + m - s) b (by omega) (by omega) (by assumption) hsm hsn (Nat.le_refl _) hs) fun e3 hB0 => ?_)))));refine De (R_0n Y fun w' hs => ⟨Y, e3, ?_, hs.fd [0, 1] 1 Y⟩);have hB : Chg d e3 mid b ∧ Srd lt e3 mid b ∧ Stb lt d e3 := (by exact hB0); exact ⟨(((rot_chg hrot (by omega) (by omega)).mono (by omega) (by omega)).trans (hA.1.mono (by omega) (by omega))).trans (hB.1.mono (by omega) (by omega)), srd_join (srd_out hA.2.1 hB.1 (.inl (Nat.le_refl _))) hB.2.1 (crs_chg hcr hA.1 hB.1), stb_trans hsbr (stb_trans hA.2.2 hB.2.2)⟩
         ·refine Ck (R_0n Y fun w' hs => ⟨Y, d, ?_, hs.fd [] 1 Y⟩);have hB : Chg d d mid b ∧ Srd lt d mid b ∧ Stb lt d d := (by exact ⟨Chg.refl _ _ _, srd_sub hsm (Nat.le_refl _) (by omega), stb_refl _⟩); exact ⟨(((rot_chg hrot (by omega) (by omega)).mono (by omega) (by omega)).trans (hA.1.mono (by omega) (by omega))).trans (hB.1.mono (by omega) (by omega)), srd_join (srd_out hA.2.1 hB.1 (.inl (Nat.le_refl _))) hB.2.1 (crs_chg hcr hA.1 hB.1), stb_trans hsbr (stb_trans hA.2.2 hB.2.2)⟩
        ·refine n1 Y (n1 Y (n1 Y (Pe Y (D_wk [3, 4, 16, 22, 171] Y (C_f Y (Ck (R_0n Y fun w' hs => ⟨Y, d, ?_, hs.fd [] 1 Y⟩)))))));have hB : Chg d d mid b ∧ Srd lt d mid b ∧ Stb lt d d := (by exact ⟨Chg.refl _ _ _, srd_sub hsm (Nat.le_refl _) (by omega), stb_refl _⟩); exact ⟨(((rot_chg hrot (by omega) (by omega)).mono (by omega) (by omega)).trans (hA.1.mono (by omega) (by omega))).trans (hB.1.mono (by omega) (by omega)), srd_join (srd_out hA.2.1 hB.1 (.inl (Nat.le_refl _))) hB.2.1 (crs_chg hcr hA.1 hB.1), stb_trans hsbr (stb_trans hA.2.2 hB.2.2)⟩
   ·refine Sr (P2 Y Y (Dx (Cr (P2 Y Y (Dx (Sr (p1 Y (q1 Y (D_sub Y Y Y (r := ((mid + m - 1 : Nat) : Int)) (by omega) (by omega)) (Pe Y (Cq (Cb (Cl (fun m_ ac w' => ∃ (s : Nat), ∃ (r : Nat), (max a (mid + m - b) ≤ s) ∧ (s ≤ r) ∧ (r ≤ min m mid) ∧ (Sea lt d (max a (mid + m - b)) (min m mid) (mid + m) s r) ∧ m_ = r - s ∧ Fits ac 177 [(1, (nv a)), (2, (nv m)), (3, (nv b)), (4, (pv g1)), (16, (nv mid)), (17, (nv (mid + m))), (18, (nv s)), (19, (nv r)), (20, (nv (mid + m - 1)))] ∧ St w0 (bx g1 [(.func (.func lf) #[] lc.toArray), (.func (.func sf) #[] sc.toArray)] :: C d :: Hs) w') ?_ ?_))))))))))))
    ·refine fun ac w' hf hs => ⟨_, a, m, ?_, ?_, ?_, ?_, Y, hf.wk Y, hs⟩
     ·omega
     ·omega
     ·omega
     ·rw [show max a (mid + m - b) = a from by omega, show min m mid = m from by omega]; exact sea_start _ _ _ _
    ·rintro m_ ac w' ⟨s, r, h1, h2, h3, hsea, rfl, hf, hs⟩;refine D.use ?_ hf hs;clear hf hs ac w';refine Cq (Sr (P3 Y Y Y (Dx (Cd Y (fun pr39 => ?_) (fun pr39 => ?_)))))
     ·refine Sk (Cb (Sr (P2 Y Y (ad (s + r) Y Y Y Y (by omega) (by omega) (q1 Y (D_cvU (n := (s + r)) uu_208 ⟨_, ui_3⟩ Y Y (by omega)) (q1 Y (D_shU (n := (s + r)) Y Y Y (by omega)) (q1 Y (D_cvI (n := ((s + r) / 2)) ui_3 ⟨_, uu_208⟩ Y Y (by omega)) (Pe Y (Sr (fl 0 f_164_0 o_95 Y Y Y Y Y Y Y Y Y (P2 Y Y (q1 Y (D_sub Y Y Y (r := ((mid + m - 1 - ((s + r) / 2) : Nat) : Int)) (by omega) (by omega)) (p1 Y (D_fd [1] 0 Y (li Y (cless S hp (i := mid + m - 1 - ((s + r) / 2)) (j := (s + r) / 2) Y Y Y Y Y (by omega) (by omega) ?_))))))))))))))));refine Pe Y (D_wk [1, 2, 3, 4, 16, 17, 18, 19, 20, 21, 131] Y (Dh (_ :: _ :: Hs) Y (CN Y (fun h40n => ?_) (fun h40n => ?_))))
      ·refine Cr (p1 Y (ad ((s + r) / 2 + 1) Y Y Y Y (by omega) (by omega) (p1 Y (De (Xb (Xt (fun ac w' hf hs => ⟨_, ?_, (s + r) / 2 + 1, r, ?_, ?_, ?_, ?_, Y, hf.wk Y, hs.fd [0, 1] 0 Y⟩)))))))
       ·omega
       ·omega
       ·omega
       ·assumption
       ·exact sea_up ho hsea hs1 hs2 (by omega) (by omega) (by omega) (by omega) (by omega) (by omega) (by omega) (by omega) (by assumption)
      ·refine Cr (P2 Y Y (De (Xb (Xt (fun ac w' hf hs => ⟨_, ?_, s, (s + r) / 2, ?_, ?_, ?_, ?_, Y, hf.wk Y, hs.fd [0, 1] 0 Y⟩)))))
       ·omega
       ·assumption
       ·omega
       ·omega
       ·exact sea_dn ho hsea hs1 hs2 (by omega) (by omega) (by omega) (by omega) (by omega) (by omega) (by omega) (by omega) (by assumption)
     ·refine Cx (Xx (Xx (Xe (Xt (Sr (P2 Y Y (q1 Y (D_sub Y Y Y (r := ((mid + m - s : Nat) : Int)) (by omega) (by omega)) (Pe Y (Cq (Sr (P3 Y Y Y (p1 Y (gxd 141 Y Y (fun pr41 => ?_) (fun pr41 => ?_))))))))))))))
      ·refine P3 Y Y Y (Pe Y (D_wk [1, 2, 3, 4, 16, 18, 22, 145] Y (Cd Y (fun pr42 => ?_) (fun pr42 => ?_))))
       ·refine Cr (q1 Y (lbw 0 a_164 Y Y Y) (P3 Y Y Y (D_fd [1] 0 Y (li Y (csrt b_219 Y Y Y Y (fun w' hs => sort_rotate_func S ho hmx _ w' d hp s m (mid + m - s) (by omega) (by omega) (by omega) hs) fun e1 hro => ?_)))));refine Dx (Dh (C e1 :: _ :: Hs) Y (Cq (Cq ?_)));have hrot : Rot d e1 s m (mid + m - s) := by exact hro
        have hsea2 : Sea lt d (max a (mid + m - b)) (min m mid) (mid + m) s s := by rwa [show r = s from by omega] at hsea
        have hcr : Crs lt e1 a mid b := sym_crs ho rfl rfl hsea2 hs1 hs2 (by omega) (by omega) (by omega) (by omega) (by omega) (by omega) (by omega) (by omega) (by omega) hrot;have hsbr : Stb lt d e1 := stb_rot hrot (by omega) (by omega) (by omega) (sym_strict ho rfl rfl hsea2 hs1 hs2 (by omega) (by omega) (by omega) (by omega) (by omega) (by omega) (by omega) (by omega) (by omega));have hsd := rot_srd hrot hs1 hs2 (by omega) (by omega) (by omega) (by omega);rw [show s + (mid + m - s - m) = mid from by omega] at hsd;refine Cr (P3 Y Y Y (p1 Y (gxd 154 Y Y (fun pr43 => ?_) (fun pr43 => ?_))))
        ·refine P3 Y Y Y (Pe Y (Cd Y (fun pr44 => ?_) (fun pr44 => ?_)))
         ·refine Cr (q1 Y (lbw 1 a_164 Y Y Y) (P3 Y Y Y (li Y (csrt b_172 Y Y Y Y (fun w' hs => ih (mid - a) (by omega) _ w' e1 (hro.2.1.trans hp) a s mid (by omega) (by omega) (by omega) hsd.1 hsd.2.1 (Nat.le_refl _) hs) fun e2 hA0 => ?_))));refine Dx (D_wk [3, 4, 16, 22] Y (Dh (C e2 :: _ :: Hs) Y (Cq ?_)));have hA : Chg e1 e2 a mid ∧ Srd lt e2 a mid ∧ Stb lt e1 e2 := by exact hA0
          have hsm := srd_out hsd.2.2.1 hA.1 (.inr (Nat.le_refl _));have hsn := srd_out hsd.2.2.2 hA.1 (.inr (by omega));refine Cr (P3 Y Y Y (p1 Y (gxd 167 Y Y (fun pr45 => ?_) (fun pr45 => ?_))))
          ·refine P3 Y Y Y (Pe Y (Cd Y (fun pr46 => ?_) (fun pr46 => ?_)))
           ·refine Cr (q1 Y (lbw 1 a_164 Y Y Y) (P3 Y Y Y (li Y (csrt b_172 Y Y Y Y (fun w' hs => ih (b - mid) (by omega) _ w' e2 (hA0.1.perm.trans (hro.2.1.trans hp)) mid (mid + m - s) b (by omega) (by omega) (by assumption) hsm hsn (Nat.le_refl _) hs) fun e3 hB0 => ?_))));refine De (R_0n Y fun w' hs => ⟨Y, e3, ?_, hs.fd [0, 1] 1 Y⟩);have hB : Chg e2 e3 mid b ∧ Srd lt e3 mid b ∧ Stb lt e2 e3 := (by exact hB0); exact ⟨(((rot_chg hrot (by omega) (by omega)).mono (by omega) (by omega)).trans (hA.1.mono (by omega) (by omega))).trans (hB.1.mono (by omega) (by omega)), srd_join (srd_out hA.2.1 hB.1 (.inl (Nat.le_refl _))) hB.2.1 (crs_chg hcr hA.1 hB.1), stb_trans hsbr (stb_trans hA.2.2 hB.2.2)⟩
           ·refine Ck (R_0n Y fun w' hs => ⟨Y, e2, ?_, hs.fd [0, 1] 1 Y⟩);have hB : Chg e2 e2 mid b ∧ Srd lt e2 mid b ∧ Stb lt e2 e2 := (by exact ⟨Chg.refl _ _ _, srd_sub hsm (Nat.le_refl _) (by omega), stb_refl _⟩); exact ⟨(((rot_chg hrot (by omega) (by omega)).mono (by omega) (by omega)).trans (hA.1.mono (by omega) (by omega))).trans (hB.1.mono (by omega) (by omega)), srd_join (srd_out hA.2.1 hB.1 (.inl (Nat.le_refl _))) hB.2.1 (crs_chg hcr hA.1 hB.1), stb_trans hsbr (stb_trans hA.2.2 hB.2.2)⟩
          ·refine n1 Y (n1 Y (n1 Y (Pe Y (C_f Y (Ck (R_0n Y fun w' hs => ⟨Y, e2, ?_, hs.fd [0, 1] 1 Y⟩))))));have hB : Chg e2 e2 mid b ∧ Srd lt e2 mid b ∧ Stb lt e2 e2 := (by exact ⟨Chg.refl _ _ _, srd_sub hsm (Nat.le_refl _) (by omega), stb_refl _⟩); exact ⟨(((rot_chg hrot (by omega) (by omega)).mono (by omega) (by omega)).trans (hA.1.mono (by omega) (by omega))).trans (hB.1.mono (by omega) (by omega)), srd_join (srd_out hA.2.1 hB.1 (.inl (Nat.le_refl _))) hB.2.1 (crs_chg hcr hA.1 hB.1), stb_trans hsbr (stb_trans hA.2.2 hB.2.2)⟩
         ·refine Sk (D_wk [3, 4, 16, 22] Y (Cq ?_));have hA : Chg e1 e1 a mid ∧ Srd lt e1 a mid ∧ Stb lt e1 e1 := by exact ⟨Chg.refl _ _ _, srd_sub hsd.1 (Nat.le_refl _) (by omega), stb_refl _⟩
          have hsm := srd_out hsd.2.2.1 hA.1 (.inr (Nat.le_refl _));have hsn := srd_out hsd.2.2.2 hA.1 (.inr (by omega));refine Cr (P3 Y Y Y (p1 Y (gxd 167 Y Y (fun pr47 => ?_) (fun pr47 => ?_))))
          ·refine P3 Y Y Y (Pe Y (Cd Y (fun pr48 => ?_) (fun pr48 => ?_)))
           ·refine Cr (q1 Y (lbw 1 a_164 Y Y Y) (P3 Y Y Y (li Y (csrt b_172 Y Y Y Y (fun w' hs => ih (b - mid) (by omega) _ w' e1 (hro.2.1.trans hp) mid (mid + m - s) b (by omega) (by omega) (by assumption) hsm hsn (Nat.le_refl _) hs) fun e3 hB0 => ?_))));refine De (R_0n Y fun w' hs => ⟨Y, e3, ?_, hs.fd [0, 1] 1 Y⟩);have hB : Chg e1 e3 mid b ∧ Srd lt e3 mid b ∧ Stb lt e1 e3 := (by exact hB0); exact ⟨(((rot_chg hrot (by omega) (by omega)).mono (by omega) (by omega)).trans (hA.1.mono (by omega) (by omega))).trans (hB.1.mono (by omega) (by omega)), srd_join (srd_out hA.2.1 hB.1 (.inl (Nat.le_refl _))) hB.2.1 (crs_chg hcr hA.1 hB.1), stb_trans hsbr (stb_trans hA.2.2 hB.2.2)⟩
           ·refine Ck (R_0n Y fun w' hs => ⟨Y, e1, ?_, hs.fd [0, 1] 1 Y⟩);have hB : Chg e1 e1 mid b ∧ Srd lt e1 mid b ∧ Stb lt e1 e1 := (by exact ⟨Chg.refl _ _ _, srd_sub hsm (Nat.le_refl _) (by omega), stb_refl _⟩); exact ⟨(((rot_chg hrot (by omega) (by omega)).mono (by omega) (by omega)).trans (hA.1.mono (by omega) (by omega))).trans (hB.1.mono (by omega) (by omega)), srd_join (srd_out hA.2.1 hB.1 (.inl (Nat.le_refl _))) hB.2.1 (crs_chg hcr hA.1 hB.1), stb_trans hsbr (stb_trans hA.2.2 hB.2.2)⟩
          ·refine n1 Y (n1 Y (n1 Y (Pe Y (C_f Y (Ck (R_0n Y fun w' hs => ⟨Y, e1, ?_, hs.fd [0, 1] 1 Y⟩))))));have hB : Chg e1 e1 mid b ∧ Srd lt e1 mid b ∧ Stb lt e1 e1 := (by exact ⟨Chg.refl _ _ _, srd_sub hsm (Nat.le_refl _) (by omega), stb_refl _⟩); exact ⟨(((rot_chg hrot (by omega) (by omega)).mono (by omega) (by omega)).trans (hA.1.mono (by omega) (by omega))).trans (hB.1.mono (by omega) (by omega)), srd_join (srd_out hA.2.1 hB.1 (.inl (Nat.le_refl _))) hB.2.1 (crs_chg hcr hA.1 hB.1), stb_trans hsbr (stb_trans hA.2.2 hB.2.2)⟩
        ·refine n1 Y (n1 Y (n1 Y (Pe Y (C_f Y (Sk (D_wk [3, 4, 16, 22] Y (Cq ?_)))))));have hA : Chg e1 e1 a mid ∧ Srd lt e1 a mid ∧ Stb lt e1 e1 := by exact ⟨Chg.refl _ _ _, srd_sub hsd.2.1 (by omega) (Nat.le_refl _), stb_refl _⟩
         have hsm := srd_out hsd.2.2.1 hA.1 (.inr (Nat.le_refl _));have hsn := srd_out hsd.2.2.2 hA.1 (.inr (by omega));refine Cr (P3 Y Y Y (p1 Y (gxd 167 Y Y (fun pr49 => ?_) (fun pr49 => ?_))))
         ·refine P3 Y Y Y (Pe Y (Cd Y (fun pr50 => ?_) (fun pr50 => ?_)))
          ·refine Cr (q1 Y (lbw 1 a_164 Y Y Y) (P3 Y Y Y (li Y (csrt b_172 Y Y Y Y (fun w' hs => ih (b - mid) (by omega) _ w' e1 (hro.2.1.trans hp) mid (mid + m - s) b (by omega) (by omega) (by assumption) hsm hsn (Nat.le_refl _) hs) fun e3 hB0 => ?_))));refine De (R_0n Y fun w' hs => ⟨Y, e3, ?_, hs.fd [0, 1] 1 Y⟩);have hB : Chg e1 e3 mid b ∧ Srd lt e3 mid b ∧ Stb lt e1 e3 := (by exact hB0); exact ⟨(((rot_chg hrot (by omega) (by omega)).mono (by omega) (by omega)).trans (hA.1.mono (by omega) (by omega))).trans (hB.1.mono (by omega) (by omega)), srd_join (srd_out hA.2.1 hB.1 (.inl (Nat.le_refl _))) hB.2.1 (crs_chg hcr hA.1 hB.1), stb_trans hsbr (stb_trans hA.2.2 hB.2.2)⟩
          ·refine Ck (R_0n Y fun w' hs => ⟨Y, e1, ?_, hs.fd [0, 1] 1 Y⟩);have hB : Chg e1 e1 mid b ∧ Srd lt e1 mid b ∧ Stb lt e1 e1 := (by exact ⟨Chg.refl _ _ _, srd_sub hsm (Nat.le_refl _) (by omega), stb_refl _⟩); exact ⟨(((rot_chg hrot (by omega) (by omega)).mono (by omega) (by omega)).trans (hA.1.mono (by omega) (by omega))).trans (hB.1.mono (by omega) (by omega)), srd_join (srd_out hA.2.1 hB.1 (.inl (Nat.le_refl _))) hB.2.1 (crs_chg hcr hA.1 hB.1), stb_trans hsbr (stb_trans hA.2.2 hB.2.2)⟩
         ·refine n1 Y (n1 Y (n1 Y (Pe Y (C_f Y (Ck (R_0n Y fun w' hs => ⟨Y, e1, ?_, hs.fd [0, 1] 1 Y⟩))))));have hB : Chg e1 e1 mid b ∧ Srd lt e1 mid b ∧ Stb lt e1 e1 := (by exact ⟨Chg.refl _ _ _, srd_sub hsm (Nat.le_refl _) (by omega), stb_refl _⟩); exact ⟨(((rot_chg hrot (by omega) (by omega)).mono (by omega) (by omega)).trans (hA.1.mono (by omega) (by omega))).trans (hB.1.mono (by omega) (by omega)), srd_join (srd_out hA.2.1 hB.1 (.inl (Nat.le_refl _))) hB.2.1 (crs_chg hcr hA.1 hB.1), stb_trans hsbr (stb_trans hA.2.2 hB.2.2)⟩
       ·refine Sk (Cq (Cq ?_));have hrot : Rot d d s m (mid + m - s) := by exact rot_none (by omega) (by omega) (by omega)
        have hsea2 : Sea lt d (max a (mid + m - b)) (min m mid) (mid + m) s s := by rwa [show r = s from by omega] at hsea
        have hcr : Crs lt d a mid b := sym_crs ho rfl rfl hsea2 hs1 hs2 (by omega) (by omega) (by omega) (by omega) (by omega) (by omega) (by omega) (by omega) (by omega) hrot;have hsbr : Stb lt d d := stb_rot hrot (by omega) (by omega) (by omega) (sym_strict ho rfl rfl hsea2 hs1 hs2 (by omega) (by omega) (by omega) (by omega) (by omega) (by omega) (by omega) (by omega) (by omega));have hsd := rot_srd hrot hs1 hs2 (by omega) (by omega) (by omega) (by omega);rw [show s + (mid + m - s - m) = mid from by omega] at hsd;refine Cr (P3 Y Y Y (p1 Y (gxd 154 Y Y (fun pr51 => ?_) (fun pr51 => ?_))))
        ·refine P3 Y Y Y (Pe Y (Cd Y (fun pr52 => ?_) (fun pr52 => ?_)))
         ·refine Cr (q1 Y (lbw 0 a_164 Y Y Y) (P3 Y Y Y (D_fd [1] 0 Y (li Y (csrt b_172 Y Y Y Y (fun w' hs => ih (mid - a) (by omega) _ w' d hp a s mid (by omega) (by omega) (by omega) hsd.1 hsd.2.1 (Nat.le_refl _) hs) fun e2 hA0 => ?_)))));refine Dx (D_wk [3, 4, 16, 22] Y (Dh (C e2 :: _ :: Hs) Y (Cq ?_)));have hA : Chg d e2 a mid ∧ Srd lt e2 a mid ∧ Stb lt d e2 := by exact hA0
          have hsm := srd_out hsd.2.2.1 hA.1 (.inr (Nat.le_refl _));have hsn := srd_out hsd.2.2.2 hA.1 (.inr (by omega));refine Cr (P3 Y Y Y (p1 Y (gxd 167 Y Y (fun pr53 => ?_) (fun pr53 => ?_))))
          ·refine P3 Y Y Y (Pe Y (Cd Y (fun pr54 => ?_) (fun pr54 => ?_)))
           ·refine Cr (q1 Y (lbw 1 a_164 Y Y Y) (P3 Y Y Y (li Y (csrt b_172 Y Y Y Y (fun w' hs => ih (b - mid) (by omega) _ w' e2 (hA0.1.perm.trans hp) mid (mid + m - s) b (by omega) (by omega) (by assumption) hsm hsn (Nat.le_refl _) hs) fun e3 hB0 => ?_))));refine De (R_0n Y fun w' hs => ⟨Y, e3, ?_, hs.fd [0, 1] 1 Y⟩);have hB : Chg e2 e3 mid b ∧ Srd lt e3 mid b ∧ Stb lt e2 e3 := (by exact hB0); exact ⟨(((rot_chg hrot (by omega) (by omega)).mono (by omega) (by omega)).trans (hA.1.mono (by omega) (by omega))).trans (hB.1.mono (by omega) (by omega)), srd_join (srd_out hA.2.1 hB.1 (.inl (Nat.le_refl _))) hB.2.1 (crs_chg hcr hA.1 hB.1), stb_trans hsbr (stb_trans hA.2.2 hB.2.2)⟩
           ·refine Ck (R_0n Y fun w' hs => ⟨Y, e2, ?_, hs.fd [0, 1] 1 Y⟩);have hB : Chg e2 e2 mid b ∧ Srd lt e2 mid b ∧ Stb lt e2 e2 := (by exact ⟨Chg.refl _ _ _, srd_sub hsm (Nat.le_refl _) (by omega), stb_refl _⟩); exact ⟨(((rot_chg hrot (by omega) (by omega)).mono (by omega) (by omega)).trans (hA.1.mono (by omega) (by omega))).trans (hB.1.mono (by omega) (by omega)), srd_join (srd_out hA.2.1 hB.1 (.inl (Nat.le_refl _))) hB.2.1 (crs_chg hcr hA.1 hB.1), stb_trans hsbr (stb_trans hA.2.2 hB.2.2)⟩
          ·refine n1 Y (n1 Y (n1 Y (Pe Y (C_f Y (Ck (R_0n Y fun w' hs => ⟨Y, e2, ?_, hs.fd [0, 1] 1 Y⟩))))));have hB : Chg e2 e2 mid b ∧ Srd lt e2 mid b ∧ Stb lt e2 e2 := (by exact ⟨Chg.refl _ _ _, srd_sub hsm (Nat.le_refl _) (by omega), stb_refl _⟩); exact ⟨(((rot_chg hrot (by omega) (by omega)).mono (by omega) (by omega)).trans (hA.1.mono (by omega) (by omega))).trans (hB.1.mono (by omega) (by omega)), srd_join (srd_out hA.2.1 hB.1 (.inl (Nat.le_refl _))) hB.2.1 (crs_chg hcr hA.1 hB.1), stb_trans hsbr (stb_trans hA.2.2 hB.2.2)⟩
         ·refine Sk (Cq ?_);have hA : Chg d d a mid ∧ Srd lt d a mid ∧ Stb lt d d := by exact ⟨Chg.refl _ _ _, srd_sub hsd.1 (Nat.le_refl _) (by omega), stb_refl _⟩
          have hsm := srd_out hsd.2.2.1 hA.1 (.inr (Nat.le_refl _));have hsn := srd_out hsd.2.2.2 hA.1 (.inr (by omega));refine Cr (P3 Y Y Y (p1 Y (gxd 167 Y Y (fun pr55 => ?_) (fun pr55 => ?_))))
          ·refine P3 Y Y Y (Pe Y (D_wk [3, 4, 16, 22, 171] Y (Cd Y (fun pr56 => ?_) (fun pr56 => ?_))))
           ·refine Cr (q1 Y (lbw 0 a_164 Y Y Y) (P3 Y Y Y (D_fd [1] 0 Y (li Y (csrt b_172 Y Y Y Y (fun w' hs => ih (b - mid) (by omega) _ w' d hp mid (mid + m - s) b (by omega) (by omega) (by assumption) hsm hsn (Nat.le_refl _) hs) fun e3 hB0 => ?_)))));refine De (R_0n Y fun w' hs => ⟨Y, e3, ?_, hs.fd [0, 1] 1 Y⟩);have hB : Chg d e3 mid b ∧ Srd lt e3 mid b ∧ Stb lt d e3 := (by exact hB0); exact ⟨(((rot_chg hrot (by omega) (by omega)).mono (by omega) (by omega)).trans (hA.1.mono (by omega) (by omega))).trans (hB.1.mono (by omega) (by omega)), srd_join (srd_out hA.2.1 hB.1 (.inl (Nat.le_refl _))) hB.2.1 (crs_chg hcr hA.1 hB.1), stb_trans hsbr (stb_trans hA.2.2 hB.2.2)⟩
           ·refine Ck (R_0n Y fun w' hs => ⟨Y, d, ?_, hs.fd [] 1 Y⟩);have hB : Chg d d mid b ∧ Srd lt d mid b ∧ Stb lt d d := (by exact ⟨Chg.refl _ _ _, srd_sub hsm (Nat.le_refl _) (by omega), stb_refl _⟩); exact ⟨(((rot_chg hrot (by omega) (by omega)).mono (by omega) (by omega)).trans (hA.1.mono (by omega) (by omega))).trans (hB.1.mono (by omega) (by omega)), srd_join (srd_out hA.2.1 hB.1 (.inl (Nat.le_refl _))) hB.2.1 (crs_chg hcr hA.1 hB.1), stb_trans hsbr (stb_trans hA.2.2 hB.2.2)⟩
          ·refine n1 Y (n1 Y (n1 Y (Pe Y (D_wk [3, 4, 16, 22, 171] Y (C_f Y (Ck (R_0n Y fun w' hs => ⟨Y, d, ?_, hs.fd [] 1 Y⟩)))))));have hB : Chg d d mid b ∧ Srd lt d mid b ∧ Stb lt d d := (by exact ⟨Chg.refl _ _ _, srd_sub hsm (Nat.le_refl _) (by omega), stb_refl _⟩); exact ⟨(((rot_chg hrot (by omega) (by omega)).mono (by omega) (by omega)).trans (hA.1.mono (by omega) (by omega))).trans (hB.1.mono (by omega) (by omega)), srd_join (srd_out hA.2.1 hB.1 (.inl (Nat.le_refl _))) hB.2.1 (crs_chg hcr hA.1 hB.1), stb_trans hsbr (stb_trans hA.2.2 hB.2.2)⟩
        ·refine n1 Y (n1 Y (n1 Y (Pe Y (C_f Y (Sk (Cq ?_))))));have hA : Chg d d a mid ∧ Srd lt d a mid ∧ Stb lt d d := by exact ⟨Chg.refl _ _ _, srd_sub hsd.1 (Nat.le_refl _) (by omega), stb_refl _⟩
         have hsm := srd_out hsd.2.2.1 hA.1 (.inr (Nat.le_refl _));have hsn := srd_out hsd.2.2.2 hA.1 (.inr (by omega));refine Cr (P3 Y Y Y (p1 Y (gxd 167 Y Y (fun pr57 => ?_) (fun pr57 => ?_))))
         ·refine P3 Y Y Y (Pe Y (D_wk [3, 4, 16, 22, 171] Y (Cd Y (fun pr58 => ?_) (fun pr58 => ?_))))
          ·refine Cr (q1 Y (lbw 0 a_164 Y Y Y) (P3 Y Y Y (D_fd [1] 0 Y (li Y (csrt b_172 Y Y Y Y (fun w' hs => ih (b - mid) (by omega) _ w' d hp mid (mid + m - s) b (by omega) (by omega) (by assumption) hsm hsn (Nat.le_refl _) hs) fun e3 hB0 => ?_)))));refine De (R_0n Y fun w' hs => ⟨Y, e3, ?_, hs.fd [0, 1] 1 Y⟩);have hB : Chg d e3 mid b ∧ Srd lt e3 mid b ∧ Stb lt d e3 := (by exact hB0); exact ⟨(((rot_chg hrot (by omega) (by omega)).mono (by omega) (by omega)).trans (hA.1.mono (by omega) (by omega))).trans (hB.1.mono (by omega) (by omega)), srd_join (srd_out hA.2.1 hB.1 (.inl (Nat.le_refl _))) hB.2.1 (crs_chg hcr hA.1 hB.1), stb_trans hsbr (stb_trans hA.2.2 hB.2.2)⟩
          ·refine Ck (R_0n Y fun w' hs => ⟨Y, d, ?_, hs.fd [] 1 Y⟩);have hB : Chg d d mid b ∧ Srd lt d mid b ∧ Stb lt d d := (by exact ⟨Chg.refl _ _ _, srd_sub hsm (Nat.le_refl _) (by omega), stb_refl _⟩); exact ⟨(((rot_chg hrot (by omega) (by omega)).mono (by omega) (by omega)).trans (hA.1.mono (by omega) (by omega))).trans (hB.1.mono (by omega) (by omega)), srd_join (srd_out hA.2.1 hB.1 (.inl (Nat.le_refl _))) hB.2.1 (crs_chg hcr hA.1 hB.1), stb_trans hsbr (stb_trans hA.2.2 hB.2.2)⟩
         ·refine n1 Y (n1 Y (n1 Y (Pe Y (D_wk [3, 4, 16, 22, 171] Y (C_f Y (Ck (R_0n Y fun w' hs => ⟨Y, d, ?_, hs.fd [] 1 Y⟩)))))));have hB : Chg d d mid b ∧ Srd lt d mid b ∧ Stb lt d d := (by exact ⟨Chg.refl _ _ _, srd_sub hsm (Nat.le_refl _) (by omega), stb_refl _⟩); exact ⟨(((rot_chg hrot (by omega) (by omega)).mono (by omega) (by omega)).trans (hA.1.mono (by omega) (by omega))).trans (hB.1.mono (by omega) (by omega)), srd_join (srd_out hA.2.1 hB.1 (.inl (Nat.le_refl _))) hB.2.1 (crs_chg hcr hA.1 hB.1), stb_trans hsbr (stb_trans hA.2.2 hB.2.2)⟩
      ·refine n1 Y (n1 Y (n1 Y (Pe Y (D_wk [1, 2, 3, 4, 16, 18, 22, 145] Y (C_f Y (Sk (Cq (Cq ?_))))))));have hrot : Rot d d s m (mid + m - s) := by exact rot_none (by omega) (by omega) (by omega)
       have hsea2 : Sea lt d (max a (mid + m - b)) (min m mid) (mid + m) s s := by rwa [show r = s from by omega] at hsea
       have hcr : Crs lt d a mid b := sym_crs ho rfl rfl hsea2 hs1 hs2 (by omega) (by omega) (by omega) (by omega) (by omega) (by omega) (by omega) (by omega) (by omega) hrot;have hsbr : Stb lt d d := stb_rot hrot (by omega) (by omega) (by omega) (sym_strict ho rfl rfl hsea2 hs1 hs2 (by omega) (by omega) (by omega) (by omega) (by omega) (by omega) (by omega) (by omega) (by omega));have hsd := rot_srd hrot hs1 hs2 (by omega) (by omega) (by omega) (by omega);rw [show s + (mid + m - s - m) = mid from by omega] at hsd;refine Cr (P3 Y Y Y (p1 Y (gxd 154 Y Y (fun pr59 => ?_) (fun pr59 => ?_))))
       ·refine P3 Y Y Y (Pe Y (Cd Y (fun pr60 => ?_) (fun pr60 => ?_)))
        ·refine Cr (q1 Y (lbw 0 a_164 Y Y Y) (P3 Y Y Y (D_fd [1] 0 Y (li Y (csrt b_172 Y Y Y Y (fun w' hs => ih (mid - a) (by omega) _ w' d hp a s mid (by omega) (by omega) (by omega) hsd.1 hsd.2.1 (Nat.le_refl _) hs) fun e2 hA0 => ?_)))));refine Dx (D_wk [3, 4, 16, 22] Y (Dh (C e2 :: _ :: Hs) Y (Cq ?_)));have hA : Chg d e2 a mid ∧ Srd lt e2 a mid ∧ Stb lt d e2 := by exact hA0
         have hsm := srd_out hsd.2.2.1 hA.1 (.inr (Nat.le_refl _));have hsn := srd_out hsd.2.2.2 hA.1 (.inr (by omega));refine Cr (P3 Y Y Y (p1 Y (gxd 167 Y Y (fun pr61 => ?_) (fun pr61 => ?_))))
         ·refine P3 Y Y Y (Pe Y (Cd Y (fun pr62 => ?_) (fun pr62 => ?_)))
          ·refine Cr (q1 Y (lbw 1 a_164 Y Y Y) (P3 Y Y Y (li Y (csrt b_172 Y Y Y Y (fun w' hs => ih (b - mid) (by omega) _ w' e2 (hA0.1.perm.trans hp) mid (mid + m - s) b (by omega) (by omega) (by assumption) hsm hsn (Nat.le_refl _) hs) fun e3 hB0 => ?_))));refine De (R_0n Y fun w' hs => ⟨Y, e3, ?_, hs.fd [0, 1] 1 Y⟩);have hB : Chg e2 e3 mid b ∧ Srd lt e3 mid b ∧ Stb lt e2 e3 := (by exact hB0); exact ⟨(((rot_chg hrot (by omega) (by omega)).mono (by omega) (by omega)).trans (hA.1.mono (by omega) (by omega))).trans (hB.1.mono (by omega) (by omega)), srd_join (srd_out hA.2.1 hB.1 (.inl (Nat.le_refl _))) hB.2.1 (crs_chg hcr hA.1 hB.1), stb_trans hsbr (stb_trans hA.2.2 hB.2.2)⟩
          ·refine Ck (R_0n Y fun w' hs => ⟨Y, e2, ?_, hs.fd [0, 1] 1 Y⟩);have hB : Chg e2 e2 mid b ∧ Srd lt e2 mid b ∧ Stb lt e2 e2 := (by exact ⟨Chg.refl _ _ _, srd_sub hsm (Nat.le_refl _) (by omega), stb_refl _⟩); exact ⟨(((rot_chg hrot (by omega) (by omega)).mono (by omega) (by omega)).trans (hA.1.mono (by omega) (by omega))).trans (hB.1.mono (by omega) (by omega)), srd_join (srd_out hA.2.1 hB.1 (.inl (Nat.le_refl _))) hB.2.1 (crs_chg hcr hA.1 hB.1), stb_trans hsbr (stb_trans hA.2.2 hB.2.2)⟩
         ·refine n1 Y (n1 Y (n1 Y (Pe Y (C_f Y (Ck (R_0n Y fun w' hs => ⟨Y, e2, ?_, hs.fd [0, 1] 1 Y⟩))))));have hB : Chg e2 e2 mid b ∧ Srd lt e2 mid b ∧ Stb lt e2 e2 := (by exact ⟨Chg.refl _ _ _, srd_sub hsn (by omega) (Nat.le_refl _), stb_refl _⟩); exact ⟨(((rot_chg hrot (by omega) (by omega)).mono (by omega) (by omega)).trans (hA.1.mono (by omega) (by omega))).trans (hB.1.mono (by omega) (by omega)), srd_join (srd_out hA.2.1 hB.1 (.inl (Nat.le_refl _))) hB.2.1 (crs_chg hcr hA.1 hB.1), stb_trans hsbr (stb_trans hA.2.2 hB.2.2)⟩
        ·refine Sk (Cq ?_);have hA : Chg d d a mid ∧ Srd lt d a mid ∧ Stb lt d d := by exact ⟨Chg.refl _ _ _, srd_sub hsd.1 (Nat.le_refl _) (by omega), stb_refl _⟩
         have hsm := srd_out hsd.2.2.1 hA.1 (.inr (Nat.le_refl _));have hsn := srd_out hsd.2.2.2 hA.1 (.inr (by omega));refine Cr (P3 Y Y Y (p1 Y (gxd 167 Y Y (fun pr63 => ?_) (fun pr63 => ?_))))
         ·refine P3 Y Y Y (Pe Y (D_wk [3, 4, 16, 22, 171] Y (Cd Y (fun pr64 => ?_) (fun pr64 => ?_))))
          ·refine Cr (q1 Y (lbw 0 a_164 Y Y Y) (P3 Y Y Y (D_fd [1] 0 Y (li Y (csrt b_172 Y Y Y Y (fun w' hs => ih (b - mid) (by omega) _ w' d hp mid (mid + m - s) b (by omega) (by omega) (by assumption) hsm hsn (Nat.le_refl _) hs) fun e3 hB0 => ?_)))));refine De (R_0n Y fun w' hs => ⟨Y, e3, ?_, hs.fd [0, 1] 1 Y⟩);have hB : Chg d e3 mid b ∧ Srd lt e3 mid b ∧ Stb lt d e3 := (by exact hB0); exact ⟨(((rot_chg hrot (by omega) (by omega)).mono (by omega) (by omega)).trans (hA.1.mono (by omega) (by omega))).trans (hB.1.mono (by omega) (by omega)), srd_join (srd_out hA.2.1 hB.1 (.inl (Nat.le_refl _))) hB.2.1 (crs_chg hcr hA.1 hB.1), stb_trans hsbr (stb_trans hA.2.2 hB.2.2)⟩
          ·refine Ck (R_0n Y fun w' hs => ⟨Y, d, ?_, hs.fd [] 1 Y⟩);have hB : Chg d d mid b ∧ Srd lt d mid b ∧ Stb lt d d := (by exact ⟨Chg.refl _ _ _, srd_sub hsm (Nat.le_refl _) (by omega), stb_refl _⟩); exact ⟨(((rot_chg hrot (by omega) (by omega)).mono (by omega) (by omega)).trans (hA.1.mono (by omega) (by omega))).trans (hB.1.mono (by omega) (by omega)), srd_join (srd_out hA.2.1 hB.1 (.inl (Nat.le_refl _))) hB.2.1 (crs_chg hcr hA.1 hB.1), stb_trans hsbr (stb_trans hA.2.2 hB.2.2)⟩
         ·refine n1 Y (n1 Y (n1 Y (Pe Y (D_wk [3, 4, 16, 22, 171] Y (C_f Y (Ck (R_0n Y fun w' hs => ⟨Y, d, ?_, hs.fd [] 1 Y⟩)))))));have hB : Chg d d mid b ∧ Srd lt d mid b ∧ Stb lt d d := (by exact ⟨Chg.refl _ _ _, srd_sub hsn (by omega) (Nat.le_refl _), stb_refl _⟩); exact ⟨(((rot_chg hrot (by omega) (by omega)).mono (by omega) (by omega)).trans (hA.1.mono (by omega) (by omega))).trans (hB.1.mono (by omega) (by omega)), srd_join (srd_out hA.2.1 hB.1 (.inl (Nat.le_refl _))) hB.2.1 (crs_chg hcr hA.1 hB.1), stb_trans hsbr (stb_trans hA.2.2 hB.2.2)⟩
       ·refine n1 Y (n1 Y (n1 Y (Pe Y (C_f Y (Sk (Cq ?_))))));have hA : Chg d d a mid ∧ Srd lt d a mid ∧ Stb lt d d := by exact ⟨Chg.refl _ _ _, srd_sub hsd.1 (Nat.le_refl _) (by omega), stb_refl _⟩
        have hsm := srd_out hsd.2.2.1 hA.1 (.inr (Nat.le_refl _));have hsn := srd_out hsd.2.2.2 hA.1 (.inr (by omega));refine Cr (P3 Y Y Y (p1 Y (gxd 167 Y Y (fun pr65 => ?_) (fun pr65 => ?_))))
        ·refine P3 Y Y Y (Pe Y (D_wk [3, 4, 16, 22, 171] Y (Cd Y (fun pr66 => ?_) (fun pr66 => ?_))))
         ·refine Cr (q1 Y (lbw 0 a_164 Y Y Y) (P3 Y Y Y (D_fd [1] 0 Y (li Y (csrt b_172 Y Y Y Y (fun w' hs => ih (b - mid) (by omega) _ w' d hp mid (mid + m - s) b (by omega) (by omega) (by assumption) hsm hsn (Nat.le_refl _) hs) fun e3 hB0 => ?_)))));refine De (R_0n Y fun w' hs => ⟨Y, e3, ?_, hs.fd [0, 1] 1 Y⟩);have hB : Chg d e3 mid b ∧ Srd lt e3 mid b ∧ Stb lt d e3 := (by exact hB0); exact ⟨(((rot_chg hrot (by omega) (by omega)).mono (by omega) (by omega)).trans (hA.1.mono (by omega) (by omega))).trans (hB.1.mono (by omega) (by omega)), srd_join (srd_out hA.2.1 hB.1 (.inl (Nat.le_refl _))) hB.2.1 (crs_chg hcr hA.1 hB.1), stb_trans hsbr (stb_trans hA.2.2 hB.2.2)⟩
         ·refine Ck (R_0n Y fun w' hs => ⟨Y, d, ?_, hs.fd [] 1 Y⟩);have hB : Chg d d mid b ∧ Srd lt d mid b ∧ Stb lt d d := (by exact ⟨Chg.refl _ _ _, srd_sub hsm (Nat.le_refl _) (by omega), stb_refl _⟩); exact ⟨(((rot_chg hrot (by omega) (by omega)).mono (by omega) (by omega)).trans (hA.1.mono (by omega) (by omega))).trans (hB.1.mono (by omega) (by omega)), srd_join (srd_out hA.2.1 hB.1 (.inl (Nat.le_refl _))) hB.2.1 (crs_chg hcr hA.1 hB.1), stb_trans hsbr (stb_trans hA.2.2 hB.2.2)⟩
        ·refine n1 Y (n1 Y (n1 Y (Pe Y (D_wk [3, 4, 16, 22, 171] Y (C_f Y (Ck (R_0n Y fun w' hs => ⟨Y, d, ?_, hs.fd [] 1 Y⟩)))))));have hB : Chg d d mid b ∧ Srd lt d mid b ∧ Stb lt d d := (by exact ⟨Chg.refl _ _ _, srd_sub hsm (Nat.le_refl _) (by omega), stb_refl _⟩); exact ⟨(((rot_chg hrot (by omega) (by omega)).mono (by omega) (by omega)).trans (hA.1.mono (by omega) (by omega))).trans (hB.1.mono (by omega) (by omega)), srd_join (srd_out hA.2.1 hB.1 (.inl (Nat.le_refl _))) hB.2.1 (crs_chg hcr hA.1 hB.1), stb_trans hsbr (stb_trans hA.2.2 hB.2.2)⟩
theorem sort_stable_func {α : Type} [Inhabited α] {C : List α → Chunk} {lt : α → α → Bool} {d0 : List α} {lf sf : Nat} {lc sc : List Value} {w0 : World} (S : Srt Tryz.prog C lt d0 lf lc sf sc w0) (ho : Ordr lt) (hmx : d0.length ≤ 2305843009213693951) (Hs : List Chunk) (w : World) (d : List α) (hp : List.Perm d d0) (n : Nat) (hn : n = d0.length) (hst : St w0 (C d :: Hs) w) : Cy 110 [(.agg #[(.func (.func lf) #[] lc.toArray), (.func (.func sf) #[] sc.toArray)]), (nv n)] w (fun e_ w' => e_ = .returned (.tuple #[]) ∧ ∃ e, (List.Perm e d ∧ Srd lt e 0 n ∧ Stb lt d e) ∧ St w0 (C e :: Hs) w') := by
 have hdl : d.length = d0.length := hp.length_eq;refine enterS 57 Tryz.func110 Y Y Y hst (Sr (li Y (D_box Y Y Y Y Y fun g1 => ?_)));refine Dx (Dh (bx g1 [(.func (.func lf) #[] lc.toArray), (.func (.func sf) #[] sc.toArray)] :: C d :: Hs) Y (Sr (Pe Y (Sr (P3 Y Y Y (Dx (Cq (Cb (Cl (fun m_ ac w' => ∃ (a : Nat), ∃ (b : Nat), ∃ (e : List α), (b = a + 20) ∧ (a ≤ n) ∧ (∃ q0, a = q0 * 20) ∧ (List.Perm e d) ∧ (Bld lt e 20 a) ∧ (Stb lt d e) ∧ m_ = n - a ∧ Fits ac 57 [(1, (nv n)), (2, (pv g1)), (4, (iv 20)), (5, (nv a)), (6, (nv b))] ∧ St w0 (bx g1 [(.func (.func lf) #[] lc.toArray), (.func (.func sf) #[] sc.toArray)] :: C e :: Hs) w') ?_ ?_)))))))))
 ·refine fun ac w' hf hs => ⟨_, 0, 20, d, ?_, ?_, ?_, ?_, ?_, ?_, Y, hf.wk Y, hs⟩
  ·omega
  ·omega
  ·exact ⟨0, rfl⟩
  ·exact List.Perm.refl _
  ·exact bld_zero _ (by omega)
  ·exact stb_refl _
 ·rintro m_ ac w' ⟨a, b, e, hb, han, hq, hpe, hB, hsb, rfl, hf, hs⟩;refine D.use ?_ hf hs;clear hf hs ac w';refine Cq (Sr (P3 Y Y Y (Dx (Dh (_ :: _ :: Hs) Y (Cd Y (fun pr2 => ?_) (fun pr2 => ?_))))))
  ·refine Sk (Cb (Sr (q1 Y (lbw 0 a_164 Y Y Y) (P2 Y Y (D_fd [1] 0 Y (li Y (csrt b_171 Y Y Y Y (fun w' hs => sort_insertionSort_func S ho hmx _ w' e (hpe.trans hp) a b (by omega) (by omega) hs) fun e2 he2 => ?_)))))));refine Dx (Dh (C e2 :: _ :: Hs) Y (Sr (P2 Y Y (Dx (Cr (P2 Y Y (ad (b + 20) Y Y Y Y (by omega) (by omega) (p1 Y (De (Xb (Xt (fun ac w' hf hs => ⟨_, ?_, b, b + 20, e2, ?_, ?_, ?_, ?_, ?_, ?_, Y, hf.wk Y, hs.fd [0, 1] 0 Y⟩))))))))))))
   ·omega
   ·omega
   ·omega
   ·exact (bld_step hB hq (by omega) hb he2.1 he2.2.1).2
   ·exact he2.1.perm.trans hpe
   ·exact (bld_step hB hq (by omega) hb he2.1 he2.2.1).1
   ·exact stb_trans hsb he2.2.2
  ·refine Cx (Xx (Xx (Xe (Xt (Sr (q1 Y (lbw 0 a_164 Y Y Y) (P2 Y Y (D_fd [1] 0 Y (li Y (csrt b_171 Y Y Y Y (fun w' hs => sort_insertionSort_func S ho hmx _ w' e (hpe.trans hp) a n (by assumption) (by omega) hs) fun e3 he3 => ?_))))))))));refine Dx (Dh (C e3 :: _ :: Hs) Y (Cb (Cl (fun m_ ac w' => ∃ (bs : Nat), ∃ (e : List α), (20 ≤ bs) ∧ (bs ≤ 2 * n + 20) ∧ (List.Perm e d) ∧ (Blk lt e bs n 0) ∧ (Stb lt d e) ∧ m_ = n - bs ∧ Fits ac 57 [(1, (nv n)), (2, (pv g1)), (4, (nv bs))] ∧ St w0 (C e :: bx g1 [(.func (.func lf) #[] lc.toArray), (.func (.func sf) #[] sc.toArray)] :: Hs) w') ?_ ?_)))
   ·refine fun ac w' hf hs => ⟨_, 20, e3, ?_, ?_, ?_, ?_, ?_, Y, hf.wk Y, hs⟩
    ·omega
    ·omega
    ·exact he3.1.perm.trans hpe
    ·exact bld_fin (bld_keep hB he3.1) hq he3.2.1 (by omega)
    ·exact stb_trans hsb he3.2.2
   ·rintro m_ ac w' ⟨bs, e, hbs, hbx, hpe, hK, hsb2, rfl, hf, hs⟩;refine D.use ?_ hf hs;clear hf hs ac w';refine Cq (Sr (P3 Y Y Y (Dx (Dh (_ :: _ :: Hs) Y (Cd Y (fun pr3 => ?_) (fun pr3 => ?_))))))
    ·refine Sk (Cb (Sr (p1 Y (q1 Y (D_mulN (m := 2) (n := bs) Y Y Y (by omega)) (P2 Y Y (Dx (Cq (Cb (Cl (fun m_ ac w' => ∃ (a : Nat), ∃ (b : Nat), ∃ (e : List α), (b = a + 2 * bs) ∧ (a ≤ n) ∧ (∃ q0, a = q0 * (2 * bs)) ∧ (List.Perm e d) ∧ (Bld lt e (2 * bs) a) ∧ (Blk lt e bs n a) ∧ (Stb lt d e) ∧ m_ = n - a ∧ Fits ac 57 [(1, (nv n)), (2, (pv g1)), (4, (nv bs)), (5, (nv a)), (6, (nv b))] ∧ St w0 (C e :: bx g1 [(.func (.func lf) #[] lc.toArray), (.func (.func sf) #[] sc.toArray)] :: Hs) w') ?_ ?_)))))))))
     ·refine fun ac w' hf hs => ⟨_, 0, 2 * bs, e, ?_, ?_, ?_, ?_, ?_, ?_, ?_, Y, hf.wk Y, hs⟩
      ·omega
      ·omega
      ·exact ⟨0, by omega⟩
      ·exact hpe
      ·exact bld_zero _ (by omega)
      ·exact hK
      ·exact hsb2
     ·rintro m_ ac w' ⟨a, b, e, hb, han, hq, hpe2, hB2, hK2, hsb3, rfl, hf, hs⟩;refine D.use ?_ hf hs;clear hf hs ac w';refine Cq (Sr (P3 Y Y Y (Dx (Cd Y (fun pr4 => ?_) (fun pr4 => ?_)))))
      ·refine Sk (Cb (Sr (q1 Y (lbw 1 a_164 Y Y Y) (P3 Y Y Y (ad (a + bs) Y Y Y Y (by omega) (by omega) (p1 Y (li Y (csrt b_172 Y Y Y Y (fun w' hs => sort_symMerge_func S ho hmx (b - a) _ w' e (hpe2.trans hp) a (a + bs) b (by omega) (by omega) (by omega) (srd_min (blk_two hK2 hq).1 (by omega)) (by have hq2 := (blk_two hK2 hq).2; rw [show b = a + bs + bs from by omega]; exact srd_min hq2 (by omega)) (Nat.le_refl _) hs) fun e4 he4 => ?_))))))));refine Dx (Dh (C e4 :: _ :: Hs) Y (Sr (P2 Y Y (Dx (Cr (P2 Y Y (q1 Y (D_mulN (m := 2) (n := bs) Y Y Y (by omega)) (ad (b + 2 * bs) Y Y Y Y (by omega) (by omega) (p1 Y (De (Xb (Xt (fun ac w' hf hs => ⟨_, ?_, b, b + 2 * bs, e4, ?_, ?_, ?_, ?_, ?_, ?_, ?_, Y, hf.wk Y, hs⟩)))))))))))))
       ·omega
       ·omega
       ·omega
       ·exact (bld_step hB2 hq (by omega) hb he4.1 he4.2.1).2
       ·exact he4.1.perm.trans hpe2
       ·exact (bld_step hB2 hq (by omega) hb he4.1 he4.2.1).1
       ·exact blk_out hK2 he4.1 (by omega)
       ·exact stb_trans hsb3 he4.2.2
      ·refine Cx (Xx (Xx (Xe (Xt (Cq (Sr (P2 Y Y (ad (a + bs) Y Y Y Y (by omega) (by omega) (Pe Y (Sr (P3 Y Y Y (Dx (Cd Y (fun pr5 => ?_) (fun pr5 => ?_))))))))))))))
       ·refine Cr (q1 Y (lbw 1 a_164 Y Y Y) (P3 Y Y Y (li Y (csrt b_172 Y Y Y Y (fun w' hs => sort_symMerge_func S ho hmx (n - a) _ w' e (hpe2.trans hp) a (a + bs) n (by omega) (by omega) (by omega) (srd_min (blk_two hK2 hq).1 (by omega)) (srd_min2 (blk_two hK2 hq).2 (by omega)) (Nat.le_refl _) hs) fun e5 he5 => ?_))));refine Dx (D_wk [1, 2, 4] Y (Dh (C e5 :: _ :: Hs) Y ?_));have hfb : Stb lt d e5 := by exact stb_trans hsb3 he5.2.2
        have hfin : List.Perm e5 d ∧ Blk lt e5 (bs * 2) n 0 := by rw [Nat.mul_comm bs 2]; exact ⟨he5.1.perm.trans hpe2, bld_fin (bld_keep hB2 he5.1) hq he5.2.1 (by omega)⟩
        refine Cr (p1 Y (q1 Y (D_mulN (m := bs) (n := 2) Y Y Y (by omega)) (p1 Y (De (Xb (Xt (fun ac w' hf hs => ⟨_, ?_, bs * 2, e5, ?_, ?_, ?_, ?_, ?_, Y, hf.wk Y, hs⟩)))))))
        ·omega
        ·omega
        ·omega
        ·exact hfin.1
        ·exact hfin.2
        ·exact hfb
       ·refine Sk ?_;have hfb : Stb lt d e := by exact hsb3
        have hfin : List.Perm e d ∧ Blk lt e (bs * 2) n 0 := by rw [Nat.mul_comm bs 2]; exact ⟨hpe2, bld_fin hB2 hq (srd_min2 (blk_two hK2 hq).1 (by omega)) (by omega)⟩
        refine Cr (p1 Y (q1 Y (D_mulN (m := bs) (n := 2) Y Y Y (by omega)) (p1 Y (De (Xb (Xt (fun ac w' hf hs => ⟨_, ?_, bs * 2, e, ?_, ?_, ?_, ?_, ?_, Y, hf.wk Y, hs⟩)))))))
        ·omega
        ·omega
        ·omega
        ·exact hfin.1
        ·exact hfin.2
        ·exact hfb
    ·refine Cx (Xx (Xx (Xe (R_0n Y fun w' hs => ⟨Y, e, ?_, hs.fd [0, 1] 1 Y⟩))));exact ⟨hpe, blk_all hK (by omega), hsb2⟩
theorem sort_SliceStable {α : Type} [Inhabited α] {C : List α → Chunk} {lt : α → α → Bool} {d0 : List α} {lf sf : Nat} {lc sc : List Value} {w0 : World} (S : Srt Tryz.prog C lt d0 lf lc sf sc w0) (ho : Ordr lt) (hmx : d0.length ≤ 2305843009213693951) (Hs : List Chunk) (w : World) (d : List α) (hp : List.Perm d d0) {t e_ n c : Nat} {i : TypeInfo} {p : Option Addr} (hi : Tryz.prog.info? t = some i) (hdd : i.desc = .slice e_) (hpk : Tryz.prog.packed t = false) (hn : n = d0.length) (hsw : ∀ w, (Extern.ReflectliteSwapper.swapper "internal/reflectlite" (Extern.ReflectliteValue.valueError "Swapper") #[.iface t (.slice p n c)]).run Tryz.prog w = .ok (.func (.func sf) #[] sc.toArray) w) (hst : St w0 (C d :: Hs) w) : Cy 57 [(.iface t (.slice p n c)), (.func (.func lf) #[] lc.toArray)] w (fun e_ w' => e_ = .returned (.tuple #[]) ∧ ∃ e, (List.Perm e d ∧ Srd lt e 0 n ∧ Stb lt d e) ∧ St w0 (C e :: Hs) w') := by
 have hdl : d.length = d0.length := hp.length_eq;refine enterS 16 Tryz.func57 Y Y Y hst (Sr (p1 Y (li Y (D_vof Tryz.func108 (by kernel_rfl) (by kernel_rfl) (by kernel_rfl) (by kernel_rfl) hi hdd Y Y Y Y fun g1 => ?_))));refine li Y (D_alloc y_158 Y Y Y Y fun g2 => ?_);refine li Y (D_stb (vs := [(typeHandle Tryz.prog t), (pv g1), (.int .u64 151)]) (cs' := [(typeHandle Tryz.prog t), (pv g1), (.int .u64 151)]) 0 z_158 Y Y Y Y Y Y (ocons Y (ocons Y (ocons Y onil))) (by simp) Y ?_);refine Dx (Dh (bx g2 [(typeHandle Tryz.prog t), (pv g1), (.int .u64 151)] :: bx g1 [(.slice p n c)] :: C d :: Hs) Y (Sr (p1 Y (q1 Y (D_swr Tryz.func109 (by kernel_rfl) (by kernel_rfl) (by kernel_rfl) (by kernel_rfl) hsw Y Y) (Pe Y (Cr (P2 Y Y (q1 Y (D_build (vs := [(0, (.func (.func lf) #[] lc.toArray)), (1, (.func (.func sf) #[] sc.toArray))]) (cs := [(.func (.func lf) #[] lc.toArray), (.func (.func sf) #[] sc.toArray)]) Y (fun _ => by kernel_rfl) Y) (q1 Y (lbw 0 a_158 Y Y Y) (q1 Y (D_vln 1 Tryz.func111 (by kernel_rfl) (by kernel_rfl) (by kernel_rfl) (by kernel_rfl) hi hdd hpk Y Y Y) (D_fd [2] 0 Y (li Y (csrt b_110 Y Y Y Y (fun w' hs => sort_stable_func S ho hmx _ w' d hp n (by assumption) hs) fun e2 he2 => ?_)))))))))))));refine De (R_0n Y fun w' hs => ⟨Y, e2, ?_, hs.fd [0, 2, 2] 2 Y⟩);exact he2
end Go.Sy.Sorts
