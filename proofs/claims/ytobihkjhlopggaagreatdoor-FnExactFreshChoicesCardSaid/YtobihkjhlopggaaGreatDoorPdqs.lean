/-
  Contracts of functions of the program, walked (printed by a program of ours).
  Conditions: those that each theorem states.
-/
import Derived.Test.YtobihkjhlopggaaGreatDoorFct
import Derived.Test.YtobihkjhlopggaaGreatDoorProg
import Derived.Test.YtobihkjhlopggaaGreatDoorTypes
import Derived.Test.YtobihkjhlopggaaGreatDoorBase
import Derived.Test.YtobihkjhlopggaaGreatDoorPdq
import Derived.Test.YtobihkjhlopggaaGreatDoorShelf
set_option linter.unusedVariables false
set_option maxRecDepth 20000
namespace Go.Sy.Pdqs
open Go Go.RowKit Go.Proofs Go.Sy
theorem bits_Len_c (w : World) (x : Int) (h0 : 0 ≤ x ∧ x ≤ 18446744073709551615) : Cy 153 [Value.int .u64 x] w (Val w (nv (Lib.bitLen x.toNat))) :=
 (Tryz.bits_Len x w h0.1 h0.2).mono fun e w' ⟨he, hw⟩ => ⟨he, hw ▸ Ex.refl w⟩
theorem sort_insertionSort {α : Type} [Inhabited α] {C : List α → Chunk} {lt : α → α → Bool} {d0 : List α} {dv : Value} {w0 : World} (S : Srx Tryz.prog C lt d0 dv w0) (ho : Ordr lt) (hmx : d0.length ≤ 12) (Hs : List Chunk) (w : World) (d : List α) (hp : List.Perm d d0) (a : Nat) (b : Nat) (hab : a ≤ b) (hb : b ≤ d0.length) (hst : St w0 (C d :: Hs) w) : Cy 209 [dv, (nv a), (nv b)] w (fun e_ w' => ∃ (s : Unit) (e : List α), (Chg d e a b ∧ Srd lt e a b) ∧ e_ = .returned (.tuple #[]) ∧ St w0 (C e :: Hs) w') := by
 have hdl : d.length = d0.length := hp.length_eq;refine enterS 33 Tryz.func209 Y Y Y hst (Sr (p1 Y (ad (a + 1) Y Y Y Y (by omega) (by omega) (Pe Y (Dh (C d :: Hs) Y (Cb (Cl (fun m_ ac w' => ∃ (i : Nat), ∃ (e : List α), (a + 1 ≤ i) ∧ (i ≤ b ∨ i = a + 1) ∧ (Chg d e a b) ∧ (Srd lt e a i) ∧ m_ = b - i ∧ Fits ac 33 [(0, dv), (1, (nv a)), (2, (nv b)), (6, (nv i))] ∧ St w0 (C e :: Hs) w') ?_ ?_)))))))
 ·refine fun ac w' hf hs => ⟨_, a + 1, d, ?_, ?_, ?_, ?_, Y, hf.wk Y, hs⟩
  ·first | assumption | omega | simp
  ·first | assumption | omega | simp
  ·exact Chg.refl _ _ _
  ·exact srd_one _ _
 ·rintro m_ ac w' ⟨i, e, hia, hib, hc, hsr, rfl, hf, hs⟩;refine D.use ?_ hf hs;clear hf hs ac w';refine Cq (Sr (P3 Y Y Y (Dx (Dh (_ :: Hs) Y (Cd Y (fun pr1 => ?_) (fun pr1 => ?_))))))
  ·refine Sk (Cq (Cb (Sr (P2 Y Y (Dx (Cb (Cl (fun m_ ac w' => ∃ (j : Nat), ∃ (e2 : List α), (a ≤ j) ∧ (j ≤ i) ∧ (Chg d e2 a b) ∧ (InsI lt e2 a i j) ∧ m_ = j + 1 ∧ Fits ac 33 [(0, dv), (1, (nv a)), (2, (nv b)), (6, (nv i)), (7, (nv j))] ∧ St w0 (C e2 :: Hs) w') ?_ ?_)))))))
   ·refine fun ac w' hf hs => ⟨_, i, e, ?_, ?_, ?_, ?_, Y, hf.wk Y, hs⟩
    ·first | assumption | omega | simp
    ·first | assumption | omega | simp
    ·exact hc
    ·exact ins_start hsr
   ·rintro m_ ac w' ⟨j, e2, haj, hji, hc2, hin, rfl, hf, hs⟩;refine D.use ?_ hf hs;clear hf hs ac w';refine Cq (Sr (P3 Y Y Y (p1 Y (gxd 19 Y Y (fun pr2 => ?_) (fun pr2 => ?_)))))
    ·refine P3 Y Y Y (q1 Y (D_sub Y Y Y (r := ((j - 1 : Nat) : Int)) (by omega) (by omega)) (li Y (iless S (hc2.perm.trans hp) (i := j) (j := j - 1) Y Y Y Y Y (by omega) (by omega) ?_)));refine Pe Y (Dh (_ :: Hs) Y (Ci _ Y (fun h3 => ?_) (fun h3 => ?_)))
     ·refine Sk (Cq (Cb (Cr (P3 Y Y Y (q1 Y (D_sub Y Y Y (r := ((j - 1 : Nat) : Int)) (by omega) (by omega)) (li Y (iswap S (hc2.perm.trans hp) (i := j) (j := j - 1) Y Y Y Y Y (by omega) (by omega) ?_)))))));refine De (Xb (Xt (D_wk [0, 1, 2, 6, 7] Y (Dh (C (swp e2 j (j - 1)) :: Hs) Y (Cr (p1 Y (q1 Y (D_sub Y Y Y (r := ((j - 1 : Nat) : Int)) (by omega) (by omega)) (Pe Y (fun ac w' hf hs => ⟨_, ?_, j - 1, swp e2 j (j - 1), ?_, ?_, ?_, ?_, Y, hf.wk Y, hs⟩)))))))))
      ·omega
      ·first | assumption | omega | simp
      ·first | assumption | omega | simp
      ·exact hc2.trans (Chg.swp (by omega) (by omega) (by have := hc2.len; omega))
      ·exact ins_step ho hin (by omega) (by omega) (by have := hc2.len; omega) (by assumption)
     ·refine Cx (Xx (Xx (Xe (Xb (Xt (Cr (p1 Y (ad (i + 1) Y Y Y Y (by omega) (by omega) (Pe Y (fun ac w' hf hs => ⟨_, ?_, i + 1, e2, ?_, ?_, ?_, ?_, Y, hf.wk Y, hs⟩))))))))))
      ·omega
      ·first | assumption | omega | simp
      ·first | assumption | omega | simp
      ·exact hc2
      ·exact ins_end2 ho hin (by omega) (by omega) (by assumption)
    ·refine n1 Y (n1 Y (n1 Y (n1 Y (n1 Y (Pe Y (Dh (_ :: Hs) Y (C_f Y (Cx (Xx (Xx (Xe (Xb (Xt (Cr (p1 Y (ad (i + 1) Y Y Y Y (by omega) (by omega) (Pe Y (fun ac w' hf hs => ⟨_, ?_, i + 1, e2, ?_, ?_, ?_, ?_, Y, hf.wk Y, hs⟩))))))))))))))))))
     ·omega
     ·first | assumption | omega | simp
     ·first | assumption | omega | simp
     ·exact hc2
     ·exact ins_end1 hin (by omega)
  ·refine Cx (Xx (Xx (Xe (R_0n Y fun w' hs => ⟨(), e, ?_, Y, hs⟩))));exact ⟨hc, srd_sub hsr (Nat.le_refl _) (by omega)⟩
theorem sort_pdqsort {α : Type} [Inhabited α] {C : List α → Chunk} {lt : α → α → Bool} {d0 : List α} {dv : Value} {w0 : World} (S : Srx Tryz.prog C lt d0 dv w0) (ho : Ordr lt) (hmx : d0.length ≤ 12) (Hs : List Chunk) (w : World) (d : List α) (hp : List.Perm d d0) (a : Nat) (b : Nat) (limit : Nat) (hab : a ≤ b) (hb : b ≤ d0.length) (hst : St w0 (C d :: Hs) w) : Cy 154 [dv, (nv a), (nv b), (nv limit)] w (fun e_ w' => ∃ (s : Unit) (e : List α), (Chg d e a b ∧ Srd lt e a b) ∧ e_ = .returned (.tuple #[]) ∧ St w0 (C e :: Hs) w') := by
 have hdl : d.length = d0.length := hp.length_eq;refine enterS 129 Tryz.func154 Y Y Y hst (Sr (Pe Y (Dh (C d :: Hs) Y (Sr (Pe Y (Cb (Cl (fun m_ ac w' => ∃ (a1 : Nat), ∃ (b1 : Nat), ∃ (l1 : Nat), ∃ (wb : Bool), ∃ (wp : Bool), ∃ (e : List α), (a1 = a) ∧ (b1 = b) ∧ (e = d) ∧ m_ = b1 - a1 ∧ Fits ac 129 [(0, dv), (1, (nv a1)), (2, (nv b1)), (3, (nv l1)), (8, (.bool wb)), (9, (.bool wp))] ∧ St w0 (C e :: Hs) w') ?_ ?_)))))))
 ·refine fun ac w' hf hs => ⟨_, a, b, limit, true, true, d, ?_, ?_, ?_, Y, hf.wk Y, hs⟩
  ·rfl
  ·rfl
  ·rfl
 ·rintro m_ ac w' ⟨a1, b1, l1, wb, wp, e, ha1, hb1, hed, rfl, hf, hs⟩;refine D.use ?_ hf hs;clear hf hs ac w';refine Cb (Sr (P2 Y Y (q1 Y (D_sub Y Y Y (r := ((b1 - a1 : Nat) : Int)) (by omega) (by omega)) (Pe Y (Dh (_ :: Hs) Y (Cq (Sr (P2 Y Y (Dx (Cd Y (fun pr1 => ?_) (fun pr1 => ?_)))))))))))
  ·refine Sr (P3 Y Y Y (li Y (cix b_209 Y Y Y Y (fun w' hs => sort_insertionSort S ho hmx _ w' e (hed ▸ hp) a1 b1 (by first | assumption | omega) (by first | assumption | omega) hs) ?_)));rintro ⟨⟩ e2 hei
   try dsimp only at hei
   refine Dx (Ct (Xr (Xq (Xr (Xq (R_0 Y fun w' hs => ⟨(), e2, ?_, Y, hs⟩))))));subst ha1 hb1 hed; exact hei
  ·refine Sk (Cq (Cq ?_));exfalso; omega
theorem sort_Sort {α : Type} [Inhabited α] {C : List α → Chunk} {lt : α → α → Bool} {d0 : List α} {dv : Value} {w0 : World} (S : Srx Tryz.prog C lt d0 dv w0) (ho : Ordr lt) (hmx : d0.length ≤ 12) (Hs : List Chunk) (w : World) (d : List α) (hp : List.Perm d d0) (hst : St w0 (C d :: Hs) w) : Cy 100 [dv] w (fun e_ w' => ∃ (s : Unit) (e : List α), (Chg d e 0 d0.length ∧ Srd lt e 0 d0.length) ∧ e_ = .returned (.tuple #[]) ∧ St w0 (C e :: Hs) w') := by
 have hdl : d.length = d0.length := hp.length_eq;refine enterS 15 Tryz.func100 Y Y Y hst (Sr (p1 Y (li Y (ilen S hp Y Y Y Y ?_))));refine Pe Y (Dh (C d :: Hs) Y (Cq (Sr (P2 Y Y (Dx (Cd Y (fun pr1 => ?_) (fun pr1 => ?_)))))))
 ·refine Ct (Xr (R_0 Y fun w' hs => ⟨(), d, ?_, Y, hs⟩));exact ⟨Chg.refl _ _ _, srd_small (by omega)⟩
 ·refine Sk (Sr (p1 Y (q1 Y (D_cvU (n := d0.length) uu_208 ⟨_, ui_3⟩ Y Y (by omega)) (li Y (cv b_153 Y Y Y Y (fun w' hs => (bits_Len_c w' ((d0.length : Nat) : Int) (by first | assumption | omega | (unfold szm at *; split at * <;> omega)))) ?_)))));refine Pe Y (Cr (P3 Y Y Y ?_));have hbl := Lib.bitLen_le ((d0.length : Nat) : Int).toNat 62 (by omega) (by omega);refine li Y (cix b_154 Y Y Y Y (fun w' hs => sort_pdqsort S ho hmx _ w' d hp 0 d0.length (Lib.bitLen (((d0.length : Nat) : Int)).toNat) (by first | assumption | omega) (by first | assumption | omega) hs) ?_);rintro ⟨⟩ e2 he2
  try dsimp only at he2
  refine De (R_0n Y fun w' hs => ⟨(), e2, ?_, Y, hs⟩)
  first | exact ⟨Chg.refl _ _ _, srd_small (by omega)⟩ | exact he2
end Go.Sy.Pdqs
