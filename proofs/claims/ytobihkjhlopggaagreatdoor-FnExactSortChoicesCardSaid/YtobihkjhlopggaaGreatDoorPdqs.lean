/-
  Contracts of functions of the program, walked (printed by a program of ours).
  Conditions: those that each theorem states.
-/
import Derived.Test.YtobihkjhlopggaaGreatDoorFct
import Derived.Test.YtobihkjhlopggaaGreatDoorProg
import Derived.Test.YtobihkjhlopggaaGreatDoorTypes
import Derived.Test.YtobihkjhlopggaaGreatDoorBase
import Derived.Test.YtobihkjhlopggaaGreatDoorPdq
import Derived.Test.YtobihkjhlopggaaGreatDoorShelf
set_option linter.unusedVariables false
set_option maxRecDepth 20000
namespace Go.Sy.Pdqs
open Go Go.RowKit Go.Proofs Go.Sy
theorem bits_Len_c (w : World) (x : Int) (h0 : 0 ≤ x ∧ x ≤ 18446744073709551615) : Cy 153 [Value.int .u64 x] w (Val w (nv (Lib.bitLen x.toNat))) :=
 (Tryz.bits_Len x w h0.1 h0.2).mono fun e w' ⟨he, hw⟩ => ⟨he, hw ▸ Ex.refl w⟩
theorem sort_nextPowerOfTwo {w : World} {length : Int} (hl : 1 ≤ length ∧ length ≤ 2305843009213693951) : Cy 246 [(iv length)] w (Val w (.int .u64 (npt length.toNat))) := by
 have hbl := Lib.bitLen_le length.toNat 62 (by omega) (by omega);refine enter 10 Tryz.func246 Y Y Y (Sr (Pe Y (Sr (p1 Y (q1 Y (D_cvUz uu_208 ⟨_, ui_3⟩ Y Y (by omega)) (li Y (cv b_153 Y Y Y Y (fun w' hs => (bits_Len_c w' length (by omega))) ?_)))))));refine q1 Y (D_cvU (n := (Lib.bitLen (length).toNat)) uu_208 ⟨_, ui_3⟩ Y Y (by omega)) (Pe Y (Sr (p1 Y (q1 Y (D_shlU (n := (Lib.bitLen (length).toNat)) Y Y Y) (Pe Y (Ct (R_1 Y Y fun w' hs => ⟨congrArg (fun z => Ending.returned (Value.int .u64 z)) ?_, hs.bel⟩)))))));show ((shlU 1 (Lib.bitLen (length).toNat)) : Int) = _;rfl
theorem xorshift_Next (w0 : World) (Hs : List Chunk) (w : World) (g_r : Nat) (R : Int) (hst : St w0 (bx g_r [(.int .u64 R)] :: Hs) w) : Cy 247 [(pv g_r)] w (fun e_ w' => ∃ r : Int, (0 ≤ r ∧ r < 18446744073709551616) ∧ e_ = .returned (.int .u64 r) ∧ St w0 (bx g_r [(.int .u64 r)] :: Hs) w') := by
 refine enterS 33 Tryz.func247 Y Y Y hst (Sr (Pe Y (Dh (bx g_r [(.int .u64 R)] :: Hs) Y (Cq (C_draw mixed [9] (by kernel_rfl) (tR 0 Y (by kernel_rfl) Y (Tk 1 Y (by kernel_rfl) Y (D_nilc Y Y) (Tk 2 Y (by kernel_rfl) Y (lb 0 o_271 Y Y Y Y) (tR 3 Y (by kernel_rfl) Y (Tk 4 Y (by kernel_rfl) Y (D_nilc Y Y) (Tk 5 Y (by kernel_rfl) Y (lb 0 o_271 Y Y Y Y) (Tk 6 Y (by kernel_rfl) Y (D_shlU (n := 13) Y Y Y) (Tk 7 Y (by kernel_rfl) Y (D_xorU Y Y Y) (Tk 8 Y (by kernel_rfl) Y (D_nilc Y Y) (ty 9 Y (by kernel_rfl) Y (D_stb (vs := [(.int .u64 (xU R (shlU R 13)))]) (cs' := [(.int .u64 (xU R (shlU R 13)))]) 0 z_271 Y Y Y Y Y Y (ocons Y onil) (by simp) Y ?_))))))))))))))));refine tZ Y (tE (by kernel_rfl) (Xt (Dh (bx g_r [(.int .u64 (xU R (shlU R 13)))] :: Hs) Y (Cq (C_draw mixed [9] (by kernel_rfl) (tR 0 Y (by kernel_rfl) Y (Tk 1 Y (by kernel_rfl) Y (D_nilc Y Y) (Tk 2 Y (by kernel_rfl) Y (lb 0 o_271 Y Y Y Y) (tR 3 Y (by kernel_rfl) Y (Tk 4 Y (by kernel_rfl) Y (D_nilc Y Y) (Tk 5 Y (by kernel_rfl) Y (lb 0 o_271 Y Y Y Y) (Tk 6 Y (by kernel_rfl) Y (D_shrU2 (n := 7) Y Y Y) (Tk 7 Y (by kernel_rfl) Y (D_xorU Y Y Y) (Tk 8 Y (by kernel_rfl) Y (D_nilc Y Y) (ty 9 Y (by kernel_rfl) Y (D_stb (vs := [(.int .u64 (xU (xU R (shlU R 13)) (shrU (xU R (shlU R 13)) 7)))]) (cs' := [(.int .u64 (xU (xU R (shlU R 13)) (shrU (xU R (shlU R 13)) 7)))]) 0 z_271 Y Y Y Y Y Y (ocons Y onil) (by simp) Y ?_))))))))))))))));refine tZ Y (tE (by kernel_rfl) (Xt (D_wk [0] Y (Dh (bx g_r [(.int .u64 (xU (xU R (shlU R 13)) (shrU (xU R (shlU R 13)) 7)))] :: Hs) Y (Cq (C_draw mixed [9] (by kernel_rfl) (tR 0 Y (by kernel_rfl) Y (Tk 1 Y (by kernel_rfl) Y (D_nilc Y Y) (Tk 2 Y (by kernel_rfl) Y (lb 0 o_271 Y Y Y Y) (tR 3 Y (by kernel_rfl) Y (Tk 4 Y (by kernel_rfl) Y (D_nilc Y Y) (Tk 5 Y (by kernel_rfl) Y (lb 0 o_271 Y Y Y Y) (Tk 6 Y (by kernel_rfl) Y (D_shlU (n := 17) Y Y Y) (Tk 7 Y (by kernel_rfl) Y (D_xorU Y Y Y) (Tk 8 Y (by kernel_rfl) Y (D_nilc Y Y) (ty 9 Y (by kernel_rfl) Y (D_stb (vs := [(.int .u64 (xU (xU (xU R (shlU R 13)) (shrU (xU R (shlU R 13)) 7)) (shlU (xU (xU R (shlU R 13)) (shrU (xU R (shlU R 13)) 7)) 17)))]) (cs' := [(.int .u64 (xU (xU (xU R (shlU R 13)) (shrU (xU R (shlU R 13)) 7)) (shlU (xU (xU R (shlU R 13)) (shrU (xU R (shlU R 13)) 7)) 17)))]) 0 z_271 Y Y Y Y Y Y (ocons Y onil) (by simp) Y ?_)))))))))))))))));refine tZ Y (tE (by kernel_rfl) (Xt (Dh (bx g_r [(.int .u64 (xU (xU (xU R (shlU R 13)) (shrU (xU R (shlU R 13)) 7)) (shlU (xU (xU R (shlU R 13)) (shrU (xU R (shlU R 13)) 7)) 17)))] :: Hs) Y (Sr (p1 Y (q1 Y (D_nilc Y Y) (q1 Y (lb 0 o_271 Y Y Y Y) (Pe Y (Ct (R_1 Y Y fun w' hs => ⟨(xU (xU (xU R (shlU R 13)) (shrU (xU R (shlU R 13)) 7)) (shlU (xU (xU R (shlU R 13)) (shrU (xU R (shlU R 13)) 7)) 17)), ?_, Y, hs⟩))))))))));exact xU_rng _ _
theorem sort_insertionSort {α : Type} [Inhabited α] {C : List α → Chunk} {lt : α → α → Bool} {d0 : List α} {dv : Value} {w0 : World} (S : Srx Tryz.prog C lt d0 dv w0) (ho : Ordr lt) (hmx : d0.length ≤ 2305843009213693951) (Hs : List Chunk) (w : World) (d : List α) (hp : List.Perm d d0) (a : Nat) (b : Nat) (hab : a ≤ b) (hb : b ≤ d0.length) (hst : St w0 (C d :: Hs) w) : Cy 209 [dv, (nv a), (nv b)] w (fun e_ w' => ∃ (s : Unit) (e : List α), (Chg d e a b ∧ Srd lt e a b) ∧ e_ = .returned (.tuple #[]) ∧ St w0 (C e :: Hs) w') := by
 have hdl : d.length = d0.length := hp.length_eq;refine enterS 33 Tryz.func209 Y Y Y hst (Sr (p1 Y (ad (a + 1) Y Y Y Y (by omega) (by omega) (Pe Y (Dh (C d :: Hs) Y (Cb (Cl (fun m_ ac w' => ∃ (i : Nat), ∃ (e : List α), (a + 1 ≤ i) ∧ (i ≤ b ∨ i = a + 1) ∧ (Chg d e a b) ∧ (Srd lt e a i) ∧ m_ = b - i ∧ Fits ac 33 [(0, dv), (1, (nv a)), (2, (nv b)), (6, (nv i))] ∧ St w0 (C e :: Hs) w') ?_ ?_)))))))
 ·refine fun ac w' hf hs => ⟨_, a + 1, d, ?_, ?_, ?_, ?_, Y, hf.wk Y, hs⟩
  ·omega
  ·omega
  ·exact Chg.refl _ _ _
  ·exact srd_one _ _
 ·rintro m_ ac w' ⟨i, e, hia, hib, hc, hsr, rfl, hf, hs⟩;refine D.use ?_ hf hs;clear hf hs ac w';refine Cq (Sr (P3 Y Y Y (Dx (Dh (_ :: Hs) Y (Cd Y (fun pr1 => ?_) (fun pr1 => ?_))))))
  ·refine Sk (Cq (Cb (Sr (P2 Y Y (Dx (Cb (Cl (fun m_ ac w' => ∃ (j : Nat), ∃ (e2 : List α), (a ≤ j) ∧ (j ≤ i) ∧ (Chg d e2 a b) ∧ (InsI lt e2 a i j) ∧ m_ = j + 1 ∧ Fits ac 33 [(0, dv), (1, (nv a)), (2, (nv b)), (6, (nv i)), (7, (nv j))] ∧ St w0 (C e2 :: Hs) w') ?_ ?_)))))))
   ·refine fun ac w' hf hs => ⟨_, i, e, ?_, ?_, ?_, ?_, Y, hf.wk Y, hs⟩
    ·omega
    ·omega
    ·exact hc
    ·exact ins_start hsr
   ·rintro m_ ac w' ⟨j, e2, haj, hji, hc2, hin, rfl, hf, hs⟩;refine D.use ?_ hf hs;clear hf hs ac w';refine Cq (Sr (P3 Y Y Y (p1 Y (gxd 19 Y Y (fun pr2 => ?_) (fun pr2 => ?_)))))
    ·refine P3 Y Y Y (q1 Y (D_sub Y Y Y (r := ((j - 1 : Nat) : Int)) (by omega) (by omega)) (li Y (iless S (hc2.perm.trans hp) (i := j) (j := j - 1) Y Y Y Y Y (by omega) (by omega) ?_)));refine Pe Y (Dh (_ :: Hs) Y (Ci _ Y (fun h3 => ?_) (fun h3 => ?_)))
     ·refine Sk (Cq (Cb (Cr (P3 Y Y Y (q1 Y (D_sub Y Y Y (r := ((j - 1 : Nat) : Int)) (by omega) (by omega)) (li Y (iswap S (hc2.perm.trans hp) (i := j) (j := j - 1) Y Y Y Y Y (by omega) (by omega) ?_)))))));refine De (Xb (Xt (D_wk [0, 1, 2, 6, 7] Y (Dh (C (swp e2 j (j - 1)) :: Hs) Y (Cr (p1 Y (q1 Y (D_sub Y Y Y (r := ((j - 1 : Nat) : Int)) (by omega) (by omega)) (Pe Y (fun ac w' hf hs => ⟨_, ?_, j - 1, swp e2 j (j - 1), ?_, ?_, ?_, ?_, Y, hf.wk Y, hs⟩)))))))))
      ·omega
      ·omega
      ·omega
      ·exact hc2.trans (Chg.swp (by omega) (by omega) (by have := hc2.len; omega))
      ·exact ins_step ho hin (by omega) (by omega) (by have := hc2.len; omega) (by assumption)
     ·refine Cx (Xx (Xx (Xe (Xb (Xt (Cr (p1 Y (ad (i + 1) Y Y Y Y (by omega) (by omega) (Pe Y (fun ac w' hf hs => ⟨_, ?_, i + 1, e2, ?_, ?_, ?_, ?_, Y, hf.wk Y, hs⟩))))))))))
      ·omega
      ·omega
      ·omega
      ·exact hc2
      ·exact ins_end2 ho hin (by omega) (by omega) (by assumption)
    ·refine n1 Y (n1 Y (n1 Y (n1 Y (n1 Y (Pe Y (Dh (_ :: Hs) Y (C_f Y (Cx (Xx (Xx (Xe (Xb (Xt (Cr (p1 Y (ad (i + 1) Y Y Y Y (by omega) (by omega) (Pe Y (fun ac w' hf hs => ⟨_, ?_, i + 1, e2, ?_, ?_, ?_, ?_, Y, hf.wk Y, hs⟩))))))))))))))))))
     ·omega
     ·omega
     ·omega
     ·exact hc2
     ·exact ins_end1 hin (by omega)
  ·refine Cx (Xx (Xx (Xe (R_0n Y fun w' hs => ⟨(), e, ?_, Y, hs⟩))));exact ⟨hc, srd_sub hsr (Nat.le_refl _) (by omega)⟩
theorem sort_siftDown {α : Type} [Inhabited α] {C : List α → Chunk} {lt : α → α → Bool} {d0 : List α} {dv : Value} {w0 : World} (S : Srx Tryz.prog C lt d0 dv w0) (ho : Ordr lt) (hmx : d0.length ≤ 2305843009213693951) (Hs : List Chunk) (w : World) (d : List α) (hp : List.Perm d d0) (lo : Nat) (hi : Nat) (first : Nat) (hlh : lo ≤ hi) (hh : Hp lt d first (lo + 1) hi) (hb : first + hi ≤ d0.length) (hst : St w0 (C d :: Hs) w) : Cy 245 [dv, (nv lo), (nv hi), (nv first)] w (fun e_ w' => ∃ (s : Unit) (e : List α), (Chg d e first (first + hi) ∧ Hp lt e first lo hi) ∧ e_ = .returned (.tuple #[]) ∧ St w0 (C e :: Hs) w') := by
 have hdl : d.length = d0.length := hp.length_eq;refine enterS 52 Tryz.func245 Y Y Y hst (Sr (P2 Y Y (Dx (Dh (C d :: Hs) Y (Cb (Cl (fun m_ ac w' => ∃ (r : Nat), ∃ (e : List α), (lo ≤ r) ∧ (r ≤ hi) ∧ (e.length = d0.length) ∧ (Chg d e first (first + hi)) ∧ (Sft lt e first lo hi r) ∧ m_ = hi - r ∧ Fits ac 52 [(0, dv), (2, (nv hi)), (3, (nv first)), (8, (nv r))] ∧ St w0 (C e :: Hs) w') ?_ ?_))))))
 ·refine fun ac w' hf hs => ⟨_, lo, d, ?_, ?_, ?_, ?_, ?_, Y, hf.wk Y, hs⟩
  ·omega
  ·assumption
  ·assumption
  ·exact Chg.refl _ _ _
  ·exact sft_start hh
 ·rintro m_ ac w' ⟨r, e, hr, hrh, hlen, hc, hsf, rfl, hf, hs⟩;refine D.use ?_ hf hs;clear hf hs ac w';refine Cb (Sr (p1 Y (q1 Y (D_mulN (m := 2) (n := r) Y Y Y (by omega)) (ad (2 * r + 1) Y Y Y Y (by omega) (by omega) (Pe Y (Dh (_ :: Hs) Y (Cq (Sr (P3 Y Y Y (Dx (Cd Y (fun pr1 => ?_) (fun pr1 => ?_))))))))))))
  ·refine Cx (Xx (Xn Y (Xx (Xe (R_0n Y fun w' hs => ⟨(), e, ?_, Y, hs⟩)))));exact ⟨hc, sft_none hsf (by omega)⟩
  ·refine Sk (Cq (Sr (p1 Y (ad (2 * r + 1 + 1) Y Y Y Y (by omega) (by omega) (P3 Y Y Y (gxd 21 Y Y (fun pr2 => ?_) (fun pr2 => ?_)))))))
   ·refine P3 Y Y Y (ad (first + 2 * r + 1) Y Y Y Y (by omega) (by omega) (P2 Y Y (ad (first + 2 * r + 1) Y Y Y Y (by omega) (by omega) (ad (first + 2 * r + 1 + 1) Y Y Y Y (by omega) (by omega) (li Y (iless S (hc.perm.trans hp) (i := first + 2 * r + 1) (j := first + 2 * r + 1 + 1) Y Y Y Y Y (by omega) (by omega) ?_))))));refine Pe Y (D_wk [0, 2, 3, 8, 9, 31] Y (Ci _ Y (fun h3 => ?_) (fun h3 => ?_)))
    ·refine Cr (p1 Y (ad (2 * r + 1 + 1) Y Y Y Y (by omega) (by omega) (Pe Y (Cq (Sr (P3 Y Y Y (ad (first + r) Y Y Y Y (by omega) (by omega) (P2 Y Y (ad (first + 2 * r + 1 + 1) Y Y Y Y (by omega) (by omega) (li Y (iless S (hc.perm.trans hp) (i := first + r) (j := first + 2 * r + 1 + 1) Y Y Y Y Y (by omega) (by omega) ?_)))))))))));refine Pe Y (CN Y (fun h4n => ?_) (fun h4n => ?_))
     ·refine Ct (Xr (Xq (Xr (Xq (R_0 Y fun w' hs => ⟨(), e, ?_, Y, hs⟩)))));exact ⟨hc, sft_stop2 (c := 2 * r + 2) ho hsf (.inr rfl) (sm_c (i := first + 2 * r + 1) (j := first + 2 * r + 1 + 1) ho (by assumption) (by omega) (by omega) rfl) h4n (by omega) (by omega)⟩
     ·refine Sk (Sr (P3 Y Y Y (ad (first + r) Y Y Y Y (by omega) (by omega) (P2 Y Y (ad (first + 2 * r + 1 + 1) Y Y Y Y (by omega) (by omega) (li Y (iswap S (hc.perm.trans hp) (i := first + r) (j := first + 2 * r + 1 + 1) Y Y Y Y Y (by omega) (by omega) ?_)))))));refine Dx (Cr (P2 Y Y (De (Xb (Xt (fun ac w' hf hs => ⟨_, ?_, 2 * r + 1 + 1, swp e (first + r) (first + 2 * r + 1 + 1), ?_, ?_, ?_, ?_, ?_, Y, hf.wk Y, hs⟩))))))
      ·omega
      ·omega
      ·omega
      ·rw [swp_len]; exact hlen
      ·exact hc.trans (Chg.swp (by omega) (by omega) (by omega))
      ·refine Sft.at (sft_swp2 (c := 2 * r + 2) ho hsf (.inr rfl) (by omega) (sm_c (i := first + 2 * r + 1) (j := first + 2 * r + 1 + 1) ho (by assumption) (by omega) (by omega) rfl) h4n (by omega) (by omega) (by omega) (by omega)) (by omega)
    ·refine Sk (Cq (Sr (P3 Y Y Y (ad (first + r) Y Y Y Y (by omega) (by omega) (P2 Y Y (ad (first + 2 * r + 1) Y Y Y Y (by omega) (by omega) (li Y (iless S (hc.perm.trans hp) (i := first + r) (j := first + 2 * r + 1) Y Y Y Y Y (by omega) (by omega) ?_))))))));refine Pe Y (CN Y (fun h5n => ?_) (fun h5n => ?_))
     ·refine Ct (Xr (Xq (Xr (Xq (R_0 Y fun w' hs => ⟨(), e, ?_, Y, hs⟩)))));exact ⟨hc, sft_stop2 (c := 2 * r + 1) ho hsf (.inl rfl) (sm_b (i := first + 2 * r + 1) (j := first + 2 * r + 1 + 1) ho (by assumption) (by omega) (by omega)) h5n (by omega) (by omega)⟩
     ·refine Sk (Sr (P3 Y Y Y (ad (first + r) Y Y Y Y (by omega) (by omega) (P2 Y Y (ad (first + 2 * r + 1) Y Y Y Y (by omega) (by omega) (li Y (iswap S (hc.perm.trans hp) (i := first + r) (j := first + 2 * r + 1) Y Y Y Y Y (by omega) (by omega) ?_)))))));refine Dx (Cr (P2 Y Y (De (Xb (Xt (fun ac w' hf hs => ⟨_, ?_, 2 * r + 1, swp e (first + r) (first + 2 * r + 1), ?_, ?_, ?_, ?_, ?_, Y, hf.wk Y, hs⟩))))))
      ·omega
      ·omega
      ·omega
      ·rw [swp_len]; exact hlen
      ·exact hc.trans (Chg.swp (by omega) (by omega) (by omega))
      ·refine Sft.at (sft_swp2 (c := 2 * r + 1) ho hsf (.inl rfl) (by omega) (sm_b (i := first + 2 * r + 1) (j := first + 2 * r + 1 + 1) ho (by assumption) (by omega) (by omega)) h5n (by omega) (by omega) (by omega) (by omega)) (by omega)
   ·refine n1 Y (n1 Y (n1 Y (n1 Y (n1 Y (n1 Y (n1 Y (n1 Y (n1 Y (Pe Y (D_wk [0, 2, 3, 8, 9, 31] Y (C_f Y (Sk (Cq (Sr (P3 Y Y Y (ad (first + r) Y Y Y Y (by omega) (by omega) (P2 Y Y (ad (first + 2 * r + 1) Y Y Y Y (by omega) (by omega) (li Y (iless S (hc.perm.trans hp) (i := first + r) (j := first + 2 * r + 1) Y Y Y Y Y (by omega) (by omega) ?_))))))))))))))))))));refine Pe Y (CN Y (fun h6n => ?_) (fun h6n => ?_))
    ·refine Ct (Xr (Xq (Xr (Xq (R_0 Y fun w' hs => ⟨(), e, ?_, Y, hs⟩)))));exact ⟨hc, sft_stop2 (c := 2 * r + 1) ho hsf (.inl rfl) (sm_a ho (by omega)) h6n (by omega) (by omega)⟩
    ·refine Sk (Sr (P3 Y Y Y (ad (first + r) Y Y Y Y (by omega) (by omega) (P2 Y Y (ad (first + 2 * r + 1) Y Y Y Y (by omega) (by omega) (li Y (iswap S (hc.perm.trans hp) (i := first + r) (j := first + 2 * r + 1) Y Y Y Y Y (by omega) (by omega) ?_)))))));refine Dx (Cr (P2 Y Y (De (Xb (Xt (fun ac w' hf hs => ⟨_, ?_, 2 * r + 1, swp e (first + r) (first + 2 * r + 1), ?_, ?_, ?_, ?_, ?_, Y, hf.wk Y, hs⟩))))))
     ·omega
     ·omega
     ·omega
     ·rw [swp_len]; exact hlen
     ·exact hc.trans (Chg.swp (by omega) (by omega) (by omega))
     ·refine Sft.at (sft_swp2 (c := 2 * r + 1) ho hsf (.inl rfl) (by omega) (sm_a ho (by omega)) h6n (by omega) (by omega) (by omega) (by omega)) (by omega)
theorem sort_heapSort {α : Type} [Inhabited α] {C : List α → Chunk} {lt : α → α → Bool} {d0 : List α} {dv : Value} {w0 : World} (S : Srx Tryz.prog C lt d0 dv w0) (ho : Ordr lt) (hmx : d0.length ≤ 2305843009213693951) (Hs : List Chunk) (w : World) (d : List α) (hp : List.Perm d d0) (a : Nat) (b : Nat) (hab : a < b) (hb : b ≤ d0.length) (hst : St w0 (C d :: Hs) w) : Cy 210 [dv, (nv a), (nv b)] w (fun e_ w' => ∃ (s : Unit) (e : List α), (Chg d e a b ∧ Srd lt e a b) ∧ e_ = .returned (.tuple #[]) ∧ St w0 (C e :: Hs) w') := by
 have hdl : d.length = d0.length := hp.length_eq;refine enterS 44 Tryz.func210 Y Y Y hst (Sr (P2 Y Y (Dx (Dh (C d :: Hs) Y (Sr (Pe Y (Sr (P2 Y Y (q1 Y (D_sub Y Y Y (r := ((b - a : Nat) : Int)) (by omega) (by omega)) (Pe Y (Cq (Sr (p1 Y (q1 Y (D_sub Y Y Y (r := ((b - a - 1 : Nat) : Int)) (by omega) (by omega)) ?_))))))))))))));refine q1 Y (D_quoN (m := (b - a - 1)) (n := 2) Y Y Y (by omega) (by omega)) (Pe Y (Cb (Cl (fun m_ ac w' => ∃ (z : Int), ∃ (e : List α), (-1 ≤ z ∧ z ≤ (b : Int) - a - 1) ∧ (e.length = d0.length) ∧ (Chg d e a b) ∧ (Hp lt e a (z + 1).toNat (b - a)) ∧ m_ = (z + 1).toNat ∧ Fits ac 44 [(0, dv), (6, (nv a)), (7, (iv 0)), (8, (nv (b - a))), (9, (iv z))] ∧ St w0 (C e :: Hs) w') ?_ ?_)))
 ·refine fun ac w' hf hs => ⟨_, (((b - a - 1) / 2 : Nat) : Int), d, ?_, ?_, ?_, ?_, Y, hf.wk Y, hs⟩
  ·omega
  ·assumption
  ·exact Chg.refl _ _ _
  ·exact hp_none _ _ _ _ (by omega)
 ·rintro m_ ac w' ⟨z, e, hz, hlen, hc, hh, rfl, hf, hs⟩;refine D.use ?_ hf hs;clear hf hs ac w';refine Cq (Sr (P2 Y Y (Dx (Dh (_ :: Hs) Y (Cd Y (fun pr1 => ?_) (fun pr1 => ?_))))))
  ·refine Sk (Cq (Cb (Cr (P3 Y Y Y (p1 Y (D_re 23 (v' := .int .i64 ((z.toNat : Nat) : Int)) Y (congrArg (Value.int .i64) (by omega)) Y (li Y (cix b_245 Y Y Y Y (fun w' hs => sort_siftDown S ho hmx _ w' e (hc.perm.trans hp) z.toNat (b - a) a (by omega) (by rw [show z.toNat + 1 = (z + 1).toNat from by omega]; exact hh) (by omega) hs) ?_))))))));rintro ⟨⟩ e2 he2
   try dsimp only at he2
   refine De (Xb (Xt (Dh (C e2 :: Hs) Y (Cr (p1 Y (q1 Y (D_sub Y Y Y Y (by omega)) (Pe Y (fun ac w' hf hs => ⟨_, ?_, (z - 1), e2, ?_, ?_, ?_, ?_, Y, hf.wk Y, hs⟩))))))))
   ·omega
   ·omega
   ·rw [he2.1.len]; exact hlen
   ·exact hc.trans (he2.1.mono (by omega) (by omega))
   ·rw [show (z - 1 + 1).toNat = z.toNat from by omega]; exact he2.2
  ·refine Cx (Xx (Xx (Xe (Xt (Sr (p1 Y (q1 Y (D_sub Y Y Y (r := ((b - a - 1 : Nat) : Int)) (by omega) (by omega)) (Pe Y (Cb (Cl (fun m_ ac w' => ∃ (y : Int), ∃ (e : List α), (-1 ≤ y ∧ y ≤ (b : Int) - a - 1) ∧ (e.length = d0.length) ∧ (Chg d e a b) ∧ (Pop lt e a (y + 1).toNat (b - a)) ∧ (Hp lt e a 0 (y + 1).toNat) ∧ m_ = (y + 1).toNat ∧ Fits ac 44 [(0, dv), (6, (nv a)), (7, (iv 0)), (10, (iv y))] ∧ St w0 (C e :: Hs) w') ?_ ?_))))))))))
   ·refine fun ac w' hf hs => ⟨_, ((b - a - 1 : Nat) : Int), e, ?_, ?_, ?_, ?_, ?_, Y, hf.wk Y, hs⟩
    ·omega
    ·assumption
    ·assumption
    ·rw [show (((b - a - 1 : Nat) : Int) + 1).toNat = b - a from by omega]; exact pop_start _ _ _
    ·rw [show (((b - a - 1 : Nat) : Int) + 1).toNat = b - a from by omega]; rw [show (z + 1).toNat = 0 from by omega] at hh; exact hh
   ·rintro m_ ac w' ⟨y, e, hy, hlen, hc, hpp, hq, rfl, hf, hs⟩;refine D.use ?_ hf hs;clear hf hs ac w';refine Cq (Sr (P2 Y Y (Dx (Cd Y (fun pr2 => ?_) (fun pr2 => ?_)))))
    ·refine Sk (Cq (Cb (Sr (P3 Y Y Y (p1 Y (q1 Y (D_add Y Y Y Y (by omega)) ?_))))));have hps := pop_step (k := y.toNat) (hi := b - a) ho (by rw [show y.toNat + 1 = (y + 1).toNat from by omega]; exact hpp) (by rw [show y.toNat + 1 = (y + 1).toNat from by omega]; exact hq) (by omega) (by omega);refine D_re 37 (v' := .int .i64 ((a + y.toNat : Nat) : Int)) Y (congrArg (Value.int .i64) (by omega)) Y (li Y (iswap S (hc.perm.trans hp) (i := a) (j := a + y.toNat) Y Y Y Y Y (by omega) (by omega) ?_));refine Dx (Dh (C (swp e a (a + y.toNat)) :: Hs) Y (Cr (P3 Y Y Y (p1 Y (D_re 41 (v' := .int .i64 ((y.toNat : Nat) : Int)) Y (congrArg (Value.int .i64) (by omega)) Y (li Y (cix b_245 Y Y Y Y (fun w' hs => sort_siftDown S ho hmx _ w' (swp e a (a + y.toNat)) ((swp_perm (by omega) (by omega)).trans (hc.perm.trans hp)) 0 y.toNat a (by omega) hps.2.1 (by omega) hs) ?_)))))));rintro ⟨⟩ e3 he3
     try dsimp only at he3
     refine De (Xb (Xt (Dh (C e3 :: Hs) Y (Cr (p1 Y (q1 Y (D_sub Y Y Y Y (by omega)) (Pe Y (fun ac w' hf hs => ⟨_, ?_, (y - 1), e3, ?_, ?_, ?_, ?_, ?_, Y, hf.wk Y, hs⟩))))))))
     ·omega
     ·omega
     ·rw [he3.1.len, swp_len]; exact hlen
     ·exact hc.trans ((hps.2.2.trans (he3.1.mono (by omega) (by omega))).mono (by omega) (by omega))
     ·rw [show (y - 1 + 1).toNat = y.toNat from by omega]; exact pop_chg hps.1 he3.1
     ·rw [show (y - 1 + 1).toNat = y.toNat from by omega]; exact he3.2
    ·refine Cx (Xx (Xx (Xe (R_0n Y fun w' hs => ⟨(), e, ?_, Y, hs⟩))));have hpe := (by rw [show (y + 1).toNat = 0 from by omega] at hpp; exact pop_end hpp : Srd lt e a (a + (b - a))); rw [show a + (b - a) = b from by omega] at hpe; exact ⟨hc, hpe⟩
theorem sort_reverseRange {α : Type} [Inhabited α] {C : List α → Chunk} {lt : α → α → Bool} {d0 : List α} {dv : Value} {w0 : World} (S : Srx Tryz.prog C lt d0 dv w0) (ho : Ordr lt) (hmx : d0.length ≤ 2305843009213693951) (Hs : List Chunk) (w : World) (d : List α) (hp : List.Perm d d0) (a : Nat) (b : Nat) (hab : a < b) (hb : b ≤ d0.length) (hst : St w0 (C d :: Hs) w) : Cy 213 [dv, (nv a), (nv b)] w (fun e_ w' => ∃ (s : Unit) (e : List α), (Chg d e a b) ∧ e_ = .returned (.tuple #[]) ∧ St w0 (C e :: Hs) w') := by
 have hdl : d.length = d0.length := hp.length_eq;refine enterS 22 Tryz.func213 Y Y Y hst (Sr (P2 Y Y (Dx (Dh (C d :: Hs) Y (Sr (p1 Y (q1 Y (D_sub Y Y Y (r := ((b - 1 : Nat) : Int)) (by omega) (by omega)) (Pe Y (Cb (Cl (fun m_ ac w' => ∃ (i : Nat), ∃ (j : Nat), ∃ (e : List α), (a ≤ i) ∧ (j < b) ∧ (e.length = d0.length) ∧ (Chg d e a b) ∧ m_ = j + 1 - i ∧ Fits ac 22 [(0, dv), (6, (nv i)), (7, (nv j))] ∧ St w0 (C e :: Hs) w') ?_ ?_))))))))))
 ·refine fun ac w' hf hs => ⟨_, a, b - 1, d, ?_, ?_, ?_, ?_, Y, hf.wk Y, hs⟩
  ·omega
  ·omega
  ·assumption
  ·exact Chg.refl _ _ _
 ·rintro m_ ac w' ⟨i, j, e, hi, hj, hlen, hc, rfl, hf, hs⟩;refine D.use ?_ hf hs;clear hf hs ac w';refine Cq (Sr (P3 Y Y Y (Dx (Dh (_ :: Hs) Y (Cd Y (fun pr1 => ?_) (fun pr1 => ?_))))))
  ·refine Sk (Cb (Sr (P3 Y Y Y (li Y (iswap S (hc.perm.trans hp) (i := i) (j := j) Y Y Y Y Y (by omega) (by omega) ?_)))));refine Dx (Dh (C (swp e i j) :: Hs) Y (Sr (p1 Y (ad (i + 1) Y Y Y Y (by omega) (by omega) (Pe Y (Cr (p1 Y (q1 Y (D_sub Y Y Y (r := ((j - 1 : Nat) : Int)) (by omega) (by omega)) (p1 Y (De (Xb (Xt (fun ac w' hf hs => ⟨_, ?_, i + 1, j - 1, swp e i j, ?_, ?_, ?_, ?_, Y, hf.wk Y, hs⟩)))))))))))))
   ·omega
   ·omega
   ·omega
   ·rw [swp_len]; exact hlen
   ·exact hc.trans (Chg.swp (by omega) (by omega) (by omega))
  ·refine Cx (Xx (Xx (Xe (R_0n Y fun w' hs => ⟨(), e, ?_, Y, hs⟩))));exact hc
theorem sort_breakPatterns {α : Type} [Inhabited α] {C : List α → Chunk} {lt : α → α → Bool} {d0 : List α} {dv : Value} {w0 : World} (S : Srx Tryz.prog C lt d0 dv w0) (ho : Ordr lt) (hmx : d0.length ≤ 2305843009213693951) (Hs : List Chunk) (w : World) (d : List α) (hp : List.Perm d d0) (a : Nat) (b : Nat) (hab : a + 8 ≤ b) (hb : b ≤ d0.length) (hst : St w0 (C d :: Hs) w) : Cy 211 [dv, (nv a), (nv b)] w (fun e_ w' => ∃ (s : Unit) (e : List α), (Chg d e a b) ∧ e_ = .returned (.tuple #[]) ∧ St w0 (C e :: Hs) w') := by
 have hdl : d.length = d0.length := hp.length_eq;refine enterS 53 Tryz.func211 Y Y Y hst (Sr (P2 Y Y (q1 Y (D_sub Y Y Y (r := ((b - a : Nat) : Int)) (by omega) (by omega)) (Pe Y (Dh (C d :: Hs) Y (Sr (P2 Y Y (Dx (Cd Y (fun pr1 => ?_) (fun pr1 => ?_))))))))))
 ·refine Sr (p1 Y (q1 Y (D_cvU (n := (b - a)) uu_271 ⟨_, ui_3⟩ Y Y (by omega)) (li Y (D_alloc y_271 Y Y Y Y fun g2 => ?_))));refine li Y (D_stb (vs := [(.int .u64 ((b - a : Nat) : Int))]) (cs' := [(.int .u64 ((b - a : Nat) : Int))]) 0 z_271 Y Y Y Y Y Y (ocons Y onil) (by simp) Y ?_);refine Dx (Dh (bx g2 [(.int .u64 ((b - a : Nat) : Int))] :: _ :: Hs) Y (Sr (p1 Y ?_)));have hnp := npt_rng (n := (((b - a : Nat) : Int)).toNat) (by omega) (by omega);refine li Y (cv b_246 Y Y Y Y (fun w' hs => (sort_nextPowerOfTwo (by omega))) ?_);refine Pe Y (Sr (P2 Y Y (q1 Y (D_quoN (m := (b - a)) (n := 4) Y Y Y (by omega) (by omega)) (q1 Y (D_mulN (m := ((b - a) / 4)) (n := 2) Y Y Y (by omega)) (ad (a + ((b - a) / 4) * 2) Y Y Y Y (by omega) (by omega) (q1 Y (D_sub Y Y Y (r := ((a + ((b - a) / 4) * 2 - 1 : Nat) : Int)) (by omega) (by omega)) (Pe Y (D_wk [0, 1, 6, 7, 8, 9] Y (Cb (Cl (fun m_ ac w' => ∃ (k : Nat), ∃ (R : Int), ∃ (e : List α), (a + (b - a) / 4 * 2 - 1 ≤ k) ∧ (k ≤ a + (b - a) / 4 * 2 + 2) ∧ (e.length = d0.length) ∧ (Chg d e a b) ∧ m_ = a + (b - a) / 4 * 2 + 3 - k ∧ Fits ac 53 [(0, dv), (1, (nv a)), (6, (nv (b - a))), (7, (pv g2)), (8, (.int .u64 (npt ((b - a : Nat) : Int).toNat))), (9, (nv k))] ∧ St w0 (bx g2 [(.int .u64 R)] :: C e :: Hs) w') ?_ ?_))))))))))
  ·refine fun ac w' hf hs => ⟨_, a + ((b - a) / 4) * 2 - 1, ((b - a : Nat) : Int), d, ?_, ?_, ?_, ?_, Y, hf.wk Y, hs⟩
   ·omega
   ·omega
   ·assumption
   ·exact Chg.refl _ _ _
  ·rintro m_ ac w' ⟨k, R, e, hk1, hk2, hlen, hc, rfl, hf, hs⟩;refine D.use ?_ hf hs;clear hf hs ac w';refine Cq (Sr (P3 Y Y Y (q1 Y (D_quoN (m := (b - a)) (n := 4) Y Y Y (by omega) (by omega)) (q1 Y (D_mulN (m := ((b - a) / 4)) (n := 2) Y Y Y (by omega)) (ad (a + ((b - a) / 4) * 2) Y Y Y Y (by omega) (by omega) (ad (a + ((b - a) / 4) * 2 + 1) Y Y Y Y (by omega) (by omega) (Pe Y (Dh (_ :: _ :: Hs) Y (Cd Y (fun pr3 => ?_) (fun pr3 => ?_))))))))))
   ·refine Sk (Cq (Cb (Sr (li Y (cub (R := R) b_247 Y Y Y Y (fun w' hs => xorshift_Next _ _ w' g2 R hs) fun R2 hR2 => ?_)))));refine p1 Y (q1 Y (D_subU Y Y Y) ?_);have hsu := subU_eq (x := npt (((b - a : Nat) : Int)).toNat) (y := 1) (by omega) (by omega);have hau := andU_le (x := R2) (y := subU (npt (((b - a : Nat) : Int)).toNat) 1) (by omega) (by omega);refine q1 Y (D_andU Y Y Y) (q1 Y (D_cvIz ui_3 ⟨_, uu_208⟩ Y Y (by omega)) ?_);obtain ⟨t, hg_t⟩ : ∃ t, (andU R2 (subU (npt ((b - a : Nat) : Int).toNat) 1)) = t := ⟨_, rfl⟩;refine D_re 40 (v' := .int .i64 t) Y (by rw [hg_t]) Y ?_;have ht : 0 ≤ t ∧ t < 2 * ((b - a : Nat) : Int) := by omega
    refine Pe Y (Dh (bx g2 [(.int .u64 R2)] :: _ :: Hs) Y (Cq (Sr (P3 Y Y Y (Dx (D_wk [0, 1, 6, 7, 8, 9, 10, 43] Y (Cd Y (fun pr4 => ?_) (fun pr4 => ?_))))))))
    ·refine Cr (P2 Y Y (D_re 44 (v' := .int .i64 ((t.toNat : Nat) : Int)) Y (congrArg (Value.int .i64) (by omega)) Y (q1 Y (D_sub Y Y Y (r := ((t.toNat - (b - a) : Nat) : Int)) (by omega) (by omega)) (Pe Y (Cr (P3 Y Y Y (p1 Y (ad (a + t.toNat - (b - a)) Y Y Y Y (by omega) (by omega) (D_fd [1] 0 Y (li Y (iswap S (hc.perm.trans hp) (i := k) (j := a + t.toNat - (b - a)) Y Y Y Y Y (by omega) (by omega) ?_)))))))))));refine De (Xb (Xt (Dh (C (swp e k (a + t.toNat - (b - a))) :: _ :: Hs) Y (Cr (p1 Y (ad (k + 1) Y Y Y Y (by omega) (by omega) (Pe Y (fun ac w' hf hs => ⟨_, ?_, k + 1, R2, swp e k (a + t.toNat - (b - a)), ?_, ?_, ?_, ?_, Y, hf.wk Y, hs.fd [0, 1] 0 Y⟩))))))))
     ·omega
     ·omega
     ·omega
     ·rw [swp_len]; exact hlen
     ·exact hc.trans (Chg.swp (by omega) (by omega) (by omega))
    ·refine Sk (Cr (P3 Y Y Y (p1 Y (D_re 50 (v' := .int .i64 ((t.toNat : Nat) : Int)) Y (congrArg (Value.int .i64) (by omega)) Y (ad (a + t.toNat) Y Y Y Y (by omega) (by omega) (D_fd [1] 0 Y (li Y (iswap S (hc.perm.trans hp) (i := k) (j := a + t.toNat) Y Y Y Y Y (by omega) (by omega) ?_))))))));refine De (Xb (Xt (Dh (C (swp e k (a + t.toNat)) :: _ :: Hs) Y (Cr (p1 Y (ad (k + 1) Y Y Y Y (by omega) (by omega) (Pe Y (fun ac w' hf hs => ⟨_, ?_, k + 1, R2, swp e k (a + t.toNat), ?_, ?_, ?_, ?_, Y, hf.wk Y, hs.fd [0, 1] 0 Y⟩))))))))
     ·omega
     ·omega
     ·omega
     ·rw [swp_len]; exact hlen
     ·exact hc.trans (Chg.swp (by omega) (by omega) (by omega))
   ·refine Cx (Xx (Xx (Xe (R_0n Y fun w' hs => ⟨(), e, ?_, Y, hs.fd [] 1 Y⟩))));exact hc
 ·refine Ck (R_0n Y fun w' hs => ⟨(), d, ?_, Y, hs⟩);exact Chg.refl _ _ _
theorem sort_order2 {α : Type} [Inhabited α] {C : List α → Chunk} {lt : α → α → Bool} {d0 : List α} {dv : Value} {w0 : World} (S : Srx Tryz.prog C lt d0 dv w0) (ho : Ordr lt) (hmx : d0.length ≤ 2305843009213693951) (Hs : List Chunk) (w : World) (d : List α) (hp : List.Perm d d0) (a : Nat) (b : Nat) (g_swaps : Nat) (sw : Nat) (ha : a < d0.length) (hb : b < d0.length) (hsw : sw ≤ 100) (hst : St w0 (C d :: bx g_swaps [(nv sw)] :: Hs) w) : Cy 266 [dv, (nv a), (nv b), (pv g_swaps)] w (fun e_ w' => ∃ (s : Nat × Nat × Nat), ((s.1 = a ∧ s.2.1 = b ∨ s.1 = b ∧ s.2.1 = a) ∧ s.2.2 ≤ sw + 1) ∧ e_ = .returned (.tuple #[(nv s.1), (nv s.2.1)]) ∧ St w0 (C d :: bx g_swaps [(nv s.2.2)] :: Hs) w') := by
 have hdl : d.length = d0.length := hp.length_eq;refine enterS 23 Tryz.func266 Y Y Y hst (Sr (P2 Y Y (Dx (Dh (C d :: bx g_swaps [(nv sw)] :: Hs) Y (Cq (Sr (P3 Y Y Y (li Y (iless S hp (i := b) (j := a) Y Y Y Y Y (by omega) (by omega) ?_)))))))));refine Dx (Ci _ Y (fun h1 => ?_) (fun h1 => ?_))
 ·refine Sr (p1 Y (q1 Y (D_nilc Y Y) (q1 Y (lb 1 o_3 Y Y Y Y) (ad (sw + 1) Y Y Y Y (by omega) (by omega) (q1 Y (D_nilc Y Y) (li Y (D_stb (vs := [(nv (sw + 1))]) (cs' := [(nv (sw + 1))]) 1 z_3 Y Y Y Y Y Y (ocons Y onil) (by simp) Y ?_)))))));refine Dx (Sr (P3 Y Y Y (Pe Y (Ct (Xr (R_2g Y (rvt Y) (rvt Y) fun w' hs => ⟨⟨b, a, sw + 1⟩, ?_, Y, hs⟩))))))
  try dsimp only
  exact ⟨by simp, by omega⟩
 ·refine Sk (Sr (P3 Y Y Y (Pe Y (Ct (R_2g Y (rvt Y) (rvt Y) fun w' hs => ⟨⟨a, b, sw⟩, ?_, Y, hs⟩)))))
  try dsimp only
  exact ⟨by simp, by omega⟩
theorem sort_median {α : Type} [Inhabited α] {C : List α → Chunk} {lt : α → α → Bool} {d0 : List α} {dv : Value} {w0 : World} (S : Srx Tryz.prog C lt d0 dv w0) (ho : Ordr lt) (hmx : d0.length ≤ 2305843009213693951) (Hs : List Chunk) (w : World) (d : List α) (hp : List.Perm d d0) (a : Nat) (b : Nat) (c : Nat) (g_swaps : Nat) (sw : Nat) (ha : a < d0.length) (hb : b < d0.length) (hc : c < d0.length) (hsw : sw ≤ 90) (hst : St w0 (C d :: bx g_swaps [(nv sw)] :: Hs) w) : Cy 249 [dv, (nv a), (nv b), (nv c), (pv g_swaps)] w (fun e_ w' => ∃ (s : Nat × Nat), ((s.1 = a ∨ s.1 = b ∨ s.1 = c) ∧ s.2 ≤ sw + 3) ∧ e_ = .returned (nv s.1) ∧ St w0 (C d :: bx g_swaps [(nv s.2)] :: Hs) w') := by
 have hdl : d.length = d0.length := hp.length_eq;refine enterS 36 Tryz.func249 Y Y Y hst (Sr (Pe Y (Dh (C d :: bx g_swaps [(nv sw)] :: Hs) Y (Sr (P3 Y Y Y (p1 Y (li Y (cir b_266 Y Y Y Y (fun w' hs => sort_order2 S ho hmx _ w' d hp a b g_swaps sw (by assumption) (by assumption) (by omega) hs) ?_))))))));rintro ⟨n3, n4, n5⟩ he2
 try dsimp only at he2
 refine D_re 16 (v' := (.tuple #[(nv n3), (nv n4)])) Y Y Y (P3 Y Y Y (P2 Y Y (Dx (Dh (_ :: bx g_swaps [(nv n5)] :: Hs) Y (Sr (P3 Y Y Y (p1 Y (li Y (cir b_266 Y Y Y Y (fun w' hs => sort_order2 S ho hmx _ w' d hp n4 c g_swaps n5 (by omega) (by assumption) (by omega) hs) ?_)))))))));rintro ⟨n8, n9, n10⟩ he7
 try dsimp only at he7
 refine D_re 24 (v' := (.tuple #[(nv n8), (nv n9)])) Y Y Y (P3 Y Y Y (P2 Y Y (Dx (D_wk [0, 1, 2, 4] Y (Dh (_ :: bx g_swaps [(nv n10)] :: Hs) Y (Sr (P3 Y Y Y (p1 Y (li Y (cir b_266 Y Y Y Y (fun w' hs => sort_order2 S ho hmx _ w' d hp n3 n8 g_swaps n10 (by omega) (by omega) (by omega) hs) ?_))))))))));rintro ⟨n13, n14, n15⟩ he12
 try dsimp only at he12
 refine D_re 32 (v' := (.tuple #[(nv n13), (nv n14)])) Y Y Y (P3 Y Y Y (P2 Y Y (Dx (Sr (P2 Y Y (Dx (Ct (R_1 Y Y fun w' hs => ⟨⟨n14, n15⟩, ?_, Y, hs⟩))))))))
 try dsimp only
 omega
theorem sort_medianAdjacent {α : Type} [Inhabited α] {C : List α → Chunk} {lt : α → α → Bool} {d0 : List α} {dv : Value} {w0 : World} (S : Srx Tryz.prog C lt d0 dv w0) (ho : Ordr lt) (hmx : d0.length ≤ 2305843009213693951) (Hs : List Chunk) (w : World) (d : List α) (hp : List.Perm d d0) (a : Nat) (g_swaps : Nat) (sw : Nat) (ha : 1 ≤ a) (hb : a + 1 < d0.length) (hsw : sw ≤ 90) (hst : St w0 (C d :: bx g_swaps [(nv sw)] :: Hs) w) : Cy 248 [dv, (nv a), (pv g_swaps)] w (fun e_ w' => ∃ (s : Nat × Nat), ((a ≤ s.1 + 1 ∧ s.1 ≤ a + 1) ∧ s.2 ≤ sw + 3) ∧ e_ = .returned (nv s.1) ∧ St w0 (C d :: bx g_swaps [(nv s.2)] :: Hs) w') := by
 have hdl : d.length = d0.length := hp.length_eq;refine enterS 15 Tryz.func248 Y Y Y hst (Sr (Pe Y (Dh (C d :: bx g_swaps [(nv sw)] :: Hs) Y (Sr (P2 Y Y (q1 Y (D_sub Y Y Y (r := ((a - 1 : Nat) : Int)) (by omega) (by omega)) (P2 Y Y (ad (a + 1) Y Y Y Y (by omega) (by omega) (p1 Y (li Y (cir b_249 Y Y Y Y (fun w' hs => sort_median S ho hmx _ w' d hp (a - 1) a (a + 1) g_swaps sw (by omega) (by omega) (by assumption) (by assumption) hs) ?_)))))))))));rintro ⟨n3, n4⟩ he2
 try dsimp only at he2
 refine D_re 14 (v' := (nv n3)) Y Y Y (Pe Y (Ct (R_1 Y Y fun w' hs => ⟨⟨n3, n4⟩, ?_, Y, hs⟩)))
 try dsimp only
 omega
set_option maxHeartbeats 4000000 in
theorem sort_choosePivot {α : Type} [Inhabited α] {C : List α → Chunk} {lt : α → α → Bool} {d0 : List α} {dv : Value} {w0 : World} (S : Srx Tryz.prog C lt d0 dv w0) (ho : Ordr lt) (hmx : d0.length ≤ 2305843009213693951) (Hs : List Chunk) (w : World) (d : List α) (hp : List.Perm d d0) (a : Nat) (b : Nat) (hab : a + 12 < b) (hb : b ≤ d0.length) (hst : St w0 (C d :: Hs) w) : Cy 212 [dv, (nv a), (nv b)] w (fun e_ w' => ∃ (s : Nat × Int), (a ≤ s.1 ∧ s.1 < b) ∧ e_ = .returned (.tuple #[(nv s.1), (iv s.2)]) ∧ St w0 (C d :: Hs) w') := by
 have hdl : d.length = d0.length := hp.length_eq;refine enterS 57 Tryz.func212 Y Y Y hst (Sr (P2 Y Y (Dx (Dh (C d :: Hs) Y (Sr (P2 Y Y (q1 Y (D_sub Y Y Y (r := ((b - a : Nat) : Int)) (by omega) (by omega)) (Pe Y (Sr (li Y (D_alloc y_3 Y Y Y Y fun g1 => ?_)))))))))));refine Dx (Dh (bx g1 [(iv 0)] :: _ :: Hs) Y (Sr (P2 Y Y (q1 Y (D_quoN (m := (b - a)) (n := 4) Y Y Y (by omega) (by omega)) (q1 Y (D_mulN (m := ((b - a) / 4)) (n := 1) Y Y Y (by omega)) (ad (a + ((b - a) / 4) * 1) Y Y Y Y (by omega) (by omega) (Pe Y (Sr (P2 Y Y (q1 Y (D_quoN (m := (b - a)) (n := 4) Y Y Y (by omega) (by omega)) (q1 Y (D_mulN (m := ((b - a) / 4)) (n := 2) Y Y Y (by omega)) (ad (a + ((b - a) / 4) * 2) Y Y Y Y (by omega) (by omega) (Pe Y (D_wk [0, 1, 8, 9, 10, 11] Y (Sr ?_)))))))))))))));refine P2 Y Y (q1 Y (D_quoN (m := (b - a)) (n := 4) Y Y Y (by omega) (by omega)) (q1 Y (D_mulN (m := ((b - a) / 4)) (n := 3) Y Y Y (by omega)) (ad (a + ((b - a) / 4) * 3) Y Y Y Y (by omega) (by omega) (Pe Y (Cq (Sr (P2 Y Y (Dx (Cd Y (fun pr2 => ?_) (fun pr2 => ?_))))))))))
 ·refine Cq (Sr (P2 Y Y (Dx (Cd Y (fun pr3 => ?_) (fun pr3 => ?_)))))
  ·refine Sr (P2 Y Y (D_fd [0, 1] 0 Y (li Y (cir b_248 Y Y Y Y (fun w' hs => sort_medianAdjacent S ho hmx _ w' d hp (a + ((b - a) / 4) * 1) g1 0 (by omega) (by omega) (by omega) hs) ?_))));rintro ⟨n6, n7⟩ he5
   try dsimp only at he5
   refine D_re 37 (v' := (nv n6)) Y Y Y (Pe Y (Dh (_ :: bx g1 [(nv n7)] :: Hs) Y (Sr (P2 Y Y (li Y (cir b_248 Y Y Y Y (fun w' hs => sort_medianAdjacent S ho hmx _ w' d hp (a + ((b - a) / 4) * 2) g1 n7 (by omega) (by omega) (by omega) hs) ?_))))));rintro ⟨n10, n11⟩ he9
   try dsimp only at he9
   refine D_re 40 (v' := (nv n10)) Y Y Y (Pe Y (D_wk [0, 9, 10, 11, 12] Y (Dh (_ :: bx g1 [(nv n11)] :: Hs) Y (Cr (P2 Y Y (li Y (cir b_248 Y Y Y Y (fun w' hs => sort_medianAdjacent S ho hmx _ w' d hp (a + ((b - a) / 4) * 3) g1 n11 (by omega) (by omega) (by omega) hs) ?_)))))));rintro ⟨n14, n15⟩ he13
   try dsimp only at he13
   refine D_re 43 (v' := (nv n14)) Y Y Y (Pe Y (Dh (_ :: bx g1 [(nv n15)] :: Hs) Y (Cr (P3 Y Y Y (p1 Y (li Y (cir b_249 Y Y Y Y (fun w' hs => sort_median S ho hmx _ w' d hp n6 n10 n14 g1 n15 (by omega) (by omega) (by omega) (by omega) hs) ?_)))))));rintro ⟨n18, n19⟩ he17
   try dsimp only at he17
   refine D_re 48 (v' := (nv n18)) Y Y Y (Pe Y (Dh (_ :: bx g1 [(nv n19)] :: Hs) Y (Sr (q1 Y (lb 1 o_3 Y Y Y Y) (Dx (Cb (Sr (P2 Y Y (Dx (Ce Y (fun pr20 => ?_) (fun pr20 => ?_)))))))))))
   ·refine Sr (P3 Y Y Y (Dx (Ct (Xq (R_2g Y (rvt Y) (rvt Y) fun w' hs => ⟨⟨n18, 1⟩, ?_, Y, hs.fd [0, 1] 1 Y⟩)))))
    try dsimp only
    omega
   ·refine Sr (P2 Y Y (Dx (D_wk [11, 54] Y (Ce Y (fun pr21 => ?_) (fun pr21 => ?_)))))
    ·refine Sr (P3 Y Y Y (Dx (Ct (Xq (R_2g Y (rvt Y) (rvt Y) fun w' hs => ⟨⟨n18, 2⟩, ?_, Y, hs.fd [0, 1] 1 Y⟩)))))
     try dsimp only
     omega
    ·refine Sr (P3 Y Y Y (Dx (Ct (Xq (R_2g Y (rvt Y) (rvt Y) fun w' hs => ⟨⟨n18, 0⟩, ?_, Y, hs.fd [0, 1] 1 Y⟩)))))
     try dsimp only
     omega
  ·refine Sk (Cr (P3 Y Y Y (p1 Y (D_fd [0, 1] 0 Y (li Y (cir b_249 Y Y Y Y (fun w' hs => sort_median S ho hmx _ w' d hp (a + ((b - a) / 4) * 1) (a + ((b - a) / 4) * 2) (a + ((b - a) / 4) * 3) g1 0 (by omega) (by omega) (by omega) (by omega) hs) ?_))))));rintro ⟨n24, n25⟩ he23
   try dsimp only at he23
   refine D_re 48 (v' := (nv n24)) Y Y Y (Pe Y (D_wk [9, 11] Y (Dh (_ :: bx g1 [(nv n25)] :: Hs) Y (Sr (q1 Y (lb 1 o_3 Y Y Y Y) (Dx (Cb (Sr (P2 Y Y (Dx (Ce Y (fun pr26 => ?_) (fun pr26 => ?_))))))))))))
   ·refine Sr (P3 Y Y Y (Dx (Ct (Xq (R_2g Y (rvt Y) (rvt Y) fun w' hs => ⟨⟨n24, 1⟩, ?_, Y, hs.fd [0, 1] 1 Y⟩)))))
    try dsimp only
    omega
   ·refine Sr (P2 Y Y (Dx (Ce Y (fun pr27 => ?_) (fun pr27 => ?_))))
    ·refine Sr (P3 Y Y Y (Dx (Ct (Xq (R_2g Y (rvt Y) (rvt Y) fun w' hs => ⟨⟨n24, 2⟩, ?_, Y, hs.fd [0, 1] 1 Y⟩)))))
     try dsimp only
     omega
    ·refine Sr (P3 Y Y Y (Dx (Ct (Xq (R_2g Y (rvt Y) (rvt Y) fun w' hs => ⟨⟨n24, 0⟩, ?_, Y, hs.fd [0, 1] 1 Y⟩)))))
     try dsimp only
     omega
 ·refine Sk (Sr (q1 Y (lb 0 o_3 Y Y Y Y) (Dx (Cb (Sr (P2 Y Y (Dx (Ce Y (fun pr28 => ?_) (fun pr28 => ?_)))))))))
  ·refine Sr (P3 Y Y Y (Dx (Ct (Xq (R_2g Y (rvt Y) (rvt Y) fun w' hs => ⟨⟨a + ((b - a) / 4) * 2, 1⟩, ?_, Y, hs.fd [] 1 Y⟩)))))
   try dsimp only
   omega
  ·refine Sr (P2 Y Y (Dx (D_wk [11, 54] Y (Ce Y (fun pr29 => ?_) (fun pr29 => ?_)))))
   ·refine Sr (P3 Y Y Y (Dx (Ct (Xq (R_2g Y (rvt Y) (rvt Y) fun w' hs => ⟨⟨a + ((b - a) / 4) * 2, 2⟩, ?_, Y, hs.fd [] 1 Y⟩)))))
    try dsimp only
    omega
   ·refine Sr (P3 Y Y Y (Dx (Ct (Xq (R_2g Y (rvt Y) (rvt Y) fun w' hs => ⟨⟨a + ((b - a) / 4) * 2, 0⟩, ?_, Y, hs.fd [] 1 Y⟩)))))
    try dsimp only
    omega
set_option maxHeartbeats 4000000 in
theorem sort_partition {α : Type} [Inhabited α] {C : List α → Chunk} {lt : α → α → Bool} {d0 : List α} {dv : Value} {w0 : World} (S : Srx Tryz.prog C lt d0 dv w0) (ho : Ordr lt) (hmx : d0.length ≤ 2305843009213693951) (Hs : List Chunk) (w : World) (d : List α) (hp : List.Perm d d0) (a : Nat) (b : Nat) (pv : Nat) (hap : a ≤ pv) (hpb : pv < b) (hb : b ≤ d0.length) (hst : St w0 (C d :: Hs) w) : Cy 216 [dv, (nv a), (nv b), (nv pv)] w (fun e_ w' => ∃ (s : Nat × Bool) (e : List α), (a ≤ s.1 ∧ s.1 < b ∧ Chg d e a b ∧ Ptd lt e a b s.1) ∧ e_ = .returned (.tuple #[(nv s.1), (.bool s.2)]) ∧ St w0 (C e :: Hs) w') := by
 have hdl : d.length = d0.length := hp.length_eq;refine enterS 98 Tryz.func216 Y Y Y hst (Sr (P2 Y Y (Dx (Dh (C d :: Hs) Y (Sr (P3 Y Y Y (li Y (iswap S hp (i := a) (j := pv) Y Y Y Y Y (by omega) (by omega) ?_))))))));refine Dx (Dh (C (swp d a pv) :: Hs) Y (Cq ?_));have hc0 : Chg d (swp d a pv) a b := Chg.swp (by omega) (by omega) (by omega);have hl0 : (swp d a pv).length = d0.length := by rw [swp_len]; exact hdl
 refine Cr (p1 Y (ad (a + 1) Y Y Y Y (by omega) (by omega) (p1 Y (q1 Y (D_sub Y Y Y (r := ((b - 1 : Nat) : Int)) (by omega) (by omega)) (P2 Y Y (Dx (Cq (Cb (Cl (fun m_ ac w' => ∃ (i : Nat), (a < i) ∧ (i ≤ b) ∧ (Par lt (swp d a pv) a b i (b - 1)) ∧ m_ = b - i ∧ Fits ac 98 [(0, dv), (1, (nv a)), (10, (nv i)), (11, (nv (b - 1)))] ∧ St w0 (C (swp d a pv) :: Hs) w') ?_ ?_)))))))))
 ·refine fun ac w' hf hs => ⟨_, a + 1, ?_, ?_, ?_, Y, hf.wk Y, hs⟩
  ·omega
  ·omega
  ·exact par_start _ _ _
 ·rintro m_ ac w' ⟨i, hi1, hi2, hp1, rfl, hf, hs⟩;refine D.use ?_ hf hs;clear hf hs ac w';refine Cq (Cq (C_join (fun ac w' => ∃ (jb : Bool), (jb = true → i ≤ b - 1 ∧ lt (A (swp d a pv) i) (A (swp d a pv) a) = true) ∧ (jb = false → ¬ i ≤ b - 1 ∨ lt (A (swp d a pv) i) (A (swp d a pv) a) = false) ∧ Fits ac 98 [(0, dv), (1, (nv a)), (10, (nv i)), (11, (nv (b - 1))), (28, (.bool jb))] ∧ St w0 (C (swp d a pv) :: Hs) w') ?_ ?_))
  ·refine Cr (P3 Y Y Y (p1 Y (gxd 23 Y Y (fun pr1 => ?_) (fun pr1 => ?_))))
   ·refine P3 Y Y Y (li Y (iless S ((swp_perm (by omega) (by omega)).trans hp) (i := i) (j := a) Y Y Y Y Y (by omega) (by omega) ?_));refine Pe Y (fun ac w' hf hs => ⟨(lt (A (swp d a pv) i) (A (swp d a pv) a)), (fun hj => ?_), (fun hj => ?_), hf.wk Y, hs⟩)
    ·exact ⟨by omega, by assumption⟩
    ·exact .inr (by assumption)
   ·refine n1 Y (n1 Y (n1 Y (n1 Y (Pe Y (fun ac w' hf hs => ⟨false, (fun hj => by cases hj), (fun hj => ?_), hf.wk Y, hs⟩)))))
    ·exact .inl (by omega)
  rintro ac w' ⟨jb2, hT3, hF4, hf, hs⟩;refine D.use ?_ hf hs;clear hf hs ac w';refine Xt (Ci _ Y (fun h5 => ?_) (fun h5 => ?_))
  ·have pr5 := hT3 h5;refine Sk (Cb (Cr (p1 Y (ad (i + 1) Y Y Y Y (by omega) (by omega) (p1 Y (De (Xb (Xt (fun ac w' hf hs => ⟨_, ?_, i + 1, ?_, ?_, ?_, Y, hf.wk Y, hs⟩)))))))))
   ·omega
   ·omega
   ·omega
   ·exact par_i hp1 pr5.2
  ·have pr5 := hF4 h5;refine Cx (Xx (Xx ?_));have hF1 := pr5;refine Xe (Xt (Cq (Cb (Cl (fun m_ ac w' => ∃ (j : Nat), (i ≤ j + 1) ∧ (j < b) ∧ (Par lt (swp d a pv) a b i j) ∧ m_ = j + 1 ∧ Fits ac 98 [(0, dv), (1, (nv a)), (10, (nv i)), (11, (nv j))] ∧ St w0 (C (swp d a pv) :: Hs) w') ?_ ?_))))
   ·refine fun ac w' hf hs => ⟨_, b - 1, ?_, ?_, ?_, Y, hf.wk Y, hs⟩
    ·omega
    ·omega
    ·exact hp1
   ·rintro m_ ac w' ⟨j, hj1, hj2, hp2, rfl, hf, hs⟩;refine D.use ?_ hf hs;clear hf hs ac w';refine Cq (Cq (C_join (fun ac w' => ∃ (jb : Bool), (jb = true → i ≤ j ∧ lt (A (swp d a pv) j) (A (swp d a pv) a) = false) ∧ (jb = false → ¬ i ≤ j ∨ lt (A (swp d a pv) j) (A (swp d a pv) a) = true) ∧ Fits ac 98 [(0, dv), (1, (nv a)), (10, (nv i)), (11, (nv j)), (40, (.bool jb))] ∧ St w0 (C (swp d a pv) :: Hs) w') ?_ ?_))
    ·refine Cr (P3 Y Y Y (p1 Y (gxd 34 Y Y (fun pr6 => ?_) (fun pr6 => ?_))))
     ·refine P3 Y Y Y (li Y (iless S ((swp_perm (by omega) (by omega)).trans hp) (i := j) (j := a) Y Y Y Y Y (by omega) (by omega) ?_));refine P2 Y Y (Dx (fun ac w' hf hs => ⟨(!(lt (A (swp d a pv) j) (A (swp d a pv) a))), (fun hj => ?_), (fun hj => ?_), hf.wk Y, hs⟩))
      ·have hjn := not_t hj ; exact ⟨by omega, by assumption⟩
      ·have hjn := not_f hj ; exact .inr (by assumption)
     ·refine n1 Y (n1 Y (n1 Y (n1 Y (n1 Y (Pe Y (fun ac w' hf hs => ⟨false, (fun hj => by cases hj), (fun hj => ?_), hf.wk Y, hs⟩))))))
      ·exact .inl (by omega)
    rintro ac w' ⟨jb7, hT8, hF9, hf, hs⟩;refine D.use ?_ hf hs;clear hf hs ac w';refine Xt (Ci _ Y (fun h10 => ?_) (fun h10 => ?_))
    ·have pr10 := hT8 h10;refine Sk (Cb (Cr (p1 Y (q1 Y (D_sub Y Y Y (r := ((j - 1 : Nat) : Int)) (by omega) (by omega)) (p1 Y (De (Xb (Xt (fun ac w' hf hs => ⟨_, ?_, j - 1, ?_, ?_, ?_, Y, hf.wk Y, hs⟩)))))))))
     ·omega
     ·omega
     ·omega
     ·exact par_j hp2 pr10.2 (by omega)
    ·have pr10 := hF9 h10;refine Cx (Xx (Xx ?_));have hF2 := pr10;refine Xe (Xt (Cq (Sr (P3 Y Y Y (Dx (Cd Y (fun pr11 => ?_) (fun pr11 => ?_)))))))
     ·refine Sr (P3 Y Y Y ?_);have hpe := par_end ho hp2 (by omega) (by omega) (by omega) (by omega) (by omega);refine li Y (iswap S ((swp_perm (by omega) (by omega)).trans hp) (i := j) (j := a) Y Y Y Y Y (by omega) (by omega) ?_);refine Dx (Sr (P3 Y Y Y (Dx (Ct (Xr (R_2g Y (rvt Y) (rvt Y) fun w' hs => ⟨⟨j, true⟩, (swp (swp d a pv) j a), ?_, Y, hs⟩))))))
      try dsimp only
      exact ⟨by omega, by omega, hc0.trans hpe.2, hpe.1⟩
     ·refine Sk (Sr (P3 Y Y Y ?_));have hli : lt (A (swp d a pv) i) (A (swp d a pv) a) = false := by rcases hF1 with h | h; (· omega); (· exact h)
      have hlj : lt (A (swp d a pv) j) (A (swp d a pv) a) = true := by rcases hF2 with h | h; (· omega); (· exact h)
      have hps := par_swp hp2 hli hlj (by omega) (by omega) (by omega) (by omega);refine li Y (iswap S ((swp_perm (by omega) (by omega)).trans hp) (i := i) (j := j) Y Y Y Y Y (by omega) (by omega) ?_);refine Dx (Dh (C (swp (swp d a pv) i j) :: Hs) Y (Sr (p1 Y (ad (i + 1) Y Y Y Y (by omega) (by omega) (Pe Y (Sr (p1 Y (q1 Y (D_sub Y Y Y (r := ((j - 1 : Nat) : Int)) (by omega) (by omega)) (Pe Y (Cq (Cb (Cl (fun m_ ac w' => ∃ (i1 : Nat), ∃ (j1 : Nat), ∃ (e : List α), (a < i1) ∧ (i1 ≤ j1 + 1) ∧ (j1 < b) ∧ (e.length = d0.length) ∧ (Par lt e a b i1 j1) ∧ (Chg d e a b) ∧ m_ = j1 + 1 - i1 ∧ Fits ac 98 [(0, dv), (1, (nv a)), (10, (nv i1)), (11, (nv j1))] ∧ St w0 (C e :: Hs) w') ?_ ?_))))))))))))
      ·refine fun ac w' hf hs => ⟨_, i + 1, j - 1, swp (swp d a pv) i j, ?_, ?_, ?_, ?_, ?_, ?_, Y, hf.wk Y, hs⟩
       ·omega
       ·have := hps.1; omega
       ·omega
       ·rw [swp_len]; exact hl0
       ·exact hps.2.1
       ·exact hc0.trans hps.2.2
      ·rintro m_ ac w' ⟨i1, j1, e, hi1_, hij, hj1_, hlen, hp3, hc, rfl, hf, hs⟩;refine D.use ?_ hf hs;clear hf hs ac w';refine Cb (Cq (Cb (Cl (fun m_ ac w' => ∃ (i2 : Nat), (i1 ≤ i2) ∧ (i2 ≤ j1 + 1) ∧ (Par lt e a b i2 j1) ∧ m_ = j1 + 1 - i2 ∧ Fits ac 98 [(0, dv), (1, (nv a)), (10, (nv i2)), (11, (nv j1))] ∧ St w0 (C e :: Hs) w') ?_ ?_)))
       ·refine fun ac w' hf hs => ⟨_, i1, ?_, ?_, ?_, Y, hf.wk Y, hs⟩
        ·omega
        ·assumption
        ·exact hp3
       ·rintro m_ ac w' ⟨i2, hi3, hi4, hp4, rfl, hf, hs⟩;refine D.use ?_ hf hs;clear hf hs ac w';refine Cq (Cq (C_join (fun ac w' => ∃ (jb : Bool), (jb = true → i2 ≤ j1 ∧ lt (A e i2) (A e a) = true) ∧ (jb = false → ¬ i2 ≤ j1 ∨ lt (A e i2) (A e a) = false) ∧ Fits ac 98 [(0, dv), (1, (nv a)), (10, (nv i2)), (11, (nv j1)), (67, (.bool jb))] ∧ St w0 (C e :: Hs) w') ?_ ?_))
        ·refine Cr (P3 Y Y Y (p1 Y (gxd 62 Y Y (fun pr12 => ?_) (fun pr12 => ?_))))
         ·refine P3 Y Y Y (li Y (iless S (hc.perm.trans hp) (i := i2) (j := a) Y Y Y Y Y (by omega) (by omega) ?_));refine Pe Y (fun ac w' hf hs => ⟨(lt (A e i2) (A e a)), (fun hj => ?_), (fun hj => ?_), hf.wk Y, hs⟩)
          ·exact ⟨by omega, by assumption⟩
          ·exact .inr (by assumption)
         ·refine n1 Y (n1 Y (n1 Y (n1 Y (Pe Y (fun ac w' hf hs => ⟨false, (fun hj => by cases hj), (fun hj => ?_), hf.wk Y, hs⟩)))))
          ·exact .inl (by omega)
        rintro ac w' ⟨jb13, hT14, hF15, hf, hs⟩;refine D.use ?_ hf hs;clear hf hs ac w';refine Xt (Dh (_ :: Hs) Y (Ci _ Y (fun h16 => ?_) (fun h16 => ?_)))
        ·have pr16 := hT14 h16;refine Sk (Cb (Cr (p1 Y (ad (i2 + 1) Y Y Y Y (by omega) (by omega) (p1 Y (De (Xb (Xt (fun ac w' hf hs => ⟨_, ?_, i2 + 1, ?_, ?_, ?_, Y, hf.wk Y, hs⟩)))))))))
         ·omega
         ·omega
         ·omega
         ·exact par_i hp4 pr16.2
        ·have pr16 := hF15 h16;refine Cx (Xx (Xx ?_));have hF3 := pr16;refine Xe (Xt (Cq (Cb (Cl (fun m_ ac w' => ∃ (j2 : Nat), (i2 ≤ j2 + 1) ∧ (j2 ≤ j1) ∧ (Par lt e a b i2 j2) ∧ m_ = j2 + 1 ∧ Fits ac 98 [(0, dv), (1, (nv a)), (10, (nv i2)), (11, (nv j2))] ∧ St w0 (C e :: Hs) w') ?_ ?_))))
         ·refine fun ac w' hf hs => ⟨_, j1, ?_, ?_, ?_, Y, hf.wk Y, hs⟩
          ·assumption
          ·omega
          ·exact hp4
         ·rintro m_ ac w' ⟨j2, hj3, hj4, hp5, rfl, hf, hs⟩;refine D.use ?_ hf hs;clear hf hs ac w';refine Cq (Cq (C_join (fun ac w' => ∃ (jb : Bool), (jb = true → i2 ≤ j2 ∧ lt (A e j2) (A e a) = false) ∧ (jb = false → ¬ i2 ≤ j2 ∨ lt (A e j2) (A e a) = true) ∧ Fits ac 98 [(0, dv), (1, (nv a)), (10, (nv i2)), (11, (nv j2)), (79, (.bool jb))] ∧ St w0 (C e :: Hs) w') ?_ ?_))
          ·refine Cr (P3 Y Y Y (p1 Y (gxd 73 Y Y (fun pr17 => ?_) (fun pr17 => ?_))))
           ·refine P3 Y Y Y (li Y (iless S (hc.perm.trans hp) (i := j2) (j := a) Y Y Y Y Y (by omega) (by omega) ?_));refine P2 Y Y (Dx (fun ac w' hf hs => ⟨(!(lt (A e j2) (A e a))), (fun hj => ?_), (fun hj => ?_), hf.wk Y, hs⟩))
            ·have hjn := not_t hj ; exact ⟨by omega, by assumption⟩
            ·have hjn := not_f hj ; exact .inr (by assumption)
           ·refine n1 Y (n1 Y (n1 Y (n1 Y (n1 Y (Pe Y (fun ac w' hf hs => ⟨false, (fun hj => by cases hj), (fun hj => ?_), hf.wk Y, hs⟩))))))
            ·exact .inl (by omega)
          rintro ac w' ⟨jb18, hT19, hF20, hf, hs⟩;refine D.use ?_ hf hs;clear hf hs ac w';refine Xt (Ci _ Y (fun h21 => ?_) (fun h21 => ?_))
          ·have pr21 := hT19 h21;refine Sk (Cb (Cr (p1 Y (q1 Y (D_sub Y Y Y (r := ((j2 - 1 : Nat) : Int)) (by omega) (by omega)) (p1 Y (De (Xb (Xt (fun ac w' hf hs => ⟨_, ?_, j2 - 1, ?_, ?_, ?_, Y, hf.wk Y, hs⟩)))))))))
           ·omega
           ·omega
           ·omega
           ·exact par_j hp5 pr21.2 (by omega)
          ·have pr21 := hF20 h21;refine Cx (Xx (Xx ?_));have hF4 := pr21;refine Xe (Xt (Cq (Sr (P3 Y Y Y (Dx (Cd Y (fun pr22 => ?_) (fun pr22 => ?_)))))))
           ·refine Cx (Xx (Xn Y (Xx (Xe (Xt (Sr (P3 Y Y Y ?_)))))));have hpe := par_end ho hp5 (by omega) (by omega) (by omega) (by omega) (by omega);refine li Y (iswap S (hc.perm.trans hp) (i := j2) (j := a) Y Y Y Y Y (by omega) (by omega) ?_);refine Dx (Sr (P3 Y Y Y (Dx (Ct (R_2g Y (rvt Y) (rvt Y) fun w' hs => ⟨⟨j2, false⟩, (swp e j2 a), ?_, Y, hs⟩)))))
            try dsimp only
            exact ⟨by omega, by omega, hc.trans hpe.2, hpe.1⟩
           ·refine Sk (Sr (P3 Y Y Y ?_));have hli : lt (A e i2) (A e a) = false := by rcases hF3 with h | h; (· omega); (· exact h)
            have hlj : lt (A e j2) (A e a) = true := by rcases hF4 with h | h; (· omega); (· exact h)
            have hps := par_swp hp5 hli hlj (by omega) (by omega) (by omega) (by omega);refine li Y (iswap S (hc.perm.trans hp) (i := i2) (j := j2) Y Y Y Y Y (by omega) (by omega) ?_);refine Dx (Dh (C (swp e i2 j2) :: Hs) Y (Sr (p1 Y (ad (i2 + 1) Y Y Y Y (by omega) (by omega) (Pe Y (Cr (p1 Y (q1 Y (D_sub Y Y Y (r := ((j2 - 1 : Nat) : Int)) (by omega) (by omega)) (p1 Y (De (Xb (Xt (fun ac w' hf hs => ⟨_, ?_, i2 + 1, j2 - 1, swp e i2 j2, ?_, ?_, ?_, ?_, ?_, ?_, Y, hf.wk Y, hs⟩)))))))))))))
            ·have := hps.1; omega
            ·omega
            ·have := hps.1; omega
            ·omega
            ·rw [swp_len]; exact hlen
            ·exact hps.2.1
            ·exact hc.trans hps.2.2
theorem sort_partitionEqual {α : Type} [Inhabited α] {C : List α → Chunk} {lt : α → α → Bool} {d0 : List α} {dv : Value} {w0 : World} (S : Srx Tryz.prog C lt d0 dv w0) (ho : Ordr lt) (hmx : d0.length ≤ 2305843009213693951) (Hs : List Chunk) (w : World) (d : List α) (hp : List.Perm d d0) (a : Nat) (b : Nat) (pv : Nat) (hap : a ≤ pv) (hpb : pv < b) (hb : b ≤ d0.length) (hge : ∀ p, a ≤ p → p < b → lt (A d p) (A d pv) = false) (hst : St w0 (C d :: Hs) w) : Cy 215 [dv, (nv a), (nv b), (nv pv)] w (fun e_ w' => ∃ (s : Nat) (e : List α), (Chg d e a b ∧ PeqE lt e a b s) ∧ e_ = .returned (nv s) ∧ St w0 (C e :: Hs) w') := by
 have hdl : d.length = d0.length := hp.length_eq;refine enterS 54 Tryz.func215 Y Y Y hst (Sr (Pe Y (Dh (C d :: Hs) Y (Sr (P3 Y Y Y (li Y (iswap S hp (i := a) (j := pv) Y Y Y Y Y (by omega) (by omega) ?_)))))));refine Dx (Dh (C (swp d a pv) :: Hs) Y (Cq ?_));have hc0 : Chg d (swp d a pv) a b := Chg.swp (by omega) (by omega) (by omega);have hl0 : (swp d a pv).length = d0.length := by rw [swp_len]; exact hdl
 refine Cr (p1 Y (ad (a + 1) Y Y Y Y (by omega) (by omega) (p1 Y (q1 Y (D_sub Y Y Y (r := ((b - 1 : Nat) : Int)) (by omega) (by omega)) (P2 Y Y (Dx (Cq (Cb (Cl (fun m_ ac w' => ∃ (i1 : Nat), ∃ (j1 : Nat), ∃ (e : List α), (a < i1) ∧ (i1 ≤ j1 + 1) ∧ (j1 < b) ∧ (e.length = d0.length) ∧ (Peq lt e a b i1 j1) ∧ (Chg d e a b) ∧ (A e a = A d pv) ∧ m_ = j1 + 1 - i1 ∧ Fits ac 54 [(0, dv), (1, (nv a)), (9, (nv i1)), (10, (nv j1))] ∧ St w0 (C e :: Hs) w') ?_ ?_)))))))))
 ·refine fun ac w' hf hs => ⟨_, a + 1, b - 1, swp d a pv, ?_, ?_, ?_, ?_, ?_, ?_, ?_, Y, hf.wk Y, hs⟩
  ·omega
  ·omega
  ·omega
  ·exact hl0
  ·exact peq_start ho _ _ _
  ·exact hc0
  ·exact A_swp_l (by omega) (by omega)
 ·rintro m_ ac w' ⟨i1, j1, e, hi1_, hij, hj1_, hlen, hp3, hc, hav, rfl, hf, hs⟩;refine D.use ?_ hf hs;clear hf hs ac w';refine Cb (Cq (Cb (Cl (fun m_ ac w' => ∃ (i2 : Nat), (i1 ≤ i2) ∧ (i2 ≤ j1 + 1) ∧ (Peq lt e a b i2 j1) ∧ m_ = j1 + 1 - i2 ∧ Fits ac 54 [(0, dv), (1, (nv a)), (9, (nv i2)), (10, (nv j1))] ∧ St w0 (C e :: Hs) w') ?_ ?_)))
  ·refine fun ac w' hf hs => ⟨_, i1, ?_, ?_, ?_, Y, hf.wk Y, hs⟩
   ·omega
   ·assumption
   ·exact hp3
  ·rintro m_ ac w' ⟨i2, hi3, hi4, hp4, rfl, hf, hs⟩;refine D.use ?_ hf hs;clear hf hs ac w';refine Cq (Cq (C_join (fun ac w' => ∃ (jb : Bool), (jb = true → i2 ≤ j1 ∧ lt (A e a) (A e i2) = false) ∧ (jb = false → ¬ i2 ≤ j1 ∨ lt (A e a) (A e i2) = true) ∧ Fits ac 54 [(0, dv), (1, (nv a)), (9, (nv i2)), (10, (nv j1)), (28, (.bool jb))] ∧ St w0 (C e :: Hs) w') ?_ ?_))
   ·refine Cr (P3 Y Y Y (p1 Y (gxd 22 Y Y (fun pr1 => ?_) (fun pr1 => ?_))))
    ·refine P3 Y Y Y (li Y (iless S (hc.perm.trans hp) (i := a) (j := i2) Y Y Y Y Y (by omega) (by omega) ?_));refine P2 Y Y (Dx (fun ac w' hf hs => ⟨(!(lt (A e a) (A e i2))), (fun hj => ?_), (fun hj => ?_), hf.wk Y, hs⟩))
     ·have hjn := not_t hj ; exact ⟨by omega, by assumption⟩
     ·have hjn := not_f hj ; exact .inr (by assumption)
    ·refine n1 Y (n1 Y (n1 Y (n1 Y (n1 Y (Pe Y (fun ac w' hf hs => ⟨false, (fun hj => by cases hj), (fun hj => ?_), hf.wk Y, hs⟩))))))
     ·exact .inl (by omega)
   rintro ac w' ⟨jb2, hT3, hF4, hf, hs⟩;refine D.use ?_ hf hs;clear hf hs ac w';refine Xt (Dh (_ :: Hs) Y (Ci _ Y (fun h5 => ?_) (fun h5 => ?_)))
   ·have pr5 := hT3 h5;refine Sk (Cb (Cr (p1 Y (ad (i2 + 1) Y Y Y Y (by omega) (by omega) (p1 Y (De (Xb (Xt (fun ac w' hf hs => ⟨_, ?_, i2 + 1, ?_, ?_, ?_, Y, hf.wk Y, hs⟩)))))))))
    ·omega
    ·omega
    ·omega
    ·exact peq_i hp4 pr5.2
   ·have pr5 := hF4 h5;refine Cx (Xx (Xx ?_));have hF3 := pr5;refine Xe (Xt (Cq (Cb (Cl (fun m_ ac w' => ∃ (j2 : Nat), (i2 ≤ j2 + 1) ∧ (j2 ≤ j1) ∧ (Peq lt e a b i2 j2) ∧ m_ = j2 + 1 ∧ Fits ac 54 [(0, dv), (1, (nv a)), (9, (nv i2)), (10, (nv j2))] ∧ St w0 (C e :: Hs) w') ?_ ?_))))
    ·refine fun ac w' hf hs => ⟨_, j1, ?_, ?_, ?_, Y, hf.wk Y, hs⟩
     ·assumption
     ·omega
     ·exact hp4
    ·rintro m_ ac w' ⟨j2, hj3, hj4, hp5, rfl, hf, hs⟩;refine D.use ?_ hf hs;clear hf hs ac w';refine Cq (Cq (C_join (fun ac w' => ∃ (jb : Bool), (jb = true → i2 ≤ j2 ∧ lt (A e a) (A e j2) = true) ∧ (jb = false → ¬ i2 ≤ j2 ∨ lt (A e a) (A e j2) = false) ∧ Fits ac 54 [(0, dv), (1, (nv a)), (9, (nv i2)), (10, (nv j2)), (39, (.bool jb))] ∧ St w0 (C e :: Hs) w') ?_ ?_))
     ·refine Cr (P3 Y Y Y (p1 Y (gxd 34 Y Y (fun pr6 => ?_) (fun pr6 => ?_))))
      ·refine P3 Y Y Y (li Y (iless S (hc.perm.trans hp) (i := a) (j := j2) Y Y Y Y Y (by omega) (by omega) ?_));refine Pe Y (fun ac w' hf hs => ⟨(lt (A e a) (A e j2)), (fun hj => ?_), (fun hj => ?_), hf.wk Y, hs⟩)
       ·exact ⟨by omega, by assumption⟩
       ·exact .inr (by assumption)
      ·refine n1 Y (n1 Y (n1 Y (n1 Y (Pe Y (fun ac w' hf hs => ⟨false, (fun hj => by cases hj), (fun hj => ?_), hf.wk Y, hs⟩)))))
       ·exact .inl (by omega)
     rintro ac w' ⟨jb7, hT8, hF9, hf, hs⟩;refine D.use ?_ hf hs;clear hf hs ac w';refine Xt (Ci _ Y (fun h10 => ?_) (fun h10 => ?_))
     ·have pr10 := hT8 h10;refine Sk (Cb (Cr (p1 Y (q1 Y (D_sub Y Y Y (r := ((j2 - 1 : Nat) : Int)) (by omega) (by omega)) (p1 Y (De (Xb (Xt (fun ac w' hf hs => ⟨_, ?_, j2 - 1, ?_, ?_, ?_, Y, hf.wk Y, hs⟩)))))))))
      ·omega
      ·omega
      ·omega
      ·exact peq_j hp5 pr10.2 (by omega)
     ·have pr10 := hF9 h10;refine Cx (Xx (Xx ?_));have hF4 := pr10;refine Xe (Xt (Cq (Sr (P3 Y Y Y (Dx (Cd Y (fun pr11 => ?_) (fun pr11 => ?_)))))))
      ·refine Cx (Xx (Xn Y (Xx (Xe (Xt (Sr (P2 Y Y (Dx (Ct (R_1 Y Y fun w' hs => ⟨i2, e, ?_, Y, hs⟩))))))))));exact ⟨hc, peq_end hp5 (by omega) (by omega) (by omega) (by omega) hc hge hav⟩
      ·refine Sk (Sr (P3 Y Y Y ?_));have hli : lt (A e a) (A e i2) = true := by rcases hF3 with h | h; (· omega); (· exact h)
       have hlj : lt (A e a) (A e j2) = false := by rcases hF4 with h | h; (· omega); (· exact h)
       have hps := peq_swp hp5 hli hlj (by omega) (by omega) (by omega) (by omega);refine li Y (iswap S (hc.perm.trans hp) (i := i2) (j := j2) Y Y Y Y Y (by omega) (by omega) ?_);refine Dx (Dh (C (swp e i2 j2) :: Hs) Y (Sr (p1 Y (ad (i2 + 1) Y Y Y Y (by omega) (by omega) (Pe Y (Cr (p1 Y (q1 Y (D_sub Y Y Y (r := ((j2 - 1 : Nat) : Int)) (by omega) (by omega)) (p1 Y (De (Xb (Xt (fun ac w' hf hs => ⟨_, ?_, i2 + 1, j2 - 1, swp e i2 j2, ?_, ?_, ?_, ?_, ?_, ?_, ?_, Y, hf.wk Y, hs⟩)))))))))))))
       ·have := hps.1; omega
       ·omega
       ·have := hps.1; omega
       ·omega
       ·rw [swp_len]; exact hlen
       ·exact hps.2.1
       ·exact hc.trans hps.2.2
       ·rw [eq_at (by omega) (by omega) (by omega) (by omega)]; exact hav
set_option maxHeartbeats 4000000 in
theorem sort_partialInsertionSort {α : Type} [Inhabited α] {C : List α → Chunk} {lt : α → α → Bool} {d0 : List α} {dv : Value} {w0 : World} (S : Srx Tryz.prog C lt d0 dv w0) (ho : Ordr lt) (hmx : d0.length ≤ 2305843009213693951) (Hs : List Chunk) (w : World) (d : List α) (hp : List.Perm d d0) (a : Nat) (b : Nat) (hab : a + 2 ≤ b) (hb : b ≤ d0.length) (hlb : Lb lt d a b) (hst : St w0 (C d :: Hs) w) : Cy 214 [dv, (nv a), (nv b)] w (fun e_ w' => ∃ (s : Bool) (e : List α), (Chg d e a b ∧ (s = true → Srd lt e a b)) ∧ e_ = .returned (.bool s) ∧ St w0 (C e :: Hs) w') := by
 have hdl : d.length = d0.length := hp.length_eq;refine enterS 85 Tryz.func214 Y Y Y hst (Sr (Pe Y (Dh (C d :: Hs) Y (Sr (p1 Y (ad (a + 1) Y Y Y Y (by omega) (by omega) (Pe Y (Cq (Sr (Pe Y (Cb (Cl (fun m_ ac w' => ∃ (c : Nat), ∃ (i : Nat), ∃ (e : List α), (c ≤ 5) ∧ (a < i) ∧ (i ≤ b) ∧ (e.length = d0.length) ∧ (Chg d e a b) ∧ (Srd lt e a i) ∧ m_ = 5 - c ∧ Fits ac 85 [(0, dv), (1, (nv a)), (2, (nv b)), (7, (nv i)), (8, (nv c))] ∧ St w0 (C e :: Hs) w') ?_ ?_))))))))))))
 ·refine fun ac w' hf hs => ⟨_, 0, a + 1, d, ?_, ?_, ?_, ?_, ?_, ?_, Y, hf.wk Y, hs⟩
  ·omega
  ·omega
  ·omega
  ·assumption
  ·exact Chg.refl _ _ _
  ·exact srd_one _ _
 ·rintro m_ ac w' ⟨c, i, e, hcc, hi1, hi2, hlen, hc, hsr, rfl, hf, hs⟩;refine D.use ?_ hf hs;clear hf hs ac w';refine Cq (Sr (P2 Y Y (Dx (Dh (_ :: Hs) Y (Cd Y (fun pr1 => ?_) (fun pr1 => ?_))))))
  ·refine Sk (Cq (Cb (Cq (Cb (Cl (fun m_ ac w' => ∃ (i2 : Nat), (i ≤ i2) ∧ (i2 ≤ b) ∧ (Srd lt e a i2) ∧ m_ = b - i2 ∧ Fits ac 85 [(0, dv), (1, (nv a)), (2, (nv b)), (7, (nv i2)), (8, (nv c))] ∧ St w0 (C e :: Hs) w') ?_ ?_)))))
   ·refine fun ac w' hf hs => ⟨_, i, ?_, ?_, ?_, Y, hf.wk Y, hs⟩
    ·omega
    ·assumption
    ·exact hsr
   ·rintro m_ ac w' ⟨i2, hi3, hi4, hsr2, rfl, hf, hs⟩;refine D.use ?_ hf hs;clear hf hs ac w';refine Cq (Cq (C_join (fun ac w' => ∃ (jb : Bool), (jb = true → i2 < b ∧ lt (A e i2) (A e (i2 - 1)) = false) ∧ (jb = false → ¬ i2 < b ∨ lt (A e i2) (A e (i2 - 1)) = true) ∧ Fits ac 85 [(0, dv), (1, (nv a)), (2, (nv b)), (7, (nv i2)), (8, (nv c)), (27, (.bool jb))] ∧ St w0 (C e :: Hs) w') ?_ ?_))
    ·refine Cr (P3 Y Y Y (p1 Y (gxd 20 Y Y (fun pr2 => ?_) (fun pr2 => ?_))))
     ·refine P3 Y Y Y (q1 Y (D_sub Y Y Y (r := ((i2 - 1 : Nat) : Int)) (by omega) (by omega)) (li Y (iless S (hc.perm.trans hp) (i := i2) (j := i2 - 1) Y Y Y Y Y (by omega) (by omega) ?_)));refine P2 Y Y (Dx (fun ac w' hf hs => ⟨(!(lt (A e i2) (A e (i2 - 1)))), (fun hj => ?_), (fun hj => ?_), hf.wk Y, hs⟩))
      ·have hjn := not_t hj ; exact ⟨by omega, by assumption⟩
      ·have hjn := not_f hj ; exact .inr (by assumption)
     ·refine n1 Y (n1 Y (n1 Y (n1 Y (n1 Y (n1 Y (Pe Y (fun ac w' hf hs => ⟨false, (fun hj => by cases hj), (fun hj => ?_), hf.wk Y, hs⟩)))))))
      ·exact .inl (by omega)
    rintro ac w' ⟨jb3, hT4, hF5, hf, hs⟩;refine D.use ?_ hf hs;clear hf hs ac w';refine Xt (Ci _ Y (fun h6 => ?_) (fun h6 => ?_))
    ·have pr6 := hT4 h6;refine Sk (Cb (Cr (p1 Y (ad (i2 + 1) Y Y Y Y (by omega) (by omega) (p1 Y (De (Xb (Xt (fun ac w' hf hs => ⟨_, ?_, i2 + 1, ?_, ?_, ?_, Y, hf.wk Y, hs⟩)))))))))
     ·omega
     ·omega
     ·omega
     ·exact srd_ext ho hsr2 (by omega) pr6.2
    ·have pr6 := hF5 h6;refine Cx (Xx (Xx (Xe (Xt (Cq (Sr (P3 Y Y Y (Dx (Ce Y (fun pr7 => ?_) (fun pr7 => ?_))))))))))
     ·refine Sr (Pe Y (Ct (Xr (Xq (Xr (Xr (Xq (Xr (R_1 Y Y fun w' hs => ⟨true, e, ?_, Y, hs⟩)))))))));refine ⟨hc, fun _ => ?_⟩; have hib : i2 = b := (by omega); rw [← hib]; exact hsr2
     ·refine Sk (Cq (Sr (P2 Y Y (q1 Y (D_sub Y Y Y (r := ((b - a : Nat) : Int)) (by omega) (by omega)) (Pe Y (Cd Y (fun pr8 => ?_) (fun pr8 => ?_)))))))
      ·refine Sr (Pe Y (Ct (Xr (Xq (Xr (Xr (Xq (Xr (R_1 Y Y fun w' hs => ⟨false, e, ?_, Y, hs⟩)))))))));exact ⟨hc, fun h => by cases h⟩
      ·refine Sk (Sr (P3 Y Y Y (q1 Y (D_sub Y Y Y (r := ((i2 - 1 : Nat) : Int)) (by omega) (by omega)) (li Y (iswap S (hc.perm.trans hp) (i := i2) (j := i2 - 1) Y Y Y Y Y (by omega) (by omega) ?_)))));refine Dx (Dh (C (swp e i2 (i2 - 1)) :: Hs) Y (Cq (Cq ?_)));have hcs : Chg d (swp e i2 (i2 - 1)) a b := hc.trans (Chg.swp (by omega) (by omega) (by omega));have hin0 := pins_start (b := b) hsr2 (by omega) (by omega) (by omega);have hls : (swp e i2 (i2 - 1)).length = d0.length := by rw [swp_len]; exact hlen
       refine Cr (P2 Y Y (q1 Y (D_sub Y Y Y (r := ((i2 - a : Nat) : Int)) (by omega) (by omega)) (Pe Y (D_wk [0, 1, 2, 7, 8, 45] Y (C_join (fun ac w' => ∃ (e4 : List α), (e4.length = d0.length) ∧ (Chg d e4 a b) ∧ (Srd lt e4 a i2) ∧ Fits ac 85 [(0, dv), (1, (nv a)), (2, (nv b)), (7, (nv i2)), (8, (nv c))] ∧ St w0 (C e4 :: Hs) w') ?_ ?_)))))
       ·refine Cd Y (fun pr9 => ?_) (fun pr9 => ?_)
        ·refine Sr (p1 Y (q1 Y (D_sub Y Y Y (r := ((i2 - 1 : Nat) : Int)) (by omega) (by omega)) (Pe Y (Cb (Cl (fun m_ ac w' => ∃ (j : Nat), ∃ (e3 : List α), (a ≤ j) ∧ (j ≤ i2 - 1) ∧ (e3.length = d0.length) ∧ (Chg d e3 a b) ∧ (InsI lt e3 a (i2 - 1) j) ∧ m_ = j + 1 ∧ Fits ac 85 [(0, dv), (1, (nv a)), (2, (nv b)), (7, (nv i2)), (8, (nv c)), (9, (nv j))] ∧ St w0 (C e3 :: Hs) w') ?_ ?_)))))
         ·refine fun ac w' hf hs => ⟨_, i2 - 1, swp e i2 (i2 - 1), ?_, ?_, ?_, ?_, ?_, Y, hf.wk Y, hs⟩
          ·omega
          ·omega
          ·exact hls
          ·exact hcs
          ·exact hin0
         ·rintro m_ ac w' ⟨j, e3, hj1, hj2, hlen3, hc3, hin3, rfl, hf, hs⟩;refine D.use ?_ hf hs;clear hf hs ac w';refine Cq (Sr (P2 Y Y (Dx (Dh (_ :: Hs) Y (Cd Y (fun pr10 => ?_) (fun pr10 => ?_))))))
          ·refine Sk (Cq (Cb (Cq (Sr (P3 Y Y Y (q1 Y (D_sub Y Y Y (r := ((j - 1 : Nat) : Int)) (by omega) (by omega)) (li Y (iless S (hc3.perm.trans hp) (i := j) (j := j - 1) Y Y Y Y Y (by omega) (by omega) ?_))))))));refine Pe Y (CN Y (fun h11n => ?_) (fun h11n => ?_))
           ·refine Cx (Xx (Xn Y (Xx (Xx (Xe (Xt (fun ac w' hf hs => ⟨e3, ?_, ?_, ?_, hf.wk Y, hs⟩)))))))
            ·exact hlen3
            ·exact hc3
            ·exact pins_end ho hin3 (by omega) (by omega) (by omega) (.inr (by assumption))
           ·refine Sk (Cr (P3 Y Y Y (q1 Y (D_sub Y Y Y (r := ((j - 1 : Nat) : Int)) (by omega) (by omega)) (li Y (iswap S (hc3.perm.trans hp) (i := j) (j := j - 1) Y Y Y Y Y (by omega) (by omega) ?_)))));refine De (Xb (Xt (Dh (C (swp e3 j (j - 1)) :: Hs) Y (Cr (p1 Y (q1 Y (D_sub Y Y Y (r := ((j - 1 : Nat) : Int)) (by omega) (by omega)) (Pe Y (fun ac w' hf hs => ⟨_, ?_, j - 1, swp e3 j (j - 1), ?_, ?_, ?_, ?_, ?_, Y, hf.wk Y, hs⟩))))))))
            ·omega
            ·have := lb_ne (lb_chg hlb hc3) hj1 (by omega) (by omega) (by assumption); omega
            ·omega
            ·rw [swp_len]; exact hlen3
            ·have := lb_ne (lb_chg hlb hc3) hj1 (by omega) (by omega) (by assumption); exact hc3.trans (Chg.swp (by omega) (by omega) (by omega))
            ·have := lb_ne (lb_chg hlb hc3) hj1 (by omega) (by omega) (by assumption); exact ins_step ho hin3 (by omega) (by omega) (by omega) (by assumption)
          ·refine Cx (Xx (Xx (Xe (Xt (fun ac w' hf hs => ⟨e3, ?_, ?_, ?_, hf.wk Y, hs⟩)))))
           ·exact hlen3
           ·exact hc3
           ·exact pins_end ho hin3 (by omega) (by omega) (by omega) (.inl (by omega))
        ·refine Sk (fun ac w' hf hs => ⟨swp e i2 (i2 - 1), ?_, ?_, ?_, hf.wk Y, hs⟩)
         ·exact hls
         ·exact hcs
         ·rw [show i2 = a + 1 from by omega]; exact srd_one _ _
       rintro ac w' ⟨e4, hlen4, hc4, hs4, hf, hs⟩;refine D.use ?_ hf hs;clear hf hs ac w';refine Xt (Dh (_ :: Hs) Y (Sr (P2 Y Y (q1 Y (D_sub Y Y Y (r := ((b - i2 : Nat) : Int)) (by omega) (by omega)) (Pe Y (Cd Y (fun pr12 => ?_) (fun pr12 => ?_)))))))
       ·refine Sr (p1 Y (ad (i2 + 1) Y Y Y Y (by omega) (by omega) (Pe Y (Cb (Cl (fun m_ ac w' => ∃ (j : Nat), ∃ (e5 : List α), (i2 + 1 ≤ j) ∧ (e5.length = d0.length) ∧ (Chg d e5 a b) ∧ (Srd lt e5 a i2) ∧ m_ = b - j ∧ Fits ac 85 [(0, dv), (1, (nv a)), (2, (nv b)), (7, (nv i2)), (8, (nv c)), (10, (nv j))] ∧ St w0 (C e5 :: Hs) w') ?_ ?_)))))
        ·refine fun ac w' hf hs => ⟨_, i2 + 1, e4, ?_, ?_, ?_, ?_, Y, hf.wk Y, hs⟩
         ·omega
         ·exact hlen4
         ·exact hc4
         ·exact hs4
        ·rintro m_ ac w' ⟨j, e5, hj1, hlen5, hc5, hs5, rfl, hf, hs⟩;refine D.use ?_ hf hs;clear hf hs ac w';refine Cq (Sr (P3 Y Y Y (Dx (Dh (_ :: Hs) Y (Cd Y (fun pr13 => ?_) (fun pr13 => ?_))))))
         ·refine Sk (Cq (Cb (Cq (Sr (P3 Y Y Y (q1 Y (D_sub Y Y Y (r := ((j - 1 : Nat) : Int)) (by omega) (by omega)) (li Y (iless S (hc5.perm.trans hp) (i := j) (j := j - 1) Y Y Y Y Y (by omega) (by omega) ?_))))))));refine Pe Y (CN Y (fun h14n => ?_) (fun h14n => ?_))
          ·refine Cx (Xx (Xn Y (Xx (Xx (Xe (Xb (Xt (Cr (p1 Y (ad (c + 1) Y Y Y Y (by omega) (by omega) (Pe Y (fun ac w' hf hs => ⟨_, ?_, c + 1, i2, e5, ?_, ?_, ?_, ?_, ?_, ?_, Y, hf.wk Y, hs⟩))))))))))))
           ·omega
           ·omega
           ·omega
           ·assumption
           ·exact hlen5
           ·exact hc5
           ·exact hs5
          ·refine Sk (Cr (P3 Y Y Y (q1 Y (D_sub Y Y Y (r := ((j - 1 : Nat) : Int)) (by omega) (by omega)) (li Y (iswap S (hc5.perm.trans hp) (i := j) (j := j - 1) Y Y Y Y Y (by omega) (by omega) ?_)))));refine De (Xb (Xt (Dh (C (swp e5 j (j - 1)) :: Hs) Y (Cr (p1 Y (ad (j + 1) Y Y Y Y (by omega) (by omega) (Pe Y (fun ac w' hf hs => ⟨_, ?_, j + 1, swp e5 j (j - 1), ?_, ?_, ?_, ?_, Y, hf.wk Y, hs⟩))))))))
           ·omega
           ·omega
           ·rw [swp_len]; exact hlen5
           ·exact hc5.trans (Chg.swp (by omega) (by omega) (by omega))
           ·exact srd_out hs5 (Chg.swp (a := i2) (b := b) (by omega) (by omega) (by omega)) (.inl (Nat.le_refl _))
         ·refine Cx (Xx (Xx (Xe (Xb (Xt (Cr (p1 Y (ad (c + 1) Y Y Y Y (by omega) (by omega) (Pe Y (fun ac w' hf hs => ⟨_, ?_, c + 1, i2, e5, ?_, ?_, ?_, ?_, ?_, ?_, Y, hf.wk Y, hs⟩))))))))))
          ·omega
          ·omega
          ·omega
          ·assumption
          ·exact hlen5
          ·exact hc5
          ·exact hs5
       ·refine Ck (Xb (Xt (Cr (p1 Y (ad (c + 1) Y Y Y Y (by omega) (by omega) (Pe Y (fun ac w' hf hs => ⟨_, ?_, c + 1, i2, e4, ?_, ?_, ?_, ?_, ?_, ?_, Y, hf.wk Y, hs⟩)))))))
        ·omega
        ·omega
        ·omega
        ·assumption
        ·exact hlen4
        ·exact hc4
        ·exact hs4
  ·refine Cx (Xx (Xx (Xe (Xt (Sr (Pe Y (Ct (R_1 Y Y fun w' hs => ⟨false, e, ?_, Y, hs⟩))))))));exact ⟨hc, fun h => by cases h⟩
set_option maxHeartbeats 4000000 in
theorem sort_pdqsort {α : Type} [Inhabited α] {C : List α → Chunk} {lt : α → α → Bool} {d0 : List α} {dv : Value} {w0 : World} (S : Srx Tryz.prog C lt d0 dv w0) (ho : Ordr lt) (hmx : d0.length ≤ 2305843009213693951) (f : Nat) : ∀ (Hs : List Chunk) (w : World) (d : List α) (hp : List.Perm d d0) (a : Nat) (b : Nat) (limit : Nat) (hab : a ≤ b) (hb : b ≤ d0.length) (hlim : limit ≤ 64) (hlb : Lb lt d a b) (hfu : b - a ≤ f) (hst : St w0 (C d :: Hs) w), Cy 154 [dv, (nv a), (nv b), (nv limit)] w (fun e_ w' => ∃ (s : Unit) (e : List α), (Chg d e a b ∧ Srd lt e a b) ∧ e_ = .returned (.tuple #[]) ∧ St w0 (C e :: Hs) w') := by
 induction f using Nat.strongRecOn with
 | _ f ih =>
 intro Hs w d hp a b limit hab hb hlim hlb hfu hst;have hdl : d.length = d0.length := hp.length_eq;refine enterS 129 Tryz.func154 Y Y Y hst (Sr (Pe Y (Dh (C d :: Hs) Y (Sr (Pe Y (Cb (Cl (fun m_ ac w' => ∃ (a1 : Nat), ∃ (b1 : Nat), ∃ (l1 : Nat), ∃ (wb : Bool), ∃ (wp : Bool), ∃ (e : List α), (l1 ≤ 64) ∧ (a ≤ a1) ∧ (a1 ≤ b1) ∧ (b1 ≤ b) ∧ (Chg d e a b) ∧ (Dn lt e a a1 b1 b) ∧ (Lb lt e a1 b1) ∧ m_ = b1 - a1 ∧ Fits ac 129 [(0, dv), (1, (nv a1)), (2, (nv b1)), (3, (nv l1)), (8, (.bool wb)), (9, (.bool wp))] ∧ St w0 (C e :: Hs) w') ?_ ?_)))))))
 ·refine fun ac w' hf hs => ⟨_, a, b, limit, true, true, d, ?_, ?_, ?_, ?_, ?_, ?_, ?_, Y, hf.wk Y, hs⟩
  ·assumption
  ·omega
  ·assumption
  ·omega
  ·exact Chg.refl _ _ _
  ·exact dn_zero _ _ _
  ·exact hlb
 ·rintro m_ ac w' ⟨a1, b1, l1, wb, wp, e, hl1, ha1, hab1, hb1, hc, hdn, hlb1, rfl, hf, hs⟩;refine D.use ?_ hf hs;clear hf hs ac w';refine Cb (Sr (P2 Y Y (q1 Y (D_sub Y Y Y (r := ((b1 - a1 : Nat) : Int)) (by omega) (by omega)) (Pe Y (Dh (_ :: Hs) Y (Cq (Sr (P2 Y Y (Dx (Cd Y (fun pr1 => ?_) (fun pr1 => ?_)))))))))))
  ·refine Sr (P3 Y Y Y (li Y (cix b_209 Y Y Y Y (fun w' hs => sort_insertionSort S ho hmx _ w' e (hc.perm.trans hp) a1 b1 (by assumption) (by omega) hs) ?_)));rintro ⟨⟩ e2 hei
   try dsimp only at hei
   refine Dx (Ct (Xr (Xq (Xr (Xq (R_0 Y fun w' hs => ⟨(), e2, ?_, Y, hs⟩))))))
   first | exact ⟨hc.trans (hei.1.mono (by omega) (by omega)), dn_fin hdn hei.1 hei.2 (by omega) (by omega)⟩ | exact ⟨hc.trans ((hc3.trans (hc4.trans he7.1)).mono (by omega) (by omega)), dn_fin hdn (hc3.trans (hc4.trans he7.1)) (he7.2 (decide_eq_true pr1)) (by omega) (by omega)⟩
  ·refine Sk (Cq (Sr (P2 Y Y (Dx (Ce Y (fun pr2 => ?_) (fun pr2 => ?_))))))
   ·refine Sr (P3 Y Y Y (li Y (cix b_210 Y Y Y Y (fun w' hs => sort_heapSort S ho hmx _ w' e (hc.perm.trans hp) a1 b1 (by omega) (by omega) hs) ?_)));rintro ⟨⟩ e2 hei
    try dsimp only at hei
    refine Dx (Ct (Xr (Xq (Xr (Xq (R_0 Y fun w' hs => ⟨(), e2, ?_, Y, hs⟩))))))
    first | exact ⟨hc.trans (hei.1.mono (by omega) (by omega)), dn_fin hdn hei.1 hei.2 (by omega) (by omega)⟩ | exact ⟨hc.trans ((hc3.trans (hc4.trans he7.1)).mono (by omega) (by omega)), dn_fin hdn (hc3.trans (hc4.trans he7.1)) (he7.2 (beq_iff_eq.2 pr2)) (by omega) (by omega)⟩
   ·refine Sk (Cq (Sr (P2 Y Y (Dx (C_join (fun ac w' => ∃ (l2 : Nat), ∃ (e3 : List α), (l2 ≤ 64) ∧ (Chg e e3 a1 b1) ∧ Fits ac 129 [(0, dv), (1, (nv a1)), (2, (nv b1)), (3, (nv l2)), (8, (.bool wb)), (9, (.bool wp)), (10, (nv (b1 - a1)))] ∧ St w0 (C e3 :: Hs) w') ?_ ?_)))))
    ·refine CN Y (fun h3n => ?_) (fun h3n => ?_)
     ·refine Sr (P3 Y Y Y (li Y (cix b_211 Y Y Y Y (fun w' hs => sort_breakPatterns S ho hmx _ w' e (hc.perm.trans hp) a1 b1 (by omega) (by omega) hs) ?_)));rintro ⟨⟩ e2 he2
      try dsimp only at he2
      refine Dx (Dh (C e2 :: Hs) Y (Cr (p1 Y (q1 Y (D_sub Y Y Y (r := ((l1 - 1 : Nat) : Int)) (by omega) (by omega)) (Pe Y (fun ac w' hf hs => ⟨l1 - 1, e2, ?_, ?_, hf.wk Y, hs⟩))))))
      ·omega
      ·exact he2
     ·refine Sk (fun ac w' hf hs => ⟨l1, e, ?_, ?_, hf.wk Y, hs⟩)
      ·assumption
      ·exact Chg.refl _ _ _
    rintro ac w' ⟨l2, e3, hl2, hc3, hf, hs⟩;refine D.use ?_ hf hs;clear hf hs ac w';refine Xt (Dh (_ :: Hs) Y (Sr (P3 Y Y Y (li Y (cir b_212 Y Y Y Y (fun w' hs => sort_choosePivot S ho hmx _ w' e3 (hc3.perm.trans (hc.perm.trans hp)) a1 b1 (by omega) (by omega) hs) ?_)))));rintro ⟨px, hn⟩ hcp
    try dsimp only at hcp
    refine D_re 46 (v' := (.tuple #[(nv px), (iv hn)])) Y Y Y (P3 Y Y Y (P2 Y Y (Dx (Cq (Sr (P2 Y Y (Dx (C_join (fun ac w' => ∃ (pv : Nat), ∃ (hn2 : Int), ∃ (e4 : List α), (a1 ≤ pv) ∧ (pv < b1) ∧ (Chg e3 e4 a1 b1) ∧ Fits ac 129 [(0, dv), (1, (nv a1)), (2, (nv b1)), (3, (nv l2)), (8, (.bool wb)), (9, (.bool wp)), (10, (nv (b1 - a1))), (11, (nv pv)), (12, (iv hn2))] ∧ St w0 (C e4 :: Hs) w') ?_ ?_))))))))
    ·refine Ce Y (fun pr4 => ?_) (fun pr4 => ?_)
     ·refine Sr (P3 Y Y Y (li Y (cix b_213 Y Y Y Y (fun w' hs => sort_reverseRange S ho hmx _ w' e3 (hc3.perm.trans (hc.perm.trans hp)) a1 b1 (by omega) (by omega) hs) ?_)));rintro ⟨⟩ e6 he6
      try dsimp only at he6
      refine Dx (Dh (C e6 :: Hs) Y (Sr (p1 Y (q1 Y (D_sub Y Y Y (r := ((b1 - 1 : Nat) : Int)) (by omega) (by omega)) (P2 Y Y (q1 Y (D_sub Y Y Y (r := ((px - a1 : Nat) : Int)) (by omega) (by omega)) (q1 Y (D_sub Y Y Y (r := ((b1 - 1 - (px - a1) : Nat) : Int)) (by omega) (by omega)) (Pe Y (Cr (Pe Y (fun ac w' hf hs => ⟨b1 - 1 - (px - a1), 1, e6, ?_, ?_, ?_, hf.wk Y, hs⟩)))))))))))
      ·omega
      ·omega
      ·exact he6
     ·refine Sk (fun ac w' hf hs => ⟨px, hn, e3, ?_, ?_, ?_, hf.wk Y, hs⟩)
      ·omega
      ·omega
      ·exact Chg.refl _ _ _
    rintro ac w' ⟨pv, hn2, e4, hpv1, hpv2, hc4, hf, hs⟩;refine D.use ?_ hf hs;clear hf hs ac w';refine Xt (Dh (_ :: Hs) Y (Cq (Cq (C_join (fun ac w' => ∃ (jb : Bool), (jb = true → True) ∧ (jb = false → True) ∧ Fits ac 129 [(0, dv), (1, (nv a1)), (2, (nv b1)), (3, (nv l2)), (8, (.bool wb)), (9, (.bool wp)), (10, (nv (b1 - a1))), (11, (nv pv)), (68, (.bool jb))] ∧ St w0 (C e4 :: Hs) w') ?_ ?_))))
    ·refine Cr (P2 Y Y (gs 62 Y Y (fun h5 => ?_) (fun h5 => ?_)))
     ·refine P3 Y Y Y (gs 65 Y Y (fun h6 => ?_) (fun h6 => ?_))
      ·refine P3 Y Y Y (Dx (fun ac w' hf hs => ⟨((hn2 : Int) == 1), (fun hj => ?_), (fun hj => ?_), hf.wk Y, hs⟩))
       ·have prj := eq_of_beq hj ; trivial
       ·have prj := ne_of_beq_false hj ; trivial
      ·refine n1 Y (n1 Y (Pe Y (fun ac w' hf hs => ⟨false, (fun hj => by cases hj), (fun hj => ?_), hf.wk Y, hs⟩)))
       ·trivial
     ·refine n1 Y (P2 Y Y (n1 Y (n1 Y (Pe Y (fun ac w' hf hs => ⟨false, (fun hj => by cases hj), (fun hj => ?_), hf.wk Y, hs⟩)))))
      ·trivial
    rintro ac w' ⟨jb7, hT8, hF9, hf, hs⟩;refine D.use ?_ hf hs;clear hf hs ac w';refine Xt (C_join (fun ac w' => ∃ (e5 : List α), (Chg e4 e5 a1 b1) ∧ Fits ac 129 [(0, dv), (1, (nv a1)), (2, (nv b1)), (3, (nv l2)), (8, (.bool wb)), (9, (.bool wp)), (10, (nv (b1 - a1))), (11, (nv pv))] ∧ St w0 (C e5 :: Hs) w') ?_ ?_)
    ·refine Ci _ Y (fun h10 => ?_) (fun h10 => ?_)
     ·have pr10 := hT8 h10;refine Sr (P3 Y Y Y (li Y (cix b_214 Y Y Y Y (fun w' hs => sort_partialInsertionSort S ho hmx _ w' e4 (hc4.perm.trans (hc3.perm.trans (hc.perm.trans hp))) a1 b1 (by omega) (by omega) (lb_chg hlb1 (hc3.trans hc4)) hs) ?_)));rintro qp e7 he7
      try dsimp only at he7
      refine D_re 72 (v' := (.bool qp)) Y Y Y (Dx (Dh (C e7 :: Hs) Y (Ci _ Y (fun h11 => ?_) (fun h11 => ?_))))
      ·refine Ct (Xr (Xr (Xq (Xr (Xq (R_0 Y fun w' hs => ⟨(), e7, ?_, Y, hs⟩))))));exact ⟨hc.trans ((hc3.trans (hc4.trans he7.1)).mono (by omega) (by omega)), dn_fin hdn (hc3.trans (hc4.trans he7.1)) (he7.2 h11) (by omega) (by omega)⟩
      ·refine Sk (fun ac w' hf hs => ⟨e7, ?_, hf.wk Y, hs⟩)
       ·exact he7.1
     ·have pr10 := hF9 h10;refine Sk (fun ac w' hf hs => ⟨e4, ?_, hf.wk Y, hs⟩)
      ·exact Chg.refl _ _ _
    rintro ac w' ⟨e5, hc5, hf, hs⟩;refine D.use ?_ hf hs;clear hf hs ac w';refine Xt (Dh (_ :: Hs) Y (Cq (Cq (C_join (fun ac w' => ∃ (jb : Bool), (jb = true → 0 < a1 ∧ lt (A e5 (a1 - 1)) (A e5 pv) = false) ∧ (jb = false → True) ∧ Fits ac 129 [(0, dv), (1, (nv a1)), (2, (nv b1)), (3, (nv l2)), (8, (.bool wb)), (9, (.bool wp)), (10, (nv (b1 - a1))), (11, (nv pv)), (82, (.bool jb))] ∧ St w0 (C e5 :: Hs) w') ?_ ?_))))
    ·refine Cr (P3 Y Y Y (gxd 75 Y Y (fun pr12 => ?_) (fun pr12 => ?_)))
     ·refine P2 Y Y (q1 Y (D_sub Y Y Y (r := ((a1 - 1 : Nat) : Int)) (by omega) (by omega)) (p1 Y (li Y (iless S (hc5.perm.trans (hc4.perm.trans (hc3.perm.trans (hc.perm.trans hp)))) (i := a1 - 1) (j := pv) Y Y Y Y Y (by omega) (by omega) ?_))));refine P2 Y Y (Dx (fun ac w' hf hs => ⟨(!(lt (A e5 (a1 - 1)) (A e5 pv))), (fun hj => ?_), (fun hj => ?_), hf.wk Y, hs⟩))
      ·have hjn := not_t hj ; exact ⟨by omega, hjn⟩
      ·have hjn := not_f hj ; trivial
     ·refine n1 Y (n1 Y (n1 Y (n1 Y (n1 Y (n1 Y (Pe Y (fun ac w' hf hs => ⟨false, (fun hj => by cases hj), (fun hj => ?_), hf.wk Y, hs⟩)))))))
      ·trivial
    rintro ac w' ⟨jb13, hT14, hF15, hf, hs⟩;refine D.use ?_ hf hs;clear hf hs ac w';refine Xt (Ci _ Y (fun h16 => ?_) (fun h16 => ?_))
    ·have pr16 := hT14 h16;refine Sr (P3 Y Y Y (p1 Y (li Y (cix b_215 Y Y Y Y (fun w' hs => sort_partitionEqual S ho hmx _ w' e5 (hc5.perm.trans (hc4.perm.trans (hc3.perm.trans (hc.perm.trans hp)))) a1 b1 pv (by assumption) (by assumption) (by omega) (peq_pre ho (lb_chg hlb1 (hc3.trans (hc4.trans hc5))) (by omega) pr16.2) hs) ?_))));rintro m e8 he8
     try dsimp only at he8
     refine D_re 87 (v' := (nv m)) Y Y Y ?_;have hm1 := he8.2.1;have hm2 := he8.2.2.1;refine Pe Y (Dh (C e8 :: Hs) Y (Sr (P2 Y Y (Dx (Cx (Xx (Xe (Xt (fun ac w' hf hs => ⟨_, ?_, m, b1, l2, wb, wp, e8, ?_, ?_, ?_, ?_, ?_, ?_, ?_, Y, hf.wk Y, hs⟩)))))))))
     ·omega
     ·assumption
     ·omega
     ·assumption
     ·assumption
     ·exact hc.trans (((hc3.trans (hc4.trans hc5)).trans he8.1).mono (by omega) (by omega))
     ·exact (dn_eq ho (dn_chg hdn ((hc3.trans (hc4.trans hc5)).trans he8.1) (by omega) (by omega)) he8.2).1
     ·exact (dn_eq ho (dn_chg hdn ((hc3.trans (hc4.trans hc5)).trans he8.1) (by omega) (by omega)) he8.2).2
    ·have pr16 := hF15 h16;refine Sk (Sr (P3 Y Y Y (p1 Y (li Y (cix b_216 Y Y Y Y (fun w' hs => sort_partition S ho hmx _ w' e5 (hc5.perm.trans (hc4.perm.trans (hc3.perm.trans (hc.perm.trans hp)))) a1 b1 pv (by assumption) (by assumption) (by omega) hs) ?_)))));rintro ⟨m, qq⟩ e8 he8
     try dsimp only at he8
     refine D_re 94 (v' := (.tuple #[(nv m), (.bool qq)])) Y Y Y ?_;have hm1 := he8.1;have hm2 := he8.2.1;have hcy := (hc3.trans (hc4.trans hc5)).trans he8.2.2.1;refine P3 Y Y Y (P2 Y Y (Dx (Dh (C e8 :: Hs) Y (Sr (P2 Y Y (Dx (Sr (P2 Y Y (q1 Y (D_sub Y Y Y (r := ((m - a1 : Nat) : Int)) (by omega) (by omega)) (P2 Y Y (q1 Y (D_sub Y Y Y (r := ((b1 - m : Nat) : Int)) (by omega) (by omega)) (P2 Y Y (Dx (D_wk [0, 1, 2, 3, 9, 10, 14, 16, 17] Y (Sr (p1 Y (q1 Y (D_quoN (m := (b1 - a1)) (n := 8) Y Y Y (by omega) (by omega)) (p1 Y ?_))))))))))))))))));refine Dx (Sr (P3 Y Y Y (Dx (Cd Y (fun pr17 => ?_) (fun pr17 => ?_)))))
     ·refine Sr (P3 Y Y Y (Pe Y (Sr (P3 Y Y Y (p1 Y (li Y (cix b_154 Y Y Y Y (fun w' hs => ih (m - a1) (by omega) _ w' e8 (he8.2.2.1.perm.trans (hc5.perm.trans (hc4.perm.trans (hc3.perm.trans (hc.perm.trans hp))))) a1 m l2 (by assumption) (by omega) (by assumption) (lb_sub (lb_chg hlb1 hcy) (by omega)) (Nat.le_refl _) hs) ?_)))))));rintro ⟨⟩ e9 he9
      try dsimp only at he9
      refine Dx (D_wk [0, 2, 3, 8, 9, 14] Y (Dh (C e9 :: Hs) Y (Cr (p1 Y (ad (m + 1) Y Y Y Y (by omega) (by omega) (p1 Y (De (Xb (Xt (fun ac w' hf hs => ⟨_, ?_, m + 1, b1, l2, (decide (((((b1 - a1) / 8 : Nat) : Int) : Int) ≤ ((m - a1 : Nat) : Int))), qq, e9, ?_, ?_, ?_, ?_, ?_, ?_, ?_, Y, hf.wk Y, hs⟩))))))))))
      ·omega
      ·assumption
      ·omega
      ·assumption
      ·assumption
      ·exact hc.trans ((hcy.trans (he9.1.mono (Nat.le_refl _) (by omega))).mono (by omega) (by omega))
      ·exact dn_left ho (dn_chg hdn (hcy.trans (he9.1.mono (Nat.le_refl _) (by omega))) (by omega) (by omega)) (ptd_left he8.2.2.2 he9.1 (by omega)) he9.2 (by omega) (by omega) (by omega) (by omega)
      ·exact ptd_lb (ptd_left he8.2.2.2 he9.1 (by omega))
     ·refine Sr (P3 Y Y Y (Pe Y (Sr (P2 Y Y (ad (m + 1) Y Y Y Y (by omega) (by omega) (P2 Y Y (li Y (cix b_154 Y Y Y Y (fun w' hs => ih (b1 - (m + 1)) (by omega) _ w' e8 (he8.2.2.1.perm.trans (hc5.perm.trans (hc4.perm.trans (hc3.perm.trans (hc.perm.trans hp))))) (m + 1) b1 l2 (by assumption) (by omega) (by assumption) (ptd_lb he8.2.2.2) (Nat.le_refl _) hs) ?_))))))));rintro ⟨⟩ e9 he9
      try dsimp only at he9
      refine Dx (Cr (P2 Y Y (De (Xb (Xt (fun ac w' hf hs => ⟨_, ?_, a1, m, l2, (decide (((((b1 - a1) / 8 : Nat) : Int) : Int) ≤ ((b1 - m : Nat) : Int))), qq, e9, ?_, ?_, ?_, ?_, ?_, ?_, ?_, Y, hf.wk Y, hs⟩))))))
      ·omega
      ·assumption
      ·assumption
      ·assumption
      ·omega
      ·exact hc.trans ((hcy.trans (he9.1.mono (by omega) (Nat.le_refl _))).mono (by omega) (by omega))
      ·exact dn_right ho (dn_chg hdn (hcy.trans (he9.1.mono (by omega) (Nat.le_refl _))) (by omega) (by omega)) (ptd_right he8.2.2.2 he9.1) he9.2 (by omega) (by omega) (by omega) (by omega)
      ·exact lb_sub (lb_chg hlb1 (hcy.trans (he9.1.mono (by omega) (Nat.le_refl _)))) (by omega)
theorem sort_Sort {α : Type} [Inhabited α] {C : List α → Chunk} {lt : α → α → Bool} {d0 : List α} {dv : Value} {w0 : World} (S : Srx Tryz.prog C lt d0 dv w0) (ho : Ordr lt) (hmx : d0.length ≤ 2305843009213693951) (Hs : List Chunk) (w : World) (d : List α) (hp : List.Perm d d0) (hst : St w0 (C d :: Hs) w) : Cy 100 [dv] w (fun e_ w' => ∃ (s : Unit) (e : List α), (Chg d e 0 d0.length ∧ Srd lt e 0 d0.length) ∧ e_ = .returned (.tuple #[]) ∧ St w0 (C e :: Hs) w') := by
 have hdl : d.length = d0.length := hp.length_eq;refine enterS 15 Tryz.func100 Y Y Y hst (Sr (p1 Y (li Y (ilen S hp Y Y Y Y ?_))));refine Pe Y (Dh (C d :: Hs) Y (Cq (Sr (P2 Y Y (Dx (Cd Y (fun pr1 => ?_) (fun pr1 => ?_)))))))
 ·refine Ct (Xr (R_0 Y fun w' hs => ⟨(), d, ?_, Y, hs⟩));exact ⟨Chg.refl _ _ _, srd_small (by omega)⟩
 ·refine Sk (Sr (p1 Y (q1 Y (D_cvU (n := d0.length) uu_208 ⟨_, ui_3⟩ Y Y (by omega)) (li Y (cv b_153 Y Y Y Y (fun w' hs => (bits_Len_c w' ((d0.length : Nat) : Int) (by omega))) ?_)))));refine Pe Y (Cr (P3 Y Y Y ?_));have hbl := Lib.bitLen_le ((d0.length : Nat) : Int).toNat 62 (by omega) (by omega);refine li Y (cix b_154 Y Y Y Y (fun w' hs => sort_pdqsort S ho hmx (d0.length - 0) _ w' d hp 0 d0.length (Lib.bitLen (((d0.length : Nat) : Int)).toNat) (by omega) (by omega) (by omega) (lb_zero _ _) (Nat.le_refl _) hs) ?_);rintro ⟨⟩ e2 he2
  try dsimp only at he2
  refine De (R_0n Y fun w' hs => ⟨(), e2, ?_, Y, hs⟩);exact he2
end Go.Sy.Pdqs
