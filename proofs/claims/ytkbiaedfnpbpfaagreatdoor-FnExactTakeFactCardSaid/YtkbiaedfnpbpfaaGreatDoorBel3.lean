/-
  Contracts of functions of the program, walked (printed by a program of ours).
  Conditions: those that each theorem states.
-/
import Derived.Test.YtkbiaedfnpbpfaaGreatDoorBel1
set_option linter.unusedVariables false
set_option maxRecDepth 20000
namespace Go.Sy.Bel3
open Go Go.RowKit Go.Proofs Go.Sy
theorem mixed : Tryz.prog.follows .mixedOrders = true := by kernel_rfl
theorem s_35 : sliceTy Tryz.prog 35 = some (3, 1, 8) := by kernel_rfl
theorem z_3 : sizeTy Tryz.prog 3 = some 1 := by kernel_rfl
theorem o_3 : oneTy Tryz.prog 3 = true := by kernel_rfl
open Go.Sy.Bel1
theorem laws_markIntS (w0 : World) (Hs : List Chunk) (w : World) (v_a : Value) (a : (List Int)) (k : Int) (h0 : 0 ≤ k) (h1 : k + a.length ≤ 4611686018427387904) (hst : St w0 (ov [v_a] (a : (List Int)) :: Hs) w) : Calls Tryz.prog 65 [v_a, (.int .i64 k)].toArray w (fun e w' => e = .returned (.int .i64 (k + a.length)) ∧ St w0 (ov [v_a] (mkI k a : (List Int)) :: Hs) w') := by
 have hm1 := rd_max (rO (k := 0) hst rfl)
 refine enterS 19 Tryz.func65 rfl rfl rfl hst (Sr (Pe rfl (Dh (ov [v_a] (a : (List Int)) :: Hs) rfl (Cq (Sr (Pe rfl (Cb (Cl (fun m_ ac w' => ∃ (i : Nat), ∃ (kk : Int), (i ≤ a.length) ∧ (kk = k + i) ∧ m_ = a.length - i ∧ Fits ac 19 [(0, v_a), (1, (.int .i64 kk)), (5, (.int .i64 ((i : Nat) : Int)))] ∧ St w0 (ov [v_a] (mapAt fI cI k a i : (List Int)) :: Hs) w') ?_ ?_))))))))
 ·refine D_eq 0 rfl (show (a : (List Int)) = mapAt fI cI k a 0 from by rw [mapAt_zero]) (fun ac w' hf hs => ⟨_, 0, k, ?_, ?_, rfl, hf.weak ⟨rfl, rfl, rfl, trivial⟩, hs⟩)
  ·first | assumption | omega | simp
  ·first | assumption | omega | simp
 ·rintro m_ ac w' ⟨i, kk, hi, hk, rfl, hf, hs⟩
  refine D.use ?_ hf hs
  clear hf hs ac w'
  have hcl := mapAt_len (f := fI) (c := cI) (k := k) hi
  refine Cq (Sr (P2 rfl rfl (q1 rfl (D_leno 0 s_35 rfl rfl rfl) (Pe rfl (Dh (ov [v_a] (mapAt fI cI k a i : (List Int)) :: Hs) rfl (Ci _ rfl (fun h2 => ?_) (fun h2 => ?_)))))))
  ·have pr2 : (((i : Nat) : Int) : Int) < (((mapAt fI cI k a i).length : Nat) : Int) := odT h2
   refine Sk (Cq (Cb (Sr (P3 rfl rfl rfl ?_))))
   obtain ⟨x3, hx4⟩ := sL (l := (mapAt fI cI k a i)) (i := i) (by omega)
   refine q1 rfl (D_ix (l := (mapAt fI cI k a i)) (j := i) s_35 rfl rfl rfl (fun w' hs => (rO (k := 0) hs rfl)) rfl (lS hx4)) (li rfl (so (α := Int) (z := kk) 0 z_3 rfl rfl rfl rfl rfl (lS hx4) ?_))
   refine Dx (Dh (ov [v_a] ((mapAt fI cI k a i).set i kk : (List Int)) :: Hs) rfl (Cr (p1 rfl (q1 rfl (D_add rfl rfl rfl rfl (by omega)) (p1 rfl (De (Xb (Xt (Cr (p1 rfl (q1 rfl (D_add rfl rfl rfl (r := ((i + 1 : Nat) : Int)) (by omega) (by omega)) (Pe rfl (D_eq 0 rfl (show ((mapAt fI cI k a i).set i kk : (List Int)) = mapAt fI cI k a (i + 1) from by exact mkI_set (by omega) hk) (fun ac w' hf hs => ⟨_, ?_, i + 1, (kk + 1), ?_, ?_, rfl, hf.weak ⟨rfl, rfl, rfl, trivial⟩, hs⟩))))))))))))))
   ·omega
   ·first | assumption | omega | simp
   ·first | assumption | omega | simp
  ·have pr2 : ¬ (((i : Nat) : Int) : Int) < (((mapAt fI cI k a i).length : Nat) : Int) := odF h2
   refine Cx (Xx (Xx (Xe (Xt (Sr (P2 rfl rfl (Dx (Ct (D_eq 0 rfl (show (mapAt fI cI k a i : (List Int)) = mkI k a from by exact mapAt_done (by omega)) (R_1 rfl rfl fun w' hs => ⟨congrArg (fun z => Ending.returned (Value.int .i64 z)) ?_, hs⟩))))))))))
   show (kk : Int) = k + a.length
   omega
theorem laws_heldIntS (w : World) (v_a : Value) (a : (List Int)) (k : Int) (h_a : Gd.rd w [v_a] a) (h0 : 0 ≤ k) (h1 : k + a.length ≤ 4611686018427387904) (he : a = mkI k a) : Calls Tryz.prog 67 [v_a, (.int .i64 k)].toArray w (Val w (.int .i64 (k + a.length))) := by
 have hm1 := rd_max h_a
 refine enter 21 Tryz.func67 rfl rfl rfl (Sr (Pe rfl (Cq (Sr (Pe rfl (Cb (Cl (fun m_ ac w' => ∃ (i : Nat), ∃ (kk : Int), (i ≤ a.length) ∧ (kk = k + i) ∧ m_ = a.length - i ∧ Fits ac 21 [(0, v_a), (1, (.int .i64 kk)), (5, (.int .i64 ((i : Nat) : Int)))] ∧ St w ([]) w') ?_ ?_)))))))
 ·refine fun ac w' hf hs => ⟨_, 0, k, ?_, ?_, rfl, hf.weak ⟨rfl, rfl, rfl, trivial⟩, hs⟩
  ·first | assumption | omega | simp
  ·first | assumption | omega | simp
 ·rintro m_ ac w' ⟨i, kk, hi, hk, rfl, hf, hs⟩
  refine D.use ?_ hf hs
  clear hf hs ac w'
  refine Cq (Sr (P2 rfl rfl (q1 rfl (Dl s_35 rfl rfl (rd_sl h_a)) (Pe rfl (Ci _ rfl (fun h2 => ?_) (fun h2 => ?_))))))
  ·have pr2 : (((i : Nat) : Int) : Int) < ((a.length : Nat) : Int) := odT h2
   refine Sk (Cq (Cb (Cq (Sr (P2 rfl rfl ?_)))))
   obtain ⟨x3, hx4⟩ := sL (l := a) (i := i) (by omega)
   obtain ⟨es5, at6, hr7⟩ := rd_elem (n := 1) rfl h_a hx4
   obtain rfl : es5 = [.int .i64 x3] := hr7
   refine q1 rfl (D_ix (l := a) (j := i) s_35 rfl rfl rfl (fun w' hs => (rA hs h_a)) rfl (lS hx4)) (q1 rfl (lr0 o_3 rfl rfl at6 rfl) (P2 rfl rfl (Dx (Ci _ rfl (fun h8 => ?_) (fun h8 => ?_)))))
   ·have pr8 : (x3 : Int) ≠ kk := bne_iff_ne.1 h8
    refine Sr (Pe rfl (Ct (Xr (Xq (Xr (Xr (Xq (Xr (Ri rfl rfl ?_)))))))))
    show ((-1) : Int) = _
    exfalso; have := mkI_fix he hx4; omega
   ·have pr8 : (x3 : Int) = kk := eq_of_bne_f h8
    refine Sk (Cr (p1 rfl (q1 rfl (D_add rfl rfl rfl rfl (by omega)) (p1 rfl (De (Xb (Xt (Cr (p1 rfl (q1 rfl (D_add rfl rfl rfl (r := ((i + 1 : Nat) : Int)) (by omega) (by omega)) (Pe rfl (fun ac w' hf hs => ⟨_, ?_, i + 1, (kk + 1), ?_, ?_, rfl, hf.weak ⟨rfl, rfl, rfl, trivial⟩, hs⟩))))))))))))
    ·omega
    ·first | assumption | omega | simp
    ·first | assumption | omega | simp
  ·have pr2 : ¬ (((i : Nat) : Int) : Int) < ((a.length : Nat) : Int) := odF h2
   refine Cx (Xx (Xx (Xe (Xt (Sr (P2 rfl rfl (Dx (Ct (Ri rfl rfl ?_)))))))))
   show (kk : Int) = _
   omega
end Go.Sy.Bel3
