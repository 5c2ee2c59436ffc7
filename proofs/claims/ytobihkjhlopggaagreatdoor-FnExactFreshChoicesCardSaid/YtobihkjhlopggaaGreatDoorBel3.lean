/-
  Contracts of functions of the program, walked (printed by a program of ours).
  Conditions: those that each theorem states.
-/
import Derived.Test.YtobihkjhlopggaaGreatDoorFct
import Derived.Test.YtobihkjhlopggaaGreatDoorBel1
set_option linter.unusedVariables false
set_option maxRecDepth 20000
namespace Go.Sy.Bel3
open Go Go.RowKit Go.Proofs Go.Sy
open Go.Sy.Bel1
theorem laws_markIntS (w0 : World) (Hs : List Chunk) (w : World) (v_a : Value) (a : (List Int)) (k : Int) (h0 : 0 ≤ k) (h1 : k + a.length ≤ 4611686018427387904) (hst : St w0 (ov [v_a] (a : (List Int)) :: Hs) w) : Cy 62 [v_a, (iv k)] w (fun e w' => e = .returned (iv (k + a.length)) ∧ St w0 (ov [v_a] (mkI k a : (List Int)) :: Hs) w') := by
 have hm1 := rd_max (rO (k := 0) hst rfl);refine enterS 19 Tryz.func62 Y Y Y hst (Sr (Pe Y (Dh (ov [v_a] (a : (List Int)) :: Hs) Y (Cq (Sr (Pe Y (Cb (Cl (fun m_ ac w' => ∃ (i : Nat), ∃ (kk : Int), (i ≤ a.length) ∧ (kk = k + i) ∧ m_ = a.length - i ∧ Fits ac 19 [(0, v_a), (1, (iv kk)), (5, (nv i))] ∧ St w0 (ov [v_a] (mapAt fI cI k a i : (List Int)) :: Hs) w') ?_ ?_))))))))
 ·refine D_eq 0 Y (show (a : (List Int)) = mapAt fI cI k a 0 from by rw [mapAt_zero]) (fun ac w' hf hs => ⟨_, 0, k, ?_, ?_, Y, hf.wk Y, hs⟩)
  ·omega
  ·omega
 ·rintro m_ ac w' ⟨i, kk, hi, hk, rfl, hf, hs⟩;refine D.use ?_ hf hs;clear hf hs ac w';have hcl := mapAt_len (f := fI) (c := cI) (k := k) hi;refine Cq (Sr (P2 Y Y (q1 Y (D_leno 0 s_26 Y Y Y) (Pe Y (Dh (_ :: Hs) Y (Cd Y (fun pr2 => ?_) (fun pr2 => ?_)))))))
  ·refine Sk (Cq (Cb (Sr (P3 Y Y Y ?_))));obtain ⟨x3, hx4⟩ := sL (l := (mapAt fI cI k a i)) (i := i) (by omega);refine q1 Y (D_ix (l := (mapAt fI cI k a i)) (j := i) s_26 Y Y Y (fun w' hs => (rO (k := 0) hs Y)) Y (lS hx4)) (li Y (so (α := Int) (z := kk) 0 z_3 Y Y Y Y Y (lS hx4) ?_));refine Dx (Dh (ov [v_a] ((mapAt fI cI k a i).set i kk : (List Int)) :: Hs) Y (Cr (p1 Y (q1 Y (D_add Y Y Y Y (by omega)) (p1 Y (De (Xb (Xt (Cr (p1 Y (ad (i + 1) Y Y Y Y (by omega) (by omega) (Pe Y (D_eq 0 Y (show ((mapAt fI cI k a i).set i kk : (List Int)) = mapAt fI cI k a (i + 1) from by exact mkI_set (by omega) hk) (fun ac w' hf hs => ⟨_, ?_, i + 1, (kk + 1), ?_, ?_, Y, hf.wk Y, hs⟩))))))))))))))
   ·omega
   ·omega
   ·omega
  ·refine Cx (Xx (Xx (Xe (Xt (Sr (P2 Y Y (Dx (Ct (D_eq 0 Y (show (mapAt fI cI k a i : (List Int)) = mkI k a from by exact mapAt_done (by omega)) (R_1 Y Y fun w' hs => ⟨congrArg (fun z => Ending.returned (Value.int .i64 z)) ?_, hs⟩))))))))));show (kk : Int) = k + a.length;omega
theorem laws_heldIntS {w : World} {v_a : Value} {a : (List Int)} {k : Int} (h_a : Gd.rd w [v_a] a) (h0 : 0 ≤ k) (h1 : k + a.length ≤ 4611686018427387904) (he : a = mkI k a) : Cy 65 [v_a, (iv k)] w (Val w (iv (k + a.length))) := by
 have hm1 := rd_max h_a;refine enter 21 Tryz.func65 Y Y Y (Sr (Pe Y (Cq (Sr (Pe Y (Cb (Cl (fun m_ ac w' => ∃ (i : Nat), ∃ (kk : Int), (i ≤ a.length) ∧ (kk = k + i) ∧ m_ = a.length - i ∧ Fits ac 21 [(0, v_a), (1, (iv kk)), (5, (nv i))] ∧ St w ([]) w') ?_ ?_)))))))
 ·refine fun ac w' hf hs => ⟨_, 0, k, ?_, ?_, Y, hf.wk Y, hs⟩
  ·omega
  ·omega
 ·rintro m_ ac w' ⟨i, kk, hi, hk, rfl, hf, hs⟩;refine D.use ?_ hf hs;clear hf hs ac w';refine Cq (Sr (P2 Y Y (q1 Y (Dl s_26 Y Y (rd_sl h_a)) (Pe Y (Cd Y (fun pr2 => ?_) (fun pr2 => ?_))))))
  ·refine Sk (Cq (Cb (Cq (Sr (P2 Y Y ?_)))));obtain ⟨x3, hx4⟩ := sL (l := a) (i := i) (by omega);obtain ⟨es5, at6, hr7⟩ := rd_elem (n := 1) rfl h_a hx4;obtain rfl : es5 = [.int .i64 x3] := hr7;refine q1 Y (D_ix (l := a) (j := i) s_26 Y Y Y (fun w' hs => (rA hs h_a)) Y (lS hx4)) (q1 Y (lr0 o_3 Y Y at6 Y) (P2 Y Y (Dx (Cn Y (fun pr8 => ?_) (fun pr8 => ?_)))))
   ·refine Sr (Pe Y (Ct (Xr (Xq (Xr (Xr (Xq (Xr (Ri Y Y ?_)))))))));show ((-1) : Int) = _;exfalso; have := mkI_fix he hx4; omega
   ·refine Sk (Cr (p1 Y (q1 Y (D_add Y Y Y Y (by omega)) (p1 Y (De (Xb (Xt (Cr (p1 Y (ad (i + 1) Y Y Y Y (by omega) (by omega) (Pe Y (fun ac w' hf hs => ⟨_, ?_, i + 1, (kk + 1), ?_, ?_, Y, hf.wk Y, hs⟩))))))))))))
    ·omega
    ·omega
    ·omega
  ·refine Cx (Xx (Xx (Xe (Xt (Sr (P2 Y Y (Dx (Ct (Ri Y Y ?_)))))))));show (kk : Int) = _;omega
end Go.Sy.Bel3
