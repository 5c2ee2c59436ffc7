/-
  Contracts of functions of the program, walked (printed by a program of ours).
  Conditions: those that each theorem states.
-/
import Derived.Test.YtobihkjhlopggaaGreatDoorFct
import Derived.Test.YtobihkjhlopggaaGreatDoorEng2
import Derived.Test.YtobihkjhlopggaaGreatDoorBel3
import Derived.Test.YtobihkjhlopggaaGreatDoorRul
set_option linter.unusedVariables false
set_option maxRecDepth 20000
namespace Go.Sy.Eng5
open Go Go.RowKit Go.Proofs Go.Sy
open Go.Sy.Bel1 Go.Sy.Bel3 Go.Sy.Ev1 Go.Sy.Eng2
theorem laws_markText {w : World} {k : Int} (h1 : k ≤ 4611686018427387904) : Cy 59 [(iv k)] w (Val w (.string (markS k))) := by
 refine enter 20 Tryz.func59 Y Y Y (Sr (Pe Y (Cq (Sr (P2 Y Y (Dx (Cd Y (fun pr1 => ?_) (fun pr1 => ?_))))))))
 ·refine Sr (Pe Y (Ct (Xr (Rs Y Y ?_))));show (⟨#[109, 48]⟩ : ByteArray) = _;exact mark_low (by omega)
 ·refine Sk (Sr (Pe Y (Cq (Cb (Cl (fun m_ ac w' => ∃ (nn : Int), ∃ (s : ByteArray), (dg k nn s) ∧ m_ = nn.toNat ∧ Fits ac 20 [(0, (iv nn)), (3, (.string s))] ∧ St w ([]) w') ?_ ?_)))))
  ·refine fun ac w' hf hs => ⟨_, k, ⟨#[]⟩, ?_, Y, hf.wk Y, hs⟩
   ·exact dg_zero (by omega)
  ·rintro m_ ac w' ⟨nn, s, hd, rfl, hf, hs⟩;refine D.use ?_ hf hs;clear hf hs ac w';have hd0 := hd.1;have hd1 := hd.2.1;have hd3 := hd.2.2.2;have htm := mtmod10 hd0;refine Cq (Sr (P2 Y Y (Dx (Cd Y (fun pr2 => ?_) (fun pr2 => ?_)))))
   ·refine Sk (Cb (Sr (p1 Y (q1 Y (D_rem Y Y Y Y) (q1 Y (D_add Y Y Y Y (by omega)) (q1 Y (D_cv8 u8_5 ⟨_, ui_3⟩ Y Y (by omega)) (li Y (D_bs s_166 y_5 Y (by decide) (by decide) Y Y Y Y Y Y fun g3 => ?_))))))));refine q1 Y (D_cvbs 0 usl_166 u8_5 us_9 Y Y Y) (p1 Y (q1 Y (D_cat Y Y Y (by show 1 + s.size ≤ 9223372036854775807; omega)) (Pe Y (Dh ([bx g3 [(.int .u8 (48 + (Int.tmod nn 10)))]]) Y (Cr (p1 Y (q1 Y (D_quo Y Y Y (by omega) (by omega)) (p1 Y (De (Xb (Xt (fun ac w' hf hs => ⟨_, ?_, (nn / 10), ((⟨#[UInt8.ofNat (48 + (Int.tmod nn 10)).toNat]⟩ : ByteArray) ++ s), ?_, Y, hf.wk Y, hs.pk [] Y Y⟩))))))))))))
    ·omega
    ·exact dg_step hd (by omega)
   ·refine Cx (Xx (Xx (Xe (Xt (Sr (p1 Y (q1 Y (D_cat Y Y Y (by show 1 + s.size ≤ 9223372036854775807; omega)) (Pe Y (Ct (Rs Y Y ?_))))))))));show ((⟨#[109]⟩ ++ s) : ByteArray) = _;exact dg_done hd (by omega) (by omega)
theorem laws_markStringS (w0 : World) (Hs : List Chunk) (w : World) (v_a : Value) (a : (List ByteArray)) (k : Int) (h0 : 0 ≤ k) (h1 : k + a.length ≤ 4611686018427387904) (hst : St w0 (ov [v_a] (a : (List ByteArray)) :: Hs) w) : Cy 87 [v_a, (iv k)] w (fun e w' => e = .returned (iv (k + a.length)) ∧ St w0 (ov [v_a] (mkSs k a : (List ByteArray)) :: Hs) w') := by
 have hm1 := rd_max (rO (k := 0) hst rfl);refine enterS 20 Tryz.func87 Y Y Y hst (Sr (Pe Y (Dh (ov [v_a] (a : (List ByteArray)) :: Hs) Y (Cq (Sr (Pe Y (Cb (Cl (fun m_ ac w' => ∃ (i : Nat), ∃ (kk : Int), (i ≤ a.length) ∧ (kk = k + i) ∧ m_ = a.length - i ∧ Fits ac 20 [(0, v_a), (1, (iv kk)), (5, (nv i))] ∧ St w0 (ov [v_a] (mapAt fS cS k a i : (List ByteArray)) :: Hs) w') ?_ ?_))))))))
 ·refine D_eq 0 Y (show (a : (List ByteArray)) = mapAt fS cS k a 0 from by rw [mapAt_zero]) (fun ac w' hf hs => ⟨_, 0, k, ?_, ?_, Y, hf.wk Y, hs⟩)
  ·omega
  ·omega
 ·rintro m_ ac w' ⟨i, kk, hi, hk, rfl, hf, hs⟩;refine D.use ?_ hf hs;clear hf hs ac w';have hcl := mapAt_len (f := fS) (c := cS) (k := k) hi;refine Cq (Sr (P2 Y Y (q1 Y (D_leno 0 s_105 Y Y Y) (Pe Y (Dh (_ :: Hs) Y (Cd Y (fun pr2 => ?_) (fun pr2 => ?_)))))))
  ·refine Sk (Cq (Cb (Sr (P3 Y Y Y (li Y (cv b_59 Y Y Y Y (fun w' hs => (laws_markText (by omega))) ?_))))));obtain ⟨x3, hx4⟩ := sL (l := (mapAt fS cS k a i)) (i := i) (by omega);refine q1 Y (D_ix (l := (mapAt fS cS k a i)) (j := i) s_105 Y Y Y (fun w' hs => (rO (k := 0) hs Y)) Y (lS hx4)) (li Y (so (α := ByteArray) (z := (markS kk)) 0 z_9 Y Y Y Y Y (lS hx4) ?_));refine Dx (Dh (ov [v_a] ((mapAt fS cS k a i).set i (markS kk) : (List ByteArray)) :: Hs) Y (Cr (p1 Y (q1 Y (D_add Y Y Y Y (by omega)) (p1 Y (De (Xb (Xt (Cr (p1 Y (ad (i + 1) Y Y Y Y (by omega) (by omega) (Pe Y (D_eq 0 Y (show ((mapAt fS cS k a i).set i (markS kk) : (List ByteArray)) = mapAt fS cS k a (i + 1) from by exact mkS_set (by omega) hk) (fun ac w' hf hs => ⟨_, ?_, i + 1, (kk + 1), ?_, ?_, Y, hf.wk Y, hs⟩))))))))))))))
   ·omega
   ·omega
   ·omega
  ·refine Cx (Xx (Xx (Xe (Xt (Sr (P2 Y Y (Dx (Ct (D_eq 0 Y (show (mapAt fS cS k a i : (List ByteArray)) = mkSs k a from by exact mapAt_done (by omega)) (R_1 Y Y fun w' hs => ⟨congrArg (fun z => Ending.returned (Value.int .i64 z)) ?_, hs⟩))))))))));show (kk : Int) = k + a.length;omega
theorem laws_heldStringS {w : World} {v_a : Value} {a : (List ByteArray)} {k : Int} (h_a : Gd.rd w [v_a] a) (h0 : 0 ≤ k) (h1 : k + a.length ≤ 4611686018427387904) (he : a = mkSs k a) : Cy 112 [v_a, (iv k)] w (Val w (iv (k + a.length))) := by
 have hm1 := rd_max h_a;refine enter 22 Tryz.func112 Y Y Y (Sr (Pe Y (Cq (Sr (Pe Y (Cb (Cl (fun m_ ac w' => ∃ (i : Nat), ∃ (kk : Int), (i ≤ a.length) ∧ (kk = k + i) ∧ m_ = a.length - i ∧ Fits ac 22 [(0, v_a), (1, (iv kk)), (5, (nv i))] ∧ St w ([]) w') ?_ ?_)))))))
 ·refine fun ac w' hf hs => ⟨_, 0, k, ?_, ?_, Y, hf.wk Y, hs⟩
  ·omega
  ·omega
 ·rintro m_ ac w' ⟨i, kk, hi, hk, rfl, hf, hs⟩;refine D.use ?_ hf hs;clear hf hs ac w';refine Cq (Sr (P2 Y Y (q1 Y (Dl s_105 Y Y (rd_sl h_a)) (Pe Y (Cd Y (fun pr2 => ?_) (fun pr2 => ?_))))))
  ·refine Sk (Cq (Cb (Cq (Cq (C_draw mixed [] (by kernel_rfl) (tR 0 Y (by kernel_rfl) Y (tR 1 Y (by kernel_rfl) Y ?_)))))));obtain ⟨x3, hx4⟩ := sL (l := a) (i := i) (by omega);obtain ⟨es5, at6, hr7⟩ := rd_elem (n := 1) rfl h_a hx4;obtain rfl : es5 = [.string x3] := hr7;refine Tk 2 Y (by kernel_rfl) Y (D_ix (l := a) (j := i) s_105 Y Y Y (fun w' hs => (rA hs h_a)) Y (lS hx4)) (Tk 3 Y (by kernel_rfl) Y (lr0 o_9 Y Y at6 Y) (tR 4 Y (by kernel_rfl) Y (ty 5 Y (by kernel_rfl) Y (cv b_59 Y Y Y Y (fun w' hs => (laws_markText (by omega))) ?_))));refine tS (fun _ hs => hs) (Tk 6 Y (by kernel_rfl) Y (D_neS Y Y Y) (tE (by kernel_rfl) (Xt (Cnd Y (fun pr8 => ?_) (fun pr8 => ?_)))))
   ·refine Sr (Pe Y (Ct (Xr (Xq (Xr (Xr (Xq (Xr (Ri Y Y ?_)))))))));show ((-1) : Int) = _;exfalso; have := mkS_fix he hx4; rw [← hk] at this; contradiction
   ·refine Sk (Cr (p1 Y (q1 Y (D_add Y Y Y Y (by omega)) (p1 Y (De (Xb (Xt (Cr (p1 Y (ad (i + 1) Y Y Y Y (by omega) (by omega) (Pe Y (fun ac w' hf hs => ⟨_, ?_, i + 1, (kk + 1), ?_, ?_, Y, hf.wk Y, hs⟩))))))))))))
    ·omega
    ·omega
    ·omega
  ·refine Cx (Xx (Xx (Xe (Xt (Sr (P2 Y Y (Dx (Ct (Ri Y Y ?_)))))))));show (kk : Int) = _;omega
end Go.Sy.Eng5
