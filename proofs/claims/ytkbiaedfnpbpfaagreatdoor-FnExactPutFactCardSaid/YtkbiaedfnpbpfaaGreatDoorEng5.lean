/-
  Contracts of functions of the program, walked (printed by a program of ours).
  Conditions: those that each theorem states.
-/
import Derived.Test.YtkbiaedfnpbpfaaGreatDoorEng4
import Derived.Test.YtkbiaedfnpbpfaaGreatDoorBel3
import Derived.Test.YtkbiaedfnpbpfaaGreatDoorMk
set_option linter.unusedVariables false
set_option maxRecDepth 20000
namespace Go.Sy.Eng5
open Go Go.RowKit Go.Proofs Go.Sy
theorem mixed : Tryz.prog.follows .mixedOrders = true := by kernel_rfl
theorem u8_5 : Tryz.prog.underlying 5 = some (.int .u8) := by kernel_rfl
theorem ui_3 : Tryz.prog.underlying 3 = some (.int .i64) := by kernel_rfl
theorem s_157 : sliceTy Tryz.prog 157 = some (5, 1, 1) := by kernel_rfl
theorem y_5 : zeroTy Tryz.prog 5 = some (.int .u8 0) := by kernel_rfl
theorem usl_157 : Tryz.prog.underlying 157 = some (.slice 5) := by kernel_rfl
theorem us_9 : Tryz.prog.underlying 9 = some .string := by kernel_rfl
theorem s_58 : sliceTy Tryz.prog 58 = some (9, 1, 16) := by kernel_rfl
theorem b_59 : hasBody Tryz.prog 59 = true := by kernel_rfl
theorem z_9 : sizeTy Tryz.prog 9 = some 1 := by kernel_rfl
theorem o_9 : oneTy Tryz.prog 9 = true := by kernel_rfl
theorem s_93 : sliceTy Tryz.prog 93 = some (147, 5, 80) := by kernel_rfl
theorem f_147_0 : fieldOff Tryz.prog 147 0 = some 0 := by kernel_rfl
theorem z_3 : sizeTy Tryz.prog 3 = some 1 := by kernel_rfl
theorem f_147_1 : fieldOff Tryz.prog 147 1 = some 1 := by kernel_rfl
theorem f_145_0 : fieldOff Tryz.prog 145 0 = some 0 := by kernel_rfl
theorem f_145_1 : fieldOff Tryz.prog 145 1 = some 1 := by kernel_rfl
theorem o_58 : oneTy Tryz.prog 58 = true := by kernel_rfl
theorem b_62 : hasBody Tryz.prog 62 = true := by kernel_rfl
theorem f_147_2 : fieldOff Tryz.prog 147 2 = some 3 := by kernel_rfl
theorem f_147_3 : fieldOff Tryz.prog 147 3 = some 4 := by kernel_rfl
theorem o_3 : oneTy Tryz.prog 3 = true := by kernel_rfl
theorem b_144 : hasBody Tryz.prog 144 = true := by kernel_rfl
theorem s_94 : sliceTy Tryz.prog 94 = some (159, 3, 48) := by kernel_rfl
theorem f_159_0 : fieldOff Tryz.prog 159 0 = some 0 := by kernel_rfl
theorem f_159_1 : fieldOff Tryz.prog 159 1 = some 1 := by kernel_rfl
theorem s_40 : sliceTy Tryz.prog 40 = some (96, 4, 72) := by kernel_rfl
theorem f_96_0 : fieldOff Tryz.prog 96 0 = some 0 := by kernel_rfl
theorem f_96_1 : fieldOff Tryz.prog 96 1 = some 1 := by kernel_rfl
theorem f_96_2 : fieldOff Tryz.prog 96 2 = some 2 := by kernel_rfl
theorem o_93 : oneTy Tryz.prog 93 = true := by kernel_rfl
theorem b_60 : hasBody Tryz.prog 60 = true := by kernel_rfl
theorem f_96_3 : fieldOff Tryz.prog 96 3 = some 3 := by kernel_rfl
theorem o_94 : oneTy Tryz.prog 94 = true := by kernel_rfl
theorem b_61 : hasBody Tryz.prog 61 = true := by kernel_rfl
theorem b_142 : hasBody Tryz.prog 142 = true := by kernel_rfl
theorem b_143 : hasBody Tryz.prog 143 = true := by kernel_rfl
theorem s_42 : sliceTy Tryz.prog 42 = some (100, 3, 48) := by kernel_rfl
theorem f_100_0 : fieldOff Tryz.prog 100 0 = some 0 := by kernel_rfl
theorem f_70_0 : fieldOff Tryz.prog 70 0 = some 0 := by kernel_rfl
theorem f_70_1 : fieldOff Tryz.prog 70 1 = some 1 := by kernel_rfl
theorem f_100_1 : fieldOff Tryz.prog 100 1 = some 2 := by kernel_rfl
theorem s_63 : sliceTy Tryz.prog 63 = some (168, 2, 40) := by kernel_rfl
theorem f_168_0 : fieldOff Tryz.prog 168 0 = some 0 := by kernel_rfl
theorem f_168_1 : fieldOff Tryz.prog 168 1 = some 1 := by kernel_rfl
theorem o_35 : oneTy Tryz.prog 35 = true := by kernel_rfl
theorem b_65 : hasBody Tryz.prog 65 = true := by kernel_rfl
theorem b_67 : hasBody Tryz.prog 67 = true := by kernel_rfl
theorem s_64 : sliceTy Tryz.prog 64 = some (171, 4, 64) := by kernel_rfl
theorem f_171_0 : fieldOff Tryz.prog 171 0 = some 0 := by kernel_rfl
theorem f_171_1 : fieldOff Tryz.prog 171 1 = some 1 := by kernel_rfl
theorem f_171_2 : fieldOff Tryz.prog 171 2 = some 2 := by kernel_rfl
theorem f_66_0 : fieldOff Tryz.prog 66 0 = some 0 := by kernel_rfl
theorem o_40 : oneTy Tryz.prog 40 = true := by kernel_rfl
theorem b_18 : hasBody Tryz.prog 18 = true := by kernel_rfl
theorem f_66_1 : fieldOff Tryz.prog 66 1 = some 1 := by kernel_rfl
theorem o_42 : oneTy Tryz.prog 42 = true := by kernel_rfl
theorem b_19 : hasBody Tryz.prog 19 = true := by kernel_rfl
theorem f_66_3 : fieldOff Tryz.prog 66 3 = some 3 := by kernel_rfl
theorem o_63 : oneTy Tryz.prog 63 = true := by kernel_rfl
theorem b_85 : hasBody Tryz.prog 85 = true := by kernel_rfl
theorem f_66_5 : fieldOff Tryz.prog 66 5 = some 5 := by kernel_rfl
theorem o_64 : oneTy Tryz.prog 64 = true := by kernel_rfl
theorem b_86 : hasBody Tryz.prog 86 = true := by kernel_rfl
theorem b_87 : hasBody Tryz.prog 87 = true := by kernel_rfl
theorem b_88 : hasBody Tryz.prog 88 = true := by kernel_rfl
theorem b_89 : hasBody Tryz.prog 89 = true := by kernel_rfl
theorem b_90 : hasBody Tryz.prog 90 = true := by kernel_rfl
open Go.Sy.Bel1 Go.Sy.Bel3 Go.Sy.Ev1 Go.Sy.Ev2 Go.Sy.Eng1 Go.Sy.Eng2 Go.Sy.Eng3 Go.Sy.Eng4
theorem laws_markText {w : World} {k : Int} (h1 : k ≤ 4611686018427387904) : Calls Tryz.prog 59 [(iv k)].toArray w (Val w (.string (markS k))) := by
 refine enter 20 Tryz.func59 Y Y Y (Sr (Pe Y (Cq (Sr (P2 Y Y (Dx (Ci _ Y (fun h1 => ?_) (fun h1 => ?_))))))))
 ·have pr1 := odT h1
  refine Sr (Pe Y (Ct (Xr (Rs Y Y ?_))))
  show (⟨#[109, 48]⟩ : ByteArray) = _
  exact mark_low (by omega)
 ·have pr1 := odF h1
  refine Sk (Sr (Pe Y (Cq (Cb (Cl (fun m_ ac w' => ∃ (nn : Int), ∃ (s : ByteArray), (dg k nn s) ∧ m_ = nn.toNat ∧ Fits ac 20 [(0, (iv nn)), (3, (.string s))] ∧ St w ([]) w') ?_ ?_)))))
  ·refine fun ac w' hf hs => ⟨_, k, ⟨#[]⟩, ?_, Y, hf.wk Y, hs⟩
   ·exact dg_zero (by omega)
  ·rintro m_ ac w' ⟨nn, s, hd, rfl, hf, hs⟩
   refine D.use ?_ hf hs
   clear hf hs ac w'
   have hd0 := hd.1
   have hd1 := hd.2.1
   have hd3 := hd.2.2.2
   have htm := mtmod10 hd0
   refine Cq (Sr (P2 Y Y (Dx (Ci _ Y (fun h2 => ?_) (fun h2 => ?_)))))
   ·have pr2 := odT h2
    refine Sk (Cb (Sr (p1 Y (q1 Y (D_rem Y Y Y Y) (q1 Y (D_add Y Y Y Y (by omega)) (q1 Y (D_cv8 u8_5 ⟨_, ui_3⟩ Y Y (by omega)) (li Y (D_bs s_157 y_5 Y (by decide) (by decide) Y Y Y Y Y Y fun g3 => ?_))))))))
    refine q1 Y (D_cvbs 0 usl_157 u8_5 us_9 Y Y Y) (p1 Y (q1 Y (D_cat Y Y Y (by show 1 + s.size ≤ 9223372036854775807; omega)) (Pe Y (Dh ([bx g3 [(.int .u8 (48 + (Int.tmod nn 10)))]]) Y (Cr (p1 Y (q1 Y (D_quo Y Y Y (by omega) (by omega)) (p1 Y (De (Xb (Xt (fun ac w' hf hs => ⟨_, ?_, (nn / 10), ((⟨#[UInt8.ofNat (48 + (Int.tmod nn 10)).toNat]⟩ : ByteArray) ++ s), ?_, Y, hf.wk Y, hs.pk [] Y Y⟩))))))))))))
    ·omega
    ·exact dg_step hd (by omega)
   ·have pr2 := odF h2
    refine Cx (Xx (Xx (Xe (Xt (Sr (p1 Y (q1 Y (D_cat Y Y Y (by show 1 + s.size ≤ 9223372036854775807; omega)) (Pe Y (Ct (Rs Y Y ?_))))))))))
    show ((⟨#[109]⟩ ++ s) : ByteArray) = _
    exact dg_done hd (by omega) (by omega)
theorem laws_markStringS (w0 : World) (Hs : List Chunk) (w : World) (v_a : Value) (a : (List ByteArray)) (k : Int) (h0 : 0 ≤ k) (h1 : k + a.length ≤ 4611686018427387904) (hst : St w0 (ov [v_a] (a : (List ByteArray)) :: Hs) w) : Calls Tryz.prog 62 [v_a, (iv k)].toArray w (fun e w' => e = .returned (iv (k + a.length)) ∧ St w0 (ov [v_a] (mkSs k a : (List ByteArray)) :: Hs) w') := by
 have hm1 := rd_max (rO (k := 0) hst rfl)
 refine enterS 20 Tryz.func62 Y Y Y hst (Sr (Pe Y (Dh (ov [v_a] (a : (List ByteArray)) :: Hs) Y (Cq (Sr (Pe Y (Cb (Cl (fun m_ ac w' => ∃ (i : Nat), ∃ (kk : Int), (i ≤ a.length) ∧ (kk = k + i) ∧ m_ = a.length - i ∧ Fits ac 20 [(0, v_a), (1, (iv kk)), (5, (nv i))] ∧ St w0 (ov [v_a] (mapAt fS cS k a i : (List ByteArray)) :: Hs) w') ?_ ?_))))))))
 ·refine D_eq 0 Y (show (a : (List ByteArray)) = mapAt fS cS k a 0 from by rw [mapAt_zero]) (fun ac w' hf hs => ⟨_, 0, k, ?_, ?_, Y, hf.wk Y, hs⟩)
  ·first | assumption | omega | simp
  ·first | assumption | omega | simp
 ·rintro m_ ac w' ⟨i, kk, hi, hk, rfl, hf, hs⟩
  refine D.use ?_ hf hs
  clear hf hs ac w'
  have hcl := mapAt_len (f := fS) (c := cS) (k := k) hi
  refine Cq (Sr (P2 Y Y (q1 Y (D_leno 0 s_58 Y Y Y) (Pe Y (Dh (_ :: Hs) Y (Ci _ Y (fun h2 => ?_) (fun h2 => ?_)))))))
  ·have pr2 := odT h2
   refine Sk (Cq (Cb (Sr (P3 Y Y Y (li Y (cv b_59 Y Y Y Y (fun w' hs => (laws_markText (by first | assumption | omega | (unfold szm at *; split at * <;> omega)))) ?_))))))
   obtain ⟨x3, hx4⟩ := sL (l := (mapAt fS cS k a i)) (i := i) (by omega)
   refine q1 Y (D_ix (l := (mapAt fS cS k a i)) (j := i) s_58 Y Y Y (fun w' hs => (rO (k := 0) hs Y)) Y (lS hx4)) (li Y (so (α := ByteArray) (z := (markS kk)) 0 z_9 Y Y Y Y Y (lS hx4) ?_))
   refine Dx (Dh (ov [v_a] ((mapAt fS cS k a i).set i (markS kk) : (List ByteArray)) :: Hs) Y (Cr (p1 Y (q1 Y (D_add Y Y Y Y (by omega)) (p1 Y (De (Xb (Xt (Cr (p1 Y (q1 Y (D_add Y Y Y (r := ((i + 1 : Nat) : Int)) (by omega) (by omega)) (Pe Y (D_eq 0 Y (show ((mapAt fS cS k a i).set i (markS kk) : (List ByteArray)) = mapAt fS cS k a (i + 1) from by exact mkS_set (by omega) hk) (fun ac w' hf hs => ⟨_, ?_, i + 1, (kk + 1), ?_, ?_, Y, hf.wk Y, hs⟩))))))))))))))
   ·omega
   ·first | assumption | omega | simp
   ·first | assumption | omega | simp
  ·have pr2 := odF h2
   refine Cx (Xx (Xx (Xe (Xt (Sr (P2 Y Y (Dx (Ct (D_eq 0 Y (show (mapAt fS cS k a i : (List ByteArray)) = mkSs k a from by exact mapAt_done (by omega)) (R_1 Y Y fun w' hs => ⟨congrArg (fun z => Ending.returned (Value.int .i64 z)) ?_, hs⟩))))))))))
   show (kk : Int) = k + a.length
   omega
theorem laws_heldStringS {w : World} {v_a : Value} {a : (List ByteArray)} {k : Int} (h_a : Gd.rd w [v_a] a) (h0 : 0 ≤ k) (h1 : k + a.length ≤ 4611686018427387904) (he : a = mkSs k a) : Calls Tryz.prog 144 [v_a, (iv k)].toArray w (Val w (iv (k + a.length))) := by
 have hm1 := rd_max h_a
 refine enter 22 Tryz.func144 Y Y Y (Sr (Pe Y (Cq (Sr (Pe Y (Cb (Cl (fun m_ ac w' => ∃ (i : Nat), ∃ (kk : Int), (i ≤ a.length) ∧ (kk = k + i) ∧ m_ = a.length - i ∧ Fits ac 22 [(0, v_a), (1, (iv kk)), (5, (nv i))] ∧ St w ([]) w') ?_ ?_)))))))
 ·refine fun ac w' hf hs => ⟨_, 0, k, ?_, ?_, Y, hf.wk Y, hs⟩
  ·first | assumption | omega | simp
  ·first | assumption | omega | simp
 ·rintro m_ ac w' ⟨i, kk, hi, hk, rfl, hf, hs⟩
  refine D.use ?_ hf hs
  clear hf hs ac w'
  refine Cq (Sr (P2 Y Y (q1 Y (Dl s_58 Y Y (rd_sl h_a)) (Pe Y (Ci _ Y (fun h2 => ?_) (fun h2 => ?_))))))
  ·have pr2 := odT h2
   refine Sk (Cq (Cb (Cq (Cq (C_draw mixed [] (by kernel_rfl) (Tk 0 Y (by kernel_rfl) Y (rp Y) (Tk 1 Y (by kernel_rfl) Y (rp Y) ?_)))))))
   obtain ⟨x3, hx4⟩ := sL (l := a) (i := i) (by omega)
   obtain ⟨es5, at6, hr7⟩ := rd_elem (n := 1) rfl h_a hx4
   obtain rfl : es5 = [.string x3] := hr7
   refine Tk 2 Y (by kernel_rfl) Y (D_ix (l := a) (j := i) s_58 Y Y Y (fun w' hs => (rA hs h_a)) Y (lS hx4)) (Tk 3 Y (by kernel_rfl) Y (lr0 o_9 Y Y at6 Y) (Tk 4 Y (by kernel_rfl) Y (rp Y) (ty 5 Y (by kernel_rfl) Y (cv b_59 Y Y Y Y (fun w' hs => (laws_markText (by first | assumption | omega | (unfold szm at *; split at * <;> omega)))) ?_))))
   refine tS (fun _ hs => hs) (Tk 6 Y (by kernel_rfl) Y (D_neS Y Y Y) (tE (by kernel_rfl) (Xt (Ci _ Y (fun h8 => ?_) (fun h8 => ?_)))))
   ·have pr8 := odF (not_t h8)
    refine Sr (Pe Y (Ct (Xr (Xq (Xr (Xr (Xq (Xr (Ri Y Y ?_)))))))))
    show ((-1) : Int) = _
    exfalso; have := mkS_fix he hx4; rw [← hk] at this; contradiction
   ·have pr8 := odT (not_f h8)
    refine Sk (Cr (p1 Y (q1 Y (D_add Y Y Y Y (by omega)) (p1 Y (De (Xb (Xt (Cr (p1 Y (q1 Y (D_add Y Y Y (r := ((i + 1 : Nat) : Int)) (by omega) (by omega)) (Pe Y (fun ac w' hf hs => ⟨_, ?_, i + 1, (kk + 1), ?_, ?_, Y, hf.wk Y, hs⟩))))))))))))
    ·omega
    ·first | assumption | omega | simp
    ·first | assumption | omega | simp
  ·have pr2 := odF h2
   refine Cx (Xx (Xx (Xe (Xt (Sr (P2 Y Y (Dx (Ct (Ri Y Y ?_)))))))))
   show (kk : Int) = _
   omega
theorem laws_markCondS (w0 : World) (Hs : List Chunk) (w : World) (v_a : Value) (a : (List Cond)) (k : Int) (h0 : 0 ≤ k) (h1 : k + sumC cCo a ≤ 4611686018427387904) (hst : St w0 (ov [v_a] (a : (List Cond)) :: Hs) w) : Calls Tryz.prog 60 [v_a, (iv k)].toArray w (fun e w' => e = .returned (iv (k + sumC cCo a)) ∧ St w0 (ov [v_a] (mapS fCo cCo k a : (List Cond)) :: Hs) w') := by
 have hm1 := rd_max (rO (k := 0) hst rfl)
 refine enterS 53 Tryz.func60 Y Y Y hst (Sr (Pe Y (Dh (ov [v_a] (a : (List Cond)) :: Hs) Y (Cq (Sr (Pe Y (Cb (Cl (fun m_ ac w' => ∃ (i : Nat), ∃ (kk : Int), (i ≤ a.length) ∧ (kk = k + sumC cCo (a.take i)) ∧ m_ = a.length - i ∧ Fits ac 53 [(0, v_a), (1, (iv kk)), (5, (nv i))] ∧ St w0 (ov [v_a] (mapAt fCo cCo k a i : (List Cond)) :: Hs) w') ?_ ?_))))))))
 ·refine D_eq 0 Y (show (a : (List Cond)) = mapAt fCo cCo k a 0 from by rw [mapAt_zero]) (fun ac w' hf hs => ⟨_, 0, k, ?_, ?_, Y, hf.wk Y, hs⟩)
  ·first | assumption | omega | simp
  ·simp [sumC]
 ·rintro m_ ac w' ⟨i, kk, hi, hk, rfl, hf, hs⟩
  refine D.use ?_ hf hs
  clear hf hs ac w'
  have hcl := mapAt_len (f := fCo) (c := cCo) (k := k) hi
  have htk := sumC_take_le a cCo i
  refine Cq (Sr (P2 Y Y (q1 Y (D_leno 0 s_93 Y Y Y) (Pe Y (Dh (_ :: Hs) Y (Ci _ Y (fun h2 => ?_) (fun h2 => ?_)))))))
  ·have pr2 := odT h2
   refine Sk (Cq (Cb (Sr (P3 Y Y Y ?_))))
   obtain ⟨x3, hx4⟩ := sL (l := (mapAt fCo cCo k a i)) (i := i) (by omega)
   refine D_take hx4 fun es5 => ?_
   refine Dp (fun w' hs => shape_Cond (rO (k := 0) hs Y)) ?_
   rintro ⟨v6, rfl, ho7⟩
   refine q1 Y (D_ixh 1 s_93 Y Y Y Y Y) ?_
   have hstep := mk_step hi hx4 hk
   have hcc : cCo x3 = 4 + x3.Pattern.Args.length := rfl
   refine q1 Y (D_fa f_147_0 Y Y) (D_unpair (α := Int) (β := Go.Sy.Pattern × ByteArray × ByteArray) (c1 := [(iv x3.Kind)]) (c2 := [(.string x3.Pattern.Rel), v6, (.string x3.Left), (.string x3.Right)]) (x := x3.Kind) (y := (x3.Pattern, x3.Left, x3.Right)) Y Y (D_fd [] 1 Y (D_unpair (α := Go.Sy.Pattern) (β := ByteArray × ByteArray) (c1 := [(.string x3.Pattern.Rel), v6]) (c2 := [(.string x3.Left), (.string x3.Right)]) (x := x3.Pattern) (y := (x3.Left, x3.Right)) Y Y (D_fd [1] 0 Y (D_unpair (α := ByteArray) (β := ByteArray) (c1 := [(.string x3.Left)]) (c2 := [(.string x3.Right)]) (x := x3.Left) (y := (x3.Right)) Y Y (D_fd [] 1 Y (D_fd [] 1 Y (li Y (sh (n := 5) (f := 0) 1 Y z_3 Y Y Y Y Y Y Y (by simp) ?_)))))))))
   refine Dx (Sr (p1 Y (q1 Y (D_add Y Y Y Y (by omega)) (Pe Y (Sr (P3 Y Y Y (li Y (cv b_59 Y Y Y Y (fun w' hs => (laws_markText (by first | assumption | omega | (unfold szm at *; split at * <;> omega)))) ?_))))))))
   refine q1 Y (D_ixh 1 s_93 Y Y Y Y Y) (q1 Y (D_fa f_147_1 Y Y) (q1 Y (D_fa' f_145_0 Y Y (q := 1) Y) (li Y (sh (n := 5) (f := 1) 1 Y z_9 Y Y Y Y Y Y Y (by simp) ?_))))
   refine Dx (D_wk [0, 1, 5] Y (Sr (p1 Y (q1 Y (D_add Y Y Y Y (by omega)) (Pe Y (Sr (P2 Y Y (q1 Y (D_ixh 1 s_93 Y Y Y Y Y) (q1 Y (D_fa f_147_1 Y Y) (q1 Y (D_fa' f_145_1 Y Y (q := 2) Y) (q1 Y (lh (n := 5) 1 Y o_58 Y Y Y Y) (p1 Y (D_unpair (α := ByteArray) (β := (List ByteArray)) (c1 := [(.string x3.Pattern.Rel)]) (c2 := [v6]) (x := x3.Pattern.Rel) (y := (x3.Pattern.Args)) Y Y (D_fd [] 1 Y (li Y (cm b_62 Y Y Y Y (fun w' hs => laws_markStringS _ _ w' v6 x3.Pattern.Args ((kk + 1) + 1) (by first | assumption | omega | (simp only; omega)) (by first | assumption | omega | (simp only; omega)) hs) ?_))))))))))))))))
   refine Pe Y (Sr (P3 Y Y Y (li Y (cv b_59 Y Y Y Y (fun w' hs => (laws_markText (by first | assumption | omega | (unfold szm at *; split at * <;> omega)))) ?_))))
   refine q1 Y (D_ixh 1 s_93 Y Y Y Y Y) (q1 Y (D_fa f_147_2 Y Y) (li Y (sh (n := 5) (f := 3) 1 Y z_9 Y Y Y Y Y Y Y (by simp) ?_)))
   refine Dx (D_wk [0, 1, 5] Y (Sr (p1 Y (q1 Y (D_add Y Y Y Y (by omega)) (Pe Y (Sr (P3 Y Y Y (li Y (cv b_59 Y Y Y Y (fun w' hs => (laws_markText (by first | assumption | omega | (unfold szm at *; split at * <;> omega)))) ?_)))))))))
   refine q1 Y (D_ixh 1 s_93 Y Y Y Y Y) (q1 Y (D_fa f_147_3 Y Y) (li Y (sh (n := 5) (f := 4) 1 Y z_9 Y Y Y Y Y Y Y (by simp) ?_)))
   refine Dx (Cr (p1 Y (q1 Y (D_add Y Y Y Y (by omega)) (p1 Y (De (Xb (Xt (Cr (p1 Y (q1 Y (D_add Y Y Y (r := ((i + 1 : Nat) : Int)) (by omega) (by omega)) (Pe Y (pk_Cond (r := (⟨kk, ⟨(markS (kk + 1)), mkSs ((kk + 1) + 1) x3.Pattern.Args⟩, (markS (((kk + 1) + 1) + x3.Pattern.Args.length)), (markS ((((kk + 1) + 1) + x3.Pattern.Args.length) + 1))⟩ : Cond)) (D_put (D_eq 0 Y (show ((mapAt fCo cCo k a i).set i (⟨kk, ⟨(markS (kk + 1)), mkSs ((kk + 1) + 1) x3.Pattern.Args⟩, (markS (((kk + 1) + 1) + x3.Pattern.Args.length)), (markS ((((kk + 1) + 1) + x3.Pattern.Args.length) + 1))⟩ : Cond) : (List Cond)) = mapAt fCo cCo k a (i + 1) from by exact mk_set hi hx4 hk Y) (fun ac w' hf hs => ⟨_, ?_, i + 1, (((((kk + 1) + 1) + x3.Pattern.Args.length) + 1) + 1), ?_, ?_, Y, hf.wk Y, hs⟩)))))))))))))))
   ·omega
   ·first | assumption | omega | simp
   ·omega
  ·have pr2 := odF h2
   refine Cx (Xx (Xx (Xe (Xt (Sr (P2 Y Y (Dx (Ct (D_eq 0 Y (show (mapAt fCo cCo k a i : (List Cond)) = mapS fCo cCo k a from by exact mapAt_done (by omega)) (R_1 Y Y fun w' hs => ⟨congrArg (fun z => Ending.returned (Value.int .i64 z)) ?_, hs⟩))))))))))
   show (kk : Int) = k + sumC cCo a
   rw [List.take_of_length_le (by omega)] at hk; exact hk
set_option maxHeartbeats 4000000 in
theorem laws_heldCondS {w : World} {v_a : Value} {a : (List Cond)} {k : Int} (h_a : Gd.rd w [v_a] a) (h0 : 0 ≤ k) (h1 : k + sumC cCo a ≤ 4611686018427387904) (he : a = mapS fCo cCo k a) : Calls Tryz.prog 142 [v_a, (iv k)].toArray w (Val w (iv (k + sumC cCo a))) := by
 have hm1 := rd_max h_a
 refine enter 63 Tryz.func142 Y Y Y (Sr (Pe Y (Cq (Sr (Pe Y (Cb (Cl (fun m_ ac w' => ∃ (i : Nat), ∃ (kk : Int), (i ≤ a.length) ∧ (kk = k + sumC cCo (a.take i)) ∧ m_ = a.length - i ∧ Fits ac 63 [(0, v_a), (1, (iv kk)), (5, (nv i))] ∧ St w ([]) w') ?_ ?_)))))))
 ·refine fun ac w' hf hs => ⟨_, 0, k, ?_, ?_, Y, hf.wk Y, hs⟩
  ·first | assumption | omega | simp
  ·simp [sumC]
 ·rintro m_ ac w' ⟨i, kk, hi, hk, rfl, hf, hs⟩
  refine D.use ?_ hf hs
  clear hf hs ac w'
  have htk := sumC_take_le a cCo i
  refine Cq (Sr (P2 Y Y (q1 Y (Dl s_93 Y Y (rd_sl h_a)) (Pe Y (Ci _ Y (fun h2 => ?_) (fun h2 => ?_))))))
  ·have pr2 := odT h2
   refine Sk (Cq (Cb (Cq (Sr (P2 Y Y ?_)))))
   obtain ⟨x3, hx4⟩ := sL (l := a) (i := i) (by omega)
   obtain ⟨es5, at6, hr7⟩ := rd_elem (n := 5) rfl h_a hx4
   obtain ⟨u9, rfl, hu10⟩ := open_Cond hr7
   have hm11 := rd_max hu10
   have hb12 := sub_Cond_Pattern hr7
   refine q1 Y (D_ix (l := a) (j := i) s_93 Y Y Y (fun w' hs => (rA hs h_a)) Y (lS hx4)) ?_
   have hfx := mapS_fix he hx4
   rw [← hk] at hfx
   have hF0 : x3.Kind = kk := congrArg (fun y => y.Kind) hfx
   have hF1 : x3.Pattern.Rel = markS (kk + 1) := congrArg (fun y => y.Pattern.Rel) hfx
   have hF2 : x3.Pattern.Args = mkSs (kk + 1 + 1) x3.Pattern.Args := congrArg (fun y => y.Pattern.Args) hfx
   have hF3 : x3.Left = markS (kk + 1 + 1 + x3.Pattern.Args.length) := congrArg (fun y => y.Left) hfx
   have hF4 : x3.Right = markS (kk + 1 + 1 + x3.Pattern.Args.length + 1) := congrArg (fun y => y.Right) hfx
   have hstep := mk_stepH (c := cCo) hx4 hk
   have hcc : cCo x3 = 4 + x3.Pattern.Args.length := rfl
   refine q1 Y (D_fa f_147_0 Y Y) (q1 Y (lr o_3 Y Y at6 Y) (P2 Y Y (Dx (Ci _ Y (fun h13 => ?_) (fun h13 => ?_)))))
   ·have pr13 := bne_iff_ne.1 h13
    refine Sr (Pe Y (Ct (Xr (Xq (Xr (Xr (Xq (Xr (Ri Y Y ?_)))))))))
    show ((-1) : Int) = _
    first | (exfalso; contradiction) | (exfalso; omega) | (rw [List.take_of_length_le (by omega)] at hk; exact hk)
   ·have pr13 := eq_of_bne_f h13
    refine Sk (Sr (p1 Y (q1 Y (D_add Y Y Y Y (by omega)) (Pe Y (Cq (Cq (C_draw mixed [] (by kernel_rfl) (Tk 0 Y (by kernel_rfl) Y (rp Y) (Tk 1 Y (by kernel_rfl) Y (rp Y) (Tk 2 Y (by kernel_rfl) Y (D_ix (l := a) (j := i) s_93 Y Y Y (fun w' hs => (rA hs h_a)) Y (lS hx4)) (Tk 3 Y (by kernel_rfl) Y (D_fa f_147_1 Y Y) (Tk 4 Y (by kernel_rfl) Y (D_fa' f_145_0 Y Y (q := 1) Y) (Tk 5 Y (by kernel_rfl) Y (lr o_9 Y Y at6 Y) (Tk 6 Y (by kernel_rfl) Y (rp Y) (ty 7 Y (by kernel_rfl) Y (cv b_59 Y Y Y Y (fun w' hs => (laws_markText (by first | assumption | omega | (unfold szm at *; split at * <;> omega)))) ?_))))))))))))))))
    refine tS (fun _ hs => hs) (Tk 8 Y (by kernel_rfl) Y (D_neS Y Y Y) (tE (by kernel_rfl) (Xt (D_wk [0, 1, 5, 29] Y (Ci _ Y (fun h14 => ?_) (fun h14 => ?_))))))
    ·have pr14 := odF (not_t h14)
     refine Sr (Pe Y (Ct (Xr (Xq (Xr (Xr (Xq (Xr (Ri Y Y ?_)))))))))
     show ((-1) : Int) = _
     first | (exfalso; contradiction) | (exfalso; omega) | (rw [List.take_of_length_le (by omega)] at hk; exact hk)
    ·have pr14 := odT (not_f h14)
     refine Sk (Sr (p1 Y (q1 Y (D_add Y Y Y Y (by omega)) (Pe Y (Sr (P2 Y Y (q1 Y (D_ix (l := a) (j := i) s_93 Y Y Y (fun w' hs => (rA hs h_a)) Y (lS hx4)) (q1 Y (D_fa f_147_1 Y Y) (q1 Y (D_fa' f_145_1 Y Y (q := 2) Y) (q1 Y (lr o_58 Y Y at6 Y) (p1 Y (li Y (cv b_144 Y Y Y Y (fun w' hs => (laws_heldStringS (rA hs hu10) (by first | assumption | omega | (unfold szm at *; split at * <;> omega)) (by first | assumption | omega | (unfold szm at *; split at * <;> omega)) (by first | assumption | omega | (unfold szm at *; split at * <;> omega)))) ?_)))))))))))))
     refine Pe Y (Cq (Sr (P2 Y Y (Dx (Ci _ Y (fun h15 => ?_) (fun h15 => ?_))))))
     ·have pr15 := odT h15
      refine Sr (Pe Y (Ct (Xr (Xq (Xr (Xr (Xq (Xr (Ri Y Y ?_)))))))))
      show ((-1) : Int) = _
      first | (exfalso; contradiction) | (exfalso; omega) | (rw [List.take_of_length_le (by omega)] at hk; exact hk)
     ·have pr15 := odF h15
      refine Sk (Cq (Cq (C_draw mixed [] (by kernel_rfl) (Tk 0 Y (by kernel_rfl) Y (rp Y) (Tk 1 Y (by kernel_rfl) Y (rp Y) (Tk 2 Y (by kernel_rfl) Y (D_ix (l := a) (j := i) s_93 Y Y Y (fun w' hs => (rA hs h_a)) Y (lS hx4)) (Tk 3 Y (by kernel_rfl) Y (D_fa f_147_2 Y Y) (Tk 4 Y (by kernel_rfl) Y (lr o_9 Y Y at6 Y) (Tk 5 Y (by kernel_rfl) Y (rp Y) (ty 6 Y (by kernel_rfl) Y (cv b_59 Y Y Y Y (fun w' hs => (laws_markText (by first | assumption | omega | (unfold szm at *; split at * <;> omega)))) ?_)))))))))))
      refine tS (fun _ hs => hs) (Tk 7 Y (by kernel_rfl) Y (D_neS Y Y Y) (tE (by kernel_rfl) (Xt (D_wk [0, 1, 5, 49] Y (Ci _ Y (fun h16 => ?_) (fun h16 => ?_))))))
      ·have pr16 := odF (not_t h16)
       refine Sr (Pe Y (Ct (Xr (Xq (Xr (Xr (Xq (Xr (Ri Y Y ?_)))))))))
       show ((-1) : Int) = _
       first | (exfalso; contradiction) | (exfalso; omega) | (rw [List.take_of_length_le (by omega)] at hk; exact hk)
      ·have pr16 := odT (not_f h16)
       refine Sk (Sr (p1 Y (q1 Y (D_add Y Y Y Y (by omega)) (Pe Y (Cq (Cq (C_draw mixed [] (by kernel_rfl) (Tk 0 Y (by kernel_rfl) Y (rp Y) (Tk 1 Y (by kernel_rfl) Y (rp Y) (Tk 2 Y (by kernel_rfl) Y (D_ix (l := a) (j := i) s_93 Y Y Y (fun w' hs => (rA hs h_a)) Y (lS hx4)) (Tk 3 Y (by kernel_rfl) Y (D_fa f_147_3 Y Y) (Tk 4 Y (by kernel_rfl) Y (lr o_9 Y Y at6 Y) (Tk 5 Y (by kernel_rfl) Y (rp Y) (ty 6 Y (by kernel_rfl) Y (cv b_59 Y Y Y Y (fun w' hs => (laws_markText (by first | assumption | omega | (unfold szm at *; split at * <;> omega)))) ?_)))))))))))))))
       refine tS (fun _ hs => hs) (Tk 7 Y (by kernel_rfl) Y (D_neS Y Y Y) (tE (by kernel_rfl) (Xt (Ci _ Y (fun h17 => ?_) (fun h17 => ?_)))))
       ·have pr17 := odF (not_t h17)
        refine Sr (Pe Y (Ct (Xr (Xq (Xr (Xr (Xq (Xr (Ri Y Y ?_)))))))))
        show ((-1) : Int) = _
        first | (exfalso; contradiction) | (exfalso; omega) | (rw [List.take_of_length_le (by omega)] at hk; exact hk)
       ·have pr17 := odT (not_f h17)
        refine Sk (Cr (p1 Y (q1 Y (D_add Y Y Y Y (by omega)) (p1 Y (De (Xb (Xt (Cr (p1 Y (q1 Y (D_add Y Y Y (r := ((i + 1 : Nat) : Int)) (by omega) (by omega)) (Pe Y (fun ac w' hf hs => ⟨_, ?_, i + 1, (((((kk + 1) + 1) + x3.Pattern.Args.length) + 1) + 1), ?_, ?_, Y, hf.wk Y, hs⟩))))))))))))
        ·omega
        ·first | assumption | omega | simp
        ·omega
  ·have pr2 := odF h2
   refine Cx (Xx (Xx (Xe (Xt (Sr (P2 Y Y (Dx (Ct (Ri Y Y ?_)))))))))
   show (kk : Int) = _
   first | (exfalso; contradiction) | (exfalso; omega) | (rw [List.take_of_length_le (by omega)] at hk; exact hk)
theorem laws_markActionS (w0 : World) (Hs : List Chunk) (w : World) (v_a : Value) (a : (List Action)) (k : Int) (h0 : 0 ≤ k) (h1 : k + sumC cAc a ≤ 4611686018427387904) (hst : St w0 (ov [v_a] (a : (List Action)) :: Hs) w) : Calls Tryz.prog 61 [v_a, (iv k)].toArray w (fun e w' => e = .returned (iv (k + sumC cAc a)) ∧ St w0 (ov [v_a] (mapS fAc cAc k a : (List Action)) :: Hs) w') := by
 have hm1 := rd_max (rO (k := 0) hst rfl)
 refine enterS 37 Tryz.func61 Y Y Y hst (Sr (Pe Y (Dh (ov [v_a] (a : (List Action)) :: Hs) Y (Cq (Sr (Pe Y (Cb (Cl (fun m_ ac w' => ∃ (i : Nat), ∃ (kk : Int), (i ≤ a.length) ∧ (kk = k + sumC cAc (a.take i)) ∧ m_ = a.length - i ∧ Fits ac 37 [(0, v_a), (1, (iv kk)), (5, (nv i))] ∧ St w0 (ov [v_a] (mapAt fAc cAc k a i : (List Action)) :: Hs) w') ?_ ?_))))))))
 ·refine D_eq 0 Y (show (a : (List Action)) = mapAt fAc cAc k a 0 from by rw [mapAt_zero]) (fun ac w' hf hs => ⟨_, 0, k, ?_, ?_, Y, hf.wk Y, hs⟩)
  ·first | assumption | omega | simp
  ·simp [sumC]
 ·rintro m_ ac w' ⟨i, kk, hi, hk, rfl, hf, hs⟩
  refine D.use ?_ hf hs
  clear hf hs ac w'
  have hcl := mapAt_len (f := fAc) (c := cAc) (k := k) hi
  have htk := sumC_take_le a cAc i
  refine Cq (Sr (P2 Y Y (q1 Y (D_leno 0 s_94 Y Y Y) (Pe Y (Dh (_ :: Hs) Y (Ci _ Y (fun h2 => ?_) (fun h2 => ?_)))))))
  ·have pr2 := odT h2
   refine Sk (Cq (Cb (Sr (P3 Y Y Y ?_))))
   obtain ⟨x3, hx4⟩ := sL (l := (mapAt fAc cAc k a i)) (i := i) (by omega)
   refine D_take hx4 fun es5 => ?_
   refine Dp (fun w' hs => shape_Action (rO (k := 0) hs Y)) ?_
   rintro ⟨v6, rfl, ho7⟩
   refine q1 Y (D_ixh 1 s_94 Y Y Y Y Y) ?_
   have hstep := mk_step hi hx4 hk
   have hcc : cAc x3 = 2 + x3.Pattern.Args.length := rfl
   refine q1 Y (D_fa f_159_0 Y Y) (D_unpair (α := Int) (β := Go.Sy.Pattern) (c1 := [(iv x3.Kind)]) (c2 := [(.string x3.Pattern.Rel), v6]) (x := x3.Kind) (y := (x3.Pattern)) Y Y (D_fd [] 1 Y (li Y (sh (n := 3) (f := 0) 1 Y z_3 Y Y Y Y Y Y Y (by simp) ?_))))
   refine Dx (Sr (p1 Y (q1 Y (D_add Y Y Y Y (by omega)) (Pe Y (Sr (P3 Y Y Y (li Y (cv b_59 Y Y Y Y (fun w' hs => (laws_markText (by first | assumption | omega | (unfold szm at *; split at * <;> omega)))) ?_))))))))
   refine q1 Y (D_ixh 1 s_94 Y Y Y Y Y) (q1 Y (D_fa f_159_1 Y Y) (q1 Y (D_fa' f_145_0 Y Y (q := 1) Y) (li Y (sh (n := 3) (f := 1) 1 Y z_9 Y Y Y Y Y Y Y (by simp) ?_))))
   refine Dx (D_wk [0, 1, 5] Y (Sr (p1 Y (q1 Y (D_add Y Y Y Y (by omega)) (Pe Y (Cr (P2 Y Y (q1 Y (D_ixh 1 s_94 Y Y Y Y Y) (q1 Y (D_fa f_159_1 Y Y) (q1 Y (D_fa' f_145_1 Y Y (q := 2) Y) (q1 Y (lh (n := 3) 1 Y o_58 Y Y Y Y) (p1 Y (D_unpair (α := ByteArray) (β := (List ByteArray)) (c1 := [(.string x3.Pattern.Rel)]) (c2 := [v6]) (x := x3.Pattern.Rel) (y := (x3.Pattern.Args)) Y Y (D_fd [] 1 Y (li Y (cm b_62 Y Y Y Y (fun w' hs => laws_markStringS _ _ w' v6 x3.Pattern.Args ((kk + 1) + 1) (by first | assumption | omega | (simp only; omega)) (by first | assumption | omega | (simp only; omega)) hs) ?_))))))))))))))))
   refine p1 Y (De (Xb (Xt (Cr (p1 Y (q1 Y (D_add Y Y Y (r := ((i + 1 : Nat) : Int)) (by omega) (by omega)) (Pe Y (pk_Action (r := (⟨kk, ⟨(markS (kk + 1)), mkSs ((kk + 1) + 1) x3.Pattern.Args⟩⟩ : Action)) (D_put (D_eq 0 Y (show ((mapAt fAc cAc k a i).set i (⟨kk, ⟨(markS (kk + 1)), mkSs ((kk + 1) + 1) x3.Pattern.Args⟩⟩ : Action) : (List Action)) = mapAt fAc cAc k a (i + 1) from by exact mk_set hi hx4 hk Y) (fun ac w' hf hs => ⟨_, ?_, i + 1, (((kk + 1) + 1) + x3.Pattern.Args.length), ?_, ?_, Y, hf.wk Y, hs⟩)))))))))))
   ·omega
   ·first | assumption | omega | simp
   ·omega
  ·have pr2 := odF h2
   refine Cx (Xx (Xx (Xe (Xt (Sr (P2 Y Y (Dx (Ct (D_eq 0 Y (show (mapAt fAc cAc k a i : (List Action)) = mapS fAc cAc k a from by exact mapAt_done (by omega)) (R_1 Y Y fun w' hs => ⟨congrArg (fun z => Ending.returned (Value.int .i64 z)) ?_, hs⟩))))))))))
   show (kk : Int) = k + sumC cAc a
   rw [List.take_of_length_le (by omega)] at hk; exact hk
theorem laws_heldActionS {w : World} {v_a : Value} {a : (List Action)} {k : Int} (h_a : Gd.rd w [v_a] a) (h0 : 0 ≤ k) (h1 : k + sumC cAc a ≤ 4611686018427387904) (he : a = mapS fAc cAc k a) : Calls Tryz.prog 143 [v_a, (iv k)].toArray w (Val w (iv (k + sumC cAc a))) := by
 have hm1 := rd_max h_a
 refine enter 43 Tryz.func143 Y Y Y (Sr (Pe Y (Cq (Sr (Pe Y (Cb (Cl (fun m_ ac w' => ∃ (i : Nat), ∃ (kk : Int), (i ≤ a.length) ∧ (kk = k + sumC cAc (a.take i)) ∧ m_ = a.length - i ∧ Fits ac 43 [(0, v_a), (1, (iv kk)), (5, (nv i))] ∧ St w ([]) w') ?_ ?_)))))))
 ·refine fun ac w' hf hs => ⟨_, 0, k, ?_, ?_, Y, hf.wk Y, hs⟩
  ·first | assumption | omega | simp
  ·simp [sumC]
 ·rintro m_ ac w' ⟨i, kk, hi, hk, rfl, hf, hs⟩
  refine D.use ?_ hf hs
  clear hf hs ac w'
  have htk := sumC_take_le a cAc i
  refine Cq (Sr (P2 Y Y (q1 Y (Dl s_94 Y Y (rd_sl h_a)) (Pe Y (Ci _ Y (fun h2 => ?_) (fun h2 => ?_))))))
  ·have pr2 := odT h2
   refine Sk (Cq (Cb (Cq (Sr (P2 Y Y ?_)))))
   obtain ⟨x3, hx4⟩ := sL (l := a) (i := i) (by omega)
   obtain ⟨es5, at6, hr7⟩ := rd_elem (n := 3) rfl h_a hx4
   obtain ⟨u9, rfl, hu10⟩ := open_Action hr7
   have hm11 := rd_max hu10
   have hb12 := sub_Action_Pattern hr7
   refine q1 Y (D_ix (l := a) (j := i) s_94 Y Y Y (fun w' hs => (rA hs h_a)) Y (lS hx4)) ?_
   have hfx := mapS_fix he hx4
   rw [← hk] at hfx
   have hF0 : x3.Kind = kk := congrArg (fun y => y.Kind) hfx
   have hF1 : x3.Pattern.Rel = markS (kk + 1) := congrArg (fun y => y.Pattern.Rel) hfx
   have hF2 : x3.Pattern.Args = mkSs (kk + 1 + 1) x3.Pattern.Args := congrArg (fun y => y.Pattern.Args) hfx
   have hstep := mk_stepH (c := cAc) hx4 hk
   have hcc : cAc x3 = 2 + x3.Pattern.Args.length := rfl
   refine q1 Y (D_fa f_159_0 Y Y) (q1 Y (lr o_3 Y Y at6 Y) (P2 Y Y (Dx (Ci _ Y (fun h13 => ?_) (fun h13 => ?_)))))
   ·have pr13 := bne_iff_ne.1 h13
    refine Sr (Pe Y (Ct (Xr (Xq (Xr (Xr (Xq (Xr (Ri Y Y ?_)))))))))
    show ((-1) : Int) = _
    first | (exfalso; contradiction) | (exfalso; omega) | (rw [List.take_of_length_le (by omega)] at hk; exact hk)
   ·have pr13 := eq_of_bne_f h13
    refine Sk (Sr (p1 Y (q1 Y (D_add Y Y Y Y (by omega)) (Pe Y (Cq (Cq (C_draw mixed [] (by kernel_rfl) (Tk 0 Y (by kernel_rfl) Y (rp Y) (Tk 1 Y (by kernel_rfl) Y (rp Y) (Tk 2 Y (by kernel_rfl) Y (D_ix (l := a) (j := i) s_94 Y Y Y (fun w' hs => (rA hs h_a)) Y (lS hx4)) (Tk 3 Y (by kernel_rfl) Y (D_fa f_159_1 Y Y) (Tk 4 Y (by kernel_rfl) Y (D_fa' f_145_0 Y Y (q := 1) Y) (Tk 5 Y (by kernel_rfl) Y (lr o_9 Y Y at6 Y) (Tk 6 Y (by kernel_rfl) Y (rp Y) (ty 7 Y (by kernel_rfl) Y (cv b_59 Y Y Y Y (fun w' hs => (laws_markText (by first | assumption | omega | (unfold szm at *; split at * <;> omega)))) ?_))))))))))))))))
    refine tS (fun _ hs => hs) (Tk 8 Y (by kernel_rfl) Y (D_neS Y Y Y) (tE (by kernel_rfl) (Xt (D_wk [0, 1, 5, 29] Y (Ci _ Y (fun h14 => ?_) (fun h14 => ?_))))))
    ·have pr14 := odF (not_t h14)
     refine Sr (Pe Y (Ct (Xr (Xq (Xr (Xr (Xq (Xr (Ri Y Y ?_)))))))))
     show ((-1) : Int) = _
     first | (exfalso; contradiction) | (exfalso; omega) | (rw [List.take_of_length_le (by omega)] at hk; exact hk)
    ·have pr14 := odT (not_f h14)
     refine Sk (Sr (p1 Y (q1 Y (D_add Y Y Y Y (by omega)) (Pe Y (Sr (P2 Y Y (q1 Y (D_ix (l := a) (j := i) s_94 Y Y Y (fun w' hs => (rA hs h_a)) Y (lS hx4)) (q1 Y (D_fa f_159_1 Y Y) (q1 Y (D_fa' f_145_1 Y Y (q := 2) Y) (q1 Y (lr o_58 Y Y at6 Y) (p1 Y (li Y (cv b_144 Y Y Y Y (fun w' hs => (laws_heldStringS (rA hs hu10) (by first | assumption | omega | (unfold szm at *; split at * <;> omega)) (by first | assumption | omega | (unfold szm at *; split at * <;> omega)) (by first | assumption | omega | (unfold szm at *; split at * <;> omega)))) ?_)))))))))))))
     refine Pe Y (Sr (P2 Y Y (Dx (Ci _ Y (fun h15 => ?_) (fun h15 => ?_)))))
     ·have pr15 := odT h15
      refine Sr (Pe Y (Ct (Xq (Xr (Xr (Xq (Xr (Ri Y Y ?_))))))))
      show ((-1) : Int) = _
      first | (exfalso; contradiction) | (exfalso; omega) | (rw [List.take_of_length_le (by omega)] at hk; exact hk)
     ·have pr15 := odF h15
      refine Ck (Xb (Xt (Cr (p1 Y (q1 Y (D_add Y Y Y (r := ((i + 1 : Nat) : Int)) (by omega) (by omega)) (Pe Y (fun ac w' hf hs => ⟨_, ?_, i + 1, (((kk + 1) + 1) + x3.Pattern.Args.length), ?_, ?_, Y, hf.wk Y, hs⟩)))))))
      ·omega
      ·first | assumption | omega | simp
      ·omega
  ·have pr2 := odF h2
   refine Cx (Xx (Xx (Xe (Xt (Sr (P2 Y Y (Dx (Ct (Ri Y Y ?_)))))))))
   show (kk : Int) = _
   first | (exfalso; contradiction) | (exfalso; omega) | (rw [List.take_of_length_le (by omega)] at hk; exact hk)
theorem laws_markRuleS (w0 : World) (Hs : List Chunk) (w : World) (v_a : Value) (a : (List Rule)) (k : Int) (h0 : 0 ≤ k) (h1 : k + sumC cRu a ≤ 4611686018427387904) (hst : St w0 (ov [v_a] (a : (List Rule)) :: Hs) w) : Calls Tryz.prog 18 [v_a, (iv k)].toArray w (fun e w' => e = .returned (iv (k + sumC cRu a)) ∧ St w0 (ov [v_a] (mapS fRu cRu k a : (List Rule)) :: Hs) w') := by
 have hm1 := rd_max (rO (k := 0) hst rfl)
 refine enterS 42 Tryz.func18 Y Y Y hst (Sr (Pe Y (Dh (ov [v_a] (a : (List Rule)) :: Hs) Y (Cq (Sr (Pe Y (Cb (Cl (fun m_ ac w' => ∃ (i : Nat), ∃ (kk : Int), (i ≤ a.length) ∧ (kk = k + sumC cRu (a.take i)) ∧ m_ = a.length - i ∧ Fits ac 42 [(0, v_a), (1, (iv kk)), (5, (nv i))] ∧ St w0 (ov [v_a] (mapAt fRu cRu k a i : (List Rule)) :: Hs) w') ?_ ?_))))))))
 ·refine D_eq 0 Y (show (a : (List Rule)) = mapAt fRu cRu k a 0 from by rw [mapAt_zero]) (fun ac w' hf hs => ⟨_, 0, k, ?_, ?_, Y, hf.wk Y, hs⟩)
  ·first | assumption | omega | simp
  ·simp [sumC]
 ·rintro m_ ac w' ⟨i, kk, hi, hk, rfl, hf, hs⟩
  refine D.use ?_ hf hs
  clear hf hs ac w'
  have hcl := mapAt_len (f := fRu) (c := cRu) (k := k) hi
  have htk := sumC_take_le a cRu i
  refine Cq (Sr (P2 Y Y (q1 Y (D_leno 0 s_40 Y Y Y) (Pe Y (Dh (_ :: Hs) Y (Ci _ Y (fun h2 => ?_) (fun h2 => ?_)))))))
  ·have pr2 := odT h2
   refine Sk (Cq (Cb (Sr (P3 Y Y Y (li Y (cv b_59 Y Y Y Y (fun w' hs => (laws_markText (by first | assumption | omega | (unfold szm at *; split at * <;> omega)))) ?_))))))
   obtain ⟨x3, hx4⟩ := sL (l := (mapAt fRu cRu k a i)) (i := i) (by omega)
   refine D_take hx4 fun es5 => ?_
   refine Dp (fun w' hs => shape_Rule (rO (k := 0) hs Y)) ?_
   rintro ⟨v6, v7, rfl, ho8, ho9⟩
   refine q1 Y (D_ixh 1 s_40 Y Y Y Y Y) ?_
   have hstep := mk_step hi hx4 hk
   have hcc : cRu x3 = 2 + sumC cCo x3.If + sumC cAc x3.Then := rfl
   refine q1 Y (D_fa f_96_0 Y Y) (D_unpair (α := ByteArray) (β := Int × (List Cond) × (List Action)) (c1 := [(.string x3.Name)]) (c2 := [(iv x3.Priority), v6, v7]) (x := x3.Name) (y := (x3.Priority, x3.If, x3.Then)) Y Y (D_fd [] 1 Y (D_unpair (α := Int) (β := (List Cond) × (List Action)) (c1 := [(iv x3.Priority)]) (c2 := [v6, v7]) (x := x3.Priority) (y := (x3.If, x3.Then)) Y Y (D_fd [] 1 Y (D_unpair (α := (List Cond)) (β := (List Action)) (c1 := [v6]) (c2 := [v7]) (x := x3.If) (y := (x3.Then)) Y Y (D_fd [1] 0 Y (li Y (sh (n := 4) (f := 0) 2 Y z_9 Y Y Y Y Y Y Y (by simp) ?_))))))))
   refine Dx (Sr (p1 Y (q1 Y (D_add Y Y Y Y (by omega)) (Pe Y (Sr (P3 Y Y Y (q1 Y (D_ixh 2 s_40 Y Y Y Y Y) (q1 Y (D_fa f_96_1 Y Y) (li Y (sh (n := 4) (f := 1) 2 Y z_3 Y Y Y Y Y Y Y (by simp) ?_))))))))))
   refine Dx (D_wk [0, 1, 5] Y (Sr (p1 Y (q1 Y (D_add Y Y Y Y (by omega)) (Pe Y (Sr (P2 Y Y (q1 Y (D_ixh 2 s_40 Y Y Y Y Y) (q1 Y (D_fa f_96_2 Y Y) (q1 Y (lh (n := 4) 2 Y o_93 Y Y Y Y) (p1 Y (D_fd [1] 0 Y (li Y (cm b_60 Y Y Y Y (fun w' hs => laws_markCondS _ _ w' v6 x3.If ((kk + 1) + 1) (by first | assumption | omega | (simp only; omega)) (by first | assumption | omega | (simp only; omega)) hs) ?_))))))))))))))
   refine Pe Y (Cr (P2 Y Y (q1 Y (D_ixh 2 s_40 Y Y Y Y Y) (q1 Y (D_fa f_96_3 Y Y) (q1 Y (lh (n := 4) 2 Y o_94 Y Y Y Y) (p1 Y (D_fd [1] 0 Y (li Y (cm b_61 Y Y Y Y (fun w' hs => laws_markActionS _ _ w' v7 x3.Then (((kk + 1) + 1) + sumC cCo x3.If) (by first | assumption | omega | (simp only; omega)) (by first | assumption | omega | (simp only; omega)) hs) ?_)))))))))
   refine p1 Y (De (Xb (Xt (D_wk [0, 1, 5] Y (Cr (p1 Y (q1 Y (D_add Y Y Y (r := ((i + 1 : Nat) : Int)) (by omega) (by omega)) (Pe Y (D_fd [0, 1] 0 Y (pk_Rule (r := (⟨(markS kk), (kk + 1), mapS fCo cCo ((kk + 1) + 1) x3.If, mapS fAc cAc (((kk + 1) + 1) + sumC cCo x3.If) x3.Then⟩ : Rule)) (D_put (D_eq 0 Y (show ((mapAt fRu cRu k a i).set i (⟨(markS kk), (kk + 1), mapS fCo cCo ((kk + 1) + 1) x3.If, mapS fAc cAc (((kk + 1) + 1) + sumC cCo x3.If) x3.Then⟩ : Rule) : (List Rule)) = mapAt fRu cRu k a (i + 1) from by exact mk_set hi hx4 hk Y) (fun ac w' hf hs => ⟨_, ?_, i + 1, ((((kk + 1) + 1) + sumC cCo x3.If) + sumC cAc x3.Then), ?_, ?_, Y, hf.wk Y, hs⟩)))))))))))))
   ·omega
   ·first | assumption | omega | simp
   ·omega
  ·have pr2 := odF h2
   refine Cx (Xx (Xx (Xe (Xt (Sr (P2 Y Y (Dx (Ct (D_eq 0 Y (show (mapAt fRu cRu k a i : (List Rule)) = mapS fRu cRu k a from by exact mapAt_done (by omega)) (R_1 Y Y fun w' hs => ⟨congrArg (fun z => Ending.returned (Value.int .i64 z)) ?_, hs⟩))))))))))
   show (kk : Int) = k + sumC cRu a
   rw [List.take_of_length_le (by omega)] at hk; exact hk
theorem laws_heldRuleS {w : World} {v_a : Value} {a : (List Rule)} {k : Int} (h_a : Gd.rd w [v_a] a) (h0 : 0 ≤ k) (h1 : k + sumC cRu a ≤ 4611686018427387904) (he : a = mapS fRu cRu k a) : Calls Tryz.prog 87 [v_a, (iv k)].toArray w (Val w (iv (k + sumC cRu a))) := by
 have hm1 := rd_max h_a
 refine enter 50 Tryz.func87 Y Y Y (Sr (Pe Y (Cq (Sr (Pe Y (Cb (Cl (fun m_ ac w' => ∃ (i : Nat), ∃ (kk : Int), (i ≤ a.length) ∧ (kk = k + sumC cRu (a.take i)) ∧ m_ = a.length - i ∧ Fits ac 50 [(0, v_a), (1, (iv kk)), (5, (nv i))] ∧ St w ([]) w') ?_ ?_)))))))
 ·refine fun ac w' hf hs => ⟨_, 0, k, ?_, ?_, Y, hf.wk Y, hs⟩
  ·first | assumption | omega | simp
  ·simp [sumC]
 ·rintro m_ ac w' ⟨i, kk, hi, hk, rfl, hf, hs⟩
  refine D.use ?_ hf hs
  clear hf hs ac w'
  have htk := sumC_take_le a cRu i
  refine Cq (Sr (P2 Y Y (q1 Y (Dl s_40 Y Y (rd_sl h_a)) (Pe Y (Ci _ Y (fun h2 => ?_) (fun h2 => ?_))))))
  ·have pr2 := odT h2
   refine Sk (Cq (Cb (Cq (Cq (C_draw mixed [] (by kernel_rfl) (Tk 0 Y (by kernel_rfl) Y (rp Y) (Tk 1 Y (by kernel_rfl) Y (rp Y) ?_)))))))
   obtain ⟨x3, hx4⟩ := sL (l := a) (i := i) (by omega)
   obtain ⟨es5, at6, hr7⟩ := rd_elem (n := 4) rfl h_a hx4
   obtain ⟨u9, u11, rfl, hu10, hu12⟩ := open_Rule hr7
   have hm13 := rd_max hu10
   have hm14 := rd_max hu12
   refine Tk 2 Y (by kernel_rfl) Y (D_ix (l := a) (j := i) s_40 Y Y Y (fun w' hs => (rA hs h_a)) Y (lS hx4)) ?_
   have hfx := mapS_fix he hx4
   rw [← hk] at hfx
   have hF0 : x3.Name = markS kk := congrArg (fun y => y.Name) hfx
   have hF1 : x3.Priority = kk + 1 := congrArg (fun y => y.Priority) hfx
   have hF2 : x3.If = mkCs (kk + 1 + 1) x3.If := congrArg (fun y => y.If) hfx
   have hF3 : x3.Then = mkAs (kk + 1 + 1 + sumC cCo x3.If) x3.Then := congrArg (fun y => y.Then) hfx
   have hstep := mk_stepH (c := cRu) hx4 hk
   have hcc : cRu x3 = 2 + sumC cCo x3.If + sumC cAc x3.Then := rfl
   refine Tk 3 Y (by kernel_rfl) Y (D_fa f_96_0 Y Y) (Tk 4 Y (by kernel_rfl) Y (lr o_9 Y Y at6 Y) (Tk 5 Y (by kernel_rfl) Y (rp Y) (ty 6 Y (by kernel_rfl) Y (cv b_59 Y Y Y Y (fun w' hs => (laws_markText (by first | assumption | omega | (unfold szm at *; split at * <;> omega)))) ?_))))
   refine tS (fun _ hs => hs) (Tk 7 Y (by kernel_rfl) Y (D_neS Y Y Y) (tE (by kernel_rfl) (Xt (Ci _ Y (fun h15 => ?_) (fun h15 => ?_)))))
   ·have pr15 := odF (not_t h15)
    refine Sr (Pe Y (Ct (Xr (Xq (Xr (Xr (Xq (Xr (Ri Y Y ?_)))))))))
    show ((-1) : Int) = _
    first | (exfalso; contradiction) | (exfalso; omega) | (rw [List.take_of_length_le (by omega)] at hk; exact hk)
   ·have pr15 := odT (not_f h15)
    refine Sk (Sr (p1 Y (q1 Y (D_add Y Y Y Y (by omega)) (Pe Y (Cq (Sr (P2 Y Y (q1 Y (D_ix (l := a) (j := i) s_40 Y Y Y (fun w' hs => (rA hs h_a)) Y (lS hx4)) (q1 Y (D_fa f_96_1 Y Y) (q1 Y (lr o_3 Y Y at6 Y) (P2 Y Y (Dx (D_wk [0, 1, 5, 28] Y (Ci _ Y (fun h16 => ?_) (fun h16 => ?_)))))))))))))))
    ·have pr16 := bne_iff_ne.1 h16
     refine Sr (Pe Y (Ct (Xr (Xq (Xr (Xr (Xq (Xr (Ri Y Y ?_)))))))))
     show ((-1) : Int) = _
     first | (exfalso; contradiction) | (exfalso; omega) | (rw [List.take_of_length_le (by omega)] at hk; exact hk)
    ·have pr16 := eq_of_bne_f h16
     refine Sk (Sr (p1 Y (q1 Y (D_add Y Y Y Y (by omega)) (Pe Y (Sr (P2 Y Y (q1 Y (D_ix (l := a) (j := i) s_40 Y Y Y (fun w' hs => (rA hs h_a)) Y (lS hx4)) (q1 Y (D_fa f_96_2 Y Y) (q1 Y (lr o_93 Y Y at6 Y) (p1 Y (li Y (cv b_142 Y Y Y Y (fun w' hs => (laws_heldCondS (rA hs hu10) (by first | assumption | omega | (unfold szm at *; split at * <;> omega)) (by first | assumption | omega | (unfold szm at *; split at * <;> omega)) (by first | assumption | omega | (unfold szm at *; split at * <;> omega)))) ?_))))))))))))
     refine Pe Y (Cq (Sr (P2 Y Y (Dx (Ci _ Y (fun h17 => ?_) (fun h17 => ?_))))))
     ·have pr17 := odT h17
      refine Sr (Pe Y (Ct (Xr (Xq (Xr (Xr (Xq (Xr (Ri Y Y ?_)))))))))
      show ((-1) : Int) = _
      first | (exfalso; contradiction) | (exfalso; omega) | (rw [List.take_of_length_le (by omega)] at hk; exact hk)
     ·have pr17 := odF h17
      refine Sk (Sr (P2 Y Y (q1 Y (D_ix (l := a) (j := i) s_40 Y Y Y (fun w' hs => (rA hs h_a)) Y (lS hx4)) (q1 Y (D_fa f_96_3 Y Y) (q1 Y (lr o_94 Y Y at6 Y) (p1 Y (li Y (cv b_143 Y Y Y Y (fun w' hs => (laws_heldActionS (rA hs hu12) (by first | assumption | omega | (unfold szm at *; split at * <;> omega)) (by first | assumption | omega | (unfold szm at *; split at * <;> omega)) (by first | assumption | omega | (unfold szm at *; split at * <;> omega)))) ?_))))))))
      refine Pe Y (D_wk [0, 1, 5] Y (Sr (P2 Y Y (Dx (Ci _ Y (fun h18 => ?_) (fun h18 => ?_))))))
      ·have pr18 := odT h18
       refine Sr (Pe Y (Ct (Xq (Xr (Xr (Xq (Xr (Ri Y Y ?_))))))))
       show ((-1) : Int) = _
       first | (exfalso; contradiction) | (exfalso; omega) | (rw [List.take_of_length_le (by omega)] at hk; exact hk)
      ·have pr18 := odF h18
       refine Ck (Xb (Xt (Cr (p1 Y (q1 Y (D_add Y Y Y (r := ((i + 1 : Nat) : Int)) (by omega) (by omega)) (Pe Y (fun ac w' hf hs => ⟨_, ?_, i + 1, ((((kk + 1) + 1) + sumC cCo x3.If) + sumC cAc x3.Then), ?_, ?_, Y, hf.wk Y, hs⟩)))))))
       ·omega
       ·first | assumption | omega | simp
       ·omega
  ·have pr2 := odF h2
   refine Cx (Xx (Xx (Xe (Xt (Sr (P2 Y Y (Dx (Ct (Ri Y Y ?_)))))))))
   show (kk : Int) = _
   first | (exfalso; contradiction) | (exfalso; omega) | (rw [List.take_of_length_le (by omega)] at hk; exact hk)
theorem laws_markStampS (w0 : World) (Hs : List Chunk) (w : World) (v_a : Value) (a : (List Stamp)) (k : Int) (h0 : 0 ≤ k) (h1 : k + sumC cSt a ≤ 4611686018427387904) (hst : St w0 (ov [v_a] (a : (List Stamp)) :: Hs) w) : Calls Tryz.prog 19 [v_a, (iv k)].toArray w (fun e w' => e = .returned (iv (k + sumC cSt a)) ∧ St w0 (ov [v_a] (mapS fSt cSt k a : (List Stamp)) :: Hs) w') := by
 have hm1 := rd_max (rO (k := 0) hst rfl)
 refine enterS 37 Tryz.func19 Y Y Y hst (Sr (Pe Y (Dh (ov [v_a] (a : (List Stamp)) :: Hs) Y (Cq (Sr (Pe Y (Cb (Cl (fun m_ ac w' => ∃ (i : Nat), ∃ (kk : Int), (i ≤ a.length) ∧ (kk = k + sumC cSt (a.take i)) ∧ m_ = a.length - i ∧ Fits ac 37 [(0, v_a), (1, (iv kk)), (5, (nv i))] ∧ St w0 (ov [v_a] (mapAt fSt cSt k a i : (List Stamp)) :: Hs) w') ?_ ?_))))))))
 ·refine D_eq 0 Y (show (a : (List Stamp)) = mapAt fSt cSt k a 0 from by rw [mapAt_zero]) (fun ac w' hf hs => ⟨_, 0, k, ?_, ?_, Y, hf.wk Y, hs⟩)
  ·first | assumption | omega | simp
  ·simp [sumC]
 ·rintro m_ ac w' ⟨i, kk, hi, hk, rfl, hf, hs⟩
  refine D.use ?_ hf hs
  clear hf hs ac w'
  have hcl := mapAt_len (f := fSt) (c := cSt) (k := k) hi
  have htk := sumC_take_le a cSt i
  refine Cq (Sr (P2 Y Y (q1 Y (D_leno 0 s_42 Y Y Y) (Pe Y (Dh (_ :: Hs) Y (Ci _ Y (fun h2 => ?_) (fun h2 => ?_)))))))
  ·have pr2 := odT h2
   refine Sk (Cq (Cb (Sr (P3 Y Y Y (li Y (cv b_59 Y Y Y Y (fun w' hs => (laws_markText (by first | assumption | omega | (unfold szm at *; split at * <;> omega)))) ?_))))))
   obtain ⟨x3, hx4⟩ := sL (l := (mapAt fSt cSt k a i)) (i := i) (by omega)
   refine D_take hx4 fun es5 => ?_
   refine Dp (fun w' hs => shape_Stamp (rO (k := 0) hs Y)) ?_
   rintro ⟨v6, rfl, ho7⟩
   refine q1 Y (D_ixh 1 s_42 Y Y Y Y Y) ?_
   have hstep := mk_step hi hx4 hk
   have hcc : cSt x3 = 2 + x3.Fact.Args.length := rfl
   refine q1 Y (D_fa f_100_0 Y Y) (q1 Y (D_fa' f_70_0 Y Y (q := 0) Y) (D_unpair (α := Go.Sy.Fact) (β := Int) (c1 := [(.string x3.Fact.Rel), v6]) (c2 := [(iv x3.Time)]) (x := x3.Fact) (y := (x3.Time)) Y Y (D_fd [1] 0 Y (D_fd [] 1 Y (li Y (sh (n := 3) (f := 0) 1 Y z_9 Y Y Y Y Y Y Y (by simp) ?_))))))
   refine Dx (Sr (p1 Y (q1 Y (D_add Y Y Y Y (by omega)) (Pe Y (Sr (P2 Y Y (q1 Y (D_ixh 1 s_42 Y Y Y Y Y) (q1 Y (D_fa f_100_0 Y Y) (q1 Y (D_fa' f_70_1 Y Y (q := 1) Y) (q1 Y (lh (n := 3) 1 Y o_58 Y Y Y Y) (p1 Y (D_unpair (α := ByteArray) (β := (List ByteArray)) (c1 := [(.string x3.Fact.Rel)]) (c2 := [v6]) (x := x3.Fact.Rel) (y := (x3.Fact.Args)) Y Y (D_fd [] 1 Y (li Y (cm b_62 Y Y Y Y (fun w' hs => laws_markStringS _ _ w' v6 x3.Fact.Args (kk + 1) (by first | assumption | omega | (simp only; omega)) (by first | assumption | omega | (simp only; omega)) hs) ?_)))))))))))))))
   refine Pe Y (D_wk [0, 1, 5] Y (Sr (P3 Y Y Y (q1 Y (D_ixh 1 s_42 Y Y Y Y Y) (q1 Y (D_fa f_100_1 Y Y) (li Y (sh (n := 3) (f := 2) 1 Y z_3 Y Y Y Y Y Y Y (by simp) ?_)))))))
   refine Dx (Cr (p1 Y (q1 Y (D_add Y Y Y Y (by omega)) (p1 Y (De (Xb (Xt (Cr (p1 Y (q1 Y (D_add Y Y Y (r := ((i + 1 : Nat) : Int)) (by omega) (by omega)) (Pe Y (pk_Stamp (r := (⟨⟨(markS kk), mkSs (kk + 1) x3.Fact.Args⟩, ((kk + 1) + x3.Fact.Args.length)⟩ : Stamp)) (D_put (D_eq 0 Y (show ((mapAt fSt cSt k a i).set i (⟨⟨(markS kk), mkSs (kk + 1) x3.Fact.Args⟩, ((kk + 1) + x3.Fact.Args.length)⟩ : Stamp) : (List Stamp)) = mapAt fSt cSt k a (i + 1) from by exact mk_set hi hx4 hk Y) (fun ac w' hf hs => ⟨_, ?_, i + 1, (((kk + 1) + x3.Fact.Args.length) + 1), ?_, ?_, Y, hf.wk Y, hs⟩)))))))))))))))
   ·omega
   ·first | assumption | omega | simp
   ·omega
  ·have pr2 := odF h2
   refine Cx (Xx (Xx (Xe (Xt (Sr (P2 Y Y (Dx (Ct (D_eq 0 Y (show (mapAt fSt cSt k a i : (List Stamp)) = mapS fSt cSt k a from by exact mapAt_done (by omega)) (R_1 Y Y fun w' hs => ⟨congrArg (fun z => Ending.returned (Value.int .i64 z)) ?_, hs⟩))))))))))
   show (kk : Int) = k + sumC cSt a
   rw [List.take_of_length_le (by omega)] at hk; exact hk
theorem laws_heldStampS {w : World} {v_a : Value} {a : (List Stamp)} {k : Int} (h_a : Gd.rd w [v_a] a) (h0 : 0 ≤ k) (h1 : k + sumC cSt a ≤ 4611686018427387904) (he : a = mapS fSt cSt k a) : Calls Tryz.prog 88 [v_a, (iv k)].toArray w (Val w (iv (k + sumC cSt a))) := by
 have hm1 := rd_max h_a
 refine enter 43 Tryz.func88 Y Y Y (Sr (Pe Y (Cq (Sr (Pe Y (Cb (Cl (fun m_ ac w' => ∃ (i : Nat), ∃ (kk : Int), (i ≤ a.length) ∧ (kk = k + sumC cSt (a.take i)) ∧ m_ = a.length - i ∧ Fits ac 43 [(0, v_a), (1, (iv kk)), (5, (nv i))] ∧ St w ([]) w') ?_ ?_)))))))
 ·refine fun ac w' hf hs => ⟨_, 0, k, ?_, ?_, Y, hf.wk Y, hs⟩
  ·first | assumption | omega | simp
  ·simp [sumC]
 ·rintro m_ ac w' ⟨i, kk, hi, hk, rfl, hf, hs⟩
  refine D.use ?_ hf hs
  clear hf hs ac w'
  have htk := sumC_take_le a cSt i
  refine Cq (Sr (P2 Y Y (q1 Y (Dl s_42 Y Y (rd_sl h_a)) (Pe Y (Ci _ Y (fun h2 => ?_) (fun h2 => ?_))))))
  ·have pr2 := odT h2
   refine Sk (Cq (Cb (Cq (Cq (C_draw mixed [] (by kernel_rfl) (Tk 0 Y (by kernel_rfl) Y (rp Y) (Tk 1 Y (by kernel_rfl) Y (rp Y) ?_)))))))
   obtain ⟨x3, hx4⟩ := sL (l := a) (i := i) (by omega)
   obtain ⟨es5, at6, hr7⟩ := rd_elem (n := 3) rfl h_a hx4
   obtain ⟨u9, rfl, hu10⟩ := open_Stamp hr7
   have hm11 := rd_max hu10
   have hb12 := sub_Stamp_Fact hr7
   refine Tk 2 Y (by kernel_rfl) Y (D_ix (l := a) (j := i) s_42 Y Y Y (fun w' hs => (rA hs h_a)) Y (lS hx4)) ?_
   have hfx := mapS_fix he hx4
   rw [← hk] at hfx
   have hF0 : x3.Fact.Rel = markS kk := congrArg (fun y => y.Fact.Rel) hfx
   have hF1 : x3.Fact.Args = mkSs (kk + 1) x3.Fact.Args := congrArg (fun y => y.Fact.Args) hfx
   have hF2 : x3.Time = kk + 1 + x3.Fact.Args.length := congrArg (fun y => y.Time) hfx
   have hstep := mk_stepH (c := cSt) hx4 hk
   have hcc : cSt x3 = 2 + x3.Fact.Args.length := rfl
   refine Tk 3 Y (by kernel_rfl) Y (D_fa f_100_0 Y Y) (Tk 4 Y (by kernel_rfl) Y (D_fa' f_70_0 Y Y (q := 0) Y) (Tk 5 Y (by kernel_rfl) Y (lr o_9 Y Y at6 Y) (Tk 6 Y (by kernel_rfl) Y (rp Y) (ty 7 Y (by kernel_rfl) Y (cv b_59 Y Y Y Y (fun w' hs => (laws_markText (by first | assumption | omega | (unfold szm at *; split at * <;> omega)))) ?_)))))
   refine tS (fun _ hs => hs) (Tk 8 Y (by kernel_rfl) Y (D_neS Y Y Y) (tE (by kernel_rfl) (Xt (Ci _ Y (fun h13 => ?_) (fun h13 => ?_)))))
   ·have pr13 := odF (not_t h13)
    refine Sr (Pe Y (Ct (Xr (Xq (Xr (Xr (Xq (Xr (Ri Y Y ?_)))))))))
    show ((-1) : Int) = _
    first | (exfalso; contradiction) | (exfalso; omega) | (rw [List.take_of_length_le (by omega)] at hk; exact hk)
   ·have pr13 := odT (not_f h13)
    refine Sk (Sr (p1 Y (q1 Y (D_add Y Y Y Y (by omega)) (Pe Y (D_wk [0, 1, 5] Y (Sr (P2 Y Y (q1 Y (D_ix (l := a) (j := i) s_42 Y Y Y (fun w' hs => (rA hs h_a)) Y (lS hx4)) (q1 Y (D_fa f_100_0 Y Y) (q1 Y (D_fa' f_70_1 Y Y (q := 1) Y) (q1 Y (lr o_58 Y Y at6 Y) (p1 Y (li Y (cv b_144 Y Y Y Y (fun w' hs => (laws_heldStringS (rA hs hu10) (by first | assumption | omega | (unfold szm at *; split at * <;> omega)) (by first | assumption | omega | (unfold szm at *; split at * <;> omega)) (by first | assumption | omega | (unfold szm at *; split at * <;> omega)))) ?_))))))))))))))
    refine Pe Y (Cq (Sr (P2 Y Y (Dx (Ci _ Y (fun h14 => ?_) (fun h14 => ?_))))))
    ·have pr14 := odT h14
     refine Sr (Pe Y (Ct (Xr (Xq (Xr (Xr (Xq (Xr (Ri Y Y ?_)))))))))
     show ((-1) : Int) = _
     first | (exfalso; contradiction) | (exfalso; omega) | (rw [List.take_of_length_le (by omega)] at hk; exact hk)
    ·have pr14 := odF h14
     refine Sk (Cq (Sr (P2 Y Y (q1 Y (D_ix (l := a) (j := i) s_42 Y Y Y (fun w' hs => (rA hs h_a)) Y (lS hx4)) (q1 Y (D_fa f_100_1 Y Y) (q1 Y (lr o_3 Y Y at6 Y) (P2 Y Y (Dx (D_wk [0, 1, 5, 39] Y (Ci _ Y (fun h15 => ?_) (fun h15 => ?_)))))))))))
     ·have pr15 := bne_iff_ne.1 h15
      refine Sr (Pe Y (Ct (Xr (Xq (Xr (Xr (Xq (Xr (Ri Y Y ?_)))))))))
      show ((-1) : Int) = _
      first | (exfalso; contradiction) | (exfalso; omega) | (rw [List.take_of_length_le (by omega)] at hk; exact hk)
     ·have pr15 := eq_of_bne_f h15
      refine Sk (Cr (p1 Y (q1 Y (D_add Y Y Y Y (by omega)) (p1 Y (De (Xb (Xt (Cr (p1 Y (q1 Y (D_add Y Y Y (r := ((i + 1 : Nat) : Int)) (by omega) (by omega)) (Pe Y (fun ac w' hf hs => ⟨_, ?_, i + 1, (((kk + 1) + x3.Fact.Args.length) + 1), ?_, ?_, Y, hf.wk Y, hs⟩))))))))))))
      ·omega
      ·first | assumption | omega | simp
      ·omega
  ·have pr2 := odF h2
   refine Cx (Xx (Xx (Xe (Xt (Sr (P2 Y Y (Dx (Ct (Ri Y Y ?_)))))))))
   show (kk : Int) = _
   first | (exfalso; contradiction) | (exfalso; omega) | (rw [List.take_of_length_le (by omega)] at hk; exact hk)
theorem laws_markFiringS (w0 : World) (Hs : List Chunk) (w : World) (v_a : Value) (a : (List Firing)) (k : Int) (h0 : 0 ≤ k) (h1 : k + sumC cFi a ≤ 4611686018427387904) (hst : St w0 (ov [v_a] (a : (List Firing)) :: Hs) w) : Calls Tryz.prog 85 [v_a, (iv k)].toArray w (fun e w' => e = .returned (iv (k + sumC cFi a)) ∧ St w0 (ov [v_a] (mapS fFi cFi k a : (List Firing)) :: Hs) w') := by
 have hm1 := rd_max (rO (k := 0) hst rfl)
 refine enterS 28 Tryz.func85 Y Y Y hst (Sr (Pe Y (Dh (ov [v_a] (a : (List Firing)) :: Hs) Y (Cq (Sr (Pe Y (Cb (Cl (fun m_ ac w' => ∃ (i : Nat), ∃ (kk : Int), (i ≤ a.length) ∧ (kk = k + sumC cFi (a.take i)) ∧ m_ = a.length - i ∧ Fits ac 28 [(0, v_a), (1, (iv kk)), (5, (nv i))] ∧ St w0 (ov [v_a] (mapAt fFi cFi k a i : (List Firing)) :: Hs) w') ?_ ?_))))))))
 ·refine D_eq 0 Y (show (a : (List Firing)) = mapAt fFi cFi k a 0 from by rw [mapAt_zero]) (fun ac w' hf hs => ⟨_, 0, k, ?_, ?_, Y, hf.wk Y, hs⟩)
  ·first | assumption | omega | simp
  ·simp [sumC]
 ·rintro m_ ac w' ⟨i, kk, hi, hk, rfl, hf, hs⟩
  refine D.use ?_ hf hs
  clear hf hs ac w'
  have hcl := mapAt_len (f := fFi) (c := cFi) (k := k) hi
  have htk := sumC_take_le a cFi i
  refine Cq (Sr (P2 Y Y (q1 Y (D_leno 0 s_63 Y Y Y) (Pe Y (Dh (_ :: Hs) Y (Ci _ Y (fun h2 => ?_) (fun h2 => ?_)))))))
  ·have pr2 := odT h2
   refine Sk (Cq (Cb (Sr (P3 Y Y Y (li Y (cv b_59 Y Y Y Y (fun w' hs => (laws_markText (by first | assumption | omega | (unfold szm at *; split at * <;> omega)))) ?_))))))
   obtain ⟨x3, hx4⟩ := sL (l := (mapAt fFi cFi k a i)) (i := i) (by omega)
   refine D_take hx4 fun es5 => ?_
   refine Dp (fun w' hs => shape_Firing (rO (k := 0) hs Y)) ?_
   rintro ⟨v6, rfl, ho7⟩
   refine q1 Y (D_ixh 1 s_63 Y Y Y Y Y) ?_
   have hstep := mk_step hi hx4 hk
   have hcc : cFi x3 = 1 + x3.Times.length := rfl
   refine q1 Y (D_fa f_168_0 Y Y) (D_unpair (α := ByteArray) (β := (List Int)) (c1 := [(.string x3.Rule)]) (c2 := [v6]) (x := x3.Rule) (y := (x3.Times)) Y Y (D_fd [] 1 Y (li Y (sh (n := 2) (f := 0) 1 Y z_9 Y Y Y Y Y Y Y (by simp) ?_))))
   refine Dx (Sr (p1 Y (q1 Y (D_add Y Y Y Y (by omega)) (Pe Y (Cr (P2 Y Y (q1 Y (D_ixh 1 s_63 Y Y Y Y Y) (q1 Y (D_fa f_168_1 Y Y) (q1 Y (lh (n := 2) 1 Y o_35 Y Y Y Y) (p1 Y (li Y (cm b_65 Y Y Y Y (fun w' hs => laws_markIntS _ _ w' v6 x3.Times (kk + 1) (by first | assumption | omega | (simp only; omega)) (by first | assumption | omega | (simp only; omega)) hs) ?_))))))))))))
   refine p1 Y (De (Xb (Xt (D_wk [0, 1, 5] Y (Cr (p1 Y (q1 Y (D_add Y Y Y (r := ((i + 1 : Nat) : Int)) (by omega) (by omega)) (Pe Y (pk_Firing (r := (⟨(markS kk), mkI (kk + 1) x3.Times⟩ : Firing)) (D_put (D_eq 0 Y (show ((mapAt fFi cFi k a i).set i (⟨(markS kk), mkI (kk + 1) x3.Times⟩ : Firing) : (List Firing)) = mapAt fFi cFi k a (i + 1) from by exact mk_set hi hx4 hk Y) (fun ac w' hf hs => ⟨_, ?_, i + 1, ((kk + 1) + x3.Times.length), ?_, ?_, Y, hf.wk Y, hs⟩))))))))))))
   ·omega
   ·first | assumption | omega | simp
   ·omega
  ·have pr2 := odF h2
   refine Cx (Xx (Xx (Xe (Xt (Sr (P2 Y Y (Dx (Ct (D_eq 0 Y (show (mapAt fFi cFi k a i : (List Firing)) = mapS fFi cFi k a from by exact mapAt_done (by omega)) (R_1 Y Y fun w' hs => ⟨congrArg (fun z => Ending.returned (Value.int .i64 z)) ?_, hs⟩))))))))))
   show (kk : Int) = k + sumC cFi a
   rw [List.take_of_length_le (by omega)] at hk; exact hk
theorem laws_heldFiringS {w : World} {v_a : Value} {a : (List Firing)} {k : Int} (h_a : Gd.rd w [v_a] a) (h0 : 0 ≤ k) (h1 : k + sumC cFi a ≤ 4611686018427387904) (he : a = mapS fFi cFi k a) : Calls Tryz.prog 89 [v_a, (iv k)].toArray w (Val w (iv (k + sumC cFi a))) := by
 have hm1 := rd_max h_a
 refine enter 32 Tryz.func89 Y Y Y (Sr (Pe Y (Cq (Sr (Pe Y (Cb (Cl (fun m_ ac w' => ∃ (i : Nat), ∃ (kk : Int), (i ≤ a.length) ∧ (kk = k + sumC cFi (a.take i)) ∧ m_ = a.length - i ∧ Fits ac 32 [(0, v_a), (1, (iv kk)), (5, (nv i))] ∧ St w ([]) w') ?_ ?_)))))))
 ·refine fun ac w' hf hs => ⟨_, 0, k, ?_, ?_, Y, hf.wk Y, hs⟩
  ·first | assumption | omega | simp
  ·simp [sumC]
 ·rintro m_ ac w' ⟨i, kk, hi, hk, rfl, hf, hs⟩
  refine D.use ?_ hf hs
  clear hf hs ac w'
  have htk := sumC_take_le a cFi i
  refine Cq (Sr (P2 Y Y (q1 Y (Dl s_63 Y Y (rd_sl h_a)) (Pe Y (Ci _ Y (fun h2 => ?_) (fun h2 => ?_))))))
  ·have pr2 := odT h2
   refine Sk (Cq (Cb (Cq (Cq (C_draw mixed [] (by kernel_rfl) (Tk 0 Y (by kernel_rfl) Y (rp Y) (Tk 1 Y (by kernel_rfl) Y (rp Y) ?_)))))))
   obtain ⟨x3, hx4⟩ := sL (l := a) (i := i) (by omega)
   obtain ⟨es5, at6, hr7⟩ := rd_elem (n := 2) rfl h_a hx4
   obtain ⟨u9, rfl, hu10⟩ := open_Firing hr7
   have hm11 := rd_max hu10
   refine Tk 2 Y (by kernel_rfl) Y (D_ix (l := a) (j := i) s_63 Y Y Y (fun w' hs => (rA hs h_a)) Y (lS hx4)) ?_
   have hfx := mapS_fix he hx4
   rw [← hk] at hfx
   have hF0 : x3.Rule = markS kk := congrArg (fun y => y.Rule) hfx
   have hF1 : x3.Times = mkI (kk + 1) x3.Times := congrArg (fun y => y.Times) hfx
   have hstep := mk_stepH (c := cFi) hx4 hk
   have hcc : cFi x3 = 1 + x3.Times.length := rfl
   refine Tk 3 Y (by kernel_rfl) Y (D_fa f_168_0 Y Y) (Tk 4 Y (by kernel_rfl) Y (lr o_9 Y Y at6 Y) (Tk 5 Y (by kernel_rfl) Y (rp Y) (ty 6 Y (by kernel_rfl) Y (cv b_59 Y Y Y Y (fun w' hs => (laws_markText (by first | assumption | omega | (unfold szm at *; split at * <;> omega)))) ?_))))
   refine tS (fun _ hs => hs) (Tk 7 Y (by kernel_rfl) Y (D_neS Y Y Y) (tE (by kernel_rfl) (Xt (Ci _ Y (fun h12 => ?_) (fun h12 => ?_)))))
   ·have pr12 := odF (not_t h12)
    refine Sr (Pe Y (Ct (Xr (Xq (Xr (Xr (Xq (Xr (Ri Y Y ?_)))))))))
    show ((-1) : Int) = _
    first | (exfalso; contradiction) | (exfalso; omega) | (rw [List.take_of_length_le (by omega)] at hk; exact hk)
   ·have pr12 := odT (not_f h12)
    refine Sk (Sr (p1 Y (q1 Y (D_add Y Y Y Y (by omega)) (Pe Y (Sr (P2 Y Y (q1 Y (D_ix (l := a) (j := i) s_63 Y Y Y (fun w' hs => (rA hs h_a)) Y (lS hx4)) (q1 Y (D_fa f_168_1 Y Y) (q1 Y (lr o_35 Y Y at6 Y) (p1 Y (li Y (cv b_67 Y Y Y Y (fun w' hs => (laws_heldIntS (rA hs hu10) (by first | assumption | omega | (unfold szm at *; split at * <;> omega)) (by first | assumption | omega | (unfold szm at *; split at * <;> omega)) (by first | assumption | omega | (unfold szm at *; split at * <;> omega)))) ?_))))))))))))
    refine Pe Y (D_wk [0, 1, 5] Y (Sr (P2 Y Y (Dx (Ci _ Y (fun h13 => ?_) (fun h13 => ?_))))))
    ·have pr13 := odT h13
     refine Sr (Pe Y (Ct (Xq (Xr (Xr (Xq (Xr (Ri Y Y ?_))))))))
     show ((-1) : Int) = _
     first | (exfalso; contradiction) | (exfalso; omega) | (rw [List.take_of_length_le (by omega)] at hk; exact hk)
    ·have pr13 := odF h13
     refine Ck (Xb (Xt (Cr (p1 Y (q1 Y (D_add Y Y Y (r := ((i + 1 : Nat) : Int)) (by omega) (by omega)) (Pe Y (fun ac w' hf hs => ⟨_, ?_, i + 1, ((kk + 1) + x3.Times.length), ?_, ?_, Y, hf.wk Y, hs⟩)))))))
     ·omega
     ·first | assumption | omega | simp
     ·omega
  ·have pr2 := odF h2
   refine Cx (Xx (Xx (Xe (Xt (Sr (P2 Y Y (Dx (Ct (Ri Y Y ?_)))))))))
   show (kk : Int) = _
   first | (exfalso; contradiction) | (exfalso; omega) | (rw [List.take_of_length_le (by omega)] at hk; exact hk)
theorem laws_markEventS (w0 : World) (Hs : List Chunk) (w : World) (v_a : Value) (a : (List Event)) (k : Int) (h0 : 0 ≤ k) (h1 : k + sumC cEv a ≤ 4611686018427387904) (hst : St w0 (ov [v_a] (a : (List Event)) :: Hs) w) : Calls Tryz.prog 86 [v_a, (iv k)].toArray w (fun e w' => e = .returned (iv (k + sumC cEv a)) ∧ St w0 (ov [v_a] (mapS fEv cEv k a : (List Event)) :: Hs) w') := by
 have hm1 := rd_max (rO (k := 0) hst rfl)
 refine enterS 45 Tryz.func86 Y Y Y hst (Sr (Pe Y (Dh (ov [v_a] (a : (List Event)) :: Hs) Y (Cq (Sr (Pe Y (Cb (Cl (fun m_ ac w' => ∃ (i : Nat), ∃ (kk : Int), (i ≤ a.length) ∧ (kk = k + sumC cEv (a.take i)) ∧ m_ = a.length - i ∧ Fits ac 45 [(0, v_a), (1, (iv kk)), (5, (nv i))] ∧ St w0 (ov [v_a] (mapAt fEv cEv k a i : (List Event)) :: Hs) w') ?_ ?_))))))))
 ·refine D_eq 0 Y (show (a : (List Event)) = mapAt fEv cEv k a 0 from by rw [mapAt_zero]) (fun ac w' hf hs => ⟨_, 0, k, ?_, ?_, Y, hf.wk Y, hs⟩)
  ·first | assumption | omega | simp
  ·simp [sumC]
 ·rintro m_ ac w' ⟨i, kk, hi, hk, rfl, hf, hs⟩
  refine D.use ?_ hf hs
  clear hf hs ac w'
  have hcl := mapAt_len (f := fEv) (c := cEv) (k := k) hi
  have htk := sumC_take_le a cEv i
  refine Cq (Sr (P2 Y Y (q1 Y (D_leno 0 s_64 Y Y Y) (Pe Y (Dh (_ :: Hs) Y (Ci _ Y (fun h2 => ?_) (fun h2 => ?_)))))))
  ·have pr2 := odT h2
   refine Sk (Cq (Cb (Sr (P3 Y Y Y ?_))))
   obtain ⟨x3, hx4⟩ := sL (l := (mapAt fEv cEv k a i)) (i := i) (by omega)
   refine D_take hx4 fun es5 => ?_
   refine Dp (fun w' hs => shape_Event (rO (k := 0) hs Y)) ?_
   rintro ⟨v6, rfl, ho7⟩
   refine q1 Y (D_ixh 1 s_64 Y Y Y Y Y) ?_
   have hstep := mk_step hi hx4 hk
   have hcc : cEv x3 = 3 + x3.Fact.Args.length := rfl
   refine q1 Y (D_fa f_171_0 Y Y) (D_unpair (α := Int) (β := ByteArray × Go.Sy.Fact) (c1 := [(iv x3.Kind)]) (c2 := [(.string x3.Rule), (.string x3.Fact.Rel), v6]) (x := x3.Kind) (y := (x3.Rule, x3.Fact)) Y Y (D_fd [] 1 Y (D_unpair (α := ByteArray) (β := Go.Sy.Fact) (c1 := [(.string x3.Rule)]) (c2 := [(.string x3.Fact.Rel), v6]) (x := x3.Rule) (y := (x3.Fact)) Y Y (D_fd [] 1 Y (li Y (sh (n := 4) (f := 0) 1 Y z_3 Y Y Y Y Y Y Y (by simp) ?_))))))
   refine Dx (Sr (p1 Y (q1 Y (D_add Y Y Y Y (by omega)) (Pe Y (Sr (P3 Y Y Y (li Y (cv b_59 Y Y Y Y (fun w' hs => (laws_markText (by first | assumption | omega | (unfold szm at *; split at * <;> omega)))) ?_))))))))
   refine q1 Y (D_ixh 1 s_64 Y Y Y Y Y) (q1 Y (D_fa f_171_1 Y Y) (li Y (sh (n := 4) (f := 1) 1 Y z_9 Y Y Y Y Y Y Y (by simp) ?_)))
   refine Dx (D_wk [0, 1, 5] Y (Sr (p1 Y (q1 Y (D_add Y Y Y Y (by omega)) (Pe Y (Sr (P3 Y Y Y (li Y (cv b_59 Y Y Y Y (fun w' hs => (laws_markText (by first | assumption | omega | (unfold szm at *; split at * <;> omega)))) ?_)))))))))
   refine q1 Y (D_ixh 1 s_64 Y Y Y Y Y) (q1 Y (D_fa f_171_2 Y Y) (q1 Y (D_fa' f_70_0 Y Y (q := 2) Y) (li Y (sh (n := 4) (f := 2) 1 Y z_9 Y Y Y Y Y Y Y (by simp) ?_))))
   refine Dx (Sr (p1 Y (q1 Y (D_add Y Y Y Y (by omega)) (Pe Y (Cr (P2 Y Y (q1 Y (D_ixh 1 s_64 Y Y Y Y Y) (q1 Y (D_fa f_171_2 Y Y) (q1 Y (D_fa' f_70_1 Y Y (q := 3) Y) (q1 Y (lh (n := 4) 1 Y o_58 Y Y Y Y) (p1 Y (D_unpair (α := ByteArray) (β := (List ByteArray)) (c1 := [(.string x3.Fact.Rel)]) (c2 := [v6]) (x := x3.Fact.Rel) (y := (x3.Fact.Args)) Y Y (D_fd [] 1 Y (li Y (cm b_62 Y Y Y Y (fun w' hs => laws_markStringS _ _ w' v6 x3.Fact.Args (((kk + 1) + 1) + 1) (by first | assumption | omega | (simp only; omega)) (by first | assumption | omega | (simp only; omega)) hs) ?_)))))))))))))))
   refine p1 Y (De (Xb (Xt (D_wk [0, 1, 5] Y (Cr (p1 Y (q1 Y (D_add Y Y Y (r := ((i + 1 : Nat) : Int)) (by omega) (by omega)) (Pe Y (pk_Event (r := (⟨kk, (markS (kk + 1)), ⟨(markS ((kk + 1) + 1)), mkSs (((kk + 1) + 1) + 1) x3.Fact.Args⟩⟩ : Event)) (D_put (D_eq 0 Y (show ((mapAt fEv cEv k a i).set i (⟨kk, (markS (kk + 1)), ⟨(markS ((kk + 1) + 1)), mkSs (((kk + 1) + 1) + 1) x3.Fact.Args⟩⟩ : Event) : (List Event)) = mapAt fEv cEv k a (i + 1) from by exact mk_set hi hx4 hk Y) (fun ac w' hf hs => ⟨_, ?_, i + 1, ((((kk + 1) + 1) + 1) + x3.Fact.Args.length), ?_, ?_, Y, hf.wk Y, hs⟩))))))))))))
   ·omega
   ·first | assumption | omega | simp
   ·omega
  ·have pr2 := odF h2
   refine Cx (Xx (Xx (Xe (Xt (Sr (P2 Y Y (Dx (Ct (D_eq 0 Y (show (mapAt fEv cEv k a i : (List Event)) = mapS fEv cEv k a from by exact mapAt_done (by omega)) (R_1 Y Y fun w' hs => ⟨congrArg (fun z => Ending.returned (Value.int .i64 z)) ?_, hs⟩))))))))))
   show (kk : Int) = k + sumC cEv a
   rw [List.take_of_length_le (by omega)] at hk; exact hk
theorem laws_heldEventS {w : World} {v_a : Value} {a : (List Event)} {k : Int} (h_a : Gd.rd w [v_a] a) (h0 : 0 ≤ k) (h1 : k + sumC cEv a ≤ 4611686018427387904) (he : a = mapS fEv cEv k a) : Calls Tryz.prog 90 [v_a, (iv k)].toArray w (Val w (iv (k + sumC cEv a))) := by
 have hm1 := rd_max h_a
 refine enter 53 Tryz.func90 Y Y Y (Sr (Pe Y (Cq (Sr (Pe Y (Cb (Cl (fun m_ ac w' => ∃ (i : Nat), ∃ (kk : Int), (i ≤ a.length) ∧ (kk = k + sumC cEv (a.take i)) ∧ m_ = a.length - i ∧ Fits ac 53 [(0, v_a), (1, (iv kk)), (5, (nv i))] ∧ St w ([]) w') ?_ ?_)))))))
 ·refine fun ac w' hf hs => ⟨_, 0, k, ?_, ?_, Y, hf.wk Y, hs⟩
  ·first | assumption | omega | simp
  ·simp [sumC]
 ·rintro m_ ac w' ⟨i, kk, hi, hk, rfl, hf, hs⟩
  refine D.use ?_ hf hs
  clear hf hs ac w'
  have htk := sumC_take_le a cEv i
  refine Cq (Sr (P2 Y Y (q1 Y (Dl s_64 Y Y (rd_sl h_a)) (Pe Y (Ci _ Y (fun h2 => ?_) (fun h2 => ?_))))))
  ·have pr2 := odT h2
   refine Sk (Cq (Cb (Cq (Sr (P2 Y Y ?_)))))
   obtain ⟨x3, hx4⟩ := sL (l := a) (i := i) (by omega)
   obtain ⟨es5, at6, hr7⟩ := rd_elem (n := 4) rfl h_a hx4
   obtain ⟨u9, rfl, hu10⟩ := open_Event hr7
   have hm11 := rd_max hu10
   have hb12 := sub_Event_Fact hr7
   refine q1 Y (D_ix (l := a) (j := i) s_64 Y Y Y (fun w' hs => (rA hs h_a)) Y (lS hx4)) ?_
   have hfx := mapS_fix he hx4
   rw [← hk] at hfx
   have hF0 : x3.Kind = kk := congrArg (fun y => y.Kind) hfx
   have hF1 : x3.Rule = markS (kk + 1) := congrArg (fun y => y.Rule) hfx
   have hF2 : x3.Fact.Rel = markS (kk + 1 + 1) := congrArg (fun y => y.Fact.Rel) hfx
   have hF3 : x3.Fact.Args = mkSs (kk + 1 + 1 + 1) x3.Fact.Args := congrArg (fun y => y.Fact.Args) hfx
   have hstep := mk_stepH (c := cEv) hx4 hk
   have hcc : cEv x3 = 3 + x3.Fact.Args.length := rfl
   refine q1 Y (D_fa f_171_0 Y Y) (q1 Y (lr o_3 Y Y at6 Y) (P2 Y Y (Dx (Ci _ Y (fun h13 => ?_) (fun h13 => ?_)))))
   ·have pr13 := bne_iff_ne.1 h13
    refine Sr (Pe Y (Ct (Xr (Xq (Xr (Xr (Xq (Xr (Ri Y Y ?_)))))))))
    show ((-1) : Int) = _
    first | (exfalso; contradiction) | (exfalso; omega) | (rw [List.take_of_length_le (by omega)] at hk; exact hk)
   ·have pr13 := eq_of_bne_f h13
    refine Sk (Sr (p1 Y (q1 Y (D_add Y Y Y Y (by omega)) (Pe Y (Cq (Cq (C_draw mixed [] (by kernel_rfl) (Tk 0 Y (by kernel_rfl) Y (rp Y) (Tk 1 Y (by kernel_rfl) Y (rp Y) (Tk 2 Y (by kernel_rfl) Y (D_ix (l := a) (j := i) s_64 Y Y Y (fun w' hs => (rA hs h_a)) Y (lS hx4)) (Tk 3 Y (by kernel_rfl) Y (D_fa f_171_1 Y Y) (Tk 4 Y (by kernel_rfl) Y (lr o_9 Y Y at6 Y) (Tk 5 Y (by kernel_rfl) Y (rp Y) (ty 6 Y (by kernel_rfl) Y (cv b_59 Y Y Y Y (fun w' hs => (laws_markText (by first | assumption | omega | (unfold szm at *; split at * <;> omega)))) ?_)))))))))))))))
    refine tS (fun _ hs => hs) (Tk 7 Y (by kernel_rfl) Y (D_neS Y Y Y) (tE (by kernel_rfl) (Xt (D_wk [0, 1, 5, 28] Y (Ci _ Y (fun h14 => ?_) (fun h14 => ?_))))))
    ·have pr14 := odF (not_t h14)
     refine Sr (Pe Y (Ct (Xr (Xq (Xr (Xr (Xq (Xr (Ri Y Y ?_)))))))))
     show ((-1) : Int) = _
     first | (exfalso; contradiction) | (exfalso; omega) | (rw [List.take_of_length_le (by omega)] at hk; exact hk)
    ·have pr14 := odT (not_f h14)
     refine Sk (Sr (p1 Y (q1 Y (D_add Y Y Y Y (by omega)) (Pe Y (Cq (Cq (C_draw mixed [] (by kernel_rfl) (Tk 0 Y (by kernel_rfl) Y (rp Y) (Tk 1 Y (by kernel_rfl) Y (rp Y) (Tk 2 Y (by kernel_rfl) Y (D_ix (l := a) (j := i) s_64 Y Y Y (fun w' hs => (rA hs h_a)) Y (lS hx4)) (Tk 3 Y (by kernel_rfl) Y (D_fa f_171_2 Y Y) (Tk 4 Y (by kernel_rfl) Y (D_fa' f_70_0 Y Y (q := 2) Y) (Tk 5 Y (by kernel_rfl) Y (lr o_9 Y Y at6 Y) (Tk 6 Y (by kernel_rfl) Y (rp Y) (ty 7 Y (by kernel_rfl) Y (cv b_59 Y Y Y Y (fun w' hs => (laws_markText (by first | assumption | omega | (unfold szm at *; split at * <;> omega)))) ?_))))))))))))))))
     refine tS (fun _ hs => hs) (Tk 8 Y (by kernel_rfl) Y (D_neS Y Y Y) (tE (by kernel_rfl) (Xt (Ci _ Y (fun h15 => ?_) (fun h15 => ?_)))))
     ·have pr15 := odF (not_t h15)
      refine Sr (Pe Y (Ct (Xr (Xq (Xr (Xr (Xq (Xr (Ri Y Y ?_)))))))))
      show ((-1) : Int) = _
      first | (exfalso; contradiction) | (exfalso; omega) | (rw [List.take_of_length_le (by omega)] at hk; exact hk)
     ·have pr15 := odT (not_f h15)
      refine Sk (Sr (p1 Y (q1 Y (D_add Y Y Y Y (by omega)) (Pe Y (Sr (P2 Y Y (q1 Y (D_ix (l := a) (j := i) s_64 Y Y Y (fun w' hs => (rA hs h_a)) Y (lS hx4)) (q1 Y (D_fa f_171_2 Y Y) (q1 Y (D_fa' f_70_1 Y Y (q := 3) Y) (q1 Y (lr o_58 Y Y at6 Y) (p1 Y (li Y (cv b_144 Y Y Y Y (fun w' hs => (laws_heldStringS (rA hs hu10) (by first | assumption | omega | (unfold szm at *; split at * <;> omega)) (by first | assumption | omega | (unfold szm at *; split at * <;> omega)) (by first | assumption | omega | (unfold szm at *; split at * <;> omega)))) ?_)))))))))))))
      refine Pe Y (D_wk [0, 1, 5] Y (Sr (P2 Y Y (Dx (Ci _ Y (fun h16 => ?_) (fun h16 => ?_))))))
      ·have pr16 := odT h16
       refine Sr (Pe Y (Ct (Xq (Xr (Xr (Xq (Xr (Ri Y Y ?_))))))))
       show ((-1) : Int) = _
       first | (exfalso; contradiction) | (exfalso; omega) | (rw [List.take_of_length_le (by omega)] at hk; exact hk)
      ·have pr16 := odF h16
       refine Ck (Xb (Xt (Cr (p1 Y (q1 Y (D_add Y Y Y (r := ((i + 1 : Nat) : Int)) (by omega) (by omega)) (Pe Y (fun ac w' hf hs => ⟨_, ?_, i + 1, ((((kk + 1) + 1) + 1) + x3.Fact.Args.length), ?_, ?_, Y, hf.wk Y, hs⟩)))))))
       ·omega
       ·first | assumption | omega | simp
       ·omega
  ·have pr2 := odF h2
   refine Cx (Xx (Xx (Xe (Xt (Sr (P2 Y Y (Dx (Ct (Ri Y Y ?_)))))))))
   show (kk : Int) = _
   first | (exfalso; contradiction) | (exfalso; omega) | (rw [List.take_of_length_le (by omega)] at hk; exact hk)
theorem laws_markEngine (w0 : World) (Hs : List Chunk) (w : World) (c_a : List Value) (a : Engine) (k : Int) (h0 : 0 ≤ k) (h1 : k + cEn a ≤ 4611686018427387904) (hst : St w0 (ov c_a (a : Engine) :: Hs) w) : Calls Tryz.prog 31 [(.agg c_a.toArray), (iv k)].toArray w (fun e w' => e = .returned (iv (k + cEn a)) ∧ St w0 (ov c_a (mkE k a : Engine) :: Hs) w') := by
 obtain ⟨v1, v2, v3, v4, rfl, ho_v1, ho_v2, ho_v3, ho_v4⟩ := shape_Engine (rO (k := 0) hst rfl)
 have hce : cEn a = sumC cRu a.Rules + sumC cSt a.Memory + sumC cFi a.Fired + sumC cEv a.Log := rfl
 refine enterS 22 Tryz.func31 Y Y Y hst (Sr (li Y (D_box Y Y Y Y Y fun g5 => ?_)))
 refine Pe Y (Dh (bx g5 [v1, v2, (iv a.Clock), v3, (.bool a.Halted), v4] :: ov [v1, v2, (iv a.Clock), v3, (.bool a.Halted), v4] (a : Engine) :: Hs) Y (Sr (q1 Y (Db f_66_0 Y Y (q := 0) Y) (q1 Y (lb 0 o_40 Y Y Y Y) (p1 Y (D_fd [1] 0 Y (D_unpair (α := (List Rule)) (β := (List Stamp) × Int × (List Firing) × Bool × (List Event)) (c1 := [v1]) (c2 := [v2, (iv a.Clock), v3, (.bool a.Halted), v4]) (x := a.Rules) (y := (a.Memory, a.Clock, a.Fired, a.Halted, a.Log)) Y Y (D_fd [1] 0 Y (D_unpair (α := (List Stamp)) (β := Int × (List Firing) × Bool × (List Event)) (c1 := [v2]) (c2 := [(iv a.Clock), v3, (.bool a.Halted), v4]) (x := a.Memory) (y := (a.Clock, a.Fired, a.Halted, a.Log)) Y Y (D_fd [1] 0 Y (D_unpair (α := Int) (β := (List Firing) × Bool × (List Event)) (c1 := [(iv a.Clock)]) (c2 := [v3, (.bool a.Halted), v4]) (x := a.Clock) (y := (a.Fired, a.Halted, a.Log)) Y Y (D_fd [] 1 Y (D_unpair (α := (List Firing)) (β := Bool × (List Event)) (c1 := [v3]) (c2 := [(.bool a.Halted), v4]) (x := a.Fired) (y := (a.Halted, a.Log)) Y Y (D_fd [1] 0 Y (D_unpair (α := Bool) (β := (List Event)) (c1 := [(.bool a.Halted)]) (c2 := [v4]) (x := a.Halted) (y := (a.Log)) Y Y (D_fd [] 1 Y (D_fd [3] 0 Y (li Y (cm b_18 Y Y Y Y (fun w' hs => laws_markRuleS _ _ w' v1 a.Rules k (by first | assumption | omega | (simp only; omega)) (by first | assumption | omega | (simp only; omega)) hs) ?_)))))))))))))))))))
 refine Pe Y (Dh (ov [v1] (mapS fRu cRu k a.Rules : (List Rule)) :: ov [v4] (a.Log : (List Event)) :: ov [v3] (a.Fired : (List Firing)) :: ov [v2] (a.Memory : (List Stamp)) :: _ :: Hs) Y (Sr (q1 Y (Db f_66_1 Y Y (q := 1) Y) (q1 Y (lb 4 o_42 Y Y Y Y) (p1 Y (D_fd [3] 0 Y (li Y (cm b_19 Y Y Y Y (fun w' hs => laws_markStampS _ _ w' v2 a.Memory (k + sumC cRu a.Rules) (by first | assumption | omega | (simp only; omega)) (by first | assumption | omega | (simp only; omega)) hs) ?_))))))))
 refine Pe Y (Dh (ov [v2] (mapS fSt cSt (k + sumC cRu a.Rules) a.Memory : (List Stamp)) :: _ :: _ :: _ :: _ :: Hs) Y (Sr (q1 Y (Db f_66_3 Y Y (q := 3) Y) (q1 Y (lb 4 o_63 Y Y Y Y) (p1 Y (D_fd [3] 0 Y (li Y (cm b_85 Y Y Y Y (fun w' hs => laws_markFiringS _ _ w' v3 a.Fired ((k + sumC cRu a.Rules) + sumC cSt a.Memory) (by first | assumption | omega | (simp only; omega)) (by first | assumption | omega | (simp only; omega)) hs) ?_))))))))
 refine Pe Y (Dh (ov [v3] (mapS fFi cFi ((k + sumC cRu a.Rules) + sumC cSt a.Memory) a.Fired : (List Firing)) :: _ :: _ :: _ :: _ :: Hs) Y (Sr (q1 Y (Db f_66_5 Y Y (q := 5) Y) (q1 Y (lb 4 o_64 Y Y Y Y) (p1 Y (D_fd [3] 0 Y (li Y (cm b_86 Y Y Y Y (fun w' hs => laws_markEventS _ _ w' v4 a.Log (((k + sumC cRu a.Rules) + sumC cSt a.Memory) + sumC cFi a.Fired) (by first | assumption | omega | (simp only; omega)) (by first | assumption | omega | (simp only; omega)) hs) ?_))))))))
 refine Pe Y (Sr (P2 Y Y (Dx (Ct (D_fd [0, 1, 2, 3] 0 Y (pk_Engine (r := (⟨mapS fRu cRu k a.Rules, mapS fSt cSt (k + sumC cRu a.Rules) a.Memory, a.Clock, mapS fFi cFi ((k + sumC cRu a.Rules) + sumC cSt a.Memory) a.Fired, a.Halted, mapS fEv cEv (((k + sumC cRu a.Rules) + sumC cSt a.Memory) + sumC cFi a.Fired) a.Log⟩ : Engine)) (D_eq 0 Y (show ((⟨mapS fRu cRu k a.Rules, mapS fSt cSt (k + sumC cRu a.Rules) a.Memory, a.Clock, mapS fFi cFi ((k + sumC cRu a.Rules) + sumC cSt a.Memory) a.Fired, a.Halted, mapS fEv cEv (((k + sumC cRu a.Rules) + sumC cSt a.Memory) + sumC cFi a.Fired) a.Log⟩ : Engine) : Engine) = mkE k a from by rfl) (R_1 Y Y fun w' hs => ⟨congrArg (fun z => Ending.returned (Value.int .i64 z)) ?_, hs.fd [0, 1] 1 Y⟩))))))))
 show (((((k + sumC cRu a.Rules) + sumC cSt a.Memory) + sumC cFi a.Fired) + sumC cEv a.Log) : Int) = k + cEn a
 omega
theorem laws_heldEngine {w : World} {c_a : List Value} {a : Engine} {k : Int} (h_a : Gd.rd w c_a a) (h0 : 0 ≤ k) (h1 : k + cEn a ≤ 4611686018427387904) (he : a = mkE k a) : Calls Tryz.prog 33 [(.agg c_a.toArray), (iv k)].toArray w (Val w (iv (k + cEn a))) := by
 obtain ⟨u1, u3, u5, u7, rfl, hu2, hu4, hu6, hu8⟩ := open_Engine h_a
 have hm9 := rd_max hu2
 have hm10 := rd_max hu4
 have hm11 := rd_max hu6
 have hm12 := rd_max hu8
 have hce : cEn a = sumC cRu a.Rules + sumC cSt a.Memory + sumC cFi a.Fired + sumC cEv a.Log := rfl
 have hF1 : a.Rules = mkRu k a.Rules := congrArg (fun y => y.Rules) he
 have hF2 : a.Memory = mkSt (k + sumC cRu a.Rules) a.Memory := congrArg (fun y => y.Memory) he
 have hF3 : a.Fired = mkFi (k + sumC cRu a.Rules + sumC cSt a.Memory) a.Fired := congrArg (fun y => y.Fired) he
 have hF4 : a.Log = mkEv (k + sumC cRu a.Rules + sumC cSt a.Memory + sumC cFi a.Fired) a.Log := congrArg (fun y => y.Log) he
 refine enter 30 Tryz.func33 Y Y Y (Sr (li Y (D_box Y Y Y Y Y fun g13 => ?_)))
 refine Pe Y (Dh ([bx g13 [u1, u3, (iv a.Clock), u5, (.bool a.Halted), u7]]) Y (Sr (q1 Y (Db f_66_0 Y Y (q := 0) Y) (q1 Y (lb 0 o_40 Y Y Y Y) (p1 Y (li Y (cv b_87 Y Y Y Y (fun w' hs => (laws_heldRuleS (rA hs hu2) (by first | assumption | omega | (unfold szm at *; split at * <;> omega)) (by first | assumption | omega | (unfold szm at *; split at * <;> omega)) (by first | assumption | omega | (unfold szm at *; split at * <;> omega)))) ?_)))))))
 refine Pe Y (Cq (Sr (P2 Y Y (Dx (Ci _ Y (fun h14 => ?_) (fun h14 => ?_))))))
 ·have pr14 := odT h14
  refine Sr (Pe Y (Ct (Xr (Ri Y Y ?_))))
  show ((-1) : Int) = _
  first | (exfalso; omega) | omega
 ·have pr14 := odF h14
  refine Sk (Sr (q1 Y (Db f_66_1 Y Y (q := 1) Y) (q1 Y (lb 0 o_42 Y Y Y Y) (p1 Y (li Y (cv b_88 Y Y Y Y (fun w' hs => (laws_heldStampS (rA hs hu4) (by first | assumption | omega | (unfold szm at *; split at * <;> omega)) (by first | assumption | omega | (unfold szm at *; split at * <;> omega)) (by first | assumption | omega | (unfold szm at *; split at * <;> omega)))) ?_))))))
  refine Pe Y (Cq (Sr (P2 Y Y (Dx (Ci _ Y (fun h15 => ?_) (fun h15 => ?_))))))
  ·have pr15 := odT h15
   refine Sr (Pe Y (Ct (Xr (Ri Y Y ?_))))
   show ((-1) : Int) = _
   first | (exfalso; omega) | omega
  ·have pr15 := odF h15
   refine Sk (Sr (q1 Y (Db f_66_3 Y Y (q := 3) Y) (q1 Y (lb 0 o_63 Y Y Y Y) (p1 Y (li Y (cv b_89 Y Y Y Y (fun w' hs => (laws_heldFiringS (rA hs hu6) (by first | assumption | omega | (unfold szm at *; split at * <;> omega)) (by first | assumption | omega | (unfold szm at *; split at * <;> omega)) (by first | assumption | omega | (unfold szm at *; split at * <;> omega)))) ?_))))))
   refine Pe Y (D_wk [1, 2] Y (Cq (Sr (P2 Y Y (Dx (Ci _ Y (fun h16 => ?_) (fun h16 => ?_)))))))
   ·have pr16 := odT h16
    refine Sr (Pe Y (Ct (Xr (Ri Y Y ?_))))
    show ((-1) : Int) = _
    first | (exfalso; omega) | omega
   ·have pr16 := odF h16
    refine Sk (Sr (q1 Y (Db f_66_5 Y Y (q := 5) Y) (q1 Y (lb 0 o_64 Y Y Y Y) (p1 Y (li Y (cv b_90 Y Y Y Y (fun w' hs => (laws_heldEventS (rA hs hu8) (by first | assumption | omega | (unfold szm at *; split at * <;> omega)) (by first | assumption | omega | (unfold szm at *; split at * <;> omega)) (by first | assumption | omega | (unfold szm at *; split at * <;> omega)))) ?_))))))
    refine Pe Y (Cq (Sr (P2 Y Y (Dx (Ci _ Y (fun h17 => ?_) (fun h17 => ?_))))))
    ·have pr17 := odT h17
     refine Sr (Pe Y (Ct (Xr (Ri Y Y ?_))))
     show ((-1) : Int) = _
     first | (exfalso; omega) | omega
    ·have pr17 := odF h17
     refine Sk (Sr (P2 Y Y (Dx (Ct (Ri Y Y ?_)))))
     show (((((k + sumC cRu a.Rules) + sumC cSt a.Memory) + sumC cFi a.Fired) + sumC cEv a.Log) : Int) = _
     first | (exfalso; omega) | omega
end Go.Sy.Eng5
