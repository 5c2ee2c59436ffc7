/-
  Contracts of functions of the program, walked (printed by a program of ours).
  Conditions: those that each theorem states.
-/
import Derived.Test.YtkbiaedfnpbpfaaGreatDoorEng4
import Derived.Test.YtkbiaedfnpbpfaaGreatDoorBel3
import Derived.Test.YtkbiaedfnpbpfaaGreatDoorMk
set_option linter.unusedVariables false
set_option maxRecDepth 20000
namespace Go.Sy.Eng5
open Go Go.RowKit Go.Proofs Go.Sy
theorem mixed : Tryz.prog.follows .mixedOrders = true := by kernel_rfl
theorem u8_5 : Tryz.prog.underlying 5 = some (.int .u8) := by kernel_rfl
theorem ui_3 : Tryz.prog.underlying 3 = some (.int .i64) := by kernel_rfl
theorem s_157 : sliceTy Tryz.prog 157 = some (5, 1, 1) := by kernel_rfl
theorem y_5 : zeroTy Tryz.prog 5 = some (.int .u8 0) := by kernel_rfl
theorem usl_157 : Tryz.prog.underlying 157 = some (.slice 5) := by kernel_rfl
theorem us_9 : Tryz.prog.underlying 9 = some .string := by kernel_rfl
theorem s_58 : sliceTy Tryz.prog 58 = some (9, 1, 16) := by kernel_rfl
theorem b_59 : hasBody Tryz.prog 59 = true := by kernel_rfl
theorem z_9 : sizeTy Tryz.prog 9 = some 1 := by kernel_rfl
theorem o_9 : oneTy Tryz.prog 9 = true := by kernel_rfl
theorem s_93 : sliceTy Tryz.prog 93 = some (147, 5, 80) := by kernel_rfl
theorem f_147_0 : fieldOff Tryz.prog 147 0 = some 0 := by kernel_rfl
theorem z_3 : sizeTy Tryz.prog 3 = some 1 := by kernel_rfl
theorem f_147_1 : fieldOff Tryz.prog 147 1 = some 1 := by kernel_rfl
theorem f_145_0 : fieldOff Tryz.prog 145 0 = some 0 := by kernel_rfl
theorem f_145_1 : fieldOff Tryz.prog 145 1 = some 1 := by kernel_rfl
theorem o_58 : oneTy Tryz.prog 58 = true := by kernel_rfl
theorem b_62 : hasBody Tryz.prog 62 = true := by kernel_rfl
theorem f_147_2 : fieldOff Tryz.prog 147 2 = some 3 := by kernel_rfl
theorem f_147_3 : fieldOff Tryz.prog 147 3 = some 4 := by kernel_rfl
theorem o_3 : oneTy Tryz.prog 3 = true := by kernel_rfl
theorem b_144 : hasBody Tryz.prog 144 = true := by kernel_rfl
theorem s_94 : sliceTy Tryz.prog 94 = some (159, 3, 48) := by kernel_rfl
theorem f_159_0 : fieldOff Tryz.prog 159 0 = some 0 := by kernel_rfl
theorem f_159_1 : fieldOff Tryz.prog 159 1 = some 1 := by kernel_rfl
theorem s_40 : sliceTy Tryz.prog 40 = some (96, 4, 72) := by kernel_rfl
theorem f_96_0 : fieldOff Tryz.prog 96 0 = some 0 := by kernel_rfl
theorem f_96_1 : fieldOff Tryz.prog 96 1 = some 1 := by kernel_rfl
theorem f_96_2 : fieldOff Tryz.prog 96 2 = some 2 := by kernel_rfl
theorem o_93 : oneTy Tryz.prog 93 = true := by kernel_rfl
theorem b_60 : hasBody Tryz.prog 60 = true := by kernel_rfl
theorem f_96_3 : fieldOff Tryz.prog 96 3 = some 3 := by kernel_rfl
theorem o_94 : oneTy Tryz.prog 94 = true := by kernel_rfl
theorem b_61 : hasBody Tryz.prog 61 = true := by kernel_rfl
theorem b_142 : hasBody Tryz.prog 142 = true := by kernel_rfl
theorem b_143 : hasBody Tryz.prog 143 = true := by kernel_rfl
theorem s_42 : sliceTy Tryz.prog 42 = some (100, 3, 48) := by kernel_rfl
theorem f_100_0 : fieldOff Tryz.prog 100 0 = some 0 := by kernel_rfl
theorem f_70_0 : fieldOff Tryz.prog 70 0 = some 0 := by kernel_rfl
theorem f_70_1 : fieldOff Tryz.prog 70 1 = some 1 := by kernel_rfl
theorem f_100_1 : fieldOff Tryz.prog 100 1 = some 2 := by kernel_rfl
theorem s_63 : sliceTy Tryz.prog 63 = some (168, 2, 40) := by kernel_rfl
theorem f_168_0 : fieldOff Tryz.prog 168 0 = some 0 := by kernel_rfl
theorem f_168_1 : fieldOff Tryz.prog 168 1 = some 1 := by kernel_rfl
theorem o_35 : oneTy Tryz.prog 35 = true := by kernel_rfl
theorem b_65 : hasBody Tryz.prog 65 = true := by kernel_rfl
theorem b_67 : hasBody Tryz.prog 67 = true := by kernel_rfl
theorem s_64 : sliceTy Tryz.prog 64 = some (171, 4, 64) := by kernel_rfl
theorem f_171_0 : fieldOff Tryz.prog 171 0 = some 0 := by kernel_rfl
theorem f_171_1 : fieldOff Tryz.prog 171 1 = some 1 := by kernel_rfl
theorem f_171_2 : fieldOff Tryz.prog 171 2 = some 2 := by kernel_rfl
theorem f_66_0 : fieldOff Tryz.prog 66 0 = some 0 := by kernel_rfl
theorem o_40 : oneTy Tryz.prog 40 = true := by kernel_rfl
theorem b_18 : hasBody Tryz.prog 18 = true := by kernel_rfl
theorem f_66_1 : fieldOff Tryz.prog 66 1 = some 1 := by kernel_rfl
theorem o_42 : oneTy Tryz.prog 42 = true := by kernel_rfl
theorem b_19 : hasBody Tryz.prog 19 = true := by kernel_rfl
theorem f_66_3 : fieldOff Tryz.prog 66 3 = some 3 := by kernel_rfl
theorem o_63 : oneTy Tryz.prog 63 = true := by kernel_rfl
theorem b_85 : hasBody Tryz.prog 85 = true := by kernel_rfl
theorem f_66_5 : fieldOff Tryz.prog 66 5 = some 5 := by kernel_rfl
theorem o_64 : oneTy Tryz.prog 64 = true := by kernel_rfl
theorem b_86 : hasBody Tryz.prog 86 = true := by kernel_rfl
theorem b_87 : hasBody Tryz.prog 87 = true := by kernel_rfl
theorem b_88 : hasBody Tryz.prog 88 = true := by kernel_rfl
theorem b_89 : hasBody Tryz.prog 89 = true := by kernel_rfl
theorem b_90 : hasBody Tryz.prog 90 = true := by kernel_rfl
open Go.Sy.Bel1 Go.Sy.Bel3 Go.Sy.Ev1 Go.Sy.Ev2 Go.Sy.Eng1 Go.Sy.Eng2 Go.Sy.Eng3 Go.Sy.Eng4
theorem laws_markText (w : World) (k : Int) (h1 : k ≤ 4611686018427387904) : Calls Tryz.prog 59 [(.int .i64 k)].toArray w (Val w (.string (markS k))) := by
 refine enter 20 Tryz.func59 rfl rfl rfl (Sr (Pe rfl (Cq (Sr (P2 rfl rfl (Dx (Ci _ rfl (fun h1 => ?_) (fun h1 => ?_))))))))
 ·have pr1 : (k : Int) ≤ 0 := odT h1
  refine Sr (Pe rfl (Ct (Xr (Rs rfl rfl ?_))))
  show (⟨#[109, 48]⟩ : ByteArray) = _
  exact mark_low (by omega)
 ·have pr1 : ¬ (k : Int) ≤ 0 := odF h1
  refine Sk (Sr (Pe rfl (Cq (Cb (Cl (fun m_ ac w' => ∃ (nn : Int), ∃ (s : ByteArray), (dg k nn s) ∧ m_ = nn.toNat ∧ Fits ac 20 [(0, (.int .i64 nn)), (3, (.string s))] ∧ St w ([]) w') ?_ ?_)))))
  ·refine fun ac w' hf hs => ⟨_, k, ⟨#[]⟩, ?_, rfl, hf.weak ⟨rfl, rfl, trivial⟩, hs⟩
   ·exact dg_zero (by omega)
  ·rintro m_ ac w' ⟨nn, s, hd, rfl, hf, hs⟩
   refine D.use ?_ hf hs
   clear hf hs ac w'
   have hd0 := hd.1
   have hd1 := hd.2.1
   have hd3 := hd.2.2.2
   have htm := mtmod10 hd0
   refine Cq (Sr (P2 rfl rfl (Dx (Ci _ rfl (fun h2 => ?_) (fun h2 => ?_)))))
   ·have pr2 : (0 : Int) < nn := odT h2
    refine Sk (Cb (Sr (p1 rfl (q1 rfl (D_rem rfl rfl rfl rfl) (q1 rfl (D_add rfl rfl rfl rfl (by omega)) (q1 rfl (D_cv8 u8_5 ⟨_, ui_3⟩ rfl rfl (by omega)) (li rfl (D_bs s_157 y_5 rfl (by decide) (by decide) rfl rfl rfl rfl rfl rfl fun g3 => ?_))))))))
    refine q1 rfl (D_cvbs 0 usl_157 u8_5 us_9 rfl rfl rfl) (p1 rfl (q1 rfl (D_cat rfl rfl rfl (by show 1 + s.size ≤ 9223372036854775807; omega)) (Pe rfl (Dh ([bx g3 [(.int .u8 (48 + (Int.tmod nn 10)))]]) rfl (Cr (p1 rfl (q1 rfl (D_quo rfl rfl rfl (by omega) (by omega)) (p1 rfl (De (Xb (Xt (fun ac w' hf hs => ⟨_, ?_, (nn / 10), ((⟨#[UInt8.ofNat (48 + (Int.tmod nn 10)).toNat]⟩ : ByteArray) ++ s), ?_, rfl, hf.weak ⟨rfl, rfl, trivial⟩, hs.pk [] rfl rfl⟩))))))))))))
    ·omega
    ·exact dg_step hd (by omega)
   ·have pr2 : ¬ (0 : Int) < nn := odF h2
    refine Cx (Xx (Xx (Xe (Xt (Sr (p1 rfl (q1 rfl (D_cat rfl rfl rfl (by show 1 + s.size ≤ 9223372036854775807; omega)) (Pe rfl (Ct (Rs rfl rfl ?_))))))))))
    show ((⟨#[109]⟩ ++ s) : ByteArray) = _
    exact dg_done hd (by omega) (by omega)
theorem laws_markStringS (w0 : World) (Hs : List Chunk) (w : World) (v_a : Value) (a : (List ByteArray)) (k : Int) (h0 : 0 ≤ k) (h1 : k + a.length ≤ 4611686018427387904) (hst : St w0 (ov [v_a] (a : (List ByteArray)) :: Hs) w) : Calls Tryz.prog 62 [v_a, (.int .i64 k)].toArray w (fun e w' => e = .returned (.int .i64 (k + a.length)) ∧ St w0 (ov [v_a] (mkSs k a : (List ByteArray)) :: Hs) w') := by
 have hm1 := rd_max (rO (k := 0) hst rfl)
 refine enterS 20 Tryz.func62 rfl rfl rfl hst (Sr (Pe rfl (Dh (ov [v_a] (a : (List ByteArray)) :: Hs) rfl (Cq (Sr (Pe rfl (Cb (Cl (fun m_ ac w' => ∃ (i : Nat), ∃ (kk : Int), (i ≤ a.length) ∧ (kk = k + i) ∧ m_ = a.length - i ∧ Fits ac 20 [(0, v_a), (1, (.int .i64 kk)), (5, (.int .i64 ((i : Nat) : Int)))] ∧ St w0 (ov [v_a] (mapAt fS cS k a i : (List ByteArray)) :: Hs) w') ?_ ?_))))))))
 ·refine D_eq 0 rfl (show (a : (List ByteArray)) = mapAt fS cS k a 0 from by rw [mapAt_zero]) (fun ac w' hf hs => ⟨_, 0, k, ?_, ?_, rfl, hf.weak ⟨rfl, rfl, rfl, trivial⟩, hs⟩)
  ·first | assumption | omega | simp
  ·first | assumption | omega | simp
 ·rintro m_ ac w' ⟨i, kk, hi, hk, rfl, hf, hs⟩
  refine D.use ?_ hf hs
  clear hf hs ac w'
  have hcl := mapAt_len (f := fS) (c := cS) (k := k) hi
  refine Cq (Sr (P2 rfl rfl (q1 rfl (D_leno 0 s_58 rfl rfl rfl) (Pe rfl (Dh (ov [v_a] (mapAt fS cS k a i : (List ByteArray)) :: Hs) rfl (Ci _ rfl (fun h2 => ?_) (fun h2 => ?_)))))))
  ·have pr2 : (((i : Nat) : Int) : Int) < (((mapAt fS cS k a i).length : Nat) : Int) := odT h2
   refine Sk (Cq (Cb (Sr (P3 rfl rfl rfl (li rfl (cv b_59 rfl rfl rfl rfl (fun w' hs => (laws_markText w' kk (by first | assumption | omega | (unfold szm at *; split at * <;> omega)))) ?_))))))
   obtain ⟨x3, hx4⟩ := sL (l := (mapAt fS cS k a i)) (i := i) (by omega)
   refine q1 rfl (D_ix (l := (mapAt fS cS k a i)) (j := i) s_58 rfl rfl rfl (fun w' hs => (rO (k := 0) hs rfl)) rfl (lS hx4)) (li rfl (so (α := ByteArray) (z := (markS kk)) 0 z_9 rfl rfl rfl rfl rfl (lS hx4) ?_))
   refine Dx (Dh (ov [v_a] ((mapAt fS cS k a i).set i (markS kk) : (List ByteArray)) :: Hs) rfl (Cr (p1 rfl (q1 rfl (D_add rfl rfl rfl rfl (by omega)) (p1 rfl (De (Xb (Xt (Cr (p1 rfl (q1 rfl (D_add rfl rfl rfl (r := ((i + 1 : Nat) : Int)) (by omega) (by omega)) (Pe rfl (D_eq 0 rfl (show ((mapAt fS cS k a i).set i (markS kk) : (List ByteArray)) = mapAt fS cS k a (i + 1) from by exact mkS_set (by omega) hk) (fun ac w' hf hs => ⟨_, ?_, i + 1, (kk + 1), ?_, ?_, rfl, hf.weak ⟨rfl, rfl, rfl, trivial⟩, hs⟩))))))))))))))
   ·omega
   ·first | assumption | omega | simp
   ·first | assumption | omega | simp
  ·have pr2 : ¬ (((i : Nat) : Int) : Int) < (((mapAt fS cS k a i).length : Nat) : Int) := odF h2
   refine Cx (Xx (Xx (Xe (Xt (Sr (P2 rfl rfl (Dx (Ct (D_eq 0 rfl (show (mapAt fS cS k a i : (List ByteArray)) = mkSs k a from by exact mapAt_done (by omega)) (R_1 rfl rfl fun w' hs => ⟨congrArg (fun z => Ending.returned (Value.int .i64 z)) ?_, hs⟩))))))))))
   show (kk : Int) = k + a.length
   omega
theorem laws_heldStringS (w : World) (v_a : Value) (a : (List ByteArray)) (k : Int) (h_a : Gd.rd w [v_a] a) (h0 : 0 ≤ k) (h1 : k + a.length ≤ 4611686018427387904) (he : a = mkSs k a) : Calls Tryz.prog 144 [v_a, (.int .i64 k)].toArray w (Val w (.int .i64 (k + a.length))) := by
 have hm1 := rd_max h_a
 refine enter 22 Tryz.func144 rfl rfl rfl (Sr (Pe rfl (Cq (Sr (Pe rfl (Cb (Cl (fun m_ ac w' => ∃ (i : Nat), ∃ (kk : Int), (i ≤ a.length) ∧ (kk = k + i) ∧ m_ = a.length - i ∧ Fits ac 22 [(0, v_a), (1, (.int .i64 kk)), (5, (.int .i64 ((i : Nat) : Int)))] ∧ St w ([]) w') ?_ ?_)))))))
 ·refine fun ac w' hf hs => ⟨_, 0, k, ?_, ?_, rfl, hf.weak ⟨rfl, rfl, rfl, trivial⟩, hs⟩
  ·first | assumption | omega | simp
  ·first | assumption | omega | simp
 ·rintro m_ ac w' ⟨i, kk, hi, hk, rfl, hf, hs⟩
  refine D.use ?_ hf hs
  clear hf hs ac w'
  refine Cq (Sr (P2 rfl rfl (q1 rfl (Dl s_58 rfl rfl (rd_sl h_a)) (Pe rfl (Ci _ rfl (fun h2 => ?_) (fun h2 => ?_))))))
  ·have pr2 : (((i : Nat) : Int) : Int) < ((a.length : Nat) : Int) := odT h2
   refine Sk (Cq (Cb (Cq (Cq (C_draw mixed [] (by kernel_rfl) (Tk 0 rfl (by kernel_rfl) rfl (rp rfl) (Tk 1 rfl (by kernel_rfl) rfl (rp rfl) ?_)))))))
   obtain ⟨x3, hx4⟩ := sL (l := a) (i := i) (by omega)
   obtain ⟨es5, at6, hr7⟩ := rd_elem (n := 1) rfl h_a hx4
   obtain rfl : es5 = [.string x3] := hr7
   refine Tk 2 rfl (by kernel_rfl) rfl (D_ix (l := a) (j := i) s_58 rfl rfl rfl (fun w' hs => (rA hs h_a)) rfl (lS hx4)) (Tk 3 rfl (by kernel_rfl) rfl (lr0 o_9 rfl rfl at6 rfl) (Tk 4 rfl (by kernel_rfl) rfl (rp rfl) (ty 5 rfl (by kernel_rfl) rfl (cv b_59 rfl rfl rfl rfl (fun w' hs => (laws_markText w' kk (by first | assumption | omega | (unfold szm at *; split at * <;> omega)))) ?_))))
   refine tS (fun _ hs => hs) (Tk 6 rfl (by kernel_rfl) rfl (D_neS rfl rfl rfl) (tE (by kernel_rfl) (Xt (Ci _ rfl (fun h8 => ?_) (fun h8 => ?_)))))
   ·have pr8 : ¬ (x3 : ByteArray) = (markS kk) := of_decide_eq_false (not_t h8)
    refine Sr (Pe rfl (Ct (Xr (Xq (Xr (Xr (Xq (Xr (Ri rfl rfl ?_)))))))))
    show ((-1) : Int) = _
    exfalso; have := mkS_fix he hx4; rw [← hk] at this; contradiction
   ·have pr8 : (x3 : ByteArray) = (markS kk) := of_decide_eq_true (not_f h8)
    refine Sk (Cr (p1 rfl (q1 rfl (D_add rfl rfl rfl rfl (by omega)) (p1 rfl (De (Xb (Xt (Cr (p1 rfl (q1 rfl (D_add rfl rfl rfl (r := ((i + 1 : Nat) : Int)) (by omega) (by omega)) (Pe rfl (fun ac w' hf hs => ⟨_, ?_, i + 1, (kk + 1), ?_, ?_, rfl, hf.weak ⟨rfl, rfl, rfl, trivial⟩, hs⟩))))))))))))
    ·omega
    ·first | assumption | omega | simp
    ·first | assumption | omega | simp
  ·have pr2 : ¬ (((i : Nat) : Int) : Int) < ((a.length : Nat) : Int) := odF h2
   refine Cx (Xx (Xx (Xe (Xt (Sr (P2 rfl rfl (Dx (Ct (Ri rfl rfl ?_)))))))))
   show (kk : Int) = _
   omega
theorem laws_markCondS (w0 : World) (Hs : List Chunk) (w : World) (v_a : Value) (a : (List Cond)) (k : Int) (h0 : 0 ≤ k) (h1 : k + sumC cCo a ≤ 4611686018427387904) (hst : St w0 (ov [v_a] (a : (List Cond)) :: Hs) w) : Calls Tryz.prog 60 [v_a, (.int .i64 k)].toArray w (fun e w' => e = .returned (.int .i64 (k + sumC cCo a)) ∧ St w0 (ov [v_a] (mapS fCo cCo k a : (List Cond)) :: Hs) w') := by
 have hm1 := rd_max (rO (k := 0) hst rfl)
 refine enterS 53 Tryz.func60 rfl rfl rfl hst (Sr (Pe rfl (Dh (ov [v_a] (a : (List Cond)) :: Hs) rfl (Cq (Sr (Pe rfl (Cb (Cl (fun m_ ac w' => ∃ (i : Nat), ∃ (kk : Int), (i ≤ a.length) ∧ (kk = k + sumC cCo (a.take i)) ∧ m_ = a.length - i ∧ Fits ac 53 [(0, v_a), (1, (.int .i64 kk)), (5, (.int .i64 ((i : Nat) : Int)))] ∧ St w0 (ov [v_a] (mapAt fCo cCo k a i : (List Cond)) :: Hs) w') ?_ ?_))))))))
 ·refine D_eq 0 rfl (show (a : (List Cond)) = mapAt fCo cCo k a 0 from by rw [mapAt_zero]) (fun ac w' hf hs => ⟨_, 0, k, ?_, ?_, rfl, hf.weak ⟨rfl, rfl, rfl, trivial⟩, hs⟩)
  ·first | assumption | omega | simp
  ·simp [sumC]
 ·rintro m_ ac w' ⟨i, kk, hi, hk, rfl, hf, hs⟩
  refine D.use ?_ hf hs
  clear hf hs ac w'
  have hcl := mapAt_len (f := fCo) (c := cCo) (k := k) hi
  have htk := sumC_take_le a cCo i
  refine Cq (Sr (P2 rfl rfl (q1 rfl (D_leno 0 s_93 rfl rfl rfl) (Pe rfl (Dh (ov [v_a] (mapAt fCo cCo k a i : (List Cond)) :: Hs) rfl (Ci _ rfl (fun h2 => ?_) (fun h2 => ?_)))))))
  ·have pr2 : (((i : Nat) : Int) : Int) < (((mapAt fCo cCo k a i).length : Nat) : Int) := odT h2
   refine Sk (Cq (Cb (Sr (P3 rfl rfl rfl ?_))))
   obtain ⟨x3, hx4⟩ := sL (l := (mapAt fCo cCo k a i)) (i := i) (by omega)
   refine D_take hx4 fun es5 => ?_
   refine Dp (fun w' hs => shape_Cond (rO (k := 0) hs rfl)) ?_
   rintro ⟨v6, rfl, ho7⟩
   refine q1 rfl (D_ixh 1 s_93 rfl rfl rfl rfl rfl) ?_
   have hstep := mk_step hi hx4 hk
   have hcc : cCo x3 = 4 + x3.Pattern.Args.length := rfl
   refine q1 rfl (D_fa f_147_0 rfl rfl) (D_unpair (α := Int) (β := Go.Sy.Pattern × ByteArray × ByteArray) (c1 := [(.int .i64 x3.Kind)]) (c2 := [(.string x3.Pattern.Rel), v6, (.string x3.Left), (.string x3.Right)]) (x := x3.Kind) (y := (x3.Pattern, x3.Left, x3.Right)) rfl rfl (D_fd [] 1 rfl (D_unpair (α := Go.Sy.Pattern) (β := ByteArray × ByteArray) (c1 := [(.string x3.Pattern.Rel), v6]) (c2 := [(.string x3.Left), (.string x3.Right)]) (x := x3.Pattern) (y := (x3.Left, x3.Right)) rfl rfl (D_fd [1] 0 rfl (D_unpair (α := ByteArray) (β := ByteArray) (c1 := [(.string x3.Left)]) (c2 := [(.string x3.Right)]) (x := x3.Left) (y := (x3.Right)) rfl rfl (D_fd [] 1 rfl (D_fd [] 1 rfl (li rfl (sh (n := 5) (f := 0) 1 rfl z_3 rfl rfl rfl rfl rfl rfl rfl (by simp) ?_)))))))))
   refine Dx (Sr (p1 rfl (q1 rfl (D_add rfl rfl rfl rfl (by omega)) (Pe rfl (Sr (P3 rfl rfl rfl (li rfl (cv b_59 rfl rfl rfl rfl (fun w' hs => (laws_markText w' (kk + 1) (by first | assumption | omega | (unfold szm at *; split at * <;> omega)))) ?_))))))))
   refine q1 rfl (D_ixh 1 s_93 rfl rfl rfl rfl rfl) (q1 rfl (D_fa f_147_1 rfl rfl) (q1 rfl (D_fa' f_145_0 rfl rfl (q := 1) rfl) (li rfl (sh (n := 5) (f := 1) 1 rfl z_9 rfl rfl rfl rfl rfl rfl rfl (by simp) ?_))))
   refine Dx (Dw [(0, v_a), (1, (.int .i64 (kk + 1))), (5, (.int .i64 ((i : Nat) : Int)))] ⟨rfl, rfl, rfl, trivial⟩ (Sr (p1 rfl (q1 rfl (D_add rfl rfl rfl rfl (by omega)) (Pe rfl (Sr (P2 rfl rfl (q1 rfl (D_ixh 1 s_93 rfl rfl rfl rfl rfl) (q1 rfl (D_fa f_147_1 rfl rfl) (q1 rfl (D_fa' f_145_1 rfl rfl (q := 2) rfl) (q1 rfl (lh (n := 5) 1 rfl o_58 rfl rfl rfl rfl) (p1 rfl (D_unpair (α := ByteArray) (β := (List ByteArray)) (c1 := [(.string x3.Pattern.Rel)]) (c2 := [v6]) (x := x3.Pattern.Rel) (y := (x3.Pattern.Args)) rfl rfl (D_fd [] 1 rfl (li rfl (cm b_62 rfl rfl rfl rfl (fun w' hs => laws_markStringS _ _ w' v6 x3.Pattern.Args ((kk + 1) + 1) (by first | assumption | omega | (simp only; omega)) (by first | assumption | omega | (simp only; omega)) hs) ?_))))))))))))))))
   refine Pe rfl (Sr (P3 rfl rfl rfl (li rfl (cv b_59 rfl rfl rfl rfl (fun w' hs => (laws_markText w' (((kk + 1) + 1) + x3.Pattern.Args.length) (by first | assumption | omega | (unfold szm at *; split at * <;> omega)))) ?_))))
   refine q1 rfl (D_ixh 1 s_93 rfl rfl rfl rfl rfl) (q1 rfl (D_fa f_147_2 rfl rfl) (li rfl (sh (n := 5) (f := 3) 1 rfl z_9 rfl rfl rfl rfl rfl rfl rfl (by simp) ?_)))
   refine Dx (Dw [(0, v_a), (1, (.int .i64 (((kk + 1) + 1) + x3.Pattern.Args.length))), (5, (.int .i64 ((i : Nat) : Int)))] ⟨rfl, rfl, rfl, trivial⟩ (Sr (p1 rfl (q1 rfl (D_add rfl rfl rfl rfl (by omega)) (Pe rfl (Sr (P3 rfl rfl rfl (li rfl (cv b_59 rfl rfl rfl rfl (fun w' hs => (laws_markText w' ((((kk + 1) + 1) + x3.Pattern.Args.length) + 1) (by first | assumption | omega | (unfold szm at *; split at * <;> omega)))) ?_)))))))))
   refine q1 rfl (D_ixh 1 s_93 rfl rfl rfl rfl rfl) (q1 rfl (D_fa f_147_3 rfl rfl) (li rfl (sh (n := 5) (f := 4) 1 rfl z_9 rfl rfl rfl rfl rfl rfl rfl (by simp) ?_)))
   refine Dx (Cr (p1 rfl (q1 rfl (D_add rfl rfl rfl rfl (by omega)) (p1 rfl (De (Xb (Xt (Cr (p1 rfl (q1 rfl (D_add rfl rfl rfl (r := ((i + 1 : Nat) : Int)) (by omega) (by omega)) (Pe rfl (pk_Cond (r := (⟨kk, ⟨(markS (kk + 1)), mkSs ((kk + 1) + 1) x3.Pattern.Args⟩, (markS (((kk + 1) + 1) + x3.Pattern.Args.length)), (markS ((((kk + 1) + 1) + x3.Pattern.Args.length) + 1))⟩ : Cond)) (D_put (D_eq 0 rfl (show ((mapAt fCo cCo k a i).set i (⟨kk, ⟨(markS (kk + 1)), mkSs ((kk + 1) + 1) x3.Pattern.Args⟩, (markS (((kk + 1) + 1) + x3.Pattern.Args.length)), (markS ((((kk + 1) + 1) + x3.Pattern.Args.length) + 1))⟩ : Cond) : (List Cond)) = mapAt fCo cCo k a (i + 1) from by exact mk_set hi hx4 hk rfl) (fun ac w' hf hs => ⟨_, ?_, i + 1, (((((kk + 1) + 1) + x3.Pattern.Args.length) + 1) + 1), ?_, ?_, rfl, hf.weak ⟨rfl, rfl, rfl, trivial⟩, hs⟩)))))))))))))))
   ·omega
   ·first | assumption | omega | simp
   ·omega
  ·have pr2 : ¬ (((i : Nat) : Int) : Int) < (((mapAt fCo cCo k a i).length : Nat) : Int) := odF h2
   refine Cx (Xx (Xx (Xe (Xt (Sr (P2 rfl rfl (Dx (Ct (D_eq 0 rfl (show (mapAt fCo cCo k a i : (List Cond)) = mapS fCo cCo k a from by exact mapAt_done (by omega)) (R_1 rfl rfl fun w' hs => ⟨congrArg (fun z => Ending.returned (Value.int .i64 z)) ?_, hs⟩))))))))))
   show (kk : Int) = k + sumC cCo a
   rw [List.take_of_length_le (by omega)] at hk; exact hk
set_option maxHeartbeats 4000000 in
theorem laws_heldCondS (w : World) (v_a : Value) (a : (List Cond)) (k : Int) (h_a : Gd.rd w [v_a] a) (h0 : 0 ≤ k) (h1 : k + sumC cCo a ≤ 4611686018427387904) (he : a = mapS fCo cCo k a) : Calls Tryz.prog 142 [v_a, (.int .i64 k)].toArray w (Val w (.int .i64 (k + sumC cCo a))) := by
 have hm1 := rd_max h_a
 refine enter 63 Tryz.func142 rfl rfl rfl (Sr (Pe rfl (Cq (Sr (Pe rfl (Cb (Cl (fun m_ ac w' => ∃ (i : Nat), ∃ (kk : Int), (i ≤ a.length) ∧ (kk = k + sumC cCo (a.take i)) ∧ m_ = a.length - i ∧ Fits ac 63 [(0, v_a), (1, (.int .i64 kk)), (5, (.int .i64 ((i : Nat) : Int)))] ∧ St w ([]) w') ?_ ?_)))))))
 ·refine fun ac w' hf hs => ⟨_, 0, k, ?_, ?_, rfl, hf.weak ⟨rfl, rfl, rfl, trivial⟩, hs⟩
  ·first | assumption | omega | simp
  ·simp [sumC]
 ·rintro m_ ac w' ⟨i, kk, hi, hk, rfl, hf, hs⟩
  refine D.use ?_ hf hs
  clear hf hs ac w'
  have htk := sumC_take_le a cCo i
  refine Cq (Sr (P2 rfl rfl (q1 rfl (Dl s_93 rfl rfl (rd_sl h_a)) (Pe rfl (Ci _ rfl (fun h2 => ?_) (fun h2 => ?_))))))
  ·have pr2 : (((i : Nat) : Int) : Int) < ((a.length : Nat) : Int) := odT h2
   refine Sk (Cq (Cb (Cq (Sr (P2 rfl rfl ?_)))))
   obtain ⟨x3, hx4⟩ := sL (l := a) (i := i) (by omega)
   obtain ⟨es5, at6, hr7⟩ := rd_elem (n := 5) rfl h_a hx4
   obtain ⟨u9, rfl, hu10⟩ := open_Cond hr7
   have hm11 := rd_max hu10
   have hb12 := sub_Cond_Pattern hr7
   refine q1 rfl (D_ix (l := a) (j := i) s_93 rfl rfl rfl (fun w' hs => (rA hs h_a)) rfl (lS hx4)) ?_
   have hfx := mapS_fix he hx4
   rw [← hk] at hfx
   have hF0 : x3.Kind = kk := congrArg (fun y => y.Kind) hfx
   have hF1 : x3.Pattern.Rel = markS (kk + 1) := congrArg (fun y => y.Pattern.Rel) hfx
   have hF2 : x3.Pattern.Args = mkSs (kk + 1 + 1) x3.Pattern.Args := congrArg (fun y => y.Pattern.Args) hfx
   have hF3 : x3.Left = markS (kk + 1 + 1 + x3.Pattern.Args.length) := congrArg (fun y => y.Left) hfx
   have hF4 : x3.Right = markS (kk + 1 + 1 + x3.Pattern.Args.length + 1) := congrArg (fun y => y.Right) hfx
   have hstep := mk_stepH (c := cCo) hx4 hk
   have hcc : cCo x3 = 4 + x3.Pattern.Args.length := rfl
   refine q1 rfl (D_fa f_147_0 rfl rfl) (q1 rfl (lr o_3 rfl rfl at6 rfl) (P2 rfl rfl (Dx (Ci _ rfl (fun h13 => ?_) (fun h13 => ?_)))))
   ·have pr13 : (x3.Kind : Int) ≠ kk := bne_iff_ne.1 h13
    refine Sr (Pe rfl (Ct (Xr (Xq (Xr (Xr (Xq (Xr (Ri rfl rfl ?_)))))))))
    show ((-1) : Int) = _
    first | (exfalso; contradiction) | (exfalso; omega) | (rw [List.take_of_length_le (by omega)] at hk; exact hk)
   ·have pr13 : (x3.Kind : Int) = kk := eq_of_bne_f h13
    refine Sk (Sr (p1 rfl (q1 rfl (D_add rfl rfl rfl rfl (by omega)) (Pe rfl (Cq (Cq (C_draw mixed [] (by kernel_rfl) (Tk 0 rfl (by kernel_rfl) rfl (rp rfl) (Tk 1 rfl (by kernel_rfl) rfl (rp rfl) (Tk 2 rfl (by kernel_rfl) rfl (D_ix (l := a) (j := i) s_93 rfl rfl rfl (fun w' hs => (rA hs h_a)) rfl (lS hx4)) (Tk 3 rfl (by kernel_rfl) rfl (D_fa f_147_1 rfl rfl) (Tk 4 rfl (by kernel_rfl) rfl (D_fa' f_145_0 rfl rfl (q := 1) rfl) (Tk 5 rfl (by kernel_rfl) rfl (lr o_9 rfl rfl at6 rfl) (Tk 6 rfl (by kernel_rfl) rfl (rp rfl) (ty 7 rfl (by kernel_rfl) rfl (cv b_59 rfl rfl rfl rfl (fun w' hs => (laws_markText w' (kk + 1) (by first | assumption | omega | (unfold szm at *; split at * <;> omega)))) ?_))))))))))))))))
    refine tS (fun _ hs => hs) (Tk 8 rfl (by kernel_rfl) rfl (D_neS rfl rfl rfl) (tE (by kernel_rfl) (Xt (Dw [(0, v_a), (1, (.int .i64 (kk + 1))), (5, (.int .i64 ((i : Nat) : Int))), (29, (.bool (!(decide ((x3.Pattern.Rel : ByteArray) = (markS (kk + 1)))))))] ⟨rfl, rfl, rfl, rfl, trivial⟩ (Ci _ rfl (fun h14 => ?_) (fun h14 => ?_))))))
    ·have pr14 : ¬ (x3.Pattern.Rel : ByteArray) = (markS (kk + 1)) := of_decide_eq_false (not_t h14)
     refine Sr (Pe rfl (Ct (Xr (Xq (Xr (Xr (Xq (Xr (Ri rfl rfl ?_)))))))))
     show ((-1) : Int) = _
     first | (exfalso; contradiction) | (exfalso; omega) | (rw [List.take_of_length_le (by omega)] at hk; exact hk)
    ·have pr14 : (x3.Pattern.Rel : ByteArray) = (markS (kk + 1)) := of_decide_eq_true (not_f h14)
     refine Sk (Sr (p1 rfl (q1 rfl (D_add rfl rfl rfl rfl (by omega)) (Pe rfl (Sr (P2 rfl rfl (q1 rfl (D_ix (l := a) (j := i) s_93 rfl rfl rfl (fun w' hs => (rA hs h_a)) rfl (lS hx4)) (q1 rfl (D_fa f_147_1 rfl rfl) (q1 rfl (D_fa' f_145_1 rfl rfl (q := 2) rfl) (q1 rfl (lr o_58 rfl rfl at6 rfl) (p1 rfl (li rfl (cv b_144 rfl rfl rfl rfl (fun w' hs => (laws_heldStringS w' u9 x3.Pattern.Args ((kk + 1) + 1) (rA hs hu10) (by first | assumption | omega | (unfold szm at *; split at * <;> omega)) (by first | assumption | omega | (unfold szm at *; split at * <;> omega)) (by first | assumption | omega | (unfold szm at *; split at * <;> omega)))) ?_)))))))))))))
     refine Pe rfl (Cq (Sr (P2 rfl rfl (Dx (Ci _ rfl (fun h15 => ?_) (fun h15 => ?_))))))
     ·have pr15 : ((((kk + 1) + 1) + x3.Pattern.Args.length) : Int) < 0 := odT h15
      refine Sr (Pe rfl (Ct (Xr (Xq (Xr (Xr (Xq (Xr (Ri rfl rfl ?_)))))))))
      show ((-1) : Int) = _
      first | (exfalso; contradiction) | (exfalso; omega) | (rw [List.take_of_length_le (by omega)] at hk; exact hk)
     ·have pr15 : ¬ ((((kk + 1) + 1) + x3.Pattern.Args.length) : Int) < 0 := odF h15
      refine Sk (Cq (Cq (C_draw mixed [] (by kernel_rfl) (Tk 0 rfl (by kernel_rfl) rfl (rp rfl) (Tk 1 rfl (by kernel_rfl) rfl (rp rfl) (Tk 2 rfl (by kernel_rfl) rfl (D_ix (l := a) (j := i) s_93 rfl rfl rfl (fun w' hs => (rA hs h_a)) rfl (lS hx4)) (Tk 3 rfl (by kernel_rfl) rfl (D_fa f_147_2 rfl rfl) (Tk 4 rfl (by kernel_rfl) rfl (lr o_9 rfl rfl at6 rfl) (Tk 5 rfl (by kernel_rfl) rfl (rp rfl) (ty 6 rfl (by kernel_rfl) rfl (cv b_59 rfl rfl rfl rfl (fun w' hs => (laws_markText w' (((kk + 1) + 1) + x3.Pattern.Args.length) (by first | assumption | omega | (unfold szm at *; split at * <;> omega)))) ?_)))))))))))
      refine tS (fun _ hs => hs) (Tk 7 rfl (by kernel_rfl) rfl (D_neS rfl rfl rfl) (tE (by kernel_rfl) (Xt (Dw [(0, v_a), (1, (.int .i64 (((kk + 1) + 1) + x3.Pattern.Args.length))), (5, (.int .i64 ((i : Nat) : Int))), (49, (.bool (!(decide ((x3.Left : ByteArray) = (markS (((kk + 1) + 1) + x3.Pattern.Args.length)))))))] ⟨rfl, rfl, rfl, rfl, trivial⟩ (Ci _ rfl (fun h16 => ?_) (fun h16 => ?_))))))
      ·have pr16 : ¬ (x3.Left : ByteArray) = (markS (((kk + 1) + 1) + x3.Pattern.Args.length)) := of_decide_eq_false (not_t h16)
       refine Sr (Pe rfl (Ct (Xr (Xq (Xr (Xr (Xq (Xr (Ri rfl rfl ?_)))))))))
       show ((-1) : Int) = _
       first | (exfalso; contradiction) | (exfalso; omega) | (rw [List.take_of_length_le (by omega)] at hk; exact hk)
      ·have pr16 : (x3.Left : ByteArray) = (markS (((kk + 1) + 1) + x3.Pattern.Args.length)) := of_decide_eq_true (not_f h16)
       refine Sk (Sr (p1 rfl (q1 rfl (D_add rfl rfl rfl rfl (by omega)) (Pe rfl (Cq (Cq (C_draw mixed [] (by kernel_rfl) (Tk 0 rfl (by kernel_rfl) rfl (rp rfl) (Tk 1 rfl (by kernel_rfl) rfl (rp rfl) (Tk 2 rfl (by kernel_rfl) rfl (D_ix (l := a) (j := i) s_93 rfl rfl rfl (fun w' hs => (rA hs h_a)) rfl (lS hx4)) (Tk 3 rfl (by kernel_rfl) rfl (D_fa f_147_3 rfl rfl) (Tk 4 rfl (by kernel_rfl) rfl (lr o_9 rfl rfl at6 rfl) (Tk 5 rfl (by kernel_rfl) rfl (rp rfl) (ty 6 rfl (by kernel_rfl) rfl (cv b_59 rfl rfl rfl rfl (fun w' hs => (laws_markText w' ((((kk + 1) + 1) + x3.Pattern.Args.length) + 1) (by first | assumption | omega | (unfold szm at *; split at * <;> omega)))) ?_)))))))))))))))
       refine tS (fun _ hs => hs) (Tk 7 rfl (by kernel_rfl) rfl (D_neS rfl rfl rfl) (tE (by kernel_rfl) (Xt (Ci _ rfl (fun h17 => ?_) (fun h17 => ?_)))))
       ·have pr17 : ¬ (x3.Right : ByteArray) = (markS ((((kk + 1) + 1) + x3.Pattern.Args.length) + 1)) := of_decide_eq_false (not_t h17)
        refine Sr (Pe rfl (Ct (Xr (Xq (Xr (Xr (Xq (Xr (Ri rfl rfl ?_)))))))))
        show ((-1) : Int) = _
        first | (exfalso; contradiction) | (exfalso; omega) | (rw [List.take_of_length_le (by omega)] at hk; exact hk)
       ·have pr17 : (x3.Right : ByteArray) = (markS ((((kk + 1) + 1) + x3.Pattern.Args.length) + 1)) := of_decide_eq_true (not_f h17)
        refine Sk (Cr (p1 rfl (q1 rfl (D_add rfl rfl rfl rfl (by omega)) (p1 rfl (De (Xb (Xt (Cr (p1 rfl (q1 rfl (D_add rfl rfl rfl (r := ((i + 1 : Nat) : Int)) (by omega) (by omega)) (Pe rfl (fun ac w' hf hs => ⟨_, ?_, i + 1, (((((kk + 1) + 1) + x3.Pattern.Args.length) + 1) + 1), ?_, ?_, rfl, hf.weak ⟨rfl, rfl, rfl, trivial⟩, hs⟩))))))))))))
        ·omega
        ·first | assumption | omega | simp
        ·omega
  ·have pr2 : ¬ (((i : Nat) : Int) : Int) < ((a.length : Nat) : Int) := odF h2
   refine Cx (Xx (Xx (Xe (Xt (Sr (P2 rfl rfl (Dx (Ct (Ri rfl rfl ?_)))))))))
   show (kk : Int) = _
   first | (exfalso; contradiction) | (exfalso; omega) | (rw [List.take_of_length_le (by omega)] at hk; exact hk)
theorem laws_markActionS (w0 : World) (Hs : List Chunk) (w : World) (v_a : Value) (a : (List Action)) (k : Int) (h0 : 0 ≤ k) (h1 : k + sumC cAc a ≤ 4611686018427387904) (hst : St w0 (ov [v_a] (a : (List Action)) :: Hs) w) : Calls Tryz.prog 61 [v_a, (.int .i64 k)].toArray w (fun e w' => e = .returned (.int .i64 (k + sumC cAc a)) ∧ St w0 (ov [v_a] (mapS fAc cAc k a : (List Action)) :: Hs) w') := by
 have hm1 := rd_max (rO (k := 0) hst rfl)
 refine enterS 37 Tryz.func61 rfl rfl rfl hst (Sr (Pe rfl (Dh (ov [v_a] (a : (List Action)) :: Hs) rfl (Cq (Sr (Pe rfl (Cb (Cl (fun m_ ac w' => ∃ (i : Nat), ∃ (kk : Int), (i ≤ a.length) ∧ (kk = k + sumC cAc (a.take i)) ∧ m_ = a.length - i ∧ Fits ac 37 [(0, v_a), (1, (.int .i64 kk)), (5, (.int .i64 ((i : Nat) : Int)))] ∧ St w0 (ov [v_a] (mapAt fAc cAc k a i : (List Action)) :: Hs) w') ?_ ?_))))))))
 ·refine D_eq 0 rfl (show (a : (List Action)) = mapAt fAc cAc k a 0 from by rw [mapAt_zero]) (fun ac w' hf hs => ⟨_, 0, k, ?_, ?_, rfl, hf.weak ⟨rfl, rfl, rfl, trivial⟩, hs⟩)
  ·first | assumption | omega | simp
  ·simp [sumC]
 ·rintro m_ ac w' ⟨i, kk, hi, hk, rfl, hf, hs⟩
  refine D.use ?_ hf hs
  clear hf hs ac w'
  have hcl := mapAt_len (f := fAc) (c := cAc) (k := k) hi
  have htk := sumC_take_le a cAc i
  refine Cq (Sr (P2 rfl rfl (q1 rfl (D_leno 0 s_94 rfl rfl rfl) (Pe rfl (Dh (ov [v_a] (mapAt fAc cAc k a i : (List Action)) :: Hs) rfl (Ci _ rfl (fun h2 => ?_) (fun h2 => ?_)))))))
  ·have pr2 : (((i : Nat) : Int) : Int) < (((mapAt fAc cAc k a i).length : Nat) : Int) := odT h2
   refine Sk (Cq (Cb (Sr (P3 rfl rfl rfl ?_))))
   obtain ⟨x3, hx4⟩ := sL (l := (mapAt fAc cAc k a i)) (i := i) (by omega)
   refine D_take hx4 fun es5 => ?_
   refine Dp (fun w' hs => shape_Action (rO (k := 0) hs rfl)) ?_
   rintro ⟨v6, rfl, ho7⟩
   refine q1 rfl (D_ixh 1 s_94 rfl rfl rfl rfl rfl) ?_
   have hstep := mk_step hi hx4 hk
   have hcc : cAc x3 = 2 + x3.Pattern.Args.length := rfl
   refine q1 rfl (D_fa f_159_0 rfl rfl) (D_unpair (α := Int) (β := Go.Sy.Pattern) (c1 := [(.int .i64 x3.Kind)]) (c2 := [(.string x3.Pattern.Rel), v6]) (x := x3.Kind) (y := (x3.Pattern)) rfl rfl (D_fd [] 1 rfl (li rfl (sh (n := 3) (f := 0) 1 rfl z_3 rfl rfl rfl rfl rfl rfl rfl (by simp) ?_))))
   refine Dx (Sr (p1 rfl (q1 rfl (D_add rfl rfl rfl rfl (by omega)) (Pe rfl (Sr (P3 rfl rfl rfl (li rfl (cv b_59 rfl rfl rfl rfl (fun w' hs => (laws_markText w' (kk + 1) (by first | assumption | omega | (unfold szm at *; split at * <;> omega)))) ?_))))))))
   refine q1 rfl (D_ixh 1 s_94 rfl rfl rfl rfl rfl) (q1 rfl (D_fa f_159_1 rfl rfl) (q1 rfl (D_fa' f_145_0 rfl rfl (q := 1) rfl) (li rfl (sh (n := 3) (f := 1) 1 rfl z_9 rfl rfl rfl rfl rfl rfl rfl (by simp) ?_))))
   refine Dx (Dw [(0, v_a), (1, (.int .i64 (kk + 1))), (5, (.int .i64 ((i : Nat) : Int)))] ⟨rfl, rfl, rfl, trivial⟩ (Sr (p1 rfl (q1 rfl (D_add rfl rfl rfl rfl (by omega)) (Pe rfl (Cr (P2 rfl rfl (q1 rfl (D_ixh 1 s_94 rfl rfl rfl rfl rfl) (q1 rfl (D_fa f_159_1 rfl rfl) (q1 rfl (D_fa' f_145_1 rfl rfl (q := 2) rfl) (q1 rfl (lh (n := 3) 1 rfl o_58 rfl rfl rfl rfl) (p1 rfl (D_unpair (α := ByteArray) (β := (List ByteArray)) (c1 := [(.string x3.Pattern.Rel)]) (c2 := [v6]) (x := x3.Pattern.Rel) (y := (x3.Pattern.Args)) rfl rfl (D_fd [] 1 rfl (li rfl (cm b_62 rfl rfl rfl rfl (fun w' hs => laws_markStringS _ _ w' v6 x3.Pattern.Args ((kk + 1) + 1) (by first | assumption | omega | (simp only; omega)) (by first | assumption | omega | (simp only; omega)) hs) ?_))))))))))))))))
   refine p1 rfl (De (Xb (Xt (Cr (p1 rfl (q1 rfl (D_add rfl rfl rfl (r := ((i + 1 : Nat) : Int)) (by omega) (by omega)) (Pe rfl (pk_Action (r := (⟨kk, ⟨(markS (kk + 1)), mkSs ((kk + 1) + 1) x3.Pattern.Args⟩⟩ : Action)) (D_put (D_eq 0 rfl (show ((mapAt fAc cAc k a i).set i (⟨kk, ⟨(markS (kk + 1)), mkSs ((kk + 1) + 1) x3.Pattern.Args⟩⟩ : Action) : (List Action)) = mapAt fAc cAc k a (i + 1) from by exact mk_set hi hx4 hk rfl) (fun ac w' hf hs => ⟨_, ?_, i + 1, (((kk + 1) + 1) + x3.Pattern.Args.length), ?_, ?_, rfl, hf.weak ⟨rfl, rfl, rfl, trivial⟩, hs⟩)))))))))))
   ·omega
   ·first | assumption | omega | simp
   ·omega
  ·have pr2 : ¬ (((i : Nat) : Int) : Int) < (((mapAt fAc cAc k a i).length : Nat) : Int) := odF h2
   refine Cx (Xx (Xx (Xe (Xt (Sr (P2 rfl rfl (Dx (Ct (D_eq 0 rfl (show (mapAt fAc cAc k a i : (List Action)) = mapS fAc cAc k a from by exact mapAt_done (by omega)) (R_1 rfl rfl fun w' hs => ⟨congrArg (fun z => Ending.returned (Value.int .i64 z)) ?_, hs⟩))))))))))
   show (kk : Int) = k + sumC cAc a
   rw [List.take_of_length_le (by omega)] at hk; exact hk
theorem laws_heldActionS (w : World) (v_a : Value) (a : (List Action)) (k : Int) (h_a : Gd.rd w [v_a] a) (h0 : 0 ≤ k) (h1 : k + sumC cAc a ≤ 4611686018427387904) (he : a = mapS fAc cAc k a) : Calls Tryz.prog 143 [v_a, (.int .i64 k)].toArray w (Val w (.int .i64 (k + sumC cAc a))) := by
 have hm1 := rd_max h_a
 refine enter 43 Tryz.func143 rfl rfl rfl (Sr (Pe rfl (Cq (Sr (Pe rfl (Cb (Cl (fun m_ ac w' => ∃ (i : Nat), ∃ (kk : Int), (i ≤ a.length) ∧ (kk = k + sumC cAc (a.take i)) ∧ m_ = a.length - i ∧ Fits ac 43 [(0, v_a), (1, (.int .i64 kk)), (5, (.int .i64 ((i : Nat) : Int)))] ∧ St w ([]) w') ?_ ?_)))))))
 ·refine fun ac w' hf hs => ⟨_, 0, k, ?_, ?_, rfl, hf.weak ⟨rfl, rfl, rfl, trivial⟩, hs⟩
  ·first | assumption | omega | simp
  ·simp [sumC]
 ·rintro m_ ac w' ⟨i, kk, hi, hk, rfl, hf, hs⟩
  refine D.use ?_ hf hs
  clear hf hs ac w'
  have htk := sumC_take_le a cAc i
  refine Cq (Sr (P2 rfl rfl (q1 rfl (Dl s_94 rfl rfl (rd_sl h_a)) (Pe rfl (Ci _ rfl (fun h2 => ?_) (fun h2 => ?_))))))
  ·have pr2 : (((i : Nat) : Int) : Int) < ((a.length : Nat) : Int) := odT h2
   refine Sk (Cq (Cb (Cq (Sr (P2 rfl rfl ?_)))))
   obtain ⟨x3, hx4⟩ := sL (l := a) (i := i) (by omega)
   obtain ⟨es5, at6, hr7⟩ := rd_elem (n := 3) rfl h_a hx4
   obtain ⟨u9, rfl, hu10⟩ := open_Action hr7
   have hm11 := rd_max hu10
   have hb12 := sub_Action_Pattern hr7
   refine q1 rfl (D_ix (l := a) (j := i) s_94 rfl rfl rfl (fun w' hs => (rA hs h_a)) rfl (lS hx4)) ?_
   have hfx := mapS_fix he hx4
   rw [← hk] at hfx
   have hF0 : x3.Kind = kk := congrArg (fun y => y.Kind) hfx
   have hF1 : x3.Pattern.Rel = markS (kk + 1) := congrArg (fun y => y.Pattern.Rel) hfx
   have hF2 : x3.Pattern.Args = mkSs (kk + 1 + 1) x3.Pattern.Args := congrArg (fun y => y.Pattern.Args) hfx
   have hstep := mk_stepH (c := cAc) hx4 hk
   have hcc : cAc x3 = 2 + x3.Pattern.Args.length := rfl
   refine q1 rfl (D_fa f_159_0 rfl rfl) (q1 rfl (lr o_3 rfl rfl at6 rfl) (P2 rfl rfl (Dx (Ci _ rfl (fun h13 => ?_) (fun h13 => ?_)))))
   ·have pr13 : (x3.Kind : Int) ≠ kk := bne_iff_ne.1 h13
    refine Sr (Pe rfl (Ct (Xr (Xq (Xr (Xr (Xq (Xr (Ri rfl rfl ?_)))))))))
    show ((-1) : Int) = _
    first | (exfalso; contradiction) | (exfalso; omega) | (rw [List.take_of_length_le (by omega)] at hk; exact hk)
   ·have pr13 : (x3.Kind : Int) = kk := eq_of_bne_f h13
    refine Sk (Sr (p1 rfl (q1 rfl (D_add rfl rfl rfl rfl (by omega)) (Pe rfl (Cq (Cq (C_draw mixed [] (by kernel_rfl) (Tk 0 rfl (by kernel_rfl) rfl (rp rfl) (Tk 1 rfl (by kernel_rfl) rfl (rp rfl) (Tk 2 rfl (by kernel_rfl) rfl (D_ix (l := a) (j := i) s_94 rfl rfl rfl (fun w' hs => (rA hs h_a)) rfl (lS hx4)) (Tk 3 rfl (by kernel_rfl) rfl (D_fa f_159_1 rfl rfl) (Tk 4 rfl (by kernel_rfl) rfl (D_fa' f_145_0 rfl rfl (q := 1) rfl) (Tk 5 rfl (by kernel_rfl) rfl (lr o_9 rfl rfl at6 rfl) (Tk 6 rfl (by kernel_rfl) rfl (rp rfl) (ty 7 rfl (by kernel_rfl) rfl (cv b_59 rfl rfl rfl rfl (fun w' hs => (laws_markText w' (kk + 1) (by first | assumption | omega | (unfold szm at *; split at * <;> omega)))) ?_))))))))))))))))
    refine tS (fun _ hs => hs) (Tk 8 rfl (by kernel_rfl) rfl (D_neS rfl rfl rfl) (tE (by kernel_rfl) (Xt (Dw [(0, v_a), (1, (.int .i64 (kk + 1))), (5, (.int .i64 ((i : Nat) : Int))), (29, (.bool (!(decide ((x3.Pattern.Rel : ByteArray) = (markS (kk + 1)))))))] ⟨rfl, rfl, rfl, rfl, trivial⟩ (Ci _ rfl (fun h14 => ?_) (fun h14 => ?_))))))
    ·have pr14 : ¬ (x3.Pattern.Rel : ByteArray) = (markS (kk + 1)) := of_decide_eq_false (not_t h14)
     refine Sr (Pe rfl (Ct (Xr (Xq (Xr (Xr (Xq (Xr (Ri rfl rfl ?_)))))))))
     show ((-1) : Int) = _
     first | (exfalso; contradiction) | (exfalso; omega) | (rw [List.take_of_length_le (by omega)] at hk; exact hk)
    ·have pr14 : (x3.Pattern.Rel : ByteArray) = (markS (kk + 1)) := of_decide_eq_true (not_f h14)
     refine Sk (Sr (p1 rfl (q1 rfl (D_add rfl rfl rfl rfl (by omega)) (Pe rfl (Sr (P2 rfl rfl (q1 rfl (D_ix (l := a) (j := i) s_94 rfl rfl rfl (fun w' hs => (rA hs h_a)) rfl (lS hx4)) (q1 rfl (D_fa f_159_1 rfl rfl) (q1 rfl (D_fa' f_145_1 rfl rfl (q := 2) rfl) (q1 rfl (lr o_58 rfl rfl at6 rfl) (p1 rfl (li rfl (cv b_144 rfl rfl rfl rfl (fun w' hs => (laws_heldStringS w' u9 x3.Pattern.Args ((kk + 1) + 1) (rA hs hu10) (by first | assumption | omega | (unfold szm at *; split at * <;> omega)) (by first | assumption | omega | (unfold szm at *; split at * <;> omega)) (by first | assumption | omega | (unfold szm at *; split at * <;> omega)))) ?_)))))))))))))
     refine Pe rfl (Sr (P2 rfl rfl (Dx (Ci _ rfl (fun h15 => ?_) (fun h15 => ?_)))))
     ·have pr15 : ((((kk + 1) + 1) + x3.Pattern.Args.length) : Int) < 0 := odT h15
      refine Sr (Pe rfl (Ct (Xq (Xr (Xr (Xq (Xr (Ri rfl rfl ?_))))))))
      show ((-1) : Int) = _
      first | (exfalso; contradiction) | (exfalso; omega) | (rw [List.take_of_length_le (by omega)] at hk; exact hk)
     ·have pr15 : ¬ ((((kk + 1) + 1) + x3.Pattern.Args.length) : Int) < 0 := odF h15
      refine Ck (Xb (Xt (Cr (p1 rfl (q1 rfl (D_add rfl rfl rfl (r := ((i + 1 : Nat) : Int)) (by omega) (by omega)) (Pe rfl (fun ac w' hf hs => ⟨_, ?_, i + 1, (((kk + 1) + 1) + x3.Pattern.Args.length), ?_, ?_, rfl, hf.weak ⟨rfl, rfl, rfl, trivial⟩, hs⟩)))))))
      ·omega
      ·first | assumption | omega | simp
      ·omega
  ·have pr2 : ¬ (((i : Nat) : Int) : Int) < ((a.length : Nat) : Int) := odF h2
   refine Cx (Xx (Xx (Xe (Xt (Sr (P2 rfl rfl (Dx (Ct (Ri rfl rfl ?_)))))))))
   show (kk : Int) = _
   first | (exfalso; contradiction) | (exfalso; omega) | (rw [List.take_of_length_le (by omega)] at hk; exact hk)
theorem laws_markRuleS (w0 : World) (Hs : List Chunk) (w : World) (v_a : Value) (a : (List Rule)) (k : Int) (h0 : 0 ≤ k) (h1 : k + sumC cRu a ≤ 4611686018427387904) (hst : St w0 (ov [v_a] (a : (List Rule)) :: Hs) w) : Calls Tryz.prog 18 [v_a, (.int .i64 k)].toArray w (fun e w' => e = .returned (.int .i64 (k + sumC cRu a)) ∧ St w0 (ov [v_a] (mapS fRu cRu k a : (List Rule)) :: Hs) w') := by
 have hm1 := rd_max (rO (k := 0) hst rfl)
 refine enterS 42 Tryz.func18 rfl rfl rfl hst (Sr (Pe rfl (Dh (ov [v_a] (a : (List Rule)) :: Hs) rfl (Cq (Sr (Pe rfl (Cb (Cl (fun m_ ac w' => ∃ (i : Nat), ∃ (kk : Int), (i ≤ a.length) ∧ (kk = k + sumC cRu (a.take i)) ∧ m_ = a.length - i ∧ Fits ac 42 [(0, v_a), (1, (.int .i64 kk)), (5, (.int .i64 ((i : Nat) : Int)))] ∧ St w0 (ov [v_a] (mapAt fRu cRu k a i : (List Rule)) :: Hs) w') ?_ ?_))))))))
 ·refine D_eq 0 rfl (show (a : (List Rule)) = mapAt fRu cRu k a 0 from by rw [mapAt_zero]) (fun ac w' hf hs => ⟨_, 0, k, ?_, ?_, rfl, hf.weak ⟨rfl, rfl, rfl, trivial⟩, hs⟩)
  ·first | assumption | omega | simp
  ·simp [sumC]
 ·rintro m_ ac w' ⟨i, kk, hi, hk, rfl, hf, hs⟩
  refine D.use ?_ hf hs
  clear hf hs ac w'
  have hcl := mapAt_len (f := fRu) (c := cRu) (k := k) hi
  have htk := sumC_take_le a cRu i
  refine Cq (Sr (P2 rfl rfl (q1 rfl (D_leno 0 s_40 rfl rfl rfl) (Pe rfl (Dh (ov [v_a] (mapAt fRu cRu k a i : (List Rule)) :: Hs) rfl (Ci _ rfl (fun h2 => ?_) (fun h2 => ?_)))))))
  ·have pr2 : (((i : Nat) : Int) : Int) < (((mapAt fRu cRu k a i).length : Nat) : Int) := odT h2
   refine Sk (Cq (Cb (Sr (P3 rfl rfl rfl (li rfl (cv b_59 rfl rfl rfl rfl (fun w' hs => (laws_markText w' kk (by first | assumption | omega | (unfold szm at *; split at * <;> omega)))) ?_))))))
   obtain ⟨x3, hx4⟩ := sL (l := (mapAt fRu cRu k a i)) (i := i) (by omega)
   refine D_take hx4 fun es5 => ?_
   refine Dp (fun w' hs => shape_Rule (rO (k := 0) hs rfl)) ?_
   rintro ⟨v6, v7, rfl, ho8, ho9⟩
   refine q1 rfl (D_ixh 1 s_40 rfl rfl rfl rfl rfl) ?_
   have hstep := mk_step hi hx4 hk
   have hcc : cRu x3 = 2 + sumC cCo x3.If + sumC cAc x3.Then := rfl
   refine q1 rfl (D_fa f_96_0 rfl rfl) (D_unpair (α := ByteArray) (β := Int × (List Cond) × (List Action)) (c1 := [(.string x3.Name)]) (c2 := [(.int .i64 x3.Priority), v6, v7]) (x := x3.Name) (y := (x3.Priority, x3.If, x3.Then)) rfl rfl (D_fd [] 1 rfl (D_unpair (α := Int) (β := (List Cond) × (List Action)) (c1 := [(.int .i64 x3.Priority)]) (c2 := [v6, v7]) (x := x3.Priority) (y := (x3.If, x3.Then)) rfl rfl (D_fd [] 1 rfl (D_unpair (α := (List Cond)) (β := (List Action)) (c1 := [v6]) (c2 := [v7]) (x := x3.If) (y := (x3.Then)) rfl rfl (D_fd [1] 0 rfl (li rfl (sh (n := 4) (f := 0) 2 rfl z_9 rfl rfl rfl rfl rfl rfl rfl (by simp) ?_))))))))
   refine Dx (Sr (p1 rfl (q1 rfl (D_add rfl rfl rfl rfl (by omega)) (Pe rfl (Sr (P3 rfl rfl rfl (q1 rfl (D_ixh 2 s_40 rfl rfl rfl rfl rfl) (q1 rfl (D_fa f_96_1 rfl rfl) (li rfl (sh (n := 4) (f := 1) 2 rfl z_3 rfl rfl rfl rfl rfl rfl rfl (by simp) ?_))))))))))
   refine Dx (Dw [(0, v_a), (1, (.int .i64 (kk + 1))), (5, (.int .i64 ((i : Nat) : Int)))] ⟨rfl, rfl, rfl, trivial⟩ (Sr (p1 rfl (q1 rfl (D_add rfl rfl rfl rfl (by omega)) (Pe rfl (Sr (P2 rfl rfl (q1 rfl (D_ixh 2 s_40 rfl rfl rfl rfl rfl) (q1 rfl (D_fa f_96_2 rfl rfl) (q1 rfl (lh (n := 4) 2 rfl o_93 rfl rfl rfl rfl) (p1 rfl (D_fd [1] 0 rfl (li rfl (cm b_60 rfl rfl rfl rfl (fun w' hs => laws_markCondS _ _ w' v6 x3.If ((kk + 1) + 1) (by first | assumption | omega | (simp only; omega)) (by first | assumption | omega | (simp only; omega)) hs) ?_))))))))))))))
   refine Pe rfl (Cr (P2 rfl rfl (q1 rfl (D_ixh 2 s_40 rfl rfl rfl rfl rfl) (q1 rfl (D_fa f_96_3 rfl rfl) (q1 rfl (lh (n := 4) 2 rfl o_94 rfl rfl rfl rfl) (p1 rfl (D_fd [1] 0 rfl (li rfl (cm b_61 rfl rfl rfl rfl (fun w' hs => laws_markActionS _ _ w' v7 x3.Then (((kk + 1) + 1) + sumC cCo x3.If) (by first | assumption | omega | (simp only; omega)) (by first | assumption | omega | (simp only; omega)) hs) ?_)))))))))
   refine p1 rfl (De (Xb (Xt (Dw [(0, v_a), (1, (.int .i64 ((((kk + 1) + 1) + sumC cCo x3.If) + sumC cAc x3.Then))), (5, (.int .i64 ((i : Nat) : Int)))] ⟨rfl, rfl, rfl, trivial⟩ (Cr (p1 rfl (q1 rfl (D_add rfl rfl rfl (r := ((i + 1 : Nat) : Int)) (by omega) (by omega)) (Pe rfl (D_fd [0, 1] 0 rfl (pk_Rule (r := (⟨(markS kk), (kk + 1), mapS fCo cCo ((kk + 1) + 1) x3.If, mapS fAc cAc (((kk + 1) + 1) + sumC cCo x3.If) x3.Then⟩ : Rule)) (D_put (D_eq 0 rfl (show ((mapAt fRu cRu k a i).set i (⟨(markS kk), (kk + 1), mapS fCo cCo ((kk + 1) + 1) x3.If, mapS fAc cAc (((kk + 1) + 1) + sumC cCo x3.If) x3.Then⟩ : Rule) : (List Rule)) = mapAt fRu cRu k a (i + 1) from by exact mk_set hi hx4 hk rfl) (fun ac w' hf hs => ⟨_, ?_, i + 1, ((((kk + 1) + 1) + sumC cCo x3.If) + sumC cAc x3.Then), ?_, ?_, rfl, hf.weak ⟨rfl, rfl, rfl, trivial⟩, hs⟩)))))))))))))
   ·omega
   ·first | assumption | omega | simp
   ·omega
  ·have pr2 : ¬ (((i : Nat) : Int) : Int) < (((mapAt fRu cRu k a i).length : Nat) : Int) := odF h2
   refine Cx (Xx (Xx (Xe (Xt (Sr (P2 rfl rfl (Dx (Ct (D_eq 0 rfl (show (mapAt fRu cRu k a i : (List Rule)) = mapS fRu cRu k a from by exact mapAt_done (by omega)) (R_1 rfl rfl fun w' hs => ⟨congrArg (fun z => Ending.returned (Value.int .i64 z)) ?_, hs⟩))))))))))
   show (kk : Int) = k + sumC cRu a
   rw [List.take_of_length_le (by omega)] at hk; exact hk
theorem laws_heldRuleS (w : World) (v_a : Value) (a : (List Rule)) (k : Int) (h_a : Gd.rd w [v_a] a) (h0 : 0 ≤ k) (h1 : k + sumC cRu a ≤ 4611686018427387904) (he : a = mapS fRu cRu k a) : Calls Tryz.prog 87 [v_a, (.int .i64 k)].toArray w (Val w (.int .i64 (k + sumC cRu a))) := by
 have hm1 := rd_max h_a
 refine enter 50 Tryz.func87 rfl rfl rfl (Sr (Pe rfl (Cq (Sr (Pe rfl (Cb (Cl (fun m_ ac w' => ∃ (i : Nat), ∃ (kk : Int), (i ≤ a.length) ∧ (kk = k + sumC cRu (a.take i)) ∧ m_ = a.length - i ∧ Fits ac 50 [(0, v_a), (1, (.int .i64 kk)), (5, (.int .i64 ((i : Nat) : Int)))] ∧ St w ([]) w') ?_ ?_)))))))
 ·refine fun ac w' hf hs => ⟨_, 0, k, ?_, ?_, rfl, hf.weak ⟨rfl, rfl, rfl, trivial⟩, hs⟩
  ·first | assumption | omega | simp
  ·simp [sumC]
 ·rintro m_ ac w' ⟨i, kk, hi, hk, rfl, hf, hs⟩
  refine D.use ?_ hf hs
  clear hf hs ac w'
  have htk := sumC_take_le a cRu i
  refine Cq (Sr (P2 rfl rfl (q1 rfl (Dl s_40 rfl rfl (rd_sl h_a)) (Pe rfl (Ci _ rfl (fun h2 => ?_) (fun h2 => ?_))))))
  ·have pr2 : (((i : Nat) : Int) : Int) < ((a.length : Nat) : Int) := odT h2
   refine Sk (Cq (Cb (Cq (Cq (C_draw mixed [] (by kernel_rfl) (Tk 0 rfl (by kernel_rfl) rfl (rp rfl) (Tk 1 rfl (by kernel_rfl) rfl (rp rfl) ?_)))))))
   obtain ⟨x3, hx4⟩ := sL (l := a) (i := i) (by omega)
   obtain ⟨es5, at6, hr7⟩ := rd_elem (n := 4) rfl h_a hx4
   obtain ⟨u9, u11, rfl, hu10, hu12⟩ := open_Rule hr7
   have hm13 := rd_max hu10
   have hm14 := rd_max hu12
   refine Tk 2 rfl (by kernel_rfl) rfl (D_ix (l := a) (j := i) s_40 rfl rfl rfl (fun w' hs => (rA hs h_a)) rfl (lS hx4)) ?_
   have hfx := mapS_fix he hx4
   rw [← hk] at hfx
   have hF0 : x3.Name = markS kk := congrArg (fun y => y.Name) hfx
   have hF1 : x3.Priority = kk + 1 := congrArg (fun y => y.Priority) hfx
   have hF2 : x3.If = mkCs (kk + 1 + 1) x3.If := congrArg (fun y => y.If) hfx
   have hF3 : x3.Then = mkAs (kk + 1 + 1 + sumC cCo x3.If) x3.Then := congrArg (fun y => y.Then) hfx
   have hstep := mk_stepH (c := cRu) hx4 hk
   have hcc : cRu x3 = 2 + sumC cCo x3.If + sumC cAc x3.Then := rfl
   refine Tk 3 rfl (by kernel_rfl) rfl (D_fa f_96_0 rfl rfl) (Tk 4 rfl (by kernel_rfl) rfl (lr o_9 rfl rfl at6 rfl) (Tk 5 rfl (by kernel_rfl) rfl (rp rfl) (ty 6 rfl (by kernel_rfl) rfl (cv b_59 rfl rfl rfl rfl (fun w' hs => (laws_markText w' kk (by first | assumption | omega | (unfold szm at *; split at * <;> omega)))) ?_))))
   refine tS (fun _ hs => hs) (Tk 7 rfl (by kernel_rfl) rfl (D_neS rfl rfl rfl) (tE (by kernel_rfl) (Xt (Ci _ rfl (fun h15 => ?_) (fun h15 => ?_)))))
   ·have pr15 : ¬ (x3.Name : ByteArray) = (markS kk) := of_decide_eq_false (not_t h15)
    refine Sr (Pe rfl (Ct (Xr (Xq (Xr (Xr (Xq (Xr (Ri rfl rfl ?_)))))))))
    show ((-1) : Int) = _
    first | (exfalso; contradiction) | (exfalso; omega) | (rw [List.take_of_length_le (by omega)] at hk; exact hk)
   ·have pr15 : (x3.Name : ByteArray) = (markS kk) := of_decide_eq_true (not_f h15)
    refine Sk (Sr (p1 rfl (q1 rfl (D_add rfl rfl rfl rfl (by omega)) (Pe rfl (Cq (Sr (P2 rfl rfl (q1 rfl (D_ix (l := a) (j := i) s_40 rfl rfl rfl (fun w' hs => (rA hs h_a)) rfl (lS hx4)) (q1 rfl (D_fa f_96_1 rfl rfl) (q1 rfl (lr o_3 rfl rfl at6 rfl) (P2 rfl rfl (Dx (Dw [(0, v_a), (1, (.int .i64 (kk + 1))), (5, (.int .i64 ((i : Nat) : Int))), (28, (.bool ((x3.Priority : Int) != (kk + 1))))] ⟨rfl, rfl, rfl, rfl, trivial⟩ (Ci _ rfl (fun h16 => ?_) (fun h16 => ?_)))))))))))))))
    ·have pr16 : (x3.Priority : Int) ≠ (kk + 1) := bne_iff_ne.1 h16
     refine Sr (Pe rfl (Ct (Xr (Xq (Xr (Xr (Xq (Xr (Ri rfl rfl ?_)))))))))
     show ((-1) : Int) = _
     first | (exfalso; contradiction) | (exfalso; omega) | (rw [List.take_of_length_le (by omega)] at hk; exact hk)
    ·have pr16 : (x3.Priority : Int) = (kk + 1) := eq_of_bne_f h16
     refine Sk (Sr (p1 rfl (q1 rfl (D_add rfl rfl rfl rfl (by omega)) (Pe rfl (Sr (P2 rfl rfl (q1 rfl (D_ix (l := a) (j := i) s_40 rfl rfl rfl (fun w' hs => (rA hs h_a)) rfl (lS hx4)) (q1 rfl (D_fa f_96_2 rfl rfl) (q1 rfl (lr o_93 rfl rfl at6 rfl) (p1 rfl (li rfl (cv b_142 rfl rfl rfl rfl (fun w' hs => (laws_heldCondS w' u9 x3.If ((kk + 1) + 1) (rA hs hu10) (by first | assumption | omega | (unfold szm at *; split at * <;> omega)) (by first | assumption | omega | (unfold szm at *; split at * <;> omega)) (by first | assumption | omega | (unfold szm at *; split at * <;> omega)))) ?_))))))))))))
     refine Pe rfl (Cq (Sr (P2 rfl rfl (Dx (Ci _ rfl (fun h17 => ?_) (fun h17 => ?_))))))
     ·have pr17 : ((((kk + 1) + 1) + sumC cCo x3.If) : Int) < 0 := odT h17
      refine Sr (Pe rfl (Ct (Xr (Xq (Xr (Xr (Xq (Xr (Ri rfl rfl ?_)))))))))
      show ((-1) : Int) = _
      first | (exfalso; contradiction) | (exfalso; omega) | (rw [List.take_of_length_le (by omega)] at hk; exact hk)
     ·have pr17 : ¬ ((((kk + 1) + 1) + sumC cCo x3.If) : Int) < 0 := odF h17
      refine Sk (Sr (P2 rfl rfl (q1 rfl (D_ix (l := a) (j := i) s_40 rfl rfl rfl (fun w' hs => (rA hs h_a)) rfl (lS hx4)) (q1 rfl (D_fa f_96_3 rfl rfl) (q1 rfl (lr o_94 rfl rfl at6 rfl) (p1 rfl (li rfl (cv b_143 rfl rfl rfl rfl (fun w' hs => (laws_heldActionS w' u11 x3.Then (((kk + 1) + 1) + sumC cCo x3.If) (rA hs hu12) (by first | assumption | omega | (unfold szm at *; split at * <;> omega)) (by first | assumption | omega | (unfold szm at *; split at * <;> omega)) (by first | assumption | omega | (unfold szm at *; split at * <;> omega)))) ?_))))))))
      refine Pe rfl (Dw [(0, v_a), (1, (.int .i64 ((((kk + 1) + 1) + sumC cCo x3.If) + sumC cAc x3.Then))), (5, (.int .i64 ((i : Nat) : Int)))] ⟨rfl, rfl, rfl, trivial⟩ (Sr (P2 rfl rfl (Dx (Ci _ rfl (fun h18 => ?_) (fun h18 => ?_))))))
      ·have pr18 : (((((kk + 1) + 1) + sumC cCo x3.If) + sumC cAc x3.Then) : Int) < 0 := odT h18
       refine Sr (Pe rfl (Ct (Xq (Xr (Xr (Xq (Xr (Ri rfl rfl ?_))))))))
       show ((-1) : Int) = _
       first | (exfalso; contradiction) | (exfalso; omega) | (rw [List.take_of_length_le (by omega)] at hk; exact hk)
      ·have pr18 : ¬ (((((kk + 1) + 1) + sumC cCo x3.If) + sumC cAc x3.Then) : Int) < 0 := odF h18
       refine Ck (Xb (Xt (Cr (p1 rfl (q1 rfl (D_add rfl rfl rfl (r := ((i + 1 : Nat) : Int)) (by omega) (by omega)) (Pe rfl (fun ac w' hf hs => ⟨_, ?_, i + 1, ((((kk + 1) + 1) + sumC cCo x3.If) + sumC cAc x3.Then), ?_, ?_, rfl, hf.weak ⟨rfl, rfl, rfl, trivial⟩, hs⟩)))))))
       ·omega
       ·first | assumption | omega | simp
       ·omega
  ·have pr2 : ¬ (((i : Nat) : Int) : Int) < ((a.length : Nat) : Int) := odF h2
   refine Cx (Xx (Xx (Xe (Xt (Sr (P2 rfl rfl (Dx (Ct (Ri rfl rfl ?_)))))))))
   show (kk : Int) = _
   first | (exfalso; contradiction) | (exfalso; omega) | (rw [List.take_of_length_le (by omega)] at hk; exact hk)
theorem laws_markStampS (w0 : World) (Hs : List Chunk) (w : World) (v_a : Value) (a : (List Stamp)) (k : Int) (h0 : 0 ≤ k) (h1 : k + sumC cSt a ≤ 4611686018427387904) (hst : St w0 (ov [v_a] (a : (List Stamp)) :: Hs) w) : Calls Tryz.prog 19 [v_a, (.int .i64 k)].toArray w (fun e w' => e = .returned (.int .i64 (k + sumC cSt a)) ∧ St w0 (ov [v_a] (mapS fSt cSt k a : (List Stamp)) :: Hs) w') := by
 have hm1 := rd_max (rO (k := 0) hst rfl)
 refine enterS 37 Tryz.func19 rfl rfl rfl hst (Sr (Pe rfl (Dh (ov [v_a] (a : (List Stamp)) :: Hs) rfl (Cq (Sr (Pe rfl (Cb (Cl (fun m_ ac w' => ∃ (i : Nat), ∃ (kk : Int), (i ≤ a.length) ∧ (kk = k + sumC cSt (a.take i)) ∧ m_ = a.length - i ∧ Fits ac 37 [(0, v_a), (1, (.int .i64 kk)), (5, (.int .i64 ((i : Nat) : Int)))] ∧ St w0 (ov [v_a] (mapAt fSt cSt k a i : (List Stamp)) :: Hs) w') ?_ ?_))))))))
 ·refine D_eq 0 rfl (show (a : (List Stamp)) = mapAt fSt cSt k a 0 from by rw [mapAt_zero]) (fun ac w' hf hs => ⟨_, 0, k, ?_, ?_, rfl, hf.weak ⟨rfl, rfl, rfl, trivial⟩, hs⟩)
  ·first | assumption | omega | simp
  ·simp [sumC]
 ·rintro m_ ac w' ⟨i, kk, hi, hk, rfl, hf, hs⟩
  refine D.use ?_ hf hs
  clear hf hs ac w'
  have hcl := mapAt_len (f := fSt) (c := cSt) (k := k) hi
  have htk := sumC_take_le a cSt i
  refine Cq (Sr (P2 rfl rfl (q1 rfl (D_leno 0 s_42 rfl rfl rfl) (Pe rfl (Dh (ov [v_a] (mapAt fSt cSt k a i : (List Stamp)) :: Hs) rfl (Ci _ rfl (fun h2 => ?_) (fun h2 => ?_)))))))
  ·have pr2 : (((i : Nat) : Int) : Int) < (((mapAt fSt cSt k a i).length : Nat) : Int) := odT h2
   refine Sk (Cq (Cb (Sr (P3 rfl rfl rfl (li rfl (cv b_59 rfl rfl rfl rfl (fun w' hs => (laws_markText w' kk (by first | assumption | omega | (unfold szm at *; split at * <;> omega)))) ?_))))))
   obtain ⟨x3, hx4⟩ := sL (l := (mapAt fSt cSt k a i)) (i := i) (by omega)
   refine D_take hx4 fun es5 => ?_
   refine Dp (fun w' hs => shape_Stamp (rO (k := 0) hs rfl)) ?_
   rintro ⟨v6, rfl, ho7⟩
   refine q1 rfl (D_ixh 1 s_42 rfl rfl rfl rfl rfl) ?_
   have hstep := mk_step hi hx4 hk
   have hcc : cSt x3 = 2 + x3.Fact.Args.length := rfl
   refine q1 rfl (D_fa f_100_0 rfl rfl) (q1 rfl (D_fa' f_70_0 rfl rfl (q := 0) rfl) (D_unpair (α := Go.Sy.Fact) (β := Int) (c1 := [(.string x3.Fact.Rel), v6]) (c2 := [(.int .i64 x3.Time)]) (x := x3.Fact) (y := (x3.Time)) rfl rfl (D_fd [1] 0 rfl (D_fd [] 1 rfl (li rfl (sh (n := 3) (f := 0) 1 rfl z_9 rfl rfl rfl rfl rfl rfl rfl (by simp) ?_))))))
   refine Dx (Sr (p1 rfl (q1 rfl (D_add rfl rfl rfl rfl (by omega)) (Pe rfl (Sr (P2 rfl rfl (q1 rfl (D_ixh 1 s_42 rfl rfl rfl rfl rfl) (q1 rfl (D_fa f_100_0 rfl rfl) (q1 rfl (D_fa' f_70_1 rfl rfl (q := 1) rfl) (q1 rfl (lh (n := 3) 1 rfl o_58 rfl rfl rfl rfl) (p1 rfl (D_unpair (α := ByteArray) (β := (List ByteArray)) (c1 := [(.string x3.Fact.Rel)]) (c2 := [v6]) (x := x3.Fact.Rel) (y := (x3.Fact.Args)) rfl rfl (D_fd [] 1 rfl (li rfl (cm b_62 rfl rfl rfl rfl (fun w' hs => laws_markStringS _ _ w' v6 x3.Fact.Args (kk + 1) (by first | assumption | omega | (simp only; omega)) (by first | assumption | omega | (simp only; omega)) hs) ?_)))))))))))))))
   refine Pe rfl (Dw [(0, v_a), (1, (.int .i64 ((kk + 1) + x3.Fact.Args.length))), (5, (.int .i64 ((i : Nat) : Int)))] ⟨rfl, rfl, rfl, trivial⟩ (Sr (P3 rfl rfl rfl (q1 rfl (D_ixh 1 s_42 rfl rfl rfl rfl rfl) (q1 rfl (D_fa f_100_1 rfl rfl) (li rfl (sh (n := 3) (f := 2) 1 rfl z_3 rfl rfl rfl rfl rfl rfl rfl (by simp) ?_)))))))
   refine Dx (Cr (p1 rfl (q1 rfl (D_add rfl rfl rfl rfl (by omega)) (p1 rfl (De (Xb (Xt (Cr (p1 rfl (q1 rfl (D_add rfl rfl rfl (r := ((i + 1 : Nat) : Int)) (by omega) (by omega)) (Pe rfl (pk_Stamp (r := (⟨⟨(markS kk), mkSs (kk + 1) x3.Fact.Args⟩, ((kk + 1) + x3.Fact.Args.length)⟩ : Stamp)) (D_put (D_eq 0 rfl (show ((mapAt fSt cSt k a i).set i (⟨⟨(markS kk), mkSs (kk + 1) x3.Fact.Args⟩, ((kk + 1) + x3.Fact.Args.length)⟩ : Stamp) : (List Stamp)) = mapAt fSt cSt k a (i + 1) from by exact mk_set hi hx4 hk rfl) (fun ac w' hf hs => ⟨_, ?_, i + 1, (((kk + 1) + x3.Fact.Args.length) + 1), ?_, ?_, rfl, hf.weak ⟨rfl, rfl, rfl, trivial⟩, hs⟩)))))))))))))))
   ·omega
   ·first | assumption | omega | simp
   ·omega
  ·have pr2 : ¬ (((i : Nat) : Int) : Int) < (((mapAt fSt cSt k a i).length : Nat) : Int) := odF h2
   refine Cx (Xx (Xx (Xe (Xt (Sr (P2 rfl rfl (Dx (Ct (D_eq 0 rfl (show (mapAt fSt cSt k a i : (List Stamp)) = mapS fSt cSt k a from by exact mapAt_done (by omega)) (R_1 rfl rfl fun w' hs => ⟨congrArg (fun z => Ending.returned (Value.int .i64 z)) ?_, hs⟩))))))))))
   show (kk : Int) = k + sumC cSt a
   rw [List.take_of_length_le (by omega)] at hk; exact hk
theorem laws_heldStampS (w : World) (v_a : Value) (a : (List Stamp)) (k : Int) (h_a : Gd.rd w [v_a] a) (h0 : 0 ≤ k) (h1 : k + sumC cSt a ≤ 4611686018427387904) (he : a = mapS fSt cSt k a) : Calls Tryz.prog 88 [v_a, (.int .i64 k)].toArray w (Val w (.int .i64 (k + sumC cSt a))) := by
 have hm1 := rd_max h_a
 refine enter 43 Tryz.func88 rfl rfl rfl (Sr (Pe rfl (Cq (Sr (Pe rfl (Cb (Cl (fun m_ ac w' => ∃ (i : Nat), ∃ (kk : Int), (i ≤ a.length) ∧ (kk = k + sumC cSt (a.take i)) ∧ m_ = a.length - i ∧ Fits ac 43 [(0, v_a), (1, (.int .i64 kk)), (5, (.int .i64 ((i : Nat) : Int)))] ∧ St w ([]) w') ?_ ?_)))))))
 ·refine fun ac w' hf hs => ⟨_, 0, k, ?_, ?_, rfl, hf.weak ⟨rfl, rfl, rfl, trivial⟩, hs⟩
  ·first | assumption | omega | simp
  ·simp [sumC]
 ·rintro m_ ac w' ⟨i, kk, hi, hk, rfl, hf, hs⟩
  refine D.use ?_ hf hs
  clear hf hs ac w'
  have htk := sumC_take_le a cSt i
  refine Cq (Sr (P2 rfl rfl (q1 rfl (Dl s_42 rfl rfl (rd_sl h_a)) (Pe rfl (Ci _ rfl (fun h2 => ?_) (fun h2 => ?_))))))
  ·have pr2 : (((i : Nat) : Int) : Int) < ((a.length : Nat) : Int) := odT h2
   refine Sk (Cq (Cb (Cq (Cq (C_draw mixed [] (by kernel_rfl) (Tk 0 rfl (by kernel_rfl) rfl (rp rfl) (Tk 1 rfl (by kernel_rfl) rfl (rp rfl) ?_)))))))
   obtain ⟨x3, hx4⟩ := sL (l := a) (i := i) (by omega)
   obtain ⟨es5, at6, hr7⟩ := rd_elem (n := 3) rfl h_a hx4
   obtain ⟨u9, rfl, hu10⟩ := open_Stamp hr7
   have hm11 := rd_max hu10
   have hb12 := sub_Stamp_Fact hr7
   refine Tk 2 rfl (by kernel_rfl) rfl (D_ix (l := a) (j := i) s_42 rfl rfl rfl (fun w' hs => (rA hs h_a)) rfl (lS hx4)) ?_
   have hfx := mapS_fix he hx4
   rw [← hk] at hfx
   have hF0 : x3.Fact.Rel = markS kk := congrArg (fun y => y.Fact.Rel) hfx
   have hF1 : x3.Fact.Args = mkSs (kk + 1) x3.Fact.Args := congrArg (fun y => y.Fact.Args) hfx
   have hF2 : x3.Time = kk + 1 + x3.Fact.Args.length := congrArg (fun y => y.Time) hfx
   have hstep := mk_stepH (c := cSt) hx4 hk
   have hcc : cSt x3 = 2 + x3.Fact.Args.length := rfl
   refine Tk 3 rfl (by kernel_rfl) rfl (D_fa f_100_0 rfl rfl) (Tk 4 rfl (by kernel_rfl) rfl (D_fa' f_70_0 rfl rfl (q := 0) rfl) (Tk 5 rfl (by kernel_rfl) rfl (lr o_9 rfl rfl at6 rfl) (Tk 6 rfl (by kernel_rfl) rfl (rp rfl) (ty 7 rfl (by kernel_rfl) rfl (cv b_59 rfl rfl rfl rfl (fun w' hs => (laws_markText w' kk (by first | assumption | omega | (unfold szm at *; split at * <;> omega)))) ?_)))))
   refine tS (fun _ hs => hs) (Tk 8 rfl (by kernel_rfl) rfl (D_neS rfl rfl rfl) (tE (by kernel_rfl) (Xt (Ci _ rfl (fun h13 => ?_) (fun h13 => ?_)))))
   ·have pr13 : ¬ (x3.Fact.Rel : ByteArray) = (markS kk) := of_decide_eq_false (not_t h13)
    refine Sr (Pe rfl (Ct (Xr (Xq (Xr (Xr (Xq (Xr (Ri rfl rfl ?_)))))))))
    show ((-1) : Int) = _
    first | (exfalso; contradiction) | (exfalso; omega) | (rw [List.take_of_length_le (by omega)] at hk; exact hk)
   ·have pr13 : (x3.Fact.Rel : ByteArray) = (markS kk) := of_decide_eq_true (not_f h13)
    refine Sk (Sr (p1 rfl (q1 rfl (D_add rfl rfl rfl rfl (by omega)) (Pe rfl (Dw [(0, v_a), (1, (.int .i64 (kk + 1))), (5, (.int .i64 ((i : Nat) : Int)))] ⟨rfl, rfl, rfl, trivial⟩ (Sr (P2 rfl rfl (q1 rfl (D_ix (l := a) (j := i) s_42 rfl rfl rfl (fun w' hs => (rA hs h_a)) rfl (lS hx4)) (q1 rfl (D_fa f_100_0 rfl rfl) (q1 rfl (D_fa' f_70_1 rfl rfl (q := 1) rfl) (q1 rfl (lr o_58 rfl rfl at6 rfl) (p1 rfl (li rfl (cv b_144 rfl rfl rfl rfl (fun w' hs => (laws_heldStringS w' u9 x3.Fact.Args (kk + 1) (rA hs hu10) (by first | assumption | omega | (unfold szm at *; split at * <;> omega)) (by first | assumption | omega | (unfold szm at *; split at * <;> omega)) (by first | assumption | omega | (unfold szm at *; split at * <;> omega)))) ?_))))))))))))))
    refine Pe rfl (Cq (Sr (P2 rfl rfl (Dx (Ci _ rfl (fun h14 => ?_) (fun h14 => ?_))))))
    ·have pr14 : (((kk + 1) + x3.Fact.Args.length) : Int) < 0 := odT h14
     refine Sr (Pe rfl (Ct (Xr (Xq (Xr (Xr (Xq (Xr (Ri rfl rfl ?_)))))))))
     show ((-1) : Int) = _
     first | (exfalso; contradiction) | (exfalso; omega) | (rw [List.take_of_length_le (by omega)] at hk; exact hk)
    ·have pr14 : ¬ (((kk + 1) + x3.Fact.Args.length) : Int) < 0 := odF h14
     refine Sk (Cq (Sr (P2 rfl rfl (q1 rfl (D_ix (l := a) (j := i) s_42 rfl rfl rfl (fun w' hs => (rA hs h_a)) rfl (lS hx4)) (q1 rfl (D_fa f_100_1 rfl rfl) (q1 rfl (lr o_3 rfl rfl at6 rfl) (P2 rfl rfl (Dx (Dw [(0, v_a), (1, (.int .i64 ((kk + 1) + x3.Fact.Args.length))), (5, (.int .i64 ((i : Nat) : Int))), (39, (.bool ((x3.Time : Int) != ((kk + 1) + x3.Fact.Args.length))))] ⟨rfl, rfl, rfl, rfl, trivial⟩ (Ci _ rfl (fun h15 => ?_) (fun h15 => ?_)))))))))))
     ·have pr15 : (x3.Time : Int) ≠ ((kk + 1) + x3.Fact.Args.length) := bne_iff_ne.1 h15
      refine Sr (Pe rfl (Ct (Xr (Xq (Xr (Xr (Xq (Xr (Ri rfl rfl ?_)))))))))
      show ((-1) : Int) = _
      first | (exfalso; contradiction) | (exfalso; omega) | (rw [List.take_of_length_le (by omega)] at hk; exact hk)
     ·have pr15 : (x3.Time : Int) = ((kk + 1) + x3.Fact.Args.length) := eq_of_bne_f h15
      refine Sk (Cr (p1 rfl (q1 rfl (D_add rfl rfl rfl rfl (by omega)) (p1 rfl (De (Xb (Xt (Cr (p1 rfl (q1 rfl (D_add rfl rfl rfl (r := ((i + 1 : Nat) : Int)) (by omega) (by omega)) (Pe rfl (fun ac w' hf hs => ⟨_, ?_, i + 1, (((kk + 1) + x3.Fact.Args.length) + 1), ?_, ?_, rfl, hf.weak ⟨rfl, rfl, rfl, trivial⟩, hs⟩))))))))))))
      ·omega
      ·first | assumption | omega | simp
      ·omega
  ·have pr2 : ¬ (((i : Nat) : Int) : Int) < ((a.length : Nat) : Int) := odF h2
   refine Cx (Xx (Xx (Xe (Xt (Sr (P2 rfl rfl (Dx (Ct (Ri rfl rfl ?_)))))))))
   show (kk : Int) = _
   first | (exfalso; contradiction) | (exfalso; omega) | (rw [List.take_of_length_le (by omega)] at hk; exact hk)
theorem laws_markFiringS (w0 : World) (Hs : List Chunk) (w : World) (v_a : Value) (a : (List Firing)) (k : Int) (h0 : 0 ≤ k) (h1 : k + sumC cFi a ≤ 4611686018427387904) (hst : St w0 (ov [v_a] (a : (List Firing)) :: Hs) w) : Calls Tryz.prog 85 [v_a, (.int .i64 k)].toArray w (fun e w' => e = .returned (.int .i64 (k + sumC cFi a)) ∧ St w0 (ov [v_a] (mapS fFi cFi k a : (List Firing)) :: Hs) w') := by
 have hm1 := rd_max (rO (k := 0) hst rfl)
 refine enterS 28 Tryz.func85 rfl rfl rfl hst (Sr (Pe rfl (Dh (ov [v_a] (a : (List Firing)) :: Hs) rfl (Cq (Sr (Pe rfl (Cb (Cl (fun m_ ac w' => ∃ (i : Nat), ∃ (kk : Int), (i ≤ a.length) ∧ (kk = k + sumC cFi (a.take i)) ∧ m_ = a.length - i ∧ Fits ac 28 [(0, v_a), (1, (.int .i64 kk)), (5, (.int .i64 ((i : Nat) : Int)))] ∧ St w0 (ov [v_a] (mapAt fFi cFi k a i : (List Firing)) :: Hs) w') ?_ ?_))))))))
 ·refine D_eq 0 rfl (show (a : (List Firing)) = mapAt fFi cFi k a 0 from by rw [mapAt_zero]) (fun ac w' hf hs => ⟨_, 0, k, ?_, ?_, rfl, hf.weak ⟨rfl, rfl, rfl, trivial⟩, hs⟩)
  ·first | assumption | omega | simp
  ·simp [sumC]
 ·rintro m_ ac w' ⟨i, kk, hi, hk, rfl, hf, hs⟩
  refine D.use ?_ hf hs
  clear hf hs ac w'
  have hcl := mapAt_len (f := fFi) (c := cFi) (k := k) hi
  have htk := sumC_take_le a cFi i
  refine Cq (Sr (P2 rfl rfl (q1 rfl (D_leno 0 s_63 rfl rfl rfl) (Pe rfl (Dh (ov [v_a] (mapAt fFi cFi k a i : (List Firing)) :: Hs) rfl (Ci _ rfl (fun h2 => ?_) (fun h2 => ?_)))))))
  ·have pr2 : (((i : Nat) : Int) : Int) < (((mapAt fFi cFi k a i).length : Nat) : Int) := odT h2
   refine Sk (Cq (Cb (Sr (P3 rfl rfl rfl (li rfl (cv b_59 rfl rfl rfl rfl (fun w' hs => (laws_markText w' kk (by first | assumption | omega | (unfold szm at *; split at * <;> omega)))) ?_))))))
   obtain ⟨x3, hx4⟩ := sL (l := (mapAt fFi cFi k a i)) (i := i) (by omega)
   refine D_take hx4 fun es5 => ?_
   refine Dp (fun w' hs => shape_Firing (rO (k := 0) hs rfl)) ?_
   rintro ⟨v6, rfl, ho7⟩
   refine q1 rfl (D_ixh 1 s_63 rfl rfl rfl rfl rfl) ?_
   have hstep := mk_step hi hx4 hk
   have hcc : cFi x3 = 1 + x3.Times.length := rfl
   refine q1 rfl (D_fa f_168_0 rfl rfl) (D_unpair (α := ByteArray) (β := (List Int)) (c1 := [(.string x3.Rule)]) (c2 := [v6]) (x := x3.Rule) (y := (x3.Times)) rfl rfl (D_fd [] 1 rfl (li rfl (sh (n := 2) (f := 0) 1 rfl z_9 rfl rfl rfl rfl rfl rfl rfl (by simp) ?_))))
   refine Dx (Sr (p1 rfl (q1 rfl (D_add rfl rfl rfl rfl (by omega)) (Pe rfl (Cr (P2 rfl rfl (q1 rfl (D_ixh 1 s_63 rfl rfl rfl rfl rfl) (q1 rfl (D_fa f_168_1 rfl rfl) (q1 rfl (lh (n := 2) 1 rfl o_35 rfl rfl rfl rfl) (p1 rfl (li rfl (cm b_65 rfl rfl rfl rfl (fun w' hs => laws_markIntS _ _ w' v6 x3.Times (kk + 1) (by first | assumption | omega | (simp only; omega)) (by first | assumption | omega | (simp only; omega)) hs) ?_))))))))))))
   refine p1 rfl (De (Xb (Xt (Dw [(0, v_a), (1, (.int .i64 ((kk + 1) + x3.Times.length))), (5, (.int .i64 ((i : Nat) : Int)))] ⟨rfl, rfl, rfl, trivial⟩ (Cr (p1 rfl (q1 rfl (D_add rfl rfl rfl (r := ((i + 1 : Nat) : Int)) (by omega) (by omega)) (Pe rfl (pk_Firing (r := (⟨(markS kk), mkI (kk + 1) x3.Times⟩ : Firing)) (D_put (D_eq 0 rfl (show ((mapAt fFi cFi k a i).set i (⟨(markS kk), mkI (kk + 1) x3.Times⟩ : Firing) : (List Firing)) = mapAt fFi cFi k a (i + 1) from by exact mk_set hi hx4 hk rfl) (fun ac w' hf hs => ⟨_, ?_, i + 1, ((kk + 1) + x3.Times.length), ?_, ?_, rfl, hf.weak ⟨rfl, rfl, rfl, trivial⟩, hs⟩))))))))))))
   ·omega
   ·first | assumption | omega | simp
   ·omega
  ·have pr2 : ¬ (((i : Nat) : Int) : Int) < (((mapAt fFi cFi k a i).length : Nat) : Int) := odF h2
   refine Cx (Xx (Xx (Xe (Xt (Sr (P2 rfl rfl (Dx (Ct (D_eq 0 rfl (show (mapAt fFi cFi k a i : (List Firing)) = mapS fFi cFi k a from by exact mapAt_done (by omega)) (R_1 rfl rfl fun w' hs => ⟨congrArg (fun z => Ending.returned (Value.int .i64 z)) ?_, hs⟩))))))))))
   show (kk : Int) = k + sumC cFi a
   rw [List.take_of_length_le (by omega)] at hk; exact hk
theorem laws_heldFiringS (w : World) (v_a : Value) (a : (List Firing)) (k : Int) (h_a : Gd.rd w [v_a] a) (h0 : 0 ≤ k) (h1 : k + sumC cFi a ≤ 4611686018427387904) (he : a = mapS fFi cFi k a) : Calls Tryz.prog 89 [v_a, (.int .i64 k)].toArray w (Val w (.int .i64 (k + sumC cFi a))) := by
 have hm1 := rd_max h_a
 refine enter 32 Tryz.func89 rfl rfl rfl (Sr (Pe rfl (Cq (Sr (Pe rfl (Cb (Cl (fun m_ ac w' => ∃ (i : Nat), ∃ (kk : Int), (i ≤ a.length) ∧ (kk = k + sumC cFi (a.take i)) ∧ m_ = a.length - i ∧ Fits ac 32 [(0, v_a), (1, (.int .i64 kk)), (5, (.int .i64 ((i : Nat) : Int)))] ∧ St w ([]) w') ?_ ?_)))))))
 ·refine fun ac w' hf hs => ⟨_, 0, k, ?_, ?_, rfl, hf.weak ⟨rfl, rfl, rfl, trivial⟩, hs⟩
  ·first | assumption | omega | simp
  ·simp [sumC]
 ·rintro m_ ac w' ⟨i, kk, hi, hk, rfl, hf, hs⟩
  refine D.use ?_ hf hs
  clear hf hs ac w'
  have htk := sumC_take_le a cFi i
  refine Cq (Sr (P2 rfl rfl (q1 rfl (Dl s_63 rfl rfl (rd_sl h_a)) (Pe rfl (Ci _ rfl (fun h2 => ?_) (fun h2 => ?_))))))
  ·have pr2 : (((i : Nat) : Int) : Int) < ((a.length : Nat) : Int) := odT h2
   refine Sk (Cq (Cb (Cq (Cq (C_draw mixed [] (by kernel_rfl) (Tk 0 rfl (by kernel_rfl) rfl (rp rfl) (Tk 1 rfl (by kernel_rfl) rfl (rp rfl) ?_)))))))
   obtain ⟨x3, hx4⟩ := sL (l := a) (i := i) (by omega)
   obtain ⟨es5, at6, hr7⟩ := rd_elem (n := 2) rfl h_a hx4
   obtain ⟨u9, rfl, hu10⟩ := open_Firing hr7
   have hm11 := rd_max hu10
   refine Tk 2 rfl (by kernel_rfl) rfl (D_ix (l := a) (j := i) s_63 rfl rfl rfl (fun w' hs => (rA hs h_a)) rfl (lS hx4)) ?_
   have hfx := mapS_fix he hx4
   rw [← hk] at hfx
   have hF0 : x3.Rule = markS kk := congrArg (fun y => y.Rule) hfx
   have hF1 : x3.Times = mkI (kk + 1) x3.Times := congrArg (fun y => y.Times) hfx
   have hstep := mk_stepH (c := cFi) hx4 hk
   have hcc : cFi x3 = 1 + x3.Times.length := rfl
   refine Tk 3 rfl (by kernel_rfl) rfl (D_fa f_168_0 rfl rfl) (Tk 4 rfl (by kernel_rfl) rfl (lr o_9 rfl rfl at6 rfl) (Tk 5 rfl (by kernel_rfl) rfl (rp rfl) (ty 6 rfl (by kernel_rfl) rfl (cv b_59 rfl rfl rfl rfl (fun w' hs => (laws_markText w' kk (by first | assumption | omega | (unfold szm at *; split at * <;> omega)))) ?_))))
   refine tS (fun _ hs => hs) (Tk 7 rfl (by kernel_rfl) rfl (D_neS rfl rfl rfl) (tE (by kernel_rfl) (Xt (Ci _ rfl (fun h12 => ?_) (fun h12 => ?_)))))
   ·have pr12 : ¬ (x3.Rule : ByteArray) = (markS kk) := of_decide_eq_false (not_t h12)
    refine Sr (Pe rfl (Ct (Xr (Xq (Xr (Xr (Xq (Xr (Ri rfl rfl ?_)))))))))
    show ((-1) : Int) = _
    first | (exfalso; contradiction) | (exfalso; omega) | (rw [List.take_of_length_le (by omega)] at hk; exact hk)
   ·have pr12 : (x3.Rule : ByteArray) = (markS kk) := of_decide_eq_true (not_f h12)
    refine Sk (Sr (p1 rfl (q1 rfl (D_add rfl rfl rfl rfl (by omega)) (Pe rfl (Sr (P2 rfl rfl (q1 rfl (D_ix (l := a) (j := i) s_63 rfl rfl rfl (fun w' hs => (rA hs h_a)) rfl (lS hx4)) (q1 rfl (D_fa f_168_1 rfl rfl) (q1 rfl (lr o_35 rfl rfl at6 rfl) (p1 rfl (li rfl (cv b_67 rfl rfl rfl rfl (fun w' hs => (laws_heldIntS w' u9 x3.Times (kk + 1) (rA hs hu10) (by first | assumption | omega | (unfold szm at *; split at * <;> omega)) (by first | assumption | omega | (unfold szm at *; split at * <;> omega)) (by first | assumption | omega | (unfold szm at *; split at * <;> omega)))) ?_))))))))))))
    refine Pe rfl (Dw [(0, v_a), (1, (.int .i64 ((kk + 1) + x3.Times.length))), (5, (.int .i64 ((i : Nat) : Int)))] ⟨rfl, rfl, rfl, trivial⟩ (Sr (P2 rfl rfl (Dx (Ci _ rfl (fun h13 => ?_) (fun h13 => ?_))))))
    ·have pr13 : (((kk + 1) + x3.Times.length) : Int) < 0 := odT h13
     refine Sr (Pe rfl (Ct (Xq (Xr (Xr (Xq (Xr (Ri rfl rfl ?_))))))))
     show ((-1) : Int) = _
     first | (exfalso; contradiction) | (exfalso; omega) | (rw [List.take_of_length_le (by omega)] at hk; exact hk)
    ·have pr13 : ¬ (((kk + 1) + x3.Times.length) : Int) < 0 := odF h13
     refine Ck (Xb (Xt (Cr (p1 rfl (q1 rfl (D_add rfl rfl rfl (r := ((i + 1 : Nat) : Int)) (by omega) (by omega)) (Pe rfl (fun ac w' hf hs => ⟨_, ?_, i + 1, ((kk + 1) + x3.Times.length), ?_, ?_, rfl, hf.weak ⟨rfl, rfl, rfl, trivial⟩, hs⟩)))))))
     ·omega
     ·first | assumption | omega | simp
     ·omega
  ·have pr2 : ¬ (((i : Nat) : Int) : Int) < ((a.length : Nat) : Int) := odF h2
   refine Cx (Xx (Xx (Xe (Xt (Sr (P2 rfl rfl (Dx (Ct (Ri rfl rfl ?_)))))))))
   show (kk : Int) = _
   first | (exfalso; contradiction) | (exfalso; omega) | (rw [List.take_of_length_le (by omega)] at hk; exact hk)
theorem laws_markEventS (w0 : World) (Hs : List Chunk) (w : World) (v_a : Value) (a : (List Event)) (k : Int) (h0 : 0 ≤ k) (h1 : k + sumC cEv a ≤ 4611686018427387904) (hst : St w0 (ov [v_a] (a : (List Event)) :: Hs) w) : Calls Tryz.prog 86 [v_a, (.int .i64 k)].toArray w (fun e w' => e = .returned (.int .i64 (k + sumC cEv a)) ∧ St w0 (ov [v_a] (mapS fEv cEv k a : (List Event)) :: Hs) w') := by
 have hm1 := rd_max (rO (k := 0) hst rfl)
 refine enterS 45 Tryz.func86 rfl rfl rfl hst (Sr (Pe rfl (Dh (ov [v_a] (a : (List Event)) :: Hs) rfl (Cq (Sr (Pe rfl (Cb (Cl (fun m_ ac w' => ∃ (i : Nat), ∃ (kk : Int), (i ≤ a.length) ∧ (kk = k + sumC cEv (a.take i)) ∧ m_ = a.length - i ∧ Fits ac 45 [(0, v_a), (1, (.int .i64 kk)), (5, (.int .i64 ((i : Nat) : Int)))] ∧ St w0 (ov [v_a] (mapAt fEv cEv k a i : (List Event)) :: Hs) w') ?_ ?_))))))))
 ·refine D_eq 0 rfl (show (a : (List Event)) = mapAt fEv cEv k a 0 from by rw [mapAt_zero]) (fun ac w' hf hs => ⟨_, 0, k, ?_, ?_, rfl, hf.weak ⟨rfl, rfl, rfl, trivial⟩, hs⟩)
  ·first | assumption | omega | simp
  ·simp [sumC]
 ·rintro m_ ac w' ⟨i, kk, hi, hk, rfl, hf, hs⟩
  refine D.use ?_ hf hs
  clear hf hs ac w'
  have hcl := mapAt_len (f := fEv) (c := cEv) (k := k) hi
  have htk := sumC_take_le a cEv i
  refine Cq (Sr (P2 rfl rfl (q1 rfl (D_leno 0 s_64 rfl rfl rfl) (Pe rfl (Dh (ov [v_a] (mapAt fEv cEv k a i : (List Event)) :: Hs) rfl (Ci _ rfl (fun h2 => ?_) (fun h2 => ?_)))))))
  ·have pr2 : (((i : Nat) : Int) : Int) < (((mapAt fEv cEv k a i).length : Nat) : Int) := odT h2
   refine Sk (Cq (Cb (Sr (P3 rfl rfl rfl ?_))))
   obtain ⟨x3, hx4⟩ := sL (l := (mapAt fEv cEv k a i)) (i := i) (by omega)
   refine D_take hx4 fun es5 => ?_
   refine Dp (fun w' hs => shape_Event (rO (k := 0) hs rfl)) ?_
   rintro ⟨v6, rfl, ho7⟩
   refine q1 rfl (D_ixh 1 s_64 rfl rfl rfl rfl rfl) ?_
   have hstep := mk_step hi hx4 hk
   have hcc : cEv x3 = 3 + x3.Fact.Args.length := rfl
   refine q1 rfl (D_fa f_171_0 rfl rfl) (D_unpair (α := Int) (β := ByteArray × Go.Sy.Fact) (c1 := [(.int .i64 x3.Kind)]) (c2 := [(.string x3.Rule), (.string x3.Fact.Rel), v6]) (x := x3.Kind) (y := (x3.Rule, x3.Fact)) rfl rfl (D_fd [] 1 rfl (D_unpair (α := ByteArray) (β := Go.Sy.Fact) (c1 := [(.string x3.Rule)]) (c2 := [(.string x3.Fact.Rel), v6]) (x := x3.Rule) (y := (x3.Fact)) rfl rfl (D_fd [] 1 rfl (li rfl (sh (n := 4) (f := 0) 1 rfl z_3 rfl rfl rfl rfl rfl rfl rfl (by simp) ?_))))))
   refine Dx (Sr (p1 rfl (q1 rfl (D_add rfl rfl rfl rfl (by omega)) (Pe rfl (Sr (P3 rfl rfl rfl (li rfl (cv b_59 rfl rfl rfl rfl (fun w' hs => (laws_markText w' (kk + 1) (by first | assumption | omega | (unfold szm at *; split at * <;> omega)))) ?_))))))))
   refine q1 rfl (D_ixh 1 s_64 rfl rfl rfl rfl rfl) (q1 rfl (D_fa f_171_1 rfl rfl) (li rfl (sh (n := 4) (f := 1) 1 rfl z_9 rfl rfl rfl rfl rfl rfl rfl (by simp) ?_)))
   refine Dx (Dw [(0, v_a), (1, (.int .i64 (kk + 1))), (5, (.int .i64 ((i : Nat) : Int)))] ⟨rfl, rfl, rfl, trivial⟩ (Sr (p1 rfl (q1 rfl (D_add rfl rfl rfl rfl (by omega)) (Pe rfl (Sr (P3 rfl rfl rfl (li rfl (cv b_59 rfl rfl rfl rfl (fun w' hs => (laws_markText w' ((kk + 1) + 1) (by first | assumption | omega | (unfold szm at *; split at * <;> omega)))) ?_)))))))))
   refine q1 rfl (D_ixh 1 s_64 rfl rfl rfl rfl rfl) (q1 rfl (D_fa f_171_2 rfl rfl) (q1 rfl (D_fa' f_70_0 rfl rfl (q := 2) rfl) (li rfl (sh (n := 4) (f := 2) 1 rfl z_9 rfl rfl rfl rfl rfl rfl rfl (by simp) ?_))))
   refine Dx (Sr (p1 rfl (q1 rfl (D_add rfl rfl rfl rfl (by omega)) (Pe rfl (Cr (P2 rfl rfl (q1 rfl (D_ixh 1 s_64 rfl rfl rfl rfl rfl) (q1 rfl (D_fa f_171_2 rfl rfl) (q1 rfl (D_fa' f_70_1 rfl rfl (q := 3) rfl) (q1 rfl (lh (n := 4) 1 rfl o_58 rfl rfl rfl rfl) (p1 rfl (D_unpair (α := ByteArray) (β := (List ByteArray)) (c1 := [(.string x3.Fact.Rel)]) (c2 := [v6]) (x := x3.Fact.Rel) (y := (x3.Fact.Args)) rfl rfl (D_fd [] 1 rfl (li rfl (cm b_62 rfl rfl rfl rfl (fun w' hs => laws_markStringS _ _ w' v6 x3.Fact.Args (((kk + 1) + 1) + 1) (by first | assumption | omega | (simp only; omega)) (by first | assumption | omega | (simp only; omega)) hs) ?_)))))))))))))))
   refine p1 rfl (De (Xb (Xt (Dw [(0, v_a), (1, (.int .i64 ((((kk + 1) + 1) + 1) + x3.Fact.Args.length))), (5, (.int .i64 ((i : Nat) : Int)))] ⟨rfl, rfl, rfl, trivial⟩ (Cr (p1 rfl (q1 rfl (D_add rfl rfl rfl (r := ((i + 1 : Nat) : Int)) (by omega) (by omega)) (Pe rfl (pk_Event (r := (⟨kk, (markS (kk + 1)), ⟨(markS ((kk + 1) + 1)), mkSs (((kk + 1) + 1) + 1) x3.Fact.Args⟩⟩ : Event)) (D_put (D_eq 0 rfl (show ((mapAt fEv cEv k a i).set i (⟨kk, (markS (kk + 1)), ⟨(markS ((kk + 1) + 1)), mkSs (((kk + 1) + 1) + 1) x3.Fact.Args⟩⟩ : Event) : (List Event)) = mapAt fEv cEv k a (i + 1) from by exact mk_set hi hx4 hk rfl) (fun ac w' hf hs => ⟨_, ?_, i + 1, ((((kk + 1) + 1) + 1) + x3.Fact.Args.length), ?_, ?_, rfl, hf.weak ⟨rfl, rfl, rfl, trivial⟩, hs⟩))))))))))))
   ·omega
   ·first | assumption | omega | simp
   ·omega
  ·have pr2 : ¬ (((i : Nat) : Int) : Int) < (((mapAt fEv cEv k a i).length : Nat) : Int) := odF h2
   refine Cx (Xx (Xx (Xe (Xt (Sr (P2 rfl rfl (Dx (Ct (D_eq 0 rfl (show (mapAt fEv cEv k a i : (List Event)) = mapS fEv cEv k a from by exact mapAt_done (by omega)) (R_1 rfl rfl fun w' hs => ⟨congrArg (fun z => Ending.returned (Value.int .i64 z)) ?_, hs⟩))))))))))
   show (kk : Int) = k + sumC cEv a
   rw [List.take_of_length_le (by omega)] at hk; exact hk
theorem laws_heldEventS (w : World) (v_a : Value) (a : (List Event)) (k : Int) (h_a : Gd.rd w [v_a] a) (h0 : 0 ≤ k) (h1 : k + sumC cEv a ≤ 4611686018427387904) (he : a = mapS fEv cEv k a) : Calls Tryz.prog 90 [v_a, (.int .i64 k)].toArray w (Val w (.int .i64 (k + sumC cEv a))) := by
 have hm1 := rd_max h_a
 refine enter 53 Tryz.func90 rfl rfl rfl (Sr (Pe rfl (Cq (Sr (Pe rfl (Cb (Cl (fun m_ ac w' => ∃ (i : Nat), ∃ (kk : Int), (i ≤ a.length) ∧ (kk = k + sumC cEv (a.take i)) ∧ m_ = a.length - i ∧ Fits ac 53 [(0, v_a), (1, (.int .i64 kk)), (5, (.int .i64 ((i : Nat) : Int)))] ∧ St w ([]) w') ?_ ?_)))))))
 ·refine fun ac w' hf hs => ⟨_, 0, k, ?_, ?_, rfl, hf.weak ⟨rfl, rfl, rfl, trivial⟩, hs⟩
  ·first | assumption | omega | simp
  ·simp [sumC]
 ·rintro m_ ac w' ⟨i, kk, hi, hk, rfl, hf, hs⟩
  refine D.use ?_ hf hs
  clear hf hs ac w'
  have htk := sumC_take_le a cEv i
  refine Cq (Sr (P2 rfl rfl (q1 rfl (Dl s_64 rfl rfl (rd_sl h_a)) (Pe rfl (Ci _ rfl (fun h2 => ?_) (fun h2 => ?_))))))
  ·have pr2 : (((i : Nat) : Int) : Int) < ((a.length : Nat) : Int) := odT h2
   refine Sk (Cq (Cb (Cq (Sr (P2 rfl rfl ?_)))))
   obtain ⟨x3, hx4⟩ := sL (l := a) (i := i) (by omega)
   obtain ⟨es5, at6, hr7⟩ := rd_elem (n := 4) rfl h_a hx4
   obtain ⟨u9, rfl, hu10⟩ := open_Event hr7
   have hm11 := rd_max hu10
   have hb12 := sub_Event_Fact hr7
   refine q1 rfl (D_ix (l := a) (j := i) s_64 rfl rfl rfl (fun w' hs => (rA hs h_a)) rfl (lS hx4)) ?_
   have hfx := mapS_fix he hx4
   rw [← hk] at hfx
   have hF0 : x3.Kind = kk := congrArg (fun y => y.Kind) hfx
   have hF1 : x3.Rule = markS (kk + 1) := congrArg (fun y => y.Rule) hfx
   have hF2 : x3.Fact.Rel = markS (kk + 1 + 1) := congrArg (fun y => y.Fact.Rel) hfx
   have hF3 : x3.Fact.Args = mkSs (kk + 1 + 1 + 1) x3.Fact.Args := congrArg (fun y => y.Fact.Args) hfx
   have hstep := mk_stepH (c := cEv) hx4 hk
   have hcc : cEv x3 = 3 + x3.Fact.Args.length := rfl
   refine q1 rfl (D_fa f_171_0 rfl rfl) (q1 rfl (lr o_3 rfl rfl at6 rfl) (P2 rfl rfl (Dx (Ci _ rfl (fun h13 => ?_) (fun h13 => ?_)))))
   ·have pr13 : (x3.Kind : Int) ≠ kk := bne_iff_ne.1 h13
    refine Sr (Pe rfl (Ct (Xr (Xq (Xr (Xr (Xq (Xr (Ri rfl rfl ?_)))))))))
    show ((-1) : Int) = _
    first | (exfalso; contradiction) | (exfalso; omega) | (rw [List.take_of_length_le (by omega)] at hk; exact hk)
   ·have pr13 : (x3.Kind : Int) = kk := eq_of_bne_f h13
    refine Sk (Sr (p1 rfl (q1 rfl (D_add rfl rfl rfl rfl (by omega)) (Pe rfl (Cq (Cq (C_draw mixed [] (by kernel_rfl) (Tk 0 rfl (by kernel_rfl) rfl (rp rfl) (Tk 1 rfl (by kernel_rfl) rfl (rp rfl) (Tk 2 rfl (by kernel_rfl) rfl (D_ix (l := a) (j := i) s_64 rfl rfl rfl (fun w' hs => (rA hs h_a)) rfl (lS hx4)) (Tk 3 rfl (by kernel_rfl) rfl (D_fa f_171_1 rfl rfl) (Tk 4 rfl (by kernel_rfl) rfl (lr o_9 rfl rfl at6 rfl) (Tk 5 rfl (by kernel_rfl) rfl (rp rfl) (ty 6 rfl (by kernel_rfl) rfl (cv b_59 rfl rfl rfl rfl (fun w' hs => (laws_markText w' (kk + 1) (by first | assumption | omega | (unfold szm at *; split at * <;> omega)))) ?_)))))))))))))))
    refine tS (fun _ hs => hs) (Tk 7 rfl (by kernel_rfl) rfl (D_neS rfl rfl rfl) (tE (by kernel_rfl) (Xt (Dw [(0, v_a), (1, (.int .i64 (kk + 1))), (5, (.int .i64 ((i : Nat) : Int))), (28, (.bool (!(decide ((x3.Rule : ByteArray) = (markS (kk + 1)))))))] ⟨rfl, rfl, rfl, rfl, trivial⟩ (Ci _ rfl (fun h14 => ?_) (fun h14 => ?_))))))
    ·have pr14 : ¬ (x3.Rule : ByteArray) = (markS (kk + 1)) := of_decide_eq_false (not_t h14)
     refine Sr (Pe rfl (Ct (Xr (Xq (Xr (Xr (Xq (Xr (Ri rfl rfl ?_)))))))))
     show ((-1) : Int) = _
     first | (exfalso; contradiction) | (exfalso; omega) | (rw [List.take_of_length_le (by omega)] at hk; exact hk)
    ·have pr14 : (x3.Rule : ByteArray) = (markS (kk + 1)) := of_decide_eq_true (not_f h14)
     refine Sk (Sr (p1 rfl (q1 rfl (D_add rfl rfl rfl rfl (by omega)) (Pe rfl (Cq (Cq (C_draw mixed [] (by kernel_rfl) (Tk 0 rfl (by kernel_rfl) rfl (rp rfl) (Tk 1 rfl (by kernel_rfl) rfl (rp rfl) (Tk 2 rfl (by kernel_rfl) rfl (D_ix (l := a) (j := i) s_64 rfl rfl rfl (fun w' hs => (rA hs h_a)) rfl (lS hx4)) (Tk 3 rfl (by kernel_rfl) rfl (D_fa f_171_2 rfl rfl) (Tk 4 rfl (by kernel_rfl) rfl (D_fa' f_70_0 rfl rfl (q := 2) rfl) (Tk 5 rfl (by kernel_rfl) rfl (lr o_9 rfl rfl at6 rfl) (Tk 6 rfl (by kernel_rfl) rfl (rp rfl) (ty 7 rfl (by kernel_rfl) rfl (cv b_59 rfl rfl rfl rfl (fun w' hs => (laws_markText w' ((kk + 1) + 1) (by first | assumption | omega | (unfold szm at *; split at * <;> omega)))) ?_))))))))))))))))
     refine tS (fun _ hs => hs) (Tk 8 rfl (by kernel_rfl) rfl (D_neS rfl rfl rfl) (tE (by kernel_rfl) (Xt (Ci _ rfl (fun h15 => ?_) (fun h15 => ?_)))))
     ·have pr15 : ¬ (x3.Fact.Rel : ByteArray) = (markS ((kk + 1) + 1)) := of_decide_eq_false (not_t h15)
      refine Sr (Pe rfl (Ct (Xr (Xq (Xr (Xr (Xq (Xr (Ri rfl rfl ?_)))))))))
      show ((-1) : Int) = _
      first | (exfalso; contradiction) | (exfalso; omega) | (rw [List.take_of_length_le (by omega)] at hk; exact hk)
     ·have pr15 : (x3.Fact.Rel : ByteArray) = (markS ((kk + 1) + 1)) := of_decide_eq_true (not_f h15)
      refine Sk (Sr (p1 rfl (q1 rfl (D_add rfl rfl rfl rfl (by omega)) (Pe rfl (Sr (P2 rfl rfl (q1 rfl (D_ix (l := a) (j := i) s_64 rfl rfl rfl (fun w' hs => (rA hs h_a)) rfl (lS hx4)) (q1 rfl (D_fa f_171_2 rfl rfl) (q1 rfl (D_fa' f_70_1 rfl rfl (q := 3) rfl) (q1 rfl (lr o_58 rfl rfl at6 rfl) (p1 rfl (li rfl (cv b_144 rfl rfl rfl rfl (fun w' hs => (laws_heldStringS w' u9 x3.Fact.Args (((kk + 1) + 1) + 1) (rA hs hu10) (by first | assumption | omega | (unfold szm at *; split at * <;> omega)) (by first | assumption | omega | (unfold szm at *; split at * <;> omega)) (by first | assumption | omega | (unfold szm at *; split at * <;> omega)))) ?_)))))))))))))
      refine Pe rfl (Dw [(0, v_a), (1, (.int .i64 ((((kk + 1) + 1) + 1) + x3.Fact.Args.length))), (5, (.int .i64 ((i : Nat) : Int)))] ⟨rfl, rfl, rfl, trivial⟩ (Sr (P2 rfl rfl (Dx (Ci _ rfl (fun h16 => ?_) (fun h16 => ?_))))))
      ·have pr16 : (((((kk + 1) + 1) + 1) + x3.Fact.Args.length) : Int) < 0 := odT h16
       refine Sr (Pe rfl (Ct (Xq (Xr (Xr (Xq (Xr (Ri rfl rfl ?_))))))))
       show ((-1) : Int) = _
       first | (exfalso; contradiction) | (exfalso; omega) | (rw [List.take_of_length_le (by omega)] at hk; exact hk)
      ·have pr16 : ¬ (((((kk + 1) + 1) + 1) + x3.Fact.Args.length) : Int) < 0 := odF h16
       refine Ck (Xb (Xt (Cr (p1 rfl (q1 rfl (D_add rfl rfl rfl (r := ((i + 1 : Nat) : Int)) (by omega) (by omega)) (Pe rfl (fun ac w' hf hs => ⟨_, ?_, i + 1, ((((kk + 1) + 1) + 1) + x3.Fact.Args.length), ?_, ?_, rfl, hf.weak ⟨rfl, rfl, rfl, trivial⟩, hs⟩)))))))
       ·omega
       ·first | assumption | omega | simp
       ·omega
  ·have pr2 : ¬ (((i : Nat) : Int) : Int) < ((a.length : Nat) : Int) := odF h2
   refine Cx (Xx (Xx (Xe (Xt (Sr (P2 rfl rfl (Dx (Ct (Ri rfl rfl ?_)))))))))
   show (kk : Int) = _
   first | (exfalso; contradiction) | (exfalso; omega) | (rw [List.take_of_length_le (by omega)] at hk; exact hk)
theorem laws_markEngine (w0 : World) (Hs : List Chunk) (w : World) (c_a : List Value) (a : Engine) (k : Int) (h0 : 0 ≤ k) (h1 : k + cEn a ≤ 4611686018427387904) (hst : St w0 (ov c_a (a : Engine) :: Hs) w) : Calls Tryz.prog 31 [(.agg c_a.toArray), (.int .i64 k)].toArray w (fun e w' => e = .returned (.int .i64 (k + cEn a)) ∧ St w0 (ov c_a (mkE k a : Engine) :: Hs) w') := by
 obtain ⟨v1, v2, v3, v4, rfl, ho_v1, ho_v2, ho_v3, ho_v4⟩ := shape_Engine (rO (k := 0) hst rfl)
 have hce : cEn a = sumC cRu a.Rules + sumC cSt a.Memory + sumC cFi a.Fired + sumC cEv a.Log := rfl
 refine enterS 22 Tryz.func31 rfl rfl rfl hst (Sr (li rfl (D_box rfl rfl rfl rfl rfl fun g5 => ?_)))
 refine Pe rfl (Dh (bx g5 [v1, v2, (.int .i64 a.Clock), v3, (.bool a.Halted), v4] :: ov [v1, v2, (.int .i64 a.Clock), v3, (.bool a.Halted), v4] (a : Engine) :: Hs) rfl (Sr (q1 rfl (Db f_66_0 rfl rfl (q := 0) rfl) (q1 rfl (lb 0 o_40 rfl rfl rfl rfl) (p1 rfl (D_fd [1] 0 rfl (D_unpair (α := (List Rule)) (β := (List Stamp) × Int × (List Firing) × Bool × (List Event)) (c1 := [v1]) (c2 := [v2, (.int .i64 a.Clock), v3, (.bool a.Halted), v4]) (x := a.Rules) (y := (a.Memory, a.Clock, a.Fired, a.Halted, a.Log)) rfl rfl (D_fd [1] 0 rfl (D_unpair (α := (List Stamp)) (β := Int × (List Firing) × Bool × (List Event)) (c1 := [v2]) (c2 := [(.int .i64 a.Clock), v3, (.bool a.Halted), v4]) (x := a.Memory) (y := (a.Clock, a.Fired, a.Halted, a.Log)) rfl rfl (D_fd [1] 0 rfl (D_unpair (α := Int) (β := (List Firing) × Bool × (List Event)) (c1 := [(.int .i64 a.Clock)]) (c2 := [v3, (.bool a.Halted), v4]) (x := a.Clock) (y := (a.Fired, a.Halted, a.Log)) rfl rfl (D_fd [] 1 rfl (D_unpair (α := (List Firing)) (β := Bool × (List Event)) (c1 := [v3]) (c2 := [(.bool a.Halted), v4]) (x := a.Fired) (y := (a.Halted, a.Log)) rfl rfl (D_fd [1] 0 rfl (D_unpair (α := Bool) (β := (List Event)) (c1 := [(.bool a.Halted)]) (c2 := [v4]) (x := a.Halted) (y := (a.Log)) rfl rfl (D_fd [] 1 rfl (D_fd [3] 0 rfl (li rfl (cm b_18 rfl rfl rfl rfl (fun w' hs => laws_markRuleS _ _ w' v1 a.Rules k (by first | assumption | omega | (simp only; omega)) (by first | assumption | omega | (simp only; omega)) hs) ?_)))))))))))))))))))
 refine Pe rfl (Dh (ov [v1] (mapS fRu cRu k a.Rules : (List Rule)) :: ov [v4] (a.Log : (List Event)) :: ov [v3] (a.Fired : (List Firing)) :: ov [v2] (a.Memory : (List Stamp)) :: bx g5 [v1, v2, (.int .i64 a.Clock), v3, (.bool a.Halted), v4] :: Hs) rfl (Sr (q1 rfl (Db f_66_1 rfl rfl (q := 1) rfl) (q1 rfl (lb 4 o_42 rfl rfl rfl rfl) (p1 rfl (D_fd [3] 0 rfl (li rfl (cm b_19 rfl rfl rfl rfl (fun w' hs => laws_markStampS _ _ w' v2 a.Memory (k + sumC cRu a.Rules) (by first | assumption | omega | (simp only; omega)) (by first | assumption | omega | (simp only; omega)) hs) ?_))))))))
 refine Pe rfl (Dh (ov [v2] (mapS fSt cSt (k + sumC cRu a.Rules) a.Memory : (List Stamp)) :: ov [v1] (mapS fRu cRu k a.Rules : (List Rule)) :: ov [v4] (a.Log : (List Event)) :: ov [v3] (a.Fired : (List Firing)) :: bx g5 [v1, v2, (.int .i64 a.Clock), v3, (.bool a.Halted), v4] :: Hs) rfl (Sr (q1 rfl (Db f_66_3 rfl rfl (q := 3) rfl) (q1 rfl (lb 4 o_63 rfl rfl rfl rfl) (p1 rfl (D_fd [3] 0 rfl (li rfl (cm b_85 rfl rfl rfl rfl (fun w' hs => laws_markFiringS _ _ w' v3 a.Fired ((k + sumC cRu a.Rules) + sumC cSt a.Memory) (by first | assumption | omega | (simp only; omega)) (by first | assumption | omega | (simp only; omega)) hs) ?_))))))))
 refine Pe rfl (Dh (ov [v3] (mapS fFi cFi ((k + sumC cRu a.Rules) + sumC cSt a.Memory) a.Fired : (List Firing)) :: ov [v2] (mapS fSt cSt (k + sumC cRu a.Rules) a.Memory : (List Stamp)) :: ov [v1] (mapS fRu cRu k a.Rules : (List Rule)) :: ov [v4] (a.Log : (List Event)) :: bx g5 [v1, v2, (.int .i64 a.Clock), v3, (.bool a.Halted), v4] :: Hs) rfl (Sr (q1 rfl (Db f_66_5 rfl rfl (q := 5) rfl) (q1 rfl (lb 4 o_64 rfl rfl rfl rfl) (p1 rfl (D_fd [3] 0 rfl (li rfl (cm b_86 rfl rfl rfl rfl (fun w' hs => laws_markEventS _ _ w' v4 a.Log (((k + sumC cRu a.Rules) + sumC cSt a.Memory) + sumC cFi a.Fired) (by first | assumption | omega | (simp only; omega)) (by first | assumption | omega | (simp only; omega)) hs) ?_))))))))
 refine Pe rfl (Sr (P2 rfl rfl (Dx (Ct (D_fd [0, 1, 2, 3] 0 rfl (pk_Engine (r := (⟨mapS fRu cRu k a.Rules, mapS fSt cSt (k + sumC cRu a.Rules) a.Memory, a.Clock, mapS fFi cFi ((k + sumC cRu a.Rules) + sumC cSt a.Memory) a.Fired, a.Halted, mapS fEv cEv (((k + sumC cRu a.Rules) + sumC cSt a.Memory) + sumC cFi a.Fired) a.Log⟩ : Engine)) (D_eq 0 rfl (show ((⟨mapS fRu cRu k a.Rules, mapS fSt cSt (k + sumC cRu a.Rules) a.Memory, a.Clock, mapS fFi cFi ((k + sumC cRu a.Rules) + sumC cSt a.Memory) a.Fired, a.Halted, mapS fEv cEv (((k + sumC cRu a.Rules) + sumC cSt a.Memory) + sumC cFi a.Fired) a.Log⟩ : Engine) : Engine) = mkE k a from by rfl) (R_1 rfl rfl fun w' hs => ⟨congrArg (fun z => Ending.returned (Value.int .i64 z)) ?_, hs.fd [0, 1] 1 rfl⟩))))))))
 show (((((k + sumC cRu a.Rules) + sumC cSt a.Memory) + sumC cFi a.Fired) + sumC cEv a.Log) : Int) = k + cEn a
 omega
theorem laws_heldEngine (w : World) (c_a : List Value) (a : Engine) (k : Int) (h_a : Gd.rd w c_a a) (h0 : 0 ≤ k) (h1 : k + cEn a ≤ 4611686018427387904) (he : a = mkE k a) : Calls Tryz.prog 33 [(.agg c_a.toArray), (.int .i64 k)].toArray w (Val w (.int .i64 (k + cEn a))) := by
 obtain ⟨u1, u3, u5, u7, rfl, hu2, hu4, hu6, hu8⟩ := open_Engine h_a
 have hm9 := rd_max hu2
 have hm10 := rd_max hu4
 have hm11 := rd_max hu6
 have hm12 := rd_max hu8
 have hce : cEn a = sumC cRu a.Rules + sumC cSt a.Memory + sumC cFi a.Fired + sumC cEv a.Log := rfl
 have hF1 : a.Rules = mkRu k a.Rules := congrArg (fun y => y.Rules) he
 have hF2 : a.Memory = mkSt (k + sumC cRu a.Rules) a.Memory := congrArg (fun y => y.Memory) he
 have hF3 : a.Fired = mkFi (k + sumC cRu a.Rules + sumC cSt a.Memory) a.Fired := congrArg (fun y => y.Fired) he
 have hF4 : a.Log = mkEv (k + sumC cRu a.Rules + sumC cSt a.Memory + sumC cFi a.Fired) a.Log := congrArg (fun y => y.Log) he
 refine enter 30 Tryz.func33 rfl rfl rfl (Sr (li rfl (D_box rfl rfl rfl rfl rfl fun g13 => ?_)))
 refine Pe rfl (Dh ([bx g13 [u1, u3, (.int .i64 a.Clock), u5, (.bool a.Halted), u7]]) rfl (Sr (q1 rfl (Db f_66_0 rfl rfl (q := 0) rfl) (q1 rfl (lb 0 o_40 rfl rfl rfl rfl) (p1 rfl (li rfl (cv b_87 rfl rfl rfl rfl (fun w' hs => (laws_heldRuleS w' u1 a.Rules k (rA hs hu2) (by first | assumption | omega | (unfold szm at *; split at * <;> omega)) (by first | assumption | omega | (unfold szm at *; split at * <;> omega)) (by first | assumption | omega | (unfold szm at *; split at * <;> omega)))) ?_)))))))
 refine Pe rfl (Cq (Sr (P2 rfl rfl (Dx (Ci _ rfl (fun h14 => ?_) (fun h14 => ?_))))))
 ·have pr14 : ((k + sumC cRu a.Rules) : Int) < 0 := odT h14
  refine Sr (Pe rfl (Ct (Xr (Ri rfl rfl ?_))))
  show ((-1) : Int) = _
  first | (exfalso; omega) | omega
 ·have pr14 : ¬ ((k + sumC cRu a.Rules) : Int) < 0 := odF h14
  refine Sk (Sr (q1 rfl (Db f_66_1 rfl rfl (q := 1) rfl) (q1 rfl (lb 0 o_42 rfl rfl rfl rfl) (p1 rfl (li rfl (cv b_88 rfl rfl rfl rfl (fun w' hs => (laws_heldStampS w' u3 a.Memory (k + sumC cRu a.Rules) (rA hs hu4) (by first | assumption | omega | (unfold szm at *; split at * <;> omega)) (by first | assumption | omega | (unfold szm at *; split at * <;> omega)) (by first | assumption | omega | (unfold szm at *; split at * <;> omega)))) ?_))))))
  refine Pe rfl (Cq (Sr (P2 rfl rfl (Dx (Ci _ rfl (fun h15 => ?_) (fun h15 => ?_))))))
  ·have pr15 : (((k + sumC cRu a.Rules) + sumC cSt a.Memory) : Int) < 0 := odT h15
   refine Sr (Pe rfl (Ct (Xr (Ri rfl rfl ?_))))
   show ((-1) : Int) = _
   first | (exfalso; omega) | omega
  ·have pr15 : ¬ (((k + sumC cRu a.Rules) + sumC cSt a.Memory) : Int) < 0 := odF h15
   refine Sk (Sr (q1 rfl (Db f_66_3 rfl rfl (q := 3) rfl) (q1 rfl (lb 0 o_63 rfl rfl rfl rfl) (p1 rfl (li rfl (cv b_89 rfl rfl rfl rfl (fun w' hs => (laws_heldFiringS w' u5 a.Fired ((k + sumC cRu a.Rules) + sumC cSt a.Memory) (rA hs hu6) (by first | assumption | omega | (unfold szm at *; split at * <;> omega)) (by first | assumption | omega | (unfold szm at *; split at * <;> omega)) (by first | assumption | omega | (unfold szm at *; split at * <;> omega)))) ?_))))))
   refine Pe rfl (Dw [(1, (.int .i64 (((k + sumC cRu a.Rules) + sumC cSt a.Memory) + sumC cFi a.Fired))), (2, (.pointer (some ⟨g13, 0, none⟩)))] ⟨rfl, rfl, trivial⟩ (Cq (Sr (P2 rfl rfl (Dx (Ci _ rfl (fun h16 => ?_) (fun h16 => ?_)))))))
   ·have pr16 : ((((k + sumC cRu a.Rules) + sumC cSt a.Memory) + sumC cFi a.Fired) : Int) < 0 := odT h16
    refine Sr (Pe rfl (Ct (Xr (Ri rfl rfl ?_))))
    show ((-1) : Int) = _
    first | (exfalso; omega) | omega
   ·have pr16 : ¬ ((((k + sumC cRu a.Rules) + sumC cSt a.Memory) + sumC cFi a.Fired) : Int) < 0 := odF h16
    refine Sk (Sr (q1 rfl (Db f_66_5 rfl rfl (q := 5) rfl) (q1 rfl (lb 0 o_64 rfl rfl rfl rfl) (p1 rfl (li rfl (cv b_90 rfl rfl rfl rfl (fun w' hs => (laws_heldEventS w' u7 a.Log (((k + sumC cRu a.Rules) + sumC cSt a.Memory) + sumC cFi a.Fired) (rA hs hu8) (by first | assumption | omega | (unfold szm at *; split at * <;> omega)) (by first | assumption | omega | (unfold szm at *; split at * <;> omega)) (by first | assumption | omega | (unfold szm at *; split at * <;> omega)))) ?_))))))
    refine Pe rfl (Cq (Sr (P2 rfl rfl (Dx (Ci _ rfl (fun h17 => ?_) (fun h17 => ?_))))))
    ·have pr17 : (((((k + sumC cRu a.Rules) + sumC cSt a.Memory) + sumC cFi a.Fired) + sumC cEv a.Log) : Int) < 0 := odT h17
     refine Sr (Pe rfl (Ct (Xr (Ri rfl rfl ?_))))
     show ((-1) : Int) = _
     first | (exfalso; omega) | omega
    ·have pr17 : ¬ (((((k + sumC cRu a.Rules) + sumC cSt a.Memory) + sumC cFi a.Fired) + sumC cEv a.Log) : Int) < 0 := odF h17
     refine Sk (Sr (P2 rfl rfl (Dx (Ct (Ri rfl rfl ?_)))))
     show (((((k + sumC cRu a.Rules) + sumC cSt a.Memory) + sumC cFi a.Fired) + sumC cEv a.Log) : Int) = _
     first | (exfalso; omega) | omega
end Go.Sy.Eng5
