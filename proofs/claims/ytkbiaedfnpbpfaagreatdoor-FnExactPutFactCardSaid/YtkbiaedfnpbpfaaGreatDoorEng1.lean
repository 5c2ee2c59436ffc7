/-
  Contracts of functions of the program, walked (printed by a program of ours).
  Conditions: those that each theorem states.
-/
import Derived.Test.YtkbiaedfnpbpfaaGreatDoorEv1
import Derived.Test.YtkbiaedfnpbpfaaGreatDoorEv2
import Derived.Test.YtkbiaedfnpbpfaaGreatDoorRul2
import Derived.Test.YtkbiaedfnpbpfaaGreatDoorOwn2
set_option linter.unusedVariables false
set_option maxRecDepth 20000
namespace Go.Sy.Eng1
open Go Go.RowKit Go.Proofs Go.Sy
theorem mixed : Tryz.prog.follows .mixedOrders = true := by kernel_rfl
theorem us_9 : Tryz.prog.underlying 9 = some .string := by kernel_rfl
theorem b_148 : hasBody Tryz.prog 148 = true := by kernel_rfl
theorem b_104 : hasBody Tryz.prog 104 = true := by kernel_rfl
theorem b_203 : hasBody Tryz.prog 203 = true := by kernel_rfl
theorem b_196 : hasBody Tryz.prog 196 = true := by kernel_rfl
theorem f_145_0 : fieldOff Tryz.prog 145 0 = some 0 := by kernel_rfl
theorem o_9 : oneTy Tryz.prog 9 = true := by kernel_rfl
theorem b_147 : hasBody Tryz.prog 147 = true := by kernel_rfl
theorem f_145_1 : fieldOff Tryz.prog 145 1 = some 1 := by kernel_rfl
theorem o_58 : oneTy Tryz.prog 58 = true := by kernel_rfl
theorem s_58 : sliceTy Tryz.prog 58 = some (9, 1, 16) := by kernel_rfl
theorem b_199 : hasBody Tryz.prog 199 = true := by kernel_rfl
theorem b_195 : hasBody Tryz.prog 195 = true := by kernel_rfl
theorem b_145 : hasBody Tryz.prog 145 = true := by kernel_rfl
theorem f_147_0 : fieldOff Tryz.prog 147 0 = some 0 := by kernel_rfl
theorem o_3 : oneTy Tryz.prog 3 = true := by kernel_rfl
theorem f_147_1 : fieldOff Tryz.prog 147 1 = some 1 := by kernel_rfl
theorem a_145 : aggTy Tryz.prog 145 = some 2 := by kernel_rfl
theorem b_198 : hasBody Tryz.prog 198 = true := by kernel_rfl
theorem f_147_2 : fieldOff Tryz.prog 147 2 = some 3 := by kernel_rfl
theorem f_147_3 : fieldOff Tryz.prog 147 3 = some 4 := by kernel_rfl
theorem b_200 : hasBody Tryz.prog 200 = true := by kernel_rfl
theorem b_194 : hasBody Tryz.prog 194 = true := by kernel_rfl
theorem a_147 : aggTy Tryz.prog 147 = some 5 := by kernel_rfl
theorem b_153 : hasBody Tryz.prog 153 = true := by kernel_rfl
theorem f_159_0 : fieldOff Tryz.prog 159 0 = some 0 := by kernel_rfl
theorem f_159_1 : fieldOff Tryz.prog 159 1 = some 1 := by kernel_rfl
theorem y_9 : zeroTy Tryz.prog 9 = some (.string ⟨#[]⟩) := by kernel_rfl
open Go.Sy.Bel1 Go.Sy.Ev1 Go.Sy.Ev2
theorem impl_IsVar {w : World} {s : ByteArray} : Calls Tryz.prog 203 [(.string s)].toArray w (Val w (.bool (isVarB s))) := by
 refine enter 16 Tryz.func203 Y Y Y (Sr (Pe Y (Sr (p1 Y (q1 Y (D_lens us_9 Y Y) (P2 Y Y (gs 6 Y Y (fun h1 => ?_) (fun h1 => ?_))))))))
 ·have pr1 := odT h1
  refine p1 Y (q1 Y (D_sidx (j := 0) us_9 Y Y Y Y (by omega)) (P3 Y Y Y (gs 11 Y Y (fun h2 => ?_) (fun h2 => ?_))))
  ·have pr2 := eq_of_beq h2
   refine p1 Y (q1 Y (D_sslc (k := 1) us_9 Y Y Y Y (by omega)) (li Y (cv b_148 Y Y Y Y (fun w' hs => impl_IsAtom) ?_)))
   refine P2 Y Y (Dx (Ct (Rb Y Y ?_)))
   show ((isAtomB (s.extract 1 s.size)) : Bool) = _
   unfold isVarB; simp_all; try (intro h; omega)
  ·have pr2 := ne_of_beq_false h2
   refine n1 Y (n1 Y (n1 Y (P2 Y Y (Dx (Ct (Rb Y Y ?_))))))
   unfold isVarB; simp_all; try (intro h; omega)
 ·have pr1 := odF h1
  refine n1 Y (n1 Y (n1 Y (P2 Y Y (n1 Y (n1 Y (n1 Y (P2 Y Y (Dx (Ct (Rb Y Y ?_))))))))))
  unfold isVarB; simp_all; try (intro h; omega)
theorem spec_IsVar {w : World} {s : ByteArray} (hs0 : s.size ≤ 9223372036854775807) : Calls Tryz.prog 196 [(.string s)].toArray w (Val w (.bool (isVarB s))) := by
 refine enter 16 Tryz.func196 Y Y Y (Sr (Pe Y (Sr (p1 Y (q1 Y (D_lens us_9 Y Y) (P2 Y Y (gs 6 Y Y (fun h1 => ?_) (fun h1 => ?_))))))))
 ·have pr1 := odT h1
  refine p1 Y (q1 Y (D_sidx (j := 0) us_9 Y Y Y Y (by omega)) (P3 Y Y Y (gs 11 Y Y (fun h2 => ?_) (fun h2 => ?_))))
  ·have pr2 := eq_of_beq h2
   refine p1 Y (q1 Y (D_sslc (k := 1) us_9 Y Y Y Y (by omega)) (li Y (cv b_104 Y Y Y Y (fun w' hs => (spec_IsAtom (by rw [ByteArray.size_extract]; omega))) ?_)))
   refine P2 Y Y (Dx (Ct (Rb Y Y ?_)))
   show ((isAtomB (s.extract 1 s.size)) : Bool) = _
   unfold isVarB; simp_all; try (intro h; omega)
  ·have pr2 := ne_of_beq_false h2
   refine n1 Y (n1 Y (n1 Y (P2 Y Y (Dx (Ct (Rb Y Y ?_))))))
   unfold isVarB; simp_all; try (intro h; omega)
 ·have pr1 := odF h1
  refine n1 Y (n1 Y (n1 Y (P2 Y Y (n1 Y (n1 Y (n1 Y (P2 Y Y (Dx (Ct (Rb Y Y ?_))))))))))
  unfold isVarB; simp_all; try (intro h; omega)
theorem impl_IsTerm {w : World} {s : ByteArray} : Calls Tryz.prog 199 [(.string s)].toArray w (Val w (.bool (isTermB s))) := by
 refine enter 9 Tryz.func199 Y Y Y (Sr (Pe Y (Sr (p1 Y (li Y (cv b_148 Y Y Y Y (fun w' hs => impl_IsAtom) ?_))))))
 refine p1 Y (gs 5 Y Y (fun h1 => ?_) (fun h1 => ?_))
 ·refine n1 Y (n1 Y (P2 Y Y (Dx (Ct (Rb Y Y ?_)))))
  unfold isTermB; simp_all
 ·refine p1 Y (li Y (cv b_203 Y Y Y Y (fun w' hs => impl_IsVar) ?_))
  refine P2 Y Y (Dx (Ct (Rb Y Y ?_)))
  show ((isVarB s) : Bool) = _
  unfold isTermB; simp_all
theorem spec_IsTerm {w : World} {s : ByteArray} (hs0 : s.size ≤ 9223372036854775807) : Calls Tryz.prog 195 [(.string s)].toArray w (Val w (.bool (isTermB s))) := by
 refine enter 9 Tryz.func195 Y Y Y (Sr (Pe Y (Sr (p1 Y (li Y (cv b_104 Y Y Y Y (fun w' hs => (spec_IsAtom (by first | assumption | omega | (unfold szm at *; split at * <;> omega)))) ?_))))))
 refine p1 Y (gs 5 Y Y (fun h1 => ?_) (fun h1 => ?_))
 ·refine n1 Y (n1 Y (P2 Y Y (Dx (Ct (Rb Y Y ?_)))))
  unfold isTermB; simp_all
 ·refine p1 Y (li Y (cv b_196 Y Y Y Y (fun w' hs => (spec_IsVar (by first | assumption | omega | (unfold szm at *; split at * <;> omega)))) ?_))
  refine P2 Y Y (Dx (Ct (Rb Y Y ?_)))
  show ((isVarB s) : Bool) = _
  unfold isTermB; simp_all
theorem impl_IsPattern {w : World} {c_p : List Value} {p : Pattern} (h_p : Gd.rd w c_p p) : Calls Tryz.prog 198 [(.agg c_p.toArray)].toArray w (Val w (.bool (isPatternB p))) := by
 obtain ⟨u1, rfl, hu2⟩ := open_Pattern h_p
 have hm3 := rd_max hu2
 refine enter 26 Tryz.func198 Y Y Y (Sr (li Y (D_box Y Y Y Y Y fun g4 => ?_)))
 refine Pe Y (Dh ([bx g4 [(.string p.Rel), u1]]) Y (Cq (Sr (q1 Y (Db f_145_0 Y Y (q := 0) Y) (q1 Y (lb 0 o_9 Y Y Y Y) (li Y (cv b_147 Y Y Y Y (fun w' hs => impl_IsName) ?_)))))))
 refine P2 Y Y (gs 9 Y Y (fun h5 => ?_) (fun h5 => ?_))
 ·have h5n := not_t h5
  refine n1 Y (n1 Y (n1 Y (n1 Y (Pe Y (C_t Y (Sr (Pe Y (Ct (Xr (Rb Y Y ?_))))))))))
  unfold isPatternB; simp_all
 ·have h5n := not_f h5
  refine q1 Y (Db f_145_1 Y Y (q := 1) Y) (q1 Y (lb 0 o_58 Y Y Y Y) (q1 Y (Dl s_58 Y Y (rd_sl hu2)) (P2 Y Y (Dx (Ci _ Y (fun h6 => ?_) (fun h6 => ?_))))))
  ·have pr6 := odT h6
   refine Sr (Pe Y (Ct (Xr (Rb Y Y ?_))))
   unfold isPatternB; rw [decide_eq_false (by omega : ¬ p.Args.length ≤ 3)]; simp
  ·have pr6 := odF h6
   refine Sk (Cq (Sr (q1 Y (Db f_145_1 Y Y (q := 1) Y) (q1 Y (lb 0 o_58 Y Y Y Y) (q1 Y (Dl s_58 Y Y (rd_sl hu2)) (Pe Y (Cb (Cl (fun m_ ac w' => ∃ (k : Nat), (k ≤ p.Args.length) ∧ (∀ i, i < k → ∀ y, p.Args[i]? = some y → isTermB y = true) ∧ m_ = p.Args.length - k ∧ Fits ac 26 [(16, u1), (17, (nv p.Args.length)), (18, (nv k))] ∧ St w ([bx g4 [(.string p.Rel), u1]]) w') ?_ ?_))))))))
   ·refine fun ac w' hf hs => ⟨_, 0, ?_, ?_, Y, hf.wk Y, hs⟩
    ·first | assumption | omega | simp
    ·intro i hi; omega
   ·rintro m_ ac w' ⟨k, hk, hi, rfl, hf, hs⟩
    refine D.use ?_ hf hs
    clear hf hs ac w'
    refine Sr (Pe Y (Cq (Ci _ Y (fun h7 => ?_) (fun h7 => ?_))))
    ·have pr7 := odT h7
     refine Sk (Cq (Cb (Sr ?_)))
     obtain ⟨a0, ha0⟩ := sL (l := p.Args) (i := k) (by omega)
     obtain ⟨es8, at9, hr10⟩ := rd_elem (n := 1) rfl hu2 ha0
     obtain rfl : es8 = [.string a0] := hr10
     refine q1 Y (D_ix (l := p.Args) (j := k) s_58 Y Y Y (fun w' hs => (rA hs hu2)) Y (lS ha0)) (q1 Y (lr0 o_9 Y Y at9 Y) (Pe Y (Sr (p1 Y (li Y (cv b_199 Y Y Y Y (fun w' hs => impl_IsTerm) ?_))))))
     refine Pe Y (Ci _ Y (fun h11 => ?_) (fun h11 => ?_))
     ·have h11n := not_t h11
      refine Sr (Pe Y (Ct (Xq (Xr (Xr (Xq (Xr (Rb Y Y ?_))))))))
      unfold isPatternB; rw [all_bad (p := isTermB) ha0 h11n]; simp
     ·have h11n := not_f h11
      refine Ck (Xb (Xt (Cr (q1 Y (D_add Y Y Y (r := ((k + 1 : Nat) : Int)) (by omega) (by omega)) (Pe Y (fun ac w' hf hs => ⟨_, ?_, k + 1, ?_, ?_, Y, hf.wk Y, hs⟩))))))
      ·omega
      ·first | assumption | omega | simp
      ·refine forall_step hi ?_; intro y hy; obtain rfl : y = a0 := Option.some.inj (hy.symm.trans ha0); exact h11n
    ·have pr7 := odF h7
     refine Cx (Xx (Xx (Xe (Xt (Sr (Pe Y (Ct (Rb Y Y ?_))))))))
     unfold isPatternB; rw [all_of_idx (p := isTermB) (fun i h => hi i (by omega)), decide_eq_true (by omega : p.Args.length ≤ 3)]; simp_all
theorem spec_IsPattern {w : World} {c_p : List Value} {p : Pattern} (h_p : Gd.rd w c_p p) (hf0 : okPattern p) : Calls Tryz.prog 194 [(.agg c_p.toArray)].toArray w (Val w (.bool (isPatternB p))) := by
 obtain ⟨u1, rfl, hu2⟩ := open_Pattern h_p
 have hm3 := rd_max hu2
 refine enter 27 Tryz.func194 Y Y Y (Sr (li Y (D_box Y Y Y Y Y fun g4 => ?_)))
 refine Pe Y (Dh ([bx g4 [(.string p.Rel), u1]]) Y (Cq (Sr (Pe Y (Cb (Cl (fun m_ ac w' => ∃ (k : Nat), (k ≤ p.Args.length) ∧ (∀ i, i < k → ∀ y, p.Args[i]? = some y → isTermB y = true) ∧ m_ = p.Args.length - k ∧ Fits ac 27 [(1, (pv g4)), (3, (nv k))] ∧ St w ([bx g4 [(.string p.Rel), u1]]) w') ?_ ?_))))))
 ·refine fun ac w' hf hs => ⟨_, 0, ?_, ?_, Y, hf.wk Y, hs⟩
  ·first | assumption | omega | simp
  ·intro i hi; omega
 ·rintro m_ ac w' ⟨k, hk, hi, rfl, hf, hs⟩
  refine D.use ?_ hf hs
  clear hf hs ac w'
  refine Cq (Sr (p1 Y (q1 Y (Db f_145_1 Y Y (q := 1) Y) (q1 Y (lb 0 o_58 Y Y Y Y) (q1 Y (Dl s_58 Y Y (rd_sl hu2)) (Pe Y (Ci _ Y (fun h5 => ?_) (fun h5 => ?_))))))))
  ·have pr5 := odT h5
   refine Sk (Cq (Cb (Sr (q1 Y (Db f_145_1 Y Y (q := 1) Y) (q1 Y (lb 0 o_58 Y Y Y Y) (p1 Y ?_))))))
   obtain ⟨a0, ha0⟩ := sL (l := p.Args) (i := k) (by omega)
   have hs1 : a0.size ≤ 9223372036854775807 := hf0.2 _ (List.mem_of_getElem? ha0)
   obtain ⟨es6, at7, hr8⟩ := rd_elem (n := 1) rfl hu2 ha0
   obtain rfl : es6 = [.string a0] := hr8
   refine q1 Y (D_ix (l := p.Args) (j := k) s_58 Y Y Y (fun w' hs => (rA hs hu2)) Y (lS ha0)) (q1 Y (lr0 o_9 Y Y at7 Y) (li Y (cv b_195 Y Y Y Y (fun w' hs => (spec_IsTerm hs1)) ?_)))
   refine Pe Y (Ci _ Y (fun h9 => ?_) (fun h9 => ?_))
   ·have h9n := not_t h9
    refine Sr (Pe Y (Ct (Xq (Xr (Xr (Xq (Xr (Rb Y Y ?_))))))))
    unfold isPatternB; rw [all_bad (p := isTermB) ha0 h9n]; simp
   ·have h9n := not_f h9
    refine Ck (Xb (Xt (Cr (p1 Y (q1 Y (D_add Y Y Y (r := ((k + 1 : Nat) : Int)) (by omega) (by omega)) (Pe Y (fun ac w' hf hs => ⟨_, ?_, k + 1, ?_, ?_, Y, hf.wk Y, hs⟩)))))))
    ·omega
    ·first | assumption | omega | simp
    ·refine forall_step hi ?_; intro y hy; obtain rfl : y = a0 := Option.some.inj (hy.symm.trans ha0); exact h9n
  ·have pr5 := odF h5
   refine Cx (Xx (Xx (Xe (Xt (Sr (q1 Y (Db f_145_0 Y Y (q := 0) Y) (q1 Y (lb 0 o_9 Y Y Y Y) (li Y (cv b_145 Y Y Y Y (fun w' hs => (spec_IsName hf0.1)) ?_)))))))))
   refine p1 Y (gs 21 Y Y (fun h10 => ?_) (fun h10 => ?_))
   ·refine q1 Y (Db f_145_1 Y Y (q := 1) Y) (q1 Y (lb 0 o_58 Y Y Y Y) (q1 Y (Dl s_58 Y Y (rd_sl hu2)) (P3 Y Y Y (Dx (Ct (Rb Y Y ?_))))))
    show ((decide ((((p.Args.length : Nat) : Int) : Int) ≤ 3)) : Bool) = _
    unfold isPatternB; rw [all_of_idx (p := isTermB) (fun i h => hi i (by omega))]; simp_all; try omega
   ·refine n1 Y (n1 Y (n1 Y (n1 Y (P2 Y Y (Dx (Ct (Rb Y Y ?_)))))))
    unfold isPatternB; rw [all_of_idx (p := isTermB) (fun i h => hi i (by omega))]; simp_all; try omega
theorem impl_zeroPattern {w : World} {c_p : List Value} {p : Pattern} (h_p : Gd.rd w c_p p) : Calls Tryz.prog 200 [(.agg c_p.toArray)].toArray w (Val w (.bool (zeroP p))) := by
 obtain ⟨u1, rfl, hu2⟩ := open_Pattern h_p
 have hm3 := rd_max hu2
 refine enter 12 Tryz.func200 Y Y Y (Sr (li Y (D_box Y Y Y Y Y fun g4 => ?_)))
 refine Pe Y (Dh ([bx g4 [(.string p.Rel), u1]]) Y (Sr (q1 Y (Db f_145_0 Y Y (q := 0) Y) (q1 Y (lb 0 o_9 Y Y Y Y) (q1 Y (D_eqS Y Y Y) (p1 Y (gs 6 Y Y (fun h5 => ?_) (fun h5 => ?_))))))))
 ·have pr5 := odT h5
  refine q1 Y (Db f_145_1 Y Y (q := 1) Y) (q1 Y (lb 0 o_58 Y Y Y Y) (q1 Y (Dl s_58 Y Y (rd_sl hu2)) (P3 Y Y Y (Dx (Ct (Rb Y Y ?_))))))
  show (((((p.Args.length : Nat) : Int) : Int) == 0) : Bool) = _
  unfold zeroP; simp_all; try (rw [Bool.eq_iff_iff]; simp)
 ·have pr5 := odF h5
  refine n1 Y (n1 Y (n1 Y (n1 Y (P2 Y Y (Dx (Ct (Rb Y Y ?_)))))))
  unfold zeroP; simp_all; try (rw [Bool.eq_iff_iff]; simp)
set_option maxHeartbeats 4000000 in
theorem impl_IsCond {w : World} {c_x : List Value} {x : Cond} (h_x : Gd.rd w c_x x) : Calls Tryz.prog 163 [(.agg c_x.toArray)].toArray w (Val w (.bool (isCondB x))) := by
 obtain ⟨u1, rfl, hu2⟩ := open_Cond h_x
 have hm3 := rd_max hu2
 have hb4 := sub_Cond_Pattern h_x
 refine enter 38 Tryz.func163 Y Y Y (Sr (li Y (D_box Y Y Y Y Y fun g5 => ?_)))
 refine Pe Y (Dh ([bx g5 [(iv x.Kind), (.string x.Pattern.Rel), u1, (.string x.Left), (.string x.Right)]]) Y (Cq (Sr (q1 Y (Db f_147_0 Y Y (q := 0) Y) (q1 Y (lb 0 o_3 Y Y Y Y) (Dx (Cb (Cq (Sr (P2 Y Y (Dx (Ci _ Y (fun h6 => ?_) (fun h6 => ?_)))))))))))))
 ·have pr6 := eq_of_beq h6
  refine Sk (C_kt Y h6 (Sr (q1 Y (Db f_147_1 Y Y (q := 1) Y) (q1 Y (lba (es := [(.string x.Pattern.Rel), u1]) 0 a_145 Y Y Y Y) (li Y (cv b_198 Y Y Y Y (fun w' hs => (impl_IsPattern (rA hs hb4))) ?_))))))
  refine p1 Y (gs 11 Y Y (fun h8 => ?_) (fun h8 => ?_))
  ·refine q1 Y (Db f_147_2 Y Y (q := 3) Y) (q1 Y (lb 0 o_9 Y Y Y Y) (q1 Y (D_eqS Y Y Y) (P2 Y Y (gs 16 Y Y (fun h9 => ?_) (fun h9 => ?_)))))
   ·have pr9 := odT h9
    refine q1 Y (Db f_147_3 Y Y (q := 4) Y) (q1 Y (lb 0 o_9 Y Y Y Y) (q1 Y (D_eqS Y Y Y) (P2 Y Y (Dx (Ct (Xq (Xr (Rb Y Y ?_))))))))
    show ((decide ((x.Right : ByteArray) = ⟨#[]⟩)) : Bool) = _
    first | (unfold isCondB zeroP; simp_all; done) | (unfold isCondB zeroP; simp_all; omega)
   ·have pr9 := odF h9
    refine n1 Y (n1 Y (n1 Y (P2 Y Y (Dx (Ct (Xq (Xr (Rb Y Y ?_))))))))
    first | (unfold isCondB zeroP; simp_all; done) | (unfold isCondB zeroP; simp_all; omega)
  ·refine n1 Y (n1 Y (n1 Y (P2 Y Y (n1 Y (n1 Y (n1 Y (P2 Y Y (Dx (Ct (Xq (Xr (Rb Y Y ?_))))))))))))
   first | (unfold isCondB zeroP; simp_all; done) | (unfold isCondB zeroP; simp_all; omega)
 ·have pr6 := ne_of_beq_false h6
  refine Cr (P2 Y Y (Dx (Ci _ Y (fun h21 => ?_) (fun h21 => ?_))))
  ·have pr21 := eq_of_beq h21
   refine Sr (q1 Y (Db f_147_1 Y Y (q := 1) Y) (q1 Y (lba (es := [(.string x.Pattern.Rel), u1]) 0 a_145 Y Y Y Y) (li Y (cv b_198 Y Y Y Y (fun w' hs => (impl_IsPattern (rA hs hb4))) ?_))))
   refine p1 Y (gs 11 Y Y (fun h22 => ?_) (fun h22 => ?_))
   ·refine q1 Y (Db f_147_2 Y Y (q := 3) Y) (q1 Y (lb 0 o_9 Y Y Y Y) (q1 Y (D_eqS Y Y Y) (P2 Y Y (gs 16 Y Y (fun h23 => ?_) (fun h23 => ?_)))))
    ·have pr23 := odT h23
     refine q1 Y (Db f_147_3 Y Y (q := 4) Y) (q1 Y (lb 0 o_9 Y Y Y Y) (q1 Y (D_eqS Y Y Y) (P2 Y Y (Dx (Ct (Xq (Xr (Rb Y Y ?_))))))))
     show ((decide ((x.Right : ByteArray) = ⟨#[]⟩)) : Bool) = _
     first | (unfold isCondB zeroP; simp_all; done) | (unfold isCondB zeroP; simp_all; omega)
    ·have pr23 := odF h23
     refine n1 Y (n1 Y (n1 Y (P2 Y Y (Dx (Ct (Xq (Xr (Rb Y Y ?_))))))))
     first | (unfold isCondB zeroP; simp_all; done) | (unfold isCondB zeroP; simp_all; omega)
   ·refine n1 Y (n1 Y (n1 Y (P2 Y Y (n1 Y (n1 Y (n1 Y (P2 Y Y (Dx (Ct (Xq (Xr (Rb Y Y ?_))))))))))))
    first | (unfold isCondB zeroP; simp_all; done) | (unfold isCondB zeroP; simp_all; omega)
  ·have pr21 := ne_of_beq_false h21
   refine Cq (Sr (P2 Y Y (Dx (Ci _ Y (fun h24 => ?_) (fun h24 => ?_)))))
   ·have pr24 := eq_of_beq h24
    refine Sk (C_kt Y h24 (Sr (q1 Y (Db f_147_2 Y Y (q := 3) Y) (q1 Y (lb 0 o_9 Y Y Y Y) (li Y (cv b_199 Y Y Y Y (fun w' hs => impl_IsTerm) ?_))))))
    refine p1 Y (gs 28 Y Y (fun h26 => ?_) (fun h26 => ?_))
    ·refine q1 Y (Db f_147_3 Y Y (q := 4) Y) (q1 Y (lb 0 o_9 Y Y Y Y) (li Y (cv b_199 Y Y Y Y (fun w' hs => impl_IsTerm) ?_)))
     refine P2 Y Y (gs 33 Y Y (fun h27 => ?_) (fun h27 => ?_))
     ·refine q1 Y (Db f_147_1 Y Y (q := 1) Y) (q1 Y (lba (es := [(.string x.Pattern.Rel), u1]) 0 a_145 Y Y Y Y) (li Y (cv b_200 Y Y Y Y (fun w' hs => (impl_zeroPattern (rA hs hb4))) ?_)))
      refine P2 Y Y (Dx (Ct (Xq (Xr (Rb Y Y ?_)))))
      show ((zeroP x.Pattern) : Bool) = _
      first | (unfold isCondB zeroP; simp_all; done) | (unfold isCondB zeroP; simp_all; omega)
     ·refine n1 Y (n1 Y (n1 Y (P2 Y Y (Dx (Ct (Xq (Xr (Rb Y Y ?_))))))))
      first | (unfold isCondB zeroP; simp_all; done) | (unfold isCondB zeroP; simp_all; omega)
    ·refine n1 Y (n1 Y (n1 Y (P2 Y Y (n1 Y (n1 Y (n1 Y (P2 Y Y (Dx (Ct (Xq (Xr (Rb Y Y ?_))))))))))))
     first | (unfold isCondB zeroP; simp_all; done) | (unfold isCondB zeroP; simp_all; omega)
   ·have pr24 := ne_of_beq_false h24
    refine Sr (P2 Y Y (Dx (Ci _ Y (fun h28 => ?_) (fun h28 => ?_))))
    ·have pr28 := eq_of_beq h28
     refine Sk (C_kt Y h28 (Sr (q1 Y (Db f_147_2 Y Y (q := 3) Y) (q1 Y (lb 0 o_9 Y Y Y Y) (li Y (cv b_199 Y Y Y Y (fun w' hs => impl_IsTerm) ?_))))))
     refine p1 Y (gs 28 Y Y (fun h30 => ?_) (fun h30 => ?_))
     ·refine q1 Y (Db f_147_3 Y Y (q := 4) Y) (q1 Y (lb 0 o_9 Y Y Y Y) (li Y (cv b_199 Y Y Y Y (fun w' hs => impl_IsTerm) ?_)))
      refine P2 Y Y (gs 33 Y Y (fun h31 => ?_) (fun h31 => ?_))
      ·refine q1 Y (Db f_147_1 Y Y (q := 1) Y) (q1 Y (lba (es := [(.string x.Pattern.Rel), u1]) 0 a_145 Y Y Y Y) (li Y (cv b_200 Y Y Y Y (fun w' hs => (impl_zeroPattern (rA hs hb4))) ?_)))
       refine P2 Y Y (Dx (Ct (Xq (Xr (Rb Y Y ?_)))))
       show ((zeroP x.Pattern) : Bool) = _
       first | (unfold isCondB zeroP; simp_all; done) | (unfold isCondB zeroP; simp_all; omega)
      ·refine n1 Y (n1 Y (n1 Y (P2 Y Y (Dx (Ct (Xq (Xr (Rb Y Y ?_))))))))
       first | (unfold isCondB zeroP; simp_all; done) | (unfold isCondB zeroP; simp_all; omega)
     ·refine n1 Y (n1 Y (n1 Y (P2 Y Y (n1 Y (n1 Y (n1 Y (P2 Y Y (Dx (Ct (Xq (Xr (Rb Y Y ?_))))))))))))
      first | (unfold isCondB zeroP; simp_all; done) | (unfold isCondB zeroP; simp_all; omega)
    ·have pr28 := ne_of_beq_false h28
     refine Cr (P2 Y Y (Dx (Ci _ Y (fun h32 => ?_) (fun h32 => ?_))))
     ·have pr32 := eq_of_beq h32
      refine Sr (q1 Y (Db f_147_2 Y Y (q := 3) Y) (q1 Y (lb 0 o_9 Y Y Y Y) (li Y (cv b_199 Y Y Y Y (fun w' hs => impl_IsTerm) ?_))))
      refine p1 Y (gs 28 Y Y (fun h33 => ?_) (fun h33 => ?_))
      ·refine q1 Y (Db f_147_3 Y Y (q := 4) Y) (q1 Y (lb 0 o_9 Y Y Y Y) (li Y (cv b_199 Y Y Y Y (fun w' hs => impl_IsTerm) ?_)))
       refine P2 Y Y (gs 33 Y Y (fun h34 => ?_) (fun h34 => ?_))
       ·refine q1 Y (Db f_147_1 Y Y (q := 1) Y) (q1 Y (lba (es := [(.string x.Pattern.Rel), u1]) 0 a_145 Y Y Y Y) (li Y (cv b_200 Y Y Y Y (fun w' hs => (impl_zeroPattern (rA hs hb4))) ?_)))
        refine P2 Y Y (Dx (Ct (Xq (Xr (Rb Y Y ?_)))))
        show ((zeroP x.Pattern) : Bool) = _
        first | (unfold isCondB zeroP; simp_all; done) | (unfold isCondB zeroP; simp_all; omega)
       ·refine n1 Y (n1 Y (n1 Y (P2 Y Y (Dx (Ct (Xq (Xr (Rb Y Y ?_))))))))
        first | (unfold isCondB zeroP; simp_all; done) | (unfold isCondB zeroP; simp_all; omega)
      ·refine n1 Y (n1 Y (n1 Y (P2 Y Y (n1 Y (n1 Y (n1 Y (P2 Y Y (Dx (Ct (Xq (Xr (Rb Y Y ?_))))))))))))
       first | (unfold isCondB zeroP; simp_all; done) | (unfold isCondB zeroP; simp_all; omega)
     ·have pr32 := ne_of_beq_false h32
      refine Ck (Xb (Xt (Sr (Pe Y (Ct (Rb Y Y ?_))))))
      first | (unfold isCondB zeroP; simp_all; done) | (unfold isCondB zeroP; simp_all; omega)
set_option maxHeartbeats 4000000 in
theorem spec_IsCond {w : World} {c_x : List Value} {x : Cond} (h_x : Gd.rd w c_x x) (hx0 : okCond x) : Calls Tryz.prog 153 [(.agg c_x.toArray)].toArray w (Val w (.bool (isCondB x))) := by
 obtain ⟨u1, rfl, hu2⟩ := open_Cond h_x
 have hm3 := rd_max hu2
 have hb4 := sub_Cond_Pattern h_x
 refine enter 46 Tryz.func153 Y Y Y (Sr (li Y (D_box Y Y Y Y Y fun g5 => ?_)))
 refine Pe Y (Dh ([bx g5 [(iv x.Kind), (.string x.Pattern.Rel), u1, (.string x.Left), (.string x.Right)]]) Y (Cq (Sr (q1 Y (Db f_147_0 Y Y (q := 0) Y) (q1 Y (lb 0 o_3 Y Y Y Y) (Dx (Cb (Cq (Sr (P2 Y Y (Dx (Ci _ Y (fun h6 => ?_) (fun h6 => ?_)))))))))))))
 ·have pr6 := eq_of_beq h6
  refine Sk (C_kt Y h6 (Sr (q1 Y (Db f_147_1 Y Y (q := 1) Y) (q1 Y (lba (es := [(.string x.Pattern.Rel), u1]) 0 a_145 Y Y Y Y) (li Y (cv b_194 Y Y Y Y (fun w' hs => (spec_IsPattern (rA hs hb4) hx0.2.1)) ?_))))))
  refine p1 Y (gs 11 Y Y (fun h8 => ?_) (fun h8 => ?_))
  ·refine q1 Y (Db f_147_2 Y Y (q := 3) Y) (q1 Y (lb 0 o_9 Y Y Y Y) (q1 Y (D_eqS Y Y Y) (P2 Y Y (gs 16 Y Y (fun h9 => ?_) (fun h9 => ?_)))))
   ·have pr9 := odT h9
    refine q1 Y (Db f_147_3 Y Y (q := 4) Y) (q1 Y (lb 0 o_9 Y Y Y Y) (q1 Y (D_eqS Y Y Y) (P2 Y Y (Dx (Ct (Xq (Xr (Rb Y Y ?_))))))))
    show ((decide ((x.Right : ByteArray) = ⟨#[]⟩)) : Bool) = _
    first | (unfold isCondB zeroP; simp_all; done) | (unfold isCondB zeroP; simp_all; omega)
   ·have pr9 := odF h9
    refine n1 Y (n1 Y (n1 Y (P2 Y Y (Dx (Ct (Xq (Xr (Rb Y Y ?_))))))))
    first | (unfold isCondB zeroP; simp_all; done) | (unfold isCondB zeroP; simp_all; omega)
  ·refine n1 Y (n1 Y (n1 Y (P2 Y Y (n1 Y (n1 Y (n1 Y (P2 Y Y (Dx (Ct (Xq (Xr (Rb Y Y ?_))))))))))))
   first | (unfold isCondB zeroP; simp_all; done) | (unfold isCondB zeroP; simp_all; omega)
 ·have pr6 := ne_of_beq_false h6
  refine Cr (P2 Y Y (Dx (Ci _ Y (fun h24 => ?_) (fun h24 => ?_))))
  ·have pr24 := eq_of_beq h24
   refine Sr (q1 Y (Db f_147_1 Y Y (q := 1) Y) (q1 Y (lba (es := [(.string x.Pattern.Rel), u1]) 0 a_145 Y Y Y Y) (li Y (cv b_194 Y Y Y Y (fun w' hs => (spec_IsPattern (rA hs hb4) hx0.2.1)) ?_))))
   refine p1 Y (gs 11 Y Y (fun h25 => ?_) (fun h25 => ?_))
   ·refine q1 Y (Db f_147_2 Y Y (q := 3) Y) (q1 Y (lb 0 o_9 Y Y Y Y) (q1 Y (D_eqS Y Y Y) (P2 Y Y (gs 16 Y Y (fun h26 => ?_) (fun h26 => ?_)))))
    ·have pr26 := odT h26
     refine q1 Y (Db f_147_3 Y Y (q := 4) Y) (q1 Y (lb 0 o_9 Y Y Y Y) (q1 Y (D_eqS Y Y Y) (P2 Y Y (Dx (Ct (Xq (Xr (Rb Y Y ?_))))))))
     show ((decide ((x.Right : ByteArray) = ⟨#[]⟩)) : Bool) = _
     first | (unfold isCondB zeroP; simp_all; done) | (unfold isCondB zeroP; simp_all; omega)
    ·have pr26 := odF h26
     refine n1 Y (n1 Y (n1 Y (P2 Y Y (Dx (Ct (Xq (Xr (Rb Y Y ?_))))))))
     first | (unfold isCondB zeroP; simp_all; done) | (unfold isCondB zeroP; simp_all; omega)
   ·refine n1 Y (n1 Y (n1 Y (P2 Y Y (n1 Y (n1 Y (n1 Y (P2 Y Y (Dx (Ct (Xq (Xr (Rb Y Y ?_))))))))))))
    first | (unfold isCondB zeroP; simp_all; done) | (unfold isCondB zeroP; simp_all; omega)
  ·have pr24 := ne_of_beq_false h24
   refine Cq (Sr (P2 Y Y (Dx (Ci _ Y (fun h27 => ?_) (fun h27 => ?_)))))
   ·have pr27 := eq_of_beq h27
    refine Sk (C_kt Y h27 (Sr (q1 Y (Db f_147_1 Y Y (q := 1) Y) (q1 Y (Db f_145_0 Y Y (q := 1) Y) (q1 Y (lb 0 o_9 Y Y Y Y) (q1 Y (D_eqS Y Y Y) (p1 Y (gs 29 Y Y (fun h29 => ?_) (fun h29 => ?_)))))))))
    ·have pr29 := odT h29
     refine q1 Y (Db f_147_1 Y Y (q := 1) Y) (q1 Y (Db f_145_1 Y Y (q := 2) Y) (q1 Y (lb 0 o_58 Y Y Y Y) (q1 Y (Dl s_58 Y Y (rd_sl hu2)) (P3 Y Y Y (gs 36 Y Y (fun h30 => ?_) (fun h30 => ?_))))))
     ·have pr30 := eq_of_beq h30
      refine q1 Y (Db f_147_2 Y Y (q := 3) Y) (q1 Y (lb 0 o_9 Y Y Y Y) (li Y (cv b_195 Y Y Y Y (fun w' hs => (spec_IsTerm (by first | exact hx0.2.2.1 | exact hx0.2.2.2))) ?_)))
      refine P2 Y Y (gs 41 Y Y (fun h31 => ?_) (fun h31 => ?_))
      ·refine q1 Y (Db f_147_3 Y Y (q := 4) Y) (q1 Y (lb 0 o_9 Y Y Y Y) (li Y (cv b_195 Y Y Y Y (fun w' hs => (spec_IsTerm (by first | exact hx0.2.2.1 | exact hx0.2.2.2))) ?_)))
       refine P2 Y Y (Dx (Ct (Xq (Xr (Rb Y Y ?_)))))
       show ((isTermB x.Right) : Bool) = _
       first | (unfold isCondB zeroP; simp_all; done) | (unfold isCondB zeroP; simp_all; omega)
      ·refine n1 Y (n1 Y (n1 Y (P2 Y Y (Dx (Ct (Xq (Xr (Rb Y Y ?_))))))))
       first | (unfold isCondB zeroP; simp_all; done) | (unfold isCondB zeroP; simp_all; omega)
     ·have pr30 := ne_of_beq_false h30
      refine n1 Y (n1 Y (n1 Y (P2 Y Y (n1 Y (n1 Y (n1 Y (P2 Y Y (Dx (Ct (Xq (Xr (Rb Y Y ?_))))))))))))
      first | (unfold isCondB zeroP; simp_all; done) | (unfold isCondB zeroP; simp_all; omega)
    ·have pr29 := odF h29
     refine n1 Y (n1 Y (n1 Y (n1 Y (n1 Y (P2 Y Y (n1 Y (n1 Y (n1 Y (P2 Y Y (n1 Y (n1 Y (n1 Y (P2 Y Y (Dx (Ct (Xq (Xr (Rb Y Y ?_))))))))))))))))))
     first | (unfold isCondB zeroP; simp_all; done) | (unfold isCondB zeroP; simp_all; omega)
   ·have pr27 := ne_of_beq_false h27
    refine Sr (P2 Y Y (Dx (Ci _ Y (fun h32 => ?_) (fun h32 => ?_))))
    ·have pr32 := eq_of_beq h32
     refine Sk (C_kt Y h32 (Sr (q1 Y (Db f_147_1 Y Y (q := 1) Y) (q1 Y (Db f_145_0 Y Y (q := 1) Y) (q1 Y (lb 0 o_9 Y Y Y Y) (q1 Y (D_eqS Y Y Y) (p1 Y (gs 29 Y Y (fun h34 => ?_) (fun h34 => ?_)))))))))
     ·have pr34 := odT h34
      refine q1 Y (Db f_147_1 Y Y (q := 1) Y) (q1 Y (Db f_145_1 Y Y (q := 2) Y) (q1 Y (lb 0 o_58 Y Y Y Y) (q1 Y (Dl s_58 Y Y (rd_sl hu2)) (P3 Y Y Y (gs 36 Y Y (fun h35 => ?_) (fun h35 => ?_))))))
      ·have pr35 := eq_of_beq h35
       refine q1 Y (Db f_147_2 Y Y (q := 3) Y) (q1 Y (lb 0 o_9 Y Y Y Y) (li Y (cv b_195 Y Y Y Y (fun w' hs => (spec_IsTerm (by first | exact hx0.2.2.1 | exact hx0.2.2.2))) ?_)))
       refine P2 Y Y (gs 41 Y Y (fun h36 => ?_) (fun h36 => ?_))
       ·refine q1 Y (Db f_147_3 Y Y (q := 4) Y) (q1 Y (lb 0 o_9 Y Y Y Y) (li Y (cv b_195 Y Y Y Y (fun w' hs => (spec_IsTerm (by first | exact hx0.2.2.1 | exact hx0.2.2.2))) ?_)))
        refine P2 Y Y (Dx (Ct (Xq (Xr (Rb Y Y ?_)))))
        show ((isTermB x.Right) : Bool) = _
        first | (unfold isCondB zeroP; simp_all; done) | (unfold isCondB zeroP; simp_all; omega)
       ·refine n1 Y (n1 Y (n1 Y (P2 Y Y (Dx (Ct (Xq (Xr (Rb Y Y ?_))))))))
        first | (unfold isCondB zeroP; simp_all; done) | (unfold isCondB zeroP; simp_all; omega)
      ·have pr35 := ne_of_beq_false h35
       refine n1 Y (n1 Y (n1 Y (P2 Y Y (n1 Y (n1 Y (n1 Y (P2 Y Y (Dx (Ct (Xq (Xr (Rb Y Y ?_))))))))))))
       first | (unfold isCondB zeroP; simp_all; done) | (unfold isCondB zeroP; simp_all; omega)
     ·have pr34 := odF h34
      refine n1 Y (n1 Y (n1 Y (n1 Y (n1 Y (P2 Y Y (n1 Y (n1 Y (n1 Y (P2 Y Y (n1 Y (n1 Y (n1 Y (P2 Y Y (Dx (Ct (Xq (Xr (Rb Y Y ?_))))))))))))))))))
      first | (unfold isCondB zeroP; simp_all; done) | (unfold isCondB zeroP; simp_all; omega)
    ·have pr32 := ne_of_beq_false h32
     refine Cr (P2 Y Y (Dx (Ci _ Y (fun h37 => ?_) (fun h37 => ?_))))
     ·have pr37 := eq_of_beq h37
      refine Sr (q1 Y (Db f_147_1 Y Y (q := 1) Y) (q1 Y (Db f_145_0 Y Y (q := 1) Y) (q1 Y (lb 0 o_9 Y Y Y Y) (q1 Y (D_eqS Y Y Y) (p1 Y (gs 29 Y Y (fun h38 => ?_) (fun h38 => ?_)))))))
      ·have pr38 := odT h38
       refine q1 Y (Db f_147_1 Y Y (q := 1) Y) (q1 Y (Db f_145_1 Y Y (q := 2) Y) (q1 Y (lb 0 o_58 Y Y Y Y) (q1 Y (Dl s_58 Y Y (rd_sl hu2)) (P3 Y Y Y (gs 36 Y Y (fun h39 => ?_) (fun h39 => ?_))))))
       ·have pr39 := eq_of_beq h39
        refine q1 Y (Db f_147_2 Y Y (q := 3) Y) (q1 Y (lb 0 o_9 Y Y Y Y) (li Y (cv b_195 Y Y Y Y (fun w' hs => (spec_IsTerm (by first | exact hx0.2.2.1 | exact hx0.2.2.2))) ?_)))
        refine P2 Y Y (gs 41 Y Y (fun h40 => ?_) (fun h40 => ?_))
        ·refine q1 Y (Db f_147_3 Y Y (q := 4) Y) (q1 Y (lb 0 o_9 Y Y Y Y) (li Y (cv b_195 Y Y Y Y (fun w' hs => (spec_IsTerm (by first | exact hx0.2.2.1 | exact hx0.2.2.2))) ?_)))
         refine P2 Y Y (Dx (Ct (Xq (Xr (Rb Y Y ?_)))))
         show ((isTermB x.Right) : Bool) = _
         first | (unfold isCondB zeroP; simp_all; done) | (unfold isCondB zeroP; simp_all; omega)
        ·refine n1 Y (n1 Y (n1 Y (P2 Y Y (Dx (Ct (Xq (Xr (Rb Y Y ?_))))))))
         first | (unfold isCondB zeroP; simp_all; done) | (unfold isCondB zeroP; simp_all; omega)
       ·have pr39 := ne_of_beq_false h39
        refine n1 Y (n1 Y (n1 Y (P2 Y Y (n1 Y (n1 Y (n1 Y (P2 Y Y (Dx (Ct (Xq (Xr (Rb Y Y ?_))))))))))))
        first | (unfold isCondB zeroP; simp_all; done) | (unfold isCondB zeroP; simp_all; omega)
      ·have pr38 := odF h38
       refine n1 Y (n1 Y (n1 Y (n1 Y (n1 Y (P2 Y Y (n1 Y (n1 Y (n1 Y (P2 Y Y (n1 Y (n1 Y (n1 Y (P2 Y Y (Dx (Ct (Xq (Xr (Rb Y Y ?_))))))))))))))))))
       first | (unfold isCondB zeroP; simp_all; done) | (unfold isCondB zeroP; simp_all; omega)
     ·have pr37 := ne_of_beq_false h37
      refine Ck (Xb (Xt (Sr (Pe Y (Ct (Rb Y Y ?_))))))
      first | (unfold isCondB zeroP; simp_all; done) | (unfold isCondB zeroP; simp_all; omega)
theorem spec_IsTest {w : World} {c_x : List Value} {x : Cond} (h_x : Gd.rd w c_x x) (hx0 : okCond x) : Calls Tryz.prog 156 [(.agg c_x.toArray)].toArray w (Val w (.bool (isTestB x))) := by
 obtain ⟨u1, rfl, hu2⟩ := open_Cond h_x
 have hm3 := rd_max hu2
 have hb4 := sub_Cond_Pattern h_x
 refine enter 10 Tryz.func156 Y Y Y (Sr (li Y (D_box Y Y Y Y Y fun g5 => ?_)))
 refine Pe Y (Dh ([bx g5 [(iv x.Kind), (.string x.Pattern.Rel), u1, (.string x.Left), (.string x.Right)]]) Y (Sr (q1 Y (lbw 0 a_147 Y Y Y) (li Y (cv b_153 Y Y Y Y (fun w' hs => (spec_IsCond (rA hs h_x) (by first | assumption | omega | (unfold szm at *; split at * <;> omega)))) ?_)))))
 refine p1 Y (gs 5 Y Y (fun h6 => ?_) (fun h6 => ?_))
 ·refine q1 Y (Db f_147_0 Y Y (q := 0) Y) (q1 Y (lb 0 o_3 Y Y Y Y) (P3 Y Y Y (Dx (Ct (Rb Y Y ?_)))))
  show ((decide ((3 : Int) ≤ x.Kind)) : Bool) = _
  unfold isTestB; simp_all
 ·refine n1 Y (n1 Y (n1 Y (P2 Y Y (Dx (Ct (Rb Y Y ?_))))))
  unfold isTestB; simp_all
theorem impl_IsAction {w : World} {c_a : List Value} {a : Action} (h_a : Gd.rd w c_a a) : Calls Tryz.prog 166 [(.agg c_a.toArray)].toArray w (Val w (.bool (isActionB a))) := by
 obtain ⟨u1, rfl, hu2⟩ := open_Action h_a
 have hm3 := rd_max hu2
 have hb4 := sub_Action_Pattern h_a
 refine enter 16 Tryz.func166 Y Y Y (Sr (li Y (D_box Y Y Y Y Y fun g5 => ?_)))
 refine Pe Y (Dh ([bx g5 [(iv a.Kind), (.string a.Pattern.Rel), u1]]) Y (Cq (Sr (q1 Y (Db f_159_0 Y Y (q := 0) Y) (q1 Y (lb 0 o_3 Y Y Y Y) (Dx (Cb (Cq (Sr (P2 Y Y (Dx (Ci _ Y (fun h6 => ?_) (fun h6 => ?_)))))))))))))
 ·have pr6 := eq_of_beq h6
  refine Sk (C_kt Y h6 (Sr (q1 Y (Db f_159_1 Y Y (q := 1) Y) (q1 Y (lba (es := [(.string a.Pattern.Rel), u1]) 0 a_145 Y Y Y Y) (li Y (cv b_198 Y Y Y Y (fun w' hs => (impl_IsPattern (rA hs hb4))) ?_))))))
  refine Pe Y (Ct (Xq (Xr (Rb Y Y ?_))))
  show ((isPatternB a.Pattern) : Bool) = _
  first | (unfold isActionB zeroP; simp_all; done) | (unfold isActionB zeroP; simp_all; rw [Bool.eq_iff_iff]; simp; done) | (unfold isActionB zeroP; simp_all; omega)
 ·have pr6 := ne_of_beq_false h6
  refine Cr (P2 Y Y (Dx (Ci _ Y (fun h9 => ?_) (fun h9 => ?_))))
  ·have pr9 := eq_of_beq h9
   refine Sr (q1 Y (Db f_159_1 Y Y (q := 1) Y) (q1 Y (lba (es := [(.string a.Pattern.Rel), u1]) 0 a_145 Y Y Y Y) (li Y (cv b_198 Y Y Y Y (fun w' hs => (impl_IsPattern (rA hs hb4))) ?_))))
   refine Pe Y (Ct (Xq (Xr (Rb Y Y ?_))))
   show ((isPatternB a.Pattern) : Bool) = _
   first | (unfold isActionB zeroP; simp_all; done) | (unfold isActionB zeroP; simp_all; rw [Bool.eq_iff_iff]; simp; done) | (unfold isActionB zeroP; simp_all; omega)
  ·have pr9 := ne_of_beq_false h9
   refine Sr (P2 Y Y (Dx (Ci _ Y (fun h10 => ?_) (fun h10 => ?_))))
   ·have pr10 := eq_of_beq h10
    refine Sr (q1 Y (Db f_159_1 Y Y (q := 1) Y) (q1 Y (lba (es := [(.string a.Pattern.Rel), u1]) 0 a_145 Y Y Y Y) (li Y (cv b_200 Y Y Y Y (fun w' hs => (impl_zeroPattern (rA hs hb4))) ?_))))
    refine Pe Y (Ct (Xq (Xr (Rb Y Y ?_))))
    show ((zeroP a.Pattern) : Bool) = _
    first | (unfold isActionB zeroP; simp_all; done) | (unfold isActionB zeroP; simp_all; rw [Bool.eq_iff_iff]; simp; done) | (unfold isActionB zeroP; simp_all; omega)
   ·have pr10 := ne_of_beq_false h10
    refine Ck (Xb (Xt (Sr (Pe Y (Ct (Rb Y Y ?_))))))
    first | (unfold isActionB zeroP; simp_all; done) | (unfold isActionB zeroP; simp_all; rw [Bool.eq_iff_iff]; simp; done) | (unfold isActionB zeroP; simp_all; omega)
theorem spec_IsAction {w : World} {c_a : List Value} {a : Action} (h_a : Gd.rd w c_a a) (hx0 : okAction a) : Calls Tryz.prog 158 [(.agg c_a.toArray)].toArray w (Val w (.bool (isActionB a))) := by
 obtain ⟨u1, rfl, hu2⟩ := open_Action h_a
 have hm3 := rd_max hu2
 have hb4 := sub_Action_Pattern h_a
 refine enter 24 Tryz.func158 Y Y Y (Sr (li Y (D_box Y Y Y Y Y fun g5 => ?_)))
 refine Pe Y (Dh ([bx g5 [(iv a.Kind), (.string a.Pattern.Rel), u1]]) Y (Cq (Sr (q1 Y (Db f_159_0 Y Y (q := 0) Y) (q1 Y (lb 0 o_3 Y Y Y Y) (Dx (Cb (Cq (Sr (P2 Y Y (Dx (Ci _ Y (fun h6 => ?_) (fun h6 => ?_)))))))))))))
 ·have pr6 := eq_of_beq h6
  refine Sk (C_kt Y h6 (Sr (q1 Y (Db f_159_1 Y Y (q := 1) Y) (q1 Y (lba (es := [(.string a.Pattern.Rel), u1]) 0 a_145 Y Y Y Y) (li Y (cv b_194 Y Y Y Y (fun w' hs => (spec_IsPattern (rA hs hb4) hx0.2)) ?_))))))
  refine Pe Y (Ct (Xq (Xr (Rb Y Y ?_))))
  show ((isPatternB a.Pattern) : Bool) = _
  first | (unfold isActionB zeroP; simp_all; done) | (unfold isActionB zeroP; simp_all; rw [Bool.eq_iff_iff]; simp; done) | (unfold isActionB zeroP; simp_all; omega)
 ·have pr6 := ne_of_beq_false h6
  refine Cr (P2 Y Y (Dx (Ci _ Y (fun h10 => ?_) (fun h10 => ?_))))
  ·have pr10 := eq_of_beq h10
   refine Sr (q1 Y (Db f_159_1 Y Y (q := 1) Y) (q1 Y (lba (es := [(.string a.Pattern.Rel), u1]) 0 a_145 Y Y Y Y) (li Y (cv b_194 Y Y Y Y (fun w' hs => (spec_IsPattern (rA hs hb4) hx0.2)) ?_))))
   refine Pe Y (Ct (Xq (Xr (Rb Y Y ?_))))
   show ((isPatternB a.Pattern) : Bool) = _
   first | (unfold isActionB zeroP; simp_all; done) | (unfold isActionB zeroP; simp_all; rw [Bool.eq_iff_iff]; simp; done) | (unfold isActionB zeroP; simp_all; omega)
  ·have pr10 := ne_of_beq_false h10
   refine Sr (P2 Y Y (Dx (Ci _ Y (fun h11 => ?_) (fun h11 => ?_))))
   ·have pr11 := eq_of_beq h11
    refine Sr (q1 Y (Db f_159_1 Y Y (q := 1) Y) (q1 Y (Db f_145_0 Y Y (q := 1) Y) (q1 Y (lb 0 o_9 Y Y Y Y) (q1 Y (D_eqS Y Y Y) (p1 Y (gs 17 Y Y (fun h12 => ?_) (fun h12 => ?_)))))))
    ·have pr12 := odT h12
     refine q1 Y (Db f_159_1 Y Y (q := 1) Y) (q1 Y (Db f_145_1 Y Y (q := 2) Y) (q1 Y (lb 0 o_58 Y Y Y Y) (q1 Y (Dl s_58 Y Y (rd_sl hu2)) (P3 Y Y Y (Dx (Ct (Xq (Xr (Rb Y Y ?_)))))))))
     show (((((a.Pattern.Args.length : Nat) : Int) : Int) == 0) : Bool) = _
     first | (unfold isActionB zeroP; simp_all; done) | (unfold isActionB zeroP; simp_all; rw [Bool.eq_iff_iff]; simp; done) | (unfold isActionB zeroP; simp_all; omega)
    ·have pr12 := odF h12
     refine n1 Y (n1 Y (n1 Y (n1 Y (n1 Y (P2 Y Y (Dx (Ct (Xq (Xr (Rb Y Y ?_))))))))))
     first | (unfold isActionB zeroP; simp_all; done) | (unfold isActionB zeroP; simp_all; rw [Bool.eq_iff_iff]; simp; done) | (unfold isActionB zeroP; simp_all; omega)
   ·have pr11 := ne_of_beq_false h11
    refine Ck (Xb (Xt (Sr (Pe Y (Ct (Rb Y Y ?_))))))
    first | (unfold isActionB zeroP; simp_all; done) | (unfold isActionB zeroP; simp_all; rw [Bool.eq_iff_iff]; simp; done) | (unfold isActionB zeroP; simp_all; omega)
theorem impl_hasText {w : World} {v_l : Value} {l : (List ByteArray)} {s : ByteArray} (h_l : Gd.rd w [v_l] l) : Calls Tryz.prog 168 [v_l, (.string s)].toArray w (Val w (.bool (hasS l s))) := by
 have hm1 := rd_max h_l
 refine enter 17 Tryz.func168 Y Y Y (Sr (Pe Y (Cq (Sr (p1 Y (q1 Y (Dl s_58 Y Y (rd_sl h_l)) (Pe Y (Cb (Cl (fun m_ ac w' => ∃ (k : Nat), (k ≤ l.length) ∧ (∀ i, i < k → l[i]? ≠ some s) ∧ m_ = l.length - k ∧ Fits ac 17 [(1, (.string s)), (7, v_l), (8, (nv l.length)), (9, (nv k))] ∧ St w ([]) w') ?_ ?_)))))))))
 ·refine fun ac w' hf hs => ⟨_, 0, ?_, ?_, Y, hf.wk Y, hs⟩
  ·first | assumption | omega | simp
  ·intro i hi; omega
 ·rintro m_ ac w' ⟨k, hk, hi, rfl, hf, hs⟩
  refine D.use ?_ hf hs
  clear hf hs ac w'
  refine Sr (Pe Y (Cq (Ci _ Y (fun h2 => ?_) (fun h2 => ?_))))
  ·have pr2 := odT h2
   refine Sk (Cq (Cb (Sr ?_)))
   obtain ⟨x0, x0h⟩ := sL (l := l) (i := k) (by omega)
   obtain ⟨es3, at4, hr5⟩ := rd_elem (n := 1) rfl h_l x0h
   obtain rfl : es3 = [.string x0] := hr5
   refine q1 Y (D_ix (l := l) (j := k) s_58 Y Y Y (fun w' hs => (rA hs h_l)) Y (lS x0h)) (q1 Y (lr0 o_9 Y Y at4 Y) (Pe Y (Sr (P2 Y Y (q1 Y (D_eqS Y Y Y) (Dx (Ci _ Y (fun h6 => ?_) (fun h6 => ?_))))))))
   ·have pr6 := odT h6
    refine Sr (Pe Y (Ct (Xq (Xr (Xr (Xq (Xr (Rb Y Y ?_))))))))
    exact hasS_y x0h (by assumption)
   ·have pr6 := odF h6
    refine Ck (Xb (Xt (Cr (q1 Y (D_add Y Y Y (r := ((k + 1 : Nat) : Int)) (by omega) (by omega)) (Pe Y (fun ac w' hf hs => ⟨_, ?_, k + 1, ?_, ?_, Y, hf.wk Y, hs⟩))))))
    ·omega
    ·first | assumption | omega | simp
    ·refine forall_step hi ?_; intro y; simp_all
  ·have pr2 := odF h2
   refine Cx (Xx (Xx (Xe (Xt (Sr (Pe Y (Ct (Rb Y Y ?_))))))))
   exact hasS_n (fun i h => hi i (by omega))
theorem spec_l1HasText {w : World} {v_l : Value} {l : (List ByteArray)} {s : ByteArray} (h_l : Gd.rd w [v_l] l) : Calls Tryz.prog 155 [v_l, (.string s)].toArray w (Val w (.bool (hasS l s))) := by
 have hm1 := rd_max h_l
 refine enter 18 Tryz.func155 Y Y Y (Sr (Pe Y (Cq (Sr (Pe Y (Cb (Cl (fun m_ ac w' => ∃ (k : Nat), (k ≤ l.length) ∧ (∀ i, i < k → l[i]? ≠ some s) ∧ m_ = l.length - k ∧ Fits ac 18 [(0, v_l), (1, (.string s)), (5, (nv k))] ∧ St w ([]) w') ?_ ?_)))))))
 ·refine fun ac w' hf hs => ⟨_, 0, ?_, ?_, Y, hf.wk Y, hs⟩
  ·first | assumption | omega | simp
  ·intro i hi; omega
 ·rintro m_ ac w' ⟨k, hk, hi, rfl, hf, hs⟩
  refine D.use ?_ hf hs
  clear hf hs ac w'
  refine Cq (Sr (P2 Y Y (q1 Y (Dl s_58 Y Y (rd_sl h_l)) (Pe Y (Ci _ Y (fun h2 => ?_) (fun h2 => ?_))))))
  ·have pr2 := odT h2
   refine Sk (Cq (Cb (Sr (P2 Y Y ?_))))
   obtain ⟨x0, x0h⟩ := sL (l := l) (i := k) (by omega)
   obtain ⟨es3, at4, hr5⟩ := rd_elem (n := 1) rfl h_l x0h
   obtain rfl : es3 = [.string x0] := hr5
   refine q1 Y (D_ix (l := l) (j := k) s_58 Y Y Y (fun w' hs => (rA hs h_l)) Y (lS x0h)) (q1 Y (lr0 o_9 Y Y at4 Y) (p1 Y (q1 Y (D_eqS Y Y Y) (Dx (Ci _ Y (fun h6 => ?_) (fun h6 => ?_))))))
   ·have pr6 := odT h6
    refine Sr (Pe Y (Ct (Xq (Xr (Xr (Xq (Xr (Rb Y Y ?_))))))))
    exact hasS_y x0h (by assumption)
   ·have pr6 := odF h6
    refine Ck (Xb (Xt (Cr (p1 Y (q1 Y (D_add Y Y Y (r := ((k + 1 : Nat) : Int)) (by omega) (by omega)) (Pe Y (fun ac w' hf hs => ⟨_, ?_, k + 1, ?_, ?_, Y, hf.wk Y, hs⟩)))))))
    ·omega
    ·first | assumption | omega | simp
    ·refine forall_step hi ?_; intro y; simp_all
  ·have pr2 := odF h2
   refine Cx (Xx (Xx (Xe (Xt (Sr (Pe Y (Ct (Rb Y Y ?_))))))))
   exact hasS_n (fun i h => hi i (by omega))
set_option maxHeartbeats 4000000 in
theorem spec_l1Put {w : World} {v_l : Value} {l : (List ByteArray)} {s : ByteArray} (h_l : Gd.rd w [v_l] l) (hln : l.length ≤ 4294967296) : Calls Tryz.prog 193 [v_l, (.string s)].toArray w (Res w (putS l s : List ByteArray)) := by
 have hm1 := rd_max h_l
 refine enter 49 Tryz.func193 Y Y Y (Sr (Pe Y (Sr (li Y (D_bs0 (α := ByteArray) s_58 Y Y Y fun v2 => ?_)))))
 refine Pe Y (Dh ([ov [v2] ([] : (List ByteArray))]) Y (Sr (Pe Y (Cq (Sr (Pe Y (Cb (Cl (fun m_ ac w' => ∃ (k : Nat), ∃ (dn : Bool), ∃ (v : Value), (k ≤ l.length) ∧ (dn = putD2 l s k) ∧ m_ = l.length - k ∧ Fits ac 49 [(0, v_l), (1, (.string s)), (5, v), (6, (.bool dn)), (7, (nv k))] ∧ St w ([ov [v] (putT2 l s k : (List ByteArray))]) w') ?_ ?_))))))))
 ·refine D_eq 0 Y (show ([] : (List ByteArray)) = putT2 l s 0 from by rfl) (fun ac w' hf hs => ⟨_, 0, false, v2, ?_, ?_, Y, hf.wk Y, hs⟩)
  ·first | assumption | omega | simp
  ·rfl
 ·rintro m_ ac w' ⟨k, dn, v, hk, hd, rfl, hf, hs⟩
  refine D.use ?_ hf hs
  clear hf hs ac w'
  have hcl := putT2_len l s k
  refine Cq (Sr (P2 Y Y (q1 Y (Dl s_58 Y Y (rd_sl h_l)) (Pe Y (Dh ([_]) Y (Ci _ Y (fun h3 => ?_) (fun h3 => ?_)))))))
  ·have pr3 := odT h3
   refine Sk (Cq (Cb (Cq (Sr (P3 Y Y Y (gs 17 Y Y (fun h4 => ?_) (fun h4 => ?_)))))))
   ·have h4n := not_t h4
    refine P2 Y Y ?_
    obtain ⟨x5, hx6⟩ := sL (l := l) (i := k) (by omega)
    obtain ⟨es7, at8, hr9⟩ := rd_elem (n := 1) rfl h_l hx6
    obtain rfl : es7 = [.string x5] := hr9
    refine q1 Y (D_ix (l := l) (j := k) s_58 Y Y Y (fun w' hs => (rA hs h_l)) Y (lS hx6)) (q1 Y (lr0 o_9 Y Y at8 Y) (p1 Y (q1 Y (D_geS Y Y Y) (Pe Y (Ci _ Y (fun h10 => ?_) (fun h10 => ?_))))))
    ·have h10n := not_t h10
     refine Sr (Pe Y (Sr (P2 Y Y (q1 Y (D_ix (l := l) (j := k) s_58 Y Y Y (fun w' hs => (rA hs h_l)) Y (lS hx6)) (q1 Y (lr0 o_9 Y Y at8 Y) (p1 Y (q1 Y (D_neS Y Y Y) (Dx (D_wk [0, 1, 5, 6, 7, 30] Y (Ci _ Y (fun h11 => ?_) (fun h11 => ?_)))))))))))
     ·have pr11 := odF (not_t h11)
      refine Cr (P2 Y Y (li Y (D_bs s_58 y_9 Y (by decide) (by decide) Y Y Y Y Y Y fun g12 => ?_)))
      refine D_fs s (D_pkO [2, 0, 1] Y (li Y (D_ap s_58 y_9 Y (by decide) Y Y Y Y Y Y (by first | omega | (simp; omega)) (by first | omega | (simp; omega)) fun v13 => ?_)))
      refine Pe Y (Dh ([ov [v13] ((putT2 l s k) ++ [s] : (List ByteArray))]) Y (Cr (P3 Y Y Y (q1 Y (D_ix (l := l) (j := k) s_58 Y Y Y (fun w' hs => (rA hs h_l)) Y (lS hx6)) (q1 Y (lr0 o_9 Y Y at8 Y) (li Y (D_bs s_58 y_9 Y (by decide) (by decide) Y Y Y Y Y Y fun g14 => ?_)))))))
      refine D_fs x5 (D_pkO [2, 0, 1] Y (li Y (D_ap s_58 y_9 Y (by decide) Y Y Y Y Y Y (by first | omega | (simp; omega)) (by first | omega | (simp; omega)) fun v15 => ?_)))
      refine p1 Y (De (Xb (Xt (Dh ([ov [v15] (((putT2 l s k) ++ [s]) ++ [x5] : (List ByteArray))]) Y (Cr (p1 Y (q1 Y (D_add Y Y Y (r := ((k + 1 : Nat) : Int)) (by omega) (by omega)) (Pe Y (D_eq 0 Y (show (((putT2 l s k) ++ [s]) ++ [x5] : (List ByteArray)) = putT2 l s (k + 1) from by first | exact putT2_put hx6 (by simp_all) (by simp_all) (by assumption) | exact putT2_keep hx6 (by simp_all)) (fun ac w' hf hs => ⟨_, ?_, k + 1, true, v15, ?_, ?_, Y, hf.wk Y, hs⟩))))))))))
      ·omega
      ·first | assumption | omega | simp
      ·exact putD2_s hx6 hd (by simp_all)
     ·have pr11 := odT (not_f h11)
      refine Sk (Cr (P3 Y Y Y (q1 Y (D_ix (l := l) (j := k) s_58 Y Y Y (fun w' hs => (rA hs h_l)) Y (lS hx6)) (q1 Y (lr0 o_9 Y Y at8 Y) (li Y (D_bs s_58 y_9 Y (by decide) (by decide) Y Y Y Y Y Y fun g16 => ?_))))))
      refine D_fs x5 (D_pkO [2, 0, 1] Y (li Y (D_ap s_58 y_9 Y (by decide) Y Y Y Y Y Y (by first | omega | (simp; omega)) (by first | omega | (simp; omega)) fun v17 => ?_)))
      refine p1 Y (De (Xb (Xt (Dh ([ov [v17] ((putT2 l s k) ++ [x5] : (List ByteArray))]) Y (Cr (p1 Y (q1 Y (D_add Y Y Y (r := ((k + 1 : Nat) : Int)) (by omega) (by omega)) (Pe Y (D_eq 0 Y (show ((putT2 l s k) ++ [x5] : (List ByteArray)) = putT2 l s (k + 1) from by first | exact putT2_put hx6 (by simp_all) (by simp_all) (by assumption) | exact putT2_keep hx6 (by simp_all)) (fun ac w' hf hs => ⟨_, ?_, k + 1, true, v17, ?_, ?_, Y, hf.wk Y, hs⟩))))))))))
      ·omega
      ·first | assumption | omega | simp
      ·exact putD2_s hx6 hd (by simp_all)
    ·have h10n := not_f h10
     refine Sk (Cr (P3 Y Y Y (q1 Y (D_ix (l := l) (j := k) s_58 Y Y Y (fun w' hs => (rA hs h_l)) Y (lS hx6)) (q1 Y (lr0 o_9 Y Y at8 Y) (li Y (D_bs s_58 y_9 Y (by decide) (by decide) Y Y Y Y Y Y fun g18 => ?_))))))
     refine D_fs x5 (D_pkO [2, 0, 1] Y (li Y (D_ap s_58 y_9 Y (by decide) Y Y Y Y Y Y (by first | omega | (simp; omega)) (by first | omega | (simp; omega)) fun v19 => ?_)))
     refine p1 Y (De (Xb (Xt (D_wk [0, 1, 5, 6, 7] Y (Dh ([ov [v19] ((putT2 l s k) ++ [x5] : (List ByteArray))]) Y (Cr (p1 Y (q1 Y (D_add Y Y Y (r := ((k + 1 : Nat) : Int)) (by omega) (by omega)) (Pe Y (D_eq 0 Y (show ((putT2 l s k) ++ [x5] : (List ByteArray)) = putT2 l s (k + 1) from by first | exact putT2_put hx6 (by simp_all) (by simp_all) (by assumption) | exact putT2_keep hx6 (by simp_all)) (fun ac w' hf hs => ⟨_, ?_, k + 1, dn, v19, ?_, ?_, Y, hf.wk Y, hs⟩)))))))))))
     ·omega
     ·first | assumption | omega | simp
     ·exact putD2_s hx6 hd (by simp_all)
   ·have h4n := not_f h4
    refine n1 Y (n1 Y (n1 Y (n1 Y (n1 Y (n1 Y (Pe Y (C_f Y (Sk (Cr (P3 Y Y Y ?_))))))))))
    obtain ⟨x20, hx21⟩ := sL (l := l) (i := k) (by omega)
    obtain ⟨es22, at23, hr24⟩ := rd_elem (n := 1) rfl h_l hx21
    obtain rfl : es22 = [.string x20] := hr24
    refine q1 Y (D_ix (l := l) (j := k) s_58 Y Y Y (fun w' hs => (rA hs h_l)) Y (lS hx21)) (q1 Y (lr0 o_9 Y Y at23 Y) (li Y (D_bs s_58 y_9 Y (by decide) (by decide) Y Y Y Y Y Y fun g25 => ?_)))
    refine D_fs x20 (D_pkO [2, 0, 1] Y (li Y (D_ap s_58 y_9 Y (by decide) Y Y Y Y Y Y (by first | omega | (simp; omega)) (by first | omega | (simp; omega)) fun v26 => ?_)))
    refine p1 Y (De (Xb (Xt (D_wk [0, 1, 5, 6, 7] Y (Dh ([ov [v26] ((putT2 l s k) ++ [x20] : (List ByteArray))]) Y (Cr (p1 Y (q1 Y (D_add Y Y Y (r := ((k + 1 : Nat) : Int)) (by omega) (by omega)) (Pe Y (D_eq 0 Y (show ((putT2 l s k) ++ [x20] : (List ByteArray)) = putT2 l s (k + 1) from by first | exact putT2_put hx21 (by simp_all) (by simp_all) (by assumption) | exact putT2_keep hx21 (by simp_all)) (fun ac w' hf hs => ⟨_, ?_, k + 1, dn, v26, ?_, ?_, Y, hf.wk Y, hs⟩)))))))))))
    ·omega
    ·first | assumption | omega | simp
    ·exact putD2_s hx21 hd (by simp_all)
  ·have pr3 := odF h3
   refine Cx (Xx (Xx (Xe (Xt (Cq (Sr (P2 Y Y (Dx (Ci _ Y (fun h27 => ?_) (fun h27 => ?_))))))))))
   ·have h27n := not_t h27
    refine Cr (P2 Y Y (li Y (D_bs s_58 y_9 Y (by decide) (by decide) Y Y Y Y Y Y fun g28 => ?_)))
    refine D_fs s (D_pkO [2, 0, 1] Y (li Y (D_ap s_58 y_9 Y (by decide) Y Y Y Y Y Y (by first | omega | (simp; omega)) (by first | omega | (simp; omega)) fun v29 => ?_)))
    refine Pe Y (Sr (P2 Y Y (Dx (Ct (R_1 Y Y fun w' hs => res_of (k := 0) hs Y ?_)))))
    show (putT2 l s k) ++ [s] = putS l s
    exact putT2_last (by omega) (by simp_all)
   ·have h27n := not_f h27
    refine Sk (Sr (P2 Y Y (Dx (Ct (R_1 Y Y fun w' hs => res_of (k := 0) hs Y ?_)))))
    show putT2 l s k = putS l s
    exact putT2_done (by omega) (by simp_all)
end Go.Sy.Eng1
