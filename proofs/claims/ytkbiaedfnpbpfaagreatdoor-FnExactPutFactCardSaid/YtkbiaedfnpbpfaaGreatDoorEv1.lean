/-
  Contracts of functions of the program, walked (printed by a program of ours).
  Conditions: those that each theorem states.
-/
import Derived.Test.YtkbiaedfnpbpfaaGreatDoorBel1
import Derived.Test.YtkbiaedfnpbpfaaGreatDoorTypes
import Derived.Test.YtkbiaedfnpbpfaaGreatDoorEv
import Derived.Test.YtkbiaedfnpbpfaaGreatDoorBase
set_option linter.unusedVariables false
set_option maxRecDepth 20000
namespace Go.Sy.Ev1
open Go Go.RowKit Go.Proofs Go.Sy
theorem mixed : Tryz.prog.follows .mixedOrders = true := by kernel_rfl
theorem us_9 : Tryz.prog.underlying 9 = some .string := by kernel_rfl
theorem ui_3 : Tryz.prog.underlying 3 = some (.int .i64) := by kernel_rfl
theorem u8_5 : Tryz.prog.underlying 5 = some (.int .u8) := by kernel_rfl
theorem b_99 : hasBody Tryz.prog 99 = true := by kernel_rfl
theorem b_148 : hasBody Tryz.prog 148 = true := by kernel_rfl
theorem b_104 : hasBody Tryz.prog 104 = true := by kernel_rfl
theorem f_70_0 : fieldOff Tryz.prog 70 0 = some 0 := by kernel_rfl
theorem o_9 : oneTy Tryz.prog 9 = true := by kernel_rfl
theorem b_147 : hasBody Tryz.prog 147 = true := by kernel_rfl
theorem f_70_1 : fieldOff Tryz.prog 70 1 = some 1 := by kernel_rfl
theorem o_58 : oneTy Tryz.prog 58 = true := by kernel_rfl
theorem s_58 : sliceTy Tryz.prog 58 = some (9, 1, 16) := by kernel_rfl
theorem b_145 : hasBody Tryz.prog 145 = true := by kernel_rfl
theorem f_171_2 : fieldOff Tryz.prog 171 2 = some 2 := by kernel_rfl
theorem f_171_0 : fieldOff Tryz.prog 171 0 = some 0 := by kernel_rfl
theorem o_3 : oneTy Tryz.prog 3 = true := by kernel_rfl
theorem f_171_1 : fieldOff Tryz.prog 171 1 = some 1 := by kernel_rfl
theorem a_70 : aggTy Tryz.prog 70 = some 2 := by kernel_rfl
theorem b_93 : hasBody Tryz.prog 93 = true := by kernel_rfl
theorem b_91 : hasBody Tryz.prog 91 = true := by kernel_rfl
theorem f_60_0 : fieldOff Tryz.prog 60 0 = some 0 := by kernel_rfl
theorem f_60_1 : fieldOff Tryz.prog 60 1 = some 1 := by kernel_rfl
theorem b_70 : hasBody Tryz.prog 70 = true := by kernel_rfl
theorem f_165_1 : fieldOff Tryz.prog 165 1 = some 1 := by kernel_rfl
theorem f_165_2 : fieldOff Tryz.prog 165 2 = some 2 := by kernel_rfl
theorem a_60 : aggTy Tryz.prog 60 = some 2 := by kernel_rfl
theorem b_24 : hasBody Tryz.prog 24 = true := by kernel_rfl
theorem y_9 : zeroTy Tryz.prog 9 = some (.string ⟨#[]⟩) := by kernel_rfl
theorem z_9 : sizeTy Tryz.prog 9 = some 1 := by kernel_rfl
theorem y_70 : zeroTy Tryz.prog 70 = some (.agg #[(.string ⟨#[]⟩), (.slice none 0 0)]) := by kernel_rfl
theorem b_77 : hasBody Tryz.prog 77 = true := by kernel_rfl
theorem z_58 : sizeTy Tryz.prog 58 = some 1 := by kernel_rfl
theorem z_70 : sizeTy Tryz.prog 70 = some 2 := by kernel_rfl
theorem y_171 : zeroTy Tryz.prog 171 = some (.agg #[(.int .i64 0), (.string ⟨#[]⟩), (.string ⟨#[]⟩), (.slice none 0 0)]) := by kernel_rfl
theorem f_165_0 : fieldOff Tryz.prog 165 0 = some 0 := by kernel_rfl
theorem z_3 : sizeTy Tryz.prog 3 = some 1 := by kernel_rfl
theorem b_27 : hasBody Tryz.prog 27 = true := by kernel_rfl
theorem a_171 : aggTy Tryz.prog 171 = some 4 := by kernel_rfl
theorem z_171 : sizeTy Tryz.prog 171 = some 4 := by kernel_rfl
theorem b_84 : hasBody Tryz.prog 84 = true := by kernel_rfl
theorem b_30 : hasBody Tryz.prog 30 = true := by kernel_rfl
open Go.Sy.Bel1
set_option maxHeartbeats 4000000 in
theorem impl_IsAtom {w : World} {s : ByteArray} : Calls Tryz.prog 148 [(.string s)].toArray w (Val w (.bool (isAtomB s))) := by
 refine enter 40 Tryz.func148 Y Y Y (Sr (Pe Y (Cq (Sr (p1 Y (q1 Y (D_lens us_9 Y Y) (P2 Y Y (gs 7 Y Y (fun h1 => ?_) (fun h1 => ?_)))))))))
 ·have pr1 := odT h1
  refine n1 Y (n1 Y (n1 Y (Pe Y (C_t Y (Sr (Pe Y (Ct (Xr (Rb Y Y ?_)))))))))
  first | exact atom_n1 (by omega) | exact atom_n2 (k := k) (by omega) (okCh_f (by omega)) | exact atom_y (by omega) (fun i h => hi i (by omega))
 ·have pr1 := odF h1
  refine p1 Y (q1 Y (D_lens us_9 Y Y) (P2 Y Y (Dx (Ci _ Y (fun h2 => ?_) (fun h2 => ?_)))))
  ·have pr2 := odT h2
   refine Sr (Pe Y (Ct (Xr (Rb Y Y ?_))))
   first | exact atom_n1 (by omega) | exact atom_n2 (k := k) (by omega) (okCh_f (by omega)) | exact atom_y (by omega) (fun i h => hi i (by omega))
  ·have pr2 := odF h2
   refine Sk (Cq (Sr (Pe Y (Cb (Cl (fun m_ ac w' => ∃ (k : Nat), (k ≤ s.size) ∧ (∀ i, i < k → okCh (sB s i) = true) ∧ m_ = s.size - k ∧ Fits ac 40 [(0, (.string s)), (3, (nv k))] ∧ St w ([]) w') ?_ ?_)))))
   ·refine fun ac w' hf hs => ⟨_, 0, ?_, ?_, Y, hf.wk Y, hs⟩
    ·first | assumption | omega | simp
    ·intro i hi; omega
   ·rintro m_ ac w' ⟨k, hk, hi, rfl, hf, hs⟩
    refine D.use ?_ hf hs
    clear hf hs ac w'
    refine Cq (Sr (P2 Y Y (q1 Y (D_lens us_9 Y Y) (Pe Y (Ci _ Y (fun h3 => ?_) (fun h3 => ?_))))))
    ·have pr3 := odT h3
     refine Sk (Cq (Cb (Sr (P2 Y Y (q1 Y (D_sidx (j := k) us_9 Y Y Y Y (by omega)) (P2 Y Y (gs 22 Y Y (fun h4 => ?_) (fun h4 => ?_))))))))
     ·have pr4 := odT h4
      refine n1 Y (n1 Y (n1 Y (n1 Y (P3 Y Y Y (p1 Y (q1 Y (D_sidx (j := k) us_9 Y Y Y Y (by omega)) (P2 Y Y (gs 33 Y Y (fun h5 => ?_) (fun h5 => ?_)))))))))
      ·have pr5 := odT h5
       refine n1 Y (n1 Y (n1 Y (n1 Y (P2 Y Y (Dx (D_wk [0, 3, 39] Y (C_t Y (Sr (Pe Y (Ct (Xq (Xr (Xr (Xq (Xr (Rb Y Y ?_))))))))))))))))
       first | exact atom_n1 (by omega) | exact atom_n2 (k := k) (by omega) (okCh_f (by omega)) | exact atom_y (by omega) (fun i h => hi i (by omega))
      ·have pr5 := odF h5
       refine P2 Y Y (q1 Y (D_sidx (j := k) us_9 Y Y Y Y (by omega)) (P3 Y Y Y (Dx (D_wk [0, 3, 39] Y (Ci _ Y (fun h6 => ?_) (fun h6 => ?_))))))
       ·have pr6 := odT h6
        refine Sr (Pe Y (Ct (Xq (Xr (Xr (Xq (Xr (Rb Y Y ?_))))))))
        first | exact atom_n1 (by omega) | exact atom_n2 (k := k) (by omega) (okCh_f (by omega)) | exact atom_y (by omega) (fun i h => hi i (by omega))
       ·have pr6 := odF h6
        refine Ck (Xb (Xt (Cr (p1 Y (q1 Y (D_add Y Y Y (r := ((k + 1 : Nat) : Int)) (by omega) (by omega)) (Pe Y (fun ac w' hf hs => ⟨_, ?_, k + 1, ?_, ?_, Y, hf.wk Y, hs⟩)))))))
        ·omega
        ·first | assumption | omega | simp
        ·exact forall_step hi (okCh_t (by omega))
     ·have pr4 := odF h4
      refine P2 Y Y (q1 Y (D_sidx (j := k) us_9 Y Y Y Y (by omega)) (P3 Y Y Y (gs 28 Y Y (fun h7 => ?_) (fun h7 => ?_))))
      ·have pr7 := odT h7
       refine P2 Y Y (q1 Y (D_sidx (j := k) us_9 Y Y Y Y (by omega)) (P2 Y Y (gs 33 Y Y (fun h8 => ?_) (fun h8 => ?_))))
       ·have pr8 := odT h8
        refine n1 Y (n1 Y (n1 Y (n1 Y (P2 Y Y (Dx (D_wk [0, 3, 39] Y (C_t Y (Sr (Pe Y (Ct (Xq (Xr (Xr (Xq (Xr (Rb Y Y ?_))))))))))))))))
        first | exact atom_n1 (by omega) | exact atom_n2 (k := k) (by omega) (okCh_f (by omega)) | exact atom_y (by omega) (fun i h => hi i (by omega))
       ·have pr8 := odF h8
        refine P2 Y Y (q1 Y (D_sidx (j := k) us_9 Y Y Y Y (by omega)) (P3 Y Y Y (Dx (D_wk [0, 3, 39] Y (Ci _ Y (fun h9 => ?_) (fun h9 => ?_))))))
        ·have pr9 := odT h9
         refine Sr (Pe Y (Ct (Xq (Xr (Xr (Xq (Xr (Rb Y Y ?_))))))))
         first | exact atom_n1 (by omega) | exact atom_n2 (k := k) (by omega) (okCh_f (by omega)) | exact atom_y (by omega) (fun i h => hi i (by omega))
        ·have pr9 := odF h9
         refine Ck (Xb (Xt (Cr (p1 Y (q1 Y (D_add Y Y Y (r := ((k + 1 : Nat) : Int)) (by omega) (by omega)) (Pe Y (fun ac w' hf hs => ⟨_, ?_, k + 1, ?_, ?_, Y, hf.wk Y, hs⟩)))))))
         ·omega
         ·first | assumption | omega | simp
         ·exact forall_step hi (okCh_t (by omega))
      ·have pr7 := odF h7
       refine n1 Y (n1 Y (n1 Y (n1 Y (n1 Y (n1 Y (n1 Y (n1 Y (n1 Y (n1 Y (Pe Y (D_wk [0, 3, 39] Y (C_f Y (Ck (Xb (Xt (Cr (p1 Y (q1 Y (D_add Y Y Y (r := ((k + 1 : Nat) : Int)) (by omega) (by omega)) (Pe Y ?_)))))))))))))))))))
       refine fun ac w' hf hs => ⟨_, ?_, k + 1, ?_, ?_, Y, hf.wk Y, hs⟩
       ·omega
       ·first | assumption | omega | simp
       ·exact forall_step hi (okCh_t (by omega))
    ·have pr3 := odF h3
     refine Cx (Xx (Xx (Xe (Xt (Sr (Pe Y (Ct (Rb Y Y ?_))))))))
     first | exact atom_n1 (by omega) | exact atom_n2 (k := k) (by omega) (okCh_f (by omega)) | exact atom_y (by omega) (fun i h => hi i (by omega))
theorem spec_IsAtom {w : World} {s : ByteArray} (hs0 : s.size ≤ 9223372036854775807) : Calls Tryz.prog 104 [(.string s)].toArray w (Val w (.bool (isAtomB s))) := by
 refine enter 27 Tryz.func104 Y Y Y (Sr (Pe Y (Cq (Sr (Pe Y (Cb (Cl (fun m_ ac w' => ∃ (k : Nat), (k ≤ s.size) ∧ (∀ i, i < k → okCh (sB s i) = true) ∧ m_ = s.size - k ∧ Fits ac 27 [(0, (.string s)), (3, (nv k))] ∧ St w ([]) w') ?_ ?_)))))))
 ·refine fun ac w' hf hs => ⟨_, 0, ?_, ?_, Y, hf.wk Y, hs⟩
  ·first | assumption | omega | simp
  ·intro i hi; omega
 ·rintro m_ ac w' ⟨k, hk, hi, rfl, hf, hs⟩
  refine D.use ?_ hf hs
  clear hf hs ac w'
  refine Cq (Sr (P2 Y Y (q1 Y (D_lens us_9 Y Y) (Pe Y (Ci _ Y (fun h1 => ?_) (fun h1 => ?_))))))
  ·have pr1 := odT h1
   refine Sk (Cq (Cb (Sr (P2 Y Y (q1 Y (D_sidx (j := k) us_9 Y Y Y Y (by omega)) (q1 Y (D_cvt ui_3 ⟨_, u8_5⟩ Y Y) (li Y (cv b_99 Y Y Y Y (fun w' hs => spec_l1In) ?_))))))))
   refine P2 Y Y (gs 16 Y Y (fun h2 => ?_) (fun h2 => ?_))
   ·have h2n := not_t h2
    refine P2 Y Y (q1 Y (D_sidx (j := k) us_9 Y Y Y Y (by omega)) (q1 Y (D_cvt ui_3 ⟨_, u8_5⟩ Y Y) (li Y (cv b_99 Y Y Y Y (fun w' hs => spec_l1In) ?_))))
    refine P2 Y Y (Dx (D_wk [0, 3, 23] Y (Ci _ Y (fun h3 => ?_) (fun h3 => ?_))))
    ·have h3n := not_t h3
     refine Sr (Pe Y (Ct (Xq (Xr (Xr (Xq (Xr (Rb Y Y ?_))))))))
     exact atom_n2 (k := k) (by omega) (by unfold okCh; simp_all)
    ·have h3n := not_f h3
     refine Ck (Xb (Xt (Cr (p1 Y (q1 Y (D_add Y Y Y (r := ((k + 1 : Nat) : Int)) (by omega) (by omega)) (Pe Y (fun ac w' hf hs => ⟨_, ?_, k + 1, ?_, ?_, Y, hf.wk Y, hs⟩)))))))
     ·omega
     ·first | assumption | omega | simp
     ·exact forall_step hi (by unfold okCh; simp_all)
   ·have h2n := not_f h2
    refine n1 Y (n1 Y (n1 Y (n1 Y (n1 Y (n1 Y (Pe Y (D_wk [0, 3, 23] Y (C_f Y (Ck (Xb (Xt (Cr (p1 Y (q1 Y (D_add Y Y Y (r := ((k + 1 : Nat) : Int)) (by omega) (by omega)) (Pe Y (fun ac w' hf hs => ⟨_, ?_, k + 1, ?_, ?_, Y, hf.wk Y, hs⟩))))))))))))))))
    ·omega
    ·first | assumption | omega | simp
    ·exact forall_step hi (by unfold okCh; simp_all)
  ·have pr1 := odF h1
   refine Cx (Xx (Xx (Xe (Xt (Sr (p1 Y (q1 Y (D_lens us_9 Y Y) (li Y (cv b_99 Y Y Y Y (fun w' hs => spec_l1In) ?_)))))))))
   refine Pe Y (Ct (Rb Y Y ?_))
   show ((inR ((s.size : Nat) : Int) 1 8) : Bool) = _
   exact atom_w (fun i h => hi i (by omega))
theorem impl_IsName {w : World} {s : ByteArray} : Calls Tryz.prog 147 [(.string s)].toArray w (Val w (.bool (isNameB s))) := by
 refine enter 10 Tryz.func147 Y Y Y (Sr (Pe Y (Sr (p1 Y (li Y (cv b_148 Y Y Y Y (fun w' hs => impl_IsAtom) ?_))))))
 refine p1 Y (gs 5 Y Y (fun h1 => ?_) (fun h1 => ?_))
 ·refine p1 Y ?_
  have hsz := atom_sz (s := s) (by assumption)
  refine q1 Y (D_sidx (j := 0) us_9 Y Y Y Y (by omega)) (P3 Y Y Y (Dx (Ct (Rb Y Y ?_))))
  show ((decide ((97 : Int) ≤ (sB s 0))) : Bool) = _
  unfold isNameB; simp_all
 ·refine n1 Y (n1 Y (n1 Y (P2 Y Y (Dx (Ct (Rb Y Y ?_))))))
  unfold isNameB; simp_all
theorem spec_IsName {w : World} {s : ByteArray} (hs0 : s.size ≤ 9223372036854775807) : Calls Tryz.prog 145 [(.string s)].toArray w (Val w (.bool (isNameB s))) := by
 refine enter 11 Tryz.func145 Y Y Y (Sr (Pe Y (Sr (p1 Y (li Y (cv b_104 Y Y Y Y (fun w' hs => (spec_IsAtom (by first | assumption | omega | (unfold szm at *; split at * <;> omega)))) ?_))))))
 refine p1 Y (gs 5 Y Y (fun h1 => ?_) (fun h1 => ?_))
 ·refine p1 Y ?_
  have hsz := atom_sz (s := s) (by assumption)
  refine q1 Y (D_sidx (j := 0) us_9 Y Y Y Y (by omega)) (q1 Y (D_cvt ui_3 ⟨_, u8_5⟩ Y Y) (li Y (cv b_99 Y Y Y Y (fun w' hs => spec_l1In) ?_)))
  refine P2 Y Y (Dx (Ct (Rb Y Y ?_)))
  show ((inR (sB s 0) 97 122) : Bool) = _
  unfold isNameB; rw [name_w (by assumption)]; simp_all
 ·refine n1 Y (n1 Y (n1 Y (n1 Y (P2 Y Y (Dx (Ct (Rb Y Y ?_)))))))
  unfold isNameB; simp_all
theorem impl_IsFact {w : World} {c_f : List Value} {f : Fact} (h_f : Gd.rd w c_f f) : Calls Tryz.prog 93 [(.agg c_f.toArray)].toArray w (Val w (.bool (isFactB f))) := by
 obtain ⟨u1, rfl, hu2⟩ := open_Fact h_f
 have hm3 := rd_max hu2
 refine enter 26 Tryz.func93 Y Y Y (Sr (li Y (D_box Y Y Y Y Y fun g4 => ?_)))
 refine Pe Y (Dh ([bx g4 [(.string f.Rel), u1]]) Y (Cq (Sr (q1 Y (Db f_70_0 Y Y (q := 0) Y) (q1 Y (lb 0 o_9 Y Y Y Y) (li Y (cv b_147 Y Y Y Y (fun w' hs => impl_IsName) ?_)))))))
 refine P2 Y Y (gs 9 Y Y (fun h5 => ?_) (fun h5 => ?_))
 ·have h5n := not_t h5
  refine n1 Y (n1 Y (n1 Y (n1 Y (Pe Y (C_t Y (Sr (Pe Y (Ct (Xr (Rb Y Y ?_))))))))))
  unfold isFactB; simp_all
 ·have h5n := not_f h5
  refine q1 Y (Db f_70_1 Y Y (q := 1) Y) (q1 Y (lb 0 o_58 Y Y Y Y) (q1 Y (Dl s_58 Y Y (rd_sl hu2)) (P2 Y Y (Dx (Ci _ Y (fun h6 => ?_) (fun h6 => ?_))))))
  ·have pr6 := odT h6
   refine Sr (Pe Y (Ct (Xr (Rb Y Y ?_))))
   unfold isFactB; rw [decide_eq_false (by omega : ¬ f.Args.length ≤ 3)]; simp
  ·have pr6 := odF h6
   refine Sk (Cq (Sr (q1 Y (Db f_70_1 Y Y (q := 1) Y) (q1 Y (lb 0 o_58 Y Y Y Y) (q1 Y (Dl s_58 Y Y (rd_sl hu2)) (Pe Y (Cb (Cl (fun m_ ac w' => ∃ (k : Nat), (k ≤ f.Args.length) ∧ (∀ i, i < k → ∀ y, f.Args[i]? = some y → isAtomB y = true) ∧ m_ = f.Args.length - k ∧ Fits ac 26 [(16, u1), (17, (nv f.Args.length)), (18, (nv k))] ∧ St w ([bx g4 [(.string f.Rel), u1]]) w') ?_ ?_))))))))
   ·refine fun ac w' hf hs => ⟨_, 0, ?_, ?_, Y, hf.wk Y, hs⟩
    ·first | assumption | omega | simp
    ·intro i hi; omega
   ·rintro m_ ac w' ⟨k, hk, hi, rfl, hf, hs⟩
    refine D.use ?_ hf hs
    clear hf hs ac w'
    refine Sr (Pe Y (Cq (Ci _ Y (fun h7 => ?_) (fun h7 => ?_))))
    ·have pr7 := odT h7
     refine Sk (Cq (Cb (Sr ?_)))
     obtain ⟨a0, ha0⟩ := sL (l := f.Args) (i := k) (by omega)
     obtain ⟨es8, at9, hr10⟩ := rd_elem (n := 1) rfl hu2 ha0
     obtain rfl : es8 = [.string a0] := hr10
     refine q1 Y (D_ix (l := f.Args) (j := k) s_58 Y Y Y (fun w' hs => (rA hs hu2)) Y (lS ha0)) (q1 Y (lr0 o_9 Y Y at9 Y) (Pe Y (Sr (p1 Y (li Y (cv b_148 Y Y Y Y (fun w' hs => impl_IsAtom) ?_))))))
     refine Pe Y (Ci _ Y (fun h11 => ?_) (fun h11 => ?_))
     ·have h11n := not_t h11
      refine Sr (Pe Y (Ct (Xq (Xr (Xr (Xq (Xr (Rb Y Y ?_))))))))
      unfold isFactB; rw [all_bad (p := isAtomB) ha0 h11n]; simp
     ·have h11n := not_f h11
      refine Ck (Xb (Xt (Cr (q1 Y (D_add Y Y Y (r := ((k + 1 : Nat) : Int)) (by omega) (by omega)) (Pe Y (fun ac w' hf hs => ⟨_, ?_, k + 1, ?_, ?_, Y, hf.wk Y, hs⟩))))))
      ·omega
      ·first | assumption | omega | simp
      ·refine forall_step hi ?_; intro y hy; obtain rfl : y = a0 := Option.some.inj (hy.symm.trans ha0); exact h11n
    ·have pr7 := odF h7
     refine Cx (Xx (Xx (Xe (Xt (Sr (Pe Y (Ct (Rb Y Y ?_))))))))
     unfold isFactB; rw [all_of_idx (p := isAtomB) (fun i h => hi i (by omega)), decide_eq_true (by omega : f.Args.length ≤ 3)]; simp_all
theorem spec_IsFact {w : World} {c_f : List Value} {f : Fact} (h_f : Gd.rd w c_f f) (hf0 : okFa f) : Calls Tryz.prog 91 [(.agg c_f.toArray)].toArray w (Val w (.bool (isFactB f))) := by
 obtain ⟨u1, rfl, hu2⟩ := open_Fact h_f
 have hm3 := rd_max hu2
 refine enter 27 Tryz.func91 Y Y Y (Sr (li Y (D_box Y Y Y Y Y fun g4 => ?_)))
 refine Pe Y (Dh ([bx g4 [(.string f.Rel), u1]]) Y (Cq (Sr (Pe Y (Cb (Cl (fun m_ ac w' => ∃ (k : Nat), (k ≤ f.Args.length) ∧ (∀ i, i < k → ∀ y, f.Args[i]? = some y → isAtomB y = true) ∧ m_ = f.Args.length - k ∧ Fits ac 27 [(1, (pv g4)), (3, (nv k))] ∧ St w ([bx g4 [(.string f.Rel), u1]]) w') ?_ ?_))))))
 ·refine fun ac w' hf hs => ⟨_, 0, ?_, ?_, Y, hf.wk Y, hs⟩
  ·first | assumption | omega | simp
  ·intro i hi; omega
 ·rintro m_ ac w' ⟨k, hk, hi, rfl, hf, hs⟩
  refine D.use ?_ hf hs
  clear hf hs ac w'
  refine Cq (Sr (p1 Y (q1 Y (Db f_70_1 Y Y (q := 1) Y) (q1 Y (lb 0 o_58 Y Y Y Y) (q1 Y (Dl s_58 Y Y (rd_sl hu2)) (Pe Y (Ci _ Y (fun h5 => ?_) (fun h5 => ?_))))))))
  ·have pr5 := odT h5
   refine Sk (Cq (Cb (Sr (q1 Y (Db f_70_1 Y Y (q := 1) Y) (q1 Y (lb 0 o_58 Y Y Y Y) (p1 Y ?_))))))
   obtain ⟨a0, ha0⟩ := sL (l := f.Args) (i := k) (by omega)
   have hs1 : a0.size ≤ 9223372036854775807 := hf0.2 _ (List.mem_of_getElem? ha0)
   obtain ⟨es6, at7, hr8⟩ := rd_elem (n := 1) rfl hu2 ha0
   obtain rfl : es6 = [.string a0] := hr8
   refine q1 Y (D_ix (l := f.Args) (j := k) s_58 Y Y Y (fun w' hs => (rA hs hu2)) Y (lS ha0)) (q1 Y (lr0 o_9 Y Y at7 Y) (li Y (cv b_104 Y Y Y Y (fun w' hs => (spec_IsAtom (by first | assumption | omega | (unfold szm at *; split at * <;> omega)))) ?_)))
   refine Pe Y (Ci _ Y (fun h9 => ?_) (fun h9 => ?_))
   ·have h9n := not_t h9
    refine Sr (Pe Y (Ct (Xq (Xr (Xr (Xq (Xr (Rb Y Y ?_))))))))
    unfold isFactB; rw [all_bad (p := isAtomB) ha0 h9n]; simp
   ·have h9n := not_f h9
    refine Ck (Xb (Xt (Cr (p1 Y (q1 Y (D_add Y Y Y (r := ((k + 1 : Nat) : Int)) (by omega) (by omega)) (Pe Y (fun ac w' hf hs => ⟨_, ?_, k + 1, ?_, ?_, Y, hf.wk Y, hs⟩)))))))
    ·omega
    ·first | assumption | omega | simp
    ·refine forall_step hi ?_; intro y hy; obtain rfl : y = a0 := Option.some.inj (hy.symm.trans ha0); exact h9n
  ·have pr5 := odF h5
   refine Cx (Xx (Xx (Xe (Xt (Sr (q1 Y (Db f_70_0 Y Y (q := 0) Y) (q1 Y (lb 0 o_9 Y Y Y Y) (li Y (cv b_145 Y Y Y Y (fun w' hs => (spec_IsName hf0.1)) ?_)))))))))
   refine p1 Y (gs 21 Y Y (fun h10 => ?_) (fun h10 => ?_))
   ·refine q1 Y (Db f_70_1 Y Y (q := 1) Y) (q1 Y (lb 0 o_58 Y Y Y Y) (q1 Y (Dl s_58 Y Y (rd_sl hu2)) (P3 Y Y Y (Dx (Ct (Rb Y Y ?_))))))
    show ((decide ((((f.Args.length : Nat) : Int) : Int) ≤ 3)) : Bool) = _
    unfold isFactB; rw [all_of_idx (p := isAtomB) (fun i h => hi i (by omega))]; simp_all; try omega
   ·refine n1 Y (n1 Y (n1 Y (n1 Y (P2 Y Y (Dx (Ct (Rb Y Y ?_)))))))
    unfold isFactB; rw [all_of_idx (p := isAtomB) (fun i h => hi i (by omega))]; simp_all; try omega
set_option maxHeartbeats 4000000 in
theorem impl_IsEvent {w : World} {c_x : List Value} {x : Event} (h_x : Gd.rd w c_x x) : Calls Tryz.prog 137 [(.agg c_x.toArray)].toArray w (Val w (.bool (isEventB x))) := by
 obtain ⟨u1, rfl, hu2⟩ := open_Event h_x
 have hm3 := rd_max hu2
 have hb4 := sub_Event_Fact h_x
 refine enter 48 Tryz.func137 Y Y Y (Sr (li Y (D_box Y Y Y Y Y fun g5 => ?_)))
 refine Pe Y (Dh ([bx g5 [(iv x.Kind), (.string x.Rule), (.string x.Fact.Rel), u1]]) Y (Sr (q1 Y (Db f_171_2 Y Y (q := 2) Y) (q1 Y (Db f_70_0 Y Y (q := 2) Y) (q1 Y (lb 0 o_9 Y Y Y Y) (q1 Y (D_eqS Y Y Y) (p1 Y (gs 8 Y Y (fun h6 => ?_) (fun h6 => ?_)))))))))
 ·have pr6 := odT h6
  refine q1 Y (Db f_171_2 Y Y (q := 2) Y) (q1 Y (Db f_70_1 Y Y (q := 3) Y) (q1 Y (lb 0 o_58 Y Y Y Y) (q1 Y (Dl s_58 Y Y (rd_sl hu2)) (P3 Y Y Y (Dx (Cq (Sr (q1 Y (Db f_171_0 Y Y (q := 0) Y) (q1 Y (lb 0 o_3 Y Y Y Y) (Dx (Cb (Cq (Sr (P2 Y Y (Dx (D_wk [1, 3, 16, 17] Y (Ci _ Y (fun h7 => ?_) (fun h7 => ?_))))))))))))))))))
  ·have pr7 := eq_of_beq h7
   refine Sk (C_kt Y h7 (Sr (q1 Y (Db f_171_1 Y Y (q := 1) Y) (q1 Y (lb 0 o_9 Y Y Y Y) (q1 Y (D_eqS Y Y Y) (p1 Y (gs 23 Y Y (fun h9 => ?_) (fun h9 => ?_))))))))
   ·have pr9 := odT h9
    refine q1 Y (Db f_171_2 Y Y (q := 2) Y) (q1 Y (lba (es := [(.string x.Fact.Rel), u1]) 0 a_70 Y Y Y Y) (li Y (cv b_93 Y Y Y Y (fun w' hs => (impl_IsFact (rA hs hb4))) ?_)))
    refine P2 Y Y (Dx (Ct (Xq (Xr (Rb Y Y ?_)))))
    show ((isFactB x.Fact) : Bool) = _
    unfold isEventB; simp_all; try (first | omega | (rw [Bool.eq_iff_iff]; simp))
   ·have pr9 := odF h9
    refine n1 Y (n1 Y (n1 Y (P2 Y Y (Dx (Ct (Xq (Xr (Rb Y Y ?_))))))))
    unfold isEventB; simp_all; try (first | omega | (rw [Bool.eq_iff_iff]; simp))
  ·have pr7 := ne_of_beq_false h7
   refine Cr (P2 Y Y (Dx (Ci _ Y (fun h25 => ?_) (fun h25 => ?_))))
   ·have pr25 := eq_of_beq h25
    refine Sr (q1 Y (Db f_171_1 Y Y (q := 1) Y) (q1 Y (lb 0 o_9 Y Y Y Y) (q1 Y (D_eqS Y Y Y) (p1 Y (gs 23 Y Y (fun h26 => ?_) (fun h26 => ?_))))))
    ·have pr26 := odT h26
     refine q1 Y (Db f_171_2 Y Y (q := 2) Y) (q1 Y (lba (es := [(.string x.Fact.Rel), u1]) 0 a_70 Y Y Y Y) (li Y (cv b_93 Y Y Y Y (fun w' hs => (impl_IsFact (rA hs hb4))) ?_)))
     refine P2 Y Y (Dx (Ct (Xq (Xr (Rb Y Y ?_)))))
     show ((isFactB x.Fact) : Bool) = _
     unfold isEventB; simp_all; try (first | omega | (rw [Bool.eq_iff_iff]; simp))
    ·have pr26 := odF h26
     refine n1 Y (n1 Y (n1 Y (P2 Y Y (Dx (Ct (Xq (Xr (Rb Y Y ?_))))))))
     unfold isEventB; simp_all; try (first | omega | (rw [Bool.eq_iff_iff]; simp))
   ·have pr25 := ne_of_beq_false h25
    refine Cq (Sr (P2 Y Y (Dx (Ci _ Y (fun h27 => ?_) (fun h27 => ?_)))))
    ·have pr27 := eq_of_beq h27
     refine Sk (C_kt Y h27 (Sr (q1 Y (Db f_171_1 Y Y (q := 1) Y) (q1 Y (lb 0 o_9 Y Y Y Y) (li Y (cv b_147 Y Y Y Y (fun w' hs => impl_IsName) ?_))))))
     refine p1 Y (gs 34 Y Y (fun h29 => ?_) (fun h29 => ?_))
     ·refine P3 Y Y Y (Dx (Ct (Xq (Xr (Rb Y Y ?_)))))
      show (((((x.Fact.Args.length : Nat) : Int) : Int) == 0) : Bool) = _
      unfold isEventB; simp_all; try (first | omega | (rw [Bool.eq_iff_iff]; simp))
     ·refine n1 Y (P2 Y Y (Dx (Ct (Xq (Xr (Rb Y Y ?_))))))
      unfold isEventB; simp_all; try (first | omega | (rw [Bool.eq_iff_iff]; simp))
    ·have pr27 := ne_of_beq_false h27
     refine Cr (P2 Y Y (Dx (Ci _ Y (fun h35 => ?_) (fun h35 => ?_))))
     ·have pr35 := eq_of_beq h35
      refine Sr (q1 Y (Db f_171_1 Y Y (q := 1) Y) (q1 Y (lb 0 o_9 Y Y Y Y) (li Y (cv b_147 Y Y Y Y (fun w' hs => impl_IsName) ?_))))
      refine p1 Y (gs 34 Y Y (fun h36 => ?_) (fun h36 => ?_))
      ·refine P3 Y Y Y (Dx (Ct (Xq (Xr (Rb Y Y ?_)))))
       show (((((x.Fact.Args.length : Nat) : Int) : Int) == 0) : Bool) = _
       unfold isEventB; simp_all; try (first | omega | (rw [Bool.eq_iff_iff]; simp))
      ·refine n1 Y (P2 Y Y (Dx (Ct (Xq (Xr (Rb Y Y ?_))))))
       unfold isEventB; simp_all; try (first | omega | (rw [Bool.eq_iff_iff]; simp))
     ·have pr35 := ne_of_beq_false h35
      refine Cq (Sr (P2 Y Y (Dx (Ci _ Y (fun h37 => ?_) (fun h37 => ?_)))))
      ·have pr37 := eq_of_beq h37
       refine Sk (C_kt Y h37 (Sr (q1 Y (Db f_171_1 Y Y (q := 1) Y) (q1 Y (lb 0 o_9 Y Y Y Y) (li Y (cv b_147 Y Y Y Y (fun w' hs => impl_IsName) ?_))))))
       refine p1 Y (gs 43 Y Y (fun h39 => ?_) (fun h39 => ?_))
       ·refine q1 Y (Db f_171_2 Y Y (q := 2) Y) (q1 Y (lba (es := [(.string x.Fact.Rel), u1]) 0 a_70 Y Y Y Y) (li Y (cv b_93 Y Y Y Y (fun w' hs => (impl_IsFact (rA hs hb4))) ?_)))
        refine P2 Y Y (Dx (Ct (Xq (Xr (Rb Y Y ?_)))))
        show ((isFactB x.Fact) : Bool) = _
        unfold isEventB; simp_all; try (first | omega | (rw [Bool.eq_iff_iff]; simp))
       ·refine n1 Y (n1 Y (n1 Y (P2 Y Y (Dx (Ct (Xq (Xr (Rb Y Y ?_))))))))
        unfold isEventB; simp_all; try (first | omega | (rw [Bool.eq_iff_iff]; simp))
      ·have pr37 := ne_of_beq_false h37
       refine Cr (P2 Y Y (Dx (Ci _ Y (fun h40 => ?_) (fun h40 => ?_))))
       ·have pr40 := eq_of_beq h40
        refine Sr (q1 Y (Db f_171_1 Y Y (q := 1) Y) (q1 Y (lb 0 o_9 Y Y Y Y) (li Y (cv b_147 Y Y Y Y (fun w' hs => impl_IsName) ?_))))
        refine p1 Y (gs 43 Y Y (fun h41 => ?_) (fun h41 => ?_))
        ·refine q1 Y (Db f_171_2 Y Y (q := 2) Y) (q1 Y (lba (es := [(.string x.Fact.Rel), u1]) 0 a_70 Y Y Y Y) (li Y (cv b_93 Y Y Y Y (fun w' hs => (impl_IsFact (rA hs hb4))) ?_)))
         refine P2 Y Y (Dx (Ct (Xq (Xr (Rb Y Y ?_)))))
         show ((isFactB x.Fact) : Bool) = _
         unfold isEventB; simp_all; try (first | omega | (rw [Bool.eq_iff_iff]; simp))
        ·refine n1 Y (n1 Y (n1 Y (P2 Y Y (Dx (Ct (Xq (Xr (Rb Y Y ?_))))))))
         unfold isEventB; simp_all; try (first | omega | (rw [Bool.eq_iff_iff]; simp))
       ·have pr40 := ne_of_beq_false h40
        refine Ck (Xb (Xt (Sr (Pe Y (Ct (Rb Y Y ?_))))))
        unfold isEventB; simp_all; try (first | omega | (rw [Bool.eq_iff_iff]; simp))
 ·have pr6 := odF h6
  refine n1 Y (n1 Y (n1 Y (n1 Y (n1 Y (P2 Y Y (Dx (Cq (Sr (q1 Y (Db f_171_0 Y Y (q := 0) Y) (q1 Y (lb 0 o_3 Y Y Y Y) (Dx (Cb (Cq (Sr (P2 Y Y (Dx (D_wk [1, 3, 16, 17] Y (Ci _ Y (fun h42 => ?_) (fun h42 => ?_)))))))))))))))))))
  ·have pr42 := eq_of_beq h42
   refine Sk (C_kt Y h42 (Sr (q1 Y (Db f_171_1 Y Y (q := 1) Y) (q1 Y (lb 0 o_9 Y Y Y Y) (q1 Y (D_eqS Y Y Y) (p1 Y (gs 23 Y Y (fun h44 => ?_) (fun h44 => ?_))))))))
   ·have pr44 := odT h44
    refine q1 Y (Db f_171_2 Y Y (q := 2) Y) (q1 Y (lba (es := [(.string x.Fact.Rel), u1]) 0 a_70 Y Y Y Y) (li Y (cv b_93 Y Y Y Y (fun w' hs => (impl_IsFact (rA hs hb4))) ?_)))
    refine P2 Y Y (Dx (Ct (Xq (Xr (Rb Y Y ?_)))))
    show ((isFactB x.Fact) : Bool) = _
    unfold isEventB; simp_all; try (first | omega | (rw [Bool.eq_iff_iff]; simp))
   ·have pr44 := odF h44
    refine n1 Y (n1 Y (n1 Y (P2 Y Y (Dx (Ct (Xq (Xr (Rb Y Y ?_))))))))
    unfold isEventB; simp_all; try (first | omega | (rw [Bool.eq_iff_iff]; simp))
  ·have pr42 := ne_of_beq_false h42
   refine Cr (P2 Y Y (Dx (Ci _ Y (fun h60 => ?_) (fun h60 => ?_))))
   ·have pr60 := eq_of_beq h60
    refine Sr (q1 Y (Db f_171_1 Y Y (q := 1) Y) (q1 Y (lb 0 o_9 Y Y Y Y) (q1 Y (D_eqS Y Y Y) (p1 Y (gs 23 Y Y (fun h61 => ?_) (fun h61 => ?_))))))
    ·have pr61 := odT h61
     refine q1 Y (Db f_171_2 Y Y (q := 2) Y) (q1 Y (lba (es := [(.string x.Fact.Rel), u1]) 0 a_70 Y Y Y Y) (li Y (cv b_93 Y Y Y Y (fun w' hs => (impl_IsFact (rA hs hb4))) ?_)))
     refine P2 Y Y (Dx (Ct (Xq (Xr (Rb Y Y ?_)))))
     show ((isFactB x.Fact) : Bool) = _
     unfold isEventB; simp_all; try (first | omega | (rw [Bool.eq_iff_iff]; simp))
    ·have pr61 := odF h61
     refine n1 Y (n1 Y (n1 Y (P2 Y Y (Dx (Ct (Xq (Xr (Rb Y Y ?_))))))))
     unfold isEventB; simp_all; try (first | omega | (rw [Bool.eq_iff_iff]; simp))
   ·have pr60 := ne_of_beq_false h60
    refine Cq (Sr (P2 Y Y (Dx (Ci _ Y (fun h62 => ?_) (fun h62 => ?_)))))
    ·have pr62 := eq_of_beq h62
     refine Sk (C_kt Y h62 (Sr (q1 Y (Db f_171_1 Y Y (q := 1) Y) (q1 Y (lb 0 o_9 Y Y Y Y) (li Y (cv b_147 Y Y Y Y (fun w' hs => impl_IsName) ?_))))))
     refine p1 Y (gs 34 Y Y (fun h64 => ?_) (fun h64 => ?_))
     ·refine P3 Y Y Y (Dx (Ct (Xq (Xr (Rb Y Y ?_)))))
      unfold isEventB; simp_all; try (first | omega | (rw [Bool.eq_iff_iff]; simp))
     ·refine n1 Y (P2 Y Y (Dx (Ct (Xq (Xr (Rb Y Y ?_))))))
      unfold isEventB; simp_all; try (first | omega | (rw [Bool.eq_iff_iff]; simp))
    ·have pr62 := ne_of_beq_false h62
     refine Cr (P2 Y Y (Dx (Ci _ Y (fun h70 => ?_) (fun h70 => ?_))))
     ·have pr70 := eq_of_beq h70
      refine Sr (q1 Y (Db f_171_1 Y Y (q := 1) Y) (q1 Y (lb 0 o_9 Y Y Y Y) (li Y (cv b_147 Y Y Y Y (fun w' hs => impl_IsName) ?_))))
      refine p1 Y (gs 34 Y Y (fun h71 => ?_) (fun h71 => ?_))
      ·refine P3 Y Y Y (Dx (Ct (Xq (Xr (Rb Y Y ?_)))))
       unfold isEventB; simp_all; try (first | omega | (rw [Bool.eq_iff_iff]; simp))
      ·refine n1 Y (P2 Y Y (Dx (Ct (Xq (Xr (Rb Y Y ?_))))))
       unfold isEventB; simp_all; try (first | omega | (rw [Bool.eq_iff_iff]; simp))
     ·have pr70 := ne_of_beq_false h70
      refine Cq (Sr (P2 Y Y (Dx (Ci _ Y (fun h72 => ?_) (fun h72 => ?_)))))
      ·have pr72 := eq_of_beq h72
       refine Sk (C_kt Y h72 (Sr (q1 Y (Db f_171_1 Y Y (q := 1) Y) (q1 Y (lb 0 o_9 Y Y Y Y) (li Y (cv b_147 Y Y Y Y (fun w' hs => impl_IsName) ?_))))))
       refine p1 Y (gs 43 Y Y (fun h74 => ?_) (fun h74 => ?_))
       ·refine q1 Y (Db f_171_2 Y Y (q := 2) Y) (q1 Y (lba (es := [(.string x.Fact.Rel), u1]) 0 a_70 Y Y Y Y) (li Y (cv b_93 Y Y Y Y (fun w' hs => (impl_IsFact (rA hs hb4))) ?_)))
        refine P2 Y Y (Dx (Ct (Xq (Xr (Rb Y Y ?_)))))
        show ((isFactB x.Fact) : Bool) = _
        unfold isEventB; simp_all; try (first | omega | (rw [Bool.eq_iff_iff]; simp))
       ·refine n1 Y (n1 Y (n1 Y (P2 Y Y (Dx (Ct (Xq (Xr (Rb Y Y ?_))))))))
        unfold isEventB; simp_all; try (first | omega | (rw [Bool.eq_iff_iff]; simp))
      ·have pr72 := ne_of_beq_false h72
       refine Cr (P2 Y Y (Dx (Ci _ Y (fun h75 => ?_) (fun h75 => ?_))))
       ·have pr75 := eq_of_beq h75
        refine Sr (q1 Y (Db f_171_1 Y Y (q := 1) Y) (q1 Y (lb 0 o_9 Y Y Y Y) (li Y (cv b_147 Y Y Y Y (fun w' hs => impl_IsName) ?_))))
        refine p1 Y (gs 43 Y Y (fun h76 => ?_) (fun h76 => ?_))
        ·refine q1 Y (Db f_171_2 Y Y (q := 2) Y) (q1 Y (lba (es := [(.string x.Fact.Rel), u1]) 0 a_70 Y Y Y Y) (li Y (cv b_93 Y Y Y Y (fun w' hs => (impl_IsFact (rA hs hb4))) ?_)))
         refine P2 Y Y (Dx (Ct (Xq (Xr (Rb Y Y ?_)))))
         show ((isFactB x.Fact) : Bool) = _
         unfold isEventB; simp_all; try (first | omega | (rw [Bool.eq_iff_iff]; simp))
        ·refine n1 Y (n1 Y (n1 Y (P2 Y Y (Dx (Ct (Xq (Xr (Rb Y Y ?_))))))))
         unfold isEventB; simp_all; try (first | omega | (rw [Bool.eq_iff_iff]; simp))
       ·have pr75 := ne_of_beq_false h75
        refine Ck (Xb (Xt (Sr (Pe Y (Ct (Rb Y Y ?_))))))
        unfold isEventB; simp_all; try (first | omega | (rw [Bool.eq_iff_iff]; simp))
set_option maxHeartbeats 4000000 in
theorem spec_IsEvent {w : World} {c_x : List Value} {x : Event} (h_x : Gd.rd w c_x x) (hx0 : okEv x) : Calls Tryz.prog 127 [(.agg c_x.toArray)].toArray w (Val w (.bool (isEventB x))) := by
 obtain ⟨u1, rfl, hu2⟩ := open_Event h_x
 have hm3 := rd_max hu2
 have hb4 := sub_Event_Fact h_x
 refine enter 48 Tryz.func127 Y Y Y (Sr (li Y (D_box Y Y Y Y Y fun g5 => ?_)))
 refine Pe Y (Dh ([bx g5 [(iv x.Kind), (.string x.Rule), (.string x.Fact.Rel), u1]]) Y (Sr (q1 Y (Db f_171_2 Y Y (q := 2) Y) (q1 Y (Db f_70_0 Y Y (q := 2) Y) (q1 Y (lb 0 o_9 Y Y Y Y) (q1 Y (D_eqS Y Y Y) (p1 Y (gs 8 Y Y (fun h6 => ?_) (fun h6 => ?_)))))))))
 ·have pr6 := odT h6
  refine q1 Y (Db f_171_2 Y Y (q := 2) Y) (q1 Y (Db f_70_1 Y Y (q := 3) Y) (q1 Y (lb 0 o_58 Y Y Y Y) (q1 Y (Dl s_58 Y Y (rd_sl hu2)) (P3 Y Y Y (Dx (Cq (Sr (q1 Y (Db f_171_0 Y Y (q := 0) Y) (q1 Y (lb 0 o_3 Y Y Y Y) (Dx (Cb (Cq (Sr (P2 Y Y (Dx (D_wk [1, 3, 16, 17] Y (Ci _ Y (fun h7 => ?_) (fun h7 => ?_))))))))))))))))))
  ·have pr7 := eq_of_beq h7
   refine Sk (C_kt Y h7 (Sr (q1 Y (Db f_171_1 Y Y (q := 1) Y) (q1 Y (lb 0 o_9 Y Y Y Y) (q1 Y (D_eqS Y Y Y) (p1 Y (gs 23 Y Y (fun h9 => ?_) (fun h9 => ?_))))))))
   ·have pr9 := odT h9
    refine q1 Y (Db f_171_2 Y Y (q := 2) Y) (q1 Y (lba (es := [(.string x.Fact.Rel), u1]) 0 a_70 Y Y Y Y) (li Y (cv b_91 Y Y Y Y (fun w' hs => (spec_IsFact (rA hs hb4) hx0.2.2)) ?_)))
    refine P2 Y Y (Dx (Ct (Xq (Xr (Rb Y Y ?_)))))
    show ((isFactB x.Fact) : Bool) = _
    unfold isEventB; simp_all; try (first | omega | (rw [Bool.eq_iff_iff]; simp))
   ·have pr9 := odF h9
    refine n1 Y (n1 Y (n1 Y (P2 Y Y (Dx (Ct (Xq (Xr (Rb Y Y ?_))))))))
    unfold isEventB; simp_all; try (first | omega | (rw [Bool.eq_iff_iff]; simp))
  ·have pr7 := ne_of_beq_false h7
   refine Cr (P2 Y Y (Dx (Ci _ Y (fun h25 => ?_) (fun h25 => ?_))))
   ·have pr25 := eq_of_beq h25
    refine Sr (q1 Y (Db f_171_1 Y Y (q := 1) Y) (q1 Y (lb 0 o_9 Y Y Y Y) (q1 Y (D_eqS Y Y Y) (p1 Y (gs 23 Y Y (fun h26 => ?_) (fun h26 => ?_))))))
    ·have pr26 := odT h26
     refine q1 Y (Db f_171_2 Y Y (q := 2) Y) (q1 Y (lba (es := [(.string x.Fact.Rel), u1]) 0 a_70 Y Y Y Y) (li Y (cv b_91 Y Y Y Y (fun w' hs => (spec_IsFact (rA hs hb4) hx0.2.2)) ?_)))
     refine P2 Y Y (Dx (Ct (Xq (Xr (Rb Y Y ?_)))))
     show ((isFactB x.Fact) : Bool) = _
     unfold isEventB; simp_all; try (first | omega | (rw [Bool.eq_iff_iff]; simp))
    ·have pr26 := odF h26
     refine n1 Y (n1 Y (n1 Y (P2 Y Y (Dx (Ct (Xq (Xr (Rb Y Y ?_))))))))
     unfold isEventB; simp_all; try (first | omega | (rw [Bool.eq_iff_iff]; simp))
   ·have pr25 := ne_of_beq_false h25
    refine Cq (Sr (P2 Y Y (Dx (Ci _ Y (fun h27 => ?_) (fun h27 => ?_)))))
    ·have pr27 := eq_of_beq h27
     refine Sk (C_kt Y h27 (Sr (q1 Y (Db f_171_1 Y Y (q := 1) Y) (q1 Y (lb 0 o_9 Y Y Y Y) (li Y (cv b_145 Y Y Y Y (fun w' hs => (spec_IsName hx0.2.1)) ?_))))))
     refine p1 Y (gs 34 Y Y (fun h29 => ?_) (fun h29 => ?_))
     ·refine P3 Y Y Y (Dx (Ct (Xq (Xr (Rb Y Y ?_)))))
      show (((((x.Fact.Args.length : Nat) : Int) : Int) == 0) : Bool) = _
      unfold isEventB; simp_all; try (first | omega | (rw [Bool.eq_iff_iff]; simp))
     ·refine n1 Y (P2 Y Y (Dx (Ct (Xq (Xr (Rb Y Y ?_))))))
      unfold isEventB; simp_all; try (first | omega | (rw [Bool.eq_iff_iff]; simp))
    ·have pr27 := ne_of_beq_false h27
     refine Cr (P2 Y Y (Dx (Ci _ Y (fun h35 => ?_) (fun h35 => ?_))))
     ·have pr35 := eq_of_beq h35
      refine Sr (q1 Y (Db f_171_1 Y Y (q := 1) Y) (q1 Y (lb 0 o_9 Y Y Y Y) (li Y (cv b_145 Y Y Y Y (fun w' hs => (spec_IsName hx0.2.1)) ?_))))
      refine p1 Y (gs 34 Y Y (fun h36 => ?_) (fun h36 => ?_))
      ·refine P3 Y Y Y (Dx (Ct (Xq (Xr (Rb Y Y ?_)))))
       show (((((x.Fact.Args.length : Nat) : Int) : Int) == 0) : Bool) = _
       unfold isEventB; simp_all; try (first | omega | (rw [Bool.eq_iff_iff]; simp))
      ·refine n1 Y (P2 Y Y (Dx (Ct (Xq (Xr (Rb Y Y ?_))))))
       unfold isEventB; simp_all; try (first | omega | (rw [Bool.eq_iff_iff]; simp))
     ·have pr35 := ne_of_beq_false h35
      refine Cq (Sr (P2 Y Y (Dx (Ci _ Y (fun h37 => ?_) (fun h37 => ?_)))))
      ·have pr37 := eq_of_beq h37
       refine Sk (C_kt Y h37 (Sr (q1 Y (Db f_171_1 Y Y (q := 1) Y) (q1 Y (lb 0 o_9 Y Y Y Y) (li Y (cv b_145 Y Y Y Y (fun w' hs => (spec_IsName hx0.2.1)) ?_))))))
       refine p1 Y (gs 43 Y Y (fun h39 => ?_) (fun h39 => ?_))
       ·refine q1 Y (Db f_171_2 Y Y (q := 2) Y) (q1 Y (lba (es := [(.string x.Fact.Rel), u1]) 0 a_70 Y Y Y Y) (li Y (cv b_91 Y Y Y Y (fun w' hs => (spec_IsFact (rA hs hb4) hx0.2.2)) ?_)))
        refine P2 Y Y (Dx (Ct (Xq (Xr (Rb Y Y ?_)))))
        show ((isFactB x.Fact) : Bool) = _
        unfold isEventB; simp_all; try (first | omega | (rw [Bool.eq_iff_iff]; simp))
       ·refine n1 Y (n1 Y (n1 Y (P2 Y Y (Dx (Ct (Xq (Xr (Rb Y Y ?_))))))))
        unfold isEventB; simp_all; try (first | omega | (rw [Bool.eq_iff_iff]; simp))
      ·have pr37 := ne_of_beq_false h37
       refine Cr (P2 Y Y (Dx (Ci _ Y (fun h40 => ?_) (fun h40 => ?_))))
       ·have pr40 := eq_of_beq h40
        refine Sr (q1 Y (Db f_171_1 Y Y (q := 1) Y) (q1 Y (lb 0 o_9 Y Y Y Y) (li Y (cv b_145 Y Y Y Y (fun w' hs => (spec_IsName hx0.2.1)) ?_))))
        refine p1 Y (gs 43 Y Y (fun h41 => ?_) (fun h41 => ?_))
        ·refine q1 Y (Db f_171_2 Y Y (q := 2) Y) (q1 Y (lba (es := [(.string x.Fact.Rel), u1]) 0 a_70 Y Y Y Y) (li Y (cv b_91 Y Y Y Y (fun w' hs => (spec_IsFact (rA hs hb4) hx0.2.2)) ?_)))
         refine P2 Y Y (Dx (Ct (Xq (Xr (Rb Y Y ?_)))))
         show ((isFactB x.Fact) : Bool) = _
         unfold isEventB; simp_all; try (first | omega | (rw [Bool.eq_iff_iff]; simp))
        ·refine n1 Y (n1 Y (n1 Y (P2 Y Y (Dx (Ct (Xq (Xr (Rb Y Y ?_))))))))
         unfold isEventB; simp_all; try (first | omega | (rw [Bool.eq_iff_iff]; simp))
       ·have pr40 := ne_of_beq_false h40
        refine Ck (Xb (Xt (Sr (Pe Y (Ct (Rb Y Y ?_))))))
        unfold isEventB; simp_all; try (first | omega | (rw [Bool.eq_iff_iff]; simp))
 ·have pr6 := odF h6
  refine n1 Y (n1 Y (n1 Y (n1 Y (n1 Y (P2 Y Y (Dx (Cq (Sr (q1 Y (Db f_171_0 Y Y (q := 0) Y) (q1 Y (lb 0 o_3 Y Y Y Y) (Dx (Cb (Cq (Sr (P2 Y Y (Dx (D_wk [1, 3, 16, 17] Y (Ci _ Y (fun h42 => ?_) (fun h42 => ?_)))))))))))))))))))
  ·have pr42 := eq_of_beq h42
   refine Sk (C_kt Y h42 (Sr (q1 Y (Db f_171_1 Y Y (q := 1) Y) (q1 Y (lb 0 o_9 Y Y Y Y) (q1 Y (D_eqS Y Y Y) (p1 Y (gs 23 Y Y (fun h44 => ?_) (fun h44 => ?_))))))))
   ·have pr44 := odT h44
    refine q1 Y (Db f_171_2 Y Y (q := 2) Y) (q1 Y (lba (es := [(.string x.Fact.Rel), u1]) 0 a_70 Y Y Y Y) (li Y (cv b_91 Y Y Y Y (fun w' hs => (spec_IsFact (rA hs hb4) hx0.2.2)) ?_)))
    refine P2 Y Y (Dx (Ct (Xq (Xr (Rb Y Y ?_)))))
    show ((isFactB x.Fact) : Bool) = _
    unfold isEventB; simp_all; try (first | omega | (rw [Bool.eq_iff_iff]; simp))
   ·have pr44 := odF h44
    refine n1 Y (n1 Y (n1 Y (P2 Y Y (Dx (Ct (Xq (Xr (Rb Y Y ?_))))))))
    unfold isEventB; simp_all; try (first | omega | (rw [Bool.eq_iff_iff]; simp))
  ·have pr42 := ne_of_beq_false h42
   refine Cr (P2 Y Y (Dx (Ci _ Y (fun h60 => ?_) (fun h60 => ?_))))
   ·have pr60 := eq_of_beq h60
    refine Sr (q1 Y (Db f_171_1 Y Y (q := 1) Y) (q1 Y (lb 0 o_9 Y Y Y Y) (q1 Y (D_eqS Y Y Y) (p1 Y (gs 23 Y Y (fun h61 => ?_) (fun h61 => ?_))))))
    ·have pr61 := odT h61
     refine q1 Y (Db f_171_2 Y Y (q := 2) Y) (q1 Y (lba (es := [(.string x.Fact.Rel), u1]) 0 a_70 Y Y Y Y) (li Y (cv b_91 Y Y Y Y (fun w' hs => (spec_IsFact (rA hs hb4) hx0.2.2)) ?_)))
     refine P2 Y Y (Dx (Ct (Xq (Xr (Rb Y Y ?_)))))
     show ((isFactB x.Fact) : Bool) = _
     unfold isEventB; simp_all; try (first | omega | (rw [Bool.eq_iff_iff]; simp))
    ·have pr61 := odF h61
     refine n1 Y (n1 Y (n1 Y (P2 Y Y (Dx (Ct (Xq (Xr (Rb Y Y ?_))))))))
     unfold isEventB; simp_all; try (first | omega | (rw [Bool.eq_iff_iff]; simp))
   ·have pr60 := ne_of_beq_false h60
    refine Cq (Sr (P2 Y Y (Dx (Ci _ Y (fun h62 => ?_) (fun h62 => ?_)))))
    ·have pr62 := eq_of_beq h62
     refine Sk (C_kt Y h62 (Sr (q1 Y (Db f_171_1 Y Y (q := 1) Y) (q1 Y (lb 0 o_9 Y Y Y Y) (li Y (cv b_145 Y Y Y Y (fun w' hs => (spec_IsName hx0.2.1)) ?_))))))
     refine p1 Y (gs 34 Y Y (fun h64 => ?_) (fun h64 => ?_))
     ·refine P3 Y Y Y (Dx (Ct (Xq (Xr (Rb Y Y ?_)))))
      unfold isEventB; simp_all; try (first | omega | (rw [Bool.eq_iff_iff]; simp))
     ·refine n1 Y (P2 Y Y (Dx (Ct (Xq (Xr (Rb Y Y ?_))))))
      unfold isEventB; simp_all; try (first | omega | (rw [Bool.eq_iff_iff]; simp))
    ·have pr62 := ne_of_beq_false h62
     refine Cr (P2 Y Y (Dx (Ci _ Y (fun h70 => ?_) (fun h70 => ?_))))
     ·have pr70 := eq_of_beq h70
      refine Sr (q1 Y (Db f_171_1 Y Y (q := 1) Y) (q1 Y (lb 0 o_9 Y Y Y Y) (li Y (cv b_145 Y Y Y Y (fun w' hs => (spec_IsName hx0.2.1)) ?_))))
      refine p1 Y (gs 34 Y Y (fun h71 => ?_) (fun h71 => ?_))
      ·refine P3 Y Y Y (Dx (Ct (Xq (Xr (Rb Y Y ?_)))))
       unfold isEventB; simp_all; try (first | omega | (rw [Bool.eq_iff_iff]; simp))
      ·refine n1 Y (P2 Y Y (Dx (Ct (Xq (Xr (Rb Y Y ?_))))))
       unfold isEventB; simp_all; try (first | omega | (rw [Bool.eq_iff_iff]; simp))
     ·have pr70 := ne_of_beq_false h70
      refine Cq (Sr (P2 Y Y (Dx (Ci _ Y (fun h72 => ?_) (fun h72 => ?_)))))
      ·have pr72 := eq_of_beq h72
       refine Sk (C_kt Y h72 (Sr (q1 Y (Db f_171_1 Y Y (q := 1) Y) (q1 Y (lb 0 o_9 Y Y Y Y) (li Y (cv b_145 Y Y Y Y (fun w' hs => (spec_IsName hx0.2.1)) ?_))))))
       refine p1 Y (gs 43 Y Y (fun h74 => ?_) (fun h74 => ?_))
       ·refine q1 Y (Db f_171_2 Y Y (q := 2) Y) (q1 Y (lba (es := [(.string x.Fact.Rel), u1]) 0 a_70 Y Y Y Y) (li Y (cv b_91 Y Y Y Y (fun w' hs => (spec_IsFact (rA hs hb4) hx0.2.2)) ?_)))
        refine P2 Y Y (Dx (Ct (Xq (Xr (Rb Y Y ?_)))))
        show ((isFactB x.Fact) : Bool) = _
        unfold isEventB; simp_all; try (first | omega | (rw [Bool.eq_iff_iff]; simp))
       ·refine n1 Y (n1 Y (n1 Y (P2 Y Y (Dx (Ct (Xq (Xr (Rb Y Y ?_))))))))
        unfold isEventB; simp_all; try (first | omega | (rw [Bool.eq_iff_iff]; simp))
      ·have pr72 := ne_of_beq_false h72
       refine Cr (P2 Y Y (Dx (Ci _ Y (fun h75 => ?_) (fun h75 => ?_))))
       ·have pr75 := eq_of_beq h75
        refine Sr (q1 Y (Db f_171_1 Y Y (q := 1) Y) (q1 Y (lb 0 o_9 Y Y Y Y) (li Y (cv b_145 Y Y Y Y (fun w' hs => (spec_IsName hx0.2.1)) ?_))))
        refine p1 Y (gs 43 Y Y (fun h76 => ?_) (fun h76 => ?_))
        ·refine q1 Y (Db f_171_2 Y Y (q := 2) Y) (q1 Y (lba (es := [(.string x.Fact.Rel), u1]) 0 a_70 Y Y Y Y) (li Y (cv b_91 Y Y Y Y (fun w' hs => (spec_IsFact (rA hs hb4) hx0.2.2)) ?_)))
         refine P2 Y Y (Dx (Ct (Xq (Xr (Rb Y Y ?_)))))
         show ((isFactB x.Fact) : Bool) = _
         unfold isEventB; simp_all; try (first | omega | (rw [Bool.eq_iff_iff]; simp))
        ·refine n1 Y (n1 Y (n1 Y (P2 Y Y (Dx (Ct (Xq (Xr (Rb Y Y ?_))))))))
         unfold isEventB; simp_all; try (first | omega | (rw [Bool.eq_iff_iff]; simp))
       ·have pr75 := ne_of_beq_false h75
        refine Ck (Xb (Xt (Sr (Pe Y (Ct (Rb Y Y ?_))))))
        unfold isEventB; simp_all; try (first | omega | (rw [Bool.eq_iff_iff]; simp))
theorem laws_szStringS {w : World} {v_a : Value} {a : (List ByteArray)} {left : Int} (h_a : Gd.rd w [v_a] a) (h0 : 0 ≤ left) (h1 : left ≤ 1048576) (ho : okSs a) : Calls Tryz.prog 70 [v_a, (iv left)].toArray w (Val w (iv (szm (szSs a) left))) := by
 have hm1 := rd_max h_a
 refine enter 28 Tryz.func70 Y Y Y (Sr (Pe Y (Sr (P2 Y Y (q1 Y (Dl s_58 Y Y (rd_sl h_a)) (q1 Y (D_sub Y Y Y Y (by omega)) (Pe Y (Cq (Sr (P2 Y Y (Dx (Ci _ Y (fun h2 => ?_) (fun h2 => ?_)))))))))))))
 ·have pr2 := odT h2
  refine Sr (Pe Y (Ct (Xr (Ri Y Y ?_))))
  show ((-1) : Int) = _
  refine (szm_neg ?_).symm; unfold szSs; omega
 ·have pr2 := odF h2
  refine Sk (Cq (Sr (Pe Y (Cb (Cl (fun m_ ac w' => ∃ (k : Nat), ∃ (lf : Int), (k ≤ a.length) ∧ (0 ≤ lf ∧ lf = left - a.length - ((a.take k).map (·.size)).sum) ∧ m_ = a.length - k ∧ Fits ac 28 [(0, v_a), (1, (iv lf)), (5, (nv k))] ∧ St w ([]) w') ?_ ?_)))))
  ·refine fun ac w' hf hs => ⟨_, 0, (left - ((a.length : Nat) : Int)), ?_, ?_, Y, hf.wk Y, hs⟩
   ·first | assumption | omega | simp
   ·simp; omega
  ·rintro m_ ac w' ⟨k, lf, hk, hl, rfl, hf, hs⟩
   refine D.use ?_ hf hs
   clear hf hs ac w'
   have ht := sums_take_le a k
   refine Cq (Sr (P2 Y Y (q1 Y (Dl s_58 Y Y (rd_sl h_a)) (Pe Y (Ci _ Y (fun h3 => ?_) (fun h3 => ?_))))))
   ·have pr3 := odT h3
    refine Sk (Cq (Cb (Sr (P3 Y Y Y ?_))))
    obtain ⟨s0, hs0⟩ := sL (l := a) (i := k) (by omega)
    have hs1 : s0.size ≤ 9223372036854775807 := ho _ (List.mem_of_getElem? hs0)
    obtain ⟨es4, at5, hr6⟩ := rd_elem (n := 1) rfl h_a hs0
    obtain rfl : es4 = [.string s0] := hr6
    refine q1 Y (D_ix (l := a) (j := k) s_58 Y Y Y (fun w' hs => (rA hs h_a)) Y (lS hs0)) (q1 Y (lr0 o_9 Y Y at5 Y) (q1 Y (D_lens us_9 Y Y) (q1 Y (D_sub Y Y Y Y (by omega)) (Pe Y (Sr (P2 Y Y (Dx (Ci _ Y (fun h7 => ?_) (fun h7 => ?_)))))))))
    ·have pr7 := odT h7
     refine Sr (Pe Y (Ct (Xq (Xr (Xr (Xq (Xr (Ri Y Y ?_))))))))
     show ((-1) : Int) = _
     refine (szm_neg ?_).symm; have := sums_take (l := a) hs0; have := sums_take_le a (k + 1); unfold szSs; omega
    ·have pr7 := odF h7
     refine Ck (Xb (Xt (Cr (p1 Y (q1 Y (D_add Y Y Y (r := ((k + 1 : Nat) : Int)) (by omega) (by omega)) (Pe Y (fun ac w' hf hs => ⟨_, ?_, k + 1, (lf - ((s0.size : Nat) : Int)), ?_, ?_, Y, hf.wk Y, hs⟩)))))))
     ·omega
     ·first | assumption | omega | simp
     ·have hst := sums_take (l := a) (k := k) (by assumption); rw [hst]; omega
   ·have pr3 := odF h3
    refine Cx (Xx (Xx (Xe (Xt (Sr (P2 Y Y (Dx (Ct (Ri Y Y ?_)))))))))
    show (lf : Int) = _
    rw [szm_pos]; all_goals (unfold szSs; rw [List.take_of_length_le (by omega)] at hl; omega)
theorem laws_szFact {w : World} {c_a : List Value} {a : Fact} {left : Int} (h_a : Gd.rd w c_a a) (h0 : 0 ≤ left) (h1 : left ≤ 1048576) (ho : okFa a) : Calls Tryz.prog 24 [(.agg c_a.toArray), (iv left)].toArray w (Val w (iv (szm (szFa a) left))) := by
 obtain ⟨u1, rfl, hu2⟩ := open_Fact h_a
 have hm3 := rd_max hu2
 have ho1 : a.Rel.size ≤ 9223372036854775807 := ho.1
 refine enter 19 Tryz.func24 Y Y Y (Sr (li Y (D_box Y Y Y Y Y fun g4 => ?_)))
 refine Pe Y (Dh ([bx g4 [(.string a.Rel), u1]]) Y (Sr (p1 Y (q1 Y (Db f_60_0 Y Y (q := 0) Y) (q1 Y (lb 0 o_9 Y Y Y Y) (q1 Y (D_lens us_9 Y Y) (q1 Y (D_sub Y Y Y Y (by omega)) (Pe Y (Cq (Sr (P2 Y Y (Dx (Ci _ Y (fun h5 => ?_) (fun h5 => ?_))))))))))))))
 ·have pr5 := odT h5
  refine Sr (Pe Y (Ct (Xr (Ri Y Y ?_))))
  show ((-1) : Int) = _
  unfold szFa szm at *; repeat (split at * <;> try omega)
 ·have pr5 := odF h5
  refine Sk (Sr (q1 Y (Db f_60_1 Y Y (q := 1) Y) (q1 Y (lb 0 o_58 Y Y Y Y) (p1 Y (li Y (cv b_70 Y Y Y Y (fun w' hs => (laws_szStringS (rA hs hu2) (by first | assumption | omega | (unfold szm at *; split at * <;> omega)) (by first | assumption | omega | (unfold szm at *; split at * <;> omega)) ho.2)) ?_))))))
  refine Pe Y (Cq (Sr (P2 Y Y (Dx (D_wk [1, 17] Y (D_pkO [] Y (Ci _ Y (fun h6 => ?_) (fun h6 => ?_))))))))
  ·have pr6 := odT h6
   refine Sr (Pe Y (Ct (Xr (Ri Y Y ?_))))
   show ((-1) : Int) = _
   unfold szFa szm at *; repeat (split at * <;> try omega)
  ·have pr6 := odF h6
   have pr6z := szm_val pr6
   refine Sk (Sr (P2 Y Y (Dx (Ct (Ri Y Y ?_)))))
   show ((szm (szSs a.Args) (left - ((a.Rel.size : Nat) : Int))) : Int) = _
   unfold szFa szm at *; repeat (split at * <;> try omega)
theorem laws_szEvent {w : World} {c_a : List Value} {a : Event} {left : Int} (h_a : Gd.rd w c_a a) (h0 : 0 ≤ left) (h1 : left ≤ 1048576) (ho : okEv a) : Calls Tryz.prog 121 [(.agg c_a.toArray), (iv left)].toArray w (Val w (iv (szm (szEv a) left))) := by
 obtain ⟨u1, rfl, hu2⟩ := open_Event h_a
 have hm3 := rd_max hu2
 have hb4 := sub_Event_Fact h_a
 have ho1 : a.Rule.size ≤ 9223372036854775807 := ho.2.1
 refine enter 19 Tryz.func121 Y Y Y (Sr (li Y (D_box Y Y Y Y Y fun g5 => ?_)))
 refine Pe Y (Dh ([bx g5 [(iv a.Kind), (.string a.Rule), (.string a.Fact.Rel), u1]]) Y (Sr (p1 Y (q1 Y (Db f_165_1 Y Y (q := 1) Y) (q1 Y (lb 0 o_9 Y Y Y Y) (q1 Y (D_lens us_9 Y Y) (q1 Y (D_sub Y Y Y Y (by omega)) (Pe Y (Cq (Sr (P2 Y Y (Dx (Ci _ Y (fun h6 => ?_) (fun h6 => ?_))))))))))))))
 ·have pr6 := odT h6
  refine Sr (Pe Y (Ct (Xr (Ri Y Y ?_))))
  show ((-1) : Int) = _
  unfold szEv szm at *; repeat (split at * <;> try omega)
 ·have pr6 := odF h6
  refine Sk (Sr (q1 Y (Db f_165_2 Y Y (q := 2) Y) (q1 Y (lba (es := [(.string a.Fact.Rel), u1]) 0 a_60 Y Y Y Y) (p1 Y (li Y (cv b_24 Y Y Y Y (fun w' hs => (laws_szFact (rA hs hb4) (by first | assumption | omega | (unfold szm at *; split at * <;> omega)) (by first | assumption | omega | (unfold szm at *; split at * <;> omega)) ho.2.2)) ?_))))))
  refine Pe Y (Cq (Sr (P2 Y Y (Dx (D_wk [1, 17] Y (D_pkO [] Y (Ci _ Y (fun h7 => ?_) (fun h7 => ?_))))))))
  ·have pr7 := odT h7
   refine Sr (Pe Y (Ct (Xr (Ri Y Y ?_))))
   show ((-1) : Int) = _
   unfold szEv szm at *; repeat (split at * <;> try omega)
  ·have pr7 := odF h7
   have pr7z := szm_val pr7
   refine Sk (Sr (P2 Y Y (Dx (Ct (Ri Y Y ?_)))))
   show ((szm (szFa a.Fact) (left - ((a.Rule.size : Nat) : Int))) : Int) = _
   unfold szEv szm at *; repeat (split at * <;> try omega)
theorem laws_toStringS {w : World} {v_a : Value} {a : (List ByteArray)} (h_a : Gd.rd w [v_a] a) (hn : a.length ≤ 1048576) : Calls Tryz.prog 77 [v_a].toArray w (Res w (a : List ByteArray)) := by
 have hm1 := rd_max h_a
 refine enter 22 Tryz.func77 Y Y Y (Sr (Pe Y (Sr (p1 Y (q1 Y (Dl s_58 Y Y (rd_sl h_a)) (li Y (D_mk (α := ByteArray) (z := ⟨#[]⟩) s_58 y_9 Y Y Y Y (by omega) (by omega) fun v2 => ?_)))))))
 refine Pe Y (Dh ([ov [v2] (List.replicate a.length (⟨#[]⟩) : (List ByteArray))]) Y (Cq (Sr (Pe Y (Cb (Cl (fun m_ ac w' => ∃ (k : Nat), ∃ (v : Value), (k ≤ a.length) ∧ m_ = a.length - k ∧ Fits ac 22 [(0, v_a), (3, v), (4, (nv k))] ∧ St w ([ov [v] (cp a ⟨#[]⟩ k : (List ByteArray))]) w') ?_ ?_))))))
 ·refine D_eq 0 Y (show (List.replicate a.length (⟨#[]⟩) : (List ByteArray)) = cp a ⟨#[]⟩ 0 from by rw [cp_zero]) (fun ac w' hf hs => ⟨_, 0, v2, ?_, Y, hf.wk Y, hs⟩)
  ·first | assumption | omega | simp
 ·rintro m_ ac w' ⟨k, v, hk, rfl, hf, hs⟩
  refine D.use ?_ hf hs
  clear hf hs ac w'
  have hcl := cp_len a ⟨#[]⟩ k hk
  refine Cq (Sr (P2 Y Y (q1 Y (Dl s_58 Y Y (rd_sl h_a)) (Pe Y (Dh ([_]) Y (Ci _ Y (fun h3 => ?_) (fun h3 => ?_)))))))
  ·have pr3 := odT h3
   refine Sk (Cq (Cb (Cr (P3 Y Y Y (p1 Y ?_)))))
   obtain ⟨x4, hx5⟩ := sL (l := a) (i := k) (by omega)
   obtain ⟨es6, at7, hr8⟩ := rd_elem (n := 1) rfl h_a hx5
   obtain rfl : es6 = [.string x4] := hr8
   refine q1 Y (D_ix (l := a) (j := k) s_58 Y Y Y (fun w' hs => (rA hs h_a)) Y (lS hx5)) (q1 Y (lr0 o_9 Y Y at7 Y) ?_)
   obtain ⟨x9, hx10⟩ := sL (l := (cp a ⟨#[]⟩ k)) (i := k) (by omega)
   refine q1 Y (D_ix (l := (cp a ⟨#[]⟩ k)) (j := k) s_58 Y Y Y (fun w' hs => (rO (k := 0) hs Y)) Y (lS hx10)) (li Y (so (α := ByteArray) (z := x4) 0 z_9 Y Y Y Y Y (lS hx10) ?_))
   refine De (Xb (Xt (Dh ([ov [v] ((cp a ⟨#[]⟩ k).set k x4 : (List ByteArray))]) Y (Cr (p1 Y (q1 Y (D_add Y Y Y (r := ((k + 1 : Nat) : Int)) (by omega) (by omega)) (Pe Y (D_eq 0 Y (show ((cp a ⟨#[]⟩ k).set k x4 : (List ByteArray)) = cp a ⟨#[]⟩ (k + 1) from by rw [cp_set (by assumption)]) (fun ac w' hf hs => ⟨_, ?_, k + 1, v, ?_, Y, hf.wk Y, hs⟩)))))))))
   ·omega
   ·first | assumption | omega | simp
  ·have pr3 := odF h3
   refine Cx (Xx (Xx (Xe (Xt (Sr (P2 Y Y (Dx (Ct (R_1 Y Y fun w' hs => res_of (k := 0) hs Y ?_)))))))))
   show cp a ⟨#[]⟩ k = a
   exact cp_done (by omega)
theorem laws_toFact {w : World} {c_a : List Value} {a : Fact} (h_a : Gd.rd w c_a a) (hn : szFa a ≤ 1048576) : Calls Tryz.prog 27 [(.agg c_a.toArray)].toArray w (Res w (a : Fact)) := by
 obtain ⟨u1, rfl, hu2⟩ := open_Fact h_a
 have hm3 := rd_max hu2
 unfold szFa szSs at hn
 refine enter 12 Tryz.func27 Y Y Y (Sr (li Y (D_box Y Y Y Y Y fun g4 => ?_)))
 refine li Y (D_alloc y_70 Y Y Y Y fun g5 => ?_)
 refine Dx (Dh ([bx g5 [(.string ⟨#[]⟩), (.slice none 0 0)], bx g4 [(.string a.Rel), u1]]) Y (Sr (li Y (D_alloc y_70 Y Y Y Y fun g6 => ?_))))
 refine Dx (Dh ([bx g6 [(.string ⟨#[]⟩), (.slice none 0 0)], _, _]) Y (Sr (q1 Y (Db f_60_0 Y Y (q := 0) Y) (q1 Y (lb 2 o_9 Y Y Y Y) (q1 Y (Db f_70_0 Y Y (q := 0) Y) (li Y (D_stb (vs := [(.string a.Rel)]) (cs' := [(.string a.Rel), (.slice none 0 0)]) 0 z_9 Y Y Y Y Y Y (ocons Y onil) (by simp) Y ?_)))))))
 refine Dx (Dh ([bx g6 [(.string a.Rel), (.slice none 0 0)], _, _]) Y (Sr (q1 Y (Db f_60_1 Y Y (q := 1) Y) (q1 Y (lb 2 o_58 Y Y Y Y) (li Y (crl b_77 Y Y Y Y (fun w' hs => (laws_toStringS (rA hs hu2) (by first | assumption | omega | (unfold szm at *; split at * <;> omega)))) fun v7 => ?_))))))
 refine q1 Y (Db f_70_1 Y Y (q := 1) Y) (Dp (fun w' hs => one_own (k := 0) hs Y) ?_)
 intro ho8
 refine li Y (D_stb (vs := [v7]) (cs' := [(.string a.Rel), v7]) 1 z_58 Y Y Y Y Y (cells_of_one ho8) (ocons ho8 onil) (by simp) Y ?_)
 refine Dx (Dh ([ov [v7] (a.Args : (List ByteArray)), bx g6 [(.string a.Rel), v7], _, _]) Y (Sr (q1 Y (lbw 1 a_70 Y Y Y) (li Y (D_stb (vs := [(.string a.Rel), v7]) (cs' := [(.string a.Rel), v7]) 2 z_70 Y Y Y Y Y Y (ocons Y (ocons ho8 onil)) (by simp) Y ?_)))))
 refine Dx (Ct (pk_Fact (r := (a : Fact)) (R_c 2 a_70 Y Y Y fun w' hs => res_of (k := 0) hs Y ?_)))
 show (a : Fact) = a
 rfl
theorem laws_toEvent {w : World} {c_a : List Value} {a : Event} (h_a : Gd.rd w c_a a) (hn : szEv a ≤ 1048576) : Calls Tryz.prog 130 [(.agg c_a.toArray)].toArray w (Res w (a : Event)) := by
 obtain ⟨u1, rfl, hu2⟩ := open_Event h_a
 have hm3 := rd_max hu2
 have hb4 := sub_Event_Fact h_a
 unfold szEv at hn
 refine enter 15 Tryz.func130 Y Y Y (Sr (li Y (D_box Y Y Y Y Y fun g5 => ?_)))
 refine li Y (D_alloc y_171 Y Y Y Y fun g6 => ?_)
 refine Dx (Dh ([bx g6 [(iv 0), (.string ⟨#[]⟩), (.string ⟨#[]⟩), (.slice none 0 0)], bx g5 [(iv a.Kind), (.string a.Rule), (.string a.Fact.Rel), u1]]) Y (Sr (li Y (D_alloc y_171 Y Y Y Y fun g7 => ?_))))
 refine Dx (Dh ([bx g7 [(iv 0), (.string ⟨#[]⟩), (.string ⟨#[]⟩), (.slice none 0 0)], _, _]) Y (Sr (q1 Y (Db f_165_0 Y Y (q := 0) Y) (q1 Y (lb 2 o_3 Y Y Y Y) (q1 Y (Db f_171_0 Y Y (q := 0) Y) (li Y (D_stb (vs := [(iv a.Kind)]) (cs' := [(iv a.Kind), (.string ⟨#[]⟩), (.string ⟨#[]⟩), (.slice none 0 0)]) 0 z_3 Y Y Y Y Y Y (ocons Y onil) (by simp) Y ?_)))))))
 refine Dx (Dh ([bx g7 [(iv a.Kind), (.string ⟨#[]⟩), (.string ⟨#[]⟩), (.slice none 0 0)], _, _]) Y (Sr (q1 Y (Db f_165_1 Y Y (q := 1) Y) (q1 Y (lb 2 o_9 Y Y Y Y) (q1 Y (Db f_171_1 Y Y (q := 1) Y) (li Y (D_stb (vs := [(.string a.Rule)]) (cs' := [(iv a.Kind), (.string a.Rule), (.string ⟨#[]⟩), (.slice none 0 0)]) 0 z_9 Y Y Y Y Y Y (ocons Y onil) (by simp) Y ?_)))))))
 refine Dx (Dh ([bx g7 [(iv a.Kind), (.string a.Rule), (.string ⟨#[]⟩), (.slice none 0 0)], _, _]) Y (Sr (q1 Y (Db f_165_2 Y Y (q := 2) Y) (q1 Y (lba (es := [(.string a.Fact.Rel), u1]) 2 a_60 Y Y Y Y) (li Y (crs Y b_27 Y Y Y Y (fun w' hs => (laws_toFact (rA hs hb4) (by first | assumption | omega | (unfold szm at *; split at * <;> omega)))) fun cs8 => ?_))))))
 refine Dp (fun w' hs => shape_Fact (rO (k := 0) hs Y)) ?_
 rintro ⟨v9, rfl, ho10⟩
 refine q1 Y (Db f_171_2 Y Y (q := 2) Y) (li Y (D_stb (vs := [(.string a.Fact.Rel), v9]) (cs' := [(iv a.Kind), (.string a.Rule), (.string a.Fact.Rel), v9]) 1 z_70 Y Y Y Y Y Y (ocons Y (ocons ho10 onil)) (by simp) Y ?_))
 refine Dx (Dh ([ov [(.string a.Fact.Rel), v9] (a.Fact : Fact), bx g7 [(iv a.Kind), (.string a.Rule), (.string a.Fact.Rel), v9], _, _]) Y (Sr (q1 Y (lbw 1 a_171 Y Y Y) (li Y (D_stb (vs := [(iv a.Kind), (.string a.Rule), (.string a.Fact.Rel), v9]) (cs' := [(iv a.Kind), (.string a.Rule), (.string a.Fact.Rel), v9]) 2 z_171 Y Y Y Y Y Y (ocons Y (ocons Y (ocons Y (ocons ho10 onil)))) (by simp) Y ?_)))))
 refine Dx (Ct (D_unpair (α := ByteArray) (β := (List ByteArray)) (c1 := [(.string a.Fact.Rel)]) (c2 := [v9]) (x := a.Fact.Rel) (y := (a.Fact.Args)) Y Y (D_fd [] 1 Y (pk_Event (r := (a : Event)) (R_c 2 a_171 Y Y Y fun w' hs => res_of (k := 0) hs Y ?_)))))
 show (a : Event) = a
 rfl
theorem laws_eqStringS {w : World} {v_a : Value} {a : (List ByteArray)} {v_b : Value} {b : (List ByteArray)} (h_a : Gd.rd w [v_a] a) (h_b : Gd.rd w [v_b] b) : Calls Tryz.prog 84 [v_a, v_b].toArray w (Val w (.bool (decide (a = b)))) := by
 have hm1 := rd_max h_a
 have hm2 := rd_max h_b
 refine enter 26 Tryz.func84 Y Y Y (Sr (Pe Y (Cq (Sr (p1 Y (q1 Y (Dl s_58 Y Y (rd_sl h_a)) (p1 Y (q1 Y (Dl s_58 Y Y (rd_sl h_b)) (Pe Y (Ci _ Y (fun h3 => ?_) (fun h3 => ?_)))))))))))
 ·have pr3 := bne_iff_ne.1 h3
  refine Sr (Pe Y (Ct (Xr (Rb Y Y ?_))))
  simp; intro e; subst e; simp_all
 ·have pr3 := eq_of_bne_f h3
  refine Sk (Cq (Sr (Pe Y (Cb (Cl (fun m_ ac w' => ∃ (k : Nat), (k ≤ a.length) ∧ (∀ i, i < k → a[i]? = b[i]?) ∧ m_ = a.length - k ∧ Fits ac 26 [(0, v_a), (1, v_b), (5, (nv k))] ∧ St w ([]) w') ?_ ?_)))))
  ·refine fun ac w' hf hs => ⟨_, 0, ?_, ?_, Y, hf.wk Y, hs⟩
   ·first | assumption | omega | simp
   ·intro i hi; omega
  ·rintro m_ ac w' ⟨k, hk, hi, rfl, hf, hs⟩
   refine D.use ?_ hf hs
   clear hf hs ac w'
   refine Cq (Sr (P2 Y Y (q1 Y (Dl s_58 Y Y (rd_sl h_a)) (Pe Y (Ci _ Y (fun h4 => ?_) (fun h4 => ?_))))))
   ·have pr4 := odT h4
    refine Sk (Cq (Cb (Cq (C_draw mixed [] (by kernel_rfl) (Tk 0 Y (by kernel_rfl) Y (rp Y) (Tk 1 Y (by kernel_rfl) Y (rp Y) ?_))))))
    obtain ⟨x5, hx6⟩ := sL (l := a) (i := k) (by omega)
    obtain ⟨es7, at8, hr9⟩ := rd_elem (n := 1) rfl h_a hx6
    obtain rfl : es7 = [.string x5] := hr9
    refine Tk 2 Y (by kernel_rfl) Y (D_ix (l := a) (j := k) s_58 Y Y Y (fun w' hs => (rA hs h_a)) Y (lS hx6)) (Tk 3 Y (by kernel_rfl) Y (lr0 o_9 Y Y at8 Y) (Tk 4 Y (by kernel_rfl) Y (rp Y) (Tk 5 Y (by kernel_rfl) Y (rp Y) ?_)))
    obtain ⟨x10, hx11⟩ := sL (l := b) (i := k) (by omega)
    obtain ⟨es12, at13, hr14⟩ := rd_elem (n := 1) rfl h_b hx11
    obtain rfl : es12 = [.string x10] := hr14
    refine Tk 6 Y (by kernel_rfl) Y (D_ix (l := b) (j := k) s_58 Y Y Y (fun w' hs => (rA hs h_b)) Y (lS hx11)) (Tk 7 Y (by kernel_rfl) Y (lr0 o_9 Y Y at13 Y) (Tk 8 Y (by kernel_rfl) Y (D_neS Y Y Y) (tE (by kernel_rfl) (Xt (Ci _ Y (fun h15 => ?_) (fun h15 => ?_))))))
    ·have pr15 := odF (not_t h15)
     refine Sr (Pe Y (Ct (Xq (Xr (Xr (Xq (Xr (Rb Y Y ?_))))))))
     simp; intro e; subst e; simp_all
    ·have pr15 := odT (not_f h15)
     refine Ck (Xb (Xt (Cr (p1 Y (q1 Y (D_add Y Y Y (r := ((k + 1 : Nat) : Int)) (by omega) (by omega)) (Pe Y (fun ac w' hf hs => ⟨_, ?_, k + 1, ?_, ?_, Y, hf.wk Y, hs⟩)))))))
     ·omega
     ·first | assumption | omega | simp
     ·exact idx_step hi (by assumption) (by assumption) (by simp_all)
   ·have pr4 := odF h4
    refine Cx (Xx (Xx (Xe (Xt (Sr (Pe Y (Ct (Rb Y Y ?_))))))))
    simp; exact eq_of_idx (by omega) (fun i h => hi i (by omega))
theorem laws_eqFact {w : World} {c_a : List Value} {a : Fact} {c_b : List Value} {b : Fact} (h_a : Gd.rd w c_a a) (h_b : Gd.rd w c_b b) : Calls Tryz.prog 30 [(.agg c_a.toArray), (.agg c_b.toArray)].toArray w (Val w (.bool (decide (a = b)))) := by
 obtain ⟨u1, rfl, hu2⟩ := open_Fact h_a
 have hm3 := rd_max hu2
 obtain ⟨u4, rfl, hu5⟩ := open_Fact h_b
 have hm6 := rd_max hu5
 refine enter 16 Tryz.func30 Y Y Y (Sr (li Y (D_box Y Y Y Y Y fun g7 => ?_)))
 refine li Y (D_box Y Y Y Y Y fun g8 => ?_)
 refine Pe Y (Dh ([bx g8 [(.string b.Rel), u4], bx g7 [(.string a.Rel), u1]]) Y (Cq (Sr (q1 Y (Db f_70_0 Y Y (q := 0) Y) (q1 Y (lb 1 o_9 Y Y Y Y) (q1 Y (Db f_70_0 Y Y (q := 0) Y) (q1 Y (lb 0 o_9 Y Y Y Y) (q1 Y (D_neS Y Y Y) (Dx (Ci _ Y (fun h9 => ?_) (fun h9 => ?_)))))))))))
 ·have pr9 := odF (not_t h9)
  refine Sr (Pe Y (Ct (Xr (Rb Y Y ?_))))
  cases a; cases b; simp_all
 ·have pr9 := odT (not_f h9)
  refine Sk (Cq (Sr (q1 Y (Db f_70_1 Y Y (q := 1) Y) (q1 Y (lb 1 o_58 Y Y Y Y) (q1 Y (Db f_70_1 Y Y (q := 1) Y) (q1 Y (lb 0 o_58 Y Y Y Y) (li Y (cv b_84 Y Y Y Y (fun w' hs => (laws_eqStringS (rA hs hu2) (rA hs hu5))) ?_))))))))
  refine Pe Y (D_wk [15] Y (D_pkO [] Y (Ci _ Y (fun h10 => ?_) (fun h10 => ?_))))
  ·have h10n := not_t h10
   refine Sr (Pe Y (Ct (Xr (Rb Y Y ?_))))
   cases a; cases b; simp_all
  ·have h10n := not_f h10
   refine Sk (Sr (Pe Y (Ct (Rb Y Y ?_))))
   cases a; cases b; simp_all
theorem laws_eqEvent {w : World} {c_a : List Value} {a : Event} {c_b : List Value} {b : Event} (h_a : Gd.rd w c_a a) (h_b : Gd.rd w c_b b) : Calls Tryz.prog 141 [(.agg c_a.toArray), (.agg c_b.toArray)].toArray w (Val w (.bool (decide (a = b)))) := by
 obtain ⟨u1, rfl, hu2⟩ := open_Event h_a
 have hm3 := rd_max hu2
 have hb4 := sub_Event_Fact h_a
 obtain ⟨u5, rfl, hu6⟩ := open_Event h_b
 have hm7 := rd_max hu6
 have hb8 := sub_Event_Fact h_b
 refine enter 21 Tryz.func141 Y Y Y (Sr (li Y (D_box Y Y Y Y Y fun g9 => ?_)))
 refine li Y (D_box Y Y Y Y Y fun g10 => ?_)
 refine Pe Y (Dh ([bx g10 [(iv b.Kind), (.string b.Rule), (.string b.Fact.Rel), u5], bx g9 [(iv a.Kind), (.string a.Rule), (.string a.Fact.Rel), u1]]) Y (Cq (Sr (q1 Y (Db f_171_0 Y Y (q := 0) Y) (q1 Y (lb 1 o_3 Y Y Y Y) (q1 Y (Db f_171_0 Y Y (q := 0) Y) (q1 Y (lb 0 o_3 Y Y Y Y) (Pe Y (Ci _ Y (fun h11 => ?_) (fun h11 => ?_))))))))))
 ·have pr11 := bne_iff_ne.1 h11
  refine Sr (Pe Y (Ct (Xr (Rb Y Y ?_))))
  cases a; cases b; simp_all
 ·have pr11 := eq_of_bne_f h11
  refine Sk (Cq (Sr (q1 Y (Db f_171_1 Y Y (q := 1) Y) (q1 Y (lb 1 o_9 Y Y Y Y) (q1 Y (Db f_171_1 Y Y (q := 1) Y) (q1 Y (lb 0 o_9 Y Y Y Y) (q1 Y (D_neS Y Y Y) (Dx (Ci _ Y (fun h12 => ?_) (fun h12 => ?_))))))))))
  ·have pr12 := odF (not_t h12)
   refine Sr (Pe Y (Ct (Xr (Rb Y Y ?_))))
   cases a; cases b; simp_all
  ·have pr12 := odT (not_f h12)
   refine Sk (Cq (Sr (q1 Y (Db f_171_2 Y Y (q := 2) Y) (q1 Y (lba (es := [(.string a.Fact.Rel), u1]) 1 a_70 Y Y Y Y) (q1 Y (Db f_171_2 Y Y (q := 2) Y) (q1 Y (lba (es := [(.string b.Fact.Rel), u5]) 0 a_70 Y Y Y Y) (li Y (cv b_30 Y Y Y Y (fun w' hs => (laws_eqFact (rA hs hb4) (rA hs hb8))) ?_))))))))
   refine Pe Y (D_wk [20] Y (D_pkO [] Y (Ci _ Y (fun h13 => ?_) (fun h13 => ?_))))
   ·have h13n := not_t h13
    refine Sr (Pe Y (Ct (Xr (Rb Y Y ?_))))
    cases a; cases b; simp_all
   ·have h13n := not_f h13
    refine Sk (Sr (Pe Y (Ct (Rb Y Y ?_))))
    cases a; cases b; simp_all
end Go.Sy.Ev1
