/-
  Contracts of functions of the program, walked (printed by a program of ours).
  Conditions: those that each theorem states.
-/
import Derived.Test.YtkbiaedfnpbpfaaGreatDoorBel1
import Derived.Test.YtkbiaedfnpbpfaaGreatDoorTypes
import Derived.Test.YtkbiaedfnpbpfaaGreatDoorEv
import Derived.Test.YtkbiaedfnpbpfaaGreatDoorBase
set_option linter.unusedVariables false
set_option maxRecDepth 20000
namespace Go.Sy.Ev1
open Go Go.RowKit Go.Proofs Go.Sy
theorem mixed : Tryz.prog.follows .mixedOrders = true := by kernel_rfl
theorem us_9 : Tryz.prog.underlying 9 = some .string := by kernel_rfl
theorem ui_3 : Tryz.prog.underlying 3 = some (.int .i64) := by kernel_rfl
theorem u8_5 : Tryz.prog.underlying 5 = some (.int .u8) := by kernel_rfl
theorem b_99 : hasBody Tryz.prog 99 = true := by kernel_rfl
theorem b_148 : hasBody Tryz.prog 148 = true := by kernel_rfl
theorem b_104 : hasBody Tryz.prog 104 = true := by kernel_rfl
theorem f_70_0 : fieldOff Tryz.prog 70 0 = some 0 := by kernel_rfl
theorem o_9 : oneTy Tryz.prog 9 = true := by kernel_rfl
theorem b_147 : hasBody Tryz.prog 147 = true := by kernel_rfl
theorem f_70_1 : fieldOff Tryz.prog 70 1 = some 1 := by kernel_rfl
theorem o_58 : oneTy Tryz.prog 58 = true := by kernel_rfl
theorem s_58 : sliceTy Tryz.prog 58 = some (9, 1, 16) := by kernel_rfl
theorem b_145 : hasBody Tryz.prog 145 = true := by kernel_rfl
theorem f_171_2 : fieldOff Tryz.prog 171 2 = some 2 := by kernel_rfl
theorem f_171_0 : fieldOff Tryz.prog 171 0 = some 0 := by kernel_rfl
theorem o_3 : oneTy Tryz.prog 3 = true := by kernel_rfl
theorem f_171_1 : fieldOff Tryz.prog 171 1 = some 1 := by kernel_rfl
theorem a_70 : aggTy Tryz.prog 70 = some 2 := by kernel_rfl
theorem b_93 : hasBody Tryz.prog 93 = true := by kernel_rfl
theorem b_91 : hasBody Tryz.prog 91 = true := by kernel_rfl
theorem f_60_0 : fieldOff Tryz.prog 60 0 = some 0 := by kernel_rfl
theorem f_60_1 : fieldOff Tryz.prog 60 1 = some 1 := by kernel_rfl
theorem b_70 : hasBody Tryz.prog 70 = true := by kernel_rfl
theorem f_165_1 : fieldOff Tryz.prog 165 1 = some 1 := by kernel_rfl
theorem f_165_2 : fieldOff Tryz.prog 165 2 = some 2 := by kernel_rfl
theorem a_60 : aggTy Tryz.prog 60 = some 2 := by kernel_rfl
theorem b_24 : hasBody Tryz.prog 24 = true := by kernel_rfl
theorem y_9 : zeroTy Tryz.prog 9 = some (.string ⟨#[]⟩) := by kernel_rfl
theorem z_9 : sizeTy Tryz.prog 9 = some 1 := by kernel_rfl
theorem y_70 : zeroTy Tryz.prog 70 = some (.agg #[(.string ⟨#[]⟩), (.slice none 0 0)]) := by kernel_rfl
theorem b_77 : hasBody Tryz.prog 77 = true := by kernel_rfl
theorem z_58 : sizeTy Tryz.prog 58 = some 1 := by kernel_rfl
theorem z_70 : sizeTy Tryz.prog 70 = some 2 := by kernel_rfl
theorem y_171 : zeroTy Tryz.prog 171 = some (.agg #[(.int .i64 0), (.string ⟨#[]⟩), (.string ⟨#[]⟩), (.slice none 0 0)]) := by kernel_rfl
theorem f_165_0 : fieldOff Tryz.prog 165 0 = some 0 := by kernel_rfl
theorem z_3 : sizeTy Tryz.prog 3 = some 1 := by kernel_rfl
theorem b_27 : hasBody Tryz.prog 27 = true := by kernel_rfl
theorem a_171 : aggTy Tryz.prog 171 = some 4 := by kernel_rfl
theorem z_171 : sizeTy Tryz.prog 171 = some 4 := by kernel_rfl
theorem b_84 : hasBody Tryz.prog 84 = true := by kernel_rfl
theorem b_30 : hasBody Tryz.prog 30 = true := by kernel_rfl
open Go.Sy.Bel1
set_option maxHeartbeats 4000000 in
theorem impl_IsAtom (w : World) (s : ByteArray) : Calls Tryz.prog 148 [(.string s)].toArray w (Val w (.bool (isAtomB s))) := by
 refine enter 40 Tryz.func148 rfl rfl rfl (Sr (Pe rfl (Cq (Sr (p1 rfl (q1 rfl (D_lens us_9 rfl rfl) (P2 rfl rfl (gs 7 rfl rfl (fun h1 => ?_) (fun h1 => ?_)))))))))
 ·have pr1 : (((s.size : Nat) : Int) : Int) < 1 := odT h1
  refine n1 rfl (n1 rfl (n1 rfl (Pe rfl (C_t rfl (Sr (Pe rfl (Ct (Xr (Rb rfl rfl ?_)))))))))
  first | exact atom_n1 (by omega) | exact atom_n2 (k := k) (by omega) (okCh_f (by omega)) | exact atom_y (by omega) (fun i h => hi i (by omega))
 ·have pr1 : ¬ (((s.size : Nat) : Int) : Int) < 1 := odF h1
  refine p1 rfl (q1 rfl (D_lens us_9 rfl rfl) (P2 rfl rfl (Dx (Ci _ rfl (fun h2 => ?_) (fun h2 => ?_)))))
  ·have pr2 : (8 : Int) < ((s.size : Nat) : Int) := odT h2
   refine Sr (Pe rfl (Ct (Xr (Rb rfl rfl ?_))))
   first | exact atom_n1 (by omega) | exact atom_n2 (k := k) (by omega) (okCh_f (by omega)) | exact atom_y (by omega) (fun i h => hi i (by omega))
  ·have pr2 : ¬ (8 : Int) < ((s.size : Nat) : Int) := odF h2
   refine Sk (Cq (Sr (Pe rfl (Cb (Cl (fun m_ ac w' => ∃ (k : Nat), (k ≤ s.size) ∧ (∀ i, i < k → okCh (sB s i) = true) ∧ m_ = s.size - k ∧ Fits ac 40 [(0, (.string s)), (3, (.int .i64 ((k : Nat) : Int)))] ∧ St w ([]) w') ?_ ?_)))))
   ·refine fun ac w' hf hs => ⟨_, 0, ?_, ?_, rfl, hf.weak ⟨rfl, rfl, trivial⟩, hs⟩
    ·first | assumption | omega | simp
    ·intro i hi; omega
   ·rintro m_ ac w' ⟨k, hk, hi, rfl, hf, hs⟩
    refine D.use ?_ hf hs
    clear hf hs ac w'
    refine Cq (Sr (P2 rfl rfl (q1 rfl (D_lens us_9 rfl rfl) (Pe rfl (Ci _ rfl (fun h3 => ?_) (fun h3 => ?_))))))
    ·have pr3 : (((k : Nat) : Int) : Int) < ((s.size : Nat) : Int) := odT h3
     refine Sk (Cq (Cb (Sr (P2 rfl rfl (q1 rfl (D_sidx (j := k) us_9 rfl rfl rfl rfl (by omega)) (P2 rfl rfl (gs 22 rfl rfl (fun h4 => ?_) (fun h4 => ?_))))))))
     ·have pr4 : ((sB s k) : Int) < 97 := odT h4
      refine n1 rfl (n1 rfl (n1 rfl (n1 rfl (P3 rfl rfl rfl (p1 rfl (q1 rfl (D_sidx (j := k) us_9 rfl rfl rfl rfl (by omega)) (P2 rfl rfl (gs 33 rfl rfl (fun h5 => ?_) (fun h5 => ?_)))))))))
      ·have pr5 : ((sB s k) : Int) < 48 := odT h5
       refine n1 rfl (n1 rfl (n1 rfl (n1 rfl (P2 rfl rfl (Dx (Dw [(0, (.string s)), (3, (.int .i64 ((k : Nat) : Int))), (39, (.bool true))] ⟨rfl, rfl, rfl, trivial⟩ (C_t rfl (Sr (Pe rfl (Ct (Xq (Xr (Xr (Xq (Xr (Rb rfl rfl ?_))))))))))))))))
       first | exact atom_n1 (by omega) | exact atom_n2 (k := k) (by omega) (okCh_f (by omega)) | exact atom_y (by omega) (fun i h => hi i (by omega))
      ·have pr5 : ¬ ((sB s k) : Int) < 48 := odF h5
       refine P2 rfl rfl (q1 rfl (D_sidx (j := k) us_9 rfl rfl rfl rfl (by omega)) (P3 rfl rfl rfl (Dx (Dw [(0, (.string s)), (3, (.int .i64 ((k : Nat) : Int))), (39, (.bool (decide ((57 : Int) < (sB s k)))))] ⟨rfl, rfl, rfl, trivial⟩ (Ci _ rfl (fun h6 => ?_) (fun h6 => ?_))))))
       ·have pr6 : (57 : Int) < (sB s k) := odT h6
        refine Sr (Pe rfl (Ct (Xq (Xr (Xr (Xq (Xr (Rb rfl rfl ?_))))))))
        first | exact atom_n1 (by omega) | exact atom_n2 (k := k) (by omega) (okCh_f (by omega)) | exact atom_y (by omega) (fun i h => hi i (by omega))
       ·have pr6 : ¬ (57 : Int) < (sB s k) := odF h6
        refine Ck (Xb (Xt (Cr (p1 rfl (q1 rfl (D_add rfl rfl rfl (r := ((k + 1 : Nat) : Int)) (by omega) (by omega)) (Pe rfl (fun ac w' hf hs => ⟨_, ?_, k + 1, ?_, ?_, rfl, hf.weak ⟨rfl, rfl, trivial⟩, hs⟩)))))))
        ·omega
        ·first | assumption | omega | simp
        ·exact forall_step hi (okCh_t (by omega))
     ·have pr4 : ¬ ((sB s k) : Int) < 97 := odF h4
      refine P2 rfl rfl (q1 rfl (D_sidx (j := k) us_9 rfl rfl rfl rfl (by omega)) (P3 rfl rfl rfl (gs 28 rfl rfl (fun h7 => ?_) (fun h7 => ?_))))
      ·have pr7 : (122 : Int) < (sB s k) := odT h7
       refine P2 rfl rfl (q1 rfl (D_sidx (j := k) us_9 rfl rfl rfl rfl (by omega)) (P2 rfl rfl (gs 33 rfl rfl (fun h8 => ?_) (fun h8 => ?_))))
       ·have pr8 : ((sB s k) : Int) < 48 := odT h8
        refine n1 rfl (n1 rfl (n1 rfl (n1 rfl (P2 rfl rfl (Dx (Dw [(0, (.string s)), (3, (.int .i64 ((k : Nat) : Int))), (39, (.bool true))] ⟨rfl, rfl, rfl, trivial⟩ (C_t rfl (Sr (Pe rfl (Ct (Xq (Xr (Xr (Xq (Xr (Rb rfl rfl ?_))))))))))))))))
        first | exact atom_n1 (by omega) | exact atom_n2 (k := k) (by omega) (okCh_f (by omega)) | exact atom_y (by omega) (fun i h => hi i (by omega))
       ·have pr8 : ¬ ((sB s k) : Int) < 48 := odF h8
        refine P2 rfl rfl (q1 rfl (D_sidx (j := k) us_9 rfl rfl rfl rfl (by omega)) (P3 rfl rfl rfl (Dx (Dw [(0, (.string s)), (3, (.int .i64 ((k : Nat) : Int))), (39, (.bool (decide ((57 : Int) < (sB s k)))))] ⟨rfl, rfl, rfl, trivial⟩ (Ci _ rfl (fun h9 => ?_) (fun h9 => ?_))))))
        ·have pr9 : (57 : Int) < (sB s k) := odT h9
         refine Sr (Pe rfl (Ct (Xq (Xr (Xr (Xq (Xr (Rb rfl rfl ?_))))))))
         first | exact atom_n1 (by omega) | exact atom_n2 (k := k) (by omega) (okCh_f (by omega)) | exact atom_y (by omega) (fun i h => hi i (by omega))
        ·have pr9 : ¬ (57 : Int) < (sB s k) := odF h9
         refine Ck (Xb (Xt (Cr (p1 rfl (q1 rfl (D_add rfl rfl rfl (r := ((k + 1 : Nat) : Int)) (by omega) (by omega)) (Pe rfl (fun ac w' hf hs => ⟨_, ?_, k + 1, ?_, ?_, rfl, hf.weak ⟨rfl, rfl, trivial⟩, hs⟩)))))))
         ·omega
         ·first | assumption | omega | simp
         ·exact forall_step hi (okCh_t (by omega))
      ·have pr7 : ¬ (122 : Int) < (sB s k) := odF h7
       refine n1 rfl (n1 rfl (n1 rfl (n1 rfl (n1 rfl (n1 rfl (n1 rfl (n1 rfl (n1 rfl (n1 rfl (Pe rfl (Dw [(0, (.string s)), (3, (.int .i64 ((k : Nat) : Int))), (39, (.bool false))] ⟨rfl, rfl, rfl, trivial⟩ (C_f rfl (Ck (Xb (Xt (Cr (p1 rfl (q1 rfl (D_add rfl rfl rfl (r := ((k + 1 : Nat) : Int)) (by omega) (by omega)) (Pe rfl ?_)))))))))))))))))))
       refine fun ac w' hf hs => ⟨_, ?_, k + 1, ?_, ?_, rfl, hf.weak ⟨rfl, rfl, trivial⟩, hs⟩
       ·omega
       ·first | assumption | omega | simp
       ·exact forall_step hi (okCh_t (by omega))
    ·have pr3 : ¬ (((k : Nat) : Int) : Int) < ((s.size : Nat) : Int) := odF h3
     refine Cx (Xx (Xx (Xe (Xt (Sr (Pe rfl (Ct (Rb rfl rfl ?_))))))))
     first | exact atom_n1 (by omega) | exact atom_n2 (k := k) (by omega) (okCh_f (by omega)) | exact atom_y (by omega) (fun i h => hi i (by omega))
theorem spec_IsAtom (w : World) (s : ByteArray) (hs0 : s.size ≤ 9223372036854775807) : Calls Tryz.prog 104 [(.string s)].toArray w (Val w (.bool (isAtomB s))) := by
 refine enter 27 Tryz.func104 rfl rfl rfl (Sr (Pe rfl (Cq (Sr (Pe rfl (Cb (Cl (fun m_ ac w' => ∃ (k : Nat), (k ≤ s.size) ∧ (∀ i, i < k → okCh (sB s i) = true) ∧ m_ = s.size - k ∧ Fits ac 27 [(0, (.string s)), (3, (.int .i64 ((k : Nat) : Int)))] ∧ St w ([]) w') ?_ ?_)))))))
 ·refine fun ac w' hf hs => ⟨_, 0, ?_, ?_, rfl, hf.weak ⟨rfl, rfl, trivial⟩, hs⟩
  ·first | assumption | omega | simp
  ·intro i hi; omega
 ·rintro m_ ac w' ⟨k, hk, hi, rfl, hf, hs⟩
  refine D.use ?_ hf hs
  clear hf hs ac w'
  refine Cq (Sr (P2 rfl rfl (q1 rfl (D_lens us_9 rfl rfl) (Pe rfl (Ci _ rfl (fun h1 => ?_) (fun h1 => ?_))))))
  ·have pr1 : (((k : Nat) : Int) : Int) < ((s.size : Nat) : Int) := odT h1
   refine Sk (Cq (Cb (Sr (P2 rfl rfl (q1 rfl (D_sidx (j := k) us_9 rfl rfl rfl rfl (by omega)) (q1 rfl (D_cvt ui_3 ⟨_, u8_5⟩ rfl rfl) (li rfl (cv b_99 rfl rfl rfl rfl (fun w' hs => (spec_l1In w' (sB s k) 97 122)) ?_))))))))
   refine P2 rfl rfl (gs 16 rfl rfl (fun h2 => ?_) (fun h2 => ?_))
   ·have h2n : (inR (sB s k) 97 122) = false := not_t h2
    refine P2 rfl rfl (q1 rfl (D_sidx (j := k) us_9 rfl rfl rfl rfl (by omega)) (q1 rfl (D_cvt ui_3 ⟨_, u8_5⟩ rfl rfl) (li rfl (cv b_99 rfl rfl rfl rfl (fun w' hs => (spec_l1In w' (sB s k) 48 57)) ?_))))
    refine P2 rfl rfl (Dx (Dw [(0, (.string s)), (3, (.int .i64 ((k : Nat) : Int))), (23, (.bool (!(inR (sB s k) 48 57))))] ⟨rfl, rfl, rfl, trivial⟩ (Ci _ rfl (fun h3 => ?_) (fun h3 => ?_))))
    ·have h3n : (inR (sB s k) 48 57) = false := not_t h3
     refine Sr (Pe rfl (Ct (Xq (Xr (Xr (Xq (Xr (Rb rfl rfl ?_))))))))
     exact atom_n2 (k := k) (by omega) (by unfold okCh; simp_all)
    ·have h3n : (inR (sB s k) 48 57) = true := not_f h3
     refine Ck (Xb (Xt (Cr (p1 rfl (q1 rfl (D_add rfl rfl rfl (r := ((k + 1 : Nat) : Int)) (by omega) (by omega)) (Pe rfl (fun ac w' hf hs => ⟨_, ?_, k + 1, ?_, ?_, rfl, hf.weak ⟨rfl, rfl, trivial⟩, hs⟩)))))))
     ·omega
     ·first | assumption | omega | simp
     ·exact forall_step hi (by unfold okCh; simp_all)
   ·have h2n : (inR (sB s k) 97 122) = true := not_f h2
    refine n1 rfl (n1 rfl (n1 rfl (n1 rfl (n1 rfl (n1 rfl (Pe rfl (Dw [(0, (.string s)), (3, (.int .i64 ((k : Nat) : Int))), (23, (.bool false))] ⟨rfl, rfl, rfl, trivial⟩ (C_f rfl (Ck (Xb (Xt (Cr (p1 rfl (q1 rfl (D_add rfl rfl rfl (r := ((k + 1 : Nat) : Int)) (by omega) (by omega)) (Pe rfl (fun ac w' hf hs => ⟨_, ?_, k + 1, ?_, ?_, rfl, hf.weak ⟨rfl, rfl, trivial⟩, hs⟩))))))))))))))))
    ·omega
    ·first | assumption | omega | simp
    ·exact forall_step hi (by unfold okCh; simp_all)
  ·have pr1 : ¬ (((k : Nat) : Int) : Int) < ((s.size : Nat) : Int) := odF h1
   refine Cx (Xx (Xx (Xe (Xt (Sr (p1 rfl (q1 rfl (D_lens us_9 rfl rfl) (li rfl (cv b_99 rfl rfl rfl rfl (fun w' hs => (spec_l1In w' ((s.size : Nat) : Int) 1 8)) ?_)))))))))
   refine Pe rfl (Ct (Rb rfl rfl ?_))
   show ((inR ((s.size : Nat) : Int) 1 8) : Bool) = _
   exact atom_w (fun i h => hi i (by omega))
theorem impl_IsName (w : World) (s : ByteArray) : Calls Tryz.prog 147 [(.string s)].toArray w (Val w (.bool (isNameB s))) := by
 refine enter 10 Tryz.func147 rfl rfl rfl (Sr (Pe rfl (Sr (p1 rfl (li rfl (cv b_148 rfl rfl rfl rfl (fun w' hs => (impl_IsAtom w' s)) ?_))))))
 refine p1 rfl (gs 5 rfl rfl (fun h1 => ?_) (fun h1 => ?_))
 ·refine p1 rfl ?_
  have hsz := atom_sz (s := s) (by assumption)
  refine q1 rfl (D_sidx (j := 0) us_9 rfl rfl rfl rfl (by omega)) (P3 rfl rfl rfl (Dx (Ct (Rb rfl rfl ?_))))
  show ((decide ((97 : Int) ≤ (sB s 0))) : Bool) = _
  unfold isNameB; simp_all
 ·refine n1 rfl (n1 rfl (n1 rfl (P2 rfl rfl (Dx (Ct (Rb rfl rfl ?_))))))
  unfold isNameB; simp_all
theorem spec_IsName (w : World) (s : ByteArray) (hs0 : s.size ≤ 9223372036854775807) : Calls Tryz.prog 145 [(.string s)].toArray w (Val w (.bool (isNameB s))) := by
 refine enter 11 Tryz.func145 rfl rfl rfl (Sr (Pe rfl (Sr (p1 rfl (li rfl (cv b_104 rfl rfl rfl rfl (fun w' hs => (spec_IsAtom w' s (by first | assumption | omega | (unfold szm at *; split at * <;> omega)))) ?_))))))
 refine p1 rfl (gs 5 rfl rfl (fun h1 => ?_) (fun h1 => ?_))
 ·refine p1 rfl ?_
  have hsz := atom_sz (s := s) (by assumption)
  refine q1 rfl (D_sidx (j := 0) us_9 rfl rfl rfl rfl (by omega)) (q1 rfl (D_cvt ui_3 ⟨_, u8_5⟩ rfl rfl) (li rfl (cv b_99 rfl rfl rfl rfl (fun w' hs => (spec_l1In w' (sB s 0) 97 122)) ?_)))
  refine P2 rfl rfl (Dx (Ct (Rb rfl rfl ?_)))
  show ((inR (sB s 0) 97 122) : Bool) = _
  unfold isNameB; rw [name_w (by assumption)]; simp_all
 ·refine n1 rfl (n1 rfl (n1 rfl (n1 rfl (P2 rfl rfl (Dx (Ct (Rb rfl rfl ?_)))))))
  unfold isNameB; simp_all
theorem impl_IsFact (w : World) (c_f : List Value) (f : Fact) (h_f : Gd.rd w c_f f) : Calls Tryz.prog 93 [(.agg c_f.toArray)].toArray w (Val w (.bool (isFactB f))) := by
 obtain ⟨u1, rfl, hu2⟩ := open_Fact h_f
 have hm3 := rd_max hu2
 refine enter 26 Tryz.func93 rfl rfl rfl (Sr (li rfl (D_box rfl rfl rfl rfl rfl fun g4 => ?_)))
 refine Pe rfl (Dh ([bx g4 [(.string f.Rel), u1]]) rfl (Cq (Sr (q1 rfl (Db f_70_0 rfl rfl (q := 0) rfl) (q1 rfl (lb 0 o_9 rfl rfl rfl rfl) (li rfl (cv b_147 rfl rfl rfl rfl (fun w' hs => (impl_IsName w' f.Rel)) ?_)))))))
 refine P2 rfl rfl (gs 9 rfl rfl (fun h5 => ?_) (fun h5 => ?_))
 ·have h5n : (isNameB f.Rel) = false := not_t h5
  refine n1 rfl (n1 rfl (n1 rfl (n1 rfl (Pe rfl (C_t rfl (Sr (Pe rfl (Ct (Xr (Rb rfl rfl ?_))))))))))
  unfold isFactB; simp_all
 ·have h5n : (isNameB f.Rel) = true := not_f h5
  refine q1 rfl (Db f_70_1 rfl rfl (q := 1) rfl) (q1 rfl (lb 0 o_58 rfl rfl rfl rfl) (q1 rfl (Dl s_58 rfl rfl (rd_sl hu2)) (P2 rfl rfl (Dx (Ci _ rfl (fun h6 => ?_) (fun h6 => ?_))))))
  ·have pr6 : (3 : Int) < ((f.Args.length : Nat) : Int) := odT h6
   refine Sr (Pe rfl (Ct (Xr (Rb rfl rfl ?_))))
   unfold isFactB; rw [decide_eq_false (by omega : ¬ f.Args.length ≤ 3)]; simp
  ·have pr6 : ¬ (3 : Int) < ((f.Args.length : Nat) : Int) := odF h6
   refine Sk (Cq (Sr (q1 rfl (Db f_70_1 rfl rfl (q := 1) rfl) (q1 rfl (lb 0 o_58 rfl rfl rfl rfl) (q1 rfl (Dl s_58 rfl rfl (rd_sl hu2)) (Pe rfl (Cb (Cl (fun m_ ac w' => ∃ (k : Nat), (k ≤ f.Args.length) ∧ (∀ i, i < k → ∀ y, f.Args[i]? = some y → isAtomB y = true) ∧ m_ = f.Args.length - k ∧ Fits ac 26 [(16, u1), (17, (.int .i64 ((f.Args.length : Nat) : Int))), (18, (.int .i64 ((k : Nat) : Int)))] ∧ St w ([bx g4 [(.string f.Rel), u1]]) w') ?_ ?_))))))))
   ·refine fun ac w' hf hs => ⟨_, 0, ?_, ?_, rfl, hf.weak ⟨rfl, rfl, rfl, trivial⟩, hs⟩
    ·first | assumption | omega | simp
    ·intro i hi; omega
   ·rintro m_ ac w' ⟨k, hk, hi, rfl, hf, hs⟩
    refine D.use ?_ hf hs
    clear hf hs ac w'
    refine Sr (Pe rfl (Cq (Ci _ rfl (fun h7 => ?_) (fun h7 => ?_))))
    ·have pr7 : (((k : Nat) : Int) : Int) < ((f.Args.length : Nat) : Int) := odT h7
     refine Sk (Cq (Cb (Sr ?_)))
     obtain ⟨a0, ha0⟩ := sL (l := f.Args) (i := k) (by omega)
     obtain ⟨es8, at9, hr10⟩ := rd_elem (n := 1) rfl hu2 ha0
     obtain rfl : es8 = [.string a0] := hr10
     refine q1 rfl (D_ix (l := f.Args) (j := k) s_58 rfl rfl rfl (fun w' hs => (rA hs hu2)) rfl (lS ha0)) (q1 rfl (lr0 o_9 rfl rfl at9 rfl) (Pe rfl (Sr (p1 rfl (li rfl (cv b_148 rfl rfl rfl rfl (fun w' hs => (impl_IsAtom w' a0)) ?_))))))
     refine Pe rfl (Ci _ rfl (fun h11 => ?_) (fun h11 => ?_))
     ·have h11n : (isAtomB a0) = false := not_t h11
      refine Sr (Pe rfl (Ct (Xq (Xr (Xr (Xq (Xr (Rb rfl rfl ?_))))))))
      unfold isFactB; rw [all_bad (p := isAtomB) ha0 h11n]; simp
     ·have h11n : (isAtomB a0) = true := not_f h11
      refine Ck (Xb (Xt (Cr (q1 rfl (D_add rfl rfl rfl (r := ((k + 1 : Nat) : Int)) (by omega) (by omega)) (Pe rfl (fun ac w' hf hs => ⟨_, ?_, k + 1, ?_, ?_, rfl, hf.weak ⟨rfl, rfl, rfl, trivial⟩, hs⟩))))))
      ·omega
      ·first | assumption | omega | simp
      ·refine forall_step hi ?_; intro y hy; obtain rfl : y = a0 := Option.some.inj (hy.symm.trans ha0); exact h11n
    ·have pr7 : ¬ (((k : Nat) : Int) : Int) < ((f.Args.length : Nat) : Int) := odF h7
     refine Cx (Xx (Xx (Xe (Xt (Sr (Pe rfl (Ct (Rb rfl rfl ?_))))))))
     unfold isFactB; rw [all_of_idx (p := isAtomB) (fun i h => hi i (by omega)), decide_eq_true (by omega : f.Args.length ≤ 3)]; simp_all
theorem spec_IsFact (w : World) (c_f : List Value) (f : Fact) (h_f : Gd.rd w c_f f) (hf0 : okFa f) : Calls Tryz.prog 91 [(.agg c_f.toArray)].toArray w (Val w (.bool (isFactB f))) := by
 obtain ⟨u1, rfl, hu2⟩ := open_Fact h_f
 have hm3 := rd_max hu2
 refine enter 27 Tryz.func91 rfl rfl rfl (Sr (li rfl (D_box rfl rfl rfl rfl rfl fun g4 => ?_)))
 refine Pe rfl (Dh ([bx g4 [(.string f.Rel), u1]]) rfl (Cq (Sr (Pe rfl (Cb (Cl (fun m_ ac w' => ∃ (k : Nat), (k ≤ f.Args.length) ∧ (∀ i, i < k → ∀ y, f.Args[i]? = some y → isAtomB y = true) ∧ m_ = f.Args.length - k ∧ Fits ac 27 [(1, (.pointer (some ⟨g4, 0, none⟩))), (3, (.int .i64 ((k : Nat) : Int)))] ∧ St w ([bx g4 [(.string f.Rel), u1]]) w') ?_ ?_))))))
 ·refine fun ac w' hf hs => ⟨_, 0, ?_, ?_, rfl, hf.weak ⟨rfl, rfl, trivial⟩, hs⟩
  ·first | assumption | omega | simp
  ·intro i hi; omega
 ·rintro m_ ac w' ⟨k, hk, hi, rfl, hf, hs⟩
  refine D.use ?_ hf hs
  clear hf hs ac w'
  refine Cq (Sr (p1 rfl (q1 rfl (Db f_70_1 rfl rfl (q := 1) rfl) (q1 rfl (lb 0 o_58 rfl rfl rfl rfl) (q1 rfl (Dl s_58 rfl rfl (rd_sl hu2)) (Pe rfl (Ci _ rfl (fun h5 => ?_) (fun h5 => ?_))))))))
  ·have pr5 : (((k : Nat) : Int) : Int) < ((f.Args.length : Nat) : Int) := odT h5
   refine Sk (Cq (Cb (Sr (q1 rfl (Db f_70_1 rfl rfl (q := 1) rfl) (q1 rfl (lb 0 o_58 rfl rfl rfl rfl) (p1 rfl ?_))))))
   obtain ⟨a0, ha0⟩ := sL (l := f.Args) (i := k) (by omega)
   have hs1 : a0.size ≤ 9223372036854775807 := hf0.2 _ (List.mem_of_getElem? ha0)
   obtain ⟨es6, at7, hr8⟩ := rd_elem (n := 1) rfl hu2 ha0
   obtain rfl : es6 = [.string a0] := hr8
   refine q1 rfl (D_ix (l := f.Args) (j := k) s_58 rfl rfl rfl (fun w' hs => (rA hs hu2)) rfl (lS ha0)) (q1 rfl (lr0 o_9 rfl rfl at7 rfl) (li rfl (cv b_104 rfl rfl rfl rfl (fun w' hs => (spec_IsAtom w' a0 (by first | assumption | omega | (unfold szm at *; split at * <;> omega)))) ?_)))
   refine Pe rfl (Ci _ rfl (fun h9 => ?_) (fun h9 => ?_))
   ·have h9n : (isAtomB a0) = false := not_t h9
    refine Sr (Pe rfl (Ct (Xq (Xr (Xr (Xq (Xr (Rb rfl rfl ?_))))))))
    unfold isFactB; rw [all_bad (p := isAtomB) ha0 h9n]; simp
   ·have h9n : (isAtomB a0) = true := not_f h9
    refine Ck (Xb (Xt (Cr (p1 rfl (q1 rfl (D_add rfl rfl rfl (r := ((k + 1 : Nat) : Int)) (by omega) (by omega)) (Pe rfl (fun ac w' hf hs => ⟨_, ?_, k + 1, ?_, ?_, rfl, hf.weak ⟨rfl, rfl, trivial⟩, hs⟩)))))))
    ·omega
    ·first | assumption | omega | simp
    ·refine forall_step hi ?_; intro y hy; obtain rfl : y = a0 := Option.some.inj (hy.symm.trans ha0); exact h9n
  ·have pr5 : ¬ (((k : Nat) : Int) : Int) < ((f.Args.length : Nat) : Int) := odF h5
   refine Cx (Xx (Xx (Xe (Xt (Sr (q1 rfl (Db f_70_0 rfl rfl (q := 0) rfl) (q1 rfl (lb 0 o_9 rfl rfl rfl rfl) (li rfl (cv b_145 rfl rfl rfl rfl (fun w' hs => (spec_IsName w' f.Rel hf0.1)) ?_)))))))))
   refine p1 rfl (gs 21 rfl rfl (fun h10 => ?_) (fun h10 => ?_))
   ·refine q1 rfl (Db f_70_1 rfl rfl (q := 1) rfl) (q1 rfl (lb 0 o_58 rfl rfl rfl rfl) (q1 rfl (Dl s_58 rfl rfl (rd_sl hu2)) (P3 rfl rfl rfl (Dx (Ct (Rb rfl rfl ?_))))))
    show ((decide ((((f.Args.length : Nat) : Int) : Int) ≤ 3)) : Bool) = _
    unfold isFactB; rw [all_of_idx (p := isAtomB) (fun i h => hi i (by omega))]; simp_all; try omega
   ·refine n1 rfl (n1 rfl (n1 rfl (n1 rfl (P2 rfl rfl (Dx (Ct (Rb rfl rfl ?_)))))))
    unfold isFactB; rw [all_of_idx (p := isAtomB) (fun i h => hi i (by omega))]; simp_all; try omega
set_option maxHeartbeats 4000000 in
theorem impl_IsEvent (w : World) (c_x : List Value) (x : Event) (h_x : Gd.rd w c_x x) : Calls Tryz.prog 137 [(.agg c_x.toArray)].toArray w (Val w (.bool (isEventB x))) := by
 obtain ⟨u1, rfl, hu2⟩ := open_Event h_x
 have hm3 := rd_max hu2
 have hb4 := sub_Event_Fact h_x
 refine enter 48 Tryz.func137 rfl rfl rfl (Sr (li rfl (D_box rfl rfl rfl rfl rfl fun g5 => ?_)))
 refine Pe rfl (Dh ([bx g5 [(.int .i64 x.Kind), (.string x.Rule), (.string x.Fact.Rel), u1]]) rfl (Sr (q1 rfl (Db f_171_2 rfl rfl (q := 2) rfl) (q1 rfl (Db f_70_0 rfl rfl (q := 2) rfl) (q1 rfl (lb 0 o_9 rfl rfl rfl rfl) (q1 rfl (D_eqS rfl rfl rfl) (p1 rfl (gs 8 rfl rfl (fun h6 => ?_) (fun h6 => ?_)))))))))
 ·have pr6 : (x.Fact.Rel : ByteArray) = ⟨#[]⟩ := odT h6
  refine q1 rfl (Db f_171_2 rfl rfl (q := 2) rfl) (q1 rfl (Db f_70_1 rfl rfl (q := 3) rfl) (q1 rfl (lb 0 o_58 rfl rfl rfl rfl) (q1 rfl (Dl s_58 rfl rfl (rd_sl hu2)) (P3 rfl rfl rfl (Dx (Cq (Sr (q1 rfl (Db f_171_0 rfl rfl (q := 0) rfl) (q1 rfl (lb 0 o_3 rfl rfl rfl rfl) (Dx (Cb (Cq (Sr (P2 rfl rfl (Dx (Dw [(1, (.pointer (some ⟨g5, 0, none⟩))), (3, (.bool ((((x.Fact.Args.length : Nat) : Int) : Int) == 0))), (16, (.int .i64 x.Kind)), (17, (.bool ((x.Kind : Int) == 1)))] ⟨rfl, rfl, rfl, rfl, trivial⟩ (Ci _ rfl (fun h7 => ?_) (fun h7 => ?_))))))))))))))))))
  ·have pr7 : (x.Kind : Int) = 1 := eq_of_beq h7
   refine Sk (C_kt rfl h7 (Sr (q1 rfl (Db f_171_1 rfl rfl (q := 1) rfl) (q1 rfl (lb 0 o_9 rfl rfl rfl rfl) (q1 rfl (D_eqS rfl rfl rfl) (p1 rfl (gs 23 rfl rfl (fun h9 => ?_) (fun h9 => ?_))))))))
   ·have pr9 : (x.Rule : ByteArray) = ⟨#[]⟩ := odT h9
    refine q1 rfl (Db f_171_2 rfl rfl (q := 2) rfl) (q1 rfl (lba (es := [(.string x.Fact.Rel), u1]) 0 a_70 rfl rfl rfl rfl) (li rfl (cv b_93 rfl rfl rfl rfl (fun w' hs => (impl_IsFact w' [(.string x.Fact.Rel), u1] x.Fact (rA hs hb4))) ?_)))
    refine P2 rfl rfl (Dx (Ct (Xq (Xr (Rb rfl rfl ?_)))))
    show ((isFactB x.Fact) : Bool) = _
    unfold isEventB; simp_all; try (first | omega | (rw [Bool.eq_iff_iff]; simp))
   ·have pr9 : ¬ (x.Rule : ByteArray) = ⟨#[]⟩ := odF h9
    refine n1 rfl (n1 rfl (n1 rfl (P2 rfl rfl (Dx (Ct (Xq (Xr (Rb rfl rfl ?_))))))))
    unfold isEventB; simp_all; try (first | omega | (rw [Bool.eq_iff_iff]; simp))
  ·have pr7 : (x.Kind : Int) ≠ 1 := ne_of_beq_false h7
   refine Cr (P2 rfl rfl (Dx (Ci _ rfl (fun h25 => ?_) (fun h25 => ?_))))
   ·have pr25 : (x.Kind : Int) = 2 := eq_of_beq h25
    refine Sr (q1 rfl (Db f_171_1 rfl rfl (q := 1) rfl) (q1 rfl (lb 0 o_9 rfl rfl rfl rfl) (q1 rfl (D_eqS rfl rfl rfl) (p1 rfl (gs 23 rfl rfl (fun h26 => ?_) (fun h26 => ?_))))))
    ·have pr26 : (x.Rule : ByteArray) = ⟨#[]⟩ := odT h26
     refine q1 rfl (Db f_171_2 rfl rfl (q := 2) rfl) (q1 rfl (lba (es := [(.string x.Fact.Rel), u1]) 0 a_70 rfl rfl rfl rfl) (li rfl (cv b_93 rfl rfl rfl rfl (fun w' hs => (impl_IsFact w' [(.string x.Fact.Rel), u1] x.Fact (rA hs hb4))) ?_)))
     refine P2 rfl rfl (Dx (Ct (Xq (Xr (Rb rfl rfl ?_)))))
     show ((isFactB x.Fact) : Bool) = _
     unfold isEventB; simp_all; try (first | omega | (rw [Bool.eq_iff_iff]; simp))
    ·have pr26 : ¬ (x.Rule : ByteArray) = ⟨#[]⟩ := odF h26
     refine n1 rfl (n1 rfl (n1 rfl (P2 rfl rfl (Dx (Ct (Xq (Xr (Rb rfl rfl ?_))))))))
     unfold isEventB; simp_all; try (first | omega | (rw [Bool.eq_iff_iff]; simp))
   ·have pr25 : (x.Kind : Int) ≠ 2 := ne_of_beq_false h25
    refine Cq (Sr (P2 rfl rfl (Dx (Ci _ rfl (fun h27 => ?_) (fun h27 => ?_)))))
    ·have pr27 : (x.Kind : Int) = 3 := eq_of_beq h27
     refine Sk (C_kt rfl h27 (Sr (q1 rfl (Db f_171_1 rfl rfl (q := 1) rfl) (q1 rfl (lb 0 o_9 rfl rfl rfl rfl) (li rfl (cv b_147 rfl rfl rfl rfl (fun w' hs => (impl_IsName w' x.Rule)) ?_))))))
     refine p1 rfl (gs 34 rfl rfl (fun h29 => ?_) (fun h29 => ?_))
     ·refine P3 rfl rfl rfl (Dx (Ct (Xq (Xr (Rb rfl rfl ?_)))))
      show (((((x.Fact.Args.length : Nat) : Int) : Int) == 0) : Bool) = _
      unfold isEventB; simp_all; try (first | omega | (rw [Bool.eq_iff_iff]; simp))
     ·refine n1 rfl (P2 rfl rfl (Dx (Ct (Xq (Xr (Rb rfl rfl ?_))))))
      unfold isEventB; simp_all; try (first | omega | (rw [Bool.eq_iff_iff]; simp))
    ·have pr27 : (x.Kind : Int) ≠ 3 := ne_of_beq_false h27
     refine Cr (P2 rfl rfl (Dx (Ci _ rfl (fun h35 => ?_) (fun h35 => ?_))))
     ·have pr35 : (x.Kind : Int) = 6 := eq_of_beq h35
      refine Sr (q1 rfl (Db f_171_1 rfl rfl (q := 1) rfl) (q1 rfl (lb 0 o_9 rfl rfl rfl rfl) (li rfl (cv b_147 rfl rfl rfl rfl (fun w' hs => (impl_IsName w' x.Rule)) ?_))))
      refine p1 rfl (gs 34 rfl rfl (fun h36 => ?_) (fun h36 => ?_))
      ·refine P3 rfl rfl rfl (Dx (Ct (Xq (Xr (Rb rfl rfl ?_)))))
       show (((((x.Fact.Args.length : Nat) : Int) : Int) == 0) : Bool) = _
       unfold isEventB; simp_all; try (first | omega | (rw [Bool.eq_iff_iff]; simp))
      ·refine n1 rfl (P2 rfl rfl (Dx (Ct (Xq (Xr (Rb rfl rfl ?_))))))
       unfold isEventB; simp_all; try (first | omega | (rw [Bool.eq_iff_iff]; simp))
     ·have pr35 : (x.Kind : Int) ≠ 6 := ne_of_beq_false h35
      refine Cq (Sr (P2 rfl rfl (Dx (Ci _ rfl (fun h37 => ?_) (fun h37 => ?_)))))
      ·have pr37 : (x.Kind : Int) = 4 := eq_of_beq h37
       refine Sk (C_kt rfl h37 (Sr (q1 rfl (Db f_171_1 rfl rfl (q := 1) rfl) (q1 rfl (lb 0 o_9 rfl rfl rfl rfl) (li rfl (cv b_147 rfl rfl rfl rfl (fun w' hs => (impl_IsName w' x.Rule)) ?_))))))
       refine p1 rfl (gs 43 rfl rfl (fun h39 => ?_) (fun h39 => ?_))
       ·refine q1 rfl (Db f_171_2 rfl rfl (q := 2) rfl) (q1 rfl (lba (es := [(.string x.Fact.Rel), u1]) 0 a_70 rfl rfl rfl rfl) (li rfl (cv b_93 rfl rfl rfl rfl (fun w' hs => (impl_IsFact w' [(.string x.Fact.Rel), u1] x.Fact (rA hs hb4))) ?_)))
        refine P2 rfl rfl (Dx (Ct (Xq (Xr (Rb rfl rfl ?_)))))
        show ((isFactB x.Fact) : Bool) = _
        unfold isEventB; simp_all; try (first | omega | (rw [Bool.eq_iff_iff]; simp))
       ·refine n1 rfl (n1 rfl (n1 rfl (P2 rfl rfl (Dx (Ct (Xq (Xr (Rb rfl rfl ?_))))))))
        unfold isEventB; simp_all; try (first | omega | (rw [Bool.eq_iff_iff]; simp))
      ·have pr37 : (x.Kind : Int) ≠ 4 := ne_of_beq_false h37
       refine Cr (P2 rfl rfl (Dx (Ci _ rfl (fun h40 => ?_) (fun h40 => ?_))))
       ·have pr40 : (x.Kind : Int) = 5 := eq_of_beq h40
        refine Sr (q1 rfl (Db f_171_1 rfl rfl (q := 1) rfl) (q1 rfl (lb 0 o_9 rfl rfl rfl rfl) (li rfl (cv b_147 rfl rfl rfl rfl (fun w' hs => (impl_IsName w' x.Rule)) ?_))))
        refine p1 rfl (gs 43 rfl rfl (fun h41 => ?_) (fun h41 => ?_))
        ·refine q1 rfl (Db f_171_2 rfl rfl (q := 2) rfl) (q1 rfl (lba (es := [(.string x.Fact.Rel), u1]) 0 a_70 rfl rfl rfl rfl) (li rfl (cv b_93 rfl rfl rfl rfl (fun w' hs => (impl_IsFact w' [(.string x.Fact.Rel), u1] x.Fact (rA hs hb4))) ?_)))
         refine P2 rfl rfl (Dx (Ct (Xq (Xr (Rb rfl rfl ?_)))))
         show ((isFactB x.Fact) : Bool) = _
         unfold isEventB; simp_all; try (first | omega | (rw [Bool.eq_iff_iff]; simp))
        ·refine n1 rfl (n1 rfl (n1 rfl (P2 rfl rfl (Dx (Ct (Xq (Xr (Rb rfl rfl ?_))))))))
         unfold isEventB; simp_all; try (first | omega | (rw [Bool.eq_iff_iff]; simp))
       ·have pr40 : (x.Kind : Int) ≠ 5 := ne_of_beq_false h40
        refine Ck (Xb (Xt (Sr (Pe rfl (Ct (Rb rfl rfl ?_))))))
        unfold isEventB; simp_all; try (first | omega | (rw [Bool.eq_iff_iff]; simp))
 ·have pr6 : ¬ (x.Fact.Rel : ByteArray) = ⟨#[]⟩ := odF h6
  refine n1 rfl (n1 rfl (n1 rfl (n1 rfl (n1 rfl (P2 rfl rfl (Dx (Cq (Sr (q1 rfl (Db f_171_0 rfl rfl (q := 0) rfl) (q1 rfl (lb 0 o_3 rfl rfl rfl rfl) (Dx (Cb (Cq (Sr (P2 rfl rfl (Dx (Dw [(1, (.pointer (some ⟨g5, 0, none⟩))), (3, (.bool false)), (16, (.int .i64 x.Kind)), (17, (.bool ((x.Kind : Int) == 1)))] ⟨rfl, rfl, rfl, rfl, trivial⟩ (Ci _ rfl (fun h42 => ?_) (fun h42 => ?_)))))))))))))))))))
  ·have pr42 : (x.Kind : Int) = 1 := eq_of_beq h42
   refine Sk (C_kt rfl h42 (Sr (q1 rfl (Db f_171_1 rfl rfl (q := 1) rfl) (q1 rfl (lb 0 o_9 rfl rfl rfl rfl) (q1 rfl (D_eqS rfl rfl rfl) (p1 rfl (gs 23 rfl rfl (fun h44 => ?_) (fun h44 => ?_))))))))
   ·have pr44 : (x.Rule : ByteArray) = ⟨#[]⟩ := odT h44
    refine q1 rfl (Db f_171_2 rfl rfl (q := 2) rfl) (q1 rfl (lba (es := [(.string x.Fact.Rel), u1]) 0 a_70 rfl rfl rfl rfl) (li rfl (cv b_93 rfl rfl rfl rfl (fun w' hs => (impl_IsFact w' [(.string x.Fact.Rel), u1] x.Fact (rA hs hb4))) ?_)))
    refine P2 rfl rfl (Dx (Ct (Xq (Xr (Rb rfl rfl ?_)))))
    show ((isFactB x.Fact) : Bool) = _
    unfold isEventB; simp_all; try (first | omega | (rw [Bool.eq_iff_iff]; simp))
   ·have pr44 : ¬ (x.Rule : ByteArray) = ⟨#[]⟩ := odF h44
    refine n1 rfl (n1 rfl (n1 rfl (P2 rfl rfl (Dx (Ct (Xq (Xr (Rb rfl rfl ?_))))))))
    unfold isEventB; simp_all; try (first | omega | (rw [Bool.eq_iff_iff]; simp))
  ·have pr42 : (x.Kind : Int) ≠ 1 := ne_of_beq_false h42
   refine Cr (P2 rfl rfl (Dx (Ci _ rfl (fun h60 => ?_) (fun h60 => ?_))))
   ·have pr60 : (x.Kind : Int) = 2 := eq_of_beq h60
    refine Sr (q1 rfl (Db f_171_1 rfl rfl (q := 1) rfl) (q1 rfl (lb 0 o_9 rfl rfl rfl rfl) (q1 rfl (D_eqS rfl rfl rfl) (p1 rfl (gs 23 rfl rfl (fun h61 => ?_) (fun h61 => ?_))))))
    ·have pr61 : (x.Rule : ByteArray) = ⟨#[]⟩ := odT h61
     refine q1 rfl (Db f_171_2 rfl rfl (q := 2) rfl) (q1 rfl (lba (es := [(.string x.Fact.Rel), u1]) 0 a_70 rfl rfl rfl rfl) (li rfl (cv b_93 rfl rfl rfl rfl (fun w' hs => (impl_IsFact w' [(.string x.Fact.Rel), u1] x.Fact (rA hs hb4))) ?_)))
     refine P2 rfl rfl (Dx (Ct (Xq (Xr (Rb rfl rfl ?_)))))
     show ((isFactB x.Fact) : Bool) = _
     unfold isEventB; simp_all; try (first | omega | (rw [Bool.eq_iff_iff]; simp))
    ·have pr61 : ¬ (x.Rule : ByteArray) = ⟨#[]⟩ := odF h61
     refine n1 rfl (n1 rfl (n1 rfl (P2 rfl rfl (Dx (Ct (Xq (Xr (Rb rfl rfl ?_))))))))
     unfold isEventB; simp_all; try (first | omega | (rw [Bool.eq_iff_iff]; simp))
   ·have pr60 : (x.Kind : Int) ≠ 2 := ne_of_beq_false h60
    refine Cq (Sr (P2 rfl rfl (Dx (Ci _ rfl (fun h62 => ?_) (fun h62 => ?_)))))
    ·have pr62 : (x.Kind : Int) = 3 := eq_of_beq h62
     refine Sk (C_kt rfl h62 (Sr (q1 rfl (Db f_171_1 rfl rfl (q := 1) rfl) (q1 rfl (lb 0 o_9 rfl rfl rfl rfl) (li rfl (cv b_147 rfl rfl rfl rfl (fun w' hs => (impl_IsName w' x.Rule)) ?_))))))
     refine p1 rfl (gs 34 rfl rfl (fun h64 => ?_) (fun h64 => ?_))
     ·refine P3 rfl rfl rfl (Dx (Ct (Xq (Xr (Rb rfl rfl ?_)))))
      unfold isEventB; simp_all; try (first | omega | (rw [Bool.eq_iff_iff]; simp))
     ·refine n1 rfl (P2 rfl rfl (Dx (Ct (Xq (Xr (Rb rfl rfl ?_))))))
      unfold isEventB; simp_all; try (first | omega | (rw [Bool.eq_iff_iff]; simp))
    ·have pr62 : (x.Kind : Int) ≠ 3 := ne_of_beq_false h62
     refine Cr (P2 rfl rfl (Dx (Ci _ rfl (fun h70 => ?_) (fun h70 => ?_))))
     ·have pr70 : (x.Kind : Int) = 6 := eq_of_beq h70
      refine Sr (q1 rfl (Db f_171_1 rfl rfl (q := 1) rfl) (q1 rfl (lb 0 o_9 rfl rfl rfl rfl) (li rfl (cv b_147 rfl rfl rfl rfl (fun w' hs => (impl_IsName w' x.Rule)) ?_))))
      refine p1 rfl (gs 34 rfl rfl (fun h71 => ?_) (fun h71 => ?_))
      ·refine P3 rfl rfl rfl (Dx (Ct (Xq (Xr (Rb rfl rfl ?_)))))
       unfold isEventB; simp_all; try (first | omega | (rw [Bool.eq_iff_iff]; simp))
      ·refine n1 rfl (P2 rfl rfl (Dx (Ct (Xq (Xr (Rb rfl rfl ?_))))))
       unfold isEventB; simp_all; try (first | omega | (rw [Bool.eq_iff_iff]; simp))
     ·have pr70 : (x.Kind : Int) ≠ 6 := ne_of_beq_false h70
      refine Cq (Sr (P2 rfl rfl (Dx (Ci _ rfl (fun h72 => ?_) (fun h72 => ?_)))))
      ·have pr72 : (x.Kind : Int) = 4 := eq_of_beq h72
       refine Sk (C_kt rfl h72 (Sr (q1 rfl (Db f_171_1 rfl rfl (q := 1) rfl) (q1 rfl (lb 0 o_9 rfl rfl rfl rfl) (li rfl (cv b_147 rfl rfl rfl rfl (fun w' hs => (impl_IsName w' x.Rule)) ?_))))))
       refine p1 rfl (gs 43 rfl rfl (fun h74 => ?_) (fun h74 => ?_))
       ·refine q1 rfl (Db f_171_2 rfl rfl (q := 2) rfl) (q1 rfl (lba (es := [(.string x.Fact.Rel), u1]) 0 a_70 rfl rfl rfl rfl) (li rfl (cv b_93 rfl rfl rfl rfl (fun w' hs => (impl_IsFact w' [(.string x.Fact.Rel), u1] x.Fact (rA hs hb4))) ?_)))
        refine P2 rfl rfl (Dx (Ct (Xq (Xr (Rb rfl rfl ?_)))))
        show ((isFactB x.Fact) : Bool) = _
        unfold isEventB; simp_all; try (first | omega | (rw [Bool.eq_iff_iff]; simp))
       ·refine n1 rfl (n1 rfl (n1 rfl (P2 rfl rfl (Dx (Ct (Xq (Xr (Rb rfl rfl ?_))))))))
        unfold isEventB; simp_all; try (first | omega | (rw [Bool.eq_iff_iff]; simp))
      ·have pr72 : (x.Kind : Int) ≠ 4 := ne_of_beq_false h72
       refine Cr (P2 rfl rfl (Dx (Ci _ rfl (fun h75 => ?_) (fun h75 => ?_))))
       ·have pr75 : (x.Kind : Int) = 5 := eq_of_beq h75
        refine Sr (q1 rfl (Db f_171_1 rfl rfl (q := 1) rfl) (q1 rfl (lb 0 o_9 rfl rfl rfl rfl) (li rfl (cv b_147 rfl rfl rfl rfl (fun w' hs => (impl_IsName w' x.Rule)) ?_))))
        refine p1 rfl (gs 43 rfl rfl (fun h76 => ?_) (fun h76 => ?_))
        ·refine q1 rfl (Db f_171_2 rfl rfl (q := 2) rfl) (q1 rfl (lba (es := [(.string x.Fact.Rel), u1]) 0 a_70 rfl rfl rfl rfl) (li rfl (cv b_93 rfl rfl rfl rfl (fun w' hs => (impl_IsFact w' [(.string x.Fact.Rel), u1] x.Fact (rA hs hb4))) ?_)))
         refine P2 rfl rfl (Dx (Ct (Xq (Xr (Rb rfl rfl ?_)))))
         show ((isFactB x.Fact) : Bool) = _
         unfold isEventB; simp_all; try (first | omega | (rw [Bool.eq_iff_iff]; simp))
        ·refine n1 rfl (n1 rfl (n1 rfl (P2 rfl rfl (Dx (Ct (Xq (Xr (Rb rfl rfl ?_))))))))
         unfold isEventB; simp_all; try (first | omega | (rw [Bool.eq_iff_iff]; simp))
       ·have pr75 : (x.Kind : Int) ≠ 5 := ne_of_beq_false h75
        refine Ck (Xb (Xt (Sr (Pe rfl (Ct (Rb rfl rfl ?_))))))
        unfold isEventB; simp_all; try (first | omega | (rw [Bool.eq_iff_iff]; simp))
set_option maxHeartbeats 4000000 in
theorem spec_IsEvent (w : World) (c_x : List Value) (x : Event) (h_x : Gd.rd w c_x x) (hx0 : okEv x) : Calls Tryz.prog 127 [(.agg c_x.toArray)].toArray w (Val w (.bool (isEventB x))) := by
 obtain ⟨u1, rfl, hu2⟩ := open_Event h_x
 have hm3 := rd_max hu2
 have hb4 := sub_Event_Fact h_x
 refine enter 48 Tryz.func127 rfl rfl rfl (Sr (li rfl (D_box rfl rfl rfl rfl rfl fun g5 => ?_)))
 refine Pe rfl (Dh ([bx g5 [(.int .i64 x.Kind), (.string x.Rule), (.string x.Fact.Rel), u1]]) rfl (Sr (q1 rfl (Db f_171_2 rfl rfl (q := 2) rfl) (q1 rfl (Db f_70_0 rfl rfl (q := 2) rfl) (q1 rfl (lb 0 o_9 rfl rfl rfl rfl) (q1 rfl (D_eqS rfl rfl rfl) (p1 rfl (gs 8 rfl rfl (fun h6 => ?_) (fun h6 => ?_)))))))))
 ·have pr6 : (x.Fact.Rel : ByteArray) = ⟨#[]⟩ := odT h6
  refine q1 rfl (Db f_171_2 rfl rfl (q := 2) rfl) (q1 rfl (Db f_70_1 rfl rfl (q := 3) rfl) (q1 rfl (lb 0 o_58 rfl rfl rfl rfl) (q1 rfl (Dl s_58 rfl rfl (rd_sl hu2)) (P3 rfl rfl rfl (Dx (Cq (Sr (q1 rfl (Db f_171_0 rfl rfl (q := 0) rfl) (q1 rfl (lb 0 o_3 rfl rfl rfl rfl) (Dx (Cb (Cq (Sr (P2 rfl rfl (Dx (Dw [(1, (.pointer (some ⟨g5, 0, none⟩))), (3, (.bool ((((x.Fact.Args.length : Nat) : Int) : Int) == 0))), (16, (.int .i64 x.Kind)), (17, (.bool ((x.Kind : Int) == 1)))] ⟨rfl, rfl, rfl, rfl, trivial⟩ (Ci _ rfl (fun h7 => ?_) (fun h7 => ?_))))))))))))))))))
  ·have pr7 : (x.Kind : Int) = 1 := eq_of_beq h7
   refine Sk (C_kt rfl h7 (Sr (q1 rfl (Db f_171_1 rfl rfl (q := 1) rfl) (q1 rfl (lb 0 o_9 rfl rfl rfl rfl) (q1 rfl (D_eqS rfl rfl rfl) (p1 rfl (gs 23 rfl rfl (fun h9 => ?_) (fun h9 => ?_))))))))
   ·have pr9 : (x.Rule : ByteArray) = ⟨#[]⟩ := odT h9
    refine q1 rfl (Db f_171_2 rfl rfl (q := 2) rfl) (q1 rfl (lba (es := [(.string x.Fact.Rel), u1]) 0 a_70 rfl rfl rfl rfl) (li rfl (cv b_91 rfl rfl rfl rfl (fun w' hs => (spec_IsFact w' [(.string x.Fact.Rel), u1] x.Fact (rA hs hb4) hx0.2.2)) ?_)))
    refine P2 rfl rfl (Dx (Ct (Xq (Xr (Rb rfl rfl ?_)))))
    show ((isFactB x.Fact) : Bool) = _
    unfold isEventB; simp_all; try (first | omega | (rw [Bool.eq_iff_iff]; simp))
   ·have pr9 : ¬ (x.Rule : ByteArray) = ⟨#[]⟩ := odF h9
    refine n1 rfl (n1 rfl (n1 rfl (P2 rfl rfl (Dx (Ct (Xq (Xr (Rb rfl rfl ?_))))))))
    unfold isEventB; simp_all; try (first | omega | (rw [Bool.eq_iff_iff]; simp))
  ·have pr7 : (x.Kind : Int) ≠ 1 := ne_of_beq_false h7
   refine Cr (P2 rfl rfl (Dx (Ci _ rfl (fun h25 => ?_) (fun h25 => ?_))))
   ·have pr25 : (x.Kind : Int) = 2 := eq_of_beq h25
    refine Sr (q1 rfl (Db f_171_1 rfl rfl (q := 1) rfl) (q1 rfl (lb 0 o_9 rfl rfl rfl rfl) (q1 rfl (D_eqS rfl rfl rfl) (p1 rfl (gs 23 rfl rfl (fun h26 => ?_) (fun h26 => ?_))))))
    ·have pr26 : (x.Rule : ByteArray) = ⟨#[]⟩ := odT h26
     refine q1 rfl (Db f_171_2 rfl rfl (q := 2) rfl) (q1 rfl (lba (es := [(.string x.Fact.Rel), u1]) 0 a_70 rfl rfl rfl rfl) (li rfl (cv b_91 rfl rfl rfl rfl (fun w' hs => (spec_IsFact w' [(.string x.Fact.Rel), u1] x.Fact (rA hs hb4) hx0.2.2)) ?_)))
     refine P2 rfl rfl (Dx (Ct (Xq (Xr (Rb rfl rfl ?_)))))
     show ((isFactB x.Fact) : Bool) = _
     unfold isEventB; simp_all; try (first | omega | (rw [Bool.eq_iff_iff]; simp))
    ·have pr26 : ¬ (x.Rule : ByteArray) = ⟨#[]⟩ := odF h26
     refine n1 rfl (n1 rfl (n1 rfl (P2 rfl rfl (Dx (Ct (Xq (Xr (Rb rfl rfl ?_))))))))
     unfold isEventB; simp_all; try (first | omega | (rw [Bool.eq_iff_iff]; simp))
   ·have pr25 : (x.Kind : Int) ≠ 2 := ne_of_beq_false h25
    refine Cq (Sr (P2 rfl rfl (Dx (Ci _ rfl (fun h27 => ?_) (fun h27 => ?_)))))
    ·have pr27 : (x.Kind : Int) = 3 := eq_of_beq h27
     refine Sk (C_kt rfl h27 (Sr (q1 rfl (Db f_171_1 rfl rfl (q := 1) rfl) (q1 rfl (lb 0 o_9 rfl rfl rfl rfl) (li rfl (cv b_145 rfl rfl rfl rfl (fun w' hs => (spec_IsName w' x.Rule hx0.2.1)) ?_))))))
     refine p1 rfl (gs 34 rfl rfl (fun h29 => ?_) (fun h29 => ?_))
     ·refine P3 rfl rfl rfl (Dx (Ct (Xq (Xr (Rb rfl rfl ?_)))))
      show (((((x.Fact.Args.length : Nat) : Int) : Int) == 0) : Bool) = _
      unfold isEventB; simp_all; try (first | omega | (rw [Bool.eq_iff_iff]; simp))
     ·refine n1 rfl (P2 rfl rfl (Dx (Ct (Xq (Xr (Rb rfl rfl ?_))))))
      unfold isEventB; simp_all; try (first | omega | (rw [Bool.eq_iff_iff]; simp))
    ·have pr27 : (x.Kind : Int) ≠ 3 := ne_of_beq_false h27
     refine Cr (P2 rfl rfl (Dx (Ci _ rfl (fun h35 => ?_) (fun h35 => ?_))))
     ·have pr35 : (x.Kind : Int) = 6 := eq_of_beq h35
      refine Sr (q1 rfl (Db f_171_1 rfl rfl (q := 1) rfl) (q1 rfl (lb 0 o_9 rfl rfl rfl rfl) (li rfl (cv b_145 rfl rfl rfl rfl (fun w' hs => (spec_IsName w' x.Rule hx0.2.1)) ?_))))
      refine p1 rfl (gs 34 rfl rfl (fun h36 => ?_) (fun h36 => ?_))
      ·refine P3 rfl rfl rfl (Dx (Ct (Xq (Xr (Rb rfl rfl ?_)))))
       show (((((x.Fact.Args.length : Nat) : Int) : Int) == 0) : Bool) = _
       unfold isEventB; simp_all; try (first | omega | (rw [Bool.eq_iff_iff]; simp))
      ·refine n1 rfl (P2 rfl rfl (Dx (Ct (Xq (Xr (Rb rfl rfl ?_))))))
       unfold isEventB; simp_all; try (first | omega | (rw [Bool.eq_iff_iff]; simp))
     ·have pr35 : (x.Kind : Int) ≠ 6 := ne_of_beq_false h35
      refine Cq (Sr (P2 rfl rfl (Dx (Ci _ rfl (fun h37 => ?_) (fun h37 => ?_)))))
      ·have pr37 : (x.Kind : Int) = 4 := eq_of_beq h37
       refine Sk (C_kt rfl h37 (Sr (q1 rfl (Db f_171_1 rfl rfl (q := 1) rfl) (q1 rfl (lb 0 o_9 rfl rfl rfl rfl) (li rfl (cv b_145 rfl rfl rfl rfl (fun w' hs => (spec_IsName w' x.Rule hx0.2.1)) ?_))))))
       refine p1 rfl (gs 43 rfl rfl (fun h39 => ?_) (fun h39 => ?_))
       ·refine q1 rfl (Db f_171_2 rfl rfl (q := 2) rfl) (q1 rfl (lba (es := [(.string x.Fact.Rel), u1]) 0 a_70 rfl rfl rfl rfl) (li rfl (cv b_91 rfl rfl rfl rfl (fun w' hs => (spec_IsFact w' [(.string x.Fact.Rel), u1] x.Fact (rA hs hb4) hx0.2.2)) ?_)))
        refine P2 rfl rfl (Dx (Ct (Xq (Xr (Rb rfl rfl ?_)))))
        show ((isFactB x.Fact) : Bool) = _
        unfold isEventB; simp_all; try (first | omega | (rw [Bool.eq_iff_iff]; simp))
       ·refine n1 rfl (n1 rfl (n1 rfl (P2 rfl rfl (Dx (Ct (Xq (Xr (Rb rfl rfl ?_))))))))
        unfold isEventB; simp_all; try (first | omega | (rw [Bool.eq_iff_iff]; simp))
      ·have pr37 : (x.Kind : Int) ≠ 4 := ne_of_beq_false h37
       refine Cr (P2 rfl rfl (Dx (Ci _ rfl (fun h40 => ?_) (fun h40 => ?_))))
       ·have pr40 : (x.Kind : Int) = 5 := eq_of_beq h40
        refine Sr (q1 rfl (Db f_171_1 rfl rfl (q := 1) rfl) (q1 rfl (lb 0 o_9 rfl rfl rfl rfl) (li rfl (cv b_145 rfl rfl rfl rfl (fun w' hs => (spec_IsName w' x.Rule hx0.2.1)) ?_))))
        refine p1 rfl (gs 43 rfl rfl (fun h41 => ?_) (fun h41 => ?_))
        ·refine q1 rfl (Db f_171_2 rfl rfl (q := 2) rfl) (q1 rfl (lba (es := [(.string x.Fact.Rel), u1]) 0 a_70 rfl rfl rfl rfl) (li rfl (cv b_91 rfl rfl rfl rfl (fun w' hs => (spec_IsFact w' [(.string x.Fact.Rel), u1] x.Fact (rA hs hb4) hx0.2.2)) ?_)))
         refine P2 rfl rfl (Dx (Ct (Xq (Xr (Rb rfl rfl ?_)))))
         show ((isFactB x.Fact) : Bool) = _
         unfold isEventB; simp_all; try (first | omega | (rw [Bool.eq_iff_iff]; simp))
        ·refine n1 rfl (n1 rfl (n1 rfl (P2 rfl rfl (Dx (Ct (Xq (Xr (Rb rfl rfl ?_))))))))
         unfold isEventB; simp_all; try (first | omega | (rw [Bool.eq_iff_iff]; simp))
       ·have pr40 : (x.Kind : Int) ≠ 5 := ne_of_beq_false h40
        refine Ck (Xb (Xt (Sr (Pe rfl (Ct (Rb rfl rfl ?_))))))
        unfold isEventB; simp_all; try (first | omega | (rw [Bool.eq_iff_iff]; simp))
 ·have pr6 : ¬ (x.Fact.Rel : ByteArray) = ⟨#[]⟩ := odF h6
  refine n1 rfl (n1 rfl (n1 rfl (n1 rfl (n1 rfl (P2 rfl rfl (Dx (Cq (Sr (q1 rfl (Db f_171_0 rfl rfl (q := 0) rfl) (q1 rfl (lb 0 o_3 rfl rfl rfl rfl) (Dx (Cb (Cq (Sr (P2 rfl rfl (Dx (Dw [(1, (.pointer (some ⟨g5, 0, none⟩))), (3, (.bool false)), (16, (.int .i64 x.Kind)), (17, (.bool ((x.Kind : Int) == 1)))] ⟨rfl, rfl, rfl, rfl, trivial⟩ (Ci _ rfl (fun h42 => ?_) (fun h42 => ?_)))))))))))))))))))
  ·have pr42 : (x.Kind : Int) = 1 := eq_of_beq h42
   refine Sk (C_kt rfl h42 (Sr (q1 rfl (Db f_171_1 rfl rfl (q := 1) rfl) (q1 rfl (lb 0 o_9 rfl rfl rfl rfl) (q1 rfl (D_eqS rfl rfl rfl) (p1 rfl (gs 23 rfl rfl (fun h44 => ?_) (fun h44 => ?_))))))))
   ·have pr44 : (x.Rule : ByteArray) = ⟨#[]⟩ := odT h44
    refine q1 rfl (Db f_171_2 rfl rfl (q := 2) rfl) (q1 rfl (lba (es := [(.string x.Fact.Rel), u1]) 0 a_70 rfl rfl rfl rfl) (li rfl (cv b_91 rfl rfl rfl rfl (fun w' hs => (spec_IsFact w' [(.string x.Fact.Rel), u1] x.Fact (rA hs hb4) hx0.2.2)) ?_)))
    refine P2 rfl rfl (Dx (Ct (Xq (Xr (Rb rfl rfl ?_)))))
    show ((isFactB x.Fact) : Bool) = _
    unfold isEventB; simp_all; try (first | omega | (rw [Bool.eq_iff_iff]; simp))
   ·have pr44 : ¬ (x.Rule : ByteArray) = ⟨#[]⟩ := odF h44
    refine n1 rfl (n1 rfl (n1 rfl (P2 rfl rfl (Dx (Ct (Xq (Xr (Rb rfl rfl ?_))))))))
    unfold isEventB; simp_all; try (first | omega | (rw [Bool.eq_iff_iff]; simp))
  ·have pr42 : (x.Kind : Int) ≠ 1 := ne_of_beq_false h42
   refine Cr (P2 rfl rfl (Dx (Ci _ rfl (fun h60 => ?_) (fun h60 => ?_))))
   ·have pr60 : (x.Kind : Int) = 2 := eq_of_beq h60
    refine Sr (q1 rfl (Db f_171_1 rfl rfl (q := 1) rfl) (q1 rfl (lb 0 o_9 rfl rfl rfl rfl) (q1 rfl (D_eqS rfl rfl rfl) (p1 rfl (gs 23 rfl rfl (fun h61 => ?_) (fun h61 => ?_))))))
    ·have pr61 : (x.Rule : ByteArray) = ⟨#[]⟩ := odT h61
     refine q1 rfl (Db f_171_2 rfl rfl (q := 2) rfl) (q1 rfl (lba (es := [(.string x.Fact.Rel), u1]) 0 a_70 rfl rfl rfl rfl) (li rfl (cv b_91 rfl rfl rfl rfl (fun w' hs => (spec_IsFact w' [(.string x.Fact.Rel), u1] x.Fact (rA hs hb4) hx0.2.2)) ?_)))
     refine P2 rfl rfl (Dx (Ct (Xq (Xr (Rb rfl rfl ?_)))))
     show ((isFactB x.Fact) : Bool) = _
     unfold isEventB; simp_all; try (first | omega | (rw [Bool.eq_iff_iff]; simp))
    ·have pr61 : ¬ (x.Rule : ByteArray) = ⟨#[]⟩ := odF h61
     refine n1 rfl (n1 rfl (n1 rfl (P2 rfl rfl (Dx (Ct (Xq (Xr (Rb rfl rfl ?_))))))))
     unfold isEventB; simp_all; try (first | omega | (rw [Bool.eq_iff_iff]; simp))
   ·have pr60 : (x.Kind : Int) ≠ 2 := ne_of_beq_false h60
    refine Cq (Sr (P2 rfl rfl (Dx (Ci _ rfl (fun h62 => ?_) (fun h62 => ?_)))))
    ·have pr62 : (x.Kind : Int) = 3 := eq_of_beq h62
     refine Sk (C_kt rfl h62 (Sr (q1 rfl (Db f_171_1 rfl rfl (q := 1) rfl) (q1 rfl (lb 0 o_9 rfl rfl rfl rfl) (li rfl (cv b_145 rfl rfl rfl rfl (fun w' hs => (spec_IsName w' x.Rule hx0.2.1)) ?_))))))
     refine p1 rfl (gs 34 rfl rfl (fun h64 => ?_) (fun h64 => ?_))
     ·refine P3 rfl rfl rfl (Dx (Ct (Xq (Xr (Rb rfl rfl ?_)))))
      unfold isEventB; simp_all; try (first | omega | (rw [Bool.eq_iff_iff]; simp))
     ·refine n1 rfl (P2 rfl rfl (Dx (Ct (Xq (Xr (Rb rfl rfl ?_))))))
      unfold isEventB; simp_all; try (first | omega | (rw [Bool.eq_iff_iff]; simp))
    ·have pr62 : (x.Kind : Int) ≠ 3 := ne_of_beq_false h62
     refine Cr (P2 rfl rfl (Dx (Ci _ rfl (fun h70 => ?_) (fun h70 => ?_))))
     ·have pr70 : (x.Kind : Int) = 6 := eq_of_beq h70
      refine Sr (q1 rfl (Db f_171_1 rfl rfl (q := 1) rfl) (q1 rfl (lb 0 o_9 rfl rfl rfl rfl) (li rfl (cv b_145 rfl rfl rfl rfl (fun w' hs => (spec_IsName w' x.Rule hx0.2.1)) ?_))))
      refine p1 rfl (gs 34 rfl rfl (fun h71 => ?_) (fun h71 => ?_))
      ·refine P3 rfl rfl rfl (Dx (Ct (Xq (Xr (Rb rfl rfl ?_)))))
       unfold isEventB; simp_all; try (first | omega | (rw [Bool.eq_iff_iff]; simp))
      ·refine n1 rfl (P2 rfl rfl (Dx (Ct (Xq (Xr (Rb rfl rfl ?_))))))
       unfold isEventB; simp_all; try (first | omega | (rw [Bool.eq_iff_iff]; simp))
     ·have pr70 : (x.Kind : Int) ≠ 6 := ne_of_beq_false h70
      refine Cq (Sr (P2 rfl rfl (Dx (Ci _ rfl (fun h72 => ?_) (fun h72 => ?_)))))
      ·have pr72 : (x.Kind : Int) = 4 := eq_of_beq h72
       refine Sk (C_kt rfl h72 (Sr (q1 rfl (Db f_171_1 rfl rfl (q := 1) rfl) (q1 rfl (lb 0 o_9 rfl rfl rfl rfl) (li rfl (cv b_145 rfl rfl rfl rfl (fun w' hs => (spec_IsName w' x.Rule hx0.2.1)) ?_))))))
       refine p1 rfl (gs 43 rfl rfl (fun h74 => ?_) (fun h74 => ?_))
       ·refine q1 rfl (Db f_171_2 rfl rfl (q := 2) rfl) (q1 rfl (lba (es := [(.string x.Fact.Rel), u1]) 0 a_70 rfl rfl rfl rfl) (li rfl (cv b_91 rfl rfl rfl rfl (fun w' hs => (spec_IsFact w' [(.string x.Fact.Rel), u1] x.Fact (rA hs hb4) hx0.2.2)) ?_)))
        refine P2 rfl rfl (Dx (Ct (Xq (Xr (Rb rfl rfl ?_)))))
        show ((isFactB x.Fact) : Bool) = _
        unfold isEventB; simp_all; try (first | omega | (rw [Bool.eq_iff_iff]; simp))
       ·refine n1 rfl (n1 rfl (n1 rfl (P2 rfl rfl (Dx (Ct (Xq (Xr (Rb rfl rfl ?_))))))))
        unfold isEventB; simp_all; try (first | omega | (rw [Bool.eq_iff_iff]; simp))
      ·have pr72 : (x.Kind : Int) ≠ 4 := ne_of_beq_false h72
       refine Cr (P2 rfl rfl (Dx (Ci _ rfl (fun h75 => ?_) (fun h75 => ?_))))
       ·have pr75 : (x.Kind : Int) = 5 := eq_of_beq h75
        refine Sr (q1 rfl (Db f_171_1 rfl rfl (q := 1) rfl) (q1 rfl (lb 0 o_9 rfl rfl rfl rfl) (li rfl (cv b_145 rfl rfl rfl rfl (fun w' hs => (spec_IsName w' x.Rule hx0.2.1)) ?_))))
        refine p1 rfl (gs 43 rfl rfl (fun h76 => ?_) (fun h76 => ?_))
        ·refine q1 rfl (Db f_171_2 rfl rfl (q := 2) rfl) (q1 rfl (lba (es := [(.string x.Fact.Rel), u1]) 0 a_70 rfl rfl rfl rfl) (li rfl (cv b_91 rfl rfl rfl rfl (fun w' hs => (spec_IsFact w' [(.string x.Fact.Rel), u1] x.Fact (rA hs hb4) hx0.2.2)) ?_)))
         refine P2 rfl rfl (Dx (Ct (Xq (Xr (Rb rfl rfl ?_)))))
         show ((isFactB x.Fact) : Bool) = _
         unfold isEventB; simp_all; try (first | omega | (rw [Bool.eq_iff_iff]; simp))
        ·refine n1 rfl (n1 rfl (n1 rfl (P2 rfl rfl (Dx (Ct (Xq (Xr (Rb rfl rfl ?_))))))))
         unfold isEventB; simp_all; try (first | omega | (rw [Bool.eq_iff_iff]; simp))
       ·have pr75 : (x.Kind : Int) ≠ 5 := ne_of_beq_false h75
        refine Ck (Xb (Xt (Sr (Pe rfl (Ct (Rb rfl rfl ?_))))))
        unfold isEventB; simp_all; try (first | omega | (rw [Bool.eq_iff_iff]; simp))
theorem laws_szStringS (w : World) (v_a : Value) (a : (List ByteArray)) (left : Int) (h_a : Gd.rd w [v_a] a) (h0 : 0 ≤ left) (h1 : left ≤ 1048576) (ho : okSs a) : Calls Tryz.prog 70 [v_a, (.int .i64 left)].toArray w (Val w (.int .i64 (szm (szSs a) left))) := by
 have hm1 := rd_max h_a
 refine enter 28 Tryz.func70 rfl rfl rfl (Sr (Pe rfl (Sr (P2 rfl rfl (q1 rfl (Dl s_58 rfl rfl (rd_sl h_a)) (q1 rfl (D_sub rfl rfl rfl rfl (by omega)) (Pe rfl (Cq (Sr (P2 rfl rfl (Dx (Ci _ rfl (fun h2 => ?_) (fun h2 => ?_)))))))))))))
 ·have pr2 : ((left - ((a.length : Nat) : Int)) : Int) < 0 := odT h2
  refine Sr (Pe rfl (Ct (Xr (Ri rfl rfl ?_))))
  show ((-1) : Int) = _
  refine (szm_neg ?_).symm; unfold szSs; omega
 ·have pr2 : ¬ ((left - ((a.length : Nat) : Int)) : Int) < 0 := odF h2
  refine Sk (Cq (Sr (Pe rfl (Cb (Cl (fun m_ ac w' => ∃ (k : Nat), ∃ (lf : Int), (k ≤ a.length) ∧ (0 ≤ lf ∧ lf = left - a.length - ((a.take k).map (·.size)).sum) ∧ m_ = a.length - k ∧ Fits ac 28 [(0, v_a), (1, (.int .i64 lf)), (5, (.int .i64 ((k : Nat) : Int)))] ∧ St w ([]) w') ?_ ?_)))))
  ·refine fun ac w' hf hs => ⟨_, 0, (left - ((a.length : Nat) : Int)), ?_, ?_, rfl, hf.weak ⟨rfl, rfl, rfl, trivial⟩, hs⟩
   ·first | assumption | omega | simp
   ·simp; omega
  ·rintro m_ ac w' ⟨k, lf, hk, hl, rfl, hf, hs⟩
   refine D.use ?_ hf hs
   clear hf hs ac w'
   have ht := sums_take_le a k
   refine Cq (Sr (P2 rfl rfl (q1 rfl (Dl s_58 rfl rfl (rd_sl h_a)) (Pe rfl (Ci _ rfl (fun h3 => ?_) (fun h3 => ?_))))))
   ·have pr3 : (((k : Nat) : Int) : Int) < ((a.length : Nat) : Int) := odT h3
    refine Sk (Cq (Cb (Sr (P3 rfl rfl rfl ?_))))
    obtain ⟨s0, hs0⟩ := sL (l := a) (i := k) (by omega)
    have hs1 : s0.size ≤ 9223372036854775807 := ho _ (List.mem_of_getElem? hs0)
    obtain ⟨es4, at5, hr6⟩ := rd_elem (n := 1) rfl h_a hs0
    obtain rfl : es4 = [.string s0] := hr6
    refine q1 rfl (D_ix (l := a) (j := k) s_58 rfl rfl rfl (fun w' hs => (rA hs h_a)) rfl (lS hs0)) (q1 rfl (lr0 o_9 rfl rfl at5 rfl) (q1 rfl (D_lens us_9 rfl rfl) (q1 rfl (D_sub rfl rfl rfl rfl (by omega)) (Pe rfl (Sr (P2 rfl rfl (Dx (Ci _ rfl (fun h7 => ?_) (fun h7 => ?_)))))))))
    ·have pr7 : ((lf - ((s0.size : Nat) : Int)) : Int) < 0 := odT h7
     refine Sr (Pe rfl (Ct (Xq (Xr (Xr (Xq (Xr (Ri rfl rfl ?_))))))))
     show ((-1) : Int) = _
     refine (szm_neg ?_).symm; have := sums_take (l := a) hs0; have := sums_take_le a (k + 1); unfold szSs; omega
    ·have pr7 : ¬ ((lf - ((s0.size : Nat) : Int)) : Int) < 0 := odF h7
     refine Ck (Xb (Xt (Cr (p1 rfl (q1 rfl (D_add rfl rfl rfl (r := ((k + 1 : Nat) : Int)) (by omega) (by omega)) (Pe rfl (fun ac w' hf hs => ⟨_, ?_, k + 1, (lf - ((s0.size : Nat) : Int)), ?_, ?_, rfl, hf.weak ⟨rfl, rfl, rfl, trivial⟩, hs⟩)))))))
     ·omega
     ·first | assumption | omega | simp
     ·have hst := sums_take (l := a) (k := k) (by assumption); rw [hst]; omega
   ·have pr3 : ¬ (((k : Nat) : Int) : Int) < ((a.length : Nat) : Int) := odF h3
    refine Cx (Xx (Xx (Xe (Xt (Sr (P2 rfl rfl (Dx (Ct (Ri rfl rfl ?_)))))))))
    show (lf : Int) = _
    rw [szm_pos]; all_goals (unfold szSs; rw [List.take_of_length_le (by omega)] at hl; omega)
theorem laws_szFact (w : World) (c_a : List Value) (a : Fact) (left : Int) (h_a : Gd.rd w c_a a) (h0 : 0 ≤ left) (h1 : left ≤ 1048576) (ho : okFa a) : Calls Tryz.prog 24 [(.agg c_a.toArray), (.int .i64 left)].toArray w (Val w (.int .i64 (szm (szFa a) left))) := by
 obtain ⟨u1, rfl, hu2⟩ := open_Fact h_a
 have hm3 := rd_max hu2
 have ho1 : a.Rel.size ≤ 9223372036854775807 := ho.1
 refine enter 19 Tryz.func24 rfl rfl rfl (Sr (li rfl (D_box rfl rfl rfl rfl rfl fun g4 => ?_)))
 refine Pe rfl (Dh ([bx g4 [(.string a.Rel), u1]]) rfl (Sr (p1 rfl (q1 rfl (Db f_60_0 rfl rfl (q := 0) rfl) (q1 rfl (lb 0 o_9 rfl rfl rfl rfl) (q1 rfl (D_lens us_9 rfl rfl) (q1 rfl (D_sub rfl rfl rfl rfl (by omega)) (Pe rfl (Cq (Sr (P2 rfl rfl (Dx (Ci _ rfl (fun h5 => ?_) (fun h5 => ?_))))))))))))))
 ·have pr5 : ((left - ((a.Rel.size : Nat) : Int)) : Int) < 0 := odT h5
  refine Sr (Pe rfl (Ct (Xr (Ri rfl rfl ?_))))
  show ((-1) : Int) = _
  unfold szFa szm at *; repeat (split at * <;> try omega)
 ·have pr5 : ¬ ((left - ((a.Rel.size : Nat) : Int)) : Int) < 0 := odF h5
  refine Sk (Sr (q1 rfl (Db f_60_1 rfl rfl (q := 1) rfl) (q1 rfl (lb 0 o_58 rfl rfl rfl rfl) (p1 rfl (li rfl (cv b_70 rfl rfl rfl rfl (fun w' hs => (laws_szStringS w' u1 a.Args (left - ((a.Rel.size : Nat) : Int)) (rA hs hu2) (by first | assumption | omega | (unfold szm at *; split at * <;> omega)) (by first | assumption | omega | (unfold szm at *; split at * <;> omega)) ho.2)) ?_))))))
  refine Pe rfl (Cq (Sr (P2 rfl rfl (Dx (Dw [(1, (.int .i64 (szm (szSs a.Args) (left - ((a.Rel.size : Nat) : Int))))), (17, (.bool (decide (((szm (szSs a.Args) (left - ((a.Rel.size : Nat) : Int))) : Int) < 0))))] ⟨rfl, rfl, trivial⟩ (Ds (H' := []) [false] rfl (Ci _ rfl (fun h6 => ?_) (fun h6 => ?_))))))))
  ·have pr6 : ((szm (szSs a.Args) (left - ((a.Rel.size : Nat) : Int))) : Int) < 0 := odT h6
   refine Sr (Pe rfl (Ct (Xr (Ri rfl rfl ?_))))
   show ((-1) : Int) = _
   unfold szFa szm at *; repeat (split at * <;> try omega)
  ·have pr6 : ¬ ((szm (szSs a.Args) (left - ((a.Rel.size : Nat) : Int))) : Int) < 0 := odF h6
   have pr6z := szm_val (n := (szSs a.Args)) (left := (left - ((a.Rel.size : Nat) : Int))) pr6
   refine Sk (Sr (P2 rfl rfl (Dx (Ct (Ri rfl rfl ?_)))))
   show ((szm (szSs a.Args) (left - ((a.Rel.size : Nat) : Int))) : Int) = _
   unfold szFa szm at *; repeat (split at * <;> try omega)
theorem laws_szEvent (w : World) (c_a : List Value) (a : Event) (left : Int) (h_a : Gd.rd w c_a a) (h0 : 0 ≤ left) (h1 : left ≤ 1048576) (ho : okEv a) : Calls Tryz.prog 121 [(.agg c_a.toArray), (.int .i64 left)].toArray w (Val w (.int .i64 (szm (szEv a) left))) := by
 obtain ⟨u1, rfl, hu2⟩ := open_Event h_a
 have hm3 := rd_max hu2
 have hb4 := sub_Event_Fact h_a
 have ho1 : a.Rule.size ≤ 9223372036854775807 := ho.2.1
 refine enter 19 Tryz.func121 rfl rfl rfl (Sr (li rfl (D_box rfl rfl rfl rfl rfl fun g5 => ?_)))
 refine Pe rfl (Dh ([bx g5 [(.int .i64 a.Kind), (.string a.Rule), (.string a.Fact.Rel), u1]]) rfl (Sr (p1 rfl (q1 rfl (Db f_165_1 rfl rfl (q := 1) rfl) (q1 rfl (lb 0 o_9 rfl rfl rfl rfl) (q1 rfl (D_lens us_9 rfl rfl) (q1 rfl (D_sub rfl rfl rfl rfl (by omega)) (Pe rfl (Cq (Sr (P2 rfl rfl (Dx (Ci _ rfl (fun h6 => ?_) (fun h6 => ?_))))))))))))))
 ·have pr6 : ((left - ((a.Rule.size : Nat) : Int)) : Int) < 0 := odT h6
  refine Sr (Pe rfl (Ct (Xr (Ri rfl rfl ?_))))
  show ((-1) : Int) = _
  unfold szEv szm at *; repeat (split at * <;> try omega)
 ·have pr6 : ¬ ((left - ((a.Rule.size : Nat) : Int)) : Int) < 0 := odF h6
  refine Sk (Sr (q1 rfl (Db f_165_2 rfl rfl (q := 2) rfl) (q1 rfl (lba (es := [(.string a.Fact.Rel), u1]) 0 a_60 rfl rfl rfl rfl) (p1 rfl (li rfl (cv b_24 rfl rfl rfl rfl (fun w' hs => (laws_szFact w' [(.string a.Fact.Rel), u1] a.Fact (left - ((a.Rule.size : Nat) : Int)) (rA hs hb4) (by first | assumption | omega | (unfold szm at *; split at * <;> omega)) (by first | assumption | omega | (unfold szm at *; split at * <;> omega)) ho.2.2)) ?_))))))
  refine Pe rfl (Cq (Sr (P2 rfl rfl (Dx (Dw [(1, (.int .i64 (szm (szFa a.Fact) (left - ((a.Rule.size : Nat) : Int))))), (17, (.bool (decide (((szm (szFa a.Fact) (left - ((a.Rule.size : Nat) : Int))) : Int) < 0))))] ⟨rfl, rfl, trivial⟩ (Ds (H' := []) [false] rfl (Ci _ rfl (fun h7 => ?_) (fun h7 => ?_))))))))
  ·have pr7 : ((szm (szFa a.Fact) (left - ((a.Rule.size : Nat) : Int))) : Int) < 0 := odT h7
   refine Sr (Pe rfl (Ct (Xr (Ri rfl rfl ?_))))
   show ((-1) : Int) = _
   unfold szEv szm at *; repeat (split at * <;> try omega)
  ·have pr7 : ¬ ((szm (szFa a.Fact) (left - ((a.Rule.size : Nat) : Int))) : Int) < 0 := odF h7
   have pr7z := szm_val (n := (szFa a.Fact)) (left := (left - ((a.Rule.size : Nat) : Int))) pr7
   refine Sk (Sr (P2 rfl rfl (Dx (Ct (Ri rfl rfl ?_)))))
   show ((szm (szFa a.Fact) (left - ((a.Rule.size : Nat) : Int))) : Int) = _
   unfold szEv szm at *; repeat (split at * <;> try omega)
theorem laws_toStringS (w : World) (v_a : Value) (a : (List ByteArray)) (h_a : Gd.rd w [v_a] a) (hn : a.length ≤ 1048576) : Calls Tryz.prog 77 [v_a].toArray w (Res w (a : List ByteArray)) := by
 have hm1 := rd_max h_a
 refine enter 22 Tryz.func77 rfl rfl rfl (Sr (Pe rfl (Sr (p1 rfl (q1 rfl (Dl s_58 rfl rfl (rd_sl h_a)) (li rfl (D_mk (α := ByteArray) (z := ⟨#[]⟩) s_58 y_9 rfl rfl rfl rfl (by omega) (by omega) fun v2 => ?_)))))))
 refine Pe rfl (Dh ([ov [v2] (List.replicate a.length (⟨#[]⟩) : (List ByteArray))]) rfl (Cq (Sr (Pe rfl (Cb (Cl (fun m_ ac w' => ∃ (k : Nat), ∃ (v : Value), (k ≤ a.length) ∧ m_ = a.length - k ∧ Fits ac 22 [(0, v_a), (3, v), (4, (.int .i64 ((k : Nat) : Int)))] ∧ St w ([ov [v] (cp a ⟨#[]⟩ k : (List ByteArray))]) w') ?_ ?_))))))
 ·refine D_eq 0 rfl (show (List.replicate a.length (⟨#[]⟩) : (List ByteArray)) = cp a ⟨#[]⟩ 0 from by rw [cp_zero]) (fun ac w' hf hs => ⟨_, 0, v2, ?_, rfl, hf.weak ⟨rfl, rfl, rfl, trivial⟩, hs⟩)
  ·first | assumption | omega | simp
 ·rintro m_ ac w' ⟨k, v, hk, rfl, hf, hs⟩
  refine D.use ?_ hf hs
  clear hf hs ac w'
  have hcl := cp_len a ⟨#[]⟩ k hk
  refine Cq (Sr (P2 rfl rfl (q1 rfl (Dl s_58 rfl rfl (rd_sl h_a)) (Pe rfl (Dh ([ov [v] (cp a ⟨#[]⟩ k : (List ByteArray))]) rfl (Ci _ rfl (fun h3 => ?_) (fun h3 => ?_)))))))
  ·have pr3 : (((k : Nat) : Int) : Int) < ((a.length : Nat) : Int) := odT h3
   refine Sk (Cq (Cb (Cr (P3 rfl rfl rfl (p1 rfl ?_)))))
   obtain ⟨x4, hx5⟩ := sL (l := a) (i := k) (by omega)
   obtain ⟨es6, at7, hr8⟩ := rd_elem (n := 1) rfl h_a hx5
   obtain rfl : es6 = [.string x4] := hr8
   refine q1 rfl (D_ix (l := a) (j := k) s_58 rfl rfl rfl (fun w' hs => (rA hs h_a)) rfl (lS hx5)) (q1 rfl (lr0 o_9 rfl rfl at7 rfl) ?_)
   obtain ⟨x9, hx10⟩ := sL (l := (cp a ⟨#[]⟩ k)) (i := k) (by omega)
   refine q1 rfl (D_ix (l := (cp a ⟨#[]⟩ k)) (j := k) s_58 rfl rfl rfl (fun w' hs => (rO (k := 0) hs rfl)) rfl (lS hx10)) (li rfl (so (α := ByteArray) (z := x4) 0 z_9 rfl rfl rfl rfl rfl (lS hx10) ?_))
   refine De (Xb (Xt (Dh ([ov [v] ((cp a ⟨#[]⟩ k).set k x4 : (List ByteArray))]) rfl (Cr (p1 rfl (q1 rfl (D_add rfl rfl rfl (r := ((k + 1 : Nat) : Int)) (by omega) (by omega)) (Pe rfl (D_eq 0 rfl (show ((cp a ⟨#[]⟩ k).set k x4 : (List ByteArray)) = cp a ⟨#[]⟩ (k + 1) from by rw [cp_set (by assumption)]) (fun ac w' hf hs => ⟨_, ?_, k + 1, v, ?_, rfl, hf.weak ⟨rfl, rfl, rfl, trivial⟩, hs⟩)))))))))
   ·omega
   ·first | assumption | omega | simp
  ·have pr3 : ¬ (((k : Nat) : Int) : Int) < ((a.length : Nat) : Int) := odF h3
   refine Cx (Xx (Xx (Xe (Xt (Sr (P2 rfl rfl (Dx (Ct (R_1 rfl rfl fun w' hs => res_of (k := 0) hs rfl ?_)))))))))
   show cp a ⟨#[]⟩ k = a
   exact cp_done (by omega)
theorem laws_toFact (w : World) (c_a : List Value) (a : Fact) (h_a : Gd.rd w c_a a) (hn : szFa a ≤ 1048576) : Calls Tryz.prog 27 [(.agg c_a.toArray)].toArray w (Res w (a : Fact)) := by
 obtain ⟨u1, rfl, hu2⟩ := open_Fact h_a
 have hm3 := rd_max hu2
 unfold szFa szSs at hn
 refine enter 12 Tryz.func27 rfl rfl rfl (Sr (li rfl (D_box rfl rfl rfl rfl rfl fun g4 => ?_)))
 refine li rfl (D_alloc y_70 rfl rfl rfl rfl fun g5 => ?_)
 refine Dx (Dh ([bx g5 [(.string ⟨#[]⟩), (.slice none 0 0)], bx g4 [(.string a.Rel), u1]]) rfl (Sr (li rfl (D_alloc y_70 rfl rfl rfl rfl fun g6 => ?_))))
 refine Dx (Dh ([bx g6 [(.string ⟨#[]⟩), (.slice none 0 0)], bx g5 [(.string ⟨#[]⟩), (.slice none 0 0)], bx g4 [(.string a.Rel), u1]]) rfl (Sr (q1 rfl (Db f_60_0 rfl rfl (q := 0) rfl) (q1 rfl (lb 2 o_9 rfl rfl rfl rfl) (q1 rfl (Db f_70_0 rfl rfl (q := 0) rfl) (li rfl (D_stb (vs := [(.string a.Rel)]) (cs' := [(.string a.Rel), (.slice none 0 0)]) 0 z_9 rfl rfl rfl rfl rfl rfl (ocons rfl onil) (by simp) rfl ?_)))))))
 refine Dx (Dh ([bx g6 [(.string a.Rel), (.slice none 0 0)], bx g5 [(.string ⟨#[]⟩), (.slice none 0 0)], bx g4 [(.string a.Rel), u1]]) rfl (Sr (q1 rfl (Db f_60_1 rfl rfl (q := 1) rfl) (q1 rfl (lb 2 o_58 rfl rfl rfl rfl) (li rfl (crl b_77 rfl rfl rfl rfl (fun w' hs => (laws_toStringS w' u1 a.Args (rA hs hu2) (by first | assumption | omega | (unfold szm at *; split at * <;> omega)))) fun v7 => ?_))))))
 refine q1 rfl (Db f_70_1 rfl rfl (q := 1) rfl) (Dp (fun w' hs => one_own (k := 0) hs rfl) ?_)
 intro ho8
 refine li rfl (D_stb (vs := [v7]) (cs' := [(.string a.Rel), v7]) 1 z_58 rfl rfl rfl rfl rfl (cells_of_one ho8) (ocons ho8 onil) (by simp) rfl ?_)
 refine Dx (Dh ([ov [v7] (a.Args : (List ByteArray)), bx g6 [(.string a.Rel), v7], bx g5 [(.string ⟨#[]⟩), (.slice none 0 0)], bx g4 [(.string a.Rel), u1]]) rfl (Sr (q1 rfl (lbw 1 a_70 rfl rfl rfl) (li rfl (D_stb (vs := [(.string a.Rel), v7]) (cs' := [(.string a.Rel), v7]) 2 z_70 rfl rfl rfl rfl rfl rfl (ocons rfl (ocons ho8 onil)) (by simp) rfl ?_)))))
 refine Dx (Ct (pk_Fact (r := (a : Fact)) (R_c 2 a_70 rfl rfl rfl fun w' hs => res_of (k := 0) hs rfl ?_)))
 show (a : Fact) = a
 rfl
theorem laws_toEvent (w : World) (c_a : List Value) (a : Event) (h_a : Gd.rd w c_a a) (hn : szEv a ≤ 1048576) : Calls Tryz.prog 130 [(.agg c_a.toArray)].toArray w (Res w (a : Event)) := by
 obtain ⟨u1, rfl, hu2⟩ := open_Event h_a
 have hm3 := rd_max hu2
 have hb4 := sub_Event_Fact h_a
 unfold szEv at hn
 refine enter 15 Tryz.func130 rfl rfl rfl (Sr (li rfl (D_box rfl rfl rfl rfl rfl fun g5 => ?_)))
 refine li rfl (D_alloc y_171 rfl rfl rfl rfl fun g6 => ?_)
 refine Dx (Dh ([bx g6 [(.int .i64 0), (.string ⟨#[]⟩), (.string ⟨#[]⟩), (.slice none 0 0)], bx g5 [(.int .i64 a.Kind), (.string a.Rule), (.string a.Fact.Rel), u1]]) rfl (Sr (li rfl (D_alloc y_171 rfl rfl rfl rfl fun g7 => ?_))))
 refine Dx (Dh ([bx g7 [(.int .i64 0), (.string ⟨#[]⟩), (.string ⟨#[]⟩), (.slice none 0 0)], bx g6 [(.int .i64 0), (.string ⟨#[]⟩), (.string ⟨#[]⟩), (.slice none 0 0)], bx g5 [(.int .i64 a.Kind), (.string a.Rule), (.string a.Fact.Rel), u1]]) rfl (Sr (q1 rfl (Db f_165_0 rfl rfl (q := 0) rfl) (q1 rfl (lb 2 o_3 rfl rfl rfl rfl) (q1 rfl (Db f_171_0 rfl rfl (q := 0) rfl) (li rfl (D_stb (vs := [(.int .i64 a.Kind)]) (cs' := [(.int .i64 a.Kind), (.string ⟨#[]⟩), (.string ⟨#[]⟩), (.slice none 0 0)]) 0 z_3 rfl rfl rfl rfl rfl rfl (ocons rfl onil) (by simp) rfl ?_)))))))
 refine Dx (Dh ([bx g7 [(.int .i64 a.Kind), (.string ⟨#[]⟩), (.string ⟨#[]⟩), (.slice none 0 0)], bx g6 [(.int .i64 0), (.string ⟨#[]⟩), (.string ⟨#[]⟩), (.slice none 0 0)], bx g5 [(.int .i64 a.Kind), (.string a.Rule), (.string a.Fact.Rel), u1]]) rfl (Sr (q1 rfl (Db f_165_1 rfl rfl (q := 1) rfl) (q1 rfl (lb 2 o_9 rfl rfl rfl rfl) (q1 rfl (Db f_171_1 rfl rfl (q := 1) rfl) (li rfl (D_stb (vs := [(.string a.Rule)]) (cs' := [(.int .i64 a.Kind), (.string a.Rule), (.string ⟨#[]⟩), (.slice none 0 0)]) 0 z_9 rfl rfl rfl rfl rfl rfl (ocons rfl onil) (by simp) rfl ?_)))))))
 refine Dx (Dh ([bx g7 [(.int .i64 a.Kind), (.string a.Rule), (.string ⟨#[]⟩), (.slice none 0 0)], bx g6 [(.int .i64 0), (.string ⟨#[]⟩), (.string ⟨#[]⟩), (.slice none 0 0)], bx g5 [(.int .i64 a.Kind), (.string a.Rule), (.string a.Fact.Rel), u1]]) rfl (Sr (q1 rfl (Db f_165_2 rfl rfl (q := 2) rfl) (q1 rfl (lba (es := [(.string a.Fact.Rel), u1]) 2 a_60 rfl rfl rfl rfl) (li rfl (crs rfl b_27 rfl rfl rfl rfl (fun w' hs => (laws_toFact w' [(.string a.Fact.Rel), u1] a.Fact (rA hs hb4) (by first | assumption | omega | (unfold szm at *; split at * <;> omega)))) fun cs8 => ?_))))))
 refine Dp (fun w' hs => shape_Fact (rO (k := 0) hs rfl)) ?_
 rintro ⟨v9, rfl, ho10⟩
 refine q1 rfl (Db f_171_2 rfl rfl (q := 2) rfl) (li rfl (D_stb (vs := [(.string a.Fact.Rel), v9]) (cs' := [(.int .i64 a.Kind), (.string a.Rule), (.string a.Fact.Rel), v9]) 1 z_70 rfl rfl rfl rfl rfl rfl (ocons rfl (ocons ho10 onil)) (by simp) rfl ?_))
 refine Dx (Dh ([ov [(.string a.Fact.Rel), v9] (a.Fact : Fact), bx g7 [(.int .i64 a.Kind), (.string a.Rule), (.string a.Fact.Rel), v9], bx g6 [(.int .i64 0), (.string ⟨#[]⟩), (.string ⟨#[]⟩), (.slice none 0 0)], bx g5 [(.int .i64 a.Kind), (.string a.Rule), (.string a.Fact.Rel), u1]]) rfl (Sr (q1 rfl (lbw 1 a_171 rfl rfl rfl) (li rfl (D_stb (vs := [(.int .i64 a.Kind), (.string a.Rule), (.string a.Fact.Rel), v9]) (cs' := [(.int .i64 a.Kind), (.string a.Rule), (.string a.Fact.Rel), v9]) 2 z_171 rfl rfl rfl rfl rfl rfl (ocons rfl (ocons rfl (ocons rfl (ocons ho10 onil)))) (by simp) rfl ?_)))))
 refine Dx (Ct (D_unpair (α := ByteArray) (β := (List ByteArray)) (c1 := [(.string a.Fact.Rel)]) (c2 := [v9]) (x := a.Fact.Rel) (y := (a.Fact.Args)) rfl rfl (D_fd [] 1 rfl (pk_Event (r := (a : Event)) (R_c 2 a_171 rfl rfl rfl fun w' hs => res_of (k := 0) hs rfl ?_)))))
 show (a : Event) = a
 rfl
theorem laws_eqStringS (w : World) (v_a : Value) (a : (List ByteArray)) (v_b : Value) (b : (List ByteArray)) (h_a : Gd.rd w [v_a] a) (h_b : Gd.rd w [v_b] b) : Calls Tryz.prog 84 [v_a, v_b].toArray w (Val w (.bool (decide (a = b)))) := by
 have hm1 := rd_max h_a
 have hm2 := rd_max h_b
 refine enter 26 Tryz.func84 rfl rfl rfl (Sr (Pe rfl (Cq (Sr (p1 rfl (q1 rfl (Dl s_58 rfl rfl (rd_sl h_a)) (p1 rfl (q1 rfl (Dl s_58 rfl rfl (rd_sl h_b)) (Pe rfl (Ci _ rfl (fun h3 => ?_) (fun h3 => ?_)))))))))))
 ·have pr3 : (((a.length : Nat) : Int) : Int) ≠ ((b.length : Nat) : Int) := bne_iff_ne.1 h3
  refine Sr (Pe rfl (Ct (Xr (Rb rfl rfl ?_))))
  simp; intro e; subst e; simp_all
 ·have pr3 : (((a.length : Nat) : Int) : Int) = ((b.length : Nat) : Int) := eq_of_bne_f h3
  refine Sk (Cq (Sr (Pe rfl (Cb (Cl (fun m_ ac w' => ∃ (k : Nat), (k ≤ a.length) ∧ (∀ i, i < k → a[i]? = b[i]?) ∧ m_ = a.length - k ∧ Fits ac 26 [(0, v_a), (1, v_b), (5, (.int .i64 ((k : Nat) : Int)))] ∧ St w ([]) w') ?_ ?_)))))
  ·refine fun ac w' hf hs => ⟨_, 0, ?_, ?_, rfl, hf.weak ⟨rfl, rfl, rfl, trivial⟩, hs⟩
   ·first | assumption | omega | simp
   ·intro i hi; omega
  ·rintro m_ ac w' ⟨k, hk, hi, rfl, hf, hs⟩
   refine D.use ?_ hf hs
   clear hf hs ac w'
   refine Cq (Sr (P2 rfl rfl (q1 rfl (Dl s_58 rfl rfl (rd_sl h_a)) (Pe rfl (Ci _ rfl (fun h4 => ?_) (fun h4 => ?_))))))
   ·have pr4 : (((k : Nat) : Int) : Int) < ((a.length : Nat) : Int) := odT h4
    refine Sk (Cq (Cb (Cq (C_draw mixed [] (by kernel_rfl) (Tk 0 rfl (by kernel_rfl) rfl (rp rfl) (Tk 1 rfl (by kernel_rfl) rfl (rp rfl) ?_))))))
    obtain ⟨x5, hx6⟩ := sL (l := a) (i := k) (by omega)
    obtain ⟨es7, at8, hr9⟩ := rd_elem (n := 1) rfl h_a hx6
    obtain rfl : es7 = [.string x5] := hr9
    refine Tk 2 rfl (by kernel_rfl) rfl (D_ix (l := a) (j := k) s_58 rfl rfl rfl (fun w' hs => (rA hs h_a)) rfl (lS hx6)) (Tk 3 rfl (by kernel_rfl) rfl (lr0 o_9 rfl rfl at8 rfl) (Tk 4 rfl (by kernel_rfl) rfl (rp rfl) (Tk 5 rfl (by kernel_rfl) rfl (rp rfl) ?_)))
    obtain ⟨x10, hx11⟩ := sL (l := b) (i := k) (by omega)
    obtain ⟨es12, at13, hr14⟩ := rd_elem (n := 1) rfl h_b hx11
    obtain rfl : es12 = [.string x10] := hr14
    refine Tk 6 rfl (by kernel_rfl) rfl (D_ix (l := b) (j := k) s_58 rfl rfl rfl (fun w' hs => (rA hs h_b)) rfl (lS hx11)) (Tk 7 rfl (by kernel_rfl) rfl (lr0 o_9 rfl rfl at13 rfl) (Tk 8 rfl (by kernel_rfl) rfl (D_neS rfl rfl rfl) (tE (by kernel_rfl) (Xt (Ci _ rfl (fun h15 => ?_) (fun h15 => ?_))))))
    ·have pr15 : ¬ (x5 : ByteArray) = x10 := of_decide_eq_false (not_t h15)
     refine Sr (Pe rfl (Ct (Xq (Xr (Xr (Xq (Xr (Rb rfl rfl ?_))))))))
     simp; intro e; subst e; simp_all
    ·have pr15 : (x5 : ByteArray) = x10 := of_decide_eq_true (not_f h15)
     refine Ck (Xb (Xt (Cr (p1 rfl (q1 rfl (D_add rfl rfl rfl (r := ((k + 1 : Nat) : Int)) (by omega) (by omega)) (Pe rfl (fun ac w' hf hs => ⟨_, ?_, k + 1, ?_, ?_, rfl, hf.weak ⟨rfl, rfl, rfl, trivial⟩, hs⟩)))))))
     ·omega
     ·first | assumption | omega | simp
     ·exact idx_step hi (by assumption) (by assumption) (by simp_all)
   ·have pr4 : ¬ (((k : Nat) : Int) : Int) < ((a.length : Nat) : Int) := odF h4
    refine Cx (Xx (Xx (Xe (Xt (Sr (Pe rfl (Ct (Rb rfl rfl ?_))))))))
    simp; exact eq_of_idx (by omega) (fun i h => hi i (by omega))
theorem laws_eqFact (w : World) (c_a : List Value) (a : Fact) (c_b : List Value) (b : Fact) (h_a : Gd.rd w c_a a) (h_b : Gd.rd w c_b b) : Calls Tryz.prog 30 [(.agg c_a.toArray), (.agg c_b.toArray)].toArray w (Val w (.bool (decide (a = b)))) := by
 obtain ⟨u1, rfl, hu2⟩ := open_Fact h_a
 have hm3 := rd_max hu2
 obtain ⟨u4, rfl, hu5⟩ := open_Fact h_b
 have hm6 := rd_max hu5
 refine enter 16 Tryz.func30 rfl rfl rfl (Sr (li rfl (D_box rfl rfl rfl rfl rfl fun g7 => ?_)))
 refine li rfl (D_box rfl rfl rfl rfl rfl fun g8 => ?_)
 refine Pe rfl (Dh ([bx g8 [(.string b.Rel), u4], bx g7 [(.string a.Rel), u1]]) rfl (Cq (Sr (q1 rfl (Db f_70_0 rfl rfl (q := 0) rfl) (q1 rfl (lb 1 o_9 rfl rfl rfl rfl) (q1 rfl (Db f_70_0 rfl rfl (q := 0) rfl) (q1 rfl (lb 0 o_9 rfl rfl rfl rfl) (q1 rfl (D_neS rfl rfl rfl) (Dx (Ci _ rfl (fun h9 => ?_) (fun h9 => ?_)))))))))))
 ·have pr9 : ¬ (a.Rel : ByteArray) = b.Rel := of_decide_eq_false (not_t h9)
  refine Sr (Pe rfl (Ct (Xr (Rb rfl rfl ?_))))
  cases a; cases b; simp_all
 ·have pr9 : (a.Rel : ByteArray) = b.Rel := of_decide_eq_true (not_f h9)
  refine Sk (Cq (Sr (q1 rfl (Db f_70_1 rfl rfl (q := 1) rfl) (q1 rfl (lb 1 o_58 rfl rfl rfl rfl) (q1 rfl (Db f_70_1 rfl rfl (q := 1) rfl) (q1 rfl (lb 0 o_58 rfl rfl rfl rfl) (li rfl (cv b_84 rfl rfl rfl rfl (fun w' hs => (laws_eqStringS w' u1 a.Args u4 b.Args (rA hs hu2) (rA hs hu5))) ?_))))))))
  refine Pe rfl (Dw [(15, (.bool (!(decide (a.Args = b.Args)))))] ⟨rfl, trivial⟩ (Ds (H' := []) [false, false] rfl (Ci _ rfl (fun h10 => ?_) (fun h10 => ?_))))
  ·have h10n : (decide (a.Args = b.Args)) = false := not_t h10
   refine Sr (Pe rfl (Ct (Xr (Rb rfl rfl ?_))))
   cases a; cases b; simp_all
  ·have h10n : (decide (a.Args = b.Args)) = true := not_f h10
   refine Sk (Sr (Pe rfl (Ct (Rb rfl rfl ?_))))
   cases a; cases b; simp_all
theorem laws_eqEvent (w : World) (c_a : List Value) (a : Event) (c_b : List Value) (b : Event) (h_a : Gd.rd w c_a a) (h_b : Gd.rd w c_b b) : Calls Tryz.prog 141 [(.agg c_a.toArray), (.agg c_b.toArray)].toArray w (Val w (.bool (decide (a = b)))) := by
 obtain ⟨u1, rfl, hu2⟩ := open_Event h_a
 have hm3 := rd_max hu2
 have hb4 := sub_Event_Fact h_a
 obtain ⟨u5, rfl, hu6⟩ := open_Event h_b
 have hm7 := rd_max hu6
 have hb8 := sub_Event_Fact h_b
 refine enter 21 Tryz.func141 rfl rfl rfl (Sr (li rfl (D_box rfl rfl rfl rfl rfl fun g9 => ?_)))
 refine li rfl (D_box rfl rfl rfl rfl rfl fun g10 => ?_)
 refine Pe rfl (Dh ([bx g10 [(.int .i64 b.Kind), (.string b.Rule), (.string b.Fact.Rel), u5], bx g9 [(.int .i64 a.Kind), (.string a.Rule), (.string a.Fact.Rel), u1]]) rfl (Cq (Sr (q1 rfl (Db f_171_0 rfl rfl (q := 0) rfl) (q1 rfl (lb 1 o_3 rfl rfl rfl rfl) (q1 rfl (Db f_171_0 rfl rfl (q := 0) rfl) (q1 rfl (lb 0 o_3 rfl rfl rfl rfl) (Pe rfl (Ci _ rfl (fun h11 => ?_) (fun h11 => ?_))))))))))
 ·have pr11 : (a.Kind : Int) ≠ b.Kind := bne_iff_ne.1 h11
  refine Sr (Pe rfl (Ct (Xr (Rb rfl rfl ?_))))
  cases a; cases b; simp_all
 ·have pr11 : (a.Kind : Int) = b.Kind := eq_of_bne_f h11
  refine Sk (Cq (Sr (q1 rfl (Db f_171_1 rfl rfl (q := 1) rfl) (q1 rfl (lb 1 o_9 rfl rfl rfl rfl) (q1 rfl (Db f_171_1 rfl rfl (q := 1) rfl) (q1 rfl (lb 0 o_9 rfl rfl rfl rfl) (q1 rfl (D_neS rfl rfl rfl) (Dx (Ci _ rfl (fun h12 => ?_) (fun h12 => ?_))))))))))
  ·have pr12 : ¬ (a.Rule : ByteArray) = b.Rule := of_decide_eq_false (not_t h12)
   refine Sr (Pe rfl (Ct (Xr (Rb rfl rfl ?_))))
   cases a; cases b; simp_all
  ·have pr12 : (a.Rule : ByteArray) = b.Rule := of_decide_eq_true (not_f h12)
   refine Sk (Cq (Sr (q1 rfl (Db f_171_2 rfl rfl (q := 2) rfl) (q1 rfl (lba (es := [(.string a.Fact.Rel), u1]) 1 a_70 rfl rfl rfl rfl) (q1 rfl (Db f_171_2 rfl rfl (q := 2) rfl) (q1 rfl (lba (es := [(.string b.Fact.Rel), u5]) 0 a_70 rfl rfl rfl rfl) (li rfl (cv b_30 rfl rfl rfl rfl (fun w' hs => (laws_eqFact w' [(.string a.Fact.Rel), u1] a.Fact [(.string b.Fact.Rel), u5] b.Fact (rA hs hb4) (rA hs hb8))) ?_))))))))
   refine Pe rfl (Dw [(20, (.bool (!(decide (a.Fact = b.Fact)))))] ⟨rfl, trivial⟩ (Ds (H' := []) [false, false] rfl (Ci _ rfl (fun h13 => ?_) (fun h13 => ?_))))
   ·have h13n : (decide (a.Fact = b.Fact)) = false := not_t h13
    refine Sr (Pe rfl (Ct (Xr (Rb rfl rfl ?_))))
    cases a; cases b; simp_all
   ·have h13n : (decide (a.Fact = b.Fact)) = true := not_f h13
    refine Sk (Sr (Pe rfl (Ct (Rb rfl rfl ?_))))
    cases a; cases b; simp_all
end Go.Sy.Ev1
