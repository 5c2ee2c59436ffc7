/-
  Contracts of functions of the program, walked (printed by a program of ours).
  Conditions: those that each theorem states.
-/
import Derived.Test.YtkbiaedfnpbpfaaGreatDoorBel1
import Derived.Test.YtkbiaedfnpbpfaaGreatDoorTypes
import Derived.Test.YtkbiaedfnpbpfaaGreatDoorEv
import Derived.Test.YtkbiaedfnpbpfaaGreatDoorBase
set_option linter.unusedVariables false
set_option maxRecDepth 20000
namespace Go.Sy.Ev1
open Go Go.RowKit Go.Proofs Go.Sy
theorem mixed : Tryz.prog.follows .mixedOrders = true := by kernel_rfl
theorem us_9 : Tryz.prog.underlying 9 = some .string := by kernel_rfl
theorem ui_3 : Tryz.prog.underlying 3 = some (.int .i64) := by kernel_rfl
theorem u8_5 : Tryz.prog.underlying 5 = some (.int .u8) := by kernel_rfl
theorem b_99 : hasBody Tryz.prog 99 = true := by kernel_rfl
theorem b_148 : hasBody Tryz.prog 148 = true := by kernel_rfl
theorem b_104 : hasBody Tryz.prog 104 = true := by kernel_rfl
theorem f_70_0 : fieldOff Tryz.prog 70 0 = some 0 := by kernel_rfl
theorem o_9 : oneTy Tryz.prog 9 = true := by kernel_rfl
theorem b_147 : hasBody Tryz.prog 147 = true := by kernel_rfl
theorem f_70_1 : fieldOff Tryz.prog 70 1 = some 1 := by kernel_rfl
theorem o_58 : oneTy Tryz.prog 58 = true := by kernel_rfl
theorem s_58 : sliceTy Tryz.prog 58 = some (9, 1, 16) := by kernel_rfl
theorem b_145 : hasBody Tryz.prog 145 = true := by kernel_rfl
theorem f_60_0 : fieldOff Tryz.prog 60 0 = some 0 := by kernel_rfl
theorem f_60_1 : fieldOff Tryz.prog 60 1 = some 1 := by kernel_rfl
theorem b_70 : hasBody Tryz.prog 70 = true := by kernel_rfl
theorem y_9 : zeroTy Tryz.prog 9 = some (.string ⟨#[]⟩) := by kernel_rfl
theorem z_9 : sizeTy Tryz.prog 9 = some 1 := by kernel_rfl
theorem y_70 : zeroTy Tryz.prog 70 = some (.agg #[(.string ⟨#[]⟩), (.slice none 0 0)]) := by kernel_rfl
theorem b_77 : hasBody Tryz.prog 77 = true := by kernel_rfl
theorem z_58 : sizeTy Tryz.prog 58 = some 1 := by kernel_rfl
theorem a_70 : aggTy Tryz.prog 70 = some 2 := by kernel_rfl
theorem z_70 : sizeTy Tryz.prog 70 = some 2 := by kernel_rfl
theorem b_84 : hasBody Tryz.prog 84 = true := by kernel_rfl
open Go.Sy.Bel1
set_option maxHeartbeats 4000000 in
theorem impl_IsAtom (w : World) (s : ByteArray) : Calls Tryz.prog 148 [(.string s)].toArray w (Val w (.bool (isAtomB s))) := by
 refine enter 40 Tryz.func148 rfl rfl rfl (C_seq (C_reg (p1 rfl (D_end (x_then (C_seq (C_seq (C_reg (p1 rfl (q1 rfl (D_lens us_9 rfl rfl) (p1 rfl <| p1 rfl ?_)))))))))))
 refine gs 7 rfl rfl (fun h1 => ?_) (fun h1 => ?_)
 ·have pr1 : (((s.size : Nat) : Int) : Int) < 1 := of_decide_eq_true h1
  refine n1 rfl (n1 rfl (n1 rfl (p1 rfl (D_end (x_then (C_t rfl (C_seq (C_reg (p1 rfl (D_end (x_then ?_)))))))))))
  refine C_ret (x_then_ret (Rb rfl rfl ?_))
  first | exact atom_n1 (by omega) | exact atom_n2 (k := k) (by omega) (okCh_f (by omega)) | exact atom_y (by omega) (fun i h => hi i (by omega))
 ·have pr1 : ¬ (((s.size : Nat) : Int) : Int) < 1 := of_decide_eq_false h1
  refine p1 rfl (q1 rfl (D_lens us_9 rfl rfl) (p1 rfl <| p1 rfl (D_end (x_then (C_if _ rfl (fun h2 => ?_) (fun h2 => ?_))))))
  ·have pr2 : (8 : Int) < ((s.size : Nat) : Int) := of_decide_eq_true h2
   refine C_seq (C_reg (p1 rfl (D_end (x_then (C_ret (x_then_ret (Rb rfl rfl ?_)))))))
   first | exact atom_n1 (by omega) | exact atom_n2 (k := k) (by omega) (okCh_f (by omega)) | exact atom_y (by omega) (fun i h => hi i (by omega))
  ·have pr2 : ¬ (8 : Int) < ((s.size : Nat) : Int) := of_decide_eq_false h2
   refine C_skip (x_then (C_seq (C_seq (C_reg (p1 rfl (D_end (x_then (C_block (C_loop (fun m_ ac w' => ∃ (k : Nat), (k ≤ s.size) ∧ (∀ i, i < k → okCh (sB s i) = true) ∧ m_ = s.size - k ∧ Fits ac 40 [(0, (.string s)), (3, (.int .i64 ((k : Nat) : Int)))] ∧ St w ([]) w') ?_ ?_)))))))))
   ·refine fun ac w' hf hs => ⟨_, 0, ?_, ?_, rfl, hf.weak ⟨rfl, rfl, trivial⟩, hs⟩
    ·first | assumption | omega | simp
    ·intro i hi; omega
   ·rintro m_ ac w' ⟨k, hk, hi, rfl, hf, hs⟩
    refine D.use ?_ hf hs
    clear hf hs ac w'
    refine C_seq (C_seq (C_reg (p1 rfl <| p1 rfl (q1 rfl (D_lens us_9 rfl rfl) (p1 rfl (D_end (x_then (C_if _ rfl (fun h3 => ?_) (fun h3 => ?_)))))))))
    ·have pr3 : (((k : Nat) : Int) : Int) < ((s.size : Nat) : Int) := of_decide_eq_true h3
     refine C_skip (x_then (C_seq (C_block (C_seq (C_reg (p1 rfl <| p1 rfl (q1 rfl (D_sidx (j := k) us_9 rfl rfl rfl rfl (by omega)) (p1 rfl <| p1 rfl (gs 22 rfl rfl (fun h4 => ?_) (fun h4 => ?_))))))))))
     ·have pr4 : ((sB s k) : Int) < 97 := of_decide_eq_true h4
      refine n1 rfl (n1 rfl (n1 rfl (n1 rfl (p1 rfl <| p1 rfl <| p1 rfl <| p1 rfl (q1 rfl (D_sidx (j := k) us_9 rfl rfl rfl rfl (by omega)) (p1 rfl <| p1 rfl (gs 33 rfl rfl (fun h5 => ?_) (fun h5 => ?_))))))))
      ·have pr5 : ((sB s k) : Int) < 48 := of_decide_eq_true h5
       refine n1 rfl (n1 rfl (n1 rfl (n1 rfl (p1 rfl <| p1 rfl (D_end (x_then (D_weak [(0, (.string s)), (3, (.int .i64 ((k : Nat) : Int))), (39, (.bool true))] ⟨rfl, rfl, rfl, trivial⟩ (C_t rfl (C_seq (C_reg (p1 rfl ?_)))))))))))
       refine D_end (x_then (C_ret (x_blk_ret (x_then_ret (x_then_ret (x_blk_ret (x_then_ret (Rb rfl rfl ?_))))))))
       first | exact atom_n1 (by omega) | exact atom_n2 (k := k) (by omega) (okCh_f (by omega)) | exact atom_y (by omega) (fun i h => hi i (by omega))
      ·have pr5 : ¬ ((sB s k) : Int) < 48 := of_decide_eq_false h5
       refine p1 rfl <| p1 rfl (q1 rfl (D_sidx (j := k) us_9 rfl rfl rfl rfl (by omega)) (p1 rfl <| p1 rfl <| p1 rfl (D_end (x_then (D_weak [(0, (.string s)), (3, (.int .i64 ((k : Nat) : Int))), (39, (.bool (decide ((57 : Int) < (sB s k)))))] ⟨rfl, rfl, rfl, trivial⟩ (C_if _ rfl (fun h6 => ?_) (fun h6 => ?_)))))))
       ·have pr6 : (57 : Int) < (sB s k) := of_decide_eq_true h6
        refine C_seq (C_reg (p1 rfl (D_end (x_then (C_ret (x_blk_ret (x_then_ret (x_then_ret (x_blk_ret (x_then_ret (Rb rfl rfl ?_)))))))))))
        first | exact atom_n1 (by omega) | exact atom_n2 (k := k) (by omega) (okCh_f (by omega)) | exact atom_y (by omega) (fun i h => hi i (by omega))
       ·have pr6 : ¬ (57 : Int) < (sB s k) := of_decide_eq_false h6
        refine C_skip (x_blk (x_then (C_reg (p1 rfl (q1 rfl (D_add rfl rfl rfl (r := ((k + 1 : Nat) : Int)) (by omega) (by omega)) (p1 rfl (D_end (x_then (fun ac w' hf hs => ⟨_, ?_, k + 1, ?_, ?_, rfl, hf.weak ⟨rfl, rfl, trivial⟩, hs⟩)))))))))
        ·omega
        ·first | assumption | omega | simp
        ·exact forall_step hi (okCh_t (by omega))
     ·have pr4 : ¬ ((sB s k) : Int) < 97 := of_decide_eq_false h4
      refine p1 rfl <| p1 rfl (q1 rfl (D_sidx (j := k) us_9 rfl rfl rfl rfl (by omega)) (p1 rfl <| p1 rfl <| p1 rfl (gs 28 rfl rfl (fun h7 => ?_) (fun h7 => ?_))))
      ·have pr7 : (122 : Int) < (sB s k) := of_decide_eq_true h7
       refine p1 rfl <| p1 rfl (q1 rfl (D_sidx (j := k) us_9 rfl rfl rfl rfl (by omega)) (p1 rfl <| p1 rfl (gs 33 rfl rfl (fun h8 => ?_) (fun h8 => ?_))))
       ·have pr8 : ((sB s k) : Int) < 48 := of_decide_eq_true h8
        refine n1 rfl (n1 rfl (n1 rfl (n1 rfl (p1 rfl <| p1 rfl (D_end (x_then (D_weak [(0, (.string s)), (3, (.int .i64 ((k : Nat) : Int))), (39, (.bool true))] ⟨rfl, rfl, rfl, trivial⟩ (C_t rfl (C_seq (C_reg (p1 rfl ?_)))))))))))
        refine D_end (x_then (C_ret (x_blk_ret (x_then_ret (x_then_ret (x_blk_ret (x_then_ret (Rb rfl rfl ?_))))))))
        first | exact atom_n1 (by omega) | exact atom_n2 (k := k) (by omega) (okCh_f (by omega)) | exact atom_y (by omega) (fun i h => hi i (by omega))
       ·have pr8 : ¬ ((sB s k) : Int) < 48 := of_decide_eq_false h8
        refine p1 rfl <| p1 rfl (q1 rfl (D_sidx (j := k) us_9 rfl rfl rfl rfl (by omega)) (p1 rfl <| p1 rfl <| p1 rfl (D_end (x_then (D_weak [(0, (.string s)), (3, (.int .i64 ((k : Nat) : Int))), (39, (.bool (decide ((57 : Int) < (sB s k)))))] ⟨rfl, rfl, rfl, trivial⟩ (C_if _ rfl (fun h9 => ?_) (fun h9 => ?_)))))))
        ·have pr9 : (57 : Int) < (sB s k) := of_decide_eq_true h9
         refine C_seq (C_reg (p1 rfl (D_end (x_then (C_ret (x_blk_ret (x_then_ret (x_then_ret (x_blk_ret (x_then_ret (Rb rfl rfl ?_)))))))))))
         first | exact atom_n1 (by omega) | exact atom_n2 (k := k) (by omega) (okCh_f (by omega)) | exact atom_y (by omega) (fun i h => hi i (by omega))
        ·have pr9 : ¬ (57 : Int) < (sB s k) := of_decide_eq_false h9
         refine C_skip (x_blk (x_then (C_reg (p1 rfl (q1 rfl (D_add rfl rfl rfl (r := ((k + 1 : Nat) : Int)) (by omega) (by omega)) (p1 rfl (D_end (x_then (fun ac w' hf hs => ⟨_, ?_, k + 1, ?_, ?_, rfl, hf.weak ⟨rfl, rfl, trivial⟩, hs⟩)))))))))
         ·omega
         ·first | assumption | omega | simp
         ·exact forall_step hi (okCh_t (by omega))
      ·have pr7 : ¬ (122 : Int) < (sB s k) := of_decide_eq_false h7
       refine n1 rfl (n1 rfl (n1 rfl (n1 rfl (n1 rfl (n1 rfl (n1 rfl (n1 rfl (n1 rfl (n1 rfl (p1 rfl (D_end ?_)))))))))))
       refine x_then (D_weak [(0, (.string s)), (3, (.int .i64 ((k : Nat) : Int))), (39, (.bool false))] ⟨rfl, rfl, rfl, trivial⟩ (C_f rfl (C_skip (x_blk (x_then (C_reg (p1 rfl (q1 rfl (D_add rfl rfl rfl (r := ((k + 1 : Nat) : Int)) (by omega) (by omega)) (p1 rfl (D_end (x_then ?_)))))))))))
       refine fun ac w' hf hs => ⟨_, ?_, k + 1, ?_, ?_, rfl, hf.weak ⟨rfl, rfl, trivial⟩, hs⟩
       ·omega
       ·first | assumption | omega | simp
       ·exact forall_step hi (okCh_t (by omega))
    ·have pr3 : ¬ (((k : Nat) : Int) : Int) < ((s.size : Nat) : Int) := of_decide_eq_false h3
     refine C_exit (x_then_exit (x_then_exit (x_blk_eq (x_then (C_seq (C_reg (p1 rfl (D_end (x_then (C_ret (Rb rfl rfl ?_)))))))))))
     first | exact atom_n1 (by omega) | exact atom_n2 (k := k) (by omega) (okCh_f (by omega)) | exact atom_y (by omega) (fun i h => hi i (by omega))

theorem spec_IsAtom (w : World) (s : ByteArray) (hs0 : s.size ≤ 9223372036854775807) : Calls Tryz.prog 104 [(.string s)].toArray w (Val w (.bool (isAtomB s))) := by
 refine enter 27 Tryz.func104 rfl rfl rfl (C_seq (C_reg (p1 rfl (D_end (x_then (C_seq (C_seq (C_reg (p1 rfl (D_end (x_then ?_)))))))))))
 refine C_block (C_loop (fun m_ ac w' => ∃ (k : Nat), (k ≤ s.size) ∧ (∀ i, i < k → okCh (sB s i) = true) ∧ m_ = s.size - k ∧ Fits ac 27 [(0, (.string s)), (3, (.int .i64 ((k : Nat) : Int)))] ∧ St w ([]) w') ?_ ?_)
 ·refine fun ac w' hf hs => ⟨_, 0, ?_, ?_, rfl, hf.weak ⟨rfl, rfl, trivial⟩, hs⟩
  ·first | assumption | omega | simp
  ·intro i hi; omega
 ·rintro m_ ac w' ⟨k, hk, hi, rfl, hf, hs⟩
  refine D.use ?_ hf hs
  clear hf hs ac w'
  refine C_seq (C_seq (C_reg (p1 rfl <| p1 rfl (q1 rfl (D_lens us_9 rfl rfl) (p1 rfl (D_end (x_then (C_if _ rfl (fun h1 => ?_) (fun h1 => ?_)))))))))
  ·have pr1 : (((k : Nat) : Int) : Int) < ((s.size : Nat) : Int) := of_decide_eq_true h1
   refine C_skip (x_then (C_seq (C_block (C_seq (C_reg (p1 rfl <| p1 rfl (q1 rfl (D_sidx (j := k) us_9 rfl rfl rfl rfl (by omega)) (q1 rfl (D_cvt ui_3 ⟨_, u8_5⟩ rfl rfl) (li rfl (cv b_99 rfl rfl rfl rfl (fun w' hs => (spec_l1In w' (sB s k) 97 122)) ?_))))))))))
   refine p1 rfl <| p1 rfl (gs 16 rfl rfl (fun h2 => ?_) (fun h2 => ?_))
   ·have h2n : (inR (sB s k) 97 122) = false := not_t h2
    refine p1 rfl <| p1 rfl (q1 rfl (D_sidx (j := k) us_9 rfl rfl rfl rfl (by omega)) (q1 rfl (D_cvt ui_3 ⟨_, u8_5⟩ rfl rfl) (li rfl (cv b_99 rfl rfl rfl rfl (fun w' hs => (spec_l1In w' (sB s k) 48 57)) ?_))))
    refine p1 rfl <| p1 rfl (D_end (x_then (D_weak [(0, (.string s)), (3, (.int .i64 ((k : Nat) : Int))), (23, (.bool (!(inR (sB s k) 48 57))))] ⟨rfl, rfl, rfl, trivial⟩ (C_if _ rfl (fun h3 => ?_) (fun h3 => ?_)))))
    ·have h3n : (inR (sB s k) 48 57) = false := not_t h3
     refine C_seq (C_reg (p1 rfl (D_end (x_then (C_ret (x_blk_ret (x_then_ret (x_then_ret (x_blk_ret (x_then_ret (Rb rfl rfl ?_)))))))))))
     exact atom_n2 (k := k) (by omega) (by unfold okCh; simp_all)
    ·have h3n : (inR (sB s k) 48 57) = true := not_f h3
     refine C_skip (x_blk (x_then (C_reg (p1 rfl (q1 rfl (D_add rfl rfl rfl (r := ((k + 1 : Nat) : Int)) (by omega) (by omega)) (p1 rfl (D_end (x_then (fun ac w' hf hs => ⟨_, ?_, k + 1, ?_, ?_, rfl, hf.weak ⟨rfl, rfl, trivial⟩, hs⟩)))))))))
     ·omega
     ·first | assumption | omega | simp
     ·exact forall_step hi (by unfold okCh; simp_all)
   ·have h2n : (inR (sB s k) 97 122) = true := not_f h2
    refine n1 rfl (n1 rfl (n1 rfl (n1 rfl (n1 rfl (n1 rfl (p1 rfl (D_end (x_then (D_weak [(0, (.string s)), (3, (.int .i64 ((k : Nat) : Int))), (23, (.bool false))] ⟨rfl, rfl, rfl, trivial⟩ (C_f rfl (C_skip ?_)))))))))))
    refine x_blk (x_then (C_reg (p1 rfl (q1 rfl (D_add rfl rfl rfl (r := ((k + 1 : Nat) : Int)) (by omega) (by omega)) (p1 rfl (D_end (x_then (fun ac w' hf hs => ⟨_, ?_, k + 1, ?_, ?_, rfl, hf.weak ⟨rfl, rfl, trivial⟩, hs⟩))))))))
    ·omega
    ·first | assumption | omega | simp
    ·exact forall_step hi (by unfold okCh; simp_all)
  ·have pr1 : ¬ (((k : Nat) : Int) : Int) < ((s.size : Nat) : Int) := of_decide_eq_false h1
   refine C_exit (x_then_exit (x_then_exit (x_blk_eq (x_then (C_seq (C_reg (p1 rfl (q1 rfl (D_lens us_9 rfl rfl) (li rfl (cv b_99 rfl rfl rfl rfl (fun w' hs => (spec_l1In w' ((s.size : Nat) : Int) 1 8)) ?_))))))))))
   refine p1 rfl (D_end (x_then (C_ret (Rb rfl rfl ?_))))
   show ((inR ((s.size : Nat) : Int) 1 8) : Bool) = _
   exact atom_w (fun i h => hi i (by omega))

theorem impl_IsName (w : World) (s : ByteArray) : Calls Tryz.prog 147 [(.string s)].toArray w (Val w (.bool (isNameB s))) := by
 refine enter 10 Tryz.func147 rfl rfl rfl (C_seq (C_reg (p1 rfl (D_end (x_then (C_seq (C_reg (p1 rfl (li rfl (cv b_148 rfl rfl rfl rfl (fun w' hs => (impl_IsAtom w' s)) ?_))))))))))
 refine p1 rfl (gs 5 rfl rfl (fun h1 => ?_) (fun h1 => ?_))
 ·refine p1 rfl ?_
  have hsz := atom_sz (s := s) (by assumption)
  refine q1 rfl (D_sidx (j := 0) us_9 rfl rfl rfl rfl (by omega)) (p1 rfl <| p1 rfl <| p1 rfl (D_end (x_then (C_ret (Rb rfl rfl ?_)))))
  show ((decide ((97 : Int) ≤ (sB s 0))) : Bool) = _
  unfold isNameB; simp_all
 ·refine n1 rfl (n1 rfl (n1 rfl (p1 rfl <| p1 rfl (D_end (x_then (C_ret (Rb rfl rfl ?_)))))))
  unfold isNameB; simp_all

theorem spec_IsName (w : World) (s : ByteArray) (hs0 : s.size ≤ 9223372036854775807) : Calls Tryz.prog 145 [(.string s)].toArray w (Val w (.bool (isNameB s))) := by
 refine enter 11 Tryz.func145 rfl rfl rfl (C_seq (C_reg (p1 rfl (D_end (x_then (C_seq (C_reg (p1 rfl (li rfl (cv b_104 rfl rfl rfl rfl (fun w' hs => (spec_IsAtom w' s (by first | assumption | omega | (unfold szm at *; split at * <;> omega)))) ?_))))))))))
 refine p1 rfl (gs 5 rfl rfl (fun h1 => ?_) (fun h1 => ?_))
 ·refine p1 rfl ?_
  have hsz := atom_sz (s := s) (by assumption)
  refine q1 rfl (D_sidx (j := 0) us_9 rfl rfl rfl rfl (by omega)) (q1 rfl (D_cvt ui_3 ⟨_, u8_5⟩ rfl rfl) (li rfl (cv b_99 rfl rfl rfl rfl (fun w' hs => (spec_l1In w' (sB s 0) 97 122)) ?_)))
  refine p1 rfl <| p1 rfl (D_end (x_then (C_ret (Rb rfl rfl ?_))))
  show ((inR (sB s 0) 97 122) : Bool) = _
  unfold isNameB; rw [name_w (by assumption)]; simp_all
 ·refine n1 rfl (n1 rfl (n1 rfl (n1 rfl (p1 rfl <| p1 rfl (D_end (x_then (C_ret (Rb rfl rfl ?_))))))))
  unfold isNameB; simp_all

theorem impl_IsFact (w : World) (c_f : List Value) (f : Fact) (h_f : Gd.rd w c_f f) : Calls Tryz.prog 93 [(.agg c_f.toArray)].toArray w (Val w (.bool (isFactB f))) := by
 obtain ⟨u1, rfl, hu2⟩ := open_Fact h_f
 have hm3 := rd_max hu2
 refine enter 26 Tryz.func93 rfl rfl rfl (C_seq (C_reg (li rfl (D_box rfl rfl rfl rfl rfl fun g4 => ?_))))
 refine p1 rfl (D_end (x_then (D_H ([bx g4 [(.string f.Rel), u1]]) rfl (C_seq (C_seq (C_reg (q1 rfl (D_fb f_70_0 rfl rfl (q := 0) rfl) (q1 rfl (lb 0 o_9 rfl rfl rfl rfl) (li rfl (cv b_147 rfl rfl rfl rfl (fun w' hs => (impl_IsName w' f.Rel)) ?_))))))))))
 refine p1 rfl <| p1 rfl (gs 9 rfl rfl (fun h5 => ?_) (fun h5 => ?_))
 ·have h5n : (isNameB f.Rel) = false := not_t h5
  refine n1 rfl (n1 rfl (n1 rfl (n1 rfl (p1 rfl (D_end (x_then (C_t rfl (C_seq (C_reg (p1 rfl (D_end ?_)))))))))))
  refine x_then (C_ret (x_then_ret (Rb rfl rfl ?_)))
  unfold isFactB; simp_all
 ·have h5n : (isNameB f.Rel) = true := not_f h5
  refine q1 rfl (D_fb f_70_1 rfl rfl (q := 1) rfl) (q1 rfl (lb 0 o_58 rfl rfl rfl rfl) (q1 rfl (D_len s_58 rfl rfl (rd_sl hu2)) (p1 rfl <| p1 rfl (D_end (x_then (C_if _ rfl (fun h6 => ?_) (fun h6 => ?_)))))))
  ·have pr6 : (3 : Int) < ((f.Args.length : Nat) : Int) := of_decide_eq_true h6
   refine C_seq (C_reg (p1 rfl (D_end (x_then (C_ret (x_then_ret (Rb rfl rfl ?_)))))))
   unfold isFactB; rw [decide_eq_false (by omega : ¬ f.Args.length ≤ 3)]; simp
  ·have pr6 : ¬ (3 : Int) < ((f.Args.length : Nat) : Int) := of_decide_eq_false h6
   refine C_skip (x_then (C_seq (C_seq (C_reg (q1 rfl (D_fb f_70_1 rfl rfl (q := 1) rfl) (q1 rfl (lb 0 o_58 rfl rfl rfl rfl) (q1 rfl (D_len s_58 rfl rfl (rd_sl hu2)) (p1 rfl (D_end (x_then (C_block ?_)))))))))))
   refine C_loop (fun m_ ac w' => ∃ (k : Nat), (k ≤ f.Args.length) ∧ (∀ i, i < k → ∀ y, f.Args[i]? = some y → isAtomB y = true) ∧ m_ = f.Args.length - k ∧ Fits ac 26 [(16, u1), (17, (.int .i64 ((f.Args.length : Nat) : Int))), (18, (.int .i64 ((k : Nat) : Int)))] ∧ St w ([bx g4 [(.string f.Rel), u1]]) w') ?_ ?_
   ·refine fun ac w' hf hs => ⟨_, 0, ?_, ?_, rfl, hf.weak ⟨rfl, rfl, rfl, trivial⟩, hs⟩
    ·first | assumption | omega | simp
    ·intro i hi; omega
   ·rintro m_ ac w' ⟨k, hk, hi, rfl, hf, hs⟩
    refine D.use ?_ hf hs
    clear hf hs ac w'
    refine C_seq (C_reg (p1 rfl (D_end (x_then (C_seq (C_if _ rfl (fun h7 => ?_) (fun h7 => ?_)))))))
    ·have pr7 : (((k : Nat) : Int) : Int) < ((f.Args.length : Nat) : Int) := of_decide_eq_true h7
     refine C_skip (x_then (C_seq (C_block (C_seq (C_reg ?_)))))
     obtain ⟨a0, ha0⟩ := some_of_lt (l := f.Args) (i := k) (by omega)
     obtain ⟨es8, at9, hr10⟩ := rd_elem (n := 1) rfl hu2 ha0
     obtain rfl : es8 = [.string a0] := hr10
     refine q1 rfl (D_ix (l := f.Args) (j := k) s_58 rfl rfl rfl (fun w' hs => (rd_at hs hu2)) rfl (lt_of_some ha0)) (q1 rfl (lr0 o_9 rfl rfl at9 rfl) (p1 rfl (D_end (x_then (C_seq (C_reg (p1 rfl (li rfl (cv b_148 rfl rfl rfl rfl (fun w' hs => (impl_IsAtom w' a0)) ?_)))))))))
     refine p1 rfl (D_end (x_then (C_if _ rfl (fun h11 => ?_) (fun h11 => ?_))))
     ·have h11n : (isAtomB a0) = false := not_t h11
      refine C_seq (C_reg (p1 rfl (D_end (x_then (C_ret (x_blk_ret (x_then_ret (x_then_ret (x_blk_ret (x_then_ret (Rb rfl rfl ?_)))))))))))
      unfold isFactB; rw [all_bad (p := isAtomB) ha0 h11n]; simp
     ·have h11n : (isAtomB a0) = true := not_f h11
      refine C_skip (x_blk (x_then (C_reg (q1 rfl (D_add rfl rfl rfl (r := ((k + 1 : Nat) : Int)) (by omega) (by omega)) (p1 rfl (D_end (x_then (fun ac w' hf hs => ⟨_, ?_, k + 1, ?_, ?_, rfl, hf.weak ⟨rfl, rfl, rfl, trivial⟩, hs⟩))))))))
      ·omega
      ·first | assumption | omega | simp
      ·refine forall_step hi ?_; intro y hy; obtain rfl : y = a0 := Option.some.inj (hy.symm.trans ha0); exact h11n
    ·have pr7 : ¬ (((k : Nat) : Int) : Int) < ((f.Args.length : Nat) : Int) := of_decide_eq_false h7
     refine C_exit (x_then_exit (x_then_exit (x_blk_eq (x_then (C_seq (C_reg (p1 rfl (D_end (x_then (C_ret (Rb rfl rfl ?_)))))))))))
     unfold isFactB; rw [all_of_idx (p := isAtomB) (fun i h => hi i (by omega)), decide_eq_true (by omega : f.Args.length ≤ 3)]; simp_all

theorem spec_IsFact (w : World) (c_f : List Value) (f : Fact) (h_f : Gd.rd w c_f f) (hf0 : okFa f) : Calls Tryz.prog 91 [(.agg c_f.toArray)].toArray w (Val w (.bool (isFactB f))) := by
 obtain ⟨u1, rfl, hu2⟩ := open_Fact h_f
 have hm3 := rd_max hu2
 refine enter 27 Tryz.func91 rfl rfl rfl (C_seq (C_reg (li rfl (D_box rfl rfl rfl rfl rfl fun g4 => ?_))))
 refine p1 rfl (D_end (x_then (D_H ([bx g4 [(.string f.Rel), u1]]) rfl (C_seq (C_seq (C_reg (p1 rfl (D_end (x_then (C_block (C_loop (fun m_ ac w' => ∃ (k : Nat), (k ≤ f.Args.length) ∧ (∀ i, i < k → ∀ y, f.Args[i]? = some y → isAtomB y = true) ∧ m_ = f.Args.length - k ∧ Fits ac 27 [(1, (.pointer (some ⟨g4, 0, none⟩))), (3, (.int .i64 ((k : Nat) : Int)))] ∧ St w ([bx g4 [(.string f.Rel), u1]]) w') ?_ ?_)))))))))))
 ·refine fun ac w' hf hs => ⟨_, 0, ?_, ?_, rfl, hf.weak ⟨rfl, rfl, trivial⟩, hs⟩
  ·first | assumption | omega | simp
  ·intro i hi; omega
 ·rintro m_ ac w' ⟨k, hk, hi, rfl, hf, hs⟩
  refine D.use ?_ hf hs
  clear hf hs ac w'
  refine C_seq (C_seq (C_reg (p1 rfl (q1 rfl (D_fb f_70_1 rfl rfl (q := 1) rfl) (q1 rfl (lb 0 o_58 rfl rfl rfl rfl) (q1 rfl (D_len s_58 rfl rfl (rd_sl hu2)) (p1 rfl (D_end (x_then (C_if _ rfl (fun h5 => ?_) (fun h5 => ?_)))))))))))
  ·have pr5 : (((k : Nat) : Int) : Int) < ((f.Args.length : Nat) : Int) := of_decide_eq_true h5
   refine C_skip (x_then (C_seq (C_block (C_seq (C_reg (q1 rfl (D_fb f_70_1 rfl rfl (q := 1) rfl) (q1 rfl (lb 0 o_58 rfl rfl rfl rfl) (p1 rfl ?_))))))))
   obtain ⟨a0, ha0⟩ := some_of_lt (l := f.Args) (i := k) (by omega)
   have hs1 : a0.size ≤ 9223372036854775807 := hf0.2 _ (List.mem_of_getElem? ha0)
   obtain ⟨es6, at7, hr8⟩ := rd_elem (n := 1) rfl hu2 ha0
   obtain rfl : es6 = [.string a0] := hr8
   refine q1 rfl (D_ix (l := f.Args) (j := k) s_58 rfl rfl rfl (fun w' hs => (rd_at hs hu2)) rfl (lt_of_some ha0)) (q1 rfl (lr0 o_9 rfl rfl at7 rfl) (li rfl (cv b_104 rfl rfl rfl rfl (fun w' hs => (spec_IsAtom w' a0 (by first | assumption | omega | (unfold szm at *; split at * <;> omega)))) ?_)))
   refine p1 rfl (D_end (x_then (C_if _ rfl (fun h9 => ?_) (fun h9 => ?_))))
   ·have h9n : (isAtomB a0) = false := not_t h9
    refine C_seq (C_reg (p1 rfl (D_end (x_then (C_ret (x_blk_ret (x_then_ret (x_then_ret (x_blk_ret (x_then_ret (Rb rfl rfl ?_)))))))))))
    unfold isFactB; rw [all_bad (p := isAtomB) ha0 h9n]; simp
   ·have h9n : (isAtomB a0) = true := not_f h9
    refine C_skip (x_blk (x_then (C_reg (p1 rfl (q1 rfl (D_add rfl rfl rfl (r := ((k + 1 : Nat) : Int)) (by omega) (by omega)) (p1 rfl (D_end (x_then (fun ac w' hf hs => ⟨_, ?_, k + 1, ?_, ?_, rfl, hf.weak ⟨rfl, rfl, trivial⟩, hs⟩)))))))))
    ·omega
    ·first | assumption | omega | simp
    ·refine forall_step hi ?_; intro y hy; obtain rfl : y = a0 := Option.some.inj (hy.symm.trans ha0); exact h9n
  ·have pr5 : ¬ (((k : Nat) : Int) : Int) < ((f.Args.length : Nat) : Int) := of_decide_eq_false h5
   refine C_exit (x_then_exit (x_then_exit (x_blk_eq (x_then (C_seq (C_reg (q1 rfl (D_fb f_70_0 rfl rfl (q := 0) rfl) (q1 rfl (lb 0 o_9 rfl rfl rfl rfl) (li rfl (cv b_145 rfl rfl rfl rfl (fun w' hs => (spec_IsName w' f.Rel hf0.1)) ?_))))))))))
   refine p1 rfl (gs 21 rfl rfl (fun h10 => ?_) (fun h10 => ?_))
   ·refine q1 rfl (D_fb f_70_1 rfl rfl (q := 1) rfl) (q1 rfl (lb 0 o_58 rfl rfl rfl rfl) (q1 rfl (D_len s_58 rfl rfl (rd_sl hu2)) (p1 rfl <| p1 rfl <| p1 rfl (D_end (x_then (C_ret (Rb rfl rfl ?_)))))))
    show ((decide ((((f.Args.length : Nat) : Int) : Int) ≤ 3)) : Bool) = _
    unfold isFactB; rw [all_of_idx (p := isAtomB) (fun i h => hi i (by omega))]; simp_all; try omega
   ·refine n1 rfl (n1 rfl (n1 rfl (n1 rfl (p1 rfl <| p1 rfl (D_end (x_then (C_ret (Rb rfl rfl ?_))))))))
    unfold isFactB; rw [all_of_idx (p := isAtomB) (fun i h => hi i (by omega))]; simp_all; try omega

theorem laws_szStringS (w : World) (v_a : Value) (a : (List ByteArray)) (left : Int) (h_a : Gd.rd w [v_a] a) (h0 : 0 ≤ left) (h1 : left ≤ 1048576) (ho : okSs a) : Calls Tryz.prog 70 [v_a, (.int .i64 left)].toArray w (Val w (.int .i64 (szm (szSs a) left))) := by
 have hm1 := rd_max h_a
 refine enter 28 Tryz.func70 rfl rfl rfl (C_seq (C_reg (p1 rfl (D_end (x_then (C_seq (C_reg (p1 rfl <| p1 rfl (q1 rfl (D_len s_58 rfl rfl (rd_sl h_a)) (q1 rfl (D_sub rfl rfl rfl rfl (by omega)) (p1 rfl ?_)))))))))))
 refine D_end (x_then (C_seq (C_seq (C_reg (p1 rfl <| p1 rfl (D_end (x_then (C_if _ rfl (fun h2 => ?_) (fun h2 => ?_)))))))))
 ·have pr2 : ((left - ((a.length : Nat) : Int)) : Int) < 0 := of_decide_eq_true h2
  refine C_seq (C_reg (p1 rfl (D_end (x_then (C_ret (x_then_ret (Ri rfl rfl ?_)))))))
  show ((-1) : Int) = _
  refine (szm_neg ?_).symm; unfold szSs; omega
 ·have pr2 : ¬ ((left - ((a.length : Nat) : Int)) : Int) < 0 := of_decide_eq_false h2
  refine C_skip (x_then (C_seq (C_seq (C_reg (p1 rfl (D_end (x_then (C_block (C_loop (fun m_ ac w' => ∃ (k : Nat), ∃ (lf : Int), (k ≤ a.length) ∧ (0 ≤ lf ∧ lf = left - a.length - ((a.take k).map (·.size)).sum) ∧ m_ = a.length - k ∧ Fits ac 28 [(0, v_a), (1, (.int .i64 lf)), (5, (.int .i64 ((k : Nat) : Int)))] ∧ St w ([]) w') ?_ ?_)))))))))
  ·refine fun ac w' hf hs => ⟨_, 0, (left - ((a.length : Nat) : Int)), ?_, ?_, rfl, hf.weak ⟨rfl, rfl, rfl, trivial⟩, hs⟩
   ·first | assumption | omega | simp
   ·simp; omega
  ·rintro m_ ac w' ⟨k, lf, hk, hl, rfl, hf, hs⟩
   refine D.use ?_ hf hs
   clear hf hs ac w'
   have ht := sums_take_le a k
   refine C_seq (C_seq (C_reg (p1 rfl <| p1 rfl (q1 rfl (D_len s_58 rfl rfl (rd_sl h_a)) (p1 rfl (D_end (x_then (C_if _ rfl (fun h3 => ?_) (fun h3 => ?_)))))))))
   ·have pr3 : (((k : Nat) : Int) : Int) < ((a.length : Nat) : Int) := of_decide_eq_true h3
    refine C_skip (x_then (C_seq (C_block (C_seq (C_reg (p1 rfl <| p1 rfl <| p1 rfl ?_))))))
    obtain ⟨s0, hs0⟩ := some_of_lt (l := a) (i := k) (by omega)
    have hs1 : s0.size ≤ 9223372036854775807 := ho _ (List.mem_of_getElem? hs0)
    obtain ⟨es4, at5, hr6⟩ := rd_elem (n := 1) rfl h_a hs0
    obtain rfl : es4 = [.string s0] := hr6
    refine q1 rfl (D_ix (l := a) (j := k) s_58 rfl rfl rfl (fun w' hs => (rd_at hs h_a)) rfl (lt_of_some hs0)) (q1 rfl (lr0 o_9 rfl rfl at5 rfl) (q1 rfl (D_lens us_9 rfl rfl) (q1 rfl (D_sub rfl rfl rfl rfl (by omega)) (p1 rfl (D_end (x_then (C_seq (C_reg (p1 rfl <| p1 rfl (D_end (x_then ?_)))))))))))
    refine C_if _ rfl (fun h7 => ?_) (fun h7 => ?_)
    ·have pr7 : ((lf - ((s0.size : Nat) : Int)) : Int) < 0 := of_decide_eq_true h7
     refine C_seq (C_reg (p1 rfl (D_end (x_then (C_ret (x_blk_ret (x_then_ret (x_then_ret (x_blk_ret (x_then_ret (Ri rfl rfl ?_)))))))))))
     show ((-1) : Int) = _
     refine (szm_neg ?_).symm; have := sums_take (l := a) hs0; have := sums_take_le a (k + 1); unfold szSs; omega
    ·have pr7 : ¬ ((lf - ((s0.size : Nat) : Int)) : Int) < 0 := of_decide_eq_false h7
     refine C_skip (x_blk (x_then (C_reg (p1 rfl (q1 rfl (D_add rfl rfl rfl (r := ((k + 1 : Nat) : Int)) (by omega) (by omega)) (p1 rfl (D_end (x_then (fun ac w' hf hs => ⟨_, ?_, k + 1, (lf - ((s0.size : Nat) : Int)), ?_, ?_, rfl, hf.weak ⟨rfl, rfl, rfl, trivial⟩, hs⟩)))))))))
     ·omega
     ·first | assumption | omega | simp
     ·have hst := sums_take (l := a) (k := k) (by assumption); rw [hst]; omega
   ·have pr3 : ¬ (((k : Nat) : Int) : Int) < ((a.length : Nat) : Int) := of_decide_eq_false h3
    refine C_exit (x_then_exit (x_then_exit (x_blk_eq (x_then (C_seq (C_reg (p1 rfl <| p1 rfl (D_end (x_then (C_ret (Ri rfl rfl ?_)))))))))))
    show (lf : Int) = _
    rw [szm_pos]; all_goals (unfold szSs; rw [List.take_of_length_le (by omega)] at hl; omega)

theorem laws_szFact (w : World) (c_a : List Value) (a : Fact) (left : Int) (h_a : Gd.rd w c_a a) (h0 : 0 ≤ left) (h1 : left ≤ 1048576) (ho : okFa a) : Calls Tryz.prog 24 [(.agg c_a.toArray), (.int .i64 left)].toArray w (Val w (.int .i64 (szm (szFa a) left))) := by
 obtain ⟨u1, rfl, hu2⟩ := open_Fact h_a
 have hm3 := rd_max hu2
 have ho1 : a.Rel.size ≤ 9223372036854775807 := ho.1
 refine enter 19 Tryz.func24 rfl rfl rfl (C_seq (C_reg (li rfl (D_box rfl rfl rfl rfl rfl fun g4 => ?_))))
 refine p1 rfl (D_end (x_then (D_H ([bx g4 [(.string a.Rel), u1]]) rfl (C_seq (C_reg (p1 rfl (q1 rfl (D_fb f_60_0 rfl rfl (q := 0) rfl) (q1 rfl (lb 0 o_9 rfl rfl rfl rfl) (q1 rfl (D_lens us_9 rfl rfl) (q1 rfl (D_sub rfl rfl rfl rfl (by omega)) (p1 rfl ?_)))))))))))
 refine D_end (x_then (C_seq (C_seq (C_reg (p1 rfl <| p1 rfl (D_end (x_then (C_if _ rfl (fun h5 => ?_) (fun h5 => ?_)))))))))
 ·have pr5 : ((left - ((a.Rel.size : Nat) : Int)) : Int) < 0 := of_decide_eq_true h5
  refine C_seq (C_reg (p1 rfl (D_end (x_then (C_ret (x_then_ret (Ri rfl rfl ?_)))))))
  show ((-1) : Int) = _
  unfold szFa szm at *; repeat (split at * <;> try omega)
 ·have pr5 : ¬ ((left - ((a.Rel.size : Nat) : Int)) : Int) < 0 := of_decide_eq_false h5
  refine C_skip (x_then (C_seq (C_reg (q1 rfl (D_fb f_60_1 rfl rfl (q := 1) rfl) (q1 rfl (lb 0 o_58 rfl rfl rfl rfl) (p1 rfl (li rfl (cv b_70 rfl rfl rfl rfl (fun w' hs => (laws_szStringS w' u1 a.Args (left - ((a.Rel.size : Nat) : Int)) (rd_at hs hu2) (by first | assumption | omega | (unfold szm at *; split at * <;> omega)) (by first | assumption | omega | (unfold szm at *; split at * <;> omega)) ho.2)) ?_))))))))
  refine p1 rfl (D_end (x_then (C_seq (C_seq (C_reg (p1 rfl <| p1 rfl (D_end (x_then (D_weak [(1, (.int .i64 (szm (szSs a.Args) (left - ((a.Rel.size : Nat) : Int))))), (17, (.bool (decide (((szm (szSs a.Args) (left - ((a.Rel.size : Nat) : Int))) : Int) < 0))))] ⟨rfl, rfl, trivial⟩ (D_sel (H' := []) [false] rfl (C_if _ rfl (fun h6 => ?_) (fun h6 => ?_))))))))))))
  ·have pr6 : ((szm (szSs a.Args) (left - ((a.Rel.size : Nat) : Int))) : Int) < 0 := of_decide_eq_true h6
   refine C_seq (C_reg (p1 rfl (D_end (x_then (C_ret (x_then_ret (Ri rfl rfl ?_)))))))
   show ((-1) : Int) = _
   unfold szFa szm at *; repeat (split at * <;> try omega)
  ·have pr6 : ¬ ((szm (szSs a.Args) (left - ((a.Rel.size : Nat) : Int))) : Int) < 0 := of_decide_eq_false h6
   have pr6z := szm_val (n := (szSs a.Args)) (left := (left - ((a.Rel.size : Nat) : Int))) pr6
   refine C_skip (x_then (C_seq (C_reg (p1 rfl <| p1 rfl (D_end (x_then (C_ret (Ri rfl rfl ?_))))))))
   show ((szm (szSs a.Args) (left - ((a.Rel.size : Nat) : Int))) : Int) = _
   unfold szFa szm at *; repeat (split at * <;> try omega)

theorem laws_toStringS (w : World) (v_a : Value) (a : (List ByteArray)) (h_a : Gd.rd w [v_a] a) (hn : a.length ≤ 1048576) : Calls Tryz.prog 77 [v_a].toArray w (Res w (a : List ByteArray)) := by
 have hm1 := rd_max h_a
 refine enter 22 Tryz.func77 rfl rfl rfl (C_seq (C_reg (p1 rfl (D_end (x_then (C_seq (C_reg (p1 rfl (q1 rfl (D_len s_58 rfl rfl (rd_sl h_a)) (li rfl (D_mk (α := ByteArray) (z := ⟨#[]⟩) s_58 y_9 rfl rfl rfl rfl (by omega) (by omega) fun v2 => ?_)))))))))))
 refine p1 rfl (D_end (x_then (D_H ([ov [v2] (List.replicate a.length (⟨#[]⟩) : (List ByteArray))]) rfl (C_seq (C_seq (C_reg (p1 rfl (D_end (x_then (C_block (C_loop (fun m_ ac w' => ∃ (k : Nat), ∃ (v : Value), (k ≤ a.length) ∧ m_ = a.length - k ∧ Fits ac 22 [(0, v_a), (3, v), (4, (.int .i64 ((k : Nat) : Int)))] ∧ St w ([ov [v] (cp a ⟨#[]⟩ k : (List ByteArray))]) w') ?_ ?_)))))))))))
 ·refine D_eq 0 rfl (show (List.replicate a.length (⟨#[]⟩) : (List ByteArray)) = cp a ⟨#[]⟩ 0 from by rw [cp_zero]) (fun ac w' hf hs => ⟨_, 0, v2, ?_, rfl, hf.weak ⟨rfl, rfl, rfl, trivial⟩, hs⟩)
  ·first | assumption | omega | simp
 ·rintro m_ ac w' ⟨k, v, hk, rfl, hf, hs⟩
  refine D.use ?_ hf hs
  clear hf hs ac w'
  have hcl := cp_len a ⟨#[]⟩ k hk
  refine C_seq (C_seq (C_reg (p1 rfl <| p1 rfl (q1 rfl (D_len s_58 rfl rfl (rd_sl h_a)) (p1 rfl (D_end (x_then (D_H ([ov [v] (cp a ⟨#[]⟩ k : (List ByteArray))]) rfl (C_if _ rfl (fun h3 => ?_) (fun h3 => ?_))))))))))
  ·have pr3 : (((k : Nat) : Int) : Int) < ((a.length : Nat) : Int) := of_decide_eq_true h3
   refine C_skip (x_then (C_seq (C_block (C_reg (p1 rfl <| p1 rfl <| p1 rfl <| p1 rfl ?_)))))
   obtain ⟨x4, hx5⟩ := some_of_lt (l := a) (i := k) (by omega)
   obtain ⟨es6, at7, hr8⟩ := rd_elem (n := 1) rfl h_a hx5
   obtain rfl : es6 = [.string x4] := hr8
   refine q1 rfl (D_ix (l := a) (j := k) s_58 rfl rfl rfl (fun w' hs => (rd_at hs h_a)) rfl (lt_of_some hx5)) (q1 rfl (lr0 o_9 rfl rfl at7 rfl) ?_)
   obtain ⟨x9, hx10⟩ := some_of_lt (l := (cp a ⟨#[]⟩ k)) (i := k) (by omega)
   refine q1 rfl (D_ix (l := (cp a ⟨#[]⟩ k)) (j := k) s_58 rfl rfl rfl (fun w' hs => (rd_own (k := 0) hs rfl)) rfl (lt_of_some hx10)) (li rfl (so (α := ByteArray) (z := x4) 0 z_9 rfl rfl rfl rfl rfl (lt_of_some hx10) ?_))
   refine D_end (x_blk (x_then (D_H ([ov [v] ((cp a ⟨#[]⟩ k).set k x4 : (List ByteArray))]) rfl (C_reg (p1 rfl (q1 rfl (D_add rfl rfl rfl (r := ((k + 1 : Nat) : Int)) (by omega) (by omega)) (p1 rfl (D_end (x_then (D_eq 0 rfl (show ((cp a ⟨#[]⟩ k).set k x4 : (List ByteArray)) = cp a ⟨#[]⟩ (k + 1) from by rw [cp_set (by assumption)]) (fun ac w' hf hs => ⟨_, ?_, k + 1, v, ?_, rfl, hf.weak ⟨rfl, rfl, rfl, trivial⟩, hs⟩)))))))))))
   ·omega
   ·first | assumption | omega | simp
  ·have pr3 : ¬ (((k : Nat) : Int) : Int) < ((a.length : Nat) : Int) := of_decide_eq_false h3
   refine C_exit (x_then_exit (x_then_exit (x_blk_eq (x_then (C_seq (C_reg (p1 rfl <| p1 rfl (D_end (x_then (C_ret (R_1 rfl rfl fun w' hs => res_of (k := 0) hs rfl ?_)))))))))))
   show cp a ⟨#[]⟩ k = a
   exact cp_done (by omega)

theorem laws_toFact (w : World) (c_a : List Value) (a : Fact) (h_a : Gd.rd w c_a a) (hn : szFa a ≤ 1048576) : Calls Tryz.prog 27 [(.agg c_a.toArray)].toArray w (Res w (a : Fact)) := by
 obtain ⟨u1, rfl, hu2⟩ := open_Fact h_a
 have hm3 := rd_max hu2
 unfold szFa szSs at hn
 refine enter 12 Tryz.func27 rfl rfl rfl (C_seq (C_reg (li rfl (D_box rfl rfl rfl rfl rfl fun g4 => ?_))))
 refine li rfl (D_alloc y_70 rfl rfl rfl rfl fun g5 => ?_)
 refine D_end (x_then (D_H ([bx g5 [(.string ⟨#[]⟩), (.slice none 0 0)], bx g4 [(.string a.Rel), u1]]) rfl (C_seq (C_reg (li rfl (D_alloc y_70 rfl rfl rfl rfl fun g6 => ?_))))))
 refine D_end (x_then (D_H ([bx g6 [(.string ⟨#[]⟩), (.slice none 0 0)], bx g5 [(.string ⟨#[]⟩), (.slice none 0 0)], bx g4 [(.string a.Rel), u1]]) rfl (C_seq (C_reg (q1 rfl (D_fb f_60_0 rfl rfl (q := 0) rfl) (q1 rfl (lb 2 o_9 rfl rfl rfl rfl) (q1 rfl (D_fb f_70_0 rfl rfl (q := 0) rfl) (li rfl (D_stb (vs := [(.string a.Rel)]) (cs' := [(.string a.Rel), (.slice none 0 0)]) 0 z_9 rfl rfl rfl rfl rfl rfl (ocons rfl onil) (by simp) rfl ?_)))))))))
 refine D_end (x_then (D_H ([bx g6 [(.string a.Rel), (.slice none 0 0)], bx g5 [(.string ⟨#[]⟩), (.slice none 0 0)], bx g4 [(.string a.Rel), u1]]) rfl (C_seq (C_reg (q1 rfl (D_fb f_60_1 rfl rfl (q := 1) rfl) (q1 rfl (lb 2 o_58 rfl rfl rfl rfl) (li rfl (crl b_77 rfl rfl rfl rfl (fun w' hs => (laws_toStringS w' u1 a.Args (rd_at hs hu2) (by first | assumption | omega | (unfold szm at *; split at * <;> omega)))) fun v7 => ?_))))))))
 refine q1 rfl (D_fb f_70_1 rfl rfl (q := 1) rfl) (D_pre (fun w' hs => one_own (k := 0) hs rfl) ?_)
 intro ho8
 refine li rfl (D_stb (vs := [v7]) (cs' := [(.string a.Rel), v7]) 1 z_58 rfl rfl rfl rfl rfl (cells_of_one ho8) (ocons ho8 onil) (by simp) rfl ?_)
 refine D_end (x_then (D_H ([ov [v7] (a.Args : (List ByteArray)), bx g6 [(.string a.Rel), v7], bx g5 [(.string ⟨#[]⟩), (.slice none 0 0)], bx g4 [(.string a.Rel), u1]]) rfl (C_seq (C_reg (q1 rfl (lbw 1 a_70 rfl rfl rfl) (li rfl (D_stb (vs := [(.string a.Rel), v7]) (cs' := [(.string a.Rel), v7]) 2 z_70 rfl rfl rfl rfl rfl rfl (ocons rfl (ocons ho8 onil)) (by simp) rfl ?_)))))))
 refine D_end (x_then (C_ret (pk_Fact (r := (a : Fact)) (R_c 2 a_70 rfl rfl rfl fun w' hs => res_of (k := 0) hs rfl ?_))))
 show (a : Fact) = a
 rfl

theorem laws_eqStringS (w : World) (v_a : Value) (a : (List ByteArray)) (v_b : Value) (b : (List ByteArray)) (h_a : Gd.rd w [v_a] a) (h_b : Gd.rd w [v_b] b) : Calls Tryz.prog 84 [v_a, v_b].toArray w (Val w (.bool (decide (a = b)))) := by
 have hm1 := rd_max h_a
 have hm2 := rd_max h_b
 refine enter 26 Tryz.func84 rfl rfl rfl (C_seq (C_reg (p1 rfl (D_end (x_then (C_seq (C_seq (C_reg (p1 rfl (q1 rfl (D_len s_58 rfl rfl (rd_sl h_a)) (p1 rfl ?_)))))))))))
 refine q1 rfl (D_len s_58 rfl rfl (rd_sl h_b)) (p1 rfl (D_end (x_then (C_if _ rfl (fun h3 => ?_) (fun h3 => ?_)))))
 ·have pr3 : (((a.length : Nat) : Int) : Int) ≠ ((b.length : Nat) : Int) := bne_iff_ne.1 h3
  refine C_seq (C_reg (p1 rfl (D_end (x_then (C_ret (x_then_ret (Rb rfl rfl ?_)))))))
  simp; intro e; subst e; simp_all
 ·have pr3 : (((a.length : Nat) : Int) : Int) = ((b.length : Nat) : Int) := eq_of_bne_f h3
  refine C_skip (x_then (C_seq (C_seq (C_reg (p1 rfl (D_end (x_then (C_block (C_loop (fun m_ ac w' => ∃ (k : Nat), (k ≤ a.length) ∧ (∀ i, i < k → a[i]? = b[i]?) ∧ m_ = a.length - k ∧ Fits ac 26 [(0, v_a), (1, v_b), (5, (.int .i64 ((k : Nat) : Int)))] ∧ St w ([]) w') ?_ ?_)))))))))
  ·refine fun ac w' hf hs => ⟨_, 0, ?_, ?_, rfl, hf.weak ⟨rfl, rfl, rfl, trivial⟩, hs⟩
   ·first | assumption | omega | simp
   ·intro i hi; omega
  ·rintro m_ ac w' ⟨k, hk, hi, rfl, hf, hs⟩
   refine D.use ?_ hf hs
   clear hf hs ac w'
   refine C_seq (C_seq (C_reg (p1 rfl <| p1 rfl (q1 rfl (D_len s_58 rfl rfl (rd_sl h_a)) (p1 rfl (D_end (x_then (C_if _ rfl (fun h4 => ?_) (fun h4 => ?_)))))))))
   ·have pr4 : (((k : Nat) : Int) : Int) < ((a.length : Nat) : Int) := of_decide_eq_true h4
    refine C_skip (x_then (C_seq (C_block (C_seq (C_draw mixed [] (by kernel_rfl) (tk 0 rfl (by kernel_rfl) (by kernel_rfl) (by kernel_rfl) rfl (fun _ hs => hs) (rp rfl) (tk 1 rfl (by kernel_rfl) (by kernel_rfl) (by kernel_rfl) rfl (fun _ hs => hs) (rp rfl) ?_)))))))
    obtain ⟨x5, hx6⟩ := some_of_lt (l := a) (i := k) (by omega)
    obtain ⟨es7, at8, hr9⟩ := rd_elem (n := 1) rfl h_a hx6
    obtain rfl : es7 = [.string x5] := hr9
    refine tk 2 rfl (by kernel_rfl) (by kernel_rfl) (by kernel_rfl) rfl (fun _ hs => hs) (D_ix (l := a) (j := k) s_58 rfl rfl rfl (fun w' hs => (rd_at hs h_a)) rfl (lt_of_some hx6)) (tk 3 rfl (by kernel_rfl) (by kernel_rfl) (by kernel_rfl) rfl (fun _ hs => hs) (lr0 o_9 rfl rfl at8 rfl) (tk 4 rfl (by kernel_rfl) (by kernel_rfl) (by kernel_rfl) rfl (fun _ hs => hs) (rp rfl) (tk 5 rfl (by kernel_rfl) (by kernel_rfl) (by kernel_rfl) rfl (fun _ hs => hs) (rp rfl) ?_)))
    obtain ⟨x10, hx11⟩ := some_of_lt (l := b) (i := k) (by omega)
    obtain ⟨es12, at13, hr14⟩ := rd_elem (n := 1) rfl h_b hx11
    obtain rfl : es12 = [.string x10] := hr14
    refine tk 6 rfl (by kernel_rfl) (by kernel_rfl) (by kernel_rfl) rfl (fun _ hs => hs) (D_ix (l := b) (j := k) s_58 rfl rfl rfl (fun w' hs => (rd_at hs h_b)) rfl (lt_of_some hx11)) (tk 7 rfl (by kernel_rfl) (by kernel_rfl) (by kernel_rfl) rfl (fun _ hs => hs) (lr0 o_9 rfl rfl at13 rfl) (tk 8 rfl (by kernel_rfl) (by kernel_rfl) (by kernel_rfl) rfl (fun _ hs => hs) (D_neS rfl rfl rfl) (tE (by kernel_rfl) (x_then (C_if _ rfl (fun h15 => ?_) (fun h15 => ?_))))))
    ·have pr15 : ¬ (x5 : ByteArray) = x10 := of_decide_eq_false (not_t h15)
     refine C_seq (C_reg (p1 rfl (D_end (x_then (C_ret (x_blk_ret (x_then_ret (x_then_ret (x_blk_ret (x_then_ret (Rb rfl rfl ?_)))))))))))
     simp; intro e; subst e; simp_all
    ·have pr15 : (x5 : ByteArray) = x10 := of_decide_eq_true (not_f h15)
     refine C_skip (x_blk (x_then (C_reg (p1 rfl (q1 rfl (D_add rfl rfl rfl (r := ((k + 1 : Nat) : Int)) (by omega) (by omega)) (p1 rfl (D_end (x_then (fun ac w' hf hs => ⟨_, ?_, k + 1, ?_, ?_, rfl, hf.weak ⟨rfl, rfl, rfl, trivial⟩, hs⟩)))))))))
     ·omega
     ·first | assumption | omega | simp
     ·exact idx_step hi (by assumption) (by assumption) (by simp_all)
   ·have pr4 : ¬ (((k : Nat) : Int) : Int) < ((a.length : Nat) : Int) := of_decide_eq_false h4
    refine C_exit (x_then_exit (x_then_exit (x_blk_eq (x_then (C_seq (C_reg (p1 rfl (D_end (x_then (C_ret (Rb rfl rfl ?_)))))))))))
    simp; exact eq_of_idx (by omega) (fun i h => hi i (by omega))

theorem laws_eqFact (w : World) (c_a : List Value) (a : Fact) (c_b : List Value) (b : Fact) (h_a : Gd.rd w c_a a) (h_b : Gd.rd w c_b b) : Calls Tryz.prog 30 [(.agg c_a.toArray), (.agg c_b.toArray)].toArray w (Val w (.bool (decide (a = b)))) := by
 obtain ⟨u1, rfl, hu2⟩ := open_Fact h_a
 have hm3 := rd_max hu2
 obtain ⟨u4, rfl, hu5⟩ := open_Fact h_b
 have hm6 := rd_max hu5
 refine enter 16 Tryz.func30 rfl rfl rfl (C_seq (C_reg (li rfl (D_box rfl rfl rfl rfl rfl fun g7 => ?_))))
 refine li rfl (D_box rfl rfl rfl rfl rfl fun g8 => ?_)
 refine p1 rfl (D_end (x_then (D_H ([bx g8 [(.string b.Rel), u4], bx g7 [(.string a.Rel), u1]]) rfl (C_seq (C_seq (C_reg (q1 rfl (D_fb f_70_0 rfl rfl (q := 0) rfl) (q1 rfl (lb 1 o_9 rfl rfl rfl rfl) (q1 rfl (D_fb f_70_0 rfl rfl (q := 0) rfl) (q1 rfl (lb 0 o_9 rfl rfl rfl rfl) (q1 rfl (D_neS rfl rfl rfl) ?_)))))))))))
 refine D_end (x_then (C_if _ rfl (fun h9 => ?_) (fun h9 => ?_)))
 ·have pr9 : ¬ (a.Rel : ByteArray) = b.Rel := of_decide_eq_false (not_t h9)
  refine C_seq (C_reg (p1 rfl (D_end (x_then (C_ret (x_then_ret (Rb rfl rfl ?_)))))))
  cases a; cases b; simp_all
 ·have pr9 : (a.Rel : ByteArray) = b.Rel := of_decide_eq_true (not_f h9)
  refine C_skip (x_then (C_seq (C_seq (C_reg (q1 rfl (D_fb f_70_1 rfl rfl (q := 1) rfl) (q1 rfl (lb 1 o_58 rfl rfl rfl rfl) (q1 rfl (D_fb f_70_1 rfl rfl (q := 1) rfl) (q1 rfl (lb 0 o_58 rfl rfl rfl rfl) (li rfl (cv b_84 rfl rfl rfl rfl (fun w' hs => (laws_eqStringS w' u1 a.Args u4 b.Args (rd_at hs hu2) (rd_at hs hu5))) ?_))))))))))
  refine p1 rfl (D_end (x_then (D_weak [(15, (.bool (!(decide (a.Args = b.Args)))))] ⟨rfl, trivial⟩ (D_sel (H' := []) [false, false] rfl (C_if _ rfl (fun h10 => ?_) (fun h10 => ?_))))))
  ·have h10n : (decide (a.Args = b.Args)) = false := not_t h10
   refine C_seq (C_reg (p1 rfl (D_end (x_then (C_ret (x_then_ret (Rb rfl rfl ?_)))))))
   cases a; cases b; simp_all
  ·have h10n : (decide (a.Args = b.Args)) = true := not_f h10
   refine C_skip (x_then (C_seq (C_reg (p1 rfl (D_end (x_then (C_ret (Rb rfl rfl ?_))))))))
   cases a; cases b; simp_all
end Go.Sy.Ev1
