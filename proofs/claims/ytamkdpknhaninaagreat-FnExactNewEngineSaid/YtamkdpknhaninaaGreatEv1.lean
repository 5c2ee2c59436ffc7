/-
  Contracts of functions of the program, walked (printed by a program of ours).
  Conditions: those that each theorem states.
-/
import Derived.Test.YtamkdpknhaninaaGreatBel1
import Derived.Test.YtamkdpknhaninaaGreatTypes
import Derived.Test.YtamkdpknhaninaaGreatEv
import Derived.Test.YtamkdpknhaninaaGreatBase
set_option linter.unusedVariables false
set_option maxRecDepth 20000
namespace Go.Sy.Ev1
open Go Go.RowKit Go.Proofs Go.Sy
theorem mixed : Tryz.prog.follows .mixedOrders = true := by kernel_rfl
theorem us_9 : Tryz.prog.underlying 9 = some .string := by kernel_rfl
theorem ui_3 : Tryz.prog.underlying 3 = some (.int .i64) := by kernel_rfl
theorem u8_5 : Tryz.prog.underlying 5 = some (.int .u8) := by kernel_rfl
theorem b_57 : hasBody Tryz.prog 57 = true := by kernel_rfl
theorem b_95 : hasBody Tryz.prog 95 = true := by kernel_rfl
theorem b_87 : hasBody Tryz.prog 87 = true := by kernel_rfl
theorem s_68 : sliceTy Tryz.prog 68 = some (9, 1, 16) := by kernel_rfl
theorem o_9 : oneTy Tryz.prog 9 = true := by kernel_rfl
theorem y_9 : zeroTy Tryz.prog 9 = some (.string ⟨#[]⟩) := by kernel_rfl
theorem z_9 : sizeTy Tryz.prog 9 = some 1 := by kernel_rfl
theorem f_70_0 : fieldOff Tryz.prog 70 0 = some 0 := by kernel_rfl
theorem f_70_1 : fieldOff Tryz.prog 70 1 = some 1 := by kernel_rfl
theorem o_68 : oneTy Tryz.prog 68 = true := by kernel_rfl
theorem b_105 : hasBody Tryz.prog 105 = true := by kernel_rfl
theorem f_79_0 : fieldOff Tryz.prog 79 0 = some 0 := by kernel_rfl
theorem o_3 : oneTy Tryz.prog 3 = true := by kernel_rfl
theorem f_79_1 : fieldOff Tryz.prog 79 1 = some 1 := by kernel_rfl
theorem f_79_2 : fieldOff Tryz.prog 79 2 = some 2 := by kernel_rfl
theorem a_70 : aggTy Tryz.prog 70 = some 2 := by kernel_rfl
theorem b_82 : hasBody Tryz.prog 82 = true := by kernel_rfl
open Go.Sy.Bel1
set_option maxHeartbeats 4000000 in
theorem impl_IsAtom (w : World) (s : ByteArray) : Calls Tryz.prog 95 [(.string s)].toArray w (Val w (.bool (isAtomB s))) := by
  refine enter 40 Tryz.func95 rfl rfl rfl ?_
  refine C_seq ?_
  refine C_reg ?_
  refine p1 rfl ?_
  refine D_end ?_
  refine x_then ?_
  refine C_seq ?_
  refine C_seq ?_
  refine C_reg ?_
  refine p1 rfl ?_
  refine q1 rfl (D_lens us_9 rfl rfl) ?_
  refine p1 rfl <| p1 rfl ?_
  refine gs 7 rfl rfl (fun h1 => ?_) (fun h1 => ?_)
  · have pr1 : (((s.size : Nat) : Int) : Int) < 1 := of_decide_eq_true h1
    refine n1 rfl ?_
    refine n1 rfl ?_
    refine n1 rfl ?_
    refine p1 rfl ?_
    refine D_end ?_
    refine x_then ?_
    refine C_t rfl ?_
    refine C_seq ?_
    refine C_reg ?_
    refine p1 rfl ?_
    refine D_end ?_
    refine x_then ?_
    refine C_ret ?_
    refine x_then_ret ?_
    refine R_1 rfl rfl fun w' hs => ⟨congrArg (fun z => Ending.returned (Value.bool z)) ?_, hs.bel⟩
    show (false : Bool) = isAtomB s
    first | exact atom_n1 (by omega) | exact atom_n2 (k := k) (by omega) (okCh_f (by omega)) | exact atom_y (by omega) (fun i h => hi i (by omega))
  · have pr1 : ¬ (((s.size : Nat) : Int) : Int) < 1 := of_decide_eq_false h1
    refine p1 rfl ?_
    refine q1 rfl (D_lens us_9 rfl rfl) ?_
    refine p1 rfl <| p1 rfl ?_
    refine D_end ?_
    refine x_then ?_
    refine C_if _ rfl (fun h2 => ?_) (fun h2 => ?_)
    · have pr2 : (8 : Int) < ((s.size : Nat) : Int) := of_decide_eq_true h2
      refine C_seq ?_
      refine C_reg ?_
      refine p1 rfl ?_
      refine D_end ?_
      refine x_then ?_
      refine C_ret ?_
      refine x_then_ret ?_
      refine R_1 rfl rfl fun w' hs => ⟨congrArg (fun z => Ending.returned (Value.bool z)) ?_, hs.bel⟩
      show (false : Bool) = isAtomB s
      first | exact atom_n1 (by omega) | exact atom_n2 (k := k) (by omega) (okCh_f (by omega)) | exact atom_y (by omega) (fun i h => hi i (by omega))
    · have pr2 : ¬ (8 : Int) < ((s.size : Nat) : Int) := of_decide_eq_false h2
      refine C_skip ?_
      refine x_then ?_
      refine C_seq ?_
      refine C_seq ?_
      refine C_reg ?_
      refine p1 rfl ?_
      refine D_end ?_
      refine x_then ?_
      refine C_block ?_
      refine C_loop (fun m_ ac w' => ∃ (k : Nat), (k ≤ s.size) ∧ (∀ i, i < k → okCh (sB s i) = true) ∧ m_ = s.size - k ∧ Fits ac 40 [(0, (.string s)), (3, (.int .i64 ((k : Nat) : Int)))] ∧ St w ([]) w') ?_ ?_
      · refine fun ac w' hf hs => ⟨_, 0, ?_, ?_, rfl, hf.weak ⟨rfl, rfl, trivial⟩, hs⟩
        · first | assumption | omega | simp
        · intro i hi; omega
      · rintro m_ ac w' ⟨k, hk, hi, rfl, hf, hs⟩
        refine D.use ?_ hf hs
        clear hf hs ac w'
        refine C_seq ?_
        refine C_seq ?_
        refine C_reg ?_
        refine p1 rfl <| p1 rfl ?_
        refine q1 rfl (D_lens us_9 rfl rfl) ?_
        refine p1 rfl ?_
        refine D_end ?_
        refine x_then ?_
        refine C_if _ rfl (fun h3 => ?_) (fun h3 => ?_)
        · have pr3 : (((k : Nat) : Int) : Int) < ((s.size : Nat) : Int) := of_decide_eq_true h3
          refine C_skip ?_
          refine x_then ?_
          refine C_seq ?_
          refine C_block ?_
          refine C_seq ?_
          refine C_reg ?_
          refine p1 rfl <| p1 rfl ?_
          refine q1 rfl (D_sidx (j := k) us_9 rfl rfl rfl rfl (by omega)) ?_
          refine p1 rfl <| p1 rfl ?_
          refine gs 22 rfl rfl (fun h4 => ?_) (fun h4 => ?_)
          · have pr4 : ((sB s k) : Int) < 97 := of_decide_eq_true h4
            refine n1 rfl ?_
            refine n1 rfl ?_
            refine n1 rfl ?_
            refine n1 rfl ?_
            refine p1 rfl <| p1 rfl <| p1 rfl <| p1 rfl ?_
            refine q1 rfl (D_sidx (j := k) us_9 rfl rfl rfl rfl (by omega)) ?_
            refine p1 rfl <| p1 rfl ?_
            refine gs 33 rfl rfl (fun h5 => ?_) (fun h5 => ?_)
            · have pr5 : ((sB s k) : Int) < 48 := of_decide_eq_true h5
              refine n1 rfl ?_
              refine n1 rfl ?_
              refine n1 rfl ?_
              refine n1 rfl ?_
              refine p1 rfl <| p1 rfl ?_
              refine D_end ?_
              refine x_then ?_
              refine D_weak [(0, (.string s)), (3, (.int .i64 ((k : Nat) : Int))), (39, (.bool true))] ⟨rfl, rfl, rfl, trivial⟩ ?_
              refine C_t rfl ?_
              refine C_seq ?_
              refine C_reg ?_
              refine p1 rfl ?_
              refine D_end ?_
              refine x_then ?_
              refine C_ret ?_
              refine x_blk_ret ?_
              refine x_then_ret ?_
              refine x_then_ret ?_
              refine x_blk_ret ?_
              refine x_then_ret ?_
              refine R_1 rfl rfl fun w' hs => ⟨congrArg (fun z => Ending.returned (Value.bool z)) ?_, hs.bel⟩
              show (false : Bool) = isAtomB s
              first | exact atom_n1 (by omega) | exact atom_n2 (k := k) (by omega) (okCh_f (by omega)) | exact atom_y (by omega) (fun i h => hi i (by omega))
            · have pr5 : ¬ ((sB s k) : Int) < 48 := of_decide_eq_false h5
              refine p1 rfl <| p1 rfl ?_
              refine q1 rfl (D_sidx (j := k) us_9 rfl rfl rfl rfl (by omega)) ?_
              refine p1 rfl <| p1 rfl <| p1 rfl ?_
              refine D_end ?_
              refine x_then ?_
              refine D_weak [(0, (.string s)), (3, (.int .i64 ((k : Nat) : Int))), (39, (.bool (decide ((57 : Int) < (sB s k)))))] ⟨rfl, rfl, rfl, trivial⟩ ?_
              refine C_if _ rfl (fun h6 => ?_) (fun h6 => ?_)
              · have pr6 : (57 : Int) < (sB s k) := of_decide_eq_true h6
                refine C_seq ?_
                refine C_reg ?_
                refine p1 rfl ?_
                refine D_end ?_
                refine x_then ?_
                refine C_ret ?_
                refine x_blk_ret ?_
                refine x_then_ret ?_
                refine x_then_ret ?_
                refine x_blk_ret ?_
                refine x_then_ret ?_
                refine R_1 rfl rfl fun w' hs => ⟨congrArg (fun z => Ending.returned (Value.bool z)) ?_, hs.bel⟩
                show (false : Bool) = isAtomB s
                first | exact atom_n1 (by omega) | exact atom_n2 (k := k) (by omega) (okCh_f (by omega)) | exact atom_y (by omega) (fun i h => hi i (by omega))
              · have pr6 : ¬ (57 : Int) < (sB s k) := of_decide_eq_false h6
                refine C_skip ?_
                refine x_blk ?_
                refine x_then ?_
                refine C_reg ?_
                refine p1 rfl ?_
                refine q1 rfl (D_add rfl rfl rfl (r := ((k + 1 : Nat) : Int)) (by omega) (by omega)) ?_
                refine p1 rfl ?_
                refine D_end ?_
                refine x_then ?_
                refine fun ac w' hf hs => ⟨_, ?_, k + 1, ?_, ?_, rfl, hf.weak ⟨rfl, rfl, trivial⟩, hs⟩
                · omega
                · first | assumption | omega | simp
                · exact forall_step hi (okCh_t (by omega))
          · have pr4 : ¬ ((sB s k) : Int) < 97 := of_decide_eq_false h4
            refine p1 rfl <| p1 rfl ?_
            refine q1 rfl (D_sidx (j := k) us_9 rfl rfl rfl rfl (by omega)) ?_
            refine p1 rfl <| p1 rfl <| p1 rfl ?_
            refine gs 28 rfl rfl (fun h7 => ?_) (fun h7 => ?_)
            · have pr7 : (122 : Int) < (sB s k) := of_decide_eq_true h7
              refine p1 rfl <| p1 rfl ?_
              refine q1 rfl (D_sidx (j := k) us_9 rfl rfl rfl rfl (by omega)) ?_
              refine p1 rfl <| p1 rfl ?_
              refine gs 33 rfl rfl (fun h8 => ?_) (fun h8 => ?_)
              · have pr8 : ((sB s k) : Int) < 48 := of_decide_eq_true h8
                refine n1 rfl ?_
                refine n1 rfl ?_
                refine n1 rfl ?_
                refine n1 rfl ?_
                refine p1 rfl <| p1 rfl ?_
                refine D_end ?_
                refine x_then ?_
                refine D_weak [(0, (.string s)), (3, (.int .i64 ((k : Nat) : Int))), (39, (.bool true))] ⟨rfl, rfl, rfl, trivial⟩ ?_
                refine C_t rfl ?_
                refine C_seq ?_
                refine C_reg ?_
                refine p1 rfl ?_
                refine D_end ?_
                refine x_then ?_
                refine C_ret ?_
                refine x_blk_ret ?_
                refine x_then_ret ?_
                refine x_then_ret ?_
                refine x_blk_ret ?_
                refine x_then_ret ?_
                refine R_1 rfl rfl fun w' hs => ⟨congrArg (fun z => Ending.returned (Value.bool z)) ?_, hs.bel⟩
                show (false : Bool) = isAtomB s
                first | exact atom_n1 (by omega) | exact atom_n2 (k := k) (by omega) (okCh_f (by omega)) | exact atom_y (by omega) (fun i h => hi i (by omega))
              · have pr8 : ¬ ((sB s k) : Int) < 48 := of_decide_eq_false h8
                refine p1 rfl <| p1 rfl ?_
                refine q1 rfl (D_sidx (j := k) us_9 rfl rfl rfl rfl (by omega)) ?_
                refine p1 rfl <| p1 rfl <| p1 rfl ?_
                refine D_end ?_
                refine x_then ?_
                refine D_weak [(0, (.string s)), (3, (.int .i64 ((k : Nat) : Int))), (39, (.bool (decide ((57 : Int) < (sB s k)))))] ⟨rfl, rfl, rfl, trivial⟩ ?_
                refine C_if _ rfl (fun h9 => ?_) (fun h9 => ?_)
                · have pr9 : (57 : Int) < (sB s k) := of_decide_eq_true h9
                  refine C_seq ?_
                  refine C_reg ?_
                  refine p1 rfl ?_
                  refine D_end ?_
                  refine x_then ?_
                  refine C_ret ?_
                  refine x_blk_ret ?_
                  refine x_then_ret ?_
                  refine x_then_ret ?_
                  refine x_blk_ret ?_
                  refine x_then_ret ?_
                  refine R_1 rfl rfl fun w' hs => ⟨congrArg (fun z => Ending.returned (Value.bool z)) ?_, hs.bel⟩
                  show (false : Bool) = isAtomB s
                  first | exact atom_n1 (by omega) | exact atom_n2 (k := k) (by omega) (okCh_f (by omega)) | exact atom_y (by omega) (fun i h => hi i (by omega))
                · have pr9 : ¬ (57 : Int) < (sB s k) := of_decide_eq_false h9
                  refine C_skip ?_
                  refine x_blk ?_
                  refine x_then ?_
                  refine C_reg ?_
                  refine p1 rfl ?_
                  refine q1 rfl (D_add rfl rfl rfl (r := ((k + 1 : Nat) : Int)) (by omega) (by omega)) ?_
                  refine p1 rfl ?_
                  refine D_end ?_
                  refine x_then ?_
                  refine fun ac w' hf hs => ⟨_, ?_, k + 1, ?_, ?_, rfl, hf.weak ⟨rfl, rfl, trivial⟩, hs⟩
                  · omega
                  · first | assumption | omega | simp
                  · exact forall_step hi (okCh_t (by omega))
            · have pr7 : ¬ (122 : Int) < (sB s k) := of_decide_eq_false h7
              refine n1 rfl ?_
              refine n1 rfl ?_
              refine n1 rfl ?_
              refine n1 rfl ?_
              refine n1 rfl ?_
              refine n1 rfl ?_
              refine n1 rfl ?_
              refine n1 rfl ?_
              refine n1 rfl ?_
              refine n1 rfl ?_
              refine p1 rfl ?_
              refine D_end ?_
              refine x_then ?_
              refine D_weak [(0, (.string s)), (3, (.int .i64 ((k : Nat) : Int))), (39, (.bool false))] ⟨rfl, rfl, rfl, trivial⟩ ?_
              refine C_f rfl ?_
              refine C_skip ?_
              refine x_blk ?_
              refine x_then ?_
              refine C_reg ?_
              refine p1 rfl ?_
              refine q1 rfl (D_add rfl rfl rfl (r := ((k + 1 : Nat) : Int)) (by omega) (by omega)) ?_
              refine p1 rfl ?_
              refine D_end ?_
              refine x_then ?_
              refine fun ac w' hf hs => ⟨_, ?_, k + 1, ?_, ?_, rfl, hf.weak ⟨rfl, rfl, trivial⟩, hs⟩
              · omega
              · first | assumption | omega | simp
              · exact forall_step hi (okCh_t (by omega))
        · have pr3 : ¬ (((k : Nat) : Int) : Int) < ((s.size : Nat) : Int) := of_decide_eq_false h3
          refine C_exit ?_
          refine x_then_exit ?_
          refine x_then_exit ?_
          refine x_blk_eq ?_
          refine x_then ?_
          refine C_seq ?_
          refine C_reg ?_
          refine p1 rfl ?_
          refine D_end ?_
          refine x_then ?_
          refine C_ret ?_
          refine R_1 rfl rfl fun w' hs => ⟨congrArg (fun z => Ending.returned (Value.bool z)) ?_, hs.bel⟩
          show (true : Bool) = isAtomB s
          first | exact atom_n1 (by omega) | exact atom_n2 (k := k) (by omega) (okCh_f (by omega)) | exact atom_y (by omega) (fun i h => hi i (by omega))

theorem spec_IsAtom (w : World) (s : ByteArray) (hs0 : s.size ≤ 9223372036854775807) : Calls Tryz.prog 87 [(.string s)].toArray w (Val w (.bool (isAtomB s))) := by
  refine enter 27 Tryz.func87 rfl rfl rfl ?_
  refine C_seq ?_
  refine C_reg ?_
  refine p1 rfl ?_
  refine D_end ?_
  refine x_then ?_
  refine C_seq ?_
  refine C_seq ?_
  refine C_reg ?_
  refine p1 rfl ?_
  refine D_end ?_
  refine x_then ?_
  refine C_block ?_
  refine C_loop (fun m_ ac w' => ∃ (k : Nat), (k ≤ s.size) ∧ (∀ i, i < k → okCh (sB s i) = true) ∧ m_ = s.size - k ∧ Fits ac 27 [(0, (.string s)), (3, (.int .i64 ((k : Nat) : Int)))] ∧ St w ([]) w') ?_ ?_
  · refine fun ac w' hf hs => ⟨_, 0, ?_, ?_, rfl, hf.weak ⟨rfl, rfl, trivial⟩, hs⟩
    · first | assumption | omega | simp
    · intro i hi; omega
  · rintro m_ ac w' ⟨k, hk, hi, rfl, hf, hs⟩
    refine D.use ?_ hf hs
    clear hf hs ac w'
    refine C_seq ?_
    refine C_seq ?_
    refine C_reg ?_
    refine p1 rfl <| p1 rfl ?_
    refine q1 rfl (D_lens us_9 rfl rfl) ?_
    refine p1 rfl ?_
    refine D_end ?_
    refine x_then ?_
    refine C_if _ rfl (fun h1 => ?_) (fun h1 => ?_)
    · have pr1 : (((k : Nat) : Int) : Int) < ((s.size : Nat) : Int) := of_decide_eq_true h1
      refine C_skip ?_
      refine x_then ?_
      refine C_seq ?_
      refine C_block ?_
      refine C_seq ?_
      refine C_reg ?_
      refine p1 rfl <| p1 rfl ?_
      refine q1 rfl (D_sidx (j := k) us_9 rfl rfl rfl rfl (by omega)) ?_
      refine q1 rfl (D_cvt ui_3 ⟨_, u8_5⟩ rfl rfl) ?_
      refine li rfl (cv b_57 rfl rfl rfl rfl (fun w' hs => (spec_l1In w' (sB s k) 97 122)) ?_)
      refine p1 rfl <| p1 rfl ?_
      refine gs 16 rfl rfl (fun h2 => ?_) (fun h2 => ?_)
      · have h2n : (inR (sB s k) 97 122) = false := not_t h2
        refine p1 rfl <| p1 rfl ?_
        refine q1 rfl (D_sidx (j := k) us_9 rfl rfl rfl rfl (by omega)) ?_
        refine q1 rfl (D_cvt ui_3 ⟨_, u8_5⟩ rfl rfl) ?_
        refine li rfl (cv b_57 rfl rfl rfl rfl (fun w' hs => (spec_l1In w' (sB s k) 48 57)) ?_)
        refine p1 rfl <| p1 rfl ?_
        refine D_end ?_
        refine x_then ?_
        refine D_weak [(0, (.string s)), (3, (.int .i64 ((k : Nat) : Int))), (23, (.bool (!(inR (sB s k) 48 57))))] ⟨rfl, rfl, rfl, trivial⟩ ?_
        refine C_if _ rfl (fun h3 => ?_) (fun h3 => ?_)
        · have h3n : (inR (sB s k) 48 57) = false := not_t h3
          refine C_seq ?_
          refine C_reg ?_
          refine p1 rfl ?_
          refine D_end ?_
          refine x_then ?_
          refine C_ret ?_
          refine x_blk_ret ?_
          refine x_then_ret ?_
          refine x_then_ret ?_
          refine x_blk_ret ?_
          refine x_then_ret ?_
          refine R_1 rfl rfl fun w' hs => ⟨congrArg (fun z => Ending.returned (Value.bool z)) ?_, hs.bel⟩
          show (false : Bool) = isAtomB s
          exact atom_n2 (k := k) (by omega) (by unfold okCh; simp_all)
        · have h3n : (inR (sB s k) 48 57) = true := not_f h3
          refine C_skip ?_
          refine x_blk ?_
          refine x_then ?_
          refine C_reg ?_
          refine p1 rfl ?_
          refine q1 rfl (D_add rfl rfl rfl (r := ((k + 1 : Nat) : Int)) (by omega) (by omega)) ?_
          refine p1 rfl ?_
          refine D_end ?_
          refine x_then ?_
          refine fun ac w' hf hs => ⟨_, ?_, k + 1, ?_, ?_, rfl, hf.weak ⟨rfl, rfl, trivial⟩, hs⟩
          · omega
          · first | assumption | omega | simp
          · exact forall_step hi (by unfold okCh; simp_all)
      · have h2n : (inR (sB s k) 97 122) = true := not_f h2
        refine n1 rfl ?_
        refine n1 rfl ?_
        refine n1 rfl ?_
        refine n1 rfl ?_
        refine n1 rfl ?_
        refine n1 rfl ?_
        refine p1 rfl ?_
        refine D_end ?_
        refine x_then ?_
        refine D_weak [(0, (.string s)), (3, (.int .i64 ((k : Nat) : Int))), (23, (.bool false))] ⟨rfl, rfl, rfl, trivial⟩ ?_
        refine C_f rfl ?_
        refine C_skip ?_
        refine x_blk ?_
        refine x_then ?_
        refine C_reg ?_
        refine p1 rfl ?_
        refine q1 rfl (D_add rfl rfl rfl (r := ((k + 1 : Nat) : Int)) (by omega) (by omega)) ?_
        refine p1 rfl ?_
        refine D_end ?_
        refine x_then ?_
        refine fun ac w' hf hs => ⟨_, ?_, k + 1, ?_, ?_, rfl, hf.weak ⟨rfl, rfl, trivial⟩, hs⟩
        · omega
        · first | assumption | omega | simp
        · exact forall_step hi (by unfold okCh; simp_all)
    · have pr1 : ¬ (((k : Nat) : Int) : Int) < ((s.size : Nat) : Int) := of_decide_eq_false h1
      refine C_exit ?_
      refine x_then_exit ?_
      refine x_then_exit ?_
      refine x_blk_eq ?_
      refine x_then ?_
      refine C_seq ?_
      refine C_reg ?_
      refine p1 rfl ?_
      refine q1 rfl (D_lens us_9 rfl rfl) ?_
      refine li rfl (cv b_57 rfl rfl rfl rfl (fun w' hs => (spec_l1In w' ((s.size : Nat) : Int) 1 8)) ?_)
      refine p1 rfl ?_
      refine D_end ?_
      refine x_then ?_
      refine C_ret ?_
      refine R_1 rfl rfl fun w' hs => ⟨congrArg (fun z => Ending.returned (Value.bool z)) ?_, hs.bel⟩
      show ((inR ((s.size : Nat) : Int) 1 8) : Bool) = isAtomB s
      exact atom_w (fun i h => hi i (by omega))

theorem impl_IsName (w : World) (s : ByteArray) : Calls Tryz.prog 71 [(.string s)].toArray w (Val w (.bool (isNameB s))) := by
  refine enter 10 Tryz.func71 rfl rfl rfl ?_
  refine C_seq ?_
  refine C_reg ?_
  refine p1 rfl ?_
  refine D_end ?_
  refine x_then ?_
  refine C_seq ?_
  refine C_reg ?_
  refine p1 rfl ?_
  refine li rfl (cv b_95 rfl rfl rfl rfl (fun w' hs => (impl_IsAtom w' s)) ?_)
  refine p1 rfl ?_
  refine gs 5 rfl rfl (fun h1 => ?_) (fun h1 => ?_)
  · refine p1 rfl ?_
    have hsz := atom_sz (s := s) (by assumption)
    refine q1 rfl (D_sidx (j := 0) us_9 rfl rfl rfl rfl (by omega)) ?_
    refine p1 rfl <| p1 rfl <| p1 rfl ?_
    refine D_end ?_
    refine x_then ?_
    refine C_ret ?_
    refine R_1 rfl rfl fun w' hs => ⟨congrArg (fun z => Ending.returned (Value.bool z)) ?_, hs.bel⟩
    show ((decide ((97 : Int) ≤ (sB s 0))) : Bool) = isNameB s
    unfold isNameB; simp_all
  · refine n1 rfl ?_
    refine n1 rfl ?_
    refine n1 rfl ?_
    refine p1 rfl <| p1 rfl ?_
    refine D_end ?_
    refine x_then ?_
    refine C_ret ?_
    refine R_1 rfl rfl fun w' hs => ⟨congrArg (fun z => Ending.returned (Value.bool z)) ?_, hs.bel⟩
    show (false : Bool) = isNameB s
    unfold isNameB; simp_all

theorem spec_IsName (w : World) (s : ByteArray) (hs0 : s.size ≤ 9223372036854775807) : Calls Tryz.prog 56 [(.string s)].toArray w (Val w (.bool (isNameB s))) := by
  refine enter 11 Tryz.func56 rfl rfl rfl ?_
  refine C_seq ?_
  refine C_reg ?_
  refine p1 rfl ?_
  refine D_end ?_
  refine x_then ?_
  refine C_seq ?_
  refine C_reg ?_
  refine p1 rfl ?_
  refine li rfl (cv b_87 rfl rfl rfl rfl (fun w' hs => (spec_IsAtom w' s (by first | assumption | omega | (unfold szm at *; split at * <;> omega)))) ?_)
  refine p1 rfl ?_
  refine gs 5 rfl rfl (fun h1 => ?_) (fun h1 => ?_)
  · refine p1 rfl ?_
    have hsz := atom_sz (s := s) (by assumption)
    refine q1 rfl (D_sidx (j := 0) us_9 rfl rfl rfl rfl (by omega)) ?_
    refine q1 rfl (D_cvt ui_3 ⟨_, u8_5⟩ rfl rfl) ?_
    refine li rfl (cv b_57 rfl rfl rfl rfl (fun w' hs => (spec_l1In w' (sB s 0) 97 122)) ?_)
    refine p1 rfl <| p1 rfl ?_
    refine D_end ?_
    refine x_then ?_
    refine C_ret ?_
    refine R_1 rfl rfl fun w' hs => ⟨congrArg (fun z => Ending.returned (Value.bool z)) ?_, hs.bel⟩
    show ((inR (sB s 0) 97 122) : Bool) = isNameB s
    unfold isNameB; rw [name_w (by assumption)]; simp_all
  · refine n1 rfl ?_
    refine n1 rfl ?_
    refine n1 rfl ?_
    refine n1 rfl ?_
    refine p1 rfl <| p1 rfl ?_
    refine D_end ?_
    refine x_then ?_
    refine C_ret ?_
    refine R_1 rfl rfl fun w' hs => ⟨congrArg (fun z => Ending.returned (Value.bool z)) ?_, hs.bel⟩
    show (false : Bool) = isNameB s
    unfold isNameB; simp_all

theorem laws_szStringS (w : World) (v_a : Value) (a : (List ByteArray)) (left : Int) (h_a : Gd.rd w [v_a] a) (h0 : 0 ≤ left) (h1 : left ≤ 1048576) (ho : okSs a) : Calls Tryz.prog 107 [v_a, (.int .i64 left)].toArray w (Val w (.int .i64 (szm (szSs a) left))) := by
  have hm1 := rd_max h_a
  refine enter 28 Tryz.func107 rfl rfl rfl ?_
  refine C_seq ?_
  refine C_reg ?_
  refine p1 rfl ?_
  refine D_end ?_
  refine x_then ?_
  refine C_seq ?_
  refine C_reg ?_
  refine p1 rfl <| p1 rfl ?_
  refine q1 rfl (D_len s_68 rfl rfl (rd_sl h_a)) ?_
  refine q1 rfl (D_sub rfl rfl rfl rfl (by omega)) ?_
  refine p1 rfl ?_
  refine D_end ?_
  refine x_then ?_
  refine C_seq ?_
  refine C_seq ?_
  refine C_reg ?_
  refine p1 rfl <| p1 rfl ?_
  refine D_end ?_
  refine x_then ?_
  refine C_if _ rfl (fun h2 => ?_) (fun h2 => ?_)
  · have pr2 : ((left - ((a.length : Nat) : Int)) : Int) < 0 := of_decide_eq_true h2
    refine C_seq ?_
    refine C_reg ?_
    refine p1 rfl ?_
    refine D_end ?_
    refine x_then ?_
    refine C_ret ?_
    refine x_then_ret ?_
    refine R_1 rfl rfl fun w' hs => ⟨congrArg (fun z => Ending.returned (Value.int .i64 z)) ?_, hs.bel⟩
    show ((-1) : Int) = szm (szSs a) left
    refine (szm_neg ?_).symm; unfold szSs; omega
  · have pr2 : ¬ ((left - ((a.length : Nat) : Int)) : Int) < 0 := of_decide_eq_false h2
    refine C_skip ?_
    refine x_then ?_
    refine C_seq ?_
    refine C_seq ?_
    refine C_reg ?_
    refine p1 rfl ?_
    refine D_end ?_
    refine x_then ?_
    refine C_block ?_
    refine C_loop (fun m_ ac w' => ∃ (k : Nat), ∃ (lf : Int), (k ≤ a.length) ∧ (0 ≤ lf ∧ lf = left - a.length - ((a.take k).map (·.size)).sum) ∧ m_ = a.length - k ∧ Fits ac 28 [(0, v_a), (1, (.int .i64 lf)), (5, (.int .i64 ((k : Nat) : Int)))] ∧ St w ([]) w') ?_ ?_
    · refine fun ac w' hf hs => ⟨_, 0, (left - ((a.length : Nat) : Int)), ?_, ?_, rfl, hf.weak ⟨rfl, rfl, rfl, trivial⟩, hs⟩
      · first | assumption | omega | simp
      · simp; omega
    · rintro m_ ac w' ⟨k, lf, hk, hl, rfl, hf, hs⟩
      refine D.use ?_ hf hs
      clear hf hs ac w'
      have ht := sums_take_le a k
      refine C_seq ?_
      refine C_seq ?_
      refine C_reg ?_
      refine p1 rfl <| p1 rfl ?_
      refine q1 rfl (D_len s_68 rfl rfl (rd_sl h_a)) ?_
      refine p1 rfl ?_
      refine D_end ?_
      refine x_then ?_
      refine C_if _ rfl (fun h3 => ?_) (fun h3 => ?_)
      · have pr3 : (((k : Nat) : Int) : Int) < ((a.length : Nat) : Int) := of_decide_eq_true h3
        refine C_skip ?_
        refine x_then ?_
        refine C_seq ?_
        refine C_block ?_
        refine C_seq ?_
        refine C_reg ?_
        refine p1 rfl <| p1 rfl <| p1 rfl ?_
        obtain ⟨s0, hs0⟩ := some_of_lt (l := a) (i := k) (by omega)
        have hs1 : s0.size ≤ 9223372036854775807 := ho _ (List.mem_of_getElem? hs0)
        obtain ⟨es4, at5, hr6⟩ := rd_elem (n := 1) rfl h_a hs0
        obtain rfl : es4 = [.string s0] := hr6
        refine q1 rfl (D_ix (l := a) (j := k) s_68 rfl rfl rfl (fun w' hs => (rd_at hs h_a)) rfl (lt_of_some hs0)) ?_
        refine q1 rfl (lr0 o_9 rfl rfl at5 rfl) ?_
        refine q1 rfl (D_lens us_9 rfl rfl) ?_
        refine q1 rfl (D_sub rfl rfl rfl rfl (by omega)) ?_
        refine p1 rfl ?_
        refine D_end ?_
        refine x_then ?_
        refine C_seq ?_
        refine C_reg ?_
        refine p1 rfl <| p1 rfl ?_
        refine D_end ?_
        refine x_then ?_
        refine C_if _ rfl (fun h7 => ?_) (fun h7 => ?_)
        · have pr7 : ((lf - ((s0.size : Nat) : Int)) : Int) < 0 := of_decide_eq_true h7
          refine C_seq ?_
          refine C_reg ?_
          refine p1 rfl ?_
          refine D_end ?_
          refine x_then ?_
          refine D_weak [(4, (.int .i64 (-1)))] ⟨rfl, trivial⟩ ?_
          refine C_ret ?_
          refine x_blk_ret ?_
          refine x_then_ret ?_
          refine x_then_ret ?_
          refine x_blk_ret ?_
          refine x_then_ret ?_
          refine R_1 rfl rfl fun w' hs => ⟨congrArg (fun z => Ending.returned (Value.int .i64 z)) ?_, hs.bel⟩
          show ((-1) : Int) = szm (szSs a) left
          refine (szm_neg ?_).symm; have := sums_take (l := a) hs0; have := sums_take_le a (k + 1); unfold szSs; omega
        · have pr7 : ¬ ((lf - ((s0.size : Nat) : Int)) : Int) < 0 := of_decide_eq_false h7
          refine C_skip ?_
          refine x_blk ?_
          refine x_then ?_
          refine C_reg ?_
          refine p1 rfl ?_
          refine q1 rfl (D_add rfl rfl rfl (r := ((k + 1 : Nat) : Int)) (by omega) (by omega)) ?_
          refine p1 rfl ?_
          refine D_end ?_
          refine x_then ?_
          refine fun ac w' hf hs => ⟨_, ?_, k + 1, (lf - ((s0.size : Nat) : Int)), ?_, ?_, rfl, hf.weak ⟨rfl, rfl, rfl, trivial⟩, hs⟩
          · omega
          · first | assumption | omega | simp
          · have hst := sums_take (l := a) (k := k) (by assumption); rw [hst]; omega
      · have pr3 : ¬ (((k : Nat) : Int) : Int) < ((a.length : Nat) : Int) := of_decide_eq_false h3
        refine C_exit ?_
        refine x_then_exit ?_
        refine x_then_exit ?_
        refine x_blk_eq ?_
        refine x_then ?_
        refine C_seq ?_
        refine C_reg ?_
        refine p1 rfl <| p1 rfl ?_
        refine D_end ?_
        refine x_then ?_
        refine C_ret ?_
        refine R_1 rfl rfl fun w' hs => ⟨congrArg (fun z => Ending.returned (Value.int .i64 z)) ?_, hs.bel⟩
        show (lf : Int) = szm (szSs a) left
        rw [szm_pos]; all_goals (unfold szSs; rw [List.take_of_length_le (by omega)] at hl; omega)

theorem laws_toStringS (w : World) (v_a : Value) (a : (List ByteArray)) (h_a : Gd.rd w [v_a] a) (hn : a.length ≤ 1048576) : Calls Tryz.prog 109 [v_a].toArray w (Res w (a : List ByteArray)) := by
  have hm1 := rd_max h_a
  refine enter 22 Tryz.func109 rfl rfl rfl ?_
  refine C_seq ?_
  refine C_reg ?_
  refine p1 rfl ?_
  refine D_end ?_
  refine x_then ?_
  refine C_seq ?_
  refine C_reg ?_
  refine p1 rfl ?_
  refine q1 rfl (D_len s_68 rfl rfl (rd_sl h_a)) ?_
  refine li rfl (D_mk (α := ByteArray) (z := ⟨#[]⟩) s_68 y_9 rfl rfl rfl rfl (by omega) (by omega) fun v2 => ?_)
  refine p1 rfl ?_
  refine D_end ?_
  refine x_then ?_
  refine D_H ([ov [v2] (List.replicate a.length (⟨#[]⟩) : (List ByteArray))]) rfl ?_
  refine C_seq ?_
  refine C_seq ?_
  refine C_reg ?_
  refine p1 rfl ?_
  refine D_end ?_
  refine x_then ?_
  refine C_block ?_
  refine C_loop (fun m_ ac w' => ∃ (k : Nat), ∃ (v : Value), (k ≤ a.length) ∧ m_ = a.length - k ∧ Fits ac 22 [(0, v_a), (3, v), (4, (.int .i64 ((k : Nat) : Int)))] ∧ St w ([ov [v] (cp a ⟨#[]⟩ k : (List ByteArray))]) w') ?_ ?_
  · refine D_eq 0 rfl (show (List.replicate a.length (⟨#[]⟩) : (List ByteArray)) = cp a ⟨#[]⟩ 0 from by rw [cp_zero]) ?_
    refine fun ac w' hf hs => ⟨_, 0, v2, ?_, rfl, hf.weak ⟨rfl, rfl, rfl, trivial⟩, hs⟩
    · first | assumption | omega | simp
  · rintro m_ ac w' ⟨k, v, hk, rfl, hf, hs⟩
    refine D.use ?_ hf hs
    clear hf hs ac w'
    have hcl := cp_len a ⟨#[]⟩ k hk
    refine C_seq ?_
    refine C_seq ?_
    refine C_reg ?_
    refine p1 rfl <| p1 rfl ?_
    refine q1 rfl (D_len s_68 rfl rfl (rd_sl h_a)) ?_
    refine p1 rfl ?_
    refine D_end ?_
    refine x_then ?_
    refine D_H ([ov [v] (cp a ⟨#[]⟩ k : (List ByteArray))]) rfl ?_
    refine C_if _ rfl (fun h3 => ?_) (fun h3 => ?_)
    · have pr3 : (((k : Nat) : Int) : Int) < ((a.length : Nat) : Int) := of_decide_eq_true h3
      refine C_skip ?_
      refine x_then ?_
      refine C_seq ?_
      refine C_block ?_
      refine C_reg ?_
      refine p1 rfl <| p1 rfl <| p1 rfl <| p1 rfl ?_
      obtain ⟨x4, hx5⟩ := some_of_lt (l := a) (i := k) (by omega)
      obtain ⟨es6, at7, hr8⟩ := rd_elem (n := 1) rfl h_a hx5
      obtain rfl : es6 = [.string x4] := hr8
      refine q1 rfl (D_ix (l := a) (j := k) s_68 rfl rfl rfl (fun w' hs => (rd_at hs h_a)) rfl (lt_of_some hx5)) ?_
      refine q1 rfl (lr0 o_9 rfl rfl at7 rfl) ?_
      obtain ⟨x9, hx10⟩ := some_of_lt (l := (cp a ⟨#[]⟩ k)) (i := k) (by omega)
      refine q1 rfl (D_ix (l := (cp a ⟨#[]⟩ k)) (j := k) s_68 rfl rfl rfl (fun w' hs => (rd_own (k := 0) hs rfl)) rfl (lt_of_some hx10)) ?_
      refine li rfl (so (α := ByteArray) (z := x4) 0 z_9 rfl rfl rfl rfl rfl (lt_of_some hx10) ?_)
      refine D_end ?_
      refine x_blk ?_
      refine x_then ?_
      refine D_H ([ov [v] ((cp a ⟨#[]⟩ k).set k x4 : (List ByteArray))]) rfl ?_
      refine C_reg ?_
      refine p1 rfl ?_
      refine q1 rfl (D_add rfl rfl rfl (r := ((k + 1 : Nat) : Int)) (by omega) (by omega)) ?_
      refine p1 rfl ?_
      refine D_end ?_
      refine x_then ?_
      refine D_eq 0 rfl (show ((cp a ⟨#[]⟩ k).set k x4 : (List ByteArray)) = cp a ⟨#[]⟩ (k + 1) from by rw [cp_set (by assumption)]) ?_
      refine fun ac w' hf hs => ⟨_, ?_, k + 1, v, ?_, rfl, hf.weak ⟨rfl, rfl, rfl, trivial⟩, hs⟩
      · omega
      · first | assumption | omega | simp
    · have pr3 : ¬ (((k : Nat) : Int) : Int) < ((a.length : Nat) : Int) := of_decide_eq_false h3
      refine C_exit ?_
      refine x_then_exit ?_
      refine x_then_exit ?_
      refine x_blk_eq ?_
      refine x_then ?_
      refine C_seq ?_
      refine C_reg ?_
      refine p1 rfl <| p1 rfl ?_
      refine D_end ?_
      refine x_then ?_
      refine C_ret ?_
      refine R_1 rfl rfl fun w' hs => res_of (k := 0) hs rfl ?_
      show cp a ⟨#[]⟩ k = a
      exact cp_done (by omega)

theorem laws_eqStringS (w : World) (v_a : Value) (a : (List ByteArray)) (v_b : Value) (b : (List ByteArray)) (h_a : Gd.rd w [v_a] a) (h_b : Gd.rd w [v_b] b) : Calls Tryz.prog 105 [v_a, v_b].toArray w (Val w (.bool (decide (a = b)))) := by
  have hm1 := rd_max h_a
  have hm2 := rd_max h_b
  refine enter 26 Tryz.func105 rfl rfl rfl ?_
  refine C_seq ?_
  refine C_reg ?_
  refine p1 rfl ?_
  refine D_end ?_
  refine x_then ?_
  refine C_seq ?_
  refine C_seq ?_
  refine C_reg ?_
  refine p1 rfl ?_
  refine q1 rfl (D_len s_68 rfl rfl (rd_sl h_a)) ?_
  refine p1 rfl ?_
  refine q1 rfl (D_len s_68 rfl rfl (rd_sl h_b)) ?_
  refine p1 rfl ?_
  refine D_end ?_
  refine x_then ?_
  refine C_if _ rfl (fun h3 => ?_) (fun h3 => ?_)
  · have pr3 : (((a.length : Nat) : Int) : Int) ≠ ((b.length : Nat) : Int) := bne_iff_ne.1 h3
    refine C_seq ?_
    refine C_reg ?_
    refine p1 rfl ?_
    refine D_end ?_
    refine x_then ?_
    refine C_ret ?_
    refine x_then_ret ?_
    refine R_1 rfl rfl fun w' hs => ⟨congrArg (fun z => Ending.returned (Value.bool z)) ?_, hs.bel⟩
    show (false : Bool) = decide (a = b)
    simp; intro e; subst e; simp_all
  · have pr3 : (((a.length : Nat) : Int) : Int) = ((b.length : Nat) : Int) := eq_of_bne_f h3
    refine C_skip ?_
    refine x_then ?_
    refine C_seq ?_
    refine C_seq ?_
    refine C_reg ?_
    refine p1 rfl ?_
    refine D_end ?_
    refine x_then ?_
    refine C_block ?_
    refine C_loop (fun m_ ac w' => ∃ (k : Nat), (k ≤ a.length) ∧ (∀ i, i < k → a[i]? = b[i]?) ∧ m_ = a.length - k ∧ Fits ac 26 [(0, v_a), (1, v_b), (5, (.int .i64 ((k : Nat) : Int)))] ∧ St w ([]) w') ?_ ?_
    · refine fun ac w' hf hs => ⟨_, 0, ?_, ?_, rfl, hf.weak ⟨rfl, rfl, rfl, trivial⟩, hs⟩
      · first | assumption | omega | simp
      · intro i hi; omega
    · rintro m_ ac w' ⟨k, hk, hi, rfl, hf, hs⟩
      refine D.use ?_ hf hs
      clear hf hs ac w'
      refine C_seq ?_
      refine C_seq ?_
      refine C_reg ?_
      refine p1 rfl <| p1 rfl ?_
      refine q1 rfl (D_len s_68 rfl rfl (rd_sl h_a)) ?_
      refine p1 rfl ?_
      refine D_end ?_
      refine x_then ?_
      refine C_if _ rfl (fun h4 => ?_) (fun h4 => ?_)
      · have pr4 : (((k : Nat) : Int) : Int) < ((a.length : Nat) : Int) := of_decide_eq_true h4
        refine C_skip ?_
        refine x_then ?_
        refine C_seq ?_
        refine C_block ?_
        refine C_seq ?_
        refine C_draw mixed [] (by kernel_rfl) ?_
        refine tk 0 rfl (by kernel_rfl) (by kernel_rfl) (by kernel_rfl) rfl (fun _ hs => hs) (rp rfl) ?_
        refine tk 1 rfl (by kernel_rfl) (by kernel_rfl) (by kernel_rfl) rfl (fun _ hs => hs) (rp rfl) ?_
        obtain ⟨x5, hx6⟩ := some_of_lt (l := a) (i := k) (by omega)
        obtain ⟨es7, at8, hr9⟩ := rd_elem (n := 1) rfl h_a hx6
        obtain rfl : es7 = [.string x5] := hr9
        refine tk 2 rfl (by kernel_rfl) (by kernel_rfl) (by kernel_rfl) rfl (fun _ hs => hs) (D_ix (l := a) (j := k) s_68 rfl rfl rfl (fun w' hs => (rd_at hs h_a)) rfl (lt_of_some hx6)) ?_
        refine tk 3 rfl (by kernel_rfl) (by kernel_rfl) (by kernel_rfl) rfl (fun _ hs => hs) (lr0 o_9 rfl rfl at8 rfl) ?_
        refine tk 4 rfl (by kernel_rfl) (by kernel_rfl) (by kernel_rfl) rfl (fun _ hs => hs) (rp rfl) ?_
        refine tk 5 rfl (by kernel_rfl) (by kernel_rfl) (by kernel_rfl) rfl (fun _ hs => hs) (rp rfl) ?_
        obtain ⟨x10, hx11⟩ := some_of_lt (l := b) (i := k) (by omega)
        obtain ⟨es12, at13, hr14⟩ := rd_elem (n := 1) rfl h_b hx11
        obtain rfl : es12 = [.string x10] := hr14
        refine tk 6 rfl (by kernel_rfl) (by kernel_rfl) (by kernel_rfl) rfl (fun _ hs => hs) (D_ix (l := b) (j := k) s_68 rfl rfl rfl (fun w' hs => (rd_at hs h_b)) rfl (lt_of_some hx11)) ?_
        refine tk 7 rfl (by kernel_rfl) (by kernel_rfl) (by kernel_rfl) rfl (fun _ hs => hs) (lr0 o_9 rfl rfl at13 rfl) ?_
        refine tk 8 rfl (by kernel_rfl) (by kernel_rfl) (by kernel_rfl) rfl (fun _ hs => hs) (D_neS rfl rfl rfl) ?_
        refine tE (by kernel_rfl) ?_
        refine x_then ?_
        refine C_if _ rfl (fun h15 => ?_) (fun h15 => ?_)
        · have pr15 : ¬ (x5 : ByteArray) = x10 := of_decide_eq_false (not_t h15)
          refine C_seq ?_
          refine C_reg ?_
          refine p1 rfl ?_
          refine D_end ?_
          refine x_then ?_
          refine D_weak [(4, (.bool false))] ⟨rfl, trivial⟩ ?_
          refine C_ret ?_
          refine x_blk_ret ?_
          refine x_then_ret ?_
          refine x_then_ret ?_
          refine x_blk_ret ?_
          refine x_then_ret ?_
          refine R_1 rfl rfl fun w' hs => ⟨congrArg (fun z => Ending.returned (Value.bool z)) ?_, hs.bel⟩
          show (false : Bool) = decide (a = b)
          simp; intro e; subst e; simp_all
        · have pr15 : (x5 : ByteArray) = x10 := of_decide_eq_true (not_f h15)
          refine C_skip ?_
          refine x_blk ?_
          refine x_then ?_
          refine C_reg ?_
          refine p1 rfl ?_
          refine q1 rfl (D_add rfl rfl rfl (r := ((k + 1 : Nat) : Int)) (by omega) (by omega)) ?_
          refine p1 rfl ?_
          refine D_end ?_
          refine x_then ?_
          refine fun ac w' hf hs => ⟨_, ?_, k + 1, ?_, ?_, rfl, hf.weak ⟨rfl, rfl, rfl, trivial⟩, hs⟩
          · omega
          · first | assumption | omega | simp
          · exact idx_step hi (by assumption) (by assumption) (by simp_all)
      · have pr4 : ¬ (((k : Nat) : Int) : Int) < ((a.length : Nat) : Int) := of_decide_eq_false h4
        refine C_exit ?_
        refine x_then_exit ?_
        refine x_then_exit ?_
        refine x_blk_eq ?_
        refine x_then ?_
        refine C_seq ?_
        refine C_reg ?_
        refine p1 rfl ?_
        refine D_end ?_
        refine x_then ?_
        refine C_ret ?_
        refine R_1 rfl rfl fun w' hs => ⟨congrArg (fun z => Ending.returned (Value.bool z)) ?_, hs.bel⟩
        show (true : Bool) = decide (a = b)
        simp; exact eq_of_idx (by omega) (fun i h => hi i (by omega))

theorem laws_eqFact (w : World) (c_a : List Value) (a : Fact) (c_b : List Value) (b : Fact) (h_a : Gd.rd w c_a a) (h_b : Gd.rd w c_b b) : Calls Tryz.prog 82 [(.agg c_a.toArray), (.agg c_b.toArray)].toArray w (Val w (.bool (decide (a = b)))) := by
  obtain ⟨u1, rfl, hu2⟩ := open_Fact h_a
  have hm3 := rd_max hu2
  obtain ⟨u4, rfl, hu5⟩ := open_Fact h_b
  have hm6 := rd_max hu5
  refine enter 16 Tryz.func82 rfl rfl rfl ?_
  refine C_seq ?_
  refine C_reg ?_
  refine li rfl (D_box rfl rfl rfl rfl rfl fun g7 => ?_)
  refine li rfl (D_box rfl rfl rfl rfl rfl fun g8 => ?_)
  refine p1 rfl ?_
  refine D_end ?_
  refine x_then ?_
  refine D_H ([bx g8 [(.string b.Rel), u4], bx g7 [(.string a.Rel), u1]]) rfl ?_
  refine C_seq ?_
  refine C_seq ?_
  refine C_reg ?_
  refine q1 rfl (D_fb f_70_0 rfl rfl (q := 0) rfl) ?_
  refine q1 rfl (lb 1 o_9 rfl rfl rfl rfl) ?_
  refine q1 rfl (D_fb f_70_0 rfl rfl (q := 0) rfl) ?_
  refine q1 rfl (lb 0 o_9 rfl rfl rfl rfl) ?_
  refine q1 rfl (D_neS rfl rfl rfl) ?_
  refine D_end ?_
  refine x_then ?_
  refine C_if _ rfl (fun h9 => ?_) (fun h9 => ?_)
  · have pr9 : ¬ (a.Rel : ByteArray) = b.Rel := of_decide_eq_false (not_t h9)
    refine C_seq ?_
    refine C_reg ?_
    refine p1 rfl ?_
    refine D_end ?_
    refine x_then ?_
    refine C_ret ?_
    refine x_then_ret ?_
    refine R_1 rfl rfl fun w' hs => ⟨congrArg (fun z => Ending.returned (Value.bool z)) ?_, hs.bel⟩
    show (false : Bool) = decide (a = b)
    cases a; cases b; simp_all
  · have pr9 : (a.Rel : ByteArray) = b.Rel := of_decide_eq_true (not_f h9)
    refine C_skip ?_
    refine x_then ?_
    refine C_seq ?_
    refine C_seq ?_
    refine C_reg ?_
    refine q1 rfl (D_fb f_70_1 rfl rfl (q := 1) rfl) ?_
    refine q1 rfl (lb 1 o_68 rfl rfl rfl rfl) ?_
    refine q1 rfl (D_fb f_70_1 rfl rfl (q := 1) rfl) ?_
    refine q1 rfl (lb 0 o_68 rfl rfl rfl rfl) ?_
    refine li rfl (cv b_105 rfl rfl rfl rfl (fun w' hs => (laws_eqStringS w' u1 a.Args u4 b.Args (rd_at hs hu2) (rd_at hs hu5))) ?_)
    refine p1 rfl ?_
    refine D_end ?_
    refine x_then ?_
    refine D_weak [(15, (.bool (!(decide (a.Args = b.Args)))))] ⟨rfl, trivial⟩ ?_
    refine D_sel (H' := []) [false, false] rfl ?_
    refine C_if _ rfl (fun h10 => ?_) (fun h10 => ?_)
    · have h10n : (decide (a.Args = b.Args)) = false := not_t h10
      refine C_seq ?_
      refine C_reg ?_
      refine p1 rfl ?_
      refine D_end ?_
      refine x_then ?_
      refine C_ret ?_
      refine x_then_ret ?_
      refine R_1 rfl rfl fun w' hs => ⟨congrArg (fun z => Ending.returned (Value.bool z)) ?_, hs.bel⟩
      show (false : Bool) = decide (a = b)
      cases a; cases b; simp_all
    · have h10n : (decide (a.Args = b.Args)) = true := not_f h10
      refine C_skip ?_
      refine x_then ?_
      refine C_seq ?_
      refine C_reg ?_
      refine p1 rfl ?_
      refine D_end ?_
      refine x_then ?_
      refine C_ret ?_
      refine R_1 rfl rfl fun w' hs => ⟨congrArg (fun z => Ending.returned (Value.bool z)) ?_, hs.bel⟩
      show (true : Bool) = decide (a = b)
      cases a; cases b; simp_all

theorem laws_eqEvent (w : World) (c_a : List Value) (a : Event) (c_b : List Value) (b : Event) (h_a : Gd.rd w c_a a) (h_b : Gd.rd w c_b b) : Calls Tryz.prog 45 [(.agg c_a.toArray), (.agg c_b.toArray)].toArray w (Val w (.bool (decide (a = b)))) := by
  obtain ⟨u1, rfl, hu2⟩ := open_Event h_a
  have hm3 := rd_max hu2
  have hb4 := sub_Event_Fact h_a
  obtain ⟨u5, rfl, hu6⟩ := open_Event h_b
  have hm7 := rd_max hu6
  have hb8 := sub_Event_Fact h_b
  refine enter 21 Tryz.func45 rfl rfl rfl ?_
  refine C_seq ?_
  refine C_reg ?_
  refine li rfl (D_box rfl rfl rfl rfl rfl fun g9 => ?_)
  refine li rfl (D_box rfl rfl rfl rfl rfl fun g10 => ?_)
  refine p1 rfl ?_
  refine D_end ?_
  refine x_then ?_
  refine D_H ([bx g10 [(.int .i64 b.Kind), (.string b.Rule), (.string b.Fact.Rel), u5], bx g9 [(.int .i64 a.Kind), (.string a.Rule), (.string a.Fact.Rel), u1]]) rfl ?_
  refine C_seq ?_
  refine C_seq ?_
  refine C_reg ?_
  refine q1 rfl (D_fb f_79_0 rfl rfl (q := 0) rfl) ?_
  refine q1 rfl (lb 1 o_3 rfl rfl rfl rfl) ?_
  refine q1 rfl (D_fb f_79_0 rfl rfl (q := 0) rfl) ?_
  refine q1 rfl (lb 0 o_3 rfl rfl rfl rfl) ?_
  refine p1 rfl ?_
  refine D_end ?_
  refine x_then ?_
  refine C_if _ rfl (fun h11 => ?_) (fun h11 => ?_)
  · have pr11 : (a.Kind : Int) ≠ b.Kind := bne_iff_ne.1 h11
    refine C_seq ?_
    refine C_reg ?_
    refine p1 rfl ?_
    refine D_end ?_
    refine x_then ?_
    refine C_ret ?_
    refine x_then_ret ?_
    refine R_1 rfl rfl fun w' hs => ⟨congrArg (fun z => Ending.returned (Value.bool z)) ?_, hs.bel⟩
    show (false : Bool) = decide (a = b)
    cases a; cases b; simp_all
  · have pr11 : (a.Kind : Int) = b.Kind := eq_of_bne_f h11
    refine C_skip ?_
    refine x_then ?_
    refine C_seq ?_
    refine C_seq ?_
    refine C_reg ?_
    refine q1 rfl (D_fb f_79_1 rfl rfl (q := 1) rfl) ?_
    refine q1 rfl (lb 1 o_9 rfl rfl rfl rfl) ?_
    refine q1 rfl (D_fb f_79_1 rfl rfl (q := 1) rfl) ?_
    refine q1 rfl (lb 0 o_9 rfl rfl rfl rfl) ?_
    refine q1 rfl (D_neS rfl rfl rfl) ?_
    refine D_end ?_
    refine x_then ?_
    refine C_if _ rfl (fun h12 => ?_) (fun h12 => ?_)
    · have pr12 : ¬ (a.Rule : ByteArray) = b.Rule := of_decide_eq_false (not_t h12)
      refine C_seq ?_
      refine C_reg ?_
      refine p1 rfl ?_
      refine D_end ?_
      refine x_then ?_
      refine C_ret ?_
      refine x_then_ret ?_
      refine R_1 rfl rfl fun w' hs => ⟨congrArg (fun z => Ending.returned (Value.bool z)) ?_, hs.bel⟩
      show (false : Bool) = decide (a = b)
      cases a; cases b; simp_all
    · have pr12 : (a.Rule : ByteArray) = b.Rule := of_decide_eq_true (not_f h12)
      refine C_skip ?_
      refine x_then ?_
      refine C_seq ?_
      refine C_seq ?_
      refine C_reg ?_
      refine q1 rfl (D_fb f_79_2 rfl rfl (q := 2) rfl) ?_
      refine q1 rfl (lba (es := [(.string a.Fact.Rel), u1]) 1 a_70 rfl rfl rfl rfl) ?_
      refine q1 rfl (D_fb f_79_2 rfl rfl (q := 2) rfl) ?_
      refine q1 rfl (lba (es := [(.string b.Fact.Rel), u5]) 0 a_70 rfl rfl rfl rfl) ?_
      refine li rfl (cv b_82 rfl rfl rfl rfl (fun w' hs => (laws_eqFact w' [(.string a.Fact.Rel), u1] a.Fact [(.string b.Fact.Rel), u5] b.Fact (rd_at hs hb4) (rd_at hs hb8))) ?_)
      refine p1 rfl ?_
      refine D_end ?_
      refine x_then ?_
      refine D_weak [(20, (.bool (!(decide (a.Fact = b.Fact)))))] ⟨rfl, trivial⟩ ?_
      refine D_sel (H' := []) [false, false] rfl ?_
      refine C_if _ rfl (fun h13 => ?_) (fun h13 => ?_)
      · have h13n : (decide (a.Fact = b.Fact)) = false := not_t h13
        refine C_seq ?_
        refine C_reg ?_
        refine p1 rfl ?_
        refine D_end ?_
        refine x_then ?_
        refine C_ret ?_
        refine x_then_ret ?_
        refine R_1 rfl rfl fun w' hs => ⟨congrArg (fun z => Ending.returned (Value.bool z)) ?_, hs.bel⟩
        show (false : Bool) = decide (a = b)
        cases a; cases b; simp_all
      · have h13n : (decide (a.Fact = b.Fact)) = true := not_f h13
        refine C_skip ?_
        refine x_then ?_
        refine C_seq ?_
        refine C_reg ?_
        refine p1 rfl ?_
        refine D_end ?_
        refine x_then ?_
        refine C_ret ?_
        refine R_1 rfl rfl fun w' hs => ⟨congrArg (fun z => Ending.returned (Value.bool z)) ?_, hs.bel⟩
        show (true : Bool) = decide (a = b)
        cases a; cases b; simp_all
end Go.Sy.Ev1
