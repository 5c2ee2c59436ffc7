/-
  Contracts of functions of the program, walked (printed by a program of ours).
  Conditions: those that each theorem states.
-/
import Derived.Test.YtamkdpknhaninaaBel1
import Derived.Test.YtamkdpknhaninaaTypes
import Derived.Test.YtamkdpknhaninaaEv
import Derived.Test.YtamkdpknhaninaaBase
set_option linter.unusedVariables false
set_option maxRecDepth 20000
namespace Go.Sy.Ev1
open Go Go.RowKit Go.Proofs Go.Sy
theorem mixed : Try.prog.follows .mixedOrders = true := by kernel_rfl
theorem us_9 : Try.prog.underlying 9 = some .string := by kernel_rfl
theorem ui_3 : Try.prog.underlying 3 = some (.int .i64) := by kernel_rfl
theorem u8_5 : Try.prog.underlying 5 = some (.int .u8) := by kernel_rfl
theorem b_49 : hasBody Try.prog 49 = true := by kernel_rfl
theorem b_51 : hasBody Try.prog 51 = true := by kernel_rfl
theorem b_48 : hasBody Try.prog 48 = true := by kernel_rfl
theorem f_29_0 : fieldOff Try.prog 29 0 = some 0 := by kernel_rfl
theorem o_9 : oneTy Try.prog 9 = true := by kernel_rfl
theorem b_23 : hasBody Try.prog 23 = true := by kernel_rfl
theorem f_29_1 : fieldOff Try.prog 29 1 = some 1 := by kernel_rfl
theorem o_22 : oneTy Try.prog 22 = true := by kernel_rfl
theorem s_22 : sliceTy Try.prog 22 = some (9, 1, 16) := by kernel_rfl
theorem b_20 : hasBody Try.prog 20 = true := by kernel_rfl
theorem f_31_2 : fieldOff Try.prog 31 2 = some 2 := by kernel_rfl
theorem f_31_0 : fieldOff Try.prog 31 0 = some 0 := by kernel_rfl
theorem o_3 : oneTy Try.prog 3 = true := by kernel_rfl
theorem f_31_1 : fieldOff Try.prog 31 1 = some 1 := by kernel_rfl
theorem a_29 : aggTy Try.prog 29 = some 2 := by kernel_rfl
theorem b_22 : hasBody Try.prog 22 = true := by kernel_rfl
theorem b_19 : hasBody Try.prog 19 = true := by kernel_rfl
theorem f_24_0 : fieldOff Try.prog 24 0 = some 0 := by kernel_rfl
theorem f_24_1 : fieldOff Try.prog 24 1 = some 1 := by kernel_rfl
theorem b_47 : hasBody Try.prog 47 = true := by kernel_rfl
theorem f_26_1 : fieldOff Try.prog 26 1 = some 1 := by kernel_rfl
theorem f_26_2 : fieldOff Try.prog 26 2 = some 2 := by kernel_rfl
theorem a_24 : aggTy Try.prog 24 = some 2 := by kernel_rfl
theorem b_18 : hasBody Try.prog 18 = true := by kernel_rfl
theorem y_9 : zeroTy Try.prog 9 = some (.string ⟨#[]⟩) := by kernel_rfl
theorem z_9 : sizeTy Try.prog 9 = some 1 := by kernel_rfl
theorem y_29 : zeroTy Try.prog 29 = some (.agg #[(.string ⟨#[]⟩), (.slice none 0 0)]) := by kernel_rfl
theorem b_50 : hasBody Try.prog 50 = true := by kernel_rfl
theorem z_22 : sizeTy Try.prog 22 = some 1 := by kernel_rfl
theorem z_29 : sizeTy Try.prog 29 = some 2 := by kernel_rfl
theorem y_31 : zeroTy Try.prog 31 = some (.agg #[(.int .i64 0), (.string ⟨#[]⟩), (.string ⟨#[]⟩), (.slice none 0 0)]) := by kernel_rfl
theorem f_26_0 : fieldOff Try.prog 26 0 = some 0 := by kernel_rfl
theorem z_3 : sizeTy Try.prog 3 = some 1 := by kernel_rfl
theorem b_21 : hasBody Try.prog 21 = true := by kernel_rfl
theorem a_31 : aggTy Try.prog 31 = some 4 := by kernel_rfl
theorem z_31 : sizeTy Try.prog 31 = some 4 := by kernel_rfl
theorem b_52 : hasBody Try.prog 52 = true := by kernel_rfl
theorem b_24 : hasBody Try.prog 24 = true := by kernel_rfl
open Go.Sy.Bel1
set_option maxHeartbeats 4000000 in
theorem impl_IsAtom (w : World) (s : ByteArray) : Calls Try.prog 51 [(.string s)].toArray w (Val w (.bool (isAtomB s))) := by
  refine enter 40 Try.func51 rfl rfl rfl ?_
  refine C_seq ?_
  refine C_reg ?_
  refine p1 rfl ?_
  refine D_end ?_
  refine x_then ?_
  refine C_seq ?_
  refine C_seq ?_
  refine C_reg ?_
  refine p1 rfl ?_
  refine q1 rfl (D_lens us_9 rfl rfl) ?_
  refine p1 rfl <| p1 rfl ?_
  refine gs 7 rfl rfl (fun h1 => ?_) (fun h1 => ?_)
  · have pr1 : (((s.size : Nat) : Int) : Int) < 1 := of_decide_eq_true h1
    refine n1 rfl ?_
    refine n1 rfl ?_
    refine n1 rfl ?_
    refine p1 rfl ?_
    refine D_end ?_
    refine x_then ?_
    refine C_t rfl ?_
    refine C_seq ?_
    refine C_reg ?_
    refine p1 rfl ?_
    refine D_end ?_
    refine x_then ?_
    refine C_ret ?_
    refine x_then_ret ?_
    refine R_1 rfl rfl fun w' hs => ⟨congrArg (fun z => Ending.returned (Value.bool z)) ?_, hs.bel⟩
    show (false : Bool) = isAtomB s
    first | exact atom_n1 (by omega) | exact atom_n2 (k := k) (by omega) (okCh_f (by omega)) | exact atom_y (by omega) (fun i h => hi i (by omega))
  · have pr1 : ¬ (((s.size : Nat) : Int) : Int) < 1 := of_decide_eq_false h1
    refine p1 rfl ?_
    refine q1 rfl (D_lens us_9 rfl rfl) ?_
    refine p1 rfl <| p1 rfl ?_
    refine D_end ?_
    refine x_then ?_
    refine C_if _ rfl (fun h2 => ?_) (fun h2 => ?_)
    · have pr2 : (8 : Int) < ((s.size : Nat) : Int) := of_decide_eq_true h2
      refine C_seq ?_
      refine C_reg ?_
      refine p1 rfl ?_
      refine D_end ?_
      refine x_then ?_
      refine C_ret ?_
      refine x_then_ret ?_
      refine R_1 rfl rfl fun w' hs => ⟨congrArg (fun z => Ending.returned (Value.bool z)) ?_, hs.bel⟩
      show (false : Bool) = isAtomB s
      first | exact atom_n1 (by omega) | exact atom_n2 (k := k) (by omega) (okCh_f (by omega)) | exact atom_y (by omega) (fun i h => hi i (by omega))
    · have pr2 : ¬ (8 : Int) < ((s.size : Nat) : Int) := of_decide_eq_false h2
      refine C_skip ?_
      refine x_then ?_
      refine C_seq ?_
      refine C_seq ?_
      refine C_reg ?_
      refine p1 rfl ?_
      refine D_end ?_
      refine x_then ?_
      refine C_block ?_
      refine C_loop (fun m_ ac w' => ∃ (k : Nat), (k ≤ s.size) ∧ (∀ i, i < k → okCh (sB s i) = true) ∧ m_ = s.size - k ∧ Fits ac 40 [(0, (.string s)), (3, (.int .i64 ((k : Nat) : Int)))] ∧ St w ([]) w') ?_ ?_
      · refine fun ac w' hf hs => ⟨_, 0, ?_, ?_, rfl, hf.weak ⟨rfl, rfl, trivial⟩, hs⟩
        · first | assumption | omega | simp
        · intro i hi; omega
      · rintro m_ ac w' ⟨k, hk, hi, rfl, hf, hs⟩
        refine D.use ?_ hf hs
        clear hf hs ac w'
        refine C_seq ?_
        refine C_seq ?_
        refine C_reg ?_
        refine p1 rfl <| p1 rfl ?_
        refine q1 rfl (D_lens us_9 rfl rfl) ?_
        refine p1 rfl ?_
        refine D_end ?_
        refine x_then ?_
        refine C_if _ rfl (fun h3 => ?_) (fun h3 => ?_)
        · have pr3 : (((k : Nat) : Int) : Int) < ((s.size : Nat) : Int) := of_decide_eq_true h3
          refine C_skip ?_
          refine x_then ?_
          refine C_seq ?_
          refine C_block ?_
          refine C_seq ?_
          refine C_reg ?_
          refine p1 rfl <| p1 rfl ?_
          refine q1 rfl (D_sidx (j := k) us_9 rfl rfl rfl rfl (by omega)) ?_
          refine p1 rfl <| p1 rfl ?_
          refine gs 22 rfl rfl (fun h4 => ?_) (fun h4 => ?_)
          · have pr4 : ((sB s k) : Int) < 97 := of_decide_eq_true h4
            refine n1 rfl ?_
            refine n1 rfl ?_
            refine n1 rfl ?_
            refine n1 rfl ?_
            refine p1 rfl <| p1 rfl <| p1 rfl <| p1 rfl ?_
            refine q1 rfl (D_sidx (j := k) us_9 rfl rfl rfl rfl (by omega)) ?_
            refine p1 rfl <| p1 rfl ?_
            refine gs 33 rfl rfl (fun h5 => ?_) (fun h5 => ?_)
            · have pr5 : ((sB s k) : Int) < 48 := of_decide_eq_true h5
              refine n1 rfl ?_
              refine n1 rfl ?_
              refine n1 rfl ?_
              refine n1 rfl ?_
              refine p1 rfl <| p1 rfl ?_
              refine D_end ?_
              refine x_then ?_
              refine D_weak [(0, (.string s)), (3, (.int .i64 ((k : Nat) : Int))), (39, (.bool true))] ⟨rfl, rfl, rfl, trivial⟩ ?_
              refine C_t rfl ?_
              refine C_seq ?_
              refine C_reg ?_
              refine p1 rfl ?_
              refine D_end ?_
              refine x_then ?_
              refine C_ret ?_
              refine x_blk_ret ?_
              refine x_then_ret ?_
              refine x_then_ret ?_
              refine x_blk_ret ?_
              refine x_then_ret ?_
              refine R_1 rfl rfl fun w' hs => ⟨congrArg (fun z => Ending.returned (Value.bool z)) ?_, hs.bel⟩
              show (false : Bool) = isAtomB s
              first | exact atom_n1 (by omega) | exact atom_n2 (k := k) (by omega) (okCh_f (by omega)) | exact atom_y (by omega) (fun i h => hi i (by omega))
            · have pr5 : ¬ ((sB s k) : Int) < 48 := of_decide_eq_false h5
              refine p1 rfl <| p1 rfl ?_
              refine q1 rfl (D_sidx (j := k) us_9 rfl rfl rfl rfl (by omega)) ?_
              refine p1 rfl <| p1 rfl <| p1 rfl ?_
              refine D_end ?_
              refine x_then ?_
              refine D_weak [(0, (.string s)), (3, (.int .i64 ((k : Nat) : Int))), (39, (.bool (decide ((57 : Int) < (sB s k)))))] ⟨rfl, rfl, rfl, trivial⟩ ?_
              refine C_if _ rfl (fun h6 => ?_) (fun h6 => ?_)
              · have pr6 : (57 : Int) < (sB s k) := of_decide_eq_true h6
                refine C_seq ?_
                refine C_reg ?_
                refine p1 rfl ?_
                refine D_end ?_
                refine x_then ?_
                refine C_ret ?_
                refine x_blk_ret ?_
                refine x_then_ret ?_
                refine x_then_ret ?_
                refine x_blk_ret ?_
                refine x_then_ret ?_
                refine R_1 rfl rfl fun w' hs => ⟨congrArg (fun z => Ending.returned (Value.bool z)) ?_, hs.bel⟩
                show (false : Bool) = isAtomB s
                first | exact atom_n1 (by omega) | exact atom_n2 (k := k) (by omega) (okCh_f (by omega)) | exact atom_y (by omega) (fun i h => hi i (by omega))
              · have pr6 : ¬ (57 : Int) < (sB s k) := of_decide_eq_false h6
                refine C_skip ?_
                refine x_blk ?_
                refine x_then ?_
                refine C_reg ?_
                refine p1 rfl ?_
                refine q1 rfl (D_add rfl rfl rfl (r := ((k + 1 : Nat) : Int)) (by omega) (by omega)) ?_
                refine p1 rfl ?_
                refine D_end ?_
                refine x_then ?_
                refine fun ac w' hf hs => ⟨_, ?_, k + 1, ?_, ?_, rfl, hf.weak ⟨rfl, rfl, trivial⟩, hs⟩
                · omega
                · first | assumption | omega | simp
                · exact forall_step hi (okCh_t (by omega))
          · have pr4 : ¬ ((sB s k) : Int) < 97 := of_decide_eq_false h4
            refine p1 rfl <| p1 rfl ?_
            refine q1 rfl (D_sidx (j := k) us_9 rfl rfl rfl rfl (by omega)) ?_
            refine p1 rfl <| p1 rfl <| p1 rfl ?_
            refine gs 28 rfl rfl (fun h7 => ?_) (fun h7 => ?_)
            · have pr7 : (122 : Int) < (sB s k) := of_decide_eq_true h7
              refine p1 rfl <| p1 rfl ?_
              refine q1 rfl (D_sidx (j := k) us_9 rfl rfl rfl rfl (by omega)) ?_
              refine p1 rfl <| p1 rfl ?_
              refine gs 33 rfl rfl (fun h8 => ?_) (fun h8 => ?_)
              · have pr8 : ((sB s k) : Int) < 48 := of_decide_eq_true h8
                refine n1 rfl ?_
                refine n1 rfl ?_
                refine n1 rfl ?_
                refine n1 rfl ?_
                refine p1 rfl <| p1 rfl ?_
                refine D_end ?_
                refine x_then ?_
                refine D_weak [(0, (.string s)), (3, (.int .i64 ((k : Nat) : Int))), (39, (.bool true))] ⟨rfl, rfl, rfl, trivial⟩ ?_
                refine C_t rfl ?_
                refine C_seq ?_
                refine C_reg ?_
                refine p1 rfl ?_
                refine D_end ?_
                refine x_then ?_
                refine C_ret ?_
                refine x_blk_ret ?_
                refine x_then_ret ?_
                refine x_then_ret ?_
                refine x_blk_ret ?_
                refine x_then_ret ?_
                refine R_1 rfl rfl fun w' hs => ⟨congrArg (fun z => Ending.returned (Value.bool z)) ?_, hs.bel⟩
                show (false : Bool) = isAtomB s
                first | exact atom_n1 (by omega) | exact atom_n2 (k := k) (by omega) (okCh_f (by omega)) | exact atom_y (by omega) (fun i h => hi i (by omega))
              · have pr8 : ¬ ((sB s k) : Int) < 48 := of_decide_eq_false h8
                refine p1 rfl <| p1 rfl ?_
                refine q1 rfl (D_sidx (j := k) us_9 rfl rfl rfl rfl (by omega)) ?_
                refine p1 rfl <| p1 rfl <| p1 rfl ?_
                refine D_end ?_
                refine x_then ?_
                refine D_weak [(0, (.string s)), (3, (.int .i64 ((k : Nat) : Int))), (39, (.bool (decide ((57 : Int) < (sB s k)))))] ⟨rfl, rfl, rfl, trivial⟩ ?_
                refine C_if _ rfl (fun h9 => ?_) (fun h9 => ?_)
                · have pr9 : (57 : Int) < (sB s k) := of_decide_eq_true h9
                  refine C_seq ?_
                  refine C_reg ?_
                  refine p1 rfl ?_
                  refine D_end ?_
                  refine x_then ?_
                  refine C_ret ?_
                  refine x_blk_ret ?_
                  refine x_then_ret ?_
                  refine x_then_ret ?_
                  refine x_blk_ret ?_
                  refine x_then_ret ?_
                  refine R_1 rfl rfl fun w' hs => ⟨congrArg (fun z => Ending.returned (Value.bool z)) ?_, hs.bel⟩
                  show (false : Bool) = isAtomB s
                  first | exact atom_n1 (by omega) | exact atom_n2 (k := k) (by omega) (okCh_f (by omega)) | exact atom_y (by omega) (fun i h => hi i (by omega))
                · have pr9 : ¬ (57 : Int) < (sB s k) := of_decide_eq_false h9
                  refine C_skip ?_
                  refine x_blk ?_
                  refine x_then ?_
                  refine C_reg ?_
                  refine p1 rfl ?_
                  refine q1 rfl (D_add rfl rfl rfl (r := ((k + 1 : Nat) : Int)) (by omega) (by omega)) ?_
                  refine p1 rfl ?_
                  refine D_end ?_
                  refine x_then ?_
                  refine fun ac w' hf hs => ⟨_, ?_, k + 1, ?_, ?_, rfl, hf.weak ⟨rfl, rfl, trivial⟩, hs⟩
                  · omega
                  · first | assumption | omega | simp
                  · exact forall_step hi (okCh_t (by omega))
            · have pr7 : ¬ (122 : Int) < (sB s k) := of_decide_eq_false h7
              refine n1 rfl ?_
              refine n1 rfl ?_
              refine n1 rfl ?_
              refine n1 rfl ?_
              refine n1 rfl ?_
              refine n1 rfl ?_
              refine n1 rfl ?_
              refine n1 rfl ?_
              refine n1 rfl ?_
              refine n1 rfl ?_
              refine p1 rfl ?_
              refine D_end ?_
              refine x_then ?_
              refine D_weak [(0, (.string s)), (3, (.int .i64 ((k : Nat) : Int))), (39, (.bool false))] ⟨rfl, rfl, rfl, trivial⟩ ?_
              refine C_f rfl ?_
              refine C_skip ?_
              refine x_blk ?_
              refine x_then ?_
              refine C_reg ?_
              refine p1 rfl ?_
              refine q1 rfl (D_add rfl rfl rfl (r := ((k + 1 : Nat) : Int)) (by omega) (by omega)) ?_
              refine p1 rfl ?_
              refine D_end ?_
              refine x_then ?_
              refine fun ac w' hf hs => ⟨_, ?_, k + 1, ?_, ?_, rfl, hf.weak ⟨rfl, rfl, trivial⟩, hs⟩
              · omega
              · first | assumption | omega | simp
              · exact forall_step hi (okCh_t (by omega))
        · have pr3 : ¬ (((k : Nat) : Int) : Int) < ((s.size : Nat) : Int) := of_decide_eq_false h3
          refine C_exit ?_
          refine x_then_exit ?_
          refine x_then_exit ?_
          refine x_blk_eq ?_
          refine x_then ?_
          refine C_seq ?_
          refine C_reg ?_
          refine p1 rfl ?_
          refine D_end ?_
          refine x_then ?_
          refine C_ret ?_
          refine R_1 rfl rfl fun w' hs => ⟨congrArg (fun z => Ending.returned (Value.bool z)) ?_, hs.bel⟩
          show (true : Bool) = isAtomB s
          first | exact atom_n1 (by omega) | exact atom_n2 (k := k) (by omega) (okCh_f (by omega)) | exact atom_y (by omega) (fun i h => hi i (by omega))

theorem spec_IsAtom (w : World) (s : ByteArray) (hs0 : s.size ≤ 9223372036854775807) : Calls Try.prog 48 [(.string s)].toArray w (Val w (.bool (isAtomB s))) := by
  refine enter 27 Try.func48 rfl rfl rfl ?_
  refine C_seq ?_
  refine C_reg ?_
  refine p1 rfl ?_
  refine D_end ?_
  refine x_then ?_
  refine C_seq ?_
  refine C_seq ?_
  refine C_reg ?_
  refine p1 rfl ?_
  refine D_end ?_
  refine x_then ?_
  refine C_block ?_
  refine C_loop (fun m_ ac w' => ∃ (k : Nat), (k ≤ s.size) ∧ (∀ i, i < k → okCh (sB s i) = true) ∧ m_ = s.size - k ∧ Fits ac 27 [(0, (.string s)), (3, (.int .i64 ((k : Nat) : Int)))] ∧ St w ([]) w') ?_ ?_
  · refine fun ac w' hf hs => ⟨_, 0, ?_, ?_, rfl, hf.weak ⟨rfl, rfl, trivial⟩, hs⟩
    · first | assumption | omega | simp
    · intro i hi; omega
  · rintro m_ ac w' ⟨k, hk, hi, rfl, hf, hs⟩
    refine D.use ?_ hf hs
    clear hf hs ac w'
    refine C_seq ?_
    refine C_seq ?_
    refine C_reg ?_
    refine p1 rfl <| p1 rfl ?_
    refine q1 rfl (D_lens us_9 rfl rfl) ?_
    refine p1 rfl ?_
    refine D_end ?_
    refine x_then ?_
    refine C_if _ rfl (fun h1 => ?_) (fun h1 => ?_)
    · have pr1 : (((k : Nat) : Int) : Int) < ((s.size : Nat) : Int) := of_decide_eq_true h1
      refine C_skip ?_
      refine x_then ?_
      refine C_seq ?_
      refine C_block ?_
      refine C_seq ?_
      refine C_reg ?_
      refine p1 rfl <| p1 rfl ?_
      refine q1 rfl (D_sidx (j := k) us_9 rfl rfl rfl rfl (by omega)) ?_
      refine q1 rfl (D_cvt ui_3 ⟨_, u8_5⟩ rfl rfl) ?_
      refine li rfl (cv b_49 rfl rfl rfl rfl (fun w' hs => (spec_l1In w' (sB s k) 97 122)) ?_)
      refine p1 rfl <| p1 rfl ?_
      refine gs 16 rfl rfl (fun h2 => ?_) (fun h2 => ?_)
      · have h2n : (inR (sB s k) 97 122) = false := not_t h2
        refine p1 rfl <| p1 rfl ?_
        refine q1 rfl (D_sidx (j := k) us_9 rfl rfl rfl rfl (by omega)) ?_
        refine q1 rfl (D_cvt ui_3 ⟨_, u8_5⟩ rfl rfl) ?_
        refine li rfl (cv b_49 rfl rfl rfl rfl (fun w' hs => (spec_l1In w' (sB s k) 48 57)) ?_)
        refine p1 rfl <| p1 rfl ?_
        refine D_end ?_
        refine x_then ?_
        refine D_weak [(0, (.string s)), (3, (.int .i64 ((k : Nat) : Int))), (23, (.bool (!(inR (sB s k) 48 57))))] ⟨rfl, rfl, rfl, trivial⟩ ?_
        refine C_if _ rfl (fun h3 => ?_) (fun h3 => ?_)
        · have h3n : (inR (sB s k) 48 57) = false := not_t h3
          refine C_seq ?_
          refine C_reg ?_
          refine p1 rfl ?_
          refine D_end ?_
          refine x_then ?_
          refine C_ret ?_
          refine x_blk_ret ?_
          refine x_then_ret ?_
          refine x_then_ret ?_
          refine x_blk_ret ?_
          refine x_then_ret ?_
          refine R_1 rfl rfl fun w' hs => ⟨congrArg (fun z => Ending.returned (Value.bool z)) ?_, hs.bel⟩
          show (false : Bool) = isAtomB s
          exact atom_n2 (k := k) (by omega) (by unfold okCh; simp_all)
        · have h3n : (inR (sB s k) 48 57) = true := not_f h3
          refine C_skip ?_
          refine x_blk ?_
          refine x_then ?_
          refine C_reg ?_
          refine p1 rfl ?_
          refine q1 rfl (D_add rfl rfl rfl (r := ((k + 1 : Nat) : Int)) (by omega) (by omega)) ?_
          refine p1 rfl ?_
          refine D_end ?_
          refine x_then ?_
          refine fun ac w' hf hs => ⟨_, ?_, k + 1, ?_, ?_, rfl, hf.weak ⟨rfl, rfl, trivial⟩, hs⟩
          · omega
          · first | assumption | omega | simp
          · exact forall_step hi (by unfold okCh; simp_all)
      · have h2n : (inR (sB s k) 97 122) = true := not_f h2
        refine n1 rfl ?_
        refine n1 rfl ?_
        refine n1 rfl ?_
        refine n1 rfl ?_
        refine n1 rfl ?_
        refine n1 rfl ?_
        refine p1 rfl ?_
        refine D_end ?_
        refine x_then ?_
        refine D_weak [(0, (.string s)), (3, (.int .i64 ((k : Nat) : Int))), (23, (.bool false))] ⟨rfl, rfl, rfl, trivial⟩ ?_
        refine C_f rfl ?_
        refine C_skip ?_
        refine x_blk ?_
        refine x_then ?_
        refine C_reg ?_
        refine p1 rfl ?_
        refine q1 rfl (D_add rfl rfl rfl (r := ((k + 1 : Nat) : Int)) (by omega) (by omega)) ?_
        refine p1 rfl ?_
        refine D_end ?_
        refine x_then ?_
        refine fun ac w' hf hs => ⟨_, ?_, k + 1, ?_, ?_, rfl, hf.weak ⟨rfl, rfl, trivial⟩, hs⟩
        · omega
        · first | assumption | omega | simp
        · exact forall_step hi (by unfold okCh; simp_all)
    · have pr1 : ¬ (((k : Nat) : Int) : Int) < ((s.size : Nat) : Int) := of_decide_eq_false h1
      refine C_exit ?_
      refine x_then_exit ?_
      refine x_then_exit ?_
      refine x_blk_eq ?_
      refine x_then ?_
      refine C_seq ?_
      refine C_reg ?_
      refine p1 rfl ?_
      refine q1 rfl (D_lens us_9 rfl rfl) ?_
      refine li rfl (cv b_49 rfl rfl rfl rfl (fun w' hs => (spec_l1In w' ((s.size : Nat) : Int) 1 8)) ?_)
      refine p1 rfl ?_
      refine D_end ?_
      refine x_then ?_
      refine C_ret ?_
      refine R_1 rfl rfl fun w' hs => ⟨congrArg (fun z => Ending.returned (Value.bool z)) ?_, hs.bel⟩
      show ((inR ((s.size : Nat) : Int) 1 8) : Bool) = isAtomB s
      exact atom_w (fun i h => hi i (by omega))

theorem impl_IsName (w : World) (s : ByteArray) : Calls Try.prog 23 [(.string s)].toArray w (Val w (.bool (isNameB s))) := by
  refine enter 10 Try.func23 rfl rfl rfl ?_
  refine C_seq ?_
  refine C_reg ?_
  refine p1 rfl ?_
  refine D_end ?_
  refine x_then ?_
  refine C_seq ?_
  refine C_reg ?_
  refine p1 rfl ?_
  refine li rfl (cv b_51 rfl rfl rfl rfl (fun w' hs => (impl_IsAtom w' s)) ?_)
  refine p1 rfl ?_
  refine gs 5 rfl rfl (fun h1 => ?_) (fun h1 => ?_)
  · refine p1 rfl ?_
    have hsz := atom_sz (s := s) (by assumption)
    refine q1 rfl (D_sidx (j := 0) us_9 rfl rfl rfl rfl (by omega)) ?_
    refine p1 rfl <| p1 rfl <| p1 rfl ?_
    refine D_end ?_
    refine x_then ?_
    refine C_ret ?_
    refine R_1 rfl rfl fun w' hs => ⟨congrArg (fun z => Ending.returned (Value.bool z)) ?_, hs.bel⟩
    show ((decide ((97 : Int) ≤ (sB s 0))) : Bool) = isNameB s
    unfold isNameB; simp_all
  · refine n1 rfl ?_
    refine n1 rfl ?_
    refine n1 rfl ?_
    refine p1 rfl <| p1 rfl ?_
    refine D_end ?_
    refine x_then ?_
    refine C_ret ?_
    refine R_1 rfl rfl fun w' hs => ⟨congrArg (fun z => Ending.returned (Value.bool z)) ?_, hs.bel⟩
    show (false : Bool) = isNameB s
    unfold isNameB; simp_all

theorem spec_IsName (w : World) (s : ByteArray) (hs0 : s.size ≤ 9223372036854775807) : Calls Try.prog 20 [(.string s)].toArray w (Val w (.bool (isNameB s))) := by
  refine enter 11 Try.func20 rfl rfl rfl ?_
  refine C_seq ?_
  refine C_reg ?_
  refine p1 rfl ?_
  refine D_end ?_
  refine x_then ?_
  refine C_seq ?_
  refine C_reg ?_
  refine p1 rfl ?_
  refine li rfl (cv b_48 rfl rfl rfl rfl (fun w' hs => (spec_IsAtom w' s (by first | assumption | omega | (unfold szm at *; split at * <;> omega)))) ?_)
  refine p1 rfl ?_
  refine gs 5 rfl rfl (fun h1 => ?_) (fun h1 => ?_)
  · refine p1 rfl ?_
    have hsz := atom_sz (s := s) (by assumption)
    refine q1 rfl (D_sidx (j := 0) us_9 rfl rfl rfl rfl (by omega)) ?_
    refine q1 rfl (D_cvt ui_3 ⟨_, u8_5⟩ rfl rfl) ?_
    refine li rfl (cv b_49 rfl rfl rfl rfl (fun w' hs => (spec_l1In w' (sB s 0) 97 122)) ?_)
    refine p1 rfl <| p1 rfl ?_
    refine D_end ?_
    refine x_then ?_
    refine C_ret ?_
    refine R_1 rfl rfl fun w' hs => ⟨congrArg (fun z => Ending.returned (Value.bool z)) ?_, hs.bel⟩
    show ((inR (sB s 0) 97 122) : Bool) = isNameB s
    unfold isNameB; rw [name_w (by assumption)]; simp_all
  · refine n1 rfl ?_
    refine n1 rfl ?_
    refine n1 rfl ?_
    refine n1 rfl ?_
    refine p1 rfl <| p1 rfl ?_
    refine D_end ?_
    refine x_then ?_
    refine C_ret ?_
    refine R_1 rfl rfl fun w' hs => ⟨congrArg (fun z => Ending.returned (Value.bool z)) ?_, hs.bel⟩
    show (false : Bool) = isNameB s
    unfold isNameB; simp_all

theorem impl_IsFact (w : World) (c_f : List Value) (f : Fact) (h_f : Gd.rd w c_f f) : Calls Try.prog 22 [(.agg c_f.toArray)].toArray w (Val w (.bool (isFactB f))) := by
  obtain ⟨u1, rfl, hu2⟩ := open_Fact h_f
  have hm3 := rd_max hu2
  refine enter 26 Try.func22 rfl rfl rfl ?_
  refine C_seq ?_
  refine C_reg ?_
  refine li rfl (D_box rfl rfl rfl rfl rfl fun g4 => ?_)
  refine p1 rfl ?_
  refine D_end ?_
  refine x_then ?_
  refine D_H ([bx g4 [(.string f.Rel), u1]]) rfl ?_
  refine C_seq ?_
  refine C_seq ?_
  refine C_reg ?_
  refine q1 rfl (D_fb f_29_0 rfl rfl (q := 0) rfl) ?_
  refine q1 rfl (lb 0 o_9 rfl rfl rfl rfl) ?_
  refine li rfl (cv b_23 rfl rfl rfl rfl (fun w' hs => (impl_IsName w' f.Rel)) ?_)
  refine p1 rfl <| p1 rfl ?_
  refine gs 9 rfl rfl (fun h5 => ?_) (fun h5 => ?_)
  · have h5n : (isNameB f.Rel) = false := not_t h5
    refine n1 rfl ?_
    refine n1 rfl ?_
    refine n1 rfl ?_
    refine n1 rfl ?_
    refine p1 rfl ?_
    refine D_end ?_
    refine x_then ?_
    refine C_t rfl ?_
    refine C_seq ?_
    refine C_reg ?_
    refine p1 rfl ?_
    refine D_end ?_
    refine x_then ?_
    refine C_ret ?_
    refine x_then_ret ?_
    refine R_1 rfl rfl fun w' hs => ⟨congrArg (fun z => Ending.returned (Value.bool z)) ?_, hs.bel⟩
    show (false : Bool) = isFactB f
    unfold isFactB; simp_all
  · have h5n : (isNameB f.Rel) = true := not_f h5
    refine q1 rfl (D_fb f_29_1 rfl rfl (q := 1) rfl) ?_
    refine q1 rfl (lb 0 o_22 rfl rfl rfl rfl) ?_
    refine q1 rfl (D_len s_22 rfl rfl (rd_sl hu2)) ?_
    refine p1 rfl <| p1 rfl ?_
    refine D_end ?_
    refine x_then ?_
    refine C_if _ rfl (fun h6 => ?_) (fun h6 => ?_)
    · have pr6 : (3 : Int) < ((f.Args.length : Nat) : Int) := of_decide_eq_true h6
      refine C_seq ?_
      refine C_reg ?_
      refine p1 rfl ?_
      refine D_end ?_
      refine x_then ?_
      refine C_ret ?_
      refine x_then_ret ?_
      refine R_1 rfl rfl fun w' hs => ⟨congrArg (fun z => Ending.returned (Value.bool z)) ?_, hs.bel⟩
      show (false : Bool) = isFactB f
      unfold isFactB; rw [decide_eq_false (by omega : ¬ f.Args.length ≤ 3)]; simp
    · have pr6 : ¬ (3 : Int) < ((f.Args.length : Nat) : Int) := of_decide_eq_false h6
      refine C_skip ?_
      refine x_then ?_
      refine C_seq ?_
      refine C_seq ?_
      refine C_reg ?_
      refine q1 rfl (D_fb f_29_1 rfl rfl (q := 1) rfl) ?_
      refine q1 rfl (lb 0 o_22 rfl rfl rfl rfl) ?_
      refine q1 rfl (D_len s_22 rfl rfl (rd_sl hu2)) ?_
      refine p1 rfl ?_
      refine D_end ?_
      refine x_then ?_
      refine C_block ?_
      refine C_loop (fun m_ ac w' => ∃ (k : Nat), (k ≤ f.Args.length) ∧ (∀ i, i < k → ∀ y, f.Args[i]? = some y → isAtomB y = true) ∧ m_ = f.Args.length - k ∧ Fits ac 26 [(16, u1), (17, (.int .i64 ((f.Args.length : Nat) : Int))), (18, (.int .i64 ((k : Nat) : Int)))] ∧ St w ([bx g4 [(.string f.Rel), u1]]) w') ?_ ?_
      · refine fun ac w' hf hs => ⟨_, 0, ?_, ?_, rfl, hf.weak ⟨rfl, rfl, rfl, trivial⟩, hs⟩
        · first | assumption | omega | simp
        · intro i hi; omega
      · rintro m_ ac w' ⟨k, hk, hi, rfl, hf, hs⟩
        refine D.use ?_ hf hs
        clear hf hs ac w'
        refine C_seq ?_
        refine C_reg ?_
        refine p1 rfl ?_
        refine D_end ?_
        refine x_then ?_
        refine C_seq ?_
        refine C_if _ rfl (fun h7 => ?_) (fun h7 => ?_)
        · have pr7 : (((k : Nat) : Int) : Int) < ((f.Args.length : Nat) : Int) := of_decide_eq_true h7
          refine C_skip ?_
          refine x_then ?_
          refine C_seq ?_
          refine C_block ?_
          refine C_seq ?_
          refine C_reg ?_
          obtain ⟨a0, ha0⟩ := some_of_lt (l := f.Args) (i := k) (by omega)
          obtain ⟨es8, at9, hr10⟩ := rd_elem (n := 1) rfl hu2 ha0
          obtain rfl : es8 = [.string a0] := hr10
          refine q1 rfl (D_ix (l := f.Args) (j := k) s_22 rfl rfl rfl (fun w' hs => (rd_at hs hu2)) rfl (lt_of_some ha0)) ?_
          refine q1 rfl (lr0 o_9 rfl rfl at9 rfl) ?_
          refine p1 rfl ?_
          refine D_end ?_
          refine x_then ?_
          refine C_seq ?_
          refine C_reg ?_
          refine p1 rfl ?_
          refine li rfl (cv b_51 rfl rfl rfl rfl (fun w' hs => (impl_IsAtom w' a0)) ?_)
          refine p1 rfl ?_
          refine D_end ?_
          refine x_then ?_
          refine C_if _ rfl (fun h11 => ?_) (fun h11 => ?_)
          · have h11n : (isAtomB a0) = false := not_t h11
            refine C_seq ?_
            refine C_reg ?_
            refine p1 rfl ?_
            refine D_end ?_
            refine x_then ?_
            refine C_ret ?_
            refine x_blk_ret ?_
            refine x_then_ret ?_
            refine x_then_ret ?_
            refine x_blk_ret ?_
            refine x_then_ret ?_
            refine R_1 rfl rfl fun w' hs => ⟨congrArg (fun z => Ending.returned (Value.bool z)) ?_, hs.bel⟩
            show (false : Bool) = isFactB f
            unfold isFactB; rw [all_bad (p := isAtomB) ha0 h11n]; simp
          · have h11n : (isAtomB a0) = true := not_f h11
            refine C_skip ?_
            refine x_blk ?_
            refine x_then ?_
            refine C_reg ?_
            refine q1 rfl (D_add rfl rfl rfl (r := ((k + 1 : Nat) : Int)) (by omega) (by omega)) ?_
            refine p1 rfl ?_
            refine D_end ?_
            refine x_then ?_
            refine fun ac w' hf hs => ⟨_, ?_, k + 1, ?_, ?_, rfl, hf.weak ⟨rfl, rfl, rfl, trivial⟩, hs⟩
            · omega
            · first | assumption | omega | simp
            · refine forall_step hi ?_; intro y hy; obtain rfl : y = a0 := Option.some.inj (hy.symm.trans ha0); exact h11n
        · have pr7 : ¬ (((k : Nat) : Int) : Int) < ((f.Args.length : Nat) : Int) := of_decide_eq_false h7
          refine C_exit ?_
          refine x_then_exit ?_
          refine x_then_exit ?_
          refine x_blk_eq ?_
          refine x_then ?_
          refine C_seq ?_
          refine C_reg ?_
          refine p1 rfl ?_
          refine D_end ?_
          refine x_then ?_
          refine C_ret ?_
          refine R_1 rfl rfl fun w' hs => ⟨congrArg (fun z => Ending.returned (Value.bool z)) ?_, hs.bel⟩
          show (true : Bool) = isFactB f
          unfold isFactB; rw [all_of_idx (p := isAtomB) (fun i h => hi i (by omega)), decide_eq_true (by omega : f.Args.length ≤ 3)]; simp_all

theorem spec_IsFact (w : World) (c_f : List Value) (f : Fact) (h_f : Gd.rd w c_f f) (hf0 : okFa f) : Calls Try.prog 19 [(.agg c_f.toArray)].toArray w (Val w (.bool (isFactB f))) := by
  obtain ⟨u1, rfl, hu2⟩ := open_Fact h_f
  have hm3 := rd_max hu2
  refine enter 27 Try.func19 rfl rfl rfl ?_
  refine C_seq ?_
  refine C_reg ?_
  refine li rfl (D_box rfl rfl rfl rfl rfl fun g4 => ?_)
  refine p1 rfl ?_
  refine D_end ?_
  refine x_then ?_
  refine D_H ([bx g4 [(.string f.Rel), u1]]) rfl ?_
  refine C_seq ?_
  refine C_seq ?_
  refine C_reg ?_
  refine p1 rfl ?_
  refine D_end ?_
  refine x_then ?_
  refine C_block ?_
  refine C_loop (fun m_ ac w' => ∃ (k : Nat), (k ≤ f.Args.length) ∧ (∀ i, i < k → ∀ y, f.Args[i]? = some y → isAtomB y = true) ∧ m_ = f.Args.length - k ∧ Fits ac 27 [(1, (.pointer (some ⟨g4, 0, none⟩))), (3, (.int .i64 ((k : Nat) : Int)))] ∧ St w ([bx g4 [(.string f.Rel), u1]]) w') ?_ ?_
  · refine fun ac w' hf hs => ⟨_, 0, ?_, ?_, rfl, hf.weak ⟨rfl, rfl, trivial⟩, hs⟩
    · first | assumption | omega | simp
    · intro i hi; omega
  · rintro m_ ac w' ⟨k, hk, hi, rfl, hf, hs⟩
    refine D.use ?_ hf hs
    clear hf hs ac w'
    refine C_seq ?_
    refine C_seq ?_
    refine C_reg ?_
    refine p1 rfl ?_
    refine q1 rfl (D_fb f_29_1 rfl rfl (q := 1) rfl) ?_
    refine q1 rfl (lb 0 o_22 rfl rfl rfl rfl) ?_
    refine q1 rfl (D_len s_22 rfl rfl (rd_sl hu2)) ?_
    refine p1 rfl ?_
    refine D_end ?_
    refine x_then ?_
    refine C_if _ rfl (fun h5 => ?_) (fun h5 => ?_)
    · have pr5 : (((k : Nat) : Int) : Int) < ((f.Args.length : Nat) : Int) := of_decide_eq_true h5
      refine C_skip ?_
      refine x_then ?_
      refine C_seq ?_
      refine C_block ?_
      refine C_seq ?_
      refine C_reg ?_
      refine q1 rfl (D_fb f_29_1 rfl rfl (q := 1) rfl) ?_
      refine q1 rfl (lb 0 o_22 rfl rfl rfl rfl) ?_
      refine p1 rfl ?_
      obtain ⟨a0, ha0⟩ := some_of_lt (l := f.Args) (i := k) (by omega)
      have hs1 : a0.size ≤ 9223372036854775807 := hf0.2 _ (List.mem_of_getElem? ha0)
      obtain ⟨es6, at7, hr8⟩ := rd_elem (n := 1) rfl hu2 ha0
      obtain rfl : es6 = [.string a0] := hr8
      refine q1 rfl (D_ix (l := f.Args) (j := k) s_22 rfl rfl rfl (fun w' hs => (rd_at hs hu2)) rfl (lt_of_some ha0)) ?_
      refine q1 rfl (lr0 o_9 rfl rfl at7 rfl) ?_
      refine li rfl (cv b_48 rfl rfl rfl rfl (fun w' hs => (spec_IsAtom w' a0 (by first | assumption | omega | (unfold szm at *; split at * <;> omega)))) ?_)
      refine p1 rfl ?_
      refine D_end ?_
      refine x_then ?_
      refine C_if _ rfl (fun h9 => ?_) (fun h9 => ?_)
      · have h9n : (isAtomB a0) = false := not_t h9
        refine C_seq ?_
        refine C_reg ?_
        refine p1 rfl ?_
        refine D_end ?_
        refine x_then ?_
        refine C_ret ?_
        refine x_blk_ret ?_
        refine x_then_ret ?_
        refine x_then_ret ?_
        refine x_blk_ret ?_
        refine x_then_ret ?_
        refine R_1 rfl rfl fun w' hs => ⟨congrArg (fun z => Ending.returned (Value.bool z)) ?_, hs.bel⟩
        show (false : Bool) = isFactB f
        unfold isFactB; rw [all_bad (p := isAtomB) ha0 h9n]; simp
      · have h9n : (isAtomB a0) = true := not_f h9
        refine C_skip ?_
        refine x_blk ?_
        refine x_then ?_
        refine C_reg ?_
        refine p1 rfl ?_
        refine q1 rfl (D_add rfl rfl rfl (r := ((k + 1 : Nat) : Int)) (by omega) (by omega)) ?_
        refine p1 rfl ?_
        refine D_end ?_
        refine x_then ?_
        refine fun ac w' hf hs => ⟨_, ?_, k + 1, ?_, ?_, rfl, hf.weak ⟨rfl, rfl, trivial⟩, hs⟩
        · omega
        · first | assumption | omega | simp
        · refine forall_step hi ?_; intro y hy; obtain rfl : y = a0 := Option.some.inj (hy.symm.trans ha0); exact h9n
    · have pr5 : ¬ (((k : Nat) : Int) : Int) < ((f.Args.length : Nat) : Int) := of_decide_eq_false h5
      refine C_exit ?_
      refine x_then_exit ?_
      refine x_then_exit ?_
      refine x_blk_eq ?_
      refine x_then ?_
      refine C_seq ?_
      refine C_reg ?_
      refine q1 rfl (D_fb f_29_0 rfl rfl (q := 0) rfl) ?_
      refine q1 rfl (lb 0 o_9 rfl rfl rfl rfl) ?_
      refine li rfl (cv b_20 rfl rfl rfl rfl (fun w' hs => (spec_IsName w' f.Rel hf0.1)) ?_)
      refine p1 rfl ?_
      refine gs 21 rfl rfl (fun h10 => ?_) (fun h10 => ?_)
      · refine q1 rfl (D_fb f_29_1 rfl rfl (q := 1) rfl) ?_
        refine q1 rfl (lb 0 o_22 rfl rfl rfl rfl) ?_
        refine q1 rfl (D_len s_22 rfl rfl (rd_sl hu2)) ?_
        refine p1 rfl <| p1 rfl <| p1 rfl ?_
        refine D_end ?_
        refine x_then ?_
        refine D_weak [(2, (.bool (decide ((((f.Args.length : Nat) : Int) : Int) ≤ 3))))] ⟨rfl, trivial⟩ ?_
        refine D_sel (H' := []) [false] rfl ?_
        refine C_ret ?_
        refine R_1 rfl rfl fun w' hs => ⟨congrArg (fun z => Ending.returned (Value.bool z)) ?_, hs.bel⟩
        show ((decide ((((f.Args.length : Nat) : Int) : Int) ≤ 3)) : Bool) = isFactB f
        unfold isFactB; rw [all_of_idx (p := isAtomB) (fun i h => hi i (by omega))]; simp_all; try omega
      · refine n1 rfl ?_
        refine n1 rfl ?_
        refine n1 rfl ?_
        refine n1 rfl ?_
        refine p1 rfl <| p1 rfl ?_
        refine D_end ?_
        refine x_then ?_
        refine D_weak [(2, (.bool false))] ⟨rfl, trivial⟩ ?_
        refine D_sel (H' := []) [false] rfl ?_
        refine C_ret ?_
        refine R_1 rfl rfl fun w' hs => ⟨congrArg (fun z => Ending.returned (Value.bool z)) ?_, hs.bel⟩
        show (false : Bool) = isFactB f
        unfold isFactB; rw [all_of_idx (p := isAtomB) (fun i h => hi i (by omega))]; simp_all; try omega

set_option maxHeartbeats 4000000 in
theorem impl_IsEvent (w : World) (c_x : List Value) (x : Event) (h_x : Gd.rd w c_x x) : Calls Try.prog 9 [(.agg c_x.toArray)].toArray w (Val w (.bool (isEventB x))) := by
  obtain ⟨u1, rfl, hu2⟩ := open_Event h_x
  have hm3 := rd_max hu2
  have hb4 := sub_Event_Fact h_x
  refine enter 48 Try.func9 rfl rfl rfl ?_
  refine C_seq ?_
  refine C_reg ?_
  refine li rfl (D_box rfl rfl rfl rfl rfl fun g5 => ?_)
  refine p1 rfl ?_
  refine D_end ?_
  refine x_then ?_
  refine D_H ([bx g5 [(.int .i64 x.Kind), (.string x.Rule), (.string x.Fact.Rel), u1]]) rfl ?_
  refine C_seq ?_
  refine C_reg ?_
  refine q1 rfl (D_fb f_31_2 rfl rfl (q := 2) rfl) ?_
  refine q1 rfl (D_fb f_29_0 rfl rfl (q := 2) rfl) ?_
  refine q1 rfl (lb 0 o_9 rfl rfl rfl rfl) ?_
  refine q1 rfl (D_eqS rfl rfl rfl) ?_
  refine p1 rfl ?_
  refine gs 8 rfl rfl (fun h6 => ?_) (fun h6 => ?_)
  · have pr6 : (x.Fact.Rel : ByteArray) = ⟨#[]⟩ := of_decide_eq_true h6
    refine q1 rfl (D_fb f_31_2 rfl rfl (q := 2) rfl) ?_
    refine q1 rfl (D_fb f_29_1 rfl rfl (q := 3) rfl) ?_
    refine q1 rfl (lb 0 o_22 rfl rfl rfl rfl) ?_
    refine q1 rfl (D_len s_22 rfl rfl (rd_sl hu2)) ?_
    refine p1 rfl <| p1 rfl <| p1 rfl ?_
    refine D_end ?_
    refine x_then ?_
    refine C_seq ?_
    refine C_seq ?_
    refine C_reg ?_
    refine q1 rfl (D_fb f_31_0 rfl rfl (q := 0) rfl) ?_
    refine q1 rfl (lb 0 o_3 rfl rfl rfl rfl) ?_
    refine D_end ?_
    refine x_then ?_
    refine C_block ?_
    refine C_seq ?_
    refine C_seq ?_
    refine C_reg ?_
    refine p1 rfl <| p1 rfl ?_
    refine D_end ?_
    refine x_then ?_
    refine D_weak [(1, (.pointer (some ⟨g5, 0, none⟩))), (3, (.bool ((((x.Fact.Args.length : Nat) : Int) : Int) == 0))), (16, (.int .i64 x.Kind)), (17, (.bool ((x.Kind : Int) == 1)))] ⟨rfl, rfl, rfl, rfl, trivial⟩ ?_
    refine C_if _ rfl (fun h7 => ?_) (fun h7 => ?_)
    · have pr7 : (x.Kind : Int) = 1 := eq_of_beq h7
      refine C_skip ?_
      refine x_then ?_
      refine C_if _ rfl (fun h8 => ?_) (fun h8 => ?_)
      · have pr8 : (x.Kind : Int) = 1 := eq_of_beq h8
        refine C_seq ?_
        refine C_reg ?_
        refine q1 rfl (D_fb f_31_1 rfl rfl (q := 1) rfl) ?_
        refine q1 rfl (lb 0 o_9 rfl rfl rfl rfl) ?_
        refine q1 rfl (D_eqS rfl rfl rfl) ?_
        refine p1 rfl ?_
        refine gs 23 rfl rfl (fun h9 => ?_) (fun h9 => ?_)
        · have pr9 : (x.Rule : ByteArray) = ⟨#[]⟩ := of_decide_eq_true h9
          refine q1 rfl (D_fb f_31_2 rfl rfl (q := 2) rfl) ?_
          refine q1 rfl (lba (es := [(.string x.Fact.Rel), u1]) 0 a_29 rfl rfl rfl rfl) ?_
          refine li rfl (cv b_22 rfl rfl rfl rfl (fun w' hs => (impl_IsFact w' [(.string x.Fact.Rel), u1] x.Fact (rd_at hs hb4))) ?_)
          refine p1 rfl <| p1 rfl ?_
          refine D_end ?_
          refine x_then ?_
          refine C_ret ?_
          refine x_blk_ret ?_
          refine x_then_ret ?_
          refine R_1 rfl rfl fun w' hs => ⟨congrArg (fun z => Ending.returned (Value.bool z)) ?_, hs.bel⟩
          show ((isFactB x.Fact) : Bool) = isEventB x
          unfold isEventB; simp_all; try (first | omega | (rw [Bool.eq_iff_iff]; simp))
        · have pr9 : ¬ (x.Rule : ByteArray) = ⟨#[]⟩ := of_decide_eq_false h9
          refine n1 rfl ?_
          refine n1 rfl ?_
          refine n1 rfl ?_
          refine p1 rfl <| p1 rfl ?_
          refine D_end ?_
          refine x_then ?_
          refine C_ret ?_
          refine x_blk_ret ?_
          refine x_then_ret ?_
          refine R_1 rfl rfl fun w' hs => ⟨congrArg (fun z => Ending.returned (Value.bool z)) ?_, hs.bel⟩
          show (false : Bool) = isEventB x
          unfold isEventB; simp_all; try (first | omega | (rw [Bool.eq_iff_iff]; simp))
      · have pr8 : (x.Kind : Int) ≠ 1 := ne_of_beq_false h8
        refine C_seq ?_
        refine C_seq ?_
        refine C_reg ?_
        refine p1 rfl <| p1 rfl ?_
        refine D_end ?_
        refine x_then ?_
        refine C_if _ rfl (fun h10 => ?_) (fun h10 => ?_)
        · have pr10 : (x.Kind : Int) = 3 := eq_of_beq h10
          refine C_skip ?_
          refine x_then ?_
          refine C_if _ rfl (fun h11 => ?_) (fun h11 => ?_)
          · have pr11 : (x.Kind : Int) = 3 := eq_of_beq h11
            refine C_seq ?_
            refine C_reg ?_
            refine q1 rfl (D_fb f_31_1 rfl rfl (q := 1) rfl) ?_
            refine q1 rfl (lb 0 o_9 rfl rfl rfl rfl) ?_
            refine li rfl (cv b_23 rfl rfl rfl rfl (fun w' hs => (impl_IsName w' x.Rule)) ?_)
            refine p1 rfl ?_
            refine gs 34 rfl rfl (fun h12 => ?_) (fun h12 => ?_)
            · refine p1 rfl <| p1 rfl <| p1 rfl ?_
              refine D_end ?_
              refine x_then ?_
              refine C_ret ?_
              refine x_blk_ret ?_
              refine x_then_ret ?_
              refine R_1 rfl rfl fun w' hs => ⟨congrArg (fun z => Ending.returned (Value.bool z)) ?_, hs.bel⟩
              show (((((x.Fact.Args.length : Nat) : Int) : Int) == 0) : Bool) = isEventB x
              unfold isEventB; simp_all; try (first | omega | (rw [Bool.eq_iff_iff]; simp))
            · refine n1 rfl ?_
              refine p1 rfl <| p1 rfl ?_
              refine D_end ?_
              refine x_then ?_
              refine C_ret ?_
              refine x_blk_ret ?_
              refine x_then_ret ?_
              refine R_1 rfl rfl fun w' hs => ⟨congrArg (fun z => Ending.returned (Value.bool z)) ?_, hs.bel⟩
              show (false : Bool) = isEventB x
              unfold isEventB; simp_all; try (first | omega | (rw [Bool.eq_iff_iff]; simp))
          · have pr11 : (x.Kind : Int) ≠ 3 := ne_of_beq_false h11
            refine C_seq ?_
            refine C_seq ?_
            refine C_reg ?_
            refine p1 rfl <| p1 rfl ?_
            refine D_end ?_
            refine x_then ?_
            refine C_if _ rfl (fun h13 => ?_) (fun h13 => ?_)
            · have pr13 : (x.Kind : Int) = 4 := eq_of_beq h13
              refine C_skip ?_
              refine x_then ?_
              refine C_if _ rfl (fun h14 => ?_) (fun h14 => ?_)
              · have pr14 : (x.Kind : Int) = 4 := eq_of_beq h14
                refine C_seq ?_
                refine C_reg ?_
                refine q1 rfl (D_fb f_31_1 rfl rfl (q := 1) rfl) ?_
                refine q1 rfl (lb 0 o_9 rfl rfl rfl rfl) ?_
                refine li rfl (cv b_23 rfl rfl rfl rfl (fun w' hs => (impl_IsName w' x.Rule)) ?_)
                refine p1 rfl ?_
                refine gs 43 rfl rfl (fun h15 => ?_) (fun h15 => ?_)
                · refine q1 rfl (D_fb f_31_2 rfl rfl (q := 2) rfl) ?_
                  refine q1 rfl (lba (es := [(.string x.Fact.Rel), u1]) 0 a_29 rfl rfl rfl rfl) ?_
                  refine li rfl (cv b_22 rfl rfl rfl rfl (fun w' hs => (impl_IsFact w' [(.string x.Fact.Rel), u1] x.Fact (rd_at hs hb4))) ?_)
                  refine p1 rfl <| p1 rfl ?_
                  refine D_end ?_
                  refine x_then ?_
                  refine D_weak [(2, (.bool (isFactB x.Fact)))] ⟨rfl, trivial⟩ ?_
                  refine D_sel (H' := []) [false] rfl ?_
                  refine C_ret ?_
                  refine x_blk_ret ?_
                  refine x_then_ret ?_
                  refine R_1 rfl rfl fun w' hs => ⟨congrArg (fun z => Ending.returned (Value.bool z)) ?_, hs.bel⟩
                  show ((isFactB x.Fact) : Bool) = isEventB x
                  unfold isEventB; simp_all; try (first | omega | (rw [Bool.eq_iff_iff]; simp))
                · refine n1 rfl ?_
                  refine n1 rfl ?_
                  refine n1 rfl ?_
                  refine p1 rfl <| p1 rfl ?_
                  refine D_end ?_
                  refine x_then ?_
                  refine D_weak [(2, (.bool false))] ⟨rfl, trivial⟩ ?_
                  refine D_sel (H' := []) [false] rfl ?_
                  refine C_ret ?_
                  refine x_blk_ret ?_
                  refine x_then_ret ?_
                  refine R_1 rfl rfl fun w' hs => ⟨congrArg (fun z => Ending.returned (Value.bool z)) ?_, hs.bel⟩
                  show (false : Bool) = isEventB x
                  unfold isEventB; simp_all; try (first | omega | (rw [Bool.eq_iff_iff]; simp))
              · have pr14 : (x.Kind : Int) ≠ 4 := ne_of_beq_false h14
                refine C_skip ?_
                refine x_blk ?_
                refine x_then ?_
                refine C_seq ?_
                refine C_reg ?_
                refine p1 rfl ?_
                refine D_end ?_
                refine x_then ?_
                refine C_ret ?_
                refine R_1 rfl rfl fun w' hs => ⟨congrArg (fun z => Ending.returned (Value.bool z)) ?_, hs.bel⟩
                show (false : Bool) = isEventB x
                unfold isEventB; simp_all; try (first | omega | (rw [Bool.eq_iff_iff]; simp))
            · have pr13 : (x.Kind : Int) ≠ 4 := ne_of_beq_false h13
              refine C_reg ?_
              refine p1 rfl <| p1 rfl ?_
              refine D_end ?_
              refine x_then ?_
              refine C_if _ rfl (fun h16 => ?_) (fun h16 => ?_)
              · have pr16 : (x.Kind : Int) = 5 := eq_of_beq h16
                refine C_seq ?_
                refine C_reg ?_
                refine q1 rfl (D_fb f_31_1 rfl rfl (q := 1) rfl) ?_
                refine q1 rfl (lb 0 o_9 rfl rfl rfl rfl) ?_
                refine li rfl (cv b_23 rfl rfl rfl rfl (fun w' hs => (impl_IsName w' x.Rule)) ?_)
                refine p1 rfl ?_
                refine gs 43 rfl rfl (fun h17 => ?_) (fun h17 => ?_)
                · refine q1 rfl (D_fb f_31_2 rfl rfl (q := 2) rfl) ?_
                  refine q1 rfl (lba (es := [(.string x.Fact.Rel), u1]) 0 a_29 rfl rfl rfl rfl) ?_
                  refine li rfl (cv b_22 rfl rfl rfl rfl (fun w' hs => (impl_IsFact w' [(.string x.Fact.Rel), u1] x.Fact (rd_at hs hb4))) ?_)
                  refine p1 rfl <| p1 rfl ?_
                  refine D_end ?_
                  refine x_then ?_
                  refine D_weak [(2, (.bool (isFactB x.Fact)))] ⟨rfl, trivial⟩ ?_
                  refine D_sel (H' := []) [false] rfl ?_
                  refine C_ret ?_
                  refine x_blk_ret ?_
                  refine x_then_ret ?_
                  refine R_1 rfl rfl fun w' hs => ⟨congrArg (fun z => Ending.returned (Value.bool z)) ?_, hs.bel⟩
                  show ((isFactB x.Fact) : Bool) = isEventB x
                  unfold isEventB; simp_all; try (first | omega | (rw [Bool.eq_iff_iff]; simp))
                · refine n1 rfl ?_
                  refine n1 rfl ?_
                  refine n1 rfl ?_
                  refine p1 rfl <| p1 rfl ?_
                  refine D_end ?_
                  refine x_then ?_
                  refine D_weak [(2, (.bool false))] ⟨rfl, trivial⟩ ?_
                  refine D_sel (H' := []) [false] rfl ?_
                  refine C_ret ?_
                  refine x_blk_ret ?_
                  refine x_then_ret ?_
                  refine R_1 rfl rfl fun w' hs => ⟨congrArg (fun z => Ending.returned (Value.bool z)) ?_, hs.bel⟩
                  show (false : Bool) = isEventB x
                  unfold isEventB; simp_all; try (first | omega | (rw [Bool.eq_iff_iff]; simp))
              · have pr16 : (x.Kind : Int) ≠ 5 := ne_of_beq_false h16
                refine C_skip ?_
                refine x_blk ?_
                refine x_then ?_
                refine C_seq ?_
                refine C_reg ?_
                refine p1 rfl ?_
                refine D_end ?_
                refine x_then ?_
                refine C_ret ?_
                refine R_1 rfl rfl fun w' hs => ⟨congrArg (fun z => Ending.returned (Value.bool z)) ?_, hs.bel⟩
                show (false : Bool) = isEventB x
                unfold isEventB; simp_all; try (first | omega | (rw [Bool.eq_iff_iff]; simp))
        · have pr10 : (x.Kind : Int) ≠ 3 := ne_of_beq_false h10
          refine C_reg ?_
          refine p1 rfl <| p1 rfl ?_
          refine D_end ?_
          refine x_then ?_
          refine C_if _ rfl (fun h18 => ?_) (fun h18 => ?_)
          · have pr18 : (x.Kind : Int) = 6 := eq_of_beq h18
            refine C_seq ?_
            refine C_reg ?_
            refine q1 rfl (D_fb f_31_1 rfl rfl (q := 1) rfl) ?_
            refine q1 rfl (lb 0 o_9 rfl rfl rfl rfl) ?_
            refine li rfl (cv b_23 rfl rfl rfl rfl (fun w' hs => (impl_IsName w' x.Rule)) ?_)
            refine p1 rfl ?_
            refine gs 34 rfl rfl (fun h19 => ?_) (fun h19 => ?_)
            · refine p1 rfl <| p1 rfl <| p1 rfl ?_
              refine D_end ?_
              refine x_then ?_
              refine C_ret ?_
              refine x_blk_ret ?_
              refine x_then_ret ?_
              refine R_1 rfl rfl fun w' hs => ⟨congrArg (fun z => Ending.returned (Value.bool z)) ?_, hs.bel⟩
              show (((((x.Fact.Args.length : Nat) : Int) : Int) == 0) : Bool) = isEventB x
              unfold isEventB; simp_all; try (first | omega | (rw [Bool.eq_iff_iff]; simp))
            · refine n1 rfl ?_
              refine p1 rfl <| p1 rfl ?_
              refine D_end ?_
              refine x_then ?_
              refine C_ret ?_
              refine x_blk_ret ?_
              refine x_then_ret ?_
              refine R_1 rfl rfl fun w' hs => ⟨congrArg (fun z => Ending.returned (Value.bool z)) ?_, hs.bel⟩
              show (false : Bool) = isEventB x
              unfold isEventB; simp_all; try (first | omega | (rw [Bool.eq_iff_iff]; simp))
          · have pr18 : (x.Kind : Int) ≠ 6 := ne_of_beq_false h18
            refine C_seq ?_
            refine C_seq ?_
            refine C_reg ?_
            refine p1 rfl <| p1 rfl ?_
            refine D_end ?_
            refine x_then ?_
            refine C_if _ rfl (fun h20 => ?_) (fun h20 => ?_)
            · have pr20 : (x.Kind : Int) = 4 := eq_of_beq h20
              refine C_skip ?_
              refine x_then ?_
              refine C_if _ rfl (fun h21 => ?_) (fun h21 => ?_)
              · have pr21 : (x.Kind : Int) = 4 := eq_of_beq h21
                refine C_seq ?_
                refine C_reg ?_
                refine q1 rfl (D_fb f_31_1 rfl rfl (q := 1) rfl) ?_
                refine q1 rfl (lb 0 o_9 rfl rfl rfl rfl) ?_
                refine li rfl (cv b_23 rfl rfl rfl rfl (fun w' hs => (impl_IsName w' x.Rule)) ?_)
                refine p1 rfl ?_
                refine gs 43 rfl rfl (fun h22 => ?_) (fun h22 => ?_)
                · refine q1 rfl (D_fb f_31_2 rfl rfl (q := 2) rfl) ?_
                  refine q1 rfl (lba (es := [(.string x.Fact.Rel), u1]) 0 a_29 rfl rfl rfl rfl) ?_
                  refine li rfl (cv b_22 rfl rfl rfl rfl (fun w' hs => (impl_IsFact w' [(.string x.Fact.Rel), u1] x.Fact (rd_at hs hb4))) ?_)
                  refine p1 rfl <| p1 rfl ?_
                  refine D_end ?_
                  refine x_then ?_
                  refine D_weak [(2, (.bool (isFactB x.Fact)))] ⟨rfl, trivial⟩ ?_
                  refine D_sel (H' := []) [false] rfl ?_
                  refine C_ret ?_
                  refine x_blk_ret ?_
                  refine x_then_ret ?_
                  refine R_1 rfl rfl fun w' hs => ⟨congrArg (fun z => Ending.returned (Value.bool z)) ?_, hs.bel⟩
                  show ((isFactB x.Fact) : Bool) = isEventB x
                  unfold isEventB; simp_all; try (first | omega | (rw [Bool.eq_iff_iff]; simp))
                · refine n1 rfl ?_
                  refine n1 rfl ?_
                  refine n1 rfl ?_
                  refine p1 rfl <| p1 rfl ?_
                  refine D_end ?_
                  refine x_then ?_
                  refine D_weak [(2, (.bool false))] ⟨rfl, trivial⟩ ?_
                  refine D_sel (H' := []) [false] rfl ?_
                  refine C_ret ?_
                  refine x_blk_ret ?_
                  refine x_then_ret ?_
                  refine R_1 rfl rfl fun w' hs => ⟨congrArg (fun z => Ending.returned (Value.bool z)) ?_, hs.bel⟩
                  show (false : Bool) = isEventB x
                  unfold isEventB; simp_all; try (first | omega | (rw [Bool.eq_iff_iff]; simp))
              · have pr21 : (x.Kind : Int) ≠ 4 := ne_of_beq_false h21
                refine C_skip ?_
                refine x_blk ?_
                refine x_then ?_
                refine C_seq ?_
                refine C_reg ?_
                refine p1 rfl ?_
                refine D_end ?_
                refine x_then ?_
                refine C_ret ?_
                refine R_1 rfl rfl fun w' hs => ⟨congrArg (fun z => Ending.returned (Value.bool z)) ?_, hs.bel⟩
                show (false : Bool) = isEventB x
                unfold isEventB; simp_all; try (first | omega | (rw [Bool.eq_iff_iff]; simp))
            · have pr20 : (x.Kind : Int) ≠ 4 := ne_of_beq_false h20
              refine C_reg ?_
              refine p1 rfl <| p1 rfl ?_
              refine D_end ?_
              refine x_then ?_
              refine C_if _ rfl (fun h23 => ?_) (fun h23 => ?_)
              · have pr23 : (x.Kind : Int) = 5 := eq_of_beq h23
                refine C_seq ?_
                refine C_reg ?_
                refine q1 rfl (D_fb f_31_1 rfl rfl (q := 1) rfl) ?_
                refine q1 rfl (lb 0 o_9 rfl rfl rfl rfl) ?_
                refine li rfl (cv b_23 rfl rfl rfl rfl (fun w' hs => (impl_IsName w' x.Rule)) ?_)
                refine p1 rfl ?_
                refine gs 43 rfl rfl (fun h24 => ?_) (fun h24 => ?_)
                · refine q1 rfl (D_fb f_31_2 rfl rfl (q := 2) rfl) ?_
                  refine q1 rfl (lba (es := [(.string x.Fact.Rel), u1]) 0 a_29 rfl rfl rfl rfl) ?_
                  refine li rfl (cv b_22 rfl rfl rfl rfl (fun w' hs => (impl_IsFact w' [(.string x.Fact.Rel), u1] x.Fact (rd_at hs hb4))) ?_)
                  refine p1 rfl <| p1 rfl ?_
                  refine D_end ?_
                  refine x_then ?_
                  refine D_weak [(2, (.bool (isFactB x.Fact)))] ⟨rfl, trivial⟩ ?_
                  refine D_sel (H' := []) [false] rfl ?_
                  refine C_ret ?_
                  refine x_blk_ret ?_
                  refine x_then_ret ?_
                  refine R_1 rfl rfl fun w' hs => ⟨congrArg (fun z => Ending.returned (Value.bool z)) ?_, hs.bel⟩
                  show ((isFactB x.Fact) : Bool) = isEventB x
                  unfold isEventB; simp_all; try (first | omega | (rw [Bool.eq_iff_iff]; simp))
                · refine n1 rfl ?_
                  refine n1 rfl ?_
                  refine n1 rfl ?_
                  refine p1 rfl <| p1 rfl ?_
                  refine D_end ?_
                  refine x_then ?_
                  refine D_weak [(2, (.bool false))] ⟨rfl, trivial⟩ ?_
                  refine D_sel (H' := []) [false] rfl ?_
                  refine C_ret ?_
                  refine x_blk_ret ?_
                  refine x_then_ret ?_
                  refine R_1 rfl rfl fun w' hs => ⟨congrArg (fun z => Ending.returned (Value.bool z)) ?_, hs.bel⟩
                  show (false : Bool) = isEventB x
                  unfold isEventB; simp_all; try (first | omega | (rw [Bool.eq_iff_iff]; simp))
              · have pr23 : (x.Kind : Int) ≠ 5 := ne_of_beq_false h23
                refine C_skip ?_
                refine x_blk ?_
                refine x_then ?_
                refine C_seq ?_
                refine C_reg ?_
                refine p1 rfl ?_
                refine D_end ?_
                refine x_then ?_
                refine C_ret ?_
                refine R_1 rfl rfl fun w' hs => ⟨congrArg (fun z => Ending.returned (Value.bool z)) ?_, hs.bel⟩
                show (false : Bool) = isEventB x
                unfold isEventB; simp_all; try (first | omega | (rw [Bool.eq_iff_iff]; simp))
    · have pr7 : (x.Kind : Int) ≠ 1 := ne_of_beq_false h7
      refine C_reg ?_
      refine p1 rfl <| p1 rfl ?_
      refine D_end ?_
      refine x_then ?_
      refine C_if _ rfl (fun h25 => ?_) (fun h25 => ?_)
      · have pr25 : (x.Kind : Int) = 2 := eq_of_beq h25
        refine C_seq ?_
        refine C_reg ?_
        refine q1 rfl (D_fb f_31_1 rfl rfl (q := 1) rfl) ?_
        refine q1 rfl (lb 0 o_9 rfl rfl rfl rfl) ?_
        refine q1 rfl (D_eqS rfl rfl rfl) ?_
        refine p1 rfl ?_
        refine gs 23 rfl rfl (fun h26 => ?_) (fun h26 => ?_)
        · have pr26 : (x.Rule : ByteArray) = ⟨#[]⟩ := of_decide_eq_true h26
          refine q1 rfl (D_fb f_31_2 rfl rfl (q := 2) rfl) ?_
          refine q1 rfl (lba (es := [(.string x.Fact.Rel), u1]) 0 a_29 rfl rfl rfl rfl) ?_
          refine li rfl (cv b_22 rfl rfl rfl rfl (fun w' hs => (impl_IsFact w' [(.string x.Fact.Rel), u1] x.Fact (rd_at hs hb4))) ?_)
          refine p1 rfl <| p1 rfl ?_
          refine D_end ?_
          refine x_then ?_
          refine C_ret ?_
          refine x_blk_ret ?_
          refine x_then_ret ?_
          refine R_1 rfl rfl fun w' hs => ⟨congrArg (fun z => Ending.returned (Value.bool z)) ?_, hs.bel⟩
          show ((isFactB x.Fact) : Bool) = isEventB x
          unfold isEventB; simp_all; try (first | omega | (rw [Bool.eq_iff_iff]; simp))
        · have pr26 : ¬ (x.Rule : ByteArray) = ⟨#[]⟩ := of_decide_eq_false h26
          refine n1 rfl ?_
          refine n1 rfl ?_
          refine n1 rfl ?_
          refine p1 rfl <| p1 rfl ?_
          refine D_end ?_
          refine x_then ?_
          refine C_ret ?_
          refine x_blk_ret ?_
          refine x_then_ret ?_
          refine R_1 rfl rfl fun w' hs => ⟨congrArg (fun z => Ending.returned (Value.bool z)) ?_, hs.bel⟩
          show (false : Bool) = isEventB x
          unfold isEventB; simp_all; try (first | omega | (rw [Bool.eq_iff_iff]; simp))
      · have pr25 : (x.Kind : Int) ≠ 2 := ne_of_beq_false h25
        refine C_seq ?_
        refine C_seq ?_
        refine C_reg ?_
        refine p1 rfl <| p1 rfl ?_
        refine D_end ?_
        refine x_then ?_
        refine C_if _ rfl (fun h27 => ?_) (fun h27 => ?_)
        · have pr27 : (x.Kind : Int) = 3 := eq_of_beq h27
          refine C_skip ?_
          refine x_then ?_
          refine C_if _ rfl (fun h28 => ?_) (fun h28 => ?_)
          · have pr28 : (x.Kind : Int) = 3 := eq_of_beq h28
            refine C_seq ?_
            refine C_reg ?_
            refine q1 rfl (D_fb f_31_1 rfl rfl (q := 1) rfl) ?_
            refine q1 rfl (lb 0 o_9 rfl rfl rfl rfl) ?_
            refine li rfl (cv b_23 rfl rfl rfl rfl (fun w' hs => (impl_IsName w' x.Rule)) ?_)
            refine p1 rfl ?_
            refine gs 34 rfl rfl (fun h29 => ?_) (fun h29 => ?_)
            · refine p1 rfl <| p1 rfl <| p1 rfl ?_
              refine D_end ?_
              refine x_then ?_
              refine C_ret ?_
              refine x_blk_ret ?_
              refine x_then_ret ?_
              refine R_1 rfl rfl fun w' hs => ⟨congrArg (fun z => Ending.returned (Value.bool z)) ?_, hs.bel⟩
              show (((((x.Fact.Args.length : Nat) : Int) : Int) == 0) : Bool) = isEventB x
              unfold isEventB; simp_all; try (first | omega | (rw [Bool.eq_iff_iff]; simp))
            · refine n1 rfl ?_
              refine p1 rfl <| p1 rfl ?_
              refine D_end ?_
              refine x_then ?_
              refine C_ret ?_
              refine x_blk_ret ?_
              refine x_then_ret ?_
              refine R_1 rfl rfl fun w' hs => ⟨congrArg (fun z => Ending.returned (Value.bool z)) ?_, hs.bel⟩
              show (false : Bool) = isEventB x
              unfold isEventB; simp_all; try (first | omega | (rw [Bool.eq_iff_iff]; simp))
          · have pr28 : (x.Kind : Int) ≠ 3 := ne_of_beq_false h28
            refine C_seq ?_
            refine C_seq ?_
            refine C_reg ?_
            refine p1 rfl <| p1 rfl ?_
            refine D_end ?_
            refine x_then ?_
            refine C_if _ rfl (fun h30 => ?_) (fun h30 => ?_)
            · have pr30 : (x.Kind : Int) = 4 := eq_of_beq h30
              refine C_skip ?_
              refine x_then ?_
              refine C_if _ rfl (fun h31 => ?_) (fun h31 => ?_)
              · have pr31 : (x.Kind : Int) = 4 := eq_of_beq h31
                refine C_seq ?_
                refine C_reg ?_
                refine q1 rfl (D_fb f_31_1 rfl rfl (q := 1) rfl) ?_
                refine q1 rfl (lb 0 o_9 rfl rfl rfl rfl) ?_
                refine li rfl (cv b_23 rfl rfl rfl rfl (fun w' hs => (impl_IsName w' x.Rule)) ?_)
                refine p1 rfl ?_
                refine gs 43 rfl rfl (fun h32 => ?_) (fun h32 => ?_)
                · refine q1 rfl (D_fb f_31_2 rfl rfl (q := 2) rfl) ?_
                  refine q1 rfl (lba (es := [(.string x.Fact.Rel), u1]) 0 a_29 rfl rfl rfl rfl) ?_
                  refine li rfl (cv b_22 rfl rfl rfl rfl (fun w' hs => (impl_IsFact w' [(.string x.Fact.Rel), u1] x.Fact (rd_at hs hb4))) ?_)
                  refine p1 rfl <| p1 rfl ?_
                  refine D_end ?_
                  refine x_then ?_
                  refine D_weak [(2, (.bool (isFactB x.Fact)))] ⟨rfl, trivial⟩ ?_
                  refine D_sel (H' := []) [false] rfl ?_
                  refine C_ret ?_
                  refine x_blk_ret ?_
                  refine x_then_ret ?_
                  refine R_1 rfl rfl fun w' hs => ⟨congrArg (fun z => Ending.returned (Value.bool z)) ?_, hs.bel⟩
                  show ((isFactB x.Fact) : Bool) = isEventB x
                  unfold isEventB; simp_all; try (first | omega | (rw [Bool.eq_iff_iff]; simp))
                · refine n1 rfl ?_
                  refine n1 rfl ?_
                  refine n1 rfl ?_
                  refine p1 rfl <| p1 rfl ?_
                  refine D_end ?_
                  refine x_then ?_
                  refine D_weak [(2, (.bool false))] ⟨rfl, trivial⟩ ?_
                  refine D_sel (H' := []) [false] rfl ?_
                  refine C_ret ?_
                  refine x_blk_ret ?_
                  refine x_then_ret ?_
                  refine R_1 rfl rfl fun w' hs => ⟨congrArg (fun z => Ending.returned (Value.bool z)) ?_, hs.bel⟩
                  show (false : Bool) = isEventB x
                  unfold isEventB; simp_all; try (first | omega | (rw [Bool.eq_iff_iff]; simp))
              · have pr31 : (x.Kind : Int) ≠ 4 := ne_of_beq_false h31
                refine C_skip ?_
                refine x_blk ?_
                refine x_then ?_
                refine C_seq ?_
                refine C_reg ?_
                refine p1 rfl ?_
                refine D_end ?_
                refine x_then ?_
                refine C_ret ?_
                refine R_1 rfl rfl fun w' hs => ⟨congrArg (fun z => Ending.returned (Value.bool z)) ?_, hs.bel⟩
                show (false : Bool) = isEventB x
                unfold isEventB; simp_all; try (first | omega | (rw [Bool.eq_iff_iff]; simp))
            · have pr30 : (x.Kind : Int) ≠ 4 := ne_of_beq_false h30
              refine C_reg ?_
              refine p1 rfl <| p1 rfl ?_
              refine D_end ?_
              refine x_then ?_
              refine C_if _ rfl (fun h33 => ?_) (fun h33 => ?_)
              · have pr33 : (x.Kind : Int) = 5 := eq_of_beq h33
                refine C_seq ?_
                refine C_reg ?_
                refine q1 rfl (D_fb f_31_1 rfl rfl (q := 1) rfl) ?_
                refine q1 rfl (lb 0 o_9 rfl rfl rfl rfl) ?_
                refine li rfl (cv b_23 rfl rfl rfl rfl (fun w' hs => (impl_IsName w' x.Rule)) ?_)
                refine p1 rfl ?_
                refine gs 43 rfl rfl (fun h34 => ?_) (fun h34 => ?_)
                · refine q1 rfl (D_fb f_31_2 rfl rfl (q := 2) rfl) ?_
                  refine q1 rfl (lba (es := [(.string x.Fact.Rel), u1]) 0 a_29 rfl rfl rfl rfl) ?_
                  refine li rfl (cv b_22 rfl rfl rfl rfl (fun w' hs => (impl_IsFact w' [(.string x.Fact.Rel), u1] x.Fact (rd_at hs hb4))) ?_)
                  refine p1 rfl <| p1 rfl ?_
                  refine D_end ?_
                  refine x_then ?_
                  refine D_weak [(2, (.bool (isFactB x.Fact)))] ⟨rfl, trivial⟩ ?_
                  refine D_sel (H' := []) [false] rfl ?_
                  refine C_ret ?_
                  refine x_blk_ret ?_
                  refine x_then_ret ?_
                  refine R_1 rfl rfl fun w' hs => ⟨congrArg (fun z => Ending.returned (Value.bool z)) ?_, hs.bel⟩
                  show ((isFactB x.Fact) : Bool) = isEventB x
                  unfold isEventB; simp_all; try (first | omega | (rw [Bool.eq_iff_iff]; simp))
                · refine n1 rfl ?_
                  refine n1 rfl ?_
                  refine n1 rfl ?_
                  refine p1 rfl <| p1 rfl ?_
                  refine D_end ?_
                  refine x_then ?_
                  refine D_weak [(2, (.bool false))] ⟨rfl, trivial⟩ ?_
                  refine D_sel (H' := []) [false] rfl ?_
                  refine C_ret ?_
                  refine x_blk_ret ?_
                  refine x_then_ret ?_
                  refine R_1 rfl rfl fun w' hs => ⟨congrArg (fun z => Ending.returned (Value.bool z)) ?_, hs.bel⟩
                  show (false : Bool) = isEventB x
                  unfold isEventB; simp_all; try (first | omega | (rw [Bool.eq_iff_iff]; simp))
              · have pr33 : (x.Kind : Int) ≠ 5 := ne_of_beq_false h33
                refine C_skip ?_
                refine x_blk ?_
                refine x_then ?_
                refine C_seq ?_
                refine C_reg ?_
                refine p1 rfl ?_
                refine D_end ?_
                refine x_then ?_
                refine C_ret ?_
                refine R_1 rfl rfl fun w' hs => ⟨congrArg (fun z => Ending.returned (Value.bool z)) ?_, hs.bel⟩
                show (false : Bool) = isEventB x
                unfold isEventB; simp_all; try (first | omega | (rw [Bool.eq_iff_iff]; simp))
        · have pr27 : (x.Kind : Int) ≠ 3 := ne_of_beq_false h27
          refine C_reg ?_
          refine p1 rfl <| p1 rfl ?_
          refine D_end ?_
          refine x_then ?_
          refine C_if _ rfl (fun h35 => ?_) (fun h35 => ?_)
          · have pr35 : (x.Kind : Int) = 6 := eq_of_beq h35
            refine C_seq ?_
            refine C_reg ?_
            refine q1 rfl (D_fb f_31_1 rfl rfl (q := 1) rfl) ?_
            refine q1 rfl (lb 0 o_9 rfl rfl rfl rfl) ?_
            refine li rfl (cv b_23 rfl rfl rfl rfl (fun w' hs => (impl_IsName w' x.Rule)) ?_)
            refine p1 rfl ?_
            refine gs 34 rfl rfl (fun h36 => ?_) (fun h36 => ?_)
            · refine p1 rfl <| p1 rfl <| p1 rfl ?_
              refine D_end ?_
              refine x_then ?_
              refine C_ret ?_
              refine x_blk_ret ?_
              refine x_then_ret ?_
              refine R_1 rfl rfl fun w' hs => ⟨congrArg (fun z => Ending.returned (Value.bool z)) ?_, hs.bel⟩
              show (((((x.Fact.Args.length : Nat) : Int) : Int) == 0) : Bool) = isEventB x
              unfold isEventB; simp_all; try (first | omega | (rw [Bool.eq_iff_iff]; simp))
            · refine n1 rfl ?_
              refine p1 rfl <| p1 rfl ?_
              refine D_end ?_
              refine x_then ?_
              refine C_ret ?_
              refine x_blk_ret ?_
              refine x_then_ret ?_
              refine R_1 rfl rfl fun w' hs => ⟨congrArg (fun z => Ending.returned (Value.bool z)) ?_, hs.bel⟩
              show (false : Bool) = isEventB x
              unfold isEventB; simp_all; try (first | omega | (rw [Bool.eq_iff_iff]; simp))
          · have pr35 : (x.Kind : Int) ≠ 6 := ne_of_beq_false h35
            refine C_seq ?_
            refine C_seq ?_
            refine C_reg ?_
            refine p1 rfl <| p1 rfl ?_
            refine D_end ?_
            refine x_then ?_
            refine C_if _ rfl (fun h37 => ?_) (fun h37 => ?_)
            · have pr37 : (x.Kind : Int) = 4 := eq_of_beq h37
              refine C_skip ?_
              refine x_then ?_
              refine C_if _ rfl (fun h38 => ?_) (fun h38 => ?_)
              · have pr38 : (x.Kind : Int) = 4 := eq_of_beq h38
                refine C_seq ?_
                refine C_reg ?_
                refine q1 rfl (D_fb f_31_1 rfl rfl (q := 1) rfl) ?_
                refine q1 rfl (lb 0 o_9 rfl rfl rfl rfl) ?_
                refine li rfl (cv b_23 rfl rfl rfl rfl (fun w' hs => (impl_IsName w' x.Rule)) ?_)
                refine p1 rfl ?_
                refine gs 43 rfl rfl (fun h39 => ?_) (fun h39 => ?_)
                · refine q1 rfl (D_fb f_31_2 rfl rfl (q := 2) rfl) ?_
                  refine q1 rfl (lba (es := [(.string x.Fact.Rel), u1]) 0 a_29 rfl rfl rfl rfl) ?_
                  refine li rfl (cv b_22 rfl rfl rfl rfl (fun w' hs => (impl_IsFact w' [(.string x.Fact.Rel), u1] x.Fact (rd_at hs hb4))) ?_)
                  refine p1 rfl <| p1 rfl ?_
                  refine D_end ?_
                  refine x_then ?_
                  refine D_weak [(2, (.bool (isFactB x.Fact)))] ⟨rfl, trivial⟩ ?_
                  refine D_sel (H' := []) [false] rfl ?_
                  refine C_ret ?_
                  refine x_blk_ret ?_
                  refine x_then_ret ?_
                  refine R_1 rfl rfl fun w' hs => ⟨congrArg (fun z => Ending.returned (Value.bool z)) ?_, hs.bel⟩
                  show ((isFactB x.Fact) : Bool) = isEventB x
                  unfold isEventB; simp_all; try (first | omega | (rw [Bool.eq_iff_iff]; simp))
                · refine n1 rfl ?_
                  refine n1 rfl ?_
                  refine n1 rfl ?_
                  refine p1 rfl <| p1 rfl ?_
                  refine D_end ?_
                  refine x_then ?_
                  refine D_weak [(2, (.bool false))] ⟨rfl, trivial⟩ ?_
                  refine D_sel (H' := []) [false] rfl ?_
                  refine C_ret ?_
                  refine x_blk_ret ?_
                  refine x_then_ret ?_
                  refine R_1 rfl rfl fun w' hs => ⟨congrArg (fun z => Ending.returned (Value.bool z)) ?_, hs.bel⟩
                  show (false : Bool) = isEventB x
                  unfold isEventB; simp_all; try (first | omega | (rw [Bool.eq_iff_iff]; simp))
              · have pr38 : (x.Kind : Int) ≠ 4 := ne_of_beq_false h38
                refine C_skip ?_
                refine x_blk ?_
                refine x_then ?_
                refine C_seq ?_
                refine C_reg ?_
                refine p1 rfl ?_
                refine D_end ?_
                refine x_then ?_
                refine C_ret ?_
                refine R_1 rfl rfl fun w' hs => ⟨congrArg (fun z => Ending.returned (Value.bool z)) ?_, hs.bel⟩
                show (false : Bool) = isEventB x
                unfold isEventB; simp_all; try (first | omega | (rw [Bool.eq_iff_iff]; simp))
            · have pr37 : (x.Kind : Int) ≠ 4 := ne_of_beq_false h37
              refine C_reg ?_
              refine p1 rfl <| p1 rfl ?_
              refine D_end ?_
              refine x_then ?_
              refine C_if _ rfl (fun h40 => ?_) (fun h40 => ?_)
              · have pr40 : (x.Kind : Int) = 5 := eq_of_beq h40
                refine C_seq ?_
                refine C_reg ?_
                refine q1 rfl (D_fb f_31_1 rfl rfl (q := 1) rfl) ?_
                refine q1 rfl (lb 0 o_9 rfl rfl rfl rfl) ?_
                refine li rfl (cv b_23 rfl rfl rfl rfl (fun w' hs => (impl_IsName w' x.Rule)) ?_)
                refine p1 rfl ?_
                refine gs 43 rfl rfl (fun h41 => ?_) (fun h41 => ?_)
                · refine q1 rfl (D_fb f_31_2 rfl rfl (q := 2) rfl) ?_
                  refine q1 rfl (lba (es := [(.string x.Fact.Rel), u1]) 0 a_29 rfl rfl rfl rfl) ?_
                  refine li rfl (cv b_22 rfl rfl rfl rfl (fun w' hs => (impl_IsFact w' [(.string x.Fact.Rel), u1] x.Fact (rd_at hs hb4))) ?_)
                  refine p1 rfl <| p1 rfl ?_
                  refine D_end ?_
                  refine x_then ?_
                  refine D_weak [(2, (.bool (isFactB x.Fact)))] ⟨rfl, trivial⟩ ?_
                  refine D_sel (H' := []) [false] rfl ?_
                  refine C_ret ?_
                  refine x_blk_ret ?_
                  refine x_then_ret ?_
                  refine R_1 rfl rfl fun w' hs => ⟨congrArg (fun z => Ending.returned (Value.bool z)) ?_, hs.bel⟩
                  show ((isFactB x.Fact) : Bool) = isEventB x
                  unfold isEventB; simp_all; try (first | omega | (rw [Bool.eq_iff_iff]; simp))
                · refine n1 rfl ?_
                  refine n1 rfl ?_
                  refine n1 rfl ?_
                  refine p1 rfl <| p1 rfl ?_
                  refine D_end ?_
                  refine x_then ?_
                  refine D_weak [(2, (.bool false))] ⟨rfl, trivial⟩ ?_
                  refine D_sel (H' := []) [false] rfl ?_
                  refine C_ret ?_
                  refine x_blk_ret ?_
                  refine x_then_ret ?_
                  refine R_1 rfl rfl fun w' hs => ⟨congrArg (fun z => Ending.returned (Value.bool z)) ?_, hs.bel⟩
                  show (false : Bool) = isEventB x
                  unfold isEventB; simp_all; try (first | omega | (rw [Bool.eq_iff_iff]; simp))
              · have pr40 : (x.Kind : Int) ≠ 5 := ne_of_beq_false h40
                refine C_skip ?_
                refine x_blk ?_
                refine x_then ?_
                refine C_seq ?_
                refine C_reg ?_
                refine p1 rfl ?_
                refine D_end ?_
                refine x_then ?_
                refine C_ret ?_
                refine R_1 rfl rfl fun w' hs => ⟨congrArg (fun z => Ending.returned (Value.bool z)) ?_, hs.bel⟩
                show (false : Bool) = isEventB x
                unfold isEventB; simp_all; try (first | omega | (rw [Bool.eq_iff_iff]; simp))
  · have pr6 : ¬ (x.Fact.Rel : ByteArray) = ⟨#[]⟩ := of_decide_eq_false h6
    refine n1 rfl ?_
    refine n1 rfl ?_
    refine n1 rfl ?_
    refine n1 rfl ?_
    refine n1 rfl ?_
    refine p1 rfl <| p1 rfl ?_
    refine D_end ?_
    refine x_then ?_
    refine C_seq ?_
    refine C_seq ?_
    refine C_reg ?_
    refine q1 rfl (D_fb f_31_0 rfl rfl (q := 0) rfl) ?_
    refine q1 rfl (lb 0 o_3 rfl rfl rfl rfl) ?_
    refine D_end ?_
    refine x_then ?_
    refine C_block ?_
    refine C_seq ?_
    refine C_seq ?_
    refine C_reg ?_
    refine p1 rfl <| p1 rfl ?_
    refine D_end ?_
    refine x_then ?_
    refine D_weak [(1, (.pointer (some ⟨g5, 0, none⟩))), (3, (.bool false)), (16, (.int .i64 x.Kind)), (17, (.bool ((x.Kind : Int) == 1)))] ⟨rfl, rfl, rfl, rfl, trivial⟩ ?_
    refine C_if _ rfl (fun h42 => ?_) (fun h42 => ?_)
    · have pr42 : (x.Kind : Int) = 1 := eq_of_beq h42
      refine C_skip ?_
      refine x_then ?_
      refine C_if _ rfl (fun h43 => ?_) (fun h43 => ?_)
      · have pr43 : (x.Kind : Int) = 1 := eq_of_beq h43
        refine C_seq ?_
        refine C_reg ?_
        refine q1 rfl (D_fb f_31_1 rfl rfl (q := 1) rfl) ?_
        refine q1 rfl (lb 0 o_9 rfl rfl rfl rfl) ?_
        refine q1 rfl (D_eqS rfl rfl rfl) ?_
        refine p1 rfl ?_
        refine gs 23 rfl rfl (fun h44 => ?_) (fun h44 => ?_)
        · have pr44 : (x.Rule : ByteArray) = ⟨#[]⟩ := of_decide_eq_true h44
          refine q1 rfl (D_fb f_31_2 rfl rfl (q := 2) rfl) ?_
          refine q1 rfl (lba (es := [(.string x.Fact.Rel), u1]) 0 a_29 rfl rfl rfl rfl) ?_
          refine li rfl (cv b_22 rfl rfl rfl rfl (fun w' hs => (impl_IsFact w' [(.string x.Fact.Rel), u1] x.Fact (rd_at hs hb4))) ?_)
          refine p1 rfl <| p1 rfl ?_
          refine D_end ?_
          refine x_then ?_
          refine C_ret ?_
          refine x_blk_ret ?_
          refine x_then_ret ?_
          refine R_1 rfl rfl fun w' hs => ⟨congrArg (fun z => Ending.returned (Value.bool z)) ?_, hs.bel⟩
          show ((isFactB x.Fact) : Bool) = isEventB x
          unfold isEventB; simp_all; try (first | omega | (rw [Bool.eq_iff_iff]; simp))
        · have pr44 : ¬ (x.Rule : ByteArray) = ⟨#[]⟩ := of_decide_eq_false h44
          refine n1 rfl ?_
          refine n1 rfl ?_
          refine n1 rfl ?_
          refine p1 rfl <| p1 rfl ?_
          refine D_end ?_
          refine x_then ?_
          refine C_ret ?_
          refine x_blk_ret ?_
          refine x_then_ret ?_
          refine R_1 rfl rfl fun w' hs => ⟨congrArg (fun z => Ending.returned (Value.bool z)) ?_, hs.bel⟩
          show (false : Bool) = isEventB x
          unfold isEventB; simp_all; try (first | omega | (rw [Bool.eq_iff_iff]; simp))
      · have pr43 : (x.Kind : Int) ≠ 1 := ne_of_beq_false h43
        refine C_seq ?_
        refine C_seq ?_
        refine C_reg ?_
        refine p1 rfl <| p1 rfl ?_
        refine D_end ?_
        refine x_then ?_
        refine C_if _ rfl (fun h45 => ?_) (fun h45 => ?_)
        · have pr45 : (x.Kind : Int) = 3 := eq_of_beq h45
          refine C_skip ?_
          refine x_then ?_
          refine C_if _ rfl (fun h46 => ?_) (fun h46 => ?_)
          · have pr46 : (x.Kind : Int) = 3 := eq_of_beq h46
            refine C_seq ?_
            refine C_reg ?_
            refine q1 rfl (D_fb f_31_1 rfl rfl (q := 1) rfl) ?_
            refine q1 rfl (lb 0 o_9 rfl rfl rfl rfl) ?_
            refine li rfl (cv b_23 rfl rfl rfl rfl (fun w' hs => (impl_IsName w' x.Rule)) ?_)
            refine p1 rfl ?_
            refine gs 34 rfl rfl (fun h47 => ?_) (fun h47 => ?_)
            · refine p1 rfl <| p1 rfl <| p1 rfl ?_
              refine D_end ?_
              refine x_then ?_
              refine C_ret ?_
              refine x_blk_ret ?_
              refine x_then_ret ?_
              refine R_1 rfl rfl fun w' hs => ⟨congrArg (fun z => Ending.returned (Value.bool z)) ?_, hs.bel⟩
              show (false : Bool) = isEventB x
              unfold isEventB; simp_all; try (first | omega | (rw [Bool.eq_iff_iff]; simp))
            · refine n1 rfl ?_
              refine p1 rfl <| p1 rfl ?_
              refine D_end ?_
              refine x_then ?_
              refine C_ret ?_
              refine x_blk_ret ?_
              refine x_then_ret ?_
              refine R_1 rfl rfl fun w' hs => ⟨congrArg (fun z => Ending.returned (Value.bool z)) ?_, hs.bel⟩
              show (false : Bool) = isEventB x
              unfold isEventB; simp_all; try (first | omega | (rw [Bool.eq_iff_iff]; simp))
          · have pr46 : (x.Kind : Int) ≠ 3 := ne_of_beq_false h46
            refine C_seq ?_
            refine C_seq ?_
            refine C_reg ?_
            refine p1 rfl <| p1 rfl ?_
            refine D_end ?_
            refine x_then ?_
            refine C_if _ rfl (fun h48 => ?_) (fun h48 => ?_)
            · have pr48 : (x.Kind : Int) = 4 := eq_of_beq h48
              refine C_skip ?_
              refine x_then ?_
              refine C_if _ rfl (fun h49 => ?_) (fun h49 => ?_)
              · have pr49 : (x.Kind : Int) = 4 := eq_of_beq h49
                refine C_seq ?_
                refine C_reg ?_
                refine q1 rfl (D_fb f_31_1 rfl rfl (q := 1) rfl) ?_
                refine q1 rfl (lb 0 o_9 rfl rfl rfl rfl) ?_
                refine li rfl (cv b_23 rfl rfl rfl rfl (fun w' hs => (impl_IsName w' x.Rule)) ?_)
                refine p1 rfl ?_
                refine gs 43 rfl rfl (fun h50 => ?_) (fun h50 => ?_)
                · refine q1 rfl (D_fb f_31_2 rfl rfl (q := 2) rfl) ?_
                  refine q1 rfl (lba (es := [(.string x.Fact.Rel), u1]) 0 a_29 rfl rfl rfl rfl) ?_
                  refine li rfl (cv b_22 rfl rfl rfl rfl (fun w' hs => (impl_IsFact w' [(.string x.Fact.Rel), u1] x.Fact (rd_at hs hb4))) ?_)
                  refine p1 rfl <| p1 rfl ?_
                  refine D_end ?_
                  refine x_then ?_
                  refine D_weak [(2, (.bool (isFactB x.Fact)))] ⟨rfl, trivial⟩ ?_
                  refine D_sel (H' := []) [false] rfl ?_
                  refine C_ret ?_
                  refine x_blk_ret ?_
                  refine x_then_ret ?_
                  refine R_1 rfl rfl fun w' hs => ⟨congrArg (fun z => Ending.returned (Value.bool z)) ?_, hs.bel⟩
                  show ((isFactB x.Fact) : Bool) = isEventB x
                  unfold isEventB; simp_all; try (first | omega | (rw [Bool.eq_iff_iff]; simp))
                · refine n1 rfl ?_
                  refine n1 rfl ?_
                  refine n1 rfl ?_
                  refine p1 rfl <| p1 rfl ?_
                  refine D_end ?_
                  refine x_then ?_
                  refine D_weak [(2, (.bool false))] ⟨rfl, trivial⟩ ?_
                  refine D_sel (H' := []) [false] rfl ?_
                  refine C_ret ?_
                  refine x_blk_ret ?_
                  refine x_then_ret ?_
                  refine R_1 rfl rfl fun w' hs => ⟨congrArg (fun z => Ending.returned (Value.bool z)) ?_, hs.bel⟩
                  show (false : Bool) = isEventB x
                  unfold isEventB; simp_all; try (first | omega | (rw [Bool.eq_iff_iff]; simp))
              · have pr49 : (x.Kind : Int) ≠ 4 := ne_of_beq_false h49
                refine C_skip ?_
                refine x_blk ?_
                refine x_then ?_
                refine C_seq ?_
                refine C_reg ?_
                refine p1 rfl ?_
                refine D_end ?_
                refine x_then ?_
                refine C_ret ?_
                refine R_1 rfl rfl fun w' hs => ⟨congrArg (fun z => Ending.returned (Value.bool z)) ?_, hs.bel⟩
                show (false : Bool) = isEventB x
                unfold isEventB; simp_all; try (first | omega | (rw [Bool.eq_iff_iff]; simp))
            · have pr48 : (x.Kind : Int) ≠ 4 := ne_of_beq_false h48
              refine C_reg ?_
              refine p1 rfl <| p1 rfl ?_
              refine D_end ?_
              refine x_then ?_
              refine C_if _ rfl (fun h51 => ?_) (fun h51 => ?_)
              · have pr51 : (x.Kind : Int) = 5 := eq_of_beq h51
                refine C_seq ?_
                refine C_reg ?_
                refine q1 rfl (D_fb f_31_1 rfl rfl (q := 1) rfl) ?_
                refine q1 rfl (lb 0 o_9 rfl rfl rfl rfl) ?_
                refine li rfl (cv b_23 rfl rfl rfl rfl (fun w' hs => (impl_IsName w' x.Rule)) ?_)
                refine p1 rfl ?_
                refine gs 43 rfl rfl (fun h52 => ?_) (fun h52 => ?_)
                · refine q1 rfl (D_fb f_31_2 rfl rfl (q := 2) rfl) ?_
                  refine q1 rfl (lba (es := [(.string x.Fact.Rel), u1]) 0 a_29 rfl rfl rfl rfl) ?_
                  refine li rfl (cv b_22 rfl rfl rfl rfl (fun w' hs => (impl_IsFact w' [(.string x.Fact.Rel), u1] x.Fact (rd_at hs hb4))) ?_)
                  refine p1 rfl <| p1 rfl ?_
                  refine D_end ?_
                  refine x_then ?_
                  refine D_weak [(2, (.bool (isFactB x.Fact)))] ⟨rfl, trivial⟩ ?_
                  refine D_sel (H' := []) [false] rfl ?_
                  refine C_ret ?_
                  refine x_blk_ret ?_
                  refine x_then_ret ?_
                  refine R_1 rfl rfl fun w' hs => ⟨congrArg (fun z => Ending.returned (Value.bool z)) ?_, hs.bel⟩
                  show ((isFactB x.Fact) : Bool) = isEventB x
                  unfold isEventB; simp_all; try (first | omega | (rw [Bool.eq_iff_iff]; simp))
                · refine n1 rfl ?_
                  refine n1 rfl ?_
                  refine n1 rfl ?_
                  refine p1 rfl <| p1 rfl ?_
                  refine D_end ?_
                  refine x_then ?_
                  refine D_weak [(2, (.bool false))] ⟨rfl, trivial⟩ ?_
                  refine D_sel (H' := []) [false] rfl ?_
                  refine C_ret ?_
                  refine x_blk_ret ?_
                  refine x_then_ret ?_
                  refine R_1 rfl rfl fun w' hs => ⟨congrArg (fun z => Ending.returned (Value.bool z)) ?_, hs.bel⟩
                  show (false : Bool) = isEventB x
                  unfold isEventB; simp_all; try (first | omega | (rw [Bool.eq_iff_iff]; simp))
              · have pr51 : (x.Kind : Int) ≠ 5 := ne_of_beq_false h51
                refine C_skip ?_
                refine x_blk ?_
                refine x_then ?_
                refine C_seq ?_
                refine C_reg ?_
                refine p1 rfl ?_
                refine D_end ?_
                refine x_then ?_
                refine C_ret ?_
                refine R_1 rfl rfl fun w' hs => ⟨congrArg (fun z => Ending.returned (Value.bool z)) ?_, hs.bel⟩
                show (false : Bool) = isEventB x
                unfold isEventB; simp_all; try (first | omega | (rw [Bool.eq_iff_iff]; simp))
        · have pr45 : (x.Kind : Int) ≠ 3 := ne_of_beq_false h45
          refine C_reg ?_
          refine p1 rfl <| p1 rfl ?_
          refine D_end ?_
          refine x_then ?_
          refine C_if _ rfl (fun h53 => ?_) (fun h53 => ?_)
          · have pr53 : (x.Kind : Int) = 6 := eq_of_beq h53
            refine C_seq ?_
            refine C_reg ?_
            refine q1 rfl (D_fb f_31_1 rfl rfl (q := 1) rfl) ?_
            refine q1 rfl (lb 0 o_9 rfl rfl rfl rfl) ?_
            refine li rfl (cv b_23 rfl rfl rfl rfl (fun w' hs => (impl_IsName w' x.Rule)) ?_)
            refine p1 rfl ?_
            refine gs 34 rfl rfl (fun h54 => ?_) (fun h54 => ?_)
            · refine p1 rfl <| p1 rfl <| p1 rfl ?_
              refine D_end ?_
              refine x_then ?_
              refine C_ret ?_
              refine x_blk_ret ?_
              refine x_then_ret ?_
              refine R_1 rfl rfl fun w' hs => ⟨congrArg (fun z => Ending.returned (Value.bool z)) ?_, hs.bel⟩
              show (false : Bool) = isEventB x
              unfold isEventB; simp_all; try (first | omega | (rw [Bool.eq_iff_iff]; simp))
            · refine n1 rfl ?_
              refine p1 rfl <| p1 rfl ?_
              refine D_end ?_
              refine x_then ?_
              refine C_ret ?_
              refine x_blk_ret ?_
              refine x_then_ret ?_
              refine R_1 rfl rfl fun w' hs => ⟨congrArg (fun z => Ending.returned (Value.bool z)) ?_, hs.bel⟩
              show (false : Bool) = isEventB x
              unfold isEventB; simp_all; try (first | omega | (rw [Bool.eq_iff_iff]; simp))
          · have pr53 : (x.Kind : Int) ≠ 6 := ne_of_beq_false h53
            refine C_seq ?_
            refine C_seq ?_
            refine C_reg ?_
            refine p1 rfl <| p1 rfl ?_
            refine D_end ?_
            refine x_then ?_
            refine C_if _ rfl (fun h55 => ?_) (fun h55 => ?_)
            · have pr55 : (x.Kind : Int) = 4 := eq_of_beq h55
              refine C_skip ?_
              refine x_then ?_
              refine C_if _ rfl (fun h56 => ?_) (fun h56 => ?_)
              · have pr56 : (x.Kind : Int) = 4 := eq_of_beq h56
                refine C_seq ?_
                refine C_reg ?_
                refine q1 rfl (D_fb f_31_1 rfl rfl (q := 1) rfl) ?_
                refine q1 rfl (lb 0 o_9 rfl rfl rfl rfl) ?_
                refine li rfl (cv b_23 rfl rfl rfl rfl (fun w' hs => (impl_IsName w' x.Rule)) ?_)
                refine p1 rfl ?_
                refine gs 43 rfl rfl (fun h57 => ?_) (fun h57 => ?_)
                · refine q1 rfl (D_fb f_31_2 rfl rfl (q := 2) rfl) ?_
                  refine q1 rfl (lba (es := [(.string x.Fact.Rel), u1]) 0 a_29 rfl rfl rfl rfl) ?_
                  refine li rfl (cv b_22 rfl rfl rfl rfl (fun w' hs => (impl_IsFact w' [(.string x.Fact.Rel), u1] x.Fact (rd_at hs hb4))) ?_)
                  refine p1 rfl <| p1 rfl ?_
                  refine D_end ?_
                  refine x_then ?_
                  refine D_weak [(2, (.bool (isFactB x.Fact)))] ⟨rfl, trivial⟩ ?_
                  refine D_sel (H' := []) [false] rfl ?_
                  refine C_ret ?_
                  refine x_blk_ret ?_
                  refine x_then_ret ?_
                  refine R_1 rfl rfl fun w' hs => ⟨congrArg (fun z => Ending.returned (Value.bool z)) ?_, hs.bel⟩
                  show ((isFactB x.Fact) : Bool) = isEventB x
                  unfold isEventB; simp_all; try (first | omega | (rw [Bool.eq_iff_iff]; simp))
                · refine n1 rfl ?_
                  refine n1 rfl ?_
                  refine n1 rfl ?_
                  refine p1 rfl <| p1 rfl ?_
                  refine D_end ?_
                  refine x_then ?_
                  refine D_weak [(2, (.bool false))] ⟨rfl, trivial⟩ ?_
                  refine D_sel (H' := []) [false] rfl ?_
                  refine C_ret ?_
                  refine x_blk_ret ?_
                  refine x_then_ret ?_
                  refine R_1 rfl rfl fun w' hs => ⟨congrArg (fun z => Ending.returned (Value.bool z)) ?_, hs.bel⟩
                  show (false : Bool) = isEventB x
                  unfold isEventB; simp_all; try (first | omega | (rw [Bool.eq_iff_iff]; simp))
              · have pr56 : (x.Kind : Int) ≠ 4 := ne_of_beq_false h56
                refine C_skip ?_
                refine x_blk ?_
                refine x_then ?_
                refine C_seq ?_
                refine C_reg ?_
                refine p1 rfl ?_
                refine D_end ?_
                refine x_then ?_
                refine C_ret ?_
                refine R_1 rfl rfl fun w' hs => ⟨congrArg (fun z => Ending.returned (Value.bool z)) ?_, hs.bel⟩
                show (false : Bool) = isEventB x
                unfold isEventB; simp_all; try (first | omega | (rw [Bool.eq_iff_iff]; simp))
            · have pr55 : (x.Kind : Int) ≠ 4 := ne_of_beq_false h55
              refine C_reg ?_
              refine p1 rfl <| p1 rfl ?_
              refine D_end ?_
              refine x_then ?_
              refine C_if _ rfl (fun h58 => ?_) (fun h58 => ?_)
              · have pr58 : (x.Kind : Int) = 5 := eq_of_beq h58
                refine C_seq ?_
                refine C_reg ?_
                refine q1 rfl (D_fb f_31_1 rfl rfl (q := 1) rfl) ?_
                refine q1 rfl (lb 0 o_9 rfl rfl rfl rfl) ?_
                refine li rfl (cv b_23 rfl rfl rfl rfl (fun w' hs => (impl_IsName w' x.Rule)) ?_)
                refine p1 rfl ?_
                refine gs 43 rfl rfl (fun h59 => ?_) (fun h59 => ?_)
                · refine q1 rfl (D_fb f_31_2 rfl rfl (q := 2) rfl) ?_
                  refine q1 rfl (lba (es := [(.string x.Fact.Rel), u1]) 0 a_29 rfl rfl rfl rfl) ?_
                  refine li rfl (cv b_22 rfl rfl rfl rfl (fun w' hs => (impl_IsFact w' [(.string x.Fact.Rel), u1] x.Fact (rd_at hs hb4))) ?_)
                  refine p1 rfl <| p1 rfl ?_
                  refine D_end ?_
                  refine x_then ?_
                  refine D_weak [(2, (.bool (isFactB x.Fact)))] ⟨rfl, trivial⟩ ?_
                  refine D_sel (H' := []) [false] rfl ?_
                  refine C_ret ?_
                  refine x_blk_ret ?_
                  refine x_then_ret ?_
                  refine R_1 rfl rfl fun w' hs => ⟨congrArg (fun z => Ending.returned (Value.bool z)) ?_, hs.bel⟩
                  show ((isFactB x.Fact) : Bool) = isEventB x
                  unfold isEventB; simp_all; try (first | omega | (rw [Bool.eq_iff_iff]; simp))
                · refine n1 rfl ?_
                  refine n1 rfl ?_
                  refine n1 rfl ?_
                  refine p1 rfl <| p1 rfl ?_
                  refine D_end ?_
                  refine x_then ?_
                  refine D_weak [(2, (.bool false))] ⟨rfl, trivial⟩ ?_
                  refine D_sel (H' := []) [false] rfl ?_
                  refine C_ret ?_
                  refine x_blk_ret ?_
                  refine x_then_ret ?_
                  refine R_1 rfl rfl fun w' hs => ⟨congrArg (fun z => Ending.returned (Value.bool z)) ?_, hs.bel⟩
                  show (false : Bool) = isEventB x
                  unfold isEventB; simp_all; try (first | omega | (rw [Bool.eq_iff_iff]; simp))
              · have pr58 : (x.Kind : Int) ≠ 5 := ne_of_beq_false h58
                refine C_skip ?_
                refine x_blk ?_
                refine x_then ?_
                refine C_seq ?_
                refine C_reg ?_
                refine p1 rfl ?_
                refine D_end ?_
                refine x_then ?_
                refine C_ret ?_
                refine R_1 rfl rfl fun w' hs => ⟨congrArg (fun z => Ending.returned (Value.bool z)) ?_, hs.bel⟩
                show (false : Bool) = isEventB x
                unfold isEventB; simp_all; try (first | omega | (rw [Bool.eq_iff_iff]; simp))
    · have pr42 : (x.Kind : Int) ≠ 1 := ne_of_beq_false h42
      refine C_reg ?_
      refine p1 rfl <| p1 rfl ?_
      refine D_end ?_
      refine x_then ?_
      refine C_if _ rfl (fun h60 => ?_) (fun h60 => ?_)
      · have pr60 : (x.Kind : Int) = 2 := eq_of_beq h60
        refine C_seq ?_
        refine C_reg ?_
        refine q1 rfl (D_fb f_31_1 rfl rfl (q := 1) rfl) ?_
        refine q1 rfl (lb 0 o_9 rfl rfl rfl rfl) ?_
        refine q1 rfl (D_eqS rfl rfl rfl) ?_
        refine p1 rfl ?_
        refine gs 23 rfl rfl (fun h61 => ?_) (fun h61 => ?_)
        · have pr61 : (x.Rule : ByteArray) = ⟨#[]⟩ := of_decide_eq_true h61
          refine q1 rfl (D_fb f_31_2 rfl rfl (q := 2) rfl) ?_
          refine q1 rfl (lba (es := [(.string x.Fact.Rel), u1]) 0 a_29 rfl rfl rfl rfl) ?_
          refine li rfl (cv b_22 rfl rfl rfl rfl (fun w' hs => (impl_IsFact w' [(.string x.Fact.Rel), u1] x.Fact (rd_at hs hb4))) ?_)
          refine p1 rfl <| p1 rfl ?_
          refine D_end ?_
          refine x_then ?_
          refine C_ret ?_
          refine x_blk_ret ?_
          refine x_then_ret ?_
          refine R_1 rfl rfl fun w' hs => ⟨congrArg (fun z => Ending.returned (Value.bool z)) ?_, hs.bel⟩
          show ((isFactB x.Fact) : Bool) = isEventB x
          unfold isEventB; simp_all; try (first | omega | (rw [Bool.eq_iff_iff]; simp))
        · have pr61 : ¬ (x.Rule : ByteArray) = ⟨#[]⟩ := of_decide_eq_false h61
          refine n1 rfl ?_
          refine n1 rfl ?_
          refine n1 rfl ?_
          refine p1 rfl <| p1 rfl ?_
          refine D_end ?_
          refine x_then ?_
          refine C_ret ?_
          refine x_blk_ret ?_
          refine x_then_ret ?_
          refine R_1 rfl rfl fun w' hs => ⟨congrArg (fun z => Ending.returned (Value.bool z)) ?_, hs.bel⟩
          show (false : Bool) = isEventB x
          unfold isEventB; simp_all; try (first | omega | (rw [Bool.eq_iff_iff]; simp))
      · have pr60 : (x.Kind : Int) ≠ 2 := ne_of_beq_false h60
        refine C_seq ?_
        refine C_seq ?_
        refine C_reg ?_
        refine p1 rfl <| p1 rfl ?_
        refine D_end ?_
        refine x_then ?_
        refine C_if _ rfl (fun h62 => ?_) (fun h62 => ?_)
        · have pr62 : (x.Kind : Int) = 3 := eq_of_beq h62
          refine C_skip ?_
          refine x_then ?_
          refine C_if _ rfl (fun h63 => ?_) (fun h63 => ?_)
          · have pr63 : (x.Kind : Int) = 3 := eq_of_beq h63
            refine C_seq ?_
            refine C_reg ?_
            refine q1 rfl (D_fb f_31_1 rfl rfl (q := 1) rfl) ?_
            refine q1 rfl (lb 0 o_9 rfl rfl rfl rfl) ?_
            refine li rfl (cv b_23 rfl rfl rfl rfl (fun w' hs => (impl_IsName w' x.Rule)) ?_)
            refine p1 rfl ?_
            refine gs 34 rfl rfl (fun h64 => ?_) (fun h64 => ?_)
            · refine p1 rfl <| p1 rfl <| p1 rfl ?_
              refine D_end ?_
              refine x_then ?_
              refine C_ret ?_
              refine x_blk_ret ?_
              refine x_then_ret ?_
              refine R_1 rfl rfl fun w' hs => ⟨congrArg (fun z => Ending.returned (Value.bool z)) ?_, hs.bel⟩
              show (false : Bool) = isEventB x
              unfold isEventB; simp_all; try (first | omega | (rw [Bool.eq_iff_iff]; simp))
            · refine n1 rfl ?_
              refine p1 rfl <| p1 rfl ?_
              refine D_end ?_
              refine x_then ?_
              refine C_ret ?_
              refine x_blk_ret ?_
              refine x_then_ret ?_
              refine R_1 rfl rfl fun w' hs => ⟨congrArg (fun z => Ending.returned (Value.bool z)) ?_, hs.bel⟩
              show (false : Bool) = isEventB x
              unfold isEventB; simp_all; try (first | omega | (rw [Bool.eq_iff_iff]; simp))
          · have pr63 : (x.Kind : Int) ≠ 3 := ne_of_beq_false h63
            refine C_seq ?_
            refine C_seq ?_
            refine C_reg ?_
            refine p1 rfl <| p1 rfl ?_
            refine D_end ?_
            refine x_then ?_
            refine C_if _ rfl (fun h65 => ?_) (fun h65 => ?_)
            · have pr65 : (x.Kind : Int) = 4 := eq_of_beq h65
              refine C_skip ?_
              refine x_then ?_
              refine C_if _ rfl (fun h66 => ?_) (fun h66 => ?_)
              · have pr66 : (x.Kind : Int) = 4 := eq_of_beq h66
                refine C_seq ?_
                refine C_reg ?_
                refine q1 rfl (D_fb f_31_1 rfl rfl (q := 1) rfl) ?_
                refine q1 rfl (lb 0 o_9 rfl rfl rfl rfl) ?_
                refine li rfl (cv b_23 rfl rfl rfl rfl (fun w' hs => (impl_IsName w' x.Rule)) ?_)
                refine p1 rfl ?_
                refine gs 43 rfl rfl (fun h67 => ?_) (fun h67 => ?_)
                · refine q1 rfl (D_fb f_31_2 rfl rfl (q := 2) rfl) ?_
                  refine q1 rfl (lba (es := [(.string x.Fact.Rel), u1]) 0 a_29 rfl rfl rfl rfl) ?_
                  refine li rfl (cv b_22 rfl rfl rfl rfl (fun w' hs => (impl_IsFact w' [(.string x.Fact.Rel), u1] x.Fact (rd_at hs hb4))) ?_)
                  refine p1 rfl <| p1 rfl ?_
                  refine D_end ?_
                  refine x_then ?_
                  refine D_weak [(2, (.bool (isFactB x.Fact)))] ⟨rfl, trivial⟩ ?_
                  refine D_sel (H' := []) [false] rfl ?_
                  refine C_ret ?_
                  refine x_blk_ret ?_
                  refine x_then_ret ?_
                  refine R_1 rfl rfl fun w' hs => ⟨congrArg (fun z => Ending.returned (Value.bool z)) ?_, hs.bel⟩
                  show ((isFactB x.Fact) : Bool) = isEventB x
                  unfold isEventB; simp_all; try (first | omega | (rw [Bool.eq_iff_iff]; simp))
                · refine n1 rfl ?_
                  refine n1 rfl ?_
                  refine n1 rfl ?_
                  refine p1 rfl <| p1 rfl ?_
                  refine D_end ?_
                  refine x_then ?_
                  refine D_weak [(2, (.bool false))] ⟨rfl, trivial⟩ ?_
                  refine D_sel (H' := []) [false] rfl ?_
                  refine C_ret ?_
                  refine x_blk_ret ?_
                  refine x_then_ret ?_
                  refine R_1 rfl rfl fun w' hs => ⟨congrArg (fun z => Ending.returned (Value.bool z)) ?_, hs.bel⟩
                  show (false : Bool) = isEventB x
                  unfold isEventB; simp_all; try (first | omega | (rw [Bool.eq_iff_iff]; simp))
              · have pr66 : (x.Kind : Int) ≠ 4 := ne_of_beq_false h66
                refine C_skip ?_
                refine x_blk ?_
                refine x_then ?_
                refine C_seq ?_
                refine C_reg ?_
                refine p1 rfl ?_
                refine D_end ?_
                refine x_then ?_
                refine C_ret ?_
                refine R_1 rfl rfl fun w' hs => ⟨congrArg (fun z => Ending.returned (Value.bool z)) ?_, hs.bel⟩
                show (false : Bool) = isEventB x
                unfold isEventB; simp_all; try (first | omega | (rw [Bool.eq_iff_iff]; simp))
            · have pr65 : (x.Kind : Int) ≠ 4 := ne_of_beq_false h65
              refine C_reg ?_
              refine p1 rfl <| p1 rfl ?_
              refine D_end ?_
              refine x_then ?_
              refine C_if _ rfl (fun h68 => ?_) (fun h68 => ?_)
              · have pr68 : (x.Kind : Int) = 5 := eq_of_beq h68
                refine C_seq ?_
                refine C_reg ?_
                refine q1 rfl (D_fb f_31_1 rfl rfl (q := 1) rfl) ?_
                refine q1 rfl (lb 0 o_9 rfl rfl rfl rfl) ?_
                refine li rfl (cv b_23 rfl rfl rfl rfl (fun w' hs => (impl_IsName w' x.Rule)) ?_)
                refine p1 rfl ?_
                refine gs 43 rfl rfl (fun h69 => ?_) (fun h69 => ?_)
                · refine q1 rfl (D_fb f_31_2 rfl rfl (q := 2) rfl) ?_
                  refine q1 rfl (lba (es := [(.string x.Fact.Rel), u1]) 0 a_29 rfl rfl rfl rfl) ?_
                  refine li rfl (cv b_22 rfl rfl rfl rfl (fun w' hs => (impl_IsFact w' [(.string x.Fact.Rel), u1] x.Fact (rd_at hs hb4))) ?_)
                  refine p1 rfl <| p1 rfl ?_
                  refine D_end ?_
                  refine x_then ?_
                  refine D_weak [(2, (.bool (isFactB x.Fact)))] ⟨rfl, trivial⟩ ?_
                  refine D_sel (H' := []) [false] rfl ?_
                  refine C_ret ?_
                  refine x_blk_ret ?_
                  refine x_then_ret ?_
                  refine R_1 rfl rfl fun w' hs => ⟨congrArg (fun z => Ending.returned (Value.bool z)) ?_, hs.bel⟩
                  show ((isFactB x.Fact) : Bool) = isEventB x
                  unfold isEventB; simp_all; try (first | omega | (rw [Bool.eq_iff_iff]; simp))
                · refine n1 rfl ?_
                  refine n1 rfl ?_
                  refine n1 rfl ?_
                  refine p1 rfl <| p1 rfl ?_
                  refine D_end ?_
                  refine x_then ?_
                  refine D_weak [(2, (.bool false))] ⟨rfl, trivial⟩ ?_
                  refine D_sel (H' := []) [false] rfl ?_
                  refine C_ret ?_
                  refine x_blk_ret ?_
                  refine x_then_ret ?_
                  refine R_1 rfl rfl fun w' hs => ⟨congrArg (fun z => Ending.returned (Value.bool z)) ?_, hs.bel⟩
                  show (false : Bool) = isEventB x
                  unfold isEventB; simp_all; try (first | omega | (rw [Bool.eq_iff_iff]; simp))
              · have pr68 : (x.Kind : Int) ≠ 5 := ne_of_beq_false h68
                refine C_skip ?_
                refine x_blk ?_
                refine x_then ?_
                refine C_seq ?_
                refine C_reg ?_
                refine p1 rfl ?_
                refine D_end ?_
                refine x_then ?_
                refine C_ret ?_
                refine R_1 rfl rfl fun w' hs => ⟨congrArg (fun z => Ending.returned (Value.bool z)) ?_, hs.bel⟩
                show (false : Bool) = isEventB x
                unfold isEventB; simp_all; try (first | omega | (rw [Bool.eq_iff_iff]; simp))
        · have pr62 : (x.Kind : Int) ≠ 3 := ne_of_beq_false h62
          refine C_reg ?_
          refine p1 rfl <| p1 rfl ?_
          refine D_end ?_
          refine x_then ?_
          refine C_if _ rfl (fun h70 => ?_) (fun h70 => ?_)
          · have pr70 : (x.Kind : Int) = 6 := eq_of_beq h70
            refine C_seq ?_
            refine C_reg ?_
            refine q1 rfl (D_fb f_31_1 rfl rfl (q := 1) rfl) ?_
            refine q1 rfl (lb 0 o_9 rfl rfl rfl rfl) ?_
            refine li rfl (cv b_23 rfl rfl rfl rfl (fun w' hs => (impl_IsName w' x.Rule)) ?_)
            refine p1 rfl ?_
            refine gs 34 rfl rfl (fun h71 => ?_) (fun h71 => ?_)
            · refine p1 rfl <| p1 rfl <| p1 rfl ?_
              refine D_end ?_
              refine x_then ?_
              refine C_ret ?_
              refine x_blk_ret ?_
              refine x_then_ret ?_
              refine R_1 rfl rfl fun w' hs => ⟨congrArg (fun z => Ending.returned (Value.bool z)) ?_, hs.bel⟩
              show (false : Bool) = isEventB x
              unfold isEventB; simp_all; try (first | omega | (rw [Bool.eq_iff_iff]; simp))
            · refine n1 rfl ?_
              refine p1 rfl <| p1 rfl ?_
              refine D_end ?_
              refine x_then ?_
              refine C_ret ?_
              refine x_blk_ret ?_
              refine x_then_ret ?_
              refine R_1 rfl rfl fun w' hs => ⟨congrArg (fun z => Ending.returned (Value.bool z)) ?_, hs.bel⟩
              show (false : Bool) = isEventB x
              unfold isEventB; simp_all; try (first | omega | (rw [Bool.eq_iff_iff]; simp))
          · have pr70 : (x.Kind : Int) ≠ 6 := ne_of_beq_false h70
            refine C_seq ?_
            refine C_seq ?_
            refine C_reg ?_
            refine p1 rfl <| p1 rfl ?_
            refine D_end ?_
            refine x_then ?_
            refine C_if _ rfl (fun h72 => ?_) (fun h72 => ?_)
            · have pr72 : (x.Kind : Int) = 4 := eq_of_beq h72
              refine C_skip ?_
              refine x_then ?_
              refine C_if _ rfl (fun h73 => ?_) (fun h73 => ?_)
              · have pr73 : (x.Kind : Int) = 4 := eq_of_beq h73
                refine C_seq ?_
                refine C_reg ?_
                refine q1 rfl (D_fb f_31_1 rfl rfl (q := 1) rfl) ?_
                refine q1 rfl (lb 0 o_9 rfl rfl rfl rfl) ?_
                refine li rfl (cv b_23 rfl rfl rfl rfl (fun w' hs => (impl_IsName w' x.Rule)) ?_)
                refine p1 rfl ?_
                refine gs 43 rfl rfl (fun h74 => ?_) (fun h74 => ?_)
                · refine q1 rfl (D_fb f_31_2 rfl rfl (q := 2) rfl) ?_
                  refine q1 rfl (lba (es := [(.string x.Fact.Rel), u1]) 0 a_29 rfl rfl rfl rfl) ?_
                  refine li rfl (cv b_22 rfl rfl rfl rfl (fun w' hs => (impl_IsFact w' [(.string x.Fact.Rel), u1] x.Fact (rd_at hs hb4))) ?_)
                  refine p1 rfl <| p1 rfl ?_
                  refine D_end ?_
                  refine x_then ?_
                  refine D_weak [(2, (.bool (isFactB x.Fact)))] ⟨rfl, trivial⟩ ?_
                  refine D_sel (H' := []) [false] rfl ?_
                  refine C_ret ?_
                  refine x_blk_ret ?_
                  refine x_then_ret ?_
                  refine R_1 rfl rfl fun w' hs => ⟨congrArg (fun z => Ending.returned (Value.bool z)) ?_, hs.bel⟩
                  show ((isFactB x.Fact) : Bool) = isEventB x
                  unfold isEventB; simp_all; try (first | omega | (rw [Bool.eq_iff_iff]; simp))
                · refine n1 rfl ?_
                  refine n1 rfl ?_
                  refine n1 rfl ?_
                  refine p1 rfl <| p1 rfl ?_
                  refine D_end ?_
                  refine x_then ?_
                  refine D_weak [(2, (.bool false))] ⟨rfl, trivial⟩ ?_
                  refine D_sel (H' := []) [false] rfl ?_
                  refine C_ret ?_
                  refine x_blk_ret ?_
                  refine x_then_ret ?_
                  refine R_1 rfl rfl fun w' hs => ⟨congrArg (fun z => Ending.returned (Value.bool z)) ?_, hs.bel⟩
                  show (false : Bool) = isEventB x
                  unfold isEventB; simp_all; try (first | omega | (rw [Bool.eq_iff_iff]; simp))
              · have pr73 : (x.Kind : Int) ≠ 4 := ne_of_beq_false h73
                refine C_skip ?_
                refine x_blk ?_
                refine x_then ?_
                refine C_seq ?_
                refine C_reg ?_
                refine p1 rfl ?_
                refine D_end ?_
                refine x_then ?_
                refine C_ret ?_
                refine R_1 rfl rfl fun w' hs => ⟨congrArg (fun z => Ending.returned (Value.bool z)) ?_, hs.bel⟩
                show (false : Bool) = isEventB x
                unfold isEventB; simp_all; try (first | omega | (rw [Bool.eq_iff_iff]; simp))
            · have pr72 : (x.Kind : Int) ≠ 4 := ne_of_beq_false h72
              refine C_reg ?_
              refine p1 rfl <| p1 rfl ?_
              refine D_end ?_
              refine x_then ?_
              refine C_if _ rfl (fun h75 => ?_) (fun h75 => ?_)
              · have pr75 : (x.Kind : Int) = 5 := eq_of_beq h75
                refine C_seq ?_
                refine C_reg ?_
                refine q1 rfl (D_fb f_31_1 rfl rfl (q := 1) rfl) ?_
                refine q1 rfl (lb 0 o_9 rfl rfl rfl rfl) ?_
                refine li rfl (cv b_23 rfl rfl rfl rfl (fun w' hs => (impl_IsName w' x.Rule)) ?_)
                refine p1 rfl ?_
                refine gs 43 rfl rfl (fun h76 => ?_) (fun h76 => ?_)
                · refine q1 rfl (D_fb f_31_2 rfl rfl (q := 2) rfl) ?_
                  refine q1 rfl (lba (es := [(.string x.Fact.Rel), u1]) 0 a_29 rfl rfl rfl rfl) ?_
                  refine li rfl (cv b_22 rfl rfl rfl rfl (fun w' hs => (impl_IsFact w' [(.string x.Fact.Rel), u1] x.Fact (rd_at hs hb4))) ?_)
                  refine p1 rfl <| p1 rfl ?_
                  refine D_end ?_
                  refine x_then ?_
                  refine D_weak [(2, (.bool (isFactB x.Fact)))] ⟨rfl, trivial⟩ ?_
                  refine D_sel (H' := []) [false] rfl ?_
                  refine C_ret ?_
                  refine x_blk_ret ?_
                  refine x_then_ret ?_
                  refine R_1 rfl rfl fun w' hs => ⟨congrArg (fun z => Ending.returned (Value.bool z)) ?_, hs.bel⟩
                  show ((isFactB x.Fact) : Bool) = isEventB x
                  unfold isEventB; simp_all; try (first | omega | (rw [Bool.eq_iff_iff]; simp))
                · refine n1 rfl ?_
                  refine n1 rfl ?_
                  refine n1 rfl ?_
                  refine p1 rfl <| p1 rfl ?_
                  refine D_end ?_
                  refine x_then ?_
                  refine D_weak [(2, (.bool false))] ⟨rfl, trivial⟩ ?_
                  refine D_sel (H' := []) [false] rfl ?_
                  refine C_ret ?_
                  refine x_blk_ret ?_
                  refine x_then_ret ?_
                  refine R_1 rfl rfl fun w' hs => ⟨congrArg (fun z => Ending.returned (Value.bool z)) ?_, hs.bel⟩
                  show (false : Bool) = isEventB x
                  unfold isEventB; simp_all; try (first | omega | (rw [Bool.eq_iff_iff]; simp))
              · have pr75 : (x.Kind : Int) ≠ 5 := ne_of_beq_false h75
                refine C_skip ?_
                refine x_blk ?_
                refine x_then ?_
                refine C_seq ?_
                refine C_reg ?_
                refine p1 rfl ?_
                refine D_end ?_
                refine x_then ?_
                refine C_ret ?_
                refine R_1 rfl rfl fun w' hs => ⟨congrArg (fun z => Ending.returned (Value.bool z)) ?_, hs.bel⟩
                show (false : Bool) = isEventB x
                unfold isEventB; simp_all; try (first | omega | (rw [Bool.eq_iff_iff]; simp))

set_option maxHeartbeats 4000000 in
theorem spec_IsEvent (w : World) (c_x : List Value) (x : Event) (h_x : Gd.rd w c_x x) (hx0 : okEv x) : Calls Try.prog 7 [(.agg c_x.toArray)].toArray w (Val w (.bool (isEventB x))) := by
  obtain ⟨u1, rfl, hu2⟩ := open_Event h_x
  have hm3 := rd_max hu2
  have hb4 := sub_Event_Fact h_x
  refine enter 48 Try.func7 rfl rfl rfl ?_
  refine C_seq ?_
  refine C_reg ?_
  refine li rfl (D_box rfl rfl rfl rfl rfl fun g5 => ?_)
  refine p1 rfl ?_
  refine D_end ?_
  refine x_then ?_
  refine D_H ([bx g5 [(.int .i64 x.Kind), (.string x.Rule), (.string x.Fact.Rel), u1]]) rfl ?_
  refine C_seq ?_
  refine C_reg ?_
  refine q1 rfl (D_fb f_31_2 rfl rfl (q := 2) rfl) ?_
  refine q1 rfl (D_fb f_29_0 rfl rfl (q := 2) rfl) ?_
  refine q1 rfl (lb 0 o_9 rfl rfl rfl rfl) ?_
  refine q1 rfl (D_eqS rfl rfl rfl) ?_
  refine p1 rfl ?_
  refine gs 8 rfl rfl (fun h6 => ?_) (fun h6 => ?_)
  · have pr6 : (x.Fact.Rel : ByteArray) = ⟨#[]⟩ := of_decide_eq_true h6
    refine q1 rfl (D_fb f_31_2 rfl rfl (q := 2) rfl) ?_
    refine q1 rfl (D_fb f_29_1 rfl rfl (q := 3) rfl) ?_
    refine q1 rfl (lb 0 o_22 rfl rfl rfl rfl) ?_
    refine q1 rfl (D_len s_22 rfl rfl (rd_sl hu2)) ?_
    refine p1 rfl <| p1 rfl <| p1 rfl ?_
    refine D_end ?_
    refine x_then ?_
    refine C_seq ?_
    refine C_seq ?_
    refine C_reg ?_
    refine q1 rfl (D_fb f_31_0 rfl rfl (q := 0) rfl) ?_
    refine q1 rfl (lb 0 o_3 rfl rfl rfl rfl) ?_
    refine D_end ?_
    refine x_then ?_
    refine C_block ?_
    refine C_seq ?_
    refine C_seq ?_
    refine C_reg ?_
    refine p1 rfl <| p1 rfl ?_
    refine D_end ?_
    refine x_then ?_
    refine D_weak [(1, (.pointer (some ⟨g5, 0, none⟩))), (3, (.bool ((((x.Fact.Args.length : Nat) : Int) : Int) == 0))), (16, (.int .i64 x.Kind)), (17, (.bool ((x.Kind : Int) == 1)))] ⟨rfl, rfl, rfl, rfl, trivial⟩ ?_
    refine C_if _ rfl (fun h7 => ?_) (fun h7 => ?_)
    · have pr7 : (x.Kind : Int) = 1 := eq_of_beq h7
      refine C_skip ?_
      refine x_then ?_
      refine C_if _ rfl (fun h8 => ?_) (fun h8 => ?_)
      · have pr8 : (x.Kind : Int) = 1 := eq_of_beq h8
        refine C_seq ?_
        refine C_reg ?_
        refine q1 rfl (D_fb f_31_1 rfl rfl (q := 1) rfl) ?_
        refine q1 rfl (lb 0 o_9 rfl rfl rfl rfl) ?_
        refine q1 rfl (D_eqS rfl rfl rfl) ?_
        refine p1 rfl ?_
        refine gs 23 rfl rfl (fun h9 => ?_) (fun h9 => ?_)
        · have pr9 : (x.Rule : ByteArray) = ⟨#[]⟩ := of_decide_eq_true h9
          refine q1 rfl (D_fb f_31_2 rfl rfl (q := 2) rfl) ?_
          refine q1 rfl (lba (es := [(.string x.Fact.Rel), u1]) 0 a_29 rfl rfl rfl rfl) ?_
          refine li rfl (cv b_19 rfl rfl rfl rfl (fun w' hs => (spec_IsFact w' [(.string x.Fact.Rel), u1] x.Fact (rd_at hs hb4) hx0.2.2)) ?_)
          refine p1 rfl <| p1 rfl ?_
          refine D_end ?_
          refine x_then ?_
          refine C_ret ?_
          refine x_blk_ret ?_
          refine x_then_ret ?_
          refine R_1 rfl rfl fun w' hs => ⟨congrArg (fun z => Ending.returned (Value.bool z)) ?_, hs.bel⟩
          show ((isFactB x.Fact) : Bool) = isEventB x
          unfold isEventB; simp_all; try (first | omega | (rw [Bool.eq_iff_iff]; simp))
        · have pr9 : ¬ (x.Rule : ByteArray) = ⟨#[]⟩ := of_decide_eq_false h9
          refine n1 rfl ?_
          refine n1 rfl ?_
          refine n1 rfl ?_
          refine p1 rfl <| p1 rfl ?_
          refine D_end ?_
          refine x_then ?_
          refine C_ret ?_
          refine x_blk_ret ?_
          refine x_then_ret ?_
          refine R_1 rfl rfl fun w' hs => ⟨congrArg (fun z => Ending.returned (Value.bool z)) ?_, hs.bel⟩
          show (false : Bool) = isEventB x
          unfold isEventB; simp_all; try (first | omega | (rw [Bool.eq_iff_iff]; simp))
      · have pr8 : (x.Kind : Int) ≠ 1 := ne_of_beq_false h8
        refine C_seq ?_
        refine C_seq ?_
        refine C_reg ?_
        refine p1 rfl <| p1 rfl ?_
        refine D_end ?_
        refine x_then ?_
        refine C_if _ rfl (fun h10 => ?_) (fun h10 => ?_)
        · have pr10 : (x.Kind : Int) = 3 := eq_of_beq h10
          refine C_skip ?_
          refine x_then ?_
          refine C_if _ rfl (fun h11 => ?_) (fun h11 => ?_)
          · have pr11 : (x.Kind : Int) = 3 := eq_of_beq h11
            refine C_seq ?_
            refine C_reg ?_
            refine q1 rfl (D_fb f_31_1 rfl rfl (q := 1) rfl) ?_
            refine q1 rfl (lb 0 o_9 rfl rfl rfl rfl) ?_
            refine li rfl (cv b_20 rfl rfl rfl rfl (fun w' hs => (spec_IsName w' x.Rule hx0.2.1)) ?_)
            refine p1 rfl ?_
            refine gs 34 rfl rfl (fun h12 => ?_) (fun h12 => ?_)
            · refine p1 rfl <| p1 rfl <| p1 rfl ?_
              refine D_end ?_
              refine x_then ?_
              refine C_ret ?_
              refine x_blk_ret ?_
              refine x_then_ret ?_
              refine R_1 rfl rfl fun w' hs => ⟨congrArg (fun z => Ending.returned (Value.bool z)) ?_, hs.bel⟩
              show (((((x.Fact.Args.length : Nat) : Int) : Int) == 0) : Bool) = isEventB x
              unfold isEventB; simp_all; try (first | omega | (rw [Bool.eq_iff_iff]; simp))
            · refine n1 rfl ?_
              refine p1 rfl <| p1 rfl ?_
              refine D_end ?_
              refine x_then ?_
              refine C_ret ?_
              refine x_blk_ret ?_
              refine x_then_ret ?_
              refine R_1 rfl rfl fun w' hs => ⟨congrArg (fun z => Ending.returned (Value.bool z)) ?_, hs.bel⟩
              show (false : Bool) = isEventB x
              unfold isEventB; simp_all; try (first | omega | (rw [Bool.eq_iff_iff]; simp))
          · have pr11 : (x.Kind : Int) ≠ 3 := ne_of_beq_false h11
            refine C_seq ?_
            refine C_seq ?_
            refine C_reg ?_
            refine p1 rfl <| p1 rfl ?_
            refine D_end ?_
            refine x_then ?_
            refine C_if _ rfl (fun h13 => ?_) (fun h13 => ?_)
            · have pr13 : (x.Kind : Int) = 4 := eq_of_beq h13
              refine C_skip ?_
              refine x_then ?_
              refine C_if _ rfl (fun h14 => ?_) (fun h14 => ?_)
              · have pr14 : (x.Kind : Int) = 4 := eq_of_beq h14
                refine C_seq ?_
                refine C_reg ?_
                refine q1 rfl (D_fb f_31_1 rfl rfl (q := 1) rfl) ?_
                refine q1 rfl (lb 0 o_9 rfl rfl rfl rfl) ?_
                refine li rfl (cv b_20 rfl rfl rfl rfl (fun w' hs => (spec_IsName w' x.Rule hx0.2.1)) ?_)
                refine p1 rfl ?_
                refine gs 43 rfl rfl (fun h15 => ?_) (fun h15 => ?_)
                · refine q1 rfl (D_fb f_31_2 rfl rfl (q := 2) rfl) ?_
                  refine q1 rfl (lba (es := [(.string x.Fact.Rel), u1]) 0 a_29 rfl rfl rfl rfl) ?_
                  refine li rfl (cv b_19 rfl rfl rfl rfl (fun w' hs => (spec_IsFact w' [(.string x.Fact.Rel), u1] x.Fact (rd_at hs hb4) hx0.2.2)) ?_)
                  refine p1 rfl <| p1 rfl ?_
                  refine D_end ?_
                  refine x_then ?_
                  refine D_weak [(2, (.bool (isFactB x.Fact)))] ⟨rfl, trivial⟩ ?_
                  refine D_sel (H' := []) [false] rfl ?_
                  refine C_ret ?_
                  refine x_blk_ret ?_
                  refine x_then_ret ?_
                  refine R_1 rfl rfl fun w' hs => ⟨congrArg (fun z => Ending.returned (Value.bool z)) ?_, hs.bel⟩
                  show ((isFactB x.Fact) : Bool) = isEventB x
                  unfold isEventB; simp_all; try (first | omega | (rw [Bool.eq_iff_iff]; simp))
                · refine n1 rfl ?_
                  refine n1 rfl ?_
                  refine n1 rfl ?_
                  refine p1 rfl <| p1 rfl ?_
                  refine D_end ?_
                  refine x_then ?_
                  refine D_weak [(2, (.bool false))] ⟨rfl, trivial⟩ ?_
                  refine D_sel (H' := []) [false] rfl ?_
                  refine C_ret ?_
                  refine x_blk_ret ?_
                  refine x_then_ret ?_
                  refine R_1 rfl rfl fun w' hs => ⟨congrArg (fun z => Ending.returned (Value.bool z)) ?_, hs.bel⟩
                  show (false : Bool) = isEventB x
                  unfold isEventB; simp_all; try (first | omega | (rw [Bool.eq_iff_iff]; simp))
              · have pr14 : (x.Kind : Int) ≠ 4 := ne_of_beq_false h14
                refine C_skip ?_
                refine x_blk ?_
                refine x_then ?_
                refine C_seq ?_
                refine C_reg ?_
                refine p1 rfl ?_
                refine D_end ?_
                refine x_then ?_
                refine C_ret ?_
                refine R_1 rfl rfl fun w' hs => ⟨congrArg (fun z => Ending.returned (Value.bool z)) ?_, hs.bel⟩
                show (false : Bool) = isEventB x
                unfold isEventB; simp_all; try (first | omega | (rw [Bool.eq_iff_iff]; simp))
            · have pr13 : (x.Kind : Int) ≠ 4 := ne_of_beq_false h13
              refine C_reg ?_
              refine p1 rfl <| p1 rfl ?_
              refine D_end ?_
              refine x_then ?_
              refine C_if _ rfl (fun h16 => ?_) (fun h16 => ?_)
              · have pr16 : (x.Kind : Int) = 5 := eq_of_beq h16
                refine C_seq ?_
                refine C_reg ?_
                refine q1 rfl (D_fb f_31_1 rfl rfl (q := 1) rfl) ?_
                refine q1 rfl (lb 0 o_9 rfl rfl rfl rfl) ?_
                refine li rfl (cv b_20 rfl rfl rfl rfl (fun w' hs => (spec_IsName w' x.Rule hx0.2.1)) ?_)
                refine p1 rfl ?_
                refine gs 43 rfl rfl (fun h17 => ?_) (fun h17 => ?_)
                · refine q1 rfl (D_fb f_31_2 rfl rfl (q := 2) rfl) ?_
                  refine q1 rfl (lba (es := [(.string x.Fact.Rel), u1]) 0 a_29 rfl rfl rfl rfl) ?_
                  refine li rfl (cv b_19 rfl rfl rfl rfl (fun w' hs => (spec_IsFact w' [(.string x.Fact.Rel), u1] x.Fact (rd_at hs hb4) hx0.2.2)) ?_)
                  refine p1 rfl <| p1 rfl ?_
                  refine D_end ?_
                  refine x_then ?_
                  refine D_weak [(2, (.bool (isFactB x.Fact)))] ⟨rfl, trivial⟩ ?_
                  refine D_sel (H' := []) [false] rfl ?_
                  refine C_ret ?_
                  refine x_blk_ret ?_
                  refine x_then_ret ?_
                  refine R_1 rfl rfl fun w' hs => ⟨congrArg (fun z => Ending.returned (Value.bool z)) ?_, hs.bel⟩
                  show ((isFactB x.Fact) : Bool) = isEventB x
                  unfold isEventB; simp_all; try (first | omega | (rw [Bool.eq_iff_iff]; simp))
                · refine n1 rfl ?_
                  refine n1 rfl ?_
                  refine n1 rfl ?_
                  refine p1 rfl <| p1 rfl ?_
                  refine D_end ?_
                  refine x_then ?_
                  refine D_weak [(2, (.bool false))] ⟨rfl, trivial⟩ ?_
                  refine D_sel (H' := []) [false] rfl ?_
                  refine C_ret ?_
                  refine x_blk_ret ?_
                  refine x_then_ret ?_
                  refine R_1 rfl rfl fun w' hs => ⟨congrArg (fun z => Ending.returned (Value.bool z)) ?_, hs.bel⟩
                  show (false : Bool) = isEventB x
                  unfold isEventB; simp_all; try (first | omega | (rw [Bool.eq_iff_iff]; simp))
              · have pr16 : (x.Kind : Int) ≠ 5 := ne_of_beq_false h16
                refine C_skip ?_
                refine x_blk ?_
                refine x_then ?_
                refine C_seq ?_
                refine C_reg ?_
                refine p1 rfl ?_
                refine D_end ?_
                refine x_then ?_
                refine C_ret ?_
                refine R_1 rfl rfl fun w' hs => ⟨congrArg (fun z => Ending.returned (Value.bool z)) ?_, hs.bel⟩
                show (false : Bool) = isEventB x
                unfold isEventB; simp_all; try (first | omega | (rw [Bool.eq_iff_iff]; simp))
        · have pr10 : (x.Kind : Int) ≠ 3 := ne_of_beq_false h10
          refine C_reg ?_
          refine p1 rfl <| p1 rfl ?_
          refine D_end ?_
          refine x_then ?_
          refine C_if _ rfl (fun h18 => ?_) (fun h18 => ?_)
          · have pr18 : (x.Kind : Int) = 6 := eq_of_beq h18
            refine C_seq ?_
            refine C_reg ?_
            refine q1 rfl (D_fb f_31_1 rfl rfl (q := 1) rfl) ?_
            refine q1 rfl (lb 0 o_9 rfl rfl rfl rfl) ?_
            refine li rfl (cv b_20 rfl rfl rfl rfl (fun w' hs => (spec_IsName w' x.Rule hx0.2.1)) ?_)
            refine p1 rfl ?_
            refine gs 34 rfl rfl (fun h19 => ?_) (fun h19 => ?_)
            · refine p1 rfl <| p1 rfl <| p1 rfl ?_
              refine D_end ?_
              refine x_then ?_
              refine C_ret ?_
              refine x_blk_ret ?_
              refine x_then_ret ?_
              refine R_1 rfl rfl fun w' hs => ⟨congrArg (fun z => Ending.returned (Value.bool z)) ?_, hs.bel⟩
              show (((((x.Fact.Args.length : Nat) : Int) : Int) == 0) : Bool) = isEventB x
              unfold isEventB; simp_all; try (first | omega | (rw [Bool.eq_iff_iff]; simp))
            · refine n1 rfl ?_
              refine p1 rfl <| p1 rfl ?_
              refine D_end ?_
              refine x_then ?_
              refine C_ret ?_
              refine x_blk_ret ?_
              refine x_then_ret ?_
              refine R_1 rfl rfl fun w' hs => ⟨congrArg (fun z => Ending.returned (Value.bool z)) ?_, hs.bel⟩
              show (false : Bool) = isEventB x
              unfold isEventB; simp_all; try (first | omega | (rw [Bool.eq_iff_iff]; simp))
          · have pr18 : (x.Kind : Int) ≠ 6 := ne_of_beq_false h18
            refine C_seq ?_
            refine C_seq ?_
            refine C_reg ?_
            refine p1 rfl <| p1 rfl ?_
            refine D_end ?_
            refine x_then ?_
            refine C_if _ rfl (fun h20 => ?_) (fun h20 => ?_)
            · have pr20 : (x.Kind : Int) = 4 := eq_of_beq h20
              refine C_skip ?_
              refine x_then ?_
              refine C_if _ rfl (fun h21 => ?_) (fun h21 => ?_)
              · have pr21 : (x.Kind : Int) = 4 := eq_of_beq h21
                refine C_seq ?_
                refine C_reg ?_
                refine q1 rfl (D_fb f_31_1 rfl rfl (q := 1) rfl) ?_
                refine q1 rfl (lb 0 o_9 rfl rfl rfl rfl) ?_
                refine li rfl (cv b_20 rfl rfl rfl rfl (fun w' hs => (spec_IsName w' x.Rule hx0.2.1)) ?_)
                refine p1 rfl ?_
                refine gs 43 rfl rfl (fun h22 => ?_) (fun h22 => ?_)
                · refine q1 rfl (D_fb f_31_2 rfl rfl (q := 2) rfl) ?_
                  refine q1 rfl (lba (es := [(.string x.Fact.Rel), u1]) 0 a_29 rfl rfl rfl rfl) ?_
                  refine li rfl (cv b_19 rfl rfl rfl rfl (fun w' hs => (spec_IsFact w' [(.string x.Fact.Rel), u1] x.Fact (rd_at hs hb4) hx0.2.2)) ?_)
                  refine p1 rfl <| p1 rfl ?_
                  refine D_end ?_
                  refine x_then ?_
                  refine D_weak [(2, (.bool (isFactB x.Fact)))] ⟨rfl, trivial⟩ ?_
                  refine D_sel (H' := []) [false] rfl ?_
                  refine C_ret ?_
                  refine x_blk_ret ?_
                  refine x_then_ret ?_
                  refine R_1 rfl rfl fun w' hs => ⟨congrArg (fun z => Ending.returned (Value.bool z)) ?_, hs.bel⟩
                  show ((isFactB x.Fact) : Bool) = isEventB x
                  unfold isEventB; simp_all; try (first | omega | (rw [Bool.eq_iff_iff]; simp))
                · refine n1 rfl ?_
                  refine n1 rfl ?_
                  refine n1 rfl ?_
                  refine p1 rfl <| p1 rfl ?_
                  refine D_end ?_
                  refine x_then ?_
                  refine D_weak [(2, (.bool false))] ⟨rfl, trivial⟩ ?_
                  refine D_sel (H' := []) [false] rfl ?_
                  refine C_ret ?_
                  refine x_blk_ret ?_
                  refine x_then_ret ?_
                  refine R_1 rfl rfl fun w' hs => ⟨congrArg (fun z => Ending.returned (Value.bool z)) ?_, hs.bel⟩
                  show (false : Bool) = isEventB x
                  unfold isEventB; simp_all; try (first | omega | (rw [Bool.eq_iff_iff]; simp))
              · have pr21 : (x.Kind : Int) ≠ 4 := ne_of_beq_false h21
                refine C_skip ?_
                refine x_blk ?_
                refine x_then ?_
                refine C_seq ?_
                refine C_reg ?_
                refine p1 rfl ?_
                refine D_end ?_
                refine x_then ?_
                refine C_ret ?_
                refine R_1 rfl rfl fun w' hs => ⟨congrArg (fun z => Ending.returned (Value.bool z)) ?_, hs.bel⟩
                show (false : Bool) = isEventB x
                unfold isEventB; simp_all; try (first | omega | (rw [Bool.eq_iff_iff]; simp))
            · have pr20 : (x.Kind : Int) ≠ 4 := ne_of_beq_false h20
              refine C_reg ?_
              refine p1 rfl <| p1 rfl ?_
              refine D_end ?_
              refine x_then ?_
              refine C_if _ rfl (fun h23 => ?_) (fun h23 => ?_)
              · have pr23 : (x.Kind : Int) = 5 := eq_of_beq h23
                refine C_seq ?_
                refine C_reg ?_
                refine q1 rfl (D_fb f_31_1 rfl rfl (q := 1) rfl) ?_
                refine q1 rfl (lb 0 o_9 rfl rfl rfl rfl) ?_
                refine li rfl (cv b_20 rfl rfl rfl rfl (fun w' hs => (spec_IsName w' x.Rule hx0.2.1)) ?_)
                refine p1 rfl ?_
                refine gs 43 rfl rfl (fun h24 => ?_) (fun h24 => ?_)
                · refine q1 rfl (D_fb f_31_2 rfl rfl (q := 2) rfl) ?_
                  refine q1 rfl (lba (es := [(.string x.Fact.Rel), u1]) 0 a_29 rfl rfl rfl rfl) ?_
                  refine li rfl (cv b_19 rfl rfl rfl rfl (fun w' hs => (spec_IsFact w' [(.string x.Fact.Rel), u1] x.Fact (rd_at hs hb4) hx0.2.2)) ?_)
                  refine p1 rfl <| p1 rfl ?_
                  refine D_end ?_
                  refine x_then ?_
                  refine D_weak [(2, (.bool (isFactB x.Fact)))] ⟨rfl, trivial⟩ ?_
                  refine D_sel (H' := []) [false] rfl ?_
                  refine C_ret ?_
                  refine x_blk_ret ?_
                  refine x_then_ret ?_
                  refine R_1 rfl rfl fun w' hs => ⟨congrArg (fun z => Ending.returned (Value.bool z)) ?_, hs.bel⟩
                  show ((isFactB x.Fact) : Bool) = isEventB x
                  unfold isEventB; simp_all; try (first | omega | (rw [Bool.eq_iff_iff]; simp))
                · refine n1 rfl ?_
                  refine n1 rfl ?_
                  refine n1 rfl ?_
                  refine p1 rfl <| p1 rfl ?_
                  refine D_end ?_
                  refine x_then ?_
                  refine D_weak [(2, (.bool false))] ⟨rfl, trivial⟩ ?_
                  refine D_sel (H' := []) [false] rfl ?_
                  refine C_ret ?_
                  refine x_blk_ret ?_
                  refine x_then_ret ?_
                  refine R_1 rfl rfl fun w' hs => ⟨congrArg (fun z => Ending.returned (Value.bool z)) ?_, hs.bel⟩
                  show (false : Bool) = isEventB x
                  unfold isEventB; simp_all; try (first | omega | (rw [Bool.eq_iff_iff]; simp))
              · have pr23 : (x.Kind : Int) ≠ 5 := ne_of_beq_false h23
                refine C_skip ?_
                refine x_blk ?_
                refine x_then ?_
                refine C_seq ?_
                refine C_reg ?_
                refine p1 rfl ?_
                refine D_end ?_
                refine x_then ?_
                refine C_ret ?_
                refine R_1 rfl rfl fun w' hs => ⟨congrArg (fun z => Ending.returned (Value.bool z)) ?_, hs.bel⟩
                show (false : Bool) = isEventB x
                unfold isEventB; simp_all; try (first | omega | (rw [Bool.eq_iff_iff]; simp))
    · have pr7 : (x.Kind : Int) ≠ 1 := ne_of_beq_false h7
      refine C_reg ?_
      refine p1 rfl <| p1 rfl ?_
      refine D_end ?_
      refine x_then ?_
      refine C_if _ rfl (fun h25 => ?_) (fun h25 => ?_)
      · have pr25 : (x.Kind : Int) = 2 := eq_of_beq h25
        refine C_seq ?_
        refine C_reg ?_
        refine q1 rfl (D_fb f_31_1 rfl rfl (q := 1) rfl) ?_
        refine q1 rfl (lb 0 o_9 rfl rfl rfl rfl) ?_
        refine q1 rfl (D_eqS rfl rfl rfl) ?_
        refine p1 rfl ?_
        refine gs 23 rfl rfl (fun h26 => ?_) (fun h26 => ?_)
        · have pr26 : (x.Rule : ByteArray) = ⟨#[]⟩ := of_decide_eq_true h26
          refine q1 rfl (D_fb f_31_2 rfl rfl (q := 2) rfl) ?_
          refine q1 rfl (lba (es := [(.string x.Fact.Rel), u1]) 0 a_29 rfl rfl rfl rfl) ?_
          refine li rfl (cv b_19 rfl rfl rfl rfl (fun w' hs => (spec_IsFact w' [(.string x.Fact.Rel), u1] x.Fact (rd_at hs hb4) hx0.2.2)) ?_)
          refine p1 rfl <| p1 rfl ?_
          refine D_end ?_
          refine x_then ?_
          refine C_ret ?_
          refine x_blk_ret ?_
          refine x_then_ret ?_
          refine R_1 rfl rfl fun w' hs => ⟨congrArg (fun z => Ending.returned (Value.bool z)) ?_, hs.bel⟩
          show ((isFactB x.Fact) : Bool) = isEventB x
          unfold isEventB; simp_all; try (first | omega | (rw [Bool.eq_iff_iff]; simp))
        · have pr26 : ¬ (x.Rule : ByteArray) = ⟨#[]⟩ := of_decide_eq_false h26
          refine n1 rfl ?_
          refine n1 rfl ?_
          refine n1 rfl ?_
          refine p1 rfl <| p1 rfl ?_
          refine D_end ?_
          refine x_then ?_
          refine C_ret ?_
          refine x_blk_ret ?_
          refine x_then_ret ?_
          refine R_1 rfl rfl fun w' hs => ⟨congrArg (fun z => Ending.returned (Value.bool z)) ?_, hs.bel⟩
          show (false : Bool) = isEventB x
          unfold isEventB; simp_all; try (first | omega | (rw [Bool.eq_iff_iff]; simp))
      · have pr25 : (x.Kind : Int) ≠ 2 := ne_of_beq_false h25
        refine C_seq ?_
        refine C_seq ?_
        refine C_reg ?_
        refine p1 rfl <| p1 rfl ?_
        refine D_end ?_
        refine x_then ?_
        refine C_if _ rfl (fun h27 => ?_) (fun h27 => ?_)
        · have pr27 : (x.Kind : Int) = 3 := eq_of_beq h27
          refine C_skip ?_
          refine x_then ?_
          refine C_if _ rfl (fun h28 => ?_) (fun h28 => ?_)
          · have pr28 : (x.Kind : Int) = 3 := eq_of_beq h28
            refine C_seq ?_
            refine C_reg ?_
            refine q1 rfl (D_fb f_31_1 rfl rfl (q := 1) rfl) ?_
            refine q1 rfl (lb 0 o_9 rfl rfl rfl rfl) ?_
            refine li rfl (cv b_20 rfl rfl rfl rfl (fun w' hs => (spec_IsName w' x.Rule hx0.2.1)) ?_)
            refine p1 rfl ?_
            refine gs 34 rfl rfl (fun h29 => ?_) (fun h29 => ?_)
            · refine p1 rfl <| p1 rfl <| p1 rfl ?_
              refine D_end ?_
              refine x_then ?_
              refine C_ret ?_
              refine x_blk_ret ?_
              refine x_then_ret ?_
              refine R_1 rfl rfl fun w' hs => ⟨congrArg (fun z => Ending.returned (Value.bool z)) ?_, hs.bel⟩
              show (((((x.Fact.Args.length : Nat) : Int) : Int) == 0) : Bool) = isEventB x
              unfold isEventB; simp_all; try (first | omega | (rw [Bool.eq_iff_iff]; simp))
            · refine n1 rfl ?_
              refine p1 rfl <| p1 rfl ?_
              refine D_end ?_
              refine x_then ?_
              refine C_ret ?_
              refine x_blk_ret ?_
              refine x_then_ret ?_
              refine R_1 rfl rfl fun w' hs => ⟨congrArg (fun z => Ending.returned (Value.bool z)) ?_, hs.bel⟩
              show (false : Bool) = isEventB x
              unfold isEventB; simp_all; try (first | omega | (rw [Bool.eq_iff_iff]; simp))
          · have pr28 : (x.Kind : Int) ≠ 3 := ne_of_beq_false h28
            refine C_seq ?_
            refine C_seq ?_
            refine C_reg ?_
            refine p1 rfl <| p1 rfl ?_
            refine D_end ?_
            refine x_then ?_
            refine C_if _ rfl (fun h30 => ?_) (fun h30 => ?_)
            · have pr30 : (x.Kind : Int) = 4 := eq_of_beq h30
              refine C_skip ?_
              refine x_then ?_
              refine C_if _ rfl (fun h31 => ?_) (fun h31 => ?_)
              · have pr31 : (x.Kind : Int) = 4 := eq_of_beq h31
                refine C_seq ?_
                refine C_reg ?_
                refine q1 rfl (D_fb f_31_1 rfl rfl (q := 1) rfl) ?_
                refine q1 rfl (lb 0 o_9 rfl rfl rfl rfl) ?_
                refine li rfl (cv b_20 rfl rfl rfl rfl (fun w' hs => (spec_IsName w' x.Rule hx0.2.1)) ?_)
                refine p1 rfl ?_
                refine gs 43 rfl rfl (fun h32 => ?_) (fun h32 => ?_)
                · refine q1 rfl (D_fb f_31_2 rfl rfl (q := 2) rfl) ?_
                  refine q1 rfl (lba (es := [(.string x.Fact.Rel), u1]) 0 a_29 rfl rfl rfl rfl) ?_
                  refine li rfl (cv b_19 rfl rfl rfl rfl (fun w' hs => (spec_IsFact w' [(.string x.Fact.Rel), u1] x.Fact (rd_at hs hb4) hx0.2.2)) ?_)
                  refine p1 rfl <| p1 rfl ?_
                  refine D_end ?_
                  refine x_then ?_
                  refine D_weak [(2, (.bool (isFactB x.Fact)))] ⟨rfl, trivial⟩ ?_
                  refine D_sel (H' := []) [false] rfl ?_
                  refine C_ret ?_
                  refine x_blk_ret ?_
                  refine x_then_ret ?_
                  refine R_1 rfl rfl fun w' hs => ⟨congrArg (fun z => Ending.returned (Value.bool z)) ?_, hs.bel⟩
                  show ((isFactB x.Fact) : Bool) = isEventB x
                  unfold isEventB; simp_all; try (first | omega | (rw [Bool.eq_iff_iff]; simp))
                · refine n1 rfl ?_
                  refine n1 rfl ?_
                  refine n1 rfl ?_
                  refine p1 rfl <| p1 rfl ?_
                  refine D_end ?_
                  refine x_then ?_
                  refine D_weak [(2, (.bool false))] ⟨rfl, trivial⟩ ?_
                  refine D_sel (H' := []) [false] rfl ?_
                  refine C_ret ?_
                  refine x_blk_ret ?_
                  refine x_then_ret ?_
                  refine R_1 rfl rfl fun w' hs => ⟨congrArg (fun z => Ending.returned (Value.bool z)) ?_, hs.bel⟩
                  show (false : Bool) = isEventB x
                  unfold isEventB; simp_all; try (first | omega | (rw [Bool.eq_iff_iff]; simp))
              · have pr31 : (x.Kind : Int) ≠ 4 := ne_of_beq_false h31
                refine C_skip ?_
                refine x_blk ?_
                refine x_then ?_
                refine C_seq ?_
                refine C_reg ?_
                refine p1 rfl ?_
                refine D_end ?_
                refine x_then ?_
                refine C_ret ?_
                refine R_1 rfl rfl fun w' hs => ⟨congrArg (fun z => Ending.returned (Value.bool z)) ?_, hs.bel⟩
                show (false : Bool) = isEventB x
                unfold isEventB; simp_all; try (first | omega | (rw [Bool.eq_iff_iff]; simp))
            · have pr30 : (x.Kind : Int) ≠ 4 := ne_of_beq_false h30
              refine C_reg ?_
              refine p1 rfl <| p1 rfl ?_
              refine D_end ?_
              refine x_then ?_
              refine C_if _ rfl (fun h33 => ?_) (fun h33 => ?_)
              · have pr33 : (x.Kind : Int) = 5 := eq_of_beq h33
                refine C_seq ?_
                refine C_reg ?_
                refine q1 rfl (D_fb f_31_1 rfl rfl (q := 1) rfl) ?_
                refine q1 rfl (lb 0 o_9 rfl rfl rfl rfl) ?_
                refine li rfl (cv b_20 rfl rfl rfl rfl (fun w' hs => (spec_IsName w' x.Rule hx0.2.1)) ?_)
                refine p1 rfl ?_
                refine gs 43 rfl rfl (fun h34 => ?_) (fun h34 => ?_)
                · refine q1 rfl (D_fb f_31_2 rfl rfl (q := 2) rfl) ?_
                  refine q1 rfl (lba (es := [(.string x.Fact.Rel), u1]) 0 a_29 rfl rfl rfl rfl) ?_
                  refine li rfl (cv b_19 rfl rfl rfl rfl (fun w' hs => (spec_IsFact w' [(.string x.Fact.Rel), u1] x.Fact (rd_at hs hb4) hx0.2.2)) ?_)
                  refine p1 rfl <| p1 rfl ?_
                  refine D_end ?_
                  refine x_then ?_
                  refine D_weak [(2, (.bool (isFactB x.Fact)))] ⟨rfl, trivial⟩ ?_
                  refine D_sel (H' := []) [false] rfl ?_
                  refine C_ret ?_
                  refine x_blk_ret ?_
                  refine x_then_ret ?_
                  refine R_1 rfl rfl fun w' hs => ⟨congrArg (fun z => Ending.returned (Value.bool z)) ?_, hs.bel⟩
                  show ((isFactB x.Fact) : Bool) = isEventB x
                  unfold isEventB; simp_all; try (first | omega | (rw [Bool.eq_iff_iff]; simp))
                · refine n1 rfl ?_
                  refine n1 rfl ?_
                  refine n1 rfl ?_
                  refine p1 rfl <| p1 rfl ?_
                  refine D_end ?_
                  refine x_then ?_
                  refine D_weak [(2, (.bool false))] ⟨rfl, trivial⟩ ?_
                  refine D_sel (H' := []) [false] rfl ?_
                  refine C_ret ?_
                  refine x_blk_ret ?_
                  refine x_then_ret ?_
                  refine R_1 rfl rfl fun w' hs => ⟨congrArg (fun z => Ending.returned (Value.bool z)) ?_, hs.bel⟩
                  show (false : Bool) = isEventB x
                  unfold isEventB; simp_all; try (first | omega | (rw [Bool.eq_iff_iff]; simp))
              · have pr33 : (x.Kind : Int) ≠ 5 := ne_of_beq_false h33
                refine C_skip ?_
                refine x_blk ?_
                refine x_then ?_
                refine C_seq ?_
                refine C_reg ?_
                refine p1 rfl ?_
                refine D_end ?_
                refine x_then ?_
                refine C_ret ?_
                refine R_1 rfl rfl fun w' hs => ⟨congrArg (fun z => Ending.returned (Value.bool z)) ?_, hs.bel⟩
                show (false : Bool) = isEventB x
                unfold isEventB; simp_all; try (first | omega | (rw [Bool.eq_iff_iff]; simp))
        · have pr27 : (x.Kind : Int) ≠ 3 := ne_of_beq_false h27
          refine C_reg ?_
          refine p1 rfl <| p1 rfl ?_
          refine D_end ?_
          refine x_then ?_
          refine C_if _ rfl (fun h35 => ?_) (fun h35 => ?_)
          · have pr35 : (x.Kind : Int) = 6 := eq_of_beq h35
            refine C_seq ?_
            refine C_reg ?_
            refine q1 rfl (D_fb f_31_1 rfl rfl (q := 1) rfl) ?_
            refine q1 rfl (lb 0 o_9 rfl rfl rfl rfl) ?_
            refine li rfl (cv b_20 rfl rfl rfl rfl (fun w' hs => (spec_IsName w' x.Rule hx0.2.1)) ?_)
            refine p1 rfl ?_
            refine gs 34 rfl rfl (fun h36 => ?_) (fun h36 => ?_)
            · refine p1 rfl <| p1 rfl <| p1 rfl ?_
              refine D_end ?_
              refine x_then ?_
              refine C_ret ?_
              refine x_blk_ret ?_
              refine x_then_ret ?_
              refine R_1 rfl rfl fun w' hs => ⟨congrArg (fun z => Ending.returned (Value.bool z)) ?_, hs.bel⟩
              show (((((x.Fact.Args.length : Nat) : Int) : Int) == 0) : Bool) = isEventB x
              unfold isEventB; simp_all; try (first | omega | (rw [Bool.eq_iff_iff]; simp))
            · refine n1 rfl ?_
              refine p1 rfl <| p1 rfl ?_
              refine D_end ?_
              refine x_then ?_
              refine C_ret ?_
              refine x_blk_ret ?_
              refine x_then_ret ?_
              refine R_1 rfl rfl fun w' hs => ⟨congrArg (fun z => Ending.returned (Value.bool z)) ?_, hs.bel⟩
              show (false : Bool) = isEventB x
              unfold isEventB; simp_all; try (first | omega | (rw [Bool.eq_iff_iff]; simp))
          · have pr35 : (x.Kind : Int) ≠ 6 := ne_of_beq_false h35
            refine C_seq ?_
            refine C_seq ?_
            refine C_reg ?_
            refine p1 rfl <| p1 rfl ?_
            refine D_end ?_
            refine x_then ?_
            refine C_if _ rfl (fun h37 => ?_) (fun h37 => ?_)
            · have pr37 : (x.Kind : Int) = 4 := eq_of_beq h37
              refine C_skip ?_
              refine x_then ?_
              refine C_if _ rfl (fun h38 => ?_) (fun h38 => ?_)
              · have pr38 : (x.Kind : Int) = 4 := eq_of_beq h38
                refine C_seq ?_
                refine C_reg ?_
                refine q1 rfl (D_fb f_31_1 rfl rfl (q := 1) rfl) ?_
                refine q1 rfl (lb 0 o_9 rfl rfl rfl rfl) ?_
                refine li rfl (cv b_20 rfl rfl rfl rfl (fun w' hs => (spec_IsName w' x.Rule hx0.2.1)) ?_)
                refine p1 rfl ?_
                refine gs 43 rfl rfl (fun h39 => ?_) (fun h39 => ?_)
                · refine q1 rfl (D_fb f_31_2 rfl rfl (q := 2) rfl) ?_
                  refine q1 rfl (lba (es := [(.string x.Fact.Rel), u1]) 0 a_29 rfl rfl rfl rfl) ?_
                  refine li rfl (cv b_19 rfl rfl rfl rfl (fun w' hs => (spec_IsFact w' [(.string x.Fact.Rel), u1] x.Fact (rd_at hs hb4) hx0.2.2)) ?_)
                  refine p1 rfl <| p1 rfl ?_
                  refine D_end ?_
                  refine x_then ?_
                  refine D_weak [(2, (.bool (isFactB x.Fact)))] ⟨rfl, trivial⟩ ?_
                  refine D_sel (H' := []) [false] rfl ?_
                  refine C_ret ?_
                  refine x_blk_ret ?_
                  refine x_then_ret ?_
                  refine R_1 rfl rfl fun w' hs => ⟨congrArg (fun z => Ending.returned (Value.bool z)) ?_, hs.bel⟩
                  show ((isFactB x.Fact) : Bool) = isEventB x
                  unfold isEventB; simp_all; try (first | omega | (rw [Bool.eq_iff_iff]; simp))
                · refine n1 rfl ?_
                  refine n1 rfl ?_
                  refine n1 rfl ?_
                  refine p1 rfl <| p1 rfl ?_
                  refine D_end ?_
                  refine x_then ?_
                  refine D_weak [(2, (.bool false))] ⟨rfl, trivial⟩ ?_
                  refine D_sel (H' := []) [false] rfl ?_
                  refine C_ret ?_
                  refine x_blk_ret ?_
                  refine x_then_ret ?_
                  refine R_1 rfl rfl fun w' hs => ⟨congrArg (fun z => Ending.returned (Value.bool z)) ?_, hs.bel⟩
                  show (false : Bool) = isEventB x
                  unfold isEventB; simp_all; try (first | omega | (rw [Bool.eq_iff_iff]; simp))
              · have pr38 : (x.Kind : Int) ≠ 4 := ne_of_beq_false h38
                refine C_skip ?_
                refine x_blk ?_
                refine x_then ?_
                refine C_seq ?_
                refine C_reg ?_
                refine p1 rfl ?_
                refine D_end ?_
                refine x_then ?_
                refine C_ret ?_
                refine R_1 rfl rfl fun w' hs => ⟨congrArg (fun z => Ending.returned (Value.bool z)) ?_, hs.bel⟩
                show (false : Bool) = isEventB x
                unfold isEventB; simp_all; try (first | omega | (rw [Bool.eq_iff_iff]; simp))
            · have pr37 : (x.Kind : Int) ≠ 4 := ne_of_beq_false h37
              refine C_reg ?_
              refine p1 rfl <| p1 rfl ?_
              refine D_end ?_
              refine x_then ?_
              refine C_if _ rfl (fun h40 => ?_) (fun h40 => ?_)
              · have pr40 : (x.Kind : Int) = 5 := eq_of_beq h40
                refine C_seq ?_
                refine C_reg ?_
                refine q1 rfl (D_fb f_31_1 rfl rfl (q := 1) rfl) ?_
                refine q1 rfl (lb 0 o_9 rfl rfl rfl rfl) ?_
                refine li rfl (cv b_20 rfl rfl rfl rfl (fun w' hs => (spec_IsName w' x.Rule hx0.2.1)) ?_)
                refine p1 rfl ?_
                refine gs 43 rfl rfl (fun h41 => ?_) (fun h41 => ?_)
                · refine q1 rfl (D_fb f_31_2 rfl rfl (q := 2) rfl) ?_
                  refine q1 rfl (lba (es := [(.string x.Fact.Rel), u1]) 0 a_29 rfl rfl rfl rfl) ?_
                  refine li rfl (cv b_19 rfl rfl rfl rfl (fun w' hs => (spec_IsFact w' [(.string x.Fact.Rel), u1] x.Fact (rd_at hs hb4) hx0.2.2)) ?_)
                  refine p1 rfl <| p1 rfl ?_
                  refine D_end ?_
                  refine x_then ?_
                  refine D_weak [(2, (.bool (isFactB x.Fact)))] ⟨rfl, trivial⟩ ?_
                  refine D_sel (H' := []) [false] rfl ?_
                  refine C_ret ?_
                  refine x_blk_ret ?_
                  refine x_then_ret ?_
                  refine R_1 rfl rfl fun w' hs => ⟨congrArg (fun z => Ending.returned (Value.bool z)) ?_, hs.bel⟩
                  show ((isFactB x.Fact) : Bool) = isEventB x
                  unfold isEventB; simp_all; try (first | omega | (rw [Bool.eq_iff_iff]; simp))
                · refine n1 rfl ?_
                  refine n1 rfl ?_
                  refine n1 rfl ?_
                  refine p1 rfl <| p1 rfl ?_
                  refine D_end ?_
                  refine x_then ?_
                  refine D_weak [(2, (.bool false))] ⟨rfl, trivial⟩ ?_
                  refine D_sel (H' := []) [false] rfl ?_
                  refine C_ret ?_
                  refine x_blk_ret ?_
                  refine x_then_ret ?_
                  refine R_1 rfl rfl fun w' hs => ⟨congrArg (fun z => Ending.returned (Value.bool z)) ?_, hs.bel⟩
                  show (false : Bool) = isEventB x
                  unfold isEventB; simp_all; try (first | omega | (rw [Bool.eq_iff_iff]; simp))
              · have pr40 : (x.Kind : Int) ≠ 5 := ne_of_beq_false h40
                refine C_skip ?_
                refine x_blk ?_
                refine x_then ?_
                refine C_seq ?_
                refine C_reg ?_
                refine p1 rfl ?_
                refine D_end ?_
                refine x_then ?_
                refine C_ret ?_
                refine R_1 rfl rfl fun w' hs => ⟨congrArg (fun z => Ending.returned (Value.bool z)) ?_, hs.bel⟩
                show (false : Bool) = isEventB x
                unfold isEventB; simp_all; try (first | omega | (rw [Bool.eq_iff_iff]; simp))
  · have pr6 : ¬ (x.Fact.Rel : ByteArray) = ⟨#[]⟩ := of_decide_eq_false h6
    refine n1 rfl ?_
    refine n1 rfl ?_
    refine n1 rfl ?_
    refine n1 rfl ?_
    refine n1 rfl ?_
    refine p1 rfl <| p1 rfl ?_
    refine D_end ?_
    refine x_then ?_
    refine C_seq ?_
    refine C_seq ?_
    refine C_reg ?_
    refine q1 rfl (D_fb f_31_0 rfl rfl (q := 0) rfl) ?_
    refine q1 rfl (lb 0 o_3 rfl rfl rfl rfl) ?_
    refine D_end ?_
    refine x_then ?_
    refine C_block ?_
    refine C_seq ?_
    refine C_seq ?_
    refine C_reg ?_
    refine p1 rfl <| p1 rfl ?_
    refine D_end ?_
    refine x_then ?_
    refine D_weak [(1, (.pointer (some ⟨g5, 0, none⟩))), (3, (.bool false)), (16, (.int .i64 x.Kind)), (17, (.bool ((x.Kind : Int) == 1)))] ⟨rfl, rfl, rfl, rfl, trivial⟩ ?_
    refine C_if _ rfl (fun h42 => ?_) (fun h42 => ?_)
    · have pr42 : (x.Kind : Int) = 1 := eq_of_beq h42
      refine C_skip ?_
      refine x_then ?_
      refine C_if _ rfl (fun h43 => ?_) (fun h43 => ?_)
      · have pr43 : (x.Kind : Int) = 1 := eq_of_beq h43
        refine C_seq ?_
        refine C_reg ?_
        refine q1 rfl (D_fb f_31_1 rfl rfl (q := 1) rfl) ?_
        refine q1 rfl (lb 0 o_9 rfl rfl rfl rfl) ?_
        refine q1 rfl (D_eqS rfl rfl rfl) ?_
        refine p1 rfl ?_
        refine gs 23 rfl rfl (fun h44 => ?_) (fun h44 => ?_)
        · have pr44 : (x.Rule : ByteArray) = ⟨#[]⟩ := of_decide_eq_true h44
          refine q1 rfl (D_fb f_31_2 rfl rfl (q := 2) rfl) ?_
          refine q1 rfl (lba (es := [(.string x.Fact.Rel), u1]) 0 a_29 rfl rfl rfl rfl) ?_
          refine li rfl (cv b_19 rfl rfl rfl rfl (fun w' hs => (spec_IsFact w' [(.string x.Fact.Rel), u1] x.Fact (rd_at hs hb4) hx0.2.2)) ?_)
          refine p1 rfl <| p1 rfl ?_
          refine D_end ?_
          refine x_then ?_
          refine C_ret ?_
          refine x_blk_ret ?_
          refine x_then_ret ?_
          refine R_1 rfl rfl fun w' hs => ⟨congrArg (fun z => Ending.returned (Value.bool z)) ?_, hs.bel⟩
          show ((isFactB x.Fact) : Bool) = isEventB x
          unfold isEventB; simp_all; try (first | omega | (rw [Bool.eq_iff_iff]; simp))
        · have pr44 : ¬ (x.Rule : ByteArray) = ⟨#[]⟩ := of_decide_eq_false h44
          refine n1 rfl ?_
          refine n1 rfl ?_
          refine n1 rfl ?_
          refine p1 rfl <| p1 rfl ?_
          refine D_end ?_
          refine x_then ?_
          refine C_ret ?_
          refine x_blk_ret ?_
          refine x_then_ret ?_
          refine R_1 rfl rfl fun w' hs => ⟨congrArg (fun z => Ending.returned (Value.bool z)) ?_, hs.bel⟩
          show (false : Bool) = isEventB x
          unfold isEventB; simp_all; try (first | omega | (rw [Bool.eq_iff_iff]; simp))
      · have pr43 : (x.Kind : Int) ≠ 1 := ne_of_beq_false h43
        refine C_seq ?_
        refine C_seq ?_
        refine C_reg ?_
        refine p1 rfl <| p1 rfl ?_
        refine D_end ?_
        refine x_then ?_
        refine C_if _ rfl (fun h45 => ?_) (fun h45 => ?_)
        · have pr45 : (x.Kind : Int) = 3 := eq_of_beq h45
          refine C_skip ?_
          refine x_then ?_
          refine C_if _ rfl (fun h46 => ?_) (fun h46 => ?_)
          · have pr46 : (x.Kind : Int) = 3 := eq_of_beq h46
            refine C_seq ?_
            refine C_reg ?_
            refine q1 rfl (D_fb f_31_1 rfl rfl (q := 1) rfl) ?_
            refine q1 rfl (lb 0 o_9 rfl rfl rfl rfl) ?_
            refine li rfl (cv b_20 rfl rfl rfl rfl (fun w' hs => (spec_IsName w' x.Rule hx0.2.1)) ?_)
            refine p1 rfl ?_
            refine gs 34 rfl rfl (fun h47 => ?_) (fun h47 => ?_)
            · refine p1 rfl <| p1 rfl <| p1 rfl ?_
              refine D_end ?_
              refine x_then ?_
              refine C_ret ?_
              refine x_blk_ret ?_
              refine x_then_ret ?_
              refine R_1 rfl rfl fun w' hs => ⟨congrArg (fun z => Ending.returned (Value.bool z)) ?_, hs.bel⟩
              show (false : Bool) = isEventB x
              unfold isEventB; simp_all; try (first | omega | (rw [Bool.eq_iff_iff]; simp))
            · refine n1 rfl ?_
              refine p1 rfl <| p1 rfl ?_
              refine D_end ?_
              refine x_then ?_
              refine C_ret ?_
              refine x_blk_ret ?_
              refine x_then_ret ?_
              refine R_1 rfl rfl fun w' hs => ⟨congrArg (fun z => Ending.returned (Value.bool z)) ?_, hs.bel⟩
              show (false : Bool) = isEventB x
              unfold isEventB; simp_all; try (first | omega | (rw [Bool.eq_iff_iff]; simp))
          · have pr46 : (x.Kind : Int) ≠ 3 := ne_of_beq_false h46
            refine C_seq ?_
            refine C_seq ?_
            refine C_reg ?_
            refine p1 rfl <| p1 rfl ?_
            refine D_end ?_
            refine x_then ?_
            refine C_if _ rfl (fun h48 => ?_) (fun h48 => ?_)
            · have pr48 : (x.Kind : Int) = 4 := eq_of_beq h48
              refine C_skip ?_
              refine x_then ?_
              refine C_if _ rfl (fun h49 => ?_) (fun h49 => ?_)
              · have pr49 : (x.Kind : Int) = 4 := eq_of_beq h49
                refine C_seq ?_
                refine C_reg ?_
                refine q1 rfl (D_fb f_31_1 rfl rfl (q := 1) rfl) ?_
                refine q1 rfl (lb 0 o_9 rfl rfl rfl rfl) ?_
                refine li rfl (cv b_20 rfl rfl rfl rfl (fun w' hs => (spec_IsName w' x.Rule hx0.2.1)) ?_)
                refine p1 rfl ?_
                refine gs 43 rfl rfl (fun h50 => ?_) (fun h50 => ?_)
                · refine q1 rfl (D_fb f_31_2 rfl rfl (q := 2) rfl) ?_
                  refine q1 rfl (lba (es := [(.string x.Fact.Rel), u1]) 0 a_29 rfl rfl rfl rfl) ?_
                  refine li rfl (cv b_19 rfl rfl rfl rfl (fun w' hs => (spec_IsFact w' [(.string x.Fact.Rel), u1] x.Fact (rd_at hs hb4) hx0.2.2)) ?_)
                  refine p1 rfl <| p1 rfl ?_
                  refine D_end ?_
                  refine x_then ?_
                  refine D_weak [(2, (.bool (isFactB x.Fact)))] ⟨rfl, trivial⟩ ?_
                  refine D_sel (H' := []) [false] rfl ?_
                  refine C_ret ?_
                  refine x_blk_ret ?_
                  refine x_then_ret ?_
                  refine R_1 rfl rfl fun w' hs => ⟨congrArg (fun z => Ending.returned (Value.bool z)) ?_, hs.bel⟩
                  show ((isFactB x.Fact) : Bool) = isEventB x
                  unfold isEventB; simp_all; try (first | omega | (rw [Bool.eq_iff_iff]; simp))
                · refine n1 rfl ?_
                  refine n1 rfl ?_
                  refine n1 rfl ?_
                  refine p1 rfl <| p1 rfl ?_
                  refine D_end ?_
                  refine x_then ?_
                  refine D_weak [(2, (.bool false))] ⟨rfl, trivial⟩ ?_
                  refine D_sel (H' := []) [false] rfl ?_
                  refine C_ret ?_
                  refine x_blk_ret ?_
                  refine x_then_ret ?_
                  refine R_1 rfl rfl fun w' hs => ⟨congrArg (fun z => Ending.returned (Value.bool z)) ?_, hs.bel⟩
                  show (false : Bool) = isEventB x
                  unfold isEventB; simp_all; try (first | omega | (rw [Bool.eq_iff_iff]; simp))
              · have pr49 : (x.Kind : Int) ≠ 4 := ne_of_beq_false h49
                refine C_skip ?_
                refine x_blk ?_
                refine x_then ?_
                refine C_seq ?_
                refine C_reg ?_
                refine p1 rfl ?_
                refine D_end ?_
                refine x_then ?_
                refine C_ret ?_
                refine R_1 rfl rfl fun w' hs => ⟨congrArg (fun z => Ending.returned (Value.bool z)) ?_, hs.bel⟩
                show (false : Bool) = isEventB x
                unfold isEventB; simp_all; try (first | omega | (rw [Bool.eq_iff_iff]; simp))
            · have pr48 : (x.Kind : Int) ≠ 4 := ne_of_beq_false h48
              refine C_reg ?_
              refine p1 rfl <| p1 rfl ?_
              refine D_end ?_
              refine x_then ?_
              refine C_if _ rfl (fun h51 => ?_) (fun h51 => ?_)
              · have pr51 : (x.Kind : Int) = 5 := eq_of_beq h51
                refine C_seq ?_
                refine C_reg ?_
                refine q1 rfl (D_fb f_31_1 rfl rfl (q := 1) rfl) ?_
                refine q1 rfl (lb 0 o_9 rfl rfl rfl rfl) ?_
                refine li rfl (cv b_20 rfl rfl rfl rfl (fun w' hs => (spec_IsName w' x.Rule hx0.2.1)) ?_)
                refine p1 rfl ?_
                refine gs 43 rfl rfl (fun h52 => ?_) (fun h52 => ?_)
                · refine q1 rfl (D_fb f_31_2 rfl rfl (q := 2) rfl) ?_
                  refine q1 rfl (lba (es := [(.string x.Fact.Rel), u1]) 0 a_29 rfl rfl rfl rfl) ?_
                  refine li rfl (cv b_19 rfl rfl rfl rfl (fun w' hs => (spec_IsFact w' [(.string x.Fact.Rel), u1] x.Fact (rd_at hs hb4) hx0.2.2)) ?_)
                  refine p1 rfl <| p1 rfl ?_
                  refine D_end ?_
                  refine x_then ?_
                  refine D_weak [(2, (.bool (isFactB x.Fact)))] ⟨rfl, trivial⟩ ?_
                  refine D_sel (H' := []) [false] rfl ?_
                  refine C_ret ?_
                  refine x_blk_ret ?_
                  refine x_then_ret ?_
                  refine R_1 rfl rfl fun w' hs => ⟨congrArg (fun z => Ending.returned (Value.bool z)) ?_, hs.bel⟩
                  show ((isFactB x.Fact) : Bool) = isEventB x
                  unfold isEventB; simp_all; try (first | omega | (rw [Bool.eq_iff_iff]; simp))
                · refine n1 rfl ?_
                  refine n1 rfl ?_
                  refine n1 rfl ?_
                  refine p1 rfl <| p1 rfl ?_
                  refine D_end ?_
                  refine x_then ?_
                  refine D_weak [(2, (.bool false))] ⟨rfl, trivial⟩ ?_
                  refine D_sel (H' := []) [false] rfl ?_
                  refine C_ret ?_
                  refine x_blk_ret ?_
                  refine x_then_ret ?_
                  refine R_1 rfl rfl fun w' hs => ⟨congrArg (fun z => Ending.returned (Value.bool z)) ?_, hs.bel⟩
                  show (false : Bool) = isEventB x
                  unfold isEventB; simp_all; try (first | omega | (rw [Bool.eq_iff_iff]; simp))
              · have pr51 : (x.Kind : Int) ≠ 5 := ne_of_beq_false h51
                refine C_skip ?_
                refine x_blk ?_
                refine x_then ?_
                refine C_seq ?_
                refine C_reg ?_
                refine p1 rfl ?_
                refine D_end ?_
                refine x_then ?_
                refine C_ret ?_
                refine R_1 rfl rfl fun w' hs => ⟨congrArg (fun z => Ending.returned (Value.bool z)) ?_, hs.bel⟩
                show (false : Bool) = isEventB x
                unfold isEventB; simp_all; try (first | omega | (rw [Bool.eq_iff_iff]; simp))
        · have pr45 : (x.Kind : Int) ≠ 3 := ne_of_beq_false h45
          refine C_reg ?_
          refine p1 rfl <| p1 rfl ?_
          refine D_end ?_
          refine x_then ?_
          refine C_if _ rfl (fun h53 => ?_) (fun h53 => ?_)
          · have pr53 : (x.Kind : Int) = 6 := eq_of_beq h53
            refine C_seq ?_
            refine C_reg ?_
            refine q1 rfl (D_fb f_31_1 rfl rfl (q := 1) rfl) ?_
            refine q1 rfl (lb 0 o_9 rfl rfl rfl rfl) ?_
            refine li rfl (cv b_20 rfl rfl rfl rfl (fun w' hs => (spec_IsName w' x.Rule hx0.2.1)) ?_)
            refine p1 rfl ?_
            refine gs 34 rfl rfl (fun h54 => ?_) (fun h54 => ?_)
            · refine p1 rfl <| p1 rfl <| p1 rfl ?_
              refine D_end ?_
              refine x_then ?_
              refine C_ret ?_
              refine x_blk_ret ?_
              refine x_then_ret ?_
              refine R_1 rfl rfl fun w' hs => ⟨congrArg (fun z => Ending.returned (Value.bool z)) ?_, hs.bel⟩
              show (false : Bool) = isEventB x
              unfold isEventB; simp_all; try (first | omega | (rw [Bool.eq_iff_iff]; simp))
            · refine n1 rfl ?_
              refine p1 rfl <| p1 rfl ?_
              refine D_end ?_
              refine x_then ?_
              refine C_ret ?_
              refine x_blk_ret ?_
              refine x_then_ret ?_
              refine R_1 rfl rfl fun w' hs => ⟨congrArg (fun z => Ending.returned (Value.bool z)) ?_, hs.bel⟩
              show (false : Bool) = isEventB x
              unfold isEventB; simp_all; try (first | omega | (rw [Bool.eq_iff_iff]; simp))
          · have pr53 : (x.Kind : Int) ≠ 6 := ne_of_beq_false h53
            refine C_seq ?_
            refine C_seq ?_
            refine C_reg ?_
            refine p1 rfl <| p1 rfl ?_
            refine D_end ?_
            refine x_then ?_
            refine C_if _ rfl (fun h55 => ?_) (fun h55 => ?_)
            · have pr55 : (x.Kind : Int) = 4 := eq_of_beq h55
              refine C_skip ?_
              refine x_then ?_
              refine C_if _ rfl (fun h56 => ?_) (fun h56 => ?_)
              · have pr56 : (x.Kind : Int) = 4 := eq_of_beq h56
                refine C_seq ?_
                refine C_reg ?_
                refine q1 rfl (D_fb f_31_1 rfl rfl (q := 1) rfl) ?_
                refine q1 rfl (lb 0 o_9 rfl rfl rfl rfl) ?_
                refine li rfl (cv b_20 rfl rfl rfl rfl (fun w' hs => (spec_IsName w' x.Rule hx0.2.1)) ?_)
                refine p1 rfl ?_
                refine gs 43 rfl rfl (fun h57 => ?_) (fun h57 => ?_)
                · refine q1 rfl (D_fb f_31_2 rfl rfl (q := 2) rfl) ?_
                  refine q1 rfl (lba (es := [(.string x.Fact.Rel), u1]) 0 a_29 rfl rfl rfl rfl) ?_
                  refine li rfl (cv b_19 rfl rfl rfl rfl (fun w' hs => (spec_IsFact w' [(.string x.Fact.Rel), u1] x.Fact (rd_at hs hb4) hx0.2.2)) ?_)
                  refine p1 rfl <| p1 rfl ?_
                  refine D_end ?_
                  refine x_then ?_
                  refine D_weak [(2, (.bool (isFactB x.Fact)))] ⟨rfl, trivial⟩ ?_
                  refine D_sel (H' := []) [false] rfl ?_
                  refine C_ret ?_
                  refine x_blk_ret ?_
                  refine x_then_ret ?_
                  refine R_1 rfl rfl fun w' hs => ⟨congrArg (fun z => Ending.returned (Value.bool z)) ?_, hs.bel⟩
                  show ((isFactB x.Fact) : Bool) = isEventB x
                  unfold isEventB; simp_all; try (first | omega | (rw [Bool.eq_iff_iff]; simp))
                · refine n1 rfl ?_
                  refine n1 rfl ?_
                  refine n1 rfl ?_
                  refine p1 rfl <| p1 rfl ?_
                  refine D_end ?_
                  refine x_then ?_
                  refine D_weak [(2, (.bool false))] ⟨rfl, trivial⟩ ?_
                  refine D_sel (H' := []) [false] rfl ?_
                  refine C_ret ?_
                  refine x_blk_ret ?_
                  refine x_then_ret ?_
                  refine R_1 rfl rfl fun w' hs => ⟨congrArg (fun z => Ending.returned (Value.bool z)) ?_, hs.bel⟩
                  show (false : Bool) = isEventB x
                  unfold isEventB; simp_all; try (first | omega | (rw [Bool.eq_iff_iff]; simp))
              · have pr56 : (x.Kind : Int) ≠ 4 := ne_of_beq_false h56
                refine C_skip ?_
                refine x_blk ?_
                refine x_then ?_
                refine C_seq ?_
                refine C_reg ?_
                refine p1 rfl ?_
                refine D_end ?_
                refine x_then ?_
                refine C_ret ?_
                refine R_1 rfl rfl fun w' hs => ⟨congrArg (fun z => Ending.returned (Value.bool z)) ?_, hs.bel⟩
                show (false : Bool) = isEventB x
                unfold isEventB; simp_all; try (first | omega | (rw [Bool.eq_iff_iff]; simp))
            · have pr55 : (x.Kind : Int) ≠ 4 := ne_of_beq_false h55
              refine C_reg ?_
              refine p1 rfl <| p1 rfl ?_
              refine D_end ?_
              refine x_then ?_
              refine C_if _ rfl (fun h58 => ?_) (fun h58 => ?_)
              · have pr58 : (x.Kind : Int) = 5 := eq_of_beq h58
                refine C_seq ?_
                refine C_reg ?_
                refine q1 rfl (D_fb f_31_1 rfl rfl (q := 1) rfl) ?_
                refine q1 rfl (lb 0 o_9 rfl rfl rfl rfl) ?_
                refine li rfl (cv b_20 rfl rfl rfl rfl (fun w' hs => (spec_IsName w' x.Rule hx0.2.1)) ?_)
                refine p1 rfl ?_
                refine gs 43 rfl rfl (fun h59 => ?_) (fun h59 => ?_)
                · refine q1 rfl (D_fb f_31_2 rfl rfl (q := 2) rfl) ?_
                  refine q1 rfl (lba (es := [(.string x.Fact.Rel), u1]) 0 a_29 rfl rfl rfl rfl) ?_
                  refine li rfl (cv b_19 rfl rfl rfl rfl (fun w' hs => (spec_IsFact w' [(.string x.Fact.Rel), u1] x.Fact (rd_at hs hb4) hx0.2.2)) ?_)
                  refine p1 rfl <| p1 rfl ?_
                  refine D_end ?_
                  refine x_then ?_
                  refine D_weak [(2, (.bool (isFactB x.Fact)))] ⟨rfl, trivial⟩ ?_
                  refine D_sel (H' := []) [false] rfl ?_
                  refine C_ret ?_
                  refine x_blk_ret ?_
                  refine x_then_ret ?_
                  refine R_1 rfl rfl fun w' hs => ⟨congrArg (fun z => Ending.returned (Value.bool z)) ?_, hs.bel⟩
                  show ((isFactB x.Fact) : Bool) = isEventB x
                  unfold isEventB; simp_all; try (first | omega | (rw [Bool.eq_iff_iff]; simp))
                · refine n1 rfl ?_
                  refine n1 rfl ?_
                  refine n1 rfl ?_
                  refine p1 rfl <| p1 rfl ?_
                  refine D_end ?_
                  refine x_then ?_
                  refine D_weak [(2, (.bool false))] ⟨rfl, trivial⟩ ?_
                  refine D_sel (H' := []) [false] rfl ?_
                  refine C_ret ?_
                  refine x_blk_ret ?_
                  refine x_then_ret ?_
                  refine R_1 rfl rfl fun w' hs => ⟨congrArg (fun z => Ending.returned (Value.bool z)) ?_, hs.bel⟩
                  show (false : Bool) = isEventB x
                  unfold isEventB; simp_all; try (first | omega | (rw [Bool.eq_iff_iff]; simp))
              · have pr58 : (x.Kind : Int) ≠ 5 := ne_of_beq_false h58
                refine C_skip ?_
                refine x_blk ?_
                refine x_then ?_
                refine C_seq ?_
                refine C_reg ?_
                refine p1 rfl ?_
                refine D_end ?_
                refine x_then ?_
                refine C_ret ?_
                refine R_1 rfl rfl fun w' hs => ⟨congrArg (fun z => Ending.returned (Value.bool z)) ?_, hs.bel⟩
                show (false : Bool) = isEventB x
                unfold isEventB; simp_all; try (first | omega | (rw [Bool.eq_iff_iff]; simp))
    · have pr42 : (x.Kind : Int) ≠ 1 := ne_of_beq_false h42
      refine C_reg ?_
      refine p1 rfl <| p1 rfl ?_
      refine D_end ?_
      refine x_then ?_
      refine C_if _ rfl (fun h60 => ?_) (fun h60 => ?_)
      · have pr60 : (x.Kind : Int) = 2 := eq_of_beq h60
        refine C_seq ?_
        refine C_reg ?_
        refine q1 rfl (D_fb f_31_1 rfl rfl (q := 1) rfl) ?_
        refine q1 rfl (lb 0 o_9 rfl rfl rfl rfl) ?_
        refine q1 rfl (D_eqS rfl rfl rfl) ?_
        refine p1 rfl ?_
        refine gs 23 rfl rfl (fun h61 => ?_) (fun h61 => ?_)
        · have pr61 : (x.Rule : ByteArray) = ⟨#[]⟩ := of_decide_eq_true h61
          refine q1 rfl (D_fb f_31_2 rfl rfl (q := 2) rfl) ?_
          refine q1 rfl (lba (es := [(.string x.Fact.Rel), u1]) 0 a_29 rfl rfl rfl rfl) ?_
          refine li rfl (cv b_19 rfl rfl rfl rfl (fun w' hs => (spec_IsFact w' [(.string x.Fact.Rel), u1] x.Fact (rd_at hs hb4) hx0.2.2)) ?_)
          refine p1 rfl <| p1 rfl ?_
          refine D_end ?_
          refine x_then ?_
          refine C_ret ?_
          refine x_blk_ret ?_
          refine x_then_ret ?_
          refine R_1 rfl rfl fun w' hs => ⟨congrArg (fun z => Ending.returned (Value.bool z)) ?_, hs.bel⟩
          show ((isFactB x.Fact) : Bool) = isEventB x
          unfold isEventB; simp_all; try (first | omega | (rw [Bool.eq_iff_iff]; simp))
        · have pr61 : ¬ (x.Rule : ByteArray) = ⟨#[]⟩ := of_decide_eq_false h61
          refine n1 rfl ?_
          refine n1 rfl ?_
          refine n1 rfl ?_
          refine p1 rfl <| p1 rfl ?_
          refine D_end ?_
          refine x_then ?_
          refine C_ret ?_
          refine x_blk_ret ?_
          refine x_then_ret ?_
          refine R_1 rfl rfl fun w' hs => ⟨congrArg (fun z => Ending.returned (Value.bool z)) ?_, hs.bel⟩
          show (false : Bool) = isEventB x
          unfold isEventB; simp_all; try (first | omega | (rw [Bool.eq_iff_iff]; simp))
      · have pr60 : (x.Kind : Int) ≠ 2 := ne_of_beq_false h60
        refine C_seq ?_
        refine C_seq ?_
        refine C_reg ?_
        refine p1 rfl <| p1 rfl ?_
        refine D_end ?_
        refine x_then ?_
        refine C_if _ rfl (fun h62 => ?_) (fun h62 => ?_)
        · have pr62 : (x.Kind : Int) = 3 := eq_of_beq h62
          refine C_skip ?_
          refine x_then ?_
          refine C_if _ rfl (fun h63 => ?_) (fun h63 => ?_)
          · have pr63 : (x.Kind : Int) = 3 := eq_of_beq h63
            refine C_seq ?_
            refine C_reg ?_
            refine q1 rfl (D_fb f_31_1 rfl rfl (q := 1) rfl) ?_
            refine q1 rfl (lb 0 o_9 rfl rfl rfl rfl) ?_
            refine li rfl (cv b_20 rfl rfl rfl rfl (fun w' hs => (spec_IsName w' x.Rule hx0.2.1)) ?_)
            refine p1 rfl ?_
            refine gs 34 rfl rfl (fun h64 => ?_) (fun h64 => ?_)
            · refine p1 rfl <| p1 rfl <| p1 rfl ?_
              refine D_end ?_
              refine x_then ?_
              refine C_ret ?_
              refine x_blk_ret ?_
              refine x_then_ret ?_
              refine R_1 rfl rfl fun w' hs => ⟨congrArg (fun z => Ending.returned (Value.bool z)) ?_, hs.bel⟩
              show (false : Bool) = isEventB x
              unfold isEventB; simp_all; try (first | omega | (rw [Bool.eq_iff_iff]; simp))
            · refine n1 rfl ?_
              refine p1 rfl <| p1 rfl ?_
              refine D_end ?_
              refine x_then ?_
              refine C_ret ?_
              refine x_blk_ret ?_
              refine x_then_ret ?_
              refine R_1 rfl rfl fun w' hs => ⟨congrArg (fun z => Ending.returned (Value.bool z)) ?_, hs.bel⟩
              show (false : Bool) = isEventB x
              unfold isEventB; simp_all; try (first | omega | (rw [Bool.eq_iff_iff]; simp))
          · have pr63 : (x.Kind : Int) ≠ 3 := ne_of_beq_false h63
            refine C_seq ?_
            refine C_seq ?_
            refine C_reg ?_
            refine p1 rfl <| p1 rfl ?_
            refine D_end ?_
            refine x_then ?_
            refine C_if _ rfl (fun h65 => ?_) (fun h65 => ?_)
            · have pr65 : (x.Kind : Int) = 4 := eq_of_beq h65
              refine C_skip ?_
              refine x_then ?_
              refine C_if _ rfl (fun h66 => ?_) (fun h66 => ?_)
              · have pr66 : (x.Kind : Int) = 4 := eq_of_beq h66
                refine C_seq ?_
                refine C_reg ?_
                refine q1 rfl (D_fb f_31_1 rfl rfl (q := 1) rfl) ?_
                refine q1 rfl (lb 0 o_9 rfl rfl rfl rfl) ?_
                refine li rfl (cv b_20 rfl rfl rfl rfl (fun w' hs => (spec_IsName w' x.Rule hx0.2.1)) ?_)
                refine p1 rfl ?_
                refine gs 43 rfl rfl (fun h67 => ?_) (fun h67 => ?_)
                · refine q1 rfl (D_fb f_31_2 rfl rfl (q := 2) rfl) ?_
                  refine q1 rfl (lba (es := [(.string x.Fact.Rel), u1]) 0 a_29 rfl rfl rfl rfl) ?_
                  refine li rfl (cv b_19 rfl rfl rfl rfl (fun w' hs => (spec_IsFact w' [(.string x.Fact.Rel), u1] x.Fact (rd_at hs hb4) hx0.2.2)) ?_)
                  refine p1 rfl <| p1 rfl ?_
                  refine D_end ?_
                  refine x_then ?_
                  refine D_weak [(2, (.bool (isFactB x.Fact)))] ⟨rfl, trivial⟩ ?_
                  refine D_sel (H' := []) [false] rfl ?_
                  refine C_ret ?_
                  refine x_blk_ret ?_
                  refine x_then_ret ?_
                  refine R_1 rfl rfl fun w' hs => ⟨congrArg (fun z => Ending.returned (Value.bool z)) ?_, hs.bel⟩
                  show ((isFactB x.Fact) : Bool) = isEventB x
                  unfold isEventB; simp_all; try (first | omega | (rw [Bool.eq_iff_iff]; simp))
                · refine n1 rfl ?_
                  refine n1 rfl ?_
                  refine n1 rfl ?_
                  refine p1 rfl <| p1 rfl ?_
                  refine D_end ?_
                  refine x_then ?_
                  refine D_weak [(2, (.bool false))] ⟨rfl, trivial⟩ ?_
                  refine D_sel (H' := []) [false] rfl ?_
                  refine C_ret ?_
                  refine x_blk_ret ?_
                  refine x_then_ret ?_
                  refine R_1 rfl rfl fun w' hs => ⟨congrArg (fun z => Ending.returned (Value.bool z)) ?_, hs.bel⟩
                  show (false : Bool) = isEventB x
                  unfold isEventB; simp_all; try (first | omega | (rw [Bool.eq_iff_iff]; simp))
              · have pr66 : (x.Kind : Int) ≠ 4 := ne_of_beq_false h66
                refine C_skip ?_
                refine x_blk ?_
                refine x_then ?_
                refine C_seq ?_
                refine C_reg ?_
                refine p1 rfl ?_
                refine D_end ?_
                refine x_then ?_
                refine C_ret ?_
                refine R_1 rfl rfl fun w' hs => ⟨congrArg (fun z => Ending.returned (Value.bool z)) ?_, hs.bel⟩
                show (false : Bool) = isEventB x
                unfold isEventB; simp_all; try (first | omega | (rw [Bool.eq_iff_iff]; simp))
            · have pr65 : (x.Kind : Int) ≠ 4 := ne_of_beq_false h65
              refine C_reg ?_
              refine p1 rfl <| p1 rfl ?_
              refine D_end ?_
              refine x_then ?_
              refine C_if _ rfl (fun h68 => ?_) (fun h68 => ?_)
              · have pr68 : (x.Kind : Int) = 5 := eq_of_beq h68
                refine C_seq ?_
                refine C_reg ?_
                refine q1 rfl (D_fb f_31_1 rfl rfl (q := 1) rfl) ?_
                refine q1 rfl (lb 0 o_9 rfl rfl rfl rfl) ?_
                refine li rfl (cv b_20 rfl rfl rfl rfl (fun w' hs => (spec_IsName w' x.Rule hx0.2.1)) ?_)
                refine p1 rfl ?_
                refine gs 43 rfl rfl (fun h69 => ?_) (fun h69 => ?_)
                · refine q1 rfl (D_fb f_31_2 rfl rfl (q := 2) rfl) ?_
                  refine q1 rfl (lba (es := [(.string x.Fact.Rel), u1]) 0 a_29 rfl rfl rfl rfl) ?_
                  refine li rfl (cv b_19 rfl rfl rfl rfl (fun w' hs => (spec_IsFact w' [(.string x.Fact.Rel), u1] x.Fact (rd_at hs hb4) hx0.2.2)) ?_)
                  refine p1 rfl <| p1 rfl ?_
                  refine D_end ?_
                  refine x_then ?_
                  refine D_weak [(2, (.bool (isFactB x.Fact)))] ⟨rfl, trivial⟩ ?_
                  refine D_sel (H' := []) [false] rfl ?_
                  refine C_ret ?_
                  refine x_blk_ret ?_
                  refine x_then_ret ?_
                  refine R_1 rfl rfl fun w' hs => ⟨congrArg (fun z => Ending.returned (Value.bool z)) ?_, hs.bel⟩
                  show ((isFactB x.Fact) : Bool) = isEventB x
                  unfold isEventB; simp_all; try (first | omega | (rw [Bool.eq_iff_iff]; simp))
                · refine n1 rfl ?_
                  refine n1 rfl ?_
                  refine n1 rfl ?_
                  refine p1 rfl <| p1 rfl ?_
                  refine D_end ?_
                  refine x_then ?_
                  refine D_weak [(2, (.bool false))] ⟨rfl, trivial⟩ ?_
                  refine D_sel (H' := []) [false] rfl ?_
                  refine C_ret ?_
                  refine x_blk_ret ?_
                  refine x_then_ret ?_
                  refine R_1 rfl rfl fun w' hs => ⟨congrArg (fun z => Ending.returned (Value.bool z)) ?_, hs.bel⟩
                  show (false : Bool) = isEventB x
                  unfold isEventB; simp_all; try (first | omega | (rw [Bool.eq_iff_iff]; simp))
              · have pr68 : (x.Kind : Int) ≠ 5 := ne_of_beq_false h68
                refine C_skip ?_
                refine x_blk ?_
                refine x_then ?_
                refine C_seq ?_
                refine C_reg ?_
                refine p1 rfl ?_
                refine D_end ?_
                refine x_then ?_
                refine C_ret ?_
                refine R_1 rfl rfl fun w' hs => ⟨congrArg (fun z => Ending.returned (Value.bool z)) ?_, hs.bel⟩
                show (false : Bool) = isEventB x
                unfold isEventB; simp_all; try (first | omega | (rw [Bool.eq_iff_iff]; simp))
        · have pr62 : (x.Kind : Int) ≠ 3 := ne_of_beq_false h62
          refine C_reg ?_
          refine p1 rfl <| p1 rfl ?_
          refine D_end ?_
          refine x_then ?_
          refine C_if _ rfl (fun h70 => ?_) (fun h70 => ?_)
          · have pr70 : (x.Kind : Int) = 6 := eq_of_beq h70
            refine C_seq ?_
            refine C_reg ?_
            refine q1 rfl (D_fb f_31_1 rfl rfl (q := 1) rfl) ?_
            refine q1 rfl (lb 0 o_9 rfl rfl rfl rfl) ?_
            refine li rfl (cv b_20 rfl rfl rfl rfl (fun w' hs => (spec_IsName w' x.Rule hx0.2.1)) ?_)
            refine p1 rfl ?_
            refine gs 34 rfl rfl (fun h71 => ?_) (fun h71 => ?_)
            · refine p1 rfl <| p1 rfl <| p1 rfl ?_
              refine D_end ?_
              refine x_then ?_
              refine C_ret ?_
              refine x_blk_ret ?_
              refine x_then_ret ?_
              refine R_1 rfl rfl fun w' hs => ⟨congrArg (fun z => Ending.returned (Value.bool z)) ?_, hs.bel⟩
              show (false : Bool) = isEventB x
              unfold isEventB; simp_all; try (first | omega | (rw [Bool.eq_iff_iff]; simp))
            · refine n1 rfl ?_
              refine p1 rfl <| p1 rfl ?_
              refine D_end ?_
              refine x_then ?_
              refine C_ret ?_
              refine x_blk_ret ?_
              refine x_then_ret ?_
              refine R_1 rfl rfl fun w' hs => ⟨congrArg (fun z => Ending.returned (Value.bool z)) ?_, hs.bel⟩
              show (false : Bool) = isEventB x
              unfold isEventB; simp_all; try (first | omega | (rw [Bool.eq_iff_iff]; simp))
          · have pr70 : (x.Kind : Int) ≠ 6 := ne_of_beq_false h70
            refine C_seq ?_
            refine C_seq ?_
            refine C_reg ?_
            refine p1 rfl <| p1 rfl ?_
            refine D_end ?_
            refine x_then ?_
            refine C_if _ rfl (fun h72 => ?_) (fun h72 => ?_)
            · have pr72 : (x.Kind : Int) = 4 := eq_of_beq h72
              refine C_skip ?_
              refine x_then ?_
              refine C_if _ rfl (fun h73 => ?_) (fun h73 => ?_)
              · have pr73 : (x.Kind : Int) = 4 := eq_of_beq h73
                refine C_seq ?_
                refine C_reg ?_
                refine q1 rfl (D_fb f_31_1 rfl rfl (q := 1) rfl) ?_
                refine q1 rfl (lb 0 o_9 rfl rfl rfl rfl) ?_
                refine li rfl (cv b_20 rfl rfl rfl rfl (fun w' hs => (spec_IsName w' x.Rule hx0.2.1)) ?_)
                refine p1 rfl ?_
                refine gs 43 rfl rfl (fun h74 => ?_) (fun h74 => ?_)
                · refine q1 rfl (D_fb f_31_2 rfl rfl (q := 2) rfl) ?_
                  refine q1 rfl (lba (es := [(.string x.Fact.Rel), u1]) 0 a_29 rfl rfl rfl rfl) ?_
                  refine li rfl (cv b_19 rfl rfl rfl rfl (fun w' hs => (spec_IsFact w' [(.string x.Fact.Rel), u1] x.Fact (rd_at hs hb4) hx0.2.2)) ?_)
                  refine p1 rfl <| p1 rfl ?_
                  refine D_end ?_
                  refine x_then ?_
                  refine D_weak [(2, (.bool (isFactB x.Fact)))] ⟨rfl, trivial⟩ ?_
                  refine D_sel (H' := []) [false] rfl ?_
                  refine C_ret ?_
                  refine x_blk_ret ?_
                  refine x_then_ret ?_
                  refine R_1 rfl rfl fun w' hs => ⟨congrArg (fun z => Ending.returned (Value.bool z)) ?_, hs.bel⟩
                  show ((isFactB x.Fact) : Bool) = isEventB x
                  unfold isEventB; simp_all; try (first | omega | (rw [Bool.eq_iff_iff]; simp))
                · refine n1 rfl ?_
                  refine n1 rfl ?_
                  refine n1 rfl ?_
                  refine p1 rfl <| p1 rfl ?_
                  refine D_end ?_
                  refine x_then ?_
                  refine D_weak [(2, (.bool false))] ⟨rfl, trivial⟩ ?_
                  refine D_sel (H' := []) [false] rfl ?_
                  refine C_ret ?_
                  refine x_blk_ret ?_
                  refine x_then_ret ?_
                  refine R_1 rfl rfl fun w' hs => ⟨congrArg (fun z => Ending.returned (Value.bool z)) ?_, hs.bel⟩
                  show (false : Bool) = isEventB x
                  unfold isEventB; simp_all; try (first | omega | (rw [Bool.eq_iff_iff]; simp))
              · have pr73 : (x.Kind : Int) ≠ 4 := ne_of_beq_false h73
                refine C_skip ?_
                refine x_blk ?_
                refine x_then ?_
                refine C_seq ?_
                refine C_reg ?_
                refine p1 rfl ?_
                refine D_end ?_
                refine x_then ?_
                refine C_ret ?_
                refine R_1 rfl rfl fun w' hs => ⟨congrArg (fun z => Ending.returned (Value.bool z)) ?_, hs.bel⟩
                show (false : Bool) = isEventB x
                unfold isEventB; simp_all; try (first | omega | (rw [Bool.eq_iff_iff]; simp))
            · have pr72 : (x.Kind : Int) ≠ 4 := ne_of_beq_false h72
              refine C_reg ?_
              refine p1 rfl <| p1 rfl ?_
              refine D_end ?_
              refine x_then ?_
              refine C_if _ rfl (fun h75 => ?_) (fun h75 => ?_)
              · have pr75 : (x.Kind : Int) = 5 := eq_of_beq h75
                refine C_seq ?_
                refine C_reg ?_
                refine q1 rfl (D_fb f_31_1 rfl rfl (q := 1) rfl) ?_
                refine q1 rfl (lb 0 o_9 rfl rfl rfl rfl) ?_
                refine li rfl (cv b_20 rfl rfl rfl rfl (fun w' hs => (spec_IsName w' x.Rule hx0.2.1)) ?_)
                refine p1 rfl ?_
                refine gs 43 rfl rfl (fun h76 => ?_) (fun h76 => ?_)
                · refine q1 rfl (D_fb f_31_2 rfl rfl (q := 2) rfl) ?_
                  refine q1 rfl (lba (es := [(.string x.Fact.Rel), u1]) 0 a_29 rfl rfl rfl rfl) ?_
                  refine li rfl (cv b_19 rfl rfl rfl rfl (fun w' hs => (spec_IsFact w' [(.string x.Fact.Rel), u1] x.Fact (rd_at hs hb4) hx0.2.2)) ?_)
                  refine p1 rfl <| p1 rfl ?_
                  refine D_end ?_
                  refine x_then ?_
                  refine D_weak [(2, (.bool (isFactB x.Fact)))] ⟨rfl, trivial⟩ ?_
                  refine D_sel (H' := []) [false] rfl ?_
                  refine C_ret ?_
                  refine x_blk_ret ?_
                  refine x_then_ret ?_
                  refine R_1 rfl rfl fun w' hs => ⟨congrArg (fun z => Ending.returned (Value.bool z)) ?_, hs.bel⟩
                  show ((isFactB x.Fact) : Bool) = isEventB x
                  unfold isEventB; simp_all; try (first | omega | (rw [Bool.eq_iff_iff]; simp))
                · refine n1 rfl ?_
                  refine n1 rfl ?_
                  refine n1 rfl ?_
                  refine p1 rfl <| p1 rfl ?_
                  refine D_end ?_
                  refine x_then ?_
                  refine D_weak [(2, (.bool false))] ⟨rfl, trivial⟩ ?_
                  refine D_sel (H' := []) [false] rfl ?_
                  refine C_ret ?_
                  refine x_blk_ret ?_
                  refine x_then_ret ?_
                  refine R_1 rfl rfl fun w' hs => ⟨congrArg (fun z => Ending.returned (Value.bool z)) ?_, hs.bel⟩
                  show (false : Bool) = isEventB x
                  unfold isEventB; simp_all; try (first | omega | (rw [Bool.eq_iff_iff]; simp))
              · have pr75 : (x.Kind : Int) ≠ 5 := ne_of_beq_false h75
                refine C_skip ?_
                refine x_blk ?_
                refine x_then ?_
                refine C_seq ?_
                refine C_reg ?_
                refine p1 rfl ?_
                refine D_end ?_
                refine x_then ?_
                refine C_ret ?_
                refine R_1 rfl rfl fun w' hs => ⟨congrArg (fun z => Ending.returned (Value.bool z)) ?_, hs.bel⟩
                show (false : Bool) = isEventB x
                unfold isEventB; simp_all; try (first | omega | (rw [Bool.eq_iff_iff]; simp))

theorem laws_szStringS (w : World) (v_a : Value) (a : (List ByteArray)) (left : Int) (h_a : Gd.rd w [v_a] a) (h0 : 0 ≤ left) (h1 : left ≤ 1048576) (ho : okSs a) : Calls Try.prog 47 [v_a, (.int .i64 left)].toArray w (Val w (.int .i64 (szm (szSs a) left))) := by
  have hm1 := rd_max h_a
  refine enter 28 Try.func47 rfl rfl rfl ?_
  refine C_seq ?_
  refine C_reg ?_
  refine p1 rfl ?_
  refine D_end ?_
  refine x_then ?_
  refine C_seq ?_
  refine C_reg ?_
  refine p1 rfl <| p1 rfl ?_
  refine q1 rfl (D_len s_22 rfl rfl (rd_sl h_a)) ?_
  refine q1 rfl (D_sub rfl rfl rfl rfl (by omega)) ?_
  refine p1 rfl ?_
  refine D_end ?_
  refine x_then ?_
  refine C_seq ?_
  refine C_seq ?_
  refine C_reg ?_
  refine p1 rfl <| p1 rfl ?_
  refine D_end ?_
  refine x_then ?_
  refine C_if _ rfl (fun h2 => ?_) (fun h2 => ?_)
  · have pr2 : ((left - ((a.length : Nat) : Int)) : Int) < 0 := of_decide_eq_true h2
    refine C_seq ?_
    refine C_reg ?_
    refine p1 rfl ?_
    refine D_end ?_
    refine x_then ?_
    refine C_ret ?_
    refine x_then_ret ?_
    refine R_1 rfl rfl fun w' hs => ⟨congrArg (fun z => Ending.returned (Value.int .i64 z)) ?_, hs.bel⟩
    show ((-1) : Int) = szm (szSs a) left
    refine (szm_neg ?_).symm; unfold szSs; omega
  · have pr2 : ¬ ((left - ((a.length : Nat) : Int)) : Int) < 0 := of_decide_eq_false h2
    refine C_skip ?_
    refine x_then ?_
    refine C_seq ?_
    refine C_seq ?_
    refine C_reg ?_
    refine p1 rfl ?_
    refine D_end ?_
    refine x_then ?_
    refine C_block ?_
    refine C_loop (fun m_ ac w' => ∃ (k : Nat), ∃ (lf : Int), (k ≤ a.length) ∧ (0 ≤ lf ∧ lf = left - a.length - ((a.take k).map (·.size)).sum) ∧ m_ = a.length - k ∧ Fits ac 28 [(0, v_a), (1, (.int .i64 lf)), (5, (.int .i64 ((k : Nat) : Int)))] ∧ St w ([]) w') ?_ ?_
    · refine fun ac w' hf hs => ⟨_, 0, (left - ((a.length : Nat) : Int)), ?_, ?_, rfl, hf.weak ⟨rfl, rfl, rfl, trivial⟩, hs⟩
      · first | assumption | omega | simp
      · simp; omega
    · rintro m_ ac w' ⟨k, lf, hk, hl, rfl, hf, hs⟩
      refine D.use ?_ hf hs
      clear hf hs ac w'
      have ht := sums_take_le a k
      refine C_seq ?_
      refine C_seq ?_
      refine C_reg ?_
      refine p1 rfl <| p1 rfl ?_
      refine q1 rfl (D_len s_22 rfl rfl (rd_sl h_a)) ?_
      refine p1 rfl ?_
      refine D_end ?_
      refine x_then ?_
      refine C_if _ rfl (fun h3 => ?_) (fun h3 => ?_)
      · have pr3 : (((k : Nat) : Int) : Int) < ((a.length : Nat) : Int) := of_decide_eq_true h3
        refine C_skip ?_
        refine x_then ?_
        refine C_seq ?_
        refine C_block ?_
        refine C_seq ?_
        refine C_reg ?_
        refine p1 rfl <| p1 rfl <| p1 rfl ?_
        obtain ⟨s0, hs0⟩ := some_of_lt (l := a) (i := k) (by omega)
        have hs1 : s0.size ≤ 9223372036854775807 := ho _ (List.mem_of_getElem? hs0)
        obtain ⟨es4, at5, hr6⟩ := rd_elem (n := 1) rfl h_a hs0
        obtain rfl : es4 = [.string s0] := hr6
        refine q1 rfl (D_ix (l := a) (j := k) s_22 rfl rfl rfl (fun w' hs => (rd_at hs h_a)) rfl (lt_of_some hs0)) ?_
        refine q1 rfl (lr0 o_9 rfl rfl at5 rfl) ?_
        refine q1 rfl (D_lens us_9 rfl rfl) ?_
        refine q1 rfl (D_sub rfl rfl rfl rfl (by omega)) ?_
        refine p1 rfl ?_
        refine D_end ?_
        refine x_then ?_
        refine C_seq ?_
        refine C_reg ?_
        refine p1 rfl <| p1 rfl ?_
        refine D_end ?_
        refine x_then ?_
        refine C_if _ rfl (fun h7 => ?_) (fun h7 => ?_)
        · have pr7 : ((lf - ((s0.size : Nat) : Int)) : Int) < 0 := of_decide_eq_true h7
          refine C_seq ?_
          refine C_reg ?_
          refine p1 rfl ?_
          refine D_end ?_
          refine x_then ?_
          refine D_weak [(4, (.int .i64 (-1)))] ⟨rfl, trivial⟩ ?_
          refine C_ret ?_
          refine x_blk_ret ?_
          refine x_then_ret ?_
          refine x_then_ret ?_
          refine x_blk_ret ?_
          refine x_then_ret ?_
          refine R_1 rfl rfl fun w' hs => ⟨congrArg (fun z => Ending.returned (Value.int .i64 z)) ?_, hs.bel⟩
          show ((-1) : Int) = szm (szSs a) left
          refine (szm_neg ?_).symm; have := sums_take (l := a) hs0; have := sums_take_le a (k + 1); unfold szSs; omega
        · have pr7 : ¬ ((lf - ((s0.size : Nat) : Int)) : Int) < 0 := of_decide_eq_false h7
          refine C_skip ?_
          refine x_blk ?_
          refine x_then ?_
          refine C_reg ?_
          refine p1 rfl ?_
          refine q1 rfl (D_add rfl rfl rfl (r := ((k + 1 : Nat) : Int)) (by omega) (by omega)) ?_
          refine p1 rfl ?_
          refine D_end ?_
          refine x_then ?_
          refine fun ac w' hf hs => ⟨_, ?_, k + 1, (lf - ((s0.size : Nat) : Int)), ?_, ?_, rfl, hf.weak ⟨rfl, rfl, rfl, trivial⟩, hs⟩
          · omega
          · first | assumption | omega | simp
          · have hst := sums_take (l := a) (k := k) (by assumption); rw [hst]; omega
      · have pr3 : ¬ (((k : Nat) : Int) : Int) < ((a.length : Nat) : Int) := of_decide_eq_false h3
        refine C_exit ?_
        refine x_then_exit ?_
        refine x_then_exit ?_
        refine x_blk_eq ?_
        refine x_then ?_
        refine C_seq ?_
        refine C_reg ?_
        refine p1 rfl <| p1 rfl ?_
        refine D_end ?_
        refine x_then ?_
        refine C_ret ?_
        refine R_1 rfl rfl fun w' hs => ⟨congrArg (fun z => Ending.returned (Value.int .i64 z)) ?_, hs.bel⟩
        show (lf : Int) = szm (szSs a) left
        rw [szm_pos]; all_goals (unfold szSs; rw [List.take_of_length_le (by omega)] at hl; omega)

theorem laws_szFact (w : World) (c_a : List Value) (a : Fact) (left : Int) (h_a : Gd.rd w c_a a) (h0 : 0 ≤ left) (h1 : left ≤ 1048576) (ho : okFa a) : Calls Try.prog 18 [(.agg c_a.toArray), (.int .i64 left)].toArray w (Val w (.int .i64 (szm (szFa a) left))) := by
  obtain ⟨u1, rfl, hu2⟩ := open_Fact h_a
  have hm3 := rd_max hu2
  have ho1 : a.Rel.size ≤ 9223372036854775807 := ho.1
  refine enter 19 Try.func18 rfl rfl rfl ?_
  refine C_seq ?_
  refine C_reg ?_
  refine li rfl (D_box rfl rfl rfl rfl rfl fun g4 => ?_)
  refine p1 rfl ?_
  refine D_end ?_
  refine x_then ?_
  refine D_H ([bx g4 [(.string a.Rel), u1]]) rfl ?_
  refine C_seq ?_
  refine C_reg ?_
  refine p1 rfl ?_
  refine q1 rfl (D_fb f_24_0 rfl rfl (q := 0) rfl) ?_
  refine q1 rfl (lb 0 o_9 rfl rfl rfl rfl) ?_
  refine q1 rfl (D_lens us_9 rfl rfl) ?_
  refine q1 rfl (D_sub rfl rfl rfl rfl (by omega)) ?_
  refine p1 rfl ?_
  refine D_end ?_
  refine x_then ?_
  refine C_seq ?_
  refine C_seq ?_
  refine C_reg ?_
  refine p1 rfl <| p1 rfl ?_
  refine D_end ?_
  refine x_then ?_
  refine C_if _ rfl (fun h5 => ?_) (fun h5 => ?_)
  · have pr5 : ((left - ((a.Rel.size : Nat) : Int)) : Int) < 0 := of_decide_eq_true h5
    refine C_seq ?_
    refine C_reg ?_
    refine p1 rfl ?_
    refine D_end ?_
    refine x_then ?_
    refine C_ret ?_
    refine x_then_ret ?_
    refine R_1 rfl rfl fun w' hs => ⟨congrArg (fun z => Ending.returned (Value.int .i64 z)) ?_, hs.bel⟩
    show ((-1) : Int) = szm (szFa a) left
    unfold szFa szm at *; repeat (split at * <;> try omega)
  · have pr5 : ¬ ((left - ((a.Rel.size : Nat) : Int)) : Int) < 0 := of_decide_eq_false h5
    refine C_skip ?_
    refine x_then ?_
    refine C_seq ?_
    refine C_reg ?_
    refine q1 rfl (D_fb f_24_1 rfl rfl (q := 1) rfl) ?_
    refine q1 rfl (lb 0 o_22 rfl rfl rfl rfl) ?_
    refine p1 rfl ?_
    refine li rfl (cv b_47 rfl rfl rfl rfl (fun w' hs => (laws_szStringS w' u1 a.Args (left - ((a.Rel.size : Nat) : Int)) (rd_at hs hu2) (by first | assumption | omega | (unfold szm at *; split at * <;> omega)) (by first | assumption | omega | (unfold szm at *; split at * <;> omega)) ho.2)) ?_)
    refine p1 rfl ?_
    refine D_end ?_
    refine x_then ?_
    refine C_seq ?_
    refine C_seq ?_
    refine C_reg ?_
    refine p1 rfl <| p1 rfl ?_
    refine D_end ?_
    refine x_then ?_
    refine D_weak [(1, (.int .i64 (szm (szSs a.Args) (left - ((a.Rel.size : Nat) : Int))))), (17, (.bool (decide (((szm (szSs a.Args) (left - ((a.Rel.size : Nat) : Int))) : Int) < 0))))] ⟨rfl, rfl, trivial⟩ ?_
    refine D_sel (H' := []) [false] rfl ?_
    refine C_if _ rfl (fun h6 => ?_) (fun h6 => ?_)
    · have pr6 : ((szm (szSs a.Args) (left - ((a.Rel.size : Nat) : Int))) : Int) < 0 := of_decide_eq_true h6
      refine C_seq ?_
      refine C_reg ?_
      refine p1 rfl ?_
      refine D_end ?_
      refine x_then ?_
      refine C_ret ?_
      refine x_then_ret ?_
      refine R_1 rfl rfl fun w' hs => ⟨congrArg (fun z => Ending.returned (Value.int .i64 z)) ?_, hs.bel⟩
      show ((-1) : Int) = szm (szFa a) left
      unfold szFa szm at *; repeat (split at * <;> try omega)
    · have pr6 : ¬ ((szm (szSs a.Args) (left - ((a.Rel.size : Nat) : Int))) : Int) < 0 := of_decide_eq_false h6
      have pr6z := szm_val (n := (szSs a.Args)) (left := (left - ((a.Rel.size : Nat) : Int))) pr6
      refine C_skip ?_
      refine x_then ?_
      refine C_seq ?_
      refine C_reg ?_
      refine p1 rfl <| p1 rfl ?_
      refine D_end ?_
      refine x_then ?_
      refine C_ret ?_
      refine R_1 rfl rfl fun w' hs => ⟨congrArg (fun z => Ending.returned (Value.int .i64 z)) ?_, hs.bel⟩
      show ((szm (szSs a.Args) (left - ((a.Rel.size : Nat) : Int))) : Int) = szm (szFa a) left
      unfold szFa szm at *; repeat (split at * <;> try omega)

theorem laws_szEvent (w : World) (c_a : List Value) (a : Event) (left : Int) (h_a : Gd.rd w c_a a) (h0 : 0 ≤ left) (h1 : left ≤ 1048576) (ho : okEv a) : Calls Try.prog 6 [(.agg c_a.toArray), (.int .i64 left)].toArray w (Val w (.int .i64 (szm (szEv a) left))) := by
  obtain ⟨u1, rfl, hu2⟩ := open_Event h_a
  have hm3 := rd_max hu2
  have hb4 := sub_Event_Fact h_a
  have ho1 : a.Rule.size ≤ 9223372036854775807 := ho.2.1
  refine enter 19 Try.func6 rfl rfl rfl ?_
  refine C_seq ?_
  refine C_reg ?_
  refine li rfl (D_box rfl rfl rfl rfl rfl fun g5 => ?_)
  refine p1 rfl ?_
  refine D_end ?_
  refine x_then ?_
  refine D_H ([bx g5 [(.int .i64 a.Kind), (.string a.Rule), (.string a.Fact.Rel), u1]]) rfl ?_
  refine C_seq ?_
  refine C_reg ?_
  refine p1 rfl ?_
  refine q1 rfl (D_fb f_26_1 rfl rfl (q := 1) rfl) ?_
  refine q1 rfl (lb 0 o_9 rfl rfl rfl rfl) ?_
  refine q1 rfl (D_lens us_9 rfl rfl) ?_
  refine q1 rfl (D_sub rfl rfl rfl rfl (by omega)) ?_
  refine p1 rfl ?_
  refine D_end ?_
  refine x_then ?_
  refine C_seq ?_
  refine C_seq ?_
  refine C_reg ?_
  refine p1 rfl <| p1 rfl ?_
  refine D_end ?_
  refine x_then ?_
  refine C_if _ rfl (fun h6 => ?_) (fun h6 => ?_)
  · have pr6 : ((left - ((a.Rule.size : Nat) : Int)) : Int) < 0 := of_decide_eq_true h6
    refine C_seq ?_
    refine C_reg ?_
    refine p1 rfl ?_
    refine D_end ?_
    refine x_then ?_
    refine C_ret ?_
    refine x_then_ret ?_
    refine R_1 rfl rfl fun w' hs => ⟨congrArg (fun z => Ending.returned (Value.int .i64 z)) ?_, hs.bel⟩
    show ((-1) : Int) = szm (szEv a) left
    unfold szEv szm at *; repeat (split at * <;> try omega)
  · have pr6 : ¬ ((left - ((a.Rule.size : Nat) : Int)) : Int) < 0 := of_decide_eq_false h6
    refine C_skip ?_
    refine x_then ?_
    refine C_seq ?_
    refine C_reg ?_
    refine q1 rfl (D_fb f_26_2 rfl rfl (q := 2) rfl) ?_
    refine q1 rfl (lba (es := [(.string a.Fact.Rel), u1]) 0 a_24 rfl rfl rfl rfl) ?_
    refine p1 rfl ?_
    refine li rfl (cv b_18 rfl rfl rfl rfl (fun w' hs => (laws_szFact w' [(.string a.Fact.Rel), u1] a.Fact (left - ((a.Rule.size : Nat) : Int)) (rd_at hs hb4) (by first | assumption | omega | (unfold szm at *; split at * <;> omega)) (by first | assumption | omega | (unfold szm at *; split at * <;> omega)) ho.2.2)) ?_)
    refine p1 rfl ?_
    refine D_end ?_
    refine x_then ?_
    refine C_seq ?_
    refine C_seq ?_
    refine C_reg ?_
    refine p1 rfl <| p1 rfl ?_
    refine D_end ?_
    refine x_then ?_
    refine D_weak [(1, (.int .i64 (szm (szFa a.Fact) (left - ((a.Rule.size : Nat) : Int))))), (17, (.bool (decide (((szm (szFa a.Fact) (left - ((a.Rule.size : Nat) : Int))) : Int) < 0))))] ⟨rfl, rfl, trivial⟩ ?_
    refine D_sel (H' := []) [false] rfl ?_
    refine C_if _ rfl (fun h7 => ?_) (fun h7 => ?_)
    · have pr7 : ((szm (szFa a.Fact) (left - ((a.Rule.size : Nat) : Int))) : Int) < 0 := of_decide_eq_true h7
      refine C_seq ?_
      refine C_reg ?_
      refine p1 rfl ?_
      refine D_end ?_
      refine x_then ?_
      refine C_ret ?_
      refine x_then_ret ?_
      refine R_1 rfl rfl fun w' hs => ⟨congrArg (fun z => Ending.returned (Value.int .i64 z)) ?_, hs.bel⟩
      show ((-1) : Int) = szm (szEv a) left
      unfold szEv szm at *; repeat (split at * <;> try omega)
    · have pr7 : ¬ ((szm (szFa a.Fact) (left - ((a.Rule.size : Nat) : Int))) : Int) < 0 := of_decide_eq_false h7
      have pr7z := szm_val (n := (szFa a.Fact)) (left := (left - ((a.Rule.size : Nat) : Int))) pr7
      refine C_skip ?_
      refine x_then ?_
      refine C_seq ?_
      refine C_reg ?_
      refine p1 rfl <| p1 rfl ?_
      refine D_end ?_
      refine x_then ?_
      refine C_ret ?_
      refine R_1 rfl rfl fun w' hs => ⟨congrArg (fun z => Ending.returned (Value.int .i64 z)) ?_, hs.bel⟩
      show ((szm (szFa a.Fact) (left - ((a.Rule.size : Nat) : Int))) : Int) = szm (szEv a) left
      unfold szEv szm at *; repeat (split at * <;> try omega)

theorem laws_toStringS (w : World) (v_a : Value) (a : (List ByteArray)) (h_a : Gd.rd w [v_a] a) (hn : a.length ≤ 1048576) : Calls Try.prog 50 [v_a].toArray w (Res w (a : List ByteArray)) := by
  have hm1 := rd_max h_a
  refine enter 22 Try.func50 rfl rfl rfl ?_
  refine C_seq ?_
  refine C_reg ?_
  refine p1 rfl ?_
  refine D_end ?_
  refine x_then ?_
  refine C_seq ?_
  refine C_reg ?_
  refine p1 rfl ?_
  refine q1 rfl (D_len s_22 rfl rfl (rd_sl h_a)) ?_
  refine li rfl (D_mk (α := ByteArray) (z := ⟨#[]⟩) s_22 y_9 rfl rfl rfl rfl (by omega) (by omega) fun v2 => ?_)
  refine p1 rfl ?_
  refine D_end ?_
  refine x_then ?_
  refine D_H ([ov [v2] (List.replicate a.length (⟨#[]⟩) : (List ByteArray))]) rfl ?_
  refine C_seq ?_
  refine C_seq ?_
  refine C_reg ?_
  refine p1 rfl ?_
  refine D_end ?_
  refine x_then ?_
  refine C_block ?_
  refine C_loop (fun m_ ac w' => ∃ (k : Nat), ∃ (v : Value), (k ≤ a.length) ∧ m_ = a.length - k ∧ Fits ac 22 [(0, v_a), (3, v), (4, (.int .i64 ((k : Nat) : Int)))] ∧ St w ([ov [v] (cp a ⟨#[]⟩ k : (List ByteArray))]) w') ?_ ?_
  · refine D_eq 0 rfl (show (List.replicate a.length (⟨#[]⟩) : (List ByteArray)) = cp a ⟨#[]⟩ 0 from by rw [cp_zero]) ?_
    refine fun ac w' hf hs => ⟨_, 0, v2, ?_, rfl, hf.weak ⟨rfl, rfl, rfl, trivial⟩, hs⟩
    · first | assumption | omega | simp
  · rintro m_ ac w' ⟨k, v, hk, rfl, hf, hs⟩
    refine D.use ?_ hf hs
    clear hf hs ac w'
    have hcl := cp_len a ⟨#[]⟩ k hk
    refine C_seq ?_
    refine C_seq ?_
    refine C_reg ?_
    refine p1 rfl <| p1 rfl ?_
    refine q1 rfl (D_len s_22 rfl rfl (rd_sl h_a)) ?_
    refine p1 rfl ?_
    refine D_end ?_
    refine x_then ?_
    refine D_H ([ov [v] (cp a ⟨#[]⟩ k : (List ByteArray))]) rfl ?_
    refine C_if _ rfl (fun h3 => ?_) (fun h3 => ?_)
    · have pr3 : (((k : Nat) : Int) : Int) < ((a.length : Nat) : Int) := of_decide_eq_true h3
      refine C_skip ?_
      refine x_then ?_
      refine C_seq ?_
      refine C_block ?_
      refine C_reg ?_
      refine p1 rfl <| p1 rfl <| p1 rfl <| p1 rfl ?_
      obtain ⟨x4, hx5⟩ := some_of_lt (l := a) (i := k) (by omega)
      obtain ⟨es6, at7, hr8⟩ := rd_elem (n := 1) rfl h_a hx5
      obtain rfl : es6 = [.string x4] := hr8
      refine q1 rfl (D_ix (l := a) (j := k) s_22 rfl rfl rfl (fun w' hs => (rd_at hs h_a)) rfl (lt_of_some hx5)) ?_
      refine q1 rfl (lr0 o_9 rfl rfl at7 rfl) ?_
      obtain ⟨x9, hx10⟩ := some_of_lt (l := (cp a ⟨#[]⟩ k)) (i := k) (by omega)
      refine q1 rfl (D_ix (l := (cp a ⟨#[]⟩ k)) (j := k) s_22 rfl rfl rfl (fun w' hs => (rd_own (k := 0) hs rfl)) rfl (lt_of_some hx10)) ?_
      refine li rfl (so (α := ByteArray) (z := x4) 0 z_9 rfl rfl rfl rfl rfl (lt_of_some hx10) ?_)
      refine D_end ?_
      refine x_blk ?_
      refine x_then ?_
      refine D_H ([ov [v] ((cp a ⟨#[]⟩ k).set k x4 : (List ByteArray))]) rfl ?_
      refine C_reg ?_
      refine p1 rfl ?_
      refine q1 rfl (D_add rfl rfl rfl (r := ((k + 1 : Nat) : Int)) (by omega) (by omega)) ?_
      refine p1 rfl ?_
      refine D_end ?_
      refine x_then ?_
      refine D_eq 0 rfl (show ((cp a ⟨#[]⟩ k).set k x4 : (List ByteArray)) = cp a ⟨#[]⟩ (k + 1) from by rw [cp_set (by assumption)]) ?_
      refine fun ac w' hf hs => ⟨_, ?_, k + 1, v, ?_, rfl, hf.weak ⟨rfl, rfl, rfl, trivial⟩, hs⟩
      · omega
      · first | assumption | omega | simp
    · have pr3 : ¬ (((k : Nat) : Int) : Int) < ((a.length : Nat) : Int) := of_decide_eq_false h3
      refine C_exit ?_
      refine x_then_exit ?_
      refine x_then_exit ?_
      refine x_blk_eq ?_
      refine x_then ?_
      refine C_seq ?_
      refine C_reg ?_
      refine p1 rfl <| p1 rfl ?_
      refine D_end ?_
      refine x_then ?_
      refine C_ret ?_
      refine R_1 rfl rfl fun w' hs => res_of (k := 0) hs rfl ?_
      show cp a ⟨#[]⟩ k = a
      exact cp_done (by omega)

theorem laws_toFact (w : World) (c_a : List Value) (a : Fact) (h_a : Gd.rd w c_a a) (hn : szFa a ≤ 1048576) : Calls Try.prog 21 [(.agg c_a.toArray)].toArray w (Res w (a : Fact)) := by
  obtain ⟨u1, rfl, hu2⟩ := open_Fact h_a
  have hm3 := rd_max hu2
  unfold szFa szSs at hn
  refine enter 12 Try.func21 rfl rfl rfl ?_
  refine C_seq ?_
  refine C_reg ?_
  refine li rfl (D_box rfl rfl rfl rfl rfl fun g4 => ?_)
  refine li rfl (D_alloc y_29 rfl rfl rfl rfl fun g5 => ?_)
  refine D_end ?_
  refine x_then ?_
  refine D_H ([bx g5 [(.string ⟨#[]⟩), (.slice none 0 0)], bx g4 [(.string a.Rel), u1]]) rfl ?_
  refine C_seq ?_
  refine C_reg ?_
  refine li rfl (D_alloc y_29 rfl rfl rfl rfl fun g6 => ?_)
  refine D_end ?_
  refine x_then ?_
  refine D_H ([bx g6 [(.string ⟨#[]⟩), (.slice none 0 0)], bx g5 [(.string ⟨#[]⟩), (.slice none 0 0)], bx g4 [(.string a.Rel), u1]]) rfl ?_
  refine C_seq ?_
  refine C_reg ?_
  refine q1 rfl (D_fb f_24_0 rfl rfl (q := 0) rfl) ?_
  refine q1 rfl (lb 2 o_9 rfl rfl rfl rfl) ?_
  refine q1 rfl (D_fb f_29_0 rfl rfl (q := 0) rfl) ?_
  refine li rfl (D_stb (vs := [(.string a.Rel)]) (cs' := [(.string a.Rel), (.slice none 0 0)]) 0 z_9 rfl rfl rfl rfl rfl rfl (ocons rfl onil) (by simp) rfl ?_)
  refine D_end ?_
  refine x_then ?_
  refine D_H ([bx g6 [(.string a.Rel), (.slice none 0 0)], bx g5 [(.string ⟨#[]⟩), (.slice none 0 0)], bx g4 [(.string a.Rel), u1]]) rfl ?_
  refine C_seq ?_
  refine C_reg ?_
  refine q1 rfl (D_fb f_24_1 rfl rfl (q := 1) rfl) ?_
  refine q1 rfl (lb 2 o_22 rfl rfl rfl rfl) ?_
  refine li rfl (crl b_50 rfl rfl rfl rfl (fun w' hs => (laws_toStringS w' u1 a.Args (rd_at hs hu2) (by first | assumption | omega | (unfold szm at *; split at * <;> omega)))) fun v7 => ?_)
  refine q1 rfl (D_fb f_29_1 rfl rfl (q := 1) rfl) ?_
  refine D_pre (fun w' hs => one_own (k := 0) hs rfl) ?_
  intro ho8
  refine li rfl (D_stb (vs := [v7]) (cs' := [(.string a.Rel), v7]) 1 z_22 rfl rfl rfl rfl rfl (cells_of_one ho8) (ocons ho8 onil) (by simp) rfl ?_)
  refine D_end ?_
  refine x_then ?_
  refine D_H ([ov [v7] (a.Args : (List ByteArray)), bx g6 [(.string a.Rel), v7], bx g5 [(.string ⟨#[]⟩), (.slice none 0 0)], bx g4 [(.string a.Rel), u1]]) rfl ?_
  refine C_seq ?_
  refine C_reg ?_
  refine q1 rfl (lbw 1 a_29 rfl rfl rfl) ?_
  refine li rfl (D_stb (vs := [(.string a.Rel), v7]) (cs' := [(.string a.Rel), v7]) 2 z_29 rfl rfl rfl rfl rfl rfl (ocons rfl (ocons ho8 onil)) (by simp) rfl ?_)
  refine D_end ?_
  refine x_then ?_
  refine D_H ([ov [v7] (a.Args : (List ByteArray)), bx g6 [(.string a.Rel), v7], bx g5 [(.string a.Rel), v7], bx g4 [(.string a.Rel), u1]]) rfl ?_
  refine C_ret ?_
  refine pk_Fact (r := (⟨a.Rel, a.Args⟩ : Fact)) ?_
  refine R_c 2 a_29 rfl rfl rfl fun w' hs => res_of (k := 0) hs rfl ?_
  show (⟨a.Rel, a.Args⟩ : Fact) = a
  rfl

theorem laws_toEvent (w : World) (c_a : List Value) (a : Event) (h_a : Gd.rd w c_a a) (hn : szEv a ≤ 1048576) : Calls Try.prog 8 [(.agg c_a.toArray)].toArray w (Res w (a : Event)) := by
  obtain ⟨u1, rfl, hu2⟩ := open_Event h_a
  have hm3 := rd_max hu2
  have hb4 := sub_Event_Fact h_a
  unfold szEv at hn
  refine enter 15 Try.func8 rfl rfl rfl ?_
  refine C_seq ?_
  refine C_reg ?_
  refine li rfl (D_box rfl rfl rfl rfl rfl fun g5 => ?_)
  refine li rfl (D_alloc y_31 rfl rfl rfl rfl fun g6 => ?_)
  refine D_end ?_
  refine x_then ?_
  refine D_H ([bx g6 [(.int .i64 0), (.string ⟨#[]⟩), (.string ⟨#[]⟩), (.slice none 0 0)], bx g5 [(.int .i64 a.Kind), (.string a.Rule), (.string a.Fact.Rel), u1]]) rfl ?_
  refine C_seq ?_
  refine C_reg ?_
  refine li rfl (D_alloc y_31 rfl rfl rfl rfl fun g7 => ?_)
  refine D_end ?_
  refine x_then ?_
  refine D_H ([bx g7 [(.int .i64 0), (.string ⟨#[]⟩), (.string ⟨#[]⟩), (.slice none 0 0)], bx g6 [(.int .i64 0), (.string ⟨#[]⟩), (.string ⟨#[]⟩), (.slice none 0 0)], bx g5 [(.int .i64 a.Kind), (.string a.Rule), (.string a.Fact.Rel), u1]]) rfl ?_
  refine C_seq ?_
  refine C_reg ?_
  refine q1 rfl (D_fb f_26_0 rfl rfl (q := 0) rfl) ?_
  refine q1 rfl (lb 2 o_3 rfl rfl rfl rfl) ?_
  refine q1 rfl (D_fb f_31_0 rfl rfl (q := 0) rfl) ?_
  refine li rfl (D_stb (vs := [(.int .i64 a.Kind)]) (cs' := [(.int .i64 a.Kind), (.string ⟨#[]⟩), (.string ⟨#[]⟩), (.slice none 0 0)]) 0 z_3 rfl rfl rfl rfl rfl rfl (ocons rfl onil) (by simp) rfl ?_)
  refine D_end ?_
  refine x_then ?_
  refine D_H ([bx g7 [(.int .i64 a.Kind), (.string ⟨#[]⟩), (.string ⟨#[]⟩), (.slice none 0 0)], bx g6 [(.int .i64 0), (.string ⟨#[]⟩), (.string ⟨#[]⟩), (.slice none 0 0)], bx g5 [(.int .i64 a.Kind), (.string a.Rule), (.string a.Fact.Rel), u1]]) rfl ?_
  refine C_seq ?_
  refine C_reg ?_
  refine q1 rfl (D_fb f_26_1 rfl rfl (q := 1) rfl) ?_
  refine q1 rfl (lb 2 o_9 rfl rfl rfl rfl) ?_
  refine q1 rfl (D_fb f_31_1 rfl rfl (q := 1) rfl) ?_
  refine li rfl (D_stb (vs := [(.string a.Rule)]) (cs' := [(.int .i64 a.Kind), (.string a.Rule), (.string ⟨#[]⟩), (.slice none 0 0)]) 0 z_9 rfl rfl rfl rfl rfl rfl (ocons rfl onil) (by simp) rfl ?_)
  refine D_end ?_
  refine x_then ?_
  refine D_H ([bx g7 [(.int .i64 a.Kind), (.string a.Rule), (.string ⟨#[]⟩), (.slice none 0 0)], bx g6 [(.int .i64 0), (.string ⟨#[]⟩), (.string ⟨#[]⟩), (.slice none 0 0)], bx g5 [(.int .i64 a.Kind), (.string a.Rule), (.string a.Fact.Rel), u1]]) rfl ?_
  refine C_seq ?_
  refine C_reg ?_
  refine q1 rfl (D_fb f_26_2 rfl rfl (q := 2) rfl) ?_
  refine q1 rfl (lba (es := [(.string a.Fact.Rel), u1]) 2 a_24 rfl rfl rfl rfl) ?_
  refine li rfl (crs rfl b_21 rfl rfl rfl rfl (fun w' hs => (laws_toFact w' [(.string a.Fact.Rel), u1] a.Fact (rd_at hs hb4) (by first | assumption | omega | (unfold szm at *; split at * <;> omega)))) fun cs8 => ?_)
  refine D_pre (fun w' hs => shape_Fact (rd_own (k := 0) hs rfl)) ?_
  rintro ⟨v9, rfl, ho10⟩
  refine q1 rfl (D_fb f_31_2 rfl rfl (q := 2) rfl) ?_
  refine li rfl (D_stb (vs := [(.string a.Fact.Rel), v9]) (cs' := [(.int .i64 a.Kind), (.string a.Rule), (.string a.Fact.Rel), v9]) 1 z_29 rfl rfl rfl rfl rfl rfl (ocons rfl (ocons ho10 onil)) (by simp) rfl ?_)
  refine D_end ?_
  refine x_then ?_
  refine D_H ([ov [(.string a.Fact.Rel), v9] (a.Fact : Fact), bx g7 [(.int .i64 a.Kind), (.string a.Rule), (.string a.Fact.Rel), v9], bx g6 [(.int .i64 0), (.string ⟨#[]⟩), (.string ⟨#[]⟩), (.slice none 0 0)], bx g5 [(.int .i64 a.Kind), (.string a.Rule), (.string a.Fact.Rel), u1]]) rfl ?_
  refine C_seq ?_
  refine C_reg ?_
  refine q1 rfl (lbw 1 a_31 rfl rfl rfl) ?_
  refine li rfl (D_stb (vs := [(.int .i64 a.Kind), (.string a.Rule), (.string a.Fact.Rel), v9]) (cs' := [(.int .i64 a.Kind), (.string a.Rule), (.string a.Fact.Rel), v9]) 2 z_31 rfl rfl rfl rfl rfl rfl (ocons rfl (ocons rfl (ocons rfl (ocons ho10 onil)))) (by simp) rfl ?_)
  refine D_end ?_
  refine x_then ?_
  refine D_H ([ov [(.string a.Fact.Rel), v9] (a.Fact : Fact), bx g7 [(.int .i64 a.Kind), (.string a.Rule), (.string a.Fact.Rel), v9], bx g6 [(.int .i64 a.Kind), (.string a.Rule), (.string a.Fact.Rel), v9], bx g5 [(.int .i64 a.Kind), (.string a.Rule), (.string a.Fact.Rel), u1]]) rfl ?_
  refine C_ret ?_
  refine D_unpair (α := ByteArray) (β := (List ByteArray)) (c1 := [(.string a.Fact.Rel)]) (c2 := [v9]) (x := a.Fact.Rel) (y := (a.Fact.Args)) rfl rfl ?_
  refine D_fd [] 1 rfl ?_
  refine pk_Event (r := (⟨a.Kind, a.Rule, ⟨a.Fact.Rel, a.Fact.Args⟩⟩ : Event)) ?_
  refine R_c 2 a_31 rfl rfl rfl fun w' hs => res_of (k := 0) hs rfl ?_
  show (⟨a.Kind, a.Rule, ⟨a.Fact.Rel, a.Fact.Args⟩⟩ : Event) = a
  rfl

theorem laws_eqStringS (w : World) (v_a : Value) (a : (List ByteArray)) (v_b : Value) (b : (List ByteArray)) (h_a : Gd.rd w [v_a] a) (h_b : Gd.rd w [v_b] b) : Calls Try.prog 52 [v_a, v_b].toArray w (Val w (.bool (decide (a = b)))) := by
  have hm1 := rd_max h_a
  have hm2 := rd_max h_b
  refine enter 26 Try.func52 rfl rfl rfl ?_
  refine C_seq ?_
  refine C_reg ?_
  refine p1 rfl ?_
  refine D_end ?_
  refine x_then ?_
  refine C_seq ?_
  refine C_seq ?_
  refine C_reg ?_
  refine p1 rfl ?_
  refine q1 rfl (D_len s_22 rfl rfl (rd_sl h_a)) ?_
  refine p1 rfl ?_
  refine q1 rfl (D_len s_22 rfl rfl (rd_sl h_b)) ?_
  refine p1 rfl ?_
  refine D_end ?_
  refine x_then ?_
  refine C_if _ rfl (fun h3 => ?_) (fun h3 => ?_)
  · have pr3 : (((a.length : Nat) : Int) : Int) ≠ ((b.length : Nat) : Int) := bne_iff_ne.1 h3
    refine C_seq ?_
    refine C_reg ?_
    refine p1 rfl ?_
    refine D_end ?_
    refine x_then ?_
    refine C_ret ?_
    refine x_then_ret ?_
    refine R_1 rfl rfl fun w' hs => ⟨congrArg (fun z => Ending.returned (Value.bool z)) ?_, hs.bel⟩
    show (false : Bool) = decide (a = b)
    simp; intro e; subst e; simp_all
  · have pr3 : (((a.length : Nat) : Int) : Int) = ((b.length : Nat) : Int) := eq_of_bne_f h3
    refine C_skip ?_
    refine x_then ?_
    refine C_seq ?_
    refine C_seq ?_
    refine C_reg ?_
    refine p1 rfl ?_
    refine D_end ?_
    refine x_then ?_
    refine C_block ?_
    refine C_loop (fun m_ ac w' => ∃ (k : Nat), (k ≤ a.length) ∧ (∀ i, i < k → a[i]? = b[i]?) ∧ m_ = a.length - k ∧ Fits ac 26 [(0, v_a), (1, v_b), (5, (.int .i64 ((k : Nat) : Int)))] ∧ St w ([]) w') ?_ ?_
    · refine fun ac w' hf hs => ⟨_, 0, ?_, ?_, rfl, hf.weak ⟨rfl, rfl, rfl, trivial⟩, hs⟩
      · first | assumption | omega | simp
      · intro i hi; omega
    · rintro m_ ac w' ⟨k, hk, hi, rfl, hf, hs⟩
      refine D.use ?_ hf hs
      clear hf hs ac w'
      refine C_seq ?_
      refine C_seq ?_
      refine C_reg ?_
      refine p1 rfl <| p1 rfl ?_
      refine q1 rfl (D_len s_22 rfl rfl (rd_sl h_a)) ?_
      refine p1 rfl ?_
      refine D_end ?_
      refine x_then ?_
      refine C_if _ rfl (fun h4 => ?_) (fun h4 => ?_)
      · have pr4 : (((k : Nat) : Int) : Int) < ((a.length : Nat) : Int) := of_decide_eq_true h4
        refine C_skip ?_
        refine x_then ?_
        refine C_seq ?_
        refine C_block ?_
        refine C_seq ?_
        refine C_draw mixed [] (by kernel_rfl) ?_
        refine tk 0 rfl (by kernel_rfl) (by kernel_rfl) (by kernel_rfl) rfl (fun _ hs => hs) (rp rfl) ?_
        refine tk 1 rfl (by kernel_rfl) (by kernel_rfl) (by kernel_rfl) rfl (fun _ hs => hs) (rp rfl) ?_
        obtain ⟨x5, hx6⟩ := some_of_lt (l := a) (i := k) (by omega)
        obtain ⟨es7, at8, hr9⟩ := rd_elem (n := 1) rfl h_a hx6
        obtain rfl : es7 = [.string x5] := hr9
        refine tk 2 rfl (by kernel_rfl) (by kernel_rfl) (by kernel_rfl) rfl (fun _ hs => hs) (D_ix (l := a) (j := k) s_22 rfl rfl rfl (fun w' hs => (rd_at hs h_a)) rfl (lt_of_some hx6)) ?_
        refine tk 3 rfl (by kernel_rfl) (by kernel_rfl) (by kernel_rfl) rfl (fun _ hs => hs) (lr0 o_9 rfl rfl at8 rfl) ?_
        refine tk 4 rfl (by kernel_rfl) (by kernel_rfl) (by kernel_rfl) rfl (fun _ hs => hs) (rp rfl) ?_
        refine tk 5 rfl (by kernel_rfl) (by kernel_rfl) (by kernel_rfl) rfl (fun _ hs => hs) (rp rfl) ?_
        obtain ⟨x10, hx11⟩ := some_of_lt (l := b) (i := k) (by omega)
        obtain ⟨es12, at13, hr14⟩ := rd_elem (n := 1) rfl h_b hx11
        obtain rfl : es12 = [.string x10] := hr14
        refine tk 6 rfl (by kernel_rfl) (by kernel_rfl) (by kernel_rfl) rfl (fun _ hs => hs) (D_ix (l := b) (j := k) s_22 rfl rfl rfl (fun w' hs => (rd_at hs h_b)) rfl (lt_of_some hx11)) ?_
        refine tk 7 rfl (by kernel_rfl) (by kernel_rfl) (by kernel_rfl) rfl (fun _ hs => hs) (lr0 o_9 rfl rfl at13 rfl) ?_
        refine tk 8 rfl (by kernel_rfl) (by kernel_rfl) (by kernel_rfl) rfl (fun _ hs => hs) (D_neS rfl rfl rfl) ?_
        refine tE (by kernel_rfl) ?_
        refine x_then ?_
        refine C_if _ rfl (fun h15 => ?_) (fun h15 => ?_)
        · have pr15 : ¬ (x5 : ByteArray) = x10 := of_decide_eq_false (not_t h15)
          refine C_seq ?_
          refine C_reg ?_
          refine p1 rfl ?_
          refine D_end ?_
          refine x_then ?_
          refine D_weak [(4, (.bool false))] ⟨rfl, trivial⟩ ?_
          refine C_ret ?_
          refine x_blk_ret ?_
          refine x_then_ret ?_
          refine x_then_ret ?_
          refine x_blk_ret ?_
          refine x_then_ret ?_
          refine R_1 rfl rfl fun w' hs => ⟨congrArg (fun z => Ending.returned (Value.bool z)) ?_, hs.bel⟩
          show (false : Bool) = decide (a = b)
          simp; intro e; subst e; simp_all
        · have pr15 : (x5 : ByteArray) = x10 := of_decide_eq_true (not_f h15)
          refine C_skip ?_
          refine x_blk ?_
          refine x_then ?_
          refine C_reg ?_
          refine p1 rfl ?_
          refine q1 rfl (D_add rfl rfl rfl (r := ((k + 1 : Nat) : Int)) (by omega) (by omega)) ?_
          refine p1 rfl ?_
          refine D_end ?_
          refine x_then ?_
          refine fun ac w' hf hs => ⟨_, ?_, k + 1, ?_, ?_, rfl, hf.weak ⟨rfl, rfl, rfl, trivial⟩, hs⟩
          · omega
          · first | assumption | omega | simp
          · exact idx_step hi (by assumption) (by assumption) (by simp_all)
      · have pr4 : ¬ (((k : Nat) : Int) : Int) < ((a.length : Nat) : Int) := of_decide_eq_false h4
        refine C_exit ?_
        refine x_then_exit ?_
        refine x_then_exit ?_
        refine x_blk_eq ?_
        refine x_then ?_
        refine C_seq ?_
        refine C_reg ?_
        refine p1 rfl ?_
        refine D_end ?_
        refine x_then ?_
        refine C_ret ?_
        refine R_1 rfl rfl fun w' hs => ⟨congrArg (fun z => Ending.returned (Value.bool z)) ?_, hs.bel⟩
        show (true : Bool) = decide (a = b)
        simp; exact eq_of_idx (by omega) (fun i h => hi i (by omega))

theorem laws_eqFact (w : World) (c_a : List Value) (a : Fact) (c_b : List Value) (b : Fact) (h_a : Gd.rd w c_a a) (h_b : Gd.rd w c_b b) : Calls Try.prog 24 [(.agg c_a.toArray), (.agg c_b.toArray)].toArray w (Val w (.bool (decide (a = b)))) := by
  obtain ⟨u1, rfl, hu2⟩ := open_Fact h_a
  have hm3 := rd_max hu2
  obtain ⟨u4, rfl, hu5⟩ := open_Fact h_b
  have hm6 := rd_max hu5
  refine enter 16 Try.func24 rfl rfl rfl ?_
  refine C_seq ?_
  refine C_reg ?_
  refine li rfl (D_box rfl rfl rfl rfl rfl fun g7 => ?_)
  refine li rfl (D_box rfl rfl rfl rfl rfl fun g8 => ?_)
  refine p1 rfl ?_
  refine D_end ?_
  refine x_then ?_
  refine D_H ([bx g8 [(.string b.Rel), u4], bx g7 [(.string a.Rel), u1]]) rfl ?_
  refine C_seq ?_
  refine C_seq ?_
  refine C_reg ?_
  refine q1 rfl (D_fb f_29_0 rfl rfl (q := 0) rfl) ?_
  refine q1 rfl (lb 1 o_9 rfl rfl rfl rfl) ?_
  refine q1 rfl (D_fb f_29_0 rfl rfl (q := 0) rfl) ?_
  refine q1 rfl (lb 0 o_9 rfl rfl rfl rfl) ?_
  refine q1 rfl (D_neS rfl rfl rfl) ?_
  refine D_end ?_
  refine x_then ?_
  refine C_if _ rfl (fun h9 => ?_) (fun h9 => ?_)
  · have pr9 : ¬ (a.Rel : ByteArray) = b.Rel := of_decide_eq_false (not_t h9)
    refine C_seq ?_
    refine C_reg ?_
    refine p1 rfl ?_
    refine D_end ?_
    refine x_then ?_
    refine C_ret ?_
    refine x_then_ret ?_
    refine R_1 rfl rfl fun w' hs => ⟨congrArg (fun z => Ending.returned (Value.bool z)) ?_, hs.bel⟩
    show (false : Bool) = decide (a = b)
    cases a; cases b; simp_all
  · have pr9 : (a.Rel : ByteArray) = b.Rel := of_decide_eq_true (not_f h9)
    refine C_skip ?_
    refine x_then ?_
    refine C_seq ?_
    refine C_seq ?_
    refine C_reg ?_
    refine q1 rfl (D_fb f_29_1 rfl rfl (q := 1) rfl) ?_
    refine q1 rfl (lb 1 o_22 rfl rfl rfl rfl) ?_
    refine q1 rfl (D_fb f_29_1 rfl rfl (q := 1) rfl) ?_
    refine q1 rfl (lb 0 o_22 rfl rfl rfl rfl) ?_
    refine li rfl (cv b_52 rfl rfl rfl rfl (fun w' hs => (laws_eqStringS w' u1 a.Args u4 b.Args (rd_at hs hu2) (rd_at hs hu5))) ?_)
    refine p1 rfl ?_
    refine D_end ?_
    refine x_then ?_
    refine D_weak [(15, (.bool (!(decide (a.Args = b.Args)))))] ⟨rfl, trivial⟩ ?_
    refine D_sel (H' := []) [false, false] rfl ?_
    refine C_if _ rfl (fun h10 => ?_) (fun h10 => ?_)
    · have h10n : (decide (a.Args = b.Args)) = false := not_t h10
      refine C_seq ?_
      refine C_reg ?_
      refine p1 rfl ?_
      refine D_end ?_
      refine x_then ?_
      refine C_ret ?_
      refine x_then_ret ?_
      refine R_1 rfl rfl fun w' hs => ⟨congrArg (fun z => Ending.returned (Value.bool z)) ?_, hs.bel⟩
      show (false : Bool) = decide (a = b)
      cases a; cases b; simp_all
    · have h10n : (decide (a.Args = b.Args)) = true := not_f h10
      refine C_skip ?_
      refine x_then ?_
      refine C_seq ?_
      refine C_reg ?_
      refine p1 rfl ?_
      refine D_end ?_
      refine x_then ?_
      refine C_ret ?_
      refine R_1 rfl rfl fun w' hs => ⟨congrArg (fun z => Ending.returned (Value.bool z)) ?_, hs.bel⟩
      show (true : Bool) = decide (a = b)
      cases a; cases b; simp_all

theorem laws_eqEvent (w : World) (c_a : List Value) (a : Event) (c_b : List Value) (b : Event) (h_a : Gd.rd w c_a a) (h_b : Gd.rd w c_b b) : Calls Try.prog 10 [(.agg c_a.toArray), (.agg c_b.toArray)].toArray w (Val w (.bool (decide (a = b)))) := by
  obtain ⟨u1, rfl, hu2⟩ := open_Event h_a
  have hm3 := rd_max hu2
  have hb4 := sub_Event_Fact h_a
  obtain ⟨u5, rfl, hu6⟩ := open_Event h_b
  have hm7 := rd_max hu6
  have hb8 := sub_Event_Fact h_b
  refine enter 21 Try.func10 rfl rfl rfl ?_
  refine C_seq ?_
  refine C_reg ?_
  refine li rfl (D_box rfl rfl rfl rfl rfl fun g9 => ?_)
  refine li rfl (D_box rfl rfl rfl rfl rfl fun g10 => ?_)
  refine p1 rfl ?_
  refine D_end ?_
  refine x_then ?_
  refine D_H ([bx g10 [(.int .i64 b.Kind), (.string b.Rule), (.string b.Fact.Rel), u5], bx g9 [(.int .i64 a.Kind), (.string a.Rule), (.string a.Fact.Rel), u1]]) rfl ?_
  refine C_seq ?_
  refine C_seq ?_
  refine C_reg ?_
  refine q1 rfl (D_fb f_31_0 rfl rfl (q := 0) rfl) ?_
  refine q1 rfl (lb 1 o_3 rfl rfl rfl rfl) ?_
  refine q1 rfl (D_fb f_31_0 rfl rfl (q := 0) rfl) ?_
  refine q1 rfl (lb 0 o_3 rfl rfl rfl rfl) ?_
  refine p1 rfl ?_
  refine D_end ?_
  refine x_then ?_
  refine C_if _ rfl (fun h11 => ?_) (fun h11 => ?_)
  · have pr11 : (a.Kind : Int) ≠ b.Kind := bne_iff_ne.1 h11
    refine C_seq ?_
    refine C_reg ?_
    refine p1 rfl ?_
    refine D_end ?_
    refine x_then ?_
    refine C_ret ?_
    refine x_then_ret ?_
    refine R_1 rfl rfl fun w' hs => ⟨congrArg (fun z => Ending.returned (Value.bool z)) ?_, hs.bel⟩
    show (false : Bool) = decide (a = b)
    cases a; cases b; simp_all
  · have pr11 : (a.Kind : Int) = b.Kind := eq_of_bne_f h11
    refine C_skip ?_
    refine x_then ?_
    refine C_seq ?_
    refine C_seq ?_
    refine C_reg ?_
    refine q1 rfl (D_fb f_31_1 rfl rfl (q := 1) rfl) ?_
    refine q1 rfl (lb 1 o_9 rfl rfl rfl rfl) ?_
    refine q1 rfl (D_fb f_31_1 rfl rfl (q := 1) rfl) ?_
    refine q1 rfl (lb 0 o_9 rfl rfl rfl rfl) ?_
    refine q1 rfl (D_neS rfl rfl rfl) ?_
    refine D_end ?_
    refine x_then ?_
    refine C_if _ rfl (fun h12 => ?_) (fun h12 => ?_)
    · have pr12 : ¬ (a.Rule : ByteArray) = b.Rule := of_decide_eq_false (not_t h12)
      refine C_seq ?_
      refine C_reg ?_
      refine p1 rfl ?_
      refine D_end ?_
      refine x_then ?_
      refine C_ret ?_
      refine x_then_ret ?_
      refine R_1 rfl rfl fun w' hs => ⟨congrArg (fun z => Ending.returned (Value.bool z)) ?_, hs.bel⟩
      show (false : Bool) = decide (a = b)
      cases a; cases b; simp_all
    · have pr12 : (a.Rule : ByteArray) = b.Rule := of_decide_eq_true (not_f h12)
      refine C_skip ?_
      refine x_then ?_
      refine C_seq ?_
      refine C_seq ?_
      refine C_reg ?_
      refine q1 rfl (D_fb f_31_2 rfl rfl (q := 2) rfl) ?_
      refine q1 rfl (lba (es := [(.string a.Fact.Rel), u1]) 1 a_29 rfl rfl rfl rfl) ?_
      refine q1 rfl (D_fb f_31_2 rfl rfl (q := 2) rfl) ?_
      refine q1 rfl (lba (es := [(.string b.Fact.Rel), u5]) 0 a_29 rfl rfl rfl rfl) ?_
      refine li rfl (cv b_24 rfl rfl rfl rfl (fun w' hs => (laws_eqFact w' [(.string a.Fact.Rel), u1] a.Fact [(.string b.Fact.Rel), u5] b.Fact (rd_at hs hb4) (rd_at hs hb8))) ?_)
      refine p1 rfl ?_
      refine D_end ?_
      refine x_then ?_
      refine D_weak [(20, (.bool (!(decide (a.Fact = b.Fact)))))] ⟨rfl, trivial⟩ ?_
      refine D_sel (H' := []) [false, false] rfl ?_
      refine C_if _ rfl (fun h13 => ?_) (fun h13 => ?_)
      · have h13n : (decide (a.Fact = b.Fact)) = false := not_t h13
        refine C_seq ?_
        refine C_reg ?_
        refine p1 rfl ?_
        refine D_end ?_
        refine x_then ?_
        refine C_ret ?_
        refine x_then_ret ?_
        refine R_1 rfl rfl fun w' hs => ⟨congrArg (fun z => Ending.returned (Value.bool z)) ?_, hs.bel⟩
        show (false : Bool) = decide (a = b)
        cases a; cases b; simp_all
      · have h13n : (decide (a.Fact = b.Fact)) = true := not_f h13
        refine C_skip ?_
        refine x_then ?_
        refine C_seq ?_
        refine C_reg ?_
        refine p1 rfl ?_
        refine D_end ?_
        refine x_then ?_
        refine C_ret ?_
        refine R_1 rfl rfl fun w' hs => ⟨congrArg (fun z => Ending.returned (Value.bool z)) ?_, hs.bel⟩
        show (true : Bool) = decide (a = b)
        cases a; cases b; simp_all
end Go.Sy.Ev1
