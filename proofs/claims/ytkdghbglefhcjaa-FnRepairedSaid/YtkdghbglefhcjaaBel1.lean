/-
  Contracts of functions of the program, walked (printed by a program of ours).
  Conditions: those that each theorem states.
-/
import Derived.Test.YtkdghbglefhcjaaProg
import Derived.Test.YtkdghbglefhcjaaTypes
import Derived.Test.YtkdghbglefhcjaaBase
set_option linter.unusedVariables false
set_option maxRecDepth 20000
namespace Go.Sy.Bel1
open Go Go.RowKit Go.Proofs Go.Sy
theorem mixed : Try.prog.follows .mixedOrders = true := by kernel_rfl
theorem s_27 : sliceTy Try.prog 27 = some (3, 1, 8) := by kernel_rfl
theorem o_3 : oneTy Try.prog 3 = true := by kernel_rfl
theorem b_47 : hasBody Try.prog 47 = true := by kernel_rfl
theorem f_26_0 : fieldOff Try.prog 26 0 = some 0 := by kernel_rfl
theorem f_26_1 : fieldOff Try.prog 26 1 = some 1 := by kernel_rfl
theorem o_24 : oneTy Try.prog 24 = true := by kernel_rfl
theorem s_24 : sliceTy Try.prog 24 = some (31, 3, 56) := by kernel_rfl
theorem a_31 : aggTy Try.prog 31 = some 3 := by kernel_rfl
theorem y_31 : zeroTy Try.prog 31 = some (.agg #[(.int .i64 0), (.slice none 0 0), (.slice none 0 0)]) := by kernel_rfl
theorem z_31 : sizeTy Try.prog 31 = some 3 := by kernel_rfl
theorem f_31_0 : fieldOff Try.prog 31 0 = some 0 := by kernel_rfl
theorem f_31_1 : fieldOff Try.prog 31 1 = some 1 := by kernel_rfl
theorem o_27 : oneTy Try.prog 27 = true := by kernel_rfl
theorem b_37 : hasBody Try.prog 37 = true := by kernel_rfl
theorem f_31_2 : fieldOff Try.prog 31 2 = some 2 := by kernel_rfl
theorem b_27 : hasBody Try.prog 27 = true := by kernel_rfl
theorem impl_ascendingNodes (w : World) (v_l : Value) (l : (List Int)) (n : Int) (h_l : Gd.rd w [v_l] l) : Calls Try.prog 37 [v_l, (.int .i64 n)].toArray w (Val w (.bool (asc l n))) := by
  have hm1 := rd_max h_l
  refine enter 35 Try.func37 rfl rfl rfl ?_
  refine C_seq ?_
  refine C_reg ?_
  refine p1 rfl ?_
  refine D_end ?_
  refine x_then ?_
  refine C_seq ?_
  refine C_seq ?_
  refine C_reg ?_
  refine p1 rfl ?_
  refine q1 rfl (D_len s_27 rfl rfl (rd_sl h_l)) ?_
  refine p1 rfl ?_
  refine D_end ?_
  refine x_then ?_
  refine C_block ?_
  refine C_loop (fun m_ ac w' => ∃ (k : Nat), (k ≤ l.length) ∧ (∀ i, i < k → ascAt l n i = true) ∧ m_ = l.length - k ∧ Fits ac 35 [(0, v_l), (1, (.int .i64 n)), (7, v_l), (8, (.int .i64 ((l.length : Nat) : Int))), (9, (.int .i64 ((k : Nat) : Int)))] ∧ St w ([]) w') ?_ ?_
  · refine fun ac w' hf hs => ⟨_, 0, ?_, ?_, rfl, hf.weak ⟨rfl, rfl, rfl, rfl, rfl, trivial⟩, hs⟩
    · first | assumption | omega | simp
    · intro i hi; omega
  · rintro m_ ac w' ⟨k, hk, hi, rfl, hf, hs⟩
    refine D.use ?_ hf hs
    clear hf hs ac w'
    refine C_seq ?_
    refine C_reg ?_
    refine p1 rfl ?_
    refine D_end ?_
    refine x_then ?_
    refine C_seq ?_
    refine C_if _ rfl (fun h2 => ?_) (fun h2 => ?_)
    · have pr2 : (((k : Nat) : Int) : Int) < ((l.length : Nat) : Int) := of_decide_eq_true h2
      refine C_skip ?_
      refine x_then ?_
      refine C_seq ?_
      refine C_block ?_
      refine C_seq ?_
      refine C_reg ?_
      refine p1 rfl ?_
      obtain ⟨x3, hx4⟩ := some_of_lt (l := l) (i := k) (by omega)
      obtain ⟨es5, at6, hr7⟩ := rd_elem (n := 1) rfl h_l hx4
      obtain rfl : es5 = [.int .i64 x3] := hr7
      refine q1 rfl (D_ix (l := l) (j := k) s_27 rfl rfl rfl (fun w' hs => (rd_at hs h_l)) rfl (lt_of_some hx4)) ?_
      refine q1 rfl (lr0 o_3 rfl rfl at6 rfl) ?_
      refine p1 rfl <| p1 rfl ?_
      refine D_end ?_
      refine x_then ?_
      refine C_seq ?_
      refine C_reg ?_
      refine p1 rfl <| p1 rfl <| p1 rfl ?_
      refine gs 16 rfl rfl (fun h8 => ?_) (fun h8 => ?_)
      · have pr8 : (x3 : Int) < 0 := of_decide_eq_true h8
        refine n1 rfl ?_
        refine n1 rfl ?_
        refine n1 rfl ?_
        refine p1 rfl <| p1 rfl ?_
        refine n1 rfl ?_
        refine n1 rfl ?_
        refine n1 rfl ?_
        refine n1 rfl ?_
        refine n1 rfl ?_
        refine n1 rfl ?_
        refine n1 rfl ?_
        refine n1 rfl ?_
        refine n1 rfl ?_
        refine n1 rfl ?_
        refine n1 rfl ?_
        refine p1 rfl ?_
        refine D_end ?_
        refine x_then ?_
        refine D_weak [(0, v_l), (1, (.int .i64 n)), (7, v_l), (8, (.int .i64 ((l.length : Nat) : Int))), (9, (.int .i64 ((k : Nat) : Int))), (33, (.bool true))] ⟨rfl, rfl, rfl, rfl, rfl, rfl, trivial⟩ ?_
        refine C_t rfl ?_
        refine C_seq ?_
        refine C_reg ?_
        refine p1 rfl ?_
        refine D_end ?_
        refine x_then ?_
        refine C_ret ?_
        refine x_blk_ret ?_
        refine x_then_ret ?_
        refine x_then_ret ?_
        refine x_blk_ret ?_
        refine x_then_ret ?_
        refine R_1 rfl rfl fun w' hs => ⟨congrArg (fun z => Ending.returned (Value.bool z)) ?_, hs.bel⟩
        show (false : Bool) = asc l n
        first | exact (asc_bad (k := k) (by omega) (by simp_all [ascAt]; try omega)).symm | exact (asc_all (fun i hi2 => hi i (by omega))).symm
      · have pr8 : ¬ (x3 : Int) < 0 := of_decide_eq_false h8
        refine p1 rfl <| p1 rfl <| p1 rfl <| p1 rfl <| p1 rfl ?_
        refine gs 21 rfl rfl (fun h9 => ?_) (fun h9 => ?_)
        · have pr9 : (n : Int) ≤ x3 := of_decide_eq_true h9
          refine n1 rfl ?_
          refine n1 rfl ?_
          refine n1 rfl ?_
          refine n1 rfl ?_
          refine n1 rfl ?_
          refine n1 rfl ?_
          refine n1 rfl ?_
          refine n1 rfl ?_
          refine n1 rfl ?_
          refine n1 rfl ?_
          refine n1 rfl ?_
          refine p1 rfl ?_
          refine D_end ?_
          refine x_then ?_
          refine D_weak [(0, v_l), (1, (.int .i64 n)), (7, v_l), (8, (.int .i64 ((l.length : Nat) : Int))), (9, (.int .i64 ((k : Nat) : Int))), (33, (.bool true))] ⟨rfl, rfl, rfl, rfl, rfl, rfl, trivial⟩ ?_
          refine C_t rfl ?_
          refine C_seq ?_
          refine C_reg ?_
          refine p1 rfl ?_
          refine D_end ?_
          refine x_then ?_
          refine C_ret ?_
          refine x_blk_ret ?_
          refine x_then_ret ?_
          refine x_then_ret ?_
          refine x_blk_ret ?_
          refine x_then_ret ?_
          refine R_1 rfl rfl fun w' hs => ⟨congrArg (fun z => Ending.returned (Value.bool z)) ?_, hs.bel⟩
          show (false : Bool) = asc l n
          first | exact (asc_bad (k := k) (by omega) (by simp_all [ascAt]; try omega)).symm | exact (asc_all (fun i hi2 => hi i (by omega))).symm
        · have pr9 : ¬ (n : Int) ≤ x3 := of_decide_eq_false h9
          refine p1 rfl <| p1 rfl <| p1 rfl ?_
          refine gs 24 rfl rfl (fun h10 => ?_) (fun h10 => ?_)
          · have pr10 : (0 : Int) < ((k : Nat) : Int) := of_decide_eq_true h10
            refine p1 rfl <| p1 rfl ?_
            refine q1 rfl (D_sub rfl rfl rfl (r := ((k - 1 : Nat) : Int)) (by omega) (by omega)) ?_
            obtain ⟨x11, hx12⟩ := some_of_lt (l := l) (i := (k - 1)) (by omega)
            obtain ⟨es13, at14, hr15⟩ := rd_elem (n := 1) rfl h_l hx12
            obtain rfl : es13 = [.int .i64 x11] := hr15
            refine q1 rfl (D_ix (l := l) (j := (k - 1)) s_27 rfl rfl rfl (fun w' hs => (rd_at hs h_l)) rfl (lt_of_some hx12)) ?_
            refine q1 rfl (lr0 o_3 rfl rfl at14 rfl) ?_
            refine p1 rfl <| p1 rfl <| p1 rfl <| p1 rfl ?_
            refine D_end ?_
            refine x_then ?_
            refine D_weak [(0, v_l), (1, (.int .i64 n)), (7, v_l), (8, (.int .i64 ((l.length : Nat) : Int))), (9, (.int .i64 ((k : Nat) : Int))), (33, (.bool (decide ((x3 : Int) ≤ x11))))] ⟨rfl, rfl, rfl, rfl, rfl, rfl, trivial⟩ ?_
            refine C_if _ rfl (fun h16 => ?_) (fun h16 => ?_)
            · have pr16 : (x3 : Int) ≤ x11 := of_decide_eq_true h16
              refine C_seq ?_
              refine C_reg ?_
              refine p1 rfl ?_
              refine D_end ?_
              refine x_then ?_
              refine C_ret ?_
              refine x_blk_ret ?_
              refine x_then_ret ?_
              refine x_then_ret ?_
              refine x_blk_ret ?_
              refine x_then_ret ?_
              refine R_1 rfl rfl fun w' hs => ⟨congrArg (fun z => Ending.returned (Value.bool z)) ?_, hs.bel⟩
              show (false : Bool) = asc l n
              first | exact (asc_bad (k := k) (by omega) (by simp_all [ascAt]; try omega)).symm | exact (asc_all (fun i hi2 => hi i (by omega))).symm
            · have pr16 : ¬ (x3 : Int) ≤ x11 := of_decide_eq_false h16
              refine C_skip ?_
              refine x_blk ?_
              refine x_then ?_
              refine C_reg ?_
              refine q1 rfl (D_add rfl rfl rfl (r := ((k + 1 : Nat) : Int)) (by omega) (by omega)) ?_
              refine p1 rfl ?_
              refine D_end ?_
              refine x_then ?_
              refine fun ac w' hf hs => ⟨_, ?_, k + 1, ?_, ?_, rfl, hf.weak ⟨rfl, rfl, rfl, rfl, rfl, trivial⟩, hs⟩
              · omega
              · first | assumption | omega | simp
              · exact forall_step hi (by simp_all [ascAt]; try omega)
          · have pr10 : ¬ (0 : Int) < ((k : Nat) : Int) := of_decide_eq_false h10
            refine n1 rfl ?_
            refine n1 rfl ?_
            refine n1 rfl ?_
            refine n1 rfl ?_
            refine n1 rfl ?_
            refine n1 rfl ?_
            refine n1 rfl ?_
            refine p1 rfl <| p1 rfl ?_
            refine D_end ?_
            refine x_then ?_
            refine D_weak [(0, v_l), (1, (.int .i64 n)), (7, v_l), (8, (.int .i64 ((l.length : Nat) : Int))), (9, (.int .i64 ((k : Nat) : Int))), (33, (.bool false))] ⟨rfl, rfl, rfl, rfl, rfl, rfl, trivial⟩ ?_
            refine C_f rfl ?_
            refine C_skip ?_
            refine x_blk ?_
            refine x_then ?_
            refine C_reg ?_
            refine q1 rfl (D_add rfl rfl rfl (r := ((k + 1 : Nat) : Int)) (by omega) (by omega)) ?_
            refine p1 rfl ?_
            refine D_end ?_
            refine x_then ?_
            refine fun ac w' hf hs => ⟨_, ?_, k + 1, ?_, ?_, rfl, hf.weak ⟨rfl, rfl, rfl, rfl, rfl, trivial⟩, hs⟩
            · omega
            · first | assumption | omega | simp
            · exact forall_step hi (by simp_all [ascAt]; try omega)
    · have pr2 : ¬ (((k : Nat) : Int) : Int) < ((l.length : Nat) : Int) := of_decide_eq_false h2
      refine C_exit ?_
      refine x_then_exit ?_
      refine x_then_exit ?_
      refine x_blk_eq ?_
      refine x_then ?_
      refine C_seq ?_
      refine C_reg ?_
      refine p1 rfl ?_
      refine D_end ?_
      refine x_then ?_
      refine C_ret ?_
      refine R_1 rfl rfl fun w' hs => ⟨congrArg (fun z => Ending.returned (Value.bool z)) ?_, hs.bel⟩
      show (true : Bool) = asc l n
      first | exact (asc_bad (k := k) (by omega) (by simp_all [ascAt]; try omega)).symm | exact (asc_all (fun i hi2 => hi i (by omega))).symm

theorem spec_l1In (w : World) (x : Int) (least : Int) (most : Int) : Calls Try.prog 47 [(.int .i64 x), (.int .i64 least), (.int .i64 most)].toArray w (Val w (.bool (inR x least most))) := by
  refine enter 15 Try.func47 rfl rfl rfl ?_
  refine C_seq ?_
  refine C_reg ?_
  refine p1 rfl ?_
  refine D_end ?_
  refine x_then ?_
  refine C_seq ?_
  refine C_reg ?_
  refine p1 rfl <| p1 rfl <| p1 rfl <| p1 rfl ?_
  refine gs 10 rfl rfl (fun h1 => ?_) (fun h1 => ?_)
  · have pr1 : (least : Int) ≤ x := of_decide_eq_true h1
    refine p1 rfl <| p1 rfl <| p1 rfl <| p1 rfl <| p1 rfl ?_
    refine D_end ?_
    refine x_then ?_
    refine C_ret ?_
    refine R_1 rfl rfl fun w' hs => ⟨congrArg (fun z => Ending.returned (Value.bool z)) ?_, hs.bel⟩
    show ((decide ((x : Int) ≤ most)) : Bool) = inR x least most
    simp_all [inR]; try omega
  · have pr1 : ¬ (least : Int) ≤ x := of_decide_eq_false h1
    refine n1 rfl ?_
    refine n1 rfl ?_
    refine n1 rfl ?_
    refine p1 rfl <| p1 rfl ?_
    refine D_end ?_
    refine x_then ?_
    refine C_ret ?_
    refine R_1 rfl rfl fun w' hs => ⟨congrArg (fun z => Ending.returned (Value.bool z)) ?_, hs.bel⟩
    show (false : Bool) = inR x least most
    simp_all [inR]; try omega

theorem spec_l11List (w : World) (v_l : Value) (l : (List Int)) (n : Int) (h_l : Gd.rd w [v_l] l) : Calls Try.prog 27 [v_l, (.int .i64 n)].toArray w (Val w (.bool (ascW l n))) := by
  have hm1 := rd_max h_l
  refine enter 36 Try.func27 rfl rfl rfl ?_
  refine C_seq ?_
  refine C_reg ?_
  refine p1 rfl ?_
  refine D_end ?_
  refine x_then ?_
  refine C_seq ?_
  refine C_seq ?_
  refine C_reg ?_
  refine p1 rfl ?_
  refine D_end ?_
  refine x_then ?_
  refine C_block ?_
  refine C_loop (fun m_ ac w' => ∃ (k : Nat), (k ≤ l.length) ∧ (∀ i, i < k → ascAtW l n i = true) ∧ m_ = l.length - k ∧ Fits ac 36 [(0, v_l), (1, (.int .i64 n)), (5, (.int .i64 ((k : Nat) : Int)))] ∧ St w ([]) w') ?_ ?_
  · refine fun ac w' hf hs => ⟨_, 0, ?_, ?_, rfl, hf.weak ⟨rfl, rfl, rfl, trivial⟩, hs⟩
    · first | assumption | omega | simp
    · intro i hi; omega
  · rintro m_ ac w' ⟨k, hk, hi, rfl, hf, hs⟩
    refine D.use ?_ hf hs
    clear hf hs ac w'
    refine C_seq ?_
    refine C_seq ?_
    refine C_reg ?_
    refine p1 rfl <| p1 rfl ?_
    refine q1 rfl (D_len s_27 rfl rfl (rd_sl h_l)) ?_
    refine p1 rfl ?_
    refine D_end ?_
    refine x_then ?_
    refine C_if _ rfl (fun h2 => ?_) (fun h2 => ?_)
    · have pr2 : (((k : Nat) : Int) : Int) < ((l.length : Nat) : Int) := of_decide_eq_true h2
      refine C_skip ?_
      refine x_then ?_
      refine C_seq ?_
      refine C_block ?_
      refine C_seq ?_
      refine C_draw mixed [6, 7, 8, 9, 10, 11, 21, 22, 23] (by kernel_rfl) ?_
      refine tk 0 rfl (by kernel_rfl) (by kernel_rfl) (by kernel_rfl) rfl (fun _ hs => hs) (rp rfl) ?_
      refine tk 1 rfl (by kernel_rfl) (by kernel_rfl) (by kernel_rfl) rfl (fun _ hs => hs) (rp rfl) ?_
      obtain ⟨x3, hx4⟩ := some_of_lt (l := l) (i := k) (by omega)
      obtain ⟨es5, at6, hr7⟩ := rd_elem (n := 1) rfl h_l hx4
      obtain rfl : es5 = [.int .i64 x3] := hr7
      refine tk 2 rfl (by kernel_rfl) (by kernel_rfl) (by kernel_rfl) rfl (fun _ hs => hs) (D_ix (l := l) (j := k) s_27 rfl rfl rfl (fun w' hs => (rd_at hs h_l)) rfl (lt_of_some hx4)) ?_
      refine tk 3 rfl (by kernel_rfl) (by kernel_rfl) (by kernel_rfl) rfl (fun _ hs => hs) (lr0 o_3 rfl rfl at6 rfl) ?_
      refine tk 4 rfl (by kernel_rfl) (by kernel_rfl) (by kernel_rfl) rfl (fun _ hs => hs) (rp rfl) ?_
      refine tk 5 rfl (by kernel_rfl) (by kernel_rfl) (by kernel_rfl) rfl (fun _ hs => hs) (D_subw rfl rfl rfl) ?_
      refine ty 6 rfl (by kernel_rfl) rfl (cv b_47 rfl rfl rfl rfl (fun w' hs => (spec_l1In w' x3 0 (wr (n - 1)))) ?_)
      refine tZ rfl ?_
      refine ty 7 rfl (by kernel_rfl) rfl (sv rfl rfl (rp rfl) ?_)
      refine tZ rfl ?_
      refine ty 8 rfl (by kernel_rfl) rfl (sv rfl rfl (rp rfl) ?_)
      refine tZ rfl ?_
      refine gs 20 rfl rfl (fun h8 => ?_) (fun h8 => ?_)
      · have h8n : (inR x3 0 (wr (n - 1))) = false := not_t h8
        refine tn 9 rfl (by kernel_rfl) (by kernel_rfl) (by kernel_rfl) rfl rfl rfl (fun _ hs => hs) ?_
        refine tn 10 rfl (by kernel_rfl) (by kernel_rfl) (by kernel_rfl) rfl rfl rfl (fun _ hs => hs) ?_
        refine tn 11 rfl (by kernel_rfl) (by kernel_rfl) (by kernel_rfl) rfl rfl rfl (fun _ hs => hs) ?_
        refine tn 12 rfl (by kernel_rfl) (by kernel_rfl) (by kernel_rfl) rfl rfl rfl (fun _ hs => hs) ?_
        refine tn 13 rfl (by kernel_rfl) (by kernel_rfl) (by kernel_rfl) rfl rfl rfl (fun _ hs => hs) ?_
        refine tn 14 rfl (by kernel_rfl) (by kernel_rfl) (by kernel_rfl) rfl rfl rfl (fun _ hs => hs) ?_
        refine tn 15 rfl (by kernel_rfl) (by kernel_rfl) (by kernel_rfl) rfl rfl rfl (fun _ hs => hs) ?_
        refine tn 16 rfl (by kernel_rfl) (by kernel_rfl) (by kernel_rfl) rfl rfl rfl (fun _ hs => hs) ?_
        refine tn 17 rfl (by kernel_rfl) (by kernel_rfl) (by kernel_rfl) rfl rfl rfl (fun _ hs => hs) ?_
        refine tn 18 rfl (by kernel_rfl) (by kernel_rfl) (by kernel_rfl) rfl rfl rfl (fun _ hs => hs) ?_
        refine tn 19 rfl (by kernel_rfl) (by kernel_rfl) (by kernel_rfl) rfl rfl rfl (fun _ hs => hs) ?_
        refine tn 20 rfl (by kernel_rfl) (by kernel_rfl) (by kernel_rfl) rfl rfl rfl (fun _ hs => hs) ?_
        refine tn 21 rfl (by kernel_rfl) (by kernel_rfl) (by kernel_rfl) rfl rfl rfl (fun _ hs => hs) ?_
        refine tn 22 rfl (by kernel_rfl) (by kernel_rfl) (by kernel_rfl) rfl rfl rfl (fun _ hs => hs) ?_
        refine ty 23 rfl (by kernel_rfl) rfl (sv rfl rfl (rp rfl) ?_)
        refine tZ rfl ?_
        refine tE (by kernel_rfl) ?_
        refine x_then ?_
        refine D_weak [(0, v_l), (1, (.int .i64 n)), (5, (.int .i64 ((k : Nat) : Int))), (35, (.bool true))] ⟨rfl, rfl, rfl, rfl, trivial⟩ ?_
        refine C_t rfl ?_
        refine C_seq ?_
        refine C_reg ?_
        refine p1 rfl ?_
        refine D_end ?_
        refine x_then ?_
        refine C_ret ?_
        refine x_blk_ret ?_
        refine x_then_ret ?_
        refine x_then_ret ?_
        refine x_blk_ret ?_
        refine x_then_ret ?_
        refine R_1 rfl rfl fun w' hs => ⟨congrArg (fun z => Ending.returned (Value.bool z)) ?_, hs.bel⟩
        show (false : Bool) = ascW l n
        first | exact (ascW_bad (k := k) (by omega) (by simp_all [ascAtW, inR]; try omega)).symm | exact (ascW_all (fun i hi2 => hi i (by omega))).symm
      · have h8n : (inR x3 0 (wr (n - 1))) = true := not_f h8
        refine ty 9 rfl (by kernel_rfl) rfl (sv rfl rfl (rp rfl) ?_)
        refine tZ rfl ?_
        refine ty 10 rfl (by kernel_rfl) rfl (sv rfl rfl (rp rfl) ?_)
        refine tZ rfl ?_
        refine ty 11 rfl (by kernel_rfl) rfl (sv rfl rfl (rp rfl) ?_)
        refine tZ rfl ?_
        refine gs 23 rfl rfl (fun h9 => ?_) (fun h9 => ?_)
        · have pr9 : (0 : Int) < ((k : Nat) : Int) := of_decide_eq_true h9
          refine tk 12 rfl (by kernel_rfl) (by kernel_rfl) (by kernel_rfl) rfl (fun _ hs => hs) (rp rfl) ?_
          refine tk 13 rfl (by kernel_rfl) (by kernel_rfl) (by kernel_rfl) rfl (fun _ hs => hs) (rp rfl) ?_
          refine tk 14 rfl (by kernel_rfl) (by kernel_rfl) (by kernel_rfl) rfl (fun _ hs => hs) (D_sub rfl rfl rfl (r := ((k - 1 : Nat) : Int)) (by omega) (by omega)) ?_
          obtain ⟨x10, hx11⟩ := some_of_lt (l := l) (i := (k - 1)) (by omega)
          obtain ⟨es12, at13, hr14⟩ := rd_elem (n := 1) rfl h_l hx11
          obtain rfl : es12 = [.int .i64 x10] := hr14
          refine tk 15 rfl (by kernel_rfl) (by kernel_rfl) (by kernel_rfl) rfl (fun _ hs => hs) (D_ix (l := l) (j := (k - 1)) s_27 rfl rfl rfl (fun w' hs => (rd_at hs h_l)) rfl (lt_of_some hx11)) ?_
          refine tk 16 rfl (by kernel_rfl) (by kernel_rfl) (by kernel_rfl) rfl (fun _ hs => hs) (lr0 o_3 rfl rfl at13 rfl) ?_
          refine tk 17 rfl (by kernel_rfl) (by kernel_rfl) (by kernel_rfl) rfl (fun _ hs => hs) (rp rfl) ?_
          refine tk 18 rfl (by kernel_rfl) (by kernel_rfl) (by kernel_rfl) rfl (fun _ hs => hs) (rp rfl) ?_
          refine tk 19 rfl (by kernel_rfl) (by kernel_rfl) (by kernel_rfl) rfl (fun _ hs => hs) (D_ix (l := l) (j := k) s_27 rfl rfl rfl (fun w' hs => (rd_at hs h_l)) rfl (lt_of_some hx4)) ?_
          refine tk 20 rfl (by kernel_rfl) (by kernel_rfl) (by kernel_rfl) rfl (fun _ hs => hs) (lr0 o_3 rfl rfl at6 rfl) ?_
          refine ty 21 rfl (by kernel_rfl) rfl (sv rfl rfl (rp rfl) ?_)
          refine tZ rfl ?_
          refine ty 22 rfl (by kernel_rfl) rfl (sv rfl rfl (rp rfl) ?_)
          refine tZ rfl ?_
          refine ty 23 rfl (by kernel_rfl) rfl (sv rfl rfl (rp rfl) ?_)
          refine tZ rfl ?_
          refine tE (by kernel_rfl) ?_
          refine x_then ?_
          refine D_weak [(0, v_l), (1, (.int .i64 n)), (5, (.int .i64 ((k : Nat) : Int))), (35, (.bool (decide ((x3 : Int) ≤ x10))))] ⟨rfl, rfl, rfl, rfl, trivial⟩ ?_
          refine C_if _ rfl (fun h15 => ?_) (fun h15 => ?_)
          · have pr15 : (x3 : Int) ≤ x10 := of_decide_eq_true h15
            refine C_seq ?_
            refine C_reg ?_
            refine p1 rfl ?_
            refine D_end ?_
            refine x_then ?_
            refine C_ret ?_
            refine x_blk_ret ?_
            refine x_then_ret ?_
            refine x_then_ret ?_
            refine x_blk_ret ?_
            refine x_then_ret ?_
            refine R_1 rfl rfl fun w' hs => ⟨congrArg (fun z => Ending.returned (Value.bool z)) ?_, hs.bel⟩
            show (false : Bool) = ascW l n
            first | exact (ascW_bad (k := k) (by omega) (by simp_all [ascAtW, inR]; try omega)).symm | exact (ascW_all (fun i hi2 => hi i (by omega))).symm
          · have pr15 : ¬ (x3 : Int) ≤ x10 := of_decide_eq_false h15
            refine C_skip ?_
            refine x_blk ?_
            refine x_then ?_
            refine C_reg ?_
            refine p1 rfl ?_
            refine q1 rfl (D_add rfl rfl rfl (r := ((k + 1 : Nat) : Int)) (by omega) (by omega)) ?_
            refine p1 rfl ?_
            refine D_end ?_
            refine x_then ?_
            refine fun ac w' hf hs => ⟨_, ?_, k + 1, ?_, ?_, rfl, hf.weak ⟨rfl, rfl, rfl, trivial⟩, hs⟩
            · omega
            · first | assumption | omega | simp
            · exact forall_step hi (by simp_all [ascAtW, inR]; try omega)
        · have pr9 : ¬ (0 : Int) < ((k : Nat) : Int) := of_decide_eq_false h9
          refine tn 12 rfl (by kernel_rfl) (by kernel_rfl) (by kernel_rfl) rfl rfl rfl (fun _ hs => hs) ?_
          refine tn 13 rfl (by kernel_rfl) (by kernel_rfl) (by kernel_rfl) rfl rfl rfl (fun _ hs => hs) ?_
          refine tn 14 rfl (by kernel_rfl) (by kernel_rfl) (by kernel_rfl) rfl rfl rfl (fun _ hs => hs) ?_
          refine tn 15 rfl (by kernel_rfl) (by kernel_rfl) (by kernel_rfl) rfl rfl rfl (fun _ hs => hs) ?_
          refine tn 16 rfl (by kernel_rfl) (by kernel_rfl) (by kernel_rfl) rfl rfl rfl (fun _ hs => hs) ?_
          refine tn 17 rfl (by kernel_rfl) (by kernel_rfl) (by kernel_rfl) rfl rfl rfl (fun _ hs => hs) ?_
          refine tn 18 rfl (by kernel_rfl) (by kernel_rfl) (by kernel_rfl) rfl rfl rfl (fun _ hs => hs) ?_
          refine tn 19 rfl (by kernel_rfl) (by kernel_rfl) (by kernel_rfl) rfl rfl rfl (fun _ hs => hs) ?_
          refine tn 20 rfl (by kernel_rfl) (by kernel_rfl) (by kernel_rfl) rfl rfl rfl (fun _ hs => hs) ?_
          refine tn 21 rfl (by kernel_rfl) (by kernel_rfl) (by kernel_rfl) rfl rfl rfl (fun _ hs => hs) ?_
          refine ty 22 rfl (by kernel_rfl) rfl (sv rfl rfl (rp rfl) ?_)
          refine tZ rfl ?_
          refine ty 23 rfl (by kernel_rfl) rfl (sv rfl rfl (rp rfl) ?_)
          refine tZ rfl ?_
          refine tE (by kernel_rfl) ?_
          refine x_then ?_
          refine D_weak [(0, v_l), (1, (.int .i64 n)), (5, (.int .i64 ((k : Nat) : Int))), (35, (.bool false))] ⟨rfl, rfl, rfl, rfl, trivial⟩ ?_
          refine C_f rfl ?_
          refine C_skip ?_
          refine x_blk ?_
          refine x_then ?_
          refine C_reg ?_
          refine p1 rfl ?_
          refine q1 rfl (D_add rfl rfl rfl (r := ((k + 1 : Nat) : Int)) (by omega) (by omega)) ?_
          refine p1 rfl ?_
          refine D_end ?_
          refine x_then ?_
          refine fun ac w' hf hs => ⟨_, ?_, k + 1, ?_, ?_, rfl, hf.weak ⟨rfl, rfl, rfl, trivial⟩, hs⟩
          · omega
          · first | assumption | omega | simp
          · exact forall_step hi (by simp_all [ascAtW, inR]; try omega)
    · have pr2 : ¬ (((k : Nat) : Int) : Int) < ((l.length : Nat) : Int) := of_decide_eq_false h2
      refine C_exit ?_
      refine x_then_exit ?_
      refine x_then_exit ?_
      refine x_blk_eq ?_
      refine x_then ?_
      refine C_seq ?_
      refine C_reg ?_
      refine p1 rfl ?_
      refine D_end ?_
      refine x_then ?_
      refine C_ret ?_
      refine R_1 rfl rfl fun w' hs => ⟨congrArg (fun z => Ending.returned (Value.bool z)) ?_, hs.bel⟩
      show (true : Bool) = ascW l n
      first | exact (ascW_bad (k := k) (by omega) (by simp_all [ascAtW, inR]; try omega)).symm | exact (ascW_all (fun i hi2 => hi i (by omega))).symm

set_option maxHeartbeats 4000000 in
theorem impl_IsBeliefs (w : World) (c_b : List Value) (b : Beliefs) (h_b : Gd.rd w c_b b) : Calls Try.prog 57 [(.agg c_b.toArray)].toArray w (Val w (.bool (isBeliefs b))) := by
  obtain ⟨u1, rfl, hu2⟩ := open_Beliefs h_b
  have hm3 := rd_max hu2
  refine enter 53 Try.func57 rfl rfl rfl ?_
  refine C_seq ?_
  refine C_reg ?_
  refine li rfl (D_box rfl rfl rfl rfl rfl fun g4 => ?_)
  refine p1 rfl ?_
  refine D_end ?_
  refine x_then ?_
  refine D_H ([bx g4 [(.int .i64 b.Nodes), u1]]) rfl ?_
  refine C_seq ?_
  refine C_seq ?_
  refine C_reg ?_
  refine q1 rfl (D_fb f_26_0 rfl rfl (q := 0) rfl) ?_
  refine q1 rfl (lb 0 o_3 rfl rfl rfl rfl) ?_
  refine p1 rfl <| p1 rfl ?_
  refine gs 8 rfl rfl (fun h5 => ?_) (fun h5 => ?_)
  · have pr5 : (b.Nodes : Int) < 0 := of_decide_eq_true h5
    refine n1 rfl ?_
    refine n1 rfl ?_
    refine n1 rfl ?_
    refine p1 rfl <| p1 rfl ?_
    refine n1 rfl ?_
    refine n1 rfl ?_
    refine n1 rfl ?_
    refine n1 rfl ?_
    refine p1 rfl ?_
    refine D_end ?_
    refine x_then ?_
    refine D_weak [(1, (.pointer (some ⟨g4, 0, none⟩))), (18, (.bool true))] ⟨rfl, rfl, trivial⟩ ?_
    refine C_t rfl ?_
    refine C_seq ?_
    refine C_reg ?_
    refine p1 rfl ?_
    refine D_end ?_
    refine x_then ?_
    refine C_ret ?_
    refine x_then_ret ?_
    refine R_1 rfl rfl fun w' hs => ⟨congrArg (fun z => Ending.returned (Value.bool z)) ?_, hs.bel⟩
    show (false : Bool) = isBeliefs b
    exact isB_hd (by omega)
  · have pr5 : ¬ (b.Nodes : Int) < 0 := of_decide_eq_false h5
    refine q1 rfl (D_fb f_26_0 rfl rfl (q := 0) rfl) ?_
    refine q1 rfl (lb 0 o_3 rfl rfl rfl rfl) ?_
    refine p1 rfl <| p1 rfl <| p1 rfl ?_
    refine gs 13 rfl rfl (fun h6 => ?_) (fun h6 => ?_)
    · have pr6 : (24 : Int) < b.Nodes := of_decide_eq_true h6
      refine n1 rfl ?_
      refine n1 rfl ?_
      refine n1 rfl ?_
      refine n1 rfl ?_
      refine p1 rfl ?_
      refine D_end ?_
      refine x_then ?_
      refine D_weak [(1, (.pointer (some ⟨g4, 0, none⟩))), (18, (.bool true))] ⟨rfl, rfl, trivial⟩ ?_
      refine C_t rfl ?_
      refine C_seq ?_
      refine C_reg ?_
      refine p1 rfl ?_
      refine D_end ?_
      refine x_then ?_
      refine C_ret ?_
      refine x_then_ret ?_
      refine R_1 rfl rfl fun w' hs => ⟨congrArg (fun z => Ending.returned (Value.bool z)) ?_, hs.bel⟩
      show (false : Bool) = isBeliefs b
      exact isB_hd (by omega)
    · have pr6 : ¬ (24 : Int) < b.Nodes := of_decide_eq_false h6
      refine q1 rfl (D_fb f_26_1 rfl rfl (q := 1) rfl) ?_
      refine q1 rfl (lb 0 o_24 rfl rfl rfl rfl) ?_
      refine q1 rfl (D_len s_24 rfl rfl (rd_sl hu2)) ?_
      refine p1 rfl <| p1 rfl ?_
      refine D_end ?_
      refine x_then ?_
      refine D_weak [(1, (.pointer (some ⟨g4, 0, none⟩))), (18, (.bool (decide ((60 : Int) < ((b.Reasons.length : Nat) : Int)))))] ⟨rfl, rfl, trivial⟩ ?_
      refine C_if _ rfl (fun h7 => ?_) (fun h7 => ?_)
      · have pr7 : (60 : Int) < ((b.Reasons.length : Nat) : Int) := of_decide_eq_true h7
        refine C_seq ?_
        refine C_reg ?_
        refine p1 rfl ?_
        refine D_end ?_
        refine x_then ?_
        refine C_ret ?_
        refine x_then_ret ?_
        refine R_1 rfl rfl fun w' hs => ⟨congrArg (fun z => Ending.returned (Value.bool z)) ?_, hs.bel⟩
        show (false : Bool) = isBeliefs b
        exact isB_hd (by omega)
      · have pr7 : ¬ (60 : Int) < ((b.Reasons.length : Nat) : Int) := of_decide_eq_false h7
        refine C_skip ?_
        refine x_then ?_
        refine C_seq ?_
        refine C_seq ?_
        refine C_reg ?_
        refine q1 rfl (D_fb f_26_1 rfl rfl (q := 1) rfl) ?_
        refine q1 rfl (lb 0 o_24 rfl rfl rfl rfl) ?_
        refine q1 rfl (D_len s_24 rfl rfl (rd_sl hu2)) ?_
        refine p1 rfl ?_
        refine D_end ?_
        refine x_then ?_
        refine C_block ?_
        refine C_loop (fun m_ ac w' => ∃ (k : Nat), (k ≤ b.Reasons.length) ∧ (∀ i, i < k → ∀ r, b.Reasons[i]? = some r → isReason r b.Nodes = true) ∧ m_ = b.Reasons.length - k ∧ Fits ac 53 [(1, (.pointer (some ⟨g4, 0, none⟩))), (20, u1), (21, (.int .i64 ((b.Reasons.length : Nat) : Int))), (22, (.int .i64 ((k : Nat) : Int)))] ∧ St w ([bx g4 [(.int .i64 b.Nodes), u1]]) w') ?_ ?_
        · refine fun ac w' hf hs => ⟨_, 0, ?_, ?_, rfl, hf.weak ⟨rfl, rfl, rfl, rfl, trivial⟩, hs⟩
          · first | assumption | omega | simp
          · intro i hi; omega
        · rintro m_ ac w' ⟨k, hk, hi, rfl, hf, hs⟩
          refine D.use ?_ hf hs
          clear hf hs ac w'
          refine C_seq ?_
          refine C_reg ?_
          refine p1 rfl ?_
          refine D_end ?_
          refine x_then ?_
          refine C_seq ?_
          refine C_if _ rfl (fun h8 => ?_) (fun h8 => ?_)
          · have pr8 : (((k : Nat) : Int) : Int) < ((b.Reasons.length : Nat) : Int) := of_decide_eq_true h8
            refine C_skip ?_
            refine x_then ?_
            refine C_seq ?_
            refine C_block ?_
            refine C_seq ?_
            refine C_reg ?_
            obtain ⟨x9, hx10⟩ := some_of_lt (l := b.Reasons) (i := k) (by omega)
            obtain ⟨es11, at12, hr13⟩ := rd_elem (n := 3) rfl hu2 hx10
            obtain ⟨u14, u17, rfl, hu15, hu18⟩ := open_Reason hr13
            have hm19 := rd_max hu15
            have hm20 := rd_max hu18
            refine q1 rfl (D_ix (l := b.Reasons) (j := k) s_24 rfl rfl rfl (fun w' hs => (rd_at hs hu2)) rfl (lt_of_some hx10)) ?_
            refine q1 rfl (lra a_31 rfl rfl at12) ?_
            refine li rfl (D_alloc y_31 rfl rfl rfl rfl fun g21 => ?_)
            refine li rfl (D_stb (vs := [(.int .i64 x9.For), u14, u17]) (cs' := [(.int .i64 x9.For), u14, u17]) 0 z_31 rfl rfl rfl rfl rfl rfl (ocons rfl (ocons (one_rd hu15) (ocons (one_rd hu18) onil))) (by simp) rfl ?_)
            refine D_end ?_
            refine x_then ?_
            refine D_H ([bx g21 [(.int .i64 x9.For), u14, u17], bx g4 [(.int .i64 b.Nodes), u1]]) rfl ?_
            refine C_seq ?_
            refine C_reg ?_
            refine q1 rfl (D_fb f_31_0 rfl rfl (q := 0) rfl) ?_
            refine q1 rfl (lb 0 o_3 rfl rfl rfl rfl) ?_
            refine p1 rfl <| p1 rfl ?_
            refine gs 29 rfl rfl (fun h22 => ?_) (fun h22 => ?_)
            · have pr22 : (x9.For : Int) < 0 := of_decide_eq_true h22
              refine n1 rfl ?_
              refine n1 rfl ?_
              refine n1 rfl ?_
              refine n1 rfl ?_
              refine n1 rfl ?_
              refine p1 rfl <| p1 rfl ?_
              refine n1 rfl ?_
              refine n1 rfl ?_
              refine n1 rfl ?_
              refine n1 rfl ?_
              refine n1 rfl ?_
              refine n1 rfl ?_
              refine p1 rfl <| p1 rfl ?_
              refine n1 rfl ?_
              refine n1 rfl ?_
              refine n1 rfl ?_
              refine n1 rfl ?_
              refine n1 rfl ?_
              refine n1 rfl ?_
              refine p1 rfl ?_
              refine D_end ?_
              refine x_then ?_
              refine D_weak [(1, (.pointer (some ⟨g4, 0, none⟩))), (20, u1), (21, (.int .i64 ((b.Reasons.length : Nat) : Int))), (22, (.int .i64 ((k : Nat) : Int))), (51, (.bool true))] ⟨rfl, rfl, rfl, rfl, rfl, trivial⟩ ?_
              refine D_sel (H' := [bx g4 [(.int .i64 b.Nodes), u1]]) [false, true] rfl ?_
              refine C_t rfl ?_
              refine C_seq ?_
              refine C_reg ?_
              refine p1 rfl ?_
              refine D_end ?_
              refine x_then ?_
              refine C_ret ?_
              refine x_blk_ret ?_
              refine x_then_ret ?_
              refine x_then_ret ?_
              refine x_blk_ret ?_
              refine x_then_ret ?_
              refine R_1 rfl rfl fun w' hs => ⟨congrArg (fun z => Ending.returned (Value.bool z)) ?_, hs.bel⟩
              show (false : Bool) = isBeliefs b
              exact isB_bad (by assumption) (by simp_all [isReason]; try omega)
            · have pr22 : ¬ (x9.For : Int) < 0 := of_decide_eq_false h22
              refine q1 rfl (D_fb f_31_0 rfl rfl (q := 0) rfl) ?_
              refine q1 rfl (lb 0 o_3 rfl rfl rfl rfl) ?_
              refine q1 rfl (D_fb f_26_0 rfl rfl (q := 0) rfl) ?_
              refine q1 rfl (lb 1 o_3 rfl rfl rfl rfl) ?_
              refine p1 rfl <| p1 rfl <| p1 rfl ?_
              refine gs 36 rfl rfl (fun h23 => ?_) (fun h23 => ?_)
              · have pr23 : (b.Nodes : Int) ≤ x9.For := of_decide_eq_true h23
                refine n1 rfl ?_
                refine n1 rfl ?_
                refine n1 rfl ?_
                refine n1 rfl ?_
                refine n1 rfl ?_
                refine n1 rfl ?_
                refine p1 rfl <| p1 rfl ?_
                refine n1 rfl ?_
                refine n1 rfl ?_
                refine n1 rfl ?_
                refine n1 rfl ?_
                refine n1 rfl ?_
                refine n1 rfl ?_
                refine p1 rfl ?_
                refine D_end ?_
                refine x_then ?_
                refine D_weak [(1, (.pointer (some ⟨g4, 0, none⟩))), (20, u1), (21, (.int .i64 ((b.Reasons.length : Nat) : Int))), (22, (.int .i64 ((k : Nat) : Int))), (51, (.bool true))] ⟨rfl, rfl, rfl, rfl, rfl, trivial⟩ ?_
                refine D_sel (H' := [bx g4 [(.int .i64 b.Nodes), u1]]) [false, true] rfl ?_
                refine C_t rfl ?_
                refine C_seq ?_
                refine C_reg ?_
                refine p1 rfl ?_
                refine D_end ?_
                refine x_then ?_
                refine C_ret ?_
                refine x_blk_ret ?_
                refine x_then_ret ?_
                refine x_then_ret ?_
                refine x_blk_ret ?_
                refine x_then_ret ?_
                refine R_1 rfl rfl fun w' hs => ⟨congrArg (fun z => Ending.returned (Value.bool z)) ?_, hs.bel⟩
                show (false : Bool) = isBeliefs b
                exact isB_bad (by assumption) (by simp_all [isReason]; try omega)
              · have pr23 : ¬ (b.Nodes : Int) ≤ x9.For := of_decide_eq_false h23
                refine q1 rfl (D_fb f_31_1 rfl rfl (q := 1) rfl) ?_
                refine q1 rfl (lb 0 o_27 rfl rfl rfl rfl) ?_
                refine q1 rfl (D_fb f_26_0 rfl rfl (q := 0) rfl) ?_
                refine q1 rfl (lb 1 o_3 rfl rfl rfl rfl) ?_
                refine li rfl (cv b_37 rfl rfl rfl rfl (fun w' hs => (impl_ascendingNodes w' u14 x9.In b.Nodes (rd_at hs hu15))) ?_)
                refine p1 rfl <| p1 rfl <| p1 rfl ?_
                refine gs 44 rfl rfl (fun h24 => ?_) (fun h24 => ?_)
                · have h24n : (asc x9.In b.Nodes) = false := not_t h24
                  refine n1 rfl ?_
                  refine n1 rfl ?_
                  refine n1 rfl ?_
                  refine n1 rfl ?_
                  refine n1 rfl ?_
                  refine n1 rfl ?_
                  refine p1 rfl ?_
                  refine D_end ?_
                  refine x_then ?_
                  refine D_weak [(1, (.pointer (some ⟨g4, 0, none⟩))), (20, u1), (21, (.int .i64 ((b.Reasons.length : Nat) : Int))), (22, (.int .i64 ((k : Nat) : Int))), (51, (.bool true))] ⟨rfl, rfl, rfl, rfl, rfl, trivial⟩ ?_
                  refine D_sel (H' := [bx g4 [(.int .i64 b.Nodes), u1]]) [false, true] rfl ?_
                  refine C_t rfl ?_
                  refine C_seq ?_
                  refine C_reg ?_
                  refine p1 rfl ?_
                  refine D_end ?_
                  refine x_then ?_
                  refine C_ret ?_
                  refine x_blk_ret ?_
                  refine x_then_ret ?_
                  refine x_then_ret ?_
                  refine x_blk_ret ?_
                  refine x_then_ret ?_
                  refine R_1 rfl rfl fun w' hs => ⟨congrArg (fun z => Ending.returned (Value.bool z)) ?_, hs.bel⟩
                  show (false : Bool) = isBeliefs b
                  exact isB_bad (by assumption) (by simp_all [isReason]; try omega)
                · have h24n : (asc x9.In b.Nodes) = true := not_f h24
                  refine q1 rfl (D_fb f_31_2 rfl rfl (q := 2) rfl) ?_
                  refine q1 rfl (lb 0 o_27 rfl rfl rfl rfl) ?_
                  refine q1 rfl (D_fb f_26_0 rfl rfl (q := 0) rfl) ?_
                  refine q1 rfl (lb 1 o_3 rfl rfl rfl rfl) ?_
                  refine li rfl (cv b_37 rfl rfl rfl rfl (fun w' hs => (impl_ascendingNodes w' u17 x9.Out b.Nodes (rd_at hs hu18))) ?_)
                  refine p1 rfl <| p1 rfl ?_
                  refine D_end ?_
                  refine x_then ?_
                  refine D_weak [(1, (.pointer (some ⟨g4, 0, none⟩))), (20, u1), (21, (.int .i64 ((b.Reasons.length : Nat) : Int))), (22, (.int .i64 ((k : Nat) : Int))), (51, (.bool (!(asc x9.Out b.Nodes))))] ⟨rfl, rfl, rfl, rfl, rfl, trivial⟩ ?_
                  refine D_sel (H' := [bx g4 [(.int .i64 b.Nodes), u1]]) [false, true] rfl ?_
                  refine C_if _ rfl (fun h25 => ?_) (fun h25 => ?_)
                  · have h25n : (asc x9.Out b.Nodes) = false := not_t h25
                    refine C_seq ?_
                    refine C_reg ?_
                    refine p1 rfl ?_
                    refine D_end ?_
                    refine x_then ?_
                    refine C_ret ?_
                    refine x_blk_ret ?_
                    refine x_then_ret ?_
                    refine x_then_ret ?_
                    refine x_blk_ret ?_
                    refine x_then_ret ?_
                    refine R_1 rfl rfl fun w' hs => ⟨congrArg (fun z => Ending.returned (Value.bool z)) ?_, hs.bel⟩
                    show (false : Bool) = isBeliefs b
                    exact isB_bad (by assumption) (by simp_all [isReason]; try omega)
                  · have h25n : (asc x9.Out b.Nodes) = true := not_f h25
                    refine C_skip ?_
                    refine x_blk ?_
                    refine x_then ?_
                    refine C_reg ?_
                    refine q1 rfl (D_add rfl rfl rfl (r := ((k + 1 : Nat) : Int)) (by omega) (by omega)) ?_
                    refine p1 rfl ?_
                    refine D_end ?_
                    refine x_then ?_
                    refine fun ac w' hf hs => ⟨_, ?_, k + 1, ?_, ?_, rfl, hf.weak ⟨rfl, rfl, rfl, rfl, trivial⟩, hs⟩
                    · omega
                    · first | assumption | omega | simp
                    · refine forall_step hi ?_; intro r hr; simp_all [isReason]; try omega
          · have pr8 : ¬ (((k : Nat) : Int) : Int) < ((b.Reasons.length : Nat) : Int) := of_decide_eq_false h8
            refine C_exit ?_
            refine x_then_exit ?_
            refine x_then_exit ?_
            refine x_blk_eq ?_
            refine x_then ?_
            refine C_seq ?_
            refine C_reg ?_
            refine p1 rfl ?_
            refine D_end ?_
            refine x_then ?_
            refine C_ret ?_
            refine R_1 rfl rfl fun w' hs => ⟨congrArg (fun z => Ending.returned (Value.bool z)) ?_, hs.bel⟩
            show (true : Bool) = isBeliefs b
            exact isB_ok (by omega) (fun i h => hi i (by omega))

theorem spec_IsBeliefs (w : World) (c_b : List Value) (b : Beliefs) (h_b : Gd.rd w c_b b) : Calls Try.prog 62 [(.agg c_b.toArray)].toArray w (Val w (.bool (isBeliefs b))) := by
  obtain ⟨u1, rfl, hu2⟩ := open_Beliefs h_b
  have hm3 := rd_max hu2
  refine enter 49 Try.func62 rfl rfl rfl ?_
  refine C_seq ?_
  refine C_reg ?_
  refine li rfl (D_box rfl rfl rfl rfl rfl fun g4 => ?_)
  refine p1 rfl ?_
  refine D_end ?_
  refine x_then ?_
  refine D_H ([bx g4 [(.int .i64 b.Nodes), u1]]) rfl ?_
  refine C_seq ?_
  refine C_seq ?_
  refine C_reg ?_
  refine p1 rfl ?_
  refine D_end ?_
  refine x_then ?_
  refine C_block ?_
  refine C_loop (fun m_ ac w' => ∃ (k : Nat), (k ≤ b.Reasons.length) ∧ (∀ i, i < k → ∀ r, b.Reasons[i]? = some r → isReasonW r b.Nodes = true) ∧ m_ = b.Reasons.length - k ∧ Fits ac 49 [(1, (.pointer (some ⟨g4, 0, none⟩))), (3, (.int .i64 ((k : Nat) : Int)))] ∧ St w ([bx g4 [(.int .i64 b.Nodes), u1]]) w') ?_ ?_
  · refine fun ac w' hf hs => ⟨_, 0, ?_, ?_, rfl, hf.weak ⟨rfl, rfl, trivial⟩, hs⟩
    · first | assumption | omega | simp
    · intro i hi; omega
  · rintro m_ ac w' ⟨k, hk, hi, rfl, hf, hs⟩
    refine D.use ?_ hf hs
    clear hf hs ac w'
    refine C_seq ?_
    refine C_seq ?_
    refine C_reg ?_
    refine p1 rfl ?_
    refine q1 rfl (D_fb f_26_1 rfl rfl (q := 1) rfl) ?_
    refine q1 rfl (lb 0 o_24 rfl rfl rfl rfl) ?_
    refine q1 rfl (D_len s_24 rfl rfl (rd_sl hu2)) ?_
    refine p1 rfl ?_
    refine D_end ?_
    refine x_then ?_
    refine C_if _ rfl (fun h5 => ?_) (fun h5 => ?_)
    · have pr5 : (((k : Nat) : Int) : Int) < ((b.Reasons.length : Nat) : Int) := of_decide_eq_true h5
      refine C_skip ?_
      refine x_then ?_
      refine C_seq ?_
      refine C_block ?_
      refine C_seq ?_
      refine C_reg ?_
      refine q1 rfl (D_fb f_26_1 rfl rfl (q := 1) rfl) ?_
      refine q1 rfl (lb 0 o_24 rfl rfl rfl rfl) ?_
      refine p1 rfl ?_
      obtain ⟨x6, hx7⟩ := some_of_lt (l := b.Reasons) (i := k) (by omega)
      obtain ⟨es8, at9, hr10⟩ := rd_elem (n := 3) rfl hu2 hx7
      obtain ⟨u11, u13, rfl, hu12, hu14⟩ := open_Reason hr10
      have hm15 := rd_max hu12
      have hm16 := rd_max hu14
      refine q1 rfl (D_ix (l := b.Reasons) (j := k) s_24 rfl rfl rfl (fun w' hs => (rd_at hs hu2)) rfl (lt_of_some hx7)) ?_
      refine q1 rfl (lra a_31 rfl rfl at9) ?_
      refine li rfl (D_alloc y_31 rfl rfl rfl rfl fun g17 => ?_)
      refine li rfl (D_stb (vs := [(.int .i64 x6.For), u11, u13]) (cs' := [(.int .i64 x6.For), u11, u13]) 0 z_31 rfl rfl rfl rfl rfl rfl (ocons rfl (ocons (one_rd hu12) (ocons (one_rd hu14) onil))) (by simp) rfl ?_)
      refine D_end ?_
      refine x_then ?_
      refine D_H ([bx g17 [(.int .i64 x6.For), u11, u13], bx g4 [(.int .i64 b.Nodes), u1]]) rfl ?_
      refine C_seq ?_
      refine C_reg ?_
      refine q1 rfl (D_fb f_31_0 rfl rfl (q := 0) rfl) ?_
      refine q1 rfl (lb 0 o_3 rfl rfl rfl rfl) ?_
      refine q1 rfl (D_fb f_26_0 rfl rfl (q := 0) rfl) ?_
      refine q1 rfl (lb 1 o_3 rfl rfl rfl rfl) ?_
      refine q1 rfl (D_subw rfl rfl rfl) ?_
      refine li rfl (cv b_47 rfl rfl rfl rfl (fun w' hs => (spec_l1In w' x6.For 0 (wr (b.Nodes - 1)))) ?_)
      refine p1 rfl <| p1 rfl ?_
      refine gs 24 rfl rfl (fun h18 => ?_) (fun h18 => ?_)
      · have h18n : (inR x6.For 0 (wr (b.Nodes - 1))) = false := not_t h18
        refine n1 rfl ?_
        refine n1 rfl ?_
        refine n1 rfl ?_
        refine n1 rfl ?_
        refine n1 rfl ?_
        refine n1 rfl ?_
        refine p1 rfl <| p1 rfl ?_
        refine n1 rfl ?_
        refine n1 rfl ?_
        refine n1 rfl ?_
        refine n1 rfl ?_
        refine n1 rfl ?_
        refine n1 rfl ?_
        refine p1 rfl ?_
        refine D_end ?_
        refine x_then ?_
        refine D_weak [(1, (.pointer (some ⟨g4, 0, none⟩))), (3, (.int .i64 ((k : Nat) : Int))), (39, (.bool true))] ⟨rfl, rfl, rfl, trivial⟩ ?_
        refine D_sel (H' := [bx g4 [(.int .i64 b.Nodes), u1]]) [false, true] rfl ?_
        refine C_t rfl ?_
        refine C_seq ?_
        refine C_reg ?_
        refine p1 rfl ?_
        refine D_end ?_
        refine x_then ?_
        refine C_ret ?_
        refine x_blk_ret ?_
        refine x_then_ret ?_
        refine x_then_ret ?_
        refine x_blk_ret ?_
        refine x_then_ret ?_
        refine R_1 rfl rfl fun w' hs => ⟨congrArg (fun z => Ending.returned (Value.bool z)) ?_, hs.bel⟩
        show (false : Bool) = isBeliefs b
        rw [← isBeliefsW_eq]; exact isBW_bad (by assumption) (by simp_all [isReasonW])
      · have h18n : (inR x6.For 0 (wr (b.Nodes - 1))) = true := not_f h18
        refine q1 rfl (D_fb f_31_1 rfl rfl (q := 1) rfl) ?_
        refine q1 rfl (lb 0 o_27 rfl rfl rfl rfl) ?_
        refine q1 rfl (D_fb f_26_0 rfl rfl (q := 0) rfl) ?_
        refine q1 rfl (lb 1 o_3 rfl rfl rfl rfl) ?_
        refine li rfl (cv b_27 rfl rfl rfl rfl (fun w' hs => (spec_l11List w' u11 x6.In b.Nodes (rd_at hs hu12))) ?_)
        refine p1 rfl <| p1 rfl <| p1 rfl ?_
        refine gs 32 rfl rfl (fun h19 => ?_) (fun h19 => ?_)
        · have h19n : (ascW x6.In b.Nodes) = false := not_t h19
          refine n1 rfl ?_
          refine n1 rfl ?_
          refine n1 rfl ?_
          refine n1 rfl ?_
          refine n1 rfl ?_
          refine n1 rfl ?_
          refine p1 rfl ?_
          refine D_end ?_
          refine x_then ?_
          refine D_weak [(1, (.pointer (some ⟨g4, 0, none⟩))), (3, (.int .i64 ((k : Nat) : Int))), (39, (.bool true))] ⟨rfl, rfl, rfl, trivial⟩ ?_
          refine D_sel (H' := [bx g4 [(.int .i64 b.Nodes), u1]]) [false, true] rfl ?_
          refine C_t rfl ?_
          refine C_seq ?_
          refine C_reg ?_
          refine p1 rfl ?_
          refine D_end ?_
          refine x_then ?_
          refine C_ret ?_
          refine x_blk_ret ?_
          refine x_then_ret ?_
          refine x_then_ret ?_
          refine x_blk_ret ?_
          refine x_then_ret ?_
          refine R_1 rfl rfl fun w' hs => ⟨congrArg (fun z => Ending.returned (Value.bool z)) ?_, hs.bel⟩
          show (false : Bool) = isBeliefs b
          rw [← isBeliefsW_eq]; exact isBW_bad (by assumption) (by simp_all [isReasonW])
        · have h19n : (ascW x6.In b.Nodes) = true := not_f h19
          refine q1 rfl (D_fb f_31_2 rfl rfl (q := 2) rfl) ?_
          refine q1 rfl (lb 0 o_27 rfl rfl rfl rfl) ?_
          refine q1 rfl (D_fb f_26_0 rfl rfl (q := 0) rfl) ?_
          refine q1 rfl (lb 1 o_3 rfl rfl rfl rfl) ?_
          refine li rfl (cv b_27 rfl rfl rfl rfl (fun w' hs => (spec_l11List w' u13 x6.Out b.Nodes (rd_at hs hu14))) ?_)
          refine p1 rfl <| p1 rfl ?_
          refine D_end ?_
          refine x_then ?_
          refine D_weak [(1, (.pointer (some ⟨g4, 0, none⟩))), (3, (.int .i64 ((k : Nat) : Int))), (39, (.bool (!(ascW x6.Out b.Nodes))))] ⟨rfl, rfl, rfl, trivial⟩ ?_
          refine D_sel (H' := [bx g4 [(.int .i64 b.Nodes), u1]]) [false, true] rfl ?_
          refine C_if _ rfl (fun h20 => ?_) (fun h20 => ?_)
          · have h20n : (ascW x6.Out b.Nodes) = false := not_t h20
            refine C_seq ?_
            refine C_reg ?_
            refine p1 rfl ?_
            refine D_end ?_
            refine x_then ?_
            refine C_ret ?_
            refine x_blk_ret ?_
            refine x_then_ret ?_
            refine x_then_ret ?_
            refine x_blk_ret ?_
            refine x_then_ret ?_
            refine R_1 rfl rfl fun w' hs => ⟨congrArg (fun z => Ending.returned (Value.bool z)) ?_, hs.bel⟩
            show (false : Bool) = isBeliefs b
            rw [← isBeliefsW_eq]; exact isBW_bad (by assumption) (by simp_all [isReasonW])
          · have h20n : (ascW x6.Out b.Nodes) = true := not_f h20
            refine C_skip ?_
            refine x_blk ?_
            refine x_then ?_
            refine C_reg ?_
            refine p1 rfl ?_
            refine q1 rfl (D_add rfl rfl rfl (r := ((k + 1 : Nat) : Int)) (by omega) (by omega)) ?_
            refine p1 rfl ?_
            refine D_end ?_
            refine x_then ?_
            refine fun ac w' hf hs => ⟨_, ?_, k + 1, ?_, ?_, rfl, hf.weak ⟨rfl, rfl, trivial⟩, hs⟩
            · omega
            · first | assumption | omega | simp
            · refine forall_step hi ?_; intro r hr; simp_all [isReasonW]
    · have pr5 : ¬ (((k : Nat) : Int) : Int) < ((b.Reasons.length : Nat) : Int) := of_decide_eq_false h5
      refine C_exit ?_
      refine x_then_exit ?_
      refine x_then_exit ?_
      refine x_blk_eq ?_
      refine x_then ?_
      refine C_seq ?_
      refine C_reg ?_
      refine q1 rfl (D_fb f_26_0 rfl rfl (q := 0) rfl) ?_
      refine q1 rfl (lb 0 o_3 rfl rfl rfl rfl) ?_
      refine li rfl (cv b_47 rfl rfl rfl rfl (fun w' hs => (spec_l1In w' b.Nodes 0 24)) ?_)
      refine p1 rfl ?_
      refine gs 43 rfl rfl (fun h21 => ?_) (fun h21 => ?_)
      · refine q1 rfl (D_fb f_26_1 rfl rfl (q := 1) rfl) ?_
        refine q1 rfl (lb 0 o_24 rfl rfl rfl rfl) ?_
        refine q1 rfl (D_len s_24 rfl rfl (rd_sl hu2)) ?_
        refine p1 rfl <| p1 rfl <| p1 rfl ?_
        refine D_end ?_
        refine x_then ?_
        refine D_weak [(2, (.bool (decide ((((b.Reasons.length : Nat) : Int) : Int) ≤ 60))))] ⟨rfl, trivial⟩ ?_
        refine D_sel (H' := []) [false] rfl ?_
        refine C_ret ?_
        refine R_1 rfl rfl fun w' hs => ⟨congrArg (fun z => Ending.returned (Value.bool z)) ?_, hs.bel⟩
        show ((decide ((((b.Reasons.length : Nat) : Int) : Int) ≤ 60)) : Bool) = isBeliefs b
        rw [← isBeliefsW_eq]; exact isBW_ok (fun i h => hi i (by omega)) (by simp_all; try omega)
      · refine n1 rfl ?_
        refine n1 rfl ?_
        refine n1 rfl ?_
        refine n1 rfl ?_
        refine p1 rfl <| p1 rfl ?_
        refine D_end ?_
        refine x_then ?_
        refine D_weak [(2, (.bool false))] ⟨rfl, trivial⟩ ?_
        refine D_sel (H' := []) [false] rfl ?_
        refine C_ret ?_
        refine R_1 rfl rfl fun w' hs => ⟨congrArg (fun z => Ending.returned (Value.bool z)) ?_, hs.bel⟩
        show (false : Bool) = isBeliefs b
        rw [← isBeliefsW_eq]; exact isBW_ok (fun i h => hi i (by omega)) (by simp_all; try omega)
end Go.Sy.Bel1
