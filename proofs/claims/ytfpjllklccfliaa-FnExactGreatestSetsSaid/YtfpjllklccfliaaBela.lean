/-
  Contracts of functions of the program, walked (printed by a program of ours).
  Conditions: those that each theorem states.
-/
import Derived.Test.YtfpjllklccfliaaBel9
import Derived.Test.YtfpjllklccfliaaLab
set_option linter.unusedVariables false
set_option maxRecDepth 20000
namespace Go.Sy.Bela
open Go Go.RowKit Go.Proofs Go.Sy
theorem mixed : Try.prog.follows .mixedOrders = true := by kernel_rfl
theorem s_25 : sliceTy Try.prog 25 = some (3, 1, 8) := by kernel_rfl
theorem o_3 : oneTy Try.prog 3 = true := by kernel_rfl
theorem s_42 : sliceTy Try.prog 42 = some (4, 1, 1) := by kernel_rfl
theorem o_4 : oneTy Try.prog 4 = true := by kernel_rfl
open Go.Sy.Bel1 Go.Sy.Bel2 Go.Sy.Bel3 Go.Sy.Bel4 Go.Sy.Bel5 Go.Sy.Bel6 Go.Sy.Bel7 Go.Sy.Bel8 Go.Sy.Bel9
theorem impl_allPlaced (w : World) (v_l : Value) (l : (List Int)) (v_placed : Value) (placed : (List Bool)) (h_l : Gd.rd w [v_l] l) (h_placed : Gd.rd w [v_placed] placed) (hl : asc l (placed.length : Int) = true) : Calls Try.prog 55 [v_l, v_placed].toArray w (Val w (.bool (l.all (lI placed)))) := by
  have hm1 := rd_max h_l
  have hm2 := rd_max h_placed
  refine enter 19 Try.func55 rfl rfl rfl ?_
  refine C_seq ?_
  refine C_reg ?_
  refine p1 rfl ?_
  refine D_end ?_
  refine x_then ?_
  refine C_seq ?_
  refine C_seq ?_
  refine C_reg ?_
  refine p1 rfl ?_
  refine q1 rfl (D_len s_25 rfl rfl (rd_sl h_l)) ?_
  refine p1 rfl ?_
  refine D_end ?_
  refine x_then ?_
  refine C_block ?_
  refine C_loop (fun m_ ac w' => ∃ (k : Nat), (k ≤ l.length) ∧ (∀ i, i < k → ∀ y, l[i]? = some y → lI placed y = true) ∧ m_ = l.length - k ∧ Fits ac 19 [(1, v_placed), (7, v_l), (8, (.int .i64 ((l.length : Nat) : Int))), (9, (.int .i64 ((k : Nat) : Int)))] ∧ St w ([]) w') ?_ ?_
  · refine fun ac w' hf hs => ⟨_, 0, ?_, ?_, rfl, hf.weak ⟨rfl, rfl, rfl, rfl, trivial⟩, hs⟩
    · first | assumption | omega | simp
    · intro i hi; omega
  · rintro m_ ac w' ⟨k, hk, hi, rfl, hf, hs⟩
    refine D.use ?_ hf hs
    clear hf hs ac w'
    refine C_seq ?_
    refine C_reg ?_
    refine p1 rfl ?_
    refine D_end ?_
    refine x_then ?_
    refine C_seq ?_
    refine C_if _ rfl (fun h3 => ?_) (fun h3 => ?_)
    · have pr3 : (((k : Nat) : Int) : Int) < ((l.length : Nat) : Int) := of_decide_eq_true h3
      refine C_skip ?_
      refine x_then ?_
      refine C_seq ?_
      refine C_block ?_
      refine C_seq ?_
      refine C_reg ?_
      obtain ⟨y2, hy2⟩ := some_of_lt (l := l) (i := k) (by omega)
      have hyn := asc_at hl hy2
      obtain ⟨es4, at5, hr6⟩ := rd_elem (n := 1) rfl h_l hy2
      obtain rfl : es4 = [.int .i64 y2] := hr6
      refine q1 rfl (D_ix (l := l) (j := k) s_25 rfl rfl rfl (fun w' hs => (rd_at hs h_l)) rfl (lt_of_some hy2)) ?_
      refine q1 rfl (lr0 o_3 rfl rfl at5 rfl) ?_
      refine p1 rfl ?_
      refine D_end ?_
      refine x_then ?_
      refine C_seq ?_
      refine C_reg ?_
      refine p1 rfl <| p1 rfl ?_
      obtain ⟨z2, hz2⟩ := some_of_lt (l := placed) (i := (y2.toNat)) (by omega)
      obtain ⟨es7, at8, hr9⟩ := rd_elem (n := 1) rfl h_placed hz2
      obtain rfl : es7 = [.bool z2] := hr9
      refine q1 rfl (D_ix (l := placed) (j := (y2.toNat)) s_42 rfl rfl rfl (fun w' hs => (rd_at hs h_placed)) (Int.toNat_of_nonneg (by omega)).symm (lt_of_some hz2)) ?_
      refine q1 rfl (lr0 o_4 rfl rfl at8 rfl) ?_
      refine p1 rfl ?_
      refine D_end ?_
      refine x_then ?_
      refine C_if _ rfl (fun h10 => ?_) (fun h10 => ?_)
      · have h10n : z2 = false := not_t h10
        refine C_seq ?_
        refine C_reg ?_
        refine p1 rfl ?_
        refine D_end ?_
        refine x_then ?_
        refine C_ret ?_
        refine x_blk_ret ?_
        refine x_then_ret ?_
        refine x_then_ret ?_
        refine x_blk_ret ?_
        refine x_then_ret ?_
        refine R_1 rfl rfl fun w' hs => ⟨congrArg (fun z => Ending.returned (Value.bool z)) ?_, hs.bel⟩
        show (false : Bool) = l.all (lI placed)
        exact (all_bad hy2 (by rw [lI_of hz2]; exact h10n)).symm
      · have h10n : z2 = true := not_f h10
        refine C_skip ?_
        refine x_blk ?_
        refine x_then ?_
        refine C_reg ?_
        refine q1 rfl (D_add rfl rfl rfl (r := ((k + 1 : Nat) : Int)) (by omega) (by omega)) ?_
        refine p1 rfl ?_
        refine D_end ?_
        refine x_then ?_
        refine fun ac w' hf hs => ⟨_, ?_, k + 1, ?_, ?_, rfl, hf.weak ⟨rfl, rfl, rfl, rfl, trivial⟩, hs⟩
        · omega
        · first | assumption | omega | simp
        · refine forall_step hi ?_; intro y hy; obtain rfl : y = y2 := Option.some.inj (hy.symm.trans hy2); rw [lI_of hz2]; exact h10n
    · have pr3 : ¬ (((k : Nat) : Int) : Int) < ((l.length : Nat) : Int) := of_decide_eq_false h3
      refine C_exit ?_
      refine x_then_exit ?_
      refine x_then_exit ?_
      refine x_blk_eq ?_
      refine x_then ?_
      refine C_seq ?_
      refine C_reg ?_
      refine p1 rfl ?_
      refine D_end ?_
      refine x_then ?_
      refine C_ret ?_
      refine R_1 rfl rfl fun w' hs => ⟨congrArg (fun z => Ending.returned (Value.bool z)) ?_, hs.bel⟩
      show (true : Bool) = l.all (lI placed)
      exact (all_of_idx (fun i h => hi i (by omega))).symm
end Go.Sy.Bela
