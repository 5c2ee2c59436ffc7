/-
  Contracts of functions of the program, walked (printed by a program of ours).
  Conditions: those that each theorem states.
-/
import Derived.Test.YtkdghbglefhcjaaBeld
import Derived.Test.YtkdghbglefhcjaaBelb
import Derived.Test.YtkdghbglefhcjaaSorts
import Derived.Test.YtkdghbglefhcjaaRp
set_option linter.unusedVariables false
set_option maxRecDepth 20000
namespace Go.Sy.Rep1
open Go Go.RowKit Go.Proofs Go.Sy
theorem mixed : Try.prog.follows .mixedOrders = true := by kernel_rfl
theorem o_37 : oneTy Try.prog 37 = true := by kernel_rfl
theorem s_37 : sliceTy Try.prog 37 = some (27, 1, 24) := by kernel_rfl
theorem o_27 : oneTy Try.prog 27 = true := by kernel_rfl
theorem s_27 : sliceTy Try.prog 27 = some (3, 1, 8) := by kernel_rfl
theorem o_3 : oneTy Try.prog 3 = true := by kernel_rfl
open Go.Sy.Bel1 Go.Sy.Bel2 Go.Sy.Bel3 Go.Sy.Bel4 Go.Sy.Bel5 Go.Sy.Bel6 Go.Sy.Bel7 Go.Sy.Bel8 Go.Sy.Bel9 Go.Sy.Belb Go.Sy.Beld Go.Sy.Sorts
theorem impl_LeastRepairs_1 (w : World) (i : Int) (j : Int) (p_out : Addr) (v_out : Value) (out : (List (List Int))) (a_out : AtE w p_out [v_out]) (h_out : Gd.rd w [v_out] out) (hi0 : 0 ≤ i) (hi1 : i < out.length) (hj0 : 0 ≤ j) (hj1 : j < out.length) : Calls Try.prog 34 [(.int .i64 i), (.int .i64 j), (.pointer (some p_out))].toArray w (Val w (.bool (ltL (A out i.toNat) (A out j.toNat)))) := by
  have hm1 := rd_max h_out
  refine enter 51 Try.func34 rfl rfl rfl ?_
  refine C_seq ?_
  refine C_reg ?_
  refine p1 rfl ?_
  refine D_end ?_
  refine x_then ?_
  refine C_seq ?_
  refine C_draw mixed [] (by kernel_rfl) ?_
  refine tk 0 rfl (by kernel_rfl) (by kernel_rfl) (by kernel_rfl) rfl (fun _ hs => hs) (lr0 o_37 rfl rfl a_out rfl) ?_
  refine tk 1 rfl (by kernel_rfl) (by kernel_rfl) (by kernel_rfl) rfl (fun _ hs => hs) (rp rfl) ?_
  obtain ⟨xa, hxa⟩ := some_of_lt (l := out) (i := (i.toNat)) (by omega)
  obtain ⟨es2, at3, hr4⟩ := rd_elem (n := 1) rfl h_out hxa
  obtain ⟨u5, rfl⟩ := rd_cell hr4
  have hm6 := rd_max hr4
  refine tk 2 rfl (by kernel_rfl) (by kernel_rfl) (by kernel_rfl) rfl (fun _ hs => hs) (D_ix (l := out) (j := (i.toNat)) s_37 rfl rfl rfl (fun w' hs => (rd_at hs h_out)) (Int.toNat_of_nonneg (by omega)).symm (lt_of_some hxa)) ?_
  refine tk 3 rfl (by kernel_rfl) (by kernel_rfl) (by kernel_rfl) rfl (fun _ hs => hs) (lr0 o_27 rfl rfl at3 rfl) ?_
  refine tk 4 rfl (by kernel_rfl) (by kernel_rfl) (by kernel_rfl) rfl (fun _ hs => hs) (lr0 o_37 rfl rfl a_out rfl) ?_
  refine tk 5 rfl (by kernel_rfl) (by kernel_rfl) (by kernel_rfl) rfl (fun _ hs => hs) (rp rfl) ?_
  obtain ⟨ya, hya⟩ := some_of_lt (l := out) (i := (j.toNat)) (by omega)
  obtain ⟨es7, at8, hr9⟩ := rd_elem (n := 1) rfl h_out hya
  obtain ⟨u10, rfl⟩ := rd_cell hr9
  have hm11 := rd_max hr9
  refine tk 6 rfl (by kernel_rfl) (by kernel_rfl) (by kernel_rfl) rfl (fun _ hs => hs) (D_ix (l := out) (j := (j.toNat)) s_37 rfl rfl rfl (fun w' hs => (rd_at hs h_out)) (Int.toNat_of_nonneg (by omega)).symm (lt_of_some hya)) ?_
  refine tk 7 rfl (by kernel_rfl) (by kernel_rfl) (by kernel_rfl) rfl (fun _ hs => hs) (lr0 o_27 rfl rfl at8 rfl) ?_
  refine tk 8 rfl (by kernel_rfl) (by kernel_rfl) (by kernel_rfl) rfl (fun _ hs => hs) (rp rfl) ?_
  refine tk 9 rfl (by kernel_rfl) (by kernel_rfl) (by kernel_rfl) rfl (fun _ hs => hs) (rp rfl) ?_
  refine tE (by kernel_rfl) ?_
  refine x_then ?_
  refine C_seq ?_
  refine C_seq ?_
  refine C_reg ?_
  refine p1 rfl ?_
  refine q1 rfl (D_len s_27 rfl rfl (rd_sl hr4)) ?_
  refine p1 rfl ?_
  refine q1 rfl (D_len s_27 rfl rfl (rd_sl hr9)) ?_
  refine p1 rfl ?_
  refine D_end ?_
  refine x_then ?_
  refine D_weak [(6, u5), (7, u10), (21, (.bool ((((xa.length : Nat) : Int) : Int) != ((ya.length : Nat) : Int))))] ⟨rfl, rfl, rfl, trivial⟩ ?_
  refine C_if _ rfl (fun h12 => ?_) (fun h12 => ?_)
  · have pr12 : (((xa.length : Nat) : Int) : Int) ≠ ((ya.length : Nat) : Int) := bne_iff_ne.1 h12
    refine C_seq ?_
    refine C_reg ?_
    refine p1 rfl ?_
    refine q1 rfl (D_len s_27 rfl rfl (rd_sl hr4)) ?_
    refine p1 rfl ?_
    refine q1 rfl (D_len s_27 rfl rfl (rd_sl hr9)) ?_
    refine p1 rfl <| p1 rfl ?_
    refine D_end ?_
    refine x_then ?_
    refine C_ret ?_
    refine x_then_ret ?_
    refine R_1 rfl rfl fun w' hs => ⟨congrArg (fun z => Ending.returned (Value.bool z)) ?_, hs.bel⟩
    show ((decide ((((xa.length : Nat) : Int) : Int) < ((ya.length : Nat) : Int))) : Bool) = ltL (A out i.toNat) (A out j.toNat)
    rw [A_at hxa, A_at hya]; exact ltL_len (x := xa) (y := ya) (by omega)
  · have pr12 : (((xa.length : Nat) : Int) : Int) = ((ya.length : Nat) : Int) := eq_of_bne_f h12
    refine C_skip ?_
    refine x_then ?_
    refine C_seq ?_
    refine C_seq ?_
    refine C_reg ?_
    refine p1 rfl ?_
    refine q1 rfl (D_len s_27 rfl rfl (rd_sl hr4)) ?_
    refine p1 rfl ?_
    refine D_end ?_
    refine x_then ?_
    refine C_block ?_
    refine C_loop (fun m_ ac w' => ∃ (k : Nat), (k ≤ xa.length) ∧ (∀ i, i < k → xa[i]? = ya[i]?) ∧ m_ = xa.length - k ∧ Fits ac 51 [(6, u5), (7, u10), (28, (.int .i64 ((xa.length : Nat) : Int))), (29, (.int .i64 ((k : Nat) : Int)))] ∧ St w ([]) w') ?_ ?_
    · refine fun ac w' hf hs => ⟨_, 0, ?_, ?_, rfl, hf.weak ⟨rfl, rfl, rfl, rfl, trivial⟩, hs⟩
      · first | assumption | omega | simp
      · intro i hi; omega
    · rintro m_ ac w' ⟨k, hk, hi, rfl, hf, hs⟩
      refine D.use ?_ hf hs
      clear hf hs ac w'
      refine C_seq ?_
      refine C_reg ?_
      refine p1 rfl ?_
      refine D_end ?_
      refine x_then ?_
      refine C_seq ?_
      refine C_if _ rfl (fun h13 => ?_) (fun h13 => ?_)
      · have pr13 : (((k : Nat) : Int) : Int) < ((xa.length : Nat) : Int) := of_decide_eq_true h13
        refine C_skip ?_
        refine x_then ?_
        refine C_seq ?_
        refine C_block ?_
        refine C_seq ?_
        refine C_reg ?_
        refine p1 rfl <| p1 rfl ?_
        refine D_end ?_
        refine x_then ?_
        refine C_seq ?_
        refine C_draw mixed [] (by kernel_rfl) ?_
        refine tk 0 rfl (by kernel_rfl) (by kernel_rfl) (by kernel_rfl) rfl (fun _ hs => hs) (rp rfl) ?_
        refine tk 1 rfl (by kernel_rfl) (by kernel_rfl) (by kernel_rfl) rfl (fun _ hs => hs) (rp rfl) ?_
        obtain ⟨ea, hea⟩ := some_of_lt (l := xa) (i := k) (by omega)
        obtain ⟨es14, at15, hr16⟩ := rd_elem (n := 1) rfl hr4 hea
        obtain rfl : es14 = [.int .i64 ea] := hr16
        refine tk 2 rfl (by kernel_rfl) (by kernel_rfl) (by kernel_rfl) rfl (fun _ hs => hs) (D_ix (l := xa) (j := k) s_27 rfl rfl rfl (fun w' hs => (rd_at hs hr4)) rfl (lt_of_some hea)) ?_
        refine tk 3 rfl (by kernel_rfl) (by kernel_rfl) (by kernel_rfl) rfl (fun _ hs => hs) (lr0 o_3 rfl rfl at15 rfl) ?_
        refine tk 4 rfl (by kernel_rfl) (by kernel_rfl) (by kernel_rfl) rfl (fun _ hs => hs) (rp rfl) ?_
        refine tk 5 rfl (by kernel_rfl) (by kernel_rfl) (by kernel_rfl) rfl (fun _ hs => hs) (rp rfl) ?_
        obtain ⟨eb, heb⟩ := some_of_lt (l := ya) (i := k) (by omega)
        obtain ⟨es17, at18, hr19⟩ := rd_elem (n := 1) rfl hr9 heb
        obtain rfl : es17 = [.int .i64 eb] := hr19
        refine tk 6 rfl (by kernel_rfl) (by kernel_rfl) (by kernel_rfl) rfl (fun _ hs => hs) (D_ix (l := ya) (j := k) s_27 rfl rfl rfl (fun w' hs => (rd_at hs hr9)) rfl (lt_of_some heb)) ?_
        refine tk 7 rfl (by kernel_rfl) (by kernel_rfl) (by kernel_rfl) rfl (fun _ hs => hs) (lr0 o_3 rfl rfl at18 rfl) ?_
        refine tk 8 rfl (by kernel_rfl) (by kernel_rfl) (by kernel_rfl) rfl (fun _ hs => hs) (rp rfl) ?_
        refine tE (by kernel_rfl) ?_
        refine x_then ?_
        refine C_if _ rfl (fun h20 => ?_) (fun h20 => ?_)
        · have pr20 : (ea : Int) ≠ eb := bne_iff_ne.1 h20
          refine C_seq ?_
          refine C_draw mixed [] (by kernel_rfl) ?_
          refine tk 0 rfl (by kernel_rfl) (by kernel_rfl) (by kernel_rfl) rfl (fun _ hs => hs) (rp rfl) ?_
          refine tk 1 rfl (by kernel_rfl) (by kernel_rfl) (by kernel_rfl) rfl (fun _ hs => hs) (rp rfl) ?_
          refine tk 2 rfl (by kernel_rfl) (by kernel_rfl) (by kernel_rfl) rfl (fun _ hs => hs) (D_ix (l := xa) (j := k) s_27 rfl rfl rfl (fun w' hs => (rd_at hs hr4)) rfl (lt_of_some hea)) ?_
          refine tk 3 rfl (by kernel_rfl) (by kernel_rfl) (by kernel_rfl) rfl (fun _ hs => hs) (lr0 o_3 rfl rfl at15 rfl) ?_
          refine tk 4 rfl (by kernel_rfl) (by kernel_rfl) (by kernel_rfl) rfl (fun _ hs => hs) (rp rfl) ?_
          refine tk 5 rfl (by kernel_rfl) (by kernel_rfl) (by kernel_rfl) rfl (fun _ hs => hs) (rp rfl) ?_
          refine tk 6 rfl (by kernel_rfl) (by kernel_rfl) (by kernel_rfl) rfl (fun _ hs => hs) (D_ix (l := ya) (j := k) s_27 rfl rfl rfl (fun w' hs => (rd_at hs hr9)) rfl (lt_of_some heb)) ?_
          refine tk 7 rfl (by kernel_rfl) (by kernel_rfl) (by kernel_rfl) rfl (fun _ hs => hs) (lr0 o_3 rfl rfl at18 rfl) ?_
          refine tk 8 rfl (by kernel_rfl) (by kernel_rfl) (by kernel_rfl) rfl (fun _ hs => hs) (rp rfl) ?_
          refine tk 9 rfl (by kernel_rfl) (by kernel_rfl) (by kernel_rfl) rfl (fun _ hs => hs) (rp rfl) ?_
          refine tE (by kernel_rfl) ?_
          refine x_then ?_
          refine D_weak [(5, (.bool (decide ((ea : Int) < eb))))] ⟨rfl, trivial⟩ ?_
          refine C_ret ?_
          refine x_blk_ret ?_
          refine x_then_ret ?_
          refine x_then_ret ?_
          refine x_blk_ret ?_
          refine x_then_ret ?_
          refine R_1 rfl rfl fun w' hs => ⟨congrArg (fun z => Ending.returned (Value.bool z)) ?_, hs.bel⟩
          show ((decide ((ea : Int) < eb)) : Bool) = ltL (A out i.toNat) (A out j.toNat)
          rw [A_at hxa, A_at hya]; exact ltL_at (by omega) hi hea heb (by omega)
        · have pr20 : (ea : Int) = eb := eq_of_bne_f h20
          refine C_skip ?_
          refine x_blk ?_
          refine x_then ?_
          refine C_reg ?_
          refine q1 rfl (D_add rfl rfl rfl (r := ((k + 1 : Nat) : Int)) (by omega) (by omega)) ?_
          refine p1 rfl ?_
          refine D_end ?_
          refine x_then ?_
          refine fun ac w' hf hs => ⟨_, ?_, k + 1, ?_, ?_, rfl, hf.weak ⟨rfl, rfl, rfl, rfl, trivial⟩, hs⟩
          · omega
          · first | assumption | omega | simp
          · exact idx_step hi hea heb (by omega)
      · have pr13 : ¬ (((k : Nat) : Int) : Int) < ((xa.length : Nat) : Int) := of_decide_eq_false h13
        refine C_exit ?_
        refine x_then_exit ?_
        refine x_then_exit ?_
        refine x_blk_eq ?_
        refine x_then ?_
        refine C_seq ?_
        refine C_reg ?_
        refine p1 rfl ?_
        refine D_end ?_
        refine x_then ?_
        refine C_ret ?_
        refine R_1 rfl rfl fun w' hs => ⟨congrArg (fun z => Ending.returned (Value.bool z)) ?_, hs.bel⟩
        show (false : Bool) = ltL (A out i.toNat) (A out j.toNat)
        rw [A_at hxa, A_at hya]; exact ltL_eq (by omega) (by omega) hi
end Go.Sy.Rep1
