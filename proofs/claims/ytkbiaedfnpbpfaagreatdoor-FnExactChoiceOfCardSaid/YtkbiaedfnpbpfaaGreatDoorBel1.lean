/-
  Contracts of functions of the program, walked (printed by a program of ours).
  Conditions: those that each theorem states.
-/
import Derived.Test.YtkbiaedfnpbpfaaGreatDoorProg
import Derived.Test.YtkbiaedfnpbpfaaGreatDoorTypes
import Derived.Test.YtkbiaedfnpbpfaaGreatDoorBase
set_option linter.unusedVariables false
set_option maxRecDepth 20000
namespace Go.Sy.Bel1
open Go Go.RowKit Go.Proofs Go.Sy
theorem mixed : Tryz.prog.follows .mixedOrders = true := by kernel_rfl
theorem s_35 : sliceTy Tryz.prog 35 = some (3, 1, 8) := by kernel_rfl
theorem o_3 : oneTy Tryz.prog 3 = true := by kernel_rfl
theorem laws_eqIntS (w : World) (v_a : Value) (a : (List Int)) (v_b : Value) (b : (List Int)) (h_a : Gd.rd w [v_a] a) (h_b : Gd.rd w [v_b] b) : Calls Tryz.prog 54 [v_a, v_b].toArray w (Val w (.bool (decide (a = b)))) := by
 have hm1 := rd_max h_a
 have hm2 := rd_max h_b
 refine enter 26 Tryz.func54 rfl rfl rfl (C_seq (C_reg (p1 rfl (D_end (x_then (C_seq (C_seq (C_reg (p1 rfl (q1 rfl (D_len s_35 rfl rfl (rd_sl h_a)) (p1 rfl ?_)))))))))))
 refine q1 rfl (D_len s_35 rfl rfl (rd_sl h_b)) (p1 rfl (D_end (x_then (C_if _ rfl (fun h3 => ?_) (fun h3 => ?_)))))
 ·have pr3 : (((a.length : Nat) : Int) : Int) ≠ ((b.length : Nat) : Int) := bne_iff_ne.1 h3
  refine C_seq (C_reg (p1 rfl (D_end (x_then (C_ret (x_then_ret (Rb rfl rfl ?_)))))))
  simp; intro e; subst e; simp_all
 ·have pr3 : (((a.length : Nat) : Int) : Int) = ((b.length : Nat) : Int) := eq_of_bne_f h3
  refine C_skip (x_then (C_seq (C_seq (C_reg (p1 rfl (D_end (x_then (C_block (C_loop (fun m_ ac w' => ∃ (k : Nat), (k ≤ a.length) ∧ (∀ i, i < k → a[i]? = b[i]?) ∧ m_ = a.length - k ∧ Fits ac 26 [(0, v_a), (1, v_b), (5, (.int .i64 ((k : Nat) : Int)))] ∧ St w ([]) w') ?_ ?_)))))))))
  ·refine fun ac w' hf hs => ⟨_, 0, ?_, ?_, rfl, hf.weak ⟨rfl, rfl, rfl, trivial⟩, hs⟩
   ·first | assumption | omega | simp
   ·intro i hi; omega
  ·rintro m_ ac w' ⟨k, hk, hi, rfl, hf, hs⟩
   refine D.use ?_ hf hs
   clear hf hs ac w'
   refine C_seq (C_seq (C_reg (p1 rfl <| p1 rfl (q1 rfl (D_len s_35 rfl rfl (rd_sl h_a)) (p1 rfl (D_end (x_then (C_if _ rfl (fun h4 => ?_) (fun h4 => ?_)))))))))
   ·have pr4 : (((k : Nat) : Int) : Int) < ((a.length : Nat) : Int) := of_decide_eq_true h4
    refine C_skip (x_then (C_seq (C_block (C_seq (C_draw mixed [] (by kernel_rfl) (tk 0 rfl (by kernel_rfl) (by kernel_rfl) (by kernel_rfl) rfl (fun _ hs => hs) (rp rfl) (tk 1 rfl (by kernel_rfl) (by kernel_rfl) (by kernel_rfl) rfl (fun _ hs => hs) (rp rfl) ?_)))))))
    obtain ⟨x5, hx6⟩ := some_of_lt (l := a) (i := k) (by omega)
    obtain ⟨es7, at8, hr9⟩ := rd_elem (n := 1) rfl h_a hx6
    obtain rfl : es7 = [.int .i64 x5] := hr9
    refine tk 2 rfl (by kernel_rfl) (by kernel_rfl) (by kernel_rfl) rfl (fun _ hs => hs) (D_ix (l := a) (j := k) s_35 rfl rfl rfl (fun w' hs => (rd_at hs h_a)) rfl (lt_of_some hx6)) (tk 3 rfl (by kernel_rfl) (by kernel_rfl) (by kernel_rfl) rfl (fun _ hs => hs) (lr0 o_3 rfl rfl at8 rfl) (tk 4 rfl (by kernel_rfl) (by kernel_rfl) (by kernel_rfl) rfl (fun _ hs => hs) (rp rfl) (tk 5 rfl (by kernel_rfl) (by kernel_rfl) (by kernel_rfl) rfl (fun _ hs => hs) (rp rfl) ?_)))
    obtain ⟨x10, hx11⟩ := some_of_lt (l := b) (i := k) (by omega)
    obtain ⟨es12, at13, hr14⟩ := rd_elem (n := 1) rfl h_b hx11
    obtain rfl : es12 = [.int .i64 x10] := hr14
    refine tk 6 rfl (by kernel_rfl) (by kernel_rfl) (by kernel_rfl) rfl (fun _ hs => hs) (D_ix (l := b) (j := k) s_35 rfl rfl rfl (fun w' hs => (rd_at hs h_b)) rfl (lt_of_some hx11)) (tk 7 rfl (by kernel_rfl) (by kernel_rfl) (by kernel_rfl) rfl (fun _ hs => hs) (lr0 o_3 rfl rfl at13 rfl) (tk 8 rfl (by kernel_rfl) (by kernel_rfl) (by kernel_rfl) rfl (fun _ hs => hs) (rp rfl) (tE (by kernel_rfl) (x_then (C_if _ rfl (fun h15 => ?_) (fun h15 => ?_))))))
    ·have pr15 : (x5 : Int) ≠ x10 := bne_iff_ne.1 h15
     refine C_seq (C_reg (p1 rfl (D_end (x_then (C_ret (x_blk_ret (x_then_ret (x_then_ret (x_blk_ret (x_then_ret (Rb rfl rfl ?_)))))))))))
     simp; intro e; subst e; simp_all
    ·have pr15 : (x5 : Int) = x10 := eq_of_bne_f h15
     refine C_skip (x_blk (x_then (C_reg (p1 rfl (q1 rfl (D_add rfl rfl rfl (r := ((k + 1 : Nat) : Int)) (by omega) (by omega)) (p1 rfl (D_end (x_then (fun ac w' hf hs => ⟨_, ?_, k + 1, ?_, ?_, rfl, hf.weak ⟨rfl, rfl, rfl, trivial⟩, hs⟩)))))))))
     ·omega
     ·first | assumption | omega | simp
     ·exact idx_step hi (by assumption) (by assumption) (by simp_all)
   ·have pr4 : ¬ (((k : Nat) : Int) : Int) < ((a.length : Nat) : Int) := of_decide_eq_false h4
    refine C_exit (x_then_exit (x_then_exit (x_blk_eq (x_then (C_seq (C_reg (p1 rfl (D_end (x_then (C_ret (Rb rfl rfl ?_)))))))))))
    simp; exact eq_of_idx (by omega) (fun i h => hi i (by omega))

theorem spec_l1In (w : World) (x : Int) (least : Int) (most : Int) : Calls Tryz.prog 99 [(.int .i64 x), (.int .i64 least), (.int .i64 most)].toArray w (Val w (.bool (inR x least most))) := by
 refine enter 15 Tryz.func99 rfl rfl rfl (C_seq (C_reg (p1 rfl (D_end (x_then (C_seq (C_reg (p1 rfl <| p1 rfl <| p1 rfl <| p1 rfl (gs 10 rfl rfl (fun h1 => ?_) (fun h1 => ?_))))))))))
 ·have pr1 : (least : Int) ≤ x := of_decide_eq_true h1
  refine p1 rfl <| p1 rfl <| p1 rfl <| p1 rfl <| p1 rfl (D_end (x_then (C_ret (Rb rfl rfl ?_))))
  show ((decide ((x : Int) ≤ most)) : Bool) = _
  simp_all [inR]; try omega
 ·have pr1 : ¬ (least : Int) ≤ x := of_decide_eq_false h1
  refine n1 rfl (n1 rfl (n1 rfl (p1 rfl <| p1 rfl (D_end (x_then (C_ret (Rb rfl rfl ?_)))))))
  simp_all [inR]; try omega
end Go.Sy.Bel1
