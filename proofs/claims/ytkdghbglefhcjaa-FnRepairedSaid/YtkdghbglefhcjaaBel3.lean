/-
  Contracts of functions of the program, walked (printed by a program of ours).
  Conditions: those that each theorem states.
-/
import Derived.Test.YtkdghbglefhcjaaBel2
set_option linter.unusedVariables false
set_option maxRecDepth 20000
namespace Go.Sy.Bel3
open Go Go.RowKit Go.Proofs Go.Sy
theorem mixed : Try.prog.follows .mixedOrders = true := by kernel_rfl
theorem s_27 : sliceTy Try.prog 27 = some (3, 1, 8) := by kernel_rfl
theorem f_26_1 : fieldOff Try.prog 26 1 = some 1 := by kernel_rfl
theorem o_24 : oneTy Try.prog 24 = true := by kernel_rfl
theorem s_24 : sliceTy Try.prog 24 = some (31, 3, 56) := by kernel_rfl
theorem a_31 : aggTy Try.prog 31 = some 3 := by kernel_rfl
theorem b_46 : hasBody Try.prog 46 = true := by kernel_rfl
theorem y_3 : zeroTy Try.prog 3 = some (.int .i64 0) := by kernel_rfl
open Go.Sy.Bel1 Go.Sy.Bel2
theorem spec_PremisesOf (w : World) (c_b : List Value) (b : Beliefs) (h_b : Gd.rd w c_b b) (hn : b.Reasons.length ≤ 1048576) : Calls Try.prog 41 [(.agg c_b.toArray)].toArray w (Res w (idxs isPremise b.Reasons : List Int)) := by
  obtain ⟨u1, rfl, hu2⟩ := open_Beliefs h_b
  have hm3 := rd_max hu2
  refine enter 24 Try.func41 rfl rfl rfl ?_
  refine C_seq ?_
  refine C_reg ?_
  refine li rfl (D_box rfl rfl rfl rfl rfl fun g4 => ?_)
  refine p1 rfl ?_
  refine D_end ?_
  refine x_then ?_
  refine D_H ([bx g4 [(.int .i64 b.Nodes), u1]]) rfl ?_
  refine C_seq ?_
  refine C_reg ?_
  refine li rfl (D_bs0 (α := Int) s_27 rfl rfl rfl fun v5 => ?_)
  refine p1 rfl ?_
  refine D_end ?_
  refine x_then ?_
  refine D_H ([ov [v5] ([] : (List Int)), bx g4 [(.int .i64 b.Nodes), u1]]) rfl ?_
  refine C_seq ?_
  refine C_seq ?_
  refine C_reg ?_
  refine p1 rfl ?_
  refine D_end ?_
  refine x_then ?_
  refine C_block ?_
  refine C_loop (fun m_ ac w' => ∃ (k : Nat), ∃ (v : Value), (k ≤ b.Reasons.length) ∧ m_ = b.Reasons.length - k ∧ Fits ac 24 [(1, (.pointer (some ⟨g4, 0, none⟩))), (3, v), (4, (.int .i64 ((k : Nat) : Int)))] ∧ St w ([ov [v] (idxT isPremise b.Reasons k : (List Int)), bx g4 [(.int .i64 b.Nodes), u1]]) w') ?_ ?_
  · refine D_eq 0 rfl (show ([] : (List Int)) = idxT isPremise b.Reasons 0 from by rw [idxT_zero]) ?_
    refine fun ac w' hf hs => ⟨_, 0, v5, ?_, rfl, hf.weak ⟨rfl, rfl, rfl, trivial⟩, hs⟩
    · first | assumption | omega | simp
  · rintro m_ ac w' ⟨k, v, hk, rfl, hf, hs⟩
    refine D.use ?_ hf hs
    clear hf hs ac w'
    have hcl := idxT_len isPremise b.Reasons k
    refine C_seq ?_
    refine C_seq ?_
    refine C_reg ?_
    refine p1 rfl ?_
    refine q1 rfl (D_fb f_26_1 rfl rfl (q := 1) rfl) ?_
    refine q1 rfl (lb 1 o_24 rfl rfl rfl rfl) ?_
    refine q1 rfl (D_len s_24 rfl rfl (rd_sl hu2)) ?_
    refine p1 rfl ?_
    refine D_end ?_
    refine x_then ?_
    refine D_H ([ov [v] (idxT isPremise b.Reasons k : (List Int)), bx g4 [(.int .i64 b.Nodes), u1]]) rfl ?_
    refine C_if _ rfl (fun h6 => ?_) (fun h6 => ?_)
    · have pr6 : (((k : Nat) : Int) : Int) < ((b.Reasons.length : Nat) : Int) := of_decide_eq_true h6
      refine C_skip ?_
      refine x_then ?_
      refine C_seq ?_
      refine C_block ?_
      refine C_seq ?_
      refine C_reg ?_
      refine q1 rfl (D_fb f_26_1 rfl rfl (q := 1) rfl) ?_
      refine q1 rfl (lb 1 o_24 rfl rfl rfl rfl) ?_
      refine p1 rfl ?_
      obtain ⟨x7, hx8⟩ := some_of_lt (l := b.Reasons) (i := k) (by omega)
      obtain ⟨es9, at10, hr11⟩ := rd_elem (n := 3) rfl hu2 hx8
      obtain ⟨u12, u14, rfl, hu13, hu15⟩ := open_Reason hr11
      have hm16 := rd_max hu13
      have hm17 := rd_max hu15
      refine q1 rfl (D_ix (l := b.Reasons) (j := k) s_24 rfl rfl rfl (fun w' hs => (rd_at hs hu2)) rfl (lt_of_some hx8)) ?_
      refine q1 rfl (lra a_31 rfl rfl at10) ?_
      refine li rfl (cv b_46 rfl rfl rfl rfl (fun w' hs => (spec_IsPremise w' [(.int .i64 x7.For), u12, u14] x7 (rd_at hs hr11))) ?_)
      refine D_end ?_
      refine x_then ?_
      refine C_if _ rfl (fun h18 => ?_) (fun h18 => ?_)
      · refine C_reg ?_
        refine p1 rfl <| p1 rfl ?_
        refine li rfl (D_bs s_27 y_3 rfl (by decide) (by decide) rfl rfl rfl rfl rfl rfl fun g19 => ?_)
        refine D_fi ((k : Nat) : Int) ?_
        refine D_pk (H' := [ov [v] (idxT isPremise b.Reasons k : (List Int)), ov [(.int .i64 ((k : Nat) : Int))] (((k : Nat) : Int) : Int), bx g19 [(.int .i64 ((k : Nat) : Int))], bx g4 [(.int .i64 b.Nodes), u1]]) [2, 0, 1, 3] rfl rfl ?_
        refine li rfl (D_ap s_27 y_3 rfl (by decide) rfl rfl rfl rfl rfl rfl (by first | omega | (simp; omega)) (by first | omega | (simp; omega)) fun v20 => ?_)
        refine p1 rfl ?_
        refine D_end ?_
        refine x_blk ?_
        refine x_then ?_
        refine D_weak [(1, (.pointer (some ⟨g4, 0, none⟩))), (3, v20), (4, (.int .i64 ((k : Nat) : Int)))] ⟨rfl, rfl, rfl, trivial⟩ ?_
        refine D_H ([ov [v20] ((idxT isPremise b.Reasons k) ++ [((k : Nat) : Int)] : (List Int)), bx g4 [(.int .i64 b.Nodes), u1]]) rfl ?_
        refine C_reg ?_
        refine p1 rfl ?_
        refine q1 rfl (D_add rfl rfl rfl (r := ((k + 1 : Nat) : Int)) (by omega) (by omega)) ?_
        refine p1 rfl ?_
        refine D_end ?_
        refine x_then ?_
        refine D_eq 0 rfl (show ((idxT isPremise b.Reasons k) ++ [((k : Nat) : Int)] : (List Int)) = idxT isPremise b.Reasons (k + 1) from by first | exact idxT_t hx8 h18 | exact idxT_f hx8 h18) ?_
        refine fun ac w' hf hs => ⟨_, ?_, k + 1, v20, ?_, rfl, hf.weak ⟨rfl, rfl, rfl, trivial⟩, hs⟩
        · omega
        · first | assumption | omega | simp
      · refine C_skip ?_
        refine x_blk ?_
        refine x_then ?_
        refine C_reg ?_
        refine p1 rfl ?_
        refine q1 rfl (D_add rfl rfl rfl (r := ((k + 1 : Nat) : Int)) (by omega) (by omega)) ?_
        refine p1 rfl ?_
        refine D_end ?_
        refine x_then ?_
        refine D_eq 0 rfl (show (idxT isPremise b.Reasons k : (List Int)) = idxT isPremise b.Reasons (k + 1) from by first | exact idxT_t hx8 h18 | exact idxT_f hx8 h18) ?_
        refine fun ac w' hf hs => ⟨_, ?_, k + 1, v, ?_, rfl, hf.weak ⟨rfl, rfl, rfl, trivial⟩, hs⟩
        · omega
        · first | assumption | omega | simp
    · have pr6 : ¬ (((k : Nat) : Int) : Int) < ((b.Reasons.length : Nat) : Int) := of_decide_eq_false h6
      refine C_exit ?_
      refine x_then_exit ?_
      refine x_then_exit ?_
      refine x_blk_eq ?_
      refine x_then ?_
      refine C_seq ?_
      refine C_reg ?_
      refine p1 rfl <| p1 rfl ?_
      refine D_end ?_
      refine x_then ?_
      refine C_ret ?_
      refine R_1 rfl rfl fun w' hs => res_of (k := 0) hs rfl ?_
      show idxT isPremise b.Reasons k = idxs isPremise b.Reasons
      exact idxT_done (by omega)
end Go.Sy.Bel3
