/-
  Contracts of functions of the program, walked (printed by a program of ours).
  Conditions: those that each theorem states.
-/
import Derived.Test.YtkdghbglefhcjaaBel7
import Derived.Test.YtkdghbglefhcjaaGraph
set_option linter.unusedVariables false
set_option maxRecDepth 20000
namespace Go.Sy.Bel8
open Go Go.RowKit Go.Proofs Go.Sy
theorem mixed : Try.prog.follows .mixedOrders = true := by kernel_rfl
theorem a_26 : aggTy Try.prog 26 = some 2 := by kernel_rfl
theorem b_52 : hasBody Try.prog 52 = true := by kernel_rfl
theorem s_27 : sliceTy Try.prog 27 = some (3, 1, 8) := by kernel_rfl
theorem o_3 : oneTy Try.prog 3 = true := by kernel_rfl
theorem s_63 : sliceTy Try.prog 63 = some (4, 1, 1) := by kernel_rfl
theorem y_4 : zeroTy Try.prog 4 = some (.bool false) := by kernel_rfl
open Go.Sy.Bel1 Go.Sy.Bel2 Go.Sy.Bel3 Go.Sy.Bel4 Go.Sy.Bel5 Go.Sy.Bel6 Go.Sy.Bel7
theorem impl_labels (w : World) (c_b : List Value) (b : Beliefs) (h_b : Gd.rd w c_b b) (ho : okB b = true) (hsol : HasSol b) (hrl : b.Reasons.length ≤ 1048576) : Calls Try.prog 43 [(.agg c_b.toArray)].toArray w (Res w (vec b.Nodes.toNat (lbs b) : List Bool)) := by
  obtain ⟨u1, rfl, hu2⟩ := open_Beliefs h_b
  have hm3 := rd_max hu2
  have hbn := okB_nodes ho
  obtain ⟨n, hn⟩ : ∃ n : Nat, b.Nodes = (n : Int) := ⟨b.Nodes.toNat, by omega⟩
  refine enter 20 Try.func43 rfl rfl rfl ?_
  refine C_seq ?_
  refine C_reg ?_
  refine li rfl (D_box rfl rfl rfl rfl rfl fun g4 => ?_)
  refine p1 rfl ?_
  refine D_end ?_
  refine x_then ?_
  refine D_H ([bx g4 [(.int .i64 b.Nodes), u1]]) rfl ?_
  refine C_seq ?_
  refine C_reg ?_
  refine p1 rfl ?_
  refine D_end ?_
  refine x_then ?_
  refine C_seq ?_
  refine C_seq ?_
  refine C_reg ?_
  refine q1 rfl (lbw 0 a_26 rfl rfl rfl) ?_
  refine li rfl (crl b_52 rfl rfl rfl rfl (fun w' hs => (impl_rounds w' [(.int .i64 b.Nodes), u1] b (rd_at hs h_b) (by first | assumption | omega | (unfold szm at *; split at * <;> omega)) (by first | assumption | omega | (unfold szm at *; split at * <;> omega)) (by first | assumption | omega | (unfold szm at *; split at * <;> omega)))) fun v5 => ?_)
  refine q1 rfl (lenv s_27 rfl rfl (fun w' hs => (rd_own (k := 0) hs rfl)) (vec_len _ _)) ?_
  refine p1 rfl ?_
  refine D_end ?_
  refine x_then ?_
  refine D_H ([ov [v5] (vec b.Nodes.toNat (rnds b) : (List Int)), bx g4 [(.int .i64 b.Nodes), u1]]) rfl ?_
  refine C_block ?_
  refine C_loop (fun m_ ac w' => ∃ (k : Nat), ∃ (v : Value), (k ≤ b.Nodes.toNat) ∧ m_ = b.Nodes.toNat - k ∧ Fits ac 20 [(3, v), (7, v5), (8, (.int .i64 ((b.Nodes.toNat : Nat) : Int))), (9, (.int .i64 ((k : Nat) : Int)))] ∧ St w ([ov [v] (vec k (lbs b) : (List Bool)), ov [v5] (vec b.Nodes.toNat (rnds b) : (List Int)), bx g4 [(.int .i64 b.Nodes), u1]]) w') ?_ ?_
  · refine D_nil (α := Bool) ?_
    refine D_eq 0 rfl (show ([] : (List Bool)) = vec 0 (lbs b) from by rfl) ?_
    refine fun ac w' hf hs => ⟨_, 0, (.slice none 0 0), ?_, rfl, hf.weak ⟨rfl, rfl, rfl, rfl, trivial⟩, hs⟩
    · first | assumption | omega | simp
  · rintro m_ ac w' ⟨k, v, hk, rfl, hf, hs⟩
    refine D.use ?_ hf hs
    clear hf hs ac w'
    have hvl := vec_len k (lbs b)
    refine C_seq ?_
    refine C_reg ?_
    refine p1 rfl ?_
    refine D_end ?_
    refine x_then ?_
    refine D_H ([ov [v] (vec k (lbs b) : (List Bool)), ov [v5] (vec b.Nodes.toNat (rnds b) : (List Int)), bx g4 [(.int .i64 b.Nodes), u1]]) rfl ?_
    refine C_seq ?_
    refine C_if _ rfl (fun h6 => ?_) (fun h6 => ?_)
    · have pr6 : (((k : Nat) : Int) : Int) < ((b.Nodes.toNat : Nat) : Int) := of_decide_eq_true h6
      refine C_skip ?_
      refine x_then ?_
      refine C_seq ?_
      refine C_block ?_
      refine C_seq ?_
      refine C_reg ?_
      have hx8 : (vec b.Nodes.toNat (rnds b))[k]? = some ((rnds b) k) := vec_get (by omega)
      refine q1 rfl (D_ix (l := (vec b.Nodes.toNat (rnds b))) (j := k) s_27 rfl rfl rfl (fun w' hs => (rd_own (k := 1) hs rfl)) rfl (lt_of_some hx8)) ?_
      refine q1 rfl (lo (α := Int) 1 o_3 rfl rfl rfl hx8) ?_
      refine p1 rfl ?_
      refine D_end ?_
      refine x_then ?_
      refine C_reg ?_
      refine p1 rfl <| p1 rfl <| p1 rfl ?_
      refine li rfl (D_bs s_63 y_4 rfl (by decide) (by decide) rfl rfl rfl rfl rfl rfl fun g9 => ?_)
      refine D_fbool (decide ((0 : Int) ≤ ((rnds b) k))) ?_
      refine D_pk (H' := [ov [v] (vec k (lbs b) : (List Bool)), ov [(.bool (decide ((0 : Int) ≤ ((rnds b) k))))] ((decide ((0 : Int) ≤ ((rnds b) k))) : Bool), bx g9 [(.bool (decide ((0 : Int) ≤ ((rnds b) k))))], ov [v5] (vec b.Nodes.toNat (rnds b) : (List Int)), bx g4 [(.int .i64 b.Nodes), u1]]) [2, 0, 1, 3, 4] rfl rfl ?_
      refine li rfl (D_ap s_63 y_4 rfl (by decide) rfl rfl rfl rfl rfl rfl (by first | omega | (simp; omega)) (by first | omega | (simp; omega)) fun v10 => ?_)
      refine p1 rfl ?_
      refine D_end ?_
      refine x_blk ?_
      refine x_then ?_
      refine D_H ([ov [v10] ((vec k (lbs b)) ++ [(decide ((0 : Int) ≤ ((rnds b) k)))] : (List Bool)), ov [v5] (vec b.Nodes.toNat (rnds b) : (List Int)), bx g4 [(.int .i64 b.Nodes), u1]]) rfl ?_
      refine C_reg ?_
      refine q1 rfl (D_add rfl rfl rfl (r := ((k + 1 : Nat) : Int)) (by omega) (by omega)) ?_
      refine p1 rfl ?_
      refine D_end ?_
      refine x_then ?_
      refine D_eq 0 rfl (show ((vec k (lbs b)) ++ [(decide ((0 : Int) ≤ ((rnds b) k)))] : (List Bool)) = vec (k + 1) (lbs b) from by exact vec_snoc k (lbs b)) ?_
      refine fun ac w' hf hs => ⟨_, ?_, k + 1, v10, ?_, rfl, hf.weak ⟨rfl, rfl, rfl, rfl, trivial⟩, hs⟩
      · omega
      · first | assumption | omega | simp
    · have pr6 : ¬ (((k : Nat) : Int) : Int) < ((b.Nodes.toNat : Nat) : Int) := of_decide_eq_false h6
      refine C_exit ?_
      refine x_then_exit ?_
      refine x_then_exit ?_
      refine x_blk_eq ?_
      refine x_then ?_
      refine C_seq ?_
      refine C_reg ?_
      refine p1 rfl <| p1 rfl ?_
      refine D_end ?_
      refine x_then ?_
      refine C_ret ?_
      refine R_1 rfl rfl fun w' hs => res_of (k := 0) hs rfl ?_
      show vec k (lbs b) = vec b.Nodes.toNat (lbs b)
      rw [show k = b.Nodes.toNat by omega]
end Go.Sy.Bel8
