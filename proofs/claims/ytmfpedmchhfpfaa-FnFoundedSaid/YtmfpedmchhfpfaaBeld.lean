/-
  Contracts of functions of the program, walked (printed by a program of ours).
  Conditions: those that each theorem states.
-/
import Derived.Test.YtmfpedmchhfpfaaBelc
import Derived.Test.YtmfpedmchhfpfaaRep
set_option linter.unusedVariables false
set_option maxRecDepth 20000
namespace Go.Sy.Beld
open Go Go.RowKit Go.Proofs Go.Sy
theorem mixed : Try.prog.follows .mixedOrders = true := by kernel_rfl
theorem a_26 : aggTy Try.prog 26 = some 2 := by kernel_rfl
theorem b_15 : hasBody Try.prog 15 = true := by kernel_rfl
theorem b_31 : hasBody Try.prog 31 = true := by kernel_rfl
theorem b_45 : hasBody Try.prog 45 = true := by kernel_rfl
theorem s_28 : sliceTy Try.prog 28 = some (3, 1, 8) := by kernel_rfl
theorem b_58 : hasBody Try.prog 58 = true := by kernel_rfl
theorem b_35 : hasBody Try.prog 35 = true := by kernel_rfl
theorem f_26_0 : fieldOff Try.prog 26 0 = some 0 := by kernel_rfl
theorem o_3 : oneTy Try.prog 3 = true := by kernel_rfl
theorem s_34 : sliceTy Try.prog 34 = some (4, 1, 1) := by kernel_rfl
theorem y_4 : zeroTy Try.prog 4 = some (.bool false) := by kernel_rfl
theorem f_26_1 : fieldOff Try.prog 26 1 = some 1 := by kernel_rfl
theorem o_24 : oneTy Try.prog 24 = true := by kernel_rfl
theorem s_24 : sliceTy Try.prog 24 = some (31, 3, 56) := by kernel_rfl
theorem a_31 : aggTy Try.prog 31 = some 3 := by kernel_rfl
theorem y_31 : zeroTy Try.prog 31 = some (.agg #[(.int .i64 0), (.slice none 0 0), (.slice none 0 0)]) := by kernel_rfl
theorem z_31 : sizeTy Try.prog 31 = some 3 := by kernel_rfl
theorem f_31_1 : fieldOff Try.prog 31 1 = some 1 := by kernel_rfl
theorem o_28 : oneTy Try.prog 28 = true := by kernel_rfl
theorem b_37 : hasBody Try.prog 37 = true := by kernel_rfl
theorem f_31_2 : fieldOff Try.prog 31 2 = some 2 := by kernel_rfl
theorem o_4 : oneTy Try.prog 4 = true := by kernel_rfl
theorem f_31_0 : fieldOff Try.prog 31 0 = some 0 := by kernel_rfl
theorem z_4 : sizeTy Try.prog 4 = some 1 := by kernel_rfl
open Go.Sy.Bel1 Go.Sy.Bel4 Go.Sy.Bel5 Go.Sy.Bel6 Go.Sy.Bel7 Go.Sy.Bel8 Go.Sy.Bel9 Go.Sy.Bela Go.Sy.Belc
theorem impl_FoundationOf (w : World) (c_b : List Value) (b : Beliefs) (x : Int) (h_b : Gd.rd w c_b b) : Calls Try.prog 25 [(.agg c_b.toArray), (.int .i64 x)].toArray w (Res w (foundOf b x : List Int)) := by
  obtain ⟨u1, rfl, hu2⟩ := open_Beliefs h_b
  have hm3 := rd_max hu2
  refine enter 13 Try.func25 rfl rfl rfl ?_
  refine C_seq ?_
  refine C_reg ?_
  refine li rfl (D_box rfl rfl rfl rfl rfl fun g4 => ?_)
  refine p1 rfl ?_
  refine D_end ?_
  refine x_then ?_
  refine D_H ([bx g4 [(.int .i64 b.Nodes), u1]]) rfl ?_
  refine C_seq ?_
  refine C_seq ?_
  refine C_reg ?_
  refine q1 rfl (lbw 0 a_26 rfl rfl rfl) ?_
  refine li rfl (cv b_15 rfl rfl rfl rfl (fun w' hs => (impl_IsStratified w' [(.int .i64 b.Nodes), u1] b (rd_at hs h_b))) ?_)
  refine p1 rfl ?_
  refine D_end ?_
  refine x_then ?_
  refine C_if _ rfl (fun h5 => ?_) (fun h5 => ?_)
  · have h5n : (isStrat b) = false := not_t h5
    refine C_seq ?_
    refine C_reg ?_
    refine p1 rfl ?_
    refine D_end ?_
    refine x_then ?_
    refine C_ret ?_
    refine x_then_ret ?_
    refine D_nil (α := Int) ?_
    refine R_1 rfl rfl fun w' hs => res_of (k := 0) hs rfl ?_
    show [] = foundOf b x
    exact found_f h5n
  · have h5n : (isStrat b) = true := not_f h5
    refine C_skip ?_
    refine x_then ?_
    refine C_seq ?_
    have hst : isStrat b = true := by assumption
    have hsol := strat_has hst
    have ho := isB_ok2 (strat_b hst)
    have hbn := okB_nodes ho
    have hrl : b.Reasons.length ≤ 1048576 := by have := isB_len (strat_b hst); omega
    refine C_draw mixed [4, 5] (by kernel_rfl) ?_
    refine tk 0 rfl (by kernel_rfl) (by kernel_rfl) (by kernel_rfl) rfl (fun _ hs => hs) (lbw 0 a_26 rfl rfl rfl) ?_
    refine tk 1 rfl (by kernel_rfl) (by kernel_rfl) (by kernel_rfl) rfl (fun _ hs => hs) (lbw 0 a_26 rfl rfl rfl) ?_
    refine tk 3 rfl (by kernel_rfl) (by kernel_rfl) (by kernel_rfl) rfl (fun _ hs => hs) (rp rfl) ?_
    refine ty 2 rfl (by kernel_rfl) rfl (crl b_31 rfl rfl rfl rfl (fun w' hs => (impl_rounds w' [(.int .i64 b.Nodes), u1] b (rd_at hs h_b) (by first | assumption | omega | (unfold szm at *; split at * <;> omega)) (by first | assumption | omega | (unfold szm at *; split at * <;> omega)) (by first | assumption | omega | (unfold szm at *; split at * <;> omega)))) fun v6 => ?_)
    refine tS (fun _ hs => hs.pk [1] rfl rfl) ?_
    refine ty 4 rfl (by kernel_rfl) rfl (crl b_45 rfl rfl rfl rfl (fun w' hs => impl_foundation_nil 25 w' [(.int .i64 b.Nodes), u1] b v6 (vec b.Nodes.toNat (rnds b)) x (rd_at hs h_b) (rd_own (k := 0) hs rfl) (by first | assumption | omega) (vec_len _ _) (rnds_25 ho hsol _) (Good.nil b) (by first | assumption | omega)) fun v7 => ?_)
    refine tZ rfl ?_
    refine ty 5 rfl (by kernel_rfl) rfl (sv rfl rfl (rp rfl) ?_)
    refine tZ rfl ?_
    refine tE (by kernel_rfl) ?_
    refine x_then ?_
    refine D_H ([ov [v7] (fndG b (suppL b (vec b.Nodes.toNat (rnds b))) 25 x ([] : List Int) : (List Int)), ov [v6] (vec b.Nodes.toNat (rnds b) : (List Int)), bx g4 [(.int .i64 b.Nodes), u1]]) rfl ?_
    refine C_ret ?_
    refine R_1 rfl rfl fun w' hs => res_of (k := 0) hs rfl ?_
    show fndG b (suppL b (vec b.Nodes.toNat (rnds b))) 25 x ([] : List Int) = foundOf b x
    exact found_t hst

theorem spec_FoundationOf (w : World) (c_b : List Value) (b : Beliefs) (x : Int) (h_b : Gd.rd w c_b b) (hrl : b.Reasons.length ≤ 1048576) : Calls Try.prog 46 [(.agg c_b.toArray), (.int .i64 x)].toArray w (Res w (foundOf b x : List Int)) := by
  obtain ⟨u1, rfl, hu2⟩ := open_Beliefs h_b
  have hm3 := rd_max hu2
  refine enter 9 Try.func46 rfl rfl rfl ?_
  refine C_seq ?_
  refine C_reg ?_
  refine li rfl (D_box rfl rfl rfl rfl rfl fun g4 => ?_)
  refine p1 rfl ?_
  refine D_end ?_
  refine x_then ?_
  refine D_H ([bx g4 [(.int .i64 b.Nodes), u1]]) rfl ?_
  refine C_seq ?_
  refine C_reg ?_
  refine q1 rfl (lbw 0 a_26 rfl rfl rfl) ?_
  refine p1 rfl ?_
  refine li rfl (D_bs0 (α := Int) s_28 rfl rfl rfl fun v5 => ?_)
  refine li rfl (cmv b_58 rfl rfl rfl rfl (fun w' hs => spec_l11Found 25 _ _ w' [(.int .i64 b.Nodes), u1] b x v5 ([]) h_b (rnds_25' b _) (Good.nil b) (by first | assumption | omega) hs) fun v6 => ?_)
  refine p1 rfl ?_
  refine D_end ?_
  refine x_then ?_
  refine D_H ([ov [v6] (fndG b (suppOf b) 25 x ([] : List Int) : (List Int)), bx g4 [(.int .i64 b.Nodes), u1]]) rfl ?_
  refine C_ret ?_
  refine R_1 rfl rfl fun w' hs => res_of (k := 0) hs rfl ?_
  show fndG b (suppOf b) 25 x ([] : List Int) = foundOf b x
  rfl

set_option maxHeartbeats 4000000 in
theorem impl_IsFoundation (w : World) (c_b : List Value) (b : Beliefs) (x : Int) (v_l : Value) (l : (List Int)) (h_b : Gd.rd w c_b b) (h_l : Gd.rd w [v_l] l) : Calls Try.prog 26 [(.agg c_b.toArray), (.int .i64 x), v_l].toArray w (Val w (.bool (isFnd b x l))) := by
  obtain ⟨u1, rfl, hu2⟩ := open_Beliefs h_b
  have hm3 := rd_max hu2
  have hm4 := rd_max h_l
  refine enter 91 Try.func26 rfl rfl rfl ?_
  refine C_seq ?_
  refine C_reg ?_
  refine li rfl (D_box rfl rfl rfl rfl rfl fun g5 => ?_)
  refine p1 rfl ?_
  refine D_end ?_
  refine x_then ?_
  refine D_H ([bx g5 [(.int .i64 b.Nodes), u1]]) rfl ?_
  refine C_seq ?_
  refine C_seq ?_
  refine C_reg ?_
  refine q1 rfl (lbw 0 a_26 rfl rfl rfl) ?_
  refine li rfl (cv b_15 rfl rfl rfl rfl (fun w' hs => (impl_IsStratified w' [(.int .i64 b.Nodes), u1] b (rd_at hs h_b))) ?_)
  refine p1 rfl <| p1 rfl ?_
  refine gs 19 rfl rfl (fun h6 => ?_) (fun h6 => ?_)
  · have h6n : (isStrat b) = false := not_t h6
    refine n1 rfl ?_
    refine n1 rfl ?_
    refine n1 rfl ?_
    refine p1 rfl ?_
    refine D_end ?_
    refine x_then ?_
    refine C_t rfl ?_
    refine C_seq ?_
    refine C_reg ?_
    refine p1 rfl ?_
    refine D_end ?_
    refine x_then ?_
    refine C_ret ?_
    refine x_then_ret ?_
    refine R_1 rfl rfl fun w' hs => ⟨congrArg (fun z => Ending.returned (Value.bool z)) ?_, hs.bel⟩
    show (false : Bool) = isFnd b x l
    exact fnd_n1 (by assumption)
  · have h6n : (isStrat b) = true := not_f h6
    refine p1 rfl ?_
    refine q1 rfl (D_len s_28 rfl rfl (rd_sl h_l)) ?_
    refine p1 rfl <| p1 rfl ?_
    refine D_end ?_
    refine x_then ?_
    refine C_if _ rfl (fun h7 => ?_) (fun h7 => ?_)
    · have pr7 : (((l.length : Nat) : Int) : Int) = 0 := eq_of_beq h7
      refine C_seq ?_
      refine C_reg ?_
      refine p1 rfl ?_
      refine D_end ?_
      refine x_then ?_
      refine C_ret ?_
      refine x_then_ret ?_
      refine R_1 rfl rfl fun w' hs => ⟨congrArg (fun z => Ending.returned (Value.bool z)) ?_, hs.bel⟩
      show (false : Bool) = isFnd b x l
      exact fnd_n2 (by omega)
    · have pr7 : (((l.length : Nat) : Int) : Int) ≠ 0 := ne_of_beq_false h7
      refine C_skip ?_
      refine x_then ?_
      refine C_seq ?_
      have hst : isStrat b = true := by assumption
      have hsol := strat_has hst
      have ho := isB_ok2 (strat_b hst)
      have hbn := okB_nodes ho
      have hrl : b.Reasons.length ≤ 1048576 := by have := isB_len (strat_b hst); omega
      obtain ⟨n, hn⟩ : ∃ n : Nat, b.Nodes = (n : Int) := ⟨b.Nodes.toNat, by omega⟩
      refine C_reg ?_
      refine q1 rfl (lbw 0 a_26 rfl rfl rfl) ?_
      refine li rfl (crl b_35 rfl rfl rfl rfl (fun w' hs => (impl_labels w' [(.int .i64 b.Nodes), u1] b (rd_at hs h_b) (by first | assumption | omega | (unfold szm at *; split at * <;> omega)) (by first | assumption | omega | (unfold szm at *; split at * <;> omega)) (by first | assumption | omega | (unfold szm at *; split at * <;> omega)))) fun v8 => ?_)
      refine p1 rfl ?_
      refine D_end ?_
      refine x_then ?_
      refine D_H ([ov [v8] (vec b.Nodes.toNat (lbs b) : (List Bool)), bx g5 [(.int .i64 b.Nodes), u1]]) rfl ?_
      refine C_seq ?_
      refine C_reg ?_
      refine q1 rfl (D_fb f_26_0 rfl rfl (q := 0) rfl) ?_
      refine q1 rfl (lb 1 o_3 rfl rfl rfl rfl) ?_
      refine li rfl (D_mk (α := Bool) (z := false) s_34 y_4 rfl (congrArg (fun z => some (Value.int .i64 z)) hn) rfl rfl (by omega) (by omega) fun v9 => ?_)
      refine D_eq 0 rfl (vec_rep _ _) ?_
      refine p1 rfl ?_
      refine D_end ?_
      refine x_then ?_
      refine D_weak [(1, (.int .i64 x)), (2, v_l), (3, (.pointer (some ⟨g5, 0, none⟩))), (7, v8), (8, v9)] ⟨rfl, rfl, rfl, rfl, rfl, trivial⟩ ?_
      refine D_H ([ov [v9] (vec n (fun _ => false) : (List Bool)), ov [v8] (vec b.Nodes.toNat (lbs b) : (List Bool)), bx g5 [(.int .i64 b.Nodes), u1]]) rfl ?_
      refine C_seq ?_
      refine C_seq ?_
      refine C_reg ?_
      refine p1 rfl ?_
      refine q1 rfl (D_len s_28 rfl rfl (rd_sl h_l)) ?_
      refine p1 rfl ?_
      refine D_end ?_
      refine x_then ?_
      refine C_block ?_
      refine C_loop (fun m_ ac w' => ∃ (k0 : Nat), (k0 ≤ l.length) ∧ (∀ i, i < k0 → ∀ s, l[i]? = some s → 0 ≤ s ∧ s < b.Reasons.length) ∧ m_ = l.length - k0 ∧ Fits ac 91 [(1, (.int .i64 x)), (2, v_l), (3, (.pointer (some ⟨g5, 0, none⟩))), (7, v8), (8, v9), (29, v_l), (30, (.int .i64 ((l.length : Nat) : Int))), (31, (.int .i64 ((k0 : Nat) : Int)))] ∧ St w ([ov [v9] (vec n (fun _ => false) : (List Bool)), ov [v8] (vec b.Nodes.toNat (lbs b) : (List Bool)), bx g5 [(.int .i64 b.Nodes), u1]]) w') ?_ ?_
      · refine fun ac w' hf hs => ⟨_, 0, ?_, ?_, rfl, hf.weak ⟨rfl, rfl, rfl, rfl, rfl, rfl, rfl, rfl, trivial⟩, hs⟩
        · first | assumption | omega | simp
        · intro i hi; omega
      · rintro m_ ac w' ⟨k0, hk0, hi0, rfl, hf, hs⟩
        refine D.use ?_ hf hs
        clear hf hs ac w'
        refine C_seq ?_
        refine C_reg ?_
        refine p1 rfl ?_
        refine D_end ?_
        refine x_then ?_
        refine C_seq ?_
        refine C_if _ rfl (fun h10 => ?_) (fun h10 => ?_)
        · have pr10 : (((k0 : Nat) : Int) : Int) < ((l.length : Nat) : Int) := of_decide_eq_true h10
          refine C_skip ?_
          refine x_then ?_
          refine C_seq ?_
          refine C_block ?_
          refine C_seq ?_
          refine C_reg ?_
          obtain ⟨s0, hs0⟩ := some_of_lt (l := l) (i := k0) (by omega)
          obtain ⟨es11, at12, hr13⟩ := rd_elem (n := 1) rfl h_l hs0
          obtain rfl : es11 = [.int .i64 s0] := hr13
          refine q1 rfl (D_ix (l := l) (j := k0) s_28 rfl rfl rfl (fun w' hs => (rd_at hs h_l)) rfl (lt_of_some hs0)) ?_
          refine q1 rfl (lr0 o_3 rfl rfl at12 rfl) ?_
          refine p1 rfl ?_
          refine D_end ?_
          refine x_then ?_
          refine C_seq ?_
          refine C_reg ?_
          refine p1 rfl <| p1 rfl <| p1 rfl ?_
          refine gs 37 rfl rfl (fun h14 => ?_) (fun h14 => ?_)
          · have pr14 : (s0 : Int) < 0 := of_decide_eq_true h14
            refine n1 rfl ?_
            refine n1 rfl ?_
            refine n1 rfl ?_
            refine n1 rfl ?_
            refine n1 rfl ?_
            refine p1 rfl ?_
            refine D_end ?_
            refine x_then ?_
            refine C_t rfl ?_
            refine C_seq ?_
            refine C_reg ?_
            refine p1 rfl ?_
            refine D_end ?_
            refine x_then ?_
            refine D_weak [(6, (.bool false))] ⟨rfl, trivial⟩ ?_
            refine C_ret ?_
            refine x_blk_ret ?_
            refine x_then_ret ?_
            refine x_then_ret ?_
            refine x_blk_ret ?_
            refine x_then_ret ?_
            refine R_1 rfl rfl fun w' hs => ⟨congrArg (fun z => Ending.returned (Value.bool z)) ?_, hs.bel⟩
            show (false : Bool) = isFnd b x l
            exact fnd_n3 hs0 (by omega)
          · have pr14 : ¬ (s0 : Int) < 0 := of_decide_eq_false h14
            refine p1 rfl ?_
            refine q1 rfl (D_fb f_26_1 rfl rfl (q := 1) rfl) ?_
            refine q1 rfl (lb 2 o_24 rfl rfl rfl rfl) ?_
            refine q1 rfl (D_len s_24 rfl rfl (rd_sl hu2)) ?_
            refine p1 rfl <| p1 rfl ?_
            refine D_end ?_
            refine x_then ?_
            refine C_if _ rfl (fun h15 => ?_) (fun h15 => ?_)
            · have pr15 : (((b.Reasons.length : Nat) : Int) : Int) ≤ s0 := of_decide_eq_true h15
              refine C_seq ?_
              refine C_reg ?_
              refine p1 rfl ?_
              refine D_end ?_
              refine x_then ?_
              refine D_weak [(6, (.bool false))] ⟨rfl, trivial⟩ ?_
              refine C_ret ?_
              refine x_blk_ret ?_
              refine x_then_ret ?_
              refine x_then_ret ?_
              refine x_blk_ret ?_
              refine x_then_ret ?_
              refine R_1 rfl rfl fun w' hs => ⟨congrArg (fun z => Ending.returned (Value.bool z)) ?_, hs.bel⟩
              show (false : Bool) = isFnd b x l
              exact fnd_n3 hs0 (by omega)
            · have pr15 : ¬ (((b.Reasons.length : Nat) : Int) : Int) ≤ s0 := of_decide_eq_false h15
              refine C_skip ?_
              refine x_blk ?_
              refine x_then ?_
              refine C_reg ?_
              refine q1 rfl (D_add rfl rfl rfl (r := ((k0 + 1 : Nat) : Int)) (by omega) (by omega)) ?_
              refine p1 rfl ?_
              refine D_end ?_
              refine x_then ?_
              refine fun ac w' hf hs => ⟨_, ?_, k0 + 1, ?_, ?_, rfl, hf.weak ⟨rfl, rfl, rfl, rfl, rfl, rfl, rfl, rfl, trivial⟩, hs⟩
              · omega
              · first | assumption | omega | simp
              · refine forall_step hi0 ?_; intro s hs; obtain rfl : s = s0 := Option.some.inj (hs.symm.trans hs0); omega
        · have pr10 : ¬ (((k0 : Nat) : Int) : Int) < ((l.length : Nat) : Int) := of_decide_eq_false h10
          refine C_exit ?_
          refine x_then_exit ?_
          refine x_then_exit ?_
          refine x_blk_eq ?_
          refine x_then ?_
          refine C_seq ?_
          refine C_seq ?_
          refine C_reg ?_
          refine p1 rfl ?_
          refine q1 rfl (D_len s_28 rfl rfl (rd_sl h_l)) ?_
          refine p1 rfl ?_
          refine D_end ?_
          refine x_then ?_
          refine C_block ?_
          refine C_loop (fun m_ ac w' => ∃ (k : Nat), ∃ (ga : Nat → Bool), (k ≤ l.length) ∧ (ga = hvT b l k) ∧ (∀ i, i < k → fOk b l i = true) ∧ m_ = l.length - k ∧ Fits ac 91 [(1, (.int .i64 x)), (2, v_l), (3, (.pointer (some ⟨g5, 0, none⟩))), (7, v8), (8, v9), (45, v_l), (46, (.int .i64 ((l.length : Nat) : Int))), (47, (.int .i64 ((k : Nat) : Int)))] ∧ St w ([ov [v9] (vec n ga : (List Bool)), ov [v8] (vec b.Nodes.toNat (lbs b) : (List Bool)), bx g5 [(.int .i64 b.Nodes), u1]]) w') ?_ ?_
          · refine fun ac w' hf hs => ⟨_, 0, (fun _ => false), ?_, ?_, ?_, rfl, hf.weak ⟨rfl, rfl, rfl, rfl, rfl, rfl, rfl, rfl, trivial⟩, hs⟩
            · first | assumption | omega | simp
            · rfl
            · intro i hi; omega
          · rintro m_ ac w' ⟨k, ga, hk, hga, hi, rfl, hf, hs⟩
            refine D.use ?_ hf hs
            clear hf hs ac w'
            refine C_seq ?_
            refine C_reg ?_
            refine p1 rfl ?_
            refine D_end ?_
            refine x_then ?_
            refine D_H ([ov [v9] (vec n ga : (List Bool)), ov [v8] (vec b.Nodes.toNat (lbs b) : (List Bool)), bx g5 [(.int .i64 b.Nodes), u1]]) rfl ?_
            refine C_seq ?_
            refine C_if _ rfl (fun h16 => ?_) (fun h16 => ?_)
            · have pr16 : (((k : Nat) : Int) : Int) < ((l.length : Nat) : Int) := of_decide_eq_true h16
              refine C_skip ?_
              refine x_then ?_
              refine C_seq ?_
              refine C_block ?_
              refine C_seq ?_
              refine C_reg ?_
              obtain ⟨s1, hs1⟩ := some_of_lt (l := l) (i := k) (by omega)
              have hsr := hi0 _ (by omega) _ hs1
              obtain ⟨es17, at18, hr19⟩ := rd_elem (n := 1) rfl h_l hs1
              obtain rfl : es17 = [.int .i64 s1] := hr19
              refine q1 rfl (D_ix (l := l) (j := k) s_28 rfl rfl rfl (fun w' hs => (rd_at hs h_l)) rfl (lt_of_some hs1)) ?_
              refine q1 rfl (lr0 o_3 rfl rfl at18 rfl) ?_
              refine p1 rfl ?_
              refine D_end ?_
              refine x_then ?_
              refine C_seq ?_
              refine C_reg ?_
              refine q1 rfl (D_fb f_26_1 rfl rfl (q := 1) rfl) ?_
              refine q1 rfl (lb 2 o_24 rfl rfl rfl rfl) ?_
              refine p1 rfl ?_
              obtain ⟨r0, hr0⟩ := some_of_lt (l := b.Reasons) (i := (s1.toNat)) (by omega)
              have hv0 := okB_r ho hr0
              have hF := isR_for hv0
              obtain ⟨es20, at21, hr22⟩ := rd_elem (n := 3) rfl hu2 hr0
              obtain ⟨u23, u25, rfl, hu24, hu26⟩ := open_Reason hr22
              have hm27 := rd_max hu24
              have hm28 := rd_max hu26
              refine q1 rfl (D_ix (l := b.Reasons) (j := (s1.toNat)) s_24 rfl rfl rfl (fun w' hs => (rd_at hs hu2)) (Int.toNat_of_nonneg (by omega)).symm (lt_of_some hr0)) ?_
              refine q1 rfl (lra a_31 rfl rfl at21) ?_
              refine li rfl (D_alloc y_31 rfl rfl rfl rfl fun g29 => ?_)
              refine li rfl (D_stb (vs := [(.int .i64 r0.For), u23, u25]) (cs' := [(.int .i64 r0.For), u23, u25]) 0 z_31 rfl rfl rfl rfl rfl rfl (ocons rfl (ocons (one_rd hu24) (ocons (one_rd hu26) onil))) (by simp) rfl ?_)
              refine D_end ?_
              refine x_then ?_
              refine D_H ([bx g29 [(.int .i64 r0.For), u23, u25], ov [v9] (vec n ga : (List Bool)), ov [v8] (vec b.Nodes.toNat (lbs b) : (List Bool)), bx g5 [(.int .i64 b.Nodes), u1]]) rfl ?_
              refine C_seq ?_
              refine C_seq ?_
              refine C_reg ?_
              refine q1 rfl (D_fb f_31_1 rfl rfl (q := 1) rfl) ?_
              refine q1 rfl (lb 0 o_28 rfl rfl rfl rfl) ?_
              refine p1 rfl ?_
              refine li rfl (cv b_37 rfl rfl rfl rfl (fun w' hs => (impl_allPlaced w' u23 r0.In v9 (vec n ga) (rd_at hs hu24) (rd_own (k := 1) hs rfl) (by rw [vec_len, ← hn]; exact isR_in hv0))) ?_)
              refine p1 rfl ?_
              refine D_end ?_
              refine x_then ?_
              refine C_if _ rfl (fun h30 => ?_) (fun h30 => ?_)
              · have h30n : (r0.In.all (lI (vec n ga))) = false := not_t h30
                refine C_seq ?_
                refine C_reg ?_
                refine p1 rfl ?_
                refine D_end ?_
                refine x_then ?_
                refine D_weak [(6, (.bool false))] ⟨rfl, trivial⟩ ?_
                refine D_sel (H' := [ov [v9] (vec n ga : (List Bool)), ov [v8] (vec b.Nodes.toNat (lbs b) : (List Bool)), bx g5 [(.int .i64 b.Nodes), u1]]) [false, true, true, true] rfl ?_
                refine C_ret ?_
                refine x_then_ret ?_
                refine x_blk_ret ?_
                refine x_then_ret ?_
                refine x_then_ret ?_
                refine x_blk_ret ?_
                refine x_then_ret ?_
                refine R_1 rfl rfl fun w' hs => ⟨congrArg (fun z => Ending.returned (Value.bool z)) ?_, hs.bel⟩
                show (false : Bool) = isFnd b x l
                exact fnd_n4 hs1 (not_hv (n := n) hs1 hr0 (by rw [← hn]; exact isR_in hv0) (by rw [← hga]; exact not_t (by assumption)))
              · have h30n : (r0.In.all (lI (vec n ga))) = true := not_f h30
                refine C_skip ?_
                refine x_then ?_
                refine C_seq ?_
                refine C_seq ?_
                refine C_reg ?_
                refine q1 rfl (D_fb f_31_2 rfl rfl (q := 2) rfl) ?_
                refine q1 rfl (lb 0 o_28 rfl rfl rfl rfl) ?_
                refine q1 rfl (D_len s_28 rfl rfl (rd_sl hu26)) ?_
                refine p1 rfl ?_
                refine D_end ?_
                refine x_then ?_
                refine D_weak [(1, (.int .i64 x)), (2, v_l), (3, (.pointer (some ⟨g5, 0, none⟩))), (7, v8), (8, v9), (13, (.pointer (some ⟨g29, 0, none⟩))), (45, v_l), (46, (.int .i64 ((l.length : Nat) : Int))), (47, (.int .i64 ((k : Nat) : Int))), (62, u25), (63, (.int .i64 ((r0.Out.length : Nat) : Int))), (64, (.int .i64 0))] ⟨rfl, rfl, rfl, rfl, rfl, rfl, rfl, rfl, rfl, rfl, rfl, rfl, trivial⟩ ?_
                refine C_block ?_
                refine C_loop (fun m_ ac w' => ∃ (m : Nat), (m ≤ r0.Out.length) ∧ (∀ i, i < m → ∀ y, r0.Out[i]? = some y → (!(lbs b y.toNat)) = true) ∧ m_ = r0.Out.length - m ∧ Fits ac 91 [(1, (.int .i64 x)), (2, v_l), (3, (.pointer (some ⟨g5, 0, none⟩))), (7, v8), (8, v9), (13, (.pointer (some ⟨g29, 0, none⟩))), (45, v_l), (46, (.int .i64 ((l.length : Nat) : Int))), (47, (.int .i64 ((k : Nat) : Int))), (62, u25), (63, (.int .i64 ((r0.Out.length : Nat) : Int))), (64, (.int .i64 ((m : Nat) : Int)))] ∧ St w ([bx g29 [(.int .i64 r0.For), u23, u25], ov [v9] (vec n ga : (List Bool)), ov [v8] (vec b.Nodes.toNat (lbs b) : (List Bool)), bx g5 [(.int .i64 b.Nodes), u1]]) w') ?_ ?_
                · refine fun ac w' hf hs => ⟨_, 0, ?_, ?_, rfl, hf.weak ⟨rfl, rfl, rfl, rfl, rfl, rfl, rfl, rfl, rfl, rfl, rfl, rfl, trivial⟩, hs⟩
                  · first | assumption | omega | simp
                  · intro i hi; omega
                · rintro m_ ac w' ⟨m, hm, ho2, rfl, hf, hs⟩
                  refine D.use ?_ hf hs
                  clear hf hs ac w'
                  refine C_seq ?_
                  refine C_reg ?_
                  refine p1 rfl ?_
                  refine D_end ?_
                  refine x_then ?_
                  refine C_seq ?_
                  refine C_if _ rfl (fun h31 => ?_) (fun h31 => ?_)
                  · have pr31 : (((m : Nat) : Int) : Int) < ((r0.Out.length : Nat) : Int) := of_decide_eq_true h31
                    refine C_skip ?_
                    refine x_then ?_
                    refine C_seq ?_
                    refine C_block ?_
                    refine C_seq ?_
                    refine C_reg ?_
                    obtain ⟨y3, hy3⟩ := some_of_lt (l := r0.Out) (i := m) (by omega)
                    have hyn := asc_at (isR_out hv0) hy3
                    obtain ⟨es32, at33, hr34⟩ := rd_elem (n := 1) rfl hu26 hy3
                    obtain rfl : es32 = [.int .i64 y3] := hr34
                    refine q1 rfl (D_ix (l := r0.Out) (j := m) s_28 rfl rfl rfl (fun w' hs => (rd_at hs hu26)) rfl (lt_of_some hy3)) ?_
                    refine q1 rfl (lr0 o_3 rfl rfl at33 rfl) ?_
                    refine p1 rfl ?_
                    refine D_end ?_
                    refine x_then ?_
                    refine C_seq ?_
                    refine C_reg ?_
                    refine p1 rfl <| p1 rfl ?_
                    have hx36 : (vec b.Nodes.toNat (lbs b))[(y3.toNat)]? = some ((lbs b) (y3.toNat)) := vec_get (by omega)
                    refine q1 rfl (D_ix (l := (vec b.Nodes.toNat (lbs b))) (j := (y3.toNat)) s_34 rfl rfl rfl (fun w' hs => (rd_own (k := 2) hs rfl)) (Int.toNat_of_nonneg (by omega)).symm (lt_of_some hx36)) ?_
                    refine q1 rfl (lo (α := Bool) 2 o_4 rfl rfl rfl hx36) ?_
                    refine D_end ?_
                    refine x_then ?_
                    refine C_if _ rfl (fun h37 => ?_) (fun h37 => ?_)
                    · refine C_seq ?_
                      refine C_reg ?_
                      refine p1 rfl ?_
                      refine D_end ?_
                      refine x_then ?_
                      refine D_weak [(6, (.bool false))] ⟨rfl, trivial⟩ ?_
                      refine C_ret ?_
                      refine x_blk_ret ?_
                      refine x_then_ret ?_
                      refine x_then_ret ?_
                      refine x_blk_ret ?_
                      refine x_then_ret ?_
                      refine x_blk_ret ?_
                      refine x_then_ret ?_
                      refine x_then_ret ?_
                      refine x_blk_ret ?_
                      refine x_then_ret ?_
                      refine R_1 rfl rfl fun w' hs => ⟨congrArg (fun z => Ending.returned (Value.bool z)) ?_, hs.bel⟩
                      show (false : Bool) = isFnd b x l
                      exact fnd_n4 hs1 (fOk_out hs1 hr0 hy3 (by assumption))
                    · refine C_skip ?_
                      refine x_blk ?_
                      refine x_then ?_
                      refine C_reg ?_
                      refine q1 rfl (D_add rfl rfl rfl (r := ((m + 1 : Nat) : Int)) (by omega) (by omega)) ?_
                      refine p1 rfl ?_
                      refine D_end ?_
                      refine x_then ?_
                      refine fun ac w' hf hs => ⟨_, ?_, m + 1, ?_, ?_, rfl, hf.weak ⟨rfl, rfl, rfl, rfl, rfl, rfl, rfl, rfl, rfl, rfl, rfl, rfl, trivial⟩, hs⟩
                      · omega
                      · first | assumption | omega | simp
                      · refine forall_step ho2 ?_; intro y hy; obtain rfl : y = y3 := Option.some.inj (hy.symm.trans hy3); rw [show lbs b y.toNat = false by assumption]; rfl
                  · have pr31 : ¬ (((m : Nat) : Int) : Int) < ((r0.Out.length : Nat) : Int) := of_decide_eq_false h31
                    refine C_exit ?_
                    refine x_then_exit ?_
                    refine x_then_exit ?_
                    refine x_blk_eq ?_
                    refine x_then ?_
                    refine C_reg ?_
                    refine p1 rfl ?_
                    refine q1 rfl (D_fb f_31_0 rfl rfl (q := 0) rfl) ?_
                    refine q1 rfl (lb 0 o_3 rfl rfl rfl rfl) ?_
                    have hx39 : (vec n ga)[(r0.For.toNat)]? = some (ga (r0.For.toNat)) := vec_get (by omega)
                    refine q1 rfl (D_ix (l := (vec n ga)) (j := (r0.For.toNat)) s_34 rfl rfl rfl (fun w' hs => (rd_own (k := 1) hs rfl)) (Int.toNat_of_nonneg (by omega)).symm (lt_of_some hx39)) ?_
                    refine li rfl (so (α := Bool) (z := true) 1 z_4 rfl rfl rfl rfl rfl (lt_of_some hx39) ?_)
                    refine D_eq 1 rfl (vec_set _ _ _ _) ?_
                    refine D_end ?_
                    refine x_blk ?_
                    refine x_then ?_
                    refine D_H ([bx g29 [(.int .i64 r0.For), u23, u25], ov [v9] (vec n (upd ga (r0.For.toNat) true) : (List Bool)), ov [v8] (vec b.Nodes.toNat (lbs b) : (List Bool)), bx g5 [(.int .i64 b.Nodes), u1]]) rfl ?_
                    refine C_reg ?_
                    refine q1 rfl (D_add rfl rfl rfl (r := ((k + 1 : Nat) : Int)) (by omega) (by omega)) ?_
                    refine p1 rfl ?_
                    refine D_end ?_
                    refine x_then ?_
                    refine fun ac w' hf hs => ⟨_, ?_, k + 1, (upd ga (r0.For.toNat) true), ?_, ?_, ?_, rfl, hf.weak ⟨rfl, rfl, rfl, rfl, rfl, rfl, rfl, rfl, trivial⟩, hs.pk [1, 2, 3] rfl rfl⟩
                    · omega
                    · first | assumption | omega | simp
                    · rw [hga]; exact hvT_step hs1 hr0
                    · refine forall_step hi (fOk_t hs1 hr0 (all_hv (n := n) (by rw [← hn]; exact isR_in hv0) (by rw [← hga]; exact not_f (by assumption))) (fun i h => ho2 i (by omega)))
            · have pr16 : ¬ (((k : Nat) : Int) : Int) < ((l.length : Nat) : Int) := of_decide_eq_false h16
              refine C_exit ?_
              refine x_then_exit ?_
              refine x_then_exit ?_
              refine x_blk_eq ?_
              refine x_then ?_
              refine C_seq ?_
              refine C_draw mixed [] (by kernel_rfl) ?_
              refine tk 0 rfl (by kernel_rfl) (by kernel_rfl) (by kernel_rfl) rfl (fun _ hs => hs) (D_fb f_26_1 rfl rfl (q := 1) rfl) ?_
              refine tk 1 rfl (by kernel_rfl) (by kernel_rfl) (by kernel_rfl) rfl (fun _ hs => hs) (lb 2 o_24 rfl rfl rfl rfl) ?_
              refine tk 2 rfl (by kernel_rfl) (by kernel_rfl) (by kernel_rfl) rfl (fun _ hs => hs) (rp rfl) ?_
              refine tk 3 rfl (by kernel_rfl) (by kernel_rfl) (by kernel_rfl) rfl (fun _ hs => hs) (rp rfl) ?_
              refine tk 4 rfl (by kernel_rfl) (by kernel_rfl) (by kernel_rfl) rfl (fun _ hs => hs) (D_len s_28 rfl rfl (rd_sl h_l)) ?_
              refine tk 5 rfl (by kernel_rfl) (by kernel_rfl) (by kernel_rfl) rfl (fun _ hs => hs) (D_sub rfl rfl rfl (r := ((l.length - 1 : Nat) : Int)) (by omega) (by omega)) ?_
              obtain ⟨s9, hs9⟩ := some_of_lt (l := l) (i := (l.length - 1)) (by omega)
              have hsr9 := hi0 _ (by omega) _ hs9
              obtain ⟨es40, at41, hr42⟩ := rd_elem (n := 1) rfl h_l hs9
              obtain rfl : es40 = [.int .i64 s9] := hr42
              refine tk 6 rfl (by kernel_rfl) (by kernel_rfl) (by kernel_rfl) rfl (fun _ hs => hs) (D_ix (l := l) (j := (l.length - 1)) s_28 rfl rfl rfl (fun w' hs => (rd_at hs h_l)) rfl (lt_of_some hs9)) ?_
              refine tk 7 rfl (by kernel_rfl) (by kernel_rfl) (by kernel_rfl) rfl (fun _ hs => hs) (lr0 o_3 rfl rfl at41 rfl) ?_
              obtain ⟨r9, hr9⟩ := some_of_lt (l := b.Reasons) (i := (s9.toNat)) (by omega)
              obtain ⟨es43, at44, hr45⟩ := rd_elem (n := 3) rfl hu2 hr9
              obtain ⟨u46, u48, rfl, hu47, hu49⟩ := open_Reason hr45
              have hm50 := rd_max hu47
              have hm51 := rd_max hu49
              refine tk 8 rfl (by kernel_rfl) (by kernel_rfl) (by kernel_rfl) rfl (fun _ hs => hs) (D_ix (l := b.Reasons) (j := (s9.toNat)) s_24 rfl rfl rfl (fun w' hs => (rd_at hs hu2)) (Int.toNat_of_nonneg (by omega)).symm (lt_of_some hr9)) ?_
              refine tk 9 rfl (by kernel_rfl) (by kernel_rfl) (by kernel_rfl) rfl (fun _ hs => hs) (D_fa f_31_0 rfl rfl) ?_
              refine tk 10 rfl (by kernel_rfl) (by kernel_rfl) (by kernel_rfl) rfl (fun _ hs => hs) (lr o_3 rfl rfl at44 rfl) ?_
              refine tk 11 rfl (by kernel_rfl) (by kernel_rfl) (by kernel_rfl) rfl (fun _ hs => hs) (rp rfl) ?_
              refine tk 12 rfl (by kernel_rfl) (by kernel_rfl) (by kernel_rfl) rfl (fun _ hs => hs) (rp rfl) ?_
              refine tk 13 rfl (by kernel_rfl) (by kernel_rfl) (by kernel_rfl) rfl (fun _ hs => hs) (rp rfl) ?_
              refine tE (by kernel_rfl) ?_
              refine x_then ?_
              refine D_weak [(6, (.bool ((r9.For : Int) == x)))] ⟨rfl, trivial⟩ ?_
              refine D_sel (H' := []) [false, false, false] rfl ?_
              refine C_ret ?_
              refine R_1 rfl rfl fun w' hs => ⟨congrArg (fun z => Ending.returned (Value.bool z)) ?_, hs.bel⟩
              show (((r9.For : Int) == x) : Bool) = isFnd b x l
              exact fnd_y hst (by omega) (fun i h => hi0 i (by omega)) (fun i h => hi i (by omega)) hs9 hr9
end Go.Sy.Beld
