/-
  Contracts of functions of the program, walked (printed by a program of ours).
  Conditions: those that each theorem states.
-/
import Derived.Test.YtmfpedmchhfpfaaCur1
import Derived.Test.YtmfpedmchhfpfaaOne
set_option linter.unusedVariables false
set_option maxRecDepth 20000
namespace Go.Sy.Law1
open Go Go.RowKit Go.Proofs Go.Sy
theorem mixed : Try.prog.follows .mixedOrders = true := by kernel_rfl
theorem s_22 : sliceTy Try.prog 22 = some (5, 1, 1) := by kernel_rfl
theorem s_34 : sliceTy Try.prog 34 = some (4, 1, 1) := by kernel_rfl
theorem o_4 : oneTy Try.prog 4 = true := by kernel_rfl
theorem ub_4 : Try.prog.underlying 4 = some .bool := by kernel_rfl
theorem b_8 : hasBody Try.prog 8 = true := by kernel_rfl
theorem b_9 : hasBody Try.prog 9 = true := by kernel_rfl
theorem y_26 : zeroTy Try.prog 26 = some (.agg #[(.int .i64 0), (.slice none 0 0)]) := by kernel_rfl
theorem z_26 : sizeTy Try.prog 26 = some 2 := by kernel_rfl
theorem a_26 : aggTy Try.prog 26 = some 2 := by kernel_rfl
theorem b_14 : hasBody Try.prog 14 = true := by kernel_rfl
theorem b_15 : hasBody Try.prog 15 = true := by kernel_rfl
theorem f_26_0 : fieldOff Try.prog 26 0 = some 0 := by kernel_rfl
theorem o_3 : oneTy Try.prog 3 = true := by kernel_rfl
theorem y_4 : zeroTy Try.prog 4 = some (.bool false) := by kernel_rfl
theorem b_16 : hasBody Try.prog 16 = true := by kernel_rfl
theorem b_17 : hasBody Try.prog 17 = true := by kernel_rfl
open Go.Sy.Bel1 Go.Sy.Bel4 Go.Sy.Bel5 Go.Sy.Bel6 Go.Sy.Bel7 Go.Sy.Bel8 Go.Sy.Bel9 Go.Sy.Bela Go.Sy.Belc Go.Sy.Beld Go.Sy.Cur1
theorem laws_big (w : World) (v_code : Value) (code : (List UInt8)) (h_code : Gd.rd w [v_code] code) : Calls Try.prog 8 [v_code].toArray w (Val w (.bool (decide (4096 < code.length)))) := by
  have hm1 := rd_max h_code
  refine enter 6 Try.func8 rfl rfl rfl ?_
  refine C_seq ?_
  refine C_reg ?_
  refine p1 rfl ?_
  refine D_end ?_
  refine x_then ?_
  refine C_seq ?_
  refine C_reg ?_
  refine p1 rfl ?_
  refine q1 rfl (D_len s_22 rfl rfl (rd_sl h_code)) ?_
  refine p1 rfl <| p1 rfl ?_
  refine D_end ?_
  refine x_then ?_
  refine C_ret ?_
  refine R_1 rfl rfl fun w' hs => ⟨congrArg (fun z => Ending.returned (Value.bool z)) ?_, hs.bel⟩
  show ((decide ((4096 : Int) < ((code.length : Nat) : Int))) : Bool) = decide (4096 < code.length)
  first | rfl | (simp; omega)

theorem laws_bools (w : World) (v_a : Value) (a : (List Bool)) (v_b : Value) (b : (List Bool)) (h_a : Gd.rd w [v_a] a) (h_b : Gd.rd w [v_b] b) : Calls Try.prog 17 [v_a, v_b].toArray w (Val w (.bool (decide (a = b)))) := by
  have hm1 := rd_max h_a
  have hm2 := rd_max h_b
  refine enter 26 Try.func17 rfl rfl rfl ?_
  refine C_seq ?_
  refine C_reg ?_
  refine p1 rfl ?_
  refine D_end ?_
  refine x_then ?_
  refine C_seq ?_
  refine C_seq ?_
  refine C_reg ?_
  refine p1 rfl ?_
  refine q1 rfl (D_len s_34 rfl rfl (rd_sl h_a)) ?_
  refine p1 rfl ?_
  refine q1 rfl (D_len s_34 rfl rfl (rd_sl h_b)) ?_
  refine p1 rfl ?_
  refine D_end ?_
  refine x_then ?_
  refine C_if _ rfl (fun h3 => ?_) (fun h3 => ?_)
  · have pr3 : (((a.length : Nat) : Int) : Int) ≠ ((b.length : Nat) : Int) := bne_iff_ne.1 h3
    refine C_seq ?_
    refine C_reg ?_
    refine p1 rfl ?_
    refine D_end ?_
    refine x_then ?_
    refine C_ret ?_
    refine x_then_ret ?_
    refine R_1 rfl rfl fun w' hs => ⟨congrArg (fun z => Ending.returned (Value.bool z)) ?_, hs.bel⟩
    show (false : Bool) = decide (a = b)
    simp; intro e; subst e; simp_all
  · have pr3 : (((a.length : Nat) : Int) : Int) = ((b.length : Nat) : Int) := eq_of_bne_f h3
    refine C_skip ?_
    refine x_then ?_
    refine C_seq ?_
    refine C_seq ?_
    refine C_reg ?_
    refine p1 rfl ?_
    refine D_end ?_
    refine x_then ?_
    refine C_block ?_
    refine C_loop (fun m_ ac w' => ∃ (k : Nat), (k ≤ a.length) ∧ (∀ i, i < k → a[i]? = b[i]?) ∧ m_ = a.length - k ∧ Fits ac 26 [(0, v_a), (1, v_b), (5, (.int .i64 ((k : Nat) : Int)))] ∧ St w ([]) w') ?_ ?_
    · refine fun ac w' hf hs => ⟨_, 0, ?_, ?_, rfl, hf.weak ⟨rfl, rfl, rfl, trivial⟩, hs⟩
      · first | assumption | omega | simp
      · intro i hi; omega
    · rintro m_ ac w' ⟨k, hk, hi, rfl, hf, hs⟩
      refine D.use ?_ hf hs
      clear hf hs ac w'
      refine C_seq ?_
      refine C_seq ?_
      refine C_reg ?_
      refine p1 rfl <| p1 rfl ?_
      refine q1 rfl (D_len s_34 rfl rfl (rd_sl h_a)) ?_
      refine p1 rfl ?_
      refine D_end ?_
      refine x_then ?_
      refine C_if _ rfl (fun h4 => ?_) (fun h4 => ?_)
      · have pr4 : (((k : Nat) : Int) : Int) < ((a.length : Nat) : Int) := of_decide_eq_true h4
        refine C_skip ?_
        refine x_then ?_
        refine C_seq ?_
        refine C_block ?_
        refine C_seq ?_
        refine C_draw mixed [] (by kernel_rfl) ?_
        refine tk 0 rfl (by kernel_rfl) (by kernel_rfl) (by kernel_rfl) rfl (fun _ hs => hs) (rp rfl) ?_
        refine tk 1 rfl (by kernel_rfl) (by kernel_rfl) (by kernel_rfl) rfl (fun _ hs => hs) (rp rfl) ?_
        obtain ⟨x5, hx6⟩ := some_of_lt (l := a) (i := k) (by omega)
        obtain ⟨es7, at8, hr9⟩ := rd_elem (n := 1) rfl h_a hx6
        obtain rfl : es7 = [.bool x5] := hr9
        refine tk 2 rfl (by kernel_rfl) (by kernel_rfl) (by kernel_rfl) rfl (fun _ hs => hs) (D_ix (l := a) (j := k) s_34 rfl rfl rfl (fun w' hs => (rd_at hs h_a)) rfl (lt_of_some hx6)) ?_
        refine tk 3 rfl (by kernel_rfl) (by kernel_rfl) (by kernel_rfl) rfl (fun _ hs => hs) (lr0 o_4 rfl rfl at8 rfl) ?_
        refine tk 4 rfl (by kernel_rfl) (by kernel_rfl) (by kernel_rfl) rfl (fun _ hs => hs) (rp rfl) ?_
        refine tk 5 rfl (by kernel_rfl) (by kernel_rfl) (by kernel_rfl) rfl (fun _ hs => hs) (rp rfl) ?_
        obtain ⟨x10, hx11⟩ := some_of_lt (l := b) (i := k) (by omega)
        obtain ⟨es12, at13, hr14⟩ := rd_elem (n := 1) rfl h_b hx11
        obtain rfl : es12 = [.bool x10] := hr14
        refine tk 6 rfl (by kernel_rfl) (by kernel_rfl) (by kernel_rfl) rfl (fun _ hs => hs) (D_ix (l := b) (j := k) s_34 rfl rfl rfl (fun w' hs => (rd_at hs h_b)) rfl (lt_of_some hx11)) ?_
        refine tk 7 rfl (by kernel_rfl) (by kernel_rfl) (by kernel_rfl) rfl (fun _ hs => hs) (lr0 o_4 rfl rfl at13 rfl) ?_
        refine tk 8 rfl (by kernel_rfl) (by kernel_rfl) (by kernel_rfl) rfl (fun _ hs => hs) (D_neB ub_4 rfl rfl rfl) ?_
        refine tE (by kernel_rfl) ?_
        refine x_then ?_
        refine C_if _ rfl (fun h15 => ?_) (fun h15 => ?_)
        · refine C_seq ?_
          refine C_reg ?_
          refine p1 rfl ?_
          refine D_end ?_
          refine x_then ?_
          refine D_weak [(4, (.bool false))] ⟨rfl, trivial⟩ ?_
          refine C_ret ?_
          refine x_blk_ret ?_
          refine x_then_ret ?_
          refine x_then_ret ?_
          refine x_blk_ret ?_
          refine x_then_ret ?_
          refine R_1 rfl rfl fun w' hs => ⟨congrArg (fun z => Ending.returned (Value.bool z)) ?_, hs.bel⟩
          show (false : Bool) = decide (a = b)
          simp; intro e; subst e; simp_all
        · have pr15 : x5 = x10 := beq_of_not h15
          refine C_skip ?_
          refine x_blk ?_
          refine x_then ?_
          refine C_reg ?_
          refine p1 rfl ?_
          refine q1 rfl (D_add rfl rfl rfl (r := ((k + 1 : Nat) : Int)) (by omega) (by omega)) ?_
          refine p1 rfl ?_
          refine D_end ?_
          refine x_then ?_
          refine fun ac w' hf hs => ⟨_, ?_, k + 1, ?_, ?_, rfl, hf.weak ⟨rfl, rfl, rfl, trivial⟩, hs⟩
          · omega
          · first | assumption | omega | simp
          · exact idx_step hi (by assumption) (by assumption) (by simp_all)
      · have pr4 : ¬ (((k : Nat) : Int) : Int) < ((a.length : Nat) : Int) := of_decide_eq_false h4
        refine C_exit ?_
        refine x_then_exit ?_
        refine x_then_exit ?_
        refine x_blk_eq ?_
        refine x_then ?_
        refine C_seq ?_
        refine C_reg ?_
        refine p1 rfl ?_
        refine D_end ?_
        refine x_then ?_
        refine C_ret ?_
        refine R_1 rfl rfl fun w' hs => ⟨congrArg (fun z => Ending.returned (Value.bool z)) ?_, hs.bel⟩
        show (true : Bool) = decide (a = b)
        simp; exact eq_of_idx (by omega) (fun i h => hi i (by omega))

set_option maxHeartbeats 4000000 in
theorem laws_FnOneLabel (w : World) (v_code : Value) (code : (List UInt8)) (h_code : Gd.rd w [v_code] code) : Calls Try.prog 4 [v_code].toArray w (Val w (.bool (true))) := by
  have hm1 := rd_max h_code
  refine enter 58 Try.func4 rfl rfl rfl ?_
  refine C_seq ?_
  refine C_reg ?_
  refine p1 rfl ?_
  refine D_end ?_
  refine x_then ?_
  refine C_seq ?_
  refine C_seq ?_
  refine C_reg ?_
  refine p1 rfl ?_
  refine li rfl (cv b_8 rfl rfl rfl rfl (fun w' hs => (laws_big w' v_code code (rd_at hs h_code))) ?_)
  refine D_end ?_
  refine x_then ?_
  refine C_if _ rfl (fun h2 => ?_) (fun h2 => ?_)
  · refine C_seq ?_
    refine C_reg ?_
    refine p1 rfl ?_
    refine D_end ?_
    refine x_then ?_
    refine C_ret ?_
    refine x_then_ret ?_
    refine R_1 rfl rfl fun w' hs => ⟨congrArg (fun z => Ending.returned (Value.bool z)) ?_, hs.bel⟩
    show (true : Bool) = true
    rfl
  · refine C_skip ?_
    refine x_then ?_
    refine C_seq ?_
    refine C_reg ?_
    refine p1 rfl ?_
    refine li rfl (crE (α := Beliefs) b_9 rfl rfl rfl rfl (fun w' hs => (spec_DrawGoodBeliefs w' v_code code (rd_at hs h_code))) fun y3 cs4 hy3 => ?_)
    refine D_pre (fun w' hs => shape_Beliefs (rd_own (k := 0) hs rfl)) ?_
    rintro ⟨v5, rfl, ho6⟩
    refine D_re 11 (v' := (.agg #[(.int .i64 y3.Nodes), v5])) rfl rfl rfl ?_
    refine li rfl (D_alloc y_26 rfl rfl rfl rfl fun g7 => ?_)
    refine li rfl (D_stb (vs := [(.int .i64 y3.Nodes), v5]) (cs' := [(.int .i64 y3.Nodes), v5]) 0 z_26 rfl rfl rfl rfl rfl rfl (ocons rfl (ocons ho6 onil)) (by simp) rfl ?_)
    refine D_end ?_
    refine x_then ?_
    refine D_H ([bx g7 [(.int .i64 y3.Nodes), v5], ov [(.int .i64 y3.Nodes), v5] (y3 : Beliefs)]) rfl ?_
    refine C_seq ?_
    have hdn := hy3.2.2.1
    have hdm := hy3.2.1
    refine C_reg ?_
    refine q1 rfl (lbw 0 a_26 rfl rfl rfl) ?_
    refine li rfl (crl b_14 rfl rfl rfl rfl (fun w' hs => (impl_LabelsOf w' [(.int .i64 y3.Nodes), v5] y3 (rd_own (k := 1) hs rfl))) fun v8 => ?_)
    refine p1 rfl ?_
    refine D_end ?_
    refine x_then ?_
    refine D_H ([ov [v8] (labelsOf y3 : (List Bool)), bx g7 [(.int .i64 y3.Nodes), v5], ov [(.int .i64 y3.Nodes), v5] (y3 : Beliefs)]) rfl ?_
    refine C_seq ?_
    refine C_seq ?_
    refine C_reg ?_
    refine q1 rfl (lbw 1 a_26 rfl rfl rfl) ?_
    refine li rfl (cv b_15 rfl rfl rfl rfl (fun w' hs => (impl_IsStratified w' [(.int .i64 y3.Nodes), v5] y3 (rd_own (k := 2) hs rfl))) ?_)
    refine p1 rfl <| p1 rfl ?_
    refine gs 17 rfl rfl (fun h9 => ?_) (fun h9 => ?_)
    · have h9n : (isStrat y3) = false := not_t h9
      refine n1 rfl ?_
      refine n1 rfl ?_
      refine n1 rfl ?_
      refine n1 rfl ?_
      refine n1 rfl ?_
      refine p1 rfl <| p1 rfl ?_
      refine n1 rfl ?_
      refine n1 rfl ?_
      refine n1 rfl ?_
      refine p1 rfl ?_
      refine D_end ?_
      refine x_then ?_
      refine D_weak [(3, (.pointer (some ⟨g7, 0, none⟩))), (4, v8), (28, (.bool true))] ⟨rfl, rfl, rfl, trivial⟩ ?_
      refine C_t rfl ?_
      refine C_seq ?_
      refine C_reg ?_
      refine p1 rfl ?_
      refine D_end ?_
      refine x_then ?_
      refine C_ret ?_
      refine x_then_ret ?_
      refine R_1 rfl rfl fun w' hs => ⟨congrArg (fun z => Ending.returned (Value.bool z)) ?_, hs.bel⟩
      show (false : Bool) = true
      first | rfl | (exfalso; revert h9; simp [hy3.1]; done) | (exfalso; revert h9; rw [labelsOf_t hy3.1, vec_len]; simp; omega) | (exfalso; revert h9; simp; omega) | (exfalso; revert h9; rw [one_lab hy3.1]; simp)
    · have h9n : (isStrat y3) = true := not_f h9
      refine p1 rfl ?_
      refine q1 rfl (D_leno 0 s_34 rfl rfl rfl) ?_
      refine q1 rfl (D_fb f_26_0 rfl rfl (q := 0) rfl) ?_
      refine q1 rfl (lb 1 o_3 rfl rfl rfl rfl) ?_
      refine p1 rfl <| p1 rfl <| p1 rfl ?_
      refine gs 24 rfl rfl (fun h10 => ?_) (fun h10 => ?_)
      · have pr10 : ((((labelsOf y3).length : Nat) : Int) : Int) ≠ y3.Nodes := bne_iff_ne.1 h10
        refine n1 rfl ?_
        refine n1 rfl ?_
        refine n1 rfl ?_
        refine p1 rfl ?_
        refine D_end ?_
        refine x_then ?_
        refine D_weak [(3, (.pointer (some ⟨g7, 0, none⟩))), (4, v8), (28, (.bool true))] ⟨rfl, rfl, rfl, trivial⟩ ?_
        refine C_t rfl ?_
        refine C_seq ?_
        refine C_reg ?_
        refine p1 rfl ?_
        refine D_end ?_
        refine x_then ?_
        refine C_ret ?_
        refine x_then_ret ?_
        refine R_1 rfl rfl fun w' hs => ⟨congrArg (fun z => Ending.returned (Value.bool z)) ?_, hs.bel⟩
        show (false : Bool) = true
        first | rfl | (exfalso; revert h10; simp [hy3.1]; done) | (exfalso; revert h10; rw [labelsOf_t hy3.1, vec_len]; simp; omega) | (exfalso; revert h10; simp; omega) | (exfalso; revert h10; rw [one_lab hy3.1]; simp)
      · have pr10 : ((((labelsOf y3).length : Nat) : Int) : Int) = y3.Nodes := eq_of_bne_f h10
        refine q1 rfl (D_fb f_26_0 rfl rfl (q := 0) rfl) ?_
        refine q1 rfl (lb 1 o_3 rfl rfl rfl rfl) ?_
        refine p1 rfl <| p1 rfl ?_
        refine D_end ?_
        refine x_then ?_
        refine D_weak [(3, (.pointer (some ⟨g7, 0, none⟩))), (4, v8), (28, (.bool (decide ((8 : Int) < y3.Nodes))))] ⟨rfl, rfl, rfl, trivial⟩ ?_
        refine C_if _ rfl (fun h11 => ?_) (fun h11 => ?_)
        · have pr11 : (8 : Int) < y3.Nodes := of_decide_eq_true h11
          refine C_seq ?_
          refine C_reg ?_
          refine p1 rfl ?_
          refine D_end ?_
          refine x_then ?_
          refine C_ret ?_
          refine x_then_ret ?_
          refine R_1 rfl rfl fun w' hs => ⟨congrArg (fun z => Ending.returned (Value.bool z)) ?_, hs.bel⟩
          show (false : Bool) = true
          first | rfl | (exfalso; revert h11; simp [hy3.1]; done) | (exfalso; revert h11; rw [labelsOf_t hy3.1, vec_len]; simp; omega) | (exfalso; revert h11; simp; omega) | (exfalso; revert h11; rw [one_lab hy3.1]; simp)
        · have pr11 : ¬ (8 : Int) < y3.Nodes := of_decide_eq_false h11
          refine C_skip ?_
          refine x_then ?_
          refine C_seq ?_
          refine C_seq ?_
          refine C_reg ?_
          refine p1 rfl ?_
          refine D_end ?_
          refine x_then ?_
          refine C_block ?_
          refine C_loop (fun m_ ac w' => ∃ (k : Nat), (k ≤ 256) ∧ m_ = 256 - k ∧ Fits ac 58 [(3, (.pointer (some ⟨g7, 0, none⟩))), (4, v8), (5, (.int .i64 ((k : Nat) : Int)))] ∧ St w ([ov [v8] (labelsOf y3 : (List Bool)), bx g7 [(.int .i64 y3.Nodes), v5], ov [(.int .i64 y3.Nodes), v5] (y3 : Beliefs)]) w') ?_ ?_
          · refine fun ac w' hf hs => ⟨_, 0, ?_, rfl, hf.weak ⟨rfl, rfl, rfl, trivial⟩, hs⟩
            · first | assumption | omega | simp
          · rintro m_ ac w' ⟨k, hk, rfl, hf, hs⟩
            refine D.use ?_ hf hs
            clear hf hs ac w'
            refine C_seq ?_
            refine C_seq ?_
            refine C_reg ?_
            refine p1 rfl ?_
            refine q1 rfl (D_fb f_26_0 rfl rfl (q := 0) rfl) ?_
            refine q1 rfl (lb 1 o_3 rfl rfl rfl rfl) ?_
            have hsh := shl_rng (k := y3.Nodes.toNat) (by have := hy3.2.2.1; omega)
            refine q1 rfl (D_shl (k := (y3.Nodes).toNat) rfl rfl (by rw [Int.toNat_of_nonneg (by omega)]; rfl)) ?_
            refine p1 rfl ?_
            refine D_end ?_
            refine x_then ?_
            refine C_if _ rfl (fun h12 => ?_) (fun h12 => ?_)
            · have pr12 : (((k : Nat) : Int) : Int) < (shlZ 1 (y3.Nodes).toNat) := of_decide_eq_true h12
              refine C_skip ?_
              refine x_then ?_
              refine C_seq ?_
              refine C_block ?_
              refine C_seq ?_
              refine C_reg ?_
              refine li rfl (D_bs0 (α := Bool) s_34 rfl rfl rfl fun v13 => ?_)
              refine p1 rfl ?_
              refine D_end ?_
              refine x_then ?_
              refine D_H ([ov [v13] ([] : (List Bool)), ov [v8] (labelsOf y3 : (List Bool)), bx g7 [(.int .i64 y3.Nodes), v5], ov [(.int .i64 y3.Nodes), v5] (y3 : Beliefs)]) rfl ?_
              refine C_seq ?_
              refine C_seq ?_
              refine C_reg ?_
              refine p1 rfl ?_
              refine D_end ?_
              refine x_then ?_
              refine C_block ?_
              refine C_loop (fun m_ ac w' => ∃ (j : Nat), ∃ (x : List Bool), ∃ (v : Value), ((j : Int) ≤ y3.Nodes) ∧ (x.length = j) ∧ m_ = (y3.Nodes - j).toNat ∧ Fits ac 58 [(3, (.pointer (some ⟨g7, 0, none⟩))), (4, v8), (5, (.int .i64 ((k : Nat) : Int))), (6, v), (7, (.int .i64 ((j : Nat) : Int)))] ∧ St w ([ov [v] (x : (List Bool)), ov [v8] (labelsOf y3 : (List Bool)), bx g7 [(.int .i64 y3.Nodes), v5], ov [(.int .i64 y3.Nodes), v5] (y3 : Beliefs)]) w') ?_ ?_
              · refine D_eq 0 rfl (show ([] : (List Bool)) = ([]) from by first | rfl | simp | (simp; omega)) ?_
                refine fun ac w' hf hs => ⟨_, 0, [], v13, ?_, ?_, rfl, hf.weak ⟨rfl, rfl, rfl, rfl, rfl, trivial⟩, hs⟩
                · first | assumption | omega | simp
                · first | assumption | omega | simp
              · rintro m_ ac w' ⟨j, x, v, hj, hx, rfl, hf, hs⟩
                refine D.use ?_ hf hs
                clear hf hs ac w'
                refine C_seq ?_
                refine C_seq ?_
                refine C_reg ?_
                refine p1 rfl ?_
                refine q1 rfl (D_fb f_26_0 rfl rfl (q := 0) rfl) ?_
                refine q1 rfl (lb 2 o_3 rfl rfl rfl rfl) ?_
                refine p1 rfl ?_
                refine D_end ?_
                refine x_then ?_
                refine D_H ([ov [v] (x : (List Bool)), ov [v8] (labelsOf y3 : (List Bool)), bx g7 [(.int .i64 y3.Nodes), v5], ov [(.int .i64 y3.Nodes), v5] (y3 : Beliefs)]) rfl ?_
                refine C_if _ rfl (fun h14 => ?_) (fun h14 => ?_)
                · have pr14 : (((j : Nat) : Int) : Int) < y3.Nodes := of_decide_eq_true h14
                  refine C_skip ?_
                  refine x_then ?_
                  refine C_seq ?_
                  refine C_block ?_
                  refine C_reg ?_
                  refine p1 rfl <| p1 rfl <| p1 rfl ?_
                  refine q1 rfl (D_shr (k := j) rfl rfl rfl) ?_
                  refine q1 rfl (D_and rfl rfl rfl) ?_
                  refine p1 rfl ?_
                  refine li rfl (D_bs s_34 y_4 rfl (by decide) (by decide) rfl rfl rfl rfl rfl rfl fun g15 => ?_)
                  refine D_fbool (((andZ (shrZ ((k : Nat) : Int) j) 1) : Int) == 1) ?_
                  refine D_pk (H' := [ov [v] (x : (List Bool)), ov [(.bool (((andZ (shrZ ((k : Nat) : Int) j) 1) : Int) == 1))] ((((andZ (shrZ ((k : Nat) : Int) j) 1) : Int) == 1) : Bool), bx g15 [(.bool (((andZ (shrZ ((k : Nat) : Int) j) 1) : Int) == 1))], ov [v8] (labelsOf y3 : (List Bool)), bx g7 [(.int .i64 y3.Nodes), v5], ov [(.int .i64 y3.Nodes), v5] (y3 : Beliefs)]) [2, 0, 1, 3, 4, 5] rfl rfl ?_
                  refine li rfl (D_ap s_34 y_4 rfl (by decide) rfl rfl rfl rfl rfl rfl (by first | omega | (simp; omega)) (by first | omega | (simp; omega)) fun v16 => ?_)
                  refine p1 rfl ?_
                  refine D_end ?_
                  refine x_blk ?_
                  refine x_then ?_
                  refine D_H ([ov [v16] (x ++ [(((andZ (shrZ ((k : Nat) : Int) j) 1) : Int) == 1)] : (List Bool)), ov [v8] (labelsOf y3 : (List Bool)), bx g7 [(.int .i64 y3.Nodes), v5], ov [(.int .i64 y3.Nodes), v5] (y3 : Beliefs)]) rfl ?_
                  refine C_reg ?_
                  refine p1 rfl ?_
                  refine q1 rfl (D_add rfl rfl rfl (r := ((j + 1 : Nat) : Int)) (by omega) (by omega)) ?_
                  refine p1 rfl ?_
                  refine D_end ?_
                  refine x_then ?_
                  refine D_eq 0 rfl (show (x ++ [(((andZ (shrZ ((k : Nat) : Int) j) 1) : Int) == 1)] : (List Bool)) = (x ++ [(((andZ (shrZ ((k : Nat) : Int) j) 1) : Int) == 1)]) from by first | rfl | simp | (simp; omega)) ?_
                  refine fun ac w' hf hs => ⟨_, ?_, j + 1, x ++ [(((andZ (shrZ ((k : Nat) : Int) j) 1) : Int) == 1)], v16, ?_, ?_, rfl, hf.weak ⟨rfl, rfl, rfl, rfl, rfl, trivial⟩, hs⟩
                  · omega
                  · first | assumption | omega | simp
                  · simp [hx]
                · have pr14 : ¬ (((j : Nat) : Int) : Int) < y3.Nodes := of_decide_eq_false h14
                  refine C_exit ?_
                  refine x_then_exit ?_
                  refine x_then_exit ?_
                  refine x_blk_eq ?_
                  refine x_then ?_
                  refine C_seq ?_
                  refine C_reg ?_
                  refine q1 rfl (lbw 2 a_26 rfl rfl rfl) ?_
                  refine p1 rfl ?_
                  refine li rfl (cv b_16 rfl rfl rfl rfl (fun w' hs => (impl_IsLabeling w' [(.int .i64 y3.Nodes), v5] y3 v x (rd_own (k := 3) hs rfl) (rd_own (k := 0) hs rfl))) ?_)
                  refine p1 rfl <| p1 rfl ?_
                  refine li rfl (cv b_17 rfl rfl rfl rfl (fun w' hs => (laws_bools w' v x v8 (labelsOf y3) (rd_own (k := 0) hs rfl) (rd_own (k := 1) hs rfl))) ?_)
                  refine q1 rfl (D_neB ub_4 rfl rfl rfl) ?_
                  refine D_end ?_
                  refine x_then ?_
                  refine C_if _ rfl (fun h17 => ?_) (fun h17 => ?_)
                  · refine C_seq ?_
                    refine C_reg ?_
                    refine p1 rfl ?_
                    refine D_end ?_
                    refine x_then ?_
                    refine D_weak [(2, (.bool false))] ⟨rfl, trivial⟩ ?_
                    refine D_sel (H' := [ov [v8] (labelsOf y3 : (List Bool)), bx g7 [(.int .i64 y3.Nodes), v5], ov [(.int .i64 y3.Nodes), v5] (y3 : Beliefs)]) [false, true, true, true] rfl ?_
                    refine C_ret ?_
                    refine x_blk_ret ?_
                    refine x_then_ret ?_
                    refine x_then_ret ?_
                    refine x_blk_ret ?_
                    refine x_then_ret ?_
                    refine R_1 rfl rfl fun w' hs => ⟨congrArg (fun z => Ending.returned (Value.bool z)) ?_, hs.bel⟩
                    show (false : Bool) = true
                    first | rfl | (exfalso; revert h17; simp [hy3.1]; done) | (exfalso; revert h17; rw [labelsOf_t hy3.1, vec_len]; simp; omega) | (exfalso; revert h17; simp; omega) | (exfalso; revert h17; rw [one_lab hy3.1]; simp)
                  · have pr17 : (isLab y3 x) = (decide (x = (labelsOf y3))) := beq_of_not h17
                    refine C_skip ?_
                    refine x_blk ?_
                    refine x_then ?_
                    refine C_reg ?_
                    refine p1 rfl ?_
                    refine q1 rfl (D_add rfl rfl rfl (r := ((k + 1 : Nat) : Int)) (by omega) (by omega)) ?_
                    refine p1 rfl ?_
                    refine D_end ?_
                    refine x_then ?_
                    refine fun ac w' hf hs => ⟨_, ?_, k + 1, ?_, rfl, hf.weak ⟨rfl, rfl, rfl, trivial⟩, hs.pk [1, 2, 3] rfl rfl⟩
                    · omega
                    · first | assumption | omega | simp
            · have pr12 : ¬ (((k : Nat) : Int) : Int) < (shlZ 1 (y3.Nodes).toNat) := of_decide_eq_false h12
              refine C_exit ?_
              refine x_then_exit ?_
              refine x_then_exit ?_
              refine x_blk_eq ?_
              refine x_then ?_
              refine C_seq ?_
              refine C_reg ?_
              refine p1 rfl ?_
              refine D_end ?_
              refine x_then ?_
              refine C_ret ?_
              refine R_1 rfl rfl fun w' hs => ⟨congrArg (fun z => Ending.returned (Value.bool z)) ?_, hs.bel⟩
              show (true : Bool) = true
              first | rfl | (exfalso; revert h12; simp [hy3.1]; done) | (exfalso; revert h12; rw [labelsOf_t hy3.1, vec_len]; simp; omega) | (exfalso; revert h12; simp; omega) | (exfalso; revert h12; rw [one_lab hy3.1]; simp)
end Go.Sy.Law1
