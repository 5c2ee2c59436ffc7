/-
  Contracts of functions of the program, walked (printed by a program of ours).
  Conditions: those that each theorem states.
-/
import Derived.Test.YtkdghbglefhcjaaBel4
import Derived.Test.YtkdghbglefhcjaaGraph
set_option linter.unusedVariables false
set_option maxRecDepth 20000
namespace Go.Sy.Bel5
open Go Go.RowKit Go.Proofs Go.Sy
theorem mixed : Try.prog.follows .mixedOrders = true := by kernel_rfl
theorem s_27 : sliceTy Try.prog 27 = some (3, 1, 8) := by kernel_rfl
theorem o_3 : oneTy Try.prog 3 = true := by kernel_rfl
theorem y_3 : zeroTy Try.prog 3 = some (.int .i64 0) := by kernel_rfl
theorem y_31 : zeroTy Try.prog 31 = some (.agg #[(.int .i64 0), (.slice none 0 0), (.slice none 0 0)]) := by kernel_rfl
theorem f_31_0 : fieldOff Try.prog 31 0 = some 0 := by kernel_rfl
theorem f_31_1 : fieldOff Try.prog 31 1 = some 1 := by kernel_rfl
theorem o_27 : oneTy Try.prog 27 = true := by kernel_rfl
theorem f_31_2 : fieldOff Try.prog 31 2 = some 2 := by kernel_rfl
theorem b_61 : hasBody Try.prog 61 = true := by kernel_rfl
theorem pl_31 : placeTy Try.prog 31 = some ([(0, 1), (1, 1), (2, 1)], [(.int .i64 0), (.slice none 0 0), (.slice none 0 0)]) := by kernel_rfl
theorem z_31 : sizeTy Try.prog 31 = some 3 := by kernel_rfl
theorem a_31 : aggTy Try.prog 31 = some 3 := by kernel_rfl
theorem y_26 : zeroTy Try.prog 26 = some (.agg #[(.int .i64 0), (.slice none 0 0)]) := by kernel_rfl
theorem f_26_0 : fieldOff Try.prog 26 0 = some 0 := by kernel_rfl
theorem z_26 : sizeTy Try.prog 26 = some 2 := by kernel_rfl
theorem f_26_1 : fieldOff Try.prog 26 1 = some 1 := by kernel_rfl
theorem o_24 : oneTy Try.prog 24 = true := by kernel_rfl
theorem s_24 : sliceTy Try.prog 24 = some (31, 3, 56) := by kernel_rfl
theorem b_44 : hasBody Try.prog 44 = true := by kernel_rfl
theorem z_24 : sizeTy Try.prog 24 = some 1 := by kernel_rfl
theorem a_26 : aggTy Try.prog 26 = some 2 := by kernel_rfl
theorem b_23 : hasBody Try.prog 23 = true := by kernel_rfl
open Go.Sy.Bel1 Go.Sy.Bel2 Go.Sy.Bel3 Go.Sy.Bel4
theorem impl_hasInt (w : World) (v_l : Value) (l : (List Int)) (n : Int) (h_l : Gd.rd w [v_l] l) : Calls Try.prog 23 [v_l, (.int .i64 n)].toArray w (Val w (.bool (l.contains n))) := by
  have hm1 := rd_max h_l
  refine enter 17 Try.func23 rfl rfl rfl ?_
  refine C_seq ?_
  refine C_reg ?_
  refine p1 rfl ?_
  refine D_end ?_
  refine x_then ?_
  refine C_seq ?_
  refine C_seq ?_
  refine C_reg ?_
  refine p1 rfl ?_
  refine q1 rfl (D_len s_27 rfl rfl (rd_sl h_l)) ?_
  refine p1 rfl ?_
  refine D_end ?_
  refine x_then ?_
  refine C_block ?_
  refine C_loop (fun m_ ac w' => ∃ (k : Nat), (k ≤ l.length) ∧ (∀ i, i < k → l[i]? ≠ some n) ∧ m_ = l.length - k ∧ Fits ac 17 [(1, (.int .i64 n)), (7, v_l), (8, (.int .i64 ((l.length : Nat) : Int))), (9, (.int .i64 ((k : Nat) : Int)))] ∧ St w ([]) w') ?_ ?_
  · refine fun ac w' hf hs => ⟨_, 0, ?_, ?_, rfl, hf.weak ⟨rfl, rfl, rfl, rfl, trivial⟩, hs⟩
    · first | assumption | omega | simp
    · intro i hi; omega
  · rintro m_ ac w' ⟨k, hk, hi, rfl, hf, hs⟩
    refine D.use ?_ hf hs
    clear hf hs ac w'
    refine C_seq ?_
    refine C_reg ?_
    refine p1 rfl ?_
    refine D_end ?_
    refine x_then ?_
    refine C_seq ?_
    refine C_if _ rfl (fun h2 => ?_) (fun h2 => ?_)
    · have pr2 : (((k : Nat) : Int) : Int) < ((l.length : Nat) : Int) := of_decide_eq_true h2
      refine C_skip ?_
      refine x_then ?_
      refine C_seq ?_
      refine C_block ?_
      refine C_seq ?_
      refine C_reg ?_
      obtain ⟨x3, hx4⟩ := some_of_lt (l := l) (i := k) (by omega)
      obtain ⟨es5, at6, hr7⟩ := rd_elem (n := 1) rfl h_l hx4
      obtain rfl : es5 = [.int .i64 x3] := hr7
      refine q1 rfl (D_ix (l := l) (j := k) s_27 rfl rfl rfl (fun w' hs => (rd_at hs h_l)) rfl (lt_of_some hx4)) ?_
      refine q1 rfl (lr0 o_3 rfl rfl at6 rfl) ?_
      refine p1 rfl ?_
      refine D_end ?_
      refine x_then ?_
      refine C_seq ?_
      refine C_reg ?_
      refine p1 rfl <| p1 rfl <| p1 rfl ?_
      refine D_end ?_
      refine x_then ?_
      refine C_if _ rfl (fun h8 => ?_) (fun h8 => ?_)
      · have pr8 : (x3 : Int) = n := eq_of_beq h8
        refine C_seq ?_
        refine C_reg ?_
        refine p1 rfl ?_
        refine D_end ?_
        refine x_then ?_
        refine C_ret ?_
        refine x_blk_ret ?_
        refine x_then_ret ?_
        refine x_then_ret ?_
        refine x_blk_ret ?_
        refine x_then_ret ?_
        refine R_1 rfl rfl fun w' hs => ⟨congrArg (fun z => Ending.returned (Value.bool z)) ?_, hs.bel⟩
        show (true : Bool) = l.contains n
        exact has_y hx4 (by omega)
      · have pr8 : (x3 : Int) ≠ n := ne_of_beq_false h8
        refine C_skip ?_
        refine x_blk ?_
        refine x_then ?_
        refine C_reg ?_
        refine q1 rfl (D_add rfl rfl rfl (r := ((k + 1 : Nat) : Int)) (by omega) (by omega)) ?_
        refine p1 rfl ?_
        refine D_end ?_
        refine x_then ?_
        refine fun ac w' hf hs => ⟨_, ?_, k + 1, ?_, ?_, rfl, hf.weak ⟨rfl, rfl, rfl, rfl, trivial⟩, hs⟩
        · omega
        · first | assumption | omega | simp
        · refine forall_step hi ?_; intro e; have := hx4.symm.trans e; simp only [Option.some.injEq] at this; omega
    · have pr2 : ¬ (((k : Nat) : Int) : Int) < ((l.length : Nat) : Int) := of_decide_eq_false h2
      refine C_exit ?_
      refine x_then_exit ?_
      refine x_then_exit ?_
      refine x_blk_eq ?_
      refine x_then ?_
      refine C_seq ?_
      refine C_reg ?_
      refine p1 rfl ?_
      refine D_end ?_
      refine x_then ?_
      refine C_ret ?_
      refine R_1 rfl rfl fun w' hs => ⟨congrArg (fun z => Ending.returned (Value.bool z)) ?_, hs.bel⟩
      show (false : Bool) = l.contains n
      exact has_n (fun i h => hi i (by omega))

theorem impl_copyInts (w : World) (v_l : Value) (l : (List Int)) (h_l : Gd.rd w [v_l] l) (hl : l.length ≤ 1048576) : Calls Try.prog 61 [v_l].toArray w (Res w (l : List Int)) := by
  have hm1 := rd_max h_l
  refine enter 5 Try.func61 rfl rfl rfl ?_
  refine C_seq ?_
  refine C_reg ?_
  refine p1 rfl ?_
  refine D_end ?_
  refine x_then ?_
  refine C_seq ?_
  refine C_reg ?_
  refine p1 rfl ?_
  refine D_nil (α := Int) ?_
  refine li rfl (D_apl (α := Int) (ys := l) s_27 y_3 rfl rfl rfl rfl rfl rfl (fun w' hs => (rd_at hs h_l)) (by first | omega | (simp; omega)) (by first | omega | (simp; omega)) fun v2 => ?_)
  refine p1 rfl ?_
  refine D_end ?_
  refine x_then ?_
  refine D_H ([ov [v2] (([]) ++ l : (List Int))]) rfl ?_
  refine C_ret ?_
  refine R_1 rfl rfl fun w' hs => res_of (k := 0) hs rfl ?_
  show ([]) ++ l = l
  simp

theorem impl_copyReason (w : World) (c_r : List Value) (r : Reason) (h_r : Gd.rd w c_r r) (hr : szR r ≤ 1048576) : Calls Try.prog 44 [(.agg c_r.toArray)].toArray w (Res w (r : Reason)) := by
  obtain ⟨u1, u3, rfl, hu2, hu4⟩ := open_Reason h_r
  have hm5 := rd_max hu2
  have hm6 := rd_max hu4
  unfold szR at hr
  refine enter 12 Try.func44 rfl rfl rfl ?_
  refine C_seq ?_
  refine C_reg ?_
  refine li rfl (D_box rfl rfl rfl rfl rfl fun g7 => ?_)
  refine li rfl (D_alloc y_31 rfl rfl rfl rfl fun g8 => ?_)
  refine D_end ?_
  refine x_then ?_
  refine D_H ([bx g8 [(.int .i64 0), (.slice none 0 0), (.slice none 0 0)], bx g7 [(.int .i64 r.For), u1, u3]]) rfl ?_
  refine C_seq ?_
  refine C_draw mixed [9] (by kernel_rfl) ?_
  refine tk 0 rfl (by kernel_rfl) (by kernel_rfl) (by kernel_rfl) rfl (fun _ hs => hs) (D_fb f_31_0 rfl rfl (q := 0) rfl) ?_
  refine tk 1 rfl (by kernel_rfl) (by kernel_rfl) (by kernel_rfl) rfl (fun _ hs => hs) (lb 1 o_3 rfl rfl rfl rfl) ?_
  refine tk 2 rfl (by kernel_rfl) (by kernel_rfl) (by kernel_rfl) rfl (fun _ hs => hs) (D_fb f_31_1 rfl rfl (q := 1) rfl) ?_
  refine tk 3 rfl (by kernel_rfl) (by kernel_rfl) (by kernel_rfl) rfl (fun _ hs => hs) (lb 1 o_27 rfl rfl rfl rfl) ?_
  refine tk 5 rfl (by kernel_rfl) (by kernel_rfl) (by kernel_rfl) rfl (fun _ hs => hs) (D_fb f_31_2 rfl rfl (q := 2) rfl) ?_
  refine tk 6 rfl (by kernel_rfl) (by kernel_rfl) (by kernel_rfl) rfl (fun _ hs => hs) (lb 1 o_27 rfl rfl rfl rfl) ?_
  refine ty 4 rfl (by kernel_rfl) rfl (crl b_61 rfl rfl rfl rfl (fun w' hs => (impl_copyInts w' u1 r.In (rd_at hs hu2) (by first | assumption | omega | (unfold szm at *; split at * <;> omega)))) fun v9 => ?_)
  refine tS (fun _ hs => hs.pk [1, 2] rfl rfl) ?_
  refine ty 7 rfl (by kernel_rfl) rfl (crl b_61 rfl rfl rfl rfl (fun w' hs => (impl_copyInts w' u3 r.Out (rd_at hs hu4) (by first | assumption | omega | (unfold szm at *; split at * <;> omega)))) fun v10 => ?_)
  refine tS (fun _ hs => hs.pk [2, 3] rfl rfl) ?_
  refine D_pre (fun w' hs => one_own (k := 1) hs rfl) ?_
  intro ho12
  refine D_pre (fun w' hs => one_own (k := 0) hs rfl) ?_
  intro ho13
  refine ty 8 rfl (by kernel_rfl) rfl (sv rfl rfl (D_built (vs := [(0, (.int .i64 r.For)), (1, v9), (2, v10)]) (xs := [(0, [(.int .i64 r.For)]), (1, [v9]), (2, [v10])]) (cs := [(.int .i64 r.For), v9, v10]) pl_31 rfl ⟨rfl, rfl, ⟨rfl, (cells_of_one ho12), ⟨rfl, (cells_of_one ho13), trivial⟩⟩⟩ rfl rfl) ?_)
  refine tS (fun _ hs => hs.pk [2, 3] rfl rfl) ?_
  refine ty 9 rfl (by kernel_rfl) rfl (D_stb (vs := [(.int .i64 r.For), v9, v10]) (cs' := [(.int .i64 r.For), v9, v10]) 2 z_31 rfl rfl rfl rfl rfl rfl (ocons rfl (ocons ho12 (ocons ho13 onil))) (by simp) rfl ?_)
  refine tZ rfl ?_
  refine tE (by kernel_rfl) ?_
  refine x_then ?_
  refine D_H ([ov [v10] (r.Out : (List Int)), ov [v9] (r.In : (List Int)), bx g8 [(.int .i64 r.For), v9, v10], bx g7 [(.int .i64 r.For), u1, u3]]) rfl ?_
  refine C_ret ?_
  refine D_pk (H' := [ov [v9] (r.In : (List Int)), ov [v10] (r.Out : (List Int)), bx g8 [(.int .i64 r.For), v9, v10], bx g7 [(.int .i64 r.For), u1, u3]]) [1, 0, 2, 3] rfl rfl ?_
  refine pk_Reason (r := (⟨r.For, r.In, r.Out⟩ : Reason)) ?_
  refine R_c 1 a_31 rfl rfl rfl fun w' hs => res_of (k := 0) hs rfl ?_
  show (⟨r.For, r.In, r.Out⟩ : Reason) = r
  rfl

theorem impl_copyBeliefs (w : World) (c_b : List Value) (b : Beliefs) (h_b : Gd.rd w c_b b) (hb : szB b ≤ 1048576) : Calls Try.prog 35 [(.agg c_b.toArray)].toArray w (Res w (b : Beliefs)) := by
  obtain ⟨u1, rfl, hu2⟩ := open_Beliefs h_b
  have hm3 := rd_max hu2
  unfold szB szRs at hb
  refine enter 25 Try.func35 rfl rfl rfl ?_
  refine C_seq ?_
  refine C_reg ?_
  refine li rfl (D_box rfl rfl rfl rfl rfl fun g4 => ?_)
  refine li rfl (D_alloc y_26 rfl rfl rfl rfl fun g5 => ?_)
  refine D_end ?_
  refine x_then ?_
  refine D_H ([bx g5 [(.int .i64 0), (.slice none 0 0)], bx g4 [(.int .i64 b.Nodes), u1]]) rfl ?_
  refine C_seq ?_
  refine C_reg ?_
  refine q1 rfl (D_fb f_26_0 rfl rfl (q := 0) rfl) ?_
  refine q1 rfl (lb 1 o_3 rfl rfl rfl rfl) ?_
  refine q1 rfl (D_build (vs := [(0, (.int .i64 b.Nodes))]) (cs := [(.int .i64 b.Nodes), (.slice none 0 0)]) rfl (fun _ => by kernel_rfl) rfl) ?_
  refine li rfl (D_alloc y_26 rfl rfl rfl rfl fun g6 => ?_)
  refine li rfl (D_stb (vs := [(.int .i64 b.Nodes), (.slice none 0 0)]) (cs' := [(.int .i64 b.Nodes), (.slice none 0 0)]) 0 z_26 rfl rfl rfl rfl rfl rfl (ocons rfl (ocons rfl onil)) (by simp) rfl ?_)
  refine D_end ?_
  refine x_then ?_
  refine D_H ([bx g6 [(.int .i64 b.Nodes), (.slice none 0 0)], bx g5 [(.int .i64 0), (.slice none 0 0)], bx g4 [(.int .i64 b.Nodes), u1]]) rfl ?_
  refine C_seq ?_
  refine C_seq ?_
  refine C_reg ?_
  refine q1 rfl (D_fb f_26_1 rfl rfl (q := 1) rfl) ?_
  refine q1 rfl (lb 2 o_24 rfl rfl rfl rfl) ?_
  refine q1 rfl (D_len s_24 rfl rfl (rd_sl hu2)) ?_
  refine p1 rfl ?_
  refine D_end ?_
  refine x_then ?_
  refine C_block ?_
  refine C_loop (fun m_ ac w' => ∃ (k : Nat), ∃ (v : Value), (k ≤ b.Reasons.length) ∧ m_ = b.Reasons.length - k ∧ Fits ac 25 [(2, (.pointer (some ⟨g5, 0, none⟩))), (3, (.pointer (some ⟨g6, 0, none⟩))), (10, u1), (11, (.int .i64 ((b.Reasons.length : Nat) : Int))), (12, (.int .i64 ((k : Nat) : Int)))] ∧ St w ([ov [v] (b.Reasons.take k : (List Reason)), bx g6 [(.int .i64 b.Nodes), v], bx g5 [(.int .i64 0), (.slice none 0 0)], bx g4 [(.int .i64 b.Nodes), u1]]) w') ?_ ?_
  · refine D_nil (α := Reason) ?_
    refine D_eq 0 rfl (show ([] : (List Reason)) = b.Reasons.take 0 from by simp) ?_
    refine fun ac w' hf hs => ⟨_, 0, (.slice none 0 0), ?_, rfl, hf.weak ⟨rfl, rfl, rfl, rfl, rfl, trivial⟩, hs⟩
    · first | assumption | omega | simp
  · rintro m_ ac w' ⟨k, v, hk, rfl, hf, hs⟩
    refine D.use ?_ hf hs
    clear hf hs ac w'
    have hcl : (b.Reasons.take k).length ≤ k := by rw [List.length_take]; omega
    refine C_seq ?_
    refine C_reg ?_
    refine p1 rfl ?_
    refine D_end ?_
    refine x_then ?_
    refine D_H ([ov [v] (b.Reasons.take k : (List Reason)), bx g6 [(.int .i64 b.Nodes), v], bx g5 [(.int .i64 0), (.slice none 0 0)], bx g4 [(.int .i64 b.Nodes), u1]]) rfl ?_
    refine C_seq ?_
    refine C_if _ rfl (fun h7 => ?_) (fun h7 => ?_)
    · have pr7 : (((k : Nat) : Int) : Int) < ((b.Reasons.length : Nat) : Int) := of_decide_eq_true h7
      refine C_skip ?_
      refine x_then ?_
      refine C_seq ?_
      refine C_block ?_
      refine C_seq ?_
      refine C_reg ?_
      obtain ⟨x8, hx9⟩ := some_of_lt (l := b.Reasons) (i := k) (by omega)
      have hle := szR_le (mem_idx hx9)
      obtain ⟨es10, at11, hr12⟩ := rd_elem (n := 3) rfl hu2 hx9
      obtain ⟨u13, u15, rfl, hu14, hu16⟩ := open_Reason hr12
      have hm17 := rd_max hu14
      have hm18 := rd_max hu16
      refine q1 rfl (D_ix (l := b.Reasons) (j := k) s_24 rfl rfl rfl (fun w' hs => (rd_at hs hu2)) rfl (lt_of_some hx9)) ?_
      refine q1 rfl (lra a_31 rfl rfl at11) ?_
      refine li rfl (D_alloc y_31 rfl rfl rfl rfl fun g19 => ?_)
      refine li rfl (D_stb (vs := [(.int .i64 x8.For), u13, u15]) (cs' := [(.int .i64 x8.For), u13, u15]) 0 z_31 rfl rfl rfl rfl rfl rfl (ocons rfl (ocons (one_rd hu14) (ocons (one_rd hu16) onil))) (by simp) rfl ?_)
      refine D_end ?_
      refine x_then ?_
      refine D_H ([bx g19 [(.int .i64 x8.For), u13, u15], ov [v] (b.Reasons.take k : (List Reason)), bx g6 [(.int .i64 b.Nodes), v], bx g5 [(.int .i64 0), (.slice none 0 0)], bx g4 [(.int .i64 b.Nodes), u1]]) rfl ?_
      refine C_draw mixed [5, 6, 7] (by kernel_rfl) ?_
      refine tk 0 rfl (by kernel_rfl) (by kernel_rfl) (by kernel_rfl) rfl (fun _ hs => hs) (D_fb f_26_1 rfl rfl (q := 1) rfl) ?_
      refine tk 1 rfl (by kernel_rfl) (by kernel_rfl) (by kernel_rfl) rfl (fun _ hs => hs) (lb 2 o_24 rfl rfl rfl rfl) ?_
      refine tk 2 rfl (by kernel_rfl) (by kernel_rfl) (by kernel_rfl) rfl (fun _ hs => hs) (lbw 0 a_31 rfl rfl rfl) ?_
      refine ty 3 rfl (by kernel_rfl) rfl (crs rfl b_44 rfl rfl rfl rfl (fun w' hs => (impl_copyReason w' [(.int .i64 x8.For), u13, u15] x8 (rd_at hs hr12) (by first | assumption | omega | (unfold szm at *; split at * <;> omega)))) fun cs20 => ?_)
      refine D_pre (fun w' hs => shape_Reason (rd_own (k := 0) hs rfl)) ?_
      rintro ⟨v21, v22, rfl, ho23, ho24⟩
      refine tS (fun _ hs => hs.pk [1, 2, 3, 4, 5] rfl rfl) ?_
      refine ty 4 rfl (by kernel_rfl) rfl (D_bs s_24 y_31 rfl (by decide) (by decide) rfl rfl rfl rfl rfl rfl fun g25 => ?_)
      refine tS (fun _ hs => hs.pk [2, 3, 4, 5, 6] rfl rfl) ?_
      refine D_pk (H' := [ov [v] (b.Reasons.take k : (List Reason)), ov [(.int .i64 x8.For), v21, v22] (x8 : Reason), bx g25 [(.int .i64 x8.For), v21, v22], bx g19 [(.int .i64 x8.For), u13, u15], bx g6 [(.int .i64 b.Nodes), v], bx g5 [(.int .i64 0), (.slice none 0 0)], bx g4 [(.int .i64 b.Nodes), u1]]) [3, 1, 0, 2, 4, 5, 6] rfl rfl ?_
      refine ty 5 rfl (by kernel_rfl) rfl (D_ap s_24 y_31 rfl (by decide) rfl rfl rfl rfl rfl rfl (by first | omega | (simp; omega)) (by first | omega | (simp; omega)) fun v26 => ?_)
      refine tZ rfl ?_
      refine ty 6 rfl (by kernel_rfl) rfl (sv rfl rfl (D_fb f_26_1 rfl rfl (q := 1) rfl) ?_)
      refine tZ rfl ?_
      refine D_pre (fun w' hs => one_own (k := 0) hs rfl) ?_
      intro ho27
      refine ty 7 rfl (by kernel_rfl) rfl (D_stb (vs := [v26]) (cs' := [(.int .i64 b.Nodes), v26]) 2 z_24 rfl rfl rfl rfl rfl (cells_of_one ho27) (ocons ho27 onil) (by simp) rfl ?_)
      refine tZ rfl ?_
      refine tE (by kernel_rfl) ?_
      refine x_blk ?_
      refine x_then ?_
      refine D_H ([ov [v26] ((b.Reasons.take k) ++ [x8] : (List Reason)), bx g19 [(.int .i64 x8.For), u13, u15], bx g6 [(.int .i64 b.Nodes), v26], bx g5 [(.int .i64 0), (.slice none 0 0)], bx g4 [(.int .i64 b.Nodes), u1]]) rfl ?_
      refine C_reg ?_
      refine q1 rfl (D_add rfl rfl rfl (r := ((k + 1 : Nat) : Int)) (by omega) (by omega)) ?_
      refine p1 rfl ?_
      refine D_end ?_
      refine x_then ?_
      refine D_eq 0 rfl (show ((b.Reasons.take k) ++ [x8] : (List Reason)) = b.Reasons.take (k + 1) from by exact (take_snoc hx9).symm) ?_
      refine fun ac w' hf hs => ⟨_, ?_, k + 1, v26, ?_, rfl, hf.weak ⟨rfl, rfl, rfl, rfl, rfl, trivial⟩, hs.pk [0, 2, 3, 4] rfl rfl⟩
      · omega
      · first | assumption | omega | simp
    · have pr7 : ¬ (((k : Nat) : Int) : Int) < ((b.Reasons.length : Nat) : Int) := of_decide_eq_false h7
      refine C_exit ?_
      refine x_then_exit ?_
      refine x_then_exit ?_
      refine x_blk_eq ?_
      refine x_then ?_
      refine C_seq ?_
      refine C_reg ?_
      refine q1 rfl (lbw 1 a_26 rfl rfl rfl) ?_
      refine D_pre (fun w' hs => one_own (k := 0) hs rfl) ?_
      intro ho28
      refine li rfl (D_stb (vs := [(.int .i64 b.Nodes), v]) (cs' := [(.int .i64 b.Nodes), v]) 2 z_26 rfl rfl rfl rfl rfl rfl (ocons rfl (ocons ho28 onil)) (by simp) rfl ?_)
      refine D_end ?_
      refine x_then ?_
      refine D_H ([ov [v] (b.Reasons.take k : (List Reason)), bx g6 [(.int .i64 b.Nodes), v], bx g5 [(.int .i64 b.Nodes), v], bx g4 [(.int .i64 b.Nodes), u1]]) rfl ?_
      refine C_ret ?_
      refine pk_Beliefs (r := (⟨b.Nodes, b.Reasons.take k⟩ : Beliefs)) ?_
      refine R_c 2 a_26 rfl rfl rfl fun w' hs => res_of (k := 0) hs rfl ?_
      show (⟨b.Nodes, b.Reasons.take k⟩ : Beliefs) = b
      show (⟨b.Nodes, b.Reasons.take k⟩ : Beliefs) = b; rw [List.take_of_length_le (by omega)]

theorem impl_DropReasons (w : World) (c_b : List Value) (b : Beliefs) (v_l : Value) (l : (List Int)) (h_b : Gd.rd w c_b b) (h_l : Gd.rd w [v_l] l) (hb : szB b ≤ 1048576) : Calls Try.prog 25 [(.agg c_b.toArray), v_l].toArray w (Res w (dropR b l : Beliefs)) := by
  obtain ⟨u1, rfl, hu2⟩ := open_Beliefs h_b
  have hm3 := rd_max hu2
  have hm4 := rd_max h_l
  unfold szB szRs at hb
  refine enter 32 Try.func25 rfl rfl rfl ?_
  refine C_seq ?_
  refine C_reg ?_
  refine li rfl (D_box rfl rfl rfl rfl rfl fun g5 => ?_)
  refine li rfl (D_alloc y_26 rfl rfl rfl rfl fun g6 => ?_)
  refine D_end ?_
  refine x_then ?_
  refine D_H ([bx g6 [(.int .i64 0), (.slice none 0 0)], bx g5 [(.int .i64 b.Nodes), u1]]) rfl ?_
  refine C_seq ?_
  refine C_reg ?_
  refine q1 rfl (D_fb f_26_0 rfl rfl (q := 0) rfl) ?_
  refine q1 rfl (lb 1 o_3 rfl rfl rfl rfl) ?_
  refine q1 rfl (D_build (vs := [(0, (.int .i64 b.Nodes))]) (cs := [(.int .i64 b.Nodes), (.slice none 0 0)]) rfl (fun _ => by kernel_rfl) rfl) ?_
  refine li rfl (D_alloc y_26 rfl rfl rfl rfl fun g7 => ?_)
  refine li rfl (D_stb (vs := [(.int .i64 b.Nodes), (.slice none 0 0)]) (cs' := [(.int .i64 b.Nodes), (.slice none 0 0)]) 0 z_26 rfl rfl rfl rfl rfl rfl (ocons rfl (ocons rfl onil)) (by simp) rfl ?_)
  refine D_end ?_
  refine x_then ?_
  refine D_H ([bx g7 [(.int .i64 b.Nodes), (.slice none 0 0)], bx g6 [(.int .i64 0), (.slice none 0 0)], bx g5 [(.int .i64 b.Nodes), u1]]) rfl ?_
  refine C_seq ?_
  refine C_seq ?_
  refine C_reg ?_
  refine q1 rfl (D_fb f_26_1 rfl rfl (q := 1) rfl) ?_
  refine q1 rfl (lb 2 o_24 rfl rfl rfl rfl) ?_
  refine q1 rfl (D_len s_24 rfl rfl (rd_sl hu2)) ?_
  refine p1 rfl ?_
  refine D_end ?_
  refine x_then ?_
  refine C_block ?_
  refine C_loop (fun m_ ac w' => ∃ (k : Nat), ∃ (v : Value), (k ≤ b.Reasons.length) ∧ m_ = b.Reasons.length - k ∧ Fits ac 32 [(1, v_l), (4, (.pointer (some ⟨g6, 0, none⟩))), (5, (.pointer (some ⟨g7, 0, none⟩))), (12, u1), (13, (.int .i64 ((b.Reasons.length : Nat) : Int))), (14, (.int .i64 ((k : Nat) : Int)))] ∧ St w ([ov [v] (keepT (notIn l) b.Reasons k : (List Reason)), bx g7 [(.int .i64 b.Nodes), v], bx g6 [(.int .i64 0), (.slice none 0 0)], bx g5 [(.int .i64 b.Nodes), u1]]) w') ?_ ?_
  · refine D_nil (α := Reason) ?_
    refine D_eq 0 rfl (show ([] : (List Reason)) = keepT (notIn l) b.Reasons 0 from by rfl) ?_
    refine fun ac w' hf hs => ⟨_, 0, (.slice none 0 0), ?_, rfl, hf.weak ⟨rfl, rfl, rfl, rfl, rfl, rfl, trivial⟩, hs⟩
    · first | assumption | omega | simp
  · rintro m_ ac w' ⟨k, v, hk, rfl, hf, hs⟩
    refine D.use ?_ hf hs
    clear hf hs ac w'
    have hcl := keepT_len (notIn l) b.Reasons k
    refine C_seq ?_
    refine C_reg ?_
    refine p1 rfl ?_
    refine D_end ?_
    refine x_then ?_
    refine D_H ([ov [v] (keepT (notIn l) b.Reasons k : (List Reason)), bx g7 [(.int .i64 b.Nodes), v], bx g6 [(.int .i64 0), (.slice none 0 0)], bx g5 [(.int .i64 b.Nodes), u1]]) rfl ?_
    refine C_seq ?_
    refine C_if _ rfl (fun h8 => ?_) (fun h8 => ?_)
    · have pr8 : (((k : Nat) : Int) : Int) < ((b.Reasons.length : Nat) : Int) := of_decide_eq_true h8
      refine C_skip ?_
      refine x_then ?_
      refine C_seq ?_
      refine C_block ?_
      refine C_seq ?_
      refine C_reg ?_
      refine p1 rfl ?_
      obtain ⟨x9, hx10⟩ := some_of_lt (l := b.Reasons) (i := k) (by omega)
      have hle := szR_le (mem_idx hx10)
      obtain ⟨es11, at12, hr13⟩ := rd_elem (n := 3) rfl hu2 hx10
      obtain ⟨u14, u17, rfl, hu15, hu18⟩ := open_Reason hr13
      have hm19 := rd_max hu15
      have hm20 := rd_max hu18
      refine q1 rfl (D_ix (l := b.Reasons) (j := k) s_24 rfl rfl rfl (fun w' hs => (rd_at hs hu2)) rfl (lt_of_some hx10)) ?_
      refine q1 rfl (lra a_31 rfl rfl at12) ?_
      refine li rfl (D_alloc y_31 rfl rfl rfl rfl fun g21 => ?_)
      refine p1 rfl ?_
      refine li rfl (D_stb (vs := [(.int .i64 x9.For), u14, u17]) (cs' := [(.int .i64 x9.For), u14, u17]) 0 z_31 rfl rfl rfl rfl rfl rfl (ocons rfl (ocons (one_rd hu15) (ocons (one_rd hu18) onil))) (by simp) rfl ?_)
      refine D_end ?_
      refine x_then ?_
      refine D_H ([bx g21 [(.int .i64 x9.For), u14, u17], ov [v] (keepT (notIn l) b.Reasons k : (List Reason)), bx g7 [(.int .i64 b.Nodes), v], bx g6 [(.int .i64 0), (.slice none 0 0)], bx g5 [(.int .i64 b.Nodes), u1]]) rfl ?_
      refine C_seq ?_
      refine C_reg ?_
      refine p1 rfl <| p1 rfl ?_
      refine li rfl (cv b_23 rfl rfl rfl rfl (fun w' hs => (impl_hasInt w' v_l l ((k : Nat) : Int) (rd_at hs h_l))) ?_)
      refine p1 rfl ?_
      refine D_end ?_
      refine x_then ?_
      refine C_if _ rfl (fun h22 => ?_) (fun h22 => ?_)
      · have h22n : (l.contains ((k : Nat) : Int)) = false := not_t h22
        refine C_draw mixed [5, 6, 7] (by kernel_rfl) ?_
        refine tk 0 rfl (by kernel_rfl) (by kernel_rfl) (by kernel_rfl) rfl (fun _ hs => hs) (D_fb f_26_1 rfl rfl (q := 1) rfl) ?_
        refine tk 1 rfl (by kernel_rfl) (by kernel_rfl) (by kernel_rfl) rfl (fun _ hs => hs) (lb 2 o_24 rfl rfl rfl rfl) ?_
        refine tk 2 rfl (by kernel_rfl) (by kernel_rfl) (by kernel_rfl) rfl (fun _ hs => hs) (lbw 0 a_31 rfl rfl rfl) ?_
        refine ty 3 rfl (by kernel_rfl) rfl (crs rfl b_44 rfl rfl rfl rfl (fun w' hs => (impl_copyReason w' [(.int .i64 x9.For), u14, u17] x9 (rd_at hs hr13) (by first | assumption | omega | (unfold szm at *; split at * <;> omega)))) fun cs23 => ?_)
        refine D_pre (fun w' hs => shape_Reason (rd_own (k := 0) hs rfl)) ?_
        rintro ⟨v24, v25, rfl, ho26, ho27⟩
        refine tS (fun _ hs => hs.pk [1, 2, 3, 4, 5] rfl rfl) ?_
        refine ty 4 rfl (by kernel_rfl) rfl (D_bs s_24 y_31 rfl (by decide) (by decide) rfl rfl rfl rfl rfl rfl fun g28 => ?_)
        refine tS (fun _ hs => hs.pk [2, 3, 4, 5, 6] rfl rfl) ?_
        refine D_pk (H' := [ov [v] (keepT (notIn l) b.Reasons k : (List Reason)), ov [(.int .i64 x9.For), v24, v25] (x9 : Reason), bx g28 [(.int .i64 x9.For), v24, v25], bx g21 [(.int .i64 x9.For), u14, u17], bx g7 [(.int .i64 b.Nodes), v], bx g6 [(.int .i64 0), (.slice none 0 0)], bx g5 [(.int .i64 b.Nodes), u1]]) [3, 1, 0, 2, 4, 5, 6] rfl rfl ?_
        refine ty 5 rfl (by kernel_rfl) rfl (D_ap s_24 y_31 rfl (by decide) rfl rfl rfl rfl rfl rfl (by first | omega | (simp; omega)) (by first | omega | (simp; omega)) fun v29 => ?_)
        refine tZ rfl ?_
        refine ty 6 rfl (by kernel_rfl) rfl (sv rfl rfl (D_fb f_26_1 rfl rfl (q := 1) rfl) ?_)
        refine tZ rfl ?_
        refine D_pre (fun w' hs => one_own (k := 0) hs rfl) ?_
        intro ho30
        refine ty 7 rfl (by kernel_rfl) rfl (D_stb (vs := [v29]) (cs' := [(.int .i64 b.Nodes), v29]) 2 z_24 rfl rfl rfl rfl rfl (cells_of_one ho30) (ocons ho30 onil) (by simp) rfl ?_)
        refine tZ rfl ?_
        refine tE (by kernel_rfl) ?_
        refine x_blk ?_
        refine x_then ?_
        refine D_weak [(1, v_l), (4, (.pointer (some ⟨g6, 0, none⟩))), (5, (.pointer (some ⟨g7, 0, none⟩))), (12, u1), (13, (.int .i64 ((b.Reasons.length : Nat) : Int))), (14, (.int .i64 ((k : Nat) : Int)))] ⟨rfl, rfl, rfl, rfl, rfl, rfl, trivial⟩ ?_
        refine D_sel (H' := [ov [v29] ((keepT (notIn l) b.Reasons k) ++ [x9] : (List Reason)), bx g7 [(.int .i64 b.Nodes), v29], bx g6 [(.int .i64 0), (.slice none 0 0)], bx g5 [(.int .i64 b.Nodes), u1]]) [true, false, true, true, true] rfl ?_
        refine C_reg ?_
        refine q1 rfl (D_add rfl rfl rfl (r := ((k + 1 : Nat) : Int)) (by omega) (by omega)) ?_
        refine p1 rfl ?_
        refine D_end ?_
        refine x_then ?_
        refine D_eq 0 rfl (show ((keepT (notIn l) b.Reasons k) ++ [x9] : (List Reason)) = keepT (notIn l) b.Reasons (k + 1) from by first | exact keepT_t hx10 (notIn_t h22n) | exact keepT_f (notIn_f h22n)) ?_
        refine fun ac w' hf hs => ⟨_, ?_, k + 1, v29, ?_, rfl, hf.weak ⟨rfl, rfl, rfl, rfl, rfl, rfl, trivial⟩, hs⟩
        · omega
        · first | assumption | omega | simp
      · have h22n : (l.contains ((k : Nat) : Int)) = true := not_f h22
        refine C_skip ?_
        refine x_blk ?_
        refine x_then ?_
        refine C_reg ?_
        refine q1 rfl (D_add rfl rfl rfl (r := ((k + 1 : Nat) : Int)) (by omega) (by omega)) ?_
        refine p1 rfl ?_
        refine D_end ?_
        refine x_then ?_
        refine D_eq 1 rfl (show (keepT (notIn l) b.Reasons k : (List Reason)) = keepT (notIn l) b.Reasons (k + 1) from by first | exact keepT_t hx10 (notIn_t h22n) | exact keepT_f (notIn_f h22n)) ?_
        refine fun ac w' hf hs => ⟨_, ?_, k + 1, v, ?_, rfl, hf.weak ⟨rfl, rfl, rfl, rfl, rfl, rfl, trivial⟩, hs.pk [1, 2, 3, 4] rfl rfl⟩
        · omega
        · first | assumption | omega | simp
    · have pr8 : ¬ (((k : Nat) : Int) : Int) < ((b.Reasons.length : Nat) : Int) := of_decide_eq_false h8
      refine C_exit ?_
      refine x_then_exit ?_
      refine x_then_exit ?_
      refine x_blk_eq ?_
      refine x_then ?_
      refine C_seq ?_
      refine C_reg ?_
      refine q1 rfl (lbw 1 a_26 rfl rfl rfl) ?_
      refine D_pre (fun w' hs => one_own (k := 0) hs rfl) ?_
      intro ho31
      refine li rfl (D_stb (vs := [(.int .i64 b.Nodes), v]) (cs' := [(.int .i64 b.Nodes), v]) 2 z_26 rfl rfl rfl rfl rfl rfl (ocons rfl (ocons ho31 onil)) (by simp) rfl ?_)
      refine D_end ?_
      refine x_then ?_
      refine D_H ([ov [v] (keepT (notIn l) b.Reasons k : (List Reason)), bx g7 [(.int .i64 b.Nodes), v], bx g6 [(.int .i64 b.Nodes), v], bx g5 [(.int .i64 b.Nodes), u1]]) rfl ?_
      refine C_ret ?_
      refine pk_Beliefs (r := (⟨b.Nodes, keepT (notIn l) b.Reasons k⟩ : Beliefs)) ?_
      refine R_c 2 a_26 rfl rfl rfl fun w' hs => res_of (k := 0) hs rfl ?_
      show (⟨b.Nodes, keepT (notIn l) b.Reasons k⟩ : Beliefs) = dropR b l
      show (⟨b.Nodes, keepT (notIn l) b.Reasons k⟩ : Beliefs) = dropR b l; rw [keepT_done (by omega) hk]; rfl
end Go.Sy.Bel5
