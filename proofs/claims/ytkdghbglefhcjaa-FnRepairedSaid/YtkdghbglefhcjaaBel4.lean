/-
  Contracts of functions of the program, walked (printed by a program of ours).
  Conditions: those that each theorem states.
-/
import Derived.Test.YtkdghbglefhcjaaBel3
import Derived.Test.YtkdghbglefhcjaaGraph
set_option linter.unusedVariables false
set_option maxRecDepth 20000
namespace Go.Sy.Bel4
open Go Go.RowKit Go.Proofs Go.Sy
theorem mixed : Try.prog.follows .mixedOrders = true := by kernel_rfl
theorem s_27 : sliceTy Try.prog 27 = some (3, 1, 8) := by kernel_rfl
theorem y_3 : zeroTy Try.prog 3 = some (.int .i64 0) := by kernel_rfl
theorem f_26_0 : fieldOff Try.prog 26 0 = some 0 := by kernel_rfl
theorem o_3 : oneTy Try.prog 3 = true := by kernel_rfl
theorem s_79 : sliceTy Try.prog 79 = some (63, 1, 24) := by kernel_rfl
theorem y_63 : zeroTy Try.prog 63 = some (.slice none 0 0) := by kernel_rfl
theorem s_63 : sliceTy Try.prog 63 = some (4, 1, 1) := by kernel_rfl
theorem y_4 : zeroTy Try.prog 4 = some (.bool false) := by kernel_rfl
theorem z_63 : sizeTy Try.prog 63 = some 1 := by kernel_rfl
theorem f_26_1 : fieldOff Try.prog 26 1 = some 1 := by kernel_rfl
theorem o_24 : oneTy Try.prog 24 = true := by kernel_rfl
theorem s_24 : sliceTy Try.prog 24 = some (31, 3, 56) := by kernel_rfl
theorem a_31 : aggTy Try.prog 31 = some 3 := by kernel_rfl
theorem y_31 : zeroTy Try.prog 31 = some (.agg #[(.int .i64 0), (.slice none 0 0), (.slice none 0 0)]) := by kernel_rfl
theorem z_31 : sizeTy Try.prog 31 = some 3 := by kernel_rfl
theorem f_31_1 : fieldOff Try.prog 31 1 = some 1 := by kernel_rfl
theorem o_27 : oneTy Try.prog 27 = true := by kernel_rfl
theorem f_31_0 : fieldOff Try.prog 31 0 = some 0 := by kernel_rfl
theorem o_63 : oneTy Try.prog 63 = true := by kernel_rfl
theorem z_4 : sizeTy Try.prog 4 = some 1 := by kernel_rfl
theorem f_31_2 : fieldOff Try.prog 31 2 = some 2 := by kernel_rfl
theorem o_4 : oneTy Try.prog 4 = true := by kernel_rfl
theorem b_65 : hasBody Try.prog 65 = true := by kernel_rfl
theorem a_26 : aggTy Try.prog 26 = some 2 := by kernel_rfl
theorem b_57 : hasBody Try.prog 57 = true := by kernel_rfl
theorem b_58 : hasBody Try.prog 58 = true := by kernel_rfl
theorem b_62 : hasBody Try.prog 62 = true := by kernel_rfl
theorem b_63 : hasBody Try.prog 63 = true := by kernel_rfl
theorem b_36 : hasBody Try.prog 36 = true := by kernel_rfl
theorem b_37 : hasBody Try.prog 37 = true := by kernel_rfl
theorem b_38 : hasBody Try.prog 38 = true := by kernel_rfl
open Go.Sy.Bel1 Go.Sy.Bel2 Go.Sy.Bel3
theorem spec_l1Ints (w : World) (v_l : Value) (l : (List Int)) (h_l : Gd.rd w [v_l] l) (hl : l.length ≤ 1048576) : Calls Try.prog 65 [v_l].toArray w (Res w (l : List Int)) := by
  have hm1 := rd_max h_l
  refine enter 6 Try.func65 rfl rfl rfl ?_
  refine C_seq ?_
  refine C_reg ?_
  refine p1 rfl ?_
  refine D_end ?_
  refine x_then ?_
  refine C_seq ?_
  refine C_reg ?_
  refine li rfl (D_bs0 (α := Int) s_27 rfl rfl rfl fun v2 => ?_)
  refine p1 rfl ?_
  refine li rfl (D_apl (α := Int) (ys := l) s_27 y_3 rfl rfl rfl rfl rfl rfl (fun w' hs => (rd_at hs h_l)) (by first | omega | (simp; omega)) (by first | omega | (simp; omega)) fun v3 => ?_)
  refine p1 rfl ?_
  refine D_end ?_
  refine x_then ?_
  refine D_H ([ov [v3] (([]) ++ l : (List Int))]) rfl ?_
  refine C_ret ?_
  refine R_1 rfl rfl fun w' hs => res_of (k := 0) hs rfl ?_
  show ([]) ++ l = l
  simp

set_option maxHeartbeats 4000000 in
theorem impl_dependencies (w : World) (c_b : List Value) (b : Beliefs) (h_b : Gd.rd w c_b b) (hb : isBeliefs b = true) : Calls Try.prog 58 [(.agg c_b.toArray)].toArray w (Res w (mat b.Nodes.toNat (dep b) : List (List Bool))) := by
  obtain ⟨u1, rfl, hu2⟩ := open_Beliefs h_b
  have hm3 := rd_max hu2
  have hbn := isBeliefs_nodes hb
  obtain ⟨n, hn⟩ : ∃ n : Nat, b.Nodes = (n : Int) := ⟨b.Nodes.toNat, by omega⟩
  have hrl : (List.replicate n ([] : List Bool)).length = n := List.length_replicate
  refine enter 117 Try.func58 rfl rfl rfl ?_
  refine C_seq ?_
  refine C_reg ?_
  refine li rfl (D_box rfl rfl rfl rfl rfl fun g4 => ?_)
  refine p1 rfl ?_
  refine D_end ?_
  refine x_then ?_
  refine D_H ([bx g4 [(.int .i64 b.Nodes), u1]]) rfl ?_
  refine C_seq ?_
  refine C_reg ?_
  refine q1 rfl (D_fb f_26_0 rfl rfl (q := 0) rfl) ?_
  refine q1 rfl (lb 0 o_3 rfl rfl rfl rfl) ?_
  refine li rfl (D_mkG (α := (List Bool)) (z0 := ([] : (List Bool))) s_79 y_63 rfl rfl (congrArg (fun z => some (Value.int .i64 z)) hn) rfl rfl rfl (fun _ => ow_nil) (by omega) (by omega) fun v5 => ?_)
  refine p1 rfl ?_
  refine D_end ?_
  refine x_then ?_
  refine D_H ([ov [v5] (List.replicate n ([] : (List Bool)) : (List (List Bool))), bx g4 [(.int .i64 b.Nodes), u1]]) rfl ?_
  refine C_seq ?_
  refine C_seq ?_
  refine C_reg ?_
  refine p1 rfl ?_
  refine q1 rfl (D_leno 0 s_79 rfl rfl rfl) ?_
  refine p1 rfl ?_
  refine D_end ?_
  refine x_then ?_
  refine C_block ?_
  refine C_loop (fun m_ ac w' => ∃ (k : Nat), ∃ (v : Value), (k ≤ n) ∧ m_ = n - k ∧ Fits ac 117 [(1, (.pointer (some ⟨g4, 0, none⟩))), (3, v), (18, (.int .i64 (((List.replicate n ([] : (List Bool))).length : Nat) : Int))), (19, (.int .i64 ((k : Nat) : Int)))] ∧ St w ([ov [v] (rowsT n k : (List (List Bool))), bx g4 [(.int .i64 b.Nodes), u1]]) w') ?_ ?_
  · refine D_eq 0 rfl (show (List.replicate n ([] : (List Bool)) : (List (List Bool))) = rowsT n 0 from by exact rowsT_zero n) ?_
    refine fun ac w' hf hs => ⟨_, 0, v5, ?_, rfl, hf.weak ⟨rfl, rfl, rfl, rfl, trivial⟩, hs⟩
    · first | assumption | omega | simp
  · rintro m_ ac w' ⟨k, v, hk, rfl, hf, hs⟩
    refine D.use ?_ hf hs
    clear hf hs ac w'
    have hcl := rowsT_len n k
    refine C_seq ?_
    refine C_reg ?_
    refine p1 rfl ?_
    refine D_end ?_
    refine x_then ?_
    refine D_H ([ov [v] (rowsT n k : (List (List Bool))), bx g4 [(.int .i64 b.Nodes), u1]]) rfl ?_
    refine C_seq ?_
    refine C_if _ rfl (fun h6 => ?_) (fun h6 => ?_)
    · have pr6 : (((k : Nat) : Int) : Int) < (((List.replicate n ([] : (List Bool))).length : Nat) : Int) := of_decide_eq_true h6
      refine C_skip ?_
      refine x_then ?_
      refine C_seq ?_
      refine C_block ?_
      refine C_seq ?_
      refine C_reg ?_
      refine p1 rfl <| p1 rfl ?_
      refine D_end ?_
      refine x_then ?_
      refine C_reg ?_
      refine p1 rfl <| p1 rfl ?_
      refine q1 rfl (D_fb f_26_0 rfl rfl (q := 0) rfl) ?_
      refine q1 rfl (lb 1 o_3 rfl rfl rfl rfl) ?_
      refine li rfl (D_mk (α := Bool) (z := false) s_63 y_4 rfl (congrArg (fun z => some (Value.int .i64 z)) hn) rfl rfl (by omega) (by omega) fun v7 => ?_)
      obtain ⟨x8, hx9⟩ := some_of_lt (l := (rowsT n k)) (i := k) (by omega)
      refine q1 rfl (D_ix (l := (rowsT n k)) (j := k) s_79 rfl rfl rfl (fun w' hs => (rd_own (k := 1) hs rfl)) rfl (lt_of_some hx9)) ?_
      refine D_pre (fun w' hs => one_own (k := 0) hs rfl) ?_
      intro ho10
      refine D_pk (H' := [ov [v] (rowsT n k : (List (List Bool))), ov [v7] (List.replicate n false : (List Bool)), bx g4 [(.int .i64 b.Nodes), u1]]) [1, 0, 2] rfl rfl ?_
      refine li rfl (soG (α := (List Bool)) rfl z_63 rfl rfl rfl (cells_of_one ho10) rfl (lt_of_some hx9) ?_)
      refine D_end ?_
      refine x_blk ?_
      refine x_then ?_
      refine D_H ([ov [v] ((rowsT n k).set k (List.replicate n false) : (List (List Bool))), bx g4 [(.int .i64 b.Nodes), u1]]) rfl ?_
      refine C_reg ?_
      refine q1 rfl (D_add rfl rfl rfl (r := ((k + 1 : Nat) : Int)) (by omega) (by omega)) ?_
      refine p1 rfl ?_
      refine D_end ?_
      refine x_then ?_
      refine D_eq 0 rfl (show ((rowsT n k).set k (List.replicate n false) : (List (List Bool))) = rowsT n (k + 1) from by exact rowsT_set) ?_
      refine fun ac w' hf hs => ⟨_, ?_, k + 1, v, ?_, rfl, hf.weak ⟨rfl, rfl, rfl, rfl, trivial⟩, hs⟩
      · omega
      · first | assumption | omega | simp
    · have pr6 : ¬ (((k : Nat) : Int) : Int) < (((List.replicate n ([] : (List Bool))).length : Nat) : Int) := of_decide_eq_false h6
      refine C_exit ?_
      refine x_then_exit ?_
      refine x_then_exit ?_
      refine x_blk_eq ?_
      refine x_then ?_
      refine C_seq ?_
      refine C_seq ?_
      refine C_reg ?_
      refine q1 rfl (D_fb f_26_1 rfl rfl (q := 1) rfl) ?_
      refine q1 rfl (lb 1 o_24 rfl rfl rfl rfl) ?_
      refine q1 rfl (D_len s_24 rfl rfl (rd_sl hu2)) ?_
      refine p1 rfl ?_
      refine D_end ?_
      refine x_then ?_
      refine C_block ?_
      refine C_loop (fun m_ ac w' => ∃ (k : Nat), ∃ (f : Nat → Nat → Bool), (k ≤ b.Reasons.length) ∧ (∀ x y, f x y = eT b.Reasons k x y) ∧ m_ = b.Reasons.length - k ∧ Fits ac 117 [(3, v), (30, u1), (31, (.int .i64 ((b.Reasons.length : Nat) : Int))), (32, (.int .i64 ((k : Nat) : Int)))] ∧ St w ([ov [v] (mat n f : (List (List Bool))), bx g4 [(.int .i64 b.Nodes), u1]]) w') ?_ ?_
      · refine D_eq 0 rfl (show (rowsT n k : (List (List Bool))) = mat n (fun _ _ => false) from by exact rowsT_done (by omega)) ?_
        refine fun ac w' hf hs => ⟨_, 0, (fun _ _ => false), ?_, ?_, rfl, hf.weak ⟨rfl, rfl, rfl, rfl, trivial⟩, hs⟩
        · first | assumption | omega | simp
        · intro x y; rfl
      · rintro m_ ac w' ⟨k, f, hk, hfe, rfl, hf, hs⟩
        refine D.use ?_ hf hs
        clear hf hs ac w'
        refine C_seq ?_
        refine C_reg ?_
        refine p1 rfl ?_
        refine D_end ?_
        refine x_then ?_
        refine D_H ([ov [v] (mat n f : (List (List Bool))), bx g4 [(.int .i64 b.Nodes), u1]]) rfl ?_
        refine C_seq ?_
        refine C_if _ rfl (fun h11 => ?_) (fun h11 => ?_)
        · have pr11 : (((k : Nat) : Int) : Int) < ((b.Reasons.length : Nat) : Int) := of_decide_eq_true h11
          refine C_skip ?_
          refine x_then ?_
          refine C_seq ?_
          refine C_block ?_
          refine C_seq ?_
          refine C_reg ?_
          obtain ⟨x12, hx13⟩ := some_of_lt (l := b.Reasons) (i := k) (by omega)
          obtain ⟨es14, at15, hr16⟩ := rd_elem (n := 3) rfl hu2 hx13
          obtain ⟨u17, u19, rfl, hu18, hu20⟩ := open_Reason hr16
          have hm21 := rd_max hu18
          have hm22 := rd_max hu20
          refine q1 rfl (D_ix (l := b.Reasons) (j := k) s_24 rfl rfl rfl (fun w' hs => (rd_at hs hu2)) rfl (lt_of_some hx13)) ?_
          refine q1 rfl (lra a_31 rfl rfl at15) ?_
          refine li rfl (D_alloc y_31 rfl rfl rfl rfl fun g23 => ?_)
          refine li rfl (D_stb (vs := [(.int .i64 x12.For), u17, u19]) (cs' := [(.int .i64 x12.For), u17, u19]) 0 z_31 rfl rfl rfl rfl rfl rfl (ocons rfl (ocons (one_rd hu18) (ocons (one_rd hu20) onil))) (by simp) rfl ?_)
          refine D_end ?_
          refine x_then ?_
          refine D_H ([bx g23 [(.int .i64 x12.For), u17, u19], ov [v] (mat n f : (List (List Bool))), bx g4 [(.int .i64 b.Nodes), u1]]) rfl ?_
          refine C_seq ?_
          refine C_seq ?_
          refine C_reg ?_
          have hv0 := isB_r hb hx13
          have hF := isR_for hv0
          refine q1 rfl (D_fb f_31_1 rfl rfl (q := 1) rfl) ?_
          refine q1 rfl (lb 0 o_27 rfl rfl rfl rfl) ?_
          refine q1 rfl (D_len s_27 rfl rfl (rd_sl hu18)) ?_
          refine p1 rfl ?_
          refine D_end ?_
          refine x_then ?_
          refine C_block ?_
          refine C_loop (fun m_ ac w' => ∃ (m : Nat), ∃ (f2 : Nat → Nat → Bool), (m ≤ x12.In.length) ∧ (∀ x y, f2 x y = (eT b.Reasons k x y || (x12.For == (x : Int) && (x12.In.take m).contains (y : Int)))) ∧ m_ = x12.In.length - m ∧ Fits ac 117 [(3, v), (6, (.pointer (some ⟨g23, 0, none⟩))), (30, u1), (31, (.int .i64 ((b.Reasons.length : Nat) : Int))), (32, (.int .i64 ((k : Nat) : Int))), (37, u17), (38, (.int .i64 ((x12.In.length : Nat) : Int))), (39, (.int .i64 ((m : Nat) : Int)))] ∧ St w ([bx g23 [(.int .i64 x12.For), u17, u19], ov [v] (mat n f2 : (List (List Bool))), bx g4 [(.int .i64 b.Nodes), u1]]) w') ?_ ?_
          · refine fun ac w' hf hs => ⟨_, 0, f, ?_, ?_, rfl, hf.weak ⟨rfl, rfl, rfl, rfl, rfl, rfl, rfl, rfl, trivial⟩, hs⟩
            · first | assumption | omega | simp
            · intro x y; rw [hfe]; exact eL_zero (base := eT b.Reasons k) x y
          · rintro m_ ac w' ⟨m, f2, hm, hf2, rfl, hf, hs⟩
            refine D.use ?_ hf hs
            clear hf hs ac w'
            refine C_seq ?_
            refine C_reg ?_
            refine p1 rfl ?_
            refine D_end ?_
            refine x_then ?_
            refine D_H ([bx g23 [(.int .i64 x12.For), u17, u19], ov [v] (mat n f2 : (List (List Bool))), bx g4 [(.int .i64 b.Nodes), u1]]) rfl ?_
            refine C_seq ?_
            refine C_if _ rfl (fun h24 => ?_) (fun h24 => ?_)
            · have pr24 : (((m : Nat) : Int) : Int) < ((x12.In.length : Nat) : Int) := of_decide_eq_true h24
              refine C_skip ?_
              refine x_then ?_
              refine C_seq ?_
              refine C_block ?_
              refine C_seq ?_
              refine C_reg ?_
              obtain ⟨y2, hy2⟩ := some_of_lt (l := x12.In) (i := m) (by omega)
              obtain ⟨es25, at26, hr27⟩ := rd_elem (n := 1) rfl hu18 hy2
              obtain rfl : es25 = [.int .i64 y2] := hr27
              refine q1 rfl (D_ix (l := x12.In) (j := m) s_27 rfl rfl rfl (fun w' hs => (rd_at hs hu18)) rfl (lt_of_some hy2)) ?_
              have hy0 := asc_at (isR_in hv0) hy2
              refine q1 rfl (lr0 o_3 rfl rfl at26 rfl) ?_
              refine p1 rfl ?_
              refine D_end ?_
              refine x_then ?_
              refine C_reg ?_
              refine p1 rfl ?_
              refine q1 rfl (D_fb f_31_0 rfl rfl (q := 0) rfl) ?_
              refine q1 rfl (lb 0 o_3 rfl rfl rfl rfl) ?_
              refine D_pk (H' := [ov [v] (mat n f2 : (List (List Bool))), bx g23 [(.int .i64 x12.For), u17, u19], bx g4 [(.int .i64 b.Nodes), u1]]) [1, 0, 2] rfl rfl ?_
              refine D_mopen fun hd28 hl29 => ?_
              simp only [vec_len] at hl29
              obtain ⟨r30, hh31⟩ := some_of_lt (l := hd28) (i := (x12.For.toNat)) (by omega)
              have hx32 : (mat n f2)[(x12.For.toNat)]? = some (vec n (f2 (x12.For.toNat))) := vec_get (by omega)
              refine q1 rfl (D_ix (l := (mat n f2)) (j := (x12.For.toNat)) s_79 rfl rfl rfl (fun w' hs => (mx_rd (k := 0) hs rfl)) (Int.toNat_of_nonneg (by omega)).symm (lt_of_some hx32)) ?_
              refine q1 rfl (lmx 0 o_63 rfl rfl rfl hh31) ?_
              refine p1 rfl ?_
              have hx34 : (vec n (f2 (x12.For.toNat)))[(y2.toNat)]? = some ((f2 (x12.For.toNat)) (y2.toNat)) := vec_get (by omega)
              refine q1 rfl (D_ix (l := (vec n (f2 (x12.For.toNat)))) (j := (y2.toNat)) s_63 rfl rfl rfl (fun w' hs => (mx_row (k := 0) hs rfl hh31 hx32)) (Int.toNat_of_nonneg (by omega)).symm (lt_of_some hx34)) ?_
              refine D_mtake hh31 hx32 ?_
              refine li rfl (so (α := Bool) (z := true) 0 z_4 rfl rfl rfl rfl rfl (lt_of_some hx34) ?_)
              refine D_mput ?_
              refine D_meq (mat_set _ _ _ _ _) ?_
              refine D_end ?_
              refine x_blk ?_
              refine x_then ?_
              refine C_reg ?_
              refine q1 rfl (D_add rfl rfl rfl (r := ((m + 1 : Nat) : Int)) (by omega) (by omega)) ?_
              refine p1 rfl ?_
              refine D_end ?_
              refine x_then ?_
              refine D_mclose ?_
              refine fun ac w' hf hs => ⟨_, ?_, m + 1, (upd2 f2 (x12.For.toNat) (y2.toNat) true), ?_, ?_, rfl, hf.weak ⟨rfl, rfl, rfl, rfl, rfl, rfl, rfl, rfl, trivial⟩, hs.pk [1, 0, 2] rfl rfl⟩
              · omega
              · first | assumption | omega | simp
              · exact eL_step hf2 hF.1 hy2 hy0.1
            · have pr24 : ¬ (((m : Nat) : Int) : Int) < ((x12.In.length : Nat) : Int) := of_decide_eq_false h24
              refine C_exit ?_
              refine x_then_exit ?_
              refine x_then_exit ?_
              refine x_blk_eq ?_
              refine x_then ?_
              refine C_seq ?_
              refine C_reg ?_
              refine q1 rfl (D_fb f_31_2 rfl rfl (q := 2) rfl) ?_
              refine q1 rfl (lb 0 o_27 rfl rfl rfl rfl) ?_
              refine q1 rfl (D_len s_27 rfl rfl (rd_sl hu20)) ?_
              refine p1 rfl ?_
              refine D_end ?_
              refine x_then ?_
              refine C_block ?_
              refine C_loop (fun m_ ac w' => ∃ (m : Nat), ∃ (f3 : Nat → Nat → Bool), (m ≤ x12.Out.length) ∧ (∀ x y, f3 x y = ((eT b.Reasons k x y || (x12.For == (x : Int) && x12.In.contains (y : Int))) || (x12.For == (x : Int) && (x12.Out.take m).contains (y : Int)))) ∧ m_ = x12.Out.length - m ∧ Fits ac 117 [(3, v), (6, (.pointer (some ⟨g23, 0, none⟩))), (30, u1), (31, (.int .i64 ((b.Reasons.length : Nat) : Int))), (32, (.int .i64 ((k : Nat) : Int))), (52, u19), (53, (.int .i64 ((x12.Out.length : Nat) : Int))), (54, (.int .i64 ((m : Nat) : Int)))] ∧ St w ([bx g23 [(.int .i64 x12.For), u17, u19], ov [v] (mat n f3 : (List (List Bool))), bx g4 [(.int .i64 b.Nodes), u1]]) w') ?_ ?_
              · refine fun ac w' hf hs => ⟨_, 0, f2, ?_, ?_, rfl, hf.weak ⟨rfl, rfl, rfl, rfl, rfl, rfl, rfl, rfl, trivial⟩, hs⟩
                · first | assumption | omega | simp
                · intro x y; rw [eL_done (base := eT b.Reasons k) (by omega) hf2]; exact eL_zero (base := fun x y => (eT b.Reasons k x y || (x12.For == (x : Int) && x12.In.contains (y : Int)))) x y
              · rintro m_ ac w' ⟨m, f3, hm, hf3, rfl, hf, hs⟩
                refine D.use ?_ hf hs
                clear hf hs ac w'
                refine C_seq ?_
                refine C_reg ?_
                refine p1 rfl ?_
                refine D_end ?_
                refine x_then ?_
                refine D_H ([bx g23 [(.int .i64 x12.For), u17, u19], ov [v] (mat n f3 : (List (List Bool))), bx g4 [(.int .i64 b.Nodes), u1]]) rfl ?_
                refine C_seq ?_
                refine C_if _ rfl (fun h35 => ?_) (fun h35 => ?_)
                · have pr35 : (((m : Nat) : Int) : Int) < ((x12.Out.length : Nat) : Int) := of_decide_eq_true h35
                  refine C_skip ?_
                  refine x_then ?_
                  refine C_seq ?_
                  refine C_block ?_
                  refine C_seq ?_
                  refine C_reg ?_
                  obtain ⟨y3, hy3⟩ := some_of_lt (l := x12.Out) (i := m) (by omega)
                  obtain ⟨es36, at37, hr38⟩ := rd_elem (n := 1) rfl hu20 hy3
                  obtain rfl : es36 = [.int .i64 y3] := hr38
                  refine q1 rfl (D_ix (l := x12.Out) (j := m) s_27 rfl rfl rfl (fun w' hs => (rd_at hs hu20)) rfl (lt_of_some hy3)) ?_
                  have hy0 := asc_at (isR_out hv0) hy3
                  refine q1 rfl (lr0 o_3 rfl rfl at37 rfl) ?_
                  refine p1 rfl ?_
                  refine D_end ?_
                  refine x_then ?_
                  refine C_reg ?_
                  refine p1 rfl ?_
                  refine q1 rfl (D_fb f_31_0 rfl rfl (q := 0) rfl) ?_
                  refine q1 rfl (lb 0 o_3 rfl rfl rfl rfl) ?_
                  refine D_pk (H' := [ov [v] (mat n f3 : (List (List Bool))), bx g23 [(.int .i64 x12.For), u17, u19], bx g4 [(.int .i64 b.Nodes), u1]]) [1, 0, 2] rfl rfl ?_
                  refine D_mopen fun hd39 hl40 => ?_
                  simp only [vec_len] at hl40
                  obtain ⟨r41, hh42⟩ := some_of_lt (l := hd39) (i := (x12.For.toNat)) (by omega)
                  have hx43 : (mat n f3)[(x12.For.toNat)]? = some (vec n (f3 (x12.For.toNat))) := vec_get (by omega)
                  refine q1 rfl (D_ix (l := (mat n f3)) (j := (x12.For.toNat)) s_79 rfl rfl rfl (fun w' hs => (mx_rd (k := 0) hs rfl)) (Int.toNat_of_nonneg (by omega)).symm (lt_of_some hx43)) ?_
                  refine q1 rfl (lmx 0 o_63 rfl rfl rfl hh42) ?_
                  refine p1 rfl ?_
                  have hx45 : (vec n (f3 (x12.For.toNat)))[(y3.toNat)]? = some ((f3 (x12.For.toNat)) (y3.toNat)) := vec_get (by omega)
                  refine q1 rfl (D_ix (l := (vec n (f3 (x12.For.toNat)))) (j := (y3.toNat)) s_63 rfl rfl rfl (fun w' hs => (mx_row (k := 0) hs rfl hh42 hx43)) (Int.toNat_of_nonneg (by omega)).symm (lt_of_some hx45)) ?_
                  refine D_mtake hh42 hx43 ?_
                  refine li rfl (so (α := Bool) (z := true) 0 z_4 rfl rfl rfl rfl rfl (lt_of_some hx45) ?_)
                  refine D_mput ?_
                  refine D_meq (mat_set _ _ _ _ _) ?_
                  refine D_end ?_
                  refine x_blk ?_
                  refine x_then ?_
                  refine C_reg ?_
                  refine q1 rfl (D_add rfl rfl rfl (r := ((m + 1 : Nat) : Int)) (by omega) (by omega)) ?_
                  refine p1 rfl ?_
                  refine D_end ?_
                  refine x_then ?_
                  refine D_mclose ?_
                  refine fun ac w' hf hs => ⟨_, ?_, m + 1, (upd2 f3 (x12.For.toNat) (y3.toNat) true), ?_, ?_, rfl, hf.weak ⟨rfl, rfl, rfl, rfl, rfl, rfl, rfl, rfl, trivial⟩, hs.pk [1, 0, 2] rfl rfl⟩
                  · omega
                  · first | assumption | omega | simp
                  · exact eL_step (base := fun x y => (eT b.Reasons k x y || (x12.For == (x : Int) && x12.In.contains (y : Int)))) hf3 hF.1 hy3 hy0.1
                · have pr35 : ¬ (((m : Nat) : Int) : Int) < ((x12.Out.length : Nat) : Int) := of_decide_eq_false h35
                  refine C_exit ?_
                  refine x_then_exit ?_
                  refine x_then_exit ?_
                  refine x_blk_eq ?_
                  refine x_blk ?_
                  refine x_then ?_
                  refine C_reg ?_
                  refine q1 rfl (D_add rfl rfl rfl (r := ((k + 1 : Nat) : Int)) (by omega) (by omega)) ?_
                  refine p1 rfl ?_
                  refine D_end ?_
                  refine x_then ?_
                  refine fun ac w' hf hs => ⟨_, ?_, k + 1, f3, ?_, ?_, rfl, hf.weak ⟨rfl, rfl, rfl, rfl, trivial⟩, hs.pk [1, 2] rfl rfl⟩
                  · omega
                  · first | assumption | omega | simp
                  · intro x y; rw [eT_step hx13]; exact eL_done (base := fun x y => eT b.Reasons k x y || (x12.For == (x : Int) && x12.In.contains (y : Int))) (by omega) hf3 x y
        · have pr11 : ¬ (((k : Nat) : Int) : Int) < ((b.Reasons.length : Nat) : Int) := of_decide_eq_false h11
          refine C_exit ?_
          refine x_then_exit ?_
          refine x_then_exit ?_
          refine x_blk_eq ?_
          refine x_then ?_
          refine C_seq ?_
          refine C_seq ?_
          refine C_reg ?_
          refine p1 rfl ?_
          refine q1 rfl (lenv s_79 rfl rfl (fun w' hs => (rd_own (k := 0) hs rfl)) (vec_len _ _)) ?_
          refine p1 rfl ?_
          refine D_end ?_
          refine x_then ?_
          refine C_block ?_
          refine C_loop (fun m_ ac w' => ∃ (k4 : Nat), ∃ (f4 : Nat → Nat → Bool), (k4 ≤ n) ∧ (∀ x y, x < n → y < n → f4 x y = wars (edge b) k4 x y) ∧ m_ = n - k4 ∧ Fits ac 117 [(3, v), (68, (.int .i64 ((n : Nat) : Int))), (69, (.int .i64 ((k4 : Nat) : Int)))] ∧ St w ([ov [v] (mat n f4 : (List (List Bool))), bx g4 [(.int .i64 b.Nodes), u1]]) w') ?_ ?_
          · refine fun ac w' hf hs => ⟨_, 0, f, ?_, ?_, rfl, hf.weak ⟨rfl, rfl, rfl, trivial⟩, hs⟩
            · first | assumption | omega | simp
            · intro x y _ _; rw [hfe]; exact eT_all (by omega) x y
          · rintro m_ ac w' ⟨k4, f4, hk4, hw, rfl, hf, hs⟩
            refine D.use ?_ hf hs
            clear hf hs ac w'
            refine C_seq ?_
            refine C_reg ?_
            refine p1 rfl ?_
            refine D_end ?_
            refine x_then ?_
            refine D_H ([ov [v] (mat n f4 : (List (List Bool))), bx g4 [(.int .i64 b.Nodes), u1]]) rfl ?_
            refine C_seq ?_
            refine C_if _ rfl (fun h46 => ?_) (fun h46 => ?_)
            · have pr46 : (((k4 : Nat) : Int) : Int) < ((n : Nat) : Int) := of_decide_eq_true h46
              refine C_skip ?_
              refine x_then ?_
              refine C_seq ?_
              refine C_block ?_
              refine C_seq ?_
              refine C_reg ?_
              refine p1 rfl <| p1 rfl ?_
              refine D_end ?_
              refine x_then ?_
              refine C_seq ?_
              refine C_reg ?_
              refine p1 rfl ?_
              refine q1 rfl (lenv s_79 rfl rfl (fun w' hs => (rd_own (k := 0) hs rfl)) (vec_len _ _)) ?_
              refine p1 rfl ?_
              refine D_end ?_
              refine x_then ?_
              refine C_block ?_
              refine C_loop (fun m_ ac w' => ∃ (i5 : Nat), ∃ (f5 : Nat → Nat → Bool), (i5 ≤ n) ∧ (∀ x y, x < n → y < n → f5 x y = if x < i5 then wst (wars (edge b) k4) k4 x y else wars (edge b) k4 x y) ∧ m_ = n - i5 ∧ Fits ac 117 [(3, v), (11, (.int .i64 ((k4 : Nat) : Int))), (68, (.int .i64 ((n : Nat) : Int))), (69, (.int .i64 ((k4 : Nat) : Int))), (73, (.int .i64 ((n : Nat) : Int))), (74, (.int .i64 ((i5 : Nat) : Int)))] ∧ St w ([ov [v] (mat n f5 : (List (List Bool))), bx g4 [(.int .i64 b.Nodes), u1]]) w') ?_ ?_
              · refine fun ac w' hf hs => ⟨_, 0, f4, ?_, ?_, rfl, hf.weak ⟨rfl, rfl, rfl, rfl, rfl, rfl, trivial⟩, hs⟩
                · first | assumption | omega | simp
                · intro x y hx hy; rw [hw x y hx hy, if_neg (by omega)]
              · rintro m_ ac w' ⟨i5, f5, hi5, hw5, rfl, hf, hs⟩
                refine D.use ?_ hf hs
                clear hf hs ac w'
                refine C_seq ?_
                refine C_reg ?_
                refine p1 rfl ?_
                refine D_end ?_
                refine x_then ?_
                refine D_H ([ov [v] (mat n f5 : (List (List Bool))), bx g4 [(.int .i64 b.Nodes), u1]]) rfl ?_
                refine C_seq ?_
                refine C_if _ rfl (fun h47 => ?_) (fun h47 => ?_)
                · have pr47 : (((i5 : Nat) : Int) : Int) < ((n : Nat) : Int) := of_decide_eq_true h47
                  refine C_skip ?_
                  refine x_then ?_
                  refine C_seq ?_
                  refine C_block ?_
                  refine C_seq ?_
                  refine C_reg ?_
                  refine p1 rfl <| p1 rfl ?_
                  refine D_end ?_
                  refine x_then ?_
                  refine C_seq ?_
                  refine C_reg ?_
                  refine p1 rfl ?_
                  refine q1 rfl (lenv s_79 rfl rfl (fun w' hs => (rd_own (k := 0) hs rfl)) (vec_len _ _)) ?_
                  refine p1 rfl ?_
                  refine D_end ?_
                  refine x_then ?_
                  refine C_block ?_
                  refine C_loop (fun m_ ac w' => ∃ (j6 : Nat), ∃ (f6 : Nat → Nat → Bool), (j6 ≤ n) ∧ (∀ x y, x < n → y < n → f6 x y = if x < i5 ∨ (x = i5 ∧ y < j6) then wst (wars (edge b) k4) k4 x y else wars (edge b) k4 x y) ∧ m_ = n - j6 ∧ Fits ac 117 [(3, v), (11, (.int .i64 ((k4 : Nat) : Int))), (12, (.int .i64 ((i5 : Nat) : Int))), (68, (.int .i64 ((n : Nat) : Int))), (69, (.int .i64 ((k4 : Nat) : Int))), (73, (.int .i64 ((n : Nat) : Int))), (74, (.int .i64 ((i5 : Nat) : Int))), (78, (.int .i64 ((n : Nat) : Int))), (79, (.int .i64 ((j6 : Nat) : Int)))] ∧ St w ([ov [v] (mat n f6 : (List (List Bool))), bx g4 [(.int .i64 b.Nodes), u1]]) w') ?_ ?_
                  · refine fun ac w' hf hs => ⟨_, 0, f5, ?_, ?_, rfl, hf.weak ⟨rfl, rfl, rfl, rfl, rfl, rfl, rfl, rfl, rfl, trivial⟩, hs⟩
                    · first | assumption | omega | simp
                    · exact ws_row0 hw5
                  · rintro m_ ac w' ⟨j6, f6, hj6, hw6, rfl, hf, hs⟩
                    refine D.use ?_ hf hs
                    clear hf hs ac w'
                    refine C_seq ?_
                    refine C_reg ?_
                    refine p1 rfl ?_
                    refine D_end ?_
                    refine x_then ?_
                    refine D_H ([ov [v] (mat n f6 : (List (List Bool))), bx g4 [(.int .i64 b.Nodes), u1]]) rfl ?_
                    refine C_seq ?_
                    refine C_if _ rfl (fun h48 => ?_) (fun h48 => ?_)
                    · have pr48 : (((j6 : Nat) : Int) : Int) < ((n : Nat) : Int) := of_decide_eq_true h48
                      refine C_skip ?_
                      refine x_then ?_
                      refine C_seq ?_
                      refine C_block ?_
                      refine C_seq ?_
                      refine C_reg ?_
                      refine p1 rfl <| p1 rfl ?_
                      refine D_end ?_
                      refine x_then ?_
                      refine D_mopen fun hd49 hl50 => ?_
                      simp only [vec_len] at hl50
                      refine C_draw mixed [31] (by kernel_rfl) ?_
                      refine tk 0 rfl (by kernel_rfl) (by kernel_rfl) (by kernel_rfl) rfl (fun _ hs => hs) (rp rfl) ?_
                      refine tk 1 rfl (by kernel_rfl) (by kernel_rfl) (by kernel_rfl) rfl (fun _ hs => hs) (rp rfl) ?_
                      obtain ⟨r51, hh52⟩ := some_of_lt (l := hd49) (i := i5) (by omega)
                      have hx53 : (mat n f6)[i5]? = some (vec n (f6 i5)) := vec_get (by omega)
                      refine tk 2 rfl (by kernel_rfl) (by kernel_rfl) (by kernel_rfl) rfl (fun _ hs => hs) (D_ix (l := (mat n f6)) (j := i5) s_79 rfl rfl rfl (fun w' hs => (mx_rd (k := 0) hs rfl)) rfl (lt_of_some hx53)) ?_
                      refine tk 3 rfl (by kernel_rfl) (by kernel_rfl) (by kernel_rfl) rfl (fun _ hs => hs) (lmx 0 o_63 rfl rfl rfl hh52) ?_
                      refine tk 4 rfl (by kernel_rfl) (by kernel_rfl) (by kernel_rfl) rfl (fun _ hs => hs) (rp rfl) ?_
                      refine tk 5 rfl (by kernel_rfl) (by kernel_rfl) (by kernel_rfl) rfl (fun _ hs => hs) (rp rfl) ?_
                      refine tk 6 rfl (by kernel_rfl) (by kernel_rfl) (by kernel_rfl) rfl (fun _ hs => hs) (rp rfl) ?_
                      refine tk 7 rfl (by kernel_rfl) (by kernel_rfl) (by kernel_rfl) rfl (fun _ hs => hs) (D_ix (l := (mat n f6)) (j := i5) s_79 rfl rfl rfl (fun w' hs => (mx_rd (k := 0) hs rfl)) rfl (lt_of_some hx53)) ?_
                      refine tk 8 rfl (by kernel_rfl) (by kernel_rfl) (by kernel_rfl) rfl (fun _ hs => hs) (lmx 0 o_63 rfl rfl rfl hh52) ?_
                      refine tk 9 rfl (by kernel_rfl) (by kernel_rfl) (by kernel_rfl) rfl (fun _ hs => hs) (rp rfl) ?_
                      have hx55 : (vec n (f6 i5))[j6]? = some ((f6 i5) j6) := vec_get (by omega)
                      refine tk 10 rfl (by kernel_rfl) (by kernel_rfl) (by kernel_rfl) rfl (fun _ hs => hs) (D_ix (l := (vec n (f6 i5))) (j := j6) s_63 rfl rfl rfl (fun w' hs => (mx_row (k := 0) hs rfl hh52 hx53)) rfl (lt_of_some hx55)) ?_
                      refine tk 11 rfl (by kernel_rfl) (by kernel_rfl) (by kernel_rfl) rfl (fun _ hs => hs) (lrd (α := Bool) o_4 rfl rfl (fun w' hs => (mx_row (k := 0) hs rfl hh52 hx53)) hx55) ?_
                      refine tk 12 rfl (by kernel_rfl) (by kernel_rfl) (by kernel_rfl) rfl (fun _ hs => hs) (rp rfl) ?_
                      refine gs 94 rfl rfl (fun h56 => ?_) (fun h56 => ?_)
                      · refine tn 13 rfl (by kernel_rfl) (by kernel_rfl) (by kernel_rfl) rfl rfl rfl (fun _ hs => hs) ?_
                        refine tn 14 rfl (by kernel_rfl) (by kernel_rfl) (by kernel_rfl) rfl rfl rfl (fun _ hs => hs) ?_
                        refine tn 15 rfl (by kernel_rfl) (by kernel_rfl) (by kernel_rfl) rfl rfl rfl (fun _ hs => hs) ?_
                        refine tn 16 rfl (by kernel_rfl) (by kernel_rfl) (by kernel_rfl) rfl rfl rfl (fun _ hs => hs) ?_
                        refine tn 17 rfl (by kernel_rfl) (by kernel_rfl) (by kernel_rfl) rfl rfl rfl (fun _ hs => hs) ?_
                        refine tn 18 rfl (by kernel_rfl) (by kernel_rfl) (by kernel_rfl) rfl rfl rfl (fun _ hs => hs) ?_
                        refine tn 19 rfl (by kernel_rfl) (by kernel_rfl) (by kernel_rfl) rfl rfl rfl (fun _ hs => hs) ?_
                        refine tn 20 rfl (by kernel_rfl) (by kernel_rfl) (by kernel_rfl) rfl rfl rfl (fun _ hs => hs) ?_
                        refine tn 21 rfl (by kernel_rfl) (by kernel_rfl) (by kernel_rfl) rfl rfl rfl (fun _ hs => hs) ?_
                        refine tn 22 rfl (by kernel_rfl) (by kernel_rfl) (by kernel_rfl) rfl rfl rfl (fun _ hs => hs) ?_
                        refine tn 23 rfl (by kernel_rfl) (by kernel_rfl) (by kernel_rfl) rfl rfl rfl (fun _ hs => hs) ?_
                        refine tn 24 rfl (by kernel_rfl) (by kernel_rfl) (by kernel_rfl) rfl rfl rfl (fun _ hs => hs) ?_
                        refine tn 25 rfl (by kernel_rfl) (by kernel_rfl) (by kernel_rfl) rfl rfl rfl (fun _ hs => hs) ?_
                        refine tn 26 rfl (by kernel_rfl) (by kernel_rfl) (by kernel_rfl) rfl rfl rfl (fun _ hs => hs) ?_
                        refine tn 27 rfl (by kernel_rfl) (by kernel_rfl) (by kernel_rfl) rfl rfl rfl (fun _ hs => hs) ?_
                        refine tn 28 rfl (by kernel_rfl) (by kernel_rfl) (by kernel_rfl) rfl rfl rfl (fun _ hs => hs) ?_
                        refine tk 29 rfl (by kernel_rfl) (by kernel_rfl) (by kernel_rfl) rfl (fun _ hs => hs) (rp rfl) ?_
                        refine tk 30 rfl (by kernel_rfl) (by kernel_rfl) (by kernel_rfl) rfl (fun _ hs => hs) (D_ix (l := (vec n (f6 i5))) (j := j6) s_63 rfl rfl rfl (fun w' hs => (mx_row (k := 0) hs rfl hh52 hx53)) rfl (lt_of_some hx55)) ?_
                        refine D_mtake hh52 hx53 ?_
                        refine ty 31 rfl (by kernel_rfl) rfl (so (α := Bool) (z := true) 0 z_4 rfl rfl rfl rfl rfl (lt_of_some hx55) ?_)
                        refine D_mput ?_
                        refine D_meq (mat_set _ _ _ _ _) ?_
                        refine tZ rfl ?_
                        refine tE (by kernel_rfl) ?_
                        refine x_blk ?_
                        refine x_then ?_
                        refine D_weak [(3, v), (11, (.int .i64 ((k4 : Nat) : Int))), (12, (.int .i64 ((i5 : Nat) : Int))), (68, (.int .i64 ((n : Nat) : Int))), (69, (.int .i64 ((k4 : Nat) : Int))), (73, (.int .i64 ((n : Nat) : Int))), (74, (.int .i64 ((i5 : Nat) : Int))), (78, (.int .i64 ((n : Nat) : Int))), (79, (.int .i64 ((j6 : Nat) : Int)))] ⟨rfl, rfl, rfl, rfl, rfl, rfl, rfl, rfl, rfl, trivial⟩ ?_
                        refine C_reg ?_
                        refine q1 rfl (D_add rfl rfl rfl (r := ((j6 + 1 : Nat) : Int)) (by omega) (by omega)) ?_
                        refine p1 rfl ?_
                        refine D_end ?_
                        refine x_then ?_
                        refine D_mclose ?_
                        refine fun ac w' hf hs => ⟨_, ?_, j6 + 1, (upd2 f6 i5 j6 true), ?_, ?_, rfl, hf.weak ⟨rfl, rfl, rfl, rfl, rfl, rfl, rfl, rfl, rfl, trivial⟩, hs⟩
                        · omega
                        · first | assumption | omega | simp
                        · exact ws_step (by omega) (by omega) (by omega) hw6 (by first | exact ws_v1 (by assumption) | exact ws_v2 (by assumption) (by assumption) | exact ws_v3 (by assumption) (by assumption))
                      · refine tk 13 rfl (by kernel_rfl) (by kernel_rfl) (by kernel_rfl) rfl (fun _ hs => hs) (rp rfl) ?_
                        refine tk 14 rfl (by kernel_rfl) (by kernel_rfl) (by kernel_rfl) rfl (fun _ hs => hs) (rp rfl) ?_
                        refine tk 15 rfl (by kernel_rfl) (by kernel_rfl) (by kernel_rfl) rfl (fun _ hs => hs) (D_ix (l := (mat n f6)) (j := i5) s_79 rfl rfl rfl (fun w' hs => (mx_rd (k := 0) hs rfl)) rfl (lt_of_some hx53)) ?_
                        refine tk 16 rfl (by kernel_rfl) (by kernel_rfl) (by kernel_rfl) rfl (fun _ hs => hs) (lmx 0 o_63 rfl rfl rfl hh52) ?_
                        refine tk 17 rfl (by kernel_rfl) (by kernel_rfl) (by kernel_rfl) rfl (fun _ hs => hs) (rp rfl) ?_
                        have hx58 : (vec n (f6 i5))[k4]? = some ((f6 i5) k4) := vec_get (by omega)
                        refine tk 18 rfl (by kernel_rfl) (by kernel_rfl) (by kernel_rfl) rfl (fun _ hs => hs) (D_ix (l := (vec n (f6 i5))) (j := k4) s_63 rfl rfl rfl (fun w' hs => (mx_row (k := 0) hs rfl hh52 hx53)) rfl (lt_of_some hx58)) ?_
                        refine tk 19 rfl (by kernel_rfl) (by kernel_rfl) (by kernel_rfl) rfl (fun _ hs => hs) (lrd (α := Bool) o_4 rfl rfl (fun w' hs => (mx_row (k := 0) hs rfl hh52 hx53)) hx58) ?_
                        refine tk 20 rfl (by kernel_rfl) (by kernel_rfl) (by kernel_rfl) rfl (fun _ hs => hs) (rp rfl) ?_
                        refine gs 102 rfl rfl (fun h59 => ?_) (fun h59 => ?_)
                        · refine tk 21 rfl (by kernel_rfl) (by kernel_rfl) (by kernel_rfl) rfl (fun _ hs => hs) (rp rfl) ?_
                          refine tk 22 rfl (by kernel_rfl) (by kernel_rfl) (by kernel_rfl) rfl (fun _ hs => hs) (rp rfl) ?_
                          obtain ⟨r60, hh61⟩ := some_of_lt (l := hd49) (i := k4) (by omega)
                          have hx62 : (mat n f6)[k4]? = some (vec n (f6 k4)) := vec_get (by omega)
                          refine tk 23 rfl (by kernel_rfl) (by kernel_rfl) (by kernel_rfl) rfl (fun _ hs => hs) (D_ix (l := (mat n f6)) (j := k4) s_79 rfl rfl rfl (fun w' hs => (mx_rd (k := 0) hs rfl)) rfl (lt_of_some hx62)) ?_
                          refine tk 24 rfl (by kernel_rfl) (by kernel_rfl) (by kernel_rfl) rfl (fun _ hs => hs) (lmx 0 o_63 rfl rfl rfl hh61) ?_
                          refine tk 25 rfl (by kernel_rfl) (by kernel_rfl) (by kernel_rfl) rfl (fun _ hs => hs) (rp rfl) ?_
                          have hx64 : (vec n (f6 k4))[j6]? = some ((f6 k4) j6) := vec_get (by omega)
                          refine tk 26 rfl (by kernel_rfl) (by kernel_rfl) (by kernel_rfl) rfl (fun _ hs => hs) (D_ix (l := (vec n (f6 k4))) (j := j6) s_63 rfl rfl rfl (fun w' hs => (mx_row (k := 0) hs rfl hh61 hx62)) rfl (lt_of_some hx64)) ?_
                          refine tk 27 rfl (by kernel_rfl) (by kernel_rfl) (by kernel_rfl) rfl (fun _ hs => hs) (lrd (α := Bool) o_4 rfl rfl (fun w' hs => (mx_row (k := 0) hs rfl hh61 hx62)) hx64) ?_
                          refine tk 28 rfl (by kernel_rfl) (by kernel_rfl) (by kernel_rfl) rfl (fun _ hs => hs) (rp rfl) ?_
                          refine tk 29 rfl (by kernel_rfl) (by kernel_rfl) (by kernel_rfl) rfl (fun _ hs => hs) (rp rfl) ?_
                          refine tk 30 rfl (by kernel_rfl) (by kernel_rfl) (by kernel_rfl) rfl (fun _ hs => hs) (D_ix (l := (vec n (f6 i5))) (j := j6) s_63 rfl rfl rfl (fun w' hs => (mx_row (k := 0) hs rfl hh52 hx53)) rfl (lt_of_some hx55)) ?_
                          refine D_mtake hh52 hx53 ?_
                          refine ty 31 rfl (by kernel_rfl) rfl (so (α := Bool) (z := ((f6 k4) j6)) 0 z_4 rfl rfl rfl rfl rfl (lt_of_some hx55) ?_)
                          refine D_mput ?_
                          refine D_meq (mat_set _ _ _ _ _) ?_
                          refine tZ rfl ?_
                          refine tE (by kernel_rfl) ?_
                          refine x_blk ?_
                          refine x_then ?_
                          refine D_weak [(3, v), (11, (.int .i64 ((k4 : Nat) : Int))), (12, (.int .i64 ((i5 : Nat) : Int))), (68, (.int .i64 ((n : Nat) : Int))), (69, (.int .i64 ((k4 : Nat) : Int))), (73, (.int .i64 ((n : Nat) : Int))), (74, (.int .i64 ((i5 : Nat) : Int))), (78, (.int .i64 ((n : Nat) : Int))), (79, (.int .i64 ((j6 : Nat) : Int)))] ⟨rfl, rfl, rfl, rfl, rfl, rfl, rfl, rfl, rfl, trivial⟩ ?_
                          refine C_reg ?_
                          refine q1 rfl (D_add rfl rfl rfl (r := ((j6 + 1 : Nat) : Int)) (by omega) (by omega)) ?_
                          refine p1 rfl ?_
                          refine D_end ?_
                          refine x_then ?_
                          refine D_mclose ?_
                          refine fun ac w' hf hs => ⟨_, ?_, j6 + 1, (upd2 f6 i5 j6 ((f6 k4) j6)), ?_, ?_, rfl, hf.weak ⟨rfl, rfl, rfl, rfl, rfl, rfl, rfl, rfl, rfl, trivial⟩, hs⟩
                          · omega
                          · first | assumption | omega | simp
                          · exact ws_step (by omega) (by omega) (by omega) hw6 (by first | exact ws_v1 (by assumption) | exact ws_v2 (by assumption) (by assumption) | exact ws_v3 (by assumption) (by assumption))
                        · refine tn 21 rfl (by kernel_rfl) (by kernel_rfl) (by kernel_rfl) rfl rfl rfl (fun _ hs => hs) ?_
                          refine tn 22 rfl (by kernel_rfl) (by kernel_rfl) (by kernel_rfl) rfl rfl rfl (fun _ hs => hs) ?_
                          refine tn 23 rfl (by kernel_rfl) (by kernel_rfl) (by kernel_rfl) rfl rfl rfl (fun _ hs => hs) ?_
                          refine tn 24 rfl (by kernel_rfl) (by kernel_rfl) (by kernel_rfl) rfl rfl rfl (fun _ hs => hs) ?_
                          refine tn 25 rfl (by kernel_rfl) (by kernel_rfl) (by kernel_rfl) rfl rfl rfl (fun _ hs => hs) ?_
                          refine tn 26 rfl (by kernel_rfl) (by kernel_rfl) (by kernel_rfl) rfl rfl rfl (fun _ hs => hs) ?_
                          refine tn 27 rfl (by kernel_rfl) (by kernel_rfl) (by kernel_rfl) rfl rfl rfl (fun _ hs => hs) ?_
                          refine tk 28 rfl (by kernel_rfl) (by kernel_rfl) (by kernel_rfl) rfl (fun _ hs => hs) (rp rfl) ?_
                          refine tk 29 rfl (by kernel_rfl) (by kernel_rfl) (by kernel_rfl) rfl (fun _ hs => hs) (rp rfl) ?_
                          refine tk 30 rfl (by kernel_rfl) (by kernel_rfl) (by kernel_rfl) rfl (fun _ hs => hs) (D_ix (l := (vec n (f6 i5))) (j := j6) s_63 rfl rfl rfl (fun w' hs => (mx_row (k := 0) hs rfl hh52 hx53)) rfl (lt_of_some hx55)) ?_
                          refine D_mtake hh52 hx53 ?_
                          refine ty 31 rfl (by kernel_rfl) rfl (so (α := Bool) (z := false) 0 z_4 rfl rfl rfl rfl rfl (lt_of_some hx55) ?_)
                          refine D_mput ?_
                          refine D_meq (mat_set _ _ _ _ _) ?_
                          refine tZ rfl ?_
                          refine tE (by kernel_rfl) ?_
                          refine x_blk ?_
                          refine x_then ?_
                          refine D_weak [(3, v), (11, (.int .i64 ((k4 : Nat) : Int))), (12, (.int .i64 ((i5 : Nat) : Int))), (68, (.int .i64 ((n : Nat) : Int))), (69, (.int .i64 ((k4 : Nat) : Int))), (73, (.int .i64 ((n : Nat) : Int))), (74, (.int .i64 ((i5 : Nat) : Int))), (78, (.int .i64 ((n : Nat) : Int))), (79, (.int .i64 ((j6 : Nat) : Int)))] ⟨rfl, rfl, rfl, rfl, rfl, rfl, rfl, rfl, rfl, trivial⟩ ?_
                          refine C_reg ?_
                          refine q1 rfl (D_add rfl rfl rfl (r := ((j6 + 1 : Nat) : Int)) (by omega) (by omega)) ?_
                          refine p1 rfl ?_
                          refine D_end ?_
                          refine x_then ?_
                          refine D_mclose ?_
                          refine fun ac w' hf hs => ⟨_, ?_, j6 + 1, (upd2 f6 i5 j6 false), ?_, ?_, rfl, hf.weak ⟨rfl, rfl, rfl, rfl, rfl, rfl, rfl, rfl, rfl, trivial⟩, hs⟩
                          · omega
                          · first | assumption | omega | simp
                          · exact ws_step (by omega) (by omega) (by omega) hw6 (by first | exact ws_v1 (by assumption) | exact ws_v2 (by assumption) (by assumption) | exact ws_v3 (by assumption) (by assumption))
                    · have pr48 : ¬ (((j6 : Nat) : Int) : Int) < ((n : Nat) : Int) := of_decide_eq_false h48
                      refine C_exit ?_
                      refine x_then_exit ?_
                      refine x_then_exit ?_
                      refine x_blk_eq ?_
                      refine x_blk ?_
                      refine x_then ?_
                      refine C_reg ?_
                      refine q1 rfl (D_add rfl rfl rfl (r := ((i5 + 1 : Nat) : Int)) (by omega) (by omega)) ?_
                      refine p1 rfl ?_
                      refine D_end ?_
                      refine x_then ?_
                      refine fun ac w' hf hs => ⟨_, ?_, i5 + 1, f6, ?_, ?_, rfl, hf.weak ⟨rfl, rfl, rfl, rfl, rfl, rfl, trivial⟩, hs⟩
                      · omega
                      · first | assumption | omega | simp
                      · exact ws_row (by omega) hw6
                · have pr47 : ¬ (((i5 : Nat) : Int) : Int) < ((n : Nat) : Int) := of_decide_eq_false h47
                  refine C_exit ?_
                  refine x_then_exit ?_
                  refine x_then_exit ?_
                  refine x_blk_eq ?_
                  refine x_blk ?_
                  refine x_then ?_
                  refine C_reg ?_
                  refine q1 rfl (D_add rfl rfl rfl (r := ((k4 + 1 : Nat) : Int)) (by omega) (by omega)) ?_
                  refine p1 rfl ?_
                  refine D_end ?_
                  refine x_then ?_
                  refine fun ac w' hf hs => ⟨_, ?_, k4 + 1, f5, ?_, ?_, rfl, hf.weak ⟨rfl, rfl, rfl, trivial⟩, hs⟩
                  · omega
                  · first | assumption | omega | simp
                  · exact ws_all (by omega) hw5
            · have pr46 : ¬ (((k4 : Nat) : Int) : Int) < ((n : Nat) : Int) := of_decide_eq_false h46
              refine C_exit ?_
              refine x_then_exit ?_
              refine x_then_exit ?_
              refine x_blk_eq ?_
              refine x_then ?_
              refine C_seq ?_
              refine C_reg ?_
              refine p1 rfl <| p1 rfl ?_
              refine D_end ?_
              refine x_then ?_
              refine C_ret ?_
              refine R_1 rfl rfl fun w' hs => res_of (k := 0) hs rfl ?_
              show mat n f4 = mat b.Nodes.toNat (dep b)
              rw [show b.Nodes.toNat = n by omega]; exact mat_congr (fun x y hx hy => by rw [hw x y hx hy, show k4 = n by omega, wars_dep hb hn])

set_option maxHeartbeats 4000000 in
theorem spec_l11Reach (w : World) (c_b : List Value) (b : Beliefs) (x : Int) (h_b : Gd.rd w c_b b) (hb : isBeliefs b = true) (hx0 : 0 ≤ x) (hx1 : x < b.Nodes) : Calls Try.prog 63 [(.agg c_b.toArray), (.int .i64 x)].toArray w (Res w (vec b.Nodes.toNat (dep b x.toNat) : List Bool)) := by
  obtain ⟨u1, rfl, hu2⟩ := open_Beliefs h_b
  have hm3 := rd_max hu2
  have hbn := isBeliefs_nodes hb
  obtain ⟨n, hn⟩ : ∃ n : Nat, b.Nodes = (n : Int) := ⟨b.Nodes.toNat, by omega⟩
  have hrl := isB_len hb
  refine enter 82 Try.func63 rfl rfl rfl ?_
  refine C_seq ?_
  refine C_reg ?_
  refine li rfl (D_box rfl rfl rfl rfl rfl fun g4 => ?_)
  refine p1 rfl ?_
  refine D_end ?_
  refine x_then ?_
  refine D_H ([bx g4 [(.int .i64 b.Nodes), u1]]) rfl ?_
  refine C_seq ?_
  refine C_reg ?_
  refine q1 rfl (D_fb f_26_0 rfl rfl (q := 0) rfl) ?_
  refine q1 rfl (lb 0 o_3 rfl rfl rfl rfl) ?_
  refine li rfl (D_mk (α := Bool) (z := false) s_63 y_4 rfl (congrArg (fun z => some (Value.int .i64 z)) hn) rfl rfl (by omega) (by omega) fun v5 => ?_)
  refine D_eq 0 rfl (vec_rep _ _) ?_
  refine p1 rfl ?_
  refine D_end ?_
  refine x_then ?_
  refine D_H ([ov [v5] (vec n (fun _ => false) : (List Bool)), bx g4 [(.int .i64 b.Nodes), u1]]) rfl ?_
  refine C_seq ?_
  refine C_reg ?_
  refine p1 rfl ?_
  refine li rfl (D_bsl (y := x) s_27 y_3 rfl rfl rfl rfl rfl fun v7 => ?_)
  refine p1 rfl ?_
  refine D_end ?_
  refine x_then ?_
  refine D_H ([ov [v7] ([x] : (List Int)), ov [v5] (vec n (fun _ => false) : (List Bool)), bx g4 [(.int .i64 b.Nodes), u1]]) rfl ?_
  refine C_seq ?_
  refine C_seq ?_
  refine C_reg ?_
  refine p1 rfl ?_
  refine D_end ?_
  refine x_then ?_
  refine C_block ?_
  refine C_loop (fun m_ ac w' => ∃ (i : Nat), ∃ (td : List Int), ∃ (g : Nat → Bool), ∃ (vt : Value), (i ≤ td.length) ∧ (Bfs b n x.toNat td g) ∧ (BfsD b td g i) ∧ m_ = n + 1 - i ∧ Fits ac 82 [(2, (.pointer (some ⟨g4, 0, none⟩))), (5, v5), (6, vt), (7, (.int .i64 ((i : Nat) : Int)))] ∧ St w ([ov [vt] (td : (List Int)), ov [v5] (vec n g : (List Bool)), bx g4 [(.int .i64 b.Nodes), u1]]) w') ?_ ?_
  · refine D_eq 0 rfl (show ([x] : (List Int)) = ([x]) from by first | rfl | simp | (simp; omega)) ?_
    refine fun ac w' hf hs => ⟨_, 0, [x], (fun _ => false), v7, ?_, ?_, ?_, rfl, hf.weak ⟨rfl, rfl, rfl, rfl, trivial⟩, hs⟩
    · first | assumption | omega | simp
    · have := Bfs.init (b := b) (n := n) (x := x.toNat) (by omega); rwa [show ((x.toNat : Nat) : Int) = x by omega] at this
    · intro p hp; omega
  · rintro m_ ac w' ⟨i, td, g, vt, hi, hB, hD, rfl, hf, hs⟩
    refine D.use ?_ hf hs
    clear hf hs ac w'
    have hle := hB.len_le
    refine C_seq ?_
    refine C_seq ?_
    refine C_reg ?_
    refine p1 rfl <| p1 rfl ?_
    refine q1 rfl (D_leno 0 s_27 rfl rfl rfl) ?_
    refine p1 rfl ?_
    refine D_end ?_
    refine x_then ?_
    refine D_H ([ov [vt] (td : (List Int)), ov [v5] (vec n g : (List Bool)), bx g4 [(.int .i64 b.Nodes), u1]]) rfl ?_
    refine C_if _ rfl (fun h8 => ?_) (fun h8 => ?_)
    · have pr8 : (((i : Nat) : Int) : Int) < ((td.length : Nat) : Int) := of_decide_eq_true h8
      refine C_skip ?_
      refine x_then ?_
      refine C_seq ?_
      refine C_block ?_
      refine C_seq ?_
      refine C_reg ?_
      refine p1 rfl ?_
      refine D_end ?_
      refine x_then ?_
      refine C_block ?_
      obtain ⟨t, ht⟩ := some_of_lt (l := td) (i := i) (by omega)
      have htr := hB.rng t (List.mem_of_getElem? ht)
      refine C_loop (fun m_ ac w' => ∃ (k : Nat), ∃ (td2 : List Int), ∃ (g2 : Nat → Bool), ∃ (vt2 : Value), (k ≤ b.Reasons.length) ∧ (i < td2.length) ∧ (td2[i]? = some t) ∧ (Bfs b n x.toNat td2 g2) ∧ (BfsD b td2 g2 i) ∧ (BfsR b t g2 k) ∧ m_ = b.Reasons.length - k ∧ Fits ac 82 [(2, (.pointer (some ⟨g4, 0, none⟩))), (5, v5), (6, vt2), (7, (.int .i64 ((i : Nat) : Int))), (8, (.int .i64 ((k : Nat) : Int)))] ∧ St w ([ov [vt2] (td2 : (List Int)), ov [v5] (vec n g2 : (List Bool)), bx g4 [(.int .i64 b.Nodes), u1]]) w') ?_ ?_
      · refine fun ac w' hf hs => ⟨_, 0, td, g, vt, ?_, ?_, ?_, ?_, ?_, ?_, rfl, hf.weak ⟨rfl, rfl, rfl, rfl, rfl, trivial⟩, hs⟩
        · first | assumption | omega | simp
        · first | assumption | omega | simp
        · first | assumption | omega | simp
        · first | assumption | omega | simp
        · first | assumption | omega | simp
        · intro y hy; simp [eT_zero] at hy
      · rintro m_ ac w' ⟨k, td2, g2, vt2, hk, hi2, ht2, hB2, hD2, hR, rfl, hf, hs⟩
        refine D.use ?_ hf hs
        clear hf hs ac w'
        have hle2 := hB2.len_le
        refine C_seq ?_
        refine C_seq ?_
        refine C_reg ?_
        refine p1 rfl ?_
        refine q1 rfl (D_fb f_26_1 rfl rfl (q := 1) rfl) ?_
        refine q1 rfl (lb 2 o_24 rfl rfl rfl rfl) ?_
        refine q1 rfl (D_len s_24 rfl rfl (rd_sl hu2)) ?_
        refine p1 rfl ?_
        refine D_end ?_
        refine x_then ?_
        refine D_H ([ov [vt2] (td2 : (List Int)), ov [v5] (vec n g2 : (List Bool)), bx g4 [(.int .i64 b.Nodes), u1]]) rfl ?_
        refine C_if _ rfl (fun h9 => ?_) (fun h9 => ?_)
        · have pr9 : (((k : Nat) : Int) : Int) < ((b.Reasons.length : Nat) : Int) := of_decide_eq_true h9
          refine C_skip ?_
          refine x_then ?_
          refine C_seq ?_
          refine C_block ?_
          refine C_seq ?_
          refine C_seq ?_
          refine C_draw mixed [] (by kernel_rfl) ?_
          refine tk 0 rfl (by kernel_rfl) (by kernel_rfl) (by kernel_rfl) rfl (fun _ hs => hs) (D_fb f_26_1 rfl rfl (q := 1) rfl) ?_
          refine tk 1 rfl (by kernel_rfl) (by kernel_rfl) (by kernel_rfl) rfl (fun _ hs => hs) (lb 2 o_24 rfl rfl rfl rfl) ?_
          refine tk 2 rfl (by kernel_rfl) (by kernel_rfl) (by kernel_rfl) rfl (fun _ hs => hs) (rp rfl) ?_
          obtain ⟨r0, hr0⟩ := some_of_lt (l := b.Reasons) (i := k) (by omega)
          have hv0 := isB_r hb hr0
          have hF := isR_for hv0
          have hl1 := asc_len (isR_in hv0)
          have hl2 := asc_len (isR_out hv0)
          obtain ⟨es10, at11, hr12⟩ := rd_elem (n := 3) rfl hu2 hr0
          obtain ⟨u13, u15, rfl, hu14, hu16⟩ := open_Reason hr12
          have hm17 := rd_max hu14
          have hm18 := rd_max hu16
          refine tk 3 rfl (by kernel_rfl) (by kernel_rfl) (by kernel_rfl) rfl (fun _ hs => hs) (D_ix (l := b.Reasons) (j := k) s_24 rfl rfl rfl (fun w' hs => (rd_at hs hu2)) rfl (lt_of_some hr0)) ?_
          refine tk 4 rfl (by kernel_rfl) (by kernel_rfl) (by kernel_rfl) rfl (fun _ hs => hs) (D_fa f_31_0 rfl rfl) ?_
          refine tk 5 rfl (by kernel_rfl) (by kernel_rfl) (by kernel_rfl) rfl (fun _ hs => hs) (lr o_3 rfl rfl at11 rfl) ?_
          refine tk 6 rfl (by kernel_rfl) (by kernel_rfl) (by kernel_rfl) rfl (fun _ hs => hs) (rp rfl) ?_
          refine tk 7 rfl (by kernel_rfl) (by kernel_rfl) (by kernel_rfl) rfl (fun _ hs => hs) (rp rfl) ?_
          obtain ⟨t1, ht1⟩ := some_of_lt (l := td2) (i := i) (by omega)
          have e37 : t1 = t := Option.some.inj (ht1.symm.trans ht2)
          refine tk 8 rfl (by kernel_rfl) (by kernel_rfl) (by kernel_rfl) rfl (fun _ hs => hs) (D_ix (l := td2) (j := i) s_27 rfl rfl rfl (fun w' hs => (rd_own (k := 0) hs rfl)) rfl (lt_of_some ht1)) ?_
          refine tk 9 rfl (by kernel_rfl) (by kernel_rfl) (by kernel_rfl) rfl (fun _ hs => hs) (lo (α := Int) 0 o_3 rfl rfl rfl ht1) ?_
          refine tk 10 rfl (by kernel_rfl) (by kernel_rfl) (by kernel_rfl) rfl (fun _ hs => hs) (rp rfl) ?_
          refine tE (by kernel_rfl) ?_
          refine x_then ?_
          refine D_weak [(2, (.pointer (some ⟨g4, 0, none⟩))), (5, v5), (6, vt2), (7, (.int .i64 ((i : Nat) : Int))), (8, (.int .i64 ((k : Nat) : Int))), (39, (.bool ((r0.For : Int) != t1)))] ⟨rfl, rfl, rfl, rfl, rfl, rfl, trivial⟩ ?_
          refine C_if _ rfl (fun h19 => ?_) (fun h19 => ?_)
          · have pr19 : (r0.For : Int) ≠ t1 := bne_iff_ne.1 h19
            refine C_exit ?_
            refine x_then_exit ?_
            refine x_blk_eq ?_
            refine x_then ?_
            refine C_reg ?_
            refine p1 rfl ?_
            refine q1 rfl (D_add rfl rfl rfl (r := ((k + 1 : Nat) : Int)) (by omega) (by omega)) ?_
            refine p1 rfl ?_
            refine D_end ?_
            refine x_then ?_
            refine fun ac w' hf hs => ⟨_, ?_, k + 1, td2, g2, vt2, ?_, ?_, ?_, ?_, ?_, ?_, rfl, hf.weak ⟨rfl, rfl, rfl, rfl, rfl, trivial⟩, hs⟩
            · omega
            · first | assumption | omega | simp
            · first | assumption | omega | simp
            · first | assumption | omega | simp
            · first | assumption | omega | simp
            · first | assumption | omega | simp
            · first | exact hR3.done hr0 hL (by omega) | exact hR.skip hr0 htr.1 (by omega)
          · have pr19 : (r0.For : Int) = t1 := eq_of_bne_f h19
            refine C_skip ?_
            refine x_then ?_
            refine C_seq ?_
            refine C_draw mixed [13, 14] (by kernel_rfl) ?_
            refine tk 0 rfl (by kernel_rfl) (by kernel_rfl) (by kernel_rfl) rfl (fun _ hs => hs) (D_fb f_26_1 rfl rfl (q := 1) rfl) ?_
            refine tk 1 rfl (by kernel_rfl) (by kernel_rfl) (by kernel_rfl) rfl (fun _ hs => hs) (lb 2 o_24 rfl rfl rfl rfl) ?_
            refine tk 2 rfl (by kernel_rfl) (by kernel_rfl) (by kernel_rfl) rfl (fun _ hs => hs) (rp rfl) ?_
            refine tk 3 rfl (by kernel_rfl) (by kernel_rfl) (by kernel_rfl) rfl (fun _ hs => hs) (D_ix (l := b.Reasons) (j := k) s_24 rfl rfl rfl (fun w' hs => (rd_at hs hu2)) rfl (lt_of_some hr0)) ?_
            refine tk 4 rfl (by kernel_rfl) (by kernel_rfl) (by kernel_rfl) rfl (fun _ hs => hs) (D_fa f_31_1 rfl rfl) ?_
            refine tk 5 rfl (by kernel_rfl) (by kernel_rfl) (by kernel_rfl) rfl (fun _ hs => hs) (lr o_27 rfl rfl at11 rfl) ?_
            refine tk 7 rfl (by kernel_rfl) (by kernel_rfl) (by kernel_rfl) rfl (fun _ hs => hs) (D_fb f_26_1 rfl rfl (q := 1) rfl) ?_
            refine tk 8 rfl (by kernel_rfl) (by kernel_rfl) (by kernel_rfl) rfl (fun _ hs => hs) (lb 2 o_24 rfl rfl rfl rfl) ?_
            refine tk 9 rfl (by kernel_rfl) (by kernel_rfl) (by kernel_rfl) rfl (fun _ hs => hs) (rp rfl) ?_
            refine tk 10 rfl (by kernel_rfl) (by kernel_rfl) (by kernel_rfl) rfl (fun _ hs => hs) (D_ix (l := b.Reasons) (j := k) s_24 rfl rfl rfl (fun w' hs => (rd_at hs hu2)) rfl (lt_of_some hr0)) ?_
            refine tk 11 rfl (by kernel_rfl) (by kernel_rfl) (by kernel_rfl) rfl (fun _ hs => hs) (D_fa f_31_2 rfl rfl) ?_
            refine tk 12 rfl (by kernel_rfl) (by kernel_rfl) (by kernel_rfl) rfl (fun _ hs => hs) (lr o_27 rfl rfl at11 rfl) ?_
            refine ty 6 rfl (by kernel_rfl) rfl (crl b_65 rfl rfl rfl rfl (fun w' hs => (spec_l1Ints w' u13 r0.In (rd_at hs hu14) (by first | assumption | omega | (unfold szm at *; split at * <;> omega)))) fun v20 => ?_)
            refine tS (fun _ hs => hs.pk [1, 2, 3] rfl rfl) ?_
            refine ty 13 rfl (by kernel_rfl) rfl (D_apl (α := Int) (ys := r0.Out) s_27 y_3 rfl rfl rfl rfl rfl rfl (fun w' hs => (rd_at hs hu16)) (by first | omega | (simp; omega)) (by first | omega | (simp; omega)) fun v21 => ?_)
            refine tZ rfl ?_
            refine ty 14 rfl (by kernel_rfl) rfl (sv rfl rfl (rp rfl) ?_)
            refine tZ rfl ?_
            refine tE (by kernel_rfl) ?_
            refine x_then ?_
            refine D_weak [(2, (.pointer (some ⟨g4, 0, none⟩))), (5, v5), (6, vt2), (7, (.int .i64 ((i : Nat) : Int))), (8, (.int .i64 ((k : Nat) : Int))), (9, v21)] ⟨rfl, rfl, rfl, rfl, rfl, rfl, trivial⟩ ?_
            refine D_H ([ov [v21] (r0.In ++ r0.Out : (List Int)), ov [vt2] (td2 : (List Int)), ov [v5] (vec n g2 : (List Bool)), bx g4 [(.int .i64 b.Nodes), u1]]) rfl ?_
            refine C_seq ?_
            refine C_reg ?_
            refine p1 rfl ?_
            refine D_end ?_
            refine x_then ?_
            refine C_block ?_
            refine C_loop (fun m_ ac w' => ∃ (j : Nat), ∃ (td3 : List Int), ∃ (g3 : Nat → Bool), ∃ (vt3 : Value), (j ≤ (r0.In ++ r0.Out).length) ∧ (i < td3.length) ∧ (td3[i]? = some t) ∧ (Bfs b n x.toNat td3 g3) ∧ (BfsD b td3 g3 i) ∧ (BfsR b t g3 k) ∧ (BfsL (r0.In ++ r0.Out) g3 j) ∧ m_ = (r0.In ++ r0.Out).length - j ∧ Fits ac 82 [(2, (.pointer (some ⟨g4, 0, none⟩))), (5, v5), (6, vt3), (7, (.int .i64 ((i : Nat) : Int))), (8, (.int .i64 ((k : Nat) : Int))), (9, v21), (10, (.int .i64 ((j : Nat) : Int)))] ∧ St w ([ov [v21] (r0.In ++ r0.Out : (List Int)), ov [vt3] (td3 : (List Int)), ov [v5] (vec n g3 : (List Bool)), bx g4 [(.int .i64 b.Nodes), u1]]) w') ?_ ?_
            · refine fun ac w' hf hs => ⟨_, 0, td2, g2, vt2, ?_, ?_, ?_, ?_, ?_, ?_, ?_, rfl, hf.weak ⟨rfl, rfl, rfl, rfl, rfl, rfl, rfl, trivial⟩, hs⟩
              · first | assumption | omega | simp
              · first | assumption | omega | simp
              · first | assumption | omega | simp
              · first | assumption | omega | simp
              · first | assumption | omega | simp
              · first | assumption | omega | simp
              · intro p y hp; omega
            · rintro m_ ac w' ⟨j, td3, g3, vt3, hj, hi3, ht3, hB3, hD3, hR3, hL, rfl, hf, hs⟩
              refine D.use ?_ hf hs
              clear hf hs ac w'
              have hle3 := hB3.len_le
              have hla : (r0.In ++ r0.Out).length = r0.In.length + r0.Out.length := List.length_append
              refine C_seq ?_
              refine C_seq ?_
              refine C_reg ?_
              refine p1 rfl <| p1 rfl ?_
              refine q1 rfl (D_leno 0 s_27 rfl rfl rfl) ?_
              refine p1 rfl ?_
              refine D_end ?_
              refine x_then ?_
              refine D_H ([ov [v21] (r0.In ++ r0.Out : (List Int)), ov [vt3] (td3 : (List Int)), ov [v5] (vec n g3 : (List Bool)), bx g4 [(.int .i64 b.Nodes), u1]]) rfl ?_
              refine C_if _ rfl (fun h22 => ?_) (fun h22 => ?_)
              · have pr22 : (((j : Nat) : Int) : Int) < (((r0.In ++ r0.Out).length : Nat) : Int) := of_decide_eq_true h22
                refine C_skip ?_
                refine x_then ?_
                refine C_seq ?_
                refine C_block ?_
                refine C_seq ?_
                refine C_reg ?_
                refine p1 rfl <| p1 rfl <| p1 rfl ?_
                obtain ⟨y0, hy0⟩ := some_of_lt (l := (r0.In ++ r0.Out)) (i := j) (by omega)
                refine q1 rfl (D_ix (l := (r0.In ++ r0.Out)) (j := j) s_27 rfl rfl rfl (fun w' hs => (rd_own (k := 0) hs rfl)) rfl (lt_of_some hy0)) ?_
                refine q1 rfl (lo (α := Int) 0 o_3 rfl rfl rfl hy0) ?_
                have hyn := nodes_of hb hr0 hy0
                have hx24 : (vec n g3)[(y0.toNat)]? = some (g3 (y0.toNat)) := vec_get (by omega)
                refine q1 rfl (D_ix (l := (vec n g3)) (j := (y0.toNat)) s_63 rfl rfl rfl (fun w' hs => (rd_own (k := 2) hs rfl)) (Int.toNat_of_nonneg (by omega)).symm (lt_of_some hx24)) ?_
                refine q1 rfl (lo (α := Bool) 2 o_4 rfl rfl rfl hx24) ?_
                refine p1 rfl ?_
                refine D_end ?_
                refine x_then ?_
                refine C_if _ rfl (fun h25 => ?_) (fun h25 => ?_)
                · have h25n : (g3 (y0.toNat)) = false := not_t h25
                  refine C_seq ?_
                  refine C_reg ?_
                  refine p1 rfl <| p1 rfl <| p1 rfl ?_
                  refine q1 rfl (D_ix (l := (r0.In ++ r0.Out)) (j := j) s_27 rfl rfl rfl (fun w' hs => (rd_own (k := 0) hs rfl)) rfl (lt_of_some hy0)) ?_
                  refine q1 rfl (lo (α := Int) 0 o_3 rfl rfl rfl hy0) ?_
                  refine q1 rfl (D_ix (l := (vec n g3)) (j := (y0.toNat)) s_63 rfl rfl rfl (fun w' hs => (rd_own (k := 2) hs rfl)) (Int.toNat_of_nonneg (by omega)).symm (lt_of_some hx24)) ?_
                  refine li rfl (so (α := Bool) (z := true) 2 z_4 rfl rfl rfl rfl rfl (lt_of_some hx24) ?_)
                  refine D_eq 2 rfl (vec_set _ _ _ _) ?_
                  refine D_end ?_
                  refine x_then ?_
                  refine D_weak [(2, (.pointer (some ⟨g4, 0, none⟩))), (5, v5), (6, vt3), (7, (.int .i64 ((i : Nat) : Int))), (8, (.int .i64 ((k : Nat) : Int))), (9, v21), (10, (.int .i64 ((j : Nat) : Int)))] ⟨rfl, rfl, rfl, rfl, rfl, rfl, rfl, trivial⟩ ?_
                  refine D_H ([ov [v21] (r0.In ++ r0.Out : (List Int)), ov [vt3] (td3 : (List Int)), ov [v5] (vec n (upd g3 (y0.toNat) true) : (List Bool)), bx g4 [(.int .i64 b.Nodes), u1]]) rfl ?_
                  refine C_reg ?_
                  refine p1 rfl <| p1 rfl <| p1 rfl ?_
                  refine q1 rfl (D_ix (l := (r0.In ++ r0.Out)) (j := j) s_27 rfl rfl rfl (fun w' hs => (rd_own (k := 0) hs rfl)) rfl (lt_of_some hy0)) ?_
                  refine q1 rfl (lo (α := Int) 0 o_3 rfl rfl rfl hy0) ?_
                  refine li rfl (D_bs s_27 y_3 rfl (by decide) (by decide) rfl rfl rfl rfl rfl rfl fun g26 => ?_)
                  refine D_fi y0 ?_
                  refine D_pk (H' := [ov [vt3] (td3 : (List Int)), ov [(.int .i64 y0)] (y0 : Int), bx g26 [(.int .i64 y0)], ov [v21] (r0.In ++ r0.Out : (List Int)), ov [v5] (vec n (upd g3 (y0.toNat) true) : (List Bool)), bx g4 [(.int .i64 b.Nodes), u1]]) [3, 0, 1, 2, 4, 5] rfl rfl ?_
                  refine li rfl (D_ap s_27 y_3 rfl (by decide) rfl rfl rfl rfl rfl rfl (by first | omega | (simp; omega)) (by first | omega | (simp; omega)) fun v27 => ?_)
                  refine p1 rfl ?_
                  refine D_end ?_
                  refine x_blk ?_
                  refine x_then ?_
                  refine D_H ([ov [v27] (td3 ++ [y0] : (List Int)), ov [v21] (r0.In ++ r0.Out : (List Int)), ov [v5] (vec n (upd g3 (y0.toNat) true) : (List Bool)), bx g4 [(.int .i64 b.Nodes), u1]]) rfl ?_
                  refine C_reg ?_
                  refine p1 rfl ?_
                  refine q1 rfl (D_add rfl rfl rfl (r := ((j + 1 : Nat) : Int)) (by omega) (by omega)) ?_
                  refine p1 rfl ?_
                  refine D_end ?_
                  refine x_then ?_
                  refine D_eq 0 rfl (show (td3 ++ [y0] : (List Int)) = (td3 ++ [y0]) from by first | rfl | simp | (simp; omega)) ?_
                  refine fun ac w' hf hs => ⟨_, ?_, j + 1, td3 ++ [y0], (upd g3 (y0.toNat) true), v27, ?_, ?_, ?_, ?_, ?_, ?_, ?_, rfl, hf.weak ⟨rfl, rfl, rfl, rfl, rfl, rfl, rfl, trivial⟩, hs.pk [1, 0, 2, 3] rfl rfl⟩
                  · omega
                  · first | assumption | omega | simp
                  · first | assumption | (simp; omega)
                  · first | assumption | (rw [List.getElem?_append_left (by omega)]; assumption)
                  · first | assumption | exact hB3.add ht3 ⟨hyn.1, by omega⟩ (edge_of hr0 (by omega) htr.1 hy0 hyn.1) h25n
                  · first | assumption | exact hD3.add (by omega)
                  · first | assumption | exact hR3.add
                  · first | exact hL.add hy0 | exact hL.had hy0 h25n
                · have h25n : (g3 (y0.toNat)) = true := not_f h25
                  refine C_skip ?_
                  refine x_blk ?_
                  refine x_then ?_
                  refine C_reg ?_
                  refine p1 rfl ?_
                  refine q1 rfl (D_add rfl rfl rfl (r := ((j + 1 : Nat) : Int)) (by omega) (by omega)) ?_
                  refine p1 rfl ?_
                  refine D_end ?_
                  refine x_then ?_
                  refine fun ac w' hf hs => ⟨_, ?_, j + 1, td3, g3, vt3, ?_, ?_, ?_, ?_, ?_, ?_, ?_, rfl, hf.weak ⟨rfl, rfl, rfl, rfl, rfl, rfl, rfl, trivial⟩, hs⟩
                  · omega
                  · first | assumption | omega | simp
                  · first | assumption | (simp; omega)
                  · first | assumption | (rw [List.getElem?_append_left (by omega)]; assumption)
                  · first | assumption | exact hB3.add ht3 ⟨hyn.1, by omega⟩ (edge_of hr0 (by omega) htr.1 hy0 hyn.1) h25n
                  · first | assumption | exact hD3.add (by omega)
                  · first | assumption | exact hR3.add
                  · first | exact hL.add hy0 | exact hL.had hy0 h25n
              · have pr22 : ¬ (((j : Nat) : Int) : Int) < (((r0.In ++ r0.Out).length : Nat) : Int) := of_decide_eq_false h22
                refine C_exit ?_
                refine x_then_exit ?_
                refine x_then_exit ?_
                refine x_blk_eq ?_
                refine x_blk ?_
                refine x_then ?_
                refine C_reg ?_
                refine p1 rfl ?_
                refine q1 rfl (D_add rfl rfl rfl (r := ((k + 1 : Nat) : Int)) (by omega) (by omega)) ?_
                refine p1 rfl ?_
                refine D_end ?_
                refine x_then ?_
                refine fun ac w' hf hs => ⟨_, ?_, k + 1, td3, g3, vt3, ?_, ?_, ?_, ?_, ?_, ?_, rfl, hf.weak ⟨rfl, rfl, rfl, rfl, rfl, trivial⟩, hs.pk [1, 2, 3] rfl rfl⟩
                · omega
                · first | assumption | omega | simp
                · first | assumption | omega | simp
                · first | assumption | omega | simp
                · first | assumption | omega | simp
                · first | assumption | omega | simp
                · first | exact hR3.done hr0 hL (by omega) | exact hR.skip hr0 htr.1 (by omega)
        · have pr9 : ¬ (((k : Nat) : Int) : Int) < ((b.Reasons.length : Nat) : Int) := of_decide_eq_false h9
          refine C_exit ?_
          refine x_then_exit ?_
          refine x_then_exit ?_
          refine x_blk_eq ?_
          refine x_blk ?_
          refine x_then ?_
          refine C_reg ?_
          refine p1 rfl ?_
          refine q1 rfl (D_add rfl rfl rfl (r := ((i + 1 : Nat) : Int)) (by omega) (by omega)) ?_
          refine p1 rfl ?_
          refine D_end ?_
          refine x_then ?_
          refine fun ac w' hf hs => ⟨_, ?_, i + 1, td2, g2, vt2, ?_, ?_, ?_, rfl, hf.weak ⟨rfl, rfl, rfl, rfl, trivial⟩, hs⟩
          · omega
          · first | assumption | omega | simp
          · first | assumption | omega | simp
          · exact hD2.next ht2 hR (by omega)
    · have pr8 : ¬ (((i : Nat) : Int) : Int) < ((td.length : Nat) : Int) := of_decide_eq_false h8
      refine C_exit ?_
      refine x_then_exit ?_
      refine x_then_exit ?_
      refine x_blk_eq ?_
      refine x_then ?_
      refine C_seq ?_
      refine C_reg ?_
      refine p1 rfl <| p1 rfl ?_
      refine D_end ?_
      refine x_then ?_
      refine C_ret ?_
      refine R_1 rfl rfl fun w' hs => res_of (k := 1) hs rfl ?_
      show vec n g = vec b.Nodes.toNat (dep b x.toNat)
      rw [show b.Nodes.toNat = n by omega]; exact hB.done hb hn hD (by omega)

theorem impl_IsStratified (w : World) (c_b : List Value) (b : Beliefs) (h_b : Gd.rd w c_b b) : Calls Try.prog 36 [(.agg c_b.toArray)].toArray w (Val w (.bool (isStrat b))) := by
  obtain ⟨u1, rfl, hu2⟩ := open_Beliefs h_b
  have hm3 := rd_max hu2
  refine enter 43 Try.func36 rfl rfl rfl ?_
  refine C_seq ?_
  refine C_reg ?_
  refine li rfl (D_box rfl rfl rfl rfl rfl fun g4 => ?_)
  refine p1 rfl ?_
  refine D_end ?_
  refine x_then ?_
  refine D_H ([bx g4 [(.int .i64 b.Nodes), u1]]) rfl ?_
  refine C_seq ?_
  refine C_seq ?_
  refine C_reg ?_
  refine q1 rfl (lbw 0 a_26 rfl rfl rfl) ?_
  refine li rfl (cv b_57 rfl rfl rfl rfl (fun w' hs => (impl_IsBeliefs w' [(.int .i64 b.Nodes), u1] b (rd_at hs h_b))) ?_)
  refine p1 rfl ?_
  refine D_end ?_
  refine x_then ?_
  refine C_if _ rfl (fun h5 => ?_) (fun h5 => ?_)
  · have h5n : (isBeliefs b) = false := not_t h5
    refine C_seq ?_
    refine C_reg ?_
    refine p1 rfl ?_
    refine D_end ?_
    refine x_then ?_
    refine C_ret ?_
    refine x_then_ret ?_
    refine R_1 rfl rfl fun w' hs => ⟨congrArg (fun z => Ending.returned (Value.bool z)) ?_, hs.bel⟩
    show (false : Bool) = isStrat b
    exact strat_nb h5n
  · have h5n : (isBeliefs b) = true := not_f h5
    refine C_skip ?_
    refine x_then ?_
    refine C_seq ?_
    refine C_reg ?_
    refine q1 rfl (lbw 0 a_26 rfl rfl rfl) ?_
    refine li rfl (crl b_58 rfl rfl rfl rfl (fun w' hs => (impl_dependencies w' [(.int .i64 b.Nodes), u1] b (rd_at hs h_b) (by first | assumption | omega | (unfold szm at *; split at * <;> omega)))) fun v6 => ?_)
    refine p1 rfl ?_
    refine D_end ?_
    refine x_then ?_
    refine D_H ([ov [v6] (mat b.Nodes.toNat (dep b) : (List (List Bool))), bx g4 [(.int .i64 b.Nodes), u1]]) rfl ?_
    refine C_seq ?_
    refine C_seq ?_
    refine C_reg ?_
    refine q1 rfl (D_fb f_26_1 rfl rfl (q := 1) rfl) ?_
    refine q1 rfl (lb 1 o_24 rfl rfl rfl rfl) ?_
    refine q1 rfl (D_len s_24 rfl rfl (rd_sl hu2)) ?_
    refine p1 rfl ?_
    refine D_end ?_
    refine x_then ?_
    refine C_block ?_
    refine C_loop (fun m_ ac w' => ∃ (k : Nat), (k ≤ b.Reasons.length) ∧ (∀ i, i < k → ∀ r, b.Reasons[i]? = some r → stR b r = true) ∧ m_ = b.Reasons.length - k ∧ Fits ac 43 [(3, v6), (14, u1), (15, (.int .i64 ((b.Reasons.length : Nat) : Int))), (16, (.int .i64 ((k : Nat) : Int)))] ∧ St w ([ov [v6] (mat b.Nodes.toNat (dep b) : (List (List Bool))), bx g4 [(.int .i64 b.Nodes), u1]]) w') ?_ ?_
    · refine fun ac w' hf hs => ⟨_, 0, ?_, ?_, rfl, hf.weak ⟨rfl, rfl, rfl, rfl, trivial⟩, hs⟩
      · first | assumption | omega | simp
      · intro i hi; omega
    · rintro m_ ac w' ⟨k, hk, hi, rfl, hf, hs⟩
      refine D.use ?_ hf hs
      clear hf hs ac w'
      refine C_seq ?_
      refine C_reg ?_
      refine p1 rfl ?_
      refine D_end ?_
      refine x_then ?_
      refine C_seq ?_
      refine C_if _ rfl (fun h7 => ?_) (fun h7 => ?_)
      · have pr7 : (((k : Nat) : Int) : Int) < ((b.Reasons.length : Nat) : Int) := of_decide_eq_true h7
        refine C_skip ?_
        refine x_then ?_
        refine C_seq ?_
        refine C_block ?_
        refine C_seq ?_
        refine C_reg ?_
        obtain ⟨r0, hr0⟩ := some_of_lt (l := b.Reasons) (i := k) (by omega)
        have hv0 := isB_r (by assumption) hr0
        have hF := isR_for hv0
        obtain ⟨es8, at9, hr10⟩ := rd_elem (n := 3) rfl hu2 hr0
        obtain ⟨u11, u13, rfl, hu12, hu14⟩ := open_Reason hr10
        have hm15 := rd_max hu12
        have hm16 := rd_max hu14
        refine q1 rfl (D_ix (l := b.Reasons) (j := k) s_24 rfl rfl rfl (fun w' hs => (rd_at hs hu2)) rfl (lt_of_some hr0)) ?_
        refine q1 rfl (lra a_31 rfl rfl at9) ?_
        refine li rfl (D_alloc y_31 rfl rfl rfl rfl fun g17 => ?_)
        refine li rfl (D_stb (vs := [(.int .i64 r0.For), u11, u13]) (cs' := [(.int .i64 r0.For), u11, u13]) 0 z_31 rfl rfl rfl rfl rfl rfl (ocons rfl (ocons (one_rd hu12) (ocons (one_rd hu14) onil))) (by simp) rfl ?_)
        refine D_end ?_
        refine x_then ?_
        refine D_H ([bx g17 [(.int .i64 r0.For), u11, u13], ov [v6] (mat b.Nodes.toNat (dep b) : (List (List Bool))), bx g4 [(.int .i64 b.Nodes), u1]]) rfl ?_
        refine C_seq ?_
        refine C_reg ?_
        refine q1 rfl (D_fb f_31_2 rfl rfl (q := 2) rfl) ?_
        refine q1 rfl (lb 0 o_27 rfl rfl rfl rfl) ?_
        refine q1 rfl (D_len s_27 rfl rfl (rd_sl hu14)) ?_
        refine p1 rfl ?_
        refine D_end ?_
        refine x_then ?_
        refine C_block ?_
        refine C_loop (fun m_ ac w' => ∃ (m : Nat), (m ≤ r0.Out.length) ∧ (∀ i, i < m → ∀ y, r0.Out[i]? = some y → stY b r0 y = true) ∧ m_ = r0.Out.length - m ∧ Fits ac 43 [(3, v6), (5, (.pointer (some ⟨g17, 0, none⟩))), (14, u1), (15, (.int .i64 ((b.Reasons.length : Nat) : Int))), (16, (.int .i64 ((k : Nat) : Int))), (21, u13), (22, (.int .i64 ((r0.Out.length : Nat) : Int))), (23, (.int .i64 ((m : Nat) : Int)))] ∧ St w ([bx g17 [(.int .i64 r0.For), u11, u13], ov [v6] (mat b.Nodes.toNat (dep b) : (List (List Bool))), bx g4 [(.int .i64 b.Nodes), u1]]) w') ?_ ?_
        · refine fun ac w' hf hs => ⟨_, 0, ?_, ?_, rfl, hf.weak ⟨rfl, rfl, rfl, rfl, rfl, rfl, rfl, rfl, trivial⟩, hs⟩
          · first | assumption | omega | simp
          · intro i hi; omega
        · rintro m_ ac w' ⟨m, hm, hi2, rfl, hf, hs⟩
          refine D.use ?_ hf hs
          clear hf hs ac w'
          refine C_seq ?_
          refine C_reg ?_
          refine p1 rfl ?_
          refine D_end ?_
          refine x_then ?_
          refine C_seq ?_
          refine C_if _ rfl (fun h18 => ?_) (fun h18 => ?_)
          · have pr18 : (((m : Nat) : Int) : Int) < ((r0.Out.length : Nat) : Int) := of_decide_eq_true h18
            refine C_skip ?_
            refine x_then ?_
            refine C_seq ?_
            refine C_block ?_
            refine C_seq ?_
            refine C_reg ?_
            obtain ⟨y0, hy0⟩ := some_of_lt (l := r0.Out) (i := m) (by omega)
            have hyn := asc_at (isR_out hv0) hy0
            obtain ⟨es19, at20, hr21⟩ := rd_elem (n := 1) rfl hu14 hy0
            obtain rfl : es19 = [.int .i64 y0] := hr21
            refine q1 rfl (D_ix (l := r0.Out) (j := m) s_27 rfl rfl rfl (fun w' hs => (rd_at hs hu14)) rfl (lt_of_some hy0)) ?_
            refine q1 rfl (lr0 o_3 rfl rfl at20 rfl) ?_
            refine p1 rfl ?_
            refine D_end ?_
            refine x_then ?_
            refine C_seq ?_
            refine D_pk (H' := [ov [v6] (mat b.Nodes.toNat (dep b) : (List (List Bool))), bx g17 [(.int .i64 r0.For), u11, u13], bx g4 [(.int .i64 b.Nodes), u1]]) [1, 0, 2] rfl rfl ?_
            refine D_mopen fun hd22 hl23 => ?_
            simp only [vec_len] at hl23
            refine C_draw mixed [] (by kernel_rfl) ?_
            refine tk 0 rfl (by kernel_rfl) (by kernel_rfl) (by kernel_rfl) rfl (fun _ hs => hs) (rp rfl) ?_
            refine tk 1 rfl (by kernel_rfl) (by kernel_rfl) (by kernel_rfl) rfl (fun _ hs => hs) (D_fb f_31_0 rfl rfl (q := 0) rfl) ?_
            refine tk 2 rfl (by kernel_rfl) (by kernel_rfl) (by kernel_rfl) rfl (fun _ hs => hs) (lb 1 o_3 rfl rfl rfl rfl) ?_
            refine tk 3 rfl (by kernel_rfl) (by kernel_rfl) (by kernel_rfl) rfl (fun _ hs => hs) (rp rfl) ?_
            refine tk 4 rfl (by kernel_rfl) (by kernel_rfl) (by kernel_rfl) rfl (fun _ hs => hs) (rp rfl) ?_
            refine gs 31 rfl rfl (fun h24 => ?_) (fun h24 => ?_)
            · have pr24 : (y0 : Int) = r0.For := eq_of_beq h24
              refine tn 5 rfl (by kernel_rfl) (by kernel_rfl) (by kernel_rfl) rfl rfl rfl (fun _ hs => hs) ?_
              refine tn 6 rfl (by kernel_rfl) (by kernel_rfl) (by kernel_rfl) rfl rfl rfl (fun _ hs => hs) ?_
              refine tn 7 rfl (by kernel_rfl) (by kernel_rfl) (by kernel_rfl) rfl rfl rfl (fun _ hs => hs) ?_
              refine tn 8 rfl (by kernel_rfl) (by kernel_rfl) (by kernel_rfl) rfl rfl rfl (fun _ hs => hs) ?_
              refine tn 9 rfl (by kernel_rfl) (by kernel_rfl) (by kernel_rfl) rfl rfl rfl (fun _ hs => hs) ?_
              refine tn 10 rfl (by kernel_rfl) (by kernel_rfl) (by kernel_rfl) rfl rfl rfl (fun _ hs => hs) ?_
              refine tn 11 rfl (by kernel_rfl) (by kernel_rfl) (by kernel_rfl) rfl rfl rfl (fun _ hs => hs) ?_
              refine tn 12 rfl (by kernel_rfl) (by kernel_rfl) (by kernel_rfl) rfl rfl rfl (fun _ hs => hs) ?_
              refine tk 13 rfl (by kernel_rfl) (by kernel_rfl) (by kernel_rfl) rfl (fun _ hs => hs) (rp rfl) ?_
              refine tE (by kernel_rfl) ?_
              refine x_then ?_
              refine D_weak [(3, v6), (5, (.pointer (some ⟨g17, 0, none⟩))), (14, u1), (15, (.int .i64 ((b.Reasons.length : Nat) : Int))), (16, (.int .i64 ((k : Nat) : Int))), (21, u13), (22, (.int .i64 ((r0.Out.length : Nat) : Int))), (23, (.int .i64 ((m : Nat) : Int))), (40, (.bool true))] ⟨rfl, rfl, rfl, rfl, rfl, rfl, rfl, rfl, rfl, trivial⟩ ?_
              refine C_t rfl ?_
              refine C_seq ?_
              refine C_reg ?_
              refine p1 rfl ?_
              refine D_end ?_
              refine x_then ?_
              refine C_ret ?_
              refine x_blk_ret ?_
              refine x_then_ret ?_
              refine x_then_ret ?_
              refine x_blk_ret ?_
              refine x_blk_ret ?_
              refine x_then_ret ?_
              refine x_then_ret ?_
              refine x_blk_ret ?_
              refine x_then_ret ?_
              refine D_mclose ?_
              refine R_1 rfl rfl fun w' hs => ⟨congrArg (fun z => Ending.returned (Value.bool z)) ?_, hs.bel⟩
              show (false : Bool) = isStrat b
              exact strat_bad hr0 hy0 (stY_eq (by assumption))
            · have pr24 : (y0 : Int) ≠ r0.For := ne_of_beq_false h24
              refine tk 5 rfl (by kernel_rfl) (by kernel_rfl) (by kernel_rfl) rfl (fun _ hs => hs) (rp rfl) ?_
              refine tk 6 rfl (by kernel_rfl) (by kernel_rfl) (by kernel_rfl) rfl (fun _ hs => hs) (rp rfl) ?_
              obtain ⟨r25, hh26⟩ := some_of_lt (l := hd22) (i := (y0.toNat)) (by omega)
              have hx27 : (mat b.Nodes.toNat (dep b))[(y0.toNat)]? = some (vec b.Nodes.toNat ((dep b) (y0.toNat))) := vec_get (by omega)
              refine tk 7 rfl (by kernel_rfl) (by kernel_rfl) (by kernel_rfl) rfl (fun _ hs => hs) (D_ix (l := (mat b.Nodes.toNat (dep b))) (j := (y0.toNat)) s_79 rfl rfl rfl (fun w' hs => (mx_rd (k := 0) hs rfl)) (Int.toNat_of_nonneg (by omega)).symm (lt_of_some hx27)) ?_
              refine tk 8 rfl (by kernel_rfl) (by kernel_rfl) (by kernel_rfl) rfl (fun _ hs => hs) (lmx 0 o_63 rfl rfl rfl hh26) ?_
              refine tk 9 rfl (by kernel_rfl) (by kernel_rfl) (by kernel_rfl) rfl (fun _ hs => hs) (D_fb f_31_0 rfl rfl (q := 0) rfl) ?_
              refine tk 10 rfl (by kernel_rfl) (by kernel_rfl) (by kernel_rfl) rfl (fun _ hs => hs) (lb 1 o_3 rfl rfl rfl rfl) ?_
              have hx29 : (vec b.Nodes.toNat ((dep b) (y0.toNat)))[(r0.For.toNat)]? = some (((dep b) (y0.toNat)) (r0.For.toNat)) := vec_get (by omega)
              refine tk 11 rfl (by kernel_rfl) (by kernel_rfl) (by kernel_rfl) rfl (fun _ hs => hs) (D_ix (l := (vec b.Nodes.toNat ((dep b) (y0.toNat)))) (j := (r0.For.toNat)) s_63 rfl rfl rfl (fun w' hs => (mx_row (k := 0) hs rfl hh26 hx27)) (Int.toNat_of_nonneg (by omega)).symm (lt_of_some hx29)) ?_
              refine tk 12 rfl (by kernel_rfl) (by kernel_rfl) (by kernel_rfl) rfl (fun _ hs => hs) (lrd (α := Bool) o_4 rfl rfl (fun w' hs => (mx_row (k := 0) hs rfl hh26 hx27)) hx29) ?_
              refine tk 13 rfl (by kernel_rfl) (by kernel_rfl) (by kernel_rfl) rfl (fun _ hs => hs) (rp rfl) ?_
              refine tE (by kernel_rfl) ?_
              refine x_then ?_
              refine D_weak [(3, v6), (5, (.pointer (some ⟨g17, 0, none⟩))), (14, u1), (15, (.int .i64 ((b.Reasons.length : Nat) : Int))), (16, (.int .i64 ((k : Nat) : Int))), (21, u13), (22, (.int .i64 ((r0.Out.length : Nat) : Int))), (23, (.int .i64 ((m : Nat) : Int))), (40, (.bool (((dep b) (y0.toNat)) (r0.For.toNat))))] ⟨rfl, rfl, rfl, rfl, rfl, rfl, rfl, rfl, rfl, trivial⟩ ?_
              refine C_if _ rfl (fun h30 => ?_) (fun h30 => ?_)
              · refine C_seq ?_
                refine C_reg ?_
                refine p1 rfl ?_
                refine D_end ?_
                refine x_then ?_
                refine C_ret ?_
                refine x_blk_ret ?_
                refine x_then_ret ?_
                refine x_then_ret ?_
                refine x_blk_ret ?_
                refine x_blk_ret ?_
                refine x_then_ret ?_
                refine x_then_ret ?_
                refine x_blk_ret ?_
                refine x_then_ret ?_
                refine D_mclose ?_
                refine R_1 rfl rfl fun w' hs => ⟨congrArg (fun z => Ending.returned (Value.bool z)) ?_, hs.bel⟩
                show (false : Bool) = isStrat b
                exact strat_bad hr0 hy0 (stY_dep (by assumption))
              · refine C_skip ?_
                refine x_blk ?_
                refine x_then ?_
                refine C_reg ?_
                refine q1 rfl (D_add rfl rfl rfl (r := ((m + 1 : Nat) : Int)) (by omega) (by omega)) ?_
                refine p1 rfl ?_
                refine D_end ?_
                refine x_then ?_
                refine D_mclose ?_
                refine fun ac w' hf hs => ⟨_, ?_, m + 1, ?_, ?_, rfl, hf.weak ⟨rfl, rfl, rfl, rfl, rfl, rfl, rfl, rfl, trivial⟩, hs.pk [1, 0, 2] rfl rfl⟩
                · omega
                · first | assumption | omega | simp
                · refine forall_step hi2 ?_; intro y hy; obtain rfl : y = y0 := Option.some.inj (hy.symm.trans hy0); exact stY_ok (by assumption) (by assumption)
          · have pr18 : ¬ (((m : Nat) : Int) : Int) < ((r0.Out.length : Nat) : Int) := of_decide_eq_false h18
            refine C_exit ?_
            refine x_then_exit ?_
            refine x_then_exit ?_
            refine x_blk_eq ?_
            refine x_blk ?_
            refine x_then ?_
            refine C_reg ?_
            refine q1 rfl (D_add rfl rfl rfl (r := ((k + 1 : Nat) : Int)) (by omega) (by omega)) ?_
            refine p1 rfl ?_
            refine D_end ?_
            refine x_then ?_
            refine fun ac w' hf hs => ⟨_, ?_, k + 1, ?_, ?_, rfl, hf.weak ⟨rfl, rfl, rfl, rfl, trivial⟩, hs.pk [1, 2] rfl rfl⟩
            · omega
            · first | assumption | omega | simp
            · refine forall_step hi ?_; intro r hr; obtain rfl : r = r0 := Option.some.inj (hr.symm.trans hr0); exact stR_ok (fun i h => hi2 i (by omega))
      · have pr7 : ¬ (((k : Nat) : Int) : Int) < ((b.Reasons.length : Nat) : Int) := of_decide_eq_false h7
        refine C_exit ?_
        refine x_then_exit ?_
        refine x_then_exit ?_
        refine x_blk_eq ?_
        refine x_then ?_
        refine C_seq ?_
        refine C_reg ?_
        refine p1 rfl ?_
        refine D_end ?_
        refine x_then ?_
        refine C_ret ?_
        refine R_1 rfl rfl fun w' hs => ⟨congrArg (fun z => Ending.returned (Value.bool z)) ?_, hs.bel⟩
        show (true : Bool) = isStrat b
        exact strat_ok (by assumption) (fun i h => hi i (by omega))

theorem spec_IsStratified (w : World) (c_b : List Value) (b : Beliefs) (h_b : Gd.rd w c_b b) : Calls Try.prog 45 [(.agg c_b.toArray)].toArray w (Val w (.bool (isStrat b))) := by
  obtain ⟨u1, rfl, hu2⟩ := open_Beliefs h_b
  have hm3 := rd_max hu2
  refine enter 54 Try.func45 rfl rfl rfl ?_
  refine C_seq ?_
  refine C_reg ?_
  refine li rfl (D_box rfl rfl rfl rfl rfl fun g4 => ?_)
  refine p1 rfl ?_
  refine D_end ?_
  refine x_then ?_
  refine D_H ([bx g4 [(.int .i64 b.Nodes), u1]]) rfl ?_
  refine C_seq ?_
  refine C_seq ?_
  refine C_reg ?_
  refine q1 rfl (lbw 0 a_26 rfl rfl rfl) ?_
  refine li rfl (cv b_62 rfl rfl rfl rfl (fun w' hs => (spec_IsBeliefs w' [(.int .i64 b.Nodes), u1] b (rd_at hs h_b))) ?_)
  refine p1 rfl ?_
  refine D_end ?_
  refine x_then ?_
  refine C_if _ rfl (fun h5 => ?_) (fun h5 => ?_)
  · have h5n : (isBeliefs b) = false := not_t h5
    refine C_seq ?_
    refine C_reg ?_
    refine p1 rfl ?_
    refine D_end ?_
    refine x_then ?_
    refine C_ret ?_
    refine x_then_ret ?_
    refine R_1 rfl rfl fun w' hs => ⟨congrArg (fun z => Ending.returned (Value.bool z)) ?_, hs.bel⟩
    show (false : Bool) = isStrat b
    exact strat_nb h5n
  · have h5n : (isBeliefs b) = true := not_f h5
    refine C_skip ?_
    refine x_then ?_
    refine C_seq ?_
    refine C_seq ?_
    refine C_reg ?_
    refine p1 rfl ?_
    refine D_end ?_
    refine x_then ?_
    refine C_block ?_
    refine C_loop (fun m_ ac w' => ∃ (k : Nat), (k ≤ b.Reasons.length) ∧ (∀ i, i < k → ∀ r, b.Reasons[i]? = some r → stR b r = true) ∧ m_ = b.Reasons.length - k ∧ Fits ac 54 [(1, (.pointer (some ⟨g4, 0, none⟩))), (3, (.int .i64 ((k : Nat) : Int)))] ∧ St w ([bx g4 [(.int .i64 b.Nodes), u1]]) w') ?_ ?_
    · refine fun ac w' hf hs => ⟨_, 0, ?_, ?_, rfl, hf.weak ⟨rfl, rfl, trivial⟩, hs⟩
      · first | assumption | omega | simp
      · intro i hi; omega
    · rintro m_ ac w' ⟨k, hk, hi, rfl, hf, hs⟩
      refine D.use ?_ hf hs
      clear hf hs ac w'
      refine C_seq ?_
      refine C_seq ?_
      refine C_reg ?_
      refine p1 rfl ?_
      refine q1 rfl (D_fb f_26_1 rfl rfl (q := 1) rfl) ?_
      refine q1 rfl (lb 0 o_24 rfl rfl rfl rfl) ?_
      refine q1 rfl (D_len s_24 rfl rfl (rd_sl hu2)) ?_
      refine p1 rfl ?_
      refine D_end ?_
      refine x_then ?_
      refine C_if _ rfl (fun h6 => ?_) (fun h6 => ?_)
      · have pr6 : (((k : Nat) : Int) : Int) < ((b.Reasons.length : Nat) : Int) := of_decide_eq_true h6
        refine C_skip ?_
        refine x_then ?_
        refine C_seq ?_
        refine C_block ?_
        refine C_seq ?_
        refine C_reg ?_
        refine q1 rfl (D_fb f_26_1 rfl rfl (q := 1) rfl) ?_
        refine q1 rfl (lb 0 o_24 rfl rfl rfl rfl) ?_
        refine p1 rfl ?_
        obtain ⟨r0, hr0⟩ := some_of_lt (l := b.Reasons) (i := k) (by omega)
        have hv0 := isB_r (by assumption) hr0
        have hF := isR_for hv0
        obtain ⟨es7, at8, hr9⟩ := rd_elem (n := 3) rfl hu2 hr0
        obtain ⟨u10, u12, rfl, hu11, hu13⟩ := open_Reason hr9
        have hm14 := rd_max hu11
        have hm15 := rd_max hu13
        refine q1 rfl (D_ix (l := b.Reasons) (j := k) s_24 rfl rfl rfl (fun w' hs => (rd_at hs hu2)) rfl (lt_of_some hr0)) ?_
        refine q1 rfl (D_fa f_31_0 rfl rfl) ?_
        refine q1 rfl (lr o_3 rfl rfl at8 rfl) ?_
        refine p1 rfl ?_
        refine D_end ?_
        refine x_then ?_
        refine C_seq ?_
        refine C_reg ?_
        refine p1 rfl ?_
        refine D_end ?_
        refine x_then ?_
        refine C_block ?_
        refine C_loop (fun m_ ac w' => ∃ (m : Nat), (m ≤ r0.Out.length) ∧ (∀ i, i < m → ∀ y, r0.Out[i]? = some y → stY b r0 y = true) ∧ m_ = r0.Out.length - m ∧ Fits ac 54 [(1, (.pointer (some ⟨g4, 0, none⟩))), (3, (.int .i64 ((k : Nat) : Int))), (4, (.int .i64 r0.For)), (5, (.int .i64 ((m : Nat) : Int)))] ∧ St w ([bx g4 [(.int .i64 b.Nodes), u1]]) w') ?_ ?_
        · refine fun ac w' hf hs => ⟨_, 0, ?_, ?_, rfl, hf.weak ⟨rfl, rfl, rfl, rfl, trivial⟩, hs⟩
          · first | assumption | omega | simp
          · intro i hi; omega
        · rintro m_ ac w' ⟨m, hm, hi2, rfl, hf, hs⟩
          refine D.use ?_ hf hs
          clear hf hs ac w'
          refine C_seq ?_
          refine C_seq ?_
          refine C_reg ?_
          refine p1 rfl ?_
          refine q1 rfl (D_fb f_26_1 rfl rfl (q := 1) rfl) ?_
          refine q1 rfl (lb 0 o_24 rfl rfl rfl rfl) ?_
          refine p1 rfl ?_
          refine q1 rfl (D_ix (l := b.Reasons) (j := k) s_24 rfl rfl rfl (fun w' hs => (rd_at hs hu2)) rfl (lt_of_some hr0)) ?_
          refine q1 rfl (D_fa f_31_2 rfl rfl) ?_
          refine q1 rfl (lr o_27 rfl rfl at8 rfl) ?_
          refine q1 rfl (D_len s_27 rfl rfl (rd_sl hu13)) ?_
          refine p1 rfl ?_
          refine D_end ?_
          refine x_then ?_
          refine C_if _ rfl (fun h16 => ?_) (fun h16 => ?_)
          · have pr16 : (((m : Nat) : Int) : Int) < ((r0.Out.length : Nat) : Int) := of_decide_eq_true h16
            refine C_skip ?_
            refine x_then ?_
            refine C_seq ?_
            refine C_block ?_
            refine C_seq ?_
            refine C_reg ?_
            refine q1 rfl (D_fb f_26_1 rfl rfl (q := 1) rfl) ?_
            refine q1 rfl (lb 0 o_24 rfl rfl rfl rfl) ?_
            refine p1 rfl ?_
            refine q1 rfl (D_ix (l := b.Reasons) (j := k) s_24 rfl rfl rfl (fun w' hs => (rd_at hs hu2)) rfl (lt_of_some hr0)) ?_
            refine q1 rfl (D_fa f_31_2 rfl rfl) ?_
            refine q1 rfl (lr o_27 rfl rfl at8 rfl) ?_
            refine p1 rfl ?_
            obtain ⟨y0, hy0⟩ := some_of_lt (l := r0.Out) (i := m) (by omega)
            have hyn := asc_at (isR_out hv0) hy0
            obtain ⟨es17, at18, hr19⟩ := rd_elem (n := 1) rfl hu13 hy0
            obtain rfl : es17 = [.int .i64 y0] := hr19
            refine q1 rfl (D_ix (l := r0.Out) (j := m) s_27 rfl rfl rfl (fun w' hs => (rd_at hs hu13)) rfl (lt_of_some hy0)) ?_
            refine q1 rfl (lr0 o_3 rfl rfl at18 rfl) ?_
            refine p1 rfl ?_
            refine D_end ?_
            refine x_then ?_
            refine D_weak [(1, (.pointer (some ⟨g4, 0, none⟩))), (3, (.int .i64 ((k : Nat) : Int))), (4, (.int .i64 r0.For)), (5, (.int .i64 ((m : Nat) : Int))), (6, (.int .i64 y0))] ⟨rfl, rfl, rfl, rfl, rfl, trivial⟩ ?_
            refine C_seq ?_
            refine C_reg ?_
            refine p1 rfl <| p1 rfl <| p1 rfl <| p1 rfl ?_
            refine gs 46 rfl rfl (fun h20 => ?_) (fun h20 => ?_)
            · have pr20 : (y0 : Int) = r0.For := eq_of_beq h20
              refine n1 rfl ?_
              refine n1 rfl ?_
              refine n1 rfl ?_
              refine n1 rfl ?_
              refine n1 rfl ?_
              refine n1 rfl ?_
              refine p1 rfl ?_
              refine D_end ?_
              refine x_then ?_
              refine C_t rfl ?_
              refine C_seq ?_
              refine C_reg ?_
              refine p1 rfl ?_
              refine D_end ?_
              refine x_then ?_
              refine D_weak [(2, (.bool false))] ⟨rfl, trivial⟩ ?_
              refine C_ret ?_
              refine x_blk_ret ?_
              refine x_then_ret ?_
              refine x_then_ret ?_
              refine x_blk_ret ?_
              refine x_blk_ret ?_
              refine x_then_ret ?_
              refine x_then_ret ?_
              refine x_blk_ret ?_
              refine x_then_ret ?_
              refine R_1 rfl rfl fun w' hs => ⟨congrArg (fun z => Ending.returned (Value.bool z)) ?_, hs.bel⟩
              show (false : Bool) = isStrat b
              exact strat_bad hr0 hy0 (stY_eq (by assumption))
            · have pr20 : (y0 : Int) ≠ r0.For := ne_of_beq_false h20
              refine q1 rfl (lbw 0 a_26 rfl rfl rfl) ?_
              refine p1 rfl ?_
              refine li rfl (crl b_63 rfl rfl rfl rfl (fun w' hs => (spec_l11Reach w' [(.int .i64 b.Nodes), u1] b y0 (rd_at hs h_b) (by first | assumption | omega | (unfold szm at *; split at * <;> omega)) (by first | assumption | omega | (unfold szm at *; split at * <;> omega)) (by first | assumption | omega | (unfold szm at *; split at * <;> omega)))) fun v21 => ?_)
              refine p1 rfl ?_
              have hx23 : (vec b.Nodes.toNat (dep b y0.toNat))[(r0.For.toNat)]? = some ((dep b y0.toNat) (r0.For.toNat)) := vec_get (by omega)
              refine q1 rfl (D_ix (l := (vec b.Nodes.toNat (dep b y0.toNat))) (j := (r0.For.toNat)) s_63 rfl rfl rfl (fun w' hs => (rd_own (k := 0) hs rfl)) (Int.toNat_of_nonneg (by omega)).symm (lt_of_some hx23)) ?_
              refine q1 rfl (lo (α := Bool) 0 o_4 rfl rfl rfl hx23) ?_
              refine p1 rfl ?_
              refine D_end ?_
              refine x_then ?_
              refine D_H ([ov [v21] (vec b.Nodes.toNat (dep b y0.toNat) : (List Bool)), bx g4 [(.int .i64 b.Nodes), u1]]) rfl ?_
              refine C_if _ rfl (fun h24 => ?_) (fun h24 => ?_)
              · refine C_seq ?_
                refine C_reg ?_
                refine p1 rfl ?_
                refine D_end ?_
                refine x_then ?_
                refine D_weak [(2, (.bool false))] ⟨rfl, trivial⟩ ?_
                refine D_sel (H' := [bx g4 [(.int .i64 b.Nodes), u1]]) [false, true] rfl ?_
                refine C_ret ?_
                refine x_blk_ret ?_
                refine x_then_ret ?_
                refine x_then_ret ?_
                refine x_blk_ret ?_
                refine x_blk_ret ?_
                refine x_then_ret ?_
                refine x_then_ret ?_
                refine x_blk_ret ?_
                refine x_then_ret ?_
                refine R_1 rfl rfl fun w' hs => ⟨congrArg (fun z => Ending.returned (Value.bool z)) ?_, hs.bel⟩
                show (false : Bool) = isStrat b
                exact strat_bad hr0 hy0 (stY_dep (by assumption))
              · refine C_skip ?_
                refine x_blk ?_
                refine x_then ?_
                refine C_reg ?_
                refine p1 rfl ?_
                refine q1 rfl (D_add rfl rfl rfl (r := ((m + 1 : Nat) : Int)) (by omega) (by omega)) ?_
                refine p1 rfl ?_
                refine D_end ?_
                refine x_then ?_
                refine fun ac w' hf hs => ⟨_, ?_, m + 1, ?_, ?_, rfl, hf.weak ⟨rfl, rfl, rfl, rfl, trivial⟩, hs.pk [1] rfl rfl⟩
                · omega
                · first | assumption | omega | simp
                · refine forall_step hi2 ?_; intro y hy; obtain rfl : y = y0 := Option.some.inj (hy.symm.trans hy0); exact stY_ok (by assumption) (by assumption)
          · have pr16 : ¬ (((m : Nat) : Int) : Int) < ((r0.Out.length : Nat) : Int) := of_decide_eq_false h16
            refine C_exit ?_
            refine x_then_exit ?_
            refine x_then_exit ?_
            refine x_blk_eq ?_
            refine x_blk ?_
            refine x_then ?_
            refine C_reg ?_
            refine p1 rfl ?_
            refine q1 rfl (D_add rfl rfl rfl (r := ((k + 1 : Nat) : Int)) (by omega) (by omega)) ?_
            refine p1 rfl ?_
            refine D_end ?_
            refine x_then ?_
            refine fun ac w' hf hs => ⟨_, ?_, k + 1, ?_, ?_, rfl, hf.weak ⟨rfl, rfl, trivial⟩, hs⟩
            · omega
            · first | assumption | omega | simp
            · refine forall_step hi ?_; intro r hr; obtain rfl : r = r0 := Option.some.inj (hr.symm.trans hr0); exact stR_ok (fun i h => hi2 i (by omega))
      · have pr6 : ¬ (((k : Nat) : Int) : Int) < ((b.Reasons.length : Nat) : Int) := of_decide_eq_false h6
        refine C_exit ?_
        refine x_then_exit ?_
        refine x_then_exit ?_
        refine x_blk_eq ?_
        refine x_then ?_
        refine C_seq ?_
        refine C_reg ?_
        refine p1 rfl ?_
        refine D_end ?_
        refine x_then ?_
        refine C_ret ?_
        refine R_1 rfl rfl fun w' hs => ⟨congrArg (fun z => Ending.returned (Value.bool z)) ?_, hs.bel⟩
        show (true : Bool) = isStrat b
        exact strat_ok (by assumption) (fun i h => hi i (by omega))

theorem impl_IsCase (w : World) (c_b : List Value) (b : Beliefs) (v_bad : Value) (bad : (List Int)) (v_free : Value) (free : (List Int)) (h_b : Gd.rd w c_b b) (h_bad : Gd.rd w [v_bad] bad) (h_free : Gd.rd w [v_free] free) : Calls Try.prog 18 [(.agg c_b.toArray), v_bad, v_free].toArray w (Val w (.bool (isCase b bad free))) := by
  obtain ⟨u1, rfl, hu2⟩ := open_Beliefs h_b
  have hm3 := rd_max hu2
  have hm4 := rd_max h_bad
  have hm5 := rd_max h_free
  refine enter 46 Try.func18 rfl rfl rfl ?_
  refine C_seq ?_
  refine C_reg ?_
  refine li rfl (D_box rfl rfl rfl rfl rfl fun g6 => ?_)
  refine p1 rfl ?_
  refine D_end ?_
  refine x_then ?_
  refine D_H ([bx g6 [(.int .i64 b.Nodes), u1]]) rfl ?_
  refine C_seq ?_
  refine C_seq ?_
  refine C_reg ?_
  refine q1 rfl (lbw 0 a_26 rfl rfl rfl) ?_
  refine li rfl (cv b_36 rfl rfl rfl rfl (fun w' hs => (impl_IsStratified w' [(.int .i64 b.Nodes), u1] b (rd_at hs h_b))) ?_)
  refine p1 rfl <| p1 rfl ?_
  refine gs 12 rfl rfl (fun h7 => ?_) (fun h7 => ?_)
  · have h7n : (isStrat b) = false := not_t h7
    refine n1 rfl ?_
    refine n1 rfl ?_
    refine n1 rfl ?_
    refine n1 rfl ?_
    refine n1 rfl ?_
    refine p1 rfl <| p1 rfl ?_
    refine n1 rfl ?_
    refine n1 rfl ?_
    refine n1 rfl ?_
    refine p1 rfl <| p1 rfl ?_
    refine n1 rfl ?_
    refine n1 rfl ?_
    refine n1 rfl ?_
    refine n1 rfl ?_
    refine n1 rfl ?_
    refine n1 rfl ?_
    refine p1 rfl ?_
    refine D_end ?_
    refine x_then ?_
    refine D_weak [(2, v_free), (3, (.pointer (some ⟨g6, 0, none⟩))), (31, (.bool true))] ⟨rfl, rfl, rfl, trivial⟩ ?_
    refine C_t rfl ?_
    refine C_seq ?_
    refine C_reg ?_
    refine p1 rfl ?_
    refine D_end ?_
    refine x_then ?_
    refine C_ret ?_
    refine x_then_ret ?_
    refine R_1 rfl rfl fun w' hs => ⟨congrArg (fun z => Ending.returned (Value.bool z)) ?_, hs.bel⟩
    show (false : Bool) = isCase b bad free
    first | exact case_n1 (by assumption) | exact case_n2 (by assumption) | exact case_n4 (by assumption) | exact case_n3 (by omega) | exact case_n5 hk0 hr0 h7n | exact case_y (by assumption) (by assumption) (by omega) (by assumption) (fun i h => hi i (by omega))
  · have h7n : (isStrat b) = true := not_f h7
    refine p1 rfl ?_
    refine q1 rfl (D_fb f_26_0 rfl rfl (q := 0) rfl) ?_
    refine q1 rfl (lb 0 o_3 rfl rfl rfl rfl) ?_
    refine li rfl (cv b_37 rfl rfl rfl rfl (fun w' hs => (impl_ascendingNodes w' v_bad bad b.Nodes (rd_at hs h_bad))) ?_)
    refine p1 rfl <| p1 rfl <| p1 rfl ?_
    refine gs 19 rfl rfl (fun h8 => ?_) (fun h8 => ?_)
    · have h8n : (asc bad b.Nodes) = false := not_t h8
      refine n1 rfl ?_
      refine n1 rfl ?_
      refine n1 rfl ?_
      refine p1 rfl <| p1 rfl ?_
      refine n1 rfl ?_
      refine n1 rfl ?_
      refine n1 rfl ?_
      refine n1 rfl ?_
      refine n1 rfl ?_
      refine n1 rfl ?_
      refine p1 rfl ?_
      refine D_end ?_
      refine x_then ?_
      refine D_weak [(2, v_free), (3, (.pointer (some ⟨g6, 0, none⟩))), (31, (.bool true))] ⟨rfl, rfl, rfl, trivial⟩ ?_
      refine C_t rfl ?_
      refine C_seq ?_
      refine C_reg ?_
      refine p1 rfl ?_
      refine D_end ?_
      refine x_then ?_
      refine C_ret ?_
      refine x_then_ret ?_
      refine R_1 rfl rfl fun w' hs => ⟨congrArg (fun z => Ending.returned (Value.bool z)) ?_, hs.bel⟩
      show (false : Bool) = isCase b bad free
      first | exact case_n1 (by assumption) | exact case_n2 (by assumption) | exact case_n4 (by assumption) | exact case_n3 (by omega) | exact case_n5 hk0 hr0 h8n | exact case_y (by assumption) (by assumption) (by omega) (by assumption) (fun i h => hi i (by omega))
    · have h8n : (asc bad b.Nodes) = true := not_f h8
      refine p1 rfl ?_
      refine q1 rfl (D_len s_27 rfl rfl (rd_sl h_free)) ?_
      refine p1 rfl <| p1 rfl <| p1 rfl ?_
      refine gs 24 rfl rfl (fun h9 => ?_) (fun h9 => ?_)
      · have pr9 : (8 : Int) < ((free.length : Nat) : Int) := of_decide_eq_true h9
        refine n1 rfl ?_
        refine n1 rfl ?_
        refine n1 rfl ?_
        refine n1 rfl ?_
        refine n1 rfl ?_
        refine n1 rfl ?_
        refine p1 rfl ?_
        refine D_end ?_
        refine x_then ?_
        refine D_weak [(2, v_free), (3, (.pointer (some ⟨g6, 0, none⟩))), (31, (.bool true))] ⟨rfl, rfl, rfl, trivial⟩ ?_
        refine C_t rfl ?_
        refine C_seq ?_
        refine C_reg ?_
        refine p1 rfl ?_
        refine D_end ?_
        refine x_then ?_
        refine C_ret ?_
        refine x_then_ret ?_
        refine R_1 rfl rfl fun w' hs => ⟨congrArg (fun z => Ending.returned (Value.bool z)) ?_, hs.bel⟩
        show (false : Bool) = isCase b bad free
        first | exact case_n1 (by assumption) | exact case_n2 (by assumption) | exact case_n4 (by assumption) | exact case_n3 (by omega) | exact case_n5 hk0 hr0 h9n | exact case_y (by assumption) (by assumption) (by omega) (by assumption) (fun i h => hi i (by omega))
      · have pr9 : ¬ (8 : Int) < ((free.length : Nat) : Int) := of_decide_eq_false h9
        refine p1 rfl ?_
        refine q1 rfl (D_fb f_26_1 rfl rfl (q := 1) rfl) ?_
        refine q1 rfl (lb 0 o_24 rfl rfl rfl rfl) ?_
        refine q1 rfl (D_len s_24 rfl rfl (rd_sl hu2)) ?_
        refine li rfl (cv b_37 rfl rfl rfl rfl (fun w' hs => (impl_ascendingNodes w' v_free free ((b.Reasons.length : Nat) : Int) (rd_at hs h_free))) ?_)
        refine p1 rfl <| p1 rfl ?_
        refine D_end ?_
        refine x_then ?_
        refine D_weak [(2, v_free), (3, (.pointer (some ⟨g6, 0, none⟩))), (31, (.bool (!(asc free ((b.Reasons.length : Nat) : Int)))))] ⟨rfl, rfl, rfl, trivial⟩ ?_
        refine C_if _ rfl (fun h10 => ?_) (fun h10 => ?_)
        · have h10n : (asc free ((b.Reasons.length : Nat) : Int)) = false := not_t h10
          refine C_seq ?_
          refine C_reg ?_
          refine p1 rfl ?_
          refine D_end ?_
          refine x_then ?_
          refine C_ret ?_
          refine x_then_ret ?_
          refine R_1 rfl rfl fun w' hs => ⟨congrArg (fun z => Ending.returned (Value.bool z)) ?_, hs.bel⟩
          show (false : Bool) = isCase b bad free
          first | exact case_n1 (by assumption) | exact case_n2 (by assumption) | exact case_n4 (by assumption) | exact case_n3 (by omega) | exact case_n5 hk0 hr0 h10n | exact case_y (by assumption) (by assumption) (by omega) (by assumption) (fun i h => hi i (by omega))
        · have h10n : (asc free ((b.Reasons.length : Nat) : Int)) = true := not_f h10
          refine C_skip ?_
          refine x_then ?_
          refine C_seq ?_
          refine C_seq ?_
          refine C_reg ?_
          refine p1 rfl ?_
          refine q1 rfl (D_len s_27 rfl rfl (rd_sl h_free)) ?_
          refine p1 rfl ?_
          refine D_end ?_
          refine x_then ?_
          refine C_block ?_
          refine C_loop (fun m_ ac w' => ∃ (k : Nat), (k ≤ free.length) ∧ (∀ i, i < k → ∀ x, free[i]? = some x → premAt b x = true) ∧ m_ = free.length - k ∧ Fits ac 46 [(3, (.pointer (some ⟨g6, 0, none⟩))), (32, v_free), (33, (.int .i64 ((free.length : Nat) : Int))), (34, (.int .i64 ((k : Nat) : Int)))] ∧ St w ([bx g6 [(.int .i64 b.Nodes), u1]]) w') ?_ ?_
          · refine fun ac w' hf hs => ⟨_, 0, ?_, ?_, rfl, hf.weak ⟨rfl, rfl, rfl, rfl, trivial⟩, hs⟩
            · first | assumption | omega | simp
            · intro i hi; omega
          · rintro m_ ac w' ⟨k, hk, hi, rfl, hf, hs⟩
            refine D.use ?_ hf hs
            clear hf hs ac w'
            refine C_seq ?_
            refine C_reg ?_
            refine p1 rfl ?_
            refine D_end ?_
            refine x_then ?_
            refine C_seq ?_
            refine C_if _ rfl (fun h11 => ?_) (fun h11 => ?_)
            · have pr11 : (((k : Nat) : Int) : Int) < ((free.length : Nat) : Int) := of_decide_eq_true h11
              refine C_skip ?_
              refine x_then ?_
              refine C_seq ?_
              refine C_block ?_
              refine C_seq ?_
              refine C_reg ?_
              obtain ⟨k0, hk0⟩ := some_of_lt (l := free) (i := k) (by omega)
              have hkn := asc_at (l := free) (by assumption) hk0
              obtain ⟨es12, at13, hr14⟩ := rd_elem (n := 1) rfl h_free hk0
              obtain rfl : es12 = [.int .i64 k0] := hr14
              refine q1 rfl (D_ix (l := free) (j := k) s_27 rfl rfl rfl (fun w' hs => (rd_at hs h_free)) rfl (lt_of_some hk0)) ?_
              refine q1 rfl (lr0 o_3 rfl rfl at13 rfl) ?_
              refine p1 rfl ?_
              refine D_end ?_
              refine x_then ?_
              refine C_seq ?_
              refine C_reg ?_
              refine q1 rfl (D_fb f_26_1 rfl rfl (q := 1) rfl) ?_
              refine q1 rfl (lb 0 o_24 rfl rfl rfl rfl) ?_
              refine p1 rfl ?_
              obtain ⟨r0, hr0⟩ := some_of_lt (l := b.Reasons) (i := (k0.toNat)) (by omega)
              obtain ⟨es15, at16, hr17⟩ := rd_elem (n := 3) rfl hu2 hr0
              obtain ⟨u18, u20, rfl, hu19, hu21⟩ := open_Reason hr17
              have hm22 := rd_max hu19
              have hm23 := rd_max hu21
              refine q1 rfl (D_ix (l := b.Reasons) (j := (k0.toNat)) s_24 rfl rfl rfl (fun w' hs => (rd_at hs hu2)) (Int.toNat_of_nonneg (by omega)).symm (lt_of_some hr0)) ?_
              refine q1 rfl (lra a_31 rfl rfl at16) ?_
              refine li rfl (cv b_38 rfl rfl rfl rfl (fun w' hs => (impl_IsPremise w' [(.int .i64 r0.For), u18, u20] r0 (rd_at hs hr17))) ?_)
              refine p1 rfl ?_
              refine D_end ?_
              refine x_then ?_
              refine C_if _ rfl (fun h24 => ?_) (fun h24 => ?_)
              · have h24n : (isPremise r0) = false := not_t h24
                refine C_seq ?_
                refine C_reg ?_
                refine p1 rfl ?_
                refine D_end ?_
                refine x_then ?_
                refine D_weak [(6, (.bool false))] ⟨rfl, trivial⟩ ?_
                refine C_ret ?_
                refine x_blk_ret ?_
                refine x_then_ret ?_
                refine x_then_ret ?_
                refine x_blk_ret ?_
                refine x_then_ret ?_
                refine R_1 rfl rfl fun w' hs => ⟨congrArg (fun z => Ending.returned (Value.bool z)) ?_, hs.bel⟩
                show (false : Bool) = isCase b bad free
                first | exact case_n1 (by assumption) | exact case_n2 (by assumption) | exact case_n4 (by assumption) | exact case_n3 (by omega) | exact case_n5 hk0 hr0 h24n | exact case_y (by assumption) (by assumption) (by omega) (by assumption) (fun i h => hi i (by omega))
              · have h24n : (isPremise r0) = true := not_f h24
                refine C_skip ?_
                refine x_blk ?_
                refine x_then ?_
                refine C_reg ?_
                refine q1 rfl (D_add rfl rfl rfl (r := ((k + 1 : Nat) : Int)) (by omega) (by omega)) ?_
                refine p1 rfl ?_
                refine D_end ?_
                refine x_then ?_
                refine fun ac w' hf hs => ⟨_, ?_, k + 1, ?_, ?_, rfl, hf.weak ⟨rfl, rfl, rfl, rfl, trivial⟩, hs⟩
                · omega
                · first | assumption | omega | simp
                · refine forall_step hi ?_; intro x hx; obtain rfl : x = k0 := Option.some.inj (hx.symm.trans hk0); rw [premAt_of hr0]; exact h24n
            · have pr11 : ¬ (((k : Nat) : Int) : Int) < ((free.length : Nat) : Int) := of_decide_eq_false h11
              refine C_exit ?_
              refine x_then_exit ?_
              refine x_then_exit ?_
              refine x_blk_eq ?_
              refine x_then ?_
              refine C_seq ?_
              refine C_reg ?_
              refine p1 rfl ?_
              refine D_end ?_
              refine x_then ?_
              refine C_ret ?_
              refine R_1 rfl rfl fun w' hs => ⟨congrArg (fun z => Ending.returned (Value.bool z)) ?_, hs.bel⟩
              show (true : Bool) = isCase b bad free
              first | exact case_n1 (by assumption) | exact case_n2 (by assumption) | exact case_n4 (by assumption) | exact case_n3 (by omega) | exact case_n5 hk0 hr0 h11n | exact case_y (by assumption) (by assumption) (by omega) (by assumption) (fun i h => hi i (by omega))
end Go.Sy.Bel4
