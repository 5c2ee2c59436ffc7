/-
  Contracts of functions of the program, walked (printed by a program of ours).
  Conditions: those that each theorem states.
-/
import Derived.Test.YteahhonfcloabaaBel5
import Derived.Test.YteahhonfcloabaaGraph
set_option linter.unusedVariables false
set_option maxRecDepth 20000
namespace Go.Sy.Bel6
open Go Go.RowKit Go.Proofs Go.Sy
theorem mixed : Try.prog.follows .mixedOrders = true := by kernel_rfl
theorem f_30_0 : fieldOff Try.prog 30 0 = some 0 := by kernel_rfl
theorem o_3 : oneTy Try.prog 3 = true := by kernel_rfl
theorem s_25 : sliceTy Try.prog 25 = some (3, 1, 8) := by kernel_rfl
theorem y_3 : zeroTy Try.prog 3 = some (.int .i64 0) := by kernel_rfl
theorem f_30_1 : fieldOff Try.prog 30 1 = some 1 := by kernel_rfl
theorem o_28 : oneTy Try.prog 28 = true := by kernel_rfl
theorem s_28 : sliceTy Try.prog 28 = some (67, 3, 56) := by kernel_rfl
theorem a_67 : aggTy Try.prog 67 = some 3 := by kernel_rfl
theorem y_67 : zeroTy Try.prog 67 = some (.agg #[(.int .i64 0), (.slice none 0 0), (.slice none 0 0)]) := by kernel_rfl
theorem z_67 : sizeTy Try.prog 67 = some 3 := by kernel_rfl
theorem f_67_0 : fieldOff Try.prog 67 0 = some 0 := by kernel_rfl
theorem f_67_1 : fieldOff Try.prog 67 1 = some 1 := by kernel_rfl
theorem o_25 : oneTy Try.prog 25 = true := by kernel_rfl
theorem f_67_2 : fieldOff Try.prog 67 2 = some 2 := by kernel_rfl
theorem z_3 : sizeTy Try.prog 3 = some 1 := by kernel_rfl
theorem a_30 : aggTy Try.prog 30 = some 2 := by kernel_rfl
theorem b_64 : hasBody Try.prog 64 = true := by kernel_rfl
open Go.Sy.Bel1 Go.Sy.Bel2 Go.Sy.Bel3 Go.Sy.Bel4 Go.Sy.Bel5
set_option maxHeartbeats 4000000 in
theorem impl_strata (w : World) (c_b : List Value) (b : Beliefs) (h_b : Gd.rd w c_b b) (ho : okB b = true) (hsol : HasSol b) : Calls Try.prog 83 [(.agg c_b.toArray)].toArray w (Res w (vec b.Nodes.toNat (strat b) : List Int)) := by
  obtain ⟨u1, rfl, hu2⟩ := open_Beliefs h_b
  have hm3 := rd_max hu2
  have hbn := okB_nodes ho
  obtain ⟨n, hn⟩ : ∃ n : Nat, b.Nodes = (n : Int) := ⟨b.Nodes.toNat, by omega⟩
  refine enter 71 Try.func83 rfl rfl rfl ?_
  refine C_seq ?_
  refine C_reg ?_
  refine li rfl (D_box rfl rfl rfl rfl rfl fun g4 => ?_)
  refine p1 rfl ?_
  refine D_end ?_
  refine x_then ?_
  refine D_H ([bx g4 [(.int .i64 b.Nodes), u1]]) rfl ?_
  refine C_seq ?_
  refine C_reg ?_
  refine q1 rfl (D_fb f_30_0 rfl rfl (q := 0) rfl) ?_
  refine q1 rfl (lb 0 o_3 rfl rfl rfl rfl) ?_
  refine li rfl (D_mk (α := Int) (z := 0) s_25 y_3 rfl (congrArg (fun z => some (Value.int .i64 z)) hn) rfl rfl (by omega) (by omega) fun v5 => ?_)
  refine D_eq 0 rfl (vec_rep _ _) ?_
  refine p1 rfl ?_
  refine D_end ?_
  refine x_then ?_
  refine D_H ([ov [v5] (vec n (fun _ => 0) : (List Int)), bx g4 [(.int .i64 b.Nodes), u1]]) rfl ?_
  refine C_seq ?_
  refine C_seq ?_
  refine C_reg ?_
  refine p1 rfl ?_
  refine D_end ?_
  refine x_then ?_
  refine C_block ?_
  refine C_loop (fun m_ ac w' => ∃ (more : Bool), ∃ (ga : Nat → Int), (StG b ga) ∧ (more = false → Sol b ga) ∧ m_ = 2 * gap n (strat b) ga + (if more then 1 else 0) ∧ Fits ac 71 [(1, (.pointer (some ⟨g4, 0, none⟩))), (3, v5), (4, (.bool more))] ∧ St w ([ov [v5] (vec n ga : (List Int)), bx g4 [(.int .i64 b.Nodes), u1]]) w') ?_ ?_
  · refine fun ac w' hf hs => ⟨_, true, (fun _ => 0), ?_, ?_, rfl, hf.weak ⟨rfl, rfl, rfl, trivial⟩, hs⟩
    · exact StG.zero b
    · intro e; cases e
  · rintro m_ ac w' ⟨more, ga, hG, hC, rfl, hf, hs⟩
    refine D.use ?_ hf hs
    clear hf hs ac w'
    refine C_seq ?_
    refine C_seq ?_
    refine C_reg ?_
    refine p1 rfl ?_
    refine D_end ?_
    refine x_then ?_
    refine D_H ([ov [v5] (vec n ga : (List Int)), bx g4 [(.int .i64 b.Nodes), u1]]) rfl ?_
    refine C_if _ rfl (fun h6 => ?_) (fun h6 => ?_)
    · refine C_skip ?_
      refine x_then ?_
      refine C_block ?_
      refine C_seq ?_
      refine C_reg ?_
      refine p1 rfl ?_
      refine D_end ?_
      refine x_then ?_
      refine C_seq ?_
      refine C_reg ?_
      refine q1 rfl (D_fb f_30_1 rfl rfl (q := 1) rfl) ?_
      refine q1 rfl (lb 1 o_28 rfl rfl rfl rfl) ?_
      refine q1 rfl (D_len s_28 rfl rfl (rd_sl hu2)) ?_
      refine p1 rfl ?_
      refine D_end ?_
      refine x_then ?_
      refine C_block ?_
      refine C_loop (fun m_ ac w' => ∃ (k : Nat), ∃ (more2 : Bool), ∃ (gb : Nat → Int), (k ≤ b.Reasons.length) ∧ (StG b gb) ∧ (PassE b ga gb more2 k n) ∧ m_ = b.Reasons.length - k ∧ Fits ac 71 [(1, (.pointer (some ⟨g4, 0, none⟩))), (3, v5), (4, (.bool more2)), (17, u1), (18, (.int .i64 ((b.Reasons.length : Nat) : Int))), (19, (.int .i64 ((k : Nat) : Int)))] ∧ St w ([ov [v5] (vec n gb : (List Int)), bx g4 [(.int .i64 b.Nodes), u1]]) w') ?_ ?_
      · refine fun ac w' hf hs => ⟨_, 0, false, ga, ?_, ?_, ?_, rfl, hf.weak ⟨rfl, rfl, rfl, rfl, rfl, rfl, trivial⟩, hs⟩
        · first | assumption | omega | simp
        · first | assumption | omega | simp
        · exact PassE.zero b ga n
      · rintro m_ ac w' ⟨k, more2, gb, hk, hG2, hE, rfl, hf, hs⟩
        refine D.use ?_ hf hs
        clear hf hs ac w'
        refine C_seq ?_
        refine C_reg ?_
        refine p1 rfl ?_
        refine D_end ?_
        refine x_then ?_
        refine D_H ([ov [v5] (vec n gb : (List Int)), bx g4 [(.int .i64 b.Nodes), u1]]) rfl ?_
        refine C_seq ?_
        refine C_if _ rfl (fun h7 => ?_) (fun h7 => ?_)
        · have pr7 : (((k : Nat) : Int) : Int) < ((b.Reasons.length : Nat) : Int) := of_decide_eq_true h7
          refine C_skip ?_
          refine x_then ?_
          refine C_seq ?_
          refine C_block ?_
          refine C_seq ?_
          refine C_reg ?_
          obtain ⟨r0, hr0⟩ := some_of_lt (l := b.Reasons) (i := k) (by omega)
          have hv0 := okB_r ho hr0
          have hF := isR_for hv0
          have hm0 := List.mem_of_getElem? hr0
          obtain ⟨es8, at9, hr10⟩ := rd_elem (n := 3) rfl hu2 hr0
          obtain ⟨u11, u13, rfl, hu12, hu14⟩ := open_Reason hr10
          have hm15 := rd_max hu12
          have hm16 := rd_max hu14
          refine q1 rfl (D_ix (l := b.Reasons) (j := k) s_28 rfl rfl rfl (fun w' hs => (rd_at hs hu2)) rfl (lt_of_some hr0)) ?_
          refine q1 rfl (lra a_67 rfl rfl at9) ?_
          refine li rfl (D_alloc y_67 rfl rfl rfl rfl fun g17 => ?_)
          refine li rfl (D_stb (vs := [(.int .i64 r0.For), u11, u13]) (cs' := [(.int .i64 r0.For), u11, u13]) 0 z_67 rfl rfl rfl rfl rfl rfl (ocons rfl (ocons (one_rd hu12) (ocons (one_rd hu14) onil))) (by simp) rfl ?_)
          refine D_end ?_
          refine x_then ?_
          refine D_H ([bx g17 [(.int .i64 r0.For), u11, u13], ov [v5] (vec n gb : (List Int)), bx g4 [(.int .i64 b.Nodes), u1]]) rfl ?_
          refine C_seq ?_
          refine C_reg ?_
          refine p1 rfl ?_
          refine q1 rfl (D_fb f_67_0 rfl rfl (q := 0) rfl) ?_
          refine q1 rfl (lb 0 o_3 rfl rfl rfl rfl) ?_
          have hx19 : (vec n gb)[(r0.For.toNat)]? = some (gb (r0.For.toNat)) := vec_get (by omega)
          refine q1 rfl (D_ix (l := (vec n gb)) (j := (r0.For.toNat)) s_25 rfl rfl rfl (fun w' hs => (rd_own (k := 1) hs rfl)) (Int.toNat_of_nonneg (by omega)).symm (lt_of_some hx19)) ?_
          refine q1 rfl (lo (α := Int) 1 o_3 rfl rfl rfl hx19) ?_
          refine p1 rfl ?_
          refine D_end ?_
          refine x_then ?_
          refine C_seq ?_
          refine C_seq ?_
          refine C_reg ?_
          refine q1 rfl (D_fb f_67_1 rfl rfl (q := 1) rfl) ?_
          refine q1 rfl (lb 0 o_25 rfl rfl rfl rfl) ?_
          refine q1 rfl (D_len s_25 rfl rfl (rd_sl hu12)) ?_
          refine p1 rfl ?_
          refine D_end ?_
          refine x_then ?_
          refine C_block ?_
          refine C_loop (fun m_ ac w' => ∃ (m : Nat), ∃ (nn : Int), (m ≤ r0.In.length) ∧ (gb r0.For.toNat ≤ nn) ∧ (nn ≤ strat b r0.For.toNat) ∧ (∀ i, i < m → ∀ y, r0.In[i]? = some y → gb y.toNat ≤ nn) ∧ m_ = r0.In.length - m ∧ Fits ac 71 [(1, (.pointer (some ⟨g4, 0, none⟩))), (3, v5), (4, (.bool more2)), (6, (.pointer (some ⟨g17, 0, none⟩))), (7, (.int .i64 nn)), (17, u1), (18, (.int .i64 ((b.Reasons.length : Nat) : Int))), (19, (.int .i64 ((k : Nat) : Int))), (29, u11), (30, (.int .i64 ((r0.In.length : Nat) : Int))), (31, (.int .i64 ((m : Nat) : Int)))] ∧ St w ([bx g17 [(.int .i64 r0.For), u11, u13], ov [v5] (vec n gb : (List Int)), bx g4 [(.int .i64 b.Nodes), u1]]) w') ?_ ?_
          · refine fun ac w' hf hs => ⟨_, 0, (gb (r0.For.toNat)), ?_, ?_, ?_, ?_, rfl, hf.weak ⟨rfl, rfl, rfl, rfl, rfl, rfl, rfl, rfl, rfl, rfl, rfl, trivial⟩, hs⟩
            · first | assumption | omega | simp
            · exact Int.le_refl _
            · exact (hG2 _).2
            · intro i hi; omega
          · rintro m_ ac w' ⟨m, nn, hm, hn1, hn2, hn3, rfl, hf, hs⟩
            refine D.use ?_ hf hs
            clear hf hs ac w'
            refine C_seq ?_
            refine C_reg ?_
            refine p1 rfl ?_
            refine D_end ?_
            refine x_then ?_
            refine C_seq ?_
            refine C_if _ rfl (fun h20 => ?_) (fun h20 => ?_)
            · have pr20 : (((m : Nat) : Int) : Int) < ((r0.In.length : Nat) : Int) := of_decide_eq_true h20
              refine C_skip ?_
              refine x_then ?_
              refine C_seq ?_
              refine C_block ?_
              refine C_seq ?_
              refine C_reg ?_
              obtain ⟨y2, hy2⟩ := some_of_lt (l := r0.In) (i := m) (by omega)
              have hyn := asc_at (isR_in hv0) hy2
              obtain ⟨es21, at22, hr23⟩ := rd_elem (n := 1) rfl hu12 hy2
              obtain rfl : es21 = [.int .i64 y2] := hr23
              refine q1 rfl (D_ix (l := r0.In) (j := m) s_25 rfl rfl rfl (fun w' hs => (rd_at hs hu12)) rfl (lt_of_some hy2)) ?_
              refine q1 rfl (lr0 o_3 rfl rfl at22 rfl) ?_
              refine p1 rfl ?_
              refine D_end ?_
              refine x_then ?_
              refine C_reg ?_
              refine p1 rfl <| p1 rfl <| p1 rfl ?_
              have hx25 : (vec n gb)[(y2.toNat)]? = some (gb (y2.toNat)) := vec_get (by omega)
              refine q1 rfl (D_ix (l := (vec n gb)) (j := (y2.toNat)) s_25 rfl rfl rfl (fun w' hs => (rd_own (k := 1) hs rfl)) (Int.toNat_of_nonneg (by omega)).symm (lt_of_some hx25)) ?_
              refine q1 rfl (lo (α := Int) 1 o_3 rfl rfl rfl hx25) ?_
              refine q1 rfl (D_max rfl rfl rfl) ?_
              refine p1 rfl ?_
              refine D_end ?_
              refine x_blk ?_
              refine x_then ?_
              refine C_reg ?_
              refine q1 rfl (D_add rfl rfl rfl (r := ((m + 1 : Nat) : Int)) (by omega) (by omega)) ?_
              refine p1 rfl ?_
              refine D_end ?_
              refine x_then ?_
              refine fun ac w' hf hs => ⟨_, ?_, m + 1, (max nn (gb (y2.toNat))), ?_, ?_, ?_, ?_, rfl, hf.weak ⟨rfl, rfl, rfl, rfl, rfl, rfl, rfl, rfl, rfl, rfl, rfl, trivial⟩, hs⟩
              · omega
              · first | assumption | omega | simp
              · omega
              · have := hG2.in hsol hm0 hy2; omega
              · refine forall_step (fun i h y hy => ?_) ?_; (· have := hn3 i h y hy; omega); (· intro y hy; obtain rfl : y = y2 := Option.some.inj (hy.symm.trans hy2); omega)
            · have pr20 : ¬ (((m : Nat) : Int) : Int) < ((r0.In.length : Nat) : Int) := of_decide_eq_false h20
              refine C_exit ?_
              refine x_then_exit ?_
              refine x_then_exit ?_
              refine x_blk_eq ?_
              refine x_then ?_
              refine C_seq ?_
              refine C_seq ?_
              refine C_reg ?_
              refine q1 rfl (D_fb f_67_2 rfl rfl (q := 2) rfl) ?_
              refine q1 rfl (lb 0 o_25 rfl rfl rfl rfl) ?_
              refine q1 rfl (D_len s_25 rfl rfl (rd_sl hu14)) ?_
              refine p1 rfl ?_
              refine D_end ?_
              refine x_then ?_
              refine C_block ?_
              refine C_loop (fun m_ ac w' => ∃ (m : Nat), ∃ (nn : Int), (m ≤ r0.Out.length) ∧ (gb r0.For.toNat ≤ nn) ∧ (nn ≤ strat b r0.For.toNat) ∧ (∀ i, i < r0.In.length → ∀ y, r0.In[i]? = some y → gb y.toNat ≤ nn) ∧ (∀ i, i < m → ∀ y, r0.Out[i]? = some y → gb y.toNat + 1 ≤ nn) ∧ m_ = r0.Out.length - m ∧ Fits ac 71 [(1, (.pointer (some ⟨g4, 0, none⟩))), (3, v5), (4, (.bool more2)), (6, (.pointer (some ⟨g17, 0, none⟩))), (7, (.int .i64 nn)), (17, u1), (18, (.int .i64 ((b.Reasons.length : Nat) : Int))), (19, (.int .i64 ((k : Nat) : Int))), (43, u13), (44, (.int .i64 ((r0.Out.length : Nat) : Int))), (45, (.int .i64 ((m : Nat) : Int)))] ∧ St w ([bx g17 [(.int .i64 r0.For), u11, u13], ov [v5] (vec n gb : (List Int)), bx g4 [(.int .i64 b.Nodes), u1]]) w') ?_ ?_
              · refine fun ac w' hf hs => ⟨_, 0, nn, ?_, ?_, ?_, ?_, ?_, rfl, hf.weak ⟨rfl, rfl, rfl, rfl, rfl, rfl, rfl, rfl, rfl, rfl, rfl, trivial⟩, hs⟩
                · first | assumption | omega | simp
                · exact hn1
                · exact hn2
                · exact fun i h => hn3 i (by omega)
                · intro i hi; omega
              · rintro m_ ac w' ⟨m, nn, hm, hn1, hn2, hn3, hn4, rfl, hf, hs⟩
                refine D.use ?_ hf hs
                clear hf hs ac w'
                refine C_seq ?_
                refine C_reg ?_
                refine p1 rfl ?_
                refine D_end ?_
                refine x_then ?_
                refine C_seq ?_
                refine C_if _ rfl (fun h26 => ?_) (fun h26 => ?_)
                · have pr26 : (((m : Nat) : Int) : Int) < ((r0.Out.length : Nat) : Int) := of_decide_eq_true h26
                  refine C_skip ?_
                  refine x_then ?_
                  refine C_seq ?_
                  refine C_block ?_
                  refine C_seq ?_
                  refine C_reg ?_
                  obtain ⟨y3, hy3⟩ := some_of_lt (l := r0.Out) (i := m) (by omega)
                  have hyn := asc_at (isR_out hv0) hy3
                  obtain ⟨es27, at28, hr29⟩ := rd_elem (n := 1) rfl hu14 hy3
                  obtain rfl : es27 = [.int .i64 y3] := hr29
                  refine q1 rfl (D_ix (l := r0.Out) (j := m) s_25 rfl rfl rfl (fun w' hs => (rd_at hs hu14)) rfl (lt_of_some hy3)) ?_
                  refine q1 rfl (lr0 o_3 rfl rfl at28 rfl) ?_
                  refine p1 rfl ?_
                  refine D_end ?_
                  refine x_then ?_
                  refine C_reg ?_
                  refine p1 rfl <| p1 rfl <| p1 rfl ?_
                  have hx31 : (vec n gb)[(y3.toNat)]? = some (gb (y3.toNat)) := vec_get (by omega)
                  refine q1 rfl (D_ix (l := (vec n gb)) (j := (y3.toNat)) s_25 rfl rfl rfl (fun w' hs => (rd_own (k := 1) hs rfl)) (Int.toNat_of_nonneg (by omega)).symm (lt_of_some hx31)) ?_
                  refine q1 rfl (lo (α := Int) 1 o_3 rfl rfl rfl hx31) ?_
                  have hlt := hG2.lt hsol (x := y3.toNat) (by omega)
                  refine q1 rfl (D_add rfl rfl rfl rfl (by omega)) ?_
                  refine q1 rfl (D_max rfl rfl rfl) ?_
                  refine p1 rfl ?_
                  refine D_end ?_
                  refine x_blk ?_
                  refine x_then ?_
                  refine C_reg ?_
                  refine q1 rfl (D_add rfl rfl rfl (r := ((m + 1 : Nat) : Int)) (by omega) (by omega)) ?_
                  refine p1 rfl ?_
                  refine D_end ?_
                  refine x_then ?_
                  refine fun ac w' hf hs => ⟨_, ?_, m + 1, (max nn ((gb (y3.toNat)) + 1)), ?_, ?_, ?_, ?_, ?_, rfl, hf.weak ⟨rfl, rfl, rfl, rfl, rfl, rfl, rfl, rfl, rfl, rfl, rfl, trivial⟩, hs⟩
                  · omega
                  · first | assumption | omega | simp
                  · omega
                  · have := hG2.out hsol hm0 hy3; omega
                  · intro i h y hy; have := hn3 i h y hy; omega
                  · refine forall_step (fun i h y hy => ?_) ?_; (· have := hn4 i h y hy; omega); (· intro y hy; obtain rfl : y = y3 := Option.some.inj (hy.symm.trans hy3); omega)
                · have pr26 : ¬ (((m : Nat) : Int) : Int) < ((r0.Out.length : Nat) : Int) := of_decide_eq_false h26
                  refine C_exit ?_
                  refine x_then_exit ?_
                  refine x_then_exit ?_
                  refine x_blk_eq ?_
                  refine x_then ?_
                  refine C_seq ?_
                  refine C_reg ?_
                  refine p1 rfl <| p1 rfl ?_
                  refine q1 rfl (D_fb f_67_0 rfl rfl (q := 0) rfl) ?_
                  refine q1 rfl (lb 0 o_3 rfl rfl rfl rfl) ?_
                  have hx33 : (vec n gb)[(r0.For.toNat)]? = some (gb (r0.For.toNat)) := vec_get (by omega)
                  refine q1 rfl (D_ix (l := (vec n gb)) (j := (r0.For.toNat)) s_25 rfl rfl rfl (fun w' hs => (rd_own (k := 1) hs rfl)) (Int.toNat_of_nonneg (by omega)).symm (lt_of_some hx33)) ?_
                  refine q1 rfl (lo (α := Int) 1 o_3 rfl rfl rfl hx33) ?_
                  refine p1 rfl ?_
                  refine D_end ?_
                  refine x_then ?_
                  refine C_if _ rfl (fun h34 => ?_) (fun h34 => ?_)
                  · have pr34 : ((gb (r0.For.toNat)) : Int) < nn := of_decide_eq_true h34
                    refine C_seq ?_
                    refine C_reg ?_
                    refine p1 rfl ?_
                    refine q1 rfl (D_fb f_67_0 rfl rfl (q := 0) rfl) ?_
                    refine q1 rfl (lb 0 o_3 rfl rfl rfl rfl) ?_
                    refine p1 rfl ?_
                    refine q1 rfl (D_ix (l := (vec n gb)) (j := (r0.For.toNat)) s_25 rfl rfl rfl (fun w' hs => (rd_own (k := 1) hs rfl)) (Int.toNat_of_nonneg (by omega)).symm (lt_of_some hx33)) ?_
                    refine li rfl (so (α := Int) (z := nn) 1 z_3 rfl rfl rfl rfl rfl (lt_of_some hx33) ?_)
                    refine D_eq 1 rfl (vec_set _ _ _ _) ?_
                    refine D_end ?_
                    refine x_then ?_
                    refine D_weak [(1, (.pointer (some ⟨g4, 0, none⟩))), (3, v5), (17, u1), (18, (.int .i64 ((b.Reasons.length : Nat) : Int))), (19, (.int .i64 ((k : Nat) : Int)))] ⟨rfl, rfl, rfl, rfl, rfl, trivial⟩ ?_
                    refine D_sel (H' := [ov [v5] (vec n (upd gb (r0.For.toNat) nn) : (List Int)), bx g4 [(.int .i64 b.Nodes), u1]]) [false, true, true] rfl ?_
                    refine C_reg ?_
                    refine p1 rfl ?_
                    refine D_end ?_
                    refine x_blk ?_
                    refine x_then ?_
                    refine C_reg ?_
                    refine q1 rfl (D_add rfl rfl rfl (r := ((k + 1 : Nat) : Int)) (by omega) (by omega)) ?_
                    refine p1 rfl ?_
                    refine D_end ?_
                    refine x_then ?_
                    refine fun ac w' hf hs => ⟨_, ?_, k + 1, true, (upd gb (r0.For.toNat) nn), ?_, ?_, ?_, rfl, hf.weak ⟨rfl, rfl, rfl, rfl, rfl, rfl, trivial⟩, hs⟩
                    · omega
                    · first | assumption | omega | simp
                    · first | exact hG2 | exact hG2.set (by have := hG2 r0.For.toNat; omega) hn2
                    · first | exact hE.up (by omega) (by omega) hn2 _ | exact hE.keep hr0 (by omega) hn3 (fun i h => hn4 i (by omega))
                  · have pr34 : ¬ ((gb (r0.For.toNat)) : Int) < nn := of_decide_eq_false h34
                    refine C_skip ?_
                    refine x_blk ?_
                    refine x_then ?_
                    refine C_reg ?_
                    refine q1 rfl (D_add rfl rfl rfl (r := ((k + 1 : Nat) : Int)) (by omega) (by omega)) ?_
                    refine p1 rfl ?_
                    refine D_end ?_
                    refine x_then ?_
                    refine fun ac w' hf hs => ⟨_, ?_, k + 1, more2, gb, ?_, ?_, ?_, rfl, hf.weak ⟨rfl, rfl, rfl, rfl, rfl, rfl, trivial⟩, hs.pk [1, 2] rfl rfl⟩
                    · omega
                    · first | assumption | omega | simp
                    · first | exact hG2 | exact hG2.set (by have := hG2 r0.For.toNat; omega) hn2
                    · first | exact hE.up (by omega) (by omega) hn2 _ | exact hE.keep hr0 (by omega) hn3 (fun i h => hn4 i (by omega))
        · have pr7 : ¬ (((k : Nat) : Int) : Int) < ((b.Reasons.length : Nat) : Int) := of_decide_eq_false h7
          refine C_exit ?_
          refine x_then_exit ?_
          refine x_then_exit ?_
          refine x_blk_eq ?_
          refine x_blk ?_
          refine x_then ?_
          refine fun ac w' hf hs => ⟨_, ?_, more2, gb, ?_, ?_, rfl, hf.weak ⟨rfl, rfl, rfl, trivial⟩, hs⟩
          · rw [show more = true by assumption, if_pos rfl]; have e1 := hE.1; cases hmm : more2 with | true => (have e2 := hE.2.1 hmm; rw [if_pos rfl]; omega) | false => (rw [if_neg (by simp)]; omega)
          · exact hG2
          · exact hE.sol (by omega) hG2
    · refine C_exit ?_
      refine x_then_exit ?_
      refine x_then_exit ?_
      refine x_blk_eq ?_
      refine x_then ?_
      refine C_seq ?_
      refine C_reg ?_
      refine p1 rfl <| p1 rfl ?_
      refine D_end ?_
      refine x_then ?_
      refine C_ret ?_
      refine R_1 rfl rfl fun w' hs => res_of (k := 0) hs rfl ?_
      show vec n ga = vec b.Nodes.toNat (strat b)
      rw [show b.Nodes.toNat = n by omega]; exact strata_done hG (hC h6)

set_option maxHeartbeats 4000000 in
theorem spec_StrataOf (w : World) (c_b : List Value) (b : Beliefs) (h_b : Gd.rd w c_b b) : Calls Try.prog 103 [(.agg c_b.toArray)].toArray w (Res w (strataOf b : List Int)) := by
  obtain ⟨u1, rfl, hu2⟩ := open_Beliefs h_b
  have hm3 := rd_max hu2
  refine enter 86 Try.func103 rfl rfl rfl ?_
  refine C_seq ?_
  refine C_reg ?_
  refine li rfl (D_box rfl rfl rfl rfl rfl fun g4 => ?_)
  refine p1 rfl ?_
  refine D_end ?_
  refine x_then ?_
  refine D_H ([bx g4 [(.int .i64 b.Nodes), u1]]) rfl ?_
  refine C_seq ?_
  refine C_seq ?_
  refine C_reg ?_
  refine q1 rfl (lbw 0 a_30 rfl rfl rfl) ?_
  refine li rfl (cv b_64 rfl rfl rfl rfl (fun w' hs => (spec_IsStratified w' [(.int .i64 b.Nodes), u1] b (rd_at hs h_b))) ?_)
  refine p1 rfl ?_
  refine D_end ?_
  refine x_then ?_
  refine C_if _ rfl (fun h5 => ?_) (fun h5 => ?_)
  · have h5n : (isStrat b) = false := not_t h5
    refine C_seq ?_
    refine C_reg ?_
    refine li rfl (D_bs0 (α := Int) s_25 rfl rfl rfl fun v6 => ?_)
    refine p1 rfl ?_
    refine D_end ?_
    refine x_then ?_
    refine D_H ([ov [v6] ([] : (List Int)), bx g4 [(.int .i64 b.Nodes), u1]]) rfl ?_
    refine C_ret ?_
    refine x_then_ret ?_
    refine R_1 rfl rfl fun w' hs => res_of (k := 0) hs rfl ?_
    show [] = strataOf b
    exact strataOf_f h5n
  · have h5n : (isStrat b) = true := not_f h5
    refine C_skip ?_
    refine x_then ?_
    refine C_seq ?_
    refine C_reg ?_
    have hst : isStrat b = true := by assumption
    have hsol := strat_has hst
    have ho := isB_ok2 (strat_b hst)
    have hbn := okB_nodes ho
    obtain ⟨n, hn⟩ : ∃ n : Nat, b.Nodes = (n : Int) := ⟨b.Nodes.toNat, by omega⟩
    refine q1 rfl (D_fb f_30_0 rfl rfl (q := 0) rfl) ?_
    refine q1 rfl (lb 0 o_3 rfl rfl rfl rfl) ?_
    refine li rfl (D_mk (α := Int) (z := 0) s_25 y_3 rfl (congrArg (fun z => some (Value.int .i64 z)) hn) rfl rfl (by omega) (by omega) fun v7 => ?_)
    refine D_eq 0 rfl (vec_rep _ _) ?_
    refine p1 rfl ?_
    refine D_end ?_
    refine x_then ?_
    refine D_H ([ov [v7] (vec n (fun _ => 0) : (List Int)), bx g4 [(.int .i64 b.Nodes), u1]]) rfl ?_
    refine C_seq ?_
    refine C_seq ?_
    refine C_reg ?_
    refine p1 rfl ?_
    refine D_end ?_
    refine x_then ?_
    refine C_block ?_
    refine C_loop (fun m_ ac w' => ∃ (q : Nat), ∃ (ga : Nat → Int), (q ≤ n + 1) ∧ (StG b ga) ∧ (q ≤ fin n b ga ∨ n ≤ fin n b ga) ∧ m_ = n + 1 - q ∧ Fits ac 86 [(1, (.pointer (some ⟨g4, 0, none⟩))), (3, v7), (4, (.int .i64 ((q : Nat) : Int)))] ∧ St w ([ov [v7] (vec n ga : (List Int)), bx g4 [(.int .i64 b.Nodes), u1]]) w') ?_ ?_
    · refine fun ac w' hf hs => ⟨_, 0, (fun _ => 0), ?_, ?_, ?_, rfl, hf.weak ⟨rfl, rfl, rfl, trivial⟩, hs⟩
      · first | assumption | omega | simp
      · exact StG.zero b
      · exact .inl (Nat.zero_le _)
    · rintro m_ ac w' ⟨q, ga, hq, hG, hQ, rfl, hf, hs⟩
      refine D.use ?_ hf hs
      clear hf hs ac w'
      refine C_seq ?_
      refine C_seq ?_
      refine C_reg ?_
      refine p1 rfl ?_
      refine q1 rfl (D_fb f_30_0 rfl rfl (q := 0) rfl) ?_
      refine q1 rfl (lb 1 o_3 rfl rfl rfl rfl) ?_
      refine p1 rfl ?_
      refine D_end ?_
      refine x_then ?_
      refine D_H ([ov [v7] (vec n ga : (List Int)), bx g4 [(.int .i64 b.Nodes), u1]]) rfl ?_
      refine C_if _ rfl (fun h8 => ?_) (fun h8 => ?_)
      · have pr8 : (((q : Nat) : Int) : Int) ≤ b.Nodes := of_decide_eq_true h8
        refine C_skip ?_
        refine x_then ?_
        refine C_seq ?_
        refine C_block ?_
        refine C_seq ?_
        refine C_reg ?_
        refine p1 rfl ?_
        refine D_end ?_
        refine x_then ?_
        refine C_block ?_
        refine C_loop (fun m_ ac w' => ∃ (k : Nat), ∃ (gb : Nat → Int), (k ≤ b.Reasons.length) ∧ (StG b gb) ∧ (PassI b ga gb k) ∧ m_ = b.Reasons.length - k ∧ Fits ac 86 [(1, (.pointer (some ⟨g4, 0, none⟩))), (3, v7), (4, (.int .i64 ((q : Nat) : Int))), (5, (.int .i64 ((k : Nat) : Int)))] ∧ St w ([ov [v7] (vec n gb : (List Int)), bx g4 [(.int .i64 b.Nodes), u1]]) w') ?_ ?_
        · refine fun ac w' hf hs => ⟨_, 0, ga, ?_, ?_, ?_, rfl, hf.weak ⟨rfl, rfl, rfl, rfl, trivial⟩, hs⟩
          · first | assumption | omega | simp
          · first | assumption | omega | simp
          · exact PassI.zero b ga
        · rintro m_ ac w' ⟨k, gb, hk, hG2, hP, rfl, hf, hs⟩
          refine D.use ?_ hf hs
          clear hf hs ac w'
          refine C_seq ?_
          refine C_seq ?_
          refine C_reg ?_
          refine p1 rfl ?_
          refine q1 rfl (D_fb f_30_1 rfl rfl (q := 1) rfl) ?_
          refine q1 rfl (lb 1 o_28 rfl rfl rfl rfl) ?_
          refine q1 rfl (D_len s_28 rfl rfl (rd_sl hu2)) ?_
          refine p1 rfl ?_
          refine D_end ?_
          refine x_then ?_
          refine D_H ([ov [v7] (vec n gb : (List Int)), bx g4 [(.int .i64 b.Nodes), u1]]) rfl ?_
          refine C_if _ rfl (fun h9 => ?_) (fun h9 => ?_)
          · have pr9 : (((k : Nat) : Int) : Int) < ((b.Reasons.length : Nat) : Int) := of_decide_eq_true h9
            refine C_skip ?_
            refine x_then ?_
            refine C_seq ?_
            refine C_block ?_
            refine C_seq ?_
            refine C_reg ?_
            refine q1 rfl (D_fb f_30_1 rfl rfl (q := 1) rfl) ?_
            refine q1 rfl (lb 1 o_28 rfl rfl rfl rfl) ?_
            refine p1 rfl ?_
            obtain ⟨r0, hr0⟩ := some_of_lt (l := b.Reasons) (i := k) (by omega)
            have hv0 := okB_r ho hr0
            have hF := isR_for hv0
            have hm0 := List.mem_of_getElem? hr0
            obtain ⟨es10, at11, hr12⟩ := rd_elem (n := 3) rfl hu2 hr0
            obtain ⟨u13, u15, rfl, hu14, hu16⟩ := open_Reason hr12
            have hm17 := rd_max hu14
            have hm18 := rd_max hu16
            refine q1 rfl (D_ix (l := b.Reasons) (j := k) s_28 rfl rfl rfl (fun w' hs => (rd_at hs hu2)) rfl (lt_of_some hr0)) ?_
            refine q1 rfl (lra a_67 rfl rfl at11) ?_
            refine li rfl (D_alloc y_67 rfl rfl rfl rfl fun g19 => ?_)
            refine li rfl (D_stb (vs := [(.int .i64 r0.For), u13, u15]) (cs' := [(.int .i64 r0.For), u13, u15]) 0 z_67 rfl rfl rfl rfl rfl rfl (ocons rfl (ocons (one_rd hu14) (ocons (one_rd hu16) onil))) (by simp) rfl ?_)
            refine D_end ?_
            refine x_then ?_
            refine D_H ([bx g19 [(.int .i64 r0.For), u13, u15], ov [v7] (vec n gb : (List Int)), bx g4 [(.int .i64 b.Nodes), u1]]) rfl ?_
            refine C_seq ?_
            refine C_seq ?_
            refine C_reg ?_
            refine p1 rfl ?_
            refine D_end ?_
            refine x_then ?_
            refine C_block ?_
            refine C_loop (fun m_ ac w' => ∃ (m : Nat), ∃ (gc : Nat → Int), (m ≤ r0.In.length) ∧ (StG b gc) ∧ (PassI b ga gc k) ∧ (∀ i, i < m → ∀ y, r0.In[i]? = some y → ga y.toNat ≤ gc r0.For.toNat) ∧ m_ = r0.In.length - m ∧ Fits ac 86 [(1, (.pointer (some ⟨g4, 0, none⟩))), (3, v7), (4, (.int .i64 ((q : Nat) : Int))), (5, (.int .i64 ((k : Nat) : Int))), (6, (.pointer (some ⟨g19, 0, none⟩))), (7, (.int .i64 ((m : Nat) : Int)))] ∧ St w ([bx g19 [(.int .i64 r0.For), u13, u15], ov [v7] (vec n gc : (List Int)), bx g4 [(.int .i64 b.Nodes), u1]]) w') ?_ ?_
            · refine fun ac w' hf hs => ⟨_, 0, gb, ?_, ?_, ?_, ?_, rfl, hf.weak ⟨rfl, rfl, rfl, rfl, rfl, rfl, trivial⟩, hs⟩
              · first | assumption | omega | simp
              · first | assumption | omega | simp
              · first | assumption | omega | simp
              · intro i hi; omega
            · rintro m_ ac w' ⟨m, gc, hm, hG3, hP3, hi3, rfl, hf, hs⟩
              refine D.use ?_ hf hs
              clear hf hs ac w'
              refine C_seq ?_
              refine C_seq ?_
              refine C_reg ?_
              refine p1 rfl ?_
              refine q1 rfl (D_fb f_67_1 rfl rfl (q := 1) rfl) ?_
              refine q1 rfl (lb 0 o_25 rfl rfl rfl rfl) ?_
              refine q1 rfl (D_len s_25 rfl rfl (rd_sl hu14)) ?_
              refine p1 rfl ?_
              refine D_end ?_
              refine x_then ?_
              refine D_H ([bx g19 [(.int .i64 r0.For), u13, u15], ov [v7] (vec n gc : (List Int)), bx g4 [(.int .i64 b.Nodes), u1]]) rfl ?_
              refine C_if _ rfl (fun h20 => ?_) (fun h20 => ?_)
              · have pr20 : (((m : Nat) : Int) : Int) < ((r0.In.length : Nat) : Int) := of_decide_eq_true h20
                refine C_skip ?_
                refine x_then ?_
                refine C_seq ?_
                refine C_block ?_
                refine C_draw mixed [18] (by kernel_rfl) ?_
                refine tk 0 rfl (by kernel_rfl) (by kernel_rfl) (by kernel_rfl) rfl (fun _ hs => hs) (rp rfl) ?_
                refine tk 1 rfl (by kernel_rfl) (by kernel_rfl) (by kernel_rfl) rfl (fun _ hs => hs) (D_fb f_67_0 rfl rfl (q := 0) rfl) ?_
                refine tk 2 rfl (by kernel_rfl) (by kernel_rfl) (by kernel_rfl) rfl (fun _ hs => hs) (lb 0 o_3 rfl rfl rfl rfl) ?_
                refine tk 3 rfl (by kernel_rfl) (by kernel_rfl) (by kernel_rfl) rfl (fun _ hs => hs) (rp rfl) ?_
                refine tk 4 rfl (by kernel_rfl) (by kernel_rfl) (by kernel_rfl) rfl (fun _ hs => hs) (D_fb f_67_0 rfl rfl (q := 0) rfl) ?_
                refine tk 5 rfl (by kernel_rfl) (by kernel_rfl) (by kernel_rfl) rfl (fun _ hs => hs) (lb 0 o_3 rfl rfl rfl rfl) ?_
                have hx22 : (vec n gc)[(r0.For.toNat)]? = some (gc (r0.For.toNat)) := vec_get (by omega)
                refine tk 6 rfl (by kernel_rfl) (by kernel_rfl) (by kernel_rfl) rfl (fun _ hs => hs) (D_ix (l := (vec n gc)) (j := (r0.For.toNat)) s_25 rfl rfl rfl (fun w' hs => (rd_own (k := 1) hs rfl)) (Int.toNat_of_nonneg (by omega)).symm (lt_of_some hx22)) ?_
                refine tk 7 rfl (by kernel_rfl) (by kernel_rfl) (by kernel_rfl) rfl (fun _ hs => hs) (lo (α := Int) 1 o_3 rfl rfl rfl hx22) ?_
                refine tk 8 rfl (by kernel_rfl) (by kernel_rfl) (by kernel_rfl) rfl (fun _ hs => hs) (rp rfl) ?_
                refine tk 9 rfl (by kernel_rfl) (by kernel_rfl) (by kernel_rfl) rfl (fun _ hs => hs) (D_fb f_67_1 rfl rfl (q := 1) rfl) ?_
                refine tk 10 rfl (by kernel_rfl) (by kernel_rfl) (by kernel_rfl) rfl (fun _ hs => hs) (lb 0 o_25 rfl rfl rfl rfl) ?_
                refine tk 11 rfl (by kernel_rfl) (by kernel_rfl) (by kernel_rfl) rfl (fun _ hs => hs) (rp rfl) ?_
                obtain ⟨y2, hy2⟩ := some_of_lt (l := r0.In) (i := m) (by omega)
                have hyn := asc_at (isR_in hv0) hy2
                obtain ⟨es23, at24, hr25⟩ := rd_elem (n := 1) rfl hu14 hy2
                obtain rfl : es23 = [.int .i64 y2] := hr25
                refine tk 12 rfl (by kernel_rfl) (by kernel_rfl) (by kernel_rfl) rfl (fun _ hs => hs) (D_ix (l := r0.In) (j := m) s_25 rfl rfl rfl (fun w' hs => (rd_at hs hu14)) rfl (lt_of_some hy2)) ?_
                refine tk 13 rfl (by kernel_rfl) (by kernel_rfl) (by kernel_rfl) rfl (fun _ hs => hs) (lr0 o_3 rfl rfl at24 rfl) ?_
                have hx27 : (vec n gc)[(y2.toNat)]? = some (gc (y2.toNat)) := vec_get (by omega)
                refine tk 14 rfl (by kernel_rfl) (by kernel_rfl) (by kernel_rfl) rfl (fun _ hs => hs) (D_ix (l := (vec n gc)) (j := (y2.toNat)) s_25 rfl rfl rfl (fun w' hs => (rd_own (k := 1) hs rfl)) (Int.toNat_of_nonneg (by omega)).symm (lt_of_some hx27)) ?_
                refine tk 15 rfl (by kernel_rfl) (by kernel_rfl) (by kernel_rfl) rfl (fun _ hs => hs) (lo (α := Int) 1 o_3 rfl rfl rfl hx27) ?_
                refine tk 16 rfl (by kernel_rfl) (by kernel_rfl) (by kernel_rfl) rfl (fun _ hs => hs) (D_max rfl rfl rfl) ?_
                refine tk 17 rfl (by kernel_rfl) (by kernel_rfl) (by kernel_rfl) rfl (fun _ hs => hs) (D_ix (l := (vec n gc)) (j := (r0.For.toNat)) s_25 rfl rfl rfl (fun w' hs => (rd_own (k := 1) hs rfl)) (Int.toNat_of_nonneg (by omega)).symm (lt_of_some hx22)) ?_
                refine ty 18 rfl (by kernel_rfl) rfl (so (α := Int) (z := (max (gc (r0.For.toNat)) (gc (y2.toNat)))) 1 z_3 rfl rfl rfl rfl rfl (lt_of_some hx22) ?_)
                refine D_eq 1 rfl (vec_set _ _ _ _) ?_
                refine tZ rfl ?_
                refine tE (by kernel_rfl) ?_
                refine x_blk ?_
                refine x_then ?_
                refine D_weak [(1, (.pointer (some ⟨g4, 0, none⟩))), (3, v7), (4, (.int .i64 ((q : Nat) : Int))), (5, (.int .i64 ((k : Nat) : Int))), (6, (.pointer (some ⟨g19, 0, none⟩))), (7, (.int .i64 ((m : Nat) : Int)))] ⟨rfl, rfl, rfl, rfl, rfl, rfl, trivial⟩ ?_
                refine D_H ([bx g19 [(.int .i64 r0.For), u13, u15], ov [v7] (vec n (upd gc (r0.For.toNat) (max (gc (r0.For.toNat)) (gc (y2.toNat)))) : (List Int)), bx g4 [(.int .i64 b.Nodes), u1]]) rfl ?_
                refine C_reg ?_
                refine p1 rfl ?_
                refine q1 rfl (D_add rfl rfl rfl (r := ((m + 1 : Nat) : Int)) (by omega) (by omega)) ?_
                refine p1 rfl ?_
                refine D_end ?_
                refine x_then ?_
                refine fun ac w' hf hs => ⟨_, ?_, m + 1, (upd gc (r0.For.toNat) (max (gc (r0.For.toNat)) (gc (y2.toNat)))), ?_, ?_, ?_, ?_, rfl, hf.weak ⟨rfl, rfl, rfl, rfl, rfl, rfl, trivial⟩, hs⟩
                · omega
                · first | assumption | omega | simp
                · exact hG3.set (by have := hG3 r0.For.toNat; omega) (by have := hG3.in hsol hm0 hy2; have := (hG3 r0.For.toNat).2; omega)
                · exact hP3.up (by omega)
                · rw [upd_self]; refine forall_step (fun i h y hy => ?_) ?_; (· have := hi3 i h y hy; omega); (· intro y hy; obtain rfl : y = y2 := Option.some.inj (hy.symm.trans hy2); have := hP3.1 y.toNat; omega)
              · have pr20 : ¬ (((m : Nat) : Int) : Int) < ((r0.In.length : Nat) : Int) := of_decide_eq_false h20
                refine C_exit ?_
                refine x_then_exit ?_
                refine x_then_exit ?_
                refine x_blk_eq ?_
                refine x_then ?_
                refine C_seq ?_
                refine C_reg ?_
                refine p1 rfl ?_
                refine D_end ?_
                refine x_then ?_
                refine C_block ?_
                refine C_loop (fun m_ ac w' => ∃ (m : Nat), ∃ (gd : Nat → Int), (m ≤ r0.Out.length) ∧ (StG b gd) ∧ (PassI b ga gd k) ∧ (∀ i, i < r0.In.length → ∀ y, r0.In[i]? = some y → ga y.toNat ≤ gd r0.For.toNat) ∧ (∀ i, i < m → ∀ y, r0.Out[i]? = some y → ga y.toNat + 1 ≤ gd r0.For.toNat) ∧ m_ = r0.Out.length - m ∧ Fits ac 86 [(1, (.pointer (some ⟨g4, 0, none⟩))), (3, v7), (4, (.int .i64 ((q : Nat) : Int))), (5, (.int .i64 ((k : Nat) : Int))), (6, (.pointer (some ⟨g19, 0, none⟩))), (8, (.int .i64 ((m : Nat) : Int)))] ∧ St w ([bx g19 [(.int .i64 r0.For), u13, u15], ov [v7] (vec n gd : (List Int)), bx g4 [(.int .i64 b.Nodes), u1]]) w') ?_ ?_
                · refine fun ac w' hf hs => ⟨_, 0, gc, ?_, ?_, ?_, ?_, ?_, rfl, hf.weak ⟨rfl, rfl, rfl, rfl, rfl, rfl, trivial⟩, hs⟩
                  · first | assumption | omega | simp
                  · first | assumption | omega | simp
                  · first | assumption | omega | simp
                  · exact fun i h => hi3 i (by omega)
                  · intro i hi; omega
                · rintro m_ ac w' ⟨m, gd, hm, hG4, hP4, hi4, ho4, rfl, hf, hs⟩
                  refine D.use ?_ hf hs
                  clear hf hs ac w'
                  refine C_seq ?_
                  refine C_seq ?_
                  refine C_reg ?_
                  refine p1 rfl ?_
                  refine q1 rfl (D_fb f_67_2 rfl rfl (q := 2) rfl) ?_
                  refine q1 rfl (lb 0 o_25 rfl rfl rfl rfl) ?_
                  refine q1 rfl (D_len s_25 rfl rfl (rd_sl hu16)) ?_
                  refine p1 rfl ?_
                  refine D_end ?_
                  refine x_then ?_
                  refine D_H ([bx g19 [(.int .i64 r0.For), u13, u15], ov [v7] (vec n gd : (List Int)), bx g4 [(.int .i64 b.Nodes), u1]]) rfl ?_
                  refine C_if _ rfl (fun h28 => ?_) (fun h28 => ?_)
                  · have pr28 : (((m : Nat) : Int) : Int) < ((r0.Out.length : Nat) : Int) := of_decide_eq_true h28
                    refine C_skip ?_
                    refine x_then ?_
                    refine C_seq ?_
                    refine C_block ?_
                    refine C_draw mixed [19] (by kernel_rfl) ?_
                    refine tk 0 rfl (by kernel_rfl) (by kernel_rfl) (by kernel_rfl) rfl (fun _ hs => hs) (rp rfl) ?_
                    refine tk 1 rfl (by kernel_rfl) (by kernel_rfl) (by kernel_rfl) rfl (fun _ hs => hs) (D_fb f_67_0 rfl rfl (q := 0) rfl) ?_
                    refine tk 2 rfl (by kernel_rfl) (by kernel_rfl) (by kernel_rfl) rfl (fun _ hs => hs) (lb 0 o_3 rfl rfl rfl rfl) ?_
                    refine tk 3 rfl (by kernel_rfl) (by kernel_rfl) (by kernel_rfl) rfl (fun _ hs => hs) (rp rfl) ?_
                    refine tk 4 rfl (by kernel_rfl) (by kernel_rfl) (by kernel_rfl) rfl (fun _ hs => hs) (D_fb f_67_0 rfl rfl (q := 0) rfl) ?_
                    refine tk 5 rfl (by kernel_rfl) (by kernel_rfl) (by kernel_rfl) rfl (fun _ hs => hs) (lb 0 o_3 rfl rfl rfl rfl) ?_
                    have hx30 : (vec n gd)[(r0.For.toNat)]? = some (gd (r0.For.toNat)) := vec_get (by omega)
                    refine tk 6 rfl (by kernel_rfl) (by kernel_rfl) (by kernel_rfl) rfl (fun _ hs => hs) (D_ix (l := (vec n gd)) (j := (r0.For.toNat)) s_25 rfl rfl rfl (fun w' hs => (rd_own (k := 1) hs rfl)) (Int.toNat_of_nonneg (by omega)).symm (lt_of_some hx30)) ?_
                    refine tk 7 rfl (by kernel_rfl) (by kernel_rfl) (by kernel_rfl) rfl (fun _ hs => hs) (lo (α := Int) 1 o_3 rfl rfl rfl hx30) ?_
                    refine tk 8 rfl (by kernel_rfl) (by kernel_rfl) (by kernel_rfl) rfl (fun _ hs => hs) (rp rfl) ?_
                    refine tk 9 rfl (by kernel_rfl) (by kernel_rfl) (by kernel_rfl) rfl (fun _ hs => hs) (D_fb f_67_2 rfl rfl (q := 2) rfl) ?_
                    refine tk 10 rfl (by kernel_rfl) (by kernel_rfl) (by kernel_rfl) rfl (fun _ hs => hs) (lb 0 o_25 rfl rfl rfl rfl) ?_
                    refine tk 11 rfl (by kernel_rfl) (by kernel_rfl) (by kernel_rfl) rfl (fun _ hs => hs) (rp rfl) ?_
                    obtain ⟨y3, hy3⟩ := some_of_lt (l := r0.Out) (i := m) (by omega)
                    have hyn := asc_at (isR_out hv0) hy3
                    obtain ⟨es31, at32, hr33⟩ := rd_elem (n := 1) rfl hu16 hy3
                    obtain rfl : es31 = [.int .i64 y3] := hr33
                    refine tk 12 rfl (by kernel_rfl) (by kernel_rfl) (by kernel_rfl) rfl (fun _ hs => hs) (D_ix (l := r0.Out) (j := m) s_25 rfl rfl rfl (fun w' hs => (rd_at hs hu16)) rfl (lt_of_some hy3)) ?_
                    refine tk 13 rfl (by kernel_rfl) (by kernel_rfl) (by kernel_rfl) rfl (fun _ hs => hs) (lr0 o_3 rfl rfl at32 rfl) ?_
                    have hx35 : (vec n gd)[(y3.toNat)]? = some (gd (y3.toNat)) := vec_get (by omega)
                    refine tk 14 rfl (by kernel_rfl) (by kernel_rfl) (by kernel_rfl) rfl (fun _ hs => hs) (D_ix (l := (vec n gd)) (j := (y3.toNat)) s_25 rfl rfl rfl (fun w' hs => (rd_own (k := 1) hs rfl)) (Int.toNat_of_nonneg (by omega)).symm (lt_of_some hx35)) ?_
                    refine tk 15 rfl (by kernel_rfl) (by kernel_rfl) (by kernel_rfl) rfl (fun _ hs => hs) (lo (α := Int) 1 o_3 rfl rfl rfl hx35) ?_
                    have hlt := hG4.lt hsol (x := y3.toNat) (by omega)
                    refine tk 16 rfl (by kernel_rfl) (by kernel_rfl) (by kernel_rfl) rfl (fun _ hs => hs) (D_add rfl rfl rfl rfl (by omega)) ?_
                    refine tk 17 rfl (by kernel_rfl) (by kernel_rfl) (by kernel_rfl) rfl (fun _ hs => hs) (D_max rfl rfl rfl) ?_
                    refine tk 18 rfl (by kernel_rfl) (by kernel_rfl) (by kernel_rfl) rfl (fun _ hs => hs) (D_ix (l := (vec n gd)) (j := (r0.For.toNat)) s_25 rfl rfl rfl (fun w' hs => (rd_own (k := 1) hs rfl)) (Int.toNat_of_nonneg (by omega)).symm (lt_of_some hx30)) ?_
                    refine ty 19 rfl (by kernel_rfl) rfl (so (α := Int) (z := (max (gd (r0.For.toNat)) ((gd (y3.toNat)) + 1))) 1 z_3 rfl rfl rfl rfl rfl (lt_of_some hx30) ?_)
                    refine D_eq 1 rfl (vec_set _ _ _ _) ?_
                    refine tZ rfl ?_
                    refine tE (by kernel_rfl) ?_
                    refine x_blk ?_
                    refine x_then ?_
                    refine D_weak [(1, (.pointer (some ⟨g4, 0, none⟩))), (3, v7), (4, (.int .i64 ((q : Nat) : Int))), (5, (.int .i64 ((k : Nat) : Int))), (6, (.pointer (some ⟨g19, 0, none⟩))), (8, (.int .i64 ((m : Nat) : Int)))] ⟨rfl, rfl, rfl, rfl, rfl, rfl, trivial⟩ ?_
                    refine D_H ([bx g19 [(.int .i64 r0.For), u13, u15], ov [v7] (vec n (upd gd (r0.For.toNat) (max (gd (r0.For.toNat)) ((gd (y3.toNat)) + 1))) : (List Int)), bx g4 [(.int .i64 b.Nodes), u1]]) rfl ?_
                    refine C_reg ?_
                    refine p1 rfl ?_
                    refine q1 rfl (D_add rfl rfl rfl (r := ((m + 1 : Nat) : Int)) (by omega) (by omega)) ?_
                    refine p1 rfl ?_
                    refine D_end ?_
                    refine x_then ?_
                    refine fun ac w' hf hs => ⟨_, ?_, m + 1, (upd gd (r0.For.toNat) (max (gd (r0.For.toNat)) ((gd (y3.toNat)) + 1))), ?_, ?_, ?_, ?_, ?_, rfl, hf.weak ⟨rfl, rfl, rfl, rfl, rfl, rfl, trivial⟩, hs⟩
                    · omega
                    · first | assumption | omega | simp
                    · exact hG4.set (by have := hG4 r0.For.toNat; omega) (by have := hG4.out hsol hm0 hy3; have := (hG4 r0.For.toNat).2; omega)
                    · exact hP4.up (by omega)
                    · rw [upd_self]; intro i h y hy; have := hi4 i h y hy; omega
                    · rw [upd_self]; refine forall_step (fun i h y hy => ?_) ?_; (· have := ho4 i h y hy; omega); (· intro y hy; obtain rfl : y = y3 := Option.some.inj (hy.symm.trans hy3); have := hP4.1 y.toNat; omega)
                  · have pr28 : ¬ (((m : Nat) : Int) : Int) < ((r0.Out.length : Nat) : Int) := of_decide_eq_false h28
                    refine C_exit ?_
                    refine x_then_exit ?_
                    refine x_then_exit ?_
                    refine x_blk_eq ?_
                    refine x_blk ?_
                    refine x_then ?_
                    refine C_reg ?_
                    refine p1 rfl ?_
                    refine q1 rfl (D_add rfl rfl rfl (r := ((k + 1 : Nat) : Int)) (by omega) (by omega)) ?_
                    refine p1 rfl ?_
                    refine D_end ?_
                    refine x_then ?_
                    refine fun ac w' hf hs => ⟨_, ?_, k + 1, gd, ?_, ?_, ?_, rfl, hf.weak ⟨rfl, rfl, rfl, rfl, trivial⟩, hs.pk [1, 2] rfl rfl⟩
                    · omega
                    · first | assumption | omega | simp
                    · exact hG4
                    · exact hP4.next hr0 hi4 (fun i h => ho4 i (by omega))
          · have pr9 : ¬ (((k : Nat) : Int) : Int) < ((b.Reasons.length : Nat) : Int) := of_decide_eq_false h9
            refine C_exit ?_
            refine x_then_exit ?_
            refine x_then_exit ?_
            refine x_blk_eq ?_
            refine x_blk ?_
            refine x_then ?_
            refine C_reg ?_
            refine p1 rfl ?_
            refine q1 rfl (D_add rfl rfl rfl (r := ((q + 1 : Nat) : Int)) (by omega) (by omega)) ?_
            refine p1 rfl ?_
            refine D_end ?_
            refine x_then ?_
            refine fun ac w' hf hs => ⟨_, ?_, q + 1, gb, ?_, ?_, ?_, rfl, hf.weak ⟨rfl, rfl, rfl, trivial⟩, hs⟩
            · omega
            · first | assumption | omega | simp
            · exact hG2
            · exact pass_fin hn ho hsol hG hG2 (by rwa [show k = b.Reasons.length by omega] at hP) hQ
      · have pr8 : ¬ (((q : Nat) : Int) : Int) ≤ b.Nodes := of_decide_eq_false h8
        refine C_exit ?_
        refine x_then_exit ?_
        refine x_then_exit ?_
        refine x_blk_eq ?_
        refine x_then ?_
        refine C_seq ?_
        refine C_reg ?_
        refine p1 rfl <| p1 rfl ?_
        refine D_end ?_
        refine x_then ?_
        refine C_ret ?_
        refine R_1 rfl rfl fun w' hs => res_of (k := 0) hs rfl ?_
        show vec n ga = strataOf b
        rw [strataOf_t hst, show b.Nodes.toNat = n by omega]; exact fin_done (by have := cnt_le n (fun x => decide (ga x = strat b x)); rcases hQ with h | h <;> (unfold fin at *; omega))
end Go.Sy.Bel6
