/-
  Contracts of functions of the program, walked (printed by a program of ours).
  Conditions: those that each theorem states.
-/
import Derived.Test.YtkdghbglefhcjaaBel5
import Derived.Test.YtkdghbglefhcjaaGraph
set_option linter.unusedVariables false
set_option maxRecDepth 20000
namespace Go.Sy.Bel6
open Go Go.RowKit Go.Proofs Go.Sy
theorem mixed : Try.prog.follows .mixedOrders = true := by kernel_rfl
theorem f_26_0 : fieldOff Try.prog 26 0 = some 0 := by kernel_rfl
theorem o_3 : oneTy Try.prog 3 = true := by kernel_rfl
theorem s_27 : sliceTy Try.prog 27 = some (3, 1, 8) := by kernel_rfl
theorem y_3 : zeroTy Try.prog 3 = some (.int .i64 0) := by kernel_rfl
theorem f_26_1 : fieldOff Try.prog 26 1 = some 1 := by kernel_rfl
theorem o_24 : oneTy Try.prog 24 = true := by kernel_rfl
theorem s_24 : sliceTy Try.prog 24 = some (31, 3, 56) := by kernel_rfl
theorem a_31 : aggTy Try.prog 31 = some 3 := by kernel_rfl
theorem y_31 : zeroTy Try.prog 31 = some (.agg #[(.int .i64 0), (.slice none 0 0), (.slice none 0 0)]) := by kernel_rfl
theorem z_31 : sizeTy Try.prog 31 = some 3 := by kernel_rfl
theorem f_31_0 : fieldOff Try.prog 31 0 = some 0 := by kernel_rfl
theorem f_31_1 : fieldOff Try.prog 31 1 = some 1 := by kernel_rfl
theorem o_27 : oneTy Try.prog 27 = true := by kernel_rfl
theorem f_31_2 : fieldOff Try.prog 31 2 = some 2 := by kernel_rfl
theorem z_3 : sizeTy Try.prog 3 = some 1 := by kernel_rfl
open Go.Sy.Bel1 Go.Sy.Bel2 Go.Sy.Bel3 Go.Sy.Bel4 Go.Sy.Bel5
set_option maxHeartbeats 4000000 in
theorem impl_strata (w : World) (c_b : List Value) (b : Beliefs) (h_b : Gd.rd w c_b b) (ho : okB b = true) (hsol : HasSol b) : Calls Try.prog 67 [(.agg c_b.toArray)].toArray w (Res w (vec b.Nodes.toNat (strat b) : List Int)) := by
  obtain ⟨u1, rfl, hu2⟩ := open_Beliefs h_b
  have hm3 := rd_max hu2
  have hbn := okB_nodes ho
  obtain ⟨n, hn⟩ : ∃ n : Nat, b.Nodes = (n : Int) := ⟨b.Nodes.toNat, by omega⟩
  refine enter 71 Try.func67 rfl rfl rfl ?_
  refine C_seq ?_
  refine C_reg ?_
  refine li rfl (D_box rfl rfl rfl rfl rfl fun g4 => ?_)
  refine p1 rfl ?_
  refine D_end ?_
  refine x_then ?_
  refine D_H ([bx g4 [(.int .i64 b.Nodes), u1]]) rfl ?_
  refine C_seq ?_
  refine C_reg ?_
  refine q1 rfl (D_fb f_26_0 rfl rfl (q := 0) rfl) ?_
  refine q1 rfl (lb 0 o_3 rfl rfl rfl rfl) ?_
  refine li rfl (D_mk (α := Int) (z := 0) s_27 y_3 rfl (congrArg (fun z => some (Value.int .i64 z)) hn) rfl rfl (by omega) (by omega) fun v5 => ?_)
  refine D_eq 0 rfl (vec_rep _ _) ?_
  refine p1 rfl ?_
  refine D_end ?_
  refine x_then ?_
  refine D_H ([ov [v5] (vec n (fun _ => 0) : (List Int)), bx g4 [(.int .i64 b.Nodes), u1]]) rfl ?_
  refine C_seq ?_
  refine C_seq ?_
  refine C_reg ?_
  refine p1 rfl ?_
  refine D_end ?_
  refine x_then ?_
  refine C_block ?_
  refine C_loop (fun m_ ac w' => ∃ (more : Bool), ∃ (ga : Nat → Int), (StG b ga) ∧ (more = false → Sol b ga) ∧ m_ = 2 * gap n (strat b) ga + (if more then 1 else 0) ∧ Fits ac 71 [(1, (.pointer (some ⟨g4, 0, none⟩))), (3, v5), (4, (.bool more))] ∧ St w ([ov [v5] (vec n ga : (List Int)), bx g4 [(.int .i64 b.Nodes), u1]]) w') ?_ ?_
  · refine fun ac w' hf hs => ⟨_, true, (fun _ => 0), ?_, ?_, rfl, hf.weak ⟨rfl, rfl, rfl, trivial⟩, hs⟩
    · exact StG.zero b
    · intro e; cases e
  · rintro m_ ac w' ⟨more, ga, hG, hC, rfl, hf, hs⟩
    refine D.use ?_ hf hs
    clear hf hs ac w'
    refine C_seq ?_
    refine C_seq ?_
    refine C_reg ?_
    refine p1 rfl ?_
    refine D_end ?_
    refine x_then ?_
    refine D_H ([ov [v5] (vec n ga : (List Int)), bx g4 [(.int .i64 b.Nodes), u1]]) rfl ?_
    refine C_if _ rfl (fun h6 => ?_) (fun h6 => ?_)
    · refine C_skip ?_
      refine x_then ?_
      refine C_block ?_
      refine C_seq ?_
      refine C_reg ?_
      refine p1 rfl ?_
      refine D_end ?_
      refine x_then ?_
      refine C_seq ?_
      refine C_reg ?_
      refine q1 rfl (D_fb f_26_1 rfl rfl (q := 1) rfl) ?_
      refine q1 rfl (lb 1 o_24 rfl rfl rfl rfl) ?_
      refine q1 rfl (D_len s_24 rfl rfl (rd_sl hu2)) ?_
      refine p1 rfl ?_
      refine D_end ?_
      refine x_then ?_
      refine C_block ?_
      refine C_loop (fun m_ ac w' => ∃ (k : Nat), ∃ (more2 : Bool), ∃ (gb : Nat → Int), (k ≤ b.Reasons.length) ∧ (StG b gb) ∧ (PassE b ga gb more2 k n) ∧ m_ = b.Reasons.length - k ∧ Fits ac 71 [(1, (.pointer (some ⟨g4, 0, none⟩))), (3, v5), (4, (.bool more2)), (17, u1), (18, (.int .i64 ((b.Reasons.length : Nat) : Int))), (19, (.int .i64 ((k : Nat) : Int)))] ∧ St w ([ov [v5] (vec n gb : (List Int)), bx g4 [(.int .i64 b.Nodes), u1]]) w') ?_ ?_
      · refine fun ac w' hf hs => ⟨_, 0, false, ga, ?_, ?_, ?_, rfl, hf.weak ⟨rfl, rfl, rfl, rfl, rfl, rfl, trivial⟩, hs⟩
        · first | assumption | omega | simp
        · first | assumption | omega | simp
        · exact PassE.zero b ga n
      · rintro m_ ac w' ⟨k, more2, gb, hk, hG2, hE, rfl, hf, hs⟩
        refine D.use ?_ hf hs
        clear hf hs ac w'
        refine C_seq ?_
        refine C_reg ?_
        refine p1 rfl ?_
        refine D_end ?_
        refine x_then ?_
        refine D_H ([ov [v5] (vec n gb : (List Int)), bx g4 [(.int .i64 b.Nodes), u1]]) rfl ?_
        refine C_seq ?_
        refine C_if _ rfl (fun h7 => ?_) (fun h7 => ?_)
        · have pr7 : (((k : Nat) : Int) : Int) < ((b.Reasons.length : Nat) : Int) := of_decide_eq_true h7
          refine C_skip ?_
          refine x_then ?_
          refine C_seq ?_
          refine C_block ?_
          refine C_seq ?_
          refine C_reg ?_
          obtain ⟨r0, hr0⟩ := some_of_lt (l := b.Reasons) (i := k) (by omega)
          have hv0 := okB_r ho hr0
          have hF := isR_for hv0
          have hm0 := List.mem_of_getElem? hr0
          obtain ⟨es8, at9, hr10⟩ := rd_elem (n := 3) rfl hu2 hr0
          obtain ⟨u11, u13, rfl, hu12, hu14⟩ := open_Reason hr10
          have hm15 := rd_max hu12
          have hm16 := rd_max hu14
          refine q1 rfl (D_ix (l := b.Reasons) (j := k) s_24 rfl rfl rfl (fun w' hs => (rd_at hs hu2)) rfl (lt_of_some hr0)) ?_
          refine q1 rfl (lra a_31 rfl rfl at9) ?_
          refine li rfl (D_alloc y_31 rfl rfl rfl rfl fun g17 => ?_)
          refine li rfl (D_stb (vs := [(.int .i64 r0.For), u11, u13]) (cs' := [(.int .i64 r0.For), u11, u13]) 0 z_31 rfl rfl rfl rfl rfl rfl (ocons rfl (ocons (one_rd hu12) (ocons (one_rd hu14) onil))) (by simp) rfl ?_)
          refine D_end ?_
          refine x_then ?_
          refine D_H ([bx g17 [(.int .i64 r0.For), u11, u13], ov [v5] (vec n gb : (List Int)), bx g4 [(.int .i64 b.Nodes), u1]]) rfl ?_
          refine C_seq ?_
          refine C_reg ?_
          refine p1 rfl ?_
          refine q1 rfl (D_fb f_31_0 rfl rfl (q := 0) rfl) ?_
          refine q1 rfl (lb 0 o_3 rfl rfl rfl rfl) ?_
          have hx19 : (vec n gb)[(r0.For.toNat)]? = some (gb (r0.For.toNat)) := vec_get (by omega)
          refine q1 rfl (D_ix (l := (vec n gb)) (j := (r0.For.toNat)) s_27 rfl rfl rfl (fun w' hs => (rd_own (k := 1) hs rfl)) (Int.toNat_of_nonneg (by omega)).symm (lt_of_some hx19)) ?_
          refine q1 rfl (lo (α := Int) 1 o_3 rfl rfl rfl hx19) ?_
          refine p1 rfl ?_
          refine D_end ?_
          refine x_then ?_
          refine C_seq ?_
          refine C_seq ?_
          refine C_reg ?_
          refine q1 rfl (D_fb f_31_1 rfl rfl (q := 1) rfl) ?_
          refine q1 rfl (lb 0 o_27 rfl rfl rfl rfl) ?_
          refine q1 rfl (D_len s_27 rfl rfl (rd_sl hu12)) ?_
          refine p1 rfl ?_
          refine D_end ?_
          refine x_then ?_
          refine C_block ?_
          refine C_loop (fun m_ ac w' => ∃ (m : Nat), ∃ (nn : Int), (m ≤ r0.In.length) ∧ (gb r0.For.toNat ≤ nn) ∧ (nn ≤ strat b r0.For.toNat) ∧ (∀ i, i < m → ∀ y, r0.In[i]? = some y → gb y.toNat ≤ nn) ∧ m_ = r0.In.length - m ∧ Fits ac 71 [(1, (.pointer (some ⟨g4, 0, none⟩))), (3, v5), (4, (.bool more2)), (6, (.pointer (some ⟨g17, 0, none⟩))), (7, (.int .i64 nn)), (17, u1), (18, (.int .i64 ((b.Reasons.length : Nat) : Int))), (19, (.int .i64 ((k : Nat) : Int))), (29, u11), (30, (.int .i64 ((r0.In.length : Nat) : Int))), (31, (.int .i64 ((m : Nat) : Int)))] ∧ St w ([bx g17 [(.int .i64 r0.For), u11, u13], ov [v5] (vec n gb : (List Int)), bx g4 [(.int .i64 b.Nodes), u1]]) w') ?_ ?_
          · refine fun ac w' hf hs => ⟨_, 0, (gb (r0.For.toNat)), ?_, ?_, ?_, ?_, rfl, hf.weak ⟨rfl, rfl, rfl, rfl, rfl, rfl, rfl, rfl, rfl, rfl, rfl, trivial⟩, hs⟩
            · first | assumption | omega | simp
            · exact Int.le_refl _
            · exact (hG2 _).2
            · intro i hi; omega
          · rintro m_ ac w' ⟨m, nn, hm, hn1, hn2, hn3, rfl, hf, hs⟩
            refine D.use ?_ hf hs
            clear hf hs ac w'
            refine C_seq ?_
            refine C_reg ?_
            refine p1 rfl ?_
            refine D_end ?_
            refine x_then ?_
            refine C_seq ?_
            refine C_if _ rfl (fun h20 => ?_) (fun h20 => ?_)
            · have pr20 : (((m : Nat) : Int) : Int) < ((r0.In.length : Nat) : Int) := of_decide_eq_true h20
              refine C_skip ?_
              refine x_then ?_
              refine C_seq ?_
              refine C_block ?_
              refine C_seq ?_
              refine C_reg ?_
              obtain ⟨y2, hy2⟩ := some_of_lt (l := r0.In) (i := m) (by omega)
              have hyn := asc_at (isR_in hv0) hy2
              obtain ⟨es21, at22, hr23⟩ := rd_elem (n := 1) rfl hu12 hy2
              obtain rfl : es21 = [.int .i64 y2] := hr23
              refine q1 rfl (D_ix (l := r0.In) (j := m) s_27 rfl rfl rfl (fun w' hs => (rd_at hs hu12)) rfl (lt_of_some hy2)) ?_
              refine q1 rfl (lr0 o_3 rfl rfl at22 rfl) ?_
              refine p1 rfl ?_
              refine D_end ?_
              refine x_then ?_
              refine C_reg ?_
              refine p1 rfl <| p1 rfl <| p1 rfl ?_
              have hx25 : (vec n gb)[(y2.toNat)]? = some (gb (y2.toNat)) := vec_get (by omega)
              refine q1 rfl (D_ix (l := (vec n gb)) (j := (y2.toNat)) s_27 rfl rfl rfl (fun w' hs => (rd_own (k := 1) hs rfl)) (Int.toNat_of_nonneg (by omega)).symm (lt_of_some hx25)) ?_
              refine q1 rfl (lo (α := Int) 1 o_3 rfl rfl rfl hx25) ?_
              refine q1 rfl (D_max rfl rfl rfl) ?_
              refine p1 rfl ?_
              refine D_end ?_
              refine x_blk ?_
              refine x_then ?_
              refine C_reg ?_
              refine q1 rfl (D_add rfl rfl rfl (r := ((m + 1 : Nat) : Int)) (by omega) (by omega)) ?_
              refine p1 rfl ?_
              refine D_end ?_
              refine x_then ?_
              refine fun ac w' hf hs => ⟨_, ?_, m + 1, (max nn (gb (y2.toNat))), ?_, ?_, ?_, ?_, rfl, hf.weak ⟨rfl, rfl, rfl, rfl, rfl, rfl, rfl, rfl, rfl, rfl, rfl, trivial⟩, hs⟩
              · omega
              · first | assumption | omega | simp
              · omega
              · have := hG2.in hsol hm0 hy2; omega
              · refine forall_step (fun i h y hy => ?_) ?_; (· have := hn3 i h y hy; omega); (· intro y hy; obtain rfl : y = y2 := Option.some.inj (hy.symm.trans hy2); omega)
            · have pr20 : ¬ (((m : Nat) : Int) : Int) < ((r0.In.length : Nat) : Int) := of_decide_eq_false h20
              refine C_exit ?_
              refine x_then_exit ?_
              refine x_then_exit ?_
              refine x_blk_eq ?_
              refine x_then ?_
              refine C_seq ?_
              refine C_seq ?_
              refine C_reg ?_
              refine q1 rfl (D_fb f_31_2 rfl rfl (q := 2) rfl) ?_
              refine q1 rfl (lb 0 o_27 rfl rfl rfl rfl) ?_
              refine q1 rfl (D_len s_27 rfl rfl (rd_sl hu14)) ?_
              refine p1 rfl ?_
              refine D_end ?_
              refine x_then ?_
              refine C_block ?_
              refine C_loop (fun m_ ac w' => ∃ (m : Nat), ∃ (nn : Int), (m ≤ r0.Out.length) ∧ (gb r0.For.toNat ≤ nn) ∧ (nn ≤ strat b r0.For.toNat) ∧ (∀ i, i < r0.In.length → ∀ y, r0.In[i]? = some y → gb y.toNat ≤ nn) ∧ (∀ i, i < m → ∀ y, r0.Out[i]? = some y → gb y.toNat + 1 ≤ nn) ∧ m_ = r0.Out.length - m ∧ Fits ac 71 [(1, (.pointer (some ⟨g4, 0, none⟩))), (3, v5), (4, (.bool more2)), (6, (.pointer (some ⟨g17, 0, none⟩))), (7, (.int .i64 nn)), (17, u1), (18, (.int .i64 ((b.Reasons.length : Nat) : Int))), (19, (.int .i64 ((k : Nat) : Int))), (43, u13), (44, (.int .i64 ((r0.Out.length : Nat) : Int))), (45, (.int .i64 ((m : Nat) : Int)))] ∧ St w ([bx g17 [(.int .i64 r0.For), u11, u13], ov [v5] (vec n gb : (List Int)), bx g4 [(.int .i64 b.Nodes), u1]]) w') ?_ ?_
              · refine fun ac w' hf hs => ⟨_, 0, nn, ?_, ?_, ?_, ?_, ?_, rfl, hf.weak ⟨rfl, rfl, rfl, rfl, rfl, rfl, rfl, rfl, rfl, rfl, rfl, trivial⟩, hs⟩
                · first | assumption | omega | simp
                · exact hn1
                · exact hn2
                · exact fun i h => hn3 i (by omega)
                · intro i hi; omega
              · rintro m_ ac w' ⟨m, nn, hm, hn1, hn2, hn3, hn4, rfl, hf, hs⟩
                refine D.use ?_ hf hs
                clear hf hs ac w'
                refine C_seq ?_
                refine C_reg ?_
                refine p1 rfl ?_
                refine D_end ?_
                refine x_then ?_
                refine C_seq ?_
                refine C_if _ rfl (fun h26 => ?_) (fun h26 => ?_)
                · have pr26 : (((m : Nat) : Int) : Int) < ((r0.Out.length : Nat) : Int) := of_decide_eq_true h26
                  refine C_skip ?_
                  refine x_then ?_
                  refine C_seq ?_
                  refine C_block ?_
                  refine C_seq ?_
                  refine C_reg ?_
                  obtain ⟨y3, hy3⟩ := some_of_lt (l := r0.Out) (i := m) (by omega)
                  have hyn := asc_at (isR_out hv0) hy3
                  obtain ⟨es27, at28, hr29⟩ := rd_elem (n := 1) rfl hu14 hy3
                  obtain rfl : es27 = [.int .i64 y3] := hr29
                  refine q1 rfl (D_ix (l := r0.Out) (j := m) s_27 rfl rfl rfl (fun w' hs => (rd_at hs hu14)) rfl (lt_of_some hy3)) ?_
                  refine q1 rfl (lr0 o_3 rfl rfl at28 rfl) ?_
                  refine p1 rfl ?_
                  refine D_end ?_
                  refine x_then ?_
                  refine C_reg ?_
                  refine p1 rfl <| p1 rfl <| p1 rfl ?_
                  have hx31 : (vec n gb)[(y3.toNat)]? = some (gb (y3.toNat)) := vec_get (by omega)
                  refine q1 rfl (D_ix (l := (vec n gb)) (j := (y3.toNat)) s_27 rfl rfl rfl (fun w' hs => (rd_own (k := 1) hs rfl)) (Int.toNat_of_nonneg (by omega)).symm (lt_of_some hx31)) ?_
                  refine q1 rfl (lo (α := Int) 1 o_3 rfl rfl rfl hx31) ?_
                  have hlt := hG2.lt hsol (x := y3.toNat) (by omega)
                  refine q1 rfl (D_add rfl rfl rfl rfl (by omega)) ?_
                  refine q1 rfl (D_max rfl rfl rfl) ?_
                  refine p1 rfl ?_
                  refine D_end ?_
                  refine x_blk ?_
                  refine x_then ?_
                  refine C_reg ?_
                  refine q1 rfl (D_add rfl rfl rfl (r := ((m + 1 : Nat) : Int)) (by omega) (by omega)) ?_
                  refine p1 rfl ?_
                  refine D_end ?_
                  refine x_then ?_
                  refine fun ac w' hf hs => ⟨_, ?_, m + 1, (max nn ((gb (y3.toNat)) + 1)), ?_, ?_, ?_, ?_, ?_, rfl, hf.weak ⟨rfl, rfl, rfl, rfl, rfl, rfl, rfl, rfl, rfl, rfl, rfl, trivial⟩, hs⟩
                  · omega
                  · first | assumption | omega | simp
                  · omega
                  · have := hG2.out hsol hm0 hy3; omega
                  · intro i h y hy; have := hn3 i h y hy; omega
                  · refine forall_step (fun i h y hy => ?_) ?_; (· have := hn4 i h y hy; omega); (· intro y hy; obtain rfl : y = y3 := Option.some.inj (hy.symm.trans hy3); omega)
                · have pr26 : ¬ (((m : Nat) : Int) : Int) < ((r0.Out.length : Nat) : Int) := of_decide_eq_false h26
                  refine C_exit ?_
                  refine x_then_exit ?_
                  refine x_then_exit ?_
                  refine x_blk_eq ?_
                  refine x_then ?_
                  refine C_seq ?_
                  refine C_reg ?_
                  refine p1 rfl <| p1 rfl ?_
                  refine q1 rfl (D_fb f_31_0 rfl rfl (q := 0) rfl) ?_
                  refine q1 rfl (lb 0 o_3 rfl rfl rfl rfl) ?_
                  have hx33 : (vec n gb)[(r0.For.toNat)]? = some (gb (r0.For.toNat)) := vec_get (by omega)
                  refine q1 rfl (D_ix (l := (vec n gb)) (j := (r0.For.toNat)) s_27 rfl rfl rfl (fun w' hs => (rd_own (k := 1) hs rfl)) (Int.toNat_of_nonneg (by omega)).symm (lt_of_some hx33)) ?_
                  refine q1 rfl (lo (α := Int) 1 o_3 rfl rfl rfl hx33) ?_
                  refine p1 rfl ?_
                  refine D_end ?_
                  refine x_then ?_
                  refine C_if _ rfl (fun h34 => ?_) (fun h34 => ?_)
                  · have pr34 : ((gb (r0.For.toNat)) : Int) < nn := of_decide_eq_true h34
                    refine C_seq ?_
                    refine C_reg ?_
                    refine p1 rfl ?_
                    refine q1 rfl (D_fb f_31_0 rfl rfl (q := 0) rfl) ?_
                    refine q1 rfl (lb 0 o_3 rfl rfl rfl rfl) ?_
                    refine p1 rfl ?_
                    refine q1 rfl (D_ix (l := (vec n gb)) (j := (r0.For.toNat)) s_27 rfl rfl rfl (fun w' hs => (rd_own (k := 1) hs rfl)) (Int.toNat_of_nonneg (by omega)).symm (lt_of_some hx33)) ?_
                    refine li rfl (so (α := Int) (z := nn) 1 z_3 rfl rfl rfl rfl rfl (lt_of_some hx33) ?_)
                    refine D_eq 1 rfl (vec_set _ _ _ _) ?_
                    refine D_end ?_
                    refine x_then ?_
                    refine D_weak [(1, (.pointer (some ⟨g4, 0, none⟩))), (3, v5), (17, u1), (18, (.int .i64 ((b.Reasons.length : Nat) : Int))), (19, (.int .i64 ((k : Nat) : Int)))] ⟨rfl, rfl, rfl, rfl, rfl, trivial⟩ ?_
                    refine D_sel (H' := [ov [v5] (vec n (upd gb (r0.For.toNat) nn) : (List Int)), bx g4 [(.int .i64 b.Nodes), u1]]) [false, true, true] rfl ?_
                    refine C_reg ?_
                    refine p1 rfl ?_
                    refine D_end ?_
                    refine x_blk ?_
                    refine x_then ?_
                    refine C_reg ?_
                    refine q1 rfl (D_add rfl rfl rfl (r := ((k + 1 : Nat) : Int)) (by omega) (by omega)) ?_
                    refine p1 rfl ?_
                    refine D_end ?_
                    refine x_then ?_
                    refine fun ac w' hf hs => ⟨_, ?_, k + 1, true, (upd gb (r0.For.toNat) nn), ?_, ?_, ?_, rfl, hf.weak ⟨rfl, rfl, rfl, rfl, rfl, rfl, trivial⟩, hs⟩
                    · omega
                    · first | assumption | omega | simp
                    · first | exact hG2 | exact hG2.set (by have := hG2 r0.For.toNat; omega) hn2
                    · first | exact hE.up (by omega) (by omega) hn2 _ | exact hE.keep hr0 (by omega) hn3 (fun i h => hn4 i (by omega))
                  · have pr34 : ¬ ((gb (r0.For.toNat)) : Int) < nn := of_decide_eq_false h34
                    refine C_skip ?_
                    refine x_blk ?_
                    refine x_then ?_
                    refine C_reg ?_
                    refine q1 rfl (D_add rfl rfl rfl (r := ((k + 1 : Nat) : Int)) (by omega) (by omega)) ?_
                    refine p1 rfl ?_
                    refine D_end ?_
                    refine x_then ?_
                    refine fun ac w' hf hs => ⟨_, ?_, k + 1, more2, gb, ?_, ?_, ?_, rfl, hf.weak ⟨rfl, rfl, rfl, rfl, rfl, rfl, trivial⟩, hs.pk [1, 2] rfl rfl⟩
                    · omega
                    · first | assumption | omega | simp
                    · first | exact hG2 | exact hG2.set (by have := hG2 r0.For.toNat; omega) hn2
                    · first | exact hE.up (by omega) (by omega) hn2 _ | exact hE.keep hr0 (by omega) hn3 (fun i h => hn4 i (by omega))
        · have pr7 : ¬ (((k : Nat) : Int) : Int) < ((b.Reasons.length : Nat) : Int) := of_decide_eq_false h7
          refine C_exit ?_
          refine x_then_exit ?_
          refine x_then_exit ?_
          refine x_blk_eq ?_
          refine x_blk ?_
          refine x_then ?_
          refine fun ac w' hf hs => ⟨_, ?_, more2, gb, ?_, ?_, rfl, hf.weak ⟨rfl, rfl, rfl, trivial⟩, hs⟩
          · rw [show more = true by assumption, if_pos rfl]; have e1 := hE.1; cases hmm : more2 with | true => (have e2 := hE.2.1 hmm; rw [if_pos rfl]; omega) | false => (rw [if_neg (by simp)]; omega)
          · exact hG2
          · exact hE.sol (by omega) hG2
    · refine C_exit ?_
      refine x_then_exit ?_
      refine x_then_exit ?_
      refine x_blk_eq ?_
      refine x_then ?_
      refine C_seq ?_
      refine C_reg ?_
      refine p1 rfl <| p1 rfl ?_
      refine D_end ?_
      refine x_then ?_
      refine C_ret ?_
      refine R_1 rfl rfl fun w' hs => res_of (k := 0) hs rfl ?_
      show vec n ga = vec b.Nodes.toNat (strat b)
      rw [show b.Nodes.toNat = n by omega]; exact strata_done hG (hC h6)
end Go.Sy.Bel6
