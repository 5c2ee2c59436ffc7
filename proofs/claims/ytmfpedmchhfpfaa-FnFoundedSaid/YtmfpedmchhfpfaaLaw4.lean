/-
  Contracts of functions of the program, walked (printed by a program of ours).
  Conditions: those that each theorem states.
-/
import Derived.Test.YtmfpedmchhfpfaaLaw1
import Derived.Test.YtmfpedmchhfpfaaCur2
import Derived.Test.YtmfpedmchhfpfaaLw4
import Derived.Test.YtmfpedmchhfpfaaSlc
set_option linter.unusedVariables false
set_option maxRecDepth 20000
namespace Go.Sy.Law4
open Go Go.RowKit Go.Proofs Go.Sy
theorem mixed : Try.prog.follows .mixedOrders = true := by kernel_rfl
theorem b_8 : hasBody Try.prog 8 = true := by kernel_rfl
theorem b_22 : hasBody Try.prog 22 = true := by kernel_rfl
theorem y_26 : zeroTy Try.prog 26 = some (.agg #[(.int .i64 0), (.slice none 0 0)]) := by kernel_rfl
theorem z_26 : sizeTy Try.prog 26 = some 2 := by kernel_rfl
theorem a_26 : aggTy Try.prog 26 = some 2 := by kernel_rfl
theorem b_23 : hasBody Try.prog 23 = true := by kernel_rfl
theorem s_28 : sliceTy Try.prog 28 = some (3, 1, 8) := by kernel_rfl
theorem b_24 : hasBody Try.prog 24 = true := by kernel_rfl
theorem f_26_1 : fieldOff Try.prog 26 1 = some 1 := by kernel_rfl
theorem o_24 : oneTy Try.prog 24 = true := by kernel_rfl
theorem s_24 : sliceTy Try.prog 24 = some (31, 3, 56) := by kernel_rfl
theorem f_31_2 : fieldOff Try.prog 31 2 = some 2 := by kernel_rfl
theorem o_28 : oneTy Try.prog 28 = true := by kernel_rfl
theorem b_18 : hasBody Try.prog 18 = true := by kernel_rfl
theorem o_3 : oneTy Try.prog 3 = true := by kernel_rfl
theorem s_34 : sliceTy Try.prog 34 = some (4, 1, 1) := by kernel_rfl
theorem f_31_0 : fieldOff Try.prog 31 0 = some 0 := by kernel_rfl
theorem b_12 : hasBody Try.prog 12 = true := by kernel_rfl
theorem o_4 : oneTy Try.prog 4 = true := by kernel_rfl
theorem b_9 : hasBody Try.prog 9 = true := by kernel_rfl
theorem b_25 : hasBody Try.prog 25 = true := by kernel_rfl
theorem b_26 : hasBody Try.prog 26 = true := by kernel_rfl
theorem ub_4 : Try.prog.underlying 4 = some .bool := by kernel_rfl
theorem b_27 : hasBody Try.prog 27 = true := by kernel_rfl
open Go.Sy.Bel1 Go.Sy.Bel4 Go.Sy.Bel5 Go.Sy.Bel6 Go.Sy.Bel7 Go.Sy.Bel8 Go.Sy.Bel9 Go.Sy.Bela Go.Sy.Belc Go.Sy.Beld Go.Sy.Cur1 Go.Sy.Law1 Go.Sy.Cur2
set_option maxHeartbeats 4000000 in
theorem laws_FnWithdrawn (w : World) (v_code : Value) (code : (List UInt8)) (h_code : Gd.rd w [v_code] code) : Calls Try.prog 6 [v_code].toArray w (Val w (.bool (true))) := by
  have hm1 := rd_max h_code
  refine enter 121 Try.func6 rfl rfl rfl ?_
  refine C_seq ?_
  refine C_reg ?_
  refine p1 rfl ?_
  refine D_end ?_
  refine x_then ?_
  refine C_seq ?_
  refine C_seq ?_
  refine C_reg ?_
  refine p1 rfl ?_
  refine li rfl (cv b_8 rfl rfl rfl rfl (fun w' hs => (laws_big w' v_code code (rd_at hs h_code))) ?_)
  refine D_end ?_
  refine x_then ?_
  refine C_if _ rfl (fun h2 => ?_) (fun h2 => ?_)
  · refine C_seq ?_
    refine C_reg ?_
    refine p1 rfl ?_
    refine D_end ?_
    refine x_then ?_
    refine C_ret ?_
    refine x_then_ret ?_
    refine R_1 rfl rfl fun w' hs => ⟨congrArg (fun z => Ending.returned (Value.bool z)) ?_, hs.bel⟩
    show (true : Bool) = true
    rfl
  · refine C_skip ?_
    refine x_then ?_
    refine C_seq ?_
    refine C_reg ?_
    refine p1 rfl ?_
    refine li rfl (crB2 (α := Beliefs) (β := Int) b_22 rfl rfl rfl rfl (fun w' hs => (spec_DrawConsequencesOf w' v_code code (rd_at hs h_code))) fun y3 y4 cs5 cs6 hy3 wb7 hxb8 hrb9 hrb10 => ?_)
    have hb11 := Gd.rd_ext hxb8 h_code
    obtain ⟨u12, rfl, hu13⟩ := open_Beliefs hrb9
    have hm14 := rd_max hu13
    obtain rfl : cs6 = [(.int .i64 y4)] := hrb10
    refine D_re 14 (v' := (.tuple #[(.agg #[(.int .i64 y3.Nodes), u12]), (.int .i64 y4)])) rfl rfl rfl ?_
    refine p1 rfl <| p1 rfl <| p1 rfl ?_
    refine li rfl (D_alloc y_26 rfl rfl rfl rfl fun g15 => ?_)
    refine li rfl (D_stb (vs := [(.int .i64 y3.Nodes), u12]) (cs' := [(.int .i64 y3.Nodes), u12]) 0 z_26 rfl rfl rfl rfl rfl rfl (ocons rfl (ocons (one_rd hu13) onil)) (by simp) rfl ?_)
    refine p1 rfl ?_
    refine D_end ?_
    refine x_then ?_
    refine D_H ([bx g15 [(.int .i64 y3.Nodes), u12]]) rfl ?_
    refine C_seq ?_
    have hcl := conseq_len y3 y4
    refine C_reg ?_
    refine q1 rfl (lbw 0 a_26 rfl rfl rfl) ?_
    refine p1 rfl ?_
    refine li rfl (crl b_23 rfl rfl rfl rfl (fun w' hs => (impl_ConsequencesOf w' [(.int .i64 y3.Nodes), u12] y3 y4 (rd_at hs hrb9) (by first | assumption | omega | (unfold szm at *; split at * <;> omega)))) fun v16 => ?_)
    refine p1 rfl ?_
    refine D_end ?_
    refine x_then ?_
    refine D_H ([ov [v16] (conseq y3 y4 : (List Int)), bx g15 [(.int .i64 y3.Nodes), u12]]) rfl ?_
    refine C_seq ?_
    refine C_seq ?_
    refine C_reg ?_
    refine p1 rfl ?_
    refine q1 rfl (D_leno 0 s_28 rfl rfl rfl) ?_
    refine q1 rfl (lbw 1 a_26 rfl rfl rfl) ?_
    refine p1 rfl ?_
    refine li rfl (crl b_24 rfl rfl rfl rfl (fun w' hs => (spec_ConsequencesOf w' [(.int .i64 y3.Nodes), u12] y3 y4 (rd_at hs hrb9) (by first | assumption | omega | (unfold szm at *; split at * <;> omega)))) fun v17 => ?_)
    refine q1 rfl (D_leno 0 s_28 rfl rfl rfl) ?_
    refine p1 rfl ?_
    refine D_end ?_
    refine x_then ?_
    refine D_weak [(3, (.pointer (some ⟨g15, 0, none⟩))), (4, (.int .i64 y4)), (5, v16), (26, (.bool (((((conseq y3 y4).length : Nat) : Int) : Int) != (((conseq y3 y4).length : Nat) : Int))))] ⟨rfl, rfl, rfl, rfl, trivial⟩ ?_
    refine D_sel (H' := [ov [v16] (conseq y3 y4 : (List Int)), bx g15 [(.int .i64 y3.Nodes), u12]]) [false, true, true] rfl ?_
    refine C_if _ rfl (fun h18 => ?_) (fun h18 => ?_)
    · have pr18 : ((((conseq y3 y4).length : Nat) : Int) : Int) ≠ (((conseq y3 y4).length : Nat) : Int) := bne_iff_ne.1 h18
      refine C_seq ?_
      refine C_reg ?_
      refine p1 rfl ?_
      refine D_end ?_
      refine x_then ?_
      refine C_ret ?_
      refine x_then_ret ?_
      refine R_1 rfl rfl fun w' hs => ⟨congrArg (fun z => Ending.returned (Value.bool z)) ?_, (hxb8.trans hs.bel)⟩
      show (false : Bool) = true
      first | rfl | (exfalso; omega) | (exfalso; have hq := cons_k (b := y3) (k := y4) (by omega); omega) | (exfalso; have hq1 := hcm.2.1; have hq2 := hcm.2.2.1; omega) | (exfalso; rcases cons_dep hy0 hr0 with hq | hq <;> simp_all; done) | (exfalso; have hq := cons_noK hy0 (hou (by simp_all)) (by omega) hlv; simp_all; done)
    · have pr18 : ((((conseq y3 y4).length : Nat) : Int) : Int) = (((conseq y3 y4).length : Nat) : Int) := eq_of_bne_f h18
      refine C_skip ?_
      refine x_then ?_
      refine C_seq ?_
      refine C_seq ?_
      refine C_reg ?_
      refine p1 rfl ?_
      refine q1 rfl (D_leno 0 s_28 rfl rfl rfl) ?_
      refine p1 rfl ?_
      refine D_end ?_
      refine x_then ?_
      refine C_if _ rfl (fun h19 => ?_) (fun h19 => ?_)
      · have pr19 : ((((conseq y3 y4).length : Nat) : Int) : Int) = 0 := eq_of_beq h19
        refine C_seq ?_
        refine C_reg ?_
        refine p1 rfl ?_
        refine D_end ?_
        refine x_then ?_
        refine C_ret ?_
        refine x_then_ret ?_
        refine R_1 rfl rfl fun w' hs => ⟨congrArg (fun z => Ending.returned (Value.bool z)) ?_, (hxb8.trans hs.bel)⟩
        show (true : Bool) = true
        first | rfl | (exfalso; omega) | (exfalso; have hq := cons_k (b := y3) (k := y4) (by omega); omega) | (exfalso; have hq1 := hcm.2.1; have hq2 := hcm.2.2.1; omega) | (exfalso; rcases cons_dep hy0 hr0 with hq | hq <;> simp_all; done) | (exfalso; have hq := cons_noK hy0 (hou (by simp_all)) (by omega) hlv; simp_all; done)
      · have pr19 : ((((conseq y3 y4).length : Nat) : Int) : Int) ≠ 0 := ne_of_beq_false h19
        refine C_skip ?_
        refine x_then ?_
        refine C_seq ?_
        refine C_seq ?_
        refine C_reg ?_
        refine p1 rfl <| p1 rfl <| p1 rfl ?_
        refine gs 32 rfl rfl (fun h20 => ?_) (fun h20 => ?_)
        · have pr20 : (y4 : Int) < 0 := of_decide_eq_true h20
          refine n1 rfl ?_
          refine n1 rfl ?_
          refine n1 rfl ?_
          refine n1 rfl ?_
          refine n1 rfl ?_
          refine p1 rfl ?_
          refine D_end ?_
          refine x_then ?_
          refine C_t rfl ?_
          refine C_seq ?_
          refine C_reg ?_
          refine p1 rfl ?_
          refine D_end ?_
          refine x_then ?_
          refine D_weak [(2, (.bool false))] ⟨rfl, trivial⟩ ?_
          refine D_sel (H' := []) [false, false] rfl ?_
          refine C_ret ?_
          refine x_then_ret ?_
          refine R_1 rfl rfl fun w' hs => ⟨congrArg (fun z => Ending.returned (Value.bool z)) ?_, (hxb8.trans hs.bel)⟩
          show (false : Bool) = true
          first | rfl | (exfalso; omega) | (exfalso; have hq := cons_k (b := y3) (k := y4) (by omega); omega) | (exfalso; have hq1 := hcm.2.1; have hq2 := hcm.2.2.1; omega) | (exfalso; rcases cons_dep hy0 hr0 with hq | hq <;> simp_all; done) | (exfalso; have hq := cons_noK hy0 (hou (by simp_all)) (by omega) hlv; simp_all; done)
        · have pr20 : ¬ (y4 : Int) < 0 := of_decide_eq_false h20
          refine p1 rfl ?_
          refine q1 rfl (D_fb f_26_1 rfl rfl (q := 1) rfl) ?_
          refine q1 rfl (lb 1 o_24 rfl rfl rfl rfl) ?_
          refine q1 rfl (D_len s_24 rfl rfl (rd_sl hu13)) ?_
          refine p1 rfl <| p1 rfl ?_
          refine D_end ?_
          refine x_then ?_
          refine C_if _ rfl (fun h21 => ?_) (fun h21 => ?_)
          · have pr21 : (((y3.Reasons.length : Nat) : Int) : Int) ≤ y4 := of_decide_eq_true h21
            refine C_seq ?_
            refine C_reg ?_
            refine p1 rfl ?_
            refine D_end ?_
            refine x_then ?_
            refine D_weak [(2, (.bool false))] ⟨rfl, trivial⟩ ?_
            refine D_sel (H' := []) [false, false] rfl ?_
            refine C_ret ?_
            refine x_then_ret ?_
            refine R_1 rfl rfl fun w' hs => ⟨congrArg (fun z => Ending.returned (Value.bool z)) ?_, (hxb8.trans hs.bel)⟩
            show (false : Bool) = true
            first | rfl | (exfalso; omega) | (exfalso; have hq := cons_k (b := y3) (k := y4) (by omega); omega) | (exfalso; have hq1 := hcm.2.1; have hq2 := hcm.2.2.1; omega) | (exfalso; rcases cons_dep hy0 hr0 with hq | hq <;> simp_all; done) | (exfalso; have hq := cons_noK hy0 (hou (by simp_all)) (by omega) hlv; simp_all; done)
          · have pr21 : ¬ (((y3.Reasons.length : Nat) : Int) : Int) ≤ y4 := of_decide_eq_false h21
            refine C_skip ?_
            refine x_then ?_
            refine C_seq ?_
            have hst := cons_st (b := y3) (k := y4) (by omega)
            have hbn := isBeliefs_nodes (strat_b hst)
            have hll := lab_len hst
            refine C_reg ?_
            refine p1 rfl ?_
            refine D_end ?_
            refine x_then ?_
            refine C_seq ?_
            refine C_seq ?_
            refine C_reg ?_
            refine p1 rfl ?_
            refine D_end ?_
            refine x_then ?_
            refine C_block ?_
            refine C_loop (fun m_ ac w' => ∃ (k : Nat), ∃ (ou : Bool), (k ≤ y3.Reasons.length) ∧ (ou = false → ∀ i, i < k → ∀ r, y3.Reasons[i]? = some r → r.Out = []) ∧ m_ = y3.Reasons.length - k ∧ Fits ac 121 [(3, (.pointer (some ⟨g15, 0, none⟩))), (4, (.int .i64 y4)), (5, v16), (6, (.bool ou)), (7, (.int .i64 ((k : Nat) : Int)))] ∧ St wb7 ([ov [v16] (conseq y3 y4 : (List Int)), bx g15 [(.int .i64 y3.Nodes), u12]]) w') ?_ ?_
            · refine fun ac w' hf hs => ⟨_, 0, false, ?_, ?_, rfl, hf.weak ⟨rfl, rfl, rfl, rfl, rfl, trivial⟩, hs⟩
              · first | assumption | omega | simp
              · intro _ i hi; omega
            · rintro m_ ac w' ⟨k, ou, hk, hou, rfl, hf, hs⟩
              refine D.use ?_ hf hs
              clear hf hs ac w'
              refine C_seq ?_
              refine C_seq ?_
              refine C_reg ?_
              refine p1 rfl ?_
              refine q1 rfl (D_fb f_26_1 rfl rfl (q := 1) rfl) ?_
              refine q1 rfl (lb 1 o_24 rfl rfl rfl rfl) ?_
              refine q1 rfl (D_len s_24 rfl rfl (rd_sl hu13)) ?_
              refine p1 rfl ?_
              refine D_end ?_
              refine x_then ?_
              refine C_if _ rfl (fun h22 => ?_) (fun h22 => ?_)
              · have pr22 : (((k : Nat) : Int) : Int) < ((y3.Reasons.length : Nat) : Int) := of_decide_eq_true h22
                refine C_skip ?_
                refine x_then ?_
                refine C_seq ?_
                refine C_block ?_
                refine C_reg ?_
                refine p1 rfl <| p1 rfl ?_
                refine gs 47 rfl rfl (fun h23 => ?_) (fun h23 => ?_)
                · refine n1 rfl ?_
                  refine n1 rfl ?_
                  refine n1 rfl ?_
                  refine n1 rfl ?_
                  refine n1 rfl ?_
                  refine n1 rfl ?_
                  refine n1 rfl ?_
                  refine n1 rfl ?_
                  refine p1 rfl <| p1 rfl ?_
                  refine D_end ?_
                  refine x_blk ?_
                  refine x_then ?_
                  refine D_weak [(3, (.pointer (some ⟨g15, 0, none⟩))), (4, (.int .i64 y4)), (5, v16), (6, (.bool true)), (7, (.int .i64 ((k : Nat) : Int)))] ⟨rfl, rfl, rfl, rfl, rfl, trivial⟩ ?_
                  refine C_reg ?_
                  refine p1 rfl ?_
                  refine q1 rfl (D_add rfl rfl rfl (r := ((k + 1 : Nat) : Int)) (by omega) (by omega)) ?_
                  refine p1 rfl ?_
                  refine D_end ?_
                  refine x_then ?_
                  refine fun ac w' hf hs => ⟨_, ?_, k + 1, true, ?_, ?_, rfl, hf.weak ⟨rfl, rfl, rfl, rfl, rfl, trivial⟩, hs⟩
                  · omega
                  · first | assumption | omega | simp
                  · first | (intro h; cases h; done) | exact outs_f (hou (by assumption)) hrq
                · refine q1 rfl (D_fb f_26_1 rfl rfl (q := 1) rfl) ?_
                  refine q1 rfl (lb 1 o_24 rfl rfl rfl rfl) ?_
                  refine p1 rfl ?_
                  obtain ⟨rq, hrq⟩ := some_of_lt (l := y3.Reasons) (i := k) (by omega)
                  obtain ⟨es24, at25, hr26⟩ := rd_elem (n := 3) rfl hu13 hrq
                  obtain ⟨u27, u29, rfl, hu28, hu30⟩ := open_Reason hr26
                  have hm31 := rd_max hu28
                  have hm32 := rd_max hu30
                  refine q1 rfl (D_ix (l := y3.Reasons) (j := k) s_24 rfl rfl rfl (fun w' hs => (rd_at hs hu13)) rfl (lt_of_some hrq)) ?_
                  refine q1 rfl (D_fa f_31_2 rfl rfl) ?_
                  refine q1 rfl (lr o_28 rfl rfl at25 rfl) ?_
                  refine q1 rfl (D_len s_28 rfl rfl (rd_sl hu30)) ?_
                  refine p1 rfl <| p1 rfl <| p1 rfl ?_
                  refine D_end ?_
                  refine x_blk ?_
                  refine x_then ?_
                  refine D_weak [(3, (.pointer (some ⟨g15, 0, none⟩))), (4, (.int .i64 y4)), (5, v16), (6, (.bool (decide ((0 : Int) < ((rq.Out.length : Nat) : Int))))), (7, (.int .i64 ((k : Nat) : Int)))] ⟨rfl, rfl, rfl, rfl, rfl, trivial⟩ ?_
                  refine C_reg ?_
                  refine p1 rfl ?_
                  refine q1 rfl (D_add rfl rfl rfl (r := ((k + 1 : Nat) : Int)) (by omega) (by omega)) ?_
                  refine p1 rfl ?_
                  refine D_end ?_
                  refine x_then ?_
                  refine fun ac w' hf hs => ⟨_, ?_, k + 1, (decide ((0 : Int) < ((rq.Out.length : Nat) : Int))), ?_, ?_, rfl, hf.weak ⟨rfl, rfl, rfl, rfl, rfl, trivial⟩, hs⟩
                  · omega
                  · first | assumption | omega | simp
                  · first | (intro h; cases h; done) | exact outs_f (hou (by assumption)) hrq
              · have pr22 : ¬ (((k : Nat) : Int) : Int) < ((y3.Reasons.length : Nat) : Int) := of_decide_eq_false h22
                refine C_exit ?_
                refine x_then_exit ?_
                refine x_then_exit ?_
                refine x_blk_eq ?_
                refine x_then ?_
                refine C_seq ?_
                refine C_reg ?_
                refine q1 rfl (lbw 1 a_26 rfl rfl rfl) ?_
                refine li rfl (crl b_18 rfl rfl rfl rfl (fun w' hs => (spec_LabelsOf w' [(.int .i64 y3.Nodes), u12] y3 (rd_at hs hrb9))) fun v33 => ?_)
                refine p1 rfl ?_
                refine D_end ?_
                refine x_then ?_
                refine D_H ([ov [v33] (labelsOf y3 : (List Bool)), ov [v16] (conseq y3 y4 : (List Int)), bx g15 [(.int .i64 y3.Nodes), u12]]) rfl ?_
                refine C_seq ?_
                refine C_seq ?_
                refine C_reg ?_
                refine p1 rfl ?_
                refine D_end ?_
                refine x_then ?_
                refine C_block ?_
                refine C_loop (fun m_ ac w' => ∃ (m : Nat), (m ≤ (conseq y3 y4).length) ∧ m_ = (conseq y3 y4).length - m ∧ Fits ac 121 [(3, (.pointer (some ⟨g15, 0, none⟩))), (4, (.int .i64 y4)), (5, v16), (6, (.bool ou)), (8, v33), (9, (.int .i64 ((m : Nat) : Int)))] ∧ St wb7 ([ov [v33] (labelsOf y3 : (List Bool)), ov [v16] (conseq y3 y4 : (List Int)), bx g15 [(.int .i64 y3.Nodes), u12]]) w') ?_ ?_
                · refine fun ac w' hf hs => ⟨_, 0, ?_, rfl, hf.weak ⟨rfl, rfl, rfl, rfl, rfl, rfl, trivial⟩, hs⟩
                  · first | assumption | omega | simp
                · rintro m_ ac w' ⟨m, hm, rfl, hf, hs⟩
                  refine D.use ?_ hf hs
                  clear hf hs ac w'
                  refine C_seq ?_
                  refine C_seq ?_
                  refine C_reg ?_
                  refine p1 rfl <| p1 rfl ?_
                  refine q1 rfl (D_leno 1 s_28 rfl rfl rfl) ?_
                  refine p1 rfl ?_
                  refine D_end ?_
                  refine x_then ?_
                  refine C_if _ rfl (fun h34 => ?_) (fun h34 => ?_)
                  · have pr34 : (((m : Nat) : Int) : Int) < (((conseq y3 y4).length : Nat) : Int) := of_decide_eq_true h34
                    refine C_skip ?_
                    refine x_then ?_
                    refine C_seq ?_
                    refine C_block ?_
                    refine C_seq ?_
                    refine C_draw mixed [38, 39, 40, 41, 42, 43, 44, 45, 51, 52, 53, 54, 55] (by kernel_rfl) ?_
                    refine tk 0 rfl (by kernel_rfl) (by kernel_rfl) (by kernel_rfl) rfl (fun _ hs => hs) (rp rfl) ?_
                    refine tk 1 rfl (by kernel_rfl) (by kernel_rfl) (by kernel_rfl) rfl (fun _ hs => hs) (rp rfl) ?_
                    obtain ⟨y0, hy0⟩ := some_of_lt (l := (conseq y3 y4)) (i := m) (by omega)
                    have hcm := cons_mem hy0
                    refine tk 2 rfl (by kernel_rfl) (by kernel_rfl) (by kernel_rfl) rfl (fun _ hs => hs) (D_ix (l := (conseq y3 y4)) (j := m) s_28 rfl rfl rfl (fun w' hs => (rd_own (k := 1) hs rfl)) rfl (lt_of_some hy0)) ?_
                    refine tk 3 rfl (by kernel_rfl) (by kernel_rfl) (by kernel_rfl) rfl (fun _ hs => hs) (lo (α := Int) 1 o_3 rfl rfl rfl hy0) ?_
                    refine tk 4 rfl (by kernel_rfl) (by kernel_rfl) (by kernel_rfl) rfl (fun _ hs => hs) (rp rfl) ?_
                    refine tk 5 rfl (by kernel_rfl) (by kernel_rfl) (by kernel_rfl) rfl (fun _ hs => hs) (rp rfl) ?_
                    refine gs 70 rfl rfl (fun h35 => ?_) (fun h35 => ?_)
                    · have pr35 : (y0 : Int) < 0 := of_decide_eq_true h35
                      refine tn 6 rfl (by kernel_rfl) (by kernel_rfl) (by kernel_rfl) rfl rfl rfl (fun _ hs => hs) ?_
                      refine tn 7 rfl (by kernel_rfl) (by kernel_rfl) (by kernel_rfl) rfl rfl rfl (fun _ hs => hs) ?_
                      refine tn 8 rfl (by kernel_rfl) (by kernel_rfl) (by kernel_rfl) rfl rfl rfl (fun _ hs => hs) ?_
                      refine tn 9 rfl (by kernel_rfl) (by kernel_rfl) (by kernel_rfl) rfl rfl rfl (fun _ hs => hs) ?_
                      refine tn 10 rfl (by kernel_rfl) (by kernel_rfl) (by kernel_rfl) rfl rfl rfl (fun _ hs => hs) ?_
                      refine tn 11 rfl (by kernel_rfl) (by kernel_rfl) (by kernel_rfl) rfl rfl rfl (fun _ hs => hs) ?_
                      refine tn 12 rfl (by kernel_rfl) (by kernel_rfl) (by kernel_rfl) rfl rfl rfl (fun _ hs => hs) ?_
                      refine tk 13 rfl (by kernel_rfl) (by kernel_rfl) (by kernel_rfl) rfl (fun _ hs => hs) (rp rfl) ?_
                      refine tk 14 rfl (by kernel_rfl) (by kernel_rfl) (by kernel_rfl) rfl (fun _ hs => hs) (rp rfl) ?_
                      refine tn 15 rfl (by kernel_rfl) (by kernel_rfl) (by kernel_rfl) rfl rfl rfl (fun _ hs => hs) ?_
                      refine tn 16 rfl (by kernel_rfl) (by kernel_rfl) (by kernel_rfl) rfl rfl rfl (fun _ hs => hs) ?_
                      refine tn 17 rfl (by kernel_rfl) (by kernel_rfl) (by kernel_rfl) rfl rfl rfl (fun _ hs => hs) ?_
                      refine tn 18 rfl (by kernel_rfl) (by kernel_rfl) (by kernel_rfl) rfl rfl rfl (fun _ hs => hs) ?_
                      refine tn 19 rfl (by kernel_rfl) (by kernel_rfl) (by kernel_rfl) rfl rfl rfl (fun _ hs => hs) ?_
                      refine tn 20 rfl (by kernel_rfl) (by kernel_rfl) (by kernel_rfl) rfl rfl rfl (fun _ hs => hs) ?_
                      refine tn 21 rfl (by kernel_rfl) (by kernel_rfl) (by kernel_rfl) rfl rfl rfl (fun _ hs => hs) ?_
                      refine tn 22 rfl (by kernel_rfl) (by kernel_rfl) (by kernel_rfl) rfl rfl rfl (fun _ hs => hs) ?_
                      refine tn 23 rfl (by kernel_rfl) (by kernel_rfl) (by kernel_rfl) rfl rfl rfl (fun _ hs => hs) ?_
                      refine tn 24 rfl (by kernel_rfl) (by kernel_rfl) (by kernel_rfl) rfl rfl rfl (fun _ hs => hs) ?_
                      refine tn 25 rfl (by kernel_rfl) (by kernel_rfl) (by kernel_rfl) rfl rfl rfl (fun _ hs => hs) ?_
                      refine tn 26 rfl (by kernel_rfl) (by kernel_rfl) (by kernel_rfl) rfl rfl rfl (fun _ hs => hs) ?_
                      refine tn 27 rfl (by kernel_rfl) (by kernel_rfl) (by kernel_rfl) rfl rfl rfl (fun _ hs => hs) ?_
                      refine tn 28 rfl (by kernel_rfl) (by kernel_rfl) (by kernel_rfl) rfl rfl rfl (fun _ hs => hs) ?_
                      refine tn 29 rfl (by kernel_rfl) (by kernel_rfl) (by kernel_rfl) rfl rfl rfl (fun _ hs => hs) ?_
                      refine tn 30 rfl (by kernel_rfl) (by kernel_rfl) (by kernel_rfl) rfl rfl rfl (fun _ hs => hs) ?_
                      refine tn 31 rfl (by kernel_rfl) (by kernel_rfl) (by kernel_rfl) rfl rfl rfl (fun _ hs => hs) ?_
                      refine tn 32 rfl (by kernel_rfl) (by kernel_rfl) (by kernel_rfl) rfl rfl rfl (fun _ hs => hs) ?_
                      refine tn 33 rfl (by kernel_rfl) (by kernel_rfl) (by kernel_rfl) rfl rfl rfl (fun _ hs => hs) ?_
                      refine tn 34 rfl (by kernel_rfl) (by kernel_rfl) (by kernel_rfl) rfl rfl rfl (fun _ hs => hs) ?_
                      refine tn 35 rfl (by kernel_rfl) (by kernel_rfl) (by kernel_rfl) rfl rfl rfl (fun _ hs => hs) ?_
                      refine tn 36 rfl (by kernel_rfl) (by kernel_rfl) (by kernel_rfl) rfl rfl rfl (fun _ hs => hs) ?_
                      refine tn 37 rfl (by kernel_rfl) (by kernel_rfl) (by kernel_rfl) rfl rfl rfl (fun _ hs => hs) ?_
                      refine tn 38 rfl (by kernel_rfl) (by kernel_rfl) (by kernel_rfl) rfl rfl rfl (fun _ hs => hs) ?_
                      refine tn 39 rfl (by kernel_rfl) (by kernel_rfl) (by kernel_rfl) rfl rfl rfl (fun _ hs => hs) ?_
                      refine tn 40 rfl (by kernel_rfl) (by kernel_rfl) (by kernel_rfl) rfl rfl rfl (fun _ hs => hs) ?_
                      refine ty 41 rfl (by kernel_rfl) rfl (sv rfl rfl (rp rfl) ?_)
                      refine tZ rfl ?_
                      refine ty 42 rfl (by kernel_rfl) rfl (sv rfl rfl (rp rfl) ?_)
                      refine tZ rfl ?_
                      refine tn 43 rfl (by kernel_rfl) (by kernel_rfl) (by kernel_rfl) rfl rfl rfl (fun _ hs => hs) ?_
                      refine tn 44 rfl (by kernel_rfl) (by kernel_rfl) (by kernel_rfl) rfl rfl rfl (fun _ hs => hs) ?_
                      refine tn 45 rfl (by kernel_rfl) (by kernel_rfl) (by kernel_rfl) rfl rfl rfl (fun _ hs => hs) ?_
                      refine tn 46 rfl (by kernel_rfl) (by kernel_rfl) (by kernel_rfl) rfl rfl rfl (fun _ hs => hs) ?_
                      refine tn 47 rfl (by kernel_rfl) (by kernel_rfl) (by kernel_rfl) rfl rfl rfl (fun _ hs => hs) ?_
                      refine tn 48 rfl (by kernel_rfl) (by kernel_rfl) (by kernel_rfl) rfl rfl rfl (fun _ hs => hs) ?_
                      refine tn 49 rfl (by kernel_rfl) (by kernel_rfl) (by kernel_rfl) rfl rfl rfl (fun _ hs => hs) ?_
                      refine tn 50 rfl (by kernel_rfl) (by kernel_rfl) (by kernel_rfl) rfl rfl rfl (fun _ hs => hs) ?_
                      refine tn 51 rfl (by kernel_rfl) (by kernel_rfl) (by kernel_rfl) rfl rfl rfl (fun _ hs => hs) ?_
                      refine tn 52 rfl (by kernel_rfl) (by kernel_rfl) (by kernel_rfl) rfl rfl rfl (fun _ hs => hs) ?_
                      refine tn 53 rfl (by kernel_rfl) (by kernel_rfl) (by kernel_rfl) rfl rfl rfl (fun _ hs => hs) ?_
                      refine tn 54 rfl (by kernel_rfl) (by kernel_rfl) (by kernel_rfl) rfl rfl rfl (fun _ hs => hs) ?_
                      refine ty 55 rfl (by kernel_rfl) rfl (sv rfl rfl (rp rfl) ?_)
                      refine tZ rfl ?_
                      refine tE (by kernel_rfl) ?_
                      refine x_then ?_
                      refine D_weak [(3, (.pointer (some ⟨g15, 0, none⟩))), (4, (.int .i64 y4)), (5, v16), (6, (.bool ou)), (8, v33), (9, (.int .i64 ((m : Nat) : Int))), (120, (.bool true))] ⟨rfl, rfl, rfl, rfl, rfl, rfl, rfl, trivial⟩ ?_
                      refine C_t rfl ?_
                      refine C_seq ?_
                      refine C_reg ?_
                      refine p1 rfl ?_
                      refine D_end ?_
                      refine x_then ?_
                      refine C_ret ?_
                      refine x_blk_ret ?_
                      refine x_then_ret ?_
                      refine x_then_ret ?_
                      refine x_blk_ret ?_
                      refine x_then_ret ?_
                      refine R_1 rfl rfl fun w' hs => ⟨congrArg (fun z => Ending.returned (Value.bool z)) ?_, (hxb8.trans hs.bel)⟩
                      show (false : Bool) = true
                      first | rfl | (exfalso; omega) | (exfalso; have hq := cons_k (b := y3) (k := y4) (by omega); omega) | (exfalso; have hq1 := hcm.2.1; have hq2 := hcm.2.2.1; omega) | (exfalso; rcases cons_dep hy0 hr0 with hq | hq <;> simp_all; done) | (exfalso; have hq := cons_noK hy0 (hou (by simp_all)) (by omega) hlv; simp_all; done)
                    · have pr35 : ¬ (y0 : Int) < 0 := of_decide_eq_false h35
                      refine tk 6 rfl (by kernel_rfl) (by kernel_rfl) (by kernel_rfl) rfl (fun _ hs => hs) (rp rfl) ?_
                      refine tk 7 rfl (by kernel_rfl) (by kernel_rfl) (by kernel_rfl) rfl (fun _ hs => hs) (rp rfl) ?_
                      refine tk 8 rfl (by kernel_rfl) (by kernel_rfl) (by kernel_rfl) rfl (fun _ hs => hs) (D_ix (l := (conseq y3 y4)) (j := m) s_28 rfl rfl rfl (fun w' hs => (rd_own (k := 1) hs rfl)) rfl (lt_of_some hy0)) ?_
                      refine tk 9 rfl (by kernel_rfl) (by kernel_rfl) (by kernel_rfl) rfl (fun _ hs => hs) (lo (α := Int) 1 o_3 rfl rfl rfl hy0) ?_
                      refine tk 10 rfl (by kernel_rfl) (by kernel_rfl) (by kernel_rfl) rfl (fun _ hs => hs) (rp rfl) ?_
                      refine tk 11 rfl (by kernel_rfl) (by kernel_rfl) (by kernel_rfl) rfl (fun _ hs => hs) (D_leno 0 s_34 rfl rfl rfl) ?_
                      refine tk 12 rfl (by kernel_rfl) (by kernel_rfl) (by kernel_rfl) rfl (fun _ hs => hs) (rp rfl) ?_
                      refine tk 13 rfl (by kernel_rfl) (by kernel_rfl) (by kernel_rfl) rfl (fun _ hs => hs) (rp rfl) ?_
                      refine tk 14 rfl (by kernel_rfl) (by kernel_rfl) (by kernel_rfl) rfl (fun _ hs => hs) (rp rfl) ?_
                      refine gs 79 rfl rfl (fun h36 => ?_) (fun h36 => ?_)
                      · have pr36 : ((((labelsOf y3).length : Nat) : Int) : Int) ≤ y0 := of_decide_eq_true h36
                        refine tn 15 rfl (by kernel_rfl) (by kernel_rfl) (by kernel_rfl) rfl rfl rfl (fun _ hs => hs) ?_
                        refine tn 16 rfl (by kernel_rfl) (by kernel_rfl) (by kernel_rfl) rfl rfl rfl (fun _ hs => hs) ?_
                        refine tn 17 rfl (by kernel_rfl) (by kernel_rfl) (by kernel_rfl) rfl rfl rfl (fun _ hs => hs) ?_
                        refine tn 18 rfl (by kernel_rfl) (by kernel_rfl) (by kernel_rfl) rfl rfl rfl (fun _ hs => hs) ?_
                        refine tn 19 rfl (by kernel_rfl) (by kernel_rfl) (by kernel_rfl) rfl rfl rfl (fun _ hs => hs) ?_
                        refine tn 20 rfl (by kernel_rfl) (by kernel_rfl) (by kernel_rfl) rfl rfl rfl (fun _ hs => hs) ?_
                        refine tn 21 rfl (by kernel_rfl) (by kernel_rfl) (by kernel_rfl) rfl rfl rfl (fun _ hs => hs) ?_
                        refine tn 22 rfl (by kernel_rfl) (by kernel_rfl) (by kernel_rfl) rfl rfl rfl (fun _ hs => hs) ?_
                        refine tn 23 rfl (by kernel_rfl) (by kernel_rfl) (by kernel_rfl) rfl rfl rfl (fun _ hs => hs) ?_
                        refine tn 24 rfl (by kernel_rfl) (by kernel_rfl) (by kernel_rfl) rfl rfl rfl (fun _ hs => hs) ?_
                        refine tn 25 rfl (by kernel_rfl) (by kernel_rfl) (by kernel_rfl) rfl rfl rfl (fun _ hs => hs) ?_
                        refine tn 26 rfl (by kernel_rfl) (by kernel_rfl) (by kernel_rfl) rfl rfl rfl (fun _ hs => hs) ?_
                        refine tn 27 rfl (by kernel_rfl) (by kernel_rfl) (by kernel_rfl) rfl rfl rfl (fun _ hs => hs) ?_
                        refine tn 28 rfl (by kernel_rfl) (by kernel_rfl) (by kernel_rfl) rfl rfl rfl (fun _ hs => hs) ?_
                        refine tn 29 rfl (by kernel_rfl) (by kernel_rfl) (by kernel_rfl) rfl rfl rfl (fun _ hs => hs) ?_
                        refine tn 30 rfl (by kernel_rfl) (by kernel_rfl) (by kernel_rfl) rfl rfl rfl (fun _ hs => hs) ?_
                        refine tn 31 rfl (by kernel_rfl) (by kernel_rfl) (by kernel_rfl) rfl rfl rfl (fun _ hs => hs) ?_
                        refine tn 32 rfl (by kernel_rfl) (by kernel_rfl) (by kernel_rfl) rfl rfl rfl (fun _ hs => hs) ?_
                        refine tn 33 rfl (by kernel_rfl) (by kernel_rfl) (by kernel_rfl) rfl rfl rfl (fun _ hs => hs) ?_
                        refine tn 34 rfl (by kernel_rfl) (by kernel_rfl) (by kernel_rfl) rfl rfl rfl (fun _ hs => hs) ?_
                        refine tn 35 rfl (by kernel_rfl) (by kernel_rfl) (by kernel_rfl) rfl rfl rfl (fun _ hs => hs) ?_
                        refine tn 36 rfl (by kernel_rfl) (by kernel_rfl) (by kernel_rfl) rfl rfl rfl (fun _ hs => hs) ?_
                        refine tn 37 rfl (by kernel_rfl) (by kernel_rfl) (by kernel_rfl) rfl rfl rfl (fun _ hs => hs) ?_
                        refine tn 38 rfl (by kernel_rfl) (by kernel_rfl) (by kernel_rfl) rfl rfl rfl (fun _ hs => hs) ?_
                        refine tn 39 rfl (by kernel_rfl) (by kernel_rfl) (by kernel_rfl) rfl rfl rfl (fun _ hs => hs) ?_
                        refine tn 40 rfl (by kernel_rfl) (by kernel_rfl) (by kernel_rfl) rfl rfl rfl (fun _ hs => hs) ?_
                        refine ty 41 rfl (by kernel_rfl) rfl (sv rfl rfl (rp rfl) ?_)
                        refine tZ rfl ?_
                        refine ty 42 rfl (by kernel_rfl) rfl (sv rfl rfl (rp rfl) ?_)
                        refine tZ rfl ?_
                        refine tn 43 rfl (by kernel_rfl) (by kernel_rfl) (by kernel_rfl) rfl rfl rfl (fun _ hs => hs) ?_
                        refine tn 44 rfl (by kernel_rfl) (by kernel_rfl) (by kernel_rfl) rfl rfl rfl (fun _ hs => hs) ?_
                        refine tn 45 rfl (by kernel_rfl) (by kernel_rfl) (by kernel_rfl) rfl rfl rfl (fun _ hs => hs) ?_
                        refine tn 46 rfl (by kernel_rfl) (by kernel_rfl) (by kernel_rfl) rfl rfl rfl (fun _ hs => hs) ?_
                        refine tn 47 rfl (by kernel_rfl) (by kernel_rfl) (by kernel_rfl) rfl rfl rfl (fun _ hs => hs) ?_
                        refine tn 48 rfl (by kernel_rfl) (by kernel_rfl) (by kernel_rfl) rfl rfl rfl (fun _ hs => hs) ?_
                        refine tn 49 rfl (by kernel_rfl) (by kernel_rfl) (by kernel_rfl) rfl rfl rfl (fun _ hs => hs) ?_
                        refine tn 50 rfl (by kernel_rfl) (by kernel_rfl) (by kernel_rfl) rfl rfl rfl (fun _ hs => hs) ?_
                        refine tn 51 rfl (by kernel_rfl) (by kernel_rfl) (by kernel_rfl) rfl rfl rfl (fun _ hs => hs) ?_
                        refine tn 52 rfl (by kernel_rfl) (by kernel_rfl) (by kernel_rfl) rfl rfl rfl (fun _ hs => hs) ?_
                        refine tn 53 rfl (by kernel_rfl) (by kernel_rfl) (by kernel_rfl) rfl rfl rfl (fun _ hs => hs) ?_
                        refine tn 54 rfl (by kernel_rfl) (by kernel_rfl) (by kernel_rfl) rfl rfl rfl (fun _ hs => hs) ?_
                        refine ty 55 rfl (by kernel_rfl) rfl (sv rfl rfl (rp rfl) ?_)
                        refine tZ rfl ?_
                        refine tE (by kernel_rfl) ?_
                        refine x_then ?_
                        refine D_weak [(3, (.pointer (some ⟨g15, 0, none⟩))), (4, (.int .i64 y4)), (5, v16), (6, (.bool ou)), (8, v33), (9, (.int .i64 ((m : Nat) : Int))), (120, (.bool true))] ⟨rfl, rfl, rfl, rfl, rfl, rfl, rfl, trivial⟩ ?_
                        refine C_t rfl ?_
                        refine C_seq ?_
                        refine C_reg ?_
                        refine p1 rfl ?_
                        refine D_end ?_
                        refine x_then ?_
                        refine C_ret ?_
                        refine x_blk_ret ?_
                        refine x_then_ret ?_
                        refine x_then_ret ?_
                        refine x_blk_ret ?_
                        refine x_then_ret ?_
                        refine R_1 rfl rfl fun w' hs => ⟨congrArg (fun z => Ending.returned (Value.bool z)) ?_, (hxb8.trans hs.bel)⟩
                        show (false : Bool) = true
                        first | rfl | (exfalso; omega) | (exfalso; have hq := cons_k (b := y3) (k := y4) (by omega); omega) | (exfalso; have hq1 := hcm.2.1; have hq2 := hcm.2.2.1; omega) | (exfalso; rcases cons_dep hy0 hr0 with hq | hq <;> simp_all; done) | (exfalso; have hq := cons_noK hy0 (hou (by simp_all)) (by omega) hlv; simp_all; done)
                      · have pr36 : ¬ ((((labelsOf y3).length : Nat) : Int) : Int) ≤ y0 := of_decide_eq_false h36
                        refine tk 15 rfl (by kernel_rfl) (by kernel_rfl) (by kernel_rfl) rfl (fun _ hs => hs) (rp rfl) ?_
                        refine tk 16 rfl (by kernel_rfl) (by kernel_rfl) (by kernel_rfl) rfl (fun _ hs => hs) (rp rfl) ?_
                        refine tk 17 rfl (by kernel_rfl) (by kernel_rfl) (by kernel_rfl) rfl (fun _ hs => hs) (D_ix (l := (conseq y3 y4)) (j := m) s_28 rfl rfl rfl (fun w' hs => (rd_own (k := 1) hs rfl)) rfl (lt_of_some hy0)) ?_
                        refine tk 18 rfl (by kernel_rfl) (by kernel_rfl) (by kernel_rfl) rfl (fun _ hs => hs) (lo (α := Int) 1 o_3 rfl rfl rfl hy0) ?_
                        refine tk 19 rfl (by kernel_rfl) (by kernel_rfl) (by kernel_rfl) rfl (fun _ hs => hs) (D_fb f_26_1 rfl rfl (q := 1) rfl) ?_
                        refine tk 20 rfl (by kernel_rfl) (by kernel_rfl) (by kernel_rfl) rfl (fun _ hs => hs) (lb 2 o_24 rfl rfl rfl rfl) ?_
                        refine tk 21 rfl (by kernel_rfl) (by kernel_rfl) (by kernel_rfl) rfl (fun _ hs => hs) (rp rfl) ?_
                        obtain ⟨r0, hr0⟩ := some_of_lt (l := y3.Reasons) (i := (y4.toNat)) (by omega)
                        obtain ⟨es37, at38, hr39⟩ := rd_elem (n := 3) rfl hu13 hr0
                        obtain ⟨u40, u42, rfl, hu41, hu43⟩ := open_Reason hr39
                        have hm44 := rd_max hu41
                        have hm45 := rd_max hu43
                        refine tk 22 rfl (by kernel_rfl) (by kernel_rfl) (by kernel_rfl) rfl (fun _ hs => hs) (D_ix (l := y3.Reasons) (j := (y4.toNat)) s_24 rfl rfl rfl (fun w' hs => (rd_at hs hu13)) (Int.toNat_of_nonneg (by omega)).symm (lt_of_some hr0)) ?_
                        refine tk 23 rfl (by kernel_rfl) (by kernel_rfl) (by kernel_rfl) rfl (fun _ hs => hs) (D_fa f_31_0 rfl rfl) ?_
                        refine tk 24 rfl (by kernel_rfl) (by kernel_rfl) (by kernel_rfl) rfl (fun _ hs => hs) (lr o_3 rfl rfl at38 rfl) ?_
                        refine tk 25 rfl (by kernel_rfl) (by kernel_rfl) (by kernel_rfl) rfl (fun _ hs => hs) (rp rfl) ?_
                        refine tk 26 rfl (by kernel_rfl) (by kernel_rfl) (by kernel_rfl) rfl (fun _ hs => hs) (rp rfl) ?_
                        refine gs 91 rfl rfl (fun h46 => ?_) (fun h46 => ?_)
                        · have pr46 : (y0 : Int) ≠ r0.For := bne_iff_ne.1 h46
                          refine tk 27 rfl (by kernel_rfl) (by kernel_rfl) (by kernel_rfl) rfl (fun _ hs => hs) (lbw 2 a_26 rfl rfl rfl) ?_
                          refine tk 28 rfl (by kernel_rfl) (by kernel_rfl) (by kernel_rfl) rfl (fun _ hs => hs) (rp rfl) ?_
                          refine tk 29 rfl (by kernel_rfl) (by kernel_rfl) (by kernel_rfl) rfl (fun _ hs => hs) (rp rfl) ?_
                          refine tk 30 rfl (by kernel_rfl) (by kernel_rfl) (by kernel_rfl) rfl (fun _ hs => hs) (D_ix (l := (conseq y3 y4)) (j := m) s_28 rfl rfl rfl (fun w' hs => (rd_own (k := 1) hs rfl)) rfl (lt_of_some hy0)) ?_
                          refine tk 31 rfl (by kernel_rfl) (by kernel_rfl) (by kernel_rfl) rfl (fun _ hs => hs) (lo (α := Int) 1 o_3 rfl rfl rfl hy0) ?_
                          refine tk 32 rfl (by kernel_rfl) (by kernel_rfl) (by kernel_rfl) rfl (fun _ hs => hs) (D_fb f_26_1 rfl rfl (q := 1) rfl) ?_
                          refine tk 33 rfl (by kernel_rfl) (by kernel_rfl) (by kernel_rfl) rfl (fun _ hs => hs) (lb 2 o_24 rfl rfl rfl rfl) ?_
                          refine tk 34 rfl (by kernel_rfl) (by kernel_rfl) (by kernel_rfl) rfl (fun _ hs => hs) (rp rfl) ?_
                          refine tk 35 rfl (by kernel_rfl) (by kernel_rfl) (by kernel_rfl) rfl (fun _ hs => hs) (D_ix (l := y3.Reasons) (j := (y4.toNat)) s_24 rfl rfl rfl (fun w' hs => (rd_at hs hu13)) (Int.toNat_of_nonneg (by omega)).symm (lt_of_some hr0)) ?_
                          refine tk 36 rfl (by kernel_rfl) (by kernel_rfl) (by kernel_rfl) rfl (fun _ hs => hs) (D_fa f_31_0 rfl rfl) ?_
                          refine tk 37 rfl (by kernel_rfl) (by kernel_rfl) (by kernel_rfl) rfl (fun _ hs => hs) (lr o_3 rfl rfl at38 rfl) ?_
                          refine ty 38 rfl (by kernel_rfl) rfl (cv b_12 rfl rfl rfl rfl (fun w' hs => (impl_DependsOn w' [(.int .i64 y3.Nodes), u12] y3 y0 r0.For (rd_at hs hrb9))) ?_)
                          refine tZ rfl ?_
                          refine ty 39 rfl (by kernel_rfl) rfl (sv rfl rfl (rp rfl) ?_)
                          refine tZ rfl ?_
                          refine ty 40 rfl (by kernel_rfl) rfl (sv rfl rfl (rp rfl) ?_)
                          refine tZ rfl ?_
                          refine ty 41 rfl (by kernel_rfl) rfl (sv rfl rfl (rp rfl) ?_)
                          refine tZ rfl ?_
                          refine ty 42 rfl (by kernel_rfl) rfl (sv rfl rfl (rp rfl) ?_)
                          refine tZ rfl ?_
                          refine gs 107 rfl rfl (fun h47 => ?_) (fun h47 => ?_)
                          · have h47n : (depOn y3 y0 r0.For) = false := not_t h47
                            refine tn 43 rfl (by kernel_rfl) (by kernel_rfl) (by kernel_rfl) rfl rfl rfl (fun _ hs => hs) ?_
                            refine tn 44 rfl (by kernel_rfl) (by kernel_rfl) (by kernel_rfl) rfl rfl rfl (fun _ hs => hs) ?_
                            refine tn 45 rfl (by kernel_rfl) (by kernel_rfl) (by kernel_rfl) rfl rfl rfl (fun _ hs => hs) ?_
                            refine tn 46 rfl (by kernel_rfl) (by kernel_rfl) (by kernel_rfl) rfl rfl rfl (fun _ hs => hs) ?_
                            refine tn 47 rfl (by kernel_rfl) (by kernel_rfl) (by kernel_rfl) rfl rfl rfl (fun _ hs => hs) ?_
                            refine tn 48 rfl (by kernel_rfl) (by kernel_rfl) (by kernel_rfl) rfl rfl rfl (fun _ hs => hs) ?_
                            refine tn 49 rfl (by kernel_rfl) (by kernel_rfl) (by kernel_rfl) rfl rfl rfl (fun _ hs => hs) ?_
                            refine tn 50 rfl (by kernel_rfl) (by kernel_rfl) (by kernel_rfl) rfl rfl rfl (fun _ hs => hs) ?_
                            refine tn 51 rfl (by kernel_rfl) (by kernel_rfl) (by kernel_rfl) rfl rfl rfl (fun _ hs => hs) ?_
                            refine tn 52 rfl (by kernel_rfl) (by kernel_rfl) (by kernel_rfl) rfl rfl rfl (fun _ hs => hs) ?_
                            refine tn 53 rfl (by kernel_rfl) (by kernel_rfl) (by kernel_rfl) rfl rfl rfl (fun _ hs => hs) ?_
                            refine tn 54 rfl (by kernel_rfl) (by kernel_rfl) (by kernel_rfl) rfl rfl rfl (fun _ hs => hs) ?_
                            refine ty 55 rfl (by kernel_rfl) rfl (sv rfl rfl (rp rfl) ?_)
                            refine tZ rfl ?_
                            refine tE (by kernel_rfl) ?_
                            refine x_then ?_
                            refine D_weak [(3, (.pointer (some ⟨g15, 0, none⟩))), (4, (.int .i64 y4)), (5, v16), (6, (.bool ou)), (8, v33), (9, (.int .i64 ((m : Nat) : Int))), (120, (.bool true))] ⟨rfl, rfl, rfl, rfl, rfl, rfl, rfl, trivial⟩ ?_
                            refine C_t rfl ?_
                            refine C_seq ?_
                            refine C_reg ?_
                            refine p1 rfl ?_
                            refine D_end ?_
                            refine x_then ?_
                            refine C_ret ?_
                            refine x_blk_ret ?_
                            refine x_then_ret ?_
                            refine x_then_ret ?_
                            refine x_blk_ret ?_
                            refine x_then_ret ?_
                            refine R_1 rfl rfl fun w' hs => ⟨congrArg (fun z => Ending.returned (Value.bool z)) ?_, (hxb8.trans hs.bel)⟩
                            show (false : Bool) = true
                            first | rfl | (exfalso; omega) | (exfalso; have hq := cons_k (b := y3) (k := y4) (by omega); omega) | (exfalso; have hq1 := hcm.2.1; have hq2 := hcm.2.2.1; omega) | (exfalso; rcases cons_dep hy0 hr0 with hq | hq <;> simp_all; done) | (exfalso; have hq := cons_noK hy0 (hou (by simp_all)) (by omega) hlv; simp_all; done)
                          · have h47n : (depOn y3 y0 r0.For) = true := not_f h47
                            refine ty 43 rfl (by kernel_rfl) rfl (sv rfl rfl (rp rfl) ?_)
                            refine tZ rfl ?_
                            refine ty 44 rfl (by kernel_rfl) rfl (sv rfl rfl (rp rfl) ?_)
                            refine tZ rfl ?_
                            refine ty 45 rfl (by kernel_rfl) rfl (sv rfl rfl (rp rfl) ?_)
                            refine tZ rfl ?_
                            refine gs 110 rfl rfl (fun h48 => ?_) (fun h48 => ?_)
                            · have h48n : ou = false := not_t h48
                              refine tk 46 rfl (by kernel_rfl) (by kernel_rfl) (by kernel_rfl) rfl (fun _ hs => hs) (rp rfl) ?_
                              refine tk 47 rfl (by kernel_rfl) (by kernel_rfl) (by kernel_rfl) rfl (fun _ hs => hs) (rp rfl) ?_
                              refine tk 48 rfl (by kernel_rfl) (by kernel_rfl) (by kernel_rfl) rfl (fun _ hs => hs) (rp rfl) ?_
                              refine tk 49 rfl (by kernel_rfl) (by kernel_rfl) (by kernel_rfl) rfl (fun _ hs => hs) (D_ix (l := (conseq y3 y4)) (j := m) s_28 rfl rfl rfl (fun w' hs => (rd_own (k := 1) hs rfl)) rfl (lt_of_some hy0)) ?_
                              refine tk 50 rfl (by kernel_rfl) (by kernel_rfl) (by kernel_rfl) rfl (fun _ hs => hs) (lo (α := Int) 1 o_3 rfl rfl rfl hy0) ?_
                              obtain ⟨lv, hlv⟩ := some_of_lt (l := (labelsOf y3)) (i := (y0.toNat)) (by omega)
                              refine ty 51 rfl (by kernel_rfl) rfl (sv rfl rfl (D_ix (l := (labelsOf y3)) (j := (y0.toNat)) s_34 rfl rfl rfl (fun w' hs => (rd_own (k := 0) hs rfl)) (Int.toNat_of_nonneg (by omega)).symm (lt_of_some hlv)) ?_)
                              refine tZ rfl ?_
                              refine ty 52 rfl (by kernel_rfl) rfl (sv rfl rfl (lo (α := Bool) 0 o_4 rfl rfl rfl hlv) ?_)
                              refine tZ rfl ?_
                              refine ty 53 rfl (by kernel_rfl) rfl (sv rfl rfl (rp rfl) ?_)
                              refine tZ rfl ?_
                              refine ty 54 rfl (by kernel_rfl) rfl (sv rfl rfl (rp rfl) ?_)
                              refine tZ rfl ?_
                              refine ty 55 rfl (by kernel_rfl) rfl (sv rfl rfl (rp rfl) ?_)
                              refine tZ rfl ?_
                              refine tE (by kernel_rfl) ?_
                              refine x_then ?_
                              refine D_weak [(3, (.pointer (some ⟨g15, 0, none⟩))), (4, (.int .i64 y4)), (5, v16), (6, (.bool ou)), (8, v33), (9, (.int .i64 ((m : Nat) : Int))), (120, (.bool (!lv)))] ⟨rfl, rfl, rfl, rfl, rfl, rfl, rfl, trivial⟩ ?_
                              refine C_if _ rfl (fun h49 => ?_) (fun h49 => ?_)
                              · have h49n : lv = false := not_t h49
                                refine C_seq ?_
                                refine C_reg ?_
                                refine p1 rfl ?_
                                refine D_end ?_
                                refine x_then ?_
                                refine C_ret ?_
                                refine x_blk_ret ?_
                                refine x_then_ret ?_
                                refine x_then_ret ?_
                                refine x_blk_ret ?_
                                refine x_then_ret ?_
                                refine R_1 rfl rfl fun w' hs => ⟨congrArg (fun z => Ending.returned (Value.bool z)) ?_, (hxb8.trans hs.bel)⟩
                                show (false : Bool) = true
                                first | rfl | (exfalso; omega) | (exfalso; have hq := cons_k (b := y3) (k := y4) (by omega); omega) | (exfalso; have hq1 := hcm.2.1; have hq2 := hcm.2.2.1; omega) | (exfalso; rcases cons_dep hy0 hr0 with hq | hq <;> simp_all; done) | (exfalso; have hq := cons_noK hy0 (hou (by simp_all)) (by omega) hlv; simp_all; done)
                              · have h49n : lv = true := not_f h49
                                refine C_skip ?_
                                refine x_blk ?_
                                refine x_then ?_
                                refine C_reg ?_
                                refine p1 rfl ?_
                                refine q1 rfl (D_add rfl rfl rfl (r := ((m + 1 : Nat) : Int)) (by omega) (by omega)) ?_
                                refine p1 rfl ?_
                                refine D_end ?_
                                refine x_then ?_
                                refine fun ac w' hf hs => ⟨_, ?_, m + 1, ?_, rfl, hf.weak ⟨rfl, rfl, rfl, rfl, rfl, rfl, trivial⟩, hs⟩
                                · omega
                                · first | assumption | omega | simp
                            · have h48n : ou = true := not_f h48
                              refine tn 46 rfl (by kernel_rfl) (by kernel_rfl) (by kernel_rfl) rfl rfl rfl (fun _ hs => hs) ?_
                              refine tn 47 rfl (by kernel_rfl) (by kernel_rfl) (by kernel_rfl) rfl rfl rfl (fun _ hs => hs) ?_
                              refine tn 48 rfl (by kernel_rfl) (by kernel_rfl) (by kernel_rfl) rfl rfl rfl (fun _ hs => hs) ?_
                              refine tn 49 rfl (by kernel_rfl) (by kernel_rfl) (by kernel_rfl) rfl rfl rfl (fun _ hs => hs) ?_
                              refine tn 50 rfl (by kernel_rfl) (by kernel_rfl) (by kernel_rfl) rfl rfl rfl (fun _ hs => hs) ?_
                              refine tn 51 rfl (by kernel_rfl) (by kernel_rfl) (by kernel_rfl) rfl rfl rfl (fun _ hs => hs) ?_
                              refine tn 52 rfl (by kernel_rfl) (by kernel_rfl) (by kernel_rfl) rfl rfl rfl (fun _ hs => hs) ?_
                              refine tn 53 rfl (by kernel_rfl) (by kernel_rfl) (by kernel_rfl) rfl rfl rfl (fun _ hs => hs) ?_
                              refine ty 54 rfl (by kernel_rfl) rfl (sv rfl rfl (rp rfl) ?_)
                              refine tZ rfl ?_
                              refine ty 55 rfl (by kernel_rfl) rfl (sv rfl rfl (rp rfl) ?_)
                              refine tZ rfl ?_
                              refine tE (by kernel_rfl) ?_
                              refine x_then ?_
                              refine D_weak [(3, (.pointer (some ⟨g15, 0, none⟩))), (4, (.int .i64 y4)), (5, v16), (6, (.bool ou)), (8, v33), (9, (.int .i64 ((m : Nat) : Int))), (120, (.bool false))] ⟨rfl, rfl, rfl, rfl, rfl, rfl, rfl, trivial⟩ ?_
                              refine C_f rfl ?_
                              refine C_skip ?_
                              refine x_blk ?_
                              refine x_then ?_
                              refine C_reg ?_
                              refine p1 rfl ?_
                              refine q1 rfl (D_add rfl rfl rfl (r := ((m + 1 : Nat) : Int)) (by omega) (by omega)) ?_
                              refine p1 rfl ?_
                              refine D_end ?_
                              refine x_then ?_
                              refine fun ac w' hf hs => ⟨_, ?_, m + 1, ?_, rfl, hf.weak ⟨rfl, rfl, rfl, rfl, rfl, rfl, trivial⟩, hs⟩
                              · omega
                              · first | assumption | omega | simp
                        · have pr46 : (y0 : Int) = r0.For := eq_of_bne_f h46
                          refine tn 27 rfl (by kernel_rfl) (by kernel_rfl) (by kernel_rfl) rfl rfl rfl (fun _ hs => hs) ?_
                          refine tn 28 rfl (by kernel_rfl) (by kernel_rfl) (by kernel_rfl) rfl rfl rfl (fun _ hs => hs) ?_
                          refine tn 29 rfl (by kernel_rfl) (by kernel_rfl) (by kernel_rfl) rfl rfl rfl (fun _ hs => hs) ?_
                          refine tn 30 rfl (by kernel_rfl) (by kernel_rfl) (by kernel_rfl) rfl rfl rfl (fun _ hs => hs) ?_
                          refine tn 31 rfl (by kernel_rfl) (by kernel_rfl) (by kernel_rfl) rfl rfl rfl (fun _ hs => hs) ?_
                          refine tn 32 rfl (by kernel_rfl) (by kernel_rfl) (by kernel_rfl) rfl rfl rfl (fun _ hs => hs) ?_
                          refine tn 33 rfl (by kernel_rfl) (by kernel_rfl) (by kernel_rfl) rfl rfl rfl (fun _ hs => hs) ?_
                          refine tn 34 rfl (by kernel_rfl) (by kernel_rfl) (by kernel_rfl) rfl rfl rfl (fun _ hs => hs) ?_
                          refine tn 35 rfl (by kernel_rfl) (by kernel_rfl) (by kernel_rfl) rfl rfl rfl (fun _ hs => hs) ?_
                          refine tn 36 rfl (by kernel_rfl) (by kernel_rfl) (by kernel_rfl) rfl rfl rfl (fun _ hs => hs) ?_
                          refine tn 37 rfl (by kernel_rfl) (by kernel_rfl) (by kernel_rfl) rfl rfl rfl (fun _ hs => hs) ?_
                          refine tn 38 rfl (by kernel_rfl) (by kernel_rfl) (by kernel_rfl) rfl rfl rfl (fun _ hs => hs) ?_
                          refine tn 39 rfl (by kernel_rfl) (by kernel_rfl) (by kernel_rfl) rfl rfl rfl (fun _ hs => hs) ?_
                          refine ty 40 rfl (by kernel_rfl) rfl (sv rfl rfl (rp rfl) ?_)
                          refine tZ rfl ?_
                          refine ty 41 rfl (by kernel_rfl) rfl (sv rfl rfl (rp rfl) ?_)
                          refine tZ rfl ?_
                          refine ty 42 rfl (by kernel_rfl) rfl (sv rfl rfl (rp rfl) ?_)
                          refine tZ rfl ?_
                          refine ty 43 rfl (by kernel_rfl) rfl (sv rfl rfl (rp rfl) ?_)
                          refine tZ rfl ?_
                          refine ty 44 rfl (by kernel_rfl) rfl (sv rfl rfl (rp rfl) ?_)
                          refine tZ rfl ?_
                          refine ty 45 rfl (by kernel_rfl) rfl (sv rfl rfl (rp rfl) ?_)
                          refine tZ rfl ?_
                          refine gs 110 rfl rfl (fun h50 => ?_) (fun h50 => ?_)
                          · have h50n : ou = false := not_t h50
                            refine tk 46 rfl (by kernel_rfl) (by kernel_rfl) (by kernel_rfl) rfl (fun _ hs => hs) (rp rfl) ?_
                            refine tk 47 rfl (by kernel_rfl) (by kernel_rfl) (by kernel_rfl) rfl (fun _ hs => hs) (rp rfl) ?_
                            refine tk 48 rfl (by kernel_rfl) (by kernel_rfl) (by kernel_rfl) rfl (fun _ hs => hs) (rp rfl) ?_
                            refine tk 49 rfl (by kernel_rfl) (by kernel_rfl) (by kernel_rfl) rfl (fun _ hs => hs) (D_ix (l := (conseq y3 y4)) (j := m) s_28 rfl rfl rfl (fun w' hs => (rd_own (k := 1) hs rfl)) rfl (lt_of_some hy0)) ?_
                            refine tk 50 rfl (by kernel_rfl) (by kernel_rfl) (by kernel_rfl) rfl (fun _ hs => hs) (lo (α := Int) 1 o_3 rfl rfl rfl hy0) ?_
                            obtain ⟨lv, hlv⟩ := some_of_lt (l := (labelsOf y3)) (i := (y0.toNat)) (by omega)
                            refine ty 51 rfl (by kernel_rfl) rfl (sv rfl rfl (D_ix (l := (labelsOf y3)) (j := (y0.toNat)) s_34 rfl rfl rfl (fun w' hs => (rd_own (k := 0) hs rfl)) (Int.toNat_of_nonneg (by omega)).symm (lt_of_some hlv)) ?_)
                            refine tZ rfl ?_
                            refine ty 52 rfl (by kernel_rfl) rfl (sv rfl rfl (lo (α := Bool) 0 o_4 rfl rfl rfl hlv) ?_)
                            refine tZ rfl ?_
                            refine ty 53 rfl (by kernel_rfl) rfl (sv rfl rfl (rp rfl) ?_)
                            refine tZ rfl ?_
                            refine ty 54 rfl (by kernel_rfl) rfl (sv rfl rfl (rp rfl) ?_)
                            refine tZ rfl ?_
                            refine ty 55 rfl (by kernel_rfl) rfl (sv rfl rfl (rp rfl) ?_)
                            refine tZ rfl ?_
                            refine tE (by kernel_rfl) ?_
                            refine x_then ?_
                            refine D_weak [(3, (.pointer (some ⟨g15, 0, none⟩))), (4, (.int .i64 y4)), (5, v16), (6, (.bool ou)), (8, v33), (9, (.int .i64 ((m : Nat) : Int))), (120, (.bool (!lv)))] ⟨rfl, rfl, rfl, rfl, rfl, rfl, rfl, trivial⟩ ?_
                            refine C_if _ rfl (fun h51 => ?_) (fun h51 => ?_)
                            · have h51n : lv = false := not_t h51
                              refine C_seq ?_
                              refine C_reg ?_
                              refine p1 rfl ?_
                              refine D_end ?_
                              refine x_then ?_
                              refine C_ret ?_
                              refine x_blk_ret ?_
                              refine x_then_ret ?_
                              refine x_then_ret ?_
                              refine x_blk_ret ?_
                              refine x_then_ret ?_
                              refine R_1 rfl rfl fun w' hs => ⟨congrArg (fun z => Ending.returned (Value.bool z)) ?_, (hxb8.trans hs.bel)⟩
                              show (false : Bool) = true
                              first | rfl | (exfalso; omega) | (exfalso; have hq := cons_k (b := y3) (k := y4) (by omega); omega) | (exfalso; have hq1 := hcm.2.1; have hq2 := hcm.2.2.1; omega) | (exfalso; rcases cons_dep hy0 hr0 with hq | hq <;> simp_all; done) | (exfalso; have hq := cons_noK hy0 (hou (by simp_all)) (by omega) hlv; simp_all; done)
                            · have h51n : lv = true := not_f h51
                              refine C_skip ?_
                              refine x_blk ?_
                              refine x_then ?_
                              refine C_reg ?_
                              refine p1 rfl ?_
                              refine q1 rfl (D_add rfl rfl rfl (r := ((m + 1 : Nat) : Int)) (by omega) (by omega)) ?_
                              refine p1 rfl ?_
                              refine D_end ?_
                              refine x_then ?_
                              refine fun ac w' hf hs => ⟨_, ?_, m + 1, ?_, rfl, hf.weak ⟨rfl, rfl, rfl, rfl, rfl, rfl, trivial⟩, hs⟩
                              · omega
                              · first | assumption | omega | simp
                          · have h50n : ou = true := not_f h50
                            refine tn 46 rfl (by kernel_rfl) (by kernel_rfl) (by kernel_rfl) rfl rfl rfl (fun _ hs => hs) ?_
                            refine tn 47 rfl (by kernel_rfl) (by kernel_rfl) (by kernel_rfl) rfl rfl rfl (fun _ hs => hs) ?_
                            refine tn 48 rfl (by kernel_rfl) (by kernel_rfl) (by kernel_rfl) rfl rfl rfl (fun _ hs => hs) ?_
                            refine tn 49 rfl (by kernel_rfl) (by kernel_rfl) (by kernel_rfl) rfl rfl rfl (fun _ hs => hs) ?_
                            refine tn 50 rfl (by kernel_rfl) (by kernel_rfl) (by kernel_rfl) rfl rfl rfl (fun _ hs => hs) ?_
                            refine tn 51 rfl (by kernel_rfl) (by kernel_rfl) (by kernel_rfl) rfl rfl rfl (fun _ hs => hs) ?_
                            refine tn 52 rfl (by kernel_rfl) (by kernel_rfl) (by kernel_rfl) rfl rfl rfl (fun _ hs => hs) ?_
                            refine tn 53 rfl (by kernel_rfl) (by kernel_rfl) (by kernel_rfl) rfl rfl rfl (fun _ hs => hs) ?_
                            refine ty 54 rfl (by kernel_rfl) rfl (sv rfl rfl (rp rfl) ?_)
                            refine tZ rfl ?_
                            refine ty 55 rfl (by kernel_rfl) rfl (sv rfl rfl (rp rfl) ?_)
                            refine tZ rfl ?_
                            refine tE (by kernel_rfl) ?_
                            refine x_then ?_
                            refine D_weak [(3, (.pointer (some ⟨g15, 0, none⟩))), (4, (.int .i64 y4)), (5, v16), (6, (.bool ou)), (8, v33), (9, (.int .i64 ((m : Nat) : Int))), (120, (.bool false))] ⟨rfl, rfl, rfl, rfl, rfl, rfl, rfl, trivial⟩ ?_
                            refine C_f rfl ?_
                            refine C_skip ?_
                            refine x_blk ?_
                            refine x_then ?_
                            refine C_reg ?_
                            refine p1 rfl ?_
                            refine q1 rfl (D_add rfl rfl rfl (r := ((m + 1 : Nat) : Int)) (by omega) (by omega)) ?_
                            refine p1 rfl ?_
                            refine D_end ?_
                            refine x_then ?_
                            refine fun ac w' hf hs => ⟨_, ?_, m + 1, ?_, rfl, hf.weak ⟨rfl, rfl, rfl, rfl, rfl, rfl, trivial⟩, hs⟩
                            · omega
                            · first | assumption | omega | simp
                  · have pr34 : ¬ (((m : Nat) : Int) : Int) < (((conseq y3 y4).length : Nat) : Int) := of_decide_eq_false h34
                    refine C_exit ?_
                    refine x_then_exit ?_
                    refine x_then_exit ?_
                    refine x_blk_eq ?_
                    refine x_then ?_
                    refine C_seq ?_
                    refine C_reg ?_
                    refine p1 rfl ?_
                    refine D_end ?_
                    refine x_then ?_
                    refine C_ret ?_
                    refine R_1 rfl rfl fun w' hs => ⟨congrArg (fun z => Ending.returned (Value.bool z)) ?_, (hxb8.trans hs.bel)⟩
                    show (true : Bool) = true
                    first | rfl | (exfalso; omega) | (exfalso; have hq := cons_k (b := y3) (k := y4) (by omega); omega) | (exfalso; have hq1 := hcm.2.1; have hq2 := hcm.2.2.1; omega) | (exfalso; rcases cons_dep hy0 hr0 with hq | hq <;> simp_all; done) | (exfalso; have hq := cons_noK hy0 (hou (by simp_all)) (by omega) hlv; simp_all; done)

set_option maxHeartbeats 4000000 in
theorem laws_FnFounded (w : World) (v_code : Value) (code : (List UInt8)) (h_code : Gd.rd w [v_code] code) : Calls Try.prog 7 [v_code].toArray w (Val w (.bool (true))) := by
  have hm1 := rd_max h_code
  refine enter 72 Try.func7 rfl rfl rfl ?_
  refine C_seq ?_
  refine C_reg ?_
  refine p1 rfl ?_
  refine D_end ?_
  refine x_then ?_
  refine C_seq ?_
  refine C_seq ?_
  refine C_reg ?_
  refine p1 rfl ?_
  refine li rfl (cv b_8 rfl rfl rfl rfl (fun w' hs => (laws_big w' v_code code (rd_at hs h_code))) ?_)
  refine D_end ?_
  refine x_then ?_
  refine C_if _ rfl (fun h2 => ?_) (fun h2 => ?_)
  · refine C_seq ?_
    refine C_reg ?_
    refine p1 rfl ?_
    refine D_end ?_
    refine x_then ?_
    refine C_ret ?_
    refine x_then_ret ?_
    refine R_1 rfl rfl fun w' hs => ⟨congrArg (fun z => Ending.returned (Value.bool z)) ?_, hs.bel⟩
    show (true : Bool) = true
    rfl
  · refine C_skip ?_
    refine x_then ?_
    refine C_seq ?_
    refine C_reg ?_
    refine p1 rfl ?_
    refine li rfl (crE (α := Beliefs) b_9 rfl rfl rfl rfl (fun w' hs => (spec_DrawGoodBeliefs w' v_code code (rd_at hs h_code))) fun y3 cs5 hy3 => ?_)
    refine D_base fun wb6 hxb7 hrb8 => ?_
    have hb9 := Gd.rd_ext hxb7 h_code
    obtain ⟨u10, rfl, hu11⟩ := open_Beliefs hrb8
    have hm12 := rd_max hu11
    refine D_re 14 (v' := (.agg #[(.int .i64 y3.Nodes), u10])) rfl rfl rfl ?_
    refine li rfl (D_alloc y_26 rfl rfl rfl rfl fun g13 => ?_)
    refine li rfl (D_stb (vs := [(.int .i64 y3.Nodes), u10]) (cs' := [(.int .i64 y3.Nodes), u10]) 0 z_26 rfl rfl rfl rfl rfl rfl (ocons rfl (ocons (one_rd hu11) onil)) (by simp) rfl ?_)
    refine D_end ?_
    refine x_then ?_
    refine D_H ([bx g13 [(.int .i64 y3.Nodes), u10]]) rfl ?_
    refine C_seq ?_
    have hst := hy3.1
    have hbn := isBeliefs_nodes (strat_b hst)
    have hll := lab_len hst
    refine C_reg ?_
    refine q1 rfl (lbw 0 a_26 rfl rfl rfl) ?_
    refine li rfl (crl b_18 rfl rfl rfl rfl (fun w' hs => (spec_LabelsOf w' [(.int .i64 y3.Nodes), u10] y3 (rd_at hs hrb8))) fun v14 => ?_)
    refine p1 rfl ?_
    refine D_end ?_
    refine x_then ?_
    refine D_H ([ov [v14] (labelsOf y3 : (List Bool)), bx g13 [(.int .i64 y3.Nodes), u10]]) rfl ?_
    refine C_seq ?_
    refine C_seq ?_
    refine C_reg ?_
    refine p1 rfl ?_
    refine D_end ?_
    refine x_then ?_
    refine C_block ?_
    refine C_loop (fun m_ ac w' => ∃ (k : Nat), (k ≤ (labelsOf y3).length) ∧ m_ = (labelsOf y3).length - k ∧ Fits ac 72 [(0, v_code), (3, (.pointer (some ⟨g13, 0, none⟩))), (4, v14), (5, (.int .i64 ((k : Nat) : Int)))] ∧ St wb6 ([ov [v14] (labelsOf y3 : (List Bool)), bx g13 [(.int .i64 y3.Nodes), u10]]) w') ?_ ?_
    · refine fun ac w' hf hs => ⟨_, 0, ?_, rfl, hf.weak ⟨rfl, rfl, rfl, rfl, trivial⟩, hs⟩
      · first | assumption | omega | simp
    · rintro m_ ac w' ⟨k, hk, rfl, hf, hs⟩
      refine D.use ?_ hf hs
      clear hf hs ac w'
      refine C_seq ?_
      refine C_seq ?_
      refine C_reg ?_
      refine p1 rfl <| p1 rfl ?_
      refine q1 rfl (D_leno 0 s_34 rfl rfl rfl) ?_
      refine p1 rfl ?_
      refine D_end ?_
      refine x_then ?_
      refine C_if _ rfl (fun h15 => ?_) (fun h15 => ?_)
      · have pr15 : (((k : Nat) : Int) : Int) < (((labelsOf y3).length : Nat) : Int) := of_decide_eq_true h15
        refine C_skip ?_
        refine x_then ?_
        refine C_seq ?_
        refine C_block ?_
        refine C_seq ?_
        refine C_reg ?_
        refine q1 rfl (lbw 1 a_26 rfl rfl rfl) ?_
        refine p1 rfl ?_
        refine li rfl (crl b_25 rfl rfl rfl rfl (fun w' hs => (impl_FoundationOf w' [(.int .i64 y3.Nodes), u10] y3 ((k : Nat) : Int) (rd_at hs hrb8))) fun v16 => ?_)
        refine p1 rfl ?_
        refine D_end ?_
        refine x_then ?_
        refine D_H ([ov [v16] (foundOf y3 ((k : Nat) : Int) : (List Int)), ov [v14] (labelsOf y3 : (List Bool)), bx g13 [(.int .i64 y3.Nodes), u10]]) rfl ?_
        refine C_seq ?_
        refine C_draw mixed [] (by kernel_rfl) ?_
        refine tk 0 rfl (by kernel_rfl) (by kernel_rfl) (by kernel_rfl) rfl (fun _ hs => hs) (lbw 2 a_26 rfl rfl rfl) ?_
        refine tk 1 rfl (by kernel_rfl) (by kernel_rfl) (by kernel_rfl) rfl (fun _ hs => hs) (rp rfl) ?_
        refine tk 2 rfl (by kernel_rfl) (by kernel_rfl) (by kernel_rfl) rfl (fun _ hs => hs) (rp rfl) ?_
        refine tk 4 rfl (by kernel_rfl) (by kernel_rfl) (by kernel_rfl) rfl (fun _ hs => hs) (rp rfl) ?_
        refine tk 5 rfl (by kernel_rfl) (by kernel_rfl) (by kernel_rfl) rfl (fun _ hs => hs) (rp rfl) ?_
        obtain ⟨lv, hlv⟩ := some_of_lt (l := (labelsOf y3)) (i := k) (by omega)
        have hlb := lab_at hst hlv
        refine tk 6 rfl (by kernel_rfl) (by kernel_rfl) (by kernel_rfl) rfl (fun _ hs => hs) (D_ix (l := (labelsOf y3)) (j := k) s_34 rfl rfl rfl (fun w' hs => (rd_own (k := 1) hs rfl)) rfl (lt_of_some hlv)) ?_
        refine tk 7 rfl (by kernel_rfl) (by kernel_rfl) (by kernel_rfl) rfl (fun _ hs => hs) (lo (α := Bool) 1 o_4 rfl rfl rfl hlv) ?_
        refine ty 3 rfl (by kernel_rfl) rfl (cv b_26 rfl rfl rfl rfl (fun w' hs => (impl_IsFoundation w' [(.int .i64 y3.Nodes), u10] y3 ((k : Nat) : Int) v16 (foundOf y3 ((k : Nat) : Int)) (rd_at hs hrb8) (rd_own (k := 0) hs rfl))) ?_)
        refine tS (fun _ hs => hs) ?_
        refine tk 8 rfl (by kernel_rfl) (by kernel_rfl) (by kernel_rfl) rfl (fun _ hs => hs) (D_neB ub_4 rfl rfl rfl) ?_
        refine tk 9 rfl (by kernel_rfl) (by kernel_rfl) (by kernel_rfl) rfl (fun _ hs => hs) (rp rfl) ?_
        refine gs 35 rfl rfl (fun h17 => ?_) (fun h17 => ?_)
        · refine tn 10 rfl (by kernel_rfl) (by kernel_rfl) (by kernel_rfl) rfl rfl rfl (fun _ hs => hs) ?_
          refine tn 11 rfl (by kernel_rfl) (by kernel_rfl) (by kernel_rfl) rfl rfl rfl (fun _ hs => hs) ?_
          refine tn 12 rfl (by kernel_rfl) (by kernel_rfl) (by kernel_rfl) rfl rfl rfl (fun _ hs => hs) ?_
          refine tn 13 rfl (by kernel_rfl) (by kernel_rfl) (by kernel_rfl) rfl rfl rfl (fun _ hs => hs) ?_
          refine tn 14 rfl (by kernel_rfl) (by kernel_rfl) (by kernel_rfl) rfl rfl rfl (fun _ hs => hs) ?_
          refine tn 15 rfl (by kernel_rfl) (by kernel_rfl) (by kernel_rfl) rfl rfl rfl (fun _ hs => hs) ?_
          refine tn 16 rfl (by kernel_rfl) (by kernel_rfl) (by kernel_rfl) rfl rfl rfl (fun _ hs => hs) ?_
          refine tn 17 rfl (by kernel_rfl) (by kernel_rfl) (by kernel_rfl) rfl rfl rfl (fun _ hs => hs) ?_
          refine tk 18 rfl (by kernel_rfl) (by kernel_rfl) (by kernel_rfl) rfl (fun _ hs => hs) (rp rfl) ?_
          refine tE (by kernel_rfl) ?_
          refine x_then ?_
          refine D_weak [(0, v_code), (3, (.pointer (some ⟨g13, 0, none⟩))), (4, v14), (5, (.int .i64 ((k : Nat) : Int))), (44, (.bool true))] ⟨rfl, rfl, rfl, rfl, rfl, trivial⟩ ?_
          refine D_sel (H' := [ov [v14] (labelsOf y3 : (List Bool)), bx g13 [(.int .i64 y3.Nodes), u10]]) [false, true, true] rfl ?_
          refine C_t rfl ?_
          refine C_seq ?_
          refine C_reg ?_
          refine p1 rfl ?_
          refine D_end ?_
          refine x_then ?_
          refine C_ret ?_
          refine x_blk_ret ?_
          refine x_then_ret ?_
          refine x_then_ret ?_
          refine x_blk_ret ?_
          refine x_then_ret ?_
          refine R_1 rfl rfl fun w' hs => ⟨congrArg (fun z => Ending.returned (Value.bool z)) ?_, (hxb7.trans hs.bel)⟩
          show (false : Bool) = true
          first | rfl | (exfalso; have hq1 := hfi.2.1; have hq2 := hfi.2.2.1; omega) | (rw [lab_at hfi.1 hmv]; exact hfi.2.2.2) | (exfalso; revert h17; rw [fo_is hst (by omega), hlb]; simp; done) | (exfalso; revert h17; rw [fo_lenZ hst (by omega), hlb]; simp; done) | (exfalso; revert h17; rw [fo_lenZ hst (by omega), hlb2]; simp; done)
        · have pr17 : (isFnd y3 ((k : Nat) : Int) (foundOf y3 ((k : Nat) : Int))) = lv := beq_of_not h17
          refine tk 10 rfl (by kernel_rfl) (by kernel_rfl) (by kernel_rfl) rfl (fun _ hs => hs) (rp rfl) ?_
          refine tk 11 rfl (by kernel_rfl) (by kernel_rfl) (by kernel_rfl) rfl (fun _ hs => hs) (D_leno 0 s_28 rfl rfl rfl) ?_
          refine tk 12 rfl (by kernel_rfl) (by kernel_rfl) (by kernel_rfl) rfl (fun _ hs => hs) (rp rfl) ?_
          refine tk 13 rfl (by kernel_rfl) (by kernel_rfl) (by kernel_rfl) rfl (fun _ hs => hs) (rp rfl) ?_
          refine tk 14 rfl (by kernel_rfl) (by kernel_rfl) (by kernel_rfl) rfl (fun _ hs => hs) (rp rfl) ?_
          refine tk 15 rfl (by kernel_rfl) (by kernel_rfl) (by kernel_rfl) rfl (fun _ hs => hs) (D_ix (l := (labelsOf y3)) (j := k) s_34 rfl rfl rfl (fun w' hs => (rd_own (k := 1) hs rfl)) rfl (lt_of_some hlv)) ?_
          refine tk 16 rfl (by kernel_rfl) (by kernel_rfl) (by kernel_rfl) rfl (fun _ hs => hs) (lo (α := Bool) 1 o_4 rfl rfl rfl hlv) ?_
          refine tk 17 rfl (by kernel_rfl) (by kernel_rfl) (by kernel_rfl) rfl (fun _ hs => hs) (D_neB ub_4 rfl rfl rfl) ?_
          refine tk 18 rfl (by kernel_rfl) (by kernel_rfl) (by kernel_rfl) rfl (fun _ hs => hs) (rp rfl) ?_
          refine tE (by kernel_rfl) ?_
          refine x_then ?_
          refine D_weak [(0, v_code), (3, (.pointer (some ⟨g13, 0, none⟩))), (4, v14), (5, (.int .i64 ((k : Nat) : Int))), (44, (.bool (!((decide ((0 : Int) < (((foundOf y3 ((k : Nat) : Int)).length : Nat) : Int))) == lv))))] ⟨rfl, rfl, rfl, rfl, rfl, trivial⟩ ?_
          refine D_sel (H' := [ov [v14] (labelsOf y3 : (List Bool)), bx g13 [(.int .i64 y3.Nodes), u10]]) [false, true, true] rfl ?_
          refine C_if _ rfl (fun h18 => ?_) (fun h18 => ?_)
          · refine C_seq ?_
            refine C_reg ?_
            refine p1 rfl ?_
            refine D_end ?_
            refine x_then ?_
            refine C_ret ?_
            refine x_blk_ret ?_
            refine x_then_ret ?_
            refine x_then_ret ?_
            refine x_blk_ret ?_
            refine x_then_ret ?_
            refine R_1 rfl rfl fun w' hs => ⟨congrArg (fun z => Ending.returned (Value.bool z)) ?_, (hxb7.trans hs.bel)⟩
            show (false : Bool) = true
            first | rfl | (exfalso; have hq1 := hfi.2.1; have hq2 := hfi.2.2.1; omega) | (rw [lab_at hfi.1 hmv]; exact hfi.2.2.2) | (exfalso; revert h18; rw [fo_is hst (by omega), hlb]; simp; done) | (exfalso; revert h18; rw [fo_lenZ hst (by omega), hlb]; simp; done) | (exfalso; revert h18; rw [fo_lenZ hst (by omega), hlb2]; simp; done)
          · have pr18 : (decide ((0 : Int) < (((foundOf y3 ((k : Nat) : Int)).length : Nat) : Int))) = lv := beq_of_not h18
            refine C_skip ?_
            refine x_blk ?_
            refine x_then ?_
            refine C_reg ?_
            refine p1 rfl ?_
            refine q1 rfl (D_add rfl rfl rfl (r := ((k + 1 : Nat) : Int)) (by omega) (by omega)) ?_
            refine p1 rfl ?_
            refine D_end ?_
            refine x_then ?_
            refine fun ac w' hf hs => ⟨_, ?_, k + 1, ?_, rfl, hf.weak ⟨rfl, rfl, rfl, rfl, trivial⟩, hs⟩
            · omega
            · first | assumption | omega | simp
      · have pr15 : ¬ (((k : Nat) : Int) : Int) < (((labelsOf y3).length : Nat) : Int) := of_decide_eq_false h15
        refine C_exit ?_
        refine x_then_exit ?_
        refine x_then_exit ?_
        refine x_blk_eq ?_
        refine x_then ?_
        refine C_seq ?_
        refine C_reg ?_
        refine p1 rfl ?_
        refine li rfl (crB3 (α := Beliefs) (β := Int) (γ := List Int) b_27 rfl rfl rfl rfl (fun w' hs => (spec_DrawIsFoundation w' v_code code (rd_at hs hb9))) fun y19 y20 y21 cs22 cs23 cs24 hy19 wb25 hxb26 hrb27 hrb28 hrb29 => ?_)
        have hb30 := Gd.rd_ext hxb26 hb9
        have hb31 := Gd.rd_ext hxb26 hu11
        have hb32 := Gd.rd_ext hxb26 hrb8
        obtain ⟨u33, rfl, hu34⟩ := open_Beliefs hrb27
        have hm35 := rd_max hu34
        obtain rfl : cs23 = [(.int .i64 y20)] := hrb28
        obtain ⟨v36, rfl⟩ := rd_cell hrb29
        have hm37 := rd_max hrb29
        refine D_re 47 (v' := (.tuple #[(.agg #[(.int .i64 y19.Nodes), u33]), (.int .i64 y20), v36])) rfl rfl rfl ?_
        refine p1 rfl <| p1 rfl <| p1 rfl <| p1 rfl ?_
        refine li rfl (D_alloc y_26 rfl rfl rfl rfl fun g38 => ?_)
        refine li rfl (D_stb (vs := [(.int .i64 y19.Nodes), u33]) (cs' := [(.int .i64 y19.Nodes), u33]) 0 z_26 rfl rfl rfl rfl rfl rfl (ocons rfl (ocons (one_rd hu34) onil)) (by simp) rfl ?_)
        refine p1 rfl <| p1 rfl ?_
        refine D_end ?_
        refine x_then ?_
        refine D_H ([bx g38 [(.int .i64 y19.Nodes), u33]]) rfl ?_
        refine C_seq ?_
        refine C_seq ?_
        refine C_reg ?_
        refine q1 rfl (lbw 0 a_26 rfl rfl rfl) ?_
        refine p1 rfl <| p1 rfl ?_
        refine li rfl (cv b_26 rfl rfl rfl rfl (fun w' hs => (impl_IsFoundation w' [(.int .i64 y19.Nodes), u33] y19 y20 v36 y21 (rd_at hs hrb27) (rd_at hs hrb29))) ?_)
        refine p1 rfl ?_
        refine D_end ?_
        refine x_then ?_
        refine D_weak [(7, (.pointer (some ⟨g38, 0, none⟩))), (8, (.int .i64 y20)), (55, (.bool (!(isFnd y19 y20 y21))))] ⟨rfl, rfl, rfl, trivial⟩ ?_
        refine C_if _ rfl (fun h39 => ?_) (fun h39 => ?_)
        · have h39n : (isFnd y19 y20 y21) = false := not_t h39
          refine C_seq ?_
          refine C_reg ?_
          refine p1 rfl ?_
          refine D_end ?_
          refine x_then ?_
          refine C_ret ?_
          refine x_then_ret ?_
          refine R_1 rfl rfl fun w' hs => ⟨congrArg (fun z => Ending.returned (Value.bool z)) ?_, ((hxb7.trans hxb26).trans hs.bel)⟩
          show (true : Bool) = true
          first | rfl | (exfalso; have hq1 := hfi.2.1; have hq2 := hfi.2.2.1; omega) | (rw [lab_at hfi.1 hmv]; exact hfi.2.2.2) | (exfalso; revert h39; rw [fo_is hst (by omega), hlb]; simp; done) | (exfalso; revert h39; rw [fo_lenZ hst (by omega), hlb]; simp; done) | (exfalso; revert h39; rw [fo_lenZ hst (by omega), hlb2]; simp; done)
        · have h39n : (isFnd y19 y20 y21) = true := not_f h39
          refine C_skip ?_
          refine x_then ?_
          refine C_seq ?_
          have hfi := fo_in (by assumption)
          have hll2 := lab_len hfi.1
          refine C_reg ?_
          refine q1 rfl (lbw 0 a_26 rfl rfl rfl) ?_
          refine li rfl (crl b_18 rfl rfl rfl rfl (fun w' hs => (spec_LabelsOf w' [(.int .i64 y19.Nodes), u33] y19 (rd_at hs hrb27))) fun v40 => ?_)
          refine p1 rfl ?_
          refine D_end ?_
          refine x_then ?_
          refine D_H ([ov [v40] (labelsOf y19 : (List Bool)), bx g38 [(.int .i64 y19.Nodes), u33]]) rfl ?_
          refine C_seq ?_
          refine C_reg ?_
          refine p1 rfl <| p1 rfl <| p1 rfl ?_
          refine gs 60 rfl rfl (fun h41 => ?_) (fun h41 => ?_)
          · have pr41 : (0 : Int) ≤ y20 := of_decide_eq_true h41
            refine p1 rfl <| p1 rfl ?_
            refine q1 rfl (D_leno 0 s_34 rfl rfl rfl) ?_
            refine p1 rfl <| p1 rfl <| p1 rfl ?_
            refine gs 66 rfl rfl (fun h42 => ?_) (fun h42 => ?_)
            · have pr42 : (y20 : Int) < (((labelsOf y19).length : Nat) : Int) := of_decide_eq_true h42
              refine p1 rfl <| p1 rfl ?_
              obtain ⟨mv, hmv⟩ := some_of_lt (l := (labelsOf y19)) (i := (y20.toNat)) (by omega)
              refine q1 rfl (D_ix (l := (labelsOf y19)) (j := (y20.toNat)) s_34 rfl rfl rfl (fun w' hs => (rd_own (k := 0) hs rfl)) (Int.toNat_of_nonneg (by omega)).symm (lt_of_some hmv)) ?_
              refine q1 rfl (lo (α := Bool) 0 o_4 rfl rfl rfl hmv) ?_
              refine p1 rfl <| p1 rfl ?_
              refine D_end ?_
              refine x_then ?_
              refine D_weak [(2, (.bool mv))] ⟨rfl, trivial⟩ ?_
              refine D_sel (H' := []) [false, false] rfl ?_
              refine C_ret ?_
              refine R_1 rfl rfl fun w' hs => ⟨congrArg (fun z => Ending.returned (Value.bool z)) ?_, ((hxb7.trans hxb26).trans hs.bel)⟩
              show (mv : Bool) = true
              first | rfl | (exfalso; have hq1 := hfi.2.1; have hq2 := hfi.2.2.1; omega) | (rw [lab_at hfi.1 hmv]; exact hfi.2.2.2) | (exfalso; revert h42; rw [fo_is hst (by omega), hlb]; simp; done) | (exfalso; revert h42; rw [fo_lenZ hst (by omega), hlb]; simp; done) | (exfalso; revert h42; rw [fo_lenZ hst (by omega), hlb2]; simp; done)
            · have pr42 : ¬ (y20 : Int) < (((labelsOf y19).length : Nat) : Int) := of_decide_eq_false h42
              refine n1 rfl ?_
              refine n1 rfl ?_
              refine n1 rfl ?_
              refine n1 rfl ?_
              refine p1 rfl <| p1 rfl ?_
              refine D_end ?_
              refine x_then ?_
              refine D_weak [(2, (.bool false))] ⟨rfl, trivial⟩ ?_
              refine D_sel (H' := []) [false, false] rfl ?_
              refine C_ret ?_
              refine R_1 rfl rfl fun w' hs => ⟨congrArg (fun z => Ending.returned (Value.bool z)) ?_, ((hxb7.trans hxb26).trans hs.bel)⟩
              show (false : Bool) = true
              first | rfl | (exfalso; have hq1 := hfi.2.1; have hq2 := hfi.2.2.1; omega) | (rw [lab_at hfi.1 hmv]; exact hfi.2.2.2) | (exfalso; revert h42; rw [fo_is hst (by omega), hlb]; simp; done) | (exfalso; revert h42; rw [fo_lenZ hst (by omega), hlb]; simp; done) | (exfalso; revert h42; rw [fo_lenZ hst (by omega), hlb2]; simp; done)
          · have pr41 : ¬ (0 : Int) ≤ y20 := of_decide_eq_false h41
            refine n1 rfl ?_
            refine n1 rfl ?_
            refine n1 rfl ?_
            refine n1 rfl ?_
            refine p1 rfl <| p1 rfl ?_
            refine n1 rfl ?_
            refine n1 rfl ?_
            refine n1 rfl ?_
            refine n1 rfl ?_
            refine p1 rfl <| p1 rfl ?_
            refine D_end ?_
            refine x_then ?_
            refine D_weak [(2, (.bool false))] ⟨rfl, trivial⟩ ?_
            refine D_sel (H' := []) [false, false] rfl ?_
            refine C_ret ?_
            refine R_1 rfl rfl fun w' hs => ⟨congrArg (fun z => Ending.returned (Value.bool z)) ?_, ((hxb7.trans hxb26).trans hs.bel)⟩
            show (false : Bool) = true
            first | rfl | (exfalso; have hq1 := hfi.2.1; have hq2 := hfi.2.2.1; omega) | (rw [lab_at hfi.1 hmv]; exact hfi.2.2.2) | (exfalso; revert h41; rw [fo_is hst (by omega), hlb]; simp; done) | (exfalso; revert h41; rw [fo_lenZ hst (by omega), hlb]; simp; done) | (exfalso; revert h41; rw [fo_lenZ hst (by omega), hlb2]; simp; done)
end Go.Sy.Law4
