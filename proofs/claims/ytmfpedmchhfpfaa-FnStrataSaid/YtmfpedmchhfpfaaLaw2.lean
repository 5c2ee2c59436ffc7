/-
  Contracts of functions of the program, walked (printed by a program of ours).
  Conditions: those that each theorem states.
-/
import Derived.Test.YtmfpedmchhfpfaaLaw1
import Derived.Test.YtmfpedmchhfpfaaLw1
import Derived.Test.YtmfpedmchhfpfaaReb
set_option linter.unusedVariables false
set_option maxRecDepth 20000
namespace Go.Sy.Law2
open Go Go.RowKit Go.Proofs Go.Sy
theorem mixed : Try.prog.follows .mixedOrders = true := by kernel_rfl
theorem b_8 : hasBody Try.prog 8 = true := by kernel_rfl
theorem b_9 : hasBody Try.prog 9 = true := by kernel_rfl
theorem y_26 : zeroTy Try.prog 26 = some (.agg #[(.int .i64 0), (.slice none 0 0)]) := by kernel_rfl
theorem z_26 : sizeTy Try.prog 26 = some 2 := by kernel_rfl
theorem a_26 : aggTy Try.prog 26 = some 2 := by kernel_rfl
theorem b_10 : hasBody Try.prog 10 = true := by kernel_rfl
theorem b_11 : hasBody Try.prog 11 = true := by kernel_rfl
theorem s_28 : sliceTy Try.prog 28 = some (3, 1, 8) := by kernel_rfl
theorem f_26_0 : fieldOff Try.prog 26 0 = some 0 := by kernel_rfl
theorem o_3 : oneTy Try.prog 3 = true := by kernel_rfl
theorem f_26_1 : fieldOff Try.prog 26 1 = some 1 := by kernel_rfl
theorem o_24 : oneTy Try.prog 24 = true := by kernel_rfl
theorem s_24 : sliceTy Try.prog 24 = some (31, 3, 56) := by kernel_rfl
theorem a_31 : aggTy Try.prog 31 = some 3 := by kernel_rfl
theorem y_31 : zeroTy Try.prog 31 = some (.agg #[(.int .i64 0), (.slice none 0 0), (.slice none 0 0)]) := by kernel_rfl
theorem z_31 : sizeTy Try.prog 31 = some 3 := by kernel_rfl
theorem f_31_1 : fieldOff Try.prog 31 1 = some 1 := by kernel_rfl
theorem o_28 : oneTy Try.prog 28 = true := by kernel_rfl
theorem f_31_0 : fieldOff Try.prog 31 0 = some 0 := by kernel_rfl
theorem f_31_2 : fieldOff Try.prog 31 2 = some 2 := by kernel_rfl
theorem b_12 : hasBody Try.prog 12 = true := by kernel_rfl
theorem b_13 : hasBody Try.prog 13 = true := by kernel_rfl
theorem ub_4 : Try.prog.underlying 4 = some .bool := by kernel_rfl
open Go.Sy.Bel1 Go.Sy.Bel4 Go.Sy.Bel5 Go.Sy.Bel6 Go.Sy.Bel7 Go.Sy.Bel8 Go.Sy.Bel9 Go.Sy.Bela Go.Sy.Belc Go.Sy.Beld Go.Sy.Cur1 Go.Sy.Law1
set_option maxHeartbeats 4000000 in
theorem laws_FnStrata (w : World) (v_code : Value) (code : (List UInt8)) (h_code : Gd.rd w [v_code] code) : Calls Try.prog 3 [v_code].toArray w (Val w (.bool (true))) := by
  have hm1 := rd_max h_code
  refine enter 194 Try.func3 rfl rfl rfl ?_
  refine C_seq ?_
  refine C_reg ?_
  refine p1 rfl ?_
  refine D_end ?_
  refine x_then ?_
  refine C_seq ?_
  refine C_seq ?_
  refine C_reg ?_
  refine p1 rfl ?_
  refine li rfl (cv b_8 rfl rfl rfl rfl (fun w' hs => (laws_big w' v_code code (rd_at hs h_code))) ?_)
  refine D_end ?_
  refine x_then ?_
  refine C_if _ rfl (fun h2 => ?_) (fun h2 => ?_)
  · refine C_seq ?_
    refine C_reg ?_
    refine p1 rfl ?_
    refine D_end ?_
    refine x_then ?_
    refine C_ret ?_
    refine x_then_ret ?_
    refine R_1 rfl rfl fun w' hs => ⟨congrArg (fun z => Ending.returned (Value.bool z)) ?_, hs.bel⟩
    show (true : Bool) = true
    rfl
  · refine C_skip ?_
    refine x_then ?_
    refine C_seq ?_
    refine C_reg ?_
    refine p1 rfl ?_
    refine li rfl (crE (α := Beliefs) b_9 rfl rfl rfl rfl (fun w' hs => (spec_DrawGoodBeliefs w' v_code code (rd_at hs h_code))) fun y3 cs5 hy3 => ?_)
    refine D_base fun wb6 hxb7 hrb8 => ?_
    have hb9 := Gd.rd_ext hxb7 h_code
    obtain ⟨u10, rfl, hu11⟩ := open_Beliefs hrb8
    have hm12 := rd_max hu11
    refine D_re 18 (v' := (.agg #[(.int .i64 y3.Nodes), u10])) rfl rfl rfl ?_
    refine li rfl (D_alloc y_26 rfl rfl rfl rfl fun g13 => ?_)
    refine li rfl (D_stb (vs := [(.int .i64 y3.Nodes), u10]) (cs' := [(.int .i64 y3.Nodes), u10]) 0 z_26 rfl rfl rfl rfl rfl rfl (ocons rfl (ocons (one_rd hu11) onil)) (by simp) rfl ?_)
    refine D_end ?_
    refine x_then ?_
    refine D_H ([bx g13 [(.int .i64 y3.Nodes), u10]]) rfl ?_
    refine C_seq ?_
    have hst := hy3.1
    have hdn := hy3.2.1
    have hdm := hy3.2.2.1
    have hsl := strO_len hst
    have hrl := roundsOf_n hst
    have hb0 := strat_b hst
    refine C_reg ?_
    refine q1 rfl (lbw 0 a_26 rfl rfl rfl) ?_
    refine li rfl (crl b_10 rfl rfl rfl rfl (fun w' hs => (impl_StrataOf w' [(.int .i64 y3.Nodes), u10] y3 (rd_at hs hrb8))) fun v14 => ?_)
    refine p1 rfl ?_
    refine D_end ?_
    refine x_then ?_
    refine D_H ([ov [v14] (strataOf y3 : (List Int)), bx g13 [(.int .i64 y3.Nodes), u10]]) rfl ?_
    refine C_seq ?_
    refine C_reg ?_
    refine q1 rfl (lbw 1 a_26 rfl rfl rfl) ?_
    refine li rfl (crl b_11 rfl rfl rfl rfl (fun w' hs => (impl_RoundsOf w' [(.int .i64 y3.Nodes), u10] y3 (rd_at hs hrb8))) fun v15 => ?_)
    refine p1 rfl ?_
    refine D_end ?_
    refine x_then ?_
    refine D_H ([ov [v15] (roundsOf y3 : (List Int)), ov [v14] (strataOf y3 : (List Int)), bx g13 [(.int .i64 y3.Nodes), u10]]) rfl ?_
    refine C_seq ?_
    refine C_seq ?_
    refine C_reg ?_
    refine p1 rfl ?_
    refine q1 rfl (D_leno 1 s_28 rfl rfl rfl) ?_
    refine q1 rfl (D_fb f_26_0 rfl rfl (q := 0) rfl) ?_
    refine q1 rfl (lb 2 o_3 rfl rfl rfl rfl) ?_
    refine p1 rfl <| p1 rfl ?_
    refine gs 28 rfl rfl (fun h16 => ?_) (fun h16 => ?_)
    · have pr16 : ((((strataOf y3).length : Nat) : Int) : Int) ≠ y3.Nodes := bne_iff_ne.1 h16
      refine n1 rfl ?_
      refine n1 rfl ?_
      refine n1 rfl ?_
      refine n1 rfl ?_
      refine n1 rfl ?_
      refine p1 rfl ?_
      refine D_end ?_
      refine x_then ?_
      refine D_weak [(3, (.pointer (some ⟨g13, 0, none⟩))), (4, v14), (5, v15), (34, (.bool true))] ⟨rfl, rfl, rfl, rfl, trivial⟩ ?_
      refine C_t rfl ?_
      refine C_seq ?_
      refine C_reg ?_
      refine p1 rfl ?_
      refine D_end ?_
      refine x_then ?_
      refine C_ret ?_
      refine x_then_ret ?_
      refine R_1 rfl rfl fun w' hs => ⟨congrArg (fun z => Ending.returned (Value.bool z)) ?_, (hxb7.trans hs.bel)⟩
      show (false : Bool) = true
      first | rfl | (exfalso; omega) | (exfalso; have := lw_in hst hr0 hya hza hzb; omega) | (exfalso; have := lw_out hst hr0 hyb hzc hzd; omega) | (exfalso; revert h16; rw [lw_dn hst hr0 hyb]; simp; done) | (exfalso; revert h16; rw [lw_dy hst hr0 hyb]; simp; done) | (exfalso; have := lw_suI hsf hyc hzr hze; omega) | (exfalso; have := lw_suI hsf hyc hzr2 hze; omega) | (exfalso; have := lw_suO hsf hyd hzf; omega) | (exfalso; have := lw_suF hsf; omega) | (exfalso; revert h16; simp; omega)
    · have pr16 : ((((strataOf y3).length : Nat) : Int) : Int) = y3.Nodes := eq_of_bne_f h16
      refine p1 rfl ?_
      refine q1 rfl (D_leno 0 s_28 rfl rfl rfl) ?_
      refine q1 rfl (D_fb f_26_0 rfl rfl (q := 0) rfl) ?_
      refine q1 rfl (lb 2 o_3 rfl rfl rfl rfl) ?_
      refine p1 rfl <| p1 rfl ?_
      refine D_end ?_
      refine x_then ?_
      refine D_weak [(3, (.pointer (some ⟨g13, 0, none⟩))), (4, v14), (5, v15), (34, (.bool (((((roundsOf y3).length : Nat) : Int) : Int) != y3.Nodes)))] ⟨rfl, rfl, rfl, rfl, trivial⟩ ?_
      refine C_if _ rfl (fun h17 => ?_) (fun h17 => ?_)
      · have pr17 : ((((roundsOf y3).length : Nat) : Int) : Int) ≠ y3.Nodes := bne_iff_ne.1 h17
        refine C_seq ?_
        refine C_reg ?_
        refine p1 rfl ?_
        refine D_end ?_
        refine x_then ?_
        refine C_ret ?_
        refine x_then_ret ?_
        refine R_1 rfl rfl fun w' hs => ⟨congrArg (fun z => Ending.returned (Value.bool z)) ?_, (hxb7.trans hs.bel)⟩
        show (false : Bool) = true
        first | rfl | (exfalso; omega) | (exfalso; have := lw_in hst hr0 hya hza hzb; omega) | (exfalso; have := lw_out hst hr0 hyb hzc hzd; omega) | (exfalso; revert h17; rw [lw_dn hst hr0 hyb]; simp; done) | (exfalso; revert h17; rw [lw_dy hst hr0 hyb]; simp; done) | (exfalso; have := lw_suI hsf hyc hzr hze; omega) | (exfalso; have := lw_suI hsf hyc hzr2 hze; omega) | (exfalso; have := lw_suO hsf hyd hzf; omega) | (exfalso; have := lw_suF hsf; omega) | (exfalso; revert h17; simp; omega)
      · have pr17 : ((((roundsOf y3).length : Nat) : Int) : Int) = y3.Nodes := eq_of_bne_f h17
        refine C_skip ?_
        refine x_then ?_
        refine C_seq ?_
        refine C_seq ?_
        refine C_reg ?_
        refine p1 rfl ?_
        refine D_end ?_
        refine x_then ?_
        refine C_block ?_
        refine C_loop (fun m_ ac w' => ∃ (k : Nat), (k ≤ y3.Reasons.length) ∧ m_ = y3.Reasons.length - k ∧ Fits ac 194 [(3, (.pointer (some ⟨g13, 0, none⟩))), (4, v14), (5, v15), (6, (.int .i64 ((k : Nat) : Int)))] ∧ St wb6 ([ov [v15] (roundsOf y3 : (List Int)), ov [v14] (strataOf y3 : (List Int)), bx g13 [(.int .i64 y3.Nodes), u10]]) w') ?_ ?_
        · refine fun ac w' hf hs => ⟨_, 0, ?_, rfl, hf.weak ⟨rfl, rfl, rfl, rfl, trivial⟩, hs⟩
          · first | assumption | omega | simp
        · rintro m_ ac w' ⟨k, hk, rfl, hf, hs⟩
          refine D.use ?_ hf hs
          clear hf hs ac w'
          refine C_seq ?_
          refine C_seq ?_
          refine C_reg ?_
          refine p1 rfl ?_
          refine q1 rfl (D_fb f_26_1 rfl rfl (q := 1) rfl) ?_
          refine q1 rfl (lb 2 o_24 rfl rfl rfl rfl) ?_
          refine q1 rfl (D_len s_24 rfl rfl (rd_sl hu11)) ?_
          refine p1 rfl ?_
          refine D_end ?_
          refine x_then ?_
          refine C_if _ rfl (fun h18 => ?_) (fun h18 => ?_)
          · have pr18 : (((k : Nat) : Int) : Int) < ((y3.Reasons.length : Nat) : Int) := of_decide_eq_true h18
            refine C_skip ?_
            refine x_then ?_
            refine C_seq ?_
            refine C_block ?_
            refine C_seq ?_
            refine C_reg ?_
            refine q1 rfl (D_fb f_26_1 rfl rfl (q := 1) rfl) ?_
            refine q1 rfl (lb 2 o_24 rfl rfl rfl rfl) ?_
            refine p1 rfl ?_
            obtain ⟨r0, hr0⟩ := some_of_lt (l := y3.Reasons) (i := k) (by omega)
            have hv0 := isB_r hb0 hr0
            have hF := isR_for hv0
            obtain ⟨es19, at20, hr21⟩ := rd_elem (n := 3) rfl hu11 hr0
            obtain ⟨u22, u24, rfl, hu23, hu25⟩ := open_Reason hr21
            have hm26 := rd_max hu23
            have hm27 := rd_max hu25
            refine q1 rfl (D_ix (l := y3.Reasons) (j := k) s_24 rfl rfl rfl (fun w' hs => (rd_at hs hu11)) rfl (lt_of_some hr0)) ?_
            refine q1 rfl (lra a_31 rfl rfl at20) ?_
            refine li rfl (D_alloc y_31 rfl rfl rfl rfl fun g28 => ?_)
            refine li rfl (D_stb (vs := [(.int .i64 r0.For), u22, u24]) (cs' := [(.int .i64 r0.For), u22, u24]) 0 z_31 rfl rfl rfl rfl rfl rfl (ocons rfl (ocons (one_rd hu23) (ocons (one_rd hu25) onil))) (by simp) rfl ?_)
            refine D_end ?_
            refine x_then ?_
            refine D_H ([bx g28 [(.int .i64 r0.For), u22, u24], ov [v15] (roundsOf y3 : (List Int)), ov [v14] (strataOf y3 : (List Int)), bx g13 [(.int .i64 y3.Nodes), u10]]) rfl ?_
            refine C_seq ?_
            refine C_seq ?_
            refine C_reg ?_
            refine p1 rfl ?_
            refine D_end ?_
            refine x_then ?_
            refine C_block ?_
            refine C_loop (fun m_ ac w' => ∃ (m : Nat), (m ≤ r0.In.length) ∧ m_ = r0.In.length - m ∧ Fits ac 194 [(3, (.pointer (some ⟨g13, 0, none⟩))), (4, v14), (5, v15), (6, (.int .i64 ((k : Nat) : Int))), (7, (.pointer (some ⟨g28, 0, none⟩))), (8, (.int .i64 ((m : Nat) : Int)))] ∧ St wb6 ([bx g28 [(.int .i64 r0.For), u22, u24], ov [v15] (roundsOf y3 : (List Int)), ov [v14] (strataOf y3 : (List Int)), bx g13 [(.int .i64 y3.Nodes), u10]]) w') ?_ ?_
            · refine fun ac w' hf hs => ⟨_, 0, ?_, rfl, hf.weak ⟨rfl, rfl, rfl, rfl, rfl, rfl, trivial⟩, hs⟩
              · first | assumption | omega | simp
            · rintro m_ ac w' ⟨m, hm, rfl, hf, hs⟩
              refine D.use ?_ hf hs
              clear hf hs ac w'
              refine C_seq ?_
              refine C_seq ?_
              refine C_reg ?_
              refine p1 rfl ?_
              refine q1 rfl (D_fb f_31_1 rfl rfl (q := 1) rfl) ?_
              refine q1 rfl (lb 0 o_28 rfl rfl rfl rfl) ?_
              refine q1 rfl (D_len s_28 rfl rfl (rd_sl hu23)) ?_
              refine p1 rfl ?_
              refine D_end ?_
              refine x_then ?_
              refine C_if _ rfl (fun h29 => ?_) (fun h29 => ?_)
              · have pr29 : (((m : Nat) : Int) : Int) < ((r0.In.length : Nat) : Int) := of_decide_eq_true h29
                refine C_skip ?_
                refine x_then ?_
                refine C_seq ?_
                refine C_block ?_
                refine C_seq ?_
                refine C_draw mixed [] (by kernel_rfl) ?_
                refine tk 0 rfl (by kernel_rfl) (by kernel_rfl) (by kernel_rfl) rfl (fun _ hs => hs) (rp rfl) ?_
                refine tk 1 rfl (by kernel_rfl) (by kernel_rfl) (by kernel_rfl) rfl (fun _ hs => hs) (D_fb f_31_0 rfl rfl (q := 0) rfl) ?_
                refine tk 2 rfl (by kernel_rfl) (by kernel_rfl) (by kernel_rfl) rfl (fun _ hs => hs) (lb 0 o_3 rfl rfl rfl rfl) ?_
                obtain ⟨za, hza⟩ := some_of_lt (l := (strataOf y3)) (i := (r0.For.toNat)) (by omega)
                refine tk 3 rfl (by kernel_rfl) (by kernel_rfl) (by kernel_rfl) rfl (fun _ hs => hs) (D_ix (l := (strataOf y3)) (j := (r0.For.toNat)) s_28 rfl rfl rfl (fun w' hs => (rd_own (k := 2) hs rfl)) (Int.toNat_of_nonneg (by omega)).symm (lt_of_some hza)) ?_
                refine tk 4 rfl (by kernel_rfl) (by kernel_rfl) (by kernel_rfl) rfl (fun _ hs => hs) (lo (α := Int) 2 o_3 rfl rfl rfl hza) ?_
                refine tk 5 rfl (by kernel_rfl) (by kernel_rfl) (by kernel_rfl) rfl (fun _ hs => hs) (rp rfl) ?_
                refine tk 6 rfl (by kernel_rfl) (by kernel_rfl) (by kernel_rfl) rfl (fun _ hs => hs) (D_fb f_31_1 rfl rfl (q := 1) rfl) ?_
                refine tk 7 rfl (by kernel_rfl) (by kernel_rfl) (by kernel_rfl) rfl (fun _ hs => hs) (lb 0 o_28 rfl rfl rfl rfl) ?_
                refine tk 8 rfl (by kernel_rfl) (by kernel_rfl) (by kernel_rfl) rfl (fun _ hs => hs) (rp rfl) ?_
                obtain ⟨ya, hya⟩ := some_of_lt (l := r0.In) (i := m) (by omega)
                have hyn := asc_at (isR_in hv0) hya
                obtain ⟨es30, at31, hr32⟩ := rd_elem (n := 1) rfl hu23 hya
                obtain rfl : es30 = [.int .i64 ya] := hr32
                refine tk 9 rfl (by kernel_rfl) (by kernel_rfl) (by kernel_rfl) rfl (fun _ hs => hs) (D_ix (l := r0.In) (j := m) s_28 rfl rfl rfl (fun w' hs => (rd_at hs hu23)) rfl (lt_of_some hya)) ?_
                refine tk 10 rfl (by kernel_rfl) (by kernel_rfl) (by kernel_rfl) rfl (fun _ hs => hs) (lr0 o_3 rfl rfl at31 rfl) ?_
                obtain ⟨zb, hzb⟩ := some_of_lt (l := (strataOf y3)) (i := (ya.toNat)) (by omega)
                refine tk 11 rfl (by kernel_rfl) (by kernel_rfl) (by kernel_rfl) rfl (fun _ hs => hs) (D_ix (l := (strataOf y3)) (j := (ya.toNat)) s_28 rfl rfl rfl (fun w' hs => (rd_own (k := 2) hs rfl)) (Int.toNat_of_nonneg (by omega)).symm (lt_of_some hzb)) ?_
                refine tk 12 rfl (by kernel_rfl) (by kernel_rfl) (by kernel_rfl) rfl (fun _ hs => hs) (lo (α := Int) 2 o_3 rfl rfl rfl hzb) ?_
                refine tk 13 rfl (by kernel_rfl) (by kernel_rfl) (by kernel_rfl) rfl (fun _ hs => hs) (rp rfl) ?_
                refine tE (by kernel_rfl) ?_
                refine x_then ?_
                refine D_weak [(3, (.pointer (some ⟨g13, 0, none⟩))), (4, v14), (5, v15), (6, (.int .i64 ((k : Nat) : Int))), (7, (.pointer (some ⟨g28, 0, none⟩))), (8, (.int .i64 ((m : Nat) : Int))), (67, (.bool (decide ((za : Int) < zb))))] ⟨rfl, rfl, rfl, rfl, rfl, rfl, rfl, trivial⟩ ?_
                refine C_if _ rfl (fun h33 => ?_) (fun h33 => ?_)
                · have pr33 : (za : Int) < zb := of_decide_eq_true h33
                  refine C_seq ?_
                  refine C_reg ?_
                  refine p1 rfl ?_
                  refine D_end ?_
                  refine x_then ?_
                  refine C_ret ?_
                  refine x_blk_ret ?_
                  refine x_then_ret ?_
                  refine x_then_ret ?_
                  refine x_blk_ret ?_
                  refine x_then_ret ?_
                  refine x_blk_ret ?_
                  refine x_then_ret ?_
                  refine x_then_ret ?_
                  refine x_blk_ret ?_
                  refine x_then_ret ?_
                  refine R_1 rfl rfl fun w' hs => ⟨congrArg (fun z => Ending.returned (Value.bool z)) ?_, (hxb7.trans hs.bel)⟩
                  show (false : Bool) = true
                  first | rfl | (exfalso; omega) | (exfalso; have := lw_in hst hr0 hya hza hzb; omega) | (exfalso; have := lw_out hst hr0 hyb hzc hzd; omega) | (exfalso; revert h33; rw [lw_dn hst hr0 hyb]; simp; done) | (exfalso; revert h33; rw [lw_dy hst hr0 hyb]; simp; done) | (exfalso; have := lw_suI hsf hyc hzr hze; omega) | (exfalso; have := lw_suI hsf hyc hzr2 hze; omega) | (exfalso; have := lw_suO hsf hyd hzf; omega) | (exfalso; have := lw_suF hsf; omega) | (exfalso; revert h33; simp; omega)
                · have pr33 : ¬ (za : Int) < zb := of_decide_eq_false h33
                  refine C_skip ?_
                  refine x_blk ?_
                  refine x_then ?_
                  refine C_reg ?_
                  refine p1 rfl ?_
                  refine q1 rfl (D_add rfl rfl rfl (r := ((m + 1 : Nat) : Int)) (by omega) (by omega)) ?_
                  refine p1 rfl ?_
                  refine D_end ?_
                  refine x_then ?_
                  refine fun ac w' hf hs => ⟨_, ?_, m + 1, ?_, rfl, hf.weak ⟨rfl, rfl, rfl, rfl, rfl, rfl, trivial⟩, hs⟩
                  · omega
                  · first | assumption | omega | simp
              · have pr29 : ¬ (((m : Nat) : Int) : Int) < ((r0.In.length : Nat) : Int) := of_decide_eq_false h29
                refine C_exit ?_
                refine x_then_exit ?_
                refine x_then_exit ?_
                refine x_blk_eq ?_
                refine x_then ?_
                refine C_seq ?_
                refine C_reg ?_
                refine p1 rfl ?_
                refine D_end ?_
                refine x_then ?_
                refine C_block ?_
                refine C_loop (fun m_ ac w' => ∃ (m : Nat), (m ≤ r0.Out.length) ∧ m_ = r0.Out.length - m ∧ Fits ac 194 [(3, (.pointer (some ⟨g13, 0, none⟩))), (4, v14), (5, v15), (6, (.int .i64 ((k : Nat) : Int))), (7, (.pointer (some ⟨g28, 0, none⟩))), (9, (.int .i64 ((m : Nat) : Int)))] ∧ St wb6 ([bx g28 [(.int .i64 r0.For), u22, u24], ov [v15] (roundsOf y3 : (List Int)), ov [v14] (strataOf y3 : (List Int)), bx g13 [(.int .i64 y3.Nodes), u10]]) w') ?_ ?_
                · refine fun ac w' hf hs => ⟨_, 0, ?_, rfl, hf.weak ⟨rfl, rfl, rfl, rfl, rfl, rfl, trivial⟩, hs⟩
                  · first | assumption | omega | simp
                · rintro m_ ac w' ⟨m, hm, rfl, hf, hs⟩
                  refine D.use ?_ hf hs
                  clear hf hs ac w'
                  refine C_seq ?_
                  refine C_seq ?_
                  refine C_reg ?_
                  refine p1 rfl ?_
                  refine q1 rfl (D_fb f_31_2 rfl rfl (q := 2) rfl) ?_
                  refine q1 rfl (lb 0 o_28 rfl rfl rfl rfl) ?_
                  refine q1 rfl (D_len s_28 rfl rfl (rd_sl hu25)) ?_
                  refine p1 rfl ?_
                  refine D_end ?_
                  refine x_then ?_
                  refine C_if _ rfl (fun h34 => ?_) (fun h34 => ?_)
                  · have pr34 : (((m : Nat) : Int) : Int) < ((r0.Out.length : Nat) : Int) := of_decide_eq_true h34
                    refine C_skip ?_
                    refine x_then ?_
                    refine C_seq ?_
                    refine C_block ?_
                    refine C_seq ?_
                    refine C_draw mixed [23, 24, 25, 34, 35, 36] (by kernel_rfl) ?_
                    refine tk 0 rfl (by kernel_rfl) (by kernel_rfl) (by kernel_rfl) rfl (fun _ hs => hs) (rp rfl) ?_
                    refine tk 1 rfl (by kernel_rfl) (by kernel_rfl) (by kernel_rfl) rfl (fun _ hs => hs) (D_fb f_31_0 rfl rfl (q := 0) rfl) ?_
                    refine tk 2 rfl (by kernel_rfl) (by kernel_rfl) (by kernel_rfl) rfl (fun _ hs => hs) (lb 0 o_3 rfl rfl rfl rfl) ?_
                    obtain ⟨zc, hzc⟩ := some_of_lt (l := (strataOf y3)) (i := (r0.For.toNat)) (by omega)
                    refine tk 3 rfl (by kernel_rfl) (by kernel_rfl) (by kernel_rfl) rfl (fun _ hs => hs) (D_ix (l := (strataOf y3)) (j := (r0.For.toNat)) s_28 rfl rfl rfl (fun w' hs => (rd_own (k := 2) hs rfl)) (Int.toNat_of_nonneg (by omega)).symm (lt_of_some hzc)) ?_
                    refine tk 4 rfl (by kernel_rfl) (by kernel_rfl) (by kernel_rfl) rfl (fun _ hs => hs) (lo (α := Int) 2 o_3 rfl rfl rfl hzc) ?_
                    refine tk 5 rfl (by kernel_rfl) (by kernel_rfl) (by kernel_rfl) rfl (fun _ hs => hs) (rp rfl) ?_
                    refine tk 6 rfl (by kernel_rfl) (by kernel_rfl) (by kernel_rfl) rfl (fun _ hs => hs) (D_fb f_31_2 rfl rfl (q := 2) rfl) ?_
                    refine tk 7 rfl (by kernel_rfl) (by kernel_rfl) (by kernel_rfl) rfl (fun _ hs => hs) (lb 0 o_28 rfl rfl rfl rfl) ?_
                    refine tk 8 rfl (by kernel_rfl) (by kernel_rfl) (by kernel_rfl) rfl (fun _ hs => hs) (rp rfl) ?_
                    obtain ⟨yb, hyb⟩ := some_of_lt (l := r0.Out) (i := m) (by omega)
                    have hyn := asc_at (isR_out hv0) hyb
                    obtain ⟨es35, at36, hr37⟩ := rd_elem (n := 1) rfl hu25 hyb
                    obtain rfl : es35 = [.int .i64 yb] := hr37
                    refine tk 9 rfl (by kernel_rfl) (by kernel_rfl) (by kernel_rfl) rfl (fun _ hs => hs) (D_ix (l := r0.Out) (j := m) s_28 rfl rfl rfl (fun w' hs => (rd_at hs hu25)) rfl (lt_of_some hyb)) ?_
                    refine tk 10 rfl (by kernel_rfl) (by kernel_rfl) (by kernel_rfl) rfl (fun _ hs => hs) (lr0 o_3 rfl rfl at36 rfl) ?_
                    obtain ⟨zd, hzd⟩ := some_of_lt (l := (strataOf y3)) (i := (yb.toNat)) (by omega)
                    refine tk 11 rfl (by kernel_rfl) (by kernel_rfl) (by kernel_rfl) rfl (fun _ hs => hs) (D_ix (l := (strataOf y3)) (j := (yb.toNat)) s_28 rfl rfl rfl (fun w' hs => (rd_own (k := 2) hs rfl)) (Int.toNat_of_nonneg (by omega)).symm (lt_of_some hzd)) ?_
                    refine tk 12 rfl (by kernel_rfl) (by kernel_rfl) (by kernel_rfl) rfl (fun _ hs => hs) (lo (α := Int) 2 o_3 rfl rfl rfl hzd) ?_
                    refine tk 13 rfl (by kernel_rfl) (by kernel_rfl) (by kernel_rfl) rfl (fun _ hs => hs) (rp rfl) ?_
                    refine tk 14 rfl (by kernel_rfl) (by kernel_rfl) (by kernel_rfl) rfl (fun _ hs => hs) (rp rfl) ?_
                    refine gs 89 rfl rfl (fun h38 => ?_) (fun h38 => ?_)
                    · have pr38 : (zc : Int) ≤ zd := of_decide_eq_true h38
                      refine tn 15 rfl (by kernel_rfl) (by kernel_rfl) (by kernel_rfl) rfl rfl rfl (fun _ hs => hs) ?_
                      refine tn 16 rfl (by kernel_rfl) (by kernel_rfl) (by kernel_rfl) rfl rfl rfl (fun _ hs => hs) ?_
                      refine tn 17 rfl (by kernel_rfl) (by kernel_rfl) (by kernel_rfl) rfl rfl rfl (fun _ hs => hs) ?_
                      refine tn 18 rfl (by kernel_rfl) (by kernel_rfl) (by kernel_rfl) rfl rfl rfl (fun _ hs => hs) ?_
                      refine tn 19 rfl (by kernel_rfl) (by kernel_rfl) (by kernel_rfl) rfl rfl rfl (fun _ hs => hs) ?_
                      refine tn 20 rfl (by kernel_rfl) (by kernel_rfl) (by kernel_rfl) rfl rfl rfl (fun _ hs => hs) ?_
                      refine tn 21 rfl (by kernel_rfl) (by kernel_rfl) (by kernel_rfl) rfl rfl rfl (fun _ hs => hs) ?_
                      refine tn 22 rfl (by kernel_rfl) (by kernel_rfl) (by kernel_rfl) rfl rfl rfl (fun _ hs => hs) ?_
                      refine tn 23 rfl (by kernel_rfl) (by kernel_rfl) (by kernel_rfl) rfl rfl rfl (fun _ hs => hs) ?_
                      refine ty 24 rfl (by kernel_rfl) rfl (sv rfl rfl (rp rfl) ?_)
                      refine tZ rfl ?_
                      refine ty 25 rfl (by kernel_rfl) rfl (sv rfl rfl (rp rfl) ?_)
                      refine tZ rfl ?_
                      refine tn 26 rfl (by kernel_rfl) (by kernel_rfl) (by kernel_rfl) rfl rfl rfl (fun _ hs => hs) ?_
                      refine tn 27 rfl (by kernel_rfl) (by kernel_rfl) (by kernel_rfl) rfl rfl rfl (fun _ hs => hs) ?_
                      refine tn 28 rfl (by kernel_rfl) (by kernel_rfl) (by kernel_rfl) rfl rfl rfl (fun _ hs => hs) ?_
                      refine tn 29 rfl (by kernel_rfl) (by kernel_rfl) (by kernel_rfl) rfl rfl rfl (fun _ hs => hs) ?_
                      refine tn 30 rfl (by kernel_rfl) (by kernel_rfl) (by kernel_rfl) rfl rfl rfl (fun _ hs => hs) ?_
                      refine tn 31 rfl (by kernel_rfl) (by kernel_rfl) (by kernel_rfl) rfl rfl rfl (fun _ hs => hs) ?_
                      refine tn 32 rfl (by kernel_rfl) (by kernel_rfl) (by kernel_rfl) rfl rfl rfl (fun _ hs => hs) ?_
                      refine tn 33 rfl (by kernel_rfl) (by kernel_rfl) (by kernel_rfl) rfl rfl rfl (fun _ hs => hs) ?_
                      refine tn 34 rfl (by kernel_rfl) (by kernel_rfl) (by kernel_rfl) rfl rfl rfl (fun _ hs => hs) ?_
                      refine tn 35 rfl (by kernel_rfl) (by kernel_rfl) (by kernel_rfl) rfl rfl rfl (fun _ hs => hs) ?_
                      refine ty 36 rfl (by kernel_rfl) rfl (sv rfl rfl (rp rfl) ?_)
                      refine tZ rfl ?_
                      refine tE (by kernel_rfl) ?_
                      refine x_then ?_
                      refine D_weak [(3, (.pointer (some ⟨g13, 0, none⟩))), (4, v14), (5, v15), (6, (.int .i64 ((k : Nat) : Int))), (7, (.pointer (some ⟨g28, 0, none⟩))), (9, (.int .i64 ((m : Nat) : Int))), (111, (.bool true))] ⟨rfl, rfl, rfl, rfl, rfl, rfl, rfl, trivial⟩ ?_
                      refine C_t rfl ?_
                      refine C_seq ?_
                      refine C_reg ?_
                      refine p1 rfl ?_
                      refine D_end ?_
                      refine x_then ?_
                      refine C_ret ?_
                      refine x_blk_ret ?_
                      refine x_then_ret ?_
                      refine x_then_ret ?_
                      refine x_blk_ret ?_
                      refine x_blk_ret ?_
                      refine x_then_ret ?_
                      refine x_then_ret ?_
                      refine x_blk_ret ?_
                      refine x_then_ret ?_
                      refine R_1 rfl rfl fun w' hs => ⟨congrArg (fun z => Ending.returned (Value.bool z)) ?_, (hxb7.trans hs.bel)⟩
                      show (false : Bool) = true
                      first | rfl | (exfalso; omega) | (exfalso; have := lw_in hst hr0 hya hza hzb; omega) | (exfalso; have := lw_out hst hr0 hyb hzc hzd; omega) | (exfalso; revert h38; rw [lw_dn hst hr0 hyb]; simp; done) | (exfalso; revert h38; rw [lw_dy hst hr0 hyb]; simp; done) | (exfalso; have := lw_suI hsf hyc hzr hze; omega) | (exfalso; have := lw_suI hsf hyc hzr2 hze; omega) | (exfalso; have := lw_suO hsf hyd hzf; omega) | (exfalso; have := lw_suF hsf; omega) | (exfalso; revert h38; simp; omega)
                    · have pr38 : ¬ (zc : Int) ≤ zd := of_decide_eq_false h38
                      refine tk 15 rfl (by kernel_rfl) (by kernel_rfl) (by kernel_rfl) rfl (fun _ hs => hs) (lbw 3 a_26 rfl rfl rfl) ?_
                      refine tk 16 rfl (by kernel_rfl) (by kernel_rfl) (by kernel_rfl) rfl (fun _ hs => hs) (D_fb f_31_2 rfl rfl (q := 2) rfl) ?_
                      refine tk 17 rfl (by kernel_rfl) (by kernel_rfl) (by kernel_rfl) rfl (fun _ hs => hs) (lb 0 o_28 rfl rfl rfl rfl) ?_
                      refine tk 18 rfl (by kernel_rfl) (by kernel_rfl) (by kernel_rfl) rfl (fun _ hs => hs) (rp rfl) ?_
                      refine tk 19 rfl (by kernel_rfl) (by kernel_rfl) (by kernel_rfl) rfl (fun _ hs => hs) (D_ix (l := r0.Out) (j := m) s_28 rfl rfl rfl (fun w' hs => (rd_at hs hu25)) rfl (lt_of_some hyb)) ?_
                      refine tk 20 rfl (by kernel_rfl) (by kernel_rfl) (by kernel_rfl) rfl (fun _ hs => hs) (lr0 o_3 rfl rfl at36 rfl) ?_
                      refine tk 21 rfl (by kernel_rfl) (by kernel_rfl) (by kernel_rfl) rfl (fun _ hs => hs) (D_fb f_31_0 rfl rfl (q := 0) rfl) ?_
                      refine tk 22 rfl (by kernel_rfl) (by kernel_rfl) (by kernel_rfl) rfl (fun _ hs => hs) (lb 0 o_3 rfl rfl rfl rfl) ?_
                      refine ty 23 rfl (by kernel_rfl) rfl (cv b_12 rfl rfl rfl rfl (fun w' hs => (impl_DependsOn w' [(.int .i64 y3.Nodes), u10] y3 yb r0.For (rd_at hs hrb8))) ?_)
                      refine tZ rfl ?_
                      refine ty 24 rfl (by kernel_rfl) rfl (sv rfl rfl (rp rfl) ?_)
                      refine tZ rfl ?_
                      refine ty 25 rfl (by kernel_rfl) rfl (sv rfl rfl (rp rfl) ?_)
                      refine tZ rfl ?_
                      refine gs 100 rfl rfl (fun h39 => ?_) (fun h39 => ?_)
                      · refine tn 26 rfl (by kernel_rfl) (by kernel_rfl) (by kernel_rfl) rfl rfl rfl (fun _ hs => hs) ?_
                        refine tn 27 rfl (by kernel_rfl) (by kernel_rfl) (by kernel_rfl) rfl rfl rfl (fun _ hs => hs) ?_
                        refine tn 28 rfl (by kernel_rfl) (by kernel_rfl) (by kernel_rfl) rfl rfl rfl (fun _ hs => hs) ?_
                        refine tn 29 rfl (by kernel_rfl) (by kernel_rfl) (by kernel_rfl) rfl rfl rfl (fun _ hs => hs) ?_
                        refine tn 30 rfl (by kernel_rfl) (by kernel_rfl) (by kernel_rfl) rfl rfl rfl (fun _ hs => hs) ?_
                        refine tn 31 rfl (by kernel_rfl) (by kernel_rfl) (by kernel_rfl) rfl rfl rfl (fun _ hs => hs) ?_
                        refine tn 32 rfl (by kernel_rfl) (by kernel_rfl) (by kernel_rfl) rfl rfl rfl (fun _ hs => hs) ?_
                        refine tn 33 rfl (by kernel_rfl) (by kernel_rfl) (by kernel_rfl) rfl rfl rfl (fun _ hs => hs) ?_
                        refine tn 34 rfl (by kernel_rfl) (by kernel_rfl) (by kernel_rfl) rfl rfl rfl (fun _ hs => hs) ?_
                        refine tn 35 rfl (by kernel_rfl) (by kernel_rfl) (by kernel_rfl) rfl rfl rfl (fun _ hs => hs) ?_
                        refine ty 36 rfl (by kernel_rfl) rfl (sv rfl rfl (rp rfl) ?_)
                        refine tZ rfl ?_
                        refine tE (by kernel_rfl) ?_
                        refine x_then ?_
                        refine D_weak [(3, (.pointer (some ⟨g13, 0, none⟩))), (4, v14), (5, v15), (6, (.int .i64 ((k : Nat) : Int))), (7, (.pointer (some ⟨g28, 0, none⟩))), (9, (.int .i64 ((m : Nat) : Int))), (111, (.bool true))] ⟨rfl, rfl, rfl, rfl, rfl, rfl, rfl, trivial⟩ ?_
                        refine C_t rfl ?_
                        refine C_seq ?_
                        refine C_reg ?_
                        refine p1 rfl ?_
                        refine D_end ?_
                        refine x_then ?_
                        refine C_ret ?_
                        refine x_blk_ret ?_
                        refine x_then_ret ?_
                        refine x_then_ret ?_
                        refine x_blk_ret ?_
                        refine x_blk_ret ?_
                        refine x_then_ret ?_
                        refine x_then_ret ?_
                        refine x_blk_ret ?_
                        refine x_then_ret ?_
                        refine R_1 rfl rfl fun w' hs => ⟨congrArg (fun z => Ending.returned (Value.bool z)) ?_, (hxb7.trans hs.bel)⟩
                        show (false : Bool) = true
                        first | rfl | (exfalso; omega) | (exfalso; have := lw_in hst hr0 hya hza hzb; omega) | (exfalso; have := lw_out hst hr0 hyb hzc hzd; omega) | (exfalso; revert h39; rw [lw_dn hst hr0 hyb]; simp; done) | (exfalso; revert h39; rw [lw_dy hst hr0 hyb]; simp; done) | (exfalso; have := lw_suI hsf hyc hzr hze; omega) | (exfalso; have := lw_suI hsf hyc hzr2 hze; omega) | (exfalso; have := lw_suO hsf hyd hzf; omega) | (exfalso; have := lw_suF hsf; omega) | (exfalso; revert h39; simp; omega)
                      · refine tk 26 rfl (by kernel_rfl) (by kernel_rfl) (by kernel_rfl) rfl (fun _ hs => hs) (lbw 3 a_26 rfl rfl rfl) ?_
                        refine tk 27 rfl (by kernel_rfl) (by kernel_rfl) (by kernel_rfl) rfl (fun _ hs => hs) (D_fb f_31_0 rfl rfl (q := 0) rfl) ?_
                        refine tk 28 rfl (by kernel_rfl) (by kernel_rfl) (by kernel_rfl) rfl (fun _ hs => hs) (lb 0 o_3 rfl rfl rfl rfl) ?_
                        refine tk 29 rfl (by kernel_rfl) (by kernel_rfl) (by kernel_rfl) rfl (fun _ hs => hs) (D_fb f_31_2 rfl rfl (q := 2) rfl) ?_
                        refine tk 30 rfl (by kernel_rfl) (by kernel_rfl) (by kernel_rfl) rfl (fun _ hs => hs) (lb 0 o_28 rfl rfl rfl rfl) ?_
                        refine tk 31 rfl (by kernel_rfl) (by kernel_rfl) (by kernel_rfl) rfl (fun _ hs => hs) (rp rfl) ?_
                        refine tk 32 rfl (by kernel_rfl) (by kernel_rfl) (by kernel_rfl) rfl (fun _ hs => hs) (D_ix (l := r0.Out) (j := m) s_28 rfl rfl rfl (fun w' hs => (rd_at hs hu25)) rfl (lt_of_some hyb)) ?_
                        refine tk 33 rfl (by kernel_rfl) (by kernel_rfl) (by kernel_rfl) rfl (fun _ hs => hs) (lr0 o_3 rfl rfl at36 rfl) ?_
                        refine ty 34 rfl (by kernel_rfl) rfl (cv b_12 rfl rfl rfl rfl (fun w' hs => (impl_DependsOn w' [(.int .i64 y3.Nodes), u10] y3 r0.For yb (rd_at hs hrb8))) ?_)
                        refine tZ rfl ?_
                        refine ty 35 rfl (by kernel_rfl) rfl (sv rfl rfl (rp rfl) ?_)
                        refine tZ rfl ?_
                        refine ty 36 rfl (by kernel_rfl) rfl (sv rfl rfl (rp rfl) ?_)
                        refine tZ rfl ?_
                        refine tE (by kernel_rfl) ?_
                        refine x_then ?_
                        refine D_weak [(3, (.pointer (some ⟨g13, 0, none⟩))), (4, v14), (5, v15), (6, (.int .i64 ((k : Nat) : Int))), (7, (.pointer (some ⟨g28, 0, none⟩))), (9, (.int .i64 ((m : Nat) : Int))), (111, (.bool (!(depOn y3 r0.For yb))))] ⟨rfl, rfl, rfl, rfl, rfl, rfl, rfl, trivial⟩ ?_
                        refine C_if _ rfl (fun h40 => ?_) (fun h40 => ?_)
                        · have h40n : (depOn y3 r0.For yb) = false := not_t h40
                          refine C_seq ?_
                          refine C_reg ?_
                          refine p1 rfl ?_
                          refine D_end ?_
                          refine x_then ?_
                          refine C_ret ?_
                          refine x_blk_ret ?_
                          refine x_then_ret ?_
                          refine x_then_ret ?_
                          refine x_blk_ret ?_
                          refine x_blk_ret ?_
                          refine x_then_ret ?_
                          refine x_then_ret ?_
                          refine x_blk_ret ?_
                          refine x_then_ret ?_
                          refine R_1 rfl rfl fun w' hs => ⟨congrArg (fun z => Ending.returned (Value.bool z)) ?_, (hxb7.trans hs.bel)⟩
                          show (false : Bool) = true
                          first | rfl | (exfalso; omega) | (exfalso; have := lw_in hst hr0 hya hza hzb; omega) | (exfalso; have := lw_out hst hr0 hyb hzc hzd; omega) | (exfalso; revert h40; rw [lw_dn hst hr0 hyb]; simp; done) | (exfalso; revert h40; rw [lw_dy hst hr0 hyb]; simp; done) | (exfalso; have := lw_suI hsf hyc hzr hze; omega) | (exfalso; have := lw_suI hsf hyc hzr2 hze; omega) | (exfalso; have := lw_suO hsf hyd hzf; omega) | (exfalso; have := lw_suF hsf; omega) | (exfalso; revert h40; simp; omega)
                        · have h40n : (depOn y3 r0.For yb) = true := not_f h40
                          refine C_skip ?_
                          refine x_blk ?_
                          refine x_then ?_
                          refine C_reg ?_
                          refine p1 rfl ?_
                          refine q1 rfl (D_add rfl rfl rfl (r := ((m + 1 : Nat) : Int)) (by omega) (by omega)) ?_
                          refine p1 rfl ?_
                          refine D_end ?_
                          refine x_then ?_
                          refine fun ac w' hf hs => ⟨_, ?_, m + 1, ?_, rfl, hf.weak ⟨rfl, rfl, rfl, rfl, rfl, rfl, trivial⟩, hs⟩
                          · omega
                          · first | assumption | omega | simp
                  · have pr34 : ¬ (((m : Nat) : Int) : Int) < ((r0.Out.length : Nat) : Int) := of_decide_eq_false h34
                    refine C_exit ?_
                    refine x_then_exit ?_
                    refine x_then_exit ?_
                    refine x_blk_eq ?_
                    refine x_blk ?_
                    refine x_then ?_
                    refine C_reg ?_
                    refine p1 rfl ?_
                    refine q1 rfl (D_add rfl rfl rfl (r := ((k + 1 : Nat) : Int)) (by omega) (by omega)) ?_
                    refine p1 rfl ?_
                    refine D_end ?_
                    refine x_then ?_
                    refine fun ac w' hf hs => ⟨_, ?_, k + 1, ?_, rfl, hf.weak ⟨rfl, rfl, rfl, rfl, trivial⟩, hs.pk [1, 2, 3] rfl rfl⟩
                    · omega
                    · first | assumption | omega | simp
          · have pr18 : ¬ (((k : Nat) : Int) : Int) < ((y3.Reasons.length : Nat) : Int) := of_decide_eq_false h18
            refine C_exit ?_
            refine x_then_exit ?_
            refine x_then_exit ?_
            refine x_blk_eq ?_
            refine x_then ?_
            refine C_seq ?_
            refine C_seq ?_
            refine C_reg ?_
            refine p1 rfl ?_
            refine D_end ?_
            refine x_then ?_
            refine C_block ?_
            refine C_loop (fun m_ ac w' => ∃ (k : Nat), ((k : Int) ≤ y3.Nodes) ∧ m_ = (y3.Nodes - k).toNat ∧ Fits ac 194 [(3, (.pointer (some ⟨g13, 0, none⟩))), (5, v15), (10, (.int .i64 ((k : Nat) : Int)))] ∧ St wb6 ([ov [v15] (roundsOf y3 : (List Int)), ov [v14] (strataOf y3 : (List Int)), bx g13 [(.int .i64 y3.Nodes), u10]]) w') ?_ ?_
            · refine fun ac w' hf hs => ⟨_, 0, ?_, rfl, hf.weak ⟨rfl, rfl, rfl, trivial⟩, hs⟩
              · first | assumption | omega | simp
            · rintro m_ ac w' ⟨k, hk, rfl, hf, hs⟩
              refine D.use ?_ hf hs
              clear hf hs ac w'
              refine C_seq ?_
              refine C_seq ?_
              refine C_reg ?_
              refine p1 rfl ?_
              refine q1 rfl (D_fb f_26_0 rfl rfl (q := 0) rfl) ?_
              refine q1 rfl (lb 2 o_3 rfl rfl rfl rfl) ?_
              refine p1 rfl ?_
              refine D_end ?_
              refine x_then ?_
              refine C_if _ rfl (fun h41 => ?_) (fun h41 => ?_)
              · have pr41 : (((k : Nat) : Int) : Int) < y3.Nodes := of_decide_eq_true h41
                refine C_skip ?_
                refine x_then ?_
                refine C_seq ?_
                refine C_block ?_
                refine C_seq ?_
                refine C_reg ?_
                refine q1 rfl (lbw 2 a_26 rfl rfl rfl) ?_
                refine p1 rfl ?_
                refine li rfl (cv b_13 rfl rfl rfl rfl (fun w' hs => (impl_SupportOf w' [(.int .i64 y3.Nodes), u10] y3 ((k : Nat) : Int) (rd_at hs hrb8))) ?_)
                refine p1 rfl ?_
                refine D_end ?_
                refine x_then ?_
                refine C_seq ?_
                refine C_seq ?_
                refine C_reg ?_
                refine p1 rfl <| p1 rfl <| p1 rfl <| p1 rfl ?_
                obtain ⟨zr, hzr⟩ := some_of_lt (l := (roundsOf y3)) (i := k) (by omega)
                have hsup := lw_sup hst (by omega) hzr
                refine q1 rfl (D_ix (l := (roundsOf y3)) (j := k) s_28 rfl rfl rfl (fun w' hs => (rd_own (k := 0) hs rfl)) rfl (lt_of_some hzr)) ?_
                refine q1 rfl (lo (α := Int) 0 o_3 rfl rfl rfl hzr) ?_
                refine p1 rfl ?_
                refine q1 rfl (D_neB ub_4 rfl rfl rfl) ?_
                refine p1 rfl ?_
                refine gs 129 rfl rfl (fun h42 => ?_) (fun h42 => ?_)
                · refine n1 rfl ?_
                  refine n1 rfl ?_
                  refine n1 rfl ?_
                  refine n1 rfl ?_
                  refine n1 rfl ?_
                  refine p1 rfl ?_
                  refine D_end ?_
                  refine x_then ?_
                  refine D_weak [(3, (.pointer (some ⟨g13, 0, none⟩))), (5, v15), (10, (.int .i64 ((k : Nat) : Int))), (11, (.int .i64 (suppOf y3 ((k : Nat) : Int)))), (135, (.bool true))] ⟨rfl, rfl, rfl, rfl, rfl, trivial⟩ ?_
                  refine C_t rfl ?_
                  refine C_seq ?_
                  refine C_reg ?_
                  refine p1 rfl ?_
                  refine D_end ?_
                  refine x_then ?_
                  refine C_ret ?_
                  refine x_then_ret ?_
                  refine x_blk_ret ?_
                  refine x_then_ret ?_
                  refine x_then_ret ?_
                  refine x_blk_ret ?_
                  refine x_then_ret ?_
                  refine R_1 rfl rfl fun w' hs => ⟨congrArg (fun z => Ending.returned (Value.bool z)) ?_, (hxb7.trans hs.bel)⟩
                  show (false : Bool) = true
                  first | rfl | (exfalso; omega) | (exfalso; have := lw_in hst hr0 hya hza hzb; omega) | (exfalso; have := lw_out hst hr0 hyb hzc hzd; omega) | (exfalso; revert h42; rw [lw_dn hst hr0 hyb]; simp; done) | (exfalso; revert h42; rw [lw_dy hst hr0 hyb]; simp; done) | (exfalso; have := lw_suI hsf hyc hzr hze; omega) | (exfalso; have := lw_suI hsf hyc hzr2 hze; omega) | (exfalso; have := lw_suO hsf hyd hzf; omega) | (exfalso; have := lw_suF hsf; omega) | (exfalso; revert h42; simp; omega)
                · have pr42 : (decide ((0 : Int) ≤ (suppOf y3 ((k : Nat) : Int)))) = (decide ((0 : Int) ≤ zr)) := beq_of_not h42
                  have hsr := lw_supr (x := k) hst
                  refine p1 rfl ?_
                  refine q1 rfl (D_fb f_26_1 rfl rfl (q := 1) rfl) ?_
                  refine q1 rfl (lb 2 o_24 rfl rfl rfl rfl) ?_
                  refine q1 rfl (D_len s_24 rfl rfl (rd_sl hu11)) ?_
                  refine p1 rfl <| p1 rfl ?_
                  refine D_end ?_
                  refine x_then ?_
                  refine D_weak [(3, (.pointer (some ⟨g13, 0, none⟩))), (5, v15), (10, (.int .i64 ((k : Nat) : Int))), (11, (.int .i64 (suppOf y3 ((k : Nat) : Int)))), (135, (.bool (decide ((((y3.Reasons.length : Nat) : Int) : Int) ≤ (suppOf y3 ((k : Nat) : Int))))))] ⟨rfl, rfl, rfl, rfl, rfl, trivial⟩ ?_
                  refine C_if _ rfl (fun h43 => ?_) (fun h43 => ?_)
                  · have pr43 : (((y3.Reasons.length : Nat) : Int) : Int) ≤ (suppOf y3 ((k : Nat) : Int)) := of_decide_eq_true h43
                    refine C_seq ?_
                    refine C_reg ?_
                    refine p1 rfl ?_
                    refine D_end ?_
                    refine x_then ?_
                    refine C_ret ?_
                    refine x_then_ret ?_
                    refine x_blk_ret ?_
                    refine x_then_ret ?_
                    refine x_then_ret ?_
                    refine x_blk_ret ?_
                    refine x_then_ret ?_
                    refine R_1 rfl rfl fun w' hs => ⟨congrArg (fun z => Ending.returned (Value.bool z)) ?_, (hxb7.trans hs.bel)⟩
                    show (false : Bool) = true
                    first | rfl | (exfalso; omega) | (exfalso; have := lw_in hst hr0 hya hza hzb; omega) | (exfalso; have := lw_out hst hr0 hyb hzc hzd; omega) | (exfalso; revert h43; rw [lw_dn hst hr0 hyb]; simp; done) | (exfalso; revert h43; rw [lw_dy hst hr0 hyb]; simp; done) | (exfalso; have := lw_suI hsf hyc hzr hze; omega) | (exfalso; have := lw_suI hsf hyc hzr2 hze; omega) | (exfalso; have := lw_suO hsf hyd hzf; omega) | (exfalso; have := lw_suF hsf; omega) | (exfalso; revert h43; simp; omega)
                  · have pr43 : ¬ (((y3.Reasons.length : Nat) : Int) : Int) ≤ (suppOf y3 ((k : Nat) : Int)) := of_decide_eq_false h43
                    refine C_skip ?_
                    refine x_then ?_
                    refine C_seq ?_
                    refine C_seq ?_
                    refine C_reg ?_
                    refine p1 rfl <| p1 rfl ?_
                    refine D_end ?_
                    refine x_then ?_
                    refine C_if _ rfl (fun h44 => ?_) (fun h44 => ?_)
                    · have pr44 : ((suppOf y3 ((k : Nat) : Int)) : Int) < 0 := of_decide_eq_true h44
                      refine C_exit ?_
                      refine x_then_exit ?_
                      refine x_blk_eq ?_
                      refine x_then ?_
                      refine C_reg ?_
                      refine p1 rfl ?_
                      refine q1 rfl (D_add rfl rfl rfl (r := ((k + 1 : Nat) : Int)) (by omega) (by omega)) ?_
                      refine p1 rfl ?_
                      refine D_end ?_
                      refine x_then ?_
                      refine fun ac w' hf hs => ⟨_, ?_, k + 1, ?_, rfl, hf.weak ⟨rfl, rfl, rfl, trivial⟩, hs⟩
                      · omega
                      · first | assumption | omega | simp
                    · have pr44 : ¬ ((suppOf y3 ((k : Nat) : Int)) : Int) < 0 := of_decide_eq_false h44
                      refine C_skip ?_
                      refine x_then ?_
                      refine C_seq ?_
                      have hsr := lw_supr (x := k) hst (by omega)
                      refine C_reg ?_
                      refine q1 rfl (D_fb f_26_1 rfl rfl (q := 1) rfl) ?_
                      refine q1 rfl (lb 2 o_24 rfl rfl rfl rfl) ?_
                      refine p1 rfl ?_
                      obtain ⟨r1, hr1⟩ := some_of_lt (l := y3.Reasons) (i := ((suppOf y3 ((k : Nat) : Int)).toNat)) (by omega)
                      have hv1 := isB_r hb0 hr1
                      have hsf := lw_supf (by omega) hr1
                      obtain ⟨es45, at46, hr47⟩ := rd_elem (n := 3) rfl hu11 hr1
                      obtain ⟨u48, u50, rfl, hu49, hu51⟩ := open_Reason hr47
                      have hm52 := rd_max hu49
                      have hm53 := rd_max hu51
                      refine q1 rfl (D_ix (l := y3.Reasons) (j := ((suppOf y3 ((k : Nat) : Int)).toNat)) s_24 rfl rfl rfl (fun w' hs => (rd_at hs hu11)) (Int.toNat_of_nonneg (by omega)).symm (lt_of_some hr1)) ?_
                      refine q1 rfl (lra a_31 rfl rfl at46) ?_
                      refine li rfl (D_alloc y_31 rfl rfl rfl rfl fun g54 => ?_)
                      refine li rfl (D_stb (vs := [(.int .i64 r1.For), u48, u50]) (cs' := [(.int .i64 r1.For), u48, u50]) 0 z_31 rfl rfl rfl rfl rfl rfl (ocons rfl (ocons (one_rd hu49) (ocons (one_rd hu51) onil))) (by simp) rfl ?_)
                      refine D_end ?_
                      refine x_then ?_
                      refine D_H ([bx g54 [(.int .i64 r1.For), u48, u50], ov [v15] (roundsOf y3 : (List Int)), ov [v14] (strataOf y3 : (List Int)), bx g13 [(.int .i64 y3.Nodes), u10]]) rfl ?_
                      refine C_seq ?_
                      refine C_seq ?_
                      refine C_reg ?_
                      refine p1 rfl ?_
                      refine D_end ?_
                      refine x_then ?_
                      refine C_block ?_
                      refine C_loop (fun m_ ac w' => ∃ (m : Nat), (m ≤ r1.In.length) ∧ m_ = r1.In.length - m ∧ Fits ac 194 [(3, (.pointer (some ⟨g13, 0, none⟩))), (5, v15), (10, (.int .i64 ((k : Nat) : Int))), (12, (.pointer (some ⟨g54, 0, none⟩))), (13, (.int .i64 ((m : Nat) : Int)))] ∧ St wb6 ([bx g54 [(.int .i64 r1.For), u48, u50], ov [v15] (roundsOf y3 : (List Int)), ov [v14] (strataOf y3 : (List Int)), bx g13 [(.int .i64 y3.Nodes), u10]]) w') ?_ ?_
                      · refine fun ac w' hf hs => ⟨_, 0, ?_, rfl, hf.weak ⟨rfl, rfl, rfl, rfl, rfl, trivial⟩, hs⟩
                        · first | assumption | omega | simp
                      · rintro m_ ac w' ⟨m, hm, rfl, hf, hs⟩
                        refine D.use ?_ hf hs
                        clear hf hs ac w'
                        refine C_seq ?_
                        refine C_seq ?_
                        refine C_reg ?_
                        refine p1 rfl ?_
                        refine q1 rfl (D_fb f_31_1 rfl rfl (q := 1) rfl) ?_
                        refine q1 rfl (lb 0 o_28 rfl rfl rfl rfl) ?_
                        refine q1 rfl (D_len s_28 rfl rfl (rd_sl hu49)) ?_
                        refine p1 rfl ?_
                        refine D_end ?_
                        refine x_then ?_
                        refine C_if _ rfl (fun h55 => ?_) (fun h55 => ?_)
                        · have pr55 : (((m : Nat) : Int) : Int) < ((r1.In.length : Nat) : Int) := of_decide_eq_true h55
                          refine C_skip ?_
                          refine x_then ?_
                          refine C_seq ?_
                          refine C_block ?_
                          refine C_seq ?_
                          refine C_draw mixed [] (by kernel_rfl) ?_
                          refine tk 0 rfl (by kernel_rfl) (by kernel_rfl) (by kernel_rfl) rfl (fun _ hs => hs) (rp rfl) ?_
                          refine tk 1 rfl (by kernel_rfl) (by kernel_rfl) (by kernel_rfl) rfl (fun _ hs => hs) (D_fb f_31_1 rfl rfl (q := 1) rfl) ?_
                          refine tk 2 rfl (by kernel_rfl) (by kernel_rfl) (by kernel_rfl) rfl (fun _ hs => hs) (lb 0 o_28 rfl rfl rfl rfl) ?_
                          refine tk 3 rfl (by kernel_rfl) (by kernel_rfl) (by kernel_rfl) rfl (fun _ hs => hs) (rp rfl) ?_
                          obtain ⟨yc, hyc⟩ := some_of_lt (l := r1.In) (i := m) (by omega)
                          have hyn := asc_at (isR_in hv1) hyc
                          obtain ⟨es56, at57, hr58⟩ := rd_elem (n := 1) rfl hu49 hyc
                          obtain rfl : es56 = [.int .i64 yc] := hr58
                          refine tk 4 rfl (by kernel_rfl) (by kernel_rfl) (by kernel_rfl) rfl (fun _ hs => hs) (D_ix (l := r1.In) (j := m) s_28 rfl rfl rfl (fun w' hs => (rd_at hs hu49)) rfl (lt_of_some hyc)) ?_
                          refine tk 5 rfl (by kernel_rfl) (by kernel_rfl) (by kernel_rfl) rfl (fun _ hs => hs) (lr0 o_3 rfl rfl at57 rfl) ?_
                          obtain ⟨ze, hze⟩ := some_of_lt (l := (roundsOf y3)) (i := (yc.toNat)) (by omega)
                          refine tk 6 rfl (by kernel_rfl) (by kernel_rfl) (by kernel_rfl) rfl (fun _ hs => hs) (D_ix (l := (roundsOf y3)) (j := (yc.toNat)) s_28 rfl rfl rfl (fun w' hs => (rd_own (k := 1) hs rfl)) (Int.toNat_of_nonneg (by omega)).symm (lt_of_some hze)) ?_
                          refine tk 7 rfl (by kernel_rfl) (by kernel_rfl) (by kernel_rfl) rfl (fun _ hs => hs) (lo (α := Int) 1 o_3 rfl rfl rfl hze) ?_
                          refine tk 8 rfl (by kernel_rfl) (by kernel_rfl) (by kernel_rfl) rfl (fun _ hs => hs) (rp rfl) ?_
                          refine tk 9 rfl (by kernel_rfl) (by kernel_rfl) (by kernel_rfl) rfl (fun _ hs => hs) (rp rfl) ?_
                          refine gs 159 rfl rfl (fun h59 => ?_) (fun h59 => ?_)
                          · have pr59 : (ze : Int) < 0 := of_decide_eq_true h59
                            refine tn 10 rfl (by kernel_rfl) (by kernel_rfl) (by kernel_rfl) rfl rfl rfl (fun _ hs => hs) ?_
                            refine tn 11 rfl (by kernel_rfl) (by kernel_rfl) (by kernel_rfl) rfl rfl rfl (fun _ hs => hs) ?_
                            refine tn 12 rfl (by kernel_rfl) (by kernel_rfl) (by kernel_rfl) rfl rfl rfl (fun _ hs => hs) ?_
                            refine tn 13 rfl (by kernel_rfl) (by kernel_rfl) (by kernel_rfl) rfl rfl rfl (fun _ hs => hs) ?_
                            refine tn 14 rfl (by kernel_rfl) (by kernel_rfl) (by kernel_rfl) rfl rfl rfl (fun _ hs => hs) ?_
                            refine tn 15 rfl (by kernel_rfl) (by kernel_rfl) (by kernel_rfl) rfl rfl rfl (fun _ hs => hs) ?_
                            refine tn 16 rfl (by kernel_rfl) (by kernel_rfl) (by kernel_rfl) rfl rfl rfl (fun _ hs => hs) ?_
                            refine tn 17 rfl (by kernel_rfl) (by kernel_rfl) (by kernel_rfl) rfl rfl rfl (fun _ hs => hs) ?_
                            refine tn 18 rfl (by kernel_rfl) (by kernel_rfl) (by kernel_rfl) rfl rfl rfl (fun _ hs => hs) ?_
                            refine tn 19 rfl (by kernel_rfl) (by kernel_rfl) (by kernel_rfl) rfl rfl rfl (fun _ hs => hs) ?_
                            refine tn 20 rfl (by kernel_rfl) (by kernel_rfl) (by kernel_rfl) rfl rfl rfl (fun _ hs => hs) ?_
                            refine tn 21 rfl (by kernel_rfl) (by kernel_rfl) (by kernel_rfl) rfl rfl rfl (fun _ hs => hs) ?_
                            refine tn 22 rfl (by kernel_rfl) (by kernel_rfl) (by kernel_rfl) rfl rfl rfl (fun _ hs => hs) ?_
                            refine tk 23 rfl (by kernel_rfl) (by kernel_rfl) (by kernel_rfl) rfl (fun _ hs => hs) (rp rfl) ?_
                            refine tE (by kernel_rfl) ?_
                            refine x_then ?_
                            refine D_weak [(3, (.pointer (some ⟨g13, 0, none⟩))), (5, v15), (10, (.int .i64 ((k : Nat) : Int))), (12, (.pointer (some ⟨g54, 0, none⟩))), (13, (.int .i64 ((m : Nat) : Int))), (173, (.bool true))] ⟨rfl, rfl, rfl, rfl, rfl, rfl, trivial⟩ ?_
                            refine C_t rfl ?_
                            refine C_seq ?_
                            refine C_reg ?_
                            refine p1 rfl ?_
                            refine D_end ?_
                            refine x_then ?_
                            refine C_ret ?_
                            refine x_blk_ret ?_
                            refine x_then_ret ?_
                            refine x_then_ret ?_
                            refine x_blk_ret ?_
                            refine x_then_ret ?_
                            refine x_blk_ret ?_
                            refine x_then_ret ?_
                            refine x_then_ret ?_
                            refine x_blk_ret ?_
                            refine x_then_ret ?_
                            refine R_1 rfl rfl fun w' hs => ⟨congrArg (fun z => Ending.returned (Value.bool z)) ?_, (hxb7.trans hs.bel)⟩
                            show (false : Bool) = true
                            first | rfl | (exfalso; omega) | (exfalso; have := lw_in hst hr0 hya hza hzb; omega) | (exfalso; have := lw_out hst hr0 hyb hzc hzd; omega) | (exfalso; revert h59; rw [lw_dn hst hr0 hyb]; simp; done) | (exfalso; revert h59; rw [lw_dy hst hr0 hyb]; simp; done) | (exfalso; have := lw_suI hsf hyc hzr hze; omega) | (exfalso; have := lw_suI hsf hyc hzr2 hze; omega) | (exfalso; have := lw_suO hsf hyd hzf; omega) | (exfalso; have := lw_suF hsf; omega) | (exfalso; revert h59; simp; omega)
                          · have pr59 : ¬ (ze : Int) < 0 := of_decide_eq_false h59
                            refine tk 10 rfl (by kernel_rfl) (by kernel_rfl) (by kernel_rfl) rfl (fun _ hs => hs) (rp rfl) ?_
                            refine tk 11 rfl (by kernel_rfl) (by kernel_rfl) (by kernel_rfl) rfl (fun _ hs => hs) (D_fb f_31_1 rfl rfl (q := 1) rfl) ?_
                            refine tk 12 rfl (by kernel_rfl) (by kernel_rfl) (by kernel_rfl) rfl (fun _ hs => hs) (lb 0 o_28 rfl rfl rfl rfl) ?_
                            refine tk 13 rfl (by kernel_rfl) (by kernel_rfl) (by kernel_rfl) rfl (fun _ hs => hs) (rp rfl) ?_
                            refine tk 14 rfl (by kernel_rfl) (by kernel_rfl) (by kernel_rfl) rfl (fun _ hs => hs) (D_ix (l := r1.In) (j := m) s_28 rfl rfl rfl (fun w' hs => (rd_at hs hu49)) rfl (lt_of_some hyc)) ?_
                            refine tk 15 rfl (by kernel_rfl) (by kernel_rfl) (by kernel_rfl) rfl (fun _ hs => hs) (lr0 o_3 rfl rfl at57 rfl) ?_
                            refine tk 16 rfl (by kernel_rfl) (by kernel_rfl) (by kernel_rfl) rfl (fun _ hs => hs) (D_ix (l := (roundsOf y3)) (j := (yc.toNat)) s_28 rfl rfl rfl (fun w' hs => (rd_own (k := 1) hs rfl)) (Int.toNat_of_nonneg (by omega)).symm (lt_of_some hze)) ?_
                            refine tk 17 rfl (by kernel_rfl) (by kernel_rfl) (by kernel_rfl) rfl (fun _ hs => hs) (lo (α := Int) 1 o_3 rfl rfl rfl hze) ?_
                            refine tk 18 rfl (by kernel_rfl) (by kernel_rfl) (by kernel_rfl) rfl (fun _ hs => hs) (rp rfl) ?_
                            refine tk 19 rfl (by kernel_rfl) (by kernel_rfl) (by kernel_rfl) rfl (fun _ hs => hs) (rp rfl) ?_
                            obtain ⟨zr2, hzr2⟩ := some_of_lt (l := (roundsOf y3)) (i := k) (by omega)
                            refine tk 20 rfl (by kernel_rfl) (by kernel_rfl) (by kernel_rfl) rfl (fun _ hs => hs) (D_ix (l := (roundsOf y3)) (j := k) s_28 rfl rfl rfl (fun w' hs => (rd_own (k := 1) hs rfl)) rfl (lt_of_some hzr2)) ?_
                            refine tk 21 rfl (by kernel_rfl) (by kernel_rfl) (by kernel_rfl) rfl (fun _ hs => hs) (lo (α := Int) 1 o_3 rfl rfl rfl hzr2) ?_
                            refine tk 22 rfl (by kernel_rfl) (by kernel_rfl) (by kernel_rfl) rfl (fun _ hs => hs) (rp rfl) ?_
                            refine tk 23 rfl (by kernel_rfl) (by kernel_rfl) (by kernel_rfl) rfl (fun _ hs => hs) (rp rfl) ?_
                            refine tE (by kernel_rfl) ?_
                            refine x_then ?_
                            refine D_weak [(3, (.pointer (some ⟨g13, 0, none⟩))), (5, v15), (10, (.int .i64 ((k : Nat) : Int))), (12, (.pointer (some ⟨g54, 0, none⟩))), (13, (.int .i64 ((m : Nat) : Int))), (173, (.bool (decide ((zr2 : Int) ≤ ze))))] ⟨rfl, rfl, rfl, rfl, rfl, rfl, trivial⟩ ?_
                            refine C_if _ rfl (fun h60 => ?_) (fun h60 => ?_)
                            · have pr60 : (zr2 : Int) ≤ ze := of_decide_eq_true h60
                              refine C_seq ?_
                              refine C_reg ?_
                              refine p1 rfl ?_
                              refine D_end ?_
                              refine x_then ?_
                              refine C_ret ?_
                              refine x_blk_ret ?_
                              refine x_then_ret ?_
                              refine x_then_ret ?_
                              refine x_blk_ret ?_
                              refine x_then_ret ?_
                              refine x_blk_ret ?_
                              refine x_then_ret ?_
                              refine x_then_ret ?_
                              refine x_blk_ret ?_
                              refine x_then_ret ?_
                              refine R_1 rfl rfl fun w' hs => ⟨congrArg (fun z => Ending.returned (Value.bool z)) ?_, (hxb7.trans hs.bel)⟩
                              show (false : Bool) = true
                              first | rfl | (exfalso; omega) | (exfalso; have := lw_in hst hr0 hya hza hzb; omega) | (exfalso; have := lw_out hst hr0 hyb hzc hzd; omega) | (exfalso; revert h60; rw [lw_dn hst hr0 hyb]; simp; done) | (exfalso; revert h60; rw [lw_dy hst hr0 hyb]; simp; done) | (exfalso; have := lw_suI hsf hyc hzr hze; omega) | (exfalso; have := lw_suI hsf hyc hzr2 hze; omega) | (exfalso; have := lw_suO hsf hyd hzf; omega) | (exfalso; have := lw_suF hsf; omega) | (exfalso; revert h60; simp; omega)
                            · have pr60 : ¬ (zr2 : Int) ≤ ze := of_decide_eq_false h60
                              refine C_skip ?_
                              refine x_blk ?_
                              refine x_then ?_
                              refine C_reg ?_
                              refine p1 rfl ?_
                              refine q1 rfl (D_add rfl rfl rfl (r := ((m + 1 : Nat) : Int)) (by omega) (by omega)) ?_
                              refine p1 rfl ?_
                              refine D_end ?_
                              refine x_then ?_
                              refine fun ac w' hf hs => ⟨_, ?_, m + 1, ?_, rfl, hf.weak ⟨rfl, rfl, rfl, rfl, rfl, trivial⟩, hs⟩
                              · omega
                              · first | assumption | omega | simp
                        · have pr55 : ¬ (((m : Nat) : Int) : Int) < ((r1.In.length : Nat) : Int) := of_decide_eq_false h55
                          refine C_exit ?_
                          refine x_then_exit ?_
                          refine x_then_exit ?_
                          refine x_blk_eq ?_
                          refine x_then ?_
                          refine C_seq ?_
                          refine C_seq ?_
                          refine C_reg ?_
                          refine p1 rfl ?_
                          refine D_end ?_
                          refine x_then ?_
                          refine C_block ?_
                          refine C_loop (fun m_ ac w' => ∃ (m : Nat), (m ≤ r1.Out.length) ∧ m_ = r1.Out.length - m ∧ Fits ac 194 [(3, (.pointer (some ⟨g13, 0, none⟩))), (5, v15), (10, (.int .i64 ((k : Nat) : Int))), (12, (.pointer (some ⟨g54, 0, none⟩))), (14, (.int .i64 ((m : Nat) : Int)))] ∧ St wb6 ([bx g54 [(.int .i64 r1.For), u48, u50], ov [v15] (roundsOf y3 : (List Int)), ov [v14] (strataOf y3 : (List Int)), bx g13 [(.int .i64 y3.Nodes), u10]]) w') ?_ ?_
                          · refine fun ac w' hf hs => ⟨_, 0, ?_, rfl, hf.weak ⟨rfl, rfl, rfl, rfl, rfl, trivial⟩, hs⟩
                            · first | assumption | omega | simp
                          · rintro m_ ac w' ⟨m, hm, rfl, hf, hs⟩
                            refine D.use ?_ hf hs
                            clear hf hs ac w'
                            refine C_seq ?_
                            refine C_seq ?_
                            refine C_reg ?_
                            refine p1 rfl ?_
                            refine q1 rfl (D_fb f_31_2 rfl rfl (q := 2) rfl) ?_
                            refine q1 rfl (lb 0 o_28 rfl rfl rfl rfl) ?_
                            refine q1 rfl (D_len s_28 rfl rfl (rd_sl hu51)) ?_
                            refine p1 rfl ?_
                            refine D_end ?_
                            refine x_then ?_
                            refine C_if _ rfl (fun h61 => ?_) (fun h61 => ?_)
                            · have pr61 : (((m : Nat) : Int) : Int) < ((r1.Out.length : Nat) : Int) := of_decide_eq_true h61
                              refine C_skip ?_
                              refine x_then ?_
                              refine C_seq ?_
                              refine C_block ?_
                              refine C_seq ?_
                              refine C_reg ?_
                              refine p1 rfl ?_
                              refine q1 rfl (D_fb f_31_2 rfl rfl (q := 2) rfl) ?_
                              refine q1 rfl (lb 0 o_28 rfl rfl rfl rfl) ?_
                              refine p1 rfl ?_
                              obtain ⟨yd, hyd⟩ := some_of_lt (l := r1.Out) (i := m) (by omega)
                              have hyn := asc_at (isR_out hv1) hyd
                              obtain ⟨es62, at63, hr64⟩ := rd_elem (n := 1) rfl hu51 hyd
                              obtain rfl : es62 = [.int .i64 yd] := hr64
                              refine q1 rfl (D_ix (l := r1.Out) (j := m) s_28 rfl rfl rfl (fun w' hs => (rd_at hs hu51)) rfl (lt_of_some hyd)) ?_
                              refine q1 rfl (lr0 o_3 rfl rfl at63 rfl) ?_
                              obtain ⟨zf, hzf⟩ := some_of_lt (l := (roundsOf y3)) (i := (yd.toNat)) (by omega)
                              refine q1 rfl (D_ix (l := (roundsOf y3)) (j := (yd.toNat)) s_28 rfl rfl rfl (fun w' hs => (rd_own (k := 1) hs rfl)) (Int.toNat_of_nonneg (by omega)).symm (lt_of_some hzf)) ?_
                              refine q1 rfl (lo (α := Int) 1 o_3 rfl rfl rfl hzf) ?_
                              refine p1 rfl ?_
                              refine D_end ?_
                              refine x_then ?_
                              refine C_if _ rfl (fun h65 => ?_) (fun h65 => ?_)
                              · have pr65 : (0 : Int) ≤ zf := of_decide_eq_true h65
                                refine C_seq ?_
                                refine C_reg ?_
                                refine p1 rfl ?_
                                refine D_end ?_
                                refine x_then ?_
                                refine D_weak [(2, (.bool false))] ⟨rfl, trivial⟩ ?_
                                refine C_ret ?_
                                refine x_blk_ret ?_
                                refine x_then_ret ?_
                                refine x_then_ret ?_
                                refine x_blk_ret ?_
                                refine x_then_ret ?_
                                refine x_blk_ret ?_
                                refine x_then_ret ?_
                                refine x_then_ret ?_
                                refine x_blk_ret ?_
                                refine x_then_ret ?_
                                refine R_1 rfl rfl fun w' hs => ⟨congrArg (fun z => Ending.returned (Value.bool z)) ?_, (hxb7.trans hs.bel)⟩
                                show (false : Bool) = true
                                first | rfl | (exfalso; omega) | (exfalso; have := lw_in hst hr0 hya hza hzb; omega) | (exfalso; have := lw_out hst hr0 hyb hzc hzd; omega) | (exfalso; revert h65; rw [lw_dn hst hr0 hyb]; simp; done) | (exfalso; revert h65; rw [lw_dy hst hr0 hyb]; simp; done) | (exfalso; have := lw_suI hsf hyc hzr hze; omega) | (exfalso; have := lw_suI hsf hyc hzr2 hze; omega) | (exfalso; have := lw_suO hsf hyd hzf; omega) | (exfalso; have := lw_suF hsf; omega) | (exfalso; revert h65; simp; omega)
                              · have pr65 : ¬ (0 : Int) ≤ zf := of_decide_eq_false h65
                                refine C_skip ?_
                                refine x_blk ?_
                                refine x_then ?_
                                refine C_reg ?_
                                refine p1 rfl ?_
                                refine q1 rfl (D_add rfl rfl rfl (r := ((m + 1 : Nat) : Int)) (by omega) (by omega)) ?_
                                refine p1 rfl ?_
                                refine D_end ?_
                                refine x_then ?_
                                refine fun ac w' hf hs => ⟨_, ?_, m + 1, ?_, rfl, hf.weak ⟨rfl, rfl, rfl, rfl, rfl, trivial⟩, hs⟩
                                · omega
                                · first | assumption | omega | simp
                            · have pr61 : ¬ (((m : Nat) : Int) : Int) < ((r1.Out.length : Nat) : Int) := of_decide_eq_false h61
                              refine C_exit ?_
                              refine x_then_exit ?_
                              refine x_then_exit ?_
                              refine x_blk_eq ?_
                              refine x_then ?_
                              refine C_seq ?_
                              refine C_reg ?_
                              refine q1 rfl (D_fb f_31_0 rfl rfl (q := 0) rfl) ?_
                              refine q1 rfl (lb 0 o_3 rfl rfl rfl rfl) ?_
                              refine p1 rfl <| p1 rfl ?_
                              refine D_end ?_
                              refine x_then ?_
                              refine C_if _ rfl (fun h66 => ?_) (fun h66 => ?_)
                              · have pr66 : (r1.For : Int) ≠ ((k : Nat) : Int) := bne_iff_ne.1 h66
                                refine C_seq ?_
                                refine C_reg ?_
                                refine p1 rfl ?_
                                refine D_end ?_
                                refine x_then ?_
                                refine C_ret ?_
                                refine x_blk_ret ?_
                                refine x_then_ret ?_
                                refine x_then_ret ?_
                                refine x_blk_ret ?_
                                refine x_then_ret ?_
                                refine R_1 rfl rfl fun w' hs => ⟨congrArg (fun z => Ending.returned (Value.bool z)) ?_, (hxb7.trans hs.bel)⟩
                                show (false : Bool) = true
                                first | rfl | (exfalso; omega) | (exfalso; have := lw_in hst hr0 hya hza hzb; omega) | (exfalso; have := lw_out hst hr0 hyb hzc hzd; omega) | (exfalso; revert h66; rw [lw_dn hst hr0 hyb]; simp; done) | (exfalso; revert h66; rw [lw_dy hst hr0 hyb]; simp; done) | (exfalso; have := lw_suI hsf hyc hzr hze; omega) | (exfalso; have := lw_suI hsf hyc hzr2 hze; omega) | (exfalso; have := lw_suO hsf hyd hzf; omega) | (exfalso; have := lw_suF hsf; omega) | (exfalso; revert h66; simp; omega)
                              · have pr66 : (r1.For : Int) = ((k : Nat) : Int) := eq_of_bne_f h66
                                refine C_skip ?_
                                refine x_blk ?_
                                refine x_then ?_
                                refine C_reg ?_
                                refine p1 rfl ?_
                                refine q1 rfl (D_add rfl rfl rfl (r := ((k + 1 : Nat) : Int)) (by omega) (by omega)) ?_
                                refine p1 rfl ?_
                                refine D_end ?_
                                refine x_then ?_
                                refine fun ac w' hf hs => ⟨_, ?_, k + 1, ?_, rfl, hf.weak ⟨rfl, rfl, rfl, trivial⟩, hs.pk [1, 2, 3] rfl rfl⟩
                                · omega
                                · first | assumption | omega | simp
              · have pr41 : ¬ (((k : Nat) : Int) : Int) < y3.Nodes := of_decide_eq_false h41
                refine C_exit ?_
                refine x_then_exit ?_
                refine x_then_exit ?_
                refine x_blk_eq ?_
                refine x_then ?_
                refine C_seq ?_
                refine C_reg ?_
                refine p1 rfl ?_
                refine D_end ?_
                refine x_then ?_
                refine C_ret ?_
                refine R_1 rfl rfl fun w' hs => ⟨congrArg (fun z => Ending.returned (Value.bool z)) ?_, (hxb7.trans hs.bel)⟩
                show (true : Bool) = true
                first | rfl | (exfalso; omega) | (exfalso; have := lw_in hst hr0 hya hza hzb; omega) | (exfalso; have := lw_out hst hr0 hyb hzc hzd; omega) | (exfalso; revert h41; rw [lw_dn hst hr0 hyb]; simp; done) | (exfalso; revert h41; rw [lw_dy hst hr0 hyb]; simp; done) | (exfalso; have := lw_suI hsf hyc hzr hze; omega) | (exfalso; have := lw_suI hsf hyc hzr2 hze; omega) | (exfalso; have := lw_suO hsf hyd hzf; omega) | (exfalso; have := lw_suF hsf; omega) | (exfalso; revert h41; simp; omega)
end Go.Sy.Law2
