/-
  Contracts of functions of the program, walked (printed by a program of ours).
  Conditions: those that each theorem states.
-/
import Derived.Test.YtmfpedmchhfpfaaLaw1
import Derived.Test.YtmfpedmchhfpfaaLw2
import Derived.Test.YtmfpedmchhfpfaaReb
set_option linter.unusedVariables false
set_option maxRecDepth 20000
namespace Go.Sy.Law3
open Go Go.RowKit Go.Proofs Go.Sy
theorem mixed : Try.prog.follows .mixedOrders = true := by kernel_rfl
theorem s_22 : sliceTy Try.prog 22 = some (5, 1, 1) := by kernel_rfl
theorem o_5 : oneTy Try.prog 5 = true := by kernel_rfl
theorem ui_3 : Try.prog.underlying 3 = some (.int .i64) := by kernel_rfl
theorem u8_5 : Try.prog.underlying 5 = some (.int .u8) := by kernel_rfl
theorem b_8 : hasBody Try.prog 8 = true := by kernel_rfl
theorem b_9 : hasBody Try.prog 9 = true := by kernel_rfl
theorem y_26 : zeroTy Try.prog 26 = some (.agg #[(.int .i64 0), (.slice none 0 0)]) := by kernel_rfl
theorem z_26 : sizeTy Try.prog 26 = some 2 := by kernel_rfl
theorem a_26 : aggTy Try.prog 26 = some 2 := by kernel_rfl
theorem b_18 : hasBody Try.prog 18 = true := by kernel_rfl
theorem s_34 : sliceTy Try.prog 34 = some (4, 1, 1) := by kernel_rfl
theorem f_26_1 : fieldOff Try.prog 26 1 = some 1 := by kernel_rfl
theorem o_24 : oneTy Try.prog 24 = true := by kernel_rfl
theorem s_24 : sliceTy Try.prog 24 = some (31, 3, 56) := by kernel_rfl
theorem b_19 : hasBody Try.prog 19 = true := by kernel_rfl
theorem b_20 : hasBody Try.prog 20 = true := by kernel_rfl
theorem b_14 : hasBody Try.prog 14 = true := by kernel_rfl
theorem s_28 : sliceTy Try.prog 28 = some (3, 1, 8) := by kernel_rfl
theorem y_3 : zeroTy Try.prog 3 = some (.int .i64 0) := by kernel_rfl
theorem b_21 : hasBody Try.prog 21 = true := by kernel_rfl
theorem o_4 : oneTy Try.prog 4 = true := by kernel_rfl
theorem b_17 : hasBody Try.prog 17 = true := by kernel_rfl
open Go.Sy.Bel1 Go.Sy.Bel4 Go.Sy.Bel5 Go.Sy.Bel6 Go.Sy.Bel7 Go.Sy.Bel8 Go.Sy.Bel9 Go.Sy.Bela Go.Sy.Belc Go.Sy.Beld Go.Sy.Cur1 Go.Sy.Law1
theorem laws_at (w : World) (v_code : Value) (code : (List UInt8)) (i : Int) (h_code : Gd.rd w [v_code] code) (h0 : 0 ≤ i) : Calls Try.prog 19 [v_code, (.int .i64 i)].toArray w (Val w (.int .i64 (atC code i))) := by
  have hm1 := rd_max h_code
  refine enter 14 Try.func19 rfl rfl rfl ?_
  refine C_seq ?_
  refine C_reg ?_
  refine p1 rfl ?_
  refine D_end ?_
  refine x_then ?_
  refine C_seq ?_
  refine C_seq ?_
  refine C_reg ?_
  refine p1 rfl <| p1 rfl ?_
  refine q1 rfl (D_len s_22 rfl rfl (rd_sl h_code)) ?_
  refine p1 rfl ?_
  refine D_end ?_
  refine x_then ?_
  refine C_if _ rfl (fun h2 => ?_) (fun h2 => ?_)
  · have pr2 : (((code.length : Nat) : Int) : Int) ≤ i := of_decide_eq_true h2
    refine C_seq ?_
    refine C_reg ?_
    refine p1 rfl ?_
    refine D_end ?_
    refine x_then ?_
    refine C_ret ?_
    refine x_then_ret ?_
    refine R_1 rfl rfl fun w' hs => ⟨congrArg (fun z => Ending.returned (Value.int .i64 z)) ?_, hs.bel⟩
    show (0 : Int) = atC code i
    exact atC_no (by omega)
  · have pr2 : ¬ (((code.length : Nat) : Int) : Int) ≤ i := of_decide_eq_false h2
    refine C_skip ?_
    refine x_then ?_
    refine C_seq ?_
    refine C_reg ?_
    refine p1 rfl <| p1 rfl ?_
    obtain ⟨eb, heb⟩ := some_of_lt (l := code) (i := (i.toNat)) (by omega)
    obtain ⟨es3, at4, hr5⟩ := rd_elem (n := 1) rfl h_code heb
    obtain rfl : es3 = [.int .u8 (eb.toNat : Int)] := hr5
    have hm6 := eb.toNat_lt
    refine q1 rfl (D_ix (l := code) (j := (i.toNat)) s_22 rfl rfl rfl (fun w' hs => (rd_at hs h_code)) (Int.toNat_of_nonneg (by omega)).symm (lt_of_some heb)) ?_
    refine q1 rfl (lr0 o_5 rfl rfl at4 rfl) ?_
    refine q1 rfl (D_cvu ui_3 ⟨_, u8_5⟩ rfl rfl) ?_
    refine p1 rfl ?_
    refine D_end ?_
    refine x_then ?_
    refine C_ret ?_
    refine R_1 rfl rfl fun w' hs => ⟨congrArg (fun z => Ending.returned (Value.int .i64 z)) ?_, hs.bel⟩
    show ((eb.toNat : Int) : Int) = atC code i
    exact atC_of heb

set_option maxHeartbeats 4000000 in
theorem laws_FnBelieved (w : World) (v_code : Value) (code : (List UInt8)) (h_code : Gd.rd w [v_code] code) : Calls Try.prog 5 [v_code].toArray w (Val w (.bool (true))) := by
  have hm1 := rd_max h_code
  refine enter 76 Try.func5 rfl rfl rfl ?_
  refine C_seq ?_
  refine C_reg ?_
  refine p1 rfl ?_
  refine D_end ?_
  refine x_then ?_
  refine C_seq ?_
  refine C_seq ?_
  refine C_reg ?_
  refine p1 rfl ?_
  refine li rfl (cv b_8 rfl rfl rfl rfl (fun w' hs => (laws_big w' v_code code (rd_at hs h_code))) ?_)
  refine D_end ?_
  refine x_then ?_
  refine C_if _ rfl (fun h2 => ?_) (fun h2 => ?_)
  · refine C_seq ?_
    refine C_reg ?_
    refine p1 rfl ?_
    refine D_end ?_
    refine x_then ?_
    refine C_ret ?_
    refine x_then_ret ?_
    refine R_1 rfl rfl fun w' hs => ⟨congrArg (fun z => Ending.returned (Value.bool z)) ?_, hs.bel⟩
    show (true : Bool) = true
    rfl
  · refine C_skip ?_
    refine x_then ?_
    refine C_seq ?_
    refine C_reg ?_
    refine p1 rfl ?_
    refine li rfl (crE (α := Beliefs) b_9 rfl rfl rfl rfl (fun w' hs => (spec_DrawGoodBeliefs w' v_code code (rd_at hs h_code))) fun y3 cs5 hy3 => ?_)
    refine D_base fun wb6 hxb7 hrb8 => ?_
    have hb9 := Gd.rd_ext hxb7 h_code
    obtain ⟨u10, rfl, hu11⟩ := open_Beliefs hrb8
    have hm12 := rd_max hu11
    refine D_re 13 (v' := (.agg #[(.int .i64 y3.Nodes), u10])) rfl rfl rfl ?_
    refine li rfl (D_alloc y_26 rfl rfl rfl rfl fun g13 => ?_)
    refine li rfl (D_stb (vs := [(.int .i64 y3.Nodes), u10]) (cs' := [(.int .i64 y3.Nodes), u10]) 0 z_26 rfl rfl rfl rfl rfl rfl (ocons rfl (ocons (one_rd hu11) onil)) (by simp) rfl ?_)
    refine D_end ?_
    refine x_then ?_
    refine D_H ([bx g13 [(.int .i64 y3.Nodes), u10]]) rfl ?_
    refine C_seq ?_
    have hst := hy3.1
    have hdn := hy3.2.1
    have hdm := hy3.2.2.1
    have hsz := drawn_sz hy3.2 (by omega)
    have hll : (labelsOf y3).length = y3.Nodes.toNat := by rw [labelsOf_t hst, vec_len]
    have hac := atC_rng code 0
    refine C_reg ?_
    refine q1 rfl (lbw 0 a_26 rfl rfl rfl) ?_
    refine li rfl (crl b_18 rfl rfl rfl rfl (fun w' hs => (spec_LabelsOf w' [(.int .i64 y3.Nodes), u10] y3 (rd_at hs hrb8))) fun v14 => ?_)
    refine p1 rfl ?_
    refine D_end ?_
    refine x_then ?_
    refine D_H ([ov [v14] (labelsOf y3 : (List Bool)), bx g13 [(.int .i64 y3.Nodes), u10]]) rfl ?_
    refine C_seq ?_
    refine C_seq ?_
    refine C_reg ?_
    refine p1 rfl ?_
    refine q1 rfl (D_leno 0 s_34 rfl rfl rfl) ?_
    refine p1 rfl <| p1 rfl ?_
    refine gs 19 rfl rfl (fun h15 => ?_) (fun h15 => ?_)
    · have pr15 : ((((labelsOf y3).length : Nat) : Int) : Int) = 0 := eq_of_beq h15
      refine n1 rfl ?_
      refine n1 rfl ?_
      refine n1 rfl ?_
      refine n1 rfl ?_
      refine p1 rfl ?_
      refine D_end ?_
      refine x_then ?_
      refine D_weak [(0, v_code), (3, (.pointer (some ⟨g13, 0, none⟩))), (4, v14), (24, (.bool true))] ⟨rfl, rfl, rfl, rfl, trivial⟩ ?_
      refine C_t rfl ?_
      refine C_seq ?_
      refine C_reg ?_
      refine p1 rfl ?_
      refine D_end ?_
      refine x_then ?_
      refine C_ret ?_
      refine x_then_ret ?_
      refine R_1 rfl rfl fun w' hs => ⟨congrArg (fun z => Ending.returned (Value.bool z)) ?_, (hxb7.trans hs.bel)⟩
      show (true : Bool) = true
      rfl
    · have pr15 : ((((labelsOf y3).length : Nat) : Int) : Int) ≠ 0 := ne_of_beq_false h15
      refine q1 rfl (D_fb f_26_1 rfl rfl (q := 1) rfl) ?_
      refine q1 rfl (lb 1 o_24 rfl rfl rfl rfl) ?_
      refine q1 rfl (D_len s_24 rfl rfl (rd_sl hu11)) ?_
      refine p1 rfl <| p1 rfl ?_
      refine D_end ?_
      refine x_then ?_
      refine D_weak [(0, v_code), (3, (.pointer (some ⟨g13, 0, none⟩))), (4, v14), (24, (.bool ((((y3.Reasons.length : Nat) : Int) : Int) == 60)))] ⟨rfl, rfl, rfl, rfl, trivial⟩ ?_
      refine C_if _ rfl (fun h16 => ?_) (fun h16 => ?_)
      · have pr16 : (((y3.Reasons.length : Nat) : Int) : Int) = 60 := eq_of_beq h16
        refine C_seq ?_
        refine C_reg ?_
        refine p1 rfl ?_
        refine D_end ?_
        refine x_then ?_
        refine C_ret ?_
        refine x_then_ret ?_
        refine R_1 rfl rfl fun w' hs => ⟨congrArg (fun z => Ending.returned (Value.bool z)) ?_, (hxb7.trans hs.bel)⟩
        show (true : Bool) = true
        rfl
      · have pr16 : (((y3.Reasons.length : Nat) : Int) : Int) ≠ 60 := ne_of_beq_false h16
        refine C_skip ?_
        refine x_then ?_
        refine C_seq ?_
        refine C_reg ?_
        refine p1 rfl ?_
        refine li rfl (cv b_19 rfl rfl rfl rfl (fun w' hs => (laws_at w' v_code code 0 (rd_at hs hb9) (by first | assumption | omega | (unfold szm at *; split at * <;> omega)))) ?_)
        refine p1 rfl ?_
        refine q1 rfl (D_leno 0 s_34 rfl rfl rfl) ?_
        refine q1 rfl (D_remv rfl rfl rfl (by omega)) ?_
        obtain ⟨x0, hg_x0⟩ : ∃ x0, (Int.tmod (atC code 0) (((labelsOf y3).length : Nat) : Int)) = x0 := ⟨_, rfl⟩
        refine D_re 29 (v' := .int .i64 x0) rfl (by rw [hg_x0]) rfl ?_
        have hx0 := tmod_rng (m := atC code 0) (n := ((labelsOf y3).length : Int)) hac.1 (by omega)
        rw [hg_x0] at hx0
        refine p1 rfl ?_
        refine D_end ?_
        refine x_then ?_
        refine C_seq ?_
        have hlr : (y3.Reasons.length : Int) ≠ 60 := by omega
        have hae : addR y3 (⟨x0, [], []⟩ : Reason) = addB y3 (prm x0) := bel_eq hst (by omega) (by omega)
        refine C_reg ?_
        refine q1 rfl (lbw 1 a_26 rfl rfl rfl) ?_
        refine p1 rfl ?_
        refine q1 rfl (D_build (vs := [(0, (.int .i64 x0))]) (cs := [(.int .i64 x0), (.slice none 0 0), (.slice none 0 0)]) rfl (fun _ => by kernel_rfl) rfl) ?_
        refine D_nil (α := Int) ?_
        refine D_nil (α := Int) ?_
        refine pk_Reason (r := (⟨x0, [], []⟩ : Reason)) ?_
        refine li rfl (cr2 b_20 rfl rfl rfl rfl (fun w' hs => (impl_AddReason w' [(.int .i64 y3.Nodes), u10] y3 [(.int .i64 x0), (.slice none 0 0), (.slice none 0 0)] (⟨x0, [], []⟩ : Reason) (rd_at hs hrb8) (rd_own (k := 0) hs rfl) (by first | assumption | omega | (unfold szm at *; split at * <;> omega)) (by simp [szR]))) fun cs17 cs18 => ?_)
        refine D_pre (fun w' hs => shape_Beliefs (rd_own (k := 0) hs rfl)) ?_
        rintro ⟨v19, rfl, ho20⟩
        refine D_pre (fun w' hs => show cs18 = [(.bool (addOk y3 (⟨x0, [], []⟩ : Reason)))] from rd_own (k := 1) hs rfl) ?_
        rintro rfl
        refine D_re 34 (v' := (.tuple #[(.agg #[(.int .i64 ((addR y3 (⟨x0, [], []⟩ : Reason)).Nodes)), v19]), (.bool (addOk y3 (⟨x0, [], []⟩ : Reason)))])) rfl rfl rfl ?_
        refine D_pk (H' := [ov [(.int .i64 ((addR y3 (⟨x0, [], []⟩ : Reason)).Nodes)), v19] (addR y3 (⟨x0, [], []⟩ : Reason) : Beliefs), ov [(.int .i64 x0), (.slice none 0 0), (.slice none 0 0)] ((⟨x0, [], []⟩ : Reason) : Reason), ov [v14] (labelsOf y3 : (List Bool)), bx g13 [(.int .i64 y3.Nodes), u10]]) [0, 2, 3, 4] rfl rfl ?_
        refine p1 rfl <| p1 rfl <| p1 rfl ?_
        refine li rfl (D_alloc y_26 rfl rfl rfl rfl fun g21 => ?_)
        refine li rfl (D_stb (vs := [(.int .i64 ((addR y3 (⟨x0, [], []⟩ : Reason)).Nodes)), v19]) (cs' := [(.int .i64 ((addR y3 (⟨x0, [], []⟩ : Reason)).Nodes)), v19]) 0 z_26 rfl rfl rfl rfl rfl rfl (ocons rfl (ocons ho20 onil)) (by simp) rfl ?_)
        refine p1 rfl ?_
        refine D_end ?_
        refine x_then ?_
        refine D_H ([bx g21 [(.int .i64 ((addR y3 (⟨x0, [], []⟩ : Reason)).Nodes)), v19], ov [(.int .i64 ((addR y3 (⟨x0, [], []⟩ : Reason)).Nodes)), v19] (addR y3 (⟨x0, [], []⟩ : Reason) : Beliefs), ov [(.int .i64 x0), (.slice none 0 0), (.slice none 0 0)] ((⟨x0, [], []⟩ : Reason) : Reason), ov [v14] (labelsOf y3 : (List Bool)), bx g13 [(.int .i64 y3.Nodes), u10]]) rfl ?_
        refine C_seq ?_
        refine C_seq ?_
        refine C_reg ?_
        refine p1 rfl <| p1 rfl ?_
        refine D_end ?_
        refine x_then ?_
        refine D_weak [(3, (.pointer (some ⟨g13, 0, none⟩))), (4, v14), (5, (.int .i64 x0)), (6, (.pointer (some ⟨g21, 0, none⟩))), (38, (.bool (!(addOk y3 (⟨x0, [], []⟩ : Reason)))))] ⟨rfl, rfl, rfl, rfl, rfl, trivial⟩ ?_
        refine D_sel (H' := [bx g21 [(.int .i64 ((addR y3 (⟨x0, [], []⟩ : Reason)).Nodes)), v19], ov [(.int .i64 ((addR y3 (⟨x0, [], []⟩ : Reason)).Nodes)), v19] (addR y3 (⟨x0, [], []⟩ : Reason) : Beliefs), ov [v14] (labelsOf y3 : (List Bool)), bx g13 [(.int .i64 y3.Nodes), u10]]) [true, true, false, true, true] rfl ?_
        refine C_if _ rfl (fun h22 => ?_) (fun h22 => ?_)
        · have h22n : (addOk y3 (⟨x0, [], []⟩ : Reason)) = false := not_t h22
          refine C_seq ?_
          refine C_reg ?_
          refine p1 rfl ?_
          refine D_end ?_
          refine x_then ?_
          refine C_ret ?_
          refine x_then_ret ?_
          refine R_1 rfl rfl fun w' hs => ⟨congrArg (fun z => Ending.returned (Value.bool z)) ?_, (hxb7.trans hs.bel)⟩
          show (false : Bool) = true
          first | rfl | (exfalso; revert h22; rw [bel_ok hst hlr (by omega)]; simp; done) | (exfalso; have hq := bel_len hst hlr (x := x0) (by omega); rw [← hae] at hq; omega) | (rw [hae] at hmv; have hq := bel_lab hst hlr (by omega) hmv; subst hq; simp_all; done) | (exfalso; revert h22; rw [hae, bel_same hst hlr (by omega) hlv (by cases lv <;> simp_all)]; simp; done) | (rw [hae, bel_drop]; simp; done) | (exfalso; revert h22; rw [hae, bel_drop]; simp; done)
        · have h22n : (addOk y3 (⟨x0, [], []⟩ : Reason)) = true := not_f h22
          refine C_skip ?_
          refine x_then ?_
          refine C_seq ?_
          refine C_reg ?_
          refine q1 rfl (lbw 0 a_26 rfl rfl rfl) ?_
          refine li rfl (crl b_14 rfl rfl rfl rfl (fun w' hs => (impl_LabelsOf w' [(.int .i64 ((addR y3 (⟨x0, [], []⟩ : Reason)).Nodes)), v19] (addR y3 (⟨x0, [], []⟩ : Reason)) (rd_own (k := 1) hs rfl))) fun v23 => ?_)
          refine p1 rfl ?_
          refine D_end ?_
          refine x_then ?_
          refine D_H ([ov [v23] (labelsOf (addR y3 (⟨x0, [], []⟩ : Reason)) : (List Bool)), bx g21 [(.int .i64 ((addR y3 (⟨x0, [], []⟩ : Reason)).Nodes)), v19], ov [(.int .i64 ((addR y3 (⟨x0, [], []⟩ : Reason)).Nodes)), v19] (addR y3 (⟨x0, [], []⟩ : Reason) : Beliefs), ov [v14] (labelsOf y3 : (List Bool)), bx g13 [(.int .i64 y3.Nodes), u10]]) rfl ?_
          refine C_seq ?_
          refine C_reg ?_
          refine q1 rfl (lbw 1 a_26 rfl rfl rfl) ?_
          refine q1 rfl (D_fb f_26_1 rfl rfl (q := 1) rfl) ?_
          refine q1 rfl (lb 4 o_24 rfl rfl rfl rfl) ?_
          refine q1 rfl (D_len s_24 rfl rfl (rd_sl hu11)) ?_
          refine li rfl (D_bsl (y := ((y3.Reasons.length : Nat) : Int)) s_28 y_3 rfl rfl rfl rfl rfl fun v25 => ?_)
          refine li rfl (crs rfl b_21 rfl rfl rfl rfl (fun w' hs => (impl_DropReasons w' [(.int .i64 ((addR y3 (⟨x0, [], []⟩ : Reason)).Nodes)), v19] (addR y3 (⟨x0, [], []⟩ : Reason)) v25 ([((y3.Reasons.length : Nat) : Int)]) (rd_own (k := 3) hs rfl) (rd_own (k := 0) hs rfl) (by rw [hae]; have := bel_sz (x := x0) hsz; omega))) fun cs26 => ?_)
          refine D_pre (fun w' hs => shape_Beliefs (rd_own (k := 0) hs rfl)) ?_
          rintro ⟨v27, rfl, ho28⟩
          refine li rfl (D_alloc y_26 rfl rfl rfl rfl fun g29 => ?_)
          refine li rfl (D_stb (vs := [(.int .i64 ((dropR (addR y3 (⟨x0, [], []⟩ : Reason)) ([((y3.Reasons.length : Nat) : Int)])).Nodes)), v27]) (cs' := [(.int .i64 ((dropR (addR y3 (⟨x0, [], []⟩ : Reason)) ([((y3.Reasons.length : Nat) : Int)])).Nodes)), v27]) 0 z_26 rfl rfl rfl rfl rfl rfl (ocons rfl (ocons ho28 onil)) (by simp) rfl ?_)
          refine D_end ?_
          refine x_then ?_
          refine D_H ([bx g29 [(.int .i64 ((dropR (addR y3 (⟨x0, [], []⟩ : Reason)) ([((y3.Reasons.length : Nat) : Int)])).Nodes)), v27], ov [(.int .i64 ((dropR (addR y3 (⟨x0, [], []⟩ : Reason)) ([((y3.Reasons.length : Nat) : Int)])).Nodes)), v27] (dropR (addR y3 (⟨x0, [], []⟩ : Reason)) ([((y3.Reasons.length : Nat) : Int)]) : Beliefs), ov [v25] ([((y3.Reasons.length : Nat) : Int)] : (List Int)), ov [v23] (labelsOf (addR y3 (⟨x0, [], []⟩ : Reason)) : (List Bool)), bx g21 [(.int .i64 ((addR y3 (⟨x0, [], []⟩ : Reason)).Nodes)), v19], ov [(.int .i64 ((addR y3 (⟨x0, [], []⟩ : Reason)).Nodes)), v19] (addR y3 (⟨x0, [], []⟩ : Reason) : Beliefs), ov [v14] (labelsOf y3 : (List Bool)), bx g13 [(.int .i64 y3.Nodes), u10]]) rfl ?_
          refine C_seq ?_
          refine C_reg ?_
          refine p1 rfl ?_
          refine q1 rfl (D_leno 3 s_34 rfl rfl rfl) ?_
          refine p1 rfl ?_
          refine q1 rfl (D_leno 6 s_34 rfl rfl rfl) ?_
          refine p1 rfl <| p1 rfl ?_
          refine gs 52 rfl rfl (fun h30 => ?_) (fun h30 => ?_)
          · have pr30 : ((((labelsOf (addR y3 (⟨x0, [], []⟩ : Reason))).length : Nat) : Int) : Int) = (((labelsOf y3).length : Nat) : Int) := eq_of_beq h30
            refine p1 rfl <| p1 rfl ?_
            obtain ⟨mv, hmv⟩ := some_of_lt (l := (labelsOf (addR y3 (⟨x0, [], []⟩ : Reason)))) (i := (x0.toNat)) (by omega)
            refine q1 rfl (D_ix (l := (labelsOf (addR y3 (⟨x0, [], []⟩ : Reason)))) (j := (x0.toNat)) s_34 rfl rfl rfl (fun w' hs => (rd_own (k := 3) hs rfl)) (Int.toNat_of_nonneg (by omega)).symm (lt_of_some hmv)) ?_
            refine q1 rfl (lo (α := Bool) 3 o_4 rfl rfl rfl hmv) ?_
            refine p1 rfl <| p1 rfl ?_
            refine gs 58 rfl rfl (fun h31 => ?_) (fun h31 => ?_)
            · refine p1 rfl <| p1 rfl ?_
              obtain ⟨lv, hlv⟩ := some_of_lt (l := (labelsOf y3)) (i := (x0.toNat)) (by omega)
              refine q1 rfl (D_ix (l := (labelsOf y3)) (j := (x0.toNat)) s_34 rfl rfl rfl (fun w' hs => (rd_own (k := 6) hs rfl)) (Int.toNat_of_nonneg (by omega)).symm (lt_of_some hlv)) ?_
              refine q1 rfl (lo (α := Bool) 6 o_4 rfl rfl rfl hlv) ?_
              refine p1 rfl <| p1 rfl ?_
              refine gs 64 rfl rfl (fun h32 => ?_) (fun h32 => ?_)
              · have h32n : lv = false := not_t h32
                refine n1 rfl ?_
                refine n1 rfl ?_
                refine n1 rfl ?_
                refine p1 rfl <| p1 rfl <| p1 rfl ?_
                refine q1 rfl (lbw 0 a_26 rfl rfl rfl) ?_
                refine li rfl (crl b_14 rfl rfl rfl rfl (fun w' hs => (impl_LabelsOf w' [(.int .i64 ((dropR (addR y3 (⟨x0, [], []⟩ : Reason)) ([((y3.Reasons.length : Nat) : Int)])).Nodes)), v27] (dropR (addR y3 (⟨x0, [], []⟩ : Reason)) ([((y3.Reasons.length : Nat) : Int)])) (rd_own (k := 1) hs rfl))) fun v33 => ?_)
                refine p1 rfl ?_
                refine li rfl (cv b_17 rfl rfl rfl rfl (fun w' hs => (laws_bools w' v33 (labelsOf (dropR (addR y3 (⟨x0, [], []⟩ : Reason)) ([((y3.Reasons.length : Nat) : Int)]))) v14 (labelsOf y3) (rd_own (k := 0) hs rfl) (rd_own (k := 7) hs rfl))) ?_)
                refine p1 rfl <| p1 rfl ?_
                refine D_end ?_
                refine x_then ?_
                refine D_weak [(2, (.bool (decide ((labelsOf (dropR (addR y3 (⟨x0, [], []⟩ : Reason)) ([((y3.Reasons.length : Nat) : Int)]))) = (labelsOf y3)))))] ⟨rfl, trivial⟩ ?_
                refine D_sel (H' := [ov [(.int .i64 ((dropR (addR y3 (⟨x0, [], []⟩ : Reason)) ([((y3.Reasons.length : Nat) : Int)])).Nodes)), v27] (dropR (addR y3 (⟨x0, [], []⟩ : Reason)) ([((y3.Reasons.length : Nat) : Int)]) : Beliefs), ov [(.int .i64 ((addR y3 (⟨x0, [], []⟩ : Reason)).Nodes)), v19] (addR y3 (⟨x0, [], []⟩ : Reason) : Beliefs)]) [false, false, true, false, false, false, true, false, false] rfl ?_
                refine C_ret ?_
                refine R_1 rfl rfl fun w' hs => ⟨congrArg (fun z => Ending.returned (Value.bool z)) ?_, (hxb7.trans hs.bel)⟩
                show ((decide ((labelsOf (dropR (addR y3 (⟨x0, [], []⟩ : Reason)) ([((y3.Reasons.length : Nat) : Int)]))) = (labelsOf y3))) : Bool) = true
                first | rfl | (exfalso; revert h32; rw [bel_ok hst hlr (by omega)]; simp; done) | (exfalso; have hq := bel_len hst hlr (x := x0) (by omega); rw [← hae] at hq; omega) | (rw [hae] at hmv; have hq := bel_lab hst hlr (by omega) hmv; subst hq; simp_all; done) | (exfalso; revert h32; rw [hae, bel_same hst hlr (by omega) hlv (by cases lv <;> simp_all)]; simp; done) | (rw [hae, bel_drop]; simp; done) | (exfalso; revert h32; rw [hae, bel_drop]; simp; done)
              · have h32n : lv = true := not_f h32
                refine p1 rfl <| p1 rfl ?_
                refine li rfl (cv b_17 rfl rfl rfl rfl (fun w' hs => (laws_bools w' v23 (labelsOf (addR y3 (⟨x0, [], []⟩ : Reason))) v14 (labelsOf y3) (rd_own (k := 3) hs rfl) (rd_own (k := 6) hs rfl))) ?_)
                refine p1 rfl <| p1 rfl <| p1 rfl ?_
                refine gs 70 rfl rfl (fun h34 => ?_) (fun h34 => ?_)
                · refine q1 rfl (lbw 0 a_26 rfl rfl rfl) ?_
                  refine li rfl (crl b_14 rfl rfl rfl rfl (fun w' hs => (impl_LabelsOf w' [(.int .i64 ((dropR (addR y3 (⟨x0, [], []⟩ : Reason)) ([((y3.Reasons.length : Nat) : Int)])).Nodes)), v27] (dropR (addR y3 (⟨x0, [], []⟩ : Reason)) ([((y3.Reasons.length : Nat) : Int)])) (rd_own (k := 1) hs rfl))) fun v35 => ?_)
                  refine p1 rfl ?_
                  refine li rfl (cv b_17 rfl rfl rfl rfl (fun w' hs => (laws_bools w' v35 (labelsOf (dropR (addR y3 (⟨x0, [], []⟩ : Reason)) ([((y3.Reasons.length : Nat) : Int)]))) v14 (labelsOf y3) (rd_own (k := 0) hs rfl) (rd_own (k := 7) hs rfl))) ?_)
                  refine p1 rfl <| p1 rfl ?_
                  refine D_end ?_
                  refine x_then ?_
                  refine D_weak [(2, (.bool (decide ((labelsOf (dropR (addR y3 (⟨x0, [], []⟩ : Reason)) ([((y3.Reasons.length : Nat) : Int)]))) = (labelsOf y3)))))] ⟨rfl, trivial⟩ ?_
                  refine D_sel (H' := [ov [(.int .i64 ((dropR (addR y3 (⟨x0, [], []⟩ : Reason)) ([((y3.Reasons.length : Nat) : Int)])).Nodes)), v27] (dropR (addR y3 (⟨x0, [], []⟩ : Reason)) ([((y3.Reasons.length : Nat) : Int)]) : Beliefs), ov [(.int .i64 ((addR y3 (⟨x0, [], []⟩ : Reason)).Nodes)), v19] (addR y3 (⟨x0, [], []⟩ : Reason) : Beliefs)]) [false, false, true, false, false, false, true, false, false] rfl ?_
                  refine C_ret ?_
                  refine R_1 rfl rfl fun w' hs => ⟨congrArg (fun z => Ending.returned (Value.bool z)) ?_, (hxb7.trans hs.bel)⟩
                  show ((decide ((labelsOf (dropR (addR y3 (⟨x0, [], []⟩ : Reason)) ([((y3.Reasons.length : Nat) : Int)]))) = (labelsOf y3))) : Bool) = true
                  first | rfl | (exfalso; revert h34; rw [bel_ok hst hlr (by omega)]; simp; done) | (exfalso; have hq := bel_len hst hlr (x := x0) (by omega); rw [← hae] at hq; omega) | (rw [hae] at hmv; have hq := bel_lab hst hlr (by omega) hmv; subst hq; simp_all; done) | (exfalso; revert h34; rw [hae, bel_same hst hlr (by omega) hlv (by cases lv <;> simp_all)]; simp; done) | (rw [hae, bel_drop]; simp; done) | (exfalso; revert h34; rw [hae, bel_drop]; simp; done)
                · refine n1 rfl ?_
                  refine n1 rfl ?_
                  refine n1 rfl ?_
                  refine n1 rfl ?_
                  refine p1 rfl <| p1 rfl ?_
                  refine D_end ?_
                  refine x_then ?_
                  refine D_weak [(2, (.bool false))] ⟨rfl, trivial⟩ ?_
                  refine D_sel (H' := []) [false, false, false, false, false, false, false, false] rfl ?_
                  refine C_ret ?_
                  refine R_1 rfl rfl fun w' hs => ⟨congrArg (fun z => Ending.returned (Value.bool z)) ?_, (hxb7.trans hs.bel)⟩
                  show (false : Bool) = true
                  first | rfl | (exfalso; revert h34; rw [bel_ok hst hlr (by omega)]; simp; done) | (exfalso; have hq := bel_len hst hlr (x := x0) (by omega); rw [← hae] at hq; omega) | (rw [hae] at hmv; have hq := bel_lab hst hlr (by omega) hmv; subst hq; simp_all; done) | (exfalso; revert h34; rw [hae, bel_same hst hlr (by omega) hlv (by cases lv <;> simp_all)]; simp; done) | (rw [hae, bel_drop]; simp; done) | (exfalso; revert h34; rw [hae, bel_drop]; simp; done)
            · refine n1 rfl ?_
              refine n1 rfl ?_
              refine n1 rfl ?_
              refine n1 rfl ?_
              refine n1 rfl ?_
              refine n1 rfl ?_
              refine n1 rfl ?_
              refine n1 rfl ?_
              refine n1 rfl ?_
              refine n1 rfl ?_
              refine p1 rfl <| p1 rfl ?_
              refine n1 rfl ?_
              refine n1 rfl ?_
              refine n1 rfl ?_
              refine n1 rfl ?_
              refine p1 rfl <| p1 rfl ?_
              refine D_end ?_
              refine x_then ?_
              refine D_weak [(2, (.bool false))] ⟨rfl, trivial⟩ ?_
              refine D_sel (H' := []) [false, false, false, false, false, false, false, false] rfl ?_
              refine C_ret ?_
              refine R_1 rfl rfl fun w' hs => ⟨congrArg (fun z => Ending.returned (Value.bool z)) ?_, (hxb7.trans hs.bel)⟩
              show (false : Bool) = true
              first | rfl | (exfalso; revert h31; rw [bel_ok hst hlr (by omega)]; simp; done) | (exfalso; have hq := bel_len hst hlr (x := x0) (by omega); rw [← hae] at hq; omega) | (rw [hae] at hmv; have hq := bel_lab hst hlr (by omega) hmv; subst hq; simp_all; done) | (exfalso; revert h31; rw [hae, bel_same hst hlr (by omega) hlv (by cases lv <;> simp_all)]; simp; done) | (rw [hae, bel_drop]; simp; done) | (exfalso; revert h31; rw [hae, bel_drop]; simp; done)
          · have pr30 : ((((labelsOf (addR y3 (⟨x0, [], []⟩ : Reason))).length : Nat) : Int) : Int) ≠ (((labelsOf y3).length : Nat) : Int) := ne_of_beq_false h30
            refine n1 rfl ?_
            refine n1 rfl ?_
            refine n1 rfl ?_
            refine n1 rfl ?_
            refine p1 rfl <| p1 rfl ?_
            refine n1 rfl ?_
            refine n1 rfl ?_
            refine n1 rfl ?_
            refine n1 rfl ?_
            refine n1 rfl ?_
            refine n1 rfl ?_
            refine n1 rfl ?_
            refine n1 rfl ?_
            refine n1 rfl ?_
            refine n1 rfl ?_
            refine p1 rfl <| p1 rfl ?_
            refine n1 rfl ?_
            refine n1 rfl ?_
            refine n1 rfl ?_
            refine n1 rfl ?_
            refine p1 rfl <| p1 rfl ?_
            refine D_end ?_
            refine x_then ?_
            refine D_weak [(2, (.bool false))] ⟨rfl, trivial⟩ ?_
            refine D_sel (H' := []) [false, false, false, false, false, false, false, false] rfl ?_
            refine C_ret ?_
            refine R_1 rfl rfl fun w' hs => ⟨congrArg (fun z => Ending.returned (Value.bool z)) ?_, (hxb7.trans hs.bel)⟩
            show (false : Bool) = true
            first | rfl | (exfalso; revert h30; rw [bel_ok hst hlr (by omega)]; simp; done) | (exfalso; have hq := bel_len hst hlr (x := x0) (by omega); rw [← hae] at hq; omega) | (rw [hae] at hmv; have hq := bel_lab hst hlr (by omega) hmv; subst hq; simp_all; done) | (exfalso; revert h30; rw [hae, bel_same hst hlr (by omega) hlv (by cases lv <;> simp_all)]; simp; done) | (rw [hae, bel_drop]; simp; done) | (exfalso; revert h30; rw [hae, bel_drop]; simp; done)
end Go.Sy.Law3
