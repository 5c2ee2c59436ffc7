/-
  Contracts of functions of the program, walked (printed by a program of ours).
  Conditions: those that each theorem states.
-/
import Derived.Test.YtfpjllklccfliaaBelc
import Derived.Test.YtfpjllklccfliaaRep
set_option linter.unusedVariables false
set_option maxRecDepth 20000
namespace Go.Sy.Beld
open Go Go.RowKit Go.Proofs Go.Sy
theorem mixed : Try.prog.follows .mixedOrders = true := by kernel_rfl
theorem a_32 : aggTy Try.prog 32 = some 2 := by kernel_rfl
theorem b_49 : hasBody Try.prog 49 = true := by kernel_rfl
theorem b_58 : hasBody Try.prog 58 = true := by kernel_rfl
theorem b_57 : hasBody Try.prog 57 = true := by kernel_rfl
theorem s_25 : sliceTy Try.prog 25 = some (3, 1, 8) := by kernel_rfl
theorem b_56 : hasBody Try.prog 56 = true := by kernel_rfl
theorem a_24 : aggTy Try.prog 24 = some 2 := by kernel_rfl
theorem b_18 : hasBody Try.prog 18 = true := by kernel_rfl
theorem b_20 : hasBody Try.prog 20 = true := by kernel_rfl
theorem b_30 : hasBody Try.prog 30 = true := by kernel_rfl
theorem y_32 : zeroTy Try.prog 32 = some (.agg #[(.int .i64 0), (.slice none 0 0)]) := by kernel_rfl
theorem z_32 : sizeTy Try.prog 32 = some 2 := by kernel_rfl
theorem b_31 : hasBody Try.prog 31 = true := by kernel_rfl
theorem b_13 : hasBody Try.prog 13 = true := by kernel_rfl
theorem b_23 : hasBody Try.prog 23 = true := by kernel_rfl
theorem b_24 : hasBody Try.prog 24 = true := by kernel_rfl
theorem b_16 : hasBody Try.prog 16 = true := by kernel_rfl
theorem b_17 : hasBody Try.prog 17 = true := by kernel_rfl
theorem b_50 : hasBody Try.prog 50 = true := by kernel_rfl
theorem f_32_0 : fieldOff Try.prog 32 0 = some 0 := by kernel_rfl
theorem o_3 : oneTy Try.prog 3 = true := by kernel_rfl
theorem s_42 : sliceTy Try.prog 42 = some (4, 1, 1) := by kernel_rfl
theorem y_4 : zeroTy Try.prog 4 = some (.bool false) := by kernel_rfl
theorem f_32_1 : fieldOff Try.prog 32 1 = some 1 := by kernel_rfl
theorem o_30 : oneTy Try.prog 30 = true := by kernel_rfl
theorem s_30 : sliceTy Try.prog 30 = some (72, 3, 56) := by kernel_rfl
theorem a_72 : aggTy Try.prog 72 = some 3 := by kernel_rfl
theorem y_72 : zeroTy Try.prog 72 = some (.agg #[(.int .i64 0), (.slice none 0 0), (.slice none 0 0)]) := by kernel_rfl
theorem z_72 : sizeTy Try.prog 72 = some 3 := by kernel_rfl
theorem f_72_1 : fieldOff Try.prog 72 1 = some 1 := by kernel_rfl
theorem o_25 : oneTy Try.prog 25 = true := by kernel_rfl
theorem b_55 : hasBody Try.prog 55 = true := by kernel_rfl
theorem f_72_2 : fieldOff Try.prog 72 2 = some 2 := by kernel_rfl
theorem o_4 : oneTy Try.prog 4 = true := by kernel_rfl
theorem f_72_0 : fieldOff Try.prog 72 0 = some 0 := by kernel_rfl
theorem z_4 : sizeTy Try.prog 4 = some 1 := by kernel_rfl
theorem b_19 : hasBody Try.prog 19 = true := by kernel_rfl
theorem b_53 : hasBody Try.prog 53 = true := by kernel_rfl
theorem b_54 : hasBody Try.prog 54 = true := by kernel_rfl
theorem b_28 : hasBody Try.prog 28 = true := by kernel_rfl
theorem b_27 : hasBody Try.prog 27 = true := by kernel_rfl
theorem b_29 : hasBody Try.prog 29 = true := by kernel_rfl
theorem ub_4 : Try.prog.underlying 4 = some .bool := by kernel_rfl
open Go.Sy.Bel1 Go.Sy.Bel2 Go.Sy.Bel3 Go.Sy.Bel4 Go.Sy.Bel5 Go.Sy.Bel6 Go.Sy.Bel7 Go.Sy.Bel8 Go.Sy.Bel9 Go.Sy.Bela Go.Sy.Belb Go.Sy.Belc
theorem impl_FoundationOf (w : World) (c_b : List Value) (b : Beliefs) (x : Int) (h_b : Gd.rd w c_b b) : Calls Try.prog 31 [(.agg c_b.toArray), (.int .i64 x)].toArray w (Res w (foundOf b x : List Int)) := by
  obtain ⟨u1, rfl, hu2⟩ := open_Beliefs h_b
  have hm3 := rd_max hu2
  refine enter 13 Try.func31 rfl rfl rfl ?_
  refine C_seq ?_
  refine C_reg ?_
  refine li rfl (D_box rfl rfl rfl rfl rfl fun g4 => ?_)
  refine p1 rfl ?_
  refine D_end ?_
  refine x_then ?_
  refine D_H ([bx g4 [(.int .i64 b.Nodes), u1]]) rfl ?_
  refine C_seq ?_
  refine C_seq ?_
  refine C_reg ?_
  refine q1 rfl (lbw 0 a_32 rfl rfl rfl) ?_
  refine li rfl (cv b_49 rfl rfl rfl rfl (fun w' hs => (impl_IsStratified w' [(.int .i64 b.Nodes), u1] b (rd_at hs h_b))) ?_)
  refine p1 rfl ?_
  refine D_end ?_
  refine x_then ?_
  refine C_if _ rfl (fun h5 => ?_) (fun h5 => ?_)
  · have h5n : (isStrat b) = false := not_t h5
    refine C_seq ?_
    refine C_reg ?_
    refine p1 rfl ?_
    refine D_end ?_
    refine x_then ?_
    refine C_ret ?_
    refine x_then_ret ?_
    refine D_nil (α := Int) ?_
    refine R_1 rfl rfl fun w' hs => res_of (k := 0) hs rfl ?_
    show [] = foundOf b x
    exact found_f h5n
  · have h5n : (isStrat b) = true := not_f h5
    refine C_skip ?_
    refine x_then ?_
    refine C_seq ?_
    have hst : isStrat b = true := by assumption
    have hsol := strat_has hst
    have ho := isB_ok2 (strat_b hst)
    have hbn := okB_nodes ho
    have hrl : b.Reasons.length ≤ 1048576 := by have := isB_len (strat_b hst); omega
    refine C_draw mixed [4, 5] (by kernel_rfl) ?_
    refine tk 0 rfl (by kernel_rfl) (by kernel_rfl) (by kernel_rfl) rfl (fun _ hs => hs) (lbw 0 a_32 rfl rfl rfl) ?_
    refine tk 1 rfl (by kernel_rfl) (by kernel_rfl) (by kernel_rfl) rfl (fun _ hs => hs) (lbw 0 a_32 rfl rfl rfl) ?_
    refine tk 3 rfl (by kernel_rfl) (by kernel_rfl) (by kernel_rfl) rfl (fun _ hs => hs) (rp rfl) ?_
    refine ty 2 rfl (by kernel_rfl) rfl (crl b_58 rfl rfl rfl rfl (fun w' hs => (impl_rounds w' [(.int .i64 b.Nodes), u1] b (rd_at hs h_b) (by first | assumption | omega | (unfold szm at *; split at * <;> omega)) (by first | assumption | omega | (unfold szm at *; split at * <;> omega)) (by first | assumption | omega | (unfold szm at *; split at * <;> omega)))) fun v6 => ?_)
    refine tS (fun _ hs => hs.pk [1] rfl rfl) ?_
    refine ty 4 rfl (by kernel_rfl) rfl (crl b_57 rfl rfl rfl rfl (fun w' hs => impl_foundation_nil 25 w' [(.int .i64 b.Nodes), u1] b v6 (vec b.Nodes.toNat (rnds b)) x (rd_at hs h_b) (rd_own (k := 0) hs rfl) (by first | assumption | omega) (vec_len _ _) (rnds_25 ho hsol _) (Good.nil b) (by first | assumption | omega)) fun v7 => ?_)
    refine tZ rfl ?_
    refine ty 5 rfl (by kernel_rfl) rfl (sv rfl rfl (rp rfl) ?_)
    refine tZ rfl ?_
    refine tE (by kernel_rfl) ?_
    refine x_then ?_
    refine D_H ([ov [v7] (fndG b (suppL b (vec b.Nodes.toNat (rnds b))) 25 x ([] : List Int) : (List Int)), ov [v6] (vec b.Nodes.toNat (rnds b) : (List Int)), bx g4 [(.int .i64 b.Nodes), u1]]) rfl ?_
    refine C_ret ?_
    refine R_1 rfl rfl fun w' hs => res_of (k := 0) hs rfl ?_
    show fndG b (suppL b (vec b.Nodes.toNat (rnds b))) 25 x ([] : List Int) = foundOf b x
    exact found_t hst

theorem spec_FoundationOf (w : World) (c_b : List Value) (b : Beliefs) (x : Int) (h_b : Gd.rd w c_b b) (hrl : b.Reasons.length ≤ 1048576) : Calls Try.prog 30 [(.agg c_b.toArray), (.int .i64 x)].toArray w (Res w (foundOf b x : List Int)) := by
  obtain ⟨u1, rfl, hu2⟩ := open_Beliefs h_b
  have hm3 := rd_max hu2
  refine enter 9 Try.func30 rfl rfl rfl ?_
  refine C_seq ?_
  refine C_reg ?_
  refine li rfl (D_box rfl rfl rfl rfl rfl fun g4 => ?_)
  refine p1 rfl ?_
  refine D_end ?_
  refine x_then ?_
  refine D_H ([bx g4 [(.int .i64 b.Nodes), u1]]) rfl ?_
  refine C_seq ?_
  refine C_reg ?_
  refine q1 rfl (lbw 0 a_32 rfl rfl rfl) ?_
  refine p1 rfl ?_
  refine li rfl (D_bs0 (α := Int) s_25 rfl rfl rfl fun v5 => ?_)
  refine li rfl (cmv b_56 rfl rfl rfl rfl (fun w' hs => spec_l11Found 25 _ _ w' [(.int .i64 b.Nodes), u1] b x v5 ([]) h_b (rnds_25' b _) (Good.nil b) (by first | assumption | omega) hs) fun v6 => ?_)
  refine p1 rfl ?_
  refine D_end ?_
  refine x_then ?_
  refine D_H ([ov [v6] (fndG b (suppOf b) 25 x ([] : List Int) : (List Int)), bx g4 [(.int .i64 b.Nodes), u1]]) rfl ?_
  refine C_ret ?_
  refine R_1 rfl rfl fun w' hs => res_of (k := 0) hs rfl ?_
  show fndG b (suppOf b) 25 x ([] : List Int) = foundOf b x
  rfl

set_option maxHeartbeats 4000000 in
theorem laws_FnExactFoundationOf (w : World) (c_aB : List Value) (aB : Beliefs) (aX : Int) (h_aB : Gd.rd w c_aB aB) : Calls Try.prog 6 [(.agg c_aB.toArray), (.int .i64 aX)].toArray w (Val w (.bool (true))) := by
  obtain ⟨u1, rfl, hu2⟩ := open_Beliefs h_aB
  have hm3 := rd_max hu2
  have hz1 := szB_len aB
  have hz2 := szB_sum aB
  have hz3 := found_len (b := aB) aX
  refine enter 74 Try.func6 rfl rfl rfl ?_
  refine C_seq ?_
  refine C_reg ?_
  refine li rfl (D_box rfl rfl rfl rfl rfl fun g4 => ?_)
  refine p1 rfl ?_
  refine D_end ?_
  refine x_then ?_
  refine D_H ([bx g4 [(.int .i64 aB.Nodes), u1]]) rfl ?_
  refine C_seq ?_
  refine C_reg ?_
  refine p1 rfl ?_
  refine D_end ?_
  refine x_then ?_
  refine C_seq ?_
  refine C_reg ?_
  refine q1 rfl (lbw 0 a_24 rfl rfl rfl) ?_
  refine p1 rfl ?_
  refine li rfl (cv b_18 rfl rfl rfl rfl (fun w' hs => (laws_szBeliefs w' [(.int .i64 aB.Nodes), u1] aB 1048576 (rd_at hs h_aB) (by first | assumption | omega | (unfold szm at *; split at * <;> omega)) (by first | assumption | omega | (unfold szm at *; split at * <;> omega)))) ?_)
  refine p1 rfl ?_
  refine D_end ?_
  refine x_then ?_
  refine C_seq ?_
  refine C_seq ?_
  refine C_reg ?_
  refine p1 rfl <| p1 rfl ?_
  refine D_end ?_
  refine x_then ?_
  refine C_if _ rfl (fun h5 => ?_) (fun h5 => ?_)
  · have pr5 : ((szm (szB aB) 1048576) : Int) < 0 := of_decide_eq_true h5
    refine C_seq ?_
    refine C_reg ?_
    refine p1 rfl ?_
    refine D_end ?_
    refine x_then ?_
    refine C_ret ?_
    refine x_then_ret ?_
    refine R_1 rfl rfl fun w' hs => ⟨congrArg (fun z => Ending.returned (Value.bool z)) ?_, hs.bel⟩
    show (true : Bool) = true
    first | rfl | (exfalso; omega) | (exfalso; simp only [mapS_len, sumB_mk, sumR_mk] at *; omega) | exact absurd h5 (by simp [mapS_len])
  · have pr5 : ¬ ((szm (szB aB) 1048576) : Int) < 0 := of_decide_eq_false h5
    have pr5z := szm_val (n := (szB aB)) (left := 1048576) pr5
    refine C_skip ?_
    refine x_then ?_
    refine C_seq ?_
    refine C_reg ?_
    refine q1 rfl (lbw 0 a_24 rfl rfl rfl) ?_
    refine li rfl (crs rfl b_20 rfl rfl rfl rfl (fun w' hs => (laws_toBeliefs w' [(.int .i64 aB.Nodes), u1] aB (rd_at hs h_aB) (by first | assumption | omega | (unfold szm at *; split at * <;> omega)))) fun cs6 => ?_)
    refine D_pre (fun w' hs => shape_Beliefs (rd_own (k := 0) hs rfl)) ?_
    rintro ⟨v7, rfl, ho8⟩
    refine p1 rfl ?_
    refine li rfl (crl b_30 rfl rfl rfl rfl (fun w' hs => (spec_FoundationOf w' [(.int .i64 aB.Nodes), v7] aB aX (rd_own (k := 0) hs rfl) (by first | assumption | omega | (unfold szm at *; split at * <;> omega)))) fun v9 => ?_)
    refine p1 rfl ?_
    refine D_end ?_
    refine x_then ?_
    refine D_H ([ov [v9] (foundOf aB aX : (List Int)), ov [(.int .i64 aB.Nodes), v7] (aB : Beliefs), bx g4 [(.int .i64 aB.Nodes), u1]]) rfl ?_
    refine C_seq ?_
    refine C_reg ?_
    refine q1 rfl (lbw 2 a_24 rfl rfl rfl) ?_
    refine li rfl (crs rfl b_20 rfl rfl rfl rfl (fun w' hs => (laws_toBeliefs w' [(.int .i64 aB.Nodes), u1] aB (rd_at hs h_aB) (by first | assumption | omega | (unfold szm at *; split at * <;> omega)))) fun cs10 => ?_)
    refine D_pre (fun w' hs => shape_Beliefs (rd_own (k := 0) hs rfl)) ?_
    rintro ⟨v11, rfl, ho12⟩
    refine li rfl (D_alloc y_32 rfl rfl rfl rfl fun g13 => ?_)
    refine li rfl (D_stb (vs := [(.int .i64 aB.Nodes), v11]) (cs' := [(.int .i64 aB.Nodes), v11]) 0 z_32 rfl rfl rfl rfl rfl rfl (ocons rfl (ocons ho12 onil)) (by simp) rfl ?_)
    refine D_end ?_
    refine x_then ?_
    refine D_H ([bx g13 [(.int .i64 aB.Nodes), v11], ov [(.int .i64 aB.Nodes), v11] (aB : Beliefs), ov [v9] (foundOf aB aX : (List Int)), ov [(.int .i64 aB.Nodes), v7] (aB : Beliefs), bx g4 [(.int .i64 aB.Nodes), u1]]) rfl ?_
    refine C_seq ?_
    refine C_reg ?_
    refine q1 rfl (lbw 0 a_32 rfl rfl rfl) ?_
    refine p1 rfl ?_
    refine li rfl (crl b_31 rfl rfl rfl rfl (fun w' hs => (impl_FoundationOf w' [(.int .i64 aB.Nodes), v11] aB aX (rd_own (k := 1) hs rfl))) fun v14 => ?_)
    refine p1 rfl ?_
    refine D_end ?_
    refine x_then ?_
    refine D_weak [(1, (.int .i64 aX)), (2, (.pointer (some ⟨g4, 0, none⟩))), (6, v9), (7, (.pointer (some ⟨g13, 0, none⟩))), (8, v14)] ⟨rfl, rfl, rfl, rfl, rfl, trivial⟩ ?_
    refine D_sel (H' := [ov [v14] (foundOf aB aX : (List Int)), bx g13 [(.int .i64 aB.Nodes), v11], ov [(.int .i64 aB.Nodes), v11] (aB : Beliefs), ov [v9] (foundOf aB aX : (List Int)), bx g4 [(.int .i64 aB.Nodes), u1]]) [true, true, true, true, false, true] rfl ?_
    refine C_seq ?_
    refine C_seq ?_
    refine C_reg ?_
    refine p1 rfl <| p1 rfl ?_
    refine li rfl (cv b_13 rfl rfl rfl rfl (fun w' hs => (laws_eqIntS w' v14 (foundOf aB aX) v9 (foundOf aB aX) (rd_own (k := 0) hs rfl) (rd_own (k := 3) hs rfl))) ?_)
    refine p1 rfl ?_
    refine D_end ?_
    refine x_then ?_
    refine C_if _ rfl (fun h15 => ?_) (fun h15 => ?_)
    · have h15n : (decide ((foundOf aB aX) = (foundOf aB aX))) = false := not_t h15
      refine C_seq ?_
      refine C_reg ?_
      refine p1 rfl ?_
      refine D_end ?_
      refine x_then ?_
      refine C_ret ?_
      refine x_then_ret ?_
      refine R_1 rfl rfl fun w' hs => ⟨congrArg (fun z => Ending.returned (Value.bool z)) ?_, hs.bel⟩
      show (false : Bool) = true
      first | rfl | (exfalso; omega) | (exfalso; simp only [mapS_len, sumB_mk, sumR_mk] at *; omega) | exact absurd h15 (by simp [mapS_len])
    · have h15n : (decide ((foundOf aB aX) = (foundOf aB aX))) = true := not_f h15
      refine C_skip ?_
      refine x_then ?_
      refine C_seq ?_
      refine C_seq ?_
      refine C_draw mixed [3, 4] (by kernel_rfl) ?_
      refine tk 0 rfl (by kernel_rfl) (by kernel_rfl) (by kernel_rfl) rfl (fun _ hs => hs) (lbw 1 a_32 rfl rfl rfl) ?_
      refine tk 1 rfl (by kernel_rfl) (by kernel_rfl) (by kernel_rfl) rfl (fun _ hs => hs) (lbw 4 a_24 rfl rfl rfl) ?_
      refine ty 2 rfl (by kernel_rfl) rfl (crs rfl b_20 rfl rfl rfl rfl (fun w' hs => (laws_toBeliefs w' [(.int .i64 aB.Nodes), u1] aB (rd_at hs h_aB) (by first | assumption | omega | (unfold szm at *; split at * <;> omega)))) fun cs16 => ?_)
      refine D_pre (fun w' hs => shape_Beliefs (rd_own (k := 0) hs rfl)) ?_
      rintro ⟨v17, rfl, ho18⟩
      refine tS (fun _ hs => hs.pk [1, 2, 3, 4, 5] rfl rfl) ?_
      refine ty 3 rfl (by kernel_rfl) rfl (cv b_23 rfl rfl rfl rfl (fun w' hs => (laws_eqBeliefs w' [(.int .i64 aB.Nodes), v11] aB [(.int .i64 aB.Nodes), v17] aB (rd_own (k := 3) hs rfl) (rd_own (k := 0) hs rfl))) ?_)
      refine tZ rfl ?_
      refine ty 4 rfl (by kernel_rfl) rfl (sv rfl rfl (rp rfl) ?_)
      refine tZ rfl ?_
      refine tE (by kernel_rfl) ?_
      refine x_then ?_
      refine D_H ([ov [(.int .i64 aB.Nodes), v17] (aB : Beliefs), ov [v14] (foundOf aB aX : (List Int)), bx g13 [(.int .i64 aB.Nodes), v11], ov [(.int .i64 aB.Nodes), v11] (aB : Beliefs), ov [v9] (foundOf aB aX : (List Int)), bx g4 [(.int .i64 aB.Nodes), u1]]) rfl ?_
      refine C_if _ rfl (fun h19 => ?_) (fun h19 => ?_)
      · have h19n : (decide (aB = aB)) = false := not_t h19
        refine C_seq ?_
        refine C_reg ?_
        refine p1 rfl ?_
        refine D_end ?_
        refine x_then ?_
        refine C_ret ?_
        refine x_then_ret ?_
        refine R_1 rfl rfl fun w' hs => ⟨congrArg (fun z => Ending.returned (Value.bool z)) ?_, hs.bel⟩
        show (false : Bool) = true
        first | rfl | (exfalso; omega) | (exfalso; simp only [mapS_len, sumB_mk, sumR_mk] at *; omega) | exact absurd h19 (by simp [mapS_len])
      · have h19n : (decide (aB = aB)) = true := not_f h19
        refine C_skip ?_
        refine x_then ?_
        refine C_seq ?_
        refine C_reg ?_
        refine p1 rfl ?_
        refine D_end ?_
        refine x_then ?_
        refine C_seq ?_
        refine C_reg ?_
        refine q1 rfl (lbw 2 a_32 rfl rfl rfl) ?_
        refine p1 rfl ?_
        refine D_pk (H' := [ov [(.int .i64 aB.Nodes), v11] (aB : Beliefs), ov [(.int .i64 aB.Nodes), v17] (aB : Beliefs), ov [v14] (foundOf aB aX : (List Int)), bx g13 [(.int .i64 aB.Nodes), v11], ov [v9] (foundOf aB aX : (List Int)), bx g4 [(.int .i64 aB.Nodes), u1]]) [3, 0, 1, 2, 4, 5] rfl rfl ?_
        refine li rfl (cm b_24 rfl rfl rfl rfl (fun w' hs => laws_markBeliefs _ _ w' [(.int .i64 aB.Nodes), v11] aB 1 (by first | assumption | omega | (simp only; omega)) (by first | assumption | omega | (simp only; omega)) hs) ?_)
        refine p1 rfl ?_
        refine D_end ?_
        refine x_then ?_
        refine D_H ([ov [(.int .i64 aB.Nodes), v11] (mkB 1 aB : Beliefs), ov [(.int .i64 aB.Nodes), v17] (aB : Beliefs), ov [v14] (foundOf aB aX : (List Int)), bx g13 [(.int .i64 aB.Nodes), v11], ov [v9] (foundOf aB aX : (List Int)), bx g4 [(.int .i64 aB.Nodes), u1]]) rfl ?_
        refine C_seq ?_
        refine C_seq ?_
        refine C_reg ?_
        refine p1 rfl <| p1 rfl <| p1 rfl ?_
        refine gs 41 rfl rfl (fun h20 => ?_) (fun h20 => ?_)
        · have pr20 : ((1 + sumC cR aB.Reasons) : Int) < 0 := of_decide_eq_true h20
          refine n1 rfl ?_
          refine n1 rfl ?_
          refine n1 rfl ?_
          refine n1 rfl ?_
          refine p1 rfl ?_
          refine D_end ?_
          refine x_then ?_
          refine D_weak [(1, (.int .i64 aX)), (2, (.pointer (some ⟨g4, 0, none⟩))), (6, v9), (8, v14), (46, (.bool true))] ⟨rfl, rfl, rfl, rfl, rfl, trivial⟩ ?_
          refine D_sel (H' := [ov [v14] (foundOf aB aX : (List Int)), ov [v9] (foundOf aB aX : (List Int)), bx g4 [(.int .i64 aB.Nodes), u1]]) [false, false, true, false, true, true] rfl ?_
          refine C_t rfl ?_
          refine C_seq ?_
          refine C_reg ?_
          refine p1 rfl ?_
          refine D_end ?_
          refine x_then ?_
          refine C_ret ?_
          refine x_then_ret ?_
          refine R_1 rfl rfl fun w' hs => ⟨congrArg (fun z => Ending.returned (Value.bool z)) ?_, hs.bel⟩
          show (false : Bool) = true
          first | rfl | (exfalso; omega) | (exfalso; simp only [mapS_len, sumB_mk, sumR_mk] at *; omega) | exact absurd h20 (by simp [mapS_len])
        · have pr20 : ¬ ((1 + sumC cR aB.Reasons) : Int) < 0 := of_decide_eq_false h20
          refine p1 rfl <| p1 rfl ?_
          refine li rfl (cv b_13 rfl rfl rfl rfl (fun w' hs => (laws_eqIntS w' v14 (foundOf aB aX) v9 (foundOf aB aX) (rd_own (k := 2) hs rfl) (rd_own (k := 4) hs rfl))) ?_)
          refine p1 rfl <| p1 rfl ?_
          refine D_end ?_
          refine x_then ?_
          refine D_weak [(1, (.int .i64 aX)), (2, (.pointer (some ⟨g4, 0, none⟩))), (6, v9), (8, v14), (46, (.bool (!(decide ((foundOf aB aX) = (foundOf aB aX))))))] ⟨rfl, rfl, rfl, rfl, rfl, trivial⟩ ?_
          refine D_sel (H' := [ov [v14] (foundOf aB aX : (List Int)), ov [v9] (foundOf aB aX : (List Int)), bx g4 [(.int .i64 aB.Nodes), u1]]) [false, false, true, false, true, true] rfl ?_
          refine C_if _ rfl (fun h21 => ?_) (fun h21 => ?_)
          · have h21n : (decide ((foundOf aB aX) = (foundOf aB aX))) = false := not_t h21
            refine C_seq ?_
            refine C_reg ?_
            refine p1 rfl ?_
            refine D_end ?_
            refine x_then ?_
            refine C_ret ?_
            refine x_then_ret ?_
            refine R_1 rfl rfl fun w' hs => ⟨congrArg (fun z => Ending.returned (Value.bool z)) ?_, hs.bel⟩
            show (false : Bool) = true
            first | rfl | (exfalso; omega) | (exfalso; simp only [mapS_len, sumB_mk, sumR_mk] at *; omega) | exact absurd h21 (by simp [mapS_len])
          · have h21n : (decide ((foundOf aB aX) = (foundOf aB aX))) = true := not_f h21
            refine C_skip ?_
            refine x_then ?_
            refine C_seq ?_
            refine C_reg ?_
            refine p1 rfl ?_
            refine D_end ?_
            refine x_then ?_
            refine C_seq ?_
            refine C_reg ?_
            refine p1 rfl <| p1 rfl ?_
            refine li rfl (cm b_16 rfl rfl rfl rfl (fun w' hs => laws_markIntS _ _ w' v14 (foundOf aB aX) 1 (by first | assumption | omega | (simp only; omega)) (by first | assumption | omega | (simp only; omega)) hs) ?_)
            refine p1 rfl ?_
            refine D_end ?_
            refine x_then ?_
            refine D_H ([ov [v14] (mkI 1 (foundOf aB aX) : (List Int)), ov [v9] (foundOf aB aX : (List Int)), bx g4 [(.int .i64 aB.Nodes), u1]]) rfl ?_
            refine C_seq ?_
            refine C_reg ?_
            refine p1 rfl ?_
            refine D_end ?_
            refine x_then ?_
            refine C_seq ?_
            refine C_reg ?_
            refine p1 rfl <| p1 rfl ?_
            refine li rfl (cv b_17 rfl rfl rfl rfl (fun w' hs => (laws_heldIntS w' v14 (mkI 1 (foundOf aB aX)) 1 (rd_own (k := 0) hs rfl) (by first | assumption | omega | (unfold szm at *; split at * <;> omega)) (by rw [mapS_len]; omega) (mkI_idem _ _))) ?_)
            refine p1 rfl ?_
            refine D_end ?_
            refine x_then ?_
            refine C_seq ?_
            refine C_seq ?_
            refine C_reg ?_
            refine p1 rfl <| p1 rfl ?_
            refine D_end ?_
            refine x_then ?_
            refine C_if _ rfl (fun h22 => ?_) (fun h22 => ?_)
            · have pr22 : ((1 + (mkI 1 (foundOf aB aX)).length) : Int) < 0 := of_decide_eq_true h22
              refine C_seq ?_
              refine C_reg ?_
              refine p1 rfl ?_
              refine D_end ?_
              refine x_then ?_
              refine D_weak [(4, (.bool false))] ⟨rfl, trivial⟩ ?_
              refine D_sel (H' := []) [false, false, false] rfl ?_
              refine C_ret ?_
              refine x_then_ret ?_
              refine R_1 rfl rfl fun w' hs => ⟨congrArg (fun z => Ending.returned (Value.bool z)) ?_, hs.bel⟩
              show (false : Bool) = true
              first | rfl | (exfalso; omega) | (exfalso; simp only [mapS_len, sumB_mk, sumR_mk] at *; omega) | exact absurd h22 (by simp [mapS_len])
            · have pr22 : ¬ ((1 + (mkI 1 (foundOf aB aX)).length) : Int) < 0 := of_decide_eq_false h22
              refine C_skip ?_
              refine x_then ?_
              refine C_seq ?_
              refine C_seq ?_
              refine C_reg ?_
              refine p1 rfl <| p1 rfl <| p1 rfl ?_
              refine D_end ?_
              refine x_then ?_
              refine C_if _ rfl (fun h23 => ?_) (fun h23 => ?_)
              · have pr23 : ((1 + (mkI 1 (foundOf aB aX)).length) : Int) ≠ (1 + (foundOf aB aX).length) := bne_iff_ne.1 h23
                refine C_seq ?_
                refine C_reg ?_
                refine p1 rfl ?_
                refine D_end ?_
                refine x_then ?_
                refine D_weak [(4, (.bool false))] ⟨rfl, trivial⟩ ?_
                refine D_sel (H' := []) [false, false, false] rfl ?_
                refine C_ret ?_
                refine x_then_ret ?_
                refine R_1 rfl rfl fun w' hs => ⟨congrArg (fun z => Ending.returned (Value.bool z)) ?_, hs.bel⟩
                show (false : Bool) = true
                first | rfl | (exfalso; omega) | (exfalso; simp only [mapS_len, sumB_mk, sumR_mk] at *; omega) | exact absurd h23 (by simp [mapS_len])
              · have pr23 : ((1 + (mkI 1 (foundOf aB aX)).length) : Int) = (1 + (foundOf aB aX).length) := eq_of_bne_f h23
                refine C_skip ?_
                refine x_then ?_
                refine C_seq ?_
                refine C_reg ?_
                refine q1 rfl (lbw 2 a_24 rfl rfl rfl) ?_
                refine li rfl (crs rfl b_20 rfl rfl rfl rfl (fun w' hs => (laws_toBeliefs w' [(.int .i64 aB.Nodes), u1] aB (rd_at hs h_aB) (by first | assumption | omega | (unfold szm at *; split at * <;> omega)))) fun cs24 => ?_)
                refine D_pre (fun w' hs => shape_Beliefs (rd_own (k := 0) hs rfl)) ?_
                rintro ⟨v25, rfl, ho26⟩
                refine p1 rfl ?_
                refine li rfl (crl b_31 rfl rfl rfl rfl (fun w' hs => (impl_FoundationOf w' [(.int .i64 aB.Nodes), v25] aB aX (rd_own (k := 0) hs rfl))) fun v27 => ?_)
                refine p1 rfl ?_
                refine D_end ?_
                refine x_then ?_
                refine D_weak [(6, v9), (8, v14), (10, (.int .i64 (1 + (foundOf aB aX).length))), (12, v27)] ⟨rfl, rfl, rfl, rfl, trivial⟩ ?_
                refine D_sel (H' := [ov [v27] (foundOf aB aX : (List Int)), ov [v14] (mkI 1 (foundOf aB aX) : (List Int)), ov [v9] (foundOf aB aX : (List Int))]) [true, false, true, true, false] rfl ?_
                refine C_seq ?_
                refine C_seq ?_
                refine C_reg ?_
                refine p1 rfl <| p1 rfl ?_
                refine li rfl (cv b_13 rfl rfl rfl rfl (fun w' hs => (laws_eqIntS w' v27 (foundOf aB aX) v9 (foundOf aB aX) (rd_own (k := 0) hs rfl) (rd_own (k := 2) hs rfl))) ?_)
                refine p1 rfl ?_
                refine D_end ?_
                refine x_then ?_
                refine C_if _ rfl (fun h28 => ?_) (fun h28 => ?_)
                · have h28n : (decide ((foundOf aB aX) = (foundOf aB aX))) = false := not_t h28
                  refine C_seq ?_
                  refine C_reg ?_
                  refine p1 rfl ?_
                  refine D_end ?_
                  refine x_then ?_
                  refine C_ret ?_
                  refine x_then_ret ?_
                  refine R_1 rfl rfl fun w' hs => ⟨congrArg (fun z => Ending.returned (Value.bool z)) ?_, hs.bel⟩
                  show (false : Bool) = true
                  first | rfl | (exfalso; omega) | (exfalso; simp only [mapS_len, sumB_mk, sumR_mk] at *; omega) | exact absurd h28 (by simp [mapS_len])
                · have h28n : (decide ((foundOf aB aX) = (foundOf aB aX))) = true := not_f h28
                  refine C_skip ?_
                  refine x_then ?_
                  refine C_seq ?_
                  refine C_reg ?_
                  refine p1 rfl ?_
                  refine D_end ?_
                  refine x_then ?_
                  refine C_seq ?_
                  refine C_reg ?_
                  refine p1 rfl <| p1 rfl ?_
                  refine li rfl (cv b_17 rfl rfl rfl rfl (fun w' hs => (laws_heldIntS w' v14 (mkI 1 (foundOf aB aX)) 1 (rd_own (k := 1) hs rfl) (by first | assumption | omega | (unfold szm at *; split at * <;> omega)) (by rw [mapS_len]; omega) (mkI_idem _ _))) ?_)
                  refine p1 rfl ?_
                  refine D_end ?_
                  refine x_then ?_
                  refine C_seq ?_
                  refine C_seq ?_
                  refine C_reg ?_
                  refine p1 rfl <| p1 rfl ?_
                  refine D_end ?_
                  refine x_then ?_
                  refine C_if _ rfl (fun h29 => ?_) (fun h29 => ?_)
                  · have pr29 : ((1 + (mkI 1 (foundOf aB aX)).length) : Int) < 0 := of_decide_eq_true h29
                    refine C_seq ?_
                    refine C_reg ?_
                    refine p1 rfl ?_
                    refine D_end ?_
                    refine x_then ?_
                    refine C_ret ?_
                    refine x_then_ret ?_
                    refine R_1 rfl rfl fun w' hs => ⟨congrArg (fun z => Ending.returned (Value.bool z)) ?_, hs.bel⟩
                    show (false : Bool) = true
                    first | rfl | (exfalso; omega) | (exfalso; simp only [mapS_len, sumB_mk, sumR_mk] at *; omega) | exact absurd h29 (by simp [mapS_len])
                  · have pr29 : ¬ ((1 + (mkI 1 (foundOf aB aX)).length) : Int) < 0 := of_decide_eq_false h29
                    refine C_skip ?_
                    refine x_then ?_
                    refine C_seq ?_
                    refine C_seq ?_
                    refine C_reg ?_
                    refine p1 rfl <| p1 rfl <| p1 rfl ?_
                    refine D_end ?_
                    refine x_then ?_
                    refine D_weak [(73, (.bool (((1 + (mkI 1 (foundOf aB aX)).length) : Int) != (1 + (foundOf aB aX).length))))] ⟨rfl, trivial⟩ ?_
                    refine D_sel (H' := []) [false, false, false] rfl ?_
                    refine C_if _ rfl (fun h30 => ?_) (fun h30 => ?_)
                    · have pr30 : ((1 + (mkI 1 (foundOf aB aX)).length) : Int) ≠ (1 + (foundOf aB aX).length) := bne_iff_ne.1 h30
                      refine C_seq ?_
                      refine C_reg ?_
                      refine p1 rfl ?_
                      refine D_end ?_
                      refine x_then ?_
                      refine C_ret ?_
                      refine x_then_ret ?_
                      refine R_1 rfl rfl fun w' hs => ⟨congrArg (fun z => Ending.returned (Value.bool z)) ?_, hs.bel⟩
                      show (false : Bool) = true
                      first | rfl | (exfalso; omega) | (exfalso; simp only [mapS_len, sumB_mk, sumR_mk] at *; omega) | exact absurd h30 (by simp [mapS_len])
                    · have pr30 : ((1 + (mkI 1 (foundOf aB aX)).length) : Int) = (1 + (foundOf aB aX).length) := eq_of_bne_f h30
                      refine C_skip ?_
                      refine x_then ?_
                      refine C_seq ?_
                      refine C_reg ?_
                      refine p1 rfl ?_
                      refine D_end ?_
                      refine x_then ?_
                      refine C_ret ?_
                      refine R_1 rfl rfl fun w' hs => ⟨congrArg (fun z => Ending.returned (Value.bool z)) ?_, hs.bel⟩
                      show (true : Bool) = true
                      first | rfl | (exfalso; omega) | (exfalso; simp only [mapS_len, sumB_mk, sumR_mk] at *; omega) | exact absurd h30 (by simp [mapS_len])

set_option maxHeartbeats 4000000 in
theorem impl_IsFoundation (w : World) (c_b : List Value) (b : Beliefs) (x : Int) (v_l : Value) (l : (List Int)) (h_b : Gd.rd w c_b b) (h_l : Gd.rd w [v_l] l) : Calls Try.prog 29 [(.agg c_b.toArray), (.int .i64 x), v_l].toArray w (Val w (.bool (isFnd b x l))) := by
  obtain ⟨u1, rfl, hu2⟩ := open_Beliefs h_b
  have hm3 := rd_max hu2
  have hm4 := rd_max h_l
  refine enter 91 Try.func29 rfl rfl rfl ?_
  refine C_seq ?_
  refine C_reg ?_
  refine li rfl (D_box rfl rfl rfl rfl rfl fun g5 => ?_)
  refine p1 rfl ?_
  refine D_end ?_
  refine x_then ?_
  refine D_H ([bx g5 [(.int .i64 b.Nodes), u1]]) rfl ?_
  refine C_seq ?_
  refine C_seq ?_
  refine C_reg ?_
  refine q1 rfl (lbw 0 a_32 rfl rfl rfl) ?_
  refine li rfl (cv b_49 rfl rfl rfl rfl (fun w' hs => (impl_IsStratified w' [(.int .i64 b.Nodes), u1] b (rd_at hs h_b))) ?_)
  refine p1 rfl <| p1 rfl ?_
  refine gs 19 rfl rfl (fun h6 => ?_) (fun h6 => ?_)
  · have h6n : (isStrat b) = false := not_t h6
    refine n1 rfl ?_
    refine n1 rfl ?_
    refine n1 rfl ?_
    refine p1 rfl ?_
    refine D_end ?_
    refine x_then ?_
    refine C_t rfl ?_
    refine C_seq ?_
    refine C_reg ?_
    refine p1 rfl ?_
    refine D_end ?_
    refine x_then ?_
    refine C_ret ?_
    refine x_then_ret ?_
    refine R_1 rfl rfl fun w' hs => ⟨congrArg (fun z => Ending.returned (Value.bool z)) ?_, hs.bel⟩
    show (false : Bool) = isFnd b x l
    exact fnd_n1 (by assumption)
  · have h6n : (isStrat b) = true := not_f h6
    refine p1 rfl ?_
    refine q1 rfl (D_len s_25 rfl rfl (rd_sl h_l)) ?_
    refine p1 rfl <| p1 rfl ?_
    refine D_end ?_
    refine x_then ?_
    refine C_if _ rfl (fun h7 => ?_) (fun h7 => ?_)
    · have pr7 : (((l.length : Nat) : Int) : Int) = 0 := eq_of_beq h7
      refine C_seq ?_
      refine C_reg ?_
      refine p1 rfl ?_
      refine D_end ?_
      refine x_then ?_
      refine C_ret ?_
      refine x_then_ret ?_
      refine R_1 rfl rfl fun w' hs => ⟨congrArg (fun z => Ending.returned (Value.bool z)) ?_, hs.bel⟩
      show (false : Bool) = isFnd b x l
      exact fnd_n2 (by omega)
    · have pr7 : (((l.length : Nat) : Int) : Int) ≠ 0 := ne_of_beq_false h7
      refine C_skip ?_
      refine x_then ?_
      refine C_seq ?_
      have hst : isStrat b = true := by assumption
      have hsol := strat_has hst
      have ho := isB_ok2 (strat_b hst)
      have hbn := okB_nodes ho
      have hrl : b.Reasons.length ≤ 1048576 := by have := isB_len (strat_b hst); omega
      obtain ⟨n, hn⟩ : ∃ n : Nat, b.Nodes = (n : Int) := ⟨b.Nodes.toNat, by omega⟩
      refine C_reg ?_
      refine q1 rfl (lbw 0 a_32 rfl rfl rfl) ?_
      refine li rfl (crl b_50 rfl rfl rfl rfl (fun w' hs => (impl_labels w' [(.int .i64 b.Nodes), u1] b (rd_at hs h_b) (by first | assumption | omega | (unfold szm at *; split at * <;> omega)) (by first | assumption | omega | (unfold szm at *; split at * <;> omega)) (by first | assumption | omega | (unfold szm at *; split at * <;> omega)))) fun v8 => ?_)
      refine p1 rfl ?_
      refine D_end ?_
      refine x_then ?_
      refine D_H ([ov [v8] (vec b.Nodes.toNat (lbs b) : (List Bool)), bx g5 [(.int .i64 b.Nodes), u1]]) rfl ?_
      refine C_seq ?_
      refine C_reg ?_
      refine q1 rfl (D_fb f_32_0 rfl rfl (q := 0) rfl) ?_
      refine q1 rfl (lb 1 o_3 rfl rfl rfl rfl) ?_
      refine li rfl (D_mk (α := Bool) (z := false) s_42 y_4 rfl (congrArg (fun z => some (Value.int .i64 z)) hn) rfl rfl (by omega) (by omega) fun v9 => ?_)
      refine D_eq 0 rfl (vec_rep _ _) ?_
      refine p1 rfl ?_
      refine D_end ?_
      refine x_then ?_
      refine D_weak [(1, (.int .i64 x)), (2, v_l), (3, (.pointer (some ⟨g5, 0, none⟩))), (7, v8), (8, v9)] ⟨rfl, rfl, rfl, rfl, rfl, trivial⟩ ?_
      refine D_H ([ov [v9] (vec n (fun _ => false) : (List Bool)), ov [v8] (vec b.Nodes.toNat (lbs b) : (List Bool)), bx g5 [(.int .i64 b.Nodes), u1]]) rfl ?_
      refine C_seq ?_
      refine C_seq ?_
      refine C_reg ?_
      refine p1 rfl ?_
      refine q1 rfl (D_len s_25 rfl rfl (rd_sl h_l)) ?_
      refine p1 rfl ?_
      refine D_end ?_
      refine x_then ?_
      refine C_block ?_
      refine C_loop (fun m_ ac w' => ∃ (k0 : Nat), (k0 ≤ l.length) ∧ (∀ i, i < k0 → ∀ s, l[i]? = some s → 0 ≤ s ∧ s < b.Reasons.length) ∧ m_ = l.length - k0 ∧ Fits ac 91 [(1, (.int .i64 x)), (2, v_l), (3, (.pointer (some ⟨g5, 0, none⟩))), (7, v8), (8, v9), (29, v_l), (30, (.int .i64 ((l.length : Nat) : Int))), (31, (.int .i64 ((k0 : Nat) : Int)))] ∧ St w ([ov [v9] (vec n (fun _ => false) : (List Bool)), ov [v8] (vec b.Nodes.toNat (lbs b) : (List Bool)), bx g5 [(.int .i64 b.Nodes), u1]]) w') ?_ ?_
      · refine fun ac w' hf hs => ⟨_, 0, ?_, ?_, rfl, hf.weak ⟨rfl, rfl, rfl, rfl, rfl, rfl, rfl, rfl, trivial⟩, hs⟩
        · first | assumption | omega | simp
        · intro i hi; omega
      · rintro m_ ac w' ⟨k0, hk0, hi0, rfl, hf, hs⟩
        refine D.use ?_ hf hs
        clear hf hs ac w'
        refine C_seq ?_
        refine C_reg ?_
        refine p1 rfl ?_
        refine D_end ?_
        refine x_then ?_
        refine C_seq ?_
        refine C_if _ rfl (fun h10 => ?_) (fun h10 => ?_)
        · have pr10 : (((k0 : Nat) : Int) : Int) < ((l.length : Nat) : Int) := of_decide_eq_true h10
          refine C_skip ?_
          refine x_then ?_
          refine C_seq ?_
          refine C_block ?_
          refine C_seq ?_
          refine C_reg ?_
          obtain ⟨s0, hs0⟩ := some_of_lt (l := l) (i := k0) (by omega)
          obtain ⟨es11, at12, hr13⟩ := rd_elem (n := 1) rfl h_l hs0
          obtain rfl : es11 = [.int .i64 s0] := hr13
          refine q1 rfl (D_ix (l := l) (j := k0) s_25 rfl rfl rfl (fun w' hs => (rd_at hs h_l)) rfl (lt_of_some hs0)) ?_
          refine q1 rfl (lr0 o_3 rfl rfl at12 rfl) ?_
          refine p1 rfl ?_
          refine D_end ?_
          refine x_then ?_
          refine C_seq ?_
          refine C_reg ?_
          refine p1 rfl <| p1 rfl <| p1 rfl ?_
          refine gs 37 rfl rfl (fun h14 => ?_) (fun h14 => ?_)
          · have pr14 : (s0 : Int) < 0 := of_decide_eq_true h14
            refine n1 rfl ?_
            refine n1 rfl ?_
            refine n1 rfl ?_
            refine n1 rfl ?_
            refine n1 rfl ?_
            refine p1 rfl ?_
            refine D_end ?_
            refine x_then ?_
            refine C_t rfl ?_
            refine C_seq ?_
            refine C_reg ?_
            refine p1 rfl ?_
            refine D_end ?_
            refine x_then ?_
            refine D_weak [(6, (.bool false))] ⟨rfl, trivial⟩ ?_
            refine C_ret ?_
            refine x_blk_ret ?_
            refine x_then_ret ?_
            refine x_then_ret ?_
            refine x_blk_ret ?_
            refine x_then_ret ?_
            refine R_1 rfl rfl fun w' hs => ⟨congrArg (fun z => Ending.returned (Value.bool z)) ?_, hs.bel⟩
            show (false : Bool) = isFnd b x l
            exact fnd_n3 hs0 (by omega)
          · have pr14 : ¬ (s0 : Int) < 0 := of_decide_eq_false h14
            refine p1 rfl ?_
            refine q1 rfl (D_fb f_32_1 rfl rfl (q := 1) rfl) ?_
            refine q1 rfl (lb 2 o_30 rfl rfl rfl rfl) ?_
            refine q1 rfl (D_len s_30 rfl rfl (rd_sl hu2)) ?_
            refine p1 rfl <| p1 rfl ?_
            refine D_end ?_
            refine x_then ?_
            refine C_if _ rfl (fun h15 => ?_) (fun h15 => ?_)
            · have pr15 : (((b.Reasons.length : Nat) : Int) : Int) ≤ s0 := of_decide_eq_true h15
              refine C_seq ?_
              refine C_reg ?_
              refine p1 rfl ?_
              refine D_end ?_
              refine x_then ?_
              refine D_weak [(6, (.bool false))] ⟨rfl, trivial⟩ ?_
              refine C_ret ?_
              refine x_blk_ret ?_
              refine x_then_ret ?_
              refine x_then_ret ?_
              refine x_blk_ret ?_
              refine x_then_ret ?_
              refine R_1 rfl rfl fun w' hs => ⟨congrArg (fun z => Ending.returned (Value.bool z)) ?_, hs.bel⟩
              show (false : Bool) = isFnd b x l
              exact fnd_n3 hs0 (by omega)
            · have pr15 : ¬ (((b.Reasons.length : Nat) : Int) : Int) ≤ s0 := of_decide_eq_false h15
              refine C_skip ?_
              refine x_blk ?_
              refine x_then ?_
              refine C_reg ?_
              refine q1 rfl (D_add rfl rfl rfl (r := ((k0 + 1 : Nat) : Int)) (by omega) (by omega)) ?_
              refine p1 rfl ?_
              refine D_end ?_
              refine x_then ?_
              refine fun ac w' hf hs => ⟨_, ?_, k0 + 1, ?_, ?_, rfl, hf.weak ⟨rfl, rfl, rfl, rfl, rfl, rfl, rfl, rfl, trivial⟩, hs⟩
              · omega
              · first | assumption | omega | simp
              · refine forall_step hi0 ?_; intro s hs; obtain rfl : s = s0 := Option.some.inj (hs.symm.trans hs0); omega
        · have pr10 : ¬ (((k0 : Nat) : Int) : Int) < ((l.length : Nat) : Int) := of_decide_eq_false h10
          refine C_exit ?_
          refine x_then_exit ?_
          refine x_then_exit ?_
          refine x_blk_eq ?_
          refine x_then ?_
          refine C_seq ?_
          refine C_seq ?_
          refine C_reg ?_
          refine p1 rfl ?_
          refine q1 rfl (D_len s_25 rfl rfl (rd_sl h_l)) ?_
          refine p1 rfl ?_
          refine D_end ?_
          refine x_then ?_
          refine C_block ?_
          refine C_loop (fun m_ ac w' => ∃ (k : Nat), ∃ (ga : Nat → Bool), (k ≤ l.length) ∧ (ga = hvT b l k) ∧ (∀ i, i < k → fOk b l i = true) ∧ m_ = l.length - k ∧ Fits ac 91 [(1, (.int .i64 x)), (2, v_l), (3, (.pointer (some ⟨g5, 0, none⟩))), (7, v8), (8, v9), (45, v_l), (46, (.int .i64 ((l.length : Nat) : Int))), (47, (.int .i64 ((k : Nat) : Int)))] ∧ St w ([ov [v9] (vec n ga : (List Bool)), ov [v8] (vec b.Nodes.toNat (lbs b) : (List Bool)), bx g5 [(.int .i64 b.Nodes), u1]]) w') ?_ ?_
          · refine fun ac w' hf hs => ⟨_, 0, (fun _ => false), ?_, ?_, ?_, rfl, hf.weak ⟨rfl, rfl, rfl, rfl, rfl, rfl, rfl, rfl, trivial⟩, hs⟩
            · first | assumption | omega | simp
            · rfl
            · intro i hi; omega
          · rintro m_ ac w' ⟨k, ga, hk, hga, hi, rfl, hf, hs⟩
            refine D.use ?_ hf hs
            clear hf hs ac w'
            refine C_seq ?_
            refine C_reg ?_
            refine p1 rfl ?_
            refine D_end ?_
            refine x_then ?_
            refine D_H ([ov [v9] (vec n ga : (List Bool)), ov [v8] (vec b.Nodes.toNat (lbs b) : (List Bool)), bx g5 [(.int .i64 b.Nodes), u1]]) rfl ?_
            refine C_seq ?_
            refine C_if _ rfl (fun h16 => ?_) (fun h16 => ?_)
            · have pr16 : (((k : Nat) : Int) : Int) < ((l.length : Nat) : Int) := of_decide_eq_true h16
              refine C_skip ?_
              refine x_then ?_
              refine C_seq ?_
              refine C_block ?_
              refine C_seq ?_
              refine C_reg ?_
              obtain ⟨s1, hs1⟩ := some_of_lt (l := l) (i := k) (by omega)
              have hsr := hi0 _ (by omega) _ hs1
              obtain ⟨es17, at18, hr19⟩ := rd_elem (n := 1) rfl h_l hs1
              obtain rfl : es17 = [.int .i64 s1] := hr19
              refine q1 rfl (D_ix (l := l) (j := k) s_25 rfl rfl rfl (fun w' hs => (rd_at hs h_l)) rfl (lt_of_some hs1)) ?_
              refine q1 rfl (lr0 o_3 rfl rfl at18 rfl) ?_
              refine p1 rfl ?_
              refine D_end ?_
              refine x_then ?_
              refine C_seq ?_
              refine C_reg ?_
              refine q1 rfl (D_fb f_32_1 rfl rfl (q := 1) rfl) ?_
              refine q1 rfl (lb 2 o_30 rfl rfl rfl rfl) ?_
              refine p1 rfl ?_
              obtain ⟨r0, hr0⟩ := some_of_lt (l := b.Reasons) (i := (s1.toNat)) (by omega)
              have hv0 := okB_r ho hr0
              have hF := isR_for hv0
              obtain ⟨es20, at21, hr22⟩ := rd_elem (n := 3) rfl hu2 hr0
              obtain ⟨u23, u25, rfl, hu24, hu26⟩ := open_Reason hr22
              have hm27 := rd_max hu24
              have hm28 := rd_max hu26
              refine q1 rfl (D_ix (l := b.Reasons) (j := (s1.toNat)) s_30 rfl rfl rfl (fun w' hs => (rd_at hs hu2)) (Int.toNat_of_nonneg (by omega)).symm (lt_of_some hr0)) ?_
              refine q1 rfl (lra a_72 rfl rfl at21) ?_
              refine li rfl (D_alloc y_72 rfl rfl rfl rfl fun g29 => ?_)
              refine li rfl (D_stb (vs := [(.int .i64 r0.For), u23, u25]) (cs' := [(.int .i64 r0.For), u23, u25]) 0 z_72 rfl rfl rfl rfl rfl rfl (ocons rfl (ocons (one_rd hu24) (ocons (one_rd hu26) onil))) (by simp) rfl ?_)
              refine D_end ?_
              refine x_then ?_
              refine D_H ([bx g29 [(.int .i64 r0.For), u23, u25], ov [v9] (vec n ga : (List Bool)), ov [v8] (vec b.Nodes.toNat (lbs b) : (List Bool)), bx g5 [(.int .i64 b.Nodes), u1]]) rfl ?_
              refine C_seq ?_
              refine C_seq ?_
              refine C_reg ?_
              refine q1 rfl (D_fb f_72_1 rfl rfl (q := 1) rfl) ?_
              refine q1 rfl (lb 0 o_25 rfl rfl rfl rfl) ?_
              refine p1 rfl ?_
              refine li rfl (cv b_55 rfl rfl rfl rfl (fun w' hs => (impl_allPlaced w' u23 r0.In v9 (vec n ga) (rd_at hs hu24) (rd_own (k := 1) hs rfl) (by rw [vec_len, ← hn]; exact isR_in hv0))) ?_)
              refine p1 rfl ?_
              refine D_end ?_
              refine x_then ?_
              refine C_if _ rfl (fun h30 => ?_) (fun h30 => ?_)
              · have h30n : (r0.In.all (lI (vec n ga))) = false := not_t h30
                refine C_seq ?_
                refine C_reg ?_
                refine p1 rfl ?_
                refine D_end ?_
                refine x_then ?_
                refine D_weak [(6, (.bool false))] ⟨rfl, trivial⟩ ?_
                refine D_sel (H' := [ov [v9] (vec n ga : (List Bool)), ov [v8] (vec b.Nodes.toNat (lbs b) : (List Bool)), bx g5 [(.int .i64 b.Nodes), u1]]) [false, true, true, true] rfl ?_
                refine C_ret ?_
                refine x_then_ret ?_
                refine x_blk_ret ?_
                refine x_then_ret ?_
                refine x_then_ret ?_
                refine x_blk_ret ?_
                refine x_then_ret ?_
                refine R_1 rfl rfl fun w' hs => ⟨congrArg (fun z => Ending.returned (Value.bool z)) ?_, hs.bel⟩
                show (false : Bool) = isFnd b x l
                exact fnd_n4 hs1 (not_hv (n := n) hs1 hr0 (by rw [← hn]; exact isR_in hv0) (by rw [← hga]; exact not_t (by assumption)))
              · have h30n : (r0.In.all (lI (vec n ga))) = true := not_f h30
                refine C_skip ?_
                refine x_then ?_
                refine C_seq ?_
                refine C_seq ?_
                refine C_reg ?_
                refine q1 rfl (D_fb f_72_2 rfl rfl (q := 2) rfl) ?_
                refine q1 rfl (lb 0 o_25 rfl rfl rfl rfl) ?_
                refine q1 rfl (D_len s_25 rfl rfl (rd_sl hu26)) ?_
                refine p1 rfl ?_
                refine D_end ?_
                refine x_then ?_
                refine D_weak [(1, (.int .i64 x)), (2, v_l), (3, (.pointer (some ⟨g5, 0, none⟩))), (7, v8), (8, v9), (13, (.pointer (some ⟨g29, 0, none⟩))), (45, v_l), (46, (.int .i64 ((l.length : Nat) : Int))), (47, (.int .i64 ((k : Nat) : Int))), (62, u25), (63, (.int .i64 ((r0.Out.length : Nat) : Int))), (64, (.int .i64 0))] ⟨rfl, rfl, rfl, rfl, rfl, rfl, rfl, rfl, rfl, rfl, rfl, rfl, trivial⟩ ?_
                refine C_block ?_
                refine C_loop (fun m_ ac w' => ∃ (m : Nat), (m ≤ r0.Out.length) ∧ (∀ i, i < m → ∀ y, r0.Out[i]? = some y → (!(lbs b y.toNat)) = true) ∧ m_ = r0.Out.length - m ∧ Fits ac 91 [(1, (.int .i64 x)), (2, v_l), (3, (.pointer (some ⟨g5, 0, none⟩))), (7, v8), (8, v9), (13, (.pointer (some ⟨g29, 0, none⟩))), (45, v_l), (46, (.int .i64 ((l.length : Nat) : Int))), (47, (.int .i64 ((k : Nat) : Int))), (62, u25), (63, (.int .i64 ((r0.Out.length : Nat) : Int))), (64, (.int .i64 ((m : Nat) : Int)))] ∧ St w ([bx g29 [(.int .i64 r0.For), u23, u25], ov [v9] (vec n ga : (List Bool)), ov [v8] (vec b.Nodes.toNat (lbs b) : (List Bool)), bx g5 [(.int .i64 b.Nodes), u1]]) w') ?_ ?_
                · refine fun ac w' hf hs => ⟨_, 0, ?_, ?_, rfl, hf.weak ⟨rfl, rfl, rfl, rfl, rfl, rfl, rfl, rfl, rfl, rfl, rfl, rfl, trivial⟩, hs⟩
                  · first | assumption | omega | simp
                  · intro i hi; omega
                · rintro m_ ac w' ⟨m, hm, ho2, rfl, hf, hs⟩
                  refine D.use ?_ hf hs
                  clear hf hs ac w'
                  refine C_seq ?_
                  refine C_reg ?_
                  refine p1 rfl ?_
                  refine D_end ?_
                  refine x_then ?_
                  refine C_seq ?_
                  refine C_if _ rfl (fun h31 => ?_) (fun h31 => ?_)
                  · have pr31 : (((m : Nat) : Int) : Int) < ((r0.Out.length : Nat) : Int) := of_decide_eq_true h31
                    refine C_skip ?_
                    refine x_then ?_
                    refine C_seq ?_
                    refine C_block ?_
                    refine C_seq ?_
                    refine C_reg ?_
                    obtain ⟨y3, hy3⟩ := some_of_lt (l := r0.Out) (i := m) (by omega)
                    have hyn := asc_at (isR_out hv0) hy3
                    obtain ⟨es32, at33, hr34⟩ := rd_elem (n := 1) rfl hu26 hy3
                    obtain rfl : es32 = [.int .i64 y3] := hr34
                    refine q1 rfl (D_ix (l := r0.Out) (j := m) s_25 rfl rfl rfl (fun w' hs => (rd_at hs hu26)) rfl (lt_of_some hy3)) ?_
                    refine q1 rfl (lr0 o_3 rfl rfl at33 rfl) ?_
                    refine p1 rfl ?_
                    refine D_end ?_
                    refine x_then ?_
                    refine C_seq ?_
                    refine C_reg ?_
                    refine p1 rfl <| p1 rfl ?_
                    have hx36 : (vec b.Nodes.toNat (lbs b))[(y3.toNat)]? = some ((lbs b) (y3.toNat)) := vec_get (by omega)
                    refine q1 rfl (D_ix (l := (vec b.Nodes.toNat (lbs b))) (j := (y3.toNat)) s_42 rfl rfl rfl (fun w' hs => (rd_own (k := 2) hs rfl)) (Int.toNat_of_nonneg (by omega)).symm (lt_of_some hx36)) ?_
                    refine q1 rfl (lo (α := Bool) 2 o_4 rfl rfl rfl hx36) ?_
                    refine D_end ?_
                    refine x_then ?_
                    refine C_if _ rfl (fun h37 => ?_) (fun h37 => ?_)
                    · refine C_seq ?_
                      refine C_reg ?_
                      refine p1 rfl ?_
                      refine D_end ?_
                      refine x_then ?_
                      refine D_weak [(6, (.bool false))] ⟨rfl, trivial⟩ ?_
                      refine C_ret ?_
                      refine x_blk_ret ?_
                      refine x_then_ret ?_
                      refine x_then_ret ?_
                      refine x_blk_ret ?_
                      refine x_then_ret ?_
                      refine x_blk_ret ?_
                      refine x_then_ret ?_
                      refine x_then_ret ?_
                      refine x_blk_ret ?_
                      refine x_then_ret ?_
                      refine R_1 rfl rfl fun w' hs => ⟨congrArg (fun z => Ending.returned (Value.bool z)) ?_, hs.bel⟩
                      show (false : Bool) = isFnd b x l
                      exact fnd_n4 hs1 (fOk_out hs1 hr0 hy3 (by assumption))
                    · refine C_skip ?_
                      refine x_blk ?_
                      refine x_then ?_
                      refine C_reg ?_
                      refine q1 rfl (D_add rfl rfl rfl (r := ((m + 1 : Nat) : Int)) (by omega) (by omega)) ?_
                      refine p1 rfl ?_
                      refine D_end ?_
                      refine x_then ?_
                      refine fun ac w' hf hs => ⟨_, ?_, m + 1, ?_, ?_, rfl, hf.weak ⟨rfl, rfl, rfl, rfl, rfl, rfl, rfl, rfl, rfl, rfl, rfl, rfl, trivial⟩, hs⟩
                      · omega
                      · first | assumption | omega | simp
                      · refine forall_step ho2 ?_; intro y hy; obtain rfl : y = y3 := Option.some.inj (hy.symm.trans hy3); rw [show lbs b y.toNat = false by assumption]; rfl
                  · have pr31 : ¬ (((m : Nat) : Int) : Int) < ((r0.Out.length : Nat) : Int) := of_decide_eq_false h31
                    refine C_exit ?_
                    refine x_then_exit ?_
                    refine x_then_exit ?_
                    refine x_blk_eq ?_
                    refine x_then ?_
                    refine C_reg ?_
                    refine p1 rfl ?_
                    refine q1 rfl (D_fb f_72_0 rfl rfl (q := 0) rfl) ?_
                    refine q1 rfl (lb 0 o_3 rfl rfl rfl rfl) ?_
                    have hx39 : (vec n ga)[(r0.For.toNat)]? = some (ga (r0.For.toNat)) := vec_get (by omega)
                    refine q1 rfl (D_ix (l := (vec n ga)) (j := (r0.For.toNat)) s_42 rfl rfl rfl (fun w' hs => (rd_own (k := 1) hs rfl)) (Int.toNat_of_nonneg (by omega)).symm (lt_of_some hx39)) ?_
                    refine li rfl (so (α := Bool) (z := true) 1 z_4 rfl rfl rfl rfl rfl (lt_of_some hx39) ?_)
                    refine D_eq 1 rfl (vec_set _ _ _ _) ?_
                    refine D_end ?_
                    refine x_blk ?_
                    refine x_then ?_
                    refine D_H ([bx g29 [(.int .i64 r0.For), u23, u25], ov [v9] (vec n (upd ga (r0.For.toNat) true) : (List Bool)), ov [v8] (vec b.Nodes.toNat (lbs b) : (List Bool)), bx g5 [(.int .i64 b.Nodes), u1]]) rfl ?_
                    refine C_reg ?_
                    refine q1 rfl (D_add rfl rfl rfl (r := ((k + 1 : Nat) : Int)) (by omega) (by omega)) ?_
                    refine p1 rfl ?_
                    refine D_end ?_
                    refine x_then ?_
                    refine fun ac w' hf hs => ⟨_, ?_, k + 1, (upd ga (r0.For.toNat) true), ?_, ?_, ?_, rfl, hf.weak ⟨rfl, rfl, rfl, rfl, rfl, rfl, rfl, rfl, trivial⟩, hs.pk [1, 2, 3] rfl rfl⟩
                    · omega
                    · first | assumption | omega | simp
                    · rw [hga]; exact hvT_step hs1 hr0
                    · refine forall_step hi (fOk_t hs1 hr0 (all_hv (n := n) (by rw [← hn]; exact isR_in hv0) (by rw [← hga]; exact not_f (by assumption))) (fun i h => ho2 i (by omega)))
            · have pr16 : ¬ (((k : Nat) : Int) : Int) < ((l.length : Nat) : Int) := of_decide_eq_false h16
              refine C_exit ?_
              refine x_then_exit ?_
              refine x_then_exit ?_
              refine x_blk_eq ?_
              refine x_then ?_
              refine C_seq ?_
              refine C_draw mixed [] (by kernel_rfl) ?_
              refine tk 0 rfl (by kernel_rfl) (by kernel_rfl) (by kernel_rfl) rfl (fun _ hs => hs) (D_fb f_32_1 rfl rfl (q := 1) rfl) ?_
              refine tk 1 rfl (by kernel_rfl) (by kernel_rfl) (by kernel_rfl) rfl (fun _ hs => hs) (lb 2 o_30 rfl rfl rfl rfl) ?_
              refine tk 2 rfl (by kernel_rfl) (by kernel_rfl) (by kernel_rfl) rfl (fun _ hs => hs) (rp rfl) ?_
              refine tk 3 rfl (by kernel_rfl) (by kernel_rfl) (by kernel_rfl) rfl (fun _ hs => hs) (rp rfl) ?_
              refine tk 4 rfl (by kernel_rfl) (by kernel_rfl) (by kernel_rfl) rfl (fun _ hs => hs) (D_len s_25 rfl rfl (rd_sl h_l)) ?_
              refine tk 5 rfl (by kernel_rfl) (by kernel_rfl) (by kernel_rfl) rfl (fun _ hs => hs) (D_sub rfl rfl rfl (r := ((l.length - 1 : Nat) : Int)) (by omega) (by omega)) ?_
              obtain ⟨s9, hs9⟩ := some_of_lt (l := l) (i := (l.length - 1)) (by omega)
              have hsr9 := hi0 _ (by omega) _ hs9
              obtain ⟨es40, at41, hr42⟩ := rd_elem (n := 1) rfl h_l hs9
              obtain rfl : es40 = [.int .i64 s9] := hr42
              refine tk 6 rfl (by kernel_rfl) (by kernel_rfl) (by kernel_rfl) rfl (fun _ hs => hs) (D_ix (l := l) (j := (l.length - 1)) s_25 rfl rfl rfl (fun w' hs => (rd_at hs h_l)) rfl (lt_of_some hs9)) ?_
              refine tk 7 rfl (by kernel_rfl) (by kernel_rfl) (by kernel_rfl) rfl (fun _ hs => hs) (lr0 o_3 rfl rfl at41 rfl) ?_
              obtain ⟨r9, hr9⟩ := some_of_lt (l := b.Reasons) (i := (s9.toNat)) (by omega)
              obtain ⟨es43, at44, hr45⟩ := rd_elem (n := 3) rfl hu2 hr9
              obtain ⟨u46, u48, rfl, hu47, hu49⟩ := open_Reason hr45
              have hm50 := rd_max hu47
              have hm51 := rd_max hu49
              refine tk 8 rfl (by kernel_rfl) (by kernel_rfl) (by kernel_rfl) rfl (fun _ hs => hs) (D_ix (l := b.Reasons) (j := (s9.toNat)) s_30 rfl rfl rfl (fun w' hs => (rd_at hs hu2)) (Int.toNat_of_nonneg (by omega)).symm (lt_of_some hr9)) ?_
              refine tk 9 rfl (by kernel_rfl) (by kernel_rfl) (by kernel_rfl) rfl (fun _ hs => hs) (D_fa f_72_0 rfl rfl) ?_
              refine tk 10 rfl (by kernel_rfl) (by kernel_rfl) (by kernel_rfl) rfl (fun _ hs => hs) (lr o_3 rfl rfl at44 rfl) ?_
              refine tk 11 rfl (by kernel_rfl) (by kernel_rfl) (by kernel_rfl) rfl (fun _ hs => hs) (rp rfl) ?_
              refine tk 12 rfl (by kernel_rfl) (by kernel_rfl) (by kernel_rfl) rfl (fun _ hs => hs) (rp rfl) ?_
              refine tk 13 rfl (by kernel_rfl) (by kernel_rfl) (by kernel_rfl) rfl (fun _ hs => hs) (rp rfl) ?_
              refine tE (by kernel_rfl) ?_
              refine x_then ?_
              refine D_weak [(6, (.bool ((r9.For : Int) == x)))] ⟨rfl, trivial⟩ ?_
              refine D_sel (H' := []) [false, false, false] rfl ?_
              refine C_ret ?_
              refine R_1 rfl rfl fun w' hs => ⟨congrArg (fun z => Ending.returned (Value.bool z)) ?_, hs.bel⟩
              show (((r9.For : Int) == x) : Bool) = isFnd b x l
              exact fnd_y hst (by omega) (fun i h => hi0 i (by omega)) (fun i h => hi i (by omega)) hs9 hr9

set_option maxHeartbeats 4000000 in
theorem spec_IsFoundation (w : World) (c_b : List Value) (b : Beliefs) (x : Int) (v_l : Value) (l : (List Int)) (h_b : Gd.rd w c_b b) (h_l : Gd.rd w [v_l] l) : Calls Try.prog 27 [(.agg c_b.toArray), (.int .i64 x), v_l].toArray w (Val w (.bool (isFnd b x l))) := by
  obtain ⟨u1, rfl, hu2⟩ := open_Beliefs h_b
  have hm3 := rd_max hu2
  have hm4 := rd_max h_l
  refine enter 98 Try.func27 rfl rfl rfl ?_
  refine C_seq ?_
  refine C_reg ?_
  refine li rfl (D_box rfl rfl rfl rfl rfl fun g5 => ?_)
  refine p1 rfl ?_
  refine D_end ?_
  refine x_then ?_
  refine D_H ([bx g5 [(.int .i64 b.Nodes), u1]]) rfl ?_
  refine C_seq ?_
  refine C_reg ?_
  refine q1 rfl (lbw 0 a_32 rfl rfl rfl) ?_
  refine li rfl (crl b_19 rfl rfl rfl rfl (fun w' hs => (spec_LabelsOf w' [(.int .i64 b.Nodes), u1] b (rd_at hs h_b))) fun v6 => ?_)
  refine p1 rfl ?_
  refine D_end ?_
  refine x_then ?_
  refine D_H ([ov [v6] (labelsOf b : (List Bool)), bx g5 [(.int .i64 b.Nodes), u1]]) rfl ?_
  refine C_seq ?_
  refine C_seq ?_
  refine C_reg ?_
  refine q1 rfl (lbw 1 a_32 rfl rfl rfl) ?_
  refine li rfl (cv b_53 rfl rfl rfl rfl (fun w' hs => (spec_IsStratified w' [(.int .i64 b.Nodes), u1] b (rd_at hs h_b))) ?_)
  refine p1 rfl <| p1 rfl ?_
  refine gs 18 rfl rfl (fun h7 => ?_) (fun h7 => ?_)
  · have h7n : (isStrat b) = false := not_t h7
    refine n1 rfl ?_
    refine n1 rfl ?_
    refine n1 rfl ?_
    refine p1 rfl ?_
    refine D_end ?_
    refine x_then ?_
    refine C_t rfl ?_
    refine C_seq ?_
    refine C_reg ?_
    refine p1 rfl ?_
    refine D_end ?_
    refine x_then ?_
    refine D_weak [(6, (.bool false))] ⟨rfl, trivial⟩ ?_
    refine D_sel (H' := []) [false, false] rfl ?_
    refine C_ret ?_
    refine x_then_ret ?_
    refine R_1 rfl rfl fun w' hs => ⟨congrArg (fun z => Ending.returned (Value.bool z)) ?_, hs.bel⟩
    show (false : Bool) = isFnd b x l
    exact fnd_n1 (by assumption)
  · have h7n : (isStrat b) = true := not_f h7
    refine p1 rfl ?_
    refine q1 rfl (D_len s_25 rfl rfl (rd_sl h_l)) ?_
    refine p1 rfl <| p1 rfl ?_
    refine D_end ?_
    refine x_then ?_
    refine C_if _ rfl (fun h8 => ?_) (fun h8 => ?_)
    · have pr8 : (((l.length : Nat) : Int) : Int) = 0 := eq_of_beq h8
      refine C_seq ?_
      refine C_reg ?_
      refine p1 rfl ?_
      refine D_end ?_
      refine x_then ?_
      refine D_weak [(6, (.bool false))] ⟨rfl, trivial⟩ ?_
      refine D_sel (H' := []) [false, false] rfl ?_
      refine C_ret ?_
      refine x_then_ret ?_
      refine R_1 rfl rfl fun w' hs => ⟨congrArg (fun z => Ending.returned (Value.bool z)) ?_, hs.bel⟩
      show (false : Bool) = isFnd b x l
      exact fnd_n2 (by omega)
    · have pr8 : (((l.length : Nat) : Int) : Int) ≠ 0 := ne_of_beq_false h8
      refine C_skip ?_
      refine x_then ?_
      refine C_seq ?_
      have hst : isStrat b = true := by assumption
      have hsol := strat_has hst
      have ho := isB_ok2 (strat_b hst)
      have hbn := okB_nodes ho
      have hrl : b.Reasons.length ≤ 1048576 := by have := isB_len (strat_b hst); omega
      obtain ⟨n, hn⟩ : ∃ n : Nat, b.Nodes = (n : Int) := ⟨b.Nodes.toNat, by omega⟩
      have hll := labelsOf_n hst
      refine C_reg ?_
      refine q1 rfl (D_fb f_32_0 rfl rfl (q := 0) rfl) ?_
      refine q1 rfl (lb 1 o_3 rfl rfl rfl rfl) ?_
      refine li rfl (D_mk (α := Bool) (z := false) s_42 y_4 rfl (congrArg (fun z => some (Value.int .i64 z)) hn) rfl rfl (by omega) (by omega) fun v9 => ?_)
      refine D_eq 0 rfl (vec_rep _ _) ?_
      refine p1 rfl ?_
      refine D_end ?_
      refine x_then ?_
      refine D_weak [(1, (.int .i64 x)), (2, v_l), (3, (.pointer (some ⟨g5, 0, none⟩))), (7, v6), (8, v9)] ⟨rfl, rfl, rfl, rfl, rfl, trivial⟩ ?_
      refine D_H ([ov [v9] (vec n (fun _ => false) : (List Bool)), ov [v6] (labelsOf b : (List Bool)), bx g5 [(.int .i64 b.Nodes), u1]]) rfl ?_
      refine C_seq ?_
      refine C_seq ?_
      refine C_reg ?_
      refine p1 rfl ?_
      refine D_end ?_
      refine x_then ?_
      refine C_block ?_
      refine C_loop (fun m_ ac w' => ∃ (k : Nat), ∃ (ga : Nat → Bool), (k ≤ l.length) ∧ (ga = hvT b l k) ∧ (∀ i, i < k → fOk b l i = true) ∧ (∀ i, i < k → ∀ s, l[i]? = some s → 0 ≤ s ∧ s < b.Reasons.length) ∧ m_ = l.length - k ∧ Fits ac 98 [(1, (.int .i64 x)), (2, v_l), (3, (.pointer (some ⟨g5, 0, none⟩))), (7, v6), (8, v9), (9, (.int .i64 ((k : Nat) : Int)))] ∧ St w ([ov [v9] (vec n ga : (List Bool)), ov [v6] (labelsOf b : (List Bool)), bx g5 [(.int .i64 b.Nodes), u1]]) w') ?_ ?_
      · refine fun ac w' hf hs => ⟨_, 0, (fun _ => false), ?_, ?_, ?_, ?_, rfl, hf.weak ⟨rfl, rfl, rfl, rfl, rfl, rfl, trivial⟩, hs⟩
        · first | assumption | omega | simp
        · rfl
        · intro i hi; omega
        · intro i hi; omega
      · rintro m_ ac w' ⟨k, ga, hk, hga, hi, hi0, rfl, hf, hs⟩
        refine D.use ?_ hf hs
        clear hf hs ac w'
        refine C_seq ?_
        refine C_seq ?_
        refine C_reg ?_
        refine p1 rfl <| p1 rfl ?_
        refine q1 rfl (D_len s_25 rfl rfl (rd_sl h_l)) ?_
        refine p1 rfl ?_
        refine D_end ?_
        refine x_then ?_
        refine D_H ([ov [v9] (vec n ga : (List Bool)), ov [v6] (labelsOf b : (List Bool)), bx g5 [(.int .i64 b.Nodes), u1]]) rfl ?_
        refine C_if _ rfl (fun h10 => ?_) (fun h10 => ?_)
        · have pr10 : (((k : Nat) : Int) : Int) < ((l.length : Nat) : Int) := of_decide_eq_true h10
          refine C_skip ?_
          refine x_then ?_
          refine C_seq ?_
          refine C_block ?_
          refine C_seq ?_
          refine C_seq ?_
          refine C_draw mixed [8, 9] (by kernel_rfl) ?_
          refine tk 0 rfl (by kernel_rfl) (by kernel_rfl) (by kernel_rfl) rfl (fun _ hs => hs) (rp rfl) ?_
          refine tk 1 rfl (by kernel_rfl) (by kernel_rfl) (by kernel_rfl) rfl (fun _ hs => hs) (rp rfl) ?_
          obtain ⟨s1, hs1⟩ := some_of_lt (l := l) (i := k) (by omega)
          obtain ⟨es11, at12, hr13⟩ := rd_elem (n := 1) rfl h_l hs1
          obtain rfl : es11 = [.int .i64 s1] := hr13
          refine tk 2 rfl (by kernel_rfl) (by kernel_rfl) (by kernel_rfl) rfl (fun _ hs => hs) (D_ix (l := l) (j := k) s_25 rfl rfl rfl (fun w' hs => (rd_at hs h_l)) rfl (lt_of_some hs1)) ?_
          refine tk 3 rfl (by kernel_rfl) (by kernel_rfl) (by kernel_rfl) rfl (fun _ hs => hs) (lr0 o_3 rfl rfl at12 rfl) ?_
          refine tk 4 rfl (by kernel_rfl) (by kernel_rfl) (by kernel_rfl) rfl (fun _ hs => hs) (D_fb f_32_1 rfl rfl (q := 1) rfl) ?_
          refine tk 5 rfl (by kernel_rfl) (by kernel_rfl) (by kernel_rfl) rfl (fun _ hs => hs) (lb 2 o_30 rfl rfl rfl rfl) ?_
          refine tk 6 rfl (by kernel_rfl) (by kernel_rfl) (by kernel_rfl) rfl (fun _ hs => hs) (D_len s_30 rfl rfl (rd_sl hu2)) ?_
          refine tk 7 rfl (by kernel_rfl) (by kernel_rfl) (by kernel_rfl) rfl (fun _ hs => hs) (D_sub rfl rfl rfl (r := (((b.Reasons.length : Nat) : Int) - 1)) (by omega) (by omega)) ?_
          refine ty 8 rfl (by kernel_rfl) rfl (cv b_54 rfl rfl rfl rfl (fun w' hs => (spec_l1In w' s1 0 (((b.Reasons.length : Nat) : Int) - 1))) ?_)
          refine tZ rfl ?_
          refine ty 9 rfl (by kernel_rfl) rfl (sv rfl rfl (rp rfl) ?_)
          refine tZ rfl ?_
          refine tE (by kernel_rfl) ?_
          refine x_then ?_
          refine C_if _ rfl (fun h14 => ?_) (fun h14 => ?_)
          · have h14n : (inR s1 0 (((b.Reasons.length : Nat) : Int) - 1)) = false := not_t h14
            refine C_seq ?_
            refine C_reg ?_
            refine p1 rfl ?_
            refine D_end ?_
            refine x_then ?_
            refine D_weak [(6, (.bool false))] ⟨rfl, trivial⟩ ?_
            refine C_ret ?_
            refine x_then_ret ?_
            refine x_blk_ret ?_
            refine x_then_ret ?_
            refine x_then_ret ?_
            refine x_blk_ret ?_
            refine x_then_ret ?_
            refine R_1 rfl rfl fun w' hs => ⟨congrArg (fun z => Ending.returned (Value.bool z)) ?_, hs.bel⟩
            show (false : Bool) = isFnd b x l
            exact fnd_n3 hs1 (by have := inR_f (x := s1) (by assumption); omega)
          · have h14n : (inR s1 0 (((b.Reasons.length : Nat) : Int) - 1)) = true := not_f h14
            refine C_skip ?_
            refine x_then ?_
            refine C_seq ?_
            have hsr := inR_t (x := s1) (by assumption)
            refine C_draw mixed [9] (by kernel_rfl) ?_
            refine tk 0 rfl (by kernel_rfl) (by kernel_rfl) (by kernel_rfl) rfl (fun _ hs => hs) (D_fb f_32_1 rfl rfl (q := 1) rfl) ?_
            refine tk 1 rfl (by kernel_rfl) (by kernel_rfl) (by kernel_rfl) rfl (fun _ hs => hs) (lb 2 o_30 rfl rfl rfl rfl) ?_
            refine tk 2 rfl (by kernel_rfl) (by kernel_rfl) (by kernel_rfl) rfl (fun _ hs => hs) (rp rfl) ?_
            refine tk 3 rfl (by kernel_rfl) (by kernel_rfl) (by kernel_rfl) rfl (fun _ hs => hs) (rp rfl) ?_
            refine tk 4 rfl (by kernel_rfl) (by kernel_rfl) (by kernel_rfl) rfl (fun _ hs => hs) (D_ix (l := l) (j := k) s_25 rfl rfl rfl (fun w' hs => (rd_at hs h_l)) rfl (lt_of_some hs1)) ?_
            refine tk 5 rfl (by kernel_rfl) (by kernel_rfl) (by kernel_rfl) rfl (fun _ hs => hs) (lr0 o_3 rfl rfl at12 rfl) ?_
            obtain ⟨r0, hr0⟩ := some_of_lt (l := b.Reasons) (i := (s1.toNat)) (by omega)
            have hv0 := okB_r ho hr0
            have hF := isR_for hv0
            obtain ⟨es15, at16, hr17⟩ := rd_elem (n := 3) rfl hu2 hr0
            obtain ⟨u18, u20, rfl, hu19, hu21⟩ := open_Reason hr17
            have hm22 := rd_max hu19
            have hm23 := rd_max hu21
            refine tk 6 rfl (by kernel_rfl) (by kernel_rfl) (by kernel_rfl) rfl (fun _ hs => hs) (D_ix (l := b.Reasons) (j := (s1.toNat)) s_30 rfl rfl rfl (fun w' hs => (rd_at hs hu2)) (Int.toNat_of_nonneg (by omega)).symm (lt_of_some hr0)) ?_
            refine tk 7 rfl (by kernel_rfl) (by kernel_rfl) (by kernel_rfl) rfl (fun _ hs => hs) (lra a_72 rfl rfl at16) ?_
            refine ty 8 rfl (by kernel_rfl) rfl (D_alloc y_72 rfl rfl rfl rfl fun g24 => ?_)
            refine tS (fun _ hs => hs.pk [1, 2, 3] rfl rfl) ?_
            refine ty 9 rfl (by kernel_rfl) rfl (D_stb (vs := [(.int .i64 r0.For), u18, u20]) (cs' := [(.int .i64 r0.For), u18, u20]) 0 z_72 rfl rfl rfl rfl rfl rfl (ocons rfl (ocons (one_rd hu19) (ocons (one_rd hu21) onil))) (by simp) rfl ?_)
            refine tZ rfl ?_
            refine tE (by kernel_rfl) ?_
            refine x_then ?_
            refine D_weak [(1, (.int .i64 x)), (2, v_l), (3, (.pointer (some ⟨g5, 0, none⟩))), (7, v6), (8, v9), (9, (.int .i64 ((k : Nat) : Int))), (10, (.pointer (some ⟨g24, 0, none⟩)))] ⟨rfl, rfl, rfl, rfl, rfl, rfl, rfl, trivial⟩ ?_
            refine D_H ([bx g24 [(.int .i64 r0.For), u18, u20], ov [v9] (vec n ga : (List Bool)), ov [v6] (labelsOf b : (List Bool)), bx g5 [(.int .i64 b.Nodes), u1]]) rfl ?_
            refine C_seq ?_
            refine C_seq ?_
            refine C_reg ?_
            refine p1 rfl ?_
            refine D_end ?_
            refine x_then ?_
            refine C_block ?_
            refine C_loop (fun m_ ac w' => ∃ (q : Nat), (q ≤ r0.In.length) ∧ (∀ i, i < q → ∀ y, r0.In[i]? = some y → hvT b l k y.toNat = true) ∧ m_ = r0.In.length - q ∧ Fits ac 98 [(1, (.int .i64 x)), (2, v_l), (3, (.pointer (some ⟨g5, 0, none⟩))), (7, v6), (8, v9), (9, (.int .i64 ((k : Nat) : Int))), (10, (.pointer (some ⟨g24, 0, none⟩))), (11, (.int .i64 ((q : Nat) : Int)))] ∧ St w ([bx g24 [(.int .i64 r0.For), u18, u20], ov [v9] (vec n ga : (List Bool)), ov [v6] (labelsOf b : (List Bool)), bx g5 [(.int .i64 b.Nodes), u1]]) w') ?_ ?_
            · refine fun ac w' hf hs => ⟨_, 0, ?_, ?_, rfl, hf.weak ⟨rfl, rfl, rfl, rfl, rfl, rfl, rfl, rfl, trivial⟩, hs⟩
              · first | assumption | omega | simp
              · intro i hi; omega
            · rintro m_ ac w' ⟨q, hq, hin, rfl, hf, hs⟩
              refine D.use ?_ hf hs
              clear hf hs ac w'
              refine C_seq ?_
              refine C_seq ?_
              refine C_reg ?_
              refine p1 rfl ?_
              refine q1 rfl (D_fb f_72_1 rfl rfl (q := 1) rfl) ?_
              refine q1 rfl (lb 0 o_25 rfl rfl rfl rfl) ?_
              refine q1 rfl (D_len s_25 rfl rfl (rd_sl hu19)) ?_
              refine p1 rfl ?_
              refine D_end ?_
              refine x_then ?_
              refine C_if _ rfl (fun h25 => ?_) (fun h25 => ?_)
              · have pr25 : (((q : Nat) : Int) : Int) < ((r0.In.length : Nat) : Int) := of_decide_eq_true h25
                refine C_skip ?_
                refine x_then ?_
                refine C_seq ?_
                refine C_block ?_
                refine C_seq ?_
                refine C_reg ?_
                refine p1 rfl ?_
                refine q1 rfl (D_fb f_72_1 rfl rfl (q := 1) rfl) ?_
                refine q1 rfl (lb 0 o_25 rfl rfl rfl rfl) ?_
                refine p1 rfl ?_
                obtain ⟨y2, hy2⟩ := some_of_lt (l := r0.In) (i := q) (by omega)
                have hyn := asc_at (isR_in hv0) hy2
                obtain ⟨es26, at27, hr28⟩ := rd_elem (n := 1) rfl hu19 hy2
                obtain rfl : es26 = [.int .i64 y2] := hr28
                refine q1 rfl (D_ix (l := r0.In) (j := q) s_25 rfl rfl rfl (fun w' hs => (rd_at hs hu19)) rfl (lt_of_some hy2)) ?_
                refine q1 rfl (lr0 o_3 rfl rfl at27 rfl) ?_
                have hx30 : (vec n ga)[(y2.toNat)]? = some (ga (y2.toNat)) := vec_get (by omega)
                refine q1 rfl (D_ix (l := (vec n ga)) (j := (y2.toNat)) s_42 rfl rfl rfl (fun w' hs => (rd_own (k := 1) hs rfl)) (Int.toNat_of_nonneg (by omega)).symm (lt_of_some hx30)) ?_
                refine q1 rfl (lo (α := Bool) 1 o_4 rfl rfl rfl hx30) ?_
                refine p1 rfl ?_
                refine D_end ?_
                refine x_then ?_
                refine C_if _ rfl (fun h31 => ?_) (fun h31 => ?_)
                · have h31n : (ga (y2.toNat)) = false := not_t h31
                  refine C_seq ?_
                  refine C_reg ?_
                  refine p1 rfl ?_
                  refine D_end ?_
                  refine x_then ?_
                  refine D_weak [(6, (.bool false))] ⟨rfl, trivial⟩ ?_
                  refine C_ret ?_
                  refine x_blk_ret ?_
                  refine x_then_ret ?_
                  refine x_then_ret ?_
                  refine x_blk_ret ?_
                  refine x_then_ret ?_
                  refine x_blk_ret ?_
                  refine x_then_ret ?_
                  refine x_then_ret ?_
                  refine x_blk_ret ?_
                  refine x_then_ret ?_
                  refine R_1 rfl rfl fun w' hs => ⟨congrArg (fun z => Ending.returned (Value.bool z)) ?_, hs.bel⟩
                  show (false : Bool) = isFnd b x l
                  exact fnd_n4 hs1 (fOk_in hs1 hr0 hy2 (by rw [← hga]; exact not_t (by assumption)))
                · have h31n : (ga (y2.toNat)) = true := not_f h31
                  refine C_skip ?_
                  refine x_blk ?_
                  refine x_then ?_
                  refine C_reg ?_
                  refine p1 rfl ?_
                  refine q1 rfl (D_add rfl rfl rfl (r := ((q + 1 : Nat) : Int)) (by omega) (by omega)) ?_
                  refine p1 rfl ?_
                  refine D_end ?_
                  refine x_then ?_
                  refine fun ac w' hf hs => ⟨_, ?_, q + 1, ?_, ?_, rfl, hf.weak ⟨rfl, rfl, rfl, rfl, rfl, rfl, rfl, rfl, trivial⟩, hs⟩
                  · omega
                  · first | assumption | omega | simp
                  · refine forall_step hin ?_; intro y hy; obtain rfl : y = y2 := Option.some.inj (hy.symm.trans hy2); rw [← hga]; exact not_f (by assumption)
              · have pr25 : ¬ (((q : Nat) : Int) : Int) < ((r0.In.length : Nat) : Int) := of_decide_eq_false h25
                refine C_exit ?_
                refine x_then_exit ?_
                refine x_then_exit ?_
                refine x_blk_eq ?_
                refine x_then ?_
                refine C_seq ?_
                refine C_seq ?_
                refine C_reg ?_
                refine p1 rfl ?_
                refine D_end ?_
                refine x_then ?_
                refine C_block ?_
                refine C_loop (fun m_ ac w' => ∃ (m : Nat), (m ≤ r0.Out.length) ∧ (∀ i, i < m → ∀ y, r0.Out[i]? = some y → (!(lbs b y.toNat)) = true) ∧ m_ = r0.Out.length - m ∧ Fits ac 98 [(1, (.int .i64 x)), (2, v_l), (3, (.pointer (some ⟨g5, 0, none⟩))), (7, v6), (8, v9), (9, (.int .i64 ((k : Nat) : Int))), (10, (.pointer (some ⟨g24, 0, none⟩))), (12, (.int .i64 ((m : Nat) : Int)))] ∧ St w ([bx g24 [(.int .i64 r0.For), u18, u20], ov [v9] (vec n ga : (List Bool)), ov [v6] (labelsOf b : (List Bool)), bx g5 [(.int .i64 b.Nodes), u1]]) w') ?_ ?_
                · refine fun ac w' hf hs => ⟨_, 0, ?_, ?_, rfl, hf.weak ⟨rfl, rfl, rfl, rfl, rfl, rfl, rfl, rfl, trivial⟩, hs⟩
                  · first | assumption | omega | simp
                  · intro i hi; omega
                · rintro m_ ac w' ⟨m, hm, ho2, rfl, hf, hs⟩
                  refine D.use ?_ hf hs
                  clear hf hs ac w'
                  refine C_seq ?_
                  refine C_seq ?_
                  refine C_reg ?_
                  refine p1 rfl ?_
                  refine q1 rfl (D_fb f_72_2 rfl rfl (q := 2) rfl) ?_
                  refine q1 rfl (lb 0 o_25 rfl rfl rfl rfl) ?_
                  refine q1 rfl (D_len s_25 rfl rfl (rd_sl hu21)) ?_
                  refine p1 rfl ?_
                  refine D_end ?_
                  refine x_then ?_
                  refine C_if _ rfl (fun h32 => ?_) (fun h32 => ?_)
                  · have pr32 : (((m : Nat) : Int) : Int) < ((r0.Out.length : Nat) : Int) := of_decide_eq_true h32
                    refine C_skip ?_
                    refine x_then ?_
                    refine C_seq ?_
                    refine C_block ?_
                    refine C_seq ?_
                    refine C_reg ?_
                    refine p1 rfl ?_
                    refine q1 rfl (D_fb f_72_2 rfl rfl (q := 2) rfl) ?_
                    refine q1 rfl (lb 0 o_25 rfl rfl rfl rfl) ?_
                    refine p1 rfl ?_
                    obtain ⟨y3, hy3⟩ := some_of_lt (l := r0.Out) (i := m) (by omega)
                    have hyn := asc_at (isR_out hv0) hy3
                    obtain ⟨es33, at34, hr35⟩ := rd_elem (n := 1) rfl hu21 hy3
                    obtain rfl : es33 = [.int .i64 y3] := hr35
                    refine q1 rfl (D_ix (l := r0.Out) (j := m) s_25 rfl rfl rfl (fun w' hs => (rd_at hs hu21)) rfl (lt_of_some hy3)) ?_
                    refine q1 rfl (lr0 o_3 rfl rfl at34 rfl) ?_
                    obtain ⟨z3, hz3⟩ := some_of_lt (l := (labelsOf b)) (i := (y3.toNat)) (by omega)
                    refine q1 rfl (D_ix (l := (labelsOf b)) (j := (y3.toNat)) s_42 rfl rfl rfl (fun w' hs => (rd_own (k := 2) hs rfl)) (Int.toNat_of_nonneg (by omega)).symm (lt_of_some hz3)) ?_
                    refine q1 rfl (lo (α := Bool) 2 o_4 rfl rfl rfl hz3) ?_
                    refine D_end ?_
                    refine x_then ?_
                    refine C_if _ rfl (fun h36 => ?_) (fun h36 => ?_)
                    · refine C_seq ?_
                      refine C_reg ?_
                      refine p1 rfl ?_
                      refine D_end ?_
                      refine x_then ?_
                      refine D_weak [(6, (.bool false))] ⟨rfl, trivial⟩ ?_
                      refine C_ret ?_
                      refine x_blk_ret ?_
                      refine x_then_ret ?_
                      refine x_then_ret ?_
                      refine x_blk_ret ?_
                      refine x_then_ret ?_
                      refine x_blk_ret ?_
                      refine x_then_ret ?_
                      refine x_then_ret ?_
                      refine x_blk_ret ?_
                      refine x_then_ret ?_
                      refine R_1 rfl rfl fun w' hs => ⟨congrArg (fun z => Ending.returned (Value.bool z)) ?_, hs.bel⟩
                      show (false : Bool) = isFnd b x l
                      exact fnd_n4 hs1 (fOk_out hs1 hr0 hy3 ((labelsOf_at hst hz3).trans h36))
                    · refine C_skip ?_
                      refine x_blk ?_
                      refine x_then ?_
                      refine C_reg ?_
                      refine p1 rfl ?_
                      refine q1 rfl (D_add rfl rfl rfl (r := ((m + 1 : Nat) : Int)) (by omega) (by omega)) ?_
                      refine p1 rfl ?_
                      refine D_end ?_
                      refine x_then ?_
                      refine fun ac w' hf hs => ⟨_, ?_, m + 1, ?_, ?_, rfl, hf.weak ⟨rfl, rfl, rfl, rfl, rfl, rfl, rfl, rfl, trivial⟩, hs⟩
                      · omega
                      · first | assumption | omega | simp
                      · refine forall_step ho2 ?_; intro y hy; obtain rfl : y = y3 := Option.some.inj (hy.symm.trans hy3); rw [labelsOf_at hst hz3, h36]; rfl
                  · have pr32 : ¬ (((m : Nat) : Int) : Int) < ((r0.Out.length : Nat) : Int) := of_decide_eq_false h32
                    refine C_exit ?_
                    refine x_then_exit ?_
                    refine x_then_exit ?_
                    refine x_blk_eq ?_
                    refine x_then ?_
                    refine C_reg ?_
                    refine p1 rfl ?_
                    refine q1 rfl (D_fb f_72_0 rfl rfl (q := 0) rfl) ?_
                    refine q1 rfl (lb 0 o_3 rfl rfl rfl rfl) ?_
                    have hx38 : (vec n ga)[(r0.For.toNat)]? = some (ga (r0.For.toNat)) := vec_get (by omega)
                    refine q1 rfl (D_ix (l := (vec n ga)) (j := (r0.For.toNat)) s_42 rfl rfl rfl (fun w' hs => (rd_own (k := 1) hs rfl)) (Int.toNat_of_nonneg (by omega)).symm (lt_of_some hx38)) ?_
                    refine li rfl (so (α := Bool) (z := true) 1 z_4 rfl rfl rfl rfl rfl (lt_of_some hx38) ?_)
                    refine D_eq 1 rfl (vec_set _ _ _ _) ?_
                    refine D_end ?_
                    refine x_blk ?_
                    refine x_then ?_
                    refine D_H ([bx g24 [(.int .i64 r0.For), u18, u20], ov [v9] (vec n (upd ga (r0.For.toNat) true) : (List Bool)), ov [v6] (labelsOf b : (List Bool)), bx g5 [(.int .i64 b.Nodes), u1]]) rfl ?_
                    refine C_reg ?_
                    refine p1 rfl ?_
                    refine q1 rfl (D_add rfl rfl rfl (r := ((k + 1 : Nat) : Int)) (by omega) (by omega)) ?_
                    refine p1 rfl ?_
                    refine D_end ?_
                    refine x_then ?_
                    refine fun ac w' hf hs => ⟨_, ?_, k + 1, (upd ga (r0.For.toNat) true), ?_, ?_, ?_, ?_, rfl, hf.weak ⟨rfl, rfl, rfl, rfl, rfl, rfl, trivial⟩, hs.pk [1, 2, 3] rfl rfl⟩
                    · omega
                    · first | assumption | omega | simp
                    · rw [hga]; exact hvT_step hs1 hr0
                    · exact forall_step hi (fOk_t hs1 hr0 (fun i h => hin i (by omega)) (fun i h => ho2 i (by omega)))
                    · refine forall_step hi0 ?_; intro s hs; obtain rfl : s = s1 := Option.some.inj (hs.symm.trans hs1); omega
        · have pr10 : ¬ (((k : Nat) : Int) : Int) < ((l.length : Nat) : Int) := of_decide_eq_false h10
          refine C_exit ?_
          refine x_then_exit ?_
          refine x_then_exit ?_
          refine x_blk_eq ?_
          refine x_then ?_
          refine C_seq ?_
          refine C_draw mixed [] (by kernel_rfl) ?_
          refine tk 0 rfl (by kernel_rfl) (by kernel_rfl) (by kernel_rfl) rfl (fun _ hs => hs) (D_fb f_32_1 rfl rfl (q := 1) rfl) ?_
          refine tk 1 rfl (by kernel_rfl) (by kernel_rfl) (by kernel_rfl) rfl (fun _ hs => hs) (lb 2 o_30 rfl rfl rfl rfl) ?_
          refine tk 2 rfl (by kernel_rfl) (by kernel_rfl) (by kernel_rfl) rfl (fun _ hs => hs) (rp rfl) ?_
          refine tk 3 rfl (by kernel_rfl) (by kernel_rfl) (by kernel_rfl) rfl (fun _ hs => hs) (rp rfl) ?_
          refine tk 4 rfl (by kernel_rfl) (by kernel_rfl) (by kernel_rfl) rfl (fun _ hs => hs) (D_len s_25 rfl rfl (rd_sl h_l)) ?_
          refine tk 5 rfl (by kernel_rfl) (by kernel_rfl) (by kernel_rfl) rfl (fun _ hs => hs) (D_sub rfl rfl rfl (r := ((l.length - 1 : Nat) : Int)) (by omega) (by omega)) ?_
          obtain ⟨s9, hs9⟩ := some_of_lt (l := l) (i := (l.length - 1)) (by omega)
          have hsr9 := hi0 _ (by omega) _ hs9
          obtain ⟨es39, at40, hr41⟩ := rd_elem (n := 1) rfl h_l hs9
          obtain rfl : es39 = [.int .i64 s9] := hr41
          refine tk 6 rfl (by kernel_rfl) (by kernel_rfl) (by kernel_rfl) rfl (fun _ hs => hs) (D_ix (l := l) (j := (l.length - 1)) s_25 rfl rfl rfl (fun w' hs => (rd_at hs h_l)) rfl (lt_of_some hs9)) ?_
          refine tk 7 rfl (by kernel_rfl) (by kernel_rfl) (by kernel_rfl) rfl (fun _ hs => hs) (lr0 o_3 rfl rfl at40 rfl) ?_
          obtain ⟨r9, hr9⟩ := some_of_lt (l := b.Reasons) (i := (s9.toNat)) (by omega)
          obtain ⟨es42, at43, hr44⟩ := rd_elem (n := 3) rfl hu2 hr9
          obtain ⟨u45, u47, rfl, hu46, hu48⟩ := open_Reason hr44
          have hm49 := rd_max hu46
          have hm50 := rd_max hu48
          refine tk 8 rfl (by kernel_rfl) (by kernel_rfl) (by kernel_rfl) rfl (fun _ hs => hs) (D_ix (l := b.Reasons) (j := (s9.toNat)) s_30 rfl rfl rfl (fun w' hs => (rd_at hs hu2)) (Int.toNat_of_nonneg (by omega)).symm (lt_of_some hr9)) ?_
          refine tk 9 rfl (by kernel_rfl) (by kernel_rfl) (by kernel_rfl) rfl (fun _ hs => hs) (D_fa f_72_0 rfl rfl) ?_
          refine tk 10 rfl (by kernel_rfl) (by kernel_rfl) (by kernel_rfl) rfl (fun _ hs => hs) (lr o_3 rfl rfl at43 rfl) ?_
          refine tk 11 rfl (by kernel_rfl) (by kernel_rfl) (by kernel_rfl) rfl (fun _ hs => hs) (rp rfl) ?_
          refine tk 12 rfl (by kernel_rfl) (by kernel_rfl) (by kernel_rfl) rfl (fun _ hs => hs) (rp rfl) ?_
          refine tk 13 rfl (by kernel_rfl) (by kernel_rfl) (by kernel_rfl) rfl (fun _ hs => hs) (rp rfl) ?_
          refine tE (by kernel_rfl) ?_
          refine x_then ?_
          refine D_weak [(6, (.bool ((r9.For : Int) == x)))] ⟨rfl, trivial⟩ ?_
          refine D_sel (H' := []) [false, false, false] rfl ?_
          refine C_ret ?_
          refine R_1 rfl rfl fun w' hs => ⟨congrArg (fun z => Ending.returned (Value.bool z)) ?_, hs.bel⟩
          show (((r9.For : Int) == x) : Bool) = isFnd b x l
          exact fnd_y hst (by omega) (fun i h => hi0 i (by omega)) (fun i h => hi i (by omega)) hs9 hr9

theorem laws_FnExactIsFoundation (w : World) (c_aB : List Value) (aB : Beliefs) (aX : Int) (v_aL : Value) (aL : (List Int)) (h_aB : Gd.rd w c_aB aB) (h_aL : Gd.rd w [v_aL] aL) : Calls Try.prog 5 [(.agg c_aB.toArray), (.int .i64 aX), v_aL].toArray w (Val w (.bool (true))) := by
  obtain ⟨u1, rfl, hu2⟩ := open_Beliefs h_aB
  have hm3 := rd_max hu2
  have hm4 := rd_max h_aL
  have hz1 := szB_len aB
  have hz2 := szB_sum aB
  refine enter 47 Try.func5 rfl rfl rfl ?_
  refine C_seq ?_
  refine C_reg ?_
  refine li rfl (D_box rfl rfl rfl rfl rfl fun g5 => ?_)
  refine p1 rfl ?_
  refine D_end ?_
  refine x_then ?_
  refine D_H ([bx g5 [(.int .i64 aB.Nodes), u1]]) rfl ?_
  refine C_seq ?_
  refine C_seq ?_
  refine C_reg ?_
  refine p1 rfl ?_
  refine q1 rfl (D_len s_25 rfl rfl (rd_sl h_aL)) ?_
  refine p1 rfl ?_
  refine D_end ?_
  refine x_then ?_
  refine C_if _ rfl (fun h6 => ?_) (fun h6 => ?_)
  · have pr6 : (1048576 : Int) < ((aL.length : Nat) : Int) := of_decide_eq_true h6
    refine C_seq ?_
    refine C_reg ?_
    refine p1 rfl ?_
    refine D_end ?_
    refine x_then ?_
    refine C_ret ?_
    refine x_then_ret ?_
    refine R_1 rfl rfl fun w' hs => ⟨congrArg (fun z => Ending.returned (Value.bool z)) ?_, hs.bel⟩
    show (true : Bool) = true
    first | rfl | (exfalso; omega) | (exfalso; simp only [mapS_len, sumB_mk, sumR_mk] at *; omega) | exact absurd h6 (by simp [mapS_len])
  · have pr6 : ¬ (1048576 : Int) < ((aL.length : Nat) : Int) := of_decide_eq_false h6
    refine C_skip ?_
    refine x_then ?_
    refine C_seq ?_
    refine C_reg ?_
    refine p1 rfl ?_
    refine D_end ?_
    refine x_then ?_
    refine C_seq ?_
    refine C_reg ?_
    refine q1 rfl (lbw 0 a_24 rfl rfl rfl) ?_
    refine p1 rfl ?_
    refine li rfl (cv b_18 rfl rfl rfl rfl (fun w' hs => (laws_szBeliefs w' [(.int .i64 aB.Nodes), u1] aB 1048576 (rd_at hs h_aB) (by first | assumption | omega | (unfold szm at *; split at * <;> omega)) (by first | assumption | omega | (unfold szm at *; split at * <;> omega)))) ?_)
    refine p1 rfl ?_
    refine D_end ?_
    refine x_then ?_
    refine C_seq ?_
    refine C_seq ?_
    refine C_reg ?_
    refine p1 rfl <| p1 rfl ?_
    refine D_end ?_
    refine x_then ?_
    refine C_if _ rfl (fun h7 => ?_) (fun h7 => ?_)
    · have pr7 : ((szm (szB aB) 1048576) : Int) < 0 := of_decide_eq_true h7
      refine C_seq ?_
      refine C_reg ?_
      refine p1 rfl ?_
      refine D_end ?_
      refine x_then ?_
      refine C_ret ?_
      refine x_then_ret ?_
      refine R_1 rfl rfl fun w' hs => ⟨congrArg (fun z => Ending.returned (Value.bool z)) ?_, hs.bel⟩
      show (true : Bool) = true
      first | rfl | (exfalso; omega) | (exfalso; simp only [mapS_len, sumB_mk, sumR_mk] at *; omega) | exact absurd h7 (by simp [mapS_len])
    · have pr7 : ¬ ((szm (szB aB) 1048576) : Int) < 0 := of_decide_eq_false h7
      have pr7z := szm_val (n := (szB aB)) (left := 1048576) pr7
      refine C_skip ?_
      refine x_then ?_
      refine C_seq ?_
      refine C_reg ?_
      refine q1 rfl (lbw 0 a_24 rfl rfl rfl) ?_
      refine li rfl (crs rfl b_20 rfl rfl rfl rfl (fun w' hs => (laws_toBeliefs w' [(.int .i64 aB.Nodes), u1] aB (rd_at hs h_aB) (by first | assumption | omega | (unfold szm at *; split at * <;> omega)))) fun cs8 => ?_)
      refine D_pre (fun w' hs => shape_Beliefs (rd_own (k := 0) hs rfl)) ?_
      rintro ⟨v9, rfl, ho10⟩
      refine p1 rfl <| p1 rfl ?_
      refine li rfl (crl b_28 rfl rfl rfl rfl (fun w' hs => (laws_toIntS w' v_aL aL (rd_at hs h_aL) (by first | assumption | omega | (unfold szm at *; split at * <;> omega)))) fun v11 => ?_)
      refine li rfl (cv b_27 rfl rfl rfl rfl (fun w' hs => (spec_IsFoundation w' [(.int .i64 aB.Nodes), v9] aB aX v11 aL (rd_own (k := 1) hs rfl) (rd_own (k := 0) hs rfl))) ?_)
      refine p1 rfl ?_
      refine D_end ?_
      refine x_then ?_
      refine D_weak [(1, (.int .i64 aX)), (2, v_aL), (3, (.pointer (some ⟨g5, 0, none⟩))), (8, (.bool (isFnd aB aX aL)))] ⟨rfl, rfl, rfl, rfl, trivial⟩ ?_
      refine D_sel (H' := [bx g5 [(.int .i64 aB.Nodes), u1]]) [false, false, true] rfl ?_
      refine C_seq ?_
      refine C_reg ?_
      refine q1 rfl (lbw 0 a_24 rfl rfl rfl) ?_
      refine li rfl (crs rfl b_20 rfl rfl rfl rfl (fun w' hs => (laws_toBeliefs w' [(.int .i64 aB.Nodes), u1] aB (rd_at hs h_aB) (by first | assumption | omega | (unfold szm at *; split at * <;> omega)))) fun cs12 => ?_)
      refine D_pre (fun w' hs => shape_Beliefs (rd_own (k := 0) hs rfl)) ?_
      rintro ⟨v13, rfl, ho14⟩
      refine li rfl (D_alloc y_32 rfl rfl rfl rfl fun g15 => ?_)
      refine li rfl (D_stb (vs := [(.int .i64 aB.Nodes), v13]) (cs' := [(.int .i64 aB.Nodes), v13]) 0 z_32 rfl rfl rfl rfl rfl rfl (ocons rfl (ocons ho14 onil)) (by simp) rfl ?_)
      refine D_end ?_
      refine x_then ?_
      refine D_H ([bx g15 [(.int .i64 aB.Nodes), v13], ov [(.int .i64 aB.Nodes), v13] (aB : Beliefs), bx g5 [(.int .i64 aB.Nodes), u1]]) rfl ?_
      refine C_seq ?_
      refine C_reg ?_
      refine p1 rfl ?_
      refine li rfl (crl b_28 rfl rfl rfl rfl (fun w' hs => (laws_toIntS w' v_aL aL (rd_at hs h_aL) (by first | assumption | omega | (unfold szm at *; split at * <;> omega)))) fun v16 => ?_)
      refine p1 rfl ?_
      refine D_end ?_
      refine x_then ?_
      refine D_H ([ov [v16] (aL : (List Int)), bx g15 [(.int .i64 aB.Nodes), v13], ov [(.int .i64 aB.Nodes), v13] (aB : Beliefs), bx g5 [(.int .i64 aB.Nodes), u1]]) rfl ?_
      refine C_seq ?_
      refine C_reg ?_
      refine q1 rfl (lbw 1 a_32 rfl rfl rfl) ?_
      refine p1 rfl <| p1 rfl ?_
      refine li rfl (cv b_29 rfl rfl rfl rfl (fun w' hs => (impl_IsFoundation w' [(.int .i64 aB.Nodes), v13] aB aX v16 aL (rd_own (k := 2) hs rfl) (rd_own (k := 0) hs rfl))) ?_)
      refine p1 rfl ?_
      refine D_end ?_
      refine x_then ?_
      refine C_seq ?_
      refine C_seq ?_
      refine C_reg ?_
      refine p1 rfl <| p1 rfl ?_
      refine q1 rfl (D_neB ub_4 rfl rfl rfl) ?_
      refine D_end ?_
      refine x_then ?_
      refine C_if _ rfl (fun h17 => ?_) (fun h17 => ?_)
      · refine C_seq ?_
        refine C_reg ?_
        refine p1 rfl ?_
        refine D_end ?_
        refine x_then ?_
        refine D_weak [(6, (.bool false))] ⟨rfl, trivial⟩ ?_
        refine D_sel (H' := []) [false, false, false, false] rfl ?_
        refine C_ret ?_
        refine x_then_ret ?_
        refine R_1 rfl rfl fun w' hs => ⟨congrArg (fun z => Ending.returned (Value.bool z)) ?_, hs.bel⟩
        show (false : Bool) = true
        first | rfl | (exfalso; omega) | (exfalso; simp only [mapS_len, sumB_mk, sumR_mk] at *; omega) | exact absurd h17 (by simp [mapS_len])
      · have pr17 : (isFnd aB aX aL) = (isFnd aB aX aL) := beq_of_not h17
        refine C_skip ?_
        refine x_then ?_
        refine C_seq ?_
        refine C_seq ?_
        refine C_draw mixed [3, 4] (by kernel_rfl) ?_
        refine tk 0 rfl (by kernel_rfl) (by kernel_rfl) (by kernel_rfl) rfl (fun _ hs => hs) (lbw 1 a_32 rfl rfl rfl) ?_
        refine tk 1 rfl (by kernel_rfl) (by kernel_rfl) (by kernel_rfl) rfl (fun _ hs => hs) (lbw 3 a_24 rfl rfl rfl) ?_
        refine ty 2 rfl (by kernel_rfl) rfl (crs rfl b_20 rfl rfl rfl rfl (fun w' hs => (laws_toBeliefs w' [(.int .i64 aB.Nodes), u1] aB (rd_at hs h_aB) (by first | assumption | omega | (unfold szm at *; split at * <;> omega)))) fun cs18 => ?_)
        refine D_pre (fun w' hs => shape_Beliefs (rd_own (k := 0) hs rfl)) ?_
        rintro ⟨v19, rfl, ho20⟩
        refine tS (fun _ hs => hs.pk [1, 2, 3, 4] rfl rfl) ?_
        refine ty 3 rfl (by kernel_rfl) rfl (cv b_23 rfl rfl rfl rfl (fun w' hs => (laws_eqBeliefs w' [(.int .i64 aB.Nodes), v13] aB [(.int .i64 aB.Nodes), v19] aB (rd_own (k := 3) hs rfl) (rd_own (k := 0) hs rfl))) ?_)
        refine tZ rfl ?_
        refine ty 4 rfl (by kernel_rfl) rfl (sv rfl rfl (rp rfl) ?_)
        refine tZ rfl ?_
        refine tE (by kernel_rfl) ?_
        refine x_then ?_
        refine D_weak [(2, v_aL), (10, v16), (41, (.bool (!(decide (aB = aB)))))] ⟨rfl, rfl, rfl, trivial⟩ ?_
        refine D_sel (H' := [ov [v16] (aL : (List Int))]) [false, true, false, false, false] rfl ?_
        refine C_if _ rfl (fun h21 => ?_) (fun h21 => ?_)
        · have h21n : (decide (aB = aB)) = false := not_t h21
          refine C_seq ?_
          refine C_reg ?_
          refine p1 rfl ?_
          refine D_end ?_
          refine x_then ?_
          refine C_ret ?_
          refine x_then_ret ?_
          refine R_1 rfl rfl fun w' hs => ⟨congrArg (fun z => Ending.returned (Value.bool z)) ?_, hs.bel⟩
          show (false : Bool) = true
          first | rfl | (exfalso; omega) | (exfalso; simp only [mapS_len, sumB_mk, sumR_mk] at *; omega) | exact absurd h21 (by simp [mapS_len])
        · have h21n : (decide (aB = aB)) = true := not_f h21
          refine C_skip ?_
          refine x_then ?_
          refine C_seq ?_
          refine C_seq ?_
          refine C_reg ?_
          refine p1 rfl <| p1 rfl ?_
          refine li rfl (crl b_28 rfl rfl rfl rfl (fun w' hs => (laws_toIntS w' v_aL aL (rd_at hs h_aL) (by first | assumption | omega | (unfold szm at *; split at * <;> omega)))) fun v22 => ?_)
          refine li rfl (cv b_13 rfl rfl rfl rfl (fun w' hs => (laws_eqIntS w' v16 aL v22 aL (rd_own (k := 1) hs rfl) (rd_own (k := 0) hs rfl))) ?_)
          refine p1 rfl ?_
          refine D_end ?_
          refine x_then ?_
          refine D_H ([ov [v22] (aL : (List Int)), ov [v16] (aL : (List Int))]) rfl ?_
          refine C_if _ rfl (fun h23 => ?_) (fun h23 => ?_)
          · have h23n : (decide (aL = aL)) = false := not_t h23
            refine C_seq ?_
            refine C_reg ?_
            refine p1 rfl ?_
            refine D_end ?_
            refine x_then ?_
            refine C_ret ?_
            refine x_then_ret ?_
            refine R_1 rfl rfl fun w' hs => ⟨congrArg (fun z => Ending.returned (Value.bool z)) ?_, hs.bel⟩
            show (false : Bool) = true
            first | rfl | (exfalso; omega) | (exfalso; simp only [mapS_len, sumB_mk, sumR_mk] at *; omega) | exact absurd h23 (by simp [mapS_len])
          · have h23n : (decide (aL = aL)) = true := not_f h23
            refine C_skip ?_
            refine x_then ?_
            refine C_seq ?_
            refine C_reg ?_
            refine p1 rfl ?_
            refine D_end ?_
            refine x_then ?_
            refine C_ret ?_
            refine R_1 rfl rfl fun w' hs => ⟨congrArg (fun z => Ending.returned (Value.bool z)) ?_, hs.bel⟩
            show (true : Bool) = true
            first | rfl | (exfalso; omega) | (exfalso; simp only [mapS_len, sumB_mk, sumR_mk] at *; omega) | exact absurd h23 (by simp [mapS_len])
end Go.Sy.Beld
