/-
  Contracts of functions of the program, walked (printed by a program of ours).
  Conditions: those that each theorem states.
-/
import Derived.Test.YteonnoeofhonoaaBel5
set_option linter.unusedVariables false
set_option maxRecDepth 20000
namespace Go.Sy.Belx
open Go Go.RowKit Go.Proofs Go.Sy
theorem mixed : Try.prog.follows .mixedOrders = true := by kernel_rfl
theorem a_24 : aggTy Try.prog 24 = some 2 := by kernel_rfl
theorem b_9 : hasBody Try.prog 9 = true := by kernel_rfl
theorem a_41 : aggTy Try.prog 41 = some 3 := by kernel_rfl
theorem b_21 : hasBody Try.prog 21 = true := by kernel_rfl
theorem b_11 : hasBody Try.prog 11 = true := by kernel_rfl
theorem b_23 : hasBody Try.prog 23 = true := by kernel_rfl
theorem b_22 : hasBody Try.prog 22 = true := by kernel_rfl
theorem y_29 : zeroTy Try.prog 29 = some (.agg #[(.int .i64 0), (.slice none 0 0)]) := by kernel_rfl
theorem z_29 : sizeTy Try.prog 29 = some 2 := by kernel_rfl
theorem y_45 : zeroTy Try.prog 45 = some (.agg #[(.int .i64 0), (.slice none 0 0), (.slice none 0 0)]) := by kernel_rfl
theorem z_45 : sizeTy Try.prog 45 = some 3 := by kernel_rfl
theorem a_29 : aggTy Try.prog 29 = some 2 := by kernel_rfl
theorem a_45 : aggTy Try.prog 45 = some 3 := by kernel_rfl
theorem b_24 : hasBody Try.prog 24 = true := by kernel_rfl
theorem b_14 : hasBody Try.prog 14 = true := by kernel_rfl
theorem ub_4 : Try.prog.underlying 4 = some .bool := by kernel_rfl
theorem b_25 : hasBody Try.prog 25 = true := by kernel_rfl
theorem b_16 : hasBody Try.prog 16 = true := by kernel_rfl
theorem b_26 : hasBody Try.prog 26 = true := by kernel_rfl
theorem b_18 : hasBody Try.prog 18 = true := by kernel_rfl
open Go.Sy.Bel1 Go.Sy.Bel2 Go.Sy.Bel3 Go.Sy.Bel4 Go.Sy.Bel5
set_option maxHeartbeats 4000000 in
theorem laws_FnExactAddReason (w : World) (c_aB : List Value) (aB : Beliefs) (c_aR : List Value) (aR : Reason) (h_aB : Gd.rd w c_aB aB) (h_aR : Gd.rd w c_aR aR) : Calls Try.prog 5 [(.agg c_aB.toArray), (.agg c_aR.toArray)].toArray w (Val w (.bool (true))) := by
  obtain ⟨u1, rfl, hu2⟩ := open_Beliefs h_aB
  have hm3 := rd_max hu2
  obtain ⟨u4, u6, rfl, hu5, hu7⟩ := open_Reason h_aR
  have hm8 := rd_max hu5
  have hm9 := rd_max hu7
  refine enter 119 Try.func5 rfl rfl rfl ?_
  refine C_seq ?_
  refine C_reg ?_
  refine li rfl (D_box rfl rfl rfl rfl rfl fun g10 => ?_)
  refine li rfl (D_box rfl rfl rfl rfl rfl fun g11 => ?_)
  refine p1 rfl ?_
  refine D_end ?_
  refine x_then ?_
  refine D_H ([bx g11 [(.int .i64 aR.For), u4, u6], bx g10 [(.int .i64 aB.Nodes), u1]]) rfl ?_
  refine C_seq ?_
  refine C_reg ?_
  refine p1 rfl ?_
  refine D_end ?_
  refine x_then ?_
  refine C_seq ?_
  refine C_reg ?_
  refine q1 rfl (lbw 1 a_24 rfl rfl rfl) ?_
  refine p1 rfl ?_
  have hz1 := szB_len aB
  have hz2 := szB_sum aB
  have hz3 := sumB_add aB aR
  have hz4 : cR aR = 1 + szR aR := by simp only [cR, szR]; omega
  have hz5 : cM aR = szR aR := rfl
  refine li rfl (cv b_9 rfl rfl rfl rfl (fun w' hs => (laws_szBeliefs w' [(.int .i64 aB.Nodes), u1] aB 1048576 (rd_at hs h_aB) (by first | assumption | omega | (unfold szm at *; split at * <;> omega)) (by first | assumption | omega | (unfold szm at *; split at * <;> omega)))) ?_)
  refine p1 rfl ?_
  refine D_end ?_
  refine x_then ?_
  refine C_seq ?_
  refine C_seq ?_
  refine C_reg ?_
  refine p1 rfl <| p1 rfl ?_
  refine D_end ?_
  refine x_then ?_
  refine C_if _ rfl (fun h12 => ?_) (fun h12 => ?_)
  · have pr12 : ((szm (szB aB) 1048576) : Int) < 0 := of_decide_eq_true h12
    refine C_seq ?_
    refine C_reg ?_
    refine p1 rfl ?_
    refine D_end ?_
    refine x_then ?_
    refine C_ret ?_
    refine x_then_ret ?_
    refine R_1 rfl rfl fun w' hs => ⟨congrArg (fun z => Ending.returned (Value.bool z)) ?_, hs.bel⟩
    show (true : Bool) = true
    first | rfl | (exfalso; omega) | (exfalso; simp only [mapS_len, sumB_mk, sumR_mk] at *; omega) | exact absurd h12 (by simp [mapS_len])
  · have pr12 : ¬ ((szm (szB aB) 1048576) : Int) < 0 := of_decide_eq_false h12
    have pr12z := szm_val (n := (szB aB)) (left := 1048576) pr12
    refine C_skip ?_
    refine x_then ?_
    refine C_seq ?_
    refine C_reg ?_
    refine q1 rfl (lbw 0 a_41 rfl rfl rfl) ?_
    refine p1 rfl ?_
    refine li rfl (cv b_21 rfl rfl rfl rfl (fun w' hs => (laws_szReason w' [(.int .i64 aR.For), u4, u6] aR (szm (szB aB) 1048576) (rd_at hs h_aR) (by first | assumption | omega | (unfold szm at *; split at * <;> omega)) (by first | assumption | omega | (unfold szm at *; split at * <;> omega)))) ?_)
    refine p1 rfl ?_
    refine D_end ?_
    refine x_then ?_
    refine C_seq ?_
    refine C_seq ?_
    refine C_reg ?_
    refine p1 rfl <| p1 rfl ?_
    refine D_end ?_
    refine x_then ?_
    refine C_if _ rfl (fun h13 => ?_) (fun h13 => ?_)
    · have pr13 : ((szm (szR aR) (szm (szB aB) 1048576)) : Int) < 0 := of_decide_eq_true h13
      refine C_seq ?_
      refine C_reg ?_
      refine p1 rfl ?_
      refine D_end ?_
      refine x_then ?_
      refine D_weak [(4, (.bool true))] ⟨rfl, trivial⟩ ?_
      refine D_sel (H' := []) [false, false] rfl ?_
      refine C_ret ?_
      refine x_then_ret ?_
      refine R_1 rfl rfl fun w' hs => ⟨congrArg (fun z => Ending.returned (Value.bool z)) ?_, hs.bel⟩
      show (true : Bool) = true
      first | rfl | (exfalso; omega) | (exfalso; simp only [mapS_len, sumB_mk, sumR_mk] at *; omega) | exact absurd h13 (by simp [mapS_len])
    · have pr13 : ¬ ((szm (szR aR) (szm (szB aB) 1048576)) : Int) < 0 := of_decide_eq_false h13
      have pr13z := szm_val (n := (szR aR)) (left := (szm (szB aB) 1048576)) pr13
      refine C_skip ?_
      refine x_then ?_
      refine C_seq ?_
      refine C_join (fun ac w' => ∃ (g26 : Nat), ∃ (v24 : Value), (v24.oneCell' = true) ∧ Fits ac 119 [(2, (.pointer (some ⟨g10, 0, none⟩))), (3, (.pointer (some ⟨g11, 0, none⟩))), (6, (.pointer (some ⟨g26, 0, none⟩))), (7, (.bool (addOk aB aR)))] ∧ St w ([bx g26 [(.int .i64 ((addR aB aR).Nodes)), v24], ov [(.int .i64 ((addR aB aR).Nodes)), v24] (addR aB aR : Beliefs), bx g11 [(.int .i64 aR.For), u4, u6], bx g10 [(.int .i64 aB.Nodes), u1]]) w') ?_ ?_
      · refine C_draw mixed [] (by kernel_rfl) ?_
        refine tk 0 rfl (by kernel_rfl) (by kernel_rfl) (by kernel_rfl) rfl (fun _ hs => hs) (lbw 1 a_24 rfl rfl rfl) ?_
        refine tk 2 rfl (by kernel_rfl) (by kernel_rfl) (by kernel_rfl) rfl (fun _ hs => hs) (lbw 0 a_41 rfl rfl rfl) ?_
        refine tyN [1, 8] rfl (by kernel_rfl) ⟨⟨_, rfl, rfl, ?_⟩, ⟨_, rfl, rfl, ?_⟩, trivial⟩
        · refine id (crs rfl b_11 rfl rfl rfl rfl (fun w' hs => (laws_toBeliefs w' [(.int .i64 aB.Nodes), u1] aB (rd_at hs h_aB) (by first | assumption | omega | (unfold szm at *; split at * <;> omega)))) fun cs14 => ?_)
          refine D_pre (fun w' hs => shape_Beliefs (rd_own (k := 0) hs rfl)) ?_
          rintro ⟨v15, rfl, ho16⟩
          refine tS (fun _ hs => hs.pk [1, 2] rfl rfl) ?_
          refine tyN [3, 8] rfl (by kernel_rfl) ⟨⟨_, rfl, rfl, ?_⟩, ⟨_, rfl, rfl, ?_⟩, trivial⟩
          · refine id (crs rfl b_23 rfl rfl rfl rfl (fun w' hs => (laws_toReason w' [(.int .i64 aR.For), u4, u6] aR (rd_at hs h_aR) (by first | assumption | omega | (unfold szm at *; split at * <;> omega)))) fun cs17 => ?_)
            refine D_pre (fun w' hs => shape_Reason (rd_own (k := 0) hs rfl)) ?_
            rintro ⟨v18, v19, rfl, ho20, ho21⟩
            refine tS (fun _ hs => hs.pk [2, 3] rfl rfl) ?_
            refine tyN [4, 8] rfl (by kernel_rfl) ⟨⟨_, rfl, rfl, ?_⟩, ⟨_, rfl, rfl, ?_⟩, trivial⟩
            · refine id (cr2 b_22 rfl rfl rfl rfl (fun w' hs => (spec_AddReason w' [(.int .i64 aB.Nodes), v15] aB [(.int .i64 aR.For), v18, v19] aR (rd_own (k := 1) hs rfl) (rd_own (k := 0) hs rfl) (by first | assumption | omega | (unfold szm at *; split at * <;> omega)) (by first | assumption | omega | (unfold szm at *; split at * <;> omega)))) fun cs22 cs23 => ?_)
              refine D_pre (fun w' hs => shape_Beliefs (rd_own (k := 0) hs rfl)) ?_
              rintro ⟨v24, rfl, ho25⟩
              refine D_pre (fun w' hs => show cs23 = [(.bool (addOk aB aR))] from rd_own (k := 1) hs rfl) ?_
              rintro rfl
              refine D_re 32 (v' := (.tuple #[(.agg #[(.int .i64 ((addR aB aR).Nodes)), v24]), (.bool (addOk aB aR))])) rfl rfl rfl ?_
              refine D_pk (H' := [ov [(.int .i64 ((addR aB aR).Nodes)), v24] (addR aB aR : Beliefs), ov [(.int .i64 aR.For), v18, v19] (aR : Reason), ov [(.int .i64 aB.Nodes), v15] (aB : Beliefs), bx g11 [(.int .i64 aR.For), u4, u6], bx g10 [(.int .i64 aB.Nodes), u1]]) [0, 2, 3, 4, 5] rfl rfl ?_
              refine tS (fun _ hs => hs.pk [3, 4] rfl rfl) ?_
              refine tk 5 rfl (by kernel_rfl) (by kernel_rfl) (by kernel_rfl) rfl (fun _ hs => hs.pk [3, 4] rfl rfl) (rp rfl) ?_
              refine tk 6 rfl (by kernel_rfl) (by kernel_rfl) (by kernel_rfl) rfl (fun _ hs => hs.pk [3, 4] rfl rfl) (rp rfl) ?_
              refine tk 7 rfl (by kernel_rfl) (by kernel_rfl) (by kernel_rfl) rfl (fun _ hs => hs.pk [3, 4] rfl rfl) (rp rfl) ?_
              refine ty 8 rfl (by kernel_rfl) rfl (D_alloc y_29 rfl rfl rfl rfl fun g26 => ?_)
              refine tS (fun _ hs => hs.pk [4, 5] rfl rfl) ?_
              refine ty 9 rfl (by kernel_rfl) rfl (D_stb (vs := [(.int .i64 ((addR aB aR).Nodes)), v24]) (cs' := [(.int .i64 ((addR aB aR).Nodes)), v24]) 0 z_29 rfl rfl rfl rfl rfl rfl (ocons rfl (ocons ho25 onil)) (by simp) rfl ?_)
              refine tS (fun _ hs => hs.pk [4, 5] rfl rfl) ?_
              refine tk 10 rfl (by kernel_rfl) (by kernel_rfl) (by kernel_rfl) rfl (fun _ hs => hs.pk [4, 5] rfl rfl) (rp rfl) ?_
              refine tE (by kernel_rfl) ?_
              refine x_then ?_
              refine fun ac w' hf hs => ⟨g26, v24, ho25, hf.weak ⟨rfl, rfl, rfl, rfl, trivial⟩, hs.pk [0, 1, 4, 5] rfl rfl⟩
            · refine id (D_alloc y_29 rfl rfl rfl rfl fun g27 => ?_)
              refine tS (fun _ hs => hs.pk [3, 4] rfl rfl) ?_
              refine ty 4 rfl (by kernel_rfl) rfl (cr2 b_22 rfl rfl rfl rfl (fun w' hs => (spec_AddReason w' [(.int .i64 aB.Nodes), v15] aB [(.int .i64 aR.For), v18, v19] aR (rd_own (k := 2) hs rfl) (rd_own (k := 1) hs rfl) (by first | assumption | omega | (unfold szm at *; split at * <;> omega)) (by first | assumption | omega | (unfold szm at *; split at * <;> omega)))) fun cs28 cs29 => ?_)
              refine D_pre (fun w' hs => shape_Beliefs (rd_own (k := 0) hs rfl)) ?_
              rintro ⟨v30, rfl, ho31⟩
              refine D_pre (fun w' hs => show cs29 = [(.bool (addOk aB aR))] from rd_own (k := 1) hs rfl) ?_
              rintro rfl
              refine D_re 32 (v' := (.tuple #[(.agg #[(.int .i64 ((addR aB aR).Nodes)), v30]), (.bool (addOk aB aR))])) rfl rfl rfl ?_
              refine D_pk (H' := [ov [(.int .i64 ((addR aB aR).Nodes)), v30] (addR aB aR : Beliefs), bx g27 [(.int .i64 0), (.slice none 0 0)], ov [(.int .i64 aR.For), v18, v19] (aR : Reason), ov [(.int .i64 aB.Nodes), v15] (aB : Beliefs), bx g11 [(.int .i64 aR.For), u4, u6], bx g10 [(.int .i64 aB.Nodes), u1]]) [0, 2, 3, 4, 5, 6] rfl rfl ?_
              refine tS (fun _ hs => hs.pk [4, 5] rfl rfl) ?_
              refine tk 5 rfl (by kernel_rfl) (by kernel_rfl) (by kernel_rfl) rfl (fun _ hs => hs.pk [4, 5] rfl rfl) (rp rfl) ?_
              refine tk 6 rfl (by kernel_rfl) (by kernel_rfl) (by kernel_rfl) rfl (fun _ hs => hs.pk [4, 5] rfl rfl) (rp rfl) ?_
              refine tk 7 rfl (by kernel_rfl) (by kernel_rfl) (by kernel_rfl) rfl (fun _ hs => hs.pk [4, 5] rfl rfl) (rp rfl) ?_
              refine ty 9 rfl (by kernel_rfl) rfl (D_stb (vs := [(.int .i64 ((addR aB aR).Nodes)), v30]) (cs' := [(.int .i64 ((addR aB aR).Nodes)), v30]) 1 z_29 rfl rfl rfl rfl rfl rfl (ocons rfl (ocons ho31 onil)) (by simp) rfl ?_)
              refine tS (fun _ hs => hs.pk [4, 5] rfl rfl) ?_
              refine tk 10 rfl (by kernel_rfl) (by kernel_rfl) (by kernel_rfl) rfl (fun _ hs => hs.pk [4, 5] rfl rfl) (rp rfl) ?_
              refine tE (by kernel_rfl) ?_
              refine x_then ?_
              refine fun ac w' hf hs => ⟨g27, v30, ho31, hf.weak ⟨rfl, rfl, rfl, rfl, trivial⟩, hs.pk [1, 0, 4, 5] rfl rfl⟩
          · refine id (D_alloc y_29 rfl rfl rfl rfl fun g32 => ?_)
            refine tS (fun _ hs => hs.pk [2, 3] rfl rfl) ?_
            refine ty 3 rfl (by kernel_rfl) rfl (crs rfl b_23 rfl rfl rfl rfl (fun w' hs => (laws_toReason w' [(.int .i64 aR.For), u4, u6] aR (rd_at hs h_aR) (by first | assumption | omega | (unfold szm at *; split at * <;> omega)))) fun cs33 => ?_)
            refine D_pre (fun w' hs => shape_Reason (rd_own (k := 0) hs rfl)) ?_
            rintro ⟨v34, v35, rfl, ho36, ho37⟩
            refine tS (fun _ hs => hs.pk [3, 4] rfl rfl) ?_
            refine ty 4 rfl (by kernel_rfl) rfl (cr2 b_22 rfl rfl rfl rfl (fun w' hs => (spec_AddReason w' [(.int .i64 aB.Nodes), v15] aB [(.int .i64 aR.For), v34, v35] aR (rd_own (k := 2) hs rfl) (rd_own (k := 0) hs rfl) (by first | assumption | omega | (unfold szm at *; split at * <;> omega)) (by first | assumption | omega | (unfold szm at *; split at * <;> omega)))) fun cs38 cs39 => ?_)
            refine D_pre (fun w' hs => shape_Beliefs (rd_own (k := 0) hs rfl)) ?_
            rintro ⟨v40, rfl, ho41⟩
            refine D_pre (fun w' hs => show cs39 = [(.bool (addOk aB aR))] from rd_own (k := 1) hs rfl) ?_
            rintro rfl
            refine D_re 32 (v' := (.tuple #[(.agg #[(.int .i64 ((addR aB aR).Nodes)), v40]), (.bool (addOk aB aR))])) rfl rfl rfl ?_
            refine D_pk (H' := [ov [(.int .i64 ((addR aB aR).Nodes)), v40] (addR aB aR : Beliefs), ov [(.int .i64 aR.For), v34, v35] (aR : Reason), bx g32 [(.int .i64 0), (.slice none 0 0)], ov [(.int .i64 aB.Nodes), v15] (aB : Beliefs), bx g11 [(.int .i64 aR.For), u4, u6], bx g10 [(.int .i64 aB.Nodes), u1]]) [0, 2, 3, 4, 5, 6] rfl rfl ?_
            refine tS (fun _ hs => hs.pk [4, 5] rfl rfl) ?_
            refine tk 5 rfl (by kernel_rfl) (by kernel_rfl) (by kernel_rfl) rfl (fun _ hs => hs.pk [4, 5] rfl rfl) (rp rfl) ?_
            refine tk 6 rfl (by kernel_rfl) (by kernel_rfl) (by kernel_rfl) rfl (fun _ hs => hs.pk [4, 5] rfl rfl) (rp rfl) ?_
            refine tk 7 rfl (by kernel_rfl) (by kernel_rfl) (by kernel_rfl) rfl (fun _ hs => hs.pk [4, 5] rfl rfl) (rp rfl) ?_
            refine ty 9 rfl (by kernel_rfl) rfl (D_stb (vs := [(.int .i64 ((addR aB aR).Nodes)), v40]) (cs' := [(.int .i64 ((addR aB aR).Nodes)), v40]) 2 z_29 rfl rfl rfl rfl rfl rfl (ocons rfl (ocons ho41 onil)) (by simp) rfl ?_)
            refine tS (fun _ hs => hs.pk [4, 5] rfl rfl) ?_
            refine tk 10 rfl (by kernel_rfl) (by kernel_rfl) (by kernel_rfl) rfl (fun _ hs => hs.pk [4, 5] rfl rfl) (rp rfl) ?_
            refine tE (by kernel_rfl) ?_
            refine x_then ?_
            refine fun ac w' hf hs => ⟨g32, v40, ho41, hf.weak ⟨rfl, rfl, rfl, rfl, trivial⟩, hs.pk [2, 0, 4, 5] rfl rfl⟩
        · refine id (D_alloc y_29 rfl rfl rfl rfl fun g42 => ?_)
          refine tS (fun _ hs => hs.pk [1, 2] rfl rfl) ?_
          refine ty 1 rfl (by kernel_rfl) rfl (crs rfl b_11 rfl rfl rfl rfl (fun w' hs => (laws_toBeliefs w' [(.int .i64 aB.Nodes), u1] aB (rd_at hs h_aB) (by first | assumption | omega | (unfold szm at *; split at * <;> omega)))) fun cs43 => ?_)
          refine D_pre (fun w' hs => shape_Beliefs (rd_own (k := 0) hs rfl)) ?_
          rintro ⟨v44, rfl, ho45⟩
          refine tS (fun _ hs => hs.pk [2, 3] rfl rfl) ?_
          refine ty 3 rfl (by kernel_rfl) rfl (crs rfl b_23 rfl rfl rfl rfl (fun w' hs => (laws_toReason w' [(.int .i64 aR.For), u4, u6] aR (rd_at hs h_aR) (by first | assumption | omega | (unfold szm at *; split at * <;> omega)))) fun cs46 => ?_)
          refine D_pre (fun w' hs => shape_Reason (rd_own (k := 0) hs rfl)) ?_
          rintro ⟨v47, v48, rfl, ho49, ho50⟩
          refine tS (fun _ hs => hs.pk [3, 4] rfl rfl) ?_
          refine ty 4 rfl (by kernel_rfl) rfl (cr2 b_22 rfl rfl rfl rfl (fun w' hs => (spec_AddReason w' [(.int .i64 aB.Nodes), v44] aB [(.int .i64 aR.For), v47, v48] aR (rd_own (k := 1) hs rfl) (rd_own (k := 0) hs rfl) (by first | assumption | omega | (unfold szm at *; split at * <;> omega)) (by first | assumption | omega | (unfold szm at *; split at * <;> omega)))) fun cs51 cs52 => ?_)
          refine D_pre (fun w' hs => shape_Beliefs (rd_own (k := 0) hs rfl)) ?_
          rintro ⟨v53, rfl, ho54⟩
          refine D_pre (fun w' hs => show cs52 = [(.bool (addOk aB aR))] from rd_own (k := 1) hs rfl) ?_
          rintro rfl
          refine D_re 32 (v' := (.tuple #[(.agg #[(.int .i64 ((addR aB aR).Nodes)), v53]), (.bool (addOk aB aR))])) rfl rfl rfl ?_
          refine D_pk (H' := [ov [(.int .i64 ((addR aB aR).Nodes)), v53] (addR aB aR : Beliefs), ov [(.int .i64 aR.For), v47, v48] (aR : Reason), ov [(.int .i64 aB.Nodes), v44] (aB : Beliefs), bx g42 [(.int .i64 0), (.slice none 0 0)], bx g11 [(.int .i64 aR.For), u4, u6], bx g10 [(.int .i64 aB.Nodes), u1]]) [0, 2, 3, 4, 5, 6] rfl rfl ?_
          refine tS (fun _ hs => hs.pk [4, 5] rfl rfl) ?_
          refine tk 5 rfl (by kernel_rfl) (by kernel_rfl) (by kernel_rfl) rfl (fun _ hs => hs.pk [4, 5] rfl rfl) (rp rfl) ?_
          refine tk 6 rfl (by kernel_rfl) (by kernel_rfl) (by kernel_rfl) rfl (fun _ hs => hs.pk [4, 5] rfl rfl) (rp rfl) ?_
          refine tk 7 rfl (by kernel_rfl) (by kernel_rfl) (by kernel_rfl) rfl (fun _ hs => hs.pk [4, 5] rfl rfl) (rp rfl) ?_
          refine ty 9 rfl (by kernel_rfl) rfl (D_stb (vs := [(.int .i64 ((addR aB aR).Nodes)), v53]) (cs' := [(.int .i64 ((addR aB aR).Nodes)), v53]) 3 z_29 rfl rfl rfl rfl rfl rfl (ocons rfl (ocons ho54 onil)) (by simp) rfl ?_)
          refine tS (fun _ hs => hs.pk [4, 5] rfl rfl) ?_
          refine tk 10 rfl (by kernel_rfl) (by kernel_rfl) (by kernel_rfl) rfl (fun _ hs => hs.pk [4, 5] rfl rfl) (rp rfl) ?_
          refine tE (by kernel_rfl) ?_
          refine x_then ?_
          refine fun ac w' hf hs => ⟨g42, v53, ho54, hf.weak ⟨rfl, rfl, rfl, rfl, trivial⟩, hs.pk [3, 0, 4, 5] rfl rfl⟩
      rintro ac w' ⟨g26, v24, ho25, hf, hs⟩
      refine D.use ?_ hf hs
      clear hf hs ac w'
      refine x_then ?_
      refine D_H ([bx g26 [(.int .i64 ((addR aB aR).Nodes)), v24], ov [(.int .i64 ((addR aB aR).Nodes)), v24] (addR aB aR : Beliefs), bx g11 [(.int .i64 aR.For), u4, u6], bx g10 [(.int .i64 aB.Nodes), u1]]) rfl ?_
      refine C_seq ?_
      refine C_reg ?_
      refine q1 rfl (lbw 3 a_24 rfl rfl rfl) ?_
      refine li rfl (crs rfl b_11 rfl rfl rfl rfl (fun w' hs => (laws_toBeliefs w' [(.int .i64 aB.Nodes), u1] aB (rd_at hs h_aB) (by first | assumption | omega | (unfold szm at *; split at * <;> omega)))) fun cs55 => ?_)
      refine D_pre (fun w' hs => shape_Beliefs (rd_own (k := 0) hs rfl)) ?_
      rintro ⟨v56, rfl, ho57⟩
      refine li rfl (D_alloc y_29 rfl rfl rfl rfl fun g58 => ?_)
      refine li rfl (D_stb (vs := [(.int .i64 aB.Nodes), v56]) (cs' := [(.int .i64 aB.Nodes), v56]) 0 z_29 rfl rfl rfl rfl rfl rfl (ocons rfl (ocons ho57 onil)) (by simp) rfl ?_)
      refine D_end ?_
      refine x_then ?_
      refine D_H ([bx g58 [(.int .i64 aB.Nodes), v56], ov [(.int .i64 aB.Nodes), v56] (aB : Beliefs), bx g26 [(.int .i64 ((addR aB aR).Nodes)), v24], ov [(.int .i64 ((addR aB aR).Nodes)), v24] (addR aB aR : Beliefs), bx g11 [(.int .i64 aR.For), u4, u6], bx g10 [(.int .i64 aB.Nodes), u1]]) rfl ?_
      refine C_seq ?_
      refine C_reg ?_
      refine q1 rfl (lbw 4 a_41 rfl rfl rfl) ?_
      refine li rfl (crs rfl b_23 rfl rfl rfl rfl (fun w' hs => (laws_toReason w' [(.int .i64 aR.For), u4, u6] aR (rd_at hs h_aR) (by first | assumption | omega | (unfold szm at *; split at * <;> omega)))) fun cs59 => ?_)
      refine D_pre (fun w' hs => shape_Reason (rd_own (k := 0) hs rfl)) ?_
      rintro ⟨v60, v61, rfl, ho62, ho63⟩
      refine li rfl (D_alloc y_45 rfl rfl rfl rfl fun g64 => ?_)
      refine li rfl (D_stb (vs := [(.int .i64 aR.For), v60, v61]) (cs' := [(.int .i64 aR.For), v60, v61]) 0 z_45 rfl rfl rfl rfl rfl rfl (ocons rfl (ocons ho62 (ocons ho63 onil))) (by simp) rfl ?_)
      refine D_end ?_
      refine x_then ?_
      refine D_H ([bx g64 [(.int .i64 aR.For), v60, v61], ov [(.int .i64 aR.For), v60, v61] (aR : Reason), bx g58 [(.int .i64 aB.Nodes), v56], ov [(.int .i64 aB.Nodes), v56] (aB : Beliefs), bx g26 [(.int .i64 ((addR aB aR).Nodes)), v24], ov [(.int .i64 ((addR aB aR).Nodes)), v24] (addR aB aR : Beliefs), bx g11 [(.int .i64 aR.For), u4, u6], bx g10 [(.int .i64 aB.Nodes), u1]]) rfl ?_
      refine C_seq ?_
      refine C_reg ?_
      refine q1 rfl (lbw 2 a_29 rfl rfl rfl) ?_
      refine q1 rfl (lbw 0 a_45 rfl rfl rfl) ?_
      refine li rfl (cr2 b_24 rfl rfl rfl rfl (fun w' hs => (impl_AddReason w' [(.int .i64 aB.Nodes), v56] aB [(.int .i64 aR.For), v60, v61] aR (rd_own (k := 3) hs rfl) (rd_own (k := 1) hs rfl) (by first | assumption | omega | (unfold szm at *; split at * <;> omega)) (by first | assumption | omega | (unfold szm at *; split at * <;> omega)))) fun cs65 cs66 => ?_)
      refine D_pre (fun w' hs => shape_Beliefs (rd_own (k := 0) hs rfl)) ?_
      rintro ⟨v67, rfl, ho68⟩
      refine D_pre (fun w' hs => show cs66 = [(.bool (addOk aB aR))] from rd_own (k := 1) hs rfl) ?_
      rintro rfl
      refine D_re 42 (v' := (.tuple #[(.agg #[(.int .i64 ((addR aB aR).Nodes)), v67]), (.bool (addOk aB aR))])) rfl rfl rfl ?_
      refine D_pk (H' := [ov [(.int .i64 ((addR aB aR).Nodes)), v67] (addR aB aR : Beliefs), bx g64 [(.int .i64 aR.For), v60, v61], ov [(.int .i64 aR.For), v60, v61] (aR : Reason), bx g58 [(.int .i64 aB.Nodes), v56], ov [(.int .i64 aB.Nodes), v56] (aB : Beliefs), bx g26 [(.int .i64 ((addR aB aR).Nodes)), v24], ov [(.int .i64 ((addR aB aR).Nodes)), v24] (addR aB aR : Beliefs), bx g11 [(.int .i64 aR.For), u4, u6], bx g10 [(.int .i64 aB.Nodes), u1]]) [0, 2, 3, 4, 5, 6, 7, 8, 9] rfl rfl ?_
      refine p1 rfl <| p1 rfl <| p1 rfl ?_
      refine li rfl (D_alloc y_29 rfl rfl rfl rfl fun g69 => ?_)
      refine li rfl (D_stb (vs := [(.int .i64 ((addR aB aR).Nodes)), v67]) (cs' := [(.int .i64 ((addR aB aR).Nodes)), v67]) 0 z_29 rfl rfl rfl rfl rfl rfl (ocons rfl (ocons ho68 onil)) (by simp) rfl ?_)
      refine p1 rfl ?_
      refine D_end ?_
      refine x_then ?_
      refine D_H ([bx g69 [(.int .i64 ((addR aB aR).Nodes)), v67], ov [(.int .i64 ((addR aB aR).Nodes)), v67] (addR aB aR : Beliefs), bx g64 [(.int .i64 aR.For), v60, v61], ov [(.int .i64 aR.For), v60, v61] (aR : Reason), bx g58 [(.int .i64 aB.Nodes), v56], ov [(.int .i64 aB.Nodes), v56] (aB : Beliefs), bx g26 [(.int .i64 ((addR aB aR).Nodes)), v24], ov [(.int .i64 ((addR aB aR).Nodes)), v24] (addR aB aR : Beliefs), bx g11 [(.int .i64 aR.For), u4, u6], bx g10 [(.int .i64 aB.Nodes), u1]]) rfl ?_
      refine C_seq ?_
      refine C_seq ?_
      refine C_reg ?_
      refine q1 rfl (lbw 0 a_29 rfl rfl rfl) ?_
      refine q1 rfl (lbw 6 a_29 rfl rfl rfl) ?_
      refine li rfl (cv b_14 rfl rfl rfl rfl (fun w' hs => (laws_eqBeliefs w' [(.int .i64 ((addR aB aR).Nodes)), v67] (addR aB aR) [(.int .i64 ((addR aB aR).Nodes)), v24] (addR aB aR) (rd_own (k := 1) hs rfl) (rd_own (k := 7) hs rfl))) ?_)
      refine p1 rfl <| p1 rfl ?_
      refine gs 49 rfl rfl (fun h70 => ?_) (fun h70 => ?_)
      · have h70n : (decide ((addR aB aR) = (addR aB aR))) = false := not_t h70
        refine n1 rfl ?_
        refine n1 rfl ?_
        refine n1 rfl ?_
        refine p1 rfl ?_
        refine D_end ?_
        refine x_then ?_
        refine D_weak [(2, (.pointer (some ⟨g10, 0, none⟩))), (3, (.pointer (some ⟨g11, 0, none⟩))), (6, (.pointer (some ⟨g26, 0, none⟩))), (7, (.bool (addOk aB aR))), (8, (.pointer (some ⟨g58, 0, none⟩))), (9, (.pointer (some ⟨g64, 0, none⟩))), (10, (.pointer (some ⟨g69, 0, none⟩))), (11, (.bool (addOk aB aR))), (53, (.bool true))] ⟨rfl, rfl, rfl, rfl, rfl, rfl, rfl, rfl, rfl, trivial⟩ ?_
        refine C_t rfl ?_
        refine C_seq ?_
        refine C_reg ?_
        refine p1 rfl ?_
        refine D_end ?_
        refine x_then ?_
        refine C_ret ?_
        refine x_then_ret ?_
        refine R_1 rfl rfl fun w' hs => ⟨congrArg (fun z => Ending.returned (Value.bool z)) ?_, hs.bel⟩
        show (false : Bool) = true
        first | rfl | (exfalso; omega) | (exfalso; simp only [mapS_len, sumB_mk, sumR_mk] at *; omega) | exact absurd h70 (by simp [mapS_len])
      · have h70n : (decide ((addR aB aR) = (addR aB aR))) = true := not_f h70
        refine p1 rfl <| p1 rfl ?_
        refine q1 rfl (D_neB ub_4 rfl rfl rfl) ?_
        refine p1 rfl ?_
        refine D_end ?_
        refine x_then ?_
        refine D_weak [(2, (.pointer (some ⟨g10, 0, none⟩))), (3, (.pointer (some ⟨g11, 0, none⟩))), (6, (.pointer (some ⟨g26, 0, none⟩))), (7, (.bool (addOk aB aR))), (8, (.pointer (some ⟨g58, 0, none⟩))), (9, (.pointer (some ⟨g64, 0, none⟩))), (10, (.pointer (some ⟨g69, 0, none⟩))), (11, (.bool (addOk aB aR))), (53, (.bool (!((addOk aB aR) == (addOk aB aR)))))] ⟨rfl, rfl, rfl, rfl, rfl, rfl, rfl, rfl, rfl, trivial⟩ ?_
        refine C_if _ rfl (fun h71 => ?_) (fun h71 => ?_)
        · refine C_seq ?_
          refine C_reg ?_
          refine p1 rfl ?_
          refine D_end ?_
          refine x_then ?_
          refine C_ret ?_
          refine x_then_ret ?_
          refine R_1 rfl rfl fun w' hs => ⟨congrArg (fun z => Ending.returned (Value.bool z)) ?_, hs.bel⟩
          show (false : Bool) = true
          first | rfl | (exfalso; omega) | (exfalso; simp only [mapS_len, sumB_mk, sumR_mk] at *; omega) | exact absurd h71 (by simp [mapS_len])
        · have pr71 : (addOk aB aR) = (addOk aB aR) := beq_of_not h71
          refine C_skip ?_
          refine x_then ?_
          refine C_seq ?_
          refine C_seq ?_
          refine C_draw mixed [3] (by kernel_rfl) ?_
          refine tk 0 rfl (by kernel_rfl) (by kernel_rfl) (by kernel_rfl) rfl (fun _ hs => hs) (lbw 4 a_29 rfl rfl rfl) ?_
          refine tk 1 rfl (by kernel_rfl) (by kernel_rfl) (by kernel_rfl) rfl (fun _ hs => hs) (lbw 9 a_24 rfl rfl rfl) ?_
          refine ty 2 rfl (by kernel_rfl) rfl (crs rfl b_11 rfl rfl rfl rfl (fun w' hs => (laws_toBeliefs w' [(.int .i64 aB.Nodes), u1] aB (rd_at hs h_aB) (by first | assumption | omega | (unfold szm at *; split at * <;> omega)))) fun cs72 => ?_)
          refine D_pre (fun w' hs => shape_Beliefs (rd_own (k := 0) hs rfl)) ?_
          rintro ⟨v73, rfl, ho74⟩
          refine tS (fun _ hs => hs.pk [1, 2, 3, 4, 5, 6, 7, 8, 9, 10] rfl rfl) ?_
          refine ty 3 rfl (by kernel_rfl) rfl (cv b_14 rfl rfl rfl rfl (fun w' hs => (laws_eqBeliefs w' [(.int .i64 aB.Nodes), v56] aB [(.int .i64 aB.Nodes), v73] aB (rd_own (k := 6) hs rfl) (rd_own (k := 0) hs rfl))) ?_)
          refine tZ rfl ?_
          refine tk 4 rfl (by kernel_rfl) (by kernel_rfl) (by kernel_rfl) rfl (fun _ hs => hs.pk [1, 2, 3, 4, 5, 6, 7, 8, 9, 10] rfl rfl) (rp rfl) ?_
          refine tE (by kernel_rfl) ?_
          refine x_then ?_
          refine D_H ([ov [(.int .i64 aB.Nodes), v73] (aB : Beliefs), bx g69 [(.int .i64 ((addR aB aR).Nodes)), v67], ov [(.int .i64 ((addR aB aR).Nodes)), v67] (addR aB aR : Beliefs), bx g64 [(.int .i64 aR.For), v60, v61], ov [(.int .i64 aR.For), v60, v61] (aR : Reason), bx g58 [(.int .i64 aB.Nodes), v56], ov [(.int .i64 aB.Nodes), v56] (aB : Beliefs), bx g26 [(.int .i64 ((addR aB aR).Nodes)), v24], ov [(.int .i64 ((addR aB aR).Nodes)), v24] (addR aB aR : Beliefs), bx g11 [(.int .i64 aR.For), u4, u6], bx g10 [(.int .i64 aB.Nodes), u1]]) rfl ?_
          refine C_if _ rfl (fun h75 => ?_) (fun h75 => ?_)
          · have h75n : (decide (aB = aB)) = false := not_t h75
            refine C_seq ?_
            refine C_reg ?_
            refine p1 rfl ?_
            refine D_end ?_
            refine x_then ?_
            refine C_ret ?_
            refine x_then_ret ?_
            refine R_1 rfl rfl fun w' hs => ⟨congrArg (fun z => Ending.returned (Value.bool z)) ?_, hs.bel⟩
            show (false : Bool) = true
            first | rfl | (exfalso; omega) | (exfalso; simp only [mapS_len, sumB_mk, sumR_mk] at *; omega) | exact absurd h75 (by simp [mapS_len])
          · have h75n : (decide (aB = aB)) = true := not_f h75
            refine C_skip ?_
            refine x_then ?_
            refine C_seq ?_
            refine C_seq ?_
            refine C_draw mixed [3] (by kernel_rfl) ?_
            refine tk 0 rfl (by kernel_rfl) (by kernel_rfl) (by kernel_rfl) rfl (fun _ hs => hs) (lbw 3 a_45 rfl rfl rfl) ?_
            refine tk 1 rfl (by kernel_rfl) (by kernel_rfl) (by kernel_rfl) rfl (fun _ hs => hs) (lbw 9 a_41 rfl rfl rfl) ?_
            refine ty 2 rfl (by kernel_rfl) rfl (crs rfl b_23 rfl rfl rfl rfl (fun w' hs => (laws_toReason w' [(.int .i64 aR.For), u4, u6] aR (rd_at hs h_aR) (by first | assumption | omega | (unfold szm at *; split at * <;> omega)))) fun cs76 => ?_)
            refine D_pre (fun w' hs => shape_Reason (rd_own (k := 0) hs rfl)) ?_
            rintro ⟨v77, v78, rfl, ho79, ho80⟩
            refine tS (fun _ hs => hs.pk [1, 2, 3, 4, 5, 6, 7, 8, 9, 10, 11] rfl rfl) ?_
            refine ty 3 rfl (by kernel_rfl) rfl (cv b_25 rfl rfl rfl rfl (fun w' hs => (laws_eqReason w' [(.int .i64 aR.For), v60, v61] aR [(.int .i64 aR.For), v77, v78] aR (rd_own (k := 5) hs rfl) (rd_own (k := 0) hs rfl))) ?_)
            refine tZ rfl ?_
            refine tk 4 rfl (by kernel_rfl) (by kernel_rfl) (by kernel_rfl) rfl (fun _ hs => hs.pk [1, 2, 3, 4, 5, 6, 7, 8, 9, 10, 11] rfl rfl) (rp rfl) ?_
            refine tE (by kernel_rfl) ?_
            refine x_then ?_
            refine D_H ([ov [(.int .i64 aR.For), v77, v78] (aR : Reason), ov [(.int .i64 aB.Nodes), v73] (aB : Beliefs), bx g69 [(.int .i64 ((addR aB aR).Nodes)), v67], ov [(.int .i64 ((addR aB aR).Nodes)), v67] (addR aB aR : Beliefs), bx g64 [(.int .i64 aR.For), v60, v61], ov [(.int .i64 aR.For), v60, v61] (aR : Reason), bx g58 [(.int .i64 aB.Nodes), v56], ov [(.int .i64 aB.Nodes), v56] (aB : Beliefs), bx g26 [(.int .i64 ((addR aB aR).Nodes)), v24], ov [(.int .i64 ((addR aB aR).Nodes)), v24] (addR aB aR : Beliefs), bx g11 [(.int .i64 aR.For), u4, u6], bx g10 [(.int .i64 aB.Nodes), u1]]) rfl ?_
            refine C_if _ rfl (fun h81 => ?_) (fun h81 => ?_)
            · have h81n : (decide (aR = aR)) = false := not_t h81
              refine C_seq ?_
              refine C_reg ?_
              refine p1 rfl ?_
              refine D_end ?_
              refine x_then ?_
              refine D_weak [(4, (.bool false))] ⟨rfl, trivial⟩ ?_
              refine D_sel (H' := []) [false, false, false, false, false, false, false, false, false, false, false, false] rfl ?_
              refine C_ret ?_
              refine x_then_ret ?_
              refine R_1 rfl rfl fun w' hs => ⟨congrArg (fun z => Ending.returned (Value.bool z)) ?_, hs.bel⟩
              show (false : Bool) = true
              first | rfl | (exfalso; omega) | (exfalso; simp only [mapS_len, sumB_mk, sumR_mk] at *; omega) | exact absurd h81 (by simp [mapS_len])
            · have h81n : (decide (aR = aR)) = true := not_f h81
              refine C_skip ?_
              refine x_then ?_
              refine C_seq ?_
              refine C_reg ?_
              refine p1 rfl ?_
              refine D_end ?_
              refine x_then ?_
              refine C_seq ?_
              refine C_reg ?_
              refine q1 rfl (lbw 6 a_29 rfl rfl rfl) ?_
              refine p1 rfl ?_
              refine D_pk (H' := [ov [(.int .i64 aB.Nodes), v56] (aB : Beliefs), ov [(.int .i64 aR.For), v77, v78] (aR : Reason), ov [(.int .i64 aB.Nodes), v73] (aB : Beliefs), bx g69 [(.int .i64 ((addR aB aR).Nodes)), v67], ov [(.int .i64 ((addR aB aR).Nodes)), v67] (addR aB aR : Beliefs), bx g64 [(.int .i64 aR.For), v60, v61], ov [(.int .i64 aR.For), v60, v61] (aR : Reason), bx g58 [(.int .i64 aB.Nodes), v56], bx g26 [(.int .i64 ((addR aB aR).Nodes)), v24], ov [(.int .i64 ((addR aB aR).Nodes)), v24] (addR aB aR : Beliefs), bx g11 [(.int .i64 aR.For), u4, u6], bx g10 [(.int .i64 aB.Nodes), u1]]) [7, 0, 1, 2, 3, 4, 5, 6, 8, 9, 10, 11] rfl rfl ?_
              refine li rfl (cm b_16 rfl rfl rfl rfl (fun w' hs => laws_markBeliefs _ _ w' [(.int .i64 aB.Nodes), v56] aB 1 (by first | assumption | omega) (by first | assumption | omega) hs) ?_)
              refine p1 rfl ?_
              refine D_end ?_
              refine x_then ?_
              refine D_weak [(2, (.pointer (some ⟨g10, 0, none⟩))), (3, (.pointer (some ⟨g11, 0, none⟩))), (6, (.pointer (some ⟨g26, 0, none⟩))), (7, (.bool (addOk aB aR))), (9, (.pointer (some ⟨g64, 0, none⟩))), (10, (.pointer (some ⟨g69, 0, none⟩))), (11, (.bool (addOk aB aR))), (12, (.int .i64 (1 + sumC cR aB.Reasons)))] ⟨rfl, rfl, rfl, rfl, rfl, rfl, rfl, rfl, trivial⟩ ?_
              refine D_sel (H' := [bx g69 [(.int .i64 ((addR aB aR).Nodes)), v67], ov [(.int .i64 ((addR aB aR).Nodes)), v67] (addR aB aR : Beliefs), bx g64 [(.int .i64 aR.For), v60, v61], ov [(.int .i64 aR.For), v60, v61] (aR : Reason), bx g26 [(.int .i64 ((addR aB aR).Nodes)), v24], ov [(.int .i64 ((addR aB aR).Nodes)), v24] (addR aB aR : Beliefs), bx g11 [(.int .i64 aR.For), u4, u6], bx g10 [(.int .i64 aB.Nodes), u1]]) [false, false, false, true, true, true, true, false, true, true, true, true] rfl ?_
              refine C_seq ?_
              refine C_reg ?_
              refine q1 rfl (lbw 2 a_45 rfl rfl rfl) ?_
              refine p1 rfl ?_
              refine D_pk (H' := [ov [(.int .i64 aR.For), v60, v61] (aR : Reason), bx g69 [(.int .i64 ((addR aB aR).Nodes)), v67], ov [(.int .i64 ((addR aB aR).Nodes)), v67] (addR aB aR : Beliefs), bx g64 [(.int .i64 aR.For), v60, v61], bx g26 [(.int .i64 ((addR aB aR).Nodes)), v24], ov [(.int .i64 ((addR aB aR).Nodes)), v24] (addR aB aR : Beliefs), bx g11 [(.int .i64 aR.For), u4, u6], bx g10 [(.int .i64 aB.Nodes), u1]]) [3, 0, 1, 2, 4, 5, 6, 7] rfl rfl ?_
              refine li rfl (cm b_26 rfl rfl rfl rfl (fun w' hs => laws_markReason _ _ w' [(.int .i64 aR.For), v60, v61] aR (1 + sumC cR aB.Reasons) (by first | assumption | omega) (by first | assumption | omega) hs) ?_)
              refine p1 rfl ?_
              refine D_end ?_
              refine x_then ?_
              refine D_H ([ov [(.int .i64 aR.For), v60, v61] (mkR (1 + sumC cR aB.Reasons) aR : Reason), bx g69 [(.int .i64 ((addR aB aR).Nodes)), v67], ov [(.int .i64 ((addR aB aR).Nodes)), v67] (addR aB aR : Beliefs), bx g64 [(.int .i64 aR.For), v60, v61], bx g26 [(.int .i64 ((addR aB aR).Nodes)), v24], ov [(.int .i64 ((addR aB aR).Nodes)), v24] (addR aB aR : Beliefs), bx g11 [(.int .i64 aR.For), u4, u6], bx g10 [(.int .i64 aB.Nodes), u1]]) rfl ?_
              refine C_seq ?_
              refine C_seq ?_
              refine C_reg ?_
              refine p1 rfl <| p1 rfl <| p1 rfl ?_
              refine gs 72 rfl rfl (fun h82 => ?_) (fun h82 => ?_)
              · have pr82 : (((1 + sumC cR aB.Reasons) + cM aR) : Int) < 0 := of_decide_eq_true h82
                refine n1 rfl ?_
                refine n1 rfl ?_
                refine n1 rfl ?_
                refine n1 rfl ?_
                refine p1 rfl <| p1 rfl ?_
                refine n1 rfl ?_
                refine n1 rfl ?_
                refine n1 rfl ?_
                refine p1 rfl ?_
                refine D_end ?_
                refine x_then ?_
                refine D_weak [(2, (.pointer (some ⟨g10, 0, none⟩))), (3, (.pointer (some ⟨g11, 0, none⟩))), (6, (.pointer (some ⟨g26, 0, none⟩))), (7, (.bool (addOk aB aR))), (10, (.pointer (some ⟨g69, 0, none⟩))), (82, (.bool true))] ⟨rfl, rfl, rfl, rfl, rfl, rfl, trivial⟩ ?_
                refine D_sel (H' := [bx g69 [(.int .i64 ((addR aB aR).Nodes)), v67], ov [(.int .i64 ((addR aB aR).Nodes)), v67] (addR aB aR : Beliefs), bx g26 [(.int .i64 ((addR aB aR).Nodes)), v24], ov [(.int .i64 ((addR aB aR).Nodes)), v24] (addR aB aR : Beliefs), bx g11 [(.int .i64 aR.For), u4, u6], bx g10 [(.int .i64 aB.Nodes), u1]]) [false, true, true, false, true, true, true, true] rfl ?_
                refine C_t rfl ?_
                refine C_seq ?_
                refine C_reg ?_
                refine p1 rfl ?_
                refine D_end ?_
                refine x_then ?_
                refine C_ret ?_
                refine x_then_ret ?_
                refine R_1 rfl rfl fun w' hs => ⟨congrArg (fun z => Ending.returned (Value.bool z)) ?_, hs.bel⟩
                show (false : Bool) = true
                first | rfl | (exfalso; omega) | (exfalso; simp only [mapS_len, sumB_mk, sumR_mk] at *; omega) | exact absurd h82 (by simp [mapS_len])
              · have pr82 : ¬ (((1 + sumC cR aB.Reasons) + cM aR) : Int) < 0 := of_decide_eq_false h82
                refine q1 rfl (lbw 1 a_29 rfl rfl rfl) ?_
                refine q1 rfl (lbw 4 a_29 rfl rfl rfl) ?_
                refine li rfl (cv b_14 rfl rfl rfl rfl (fun w' hs => (laws_eqBeliefs w' [(.int .i64 ((addR aB aR).Nodes)), v67] (addR aB aR) [(.int .i64 ((addR aB aR).Nodes)), v24] (addR aB aR) (rd_own (k := 2) hs rfl) (rd_own (k := 5) hs rfl))) ?_)
                refine p1 rfl <| p1 rfl <| p1 rfl ?_
                refine gs 78 rfl rfl (fun h83 => ?_) (fun h83 => ?_)
                · have h83n : (decide ((addR aB aR) = (addR aB aR))) = false := not_t h83
                  refine n1 rfl ?_
                  refine n1 rfl ?_
                  refine n1 rfl ?_
                  refine p1 rfl ?_
                  refine D_end ?_
                  refine x_then ?_
                  refine D_weak [(2, (.pointer (some ⟨g10, 0, none⟩))), (3, (.pointer (some ⟨g11, 0, none⟩))), (6, (.pointer (some ⟨g26, 0, none⟩))), (7, (.bool (addOk aB aR))), (10, (.pointer (some ⟨g69, 0, none⟩))), (82, (.bool true))] ⟨rfl, rfl, rfl, rfl, rfl, rfl, trivial⟩ ?_
                  refine D_sel (H' := [bx g69 [(.int .i64 ((addR aB aR).Nodes)), v67], ov [(.int .i64 ((addR aB aR).Nodes)), v67] (addR aB aR : Beliefs), bx g26 [(.int .i64 ((addR aB aR).Nodes)), v24], ov [(.int .i64 ((addR aB aR).Nodes)), v24] (addR aB aR : Beliefs), bx g11 [(.int .i64 aR.For), u4, u6], bx g10 [(.int .i64 aB.Nodes), u1]]) [false, true, true, false, true, true, true, true] rfl ?_
                  refine C_t rfl ?_
                  refine C_seq ?_
                  refine C_reg ?_
                  refine p1 rfl ?_
                  refine D_end ?_
                  refine x_then ?_
                  refine C_ret ?_
                  refine x_then_ret ?_
                  refine R_1 rfl rfl fun w' hs => ⟨congrArg (fun z => Ending.returned (Value.bool z)) ?_, hs.bel⟩
                  show (false : Bool) = true
                  first | rfl | (exfalso; omega) | (exfalso; simp only [mapS_len, sumB_mk, sumR_mk] at *; omega) | exact absurd h83 (by simp [mapS_len])
                · have h83n : (decide ((addR aB aR) = (addR aB aR))) = true := not_f h83
                  refine p1 rfl <| p1 rfl ?_
                  refine q1 rfl (D_neB ub_4 rfl rfl rfl) ?_
                  refine p1 rfl ?_
                  refine D_end ?_
                  refine x_then ?_
                  refine D_weak [(2, (.pointer (some ⟨g10, 0, none⟩))), (3, (.pointer (some ⟨g11, 0, none⟩))), (6, (.pointer (some ⟨g26, 0, none⟩))), (7, (.bool (addOk aB aR))), (10, (.pointer (some ⟨g69, 0, none⟩))), (82, (.bool (!((addOk aB aR) == (addOk aB aR)))))] ⟨rfl, rfl, rfl, rfl, rfl, rfl, trivial⟩ ?_
                  refine D_sel (H' := [bx g69 [(.int .i64 ((addR aB aR).Nodes)), v67], ov [(.int .i64 ((addR aB aR).Nodes)), v67] (addR aB aR : Beliefs), bx g26 [(.int .i64 ((addR aB aR).Nodes)), v24], ov [(.int .i64 ((addR aB aR).Nodes)), v24] (addR aB aR : Beliefs), bx g11 [(.int .i64 aR.For), u4, u6], bx g10 [(.int .i64 aB.Nodes), u1]]) [false, true, true, false, true, true, true, true] rfl ?_
                  refine C_if _ rfl (fun h84 => ?_) (fun h84 => ?_)
                  · refine C_seq ?_
                    refine C_reg ?_
                    refine p1 rfl ?_
                    refine D_end ?_
                    refine x_then ?_
                    refine C_ret ?_
                    refine x_then_ret ?_
                    refine R_1 rfl rfl fun w' hs => ⟨congrArg (fun z => Ending.returned (Value.bool z)) ?_, hs.bel⟩
                    show (false : Bool) = true
                    first | rfl | (exfalso; omega) | (exfalso; simp only [mapS_len, sumB_mk, sumR_mk] at *; omega) | exact absurd h84 (by simp [mapS_len])
                  · have pr84 : (addOk aB aR) = (addOk aB aR) := beq_of_not h84
                    refine C_skip ?_
                    refine x_then ?_
                    refine C_seq ?_
                    refine C_reg ?_
                    refine p1 rfl ?_
                    refine D_end ?_
                    refine x_then ?_
                    refine C_seq ?_
                    refine C_reg ?_
                    refine q1 rfl (lbw 0 a_29 rfl rfl rfl) ?_
                    refine p1 rfl ?_
                    refine D_pk (H' := [ov [(.int .i64 ((addR aB aR).Nodes)), v67] (addR aB aR : Beliefs), bx g69 [(.int .i64 ((addR aB aR).Nodes)), v67], bx g26 [(.int .i64 ((addR aB aR).Nodes)), v24], ov [(.int .i64 ((addR aB aR).Nodes)), v24] (addR aB aR : Beliefs), bx g11 [(.int .i64 aR.For), u4, u6], bx g10 [(.int .i64 aB.Nodes), u1]]) [1, 0, 2, 3, 4, 5] rfl rfl ?_
                    refine li rfl (cm b_16 rfl rfl rfl rfl (fun w' hs => laws_markBeliefs _ _ w' [(.int .i64 ((addR aB aR).Nodes)), v67] (addR aB aR) 1 (by first | assumption | omega) (by first | assumption | omega) hs) ?_)
                    refine p1 rfl ?_
                    refine D_end ?_
                    refine x_then ?_
                    refine D_H ([ov [(.int .i64 ((addR aB aR).Nodes)), v67] (mkB 1 (addR aB aR) : Beliefs), bx g69 [(.int .i64 ((addR aB aR).Nodes)), v67], bx g26 [(.int .i64 ((addR aB aR).Nodes)), v24], ov [(.int .i64 ((addR aB aR).Nodes)), v24] (addR aB aR : Beliefs), bx g11 [(.int .i64 aR.For), u4, u6], bx g10 [(.int .i64 aB.Nodes), u1]]) rfl ?_
                    refine C_seq ?_
                    refine C_reg ?_
                    refine p1 rfl ?_
                    refine D_end ?_
                    refine x_then ?_
                    refine C_seq ?_
                    refine C_reg ?_
                    refine q1 rfl (lbw 1 a_29 rfl rfl rfl) ?_
                    refine p1 rfl ?_
                    refine li rfl (cv b_18 rfl rfl rfl rfl (fun w' hs => (laws_heldBeliefs w' [(.int .i64 ((addR aB aR).Nodes)), v67] (mkB 1 (addR aB aR)) 1 (rd_own (k := 0) hs rfl) (by first | assumption | omega | (unfold szm at *; split at * <;> omega)) (by rw [sumB_mk]; omega) (mkRs_idem _ _))) ?_)
                    refine p1 rfl ?_
                    refine D_end ?_
                    refine x_then ?_
                    refine C_seq ?_
                    refine C_seq ?_
                    refine C_reg ?_
                    refine p1 rfl <| p1 rfl ?_
                    refine D_end ?_
                    refine x_then ?_
                    refine C_if _ rfl (fun h85 => ?_) (fun h85 => ?_)
                    · have pr85 : ((1 + sumC cR (mkB 1 (addR aB aR)).Reasons) : Int) < 0 := of_decide_eq_true h85
                      refine C_seq ?_
                      refine C_reg ?_
                      refine p1 rfl ?_
                      refine D_end ?_
                      refine x_then ?_
                      refine D_weak [(4, (.bool false))] ⟨rfl, trivial⟩ ?_
                      refine D_sel (H' := []) [false, false, false, false, false, false] rfl ?_
                      refine C_ret ?_
                      refine x_then_ret ?_
                      refine R_1 rfl rfl fun w' hs => ⟨congrArg (fun z => Ending.returned (Value.bool z)) ?_, hs.bel⟩
                      show (false : Bool) = true
                      first | rfl | (exfalso; omega) | (exfalso; simp only [mapS_len, sumB_mk, sumR_mk] at *; omega) | exact absurd h85 (by simp [mapS_len])
                    · have pr85 : ¬ ((1 + sumC cR (mkB 1 (addR aB aR)).Reasons) : Int) < 0 := of_decide_eq_false h85
                      refine C_skip ?_
                      refine x_then ?_
                      refine C_seq ?_
                      refine C_seq ?_
                      refine C_reg ?_
                      refine p1 rfl <| p1 rfl <| p1 rfl ?_
                      refine D_end ?_
                      refine x_then ?_
                      refine C_if _ rfl (fun h86 => ?_) (fun h86 => ?_)
                      · have pr86 : ((1 + sumC cR (mkB 1 (addR aB aR)).Reasons) : Int) ≠ (1 + sumC cR (addR aB aR).Reasons) := bne_iff_ne.1 h86
                        refine C_seq ?_
                        refine C_reg ?_
                        refine p1 rfl ?_
                        refine D_end ?_
                        refine x_then ?_
                        refine D_weak [(4, (.bool false))] ⟨rfl, trivial⟩ ?_
                        refine D_sel (H' := []) [false, false, false, false, false, false] rfl ?_
                        refine C_ret ?_
                        refine x_then_ret ?_
                        refine R_1 rfl rfl fun w' hs => ⟨congrArg (fun z => Ending.returned (Value.bool z)) ?_, hs.bel⟩
                        show (false : Bool) = true
                        first | rfl | (exfalso; omega) | (exfalso; simp only [mapS_len, sumB_mk, sumR_mk] at *; omega) | exact absurd h86 (by simp [mapS_len])
                      · have pr86 : ((1 + sumC cR (mkB 1 (addR aB aR)).Reasons) : Int) = (1 + sumC cR (addR aB aR).Reasons) := eq_of_bne_f h86
                        refine C_skip ?_
                        refine x_then ?_
                        refine C_seq ?_
                        refine C_join (fun ac w' => ∃ (g99 : Nat), ∃ (v97 : Value), (v97.oneCell' = true) ∧ Fits ac 119 [(6, (.pointer (some ⟨g26, 0, none⟩))), (7, (.bool (addOk aB aR))), (10, (.pointer (some ⟨g69, 0, none⟩))), (13, (.int .i64 (1 + sumC cR (addR aB aR).Reasons))), (15, (.pointer (some ⟨g99, 0, none⟩))), (16, (.bool (addOk aB aR)))] ∧ St w ([bx g99 [(.int .i64 ((addR aB aR).Nodes)), v97], ov [(.int .i64 ((addR aB aR).Nodes)), v97] (addR aB aR : Beliefs), ov [(.int .i64 ((addR aB aR).Nodes)), v67] (mkB 1 (addR aB aR) : Beliefs), bx g69 [(.int .i64 ((addR aB aR).Nodes)), v67], bx g26 [(.int .i64 ((addR aB aR).Nodes)), v24], ov [(.int .i64 ((addR aB aR).Nodes)), v24] (addR aB aR : Beliefs), bx g11 [(.int .i64 aR.For), u4, u6], bx g10 [(.int .i64 aB.Nodes), u1]]) w') ?_ ?_
                        · refine C_draw mixed [] (by kernel_rfl) ?_
                          refine tk 0 rfl (by kernel_rfl) (by kernel_rfl) (by kernel_rfl) rfl (fun _ hs => hs) (lbw 5 a_24 rfl rfl rfl) ?_
                          refine tk 2 rfl (by kernel_rfl) (by kernel_rfl) (by kernel_rfl) rfl (fun _ hs => hs) (lbw 4 a_41 rfl rfl rfl) ?_
                          refine tyN [1, 8] rfl (by kernel_rfl) ⟨⟨_, rfl, rfl, ?_⟩, ⟨_, rfl, rfl, ?_⟩, trivial⟩
                          · refine id (crs rfl b_11 rfl rfl rfl rfl (fun w' hs => (laws_toBeliefs w' [(.int .i64 aB.Nodes), u1] aB (rd_at hs h_aB) (by first | assumption | omega | (unfold szm at *; split at * <;> omega)))) fun cs87 => ?_)
                            refine D_pre (fun w' hs => shape_Beliefs (rd_own (k := 0) hs rfl)) ?_
                            rintro ⟨v88, rfl, ho89⟩
                            refine tS (fun _ hs => hs.pk [1, 2, 3, 4, 5, 6] rfl rfl) ?_
                            refine tyN [3, 8] rfl (by kernel_rfl) ⟨⟨_, rfl, rfl, ?_⟩, ⟨_, rfl, rfl, ?_⟩, trivial⟩
                            · refine id (crs rfl b_23 rfl rfl rfl rfl (fun w' hs => (laws_toReason w' [(.int .i64 aR.For), u4, u6] aR (rd_at hs h_aR) (by first | assumption | omega | (unfold szm at *; split at * <;> omega)))) fun cs90 => ?_)
                              refine D_pre (fun w' hs => shape_Reason (rd_own (k := 0) hs rfl)) ?_
                              rintro ⟨v91, v92, rfl, ho93, ho94⟩
                              refine tS (fun _ hs => hs.pk [2, 3, 4, 5, 6, 7] rfl rfl) ?_
                              refine tyN [4, 8] rfl (by kernel_rfl) ⟨⟨_, rfl, rfl, ?_⟩, ⟨_, rfl, rfl, ?_⟩, trivial⟩
                              · refine id (cr2 b_24 rfl rfl rfl rfl (fun w' hs => (impl_AddReason w' [(.int .i64 aB.Nodes), v88] aB [(.int .i64 aR.For), v91, v92] aR (rd_own (k := 1) hs rfl) (rd_own (k := 0) hs rfl) (by first | assumption | omega | (unfold szm at *; split at * <;> omega)) (by first | assumption | omega | (unfold szm at *; split at * <;> omega)))) fun cs95 cs96 => ?_)
                                refine D_pre (fun w' hs => shape_Beliefs (rd_own (k := 0) hs rfl)) ?_
                                rintro ⟨v97, rfl, ho98⟩
                                refine D_pre (fun w' hs => show cs96 = [(.bool (addOk aB aR))] from rd_own (k := 1) hs rfl) ?_
                                rintro rfl
                                refine D_re 99 (v' := (.tuple #[(.agg #[(.int .i64 ((addR aB aR).Nodes)), v97]), (.bool (addOk aB aR))])) rfl rfl rfl ?_
                                refine D_pk (H' := [ov [(.int .i64 ((addR aB aR).Nodes)), v97] (addR aB aR : Beliefs), ov [(.int .i64 aR.For), v91, v92] (aR : Reason), ov [(.int .i64 aB.Nodes), v88] (aB : Beliefs), ov [(.int .i64 ((addR aB aR).Nodes)), v67] (mkB 1 (addR aB aR) : Beliefs), bx g69 [(.int .i64 ((addR aB aR).Nodes)), v67], bx g26 [(.int .i64 ((addR aB aR).Nodes)), v24], ov [(.int .i64 ((addR aB aR).Nodes)), v24] (addR aB aR : Beliefs), bx g11 [(.int .i64 aR.For), u4, u6], bx g10 [(.int .i64 aB.Nodes), u1]]) [0, 2, 3, 4, 5, 6, 7, 8, 9] rfl rfl ?_
                                refine tS (fun _ hs => hs.pk [3, 4, 5, 6, 7, 8] rfl rfl) ?_
                                refine tk 5 rfl (by kernel_rfl) (by kernel_rfl) (by kernel_rfl) rfl (fun _ hs => hs.pk [3, 4, 5, 6, 7, 8] rfl rfl) (rp rfl) ?_
                                refine tk 6 rfl (by kernel_rfl) (by kernel_rfl) (by kernel_rfl) rfl (fun _ hs => hs.pk [3, 4, 5, 6, 7, 8] rfl rfl) (rp rfl) ?_
                                refine tk 7 rfl (by kernel_rfl) (by kernel_rfl) (by kernel_rfl) rfl (fun _ hs => hs.pk [3, 4, 5, 6, 7, 8] rfl rfl) (rp rfl) ?_
                                refine ty 8 rfl (by kernel_rfl) rfl (D_alloc y_29 rfl rfl rfl rfl fun g99 => ?_)
                                refine tS (fun _ hs => hs.pk [4, 5, 6, 7, 8, 9] rfl rfl) ?_
                                refine ty 9 rfl (by kernel_rfl) rfl (D_stb (vs := [(.int .i64 ((addR aB aR).Nodes)), v97]) (cs' := [(.int .i64 ((addR aB aR).Nodes)), v97]) 0 z_29 rfl rfl rfl rfl rfl rfl (ocons rfl (ocons ho98 onil)) (by simp) rfl ?_)
                                refine tS (fun _ hs => hs.pk [4, 5, 6, 7, 8, 9] rfl rfl) ?_
                                refine tk 10 rfl (by kernel_rfl) (by kernel_rfl) (by kernel_rfl) rfl (fun _ hs => hs.pk [4, 5, 6, 7, 8, 9] rfl rfl) (rp rfl) ?_
                                refine tE (by kernel_rfl) ?_
                                refine x_then ?_
                                refine fun ac w' hf hs => ⟨g99, v97, ho98, hf.weak ⟨rfl, rfl, rfl, rfl, rfl, rfl, trivial⟩, hs.pk [0, 1, 4, 5, 6, 7, 8, 9] rfl rfl⟩
                              · refine id (D_alloc y_29 rfl rfl rfl rfl fun g100 => ?_)
                                refine tS (fun _ hs => hs.pk [3, 4, 5, 6, 7, 8] rfl rfl) ?_
                                refine ty 4 rfl (by kernel_rfl) rfl (cr2 b_24 rfl rfl rfl rfl (fun w' hs => (impl_AddReason w' [(.int .i64 aB.Nodes), v88] aB [(.int .i64 aR.For), v91, v92] aR (rd_own (k := 2) hs rfl) (rd_own (k := 1) hs rfl) (by first | assumption | omega | (unfold szm at *; split at * <;> omega)) (by first | assumption | omega | (unfold szm at *; split at * <;> omega)))) fun cs101 cs102 => ?_)
                                refine D_pre (fun w' hs => shape_Beliefs (rd_own (k := 0) hs rfl)) ?_
                                rintro ⟨v103, rfl, ho104⟩
                                refine D_pre (fun w' hs => show cs102 = [(.bool (addOk aB aR))] from rd_own (k := 1) hs rfl) ?_
                                rintro rfl
                                refine D_re 99 (v' := (.tuple #[(.agg #[(.int .i64 ((addR aB aR).Nodes)), v103]), (.bool (addOk aB aR))])) rfl rfl rfl ?_
                                refine D_pk (H' := [ov [(.int .i64 ((addR aB aR).Nodes)), v103] (addR aB aR : Beliefs), bx g100 [(.int .i64 0), (.slice none 0 0)], ov [(.int .i64 aR.For), v91, v92] (aR : Reason), ov [(.int .i64 aB.Nodes), v88] (aB : Beliefs), ov [(.int .i64 ((addR aB aR).Nodes)), v67] (mkB 1 (addR aB aR) : Beliefs), bx g69 [(.int .i64 ((addR aB aR).Nodes)), v67], bx g26 [(.int .i64 ((addR aB aR).Nodes)), v24], ov [(.int .i64 ((addR aB aR).Nodes)), v24] (addR aB aR : Beliefs), bx g11 [(.int .i64 aR.For), u4, u6], bx g10 [(.int .i64 aB.Nodes), u1]]) [0, 2, 3, 4, 5, 6, 7, 8, 9, 10] rfl rfl ?_
                                refine tS (fun _ hs => hs.pk [4, 5, 6, 7, 8, 9] rfl rfl) ?_
                                refine tk 5 rfl (by kernel_rfl) (by kernel_rfl) (by kernel_rfl) rfl (fun _ hs => hs.pk [4, 5, 6, 7, 8, 9] rfl rfl) (rp rfl) ?_
                                refine tk 6 rfl (by kernel_rfl) (by kernel_rfl) (by kernel_rfl) rfl (fun _ hs => hs.pk [4, 5, 6, 7, 8, 9] rfl rfl) (rp rfl) ?_
                                refine tk 7 rfl (by kernel_rfl) (by kernel_rfl) (by kernel_rfl) rfl (fun _ hs => hs.pk [4, 5, 6, 7, 8, 9] rfl rfl) (rp rfl) ?_
                                refine ty 9 rfl (by kernel_rfl) rfl (D_stb (vs := [(.int .i64 ((addR aB aR).Nodes)), v103]) (cs' := [(.int .i64 ((addR aB aR).Nodes)), v103]) 1 z_29 rfl rfl rfl rfl rfl rfl (ocons rfl (ocons ho104 onil)) (by simp) rfl ?_)
                                refine tS (fun _ hs => hs.pk [4, 5, 6, 7, 8, 9] rfl rfl) ?_
                                refine tk 10 rfl (by kernel_rfl) (by kernel_rfl) (by kernel_rfl) rfl (fun _ hs => hs.pk [4, 5, 6, 7, 8, 9] rfl rfl) (rp rfl) ?_
                                refine tE (by kernel_rfl) ?_
                                refine x_then ?_
                                refine fun ac w' hf hs => ⟨g100, v103, ho104, hf.weak ⟨rfl, rfl, rfl, rfl, rfl, rfl, trivial⟩, hs.pk [1, 0, 4, 5, 6, 7, 8, 9] rfl rfl⟩
                            · refine id (D_alloc y_29 rfl rfl rfl rfl fun g105 => ?_)
                              refine tS (fun _ hs => hs.pk [2, 3, 4, 5, 6, 7] rfl rfl) ?_
                              refine ty 3 rfl (by kernel_rfl) rfl (crs rfl b_23 rfl rfl rfl rfl (fun w' hs => (laws_toReason w' [(.int .i64 aR.For), u4, u6] aR (rd_at hs h_aR) (by first | assumption | omega | (unfold szm at *; split at * <;> omega)))) fun cs106 => ?_)
                              refine D_pre (fun w' hs => shape_Reason (rd_own (k := 0) hs rfl)) ?_
                              rintro ⟨v107, v108, rfl, ho109, ho110⟩
                              refine tS (fun _ hs => hs.pk [3, 4, 5, 6, 7, 8] rfl rfl) ?_
                              refine ty 4 rfl (by kernel_rfl) rfl (cr2 b_24 rfl rfl rfl rfl (fun w' hs => (impl_AddReason w' [(.int .i64 aB.Nodes), v88] aB [(.int .i64 aR.For), v107, v108] aR (rd_own (k := 2) hs rfl) (rd_own (k := 0) hs rfl) (by first | assumption | omega | (unfold szm at *; split at * <;> omega)) (by first | assumption | omega | (unfold szm at *; split at * <;> omega)))) fun cs111 cs112 => ?_)
                              refine D_pre (fun w' hs => shape_Beliefs (rd_own (k := 0) hs rfl)) ?_
                              rintro ⟨v113, rfl, ho114⟩
                              refine D_pre (fun w' hs => show cs112 = [(.bool (addOk aB aR))] from rd_own (k := 1) hs rfl) ?_
                              rintro rfl
                              refine D_re 99 (v' := (.tuple #[(.agg #[(.int .i64 ((addR aB aR).Nodes)), v113]), (.bool (addOk aB aR))])) rfl rfl rfl ?_
                              refine D_pk (H' := [ov [(.int .i64 ((addR aB aR).Nodes)), v113] (addR aB aR : Beliefs), ov [(.int .i64 aR.For), v107, v108] (aR : Reason), bx g105 [(.int .i64 0), (.slice none 0 0)], ov [(.int .i64 aB.Nodes), v88] (aB : Beliefs), ov [(.int .i64 ((addR aB aR).Nodes)), v67] (mkB 1 (addR aB aR) : Beliefs), bx g69 [(.int .i64 ((addR aB aR).Nodes)), v67], bx g26 [(.int .i64 ((addR aB aR).Nodes)), v24], ov [(.int .i64 ((addR aB aR).Nodes)), v24] (addR aB aR : Beliefs), bx g11 [(.int .i64 aR.For), u4, u6], bx g10 [(.int .i64 aB.Nodes), u1]]) [0, 2, 3, 4, 5, 6, 7, 8, 9, 10] rfl rfl ?_
                              refine tS (fun _ hs => hs.pk [4, 5, 6, 7, 8, 9] rfl rfl) ?_
                              refine tk 5 rfl (by kernel_rfl) (by kernel_rfl) (by kernel_rfl) rfl (fun _ hs => hs.pk [4, 5, 6, 7, 8, 9] rfl rfl) (rp rfl) ?_
                              refine tk 6 rfl (by kernel_rfl) (by kernel_rfl) (by kernel_rfl) rfl (fun _ hs => hs.pk [4, 5, 6, 7, 8, 9] rfl rfl) (rp rfl) ?_
                              refine tk 7 rfl (by kernel_rfl) (by kernel_rfl) (by kernel_rfl) rfl (fun _ hs => hs.pk [4, 5, 6, 7, 8, 9] rfl rfl) (rp rfl) ?_
                              refine ty 9 rfl (by kernel_rfl) rfl (D_stb (vs := [(.int .i64 ((addR aB aR).Nodes)), v113]) (cs' := [(.int .i64 ((addR aB aR).Nodes)), v113]) 2 z_29 rfl rfl rfl rfl rfl rfl (ocons rfl (ocons ho114 onil)) (by simp) rfl ?_)
                              refine tS (fun _ hs => hs.pk [4, 5, 6, 7, 8, 9] rfl rfl) ?_
                              refine tk 10 rfl (by kernel_rfl) (by kernel_rfl) (by kernel_rfl) rfl (fun _ hs => hs.pk [4, 5, 6, 7, 8, 9] rfl rfl) (rp rfl) ?_
                              refine tE (by kernel_rfl) ?_
                              refine x_then ?_
                              refine fun ac w' hf hs => ⟨g105, v113, ho114, hf.weak ⟨rfl, rfl, rfl, rfl, rfl, rfl, trivial⟩, hs.pk [2, 0, 4, 5, 6, 7, 8, 9] rfl rfl⟩
                          · refine id (D_alloc y_29 rfl rfl rfl rfl fun g115 => ?_)
                            refine tS (fun _ hs => hs.pk [1, 2, 3, 4, 5, 6] rfl rfl) ?_
                            refine ty 1 rfl (by kernel_rfl) rfl (crs rfl b_11 rfl rfl rfl rfl (fun w' hs => (laws_toBeliefs w' [(.int .i64 aB.Nodes), u1] aB (rd_at hs h_aB) (by first | assumption | omega | (unfold szm at *; split at * <;> omega)))) fun cs116 => ?_)
                            refine D_pre (fun w' hs => shape_Beliefs (rd_own (k := 0) hs rfl)) ?_
                            rintro ⟨v117, rfl, ho118⟩
                            refine tS (fun _ hs => hs.pk [2, 3, 4, 5, 6, 7] rfl rfl) ?_
                            refine ty 3 rfl (by kernel_rfl) rfl (crs rfl b_23 rfl rfl rfl rfl (fun w' hs => (laws_toReason w' [(.int .i64 aR.For), u4, u6] aR (rd_at hs h_aR) (by first | assumption | omega | (unfold szm at *; split at * <;> omega)))) fun cs119 => ?_)
                            refine D_pre (fun w' hs => shape_Reason (rd_own (k := 0) hs rfl)) ?_
                            rintro ⟨v120, v121, rfl, ho122, ho123⟩
                            refine tS (fun _ hs => hs.pk [3, 4, 5, 6, 7, 8] rfl rfl) ?_
                            refine ty 4 rfl (by kernel_rfl) rfl (cr2 b_24 rfl rfl rfl rfl (fun w' hs => (impl_AddReason w' [(.int .i64 aB.Nodes), v117] aB [(.int .i64 aR.For), v120, v121] aR (rd_own (k := 1) hs rfl) (rd_own (k := 0) hs rfl) (by first | assumption | omega | (unfold szm at *; split at * <;> omega)) (by first | assumption | omega | (unfold szm at *; split at * <;> omega)))) fun cs124 cs125 => ?_)
                            refine D_pre (fun w' hs => shape_Beliefs (rd_own (k := 0) hs rfl)) ?_
                            rintro ⟨v126, rfl, ho127⟩
                            refine D_pre (fun w' hs => show cs125 = [(.bool (addOk aB aR))] from rd_own (k := 1) hs rfl) ?_
                            rintro rfl
                            refine D_re 99 (v' := (.tuple #[(.agg #[(.int .i64 ((addR aB aR).Nodes)), v126]), (.bool (addOk aB aR))])) rfl rfl rfl ?_
                            refine D_pk (H' := [ov [(.int .i64 ((addR aB aR).Nodes)), v126] (addR aB aR : Beliefs), ov [(.int .i64 aR.For), v120, v121] (aR : Reason), ov [(.int .i64 aB.Nodes), v117] (aB : Beliefs), bx g115 [(.int .i64 0), (.slice none 0 0)], ov [(.int .i64 ((addR aB aR).Nodes)), v67] (mkB 1 (addR aB aR) : Beliefs), bx g69 [(.int .i64 ((addR aB aR).Nodes)), v67], bx g26 [(.int .i64 ((addR aB aR).Nodes)), v24], ov [(.int .i64 ((addR aB aR).Nodes)), v24] (addR aB aR : Beliefs), bx g11 [(.int .i64 aR.For), u4, u6], bx g10 [(.int .i64 aB.Nodes), u1]]) [0, 2, 3, 4, 5, 6, 7, 8, 9, 10] rfl rfl ?_
                            refine tS (fun _ hs => hs.pk [4, 5, 6, 7, 8, 9] rfl rfl) ?_
                            refine tk 5 rfl (by kernel_rfl) (by kernel_rfl) (by kernel_rfl) rfl (fun _ hs => hs.pk [4, 5, 6, 7, 8, 9] rfl rfl) (rp rfl) ?_
                            refine tk 6 rfl (by kernel_rfl) (by kernel_rfl) (by kernel_rfl) rfl (fun _ hs => hs.pk [4, 5, 6, 7, 8, 9] rfl rfl) (rp rfl) ?_
                            refine tk 7 rfl (by kernel_rfl) (by kernel_rfl) (by kernel_rfl) rfl (fun _ hs => hs.pk [4, 5, 6, 7, 8, 9] rfl rfl) (rp rfl) ?_
                            refine ty 9 rfl (by kernel_rfl) rfl (D_stb (vs := [(.int .i64 ((addR aB aR).Nodes)), v126]) (cs' := [(.int .i64 ((addR aB aR).Nodes)), v126]) 3 z_29 rfl rfl rfl rfl rfl rfl (ocons rfl (ocons ho127 onil)) (by simp) rfl ?_)
                            refine tS (fun _ hs => hs.pk [4, 5, 6, 7, 8, 9] rfl rfl) ?_
                            refine tk 10 rfl (by kernel_rfl) (by kernel_rfl) (by kernel_rfl) rfl (fun _ hs => hs.pk [4, 5, 6, 7, 8, 9] rfl rfl) (rp rfl) ?_
                            refine tE (by kernel_rfl) ?_
                            refine x_then ?_
                            refine fun ac w' hf hs => ⟨g115, v126, ho127, hf.weak ⟨rfl, rfl, rfl, rfl, rfl, rfl, trivial⟩, hs.pk [3, 0, 4, 5, 6, 7, 8, 9] rfl rfl⟩
                        rintro ac w' ⟨g99, v97, ho98, hf, hs⟩
                        refine D.use ?_ hf hs
                        clear hf hs ac w'
                        refine x_then ?_
                        refine D_H ([bx g99 [(.int .i64 ((addR aB aR).Nodes)), v97], ov [(.int .i64 ((addR aB aR).Nodes)), v97] (addR aB aR : Beliefs), ov [(.int .i64 ((addR aB aR).Nodes)), v67] (mkB 1 (addR aB aR) : Beliefs), bx g69 [(.int .i64 ((addR aB aR).Nodes)), v67], bx g26 [(.int .i64 ((addR aB aR).Nodes)), v24], ov [(.int .i64 ((addR aB aR).Nodes)), v24] (addR aB aR : Beliefs), bx g11 [(.int .i64 aR.For), u4, u6], bx g10 [(.int .i64 aB.Nodes), u1]]) rfl ?_
                        refine C_seq ?_
                        refine C_seq ?_
                        refine C_reg ?_
                        refine q1 rfl (lbw 0 a_29 rfl rfl rfl) ?_
                        refine q1 rfl (lbw 4 a_29 rfl rfl rfl) ?_
                        refine li rfl (cv b_14 rfl rfl rfl rfl (fun w' hs => (laws_eqBeliefs w' [(.int .i64 ((addR aB aR).Nodes)), v97] (addR aB aR) [(.int .i64 ((addR aB aR).Nodes)), v24] (addR aB aR) (rd_own (k := 1) hs rfl) (rd_own (k := 5) hs rfl))) ?_)
                        refine p1 rfl <| p1 rfl ?_
                        refine gs 106 rfl rfl (fun h128 => ?_) (fun h128 => ?_)
                        · have h128n : (decide ((addR aB aR) = (addR aB aR))) = false := not_t h128
                          refine n1 rfl ?_
                          refine n1 rfl ?_
                          refine n1 rfl ?_
                          refine p1 rfl ?_
                          refine D_end ?_
                          refine x_then ?_
                          refine C_t rfl ?_
                          refine C_seq ?_
                          refine C_reg ?_
                          refine p1 rfl ?_
                          refine D_end ?_
                          refine x_then ?_
                          refine D_weak [(4, (.bool false))] ⟨rfl, trivial⟩ ?_
                          refine D_sel (H' := []) [false, false, false, false, false, false, false, false] rfl ?_
                          refine C_ret ?_
                          refine x_then_ret ?_
                          refine R_1 rfl rfl fun w' hs => ⟨congrArg (fun z => Ending.returned (Value.bool z)) ?_, hs.bel⟩
                          show (false : Bool) = true
                          first | rfl | (exfalso; omega) | (exfalso; simp only [mapS_len, sumB_mk, sumR_mk] at *; omega) | exact absurd h128 (by simp [mapS_len])
                        · have h128n : (decide ((addR aB aR) = (addR aB aR))) = true := not_f h128
                          refine p1 rfl <| p1 rfl ?_
                          refine q1 rfl (D_neB ub_4 rfl rfl rfl) ?_
                          refine p1 rfl ?_
                          refine D_end ?_
                          refine x_then ?_
                          refine C_if _ rfl (fun h129 => ?_) (fun h129 => ?_)
                          · refine C_seq ?_
                            refine C_reg ?_
                            refine p1 rfl ?_
                            refine D_end ?_
                            refine x_then ?_
                            refine D_weak [(4, (.bool false))] ⟨rfl, trivial⟩ ?_
                            refine D_sel (H' := []) [false, false, false, false, false, false, false, false] rfl ?_
                            refine C_ret ?_
                            refine x_then_ret ?_
                            refine R_1 rfl rfl fun w' hs => ⟨congrArg (fun z => Ending.returned (Value.bool z)) ?_, hs.bel⟩
                            show (false : Bool) = true
                            first | rfl | (exfalso; omega) | (exfalso; simp only [mapS_len, sumB_mk, sumR_mk] at *; omega) | exact absurd h129 (by simp [mapS_len])
                          · have pr129 : (addOk aB aR) = (addOk aB aR) := beq_of_not h129
                            refine C_skip ?_
                            refine x_then ?_
                            refine C_seq ?_
                            refine C_reg ?_
                            refine p1 rfl ?_
                            refine D_end ?_
                            refine x_then ?_
                            refine C_seq ?_
                            refine C_reg ?_
                            refine q1 rfl (lbw 3 a_29 rfl rfl rfl) ?_
                            refine p1 rfl ?_
                            refine li rfl (cv b_18 rfl rfl rfl rfl (fun w' hs => (laws_heldBeliefs w' [(.int .i64 ((addR aB aR).Nodes)), v67] (mkB 1 (addR aB aR)) 1 (rd_own (k := 2) hs rfl) (by first | assumption | omega | (unfold szm at *; split at * <;> omega)) (by rw [sumB_mk]; omega) (mkRs_idem _ _))) ?_)
                            refine p1 rfl ?_
                            refine D_end ?_
                            refine x_then ?_
                            refine D_weak [(13, (.int .i64 (1 + sumC cR (addR aB aR).Reasons))), (14, (.int .i64 (1 + sumC cR (mkB 1 (addR aB aR)).Reasons)))] ⟨rfl, rfl, trivial⟩ ?_
                            refine D_sel (H' := []) [false, false, false, false, false, false, false, false] rfl ?_
                            refine C_seq ?_
                            refine C_seq ?_
                            refine C_reg ?_
                            refine p1 rfl <| p1 rfl ?_
                            refine D_end ?_
                            refine x_then ?_
                            refine C_if _ rfl (fun h130 => ?_) (fun h130 => ?_)
                            · have pr130 : ((1 + sumC cR (mkB 1 (addR aB aR)).Reasons) : Int) < 0 := of_decide_eq_true h130
                              refine C_seq ?_
                              refine C_reg ?_
                              refine p1 rfl ?_
                              refine D_end ?_
                              refine x_then ?_
                              refine C_ret ?_
                              refine x_then_ret ?_
                              refine R_1 rfl rfl fun w' hs => ⟨congrArg (fun z => Ending.returned (Value.bool z)) ?_, hs.bel⟩
                              show (false : Bool) = true
                              first | rfl | (exfalso; omega) | (exfalso; simp only [mapS_len, sumB_mk, sumR_mk] at *; omega) | exact absurd h130 (by simp [mapS_len])
                            · have pr130 : ¬ ((1 + sumC cR (mkB 1 (addR aB aR)).Reasons) : Int) < 0 := of_decide_eq_false h130
                              refine C_skip ?_
                              refine x_then ?_
                              refine C_seq ?_
                              refine C_seq ?_
                              refine C_reg ?_
                              refine p1 rfl <| p1 rfl <| p1 rfl ?_
                              refine D_end ?_
                              refine x_then ?_
                              refine C_if _ rfl (fun h131 => ?_) (fun h131 => ?_)
                              · have pr131 : ((1 + sumC cR (mkB 1 (addR aB aR)).Reasons) : Int) ≠ (1 + sumC cR (addR aB aR).Reasons) := bne_iff_ne.1 h131
                                refine C_seq ?_
                                refine C_reg ?_
                                refine p1 rfl ?_
                                refine D_end ?_
                                refine x_then ?_
                                refine C_ret ?_
                                refine x_then_ret ?_
                                refine R_1 rfl rfl fun w' hs => ⟨congrArg (fun z => Ending.returned (Value.bool z)) ?_, hs.bel⟩
                                show (false : Bool) = true
                                first | rfl | (exfalso; omega) | (exfalso; simp only [mapS_len, sumB_mk, sumR_mk] at *; omega) | exact absurd h131 (by simp [mapS_len])
                              · have pr131 : ((1 + sumC cR (mkB 1 (addR aB aR)).Reasons) : Int) = (1 + sumC cR (addR aB aR).Reasons) := eq_of_bne_f h131
                                refine C_skip ?_
                                refine x_then ?_
                                refine C_seq ?_
                                refine C_reg ?_
                                refine p1 rfl ?_
                                refine D_end ?_
                                refine x_then ?_
                                refine C_ret ?_
                                refine R_1 rfl rfl fun w' hs => ⟨congrArg (fun z => Ending.returned (Value.bool z)) ?_, hs.bel⟩
                                show (true : Bool) = true
                                first | rfl | (exfalso; omega) | (exfalso; simp only [mapS_len, sumB_mk, sumR_mk] at *; omega) | exact absurd h131 (by simp [mapS_len])
end Go.Sy.Belx
