/-
  Contracts of functions of the program, walked (printed by a program of ours).
  Conditions: those that each theorem states.
-/
import Derived.Test.YtagkjljaemfieaaBel1
set_option linter.unusedVariables false
set_option maxRecDepth 20000
namespace Go.Sy.Bel2
open Go Go.RowKit Go.Proofs Go.Sy
theorem mixed : Try.prog.follows .mixedOrders = true := by kernel_rfl
theorem f_28_1 : fieldOff Try.prog 28 1 = some 1 := by kernel_rfl
theorem o_23 : oneTy Try.prog 23 = true := by kernel_rfl
theorem s_23 : sliceTy Try.prog 23 = some (3, 1, 8) := by kernel_rfl
theorem f_28_2 : fieldOff Try.prog 28 2 = some 2 := by kernel_rfl
theorem a_25 : aggTy Try.prog 25 = some 3 := by kernel_rfl
theorem b_12 : hasBody Try.prog 12 = true := by kernel_rfl
theorem b_14 : hasBody Try.prog 14 = true := by kernel_rfl
theorem b_13 : hasBody Try.prog 13 = true := by kernel_rfl
theorem y_28 : zeroTy Try.prog 28 = some (.agg #[(.int .i64 0), (.slice none 0 0), (.slice none 0 0)]) := by kernel_rfl
theorem z_28 : sizeTy Try.prog 28 = some 3 := by kernel_rfl
theorem a_28 : aggTy Try.prog 28 = some 3 := by kernel_rfl
theorem b_15 : hasBody Try.prog 15 = true := by kernel_rfl
theorem ub_4 : Try.prog.underlying 4 = some .bool := by kernel_rfl
theorem b_16 : hasBody Try.prog 16 = true := by kernel_rfl
theorem a_34 : aggTy Try.prog 34 = some 2 := by kernel_rfl
theorem b_17 : hasBody Try.prog 17 = true := by kernel_rfl
theorem b_19 : hasBody Try.prog 19 = true := by kernel_rfl
theorem b_18 : hasBody Try.prog 18 = true := by kernel_rfl
theorem y_39 : zeroTy Try.prog 39 = some (.agg #[(.int .i64 0), (.slice none 0 0)]) := by kernel_rfl
theorem z_39 : sizeTy Try.prog 39 = some 2 := by kernel_rfl
theorem a_39 : aggTy Try.prog 39 = some 2 := by kernel_rfl
theorem b_20 : hasBody Try.prog 20 = true := by kernel_rfl
theorem b_21 : hasBody Try.prog 21 = true := by kernel_rfl
open Go.Sy.Bel1
theorem impl_IsPremise (w : World) (c_r : List Value) (r : Reason) (h_r : Gd.rd w c_r r) : Calls Try.prog 15 [(.agg c_r.toArray)].toArray w (Val w (.bool (isPremise r))) := by
  obtain ⟨u1, u3, rfl, hu2, hu4⟩ := open_Reason h_r
  refine enter 13 Try.func15 rfl rfl rfl ?_
  refine C_seq ?_
  refine C_reg ?_
  refine li rfl (D_box rfl rfl rfl rfl rfl fun g5 => ?_)
  refine p1 rfl ?_
  refine D_end ?_
  refine x_then ?_
  refine C_seq ?_
  refine C_reg ?_
  refine q1 rfl (D_fb f_28_1 rfl rfl (q := 1) rfl) ?_
  refine q1 rfl (lb 0 o_23 rfl rfl rfl rfl) ?_
  refine q1 rfl (D_len s_23 rfl rfl (rd_sl hu2)) ?_
  refine p1 rfl <| p1 rfl ?_
  refine gs 7 rfl rfl (fun h6 => ?_) (fun h6 => ?_)
  · have pr6 : ((r.In.length : Nat) : Int) = 0 := eq_of_beq h6
    refine q1 rfl (D_fb f_28_2 rfl rfl (q := 2) rfl) ?_
    refine q1 rfl (lb 0 o_23 rfl rfl rfl rfl) ?_
    refine q1 rfl (D_len s_23 rfl rfl (rd_sl hu4)) ?_
    refine p1 rfl <| p1 rfl <| p1 rfl ?_
    refine D_end ?_
    refine x_then ?_
    refine C_ret ?_
    refine R_1 rfl rfl fun w' hs => ⟨congrArg (fun z => Ending.returned (Value.bool z)) ?_, hs.bel⟩
    show (((r.Out.length : Nat) : Int) == 0) = isPremise r
    rw [Bool.eq_iff_iff]; simp_all [isPremise]; try omega
  · have pr6 : ((r.In.length : Nat) : Int) ≠ 0 := ne_of_beq_false h6
    refine n1 rfl ?_
    refine n1 rfl ?_
    refine n1 rfl ?_
    refine n1 rfl ?_
    refine p1 rfl <| p1 rfl ?_
    refine D_end ?_
    refine x_then ?_
    refine C_ret ?_
    refine R_1 rfl rfl fun w' hs => ⟨congrArg (fun z => Ending.returned (Value.bool z)) ?_, hs.bel⟩
    show false = isPremise r
    rw [Bool.eq_iff_iff]; simp_all [isPremise]; try omega

theorem spec_IsPremise (w : World) (c_r : List Value) (r : Reason) (h_r : Gd.rd w c_r r) : Calls Try.prog 13 [(.agg c_r.toArray)].toArray w (Val w (.bool (isPremise r))) := by
  obtain ⟨u1, u3, rfl, hu2, hu4⟩ := open_Reason h_r
  refine enter 13 Try.func13 rfl rfl rfl ?_
  refine C_seq ?_
  refine C_reg ?_
  refine li rfl (D_box rfl rfl rfl rfl rfl fun g5 => ?_)
  refine p1 rfl ?_
  refine D_end ?_
  refine x_then ?_
  refine C_seq ?_
  refine C_reg ?_
  refine q1 rfl (D_fb f_28_1 rfl rfl (q := 1) rfl) ?_
  refine q1 rfl (lb 0 o_23 rfl rfl rfl rfl) ?_
  refine q1 rfl (D_len s_23 rfl rfl (rd_sl hu2)) ?_
  refine p1 rfl <| p1 rfl ?_
  refine gs 7 rfl rfl (fun h6 => ?_) (fun h6 => ?_)
  · have pr6 : ((r.In.length : Nat) : Int) = 0 := eq_of_beq h6
    refine q1 rfl (D_fb f_28_2 rfl rfl (q := 2) rfl) ?_
    refine q1 rfl (lb 0 o_23 rfl rfl rfl rfl) ?_
    refine q1 rfl (D_len s_23 rfl rfl (rd_sl hu4)) ?_
    refine p1 rfl <| p1 rfl <| p1 rfl ?_
    refine D_end ?_
    refine x_then ?_
    refine C_ret ?_
    refine R_1 rfl rfl fun w' hs => ⟨congrArg (fun z => Ending.returned (Value.bool z)) ?_, hs.bel⟩
    show (((r.Out.length : Nat) : Int) == 0) = isPremise r
    rw [Bool.eq_iff_iff]; simp_all [isPremise]; try omega
  · have pr6 : ((r.In.length : Nat) : Int) ≠ 0 := ne_of_beq_false h6
    refine n1 rfl ?_
    refine n1 rfl ?_
    refine n1 rfl ?_
    refine n1 rfl ?_
    refine p1 rfl <| p1 rfl ?_
    refine D_end ?_
    refine x_then ?_
    refine C_ret ?_
    refine R_1 rfl rfl fun w' hs => ⟨congrArg (fun z => Ending.returned (Value.bool z)) ?_, hs.bel⟩
    show false = isPremise r
    rw [Bool.eq_iff_iff]; simp_all [isPremise]; try omega

theorem laws_FnExactIsPremise (w : World) (c_aR : List Value) (aR : Reason) (h_aR : Gd.rd w c_aR aR) : Calls Try.prog 4 [(.agg c_aR.toArray)].toArray w (Val w (.bool (true))) := by
  obtain ⟨u1, u3, rfl, hu2, hu4⟩ := open_Reason h_aR
  refine enter 27 Try.func4 rfl rfl rfl ?_
  refine C_seq ?_
  refine C_reg ?_
  refine li rfl (D_box rfl rfl rfl rfl rfl fun g5 => ?_)
  refine p1 rfl ?_
  refine D_end ?_
  refine x_then ?_
  refine C_seq ?_
  refine C_reg ?_
  refine p1 rfl ?_
  refine D_end ?_
  refine x_then ?_
  refine C_seq ?_
  refine C_reg ?_
  refine q1 rfl (lbw 0 a_25 rfl rfl rfl) ?_
  refine p1 rfl ?_
  refine li rfl (cv b_12 rfl rfl rfl rfl (fun w' hs => (laws_szReason w' [(.int .i64 aR.For), u1, u3] aR 1048576 (rd_at hs h_aR) (by first | assumption | omega | (unfold szm at *; split at * <;> omega)) (by first | assumption | omega | (unfold szm at *; split at * <;> omega)))) ?_)
  refine p1 rfl ?_
  refine D_end ?_
  refine x_then ?_
  refine C_seq ?_
  refine C_seq ?_
  refine C_reg ?_
  refine p1 rfl <| p1 rfl ?_
  refine D_end ?_
  refine x_then ?_
  refine C_if _ rfl (fun h6 => ?_) (fun h6 => ?_)
  · have pr6 : (szm (szR aR) 1048576) < 0 := of_decide_eq_true h6
    refine C_seq ?_
    refine C_reg ?_
    refine p1 rfl ?_
    refine D_end ?_
    refine x_then ?_
    refine C_ret ?_
    refine x_then_ret ?_
    refine R_1 rfl rfl fun w' hs => ⟨congrArg (fun z => Ending.returned (Value.bool z)) ?_, hs.bel⟩
    show true = true
    first | rfl | exact absurd h6 (by simp)
  · have pr6 : ¬ (szm (szR aR) 1048576) < 0 := of_decide_eq_false h6
    refine C_skip ?_
    refine x_then ?_
    refine C_seq ?_
    refine C_reg ?_
    have hz := szm_le (n := szR aR) (left := 1048576) (by omega)
    refine q1 rfl (lbw 0 a_25 rfl rfl rfl) ?_
    refine li rfl (crs rfl b_14 rfl rfl rfl rfl (fun w' hs => (laws_toReason w' [(.int .i64 aR.For), u1, u3] aR (rd_at hs h_aR) (by first | assumption | omega | (unfold szm at *; split at * <;> omega)))) fun cs7 => ?_)
    refine D_pre (fun w' hs => shape_Reason (rd_own (k := 0) hs rfl)) ?_
    rintro ⟨v8, v9, rfl, ho10, ho11⟩
    refine li rfl (cv b_13 rfl rfl rfl rfl (fun w' hs => (spec_IsPremise w' [(.int .i64 aR.For), v8, v9] aR (rd_own (k := 0) hs rfl))) ?_)
    refine p1 rfl ?_
    refine D_end ?_
    refine x_then ?_
    refine C_seq ?_
    refine C_reg ?_
    refine q1 rfl (lbw 1 a_25 rfl rfl rfl) ?_
    refine li rfl (crs rfl b_14 rfl rfl rfl rfl (fun w' hs => (laws_toReason w' [(.int .i64 aR.For), u1, u3] aR (rd_at hs h_aR) (by first | assumption | omega | (unfold szm at *; split at * <;> omega)))) fun cs12 => ?_)
    refine D_pre (fun w' hs => shape_Reason (rd_own (k := 0) hs rfl)) ?_
    rintro ⟨v13, v14, rfl, ho15, ho16⟩
    refine li rfl (D_alloc y_28 rfl rfl rfl rfl fun g17 => ?_)
    refine li rfl (D_stb (vs := [(.int .i64 aR.For), v13, v14]) (cs' := [(.int .i64 aR.For), v13, v14]) 0 z_28 rfl rfl rfl rfl rfl rfl (ocons rfl (ocons ho15 (ocons ho16 onil))) (by simp) rfl ?_)
    refine D_end ?_
    refine x_then ?_
    refine C_seq ?_
    refine C_reg ?_
    refine q1 rfl (lbw 0 a_28 rfl rfl rfl) ?_
    refine li rfl (cv b_15 rfl rfl rfl rfl (fun w' hs => (impl_IsPremise w' [(.int .i64 aR.For), v13, v14] aR (rd_own (k := 1) hs rfl))) ?_)
    refine p1 rfl ?_
    refine D_end ?_
    refine x_then ?_
    refine C_seq ?_
    refine C_seq ?_
    refine C_reg ?_
    refine p1 rfl <| p1 rfl ?_
    refine q1 rfl (D_neB ub_4 rfl rfl rfl) ?_
    refine D_end ?_
    refine x_then ?_
    refine C_if _ rfl (fun h18 => ?_) (fun h18 => ?_)
    · refine C_seq ?_
      refine C_reg ?_
      refine p1 rfl ?_
      refine D_end ?_
      refine x_then ?_
      refine C_ret ?_
      refine x_then_ret ?_
      refine R_1 rfl rfl fun w' hs => ⟨congrArg (fun z => Ending.returned (Value.bool z)) ?_, hs.bel⟩
      show false = true
      first | rfl | exact absurd h18 (by simp)
    · have pr18 : (isPremise aR) = (isPremise aR) := beq_of_not h18
      refine C_skip ?_
      refine x_then ?_
      refine C_seq ?_
      refine C_seq ?_
      refine C_draw mixed ?_
      refine tk 0 rfl (by kernel_rfl) (by kernel_rfl) (by kernel_rfl) rfl (fun _ hs => hs) (lbw 0 a_28 rfl rfl rfl) ?_
      refine tk 1 rfl (by kernel_rfl) (by kernel_rfl) (by kernel_rfl) rfl (fun _ hs => hs) (lbw 3 a_25 rfl rfl rfl) ?_
      refine ty 2 rfl (by kernel_rfl) rfl (crs rfl b_14 rfl rfl rfl rfl (fun w' hs => (laws_toReason w' [(.int .i64 aR.For), u1, u3] aR (rd_at hs h_aR) (by first | assumption | omega | (unfold szm at *; split at * <;> omega)))) fun cs19 => ?_)
      refine D_pre (fun w' hs => shape_Reason (rd_own (k := 0) hs rfl)) ?_
      rintro ⟨v20, v21, rfl, ho22, ho23⟩
      refine tS (fun _ hs => hs.picks [1, 1, 1, 1]) ?_
      refine ty 3 rfl (by kernel_rfl) rfl (cv b_16 rfl rfl rfl rfl (fun w' hs => (laws_eqReason w' [(.int .i64 aR.For), v13, v14] aR [(.int .i64 aR.For), v20, v21] aR (rd_own (k := 2) hs rfl) (rd_own (k := 0) hs rfl))) ?_)
      refine tS (fun _ hs => hs.picks [1, 1, 1, 1]) ?_
      refine tk 4 rfl (by kernel_rfl) (by kernel_rfl) (by kernel_rfl) rfl (fun _ hs => hs.picks [1, 1, 1, 1]) (rp rfl) ?_
      refine tE (by kernel_rfl) ?_
      refine x_then ?_
      refine C_if _ rfl (fun h24 => ?_) (fun h24 => ?_)
      · have h24n : (decide (aR = aR)) = false := not_t h24
        refine C_seq ?_
        refine C_reg ?_
        refine p1 rfl ?_
        refine D_end ?_
        refine x_then ?_
        refine C_ret ?_
        refine x_then_ret ?_
        refine R_1 rfl rfl fun w' hs => ⟨congrArg (fun z => Ending.returned (Value.bool z)) ?_, hs.bel⟩
        show false = true
        first | rfl | exact absurd h24 (by simp)
      · have h24n : (decide (aR = aR)) = true := not_f h24
        refine C_skip ?_
        refine x_then ?_
        refine C_seq ?_
        refine C_reg ?_
        refine p1 rfl ?_
        refine D_end ?_
        refine x_then ?_
        refine C_ret ?_
        refine R_1 rfl rfl fun w' hs => ⟨congrArg (fun z => Ending.returned (Value.bool z)) ?_, hs.bel⟩
        show true = true
        first | rfl | exact absurd h24 (by simp)

theorem laws_FnExactIsBeliefs (w : World) (c_aB : List Value) (aB : Beliefs) (h_aB : Gd.rd w c_aB aB) : Calls Try.prog 5 [(.agg c_aB.toArray)].toArray w (Val w (.bool (true))) := by
  obtain ⟨u1, rfl, hu2⟩ := open_Beliefs h_aB
  refine enter 27 Try.func5 rfl rfl rfl ?_
  refine C_seq ?_
  refine C_reg ?_
  refine li rfl (D_box rfl rfl rfl rfl rfl fun g3 => ?_)
  refine p1 rfl ?_
  refine D_end ?_
  refine x_then ?_
  refine C_seq ?_
  refine C_reg ?_
  refine p1 rfl ?_
  refine D_end ?_
  refine x_then ?_
  refine C_seq ?_
  refine C_reg ?_
  refine q1 rfl (lbw 0 a_34 rfl rfl rfl) ?_
  refine p1 rfl ?_
  refine li rfl (cv b_17 rfl rfl rfl rfl (fun w' hs => (laws_szBeliefs w' [(.int .i64 aB.Nodes), u1] aB 1048576 (rd_at hs h_aB) (by first | assumption | omega | (unfold szm at *; split at * <;> omega)) (by first | assumption | omega | (unfold szm at *; split at * <;> omega)))) ?_)
  refine p1 rfl ?_
  refine D_end ?_
  refine x_then ?_
  refine C_seq ?_
  refine C_seq ?_
  refine C_reg ?_
  refine p1 rfl <| p1 rfl ?_
  refine D_end ?_
  refine x_then ?_
  refine C_if _ rfl (fun h4 => ?_) (fun h4 => ?_)
  · have pr4 : (szm (szB aB) 1048576) < 0 := of_decide_eq_true h4
    refine C_seq ?_
    refine C_reg ?_
    refine p1 rfl ?_
    refine D_end ?_
    refine x_then ?_
    refine C_ret ?_
    refine x_then_ret ?_
    refine R_1 rfl rfl fun w' hs => ⟨congrArg (fun z => Ending.returned (Value.bool z)) ?_, hs.bel⟩
    show true = true
    first | rfl | exact absurd h4 (by simp [isBeliefsW_eq])
  · have pr4 : ¬ (szm (szB aB) 1048576) < 0 := of_decide_eq_false h4
    refine C_skip ?_
    refine x_then ?_
    refine C_seq ?_
    refine C_reg ?_
    have hz := szm_le (n := szB aB) (left := 1048576) (by omega)
    refine q1 rfl (lbw 0 a_34 rfl rfl rfl) ?_
    refine li rfl (crs rfl b_19 rfl rfl rfl rfl (fun w' hs => (laws_toBeliefs w' [(.int .i64 aB.Nodes), u1] aB (rd_at hs h_aB) (by first | assumption | omega | (unfold szm at *; split at * <;> omega)))) fun cs5 => ?_)
    refine D_pre (fun w' hs => shape_Beliefs (rd_own (k := 0) hs rfl)) ?_
    rintro ⟨v6, rfl, ho7⟩
    refine li rfl (cv b_18 rfl rfl rfl rfl (fun w' hs => (spec_IsBeliefs w' [(.int .i64 aB.Nodes), v6] aB (rd_own (k := 0) hs rfl))) ?_)
    refine p1 rfl ?_
    refine D_end ?_
    refine x_then ?_
    refine C_seq ?_
    refine C_reg ?_
    refine q1 rfl (lbw 1 a_34 rfl rfl rfl) ?_
    refine li rfl (crs rfl b_19 rfl rfl rfl rfl (fun w' hs => (laws_toBeliefs w' [(.int .i64 aB.Nodes), u1] aB (rd_at hs h_aB) (by first | assumption | omega | (unfold szm at *; split at * <;> omega)))) fun cs8 => ?_)
    refine D_pre (fun w' hs => shape_Beliefs (rd_own (k := 0) hs rfl)) ?_
    rintro ⟨v9, rfl, ho10⟩
    refine li rfl (D_alloc y_39 rfl rfl rfl rfl fun g11 => ?_)
    refine li rfl (D_stb (vs := [(.int .i64 aB.Nodes), v9]) (cs' := [(.int .i64 aB.Nodes), v9]) 0 z_39 rfl rfl rfl rfl rfl rfl (ocons rfl (ocons ho10 onil)) (by simp) rfl ?_)
    refine D_end ?_
    refine x_then ?_
    refine C_seq ?_
    refine C_reg ?_
    refine q1 rfl (lbw 0 a_39 rfl rfl rfl) ?_
    refine li rfl (cv b_20 rfl rfl rfl rfl (fun w' hs => (impl_IsBeliefs w' [(.int .i64 aB.Nodes), v9] aB (rd_own (k := 1) hs rfl))) ?_)
    refine p1 rfl ?_
    refine D_end ?_
    refine x_then ?_
    refine C_seq ?_
    refine C_seq ?_
    refine C_reg ?_
    refine p1 rfl <| p1 rfl ?_
    refine q1 rfl (D_neB ub_4 rfl rfl rfl) ?_
    refine D_end ?_
    refine x_then ?_
    refine C_if _ rfl (fun h12 => ?_) (fun h12 => ?_)
    · refine C_seq ?_
      refine C_reg ?_
      refine p1 rfl ?_
      refine D_end ?_
      refine x_then ?_
      refine C_ret ?_
      refine x_then_ret ?_
      refine R_1 rfl rfl fun w' hs => ⟨congrArg (fun z => Ending.returned (Value.bool z)) ?_, hs.bel⟩
      show false = true
      first | rfl | exact absurd h12 (by simp [isBeliefsW_eq])
    · have pr12 : (isBeliefs aB) = (isBeliefsW aB) := beq_of_not h12
      refine C_skip ?_
      refine x_then ?_
      refine C_seq ?_
      refine C_seq ?_
      refine C_draw mixed ?_
      refine tk 0 rfl (by kernel_rfl) (by kernel_rfl) (by kernel_rfl) rfl (fun _ hs => hs) (lbw 0 a_39 rfl rfl rfl) ?_
      refine tk 1 rfl (by kernel_rfl) (by kernel_rfl) (by kernel_rfl) rfl (fun _ hs => hs) (lbw 3 a_34 rfl rfl rfl) ?_
      refine ty 2 rfl (by kernel_rfl) rfl (crs rfl b_19 rfl rfl rfl rfl (fun w' hs => (laws_toBeliefs w' [(.int .i64 aB.Nodes), u1] aB (rd_at hs h_aB) (by first | assumption | omega | (unfold szm at *; split at * <;> omega)))) fun cs13 => ?_)
      refine D_pre (fun w' hs => shape_Beliefs (rd_own (k := 0) hs rfl)) ?_
      rintro ⟨v14, rfl, ho15⟩
      refine tS (fun _ hs => hs.picks [1, 1, 1, 1]) ?_
      refine ty 3 rfl (by kernel_rfl) rfl (cv b_21 rfl rfl rfl rfl (fun w' hs => (laws_eqBeliefs w' [(.int .i64 aB.Nodes), v9] aB [(.int .i64 aB.Nodes), v14] aB (rd_own (k := 2) hs rfl) (rd_own (k := 0) hs rfl))) ?_)
      refine tS (fun _ hs => hs.picks [1, 1, 1, 1]) ?_
      refine tk 4 rfl (by kernel_rfl) (by kernel_rfl) (by kernel_rfl) rfl (fun _ hs => hs.picks [1, 1, 1, 1]) (rp rfl) ?_
      refine tE (by kernel_rfl) ?_
      refine x_then ?_
      refine C_if _ rfl (fun h16 => ?_) (fun h16 => ?_)
      · have h16n : (decide (aB = aB)) = false := not_t h16
        refine C_seq ?_
        refine C_reg ?_
        refine p1 rfl ?_
        refine D_end ?_
        refine x_then ?_
        refine C_ret ?_
        refine x_then_ret ?_
        refine R_1 rfl rfl fun w' hs => ⟨congrArg (fun z => Ending.returned (Value.bool z)) ?_, hs.bel⟩
        show false = true
        first | rfl | exact absurd h16 (by simp [isBeliefsW_eq])
      · have h16n : (decide (aB = aB)) = true := not_f h16
        refine C_skip ?_
        refine x_then ?_
        refine C_seq ?_
        refine C_reg ?_
        refine p1 rfl ?_
        refine D_end ?_
        refine x_then ?_
        refine C_ret ?_
        refine R_1 rfl rfl fun w' hs => ⟨congrArg (fun z => Ending.returned (Value.bool z)) ?_, hs.bel⟩
        show true = true
        first | rfl | exact absurd h16 (by simp [isBeliefsW_eq])
end Go.Sy.Bel2
