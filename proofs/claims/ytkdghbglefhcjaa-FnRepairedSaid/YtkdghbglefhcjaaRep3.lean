/-
  Contracts of functions of the program, walked (printed by a program of ours).
  Conditions: those that each theorem states.
-/
import Derived.Test.YtkdghbglefhcjaaRep2
import Derived.Test.YtkdghbglefhcjaaRp
set_option linter.unusedVariables false
set_option maxRecDepth 20000
namespace Go.Sy.Rep3
open Go Go.RowKit Go.Proofs Go.Sy
theorem mixed : Try.prog.follows .mixedOrders = true := by kernel_rfl
theorem a_26 : aggTy Try.prog 26 = some 2 := by kernel_rfl
theorem b_18 : hasBody Try.prog 18 = true := by kernel_rfl
theorem s_27 : sliceTy Try.prog 27 = some (3, 1, 8) := by kernel_rfl
theorem b_32 : hasBody Try.prog 32 = true := by kernel_rfl
theorem b_25 : hasBody Try.prog 25 = true := by kernel_rfl
theorem b_24 : hasBody Try.prog 24 = true := by kernel_rfl
theorem y_3 : zeroTy Try.prog 3 = some (.int .i64 0) := by kernel_rfl
theorem y_37 : zeroTy Try.prog 37 = some (.slice none 0 0) := by kernel_rfl
theorem o_3 : oneTy Try.prog 3 = true := by kernel_rfl
theorem o_37 : oneTy Try.prog 37 = true := by kernel_rfl
theorem s_37 : sliceTy Try.prog 37 = some (27, 1, 24) := by kernel_rfl
theorem y_27 : zeroTy Try.prog 27 = some (.slice none 0 0) := by kernel_rfl
theorem z_37 : sizeTy Try.prog 37 = some 1 := by kernel_rfl
theorem b_33 : hasBody Try.prog 33 = true := by kernel_rfl
open Go.Sy.Bel1 Go.Sy.Bel2 Go.Sy.Bel3 Go.Sy.Bel4 Go.Sy.Bel5 Go.Sy.Bel6 Go.Sy.Bel7 Go.Sy.Bel8 Go.Sy.Bel9 Go.Sy.Belb Go.Sy.Beld Go.Sy.Sorts Go.Sy.Rep1 Go.Sy.Rep2
set_option maxHeartbeats 4000000 in
theorem impl_LeastRepairs (w : World) (c_b : List Value) (b : Beliefs) (v_bad : Value) (bad : (List Int)) (v_free : Value) (free : (List Int)) (h_b : Gd.rd w c_b b) (h_bad : Gd.rd w [v_bad] bad) (h_free : Gd.rd w [v_free] free) : Calls Try.prog 14 [(.agg c_b.toArray), v_bad, v_free].toArray w (Res w (leastR b bad free : List (List Int))) := by
  obtain ⟨u1, rfl, hu2⟩ := open_Beliefs h_b
  have hm3 := rd_max hu2
  have hm4 := rd_max h_bad
  have hm5 := rd_max h_free
  refine enter 79 Try.func14 rfl rfl rfl ?_
  refine C_seq ?_
  refine C_reg ?_
  refine li rfl (D_box rfl rfl rfl rfl rfl fun g6 => ?_)
  refine p1 rfl ?_
  refine D_end ?_
  refine x_then ?_
  refine D_H ([bx g6 [(.int .i64 b.Nodes), u1]]) rfl ?_
  refine C_seq ?_
  refine C_seq ?_
  refine C_reg ?_
  refine q1 rfl (lbw 0 a_26 rfl rfl rfl) ?_
  refine p1 rfl <| p1 rfl ?_
  refine li rfl (cv b_18 rfl rfl rfl rfl (fun w' hs => (impl_IsCase w' [(.int .i64 b.Nodes), u1] b v_bad bad v_free free (rd_at hs h_b) (rd_at hs h_bad) (rd_at hs h_free))) ?_)
  refine p1 rfl ?_
  refine D_end ?_
  refine x_then ?_
  refine C_if _ rfl (fun h7 => ?_) (fun h7 => ?_)
  · have h7n : (isCase b bad free) = false := not_t h7
    refine C_seq ?_
    refine C_reg ?_
    refine p1 rfl ?_
    refine D_end ?_
    refine x_then ?_
    refine C_ret ?_
    refine x_then_ret ?_
    refine D_nil (α := (List Int)) ?_
    refine R_1 rfl rfl fun w' hs => res_of (k := 0) hs rfl ?_
    show [] = leastR b bad free
    exact leastR_f h7n
  · have h7n : (isCase b bad free) = true := not_f h7
    refine C_skip ?_
    refine x_then ?_
    refine C_seq ?_
    have hcs : isCase b bad free = true := by assumption
    have hst := case_s hcs
    have hsol := strat_has hst
    have ho := isB_ok2 (strat_b hst)
    have hsz := szB_small (strat_b hst)
    have hbl := case_bl hcs
    have hfl := case_fl hcs
    have hrl : b.Reasons.length ≤ 1048576 := by have := isB_len (strat_b hst); omega
    have hsh := shl_rng hfl
    have hsl := setsR_len (b := b) (bad := bad) hfl
    refine C_reg ?_
    refine p1 rfl ?_
    refine D_end ?_
    refine x_then ?_
    refine C_seq ?_
    refine C_seq ?_
    refine C_reg ?_
    refine p1 rfl ?_
    refine q1 rfl (D_len s_27 rfl rfl (rd_sl h_free)) ?_
    refine q1 rfl (D_shl (k := free.length) rfl rfl rfl) ?_
    refine p1 rfl ?_
    refine D_end ?_
    refine x_then ?_
    refine C_block ?_
    refine C_loop (fun m_ ac w' => ∃ (k : Nat), ∃ (v : Value), ((k : Int) ≤ shlZ 1 free.length) ∧ m_ = (shlZ 1 free.length - k).toNat ∧ Fits ac 79 [(1, v_bad), (2, v_free), (3, (.pointer (some ⟨g6, 0, none⟩))), (7, v), (22, (.int .i64 (shlZ 1 free.length))), (23, (.int .i64 ((k : Nat) : Int)))] ∧ St w ([ov [v] (fidZ (okS b bad free) k : (List Int)), bx g6 [(.int .i64 b.Nodes), u1]]) w') ?_ ?_
    · refine D_nil (α := Int) ?_
      refine D_eq 0 rfl (show ([] : (List Int)) = fidZ (okS b bad free) 0 from by rfl) ?_
      refine fun ac w' hf hs => ⟨_, 0, (.slice none 0 0), ?_, rfl, hf.weak ⟨rfl, rfl, rfl, rfl, rfl, rfl, trivial⟩, hs⟩
      · first | assumption | omega | simp
    · rintro m_ ac w' ⟨k, v, hk, rfl, hf, hs⟩
      refine D.use ?_ hf hs
      clear hf hs ac w'
      have hcl := fidZ_len (okS b bad free) k
      refine C_seq ?_
      refine C_reg ?_
      refine p1 rfl ?_
      refine D_end ?_
      refine x_then ?_
      refine D_H ([ov [v] (fidZ (okS b bad free) k : (List Int)), bx g6 [(.int .i64 b.Nodes), u1]]) rfl ?_
      refine C_seq ?_
      refine C_if _ rfl (fun h8 => ?_) (fun h8 => ?_)
      · have pr8 : (((k : Nat) : Int) : Int) < (shlZ 1 free.length) := of_decide_eq_true h8
        refine C_skip ?_
        refine x_then ?_
        refine C_seq ?_
        refine C_block ?_
        refine C_seq ?_
        refine C_reg ?_
        refine p1 rfl <| p1 rfl ?_
        refine D_end ?_
        refine x_then ?_
        refine C_seq ?_
        refine C_draw mixed [6, 7, 8] (by kernel_rfl) ?_
        refine tk 0 rfl (by kernel_rfl) (by kernel_rfl) (by kernel_rfl) rfl (fun _ hs => hs) (lbw 1 a_26 rfl rfl rfl) ?_
        refine tk 1 rfl (by kernel_rfl) (by kernel_rfl) (by kernel_rfl) rfl (fun _ hs => hs) (rp rfl) ?_
        refine tk 2 rfl (by kernel_rfl) (by kernel_rfl) (by kernel_rfl) rfl (fun _ hs => hs) (rp rfl) ?_
        refine tk 5 rfl (by kernel_rfl) (by kernel_rfl) (by kernel_rfl) rfl (fun _ hs => hs) (rp rfl) ?_
        refine ty 3 rfl (by kernel_rfl) rfl (crl b_32 rfl rfl rfl rfl (fun w' hs => (impl_chosen w' v_free free ((k : Nat) : Int) (rd_at hs h_free) (by first | assumption | omega | (unfold szm at *; split at * <;> omega)))) fun v9 => ?_)
        refine tS (fun _ hs => hs.pk [1, 2] rfl rfl) ?_
        refine ty 4 rfl (by kernel_rfl) rfl (crs rfl b_25 rfl rfl rfl rfl (fun w' hs => (impl_DropReasons w' [(.int .i64 b.Nodes), u1] b v9 (chs free ((k : Nat) : Int)) (rd_at hs h_b) (rd_own (k := 0) hs rfl) (by first | assumption | omega | (unfold szm at *; split at * <;> omega)))) fun cs10 => ?_)
        refine D_pre (fun w' hs => shape_Beliefs (rd_own (k := 0) hs rfl)) ?_
        rintro ⟨v11, rfl, ho12⟩
        refine tS (fun _ hs => hs.pk [2, 3] rfl rfl) ?_
        refine ty 6 rfl (by kernel_rfl) rfl (crl b_24 rfl rfl rfl rfl (fun w' hs => (impl_badIn w' [(.int .i64 ((dropR b (chs free ((k : Nat) : Int))).Nodes)), v11] (dropR b (chs free ((k : Nat) : Int))) v_bad bad (rd_own (k := 0) hs rfl) (rd_at hs h_bad) ((dropR_sub b _).ok ho) ((dropR_sub b _).sol hsol) (Nat.le_trans (dropR_sub b _).2.1 hrl) (show asc bad b.Nodes = true from case_a hcs))) fun v13 => ?_)
        refine tZ rfl ?_
        refine ty 7 rfl (by kernel_rfl) rfl (sv rfl rfl (D_leno 0 s_27 rfl rfl rfl) ?_)
        refine tZ rfl ?_
        refine ty 8 rfl (by kernel_rfl) rfl (sv rfl rfl (rp rfl) ?_)
        refine tZ rfl ?_
        refine tE (by kernel_rfl) ?_
        refine x_then ?_
        refine D_H ([ov [v13] (badL (dropR b (chs free ((k : Nat) : Int))) bad : (List Int)), ov [(.int .i64 ((dropR b (chs free ((k : Nat) : Int))).Nodes)), v11] (dropR b (chs free ((k : Nat) : Int)) : Beliefs), ov [v9] (chs free ((k : Nat) : Int) : (List Int)), ov [v] (fidZ (okS b bad free) k : (List Int)), bx g6 [(.int .i64 b.Nodes), u1]]) rfl ?_
        refine C_if _ rfl (fun h14 => ?_) (fun h14 => ?_)
        · have pr14 : ((((badL (dropR b (chs free ((k : Nat) : Int))) bad).length : Nat) : Int) : Int) = 0 := eq_of_beq h14
          refine C_reg ?_
          refine p1 rfl <| p1 rfl ?_
          refine li rfl (D_bs s_27 y_3 rfl (by decide) (by decide) rfl rfl rfl rfl rfl rfl fun g15 => ?_)
          refine D_fi ((k : Nat) : Int) ?_
          refine D_pk (H' := [ov [v] (fidZ (okS b bad free) k : (List Int)), ov [(.int .i64 ((k : Nat) : Int))] (((k : Nat) : Int) : Int), bx g15 [(.int .i64 ((k : Nat) : Int))], ov [v13] (badL (dropR b (chs free ((k : Nat) : Int))) bad : (List Int)), ov [(.int .i64 ((dropR b (chs free ((k : Nat) : Int))).Nodes)), v11] (dropR b (chs free ((k : Nat) : Int)) : Beliefs), ov [v9] (chs free ((k : Nat) : Int) : (List Int)), bx g6 [(.int .i64 b.Nodes), u1]]) [5, 0, 1, 2, 3, 4, 6] rfl rfl ?_
          refine li rfl (D_ap s_27 y_3 rfl (by decide) rfl rfl rfl rfl rfl rfl (by first | omega | (simp; omega)) (by first | omega | (simp; omega)) fun v16 => ?_)
          refine p1 rfl ?_
          refine D_end ?_
          refine x_blk ?_
          refine x_then ?_
          refine D_weak [(1, v_bad), (2, v_free), (3, (.pointer (some ⟨g6, 0, none⟩))), (7, v16), (22, (.int .i64 (shlZ 1 free.length))), (23, (.int .i64 ((k : Nat) : Int)))] ⟨rfl, rfl, rfl, rfl, rfl, rfl, trivial⟩ ?_
          refine D_sel (H' := [ov [v16] ((fidZ (okS b bad free) k) ++ [((k : Nat) : Int)] : (List Int)), bx g6 [(.int .i64 b.Nodes), u1]]) [true, false, false, false, true] rfl ?_
          refine C_reg ?_
          refine q1 rfl (D_add rfl rfl rfl (r := ((k + 1 : Nat) : Int)) (by omega) (by omega)) ?_
          refine p1 rfl ?_
          refine D_end ?_
          refine x_then ?_
          refine D_eq 0 rfl (show ((fidZ (okS b bad free) k) ++ [((k : Nat) : Int)] : (List Int)) = fidZ (okS b bad free) (k + 1) from by first | exact fidZ_t h14 | exact fidZ_f h14) ?_
          refine fun ac w' hf hs => ⟨_, ?_, k + 1, v16, ?_, rfl, hf.weak ⟨rfl, rfl, rfl, rfl, rfl, rfl, trivial⟩, hs⟩
          · omega
          · first | assumption | omega | simp
        · have pr14 : ((((badL (dropR b (chs free ((k : Nat) : Int))) bad).length : Nat) : Int) : Int) ≠ 0 := ne_of_beq_false h14
          refine C_skip ?_
          refine x_blk ?_
          refine x_then ?_
          refine C_reg ?_
          refine q1 rfl (D_add rfl rfl rfl (r := ((k + 1 : Nat) : Int)) (by omega) (by omega)) ?_
          refine p1 rfl ?_
          refine D_end ?_
          refine x_then ?_
          refine D_eq 3 rfl (show (fidZ (okS b bad free) k : (List Int)) = fidZ (okS b bad free) (k + 1) from by first | exact fidZ_t h14 | exact fidZ_f h14) ?_
          refine fun ac w' hf hs => ⟨_, ?_, k + 1, v, ?_, rfl, hf.weak ⟨rfl, rfl, rfl, rfl, rfl, rfl, trivial⟩, hs.pk [3, 4] rfl rfl⟩
          · omega
          · first | assumption | omega | simp
      · have pr8 : ¬ (((k : Nat) : Int) : Int) < (shlZ 1 free.length) := of_decide_eq_false h8
        refine C_exit ?_
        refine x_then_exit ?_
        refine x_then_exit ?_
        refine x_blk_eq ?_
        refine x_then ?_
        refine C_seq ?_
        refine C_reg ?_
        refine li rfl (D_alloc y_37 rfl rfl rfl rfl fun g17 => ?_)
        refine D_end ?_
        refine x_then ?_
        refine D_H ([bx g17 [(.slice none 0 0)], ov [v] (fidZ (okS b bad free) k : (List Int)), bx g6 [(.int .i64 b.Nodes), u1]]) rfl ?_
        refine C_seq ?_
        refine C_seq ?_
        refine C_reg ?_
        refine p1 rfl ?_
        refine q1 rfl (D_leno 1 s_27 rfl rfl rfl) ?_
        refine p1 rfl ?_
        refine D_end ?_
        refine x_then ?_
        refine C_block ?_
        have hse : (fidZ (okS b bad free) k).length = (setsR b bad free).length := by rw [show k = (shlZ 1 free.length).toNat from by omega]; rfl
        refine C_loop (fun m_ ac w' => ∃ (k2 : Nat), ∃ (v2 : Value), (k2 ≤ (setsR b bad free).length) ∧ m_ = (setsR b bad free).length - k2 ∧ Fits ac 79 [(2, v_free), (7, v), (9, (.pointer (some ⟨g17, 0, none⟩))), (40, v), (41, (.int .i64 (((fidZ (okS b bad free) k).length : Nat) : Int))), (42, (.int .i64 ((k2 : Nat) : Int)))] ∧ St w ([ov [v2] ((filtT (lsB (setsR b bad free)) (setsR b bad free) k2).map (chs free) : (List (List Int))), bx g17 [v2], ov [v] (setsR b bad free : (List Int)), bx g6 [(.int .i64 b.Nodes), u1]]) w') ?_ ?_
        · refine D_nil (α := (List Int)) ?_
          refine D_eq 0 rfl (show ([] : (List (List Int))) = (filtT (lsB (setsR b bad free)) (setsR b bad free) 0).map (chs free) from by rfl) ?_
          refine D_eq 2 rfl (show (fidZ (okS b bad free) k : (List Int)) = setsR b bad free from by rw [show k = (shlZ 1 free.length).toNat by omega]; rfl) ?_
          refine fun ac w' hf hs => ⟨_, 0, (.slice none 0 0), ?_, rfl, hf.weak ⟨rfl, rfl, rfl, rfl, rfl, rfl, trivial⟩, hs⟩
          · first | assumption | omega | simp
        · rintro m_ ac w' ⟨k2, v2, hk2, rfl, hf, hs⟩
          refine D.use ?_ hf hs
          clear hf hs ac w'
          have hcl2 := filtT_len (lsB (setsR b bad free)) (setsR b bad free) k2
          refine C_seq ?_
          refine C_reg ?_
          refine p1 rfl ?_
          refine D_end ?_
          refine x_then ?_
          refine D_H ([ov [v2] ((filtT (lsB (setsR b bad free)) (setsR b bad free) k2).map (chs free) : (List (List Int))), bx g17 [v2], ov [v] (setsR b bad free : (List Int)), bx g6 [(.int .i64 b.Nodes), u1]]) rfl ?_
          refine C_seq ?_
          refine C_if _ rfl (fun h18 => ?_) (fun h18 => ?_)
          · have pr18 : (((k2 : Nat) : Int) : Int) < (((fidZ (okS b bad free) k).length : Nat) : Int) := of_decide_eq_true h18
            refine C_skip ?_
            refine x_then ?_
            refine C_seq ?_
            refine C_block ?_
            refine C_seq ?_
            refine C_reg ?_
            obtain ⟨s0, hs0⟩ := some_of_lt (l := (setsR b bad free)) (i := k2) (by omega)
            refine q1 rfl (D_ix (l := (setsR b bad free)) (j := k2) s_27 rfl rfl rfl (fun w' hs => (rd_own (k := 2) hs rfl)) rfl (lt_of_some hs0)) ?_
            refine q1 rfl (lo (α := Int) 2 o_3 rfl rfl rfl hs0) ?_
            refine p1 rfl ?_
            refine D_end ?_
            refine x_then ?_
            refine C_seq ?_
            refine C_reg ?_
            refine p1 rfl ?_
            refine D_end ?_
            refine x_then ?_
            refine C_seq ?_
            refine C_seq ?_
            refine C_reg ?_
            refine p1 rfl ?_
            refine q1 rfl (D_leno 2 s_27 rfl rfl rfl) ?_
            refine p1 rfl ?_
            refine D_end ?_
            refine x_then ?_
            refine C_block ?_
            refine C_loop (fun m_ ac w' => ∃ (q : Nat), ∃ (le : Bool), (q ≤ (setsR b bad free).length) ∧ (le = lsT (setsR b bad free) s0 q) ∧ m_ = (setsR b bad free).length - q ∧ Fits ac 79 [(2, v_free), (7, v), (9, (.pointer (some ⟨g17, 0, none⟩))), (11, (.int .i64 s0)), (12, (.bool le)), (40, v), (41, (.int .i64 (((fidZ (okS b bad free) k).length : Nat) : Int))), (42, (.int .i64 ((k2 : Nat) : Int))), (46, v), (47, (.int .i64 (((setsR b bad free).length : Nat) : Int))), (48, (.int .i64 ((q : Nat) : Int)))] ∧ St w ([ov [v2] ((filtT (lsB (setsR b bad free)) (setsR b bad free) k2).map (chs free) : (List (List Int))), bx g17 [v2], ov [v] (setsR b bad free : (List Int)), bx g6 [(.int .i64 b.Nodes), u1]]) w') ?_ ?_
            · refine D_nil (α := (List Int)) ?_
              refine fun ac w' hf hs => ⟨_, 0, true, ?_, ?_, rfl, hf.weak ⟨rfl, rfl, rfl, rfl, rfl, rfl, rfl, rfl, rfl, rfl, rfl, trivial⟩, hs.pk [1, 2, 3, 4] rfl rfl⟩
              · first | assumption | omega | simp
              · rfl
            · rintro m_ ac w' ⟨q, le, hq, hle, rfl, hf, hs⟩
              refine D.use ?_ hf hs
              clear hf hs ac w'
              refine C_seq ?_
              refine C_reg ?_
              refine p1 rfl ?_
              refine D_end ?_
              refine x_then ?_
              refine C_seq ?_
              refine C_if _ rfl (fun h19 => ?_) (fun h19 => ?_)
              · have pr19 : (((q : Nat) : Int) : Int) < (((setsR b bad free).length : Nat) : Int) := of_decide_eq_true h19
                refine C_skip ?_
                refine x_then ?_
                refine C_seq ?_
                refine C_block ?_
                refine C_seq ?_
                refine C_reg ?_
                obtain ⟨t0, ht0⟩ := some_of_lt (l := (setsR b bad free)) (i := q) (by omega)
                refine q1 rfl (D_ix (l := (setsR b bad free)) (j := q) s_27 rfl rfl rfl (fun w' hs => (rd_own (k := 2) hs rfl)) rfl (lt_of_some ht0)) ?_
                refine q1 rfl (lo (α := Int) 2 o_3 rfl rfl rfl ht0) ?_
                refine p1 rfl ?_
                refine D_end ?_
                refine x_then ?_
                refine C_reg ?_
                refine p1 rfl <| p1 rfl ?_
                refine gs 53 rfl rfl (fun h20 => ?_) (fun h20 => ?_)
                · refine p1 rfl <| p1 rfl <| p1 rfl <| p1 rfl ?_
                  refine gs 57 rfl rfl (fun h21 => ?_) (fun h21 => ?_)
                  · have pr21 : (t0 : Int) = s0 := eq_of_beq h21
                    refine n1 rfl ?_
                    refine n1 rfl ?_
                    refine n1 rfl ?_
                    refine n1 rfl ?_
                    refine n1 rfl ?_
                    refine p1 rfl <| p1 rfl <| p1 rfl ?_
                    refine D_end ?_
                    refine x_blk ?_
                    refine x_then ?_
                    refine D_weak [(2, v_free), (7, v), (9, (.pointer (some ⟨g17, 0, none⟩))), (11, (.int .i64 s0)), (12, (.bool true)), (40, v), (41, (.int .i64 (((fidZ (okS b bad free) k).length : Nat) : Int))), (42, (.int .i64 ((k2 : Nat) : Int))), (46, v), (47, (.int .i64 (((setsR b bad free).length : Nat) : Int))), (48, (.int .i64 ((q : Nat) : Int)))] ⟨rfl, rfl, rfl, rfl, rfl, rfl, rfl, rfl, rfl, rfl, rfl, trivial⟩ ?_
                    refine C_reg ?_
                    refine q1 rfl (D_add rfl rfl rfl (r := ((q + 1 : Nat) : Int)) (by omega) (by omega)) ?_
                    refine p1 rfl ?_
                    refine D_end ?_
                    refine x_then ?_
                    refine fun ac w' hf hs => ⟨_, ?_, q + 1, true, ?_, ?_, rfl, hf.weak ⟨rfl, rfl, rfl, rfl, rfl, rfl, rfl, rfl, rfl, rfl, rfl, trivial⟩, hs⟩
                    · omega
                    · first | assumption | omega | simp
                    · first | (refine lsT_step ht0 hle ?_; unfold lsO; rw [show le = true by assumption, show (t0 == s0) = false by assumption]; rfl) | (refine lsT_step ht0 hle ?_; unfold lsO; rw [show le = true by assumption, show (t0 == s0) = true by assumption]; rfl) | (obtain ⟨t0, ht0⟩ := some_of_lt (l := setsR b bad free) (i := q) (by omega); refine lsT_step ht0 hle ?_; rw [show le = false by assumption]; rfl)
                  · have pr21 : (t0 : Int) ≠ s0 := ne_of_beq_false h21
                    refine p1 rfl <| p1 rfl ?_
                    refine q1 rfl (D_and rfl rfl rfl) ?_
                    refine p1 rfl <| p1 rfl <| p1 rfl <| p1 rfl <| p1 rfl ?_
                    refine D_end ?_
                    refine x_blk ?_
                    refine x_then ?_
                    refine D_weak [(2, v_free), (7, v), (9, (.pointer (some ⟨g17, 0, none⟩))), (11, (.int .i64 s0)), (12, (.bool (((andZ t0 s0) : Int) != t0))), (40, v), (41, (.int .i64 (((fidZ (okS b bad free) k).length : Nat) : Int))), (42, (.int .i64 ((k2 : Nat) : Int))), (46, v), (47, (.int .i64 (((setsR b bad free).length : Nat) : Int))), (48, (.int .i64 ((q : Nat) : Int)))] ⟨rfl, rfl, rfl, rfl, rfl, rfl, rfl, rfl, rfl, rfl, rfl, trivial⟩ ?_
                    refine C_reg ?_
                    refine q1 rfl (D_add rfl rfl rfl (r := ((q + 1 : Nat) : Int)) (by omega) (by omega)) ?_
                    refine p1 rfl ?_
                    refine D_end ?_
                    refine x_then ?_
                    refine fun ac w' hf hs => ⟨_, ?_, q + 1, (((andZ t0 s0) : Int) != t0), ?_, ?_, rfl, hf.weak ⟨rfl, rfl, rfl, rfl, rfl, rfl, rfl, rfl, rfl, rfl, rfl, trivial⟩, hs⟩
                    · omega
                    · first | assumption | omega | simp
                    · first | (refine lsT_step ht0 hle ?_; unfold lsO; rw [show le = true by assumption, show (t0 == s0) = false by assumption]; rfl) | (refine lsT_step ht0 hle ?_; unfold lsO; rw [show le = true by assumption, show (t0 == s0) = true by assumption]; rfl) | (obtain ⟨t0, ht0⟩ := some_of_lt (l := setsR b bad free) (i := q) (by omega); refine lsT_step ht0 hle ?_; rw [show le = false by assumption]; rfl)
                · refine n1 rfl ?_
                  refine n1 rfl ?_
                  refine n1 rfl ?_
                  refine n1 rfl ?_
                  refine n1 rfl ?_
                  refine n1 rfl ?_
                  refine n1 rfl ?_
                  refine n1 rfl ?_
                  refine n1 rfl ?_
                  refine n1 rfl ?_
                  refine p1 rfl <| p1 rfl ?_
                  refine D_end ?_
                  refine x_blk ?_
                  refine x_then ?_
                  refine D_weak [(2, v_free), (7, v), (9, (.pointer (some ⟨g17, 0, none⟩))), (11, (.int .i64 s0)), (12, (.bool false)), (40, v), (41, (.int .i64 (((fidZ (okS b bad free) k).length : Nat) : Int))), (42, (.int .i64 ((k2 : Nat) : Int))), (46, v), (47, (.int .i64 (((setsR b bad free).length : Nat) : Int))), (48, (.int .i64 ((q : Nat) : Int)))] ⟨rfl, rfl, rfl, rfl, rfl, rfl, rfl, rfl, rfl, rfl, rfl, trivial⟩ ?_
                  refine C_reg ?_
                  refine q1 rfl (D_add rfl rfl rfl (r := ((q + 1 : Nat) : Int)) (by omega) (by omega)) ?_
                  refine p1 rfl ?_
                  refine D_end ?_
                  refine x_then ?_
                  refine fun ac w' hf hs => ⟨_, ?_, q + 1, false, ?_, ?_, rfl, hf.weak ⟨rfl, rfl, rfl, rfl, rfl, rfl, rfl, rfl, rfl, rfl, rfl, trivial⟩, hs⟩
                  · omega
                  · first | assumption | omega | simp
                  · first | (refine lsT_step ht0 hle ?_; unfold lsO; rw [show le = true by assumption, show (t0 == s0) = false by assumption]; rfl) | (refine lsT_step ht0 hle ?_; unfold lsO; rw [show le = true by assumption, show (t0 == s0) = true by assumption]; rfl) | (obtain ⟨t0, ht0⟩ := some_of_lt (l := setsR b bad free) (i := q) (by omega); refine lsT_step ht0 hle ?_; rw [show le = false by assumption]; rfl)
              · have pr19 : ¬ (((q : Nat) : Int) : Int) < (((setsR b bad free).length : Nat) : Int) := of_decide_eq_false h19
                refine C_exit ?_
                refine x_then_exit ?_
                refine x_then_exit ?_
                refine x_blk_eq ?_
                refine x_then ?_
                refine C_seq ?_
                refine C_reg ?_
                refine p1 rfl ?_
                refine D_end ?_
                refine x_then ?_
                refine C_if _ rfl (fun h22 => ?_) (fun h22 => ?_)
                · refine C_draw mixed [5, 6] (by kernel_rfl) ?_
                  refine tk 0 rfl (by kernel_rfl) (by kernel_rfl) (by kernel_rfl) rfl (fun _ hs => hs) (lb 1 o_37 rfl rfl rfl rfl) ?_
                  refine tk 1 rfl (by kernel_rfl) (by kernel_rfl) (by kernel_rfl) rfl (fun _ hs => hs) (rp rfl) ?_
                  refine tk 2 rfl (by kernel_rfl) (by kernel_rfl) (by kernel_rfl) rfl (fun _ hs => hs) (rp rfl) ?_
                  refine ty 3 rfl (by kernel_rfl) rfl (crl b_32 rfl rfl rfl rfl (fun w' hs => (impl_chosen w' v_free free s0 (rd_at hs h_free) (by first | assumption | omega | (unfold szm at *; split at * <;> omega)))) fun v23 => ?_)
                  refine tS (fun _ hs => hs.pk [1, 2, 3, 4] rfl rfl) ?_
                  refine D_pre (fun w' hs => one_own (k := 0) hs rfl) ?_
                  intro ho25
                  refine ty 4 rfl (by kernel_rfl) rfl (D_bs (cs := [v23]) s_37 y_27 rfl (by decide) (by decide) rfl rfl rfl rfl (cells_of_one ho25) rfl fun g24 => ?_)
                  refine tS (fun _ hs => hs.pk [2, 3, 4, 5] rfl rfl) ?_
                  refine D_pk (H' := [ov [v2] ((filtT (lsB (setsR b bad free)) (setsR b bad free) k2).map (chs free) : (List (List Int))), ov [v23] (chs free s0 : (List Int)), bx g24 [v23], bx g17 [v2], ov [v] (setsR b bad free : (List Int)), bx g6 [(.int .i64 b.Nodes), u1]]) [2, 1, 0, 3, 4, 5] rfl rfl ?_
                  refine ty 5 rfl (by kernel_rfl) rfl (D_ap s_37 y_27 rfl (by decide) rfl rfl rfl rfl rfl rfl (by first | omega | (simp; omega)) (by first | omega | (simp; omega)) fun v26 => ?_)
                  refine tZ rfl ?_
                  refine D_pre (fun w' hs => one_own (k := 0) hs rfl) ?_
                  intro ho27
                  refine ty 6 rfl (by kernel_rfl) rfl (D_stb (vs := [v26]) (cs' := [v26]) 1 z_37 rfl rfl rfl rfl rfl (cells_of_one ho27) (ocons ho27 onil) (by simp) rfl ?_)
                  refine tZ rfl ?_
                  refine tE (by kernel_rfl) ?_
                  refine x_blk ?_
                  refine x_then ?_
                  refine D_H ([ov [v26] (((filtT (lsB (setsR b bad free)) (setsR b bad free) k2).map (chs free)) ++ [chs free s0] : (List (List Int))), bx g17 [v26], ov [v] (setsR b bad free : (List Int)), bx g6 [(.int .i64 b.Nodes), u1]]) rfl ?_
                  refine C_reg ?_
                  refine q1 rfl (D_add rfl rfl rfl (r := ((k2 + 1 : Nat) : Int)) (by omega) (by omega)) ?_
                  refine p1 rfl ?_
                  refine D_end ?_
                  refine x_then ?_
                  refine D_eq 0 rfl (show (((filtT (lsB (setsR b bad free)) (setsR b bad free) k2).map (chs free)) ++ [chs free s0] : (List (List Int))) = (filtT (lsB (setsR b bad free)) (setsR b bad free) (k2 + 1)).map (chs free) from by first | exact mapF_t hs0 ((lsT_done (by omega)).symm.trans (hle.symm.trans (by assumption))) | exact mapF_f hs0 ((lsT_done (by omega)).symm.trans (hle.symm.trans (by assumption)))) ?_
                  refine fun ac w' hf hs => ⟨_, ?_, k2 + 1, v26, ?_, rfl, hf.weak ⟨rfl, rfl, rfl, rfl, rfl, rfl, trivial⟩, hs⟩
                  · omega
                  · first | assumption | omega | simp
                · refine C_skip ?_
                  refine x_blk ?_
                  refine x_then ?_
                  refine C_reg ?_
                  refine q1 rfl (D_add rfl rfl rfl (r := ((k2 + 1 : Nat) : Int)) (by omega) (by omega)) ?_
                  refine p1 rfl ?_
                  refine D_end ?_
                  refine x_then ?_
                  refine D_eq 0 rfl (show ((filtT (lsB (setsR b bad free)) (setsR b bad free) k2).map (chs free) : (List (List Int))) = (filtT (lsB (setsR b bad free)) (setsR b bad free) (k2 + 1)).map (chs free) from by first | exact mapF_t hs0 ((lsT_done (by omega)).symm.trans (hle.symm.trans (by assumption))) | exact mapF_f hs0 ((lsT_done (by omega)).symm.trans (hle.symm.trans (by assumption)))) ?_
                  refine fun ac w' hf hs => ⟨_, ?_, k2 + 1, v2, ?_, rfl, hf.weak ⟨rfl, rfl, rfl, rfl, rfl, rfl, trivial⟩, hs⟩
                  · omega
                  · first | assumption | omega | simp
          · have pr18 : ¬ (((k2 : Nat) : Int) : Int) < (((fidZ (okS b bad free) k).length : Nat) : Int) := of_decide_eq_false h18
            refine C_exit ?_
            refine x_then_exit ?_
            refine x_then_exit ?_
            refine x_blk_eq ?_
            refine x_then ?_
            refine C_seq ?_
            refine C_reg ?_
            refine q1 rfl (lb 1 o_37 rfl rfl rfl rfl) ?_
            refine q1 rfl (D_mkI s_37 rfl rfl) ?_
            refine q1 rfl (D_mf rfl rfl) ?_
            refine D_pk (H' := [bx g17 [v2], ov [v2] ((filtT (lsB (setsR b bad free)) (setsR b bad free) k2).map (chs free) : (List (List Int))), ov [v] (setsR b bad free : (List Int)), bx g6 [(.int .i64 b.Nodes), u1]]) [1, 0, 2, 3] rfl rfl ?_
            refine D_star ?_
            refine li rfl (csrt (C := fun e => star (bx g17 [v2]) (ov [v2] (e : (List (List Int))))) b_33 rfl rfl rfl rfl (fun w' hs => sls_list (by rw [List.length_map]; have := filtT_len (lsB (setsR b bad free)) (setsR b bad free) k2; omega) hs) fun e28 he29 => ?_)
            subst he29
            refine D_unst ?_
            refine D_end ?_
            refine x_then ?_
            refine D_H ([bx g17 [v2], ov [v2] (sortR ((filtT (lsB (setsR b bad free)) (setsR b bad free) k2).map (chs free)) : (List (List Int))), ov [v] (setsR b bad free : (List Int)), bx g6 [(.int .i64 b.Nodes), u1]]) rfl ?_
            refine C_seq ?_
            refine C_reg ?_
            refine q1 rfl (lb 0 o_37 rfl rfl rfl rfl) ?_
            refine p1 rfl ?_
            refine D_end ?_
            refine x_then ?_
            refine C_ret ?_
            refine R_1 rfl rfl fun w' hs => res_of (k := 1) hs rfl ?_
            show sortR ((filtT (lsB (setsR b bad free)) (setsR b bad free) k2).map (chs free)) = leastR b bad free
            rw [mapF_done (by omega)]; exact leastR_t hcs
end Go.Sy.Rep3
