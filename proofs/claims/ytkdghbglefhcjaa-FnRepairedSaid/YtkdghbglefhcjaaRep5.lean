/-
  Contracts of functions of the program, walked (printed by a program of ours).
  Conditions: those that each theorem states.
-/
import Derived.Test.YtkdghbglefhcjaaRep3
import Derived.Test.YtkdghbglefhcjaaRp
set_option linter.unusedVariables false
set_option maxRecDepth 20000
namespace Go.Sy.Rep5
open Go Go.RowKit Go.Proofs Go.Sy
theorem mixed : Try.prog.follows .mixedOrders = true := by kernel_rfl
theorem a_26 : aggTy Try.prog 26 = some 2 := by kernel_rfl
theorem b_14 : hasBody Try.prog 14 = true := by kernel_rfl
theorem s_37 : sliceTy Try.prog 37 = some (27, 1, 24) := by kernel_rfl
theorem o_27 : oneTy Try.prog 27 = true := by kernel_rfl
theorem y_26 : zeroTy Try.prog 26 = some (.agg #[(.int .i64 0), (.slice none 0 0)]) := by kernel_rfl
theorem b_16 : hasBody Try.prog 16 = true := by kernel_rfl
theorem b_35 : hasBody Try.prog 35 = true := by kernel_rfl
theorem z_26 : sizeTy Try.prog 26 = some 2 := by kernel_rfl
theorem b_25 : hasBody Try.prog 25 = true := by kernel_rfl
theorem s_27 : sliceTy Try.prog 27 = some (3, 1, 8) := by kernel_rfl
theorem o_3 : oneTy Try.prog 3 = true := by kernel_rfl
theorem b_23 : hasBody Try.prog 23 = true := by kernel_rfl
theorem y_3 : zeroTy Try.prog 3 = some (.int .i64 0) := by kernel_rfl
open Go.Sy.Bel1 Go.Sy.Bel2 Go.Sy.Bel3 Go.Sy.Bel4 Go.Sy.Bel5 Go.Sy.Bel6 Go.Sy.Bel7 Go.Sy.Bel8 Go.Sy.Bel9 Go.Sy.Belb Go.Sy.Beld Go.Sy.Sorts Go.Sy.Rep1 Go.Sy.Rep2 Go.Sy.Rep3
theorem impl_FirstRepair (w : World) (c_b : List Value) (b : Beliefs) (v_bad : Value) (bad : (List Int)) (v_free : Value) (free : (List Int)) (h_b : Gd.rd w c_b b) (h_bad : Gd.rd w [v_bad] bad) (h_free : Gd.rd w [v_free] free) : Calls Try.prog 16 [(.agg c_b.toArray), v_bad, v_free].toArray w (Res2 w (fstR b bad free : List Int) (hasR b bad free : Bool)) := by
  obtain ⟨u1, rfl, hu2⟩ := open_Beliefs h_b
  have hm3 := rd_max hu2
  have hm4 := rd_max h_bad
  have hm5 := rd_max h_free
  have hrl := leastR_len b bad free
  refine enter 19 Try.func16 rfl rfl rfl ?_
  refine C_seq ?_
  refine C_reg ?_
  refine li rfl (D_box rfl rfl rfl rfl rfl fun g6 => ?_)
  refine p1 rfl <| p1 rfl ?_
  refine D_end ?_
  refine x_then ?_
  refine D_H ([bx g6 [(.int .i64 b.Nodes), u1]]) rfl ?_
  refine C_seq ?_
  refine C_reg ?_
  refine q1 rfl (lbw 0 a_26 rfl rfl rfl) ?_
  refine p1 rfl <| p1 rfl ?_
  refine li rfl (crl b_14 rfl rfl rfl rfl (fun w' hs => (impl_LeastRepairs w' [(.int .i64 b.Nodes), u1] b v_bad bad v_free free (rd_at hs h_b) (rd_at hs h_bad) (rd_at hs h_free))) fun v7 => ?_)
  refine p1 rfl ?_
  refine D_end ?_
  refine x_then ?_
  refine D_H ([ov [v7] (leastR b bad free : (List (List Int))), bx g6 [(.int .i64 b.Nodes), u1]]) rfl ?_
  refine C_seq ?_
  refine C_seq ?_
  refine C_reg ?_
  refine p1 rfl ?_
  refine q1 rfl (D_leno 0 s_37 rfl rfl rfl) ?_
  refine p1 rfl ?_
  refine D_end ?_
  refine x_then ?_
  refine C_if _ rfl (fun h8 => ?_) (fun h8 => ?_)
  · have pr8 : ((((leastR b bad free).length : Nat) : Int) : Int) = 0 := eq_of_beq h8
    refine C_seq ?_
    refine C_reg ?_
    refine p1 rfl <| p1 rfl ?_
    refine D_end ?_
    refine x_then ?_
    refine C_ret ?_
    refine x_then_ret ?_
    refine D_nil (α := Int) ?_
    refine D_fbool false ?_
    refine D_pk (H' := [ov [(.slice none 0 0)] ([] : (List Int)), ov [(.bool false)] (false : Bool), ov [v7] (leastR b bad free : (List (List Int))), bx g6 [(.int .i64 b.Nodes), u1]]) [1, 0, 2, 3] rfl rfl ?_
    refine R_2g rfl (rvt rfl) (rvt rfl) fun w' hs => res2_of (c1 := [(.slice none 0 0)]) (c2 := [(.bool false)]) hs ?_ ?_
    · show ([] : List Int) = fstR b bad free
      first | exact fst_n (by assumption) | exact hasR_n (by assumption)
    · show (false : Bool) = hasR b bad free
      first | exact fst_n (by assumption) | exact hasR_n (by assumption)
  · have pr8 : ((((leastR b bad free).length : Nat) : Int) : Int) ≠ 0 := ne_of_beq_false h8
    refine C_skip ?_
    refine x_then ?_
    refine C_seq ?_
    refine C_reg ?_
    refine p1 rfl ?_
    refine D_mopen fun hd9 hl10 => ?_
    obtain ⟨r11, hh12⟩ := some_of_lt (l := hd9) (i := 0) (by omega)
    obtain ⟨x0, hx0⟩ := some_of_lt (l := (leastR b bad free)) (i := 0) (by omega)
    refine q1 rfl (D_ix (l := (leastR b bad free)) (j := 0) s_37 rfl rfl rfl (fun w' hs => (mx_rd (k := 0) hs rfl)) rfl (lt_of_some hx0)) ?_
    refine q1 rfl (lmx 0 o_27 rfl rfl rfl hh12) ?_
    refine p1 rfl <| p1 rfl ?_
    refine D_end ?_
    refine x_then ?_
    refine D_weak [(6, r11), (7, (.bool true))] ⟨rfl, rfl, trivial⟩ ?_
    refine D_sel [true, false] rfl ?_
    refine C_ret ?_
    refine D_mtake hh12 hx0 ?_
    refine D_pk [0] rfl rfl ?_
    refine D_fbool true ?_
    refine D_pk (H' := [ov [r11] (x0 : (List Int)), ov [(.bool true)] (true : Bool)]) [1, 0] rfl rfl ?_
    refine R_2g rfl (rvt rfl) (rvt rfl) fun w' hs => res2_of (c1 := [r11]) (c2 := [(.bool true)]) hs ?_ ?_
    · show (x0 : List Int) = fstR b bad free
      first | exact fst_y hx0 | exact hasR_y hx0
    · show (true : Bool) = hasR b bad free
      first | exact fst_y hx0 | exact hasR_y hx0

theorem impl_RepairBeliefs (w : World) (c_b : List Value) (b : Beliefs) (v_bad : Value) (bad : (List Int)) (v_free : Value) (free : (List Int)) (h_b : Gd.rd w c_b b) (h_bad : Gd.rd w [v_bad] bad) (h_free : Gd.rd w [v_free] free) (hb : szB b ≤ 1048576) : Calls Try.prog 17 [(.agg c_b.toArray), v_bad, v_free].toArray w (Res2 w (repB b bad free : Beliefs) (hasR b bad free : Bool)) := by
  obtain ⟨u1, rfl, hu2⟩ := open_Beliefs h_b
  have hm3 := rd_max hu2
  have hm4 := rd_max h_bad
  have hm5 := rd_max h_free
  refine enter 24 Try.func17 rfl rfl rfl ?_
  refine C_seq ?_
  refine C_reg ?_
  refine li rfl (D_box rfl rfl rfl rfl rfl fun g6 => ?_)
  refine li rfl (D_alloc y_26 rfl rfl rfl rfl fun g7 => ?_)
  refine p1 rfl ?_
  refine D_end ?_
  refine x_then ?_
  refine D_H ([bx g7 [(.int .i64 0), (.slice none 0 0)], bx g6 [(.int .i64 b.Nodes), u1]]) rfl ?_
  refine C_seq ?_
  refine C_reg ?_
  refine q1 rfl (lbw 1 a_26 rfl rfl rfl) ?_
  refine p1 rfl <| p1 rfl ?_
  refine li rfl (cr2 b_16 rfl rfl rfl rfl (fun w' hs => (impl_FirstRepair w' [(.int .i64 b.Nodes), u1] b v_bad bad v_free free (rd_at hs h_b) (rd_at hs h_bad) (rd_at hs h_free))) fun cs8 cs9 => ?_)
  refine D_pre (fun w' hs => rd_cell (rd_own (k := 0) hs rfl)) ?_
  rintro ⟨v10, rfl⟩
  refine D_pre (fun w' hs => show cs9 = [(.bool (hasR b bad free))] from rd_own (k := 1) hs rfl) ?_
  rintro rfl
  refine D_re 14 (v' := (.tuple #[v10, (.bool (hasR b bad free))])) rfl rfl rfl ?_
  refine D_pk (H' := [ov [v10] (fstR b bad free : (List Int)), bx g7 [(.int .i64 0), (.slice none 0 0)], bx g6 [(.int .i64 b.Nodes), u1]]) [0, 2, 3] rfl rfl ?_
  refine p1 rfl <| p1 rfl <| p1 rfl <| p1 rfl <| p1 rfl ?_
  refine D_end ?_
  refine x_then ?_
  refine C_seq ?_
  refine C_seq ?_
  refine C_reg ?_
  refine p1 rfl <| p1 rfl ?_
  refine D_end ?_
  refine x_then ?_
  refine C_if _ rfl (fun h11 => ?_) (fun h11 => ?_)
  · have h11n : (hasR b bad free) = false := not_t h11
    refine C_seq ?_
    refine C_reg ?_
    refine q1 rfl (lbw 2 a_26 rfl rfl rfl) ?_
    refine li rfl (crs rfl b_35 rfl rfl rfl rfl (fun w' hs => (impl_copyBeliefs w' [(.int .i64 b.Nodes), u1] b (rd_at hs h_b) hb)) fun cs12 => ?_)
    refine D_pre (fun w' hs => shape_Beliefs (rd_own (k := 0) hs rfl)) ?_
    rintro ⟨v13, rfl, ho14⟩
    refine li rfl (D_stb (vs := [(.int .i64 b.Nodes), v13]) (cs' := [(.int .i64 b.Nodes), v13]) 2 z_26 rfl rfl rfl rfl rfl rfl (ocons rfl (ocons ho14 onil)) (by simp) rfl ?_)
    refine p1 rfl ?_
    refine D_end ?_
    refine x_then ?_
    refine D_weak [(6, (.pointer (some ⟨g7, 0, none⟩))), (7, (.bool false))] ⟨rfl, rfl, trivial⟩ ?_
    refine D_sel (H' := [ov [(.int .i64 b.Nodes), v13] (b : Beliefs), bx g7 [(.int .i64 b.Nodes), v13]]) [true, false, true, false] rfl ?_
    refine C_ret ?_
    refine x_then_ret ?_
    refine D_fbool false ?_
    refine D_pk (H' := [ov [(.int .i64 b.Nodes), v13] (b : Beliefs), ov [(.bool false)] (false : Bool), bx g7 [(.int .i64 b.Nodes), v13]]) [1, 0, 2] rfl rfl ?_
    refine R_2g rfl (rvc (cs := [(.int .i64 b.Nodes), v13]) 2 a_26 rfl rfl) (rvt rfl) fun w' hs => res2_of (c1 := [(.int .i64 b.Nodes), v13]) (c2 := [(.bool false)]) hs ?_ ?_
    · show (b : Beliefs) = repB b bad free
      first | exact repB_f h11n | exact h11n.symm
    · show (false : Bool) = hasR b bad free
      first | exact repB_f h11n | exact h11n.symm
  · have h11n : (hasR b bad free) = true := not_f h11
    refine C_skip ?_
    refine x_then ?_
    refine C_seq ?_
    refine C_reg ?_
    refine q1 rfl (lbw 2 a_26 rfl rfl rfl) ?_
    refine p1 rfl ?_
    refine li rfl (crs rfl b_25 rfl rfl rfl rfl (fun w' hs => (impl_DropReasons w' [(.int .i64 b.Nodes), u1] b v10 (fstR b bad free) (rd_at hs h_b) (rd_own (k := 0) hs rfl) hb)) fun cs15 => ?_)
    refine D_pre (fun w' hs => shape_Beliefs (rd_own (k := 0) hs rfl)) ?_
    rintro ⟨v16, rfl, ho17⟩
    refine li rfl (D_stb (vs := [(.int .i64 ((dropR b (fstR b bad free)).Nodes)), v16]) (cs' := [(.int .i64 ((dropR b (fstR b bad free)).Nodes)), v16]) 2 z_26 rfl rfl rfl rfl rfl rfl (ocons rfl (ocons ho17 onil)) (by simp) rfl ?_)
    refine p1 rfl ?_
    refine D_end ?_
    refine x_then ?_
    refine D_weak [(6, (.pointer (some ⟨g7, 0, none⟩))), (7, (.bool true))] ⟨rfl, rfl, trivial⟩ ?_
    refine D_sel (H' := [ov [(.int .i64 ((dropR b (fstR b bad free)).Nodes)), v16] (dropR b (fstR b bad free) : Beliefs), bx g7 [(.int .i64 ((dropR b (fstR b bad free)).Nodes)), v16]]) [true, false, true, false] rfl ?_
    refine C_ret ?_
    refine D_fbool true ?_
    refine D_pk (H' := [ov [(.int .i64 ((dropR b (fstR b bad free)).Nodes)), v16] (dropR b (fstR b bad free) : Beliefs), ov [(.bool true)] (true : Bool), bx g7 [(.int .i64 ((dropR b (fstR b bad free)).Nodes)), v16]]) [1, 0, 2] rfl rfl ?_
    refine R_2g rfl (rvc (cs := [(.int .i64 ((dropR b (fstR b bad free)).Nodes)), v16]) 2 a_26 rfl rfl) (rvt rfl) fun w' hs => res2_of (c1 := [(.int .i64 ((dropR b (fstR b bad free)).Nodes)), v16]) (c2 := [(.bool true)]) hs ?_ ?_
    · show (dropR b (fstR b bad free) : Beliefs) = repB b bad free
      first | exact repB_t (not_f h11) | exact (not_f h11).symm
    · show (true : Bool) = hasR b bad free
      first | exact repB_t (not_f h11) | exact (not_f h11).symm

theorem impl_BlamedOf (w : World) (c_b : List Value) (b : Beliefs) (v_bad : Value) (bad : (List Int)) (v_free : Value) (free : (List Int)) (h_b : Gd.rd w c_b b) (h_bad : Gd.rd w [v_bad] bad) (h_free : Gd.rd w [v_free] free) (hfl : free.length ≤ 1048576) : Calls Try.prog 15 [(.agg c_b.toArray), v_bad, v_free].toArray w (Res w (blamedR b bad free : List Int)) := by
  obtain ⟨u1, rfl, hu2⟩ := open_Beliefs h_b
  have hm3 := rd_max hu2
  have hm4 := rd_max h_bad
  have hm5 := rd_max h_free
  have hrl := leastR_len b bad free
  refine enter 39 Try.func15 rfl rfl rfl ?_
  refine C_seq ?_
  refine C_reg ?_
  refine li rfl (D_box rfl rfl rfl rfl rfl fun g6 => ?_)
  refine p1 rfl ?_
  refine D_end ?_
  refine x_then ?_
  refine D_H ([bx g6 [(.int .i64 b.Nodes), u1]]) rfl ?_
  refine C_seq ?_
  refine C_reg ?_
  refine q1 rfl (lbw 0 a_26 rfl rfl rfl) ?_
  refine p1 rfl <| p1 rfl ?_
  refine li rfl (crl b_14 rfl rfl rfl rfl (fun w' hs => (impl_LeastRepairs w' [(.int .i64 b.Nodes), u1] b v_bad bad v_free free (rd_at hs h_b) (rd_at hs h_bad) (rd_at hs h_free))) fun v7 => ?_)
  refine p1 rfl ?_
  refine D_end ?_
  refine x_then ?_
  refine D_H ([ov [v7] (leastR b bad free : (List (List Int))), bx g6 [(.int .i64 b.Nodes), u1]]) rfl ?_
  refine C_seq ?_
  refine C_reg ?_
  refine p1 rfl ?_
  refine D_end ?_
  refine x_then ?_
  refine C_seq ?_
  refine C_seq ?_
  refine C_reg ?_
  refine p1 rfl ?_
  refine q1 rfl (D_len s_27 rfl rfl (rd_sl h_free)) ?_
  refine p1 rfl ?_
  refine D_end ?_
  refine x_then ?_
  refine C_block ?_
  refine C_loop (fun m_ ac w' => ∃ (k : Nat), ∃ (v : Value), (k ≤ free.length) ∧ m_ = free.length - k ∧ Fits ac 39 [(7, v7), (8, v), (17, v_free), (18, (.int .i64 ((free.length : Nat) : Int))), (19, (.int .i64 ((k : Nat) : Int)))] ∧ St w ([ov [v] (filtT (blm b bad free) free k : (List Int)), ov [v7] (leastR b bad free : (List (List Int))), bx g6 [(.int .i64 b.Nodes), u1]]) w') ?_ ?_
  · refine D_nil (α := Int) ?_
    refine D_eq 0 rfl (show ([] : (List Int)) = filtT (blm b bad free) free 0 from by rfl) ?_
    refine fun ac w' hf hs => ⟨_, 0, (.slice none 0 0), ?_, rfl, hf.weak ⟨rfl, rfl, rfl, rfl, rfl, trivial⟩, hs⟩
    · first | assumption | omega | simp
  · rintro m_ ac w' ⟨k, v, hk, rfl, hf, hs⟩
    refine D.use ?_ hf hs
    clear hf hs ac w'
    have hcl := filtT_len (blm b bad free) free k
    refine C_seq ?_
    refine C_reg ?_
    refine p1 rfl ?_
    refine D_end ?_
    refine x_then ?_
    refine D_H ([ov [v] (filtT (blm b bad free) free k : (List Int)), ov [v7] (leastR b bad free : (List (List Int))), bx g6 [(.int .i64 b.Nodes), u1]]) rfl ?_
    refine C_seq ?_
    refine C_if _ rfl (fun h8 => ?_) (fun h8 => ?_)
    · have pr8 : (((k : Nat) : Int) : Int) < ((free.length : Nat) : Int) := of_decide_eq_true h8
      refine C_skip ?_
      refine x_then ?_
      refine C_seq ?_
      refine C_block ?_
      refine C_seq ?_
      refine C_reg ?_
      obtain ⟨f0, hf0⟩ := some_of_lt (l := free) (i := k) (by omega)
      obtain ⟨es9, at10, hr11⟩ := rd_elem (n := 1) rfl h_free hf0
      obtain rfl : es9 = [.int .i64 f0] := hr11
      refine q1 rfl (D_ix (l := free) (j := k) s_27 rfl rfl rfl (fun w' hs => (rd_at hs h_free)) rfl (lt_of_some hf0)) ?_
      refine q1 rfl (lr0 o_3 rfl rfl at10 rfl) ?_
      refine p1 rfl ?_
      refine D_end ?_
      refine x_then ?_
      refine C_seq ?_
      refine C_reg ?_
      refine p1 rfl ?_
      refine q1 rfl (D_leno 1 s_37 rfl rfl rfl) ?_
      refine p1 rfl ?_
      refine D_end ?_
      refine x_then ?_
      refine C_block ?_
      refine C_loop (fun m_ ac w' => ∃ (q : Nat), ∃ (v2 : Value), (q ≤ (leastR b bad free).length) ∧ (∀ i, i < q → ∀ y, (leastR b bad free)[i]? = some y → y.contains f0 = false) ∧ m_ = (leastR b bad free).length - q ∧ Fits ac 39 [(7, v7), (8, v2), (10, (.int .i64 f0)), (17, v_free), (18, (.int .i64 ((free.length : Nat) : Int))), (19, (.int .i64 ((k : Nat) : Int))), (23, v7), (24, (.int .i64 (((leastR b bad free).length : Nat) : Int))), (25, (.int .i64 ((q : Nat) : Int)))] ∧ St w ([ov [v2] (filtT (blm b bad free) free k : (List Int)), ov [v7] (leastR b bad free : (List (List Int))), bx g6 [(.int .i64 b.Nodes), u1]]) w') ?_ ?_
      · refine fun ac w' hf hs => ⟨_, 0, v, ?_, ?_, rfl, hf.weak ⟨rfl, rfl, rfl, rfl, rfl, rfl, rfl, rfl, rfl, trivial⟩, hs⟩
        · first | assumption | omega | simp
        · intro i hi; omega
      · rintro m_ ac w' ⟨q, v2, hq, hi, rfl, hf, hs⟩
        refine D.use ?_ hf hs
        clear hf hs ac w'
        refine C_seq ?_
        refine C_reg ?_
        refine p1 rfl ?_
        refine D_end ?_
        refine x_then ?_
        refine D_H ([ov [v2] (filtT (blm b bad free) free k : (List Int)), ov [v7] (leastR b bad free : (List (List Int))), bx g6 [(.int .i64 b.Nodes), u1]]) rfl ?_
        refine C_seq ?_
        refine C_if _ rfl (fun h12 => ?_) (fun h12 => ?_)
        · have pr12 : (((q : Nat) : Int) : Int) < (((leastR b bad free).length : Nat) : Int) := of_decide_eq_true h12
          refine C_skip ?_
          refine x_then ?_
          refine C_seq ?_
          refine C_block ?_
          refine C_seq ?_
          refine C_reg ?_
          refine D_pk (H' := [ov [v7] (leastR b bad free : (List (List Int))), ov [v2] (filtT (blm b bad free) free k : (List Int)), bx g6 [(.int .i64 b.Nodes), u1]]) [1, 0, 2] rfl rfl ?_
          refine D_mopen fun hd13 hl14 => ?_
          obtain ⟨r15, hh16⟩ := some_of_lt (l := hd13) (i := q) (by omega)
          obtain ⟨y0, hy0⟩ := some_of_lt (l := (leastR b bad free)) (i := q) (by omega)
          refine q1 rfl (D_ix (l := (leastR b bad free)) (j := q) s_37 rfl rfl rfl (fun w' hs => (mx_rd (k := 0) hs rfl)) rfl (lt_of_some hy0)) ?_
          refine q1 rfl (lmx 0 o_27 rfl rfl rfl hh16) ?_
          refine p1 rfl ?_
          refine D_end ?_
          refine x_then ?_
          refine C_seq ?_
          refine C_reg ?_
          refine p1 rfl <| p1 rfl ?_
          refine li rfl (cv b_23 rfl rfl rfl rfl (fun w' hs => (impl_hasInt w' r15 y0 f0 (mx_row (k := 0) hs rfl hh16 hy0))) ?_)
          refine D_end ?_
          refine x_then ?_
          refine C_if _ rfl (fun h17 => ?_) (fun h17 => ?_)
          · refine C_seq ?_
            refine C_reg ?_
            refine p1 rfl <| p1 rfl ?_
            refine li rfl (D_bs s_27 y_3 rfl (by decide) (by decide) rfl rfl rfl rfl rfl rfl fun g18 => ?_)
            refine D_fi f0 ?_
            refine D_pk [3, 0, 1, 2, 4] rfl rfl ?_
            refine li rfl (D_ap s_27 y_3 rfl (by decide) rfl rfl rfl rfl rfl rfl (by first | omega | (simp; omega)) (by first | omega | (simp; omega)) fun v19 => ?_)
            refine p1 rfl ?_
            refine D_end ?_
            refine x_then ?_
            refine D_weak [(7, v7), (8, v19), (17, v_free), (18, (.int .i64 ((free.length : Nat) : Int))), (19, (.int .i64 ((k : Nat) : Int)))] ⟨rfl, rfl, rfl, rfl, rfl, trivial⟩ ?_
            refine C_exit ?_
            refine x_blk_ne rfl ?_
            refine x_then_exit ?_
            refine x_then_exit ?_
            refine x_blk_eq ?_
            refine x_blk ?_
            refine x_then ?_
            refine C_reg ?_
            refine q1 rfl (D_add rfl rfl rfl (r := ((k + 1 : Nat) : Int)) (by omega) (by omega)) ?_
            refine p1 rfl ?_
            refine D_end ?_
            refine x_then ?_
            refine D_pk [1, 0, 2] rfl rfl ?_
            refine D_mclose ?_
            refine D_eq 1 rfl (show ((filtT (blm b bad free) free k) ++ [f0] : (List Int)) = filtT (blm b bad free) free (k + 1) from by first | exact filtT_t hf0 (blm_t hy0 (by assumption)) | exact filtT_f hf0 (blm_f (fun i h => hi i (by omega)))) ?_
            refine fun ac w' hf hs => ⟨_, ?_, k + 1, v19, ?_, rfl, hf.weak ⟨rfl, rfl, rfl, rfl, rfl, trivial⟩, hs.pk [1, 0, 2] rfl rfl⟩
            · omega
            · first | assumption | omega | simp
          · refine C_skip ?_
            refine x_blk ?_
            refine x_then ?_
            refine C_reg ?_
            refine q1 rfl (D_add rfl rfl rfl (r := ((q + 1 : Nat) : Int)) (by omega) (by omega)) ?_
            refine p1 rfl ?_
            refine D_end ?_
            refine x_then ?_
            refine D_mclose ?_
            refine fun ac w' hf hs => ⟨_, ?_, q + 1, v2, ?_, ?_, rfl, hf.weak ⟨rfl, rfl, rfl, rfl, rfl, rfl, rfl, rfl, rfl, trivial⟩, hs.pk [1, 0, 2] rfl rfl⟩
            · omega
            · first | assumption | omega | simp
            · exact blm_step hi hy0 (by assumption)
        · have pr12 : ¬ (((q : Nat) : Int) : Int) < (((leastR b bad free).length : Nat) : Int) := of_decide_eq_false h12
          refine C_exit ?_
          refine x_then_exit ?_
          refine x_then_exit ?_
          refine x_blk_eq ?_
          refine x_blk ?_
          refine x_then ?_
          refine C_reg ?_
          refine q1 rfl (D_add rfl rfl rfl (r := ((k + 1 : Nat) : Int)) (by omega) (by omega)) ?_
          refine p1 rfl ?_
          refine D_end ?_
          refine x_then ?_
          refine D_eq 0 rfl (show (filtT (blm b bad free) free k : (List Int)) = filtT (blm b bad free) free (k + 1) from by first | exact filtT_t hf0 (blm_t hy0 (by assumption)) | exact filtT_f hf0 (blm_f (fun i h => hi i (by omega)))) ?_
          refine fun ac w' hf hs => ⟨_, ?_, k + 1, v2, ?_, rfl, hf.weak ⟨rfl, rfl, rfl, rfl, rfl, trivial⟩, hs⟩
          · omega
          · first | assumption | omega | simp
    · have pr8 : ¬ (((k : Nat) : Int) : Int) < ((free.length : Nat) : Int) := of_decide_eq_false h8
      refine C_exit ?_
      refine x_then_exit ?_
      refine x_then_exit ?_
      refine x_blk_eq ?_
      refine x_then ?_
      refine C_seq ?_
      refine C_reg ?_
      refine p1 rfl <| p1 rfl ?_
      refine D_end ?_
      refine x_then ?_
      refine C_ret ?_
      refine R_1 rfl rfl fun w' hs => res_of (k := 0) hs rfl ?_
      show filtT (blm b bad free) free k = blamedR b bad free
      exact filtT_done (by omega)
end Go.Sy.Rep5
