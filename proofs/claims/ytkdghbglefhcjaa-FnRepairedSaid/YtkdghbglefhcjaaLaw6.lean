/-
  Contracts of functions of the program, walked (printed by a program of ours).
  Conditions: those that each theorem states.
-/
import Derived.Test.YtkdghbglefhcjaaLaw5
import Derived.Test.YtkdghbglefhcjaaRep5
import Derived.Test.YtkdghbglefhcjaaRv
set_option linter.unusedVariables false
set_option maxRecDepth 20000
namespace Go.Sy.Law6
open Go Go.RowKit Go.Proofs Go.Sy
theorem mixed : Try.prog.follows .mixedOrders = true := by kernel_rfl
theorem s_27 : sliceTy Try.prog 27 = some (3, 1, 8) := by kernel_rfl
theorem o_3 : oneTy Try.prog 3 = true := by kernel_rfl
theorem b_13 : hasBody Try.prog 13 = true := by kernel_rfl
theorem b_6 : hasBody Try.prog 6 = true := by kernel_rfl
theorem b_7 : hasBody Try.prog 7 = true := by kernel_rfl
theorem y_26 : zeroTy Try.prog 26 = some (.agg #[(.int .i64 0), (.slice none 0 0)]) := by kernel_rfl
theorem z_26 : sizeTy Try.prog 26 = some 2 := by kernel_rfl
theorem a_26 : aggTy Try.prog 26 = some 2 := by kernel_rfl
theorem b_14 : hasBody Try.prog 14 = true := by kernel_rfl
theorem s_37 : sliceTy Try.prog 37 = some (27, 1, 24) := by kernel_rfl
theorem o_27 : oneTy Try.prog 27 = true := by kernel_rfl
theorem b_9 : hasBody Try.prog 9 = true := by kernel_rfl
theorem y_3 : zeroTy Try.prog 3 = some (.int .i64 0) := by kernel_rfl
theorem b_16 : hasBody Try.prog 16 = true := by kernel_rfl
theorem b_17 : hasBody Try.prog 17 = true := by kernel_rfl
theorem b_18 : hasBody Try.prog 18 = true := by kernel_rfl
theorem ub_4 : Try.prog.underlying 4 = some .bool := by kernel_rfl
theorem b_19 : hasBody Try.prog 19 = true := by kernel_rfl
theorem b_11 : hasBody Try.prog 11 = true := by kernel_rfl
theorem b_15 : hasBody Try.prog 15 = true := by kernel_rfl
theorem b_20 : hasBody Try.prog 20 = true := by kernel_rfl
open Go.Sy.Bel1 Go.Sy.Bel2 Go.Sy.Bel3 Go.Sy.Bel4 Go.Sy.Bel5 Go.Sy.Bel6 Go.Sy.Bel7 Go.Sy.Bel8 Go.Sy.Bel9 Go.Sy.Belb Go.Sy.Beld Go.Sy.Sorts Go.Sy.Rep1 Go.Sy.Rep2 Go.Sy.Rep3 Go.Sy.Rep5 Go.Sy.Cur1 Go.Sy.Law1 Go.Sy.Cur3 Go.Sy.Law5
theorem laws_ints (w : World) (v_a : Value) (a : (List Int)) (v_b : Value) (b : (List Int)) (h_a : Gd.rd w [v_a] a) (h_b : Gd.rd w [v_b] b) : Calls Try.prog 19 [v_a, v_b].toArray w (Val w (.bool (decide (a = b)))) := by
  have hm1 := rd_max h_a
  have hm2 := rd_max h_b
  refine enter 26 Try.func19 rfl rfl rfl ?_
  refine C_seq ?_
  refine C_reg ?_
  refine p1 rfl ?_
  refine D_end ?_
  refine x_then ?_
  refine C_seq ?_
  refine C_seq ?_
  refine C_reg ?_
  refine p1 rfl ?_
  refine q1 rfl (D_len s_27 rfl rfl (rd_sl h_a)) ?_
  refine p1 rfl ?_
  refine q1 rfl (D_len s_27 rfl rfl (rd_sl h_b)) ?_
  refine p1 rfl ?_
  refine D_end ?_
  refine x_then ?_
  refine C_if _ rfl (fun h3 => ?_) (fun h3 => ?_)
  · have pr3 : (((a.length : Nat) : Int) : Int) ≠ ((b.length : Nat) : Int) := bne_iff_ne.1 h3
    refine C_seq ?_
    refine C_reg ?_
    refine p1 rfl ?_
    refine D_end ?_
    refine x_then ?_
    refine C_ret ?_
    refine x_then_ret ?_
    refine R_1 rfl rfl fun w' hs => ⟨congrArg (fun z => Ending.returned (Value.bool z)) ?_, hs.bel⟩
    show (false : Bool) = decide (a = b)
    symm; rw [decide_eq_false_iff_not]; intro e; subst e; omega
  · have pr3 : (((a.length : Nat) : Int) : Int) = ((b.length : Nat) : Int) := eq_of_bne_f h3
    refine C_skip ?_
    refine x_then ?_
    refine C_seq ?_
    refine C_seq ?_
    refine C_reg ?_
    refine p1 rfl ?_
    refine D_end ?_
    refine x_then ?_
    refine C_block ?_
    refine C_loop (fun m_ ac w' => ∃ (k : Nat), (k ≤ a.length) ∧ (∀ i, i < k → a[i]? = b[i]?) ∧ m_ = a.length - k ∧ Fits ac 26 [(0, v_a), (1, v_b), (5, (.int .i64 ((k : Nat) : Int)))] ∧ St w ([]) w') ?_ ?_
    · refine fun ac w' hf hs => ⟨_, 0, ?_, ?_, rfl, hf.weak ⟨rfl, rfl, rfl, trivial⟩, hs⟩
      · first | assumption | omega | simp
      · intro i hi; omega
    · rintro m_ ac w' ⟨k, hk, hi, rfl, hf, hs⟩
      refine D.use ?_ hf hs
      clear hf hs ac w'
      refine C_seq ?_
      refine C_seq ?_
      refine C_reg ?_
      refine p1 rfl <| p1 rfl ?_
      refine q1 rfl (D_len s_27 rfl rfl (rd_sl h_a)) ?_
      refine p1 rfl ?_
      refine D_end ?_
      refine x_then ?_
      refine C_if _ rfl (fun h4 => ?_) (fun h4 => ?_)
      · have pr4 : (((k : Nat) : Int) : Int) < ((a.length : Nat) : Int) := of_decide_eq_true h4
        refine C_skip ?_
        refine x_then ?_
        refine C_seq ?_
        refine C_block ?_
        refine C_seq ?_
        refine C_draw mixed [] (by kernel_rfl) ?_
        refine tk 0 rfl (by kernel_rfl) (by kernel_rfl) (by kernel_rfl) rfl (fun _ hs => hs) (rp rfl) ?_
        refine tk 1 rfl (by kernel_rfl) (by kernel_rfl) (by kernel_rfl) rfl (fun _ hs => hs) (rp rfl) ?_
        obtain ⟨x0, hx0⟩ := some_of_lt (l := a) (i := k) (by omega)
        obtain ⟨es5, at6, hr7⟩ := rd_elem (n := 1) rfl h_a hx0
        obtain rfl : es5 = [.int .i64 x0] := hr7
        refine tk 2 rfl (by kernel_rfl) (by kernel_rfl) (by kernel_rfl) rfl (fun _ hs => hs) (D_ix (l := a) (j := k) s_27 rfl rfl rfl (fun w' hs => (rd_at hs h_a)) rfl (lt_of_some hx0)) ?_
        refine tk 3 rfl (by kernel_rfl) (by kernel_rfl) (by kernel_rfl) rfl (fun _ hs => hs) (lr0 o_3 rfl rfl at6 rfl) ?_
        refine tk 4 rfl (by kernel_rfl) (by kernel_rfl) (by kernel_rfl) rfl (fun _ hs => hs) (rp rfl) ?_
        refine tk 5 rfl (by kernel_rfl) (by kernel_rfl) (by kernel_rfl) rfl (fun _ hs => hs) (rp rfl) ?_
        obtain ⟨y0, hy0⟩ := some_of_lt (l := b) (i := k) (by omega)
        obtain ⟨es8, at9, hr10⟩ := rd_elem (n := 1) rfl h_b hy0
        obtain rfl : es8 = [.int .i64 y0] := hr10
        refine tk 6 rfl (by kernel_rfl) (by kernel_rfl) (by kernel_rfl) rfl (fun _ hs => hs) (D_ix (l := b) (j := k) s_27 rfl rfl rfl (fun w' hs => (rd_at hs h_b)) rfl (lt_of_some hy0)) ?_
        refine tk 7 rfl (by kernel_rfl) (by kernel_rfl) (by kernel_rfl) rfl (fun _ hs => hs) (lr0 o_3 rfl rfl at9 rfl) ?_
        refine tk 8 rfl (by kernel_rfl) (by kernel_rfl) (by kernel_rfl) rfl (fun _ hs => hs) (rp rfl) ?_
        refine tE (by kernel_rfl) ?_
        refine x_then ?_
        refine C_if _ rfl (fun h11 => ?_) (fun h11 => ?_)
        · have pr11 : (x0 : Int) ≠ y0 := bne_iff_ne.1 h11
          refine C_seq ?_
          refine C_reg ?_
          refine p1 rfl ?_
          refine D_end ?_
          refine x_then ?_
          refine D_weak [(4, (.bool false))] ⟨rfl, trivial⟩ ?_
          refine C_ret ?_
          refine x_blk_ret ?_
          refine x_then_ret ?_
          refine x_then_ret ?_
          refine x_blk_ret ?_
          refine x_then_ret ?_
          refine R_1 rfl rfl fun w' hs => ⟨congrArg (fun z => Ending.returned (Value.bool z)) ?_, hs.bel⟩
          show (false : Bool) = decide (a = b)
          symm; rw [decide_eq_false_iff_not]; intro e; subst e; have := Option.some.inj (hx0.symm.trans hy0); omega
        · have pr11 : (x0 : Int) = y0 := eq_of_bne_f h11
          refine C_skip ?_
          refine x_blk ?_
          refine x_then ?_
          refine C_reg ?_
          refine p1 rfl ?_
          refine q1 rfl (D_add rfl rfl rfl (r := ((k + 1 : Nat) : Int)) (by omega) (by omega)) ?_
          refine p1 rfl ?_
          refine D_end ?_
          refine x_then ?_
          refine fun ac w' hf hs => ⟨_, ?_, k + 1, ?_, ?_, rfl, hf.weak ⟨rfl, rfl, rfl, trivial⟩, hs⟩
          · omega
          · first | assumption | omega | simp
          · exact idx_step hi hx0 hy0 (by omega)
      · have pr4 : ¬ (((k : Nat) : Int) : Int) < ((a.length : Nat) : Int) := of_decide_eq_false h4
        refine C_exit ?_
        refine x_then_exit ?_
        refine x_then_exit ?_
        refine x_blk_eq ?_
        refine x_then ?_
        refine C_seq ?_
        refine C_reg ?_
        refine p1 rfl ?_
        refine D_end ?_
        refine x_then ?_
        refine C_ret ?_
        refine R_1 rfl rfl fun w' hs => ⟨congrArg (fun z => Ending.returned (Value.bool z)) ?_, hs.bel⟩
        show (true : Bool) = decide (a = b)
        symm; rw [decide_eq_true_eq]; exact eq_of_idx (by omega) (fun i h => hi i (by omega))

theorem laws_part (w : World) (v_a : Value) (a : (List Int)) (v_b : Value) (b : (List Int)) (h_a : Gd.rd w [v_a] a) (h_b : Gd.rd w [v_b] b) : Calls Try.prog 20 [v_a, v_b].toArray w (Val w (.bool (a.all (fun x => b.contains x)))) := by
  have hm1 := rd_max h_a
  have hm2 := rd_max h_b
  refine enter 19 Try.func20 rfl rfl rfl ?_
  refine C_seq ?_
  refine C_reg ?_
  refine p1 rfl ?_
  refine D_end ?_
  refine x_then ?_
  refine C_seq ?_
  refine C_seq ?_
  refine C_reg ?_
  refine p1 rfl ?_
  refine D_end ?_
  refine x_then ?_
  refine C_block ?_
  refine C_loop (fun m_ ac w' => ∃ (k : Nat), (k ≤ a.length) ∧ (∀ i, i < k → ∀ y, a[i]? = some y → b.contains y = true) ∧ m_ = a.length - k ∧ Fits ac 19 [(0, v_a), (1, v_b), (5, (.int .i64 ((k : Nat) : Int)))] ∧ St w ([]) w') ?_ ?_
  · refine fun ac w' hf hs => ⟨_, 0, ?_, ?_, rfl, hf.weak ⟨rfl, rfl, rfl, trivial⟩, hs⟩
    · first | assumption | omega | simp
    · intro i hi; omega
  · rintro m_ ac w' ⟨k, hk, hi, rfl, hf, hs⟩
    refine D.use ?_ hf hs
    clear hf hs ac w'
    refine C_seq ?_
    refine C_seq ?_
    refine C_reg ?_
    refine p1 rfl <| p1 rfl ?_
    refine q1 rfl (D_len s_27 rfl rfl (rd_sl h_a)) ?_
    refine p1 rfl ?_
    refine D_end ?_
    refine x_then ?_
    refine C_if _ rfl (fun h3 => ?_) (fun h3 => ?_)
    · have pr3 : (((k : Nat) : Int) : Int) < ((a.length : Nat) : Int) := of_decide_eq_true h3
      refine C_skip ?_
      refine x_then ?_
      refine C_seq ?_
      refine C_block ?_
      refine C_seq ?_
      refine C_reg ?_
      refine p1 rfl <| p1 rfl <| p1 rfl ?_
      obtain ⟨y2, hy2⟩ := some_of_lt (l := a) (i := k) (by omega)
      obtain ⟨es4, at5, hr6⟩ := rd_elem (n := 1) rfl h_a hy2
      obtain rfl : es4 = [.int .i64 y2] := hr6
      refine q1 rfl (D_ix (l := a) (j := k) s_27 rfl rfl rfl (fun w' hs => (rd_at hs h_a)) rfl (lt_of_some hy2)) ?_
      refine q1 rfl (lr0 o_3 rfl rfl at5 rfl) ?_
      refine li rfl (cv b_13 rfl rfl rfl rfl (fun w' hs => (laws_hasInt w' v_b b y2 (rd_at hs h_b))) ?_)
      refine p1 rfl ?_
      refine D_end ?_
      refine x_then ?_
      refine C_if _ rfl (fun h7 => ?_) (fun h7 => ?_)
      · have h7n : (b.contains y2) = false := not_t h7
        refine C_seq ?_
        refine C_reg ?_
        refine p1 rfl ?_
        refine D_end ?_
        refine x_then ?_
        refine C_ret ?_
        refine x_blk_ret ?_
        refine x_then_ret ?_
        refine x_then_ret ?_
        refine x_blk_ret ?_
        refine x_then_ret ?_
        refine R_1 rfl rfl fun w' hs => ⟨congrArg (fun z => Ending.returned (Value.bool z)) ?_, hs.bel⟩
        show (false : Bool) = a.all (fun x => b.contains x)
        exact (all_bad (p := fun x => b.contains x) hy2 h7n).symm
      · have h7n : (b.contains y2) = true := not_f h7
        refine C_skip ?_
        refine x_blk ?_
        refine x_then ?_
        refine C_reg ?_
        refine p1 rfl ?_
        refine q1 rfl (D_add rfl rfl rfl (r := ((k + 1 : Nat) : Int)) (by omega) (by omega)) ?_
        refine p1 rfl ?_
        refine D_end ?_
        refine x_then ?_
        refine fun ac w' hf hs => ⟨_, ?_, k + 1, ?_, ?_, rfl, hf.weak ⟨rfl, rfl, rfl, trivial⟩, hs⟩
        · omega
        · first | assumption | omega | simp
        · refine forall_step hi ?_; intro y hy; obtain rfl : y = y2 := Option.some.inj (hy.symm.trans hy2); exact not_f (by assumption)
    · have pr3 : ¬ (((k : Nat) : Int) : Int) < ((a.length : Nat) : Int) := of_decide_eq_false h3
      refine C_exit ?_
      refine x_then_exit ?_
      refine x_then_exit ?_
      refine x_blk_eq ?_
      refine x_then ?_
      refine C_seq ?_
      refine C_reg ?_
      refine p1 rfl ?_
      refine D_end ?_
      refine x_then ?_
      refine C_ret ?_
      refine R_1 rfl rfl fun w' hs => ⟨congrArg (fun z => Ending.returned (Value.bool z)) ?_, hs.bel⟩
      show (true : Bool) = a.all (fun x => b.contains x)
      exact (all_of_idx (p := fun x => b.contains x) (fun i h => hi i (by omega))).symm

set_option maxHeartbeats 4000000 in
theorem laws_FnRepaired (w : World) (v_code : Value) (code : (List UInt8)) (h_code : Gd.rd w [v_code] code) : Calls Try.prog 5 [v_code].toArray w (Val w (.bool (true))) := by
  have hm1 := rd_max h_code
  refine enter 138 Try.func5 rfl rfl rfl ?_
  refine C_seq ?_
  refine C_reg ?_
  refine p1 rfl ?_
  refine D_end ?_
  refine x_then ?_
  refine C_seq ?_
  refine C_seq ?_
  refine C_reg ?_
  refine p1 rfl ?_
  refine li rfl (cv b_6 rfl rfl rfl rfl (fun w' hs => (laws_big w' v_code code (rd_at hs h_code))) ?_)
  refine D_end ?_
  refine x_then ?_
  refine C_if _ rfl (fun h2 => ?_) (fun h2 => ?_)
  · refine C_seq ?_
    refine C_reg ?_
    refine p1 rfl ?_
    refine D_end ?_
    refine x_then ?_
    refine C_ret ?_
    refine x_then_ret ?_
    refine R_1 rfl rfl fun w' hs => ⟨congrArg (fun z => Ending.returned (Value.bool z)) ?_, hs.bel⟩
    show (true : Bool) = true
    rfl
  · refine C_skip ?_
    refine x_then ?_
    refine C_seq ?_
    refine C_reg ?_
    refine p1 rfl ?_
    refine li rfl (crB3 (α := Beliefs) (β := List Int) (γ := List Int) b_7 rfl rfl rfl rfl (fun w' hs => (spec_DrawGoodCase w' v_code code (rd_at hs h_code))) fun y3 y4 y5 cs6 cs7 cs8 hy3 wb9 hxb10 hrb11 hrb12 hrb13 => ?_)
    have hb14 := Gd.rd_ext hxb10 h_code
    obtain ⟨u15, rfl, hu16⟩ := open_Beliefs hrb11
    have hm17 := rd_max hu16
    obtain ⟨v18, rfl⟩ := rd_cell hrb12
    have hm19 := rd_max hrb12
    obtain ⟨v20, rfl⟩ := rd_cell hrb13
    have hm21 := rd_max hrb13
    refine D_re 18 (v' := (.tuple #[(.agg #[(.int .i64 y3.Nodes), u15]), v18, v20])) rfl rfl rfl ?_
    refine p1 rfl <| p1 rfl <| p1 rfl <| p1 rfl ?_
    refine li rfl (D_alloc y_26 rfl rfl rfl rfl fun g22 => ?_)
    refine li rfl (D_stb (vs := [(.int .i64 y3.Nodes), u15]) (cs' := [(.int .i64 y3.Nodes), u15]) 0 z_26 rfl rfl rfl rfl rfl rfl (ocons rfl (ocons (one_rd hu16) onil)) (by simp) rfl ?_)
    refine p1 rfl <| p1 rfl ?_
    refine D_end ?_
    refine x_then ?_
    refine D_H ([bx g22 [(.int .i64 y3.Nodes), u15]]) rfl ?_
    refine C_seq ?_
    have hcs := hy3.1
    have hfl := case_fl hcs
    have hcl := clashes_len y3 y4
    have hrl := leastR_len y3 y4 y5
    have hsz := szB_small (strat_b (case_s hcs))
    refine C_reg ?_
    refine q1 rfl (lbw 0 a_26 rfl rfl rfl) ?_
    refine p1 rfl <| p1 rfl ?_
    refine li rfl (crl b_14 rfl rfl rfl rfl (fun w' hs => (impl_LeastRepairs w' [(.int .i64 y3.Nodes), u15] y3 v18 y4 v20 y5 (rd_at hs hrb11) (rd_at hs hrb12) (rd_at hs hrb13))) fun v23 => ?_)
    refine p1 rfl ?_
    refine D_end ?_
    refine x_then ?_
    refine D_H ([ov [v23] (leastR y3 y4 y5 : (List (List Int))), bx g22 [(.int .i64 y3.Nodes), u15]]) rfl ?_
    refine C_seq ?_
    refine C_seq ?_
    refine C_reg ?_
    refine p1 rfl ?_
    refine D_end ?_
    refine x_then ?_
    refine C_block ?_
    refine C_loop (fun m_ ac w' => ∃ (i : Nat), (i ≤ (leastR y3 y4 y5).length) ∧ m_ = (leastR y3 y4 y5).length - i ∧ Fits ac 138 [(3, (.pointer (some ⟨g22, 0, none⟩))), (4, v18), (5, v20), (6, v23), (7, (.int .i64 ((i : Nat) : Int)))] ∧ St wb9 ([ov [v23] (leastR y3 y4 y5 : (List (List Int))), bx g22 [(.int .i64 y3.Nodes), u15]]) w') ?_ ?_
    · refine fun ac w' hf hs => ⟨_, 0, ?_, rfl, hf.weak ⟨rfl, rfl, rfl, rfl, rfl, trivial⟩, hs⟩
      · first | assumption | omega | simp
    · rintro m_ ac w' ⟨i, hi, rfl, hf, hs⟩
      refine D.use ?_ hf hs
      clear hf hs ac w'
      refine C_seq ?_
      refine C_seq ?_
      refine C_reg ?_
      refine p1 rfl <| p1 rfl ?_
      refine q1 rfl (D_leno 0 s_37 rfl rfl rfl) ?_
      refine p1 rfl ?_
      refine D_end ?_
      refine x_then ?_
      refine C_if _ rfl (fun h24 => ?_) (fun h24 => ?_)
      · have pr24 : (((i : Nat) : Int) : Int) < (((leastR y3 y4 y5).length : Nat) : Int) := of_decide_eq_true h24
        refine C_skip ?_
        refine x_then ?_
        refine C_seq ?_
        refine C_block ?_
        refine C_seq ?_
        refine C_seq ?_
        refine D_mopen fun hd25 hl26 => ?_
        refine C_draw mixed [7, 8, 9, 19, 20] (by kernel_rfl) ?_
        refine tk 0 rfl (by kernel_rfl) (by kernel_rfl) (by kernel_rfl) rfl (fun _ hs => hs) (lbw 1 a_26 rfl rfl rfl) ?_
        refine tk 1 rfl (by kernel_rfl) (by kernel_rfl) (by kernel_rfl) rfl (fun _ hs => hs) (rp rfl) ?_
        refine tk 2 rfl (by kernel_rfl) (by kernel_rfl) (by kernel_rfl) rfl (fun _ hs => hs) (rp rfl) ?_
        refine tk 3 rfl (by kernel_rfl) (by kernel_rfl) (by kernel_rfl) rfl (fun _ hs => hs) (rp rfl) ?_
        refine tk 4 rfl (by kernel_rfl) (by kernel_rfl) (by kernel_rfl) rfl (fun _ hs => hs) (rp rfl) ?_
        obtain ⟨r27, hh28⟩ := some_of_lt (l := hd25) (i := i) (by omega)
        obtain ⟨x1, hx1⟩ := some_of_lt (l := (leastR y3 y4 y5)) (i := i) (by omega)
        refine tk 5 rfl (by kernel_rfl) (by kernel_rfl) (by kernel_rfl) rfl (fun _ hs => hs) (D_ix (l := (leastR y3 y4 y5)) (j := i) s_37 rfl rfl rfl (fun w' hs => (mx_rd (k := 0) hs rfl)) rfl (lt_of_some hx1)) ?_
        refine tk 6 rfl (by kernel_rfl) (by kernel_rfl) (by kernel_rfl) rfl (fun _ hs => hs) (lmx 0 o_27 rfl rfl rfl hh28) ?_
        have hrp := least_rep hcs (List.mem_of_getElem? hx1)
        refine ty 7 rfl (by kernel_rfl) rfl (cv b_9 rfl rfl rfl rfl (fun w' hs => (impl_IsRepair w' [(.int .i64 y3.Nodes), u15] y3 v18 y4 v20 y5 r27 x1 (rd_at hs hrb11) (rd_at hs hrb12) (rd_at hs hrb13) (mx_row (k := 0) hs rfl hh28 hx1))) ?_)
        refine tZ rfl ?_
        refine ty 8 rfl (by kernel_rfl) rfl (sv rfl rfl (rp rfl) ?_)
        refine tZ rfl ?_
        refine ty 9 rfl (by kernel_rfl) rfl (sv rfl rfl (rp rfl) ?_)
        refine tZ rfl ?_
        refine gs 41 rfl rfl (fun h29 => ?_) (fun h29 => ?_)
        · have h29n : (isRep y3 y4 y5 x1) = false := not_t h29
          refine tn 10 rfl (by kernel_rfl) (by kernel_rfl) (by kernel_rfl) rfl rfl rfl (fun _ hs => hs) ?_
          refine tn 11 rfl (by kernel_rfl) (by kernel_rfl) (by kernel_rfl) rfl rfl rfl (fun _ hs => hs) ?_
          refine tn 12 rfl (by kernel_rfl) (by kernel_rfl) (by kernel_rfl) rfl rfl rfl (fun _ hs => hs) ?_
          refine tn 13 rfl (by kernel_rfl) (by kernel_rfl) (by kernel_rfl) rfl rfl rfl (fun _ hs => hs) ?_
          refine tn 14 rfl (by kernel_rfl) (by kernel_rfl) (by kernel_rfl) rfl rfl rfl (fun _ hs => hs) ?_
          refine tn 15 rfl (by kernel_rfl) (by kernel_rfl) (by kernel_rfl) rfl rfl rfl (fun _ hs => hs) ?_
          refine tn 16 rfl (by kernel_rfl) (by kernel_rfl) (by kernel_rfl) rfl rfl rfl (fun _ hs => hs) ?_
          refine tn 17 rfl (by kernel_rfl) (by kernel_rfl) (by kernel_rfl) rfl rfl rfl (fun _ hs => hs) ?_
          refine tn 18 rfl (by kernel_rfl) (by kernel_rfl) (by kernel_rfl) rfl rfl rfl (fun _ hs => hs) ?_
          refine tn 19 rfl (by kernel_rfl) (by kernel_rfl) (by kernel_rfl) rfl rfl rfl (fun _ hs => hs) ?_
          refine ty 20 rfl (by kernel_rfl) rfl (sv rfl rfl (rp rfl) ?_)
          refine tZ rfl ?_
          refine tE (by kernel_rfl) ?_
          refine x_then ?_
          refine D_weak [(3, (.pointer (some ⟨g22, 0, none⟩))), (4, v18), (5, v20), (6, v23), (7, (.int .i64 ((i : Nat) : Int))), (52, (.bool true))] ⟨rfl, rfl, rfl, rfl, rfl, rfl, trivial⟩ ?_
          refine C_t rfl ?_
          refine C_seq ?_
          refine C_reg ?_
          refine p1 rfl ?_
          refine D_end ?_
          refine x_then ?_
          refine C_ret ?_
          refine x_then_ret ?_
          refine x_blk_ret ?_
          refine x_then_ret ?_
          refine x_then_ret ?_
          refine x_blk_ret ?_
          refine x_then_ret ?_
          refine D_mclose ?_
          refine R_1 rfl rfl fun w' hs => ⟨congrArg (fun z => Ending.returned (Value.bool z)) ?_, (hxb10.trans hs.bel)⟩
          show (false : Bool) = true
          first | rfl | (exfalso; simp_all; done) | (exfalso; have hq := least_fst hx0 hx1; omega) | (exfalso; have hq := least_del (k := k2) hcs (List.mem_of_getElem? hx2) (by omega); simp_all; done) | (exfalso; have hq := hasR_len (b := y3) (bad := y4) (free := y5); simp_all; done) | (have hq := fst_0 hx9; have hq2 := rep_clash hcs (not_f (by assumption)); have hq3 := blamed_part y3 y4 y5; simp_all; done) | (simp_all; done)
        · have h29n : (isRep y3 y4 y5 x1) = true := not_f h29
          refine tk 10 rfl (by kernel_rfl) (by kernel_rfl) (by kernel_rfl) rfl (fun _ hs => hs) (rp rfl) ?_
          obtain ⟨r30, hh31⟩ := some_of_lt (l := hd25) (i := 0) (by omega)
          obtain ⟨x0, hx0⟩ := some_of_lt (l := (leastR y3 y4 y5)) (i := 0) (by omega)
          refine tk 11 rfl (by kernel_rfl) (by kernel_rfl) (by kernel_rfl) rfl (fun _ hs => hs) (D_ix (l := (leastR y3 y4 y5)) (j := 0) s_37 rfl rfl rfl (fun w' hs => (mx_rd (k := 0) hs rfl)) rfl (lt_of_some hx0)) ?_
          refine tk 12 rfl (by kernel_rfl) (by kernel_rfl) (by kernel_rfl) rfl (fun _ hs => hs) (lmx 0 o_27 rfl rfl rfl hh31) ?_
          refine tk 13 rfl (by kernel_rfl) (by kernel_rfl) (by kernel_rfl) rfl (fun _ hs => hs) (D_lenr s_27 rfl rfl (fun w' hs => (mx_row (k := 0) hs rfl hh31 hx0))) ?_
          refine tk 14 rfl (by kernel_rfl) (by kernel_rfl) (by kernel_rfl) rfl (fun _ hs => hs) (rp rfl) ?_
          refine tk 15 rfl (by kernel_rfl) (by kernel_rfl) (by kernel_rfl) rfl (fun _ hs => hs) (rp rfl) ?_
          refine tk 16 rfl (by kernel_rfl) (by kernel_rfl) (by kernel_rfl) rfl (fun _ hs => hs) (D_ix (l := (leastR y3 y4 y5)) (j := i) s_37 rfl rfl rfl (fun w' hs => (mx_rd (k := 0) hs rfl)) rfl (lt_of_some hx1)) ?_
          refine tk 17 rfl (by kernel_rfl) (by kernel_rfl) (by kernel_rfl) rfl (fun _ hs => hs) (lmx 0 o_27 rfl rfl rfl hh28) ?_
          refine tk 18 rfl (by kernel_rfl) (by kernel_rfl) (by kernel_rfl) rfl (fun _ hs => hs) (D_lenr s_27 rfl rfl (fun w' hs => (mx_row (k := 0) hs rfl hh28 hx1))) ?_
          refine ty 19 rfl (by kernel_rfl) rfl (sv rfl rfl (rp rfl) ?_)
          refine tZ rfl ?_
          refine ty 20 rfl (by kernel_rfl) rfl (sv rfl rfl (rp rfl) ?_)
          refine tZ rfl ?_
          refine tE (by kernel_rfl) ?_
          refine x_then ?_
          refine D_weak [(3, (.pointer (some ⟨g22, 0, none⟩))), (4, v18), (5, v20), (6, v23), (7, (.int .i64 ((i : Nat) : Int))), (52, (.bool (decide ((((x1.length : Nat) : Int) : Int) < ((x0.length : Nat) : Int)))))] ⟨rfl, rfl, rfl, rfl, rfl, rfl, trivial⟩ ?_
          refine C_if _ rfl (fun h32 => ?_) (fun h32 => ?_)
          · have pr32 : (((x1.length : Nat) : Int) : Int) < ((x0.length : Nat) : Int) := of_decide_eq_true h32
            refine C_seq ?_
            refine C_reg ?_
            refine p1 rfl ?_
            refine D_end ?_
            refine x_then ?_
            refine C_ret ?_
            refine x_then_ret ?_
            refine x_blk_ret ?_
            refine x_then_ret ?_
            refine x_then_ret ?_
            refine x_blk_ret ?_
            refine x_then_ret ?_
            refine D_mclose ?_
            refine R_1 rfl rfl fun w' hs => ⟨congrArg (fun z => Ending.returned (Value.bool z)) ?_, (hxb10.trans hs.bel)⟩
            show (false : Bool) = true
            first | rfl | (exfalso; simp_all; done) | (exfalso; have hq := least_fst hx0 hx1; omega) | (exfalso; have hq := least_del (k := k2) hcs (List.mem_of_getElem? hx2) (by omega); simp_all; done) | (exfalso; have hq := hasR_len (b := y3) (bad := y4) (free := y5); simp_all; done) | (have hq := fst_0 hx9; have hq2 := rep_clash hcs (not_f (by assumption)); have hq3 := blamed_part y3 y4 y5; simp_all; done) | (simp_all; done)
          · have pr32 : ¬ (((x1.length : Nat) : Int) : Int) < ((x0.length : Nat) : Int) := of_decide_eq_false h32
            refine C_skip ?_
            refine x_then ?_
            refine C_seq ?_
            refine C_reg ?_
            refine p1 rfl ?_
            refine D_end ?_
            refine x_then ?_
            refine C_block ?_
            refine D_mclose ?_
            refine C_loop (fun m_ ac w' => ∃ (k2 : Nat), (k2 ≤ x1.length) ∧ m_ = x1.length - k2 ∧ Fits ac 138 [(3, (.pointer (some ⟨g22, 0, none⟩))), (4, v18), (5, v20), (6, v23), (7, (.int .i64 ((i : Nat) : Int))), (8, (.int .i64 ((k2 : Nat) : Int)))] ∧ St wb9 ([ov [v23] (leastR y3 y4 y5 : (List (List Int))), bx g22 [(.int .i64 y3.Nodes), u15]]) w') ?_ ?_
            · refine fun ac w' hf hs => ⟨_, 0, ?_, rfl, hf.weak ⟨rfl, rfl, rfl, rfl, rfl, rfl, trivial⟩, hs⟩
              · first | assumption | omega | simp
            · rintro m_ ac w' ⟨k2, hk2, rfl, hf, hs⟩
              refine D.use ?_ hf hs
              clear hf hs ac w'
              refine C_seq ?_
              refine C_seq ?_
              refine C_reg ?_
              refine p1 rfl <| p1 rfl <| p1 rfl ?_
              refine D_mopen fun hd33 hl34 => ?_
              obtain ⟨r35, hh36⟩ := some_of_lt (l := hd33) (i := i) (by omega)
              obtain ⟨x2, hx2⟩ := some_of_lt (l := (leastR y3 y4 y5)) (i := i) (by omega)
              have hxl : x2.length = x1.length := by rw [Option.some.inj (hx2.symm.trans hx1)]
              have hxr := leastR_row (List.mem_of_getElem? hx2)
              refine q1 rfl (D_ix (l := (leastR y3 y4 y5)) (j := i) s_37 rfl rfl rfl (fun w' hs => (mx_rd (k := 0) hs rfl)) rfl (lt_of_some hx2)) ?_
              refine q1 rfl (lmx 0 o_27 rfl rfl rfl hh36) ?_
              refine q1 rfl (D_lenr s_27 rfl rfl (fun w' hs => (mx_row (k := 0) hs rfl hh36 hx2))) ?_
              refine p1 rfl ?_
              refine D_end ?_
              refine x_then ?_
              refine C_if _ rfl (fun h37 => ?_) (fun h37 => ?_)
              · have pr37 : (((k2 : Nat) : Int) : Int) < ((x2.length : Nat) : Int) := of_decide_eq_true h37
                refine C_skip ?_
                refine x_then ?_
                refine C_seq ?_
                refine C_block ?_
                refine C_seq ?_
                refine C_draw mixed [15, 16] (by kernel_rfl) ?_
                refine tk 1 rfl (by kernel_rfl) (by kernel_rfl) (by kernel_rfl) rfl (fun _ hs => hs) (rp rfl) ?_
                refine tk 2 rfl (by kernel_rfl) (by kernel_rfl) (by kernel_rfl) rfl (fun _ hs => hs) (rp rfl) ?_
                refine tk 3 rfl (by kernel_rfl) (by kernel_rfl) (by kernel_rfl) rfl (fun _ hs => hs) (D_ix (l := (leastR y3 y4 y5)) (j := i) s_37 rfl rfl rfl (fun w' hs => (mx_rd (k := 0) hs rfl)) rfl (lt_of_some hx2)) ?_
                refine tk 4 rfl (by kernel_rfl) (by kernel_rfl) (by kernel_rfl) rfl (fun _ hs => hs) (lmx 0 o_27 rfl rfl rfl hh36) ?_
                refine tk 5 rfl (by kernel_rfl) (by kernel_rfl) (by kernel_rfl) rfl (fun _ hs => hs) (rp rfl) ?_
                refine tk 6 rfl (by kernel_rfl) (by kernel_rfl) (by kernel_rfl) rfl (fun _ hs => hs) (D_slpr (l := x2) (m := k2) s_27 rfl rfl rfl rfl (fun w' hs => (mx_row (k := 0) hs rfl hh36 hx2)) (by omega)) ?_
                refine tk 8 rfl (by kernel_rfl) (by kernel_rfl) (by kernel_rfl) rfl (fun _ hs => hs) (rp rfl) ?_
                refine tk 9 rfl (by kernel_rfl) (by kernel_rfl) (by kernel_rfl) rfl (fun _ hs => hs) (rp rfl) ?_
                refine tk 10 rfl (by kernel_rfl) (by kernel_rfl) (by kernel_rfl) rfl (fun _ hs => hs) (D_ix (l := (leastR y3 y4 y5)) (j := i) s_37 rfl rfl rfl (fun w' hs => (mx_rd (k := 0) hs rfl)) rfl (lt_of_some hx2)) ?_
                refine tk 11 rfl (by kernel_rfl) (by kernel_rfl) (by kernel_rfl) rfl (fun _ hs => hs) (lmx 0 o_27 rfl rfl rfl hh36) ?_
                refine tk 12 rfl (by kernel_rfl) (by kernel_rfl) (by kernel_rfl) rfl (fun _ hs => hs) (rp rfl) ?_
                refine tk 13 rfl (by kernel_rfl) (by kernel_rfl) (by kernel_rfl) rfl (fun _ hs => hs) (D_add rfl rfl rfl (r := ((k2 + 1 : Nat) : Int)) (by omega) (by omega)) ?_
                refine tk 14 rfl (by kernel_rfl) (by kernel_rfl) (by kernel_rfl) rfl (fun _ hs => hs) (D_sltr (l := x2) (m := k2 + 1) s_27 rfl rfl rfl rfl (fun w' hs => (mx_row (k := 0) hs rfl hh36 hx2)) (by omega)) ?_
                refine ty 0 rfl (by kernel_rfl) rfl (D_bs0 (α := Int) s_27 rfl rfl rfl fun v38 => ?_)
                refine tS (fun _ hs => hs.pk [1, 2] rfl rfl) ?_
                refine ty 7 rfl (by kernel_rfl) rfl (D_apl (α := Int) (ys := (x2.take k2)) s_27 y_3 rfl rfl rfl rfl rfl rfl (fun w' hs => (rd_slPr (m := k2) (mx_row (k := 1) hs rfl hh36 hx2) (by omega))) (by first | omega | (simp; omega)) (by first | omega | (simp; omega)) fun v39 => ?_)
                refine tS (fun _ hs => hs.pk [1, 2] rfl rfl) ?_
                refine ty 15 rfl (by kernel_rfl) rfl (D_apl (α := Int) (ys := (x2.drop (k2 + 1))) s_27 y_3 rfl rfl rfl rfl rfl rfl (fun w' hs => (rd_slTr (m := k2 + 1) (n := 1) rfl (mx_row (k := 1) hs rfl hh36 hx2) (by omega))) (by first | omega | (simp; omega)) (by first | omega | (simp; omega)) fun v40 => ?_)
                refine tZ rfl ?_
                refine ty 16 rfl (by kernel_rfl) rfl (sv rfl rfl (rp rfl) ?_)
                refine tZ rfl ?_
                refine tE (by kernel_rfl) ?_
                refine x_then ?_
                refine D_weak [(3, (.pointer (some ⟨g22, 0, none⟩))), (4, v18), (5, v20), (6, v23), (7, (.int .i64 ((i : Nat) : Int))), (8, (.int .i64 ((k2 : Nat) : Int))), (9, v40)] ⟨rfl, rfl, rfl, rfl, rfl, rfl, rfl, trivial⟩ ?_
                refine C_seq ?_
                refine C_reg ?_
                refine q1 rfl (lbw 2 a_26 rfl rfl rfl) ?_
                refine p1 rfl <| p1 rfl <| p1 rfl ?_
                refine li rfl (cv b_9 rfl rfl rfl rfl (fun w' hs => (impl_IsRepair w' [(.int .i64 y3.Nodes), u15] y3 v18 y4 v20 y5 v40 ((([]) ++ (x2.take k2)) ++ (x2.drop (k2 + 1))) (rd_at hs hrb11) (rd_at hs hrb12) (rd_at hs hrb13) (rd_own (k := 0) hs rfl))) ?_)
                refine D_end ?_
                refine x_then ?_
                refine C_if _ rfl (fun h41 => ?_) (fun h41 => ?_)
                · refine C_seq ?_
                  refine C_reg ?_
                  refine p1 rfl ?_
                  refine D_end ?_
                  refine x_then ?_
                  refine C_ret ?_
                  refine x_blk_ret ?_
                  refine x_then_ret ?_
                  refine x_then_ret ?_
                  refine x_blk_ret ?_
                  refine x_blk_ret ?_
                  refine x_then_ret ?_
                  refine x_then_ret ?_
                  refine x_blk_ret ?_
                  refine x_then_ret ?_
                  refine D_pk [1, 0, 2] rfl rfl ?_
                  refine D_mclose ?_
                  refine R_1 rfl rfl fun w' hs => ⟨congrArg (fun z => Ending.returned (Value.bool z)) ?_, (hxb10.trans hs.bel)⟩
                  show (false : Bool) = true
                  first | rfl | (exfalso; simp_all; done) | (exfalso; have hq := least_fst hx0 hx1; omega) | (exfalso; have hq := least_del (k := k2) hcs (List.mem_of_getElem? hx2) (by omega); simp_all; done) | (exfalso; have hq := hasR_len (b := y3) (bad := y4) (free := y5); simp_all; done) | (have hq := fst_0 hx9; have hq2 := rep_clash hcs (not_f (by assumption)); have hq3 := blamed_part y3 y4 y5; simp_all; done) | (simp_all; done)
                · refine C_skip ?_
                  refine x_blk ?_
                  refine x_then ?_
                  refine C_reg ?_
                  refine p1 rfl ?_
                  refine q1 rfl (D_add rfl rfl rfl (r := ((k2 + 1 : Nat) : Int)) (by omega) (by omega)) ?_
                  refine p1 rfl ?_
                  refine D_end ?_
                  refine x_then ?_
                  refine D_pk [1, 0, 2] rfl rfl ?_
                  refine D_mclose ?_
                  refine fun ac w' hf hs => ⟨_, ?_, k2 + 1, ?_, rfl, hf.weak ⟨rfl, rfl, rfl, rfl, rfl, rfl, trivial⟩, hs.pk [0, 2] rfl rfl⟩
                  · omega
                  · first | assumption | omega | simp
              · have pr37 : ¬ (((k2 : Nat) : Int) : Int) < ((x2.length : Nat) : Int) := of_decide_eq_false h37
                refine C_exit ?_
                refine x_then_exit ?_
                refine x_then_exit ?_
                refine x_blk_eq ?_
                refine x_blk ?_
                refine x_then ?_
                refine C_reg ?_
                refine p1 rfl ?_
                refine q1 rfl (D_add rfl rfl rfl (r := ((i + 1 : Nat) : Int)) (by omega) (by omega)) ?_
                refine p1 rfl ?_
                refine D_end ?_
                refine x_then ?_
                refine D_mclose ?_
                refine fun ac w' hf hs => ⟨_, ?_, i + 1, ?_, rfl, hf.weak ⟨rfl, rfl, rfl, rfl, rfl, trivial⟩, hs⟩
                · omega
                · first | assumption | omega | simp
      · have pr24 : ¬ (((i : Nat) : Int) : Int) < (((leastR y3 y4 y5).length : Nat) : Int) := of_decide_eq_false h24
        refine C_exit ?_
        refine x_then_exit ?_
        refine x_then_exit ?_
        refine x_blk_eq ?_
        refine x_then ?_
        refine C_seq ?_
        refine C_reg ?_
        refine q1 rfl (lbw 1 a_26 rfl rfl rfl) ?_
        refine p1 rfl <| p1 rfl ?_
        refine li rfl (cr2 b_16 rfl rfl rfl rfl (fun w' hs => (impl_FirstRepair w' [(.int .i64 y3.Nodes), u15] y3 v18 y4 v20 y5 (rd_at hs hrb11) (rd_at hs hrb12) (rd_at hs hrb13))) fun cs42 cs43 => ?_)
        refine D_pre (fun w' hs => rd_cell (rd_own (k := 0) hs rfl)) ?_
        rintro ⟨v44, rfl⟩
        refine D_pre (fun w' hs => show cs43 = [(.bool (hasR y3 y4 y5))] from rd_own (k := 1) hs rfl) ?_
        rintro rfl
        refine D_re 87 (v' := (.tuple #[v44, (.bool (hasR y3 y4 y5))])) rfl rfl rfl ?_
        refine D_pk (H' := [ov [v44] (fstR y3 y4 y5 : (List Int)), ov [v23] (leastR y3 y4 y5 : (List (List Int))), bx g22 [(.int .i64 y3.Nodes), u15]]) [0, 2, 3] rfl rfl ?_
        refine p1 rfl <| p1 rfl <| p1 rfl <| p1 rfl <| p1 rfl ?_
        refine D_end ?_
        refine x_then ?_
        refine C_seq ?_
        refine C_reg ?_
        refine q1 rfl (lbw 2 a_26 rfl rfl rfl) ?_
        refine p1 rfl <| p1 rfl ?_
        refine li rfl (cr2 b_17 rfl rfl rfl rfl (fun w' hs => (impl_RepairBeliefs w' [(.int .i64 y3.Nodes), u15] y3 v18 y4 v20 y5 (rd_at hs hrb11) (rd_at hs hrb12) (rd_at hs hrb13) (by omega))) fun cs45 cs46 => ?_)
        refine D_pre (fun w' hs => shape_Beliefs (rd_own (k := 0) hs rfl)) ?_
        rintro ⟨v47, rfl, ho48⟩
        refine D_pre (fun w' hs => show cs46 = [(.bool (hasR y3 y4 y5))] from rd_own (k := 1) hs rfl) ?_
        rintro rfl
        refine D_re 94 (v' := (.tuple #[(.agg #[(.int .i64 ((repB y3 y4 y5).Nodes)), v47]), (.bool (hasR y3 y4 y5))])) rfl rfl rfl ?_
        refine D_pk (H' := [ov [(.int .i64 ((repB y3 y4 y5).Nodes)), v47] (repB y3 y4 y5 : Beliefs), ov [v44] (fstR y3 y4 y5 : (List Int)), ov [v23] (leastR y3 y4 y5 : (List (List Int))), bx g22 [(.int .i64 y3.Nodes), u15]]) [0, 2, 3, 4] rfl rfl ?_
        refine p1 rfl <| p1 rfl <| p1 rfl ?_
        refine li rfl (D_alloc y_26 rfl rfl rfl rfl fun g49 => ?_)
        refine li rfl (D_stb (vs := [(.int .i64 ((repB y3 y4 y5).Nodes)), v47]) (cs' := [(.int .i64 ((repB y3 y4 y5).Nodes)), v47]) 0 z_26 rfl rfl rfl rfl rfl rfl (ocons rfl (ocons ho48 onil)) (by simp) rfl ?_)
        refine p1 rfl ?_
        refine D_end ?_
        refine x_then ?_
        refine D_weak [(3, (.pointer (some ⟨g22, 0, none⟩))), (4, v18), (5, v20), (6, v23), (10, v44), (11, (.bool (hasR y3 y4 y5))), (12, (.pointer (some ⟨g49, 0, none⟩))), (13, (.bool (hasR y3 y4 y5)))] ⟨rfl, rfl, rfl, rfl, rfl, rfl, rfl, rfl, trivial⟩ ?_
        refine D_H ([bx g49 [(.int .i64 ((repB y3 y4 y5).Nodes)), v47], ov [(.int .i64 ((repB y3 y4 y5).Nodes)), v47] (repB y3 y4 y5 : Beliefs), ov [v44] (fstR y3 y4 y5 : (List Int)), ov [v23] (leastR y3 y4 y5 : (List (List Int))), bx g22 [(.int .i64 y3.Nodes), u15]]) rfl ?_
        refine C_seq ?_
        refine C_seq ?_
        refine C_reg ?_
        refine q1 rfl (lbw 4 a_26 rfl rfl rfl) ?_
        refine p1 rfl <| p1 rfl ?_
        refine li rfl (cv b_18 rfl rfl rfl rfl (fun w' hs => (impl_IsCase w' [(.int .i64 y3.Nodes), u15] y3 v18 y4 v20 y5 (rd_at hs hrb11) (rd_at hs hrb12) (rd_at hs hrb13))) ?_)
        refine p1 rfl <| p1 rfl ?_
        refine gs 102 rfl rfl (fun h50 => ?_) (fun h50 => ?_)
        · have h50n : (isCase y3 y4 y5) = false := not_t h50
          refine n1 rfl ?_
          refine n1 rfl ?_
          refine n1 rfl ?_
          refine n1 rfl ?_
          refine n1 rfl ?_
          refine p1 rfl <| p1 rfl ?_
          refine n1 rfl ?_
          refine n1 rfl ?_
          refine n1 rfl ?_
          refine p1 rfl ?_
          refine D_end ?_
          refine x_then ?_
          refine D_weak [(3, (.pointer (some ⟨g22, 0, none⟩))), (4, v18), (5, v20), (6, v23), (10, v44), (11, (.bool (hasR y3 y4 y5))), (12, (.pointer (some ⟨g49, 0, none⟩))), (113, (.bool true))] ⟨rfl, rfl, rfl, rfl, rfl, rfl, rfl, rfl, trivial⟩ ?_
          refine C_t rfl ?_
          refine C_seq ?_
          refine C_reg ?_
          refine p1 rfl ?_
          refine D_end ?_
          refine x_then ?_
          refine C_ret ?_
          refine x_then_ret ?_
          refine R_1 rfl rfl fun w' hs => ⟨congrArg (fun z => Ending.returned (Value.bool z)) ?_, (hxb10.trans hs.bel)⟩
          show (false : Bool) = true
          first | rfl | (exfalso; simp_all; done) | (exfalso; have hq := least_fst hx0 hx1; omega) | (exfalso; have hq := least_del (k := k2) hcs (List.mem_of_getElem? hx2) (by omega); simp_all; done) | (exfalso; have hq := hasR_len (b := y3) (bad := y4) (free := y5); simp_all; done) | (have hq := fst_0 hx9; have hq2 := rep_clash hcs (not_f (by assumption)); have hq3 := blamed_part y3 y4 y5; simp_all; done) | (simp_all; done)
        · have h50n : (isCase y3 y4 y5) = true := not_f h50
          refine p1 rfl <| p1 rfl ?_
          refine q1 rfl (D_leno 3 s_37 rfl rfl rfl) ?_
          refine p1 rfl ?_
          refine q1 rfl (D_neB ub_4 rfl rfl rfl) ?_
          refine p1 rfl <| p1 rfl ?_
          refine gs 109 rfl rfl (fun h51 => ?_) (fun h51 => ?_)
          · refine n1 rfl ?_
            refine n1 rfl ?_
            refine n1 rfl ?_
            refine p1 rfl ?_
            refine D_end ?_
            refine x_then ?_
            refine D_weak [(3, (.pointer (some ⟨g22, 0, none⟩))), (4, v18), (5, v20), (6, v23), (10, v44), (11, (.bool (hasR y3 y4 y5))), (12, (.pointer (some ⟨g49, 0, none⟩))), (113, (.bool true))] ⟨rfl, rfl, rfl, rfl, rfl, rfl, rfl, rfl, trivial⟩ ?_
            refine C_t rfl ?_
            refine C_seq ?_
            refine C_reg ?_
            refine p1 rfl ?_
            refine D_end ?_
            refine x_then ?_
            refine C_ret ?_
            refine x_then_ret ?_
            refine R_1 rfl rfl fun w' hs => ⟨congrArg (fun z => Ending.returned (Value.bool z)) ?_, (hxb10.trans hs.bel)⟩
            show (false : Bool) = true
            first | rfl | (exfalso; simp_all; done) | (exfalso; have hq := least_fst hx0 hx1; omega) | (exfalso; have hq := least_del (k := k2) hcs (List.mem_of_getElem? hx2) (by omega); simp_all; done) | (exfalso; have hq := hasR_len (b := y3) (bad := y4) (free := y5); simp_all; done) | (have hq := fst_0 hx9; have hq2 := rep_clash hcs (not_f (by assumption)); have hq3 := blamed_part y3 y4 y5; simp_all; done) | (simp_all; done)
          · have pr51 : (hasR y3 y4 y5) = (decide ((0 : Int) < (((leastR y3 y4 y5).length : Nat) : Int))) := beq_of_not h51
            refine p1 rfl <| p1 rfl ?_
            refine q1 rfl (D_neB ub_4 rfl rfl rfl) ?_
            refine p1 rfl ?_
            refine D_end ?_
            refine x_then ?_
            refine D_weak [(3, (.pointer (some ⟨g22, 0, none⟩))), (4, v18), (5, v20), (6, v23), (10, v44), (11, (.bool (hasR y3 y4 y5))), (12, (.pointer (some ⟨g49, 0, none⟩))), (113, (.bool (!((hasR y3 y4 y5) == (hasR y3 y4 y5)))))] ⟨rfl, rfl, rfl, rfl, rfl, rfl, rfl, rfl, trivial⟩ ?_
            refine C_if _ rfl (fun h52 => ?_) (fun h52 => ?_)
            · refine C_seq ?_
              refine C_reg ?_
              refine p1 rfl ?_
              refine D_end ?_
              refine x_then ?_
              refine C_ret ?_
              refine x_then_ret ?_
              refine R_1 rfl rfl fun w' hs => ⟨congrArg (fun z => Ending.returned (Value.bool z)) ?_, (hxb10.trans hs.bel)⟩
              show (false : Bool) = true
              first | rfl | (exfalso; simp_all; done) | (exfalso; have hq := least_fst hx0 hx1; omega) | (exfalso; have hq := least_del (k := k2) hcs (List.mem_of_getElem? hx2) (by omega); simp_all; done) | (exfalso; have hq := hasR_len (b := y3) (bad := y4) (free := y5); simp_all; done) | (have hq := fst_0 hx9; have hq2 := rep_clash hcs (not_f (by assumption)); have hq3 := blamed_part y3 y4 y5; simp_all; done) | (simp_all; done)
            · have pr52 : (hasR y3 y4 y5) = (hasR y3 y4 y5) := beq_of_not h52
              refine C_skip ?_
              refine x_then ?_
              refine C_seq ?_
              refine C_reg ?_
              refine p1 rfl <| p1 rfl <| p1 rfl ?_
              refine gs 116 rfl rfl (fun h53 => ?_) (fun h53 => ?_)
              · have h53n : (hasR y3 y4 y5) = false := not_t h53
                refine n1 rfl ?_
                refine n1 rfl ?_
                refine n1 rfl ?_
                refine n1 rfl ?_
                refine n1 rfl ?_
                refine n1 rfl ?_
                refine n1 rfl ?_
                refine n1 rfl ?_
                refine n1 rfl ?_
                refine n1 rfl ?_
                refine n1 rfl ?_
                refine n1 rfl ?_
                refine n1 rfl ?_
                refine n1 rfl ?_
                refine n1 rfl ?_
                refine n1 rfl ?_
                refine n1 rfl ?_
                refine n1 rfl ?_
                refine n1 rfl ?_
                refine n1 rfl ?_
                refine p1 rfl <| p1 rfl ?_
                refine D_end ?_
                refine x_then ?_
                refine D_weak [(2, (.bool true))] ⟨rfl, trivial⟩ ?_
                refine D_sel (H' := []) [false, false, false, false, false] rfl ?_
                refine C_ret ?_
                refine R_1 rfl rfl fun w' hs => ⟨congrArg (fun z => Ending.returned (Value.bool z)) ?_, (hxb10.trans hs.bel)⟩
                show (true : Bool) = true
                first | rfl | (exfalso; simp_all; done) | (exfalso; have hq := least_fst hx0 hx1; omega) | (exfalso; have hq := least_del (k := k2) hcs (List.mem_of_getElem? hx2) (by omega); simp_all; done) | (exfalso; have hq := hasR_len (b := y3) (bad := y4) (free := y5); simp_all; done) | (have hq := fst_0 hx9; have hq2 := rep_clash hcs (not_f (by assumption)); have hq3 := blamed_part y3 y4 y5; simp_all; done) | (simp_all; done)
              · have h53n : (hasR y3 y4 y5) = true := not_f h53
                refine p1 rfl <| p1 rfl ?_
                have hq0 : 0 < (leastR y3 y4 y5).length := by have hq := hasR_len (b := y3) (bad := y4) (free := y5); simp_all
                refine D_pk (H' := [ov [v23] (leastR y3 y4 y5 : (List (List Int))), bx g49 [(.int .i64 ((repB y3 y4 y5).Nodes)), v47], ov [(.int .i64 ((repB y3 y4 y5).Nodes)), v47] (repB y3 y4 y5 : Beliefs), ov [v44] (fstR y3 y4 y5 : (List Int)), bx g22 [(.int .i64 y3.Nodes), u15]]) [3, 0, 1, 2, 4] rfl rfl ?_
                refine D_mopen fun hd54 hl55 => ?_
                obtain ⟨r56, hh57⟩ := some_of_lt (l := hd54) (i := 0) (by omega)
                obtain ⟨x9, hx9⟩ := some_of_lt (l := (leastR y3 y4 y5)) (i := 0) (by omega)
                refine q1 rfl (D_ix (l := (leastR y3 y4 y5)) (j := 0) s_37 rfl rfl rfl (fun w' hs => (mx_rd (k := 0) hs rfl)) rfl (lt_of_some hx9)) ?_
                refine q1 rfl (lmx 0 o_27 rfl rfl rfl hh57) ?_
                refine li rfl (cv b_19 rfl rfl rfl rfl (fun w' hs => (laws_ints w' v44 (fstR y3 y4 y5) r56 x9 (rd_own (k := 3) hs rfl) (mx_row (k := 0) hs rfl hh57 hx9))) ?_)
                refine p1 rfl ?_
                refine gs 122 rfl rfl (fun h58 => ?_) (fun h58 => ?_)
                · refine q1 rfl (lbw 1 a_26 rfl rfl rfl) ?_
                  refine p1 rfl ?_
                  refine li rfl (crl b_11 rfl rfl rfl rfl (fun w' hs => (impl_ClashesOf w' [(.int .i64 ((repB y3 y4 y5).Nodes)), v47] (repB y3 y4 y5) v18 y4 (rd_own (k := 2) hs rfl) (rd_at hs hrb12))) fun v59 => ?_)
                  refine q1 rfl (D_leno 0 s_27 rfl rfl rfl) ?_
                  refine p1 rfl <| p1 rfl <| p1 rfl ?_
                  refine gs 129 rfl rfl (fun h60 => ?_) (fun h60 => ?_)
                  · have pr60 : ((((clashes (repB y3 y4 y5) y4).length : Nat) : Int) : Int) = 0 := eq_of_beq h60
                    refine q1 rfl (lbw 5 a_26 rfl rfl rfl) ?_
                    refine p1 rfl <| p1 rfl ?_
                    refine li rfl (crl b_15 rfl rfl rfl rfl (fun w' hs => (impl_BlamedOf w' [(.int .i64 y3.Nodes), u15] y3 v18 y4 v20 y5 (rd_at hs hrb11) (rd_at hs hrb12) (rd_at hs hrb13) (by first | assumption | omega | (unfold szm at *; split at * <;> omega)))) fun v61 => ?_)
                    refine p1 rfl ?_
                    refine li rfl (cv b_20 rfl rfl rfl rfl (fun w' hs => (laws_part w' v61 (blamedR y3 y4 y5) v20 y5 (rd_own (k := 0) hs rfl) (rd_at hs hrb13))) ?_)
                    refine p1 rfl <| p1 rfl <| p1 rfl ?_
                    refine D_end ?_
                    refine x_then ?_
                    refine D_weak [(2, (.bool ((blamedR y3 y4 y5).all (fun x => y5.contains x))))] ⟨rfl, trivial⟩ ?_
                    refine D_sel [false, false, true, false, true, false, false] rfl ?_
                    refine C_ret ?_
                    refine D_mclose ?_
                    refine R_1 rfl rfl fun w' hs => ⟨congrArg (fun z => Ending.returned (Value.bool z)) ?_, (hxb10.trans hs.bel)⟩
                    show (((blamedR y3 y4 y5).all (fun x => y5.contains x)) : Bool) = true
                    first | rfl | (exfalso; simp_all; done) | (exfalso; have hq := least_fst hx0 hx1; omega) | (exfalso; have hq := least_del (k := k2) hcs (List.mem_of_getElem? hx2) (by omega); simp_all; done) | (exfalso; have hq := hasR_len (b := y3) (bad := y4) (free := y5); simp_all; done) | (have hq := fst_0 hx9; have hq2 := rep_clash hcs (not_f (by assumption)); have hq3 := blamed_part y3 y4 y5; simp_all; done) | (simp_all; done)
                  · have pr60 : ((((clashes (repB y3 y4 y5) y4).length : Nat) : Int) : Int) ≠ 0 := ne_of_beq_false h60
                    refine n1 rfl ?_
                    refine n1 rfl ?_
                    refine n1 rfl ?_
                    refine n1 rfl ?_
                    refine n1 rfl ?_
                    refine n1 rfl ?_
                    refine p1 rfl <| p1 rfl <| p1 rfl ?_
                    refine D_end ?_
                    refine x_then ?_
                    refine D_weak [(2, (.bool false))] ⟨rfl, trivial⟩ ?_
                    refine D_sel [false, true, false, false, false, false] rfl ?_
                    refine C_ret ?_
                    refine D_mclose ?_
                    refine R_1 rfl rfl fun w' hs => ⟨congrArg (fun z => Ending.returned (Value.bool z)) ?_, (hxb10.trans hs.bel)⟩
                    show (false : Bool) = true
                    first | rfl | (exfalso; simp_all; done) | (exfalso; have hq := least_fst hx0 hx1; omega) | (exfalso; have hq := least_del (k := k2) hcs (List.mem_of_getElem? hx2) (by omega); simp_all; done) | (exfalso; have hq := hasR_len (b := y3) (bad := y4) (free := y5); simp_all; done) | (have hq := fst_0 hx9; have hq2 := rep_clash hcs (not_f (by assumption)); have hq3 := blamed_part y3 y4 y5; simp_all; done) | (simp_all; done)
                · refine n1 rfl ?_
                  refine n1 rfl ?_
                  refine n1 rfl ?_
                  refine n1 rfl ?_
                  refine n1 rfl ?_
                  refine p1 rfl <| p1 rfl ?_
                  refine n1 rfl ?_
                  refine n1 rfl ?_
                  refine n1 rfl ?_
                  refine n1 rfl ?_
                  refine n1 rfl ?_
                  refine n1 rfl ?_
                  refine p1 rfl <| p1 rfl <| p1 rfl ?_
                  refine D_end ?_
                  refine x_then ?_
                  refine D_weak [(2, (.bool false))] ⟨rfl, trivial⟩ ?_
                  refine D_sel [true, false, false, false, false] rfl ?_
                  refine C_ret ?_
                  refine D_mclose ?_
                  refine R_1 rfl rfl fun w' hs => ⟨congrArg (fun z => Ending.returned (Value.bool z)) ?_, (hxb10.trans hs.bel)⟩
                  show (false : Bool) = true
                  first | rfl | (exfalso; simp_all; done) | (exfalso; have hq := least_fst hx0 hx1; omega) | (exfalso; have hq := least_del (k := k2) hcs (List.mem_of_getElem? hx2) (by omega); simp_all; done) | (exfalso; have hq := hasR_len (b := y3) (bad := y4) (free := y5); simp_all; done) | (have hq := fst_0 hx9; have hq2 := rep_clash hcs (not_f (by assumption)); have hq3 := blamed_part y3 y4 y5; simp_all; done) | (simp_all; done)
end Go.Sy.Law6
