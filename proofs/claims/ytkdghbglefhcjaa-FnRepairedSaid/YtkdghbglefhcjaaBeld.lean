/-
  Contracts of functions of the program, walked (printed by a program of ours).
  Conditions: those that each theorem states.
-/
import Derived.Test.YtkdghbglefhcjaaBelb
import Derived.Test.YtkdghbglefhcjaaGraph
set_option linter.unusedVariables false
set_option maxRecDepth 20000
namespace Go.Sy.Beld
open Go Go.RowKit Go.Proofs Go.Sy
theorem mixed : Try.prog.follows .mixedOrders = true := by kernel_rfl
theorem a_26 : aggTy Try.prog 26 = some 2 := by kernel_rfl
theorem b_18 : hasBody Try.prog 18 = true := by kernel_rfl
theorem s_27 : sliceTy Try.prog 27 = some (3, 1, 8) := by kernel_rfl
theorem o_3 : oneTy Try.prog 3 = true := by kernel_rfl
theorem b_23 : hasBody Try.prog 23 = true := by kernel_rfl
theorem b_25 : hasBody Try.prog 25 = true := by kernel_rfl
theorem b_24 : hasBody Try.prog 24 = true := by kernel_rfl
open Go.Sy.Bel1 Go.Sy.Bel2 Go.Sy.Bel3 Go.Sy.Bel4 Go.Sy.Bel5 Go.Sy.Bel6 Go.Sy.Bel7 Go.Sy.Bel8 Go.Sy.Bel9 Go.Sy.Belb
theorem impl_IsRepair (w : World) (c_b : List Value) (b : Beliefs) (v_bad : Value) (bad : (List Int)) (v_free : Value) (free : (List Int)) (v_l : Value) (l : (List Int)) (h_b : Gd.rd w c_b b) (h_bad : Gd.rd w [v_bad] bad) (h_free : Gd.rd w [v_free] free) (h_l : Gd.rd w [v_l] l) : Calls Try.prog 9 [(.agg c_b.toArray), v_bad, v_free, v_l].toArray w (Val w (.bool (isRep b bad free l))) := by
  obtain ⟨u1, rfl, hu2⟩ := open_Beliefs h_b
  have hm3 := rd_max hu2
  have hm4 := rd_max h_bad
  have hm5 := rd_max h_free
  have hm6 := rd_max h_l
  refine enter 48 Try.func9 rfl rfl rfl ?_
  refine C_seq ?_
  refine C_reg ?_
  refine li rfl (D_box rfl rfl rfl rfl rfl fun g7 => ?_)
  refine p1 rfl ?_
  refine D_end ?_
  refine x_then ?_
  refine D_H ([bx g7 [(.int .i64 b.Nodes), u1]]) rfl ?_
  refine C_seq ?_
  refine C_seq ?_
  refine C_reg ?_
  refine q1 rfl (lbw 0 a_26 rfl rfl rfl) ?_
  refine p1 rfl <| p1 rfl ?_
  refine li rfl (cv b_18 rfl rfl rfl rfl (fun w' hs => (impl_IsCase w' [(.int .i64 b.Nodes), u1] b v_bad bad v_free free (rd_at hs h_b) (rd_at hs h_bad) (rd_at hs h_free))) ?_)
  refine p1 rfl ?_
  refine D_end ?_
  refine x_then ?_
  refine C_if _ rfl (fun h8 => ?_) (fun h8 => ?_)
  · have h8n : (isCase b bad free) = false := not_t h8
    refine C_seq ?_
    refine C_reg ?_
    refine p1 rfl ?_
    refine D_end ?_
    refine x_then ?_
    refine C_ret ?_
    refine x_then_ret ?_
    refine R_1 rfl rfl fun w' hs => ⟨congrArg (fun z => Ending.returned (Value.bool z)) ?_, hs.bel⟩
    show (false : Bool) = isRep b bad free l
    exact rep_n1 h8n
  · have h8n : (isCase b bad free) = true := not_f h8
    refine C_skip ?_
    refine x_then ?_
    refine C_seq ?_
    refine C_seq ?_
    have hcs : isCase b bad free = true := by assumption
    have hst := case_s hcs
    have hsol := strat_has hst
    have ho := isB_ok2 (strat_b hst)
    have hsz := szB_small (strat_b hst)
    have hbl := case_bl hcs
    have hrl : b.Reasons.length ≤ 1048576 := by have := isB_len (strat_b hst); omega
    refine C_reg ?_
    refine p1 rfl ?_
    refine q1 rfl (D_len s_27 rfl rfl (rd_sl h_l)) ?_
    refine p1 rfl ?_
    refine D_end ?_
    refine x_then ?_
    refine C_block ?_
    refine C_loop (fun m_ ac w' => ∃ (k : Nat), (k ≤ l.length) ∧ (∀ i, i < k → repAt l free i = true) ∧ m_ = l.length - k ∧ Fits ac 48 [(1, v_bad), (2, v_free), (3, v_l), (4, (.pointer (some ⟨g7, 0, none⟩))), (16, v_l), (17, (.int .i64 ((l.length : Nat) : Int))), (18, (.int .i64 ((k : Nat) : Int)))] ∧ St w ([bx g7 [(.int .i64 b.Nodes), u1]]) w') ?_ ?_
    · refine fun ac w' hf hs => ⟨_, 0, ?_, ?_, rfl, hf.weak ⟨rfl, rfl, rfl, rfl, rfl, rfl, rfl, trivial⟩, hs⟩
      · first | assumption | omega | simp
      · intro i hi; omega
    · rintro m_ ac w' ⟨k, hk, hi, rfl, hf, hs⟩
      refine D.use ?_ hf hs
      clear hf hs ac w'
      refine C_seq ?_
      refine C_reg ?_
      refine p1 rfl ?_
      refine D_end ?_
      refine x_then ?_
      refine C_seq ?_
      refine C_if _ rfl (fun h9 => ?_) (fun h9 => ?_)
      · have pr9 : (((k : Nat) : Int) : Int) < ((l.length : Nat) : Int) := of_decide_eq_true h9
        refine C_skip ?_
        refine x_then ?_
        refine C_seq ?_
        refine C_block ?_
        refine C_seq ?_
        refine C_reg ?_
        refine p1 rfl ?_
        obtain ⟨y2, hy2⟩ := some_of_lt (l := l) (i := k) (by omega)
        obtain ⟨es10, at11, hr12⟩ := rd_elem (n := 1) rfl h_l hy2
        obtain rfl : es10 = [.int .i64 y2] := hr12
        refine q1 rfl (D_ix (l := l) (j := k) s_27 rfl rfl rfl (fun w' hs => (rd_at hs h_l)) rfl (lt_of_some hy2)) ?_
        refine q1 rfl (lr0 o_3 rfl rfl at11 rfl) ?_
        refine p1 rfl <| p1 rfl ?_
        refine D_end ?_
        refine x_then ?_
        refine C_seq ?_
        refine C_reg ?_
        refine p1 rfl <| p1 rfl ?_
        refine li rfl (cv b_23 rfl rfl rfl rfl (fun w' hs => (impl_hasInt w' v_free free y2 (rd_at hs h_free))) ?_)
        refine p1 rfl <| p1 rfl ?_
        refine gs 27 rfl rfl (fun h13 => ?_) (fun h13 => ?_)
        · have h13n : (free.contains y2) = false := not_t h13
          refine n1 rfl ?_
          refine n1 rfl ?_
          refine n1 rfl ?_
          refine n1 rfl ?_
          refine n1 rfl ?_
          refine n1 rfl ?_
          refine n1 rfl ?_
          refine n1 rfl ?_
          refine n1 rfl ?_
          refine n1 rfl ?_
          refine n1 rfl ?_
          refine p1 rfl ?_
          refine D_end ?_
          refine x_then ?_
          refine D_weak [(1, v_bad), (2, v_free), (3, v_l), (4, (.pointer (some ⟨g7, 0, none⟩))), (16, v_l), (17, (.int .i64 ((l.length : Nat) : Int))), (18, (.int .i64 ((k : Nat) : Int))), (39, (.bool true))] ⟨rfl, rfl, rfl, rfl, rfl, rfl, rfl, rfl, trivial⟩ ?_
          refine C_t rfl ?_
          refine C_seq ?_
          refine C_reg ?_
          refine p1 rfl ?_
          refine D_end ?_
          refine x_then ?_
          refine C_ret ?_
          refine x_blk_ret ?_
          refine x_then_ret ?_
          refine x_then_ret ?_
          refine x_blk_ret ?_
          refine x_then_ret ?_
          refine R_1 rfl rfl fun w' hs => ⟨congrArg (fun z => Ending.returned (Value.bool z)) ?_, hs.bel⟩
          show (false : Bool) = isRep b bad free l
          exact rep_n2 hcs (by omega) (repAt_f1 hy2 (not_t (by assumption)))
        · have h13n : (free.contains y2) = true := not_f h13
          refine p1 rfl <| p1 rfl <| p1 rfl ?_
          refine gs 30 rfl rfl (fun h14 => ?_) (fun h14 => ?_)
          · have pr14 : (0 : Int) < ((k : Nat) : Int) := of_decide_eq_true h14
            refine p1 rfl <| p1 rfl ?_
            refine q1 rfl (D_sub rfl rfl rfl (r := ((k - 1 : Nat) : Int)) (by omega) (by omega)) ?_
            obtain ⟨y1, hy1⟩ := some_of_lt (l := l) (i := (k - 1)) (by omega)
            obtain ⟨es15, at16, hr17⟩ := rd_elem (n := 1) rfl h_l hy1
            obtain rfl : es15 = [.int .i64 y1] := hr17
            refine q1 rfl (D_ix (l := l) (j := (k - 1)) s_27 rfl rfl rfl (fun w' hs => (rd_at hs h_l)) rfl (lt_of_some hy1)) ?_
            refine q1 rfl (lr0 o_3 rfl rfl at16 rfl) ?_
            refine p1 rfl <| p1 rfl <| p1 rfl <| p1 rfl ?_
            refine D_end ?_
            refine x_then ?_
            refine D_weak [(1, v_bad), (2, v_free), (3, v_l), (4, (.pointer (some ⟨g7, 0, none⟩))), (16, v_l), (17, (.int .i64 ((l.length : Nat) : Int))), (18, (.int .i64 ((k : Nat) : Int))), (39, (.bool (decide ((y2 : Int) ≤ y1))))] ⟨rfl, rfl, rfl, rfl, rfl, rfl, rfl, rfl, trivial⟩ ?_
            refine C_if _ rfl (fun h18 => ?_) (fun h18 => ?_)
            · have pr18 : (y2 : Int) ≤ y1 := of_decide_eq_true h18
              refine C_seq ?_
              refine C_reg ?_
              refine p1 rfl ?_
              refine D_end ?_
              refine x_then ?_
              refine C_ret ?_
              refine x_blk_ret ?_
              refine x_then_ret ?_
              refine x_then_ret ?_
              refine x_blk_ret ?_
              refine x_then_ret ?_
              refine R_1 rfl rfl fun w' hs => ⟨congrArg (fun z => Ending.returned (Value.bool z)) ?_, hs.bel⟩
              show (false : Bool) = isRep b bad free l
              exact rep_n2 hcs (by omega) (repAt_f2 hy2 (by omega) hy1 (by omega))
            · have pr18 : ¬ (y2 : Int) ≤ y1 := of_decide_eq_false h18
              refine C_skip ?_
              refine x_blk ?_
              refine x_then ?_
              refine C_reg ?_
              refine q1 rfl (D_add rfl rfl rfl (r := ((k + 1 : Nat) : Int)) (by omega) (by omega)) ?_
              refine p1 rfl ?_
              refine D_end ?_
              refine x_then ?_
              refine fun ac w' hf hs => ⟨_, ?_, k + 1, ?_, ?_, rfl, hf.weak ⟨rfl, rfl, rfl, rfl, rfl, rfl, rfl, trivial⟩, hs⟩
              · omega
              · first | assumption | omega | simp
              · refine forall_step hi ?_; first | exact repAt_t1 hy2 (not_f (by assumption)) hy1 (by omega) | exact repAt_t0 hy2 (not_f (by assumption)) (by omega)
          · have pr14 : ¬ (0 : Int) < ((k : Nat) : Int) := of_decide_eq_false h14
            refine n1 rfl ?_
            refine n1 rfl ?_
            refine n1 rfl ?_
            refine n1 rfl ?_
            refine n1 rfl ?_
            refine n1 rfl ?_
            refine n1 rfl ?_
            refine p1 rfl <| p1 rfl ?_
            refine D_end ?_
            refine x_then ?_
            refine D_weak [(1, v_bad), (2, v_free), (3, v_l), (4, (.pointer (some ⟨g7, 0, none⟩))), (16, v_l), (17, (.int .i64 ((l.length : Nat) : Int))), (18, (.int .i64 ((k : Nat) : Int))), (39, (.bool false))] ⟨rfl, rfl, rfl, rfl, rfl, rfl, rfl, rfl, trivial⟩ ?_
            refine C_f rfl ?_
            refine C_skip ?_
            refine x_blk ?_
            refine x_then ?_
            refine C_reg ?_
            refine q1 rfl (D_add rfl rfl rfl (r := ((k + 1 : Nat) : Int)) (by omega) (by omega)) ?_
            refine p1 rfl ?_
            refine D_end ?_
            refine x_then ?_
            refine fun ac w' hf hs => ⟨_, ?_, k + 1, ?_, ?_, rfl, hf.weak ⟨rfl, rfl, rfl, rfl, rfl, rfl, rfl, trivial⟩, hs⟩
            · omega
            · first | assumption | omega | simp
            · refine forall_step hi ?_; first | exact repAt_t1 hy2 (not_f (by assumption)) hy1 (by omega) | exact repAt_t0 hy2 (not_f (by assumption)) (by omega)
      · have pr9 : ¬ (((k : Nat) : Int) : Int) < ((l.length : Nat) : Int) := of_decide_eq_false h9
        refine C_exit ?_
        refine x_then_exit ?_
        refine x_then_exit ?_
        refine x_blk_eq ?_
        refine x_then ?_
        refine C_seq ?_
        refine C_reg ?_
        refine q1 rfl (lbw 0 a_26 rfl rfl rfl) ?_
        refine p1 rfl ?_
        refine li rfl (crs rfl b_25 rfl rfl rfl rfl (fun w' hs => (impl_DropReasons w' [(.int .i64 b.Nodes), u1] b v_l l (rd_at hs h_b) (rd_at hs h_l) (by first | assumption | omega | (unfold szm at *; split at * <;> omega)))) fun cs19 => ?_)
        refine D_pre (fun w' hs => shape_Beliefs (rd_own (k := 0) hs rfl)) ?_
        rintro ⟨v20, rfl, ho21⟩
        refine p1 rfl ?_
        refine li rfl (crl b_24 rfl rfl rfl rfl (fun w' hs => (impl_badIn w' [(.int .i64 ((dropR b l).Nodes)), v20] (dropR b l) v_bad bad (rd_own (k := 0) hs rfl) (rd_at hs h_bad) ((dropR_sub b l).ok ho) ((dropR_sub b l).sol hsol) (Nat.le_trans (dropR_sub b l).2.1 hrl) (show asc bad b.Nodes = true from case_a hcs))) fun v22 => ?_)
        refine q1 rfl (D_leno 0 s_27 rfl rfl rfl) ?_
        refine p1 rfl <| p1 rfl ?_
        refine D_end ?_
        refine x_then ?_
        refine D_weak [(8, (.bool (((((badL (dropR b l) bad).length : Nat) : Int) : Int) == 0)))] ⟨rfl, trivial⟩ ?_
        refine D_sel (H' := []) [false, false, false] rfl ?_
        refine C_ret ?_
        refine R_1 rfl rfl fun w' hs => ⟨congrArg (fun z => Ending.returned (Value.bool z)) ?_, hs.bel⟩
        show ((((((badL (dropR b l) bad).length : Nat) : Int) : Int) == 0) : Bool) = isRep b bad free l
        exact rep_y hcs (fun i h => hi i (by omega))
end Go.Sy.Beld
