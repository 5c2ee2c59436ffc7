/-
  Contracts of functions of the program, walked (printed by a program of ours).
  Conditions: those that each theorem states.
-/
import Derived.Test.YtkdghbglefhcjaaLaw1
import Derived.Test.YtkdghbglefhcjaaCur3
import Derived.Test.YtkdghbglefhcjaaLaw3
import Derived.Test.YtkdghbglefhcjaaCas
set_option linter.unusedVariables false
set_option maxRecDepth 20000
namespace Go.Sy.Law5
open Go Go.RowKit Go.Proofs Go.Sy
theorem mixed : Try.prog.follows .mixedOrders = true := by kernel_rfl
theorem s_27 : sliceTy Try.prog 27 = some (3, 1, 8) := by kernel_rfl
theorem o_3 : oneTy Try.prog 3 = true := by kernel_rfl
theorem b_6 : hasBody Try.prog 6 = true := by kernel_rfl
theorem b_7 : hasBody Try.prog 7 = true := by kernel_rfl
theorem y_26 : zeroTy Try.prog 26 = some (.agg #[(.int .i64 0), (.slice none 0 0)]) := by kernel_rfl
theorem z_26 : sizeTy Try.prog 26 = some 2 := by kernel_rfl
theorem f_26_1 : fieldOff Try.prog 26 1 = some 1 := by kernel_rfl
theorem o_24 : oneTy Try.prog 24 = true := by kernel_rfl
theorem s_24 : sliceTy Try.prog 24 = some (31, 3, 56) := by kernel_rfl
theorem f_31_2 : fieldOff Try.prog 31 2 = some 2 := by kernel_rfl
theorem o_27 : oneTy Try.prog 27 = true := by kernel_rfl
theorem b_8 : hasBody Try.prog 8 = true := by kernel_rfl
theorem y_3 : zeroTy Try.prog 3 = some (.int .i64 0) := by kernel_rfl
theorem a_26 : aggTy Try.prog 26 = some 2 := by kernel_rfl
theorem b_9 : hasBody Try.prog 9 = true := by kernel_rfl
theorem b_10 : hasBody Try.prog 10 = true := by kernel_rfl
theorem b_11 : hasBody Try.prog 11 = true := by kernel_rfl
theorem b_12 : hasBody Try.prog 12 = true := by kernel_rfl
theorem b_13 : hasBody Try.prog 13 = true := by kernel_rfl
open Go.Sy.Bel1 Go.Sy.Bel2 Go.Sy.Bel3 Go.Sy.Bel4 Go.Sy.Bel5 Go.Sy.Bel6 Go.Sy.Bel7 Go.Sy.Bel8 Go.Sy.Bel9 Go.Sy.Belb Go.Sy.Belc Go.Sy.Beld Go.Sy.Cur1 Go.Sy.Law1 Go.Sy.Law3 Go.Sy.Cur3
theorem laws_hasInt (w : World) (v_l : Value) (l : (List Int)) (x : Int) (h_l : Gd.rd w [v_l] l) : Calls Try.prog 13 [v_l, (.int .i64 x)].toArray w (Val w (.bool (l.contains x))) := by
  have hm1 := rd_max h_l
  refine enter 18 Try.func13 rfl rfl rfl ?_
  refine C_seq ?_
  refine C_reg ?_
  refine p1 rfl ?_
  refine D_end ?_
  refine x_then ?_
  refine C_seq ?_
  refine C_seq ?_
  refine C_reg ?_
  refine p1 rfl ?_
  refine D_end ?_
  refine x_then ?_
  refine C_block ?_
  refine C_loop (fun m_ ac w' => ∃ (k : Nat), (k ≤ l.length) ∧ (∀ i, i < k → l[i]? ≠ some x) ∧ m_ = l.length - k ∧ Fits ac 18 [(0, v_l), (1, (.int .i64 x)), (5, (.int .i64 ((k : Nat) : Int)))] ∧ St w ([]) w') ?_ ?_
  · refine fun ac w' hf hs => ⟨_, 0, ?_, ?_, rfl, hf.weak ⟨rfl, rfl, rfl, trivial⟩, hs⟩
    · first | assumption | omega | simp
    · intro i hi; omega
  · rintro m_ ac w' ⟨k, hk, hi, rfl, hf, hs⟩
    refine D.use ?_ hf hs
    clear hf hs ac w'
    refine C_seq ?_
    refine C_seq ?_
    refine C_reg ?_
    refine p1 rfl <| p1 rfl ?_
    refine q1 rfl (D_len s_27 rfl rfl (rd_sl h_l)) ?_
    refine p1 rfl ?_
    refine D_end ?_
    refine x_then ?_
    refine C_if _ rfl (fun h2 => ?_) (fun h2 => ?_)
    · have pr2 : (((k : Nat) : Int) : Int) < ((l.length : Nat) : Int) := of_decide_eq_true h2
      refine C_skip ?_
      refine x_then ?_
      refine C_seq ?_
      refine C_block ?_
      refine C_seq ?_
      refine C_reg ?_
      refine p1 rfl <| p1 rfl ?_
      obtain ⟨x3, hx4⟩ := some_of_lt (l := l) (i := k) (by omega)
      obtain ⟨es5, at6, hr7⟩ := rd_elem (n := 1) rfl h_l hx4
      obtain rfl : es5 = [.int .i64 x3] := hr7
      refine q1 rfl (D_ix (l := l) (j := k) s_27 rfl rfl rfl (fun w' hs => (rd_at hs h_l)) rfl (lt_of_some hx4)) ?_
      refine q1 rfl (lr0 o_3 rfl rfl at6 rfl) ?_
      refine p1 rfl <| p1 rfl ?_
      refine D_end ?_
      refine x_then ?_
      refine C_if _ rfl (fun h8 => ?_) (fun h8 => ?_)
      · have pr8 : (x3 : Int) = x := eq_of_beq h8
        refine C_seq ?_
        refine C_reg ?_
        refine p1 rfl ?_
        refine D_end ?_
        refine x_then ?_
        refine C_ret ?_
        refine x_blk_ret ?_
        refine x_then_ret ?_
        refine x_then_ret ?_
        refine x_blk_ret ?_
        refine x_then_ret ?_
        refine R_1 rfl rfl fun w' hs => ⟨congrArg (fun z => Ending.returned (Value.bool z)) ?_, hs.bel⟩
        show (true : Bool) = l.contains x
        exact has_y hx4 (by omega)
      · have pr8 : (x3 : Int) ≠ x := ne_of_beq_false h8
        refine C_skip ?_
        refine x_blk ?_
        refine x_then ?_
        refine C_reg ?_
        refine p1 rfl ?_
        refine q1 rfl (D_add rfl rfl rfl (r := ((k + 1 : Nat) : Int)) (by omega) (by omega)) ?_
        refine p1 rfl ?_
        refine D_end ?_
        refine x_then ?_
        refine fun ac w' hf hs => ⟨_, ?_, k + 1, ?_, ?_, rfl, hf.weak ⟨rfl, rfl, rfl, trivial⟩, hs⟩
        · omega
        · first | assumption | omega | simp
        · refine forall_step hi ?_; intro e; have := hx4.symm.trans e; simp only [Option.some.injEq] at this; omega
    · have pr2 : ¬ (((k : Nat) : Int) : Int) < ((l.length : Nat) : Int) := of_decide_eq_false h2
      refine C_exit ?_
      refine x_then_exit ?_
      refine x_then_exit ?_
      refine x_blk_eq ?_
      refine x_then ?_
      refine C_seq ?_
      refine C_reg ?_
      refine p1 rfl ?_
      refine D_end ?_
      refine x_then ?_
      refine C_ret ?_
      refine R_1 rfl rfl fun w' hs => ⟨congrArg (fun z => Ending.returned (Value.bool z)) ?_, hs.bel⟩
      show (false : Bool) = l.contains x
      exact has_n (fun i h => hi i (by omega))

set_option maxHeartbeats 4000000 in
theorem laws_FnCulprits (w : World) (v_code : Value) (code : (List UInt8)) (h_code : Gd.rd w [v_code] code) : Calls Try.prog 3 [v_code].toArray w (Val w (.bool (true))) := by
  have hm1 := rd_max h_code
  refine enter 106 Try.func3 rfl rfl rfl ?_
  refine C_seq ?_
  refine C_reg ?_
  refine p1 rfl ?_
  refine D_end ?_
  refine x_then ?_
  refine C_seq ?_
  refine C_seq ?_
  refine C_reg ?_
  refine p1 rfl ?_
  refine li rfl (cv b_6 rfl rfl rfl rfl (fun w' hs => (laws_big w' v_code code (rd_at hs h_code))) ?_)
  refine D_end ?_
  refine x_then ?_
  refine C_if _ rfl (fun h2 => ?_) (fun h2 => ?_)
  · refine C_seq ?_
    refine C_reg ?_
    refine p1 rfl ?_
    refine D_end ?_
    refine x_then ?_
    refine C_ret ?_
    refine x_then_ret ?_
    refine R_1 rfl rfl fun w' hs => ⟨congrArg (fun z => Ending.returned (Value.bool z)) ?_, hs.bel⟩
    show (true : Bool) = true
    rfl
  · refine C_skip ?_
    refine x_then ?_
    refine C_seq ?_
    refine C_reg ?_
    refine p1 rfl ?_
    refine li rfl (crB3 (α := Beliefs) (β := List Int) (γ := List Int) b_7 rfl rfl rfl rfl (fun w' hs => (spec_DrawGoodCase w' v_code code (rd_at hs h_code))) fun y3 y4 y5 cs6 cs7 cs8 hy3 wb9 hxb10 hrb11 hrb12 hrb13 => ?_)
    have hb14 := Gd.rd_ext hxb10 h_code
    obtain ⟨u15, rfl, hu16⟩ := open_Beliefs hrb11
    have hm17 := rd_max hu16
    obtain ⟨v18, rfl⟩ := rd_cell hrb12
    have hm19 := rd_max hrb12
    obtain ⟨v20, rfl⟩ := rd_cell hrb13
    have hm21 := rd_max hrb13
    refine D_re 18 (v' := (.tuple #[(.agg #[(.int .i64 y3.Nodes), u15]), v18, v20])) rfl rfl rfl ?_
    refine p1 rfl <| p1 rfl <| p1 rfl <| p1 rfl ?_
    refine li rfl (D_alloc y_26 rfl rfl rfl rfl fun g22 => ?_)
    refine li rfl (D_stb (vs := [(.int .i64 y3.Nodes), u15]) (cs' := [(.int .i64 y3.Nodes), u15]) 0 z_26 rfl rfl rfl rfl rfl rfl (ocons rfl (ocons (one_rd hu16) onil)) (by simp) rfl ?_)
    refine p1 rfl <| p1 rfl ?_
    refine D_end ?_
    refine x_then ?_
    refine D_H ([bx g22 [(.int .i64 y3.Nodes), u15]]) rfl ?_
    refine C_seq ?_
    refine C_seq ?_
    have hcs := hy3.1
    have hfl := hy3.2.2
    have hcl := clashes_len y3 y4
    refine C_reg ?_
    refine p1 rfl ?_
    refine D_end ?_
    refine x_then ?_
    refine C_block ?_
    refine C_loop (fun m_ ac w' => ∃ (k : Nat), (k ≤ y3.Reasons.length) ∧ (∀ i, i < k → ∀ r, y3.Reasons[i]? = some r → r.Out = []) ∧ m_ = y3.Reasons.length - k ∧ Fits ac 106 [(0, v_code), (3, (.pointer (some ⟨g22, 0, none⟩))), (4, v18), (5, v20), (6, (.int .i64 ((k : Nat) : Int)))] ∧ St wb9 ([bx g22 [(.int .i64 y3.Nodes), u15]]) w') ?_ ?_
    · refine fun ac w' hf hs => ⟨_, 0, ?_, ?_, rfl, hf.weak ⟨rfl, rfl, rfl, rfl, rfl, trivial⟩, hs⟩
      · first | assumption | omega | simp
      · intro i hi; omega
    · rintro m_ ac w' ⟨k, hk, hno, rfl, hf, hs⟩
      refine D.use ?_ hf hs
      clear hf hs ac w'
      refine C_seq ?_
      refine C_seq ?_
      refine C_reg ?_
      refine p1 rfl ?_
      refine q1 rfl (D_fb f_26_1 rfl rfl (q := 1) rfl) ?_
      refine q1 rfl (lb 0 o_24 rfl rfl rfl rfl) ?_
      refine q1 rfl (D_len s_24 rfl rfl (rd_sl hu16)) ?_
      refine p1 rfl ?_
      refine D_end ?_
      refine x_then ?_
      refine C_if _ rfl (fun h23 => ?_) (fun h23 => ?_)
      · have pr23 : (((k : Nat) : Int) : Int) < ((y3.Reasons.length : Nat) : Int) := of_decide_eq_true h23
        refine C_skip ?_
        refine x_then ?_
        refine C_seq ?_
        refine C_block ?_
        refine C_seq ?_
        refine C_reg ?_
        refine q1 rfl (D_fb f_26_1 rfl rfl (q := 1) rfl) ?_
        refine q1 rfl (lb 0 o_24 rfl rfl rfl rfl) ?_
        refine p1 rfl ?_
        obtain ⟨rq, hrq⟩ := some_of_lt (l := y3.Reasons) (i := k) (by omega)
        obtain ⟨es24, at25, hr26⟩ := rd_elem (n := 3) rfl hu16 hrq
        obtain ⟨u27, u29, rfl, hu28, hu30⟩ := open_Reason hr26
        have hm31 := rd_max hu28
        have hm32 := rd_max hu30
        refine q1 rfl (D_ix (l := y3.Reasons) (j := k) s_24 rfl rfl rfl (fun w' hs => (rd_at hs hu16)) rfl (lt_of_some hrq)) ?_
        refine q1 rfl (D_fa f_31_2 rfl rfl) ?_
        refine q1 rfl (lr o_27 rfl rfl at25 rfl) ?_
        refine q1 rfl (D_len s_27 rfl rfl (rd_sl hu30)) ?_
        refine p1 rfl ?_
        refine D_end ?_
        refine x_then ?_
        refine C_if _ rfl (fun h33 => ?_) (fun h33 => ?_)
        · have pr33 : (0 : Int) < ((rq.Out.length : Nat) : Int) := of_decide_eq_true h33
          refine C_seq ?_
          refine C_reg ?_
          refine p1 rfl ?_
          refine D_end ?_
          refine x_then ?_
          refine D_weak [(2, (.bool true))] ⟨rfl, trivial⟩ ?_
          refine C_ret ?_
          refine x_blk_ret ?_
          refine x_then_ret ?_
          refine x_then_ret ?_
          refine x_blk_ret ?_
          refine x_then_ret ?_
          refine R_1 rfl rfl fun w' hs => ⟨congrArg (fun z => Ending.returned (Value.bool z)) ?_, (hxb10.trans hs.bel)⟩
          show (true : Bool) = true
          first | rfl | (simp_all; done) | (exfalso; have hq := any_has (l := l) (k := k4) (by omega) (culp_has hnb hrp hy0); rw [← hfo] at hq; rw [hq] at h33; simp at h33; done) | exact rep_more hnb hrp
        · have pr33 : ¬ (0 : Int) < ((rq.Out.length : Nat) : Int) := of_decide_eq_false h33
          refine C_skip ?_
          refine x_blk ?_
          refine x_then ?_
          refine C_reg ?_
          refine p1 rfl ?_
          refine q1 rfl (D_add rfl rfl rfl (r := ((k + 1 : Nat) : Int)) (by omega) (by omega)) ?_
          refine p1 rfl ?_
          refine D_end ?_
          refine x_then ?_
          refine fun ac w' hf hs => ⟨_, ?_, k + 1, ?_, ?_, rfl, hf.weak ⟨rfl, rfl, rfl, rfl, rfl, trivial⟩, hs⟩
          · omega
          · first | assumption | omega | simp
          · exact noou hno hrq (by assumption)
      · have pr23 : ¬ (((k : Nat) : Int) : Int) < ((y3.Reasons.length : Nat) : Int) := of_decide_eq_false h23
        refine C_exit ?_
        refine x_then_exit ?_
        refine x_then_exit ?_
        refine x_blk_eq ?_
        refine x_then ?_
        refine C_seq ?_
        refine C_reg ?_
        refine li rfl (D_bs0 (α := Int) s_27 rfl rfl rfl fun v34 => ?_)
        refine p1 rfl ?_
        refine D_end ?_
        refine x_then ?_
        refine D_H ([ov [v34] ([] : (List Int)), bx g22 [(.int .i64 y3.Nodes), u15]]) rfl ?_
        refine C_seq ?_
        refine C_seq ?_
        refine C_reg ?_
        refine p1 rfl ?_
        refine D_end ?_
        refine x_then ?_
        refine C_block ?_
        have hnq := hno
        have hkq := hk
        refine C_loop (fun m_ ac w' => ∃ (k2 : Nat), ∃ (l : List Int), ∃ (v : Value), (k2 ≤ y5.length) ∧ (l.length ≤ k2) ∧ m_ = y5.length - k2 ∧ Fits ac 106 [(0, v_code), (3, (.pointer (some ⟨g22, 0, none⟩))), (4, v18), (5, v20), (7, v), (8, (.int .i64 ((k2 : Nat) : Int)))] ∧ St wb9 ([ov [v] (l : (List Int)), bx g22 [(.int .i64 y3.Nodes), u15]]) w') ?_ ?_
        · refine D_eq 0 rfl (show ([] : (List Int)) = ([]) from by first | rfl | simp | (simp; omega)) ?_
          refine fun ac w' hf hs => ⟨_, 0, [], v34, ?_, ?_, rfl, hf.weak ⟨rfl, rfl, rfl, rfl, rfl, rfl, trivial⟩, hs⟩
          · first | assumption | omega | simp
          · simp
        · rintro m_ ac w' ⟨k2, l, v, hk2, hl2, rfl, hf, hs⟩
          refine D.use ?_ hf hs
          clear hf hs ac w'
          refine C_seq ?_
          refine C_seq ?_
          refine C_reg ?_
          refine p1 rfl <| p1 rfl ?_
          refine q1 rfl (D_len s_27 rfl rfl (rd_sl hrb13)) ?_
          refine p1 rfl ?_
          refine D_end ?_
          refine x_then ?_
          refine D_H ([ov [v] (l : (List Int)), bx g22 [(.int .i64 y3.Nodes), u15]]) rfl ?_
          refine C_if _ rfl (fun h35 => ?_) (fun h35 => ?_)
          · have pr35 : (((k2 : Nat) : Int) : Int) < ((y5.length : Nat) : Int) := of_decide_eq_true h35
            refine C_skip ?_
            refine x_then ?_
            refine C_seq ?_
            refine C_block ?_
            refine C_seq ?_
            refine C_reg ?_
            refine p1 rfl <| p1 rfl ?_
            refine li rfl (cv b_8 rfl rfl rfl rfl (fun w' hs => (laws_at w' v_code code ((k2 : Nat) : Int) (rd_at hs hb14) (by omega))) ?_)
            refine q1 rfl (D_rem rfl rfl rfl rfl) ?_
            refine p1 rfl ?_
            refine D_end ?_
            refine x_then ?_
            refine C_if _ rfl (fun h36 => ?_) (fun h36 => ?_)
            · have pr36 : ((Int.tmod (atC code ((k2 : Nat) : Int)) 2) : Int) = 0 := eq_of_beq h36
              refine C_reg ?_
              refine p1 rfl <| p1 rfl <| p1 rfl ?_
              obtain ⟨x37, hx38⟩ := some_of_lt (l := y5) (i := k2) (by omega)
              obtain ⟨es39, at40, hr41⟩ := rd_elem (n := 1) rfl hrb13 hx38
              obtain rfl : es39 = [.int .i64 x37] := hr41
              refine q1 rfl (D_ix (l := y5) (j := k2) s_27 rfl rfl rfl (fun w' hs => (rd_at hs hrb13)) rfl (lt_of_some hx38)) ?_
              refine q1 rfl (lr0 o_3 rfl rfl at40 rfl) ?_
              refine li rfl (D_bs s_27 y_3 rfl (by decide) (by decide) rfl rfl rfl rfl rfl rfl fun g42 => ?_)
              refine D_fi x37 ?_
              refine D_pk (H' := [ov [v] (l : (List Int)), ov [(.int .i64 x37)] (x37 : Int), bx g42 [(.int .i64 x37)], bx g22 [(.int .i64 y3.Nodes), u15]]) [2, 0, 1, 3] rfl rfl ?_
              refine li rfl (D_ap s_27 y_3 rfl (by decide) rfl rfl rfl rfl rfl rfl (by first | omega | (simp; omega)) (by first | omega | (simp; omega)) fun v43 => ?_)
              refine p1 rfl ?_
              refine D_end ?_
              refine x_blk ?_
              refine x_then ?_
              refine D_weak [(0, v_code), (3, (.pointer (some ⟨g22, 0, none⟩))), (4, v18), (5, v20), (7, v43), (8, (.int .i64 ((k2 : Nat) : Int)))] ⟨rfl, rfl, rfl, rfl, rfl, rfl, trivial⟩ ?_
              refine D_H ([ov [v43] (l ++ [x37] : (List Int)), bx g22 [(.int .i64 y3.Nodes), u15]]) rfl ?_
              refine C_reg ?_
              refine p1 rfl ?_
              refine q1 rfl (D_add rfl rfl rfl (r := ((k2 + 1 : Nat) : Int)) (by omega) (by omega)) ?_
              refine p1 rfl ?_
              refine D_end ?_
              refine x_then ?_
              refine D_eq 0 rfl (show (l ++ [x37] : (List Int)) = (l ++ [x37]) from by first | rfl | simp | (simp; omega)) ?_
              refine fun ac w' hf hs => ⟨_, ?_, k2 + 1, l ++ [x37], v43, ?_, ?_, rfl, hf.weak ⟨rfl, rfl, rfl, rfl, rfl, rfl, trivial⟩, hs⟩
              · omega
              · first | assumption | omega | simp
              · first | (simp; omega) | omega
            · have pr36 : ((Int.tmod (atC code ((k2 : Nat) : Int)) 2) : Int) ≠ 0 := ne_of_beq_false h36
              refine C_skip ?_
              refine x_blk ?_
              refine x_then ?_
              refine C_reg ?_
              refine p1 rfl ?_
              refine q1 rfl (D_add rfl rfl rfl (r := ((k2 + 1 : Nat) : Int)) (by omega) (by omega)) ?_
              refine p1 rfl ?_
              refine D_end ?_
              refine x_then ?_
              refine fun ac w' hf hs => ⟨_, ?_, k2 + 1, l, v, ?_, ?_, rfl, hf.weak ⟨rfl, rfl, rfl, rfl, rfl, rfl, trivial⟩, hs⟩
              · omega
              · first | assumption | omega | simp
              · first | (simp; omega) | omega
          · have pr35 : ¬ (((k2 : Nat) : Int) : Int) < ((y5.length : Nat) : Int) := of_decide_eq_false h35
            refine C_exit ?_
            refine x_then_exit ?_
            refine x_then_exit ?_
            refine x_blk_eq ?_
            refine x_then ?_
            refine C_seq ?_
            refine C_seq ?_
            refine C_reg ?_
            refine q1 rfl (lbw 1 a_26 rfl rfl rfl) ?_
            refine p1 rfl <| p1 rfl <| p1 rfl ?_
            refine li rfl (cv b_9 rfl rfl rfl rfl (fun w' hs => (impl_IsRepair w' [(.int .i64 y3.Nodes), u15] y3 v18 y4 v20 y5 v l (rd_at hs hrb11) (rd_at hs hrb12) (rd_at hs hrb13) (rd_own (k := 0) hs rfl))) ?_)
            refine p1 rfl ?_
            refine D_end ?_
            refine x_then ?_
            refine C_if _ rfl (fun h44 => ?_) (fun h44 => ?_)
            · have h44n : (isRep y3 y4 y5 l) = false := not_t h44
              refine C_seq ?_
              refine C_reg ?_
              refine q1 rfl (lbw 1 a_26 rfl rfl rfl) ?_
              refine p1 rfl <| p1 rfl <| p1 rfl ?_
              refine li rfl (cv b_10 rfl rfl rfl rfl (fun w' hs => (spec_IsRepair w' [(.int .i64 y3.Nodes), u15] y3 v18 y4 v20 y5 v l (rd_at hs hrb11) (rd_at hs hrb12) (rd_at hs hrb13) (rd_own (k := 0) hs rfl))) ?_)
              refine p1 rfl <| p1 rfl ?_
              refine D_end ?_
              refine x_then ?_
              refine D_weak [(2, (.bool (!(isRep y3 y4 y5 l))))] ⟨rfl, trivial⟩ ?_
              refine D_sel (H' := []) [false, false] rfl ?_
              refine C_ret ?_
              refine x_then_ret ?_
              refine R_1 rfl rfl fun w' hs => ⟨congrArg (fun z => Ending.returned (Value.bool z)) ?_, (hxb10.trans hs.bel)⟩
              show ((!(isRep y3 y4 y5 l)) : Bool) = true
              first | rfl | (simp_all; done) | (exfalso; have hq := any_has (l := l) (k := k4) (by omega) (culp_has hnb hrp hy0); rw [← hfo] at hq; rw [hq] at h44; simp at h44; done) | exact rep_more hnb hrp
            · have h44n : (isRep y3 y4 y5 l) = true := not_f h44
              refine C_skip ?_
              refine x_then ?_
              refine C_seq ?_
              have hrp : isRep y3 y4 y5 l = true := by assumption
              have hnb := nout (b := y3) (fun i hi => hnq i (by omega))
              refine C_reg ?_
              refine q1 rfl (lbw 1 a_26 rfl rfl rfl) ?_
              refine p1 rfl ?_
              refine li rfl (crl b_11 rfl rfl rfl rfl (fun w' hs => (impl_ClashesOf w' [(.int .i64 y3.Nodes), u15] y3 v18 y4 (rd_at hs hrb11) (rd_at hs hrb12))) fun v45 => ?_)
              refine p1 rfl ?_
              refine D_end ?_
              refine x_then ?_
              refine D_weak [(3, (.pointer (some ⟨g22, 0, none⟩))), (4, v18), (5, v20), (7, v), (9, v45)] ⟨rfl, rfl, rfl, rfl, rfl, trivial⟩ ?_
              refine D_H ([ov [v45] (clashes y3 y4 : (List Int)), ov [v] (l : (List Int)), bx g22 [(.int .i64 y3.Nodes), u15]]) rfl ?_
              refine C_seq ?_
              refine C_seq ?_
              refine C_reg ?_
              refine p1 rfl ?_
              refine D_end ?_
              refine x_then ?_
              refine C_block ?_
              refine C_loop (fun m_ ac w' => ∃ (k3 : Nat), (k3 ≤ (clashes y3 y4).length) ∧ m_ = (clashes y3 y4).length - k3 ∧ Fits ac 106 [(3, (.pointer (some ⟨g22, 0, none⟩))), (4, v18), (5, v20), (7, v), (9, v45), (10, (.int .i64 ((k3 : Nat) : Int)))] ∧ St wb9 ([ov [v45] (clashes y3 y4 : (List Int)), ov [v] (l : (List Int)), bx g22 [(.int .i64 y3.Nodes), u15]]) w') ?_ ?_
              · refine fun ac w' hf hs => ⟨_, 0, ?_, rfl, hf.weak ⟨rfl, rfl, rfl, rfl, rfl, rfl, trivial⟩, hs⟩
                · first | assumption | omega | simp
              · rintro m_ ac w' ⟨k3, hk3, rfl, hf, hs⟩
                refine D.use ?_ hf hs
                clear hf hs ac w'
                refine C_seq ?_
                refine C_seq ?_
                refine C_reg ?_
                refine p1 rfl <| p1 rfl ?_
                refine q1 rfl (D_leno 0 s_27 rfl rfl rfl) ?_
                refine p1 rfl ?_
                refine D_end ?_
                refine x_then ?_
                refine C_if _ rfl (fun h46 => ?_) (fun h46 => ?_)
                · have pr46 : (((k3 : Nat) : Int) : Int) < (((clashes y3 y4).length : Nat) : Int) := of_decide_eq_true h46
                  refine C_skip ?_
                  refine x_then ?_
                  refine C_seq ?_
                  refine C_block ?_
                  refine C_seq ?_
                  refine C_draw mixed [6, 7] (by kernel_rfl) ?_
                  refine tk 0 rfl (by kernel_rfl) (by kernel_rfl) (by kernel_rfl) rfl (fun _ hs => hs) (lbw 2 a_26 rfl rfl rfl) ?_
                  refine tk 1 rfl (by kernel_rfl) (by kernel_rfl) (by kernel_rfl) rfl (fun _ hs => hs) (rp rfl) ?_
                  refine tk 2 rfl (by kernel_rfl) (by kernel_rfl) (by kernel_rfl) rfl (fun _ hs => hs) (rp rfl) ?_
                  obtain ⟨y0, hy0⟩ := some_of_lt (l := (clashes y3 y4)) (i := k3) (by omega)
                  refine tk 3 rfl (by kernel_rfl) (by kernel_rfl) (by kernel_rfl) rfl (fun _ hs => hs) (D_ix (l := (clashes y3 y4)) (j := k3) s_27 rfl rfl rfl (fun w' hs => (rd_own (k := 0) hs rfl)) rfl (lt_of_some hy0)) ?_
                  refine tk 4 rfl (by kernel_rfl) (by kernel_rfl) (by kernel_rfl) rfl (fun _ hs => hs) (lo (α := Int) 0 o_3 rfl rfl rfl hy0) ?_
                  refine tk 5 rfl (by kernel_rfl) (by kernel_rfl) (by kernel_rfl) rfl (fun _ hs => hs) (rp rfl) ?_
                  refine ty 6 rfl (by kernel_rfl) rfl (crl b_12 rfl rfl rfl rfl (fun w' hs => (impl_CulpritsOf w' [(.int .i64 y3.Nodes), u15] y3 y0 v20 y5 (rd_at hs hrb11) (rd_at hs hrb13) (by first | assumption | omega | (unfold szm at *; split at * <;> omega)))) fun v47 => ?_)
                  refine tZ rfl ?_
                  refine ty 7 rfl (by kernel_rfl) rfl (sv rfl rfl (rp rfl) ?_)
                  refine tZ rfl ?_
                  refine tE (by kernel_rfl) ?_
                  refine x_then ?_
                  refine D_H ([ov [v47] (culps y3 y0 y5 : (List Int)), ov [v45] (clashes y3 y4 : (List Int)), ov [v] (l : (List Int)), bx g22 [(.int .i64 y3.Nodes), u15]]) rfl ?_
                  refine C_seq ?_
                  refine C_reg ?_
                  refine p1 rfl ?_
                  refine D_end ?_
                  refine x_then ?_
                  refine C_seq ?_
                  refine C_seq ?_
                  refine C_reg ?_
                  refine p1 rfl ?_
                  refine D_end ?_
                  refine x_then ?_
                  refine C_block ?_
                  refine C_loop (fun m_ ac w' => ∃ (k4 : Nat), ∃ (fo : Bool), (k4 ≤ (culps y3 y0 y5).length) ∧ (fo = ((culps y3 y0 y5).take k4).any (fun s => l.contains s)) ∧ m_ = (culps y3 y0 y5).length - k4 ∧ Fits ac 106 [(3, (.pointer (some ⟨g22, 0, none⟩))), (4, v18), (5, v20), (7, v), (9, v45), (10, (.int .i64 ((k3 : Nat) : Int))), (11, v47), (12, (.bool fo)), (13, (.int .i64 ((k4 : Nat) : Int)))] ∧ St wb9 ([ov [v47] (culps y3 y0 y5 : (List Int)), ov [v45] (clashes y3 y4 : (List Int)), ov [v] (l : (List Int)), bx g22 [(.int .i64 y3.Nodes), u15]]) w') ?_ ?_
                  · refine fun ac w' hf hs => ⟨_, 0, false, ?_, ?_, rfl, hf.weak ⟨rfl, rfl, rfl, rfl, rfl, rfl, rfl, rfl, rfl, trivial⟩, hs⟩
                    · first | assumption | omega | simp
                    · simp
                  · rintro m_ ac w' ⟨k4, fo, hk4, hfo, rfl, hf, hs⟩
                    refine D.use ?_ hf hs
                    clear hf hs ac w'
                    refine C_seq ?_
                    refine C_seq ?_
                    refine C_reg ?_
                    have hcu := culps_len y3 y0 y5
                    refine p1 rfl <| p1 rfl ?_
                    refine q1 rfl (D_leno 0 s_27 rfl rfl rfl) ?_
                    refine p1 rfl ?_
                    refine D_end ?_
                    refine x_then ?_
                    refine C_if _ rfl (fun h48 => ?_) (fun h48 => ?_)
                    · have pr48 : (((k4 : Nat) : Int) : Int) < (((culps y3 y0 y5).length : Nat) : Int) := of_decide_eq_true h48
                      refine C_skip ?_
                      refine x_then ?_
                      refine C_seq ?_
                      refine C_block ?_
                      refine C_reg ?_
                      refine p1 rfl <| p1 rfl ?_
                      refine gs 91 rfl rfl (fun h49 => ?_) (fun h49 => ?_)
                      · refine n1 rfl ?_
                        refine n1 rfl ?_
                        refine n1 rfl ?_
                        refine n1 rfl ?_
                        refine n1 rfl ?_
                        refine n1 rfl ?_
                        refine p1 rfl <| p1 rfl ?_
                        refine D_end ?_
                        refine x_blk ?_
                        refine x_then ?_
                        refine C_reg ?_
                        refine p1 rfl ?_
                        refine q1 rfl (D_add rfl rfl rfl (r := ((k4 + 1 : Nat) : Int)) (by omega) (by omega)) ?_
                        refine p1 rfl ?_
                        refine D_end ?_
                        refine x_then ?_
                        refine fun ac w' hf hs => ⟨_, ?_, k4 + 1, true, ?_, ?_, rfl, hf.weak ⟨rfl, rfl, rfl, rfl, rfl, rfl, rfl, rfl, rfl, trivial⟩, hs⟩
                        · omega
                        · first | assumption | omega | simp
                        · first | exact fnd_m hfo (by assumption) (by omega) | exact fnd_n (p := fun s => l.contains s) hfo (by assumption) hce
                      · refine p1 rfl <| p1 rfl <| p1 rfl ?_
                        obtain ⟨ce, hce⟩ := some_of_lt (l := (culps y3 y0 y5)) (i := k4) (by omega)
                        refine q1 rfl (D_ix (l := (culps y3 y0 y5)) (j := k4) s_27 rfl rfl rfl (fun w' hs => (rd_own (k := 0) hs rfl)) rfl (lt_of_some hce)) ?_
                        refine q1 rfl (lo (α := Int) 0 o_3 rfl rfl rfl hce) ?_
                        refine li rfl (cv b_13 rfl rfl rfl rfl (fun w' hs => (laws_hasInt w' v l ce (rd_own (k := 2) hs rfl))) ?_)
                        refine p1 rfl <| p1 rfl ?_
                        refine D_end ?_
                        refine x_blk ?_
                        refine x_then ?_
                        refine C_reg ?_
                        refine p1 rfl ?_
                        refine q1 rfl (D_add rfl rfl rfl (r := ((k4 + 1 : Nat) : Int)) (by omega) (by omega)) ?_
                        refine p1 rfl ?_
                        refine D_end ?_
                        refine x_then ?_
                        refine fun ac w' hf hs => ⟨_, ?_, k4 + 1, (l.contains ce), ?_, ?_, rfl, hf.weak ⟨rfl, rfl, rfl, rfl, rfl, rfl, rfl, rfl, rfl, trivial⟩, hs⟩
                        · omega
                        · first | assumption | omega | simp
                        · first | exact fnd_m hfo (by assumption) (by omega) | exact fnd_n (p := fun s => l.contains s) hfo (by assumption) hce
                    · have pr48 : ¬ (((k4 : Nat) : Int) : Int) < (((culps y3 y0 y5).length : Nat) : Int) := of_decide_eq_false h48
                      refine C_exit ?_
                      refine x_then_exit ?_
                      refine x_then_exit ?_
                      refine x_blk_eq ?_
                      refine x_then ?_
                      refine C_seq ?_
                      refine C_reg ?_
                      refine p1 rfl <| p1 rfl ?_
                      refine D_end ?_
                      refine x_then ?_
                      refine C_if _ rfl (fun h50 => ?_) (fun h50 => ?_)
                      · have h50n : fo = false := not_t h50
                        refine C_seq ?_
                        refine C_reg ?_
                        refine p1 rfl ?_
                        refine D_end ?_
                        refine x_then ?_
                        refine D_weak [(2, (.bool false))] ⟨rfl, trivial⟩ ?_
                        refine D_sel (H' := [ov [v45] (clashes y3 y4 : (List Int)), ov [v] (l : (List Int)), bx g22 [(.int .i64 y3.Nodes), u15]]) [false, true, true, true] rfl ?_
                        refine C_ret ?_
                        refine x_blk_ret ?_
                        refine x_then_ret ?_
                        refine x_then_ret ?_
                        refine x_blk_ret ?_
                        refine x_then_ret ?_
                        refine R_1 rfl rfl fun w' hs => ⟨congrArg (fun z => Ending.returned (Value.bool z)) ?_, (hxb10.trans hs.bel)⟩
                        show (false : Bool) = true
                        first | rfl | (simp_all; done) | (exfalso; have hq := any_has (l := l) (k := k4) (by omega) (culp_has hnb hrp hy0); rw [← hfo] at hq; rw [hq] at h50; simp at h50; done) | exact rep_more hnb hrp
                      · have h50n : fo = true := not_f h50
                        refine C_skip ?_
                        refine x_blk ?_
                        refine x_then ?_
                        refine C_reg ?_
                        refine p1 rfl ?_
                        refine q1 rfl (D_add rfl rfl rfl (r := ((k3 + 1 : Nat) : Int)) (by omega) (by omega)) ?_
                        refine p1 rfl ?_
                        refine D_end ?_
                        refine x_then ?_
                        refine fun ac w' hf hs => ⟨_, ?_, k3 + 1, ?_, rfl, hf.weak ⟨rfl, rfl, rfl, rfl, rfl, rfl, trivial⟩, hs.pk [1, 2, 3] rfl rfl⟩
                        · omega
                        · first | assumption | omega | simp
                · have pr46 : ¬ (((k3 : Nat) : Int) : Int) < (((clashes y3 y4).length : Nat) : Int) := of_decide_eq_false h46
                  refine C_exit ?_
                  refine x_then_exit ?_
                  refine x_then_exit ?_
                  refine x_blk_eq ?_
                  refine x_then ?_
                  refine C_seq ?_
                  refine C_reg ?_
                  refine q1 rfl (lbw 2 a_26 rfl rfl rfl) ?_
                  refine p1 rfl <| p1 rfl <| p1 rfl ?_
                  refine li rfl (cv b_9 rfl rfl rfl rfl (fun w' hs => (impl_IsRepair w' [(.int .i64 y3.Nodes), u15] y3 v18 y4 v20 y5 v20 y5 (rd_at hs hrb11) (rd_at hs hrb12) (rd_at hs hrb13) (rd_at hs hrb13))) ?_)
                  refine p1 rfl ?_
                  refine D_end ?_
                  refine x_then ?_
                  refine D_weak [(2, (.bool (isRep y3 y4 y5 y5)))] ⟨rfl, trivial⟩ ?_
                  refine D_sel (H' := []) [false, false, false] rfl ?_
                  refine C_ret ?_
                  refine R_1 rfl rfl fun w' hs => ⟨congrArg (fun z => Ending.returned (Value.bool z)) ?_, (hxb10.trans hs.bel)⟩
                  show ((isRep y3 y4 y5 y5) : Bool) = true
                  first | rfl | (simp_all; done) | (exfalso; have hq := any_has (l := l) (k := k4) (by omega) (culp_has hnb hrp hy0); rw [← hfo] at hq; rw [hq] at h46; simp at h46; done) | exact rep_more hnb hrp
end Go.Sy.Law5
