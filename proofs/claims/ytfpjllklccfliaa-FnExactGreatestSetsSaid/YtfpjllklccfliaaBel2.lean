/-
  Contracts of functions of the program, walked (printed by a program of ours).
  Conditions: those that each theorem states.
-/
import Derived.Test.YtfpjllklccfliaaBel1
set_option linter.unusedVariables false
set_option maxRecDepth 20000
namespace Go.Sy.Bel2
open Go Go.RowKit Go.Proofs Go.Sy
theorem mixed : Try.prog.follows .mixedOrders = true := by kernel_rfl
theorem f_72_1 : fieldOff Try.prog 72 1 = some 1 := by kernel_rfl
theorem o_25 : oneTy Try.prog 25 = true := by kernel_rfl
theorem s_25 : sliceTy Try.prog 25 = some (3, 1, 8) := by kernel_rfl
theorem f_72_2 : fieldOff Try.prog 72 2 = some 2 := by kernel_rfl
theorem f_34_0 : fieldOff Try.prog 34 0 = some 0 := by kernel_rfl
theorem a_32 : aggTy Try.prog 32 = some 2 := by kernel_rfl
theorem b_67 : hasBody Try.prog 67 = true := by kernel_rfl
theorem f_34_1 : fieldOff Try.prog 34 1 = some 2 := by kernel_rfl
theorem f_32_0 : fieldOff Try.prog 32 0 = some 0 := by kernel_rfl
theorem o_3 : oneTy Try.prog 3 = true := by kernel_rfl
theorem b_68 : hasBody Try.prog 68 = true := by kernel_rfl
theorem f_34_2 : fieldOff Try.prog 34 2 = some 3 := by kernel_rfl
theorem f_32_1 : fieldOff Try.prog 32 1 = some 1 := by kernel_rfl
theorem o_30 : oneTy Try.prog 30 = true := by kernel_rfl
theorem s_30 : sliceTy Try.prog 30 = some (72, 3, 56) := by kernel_rfl
theorem a_72 : aggTy Try.prog 72 = some 3 := by kernel_rfl
theorem y_72 : zeroTy Try.prog 72 = some (.agg #[(.int .i64 0), (.slice none 0 0), (.slice none 0 0)]) := by kernel_rfl
theorem z_72 : sizeTy Try.prog 72 = some 3 := by kernel_rfl
theorem b_77 : hasBody Try.prog 77 = true := by kernel_rfl
theorem b_85 : hasBody Try.prog 85 = true := by kernel_rfl
theorem f_27_0 : fieldOff Try.prog 27 0 = some 0 := by kernel_rfl
theorem a_24 : aggTy Try.prog 24 = some 2 := by kernel_rfl
theorem b_18 : hasBody Try.prog 18 = true := by kernel_rfl
theorem f_27_1 : fieldOff Try.prog 27 1 = some 2 := by kernel_rfl
theorem b_36 : hasBody Try.prog 36 = true := by kernel_rfl
theorem f_27_2 : fieldOff Try.prog 27 2 = some 3 := by kernel_rfl
theorem y_34 : zeroTy Try.prog 34 = some (.agg #[(.int .i64 0), (.slice none 0 0), (.slice none 0 0), (.slice none 0 0)]) := by kernel_rfl
theorem b_20 : hasBody Try.prog 20 = true := by kernel_rfl
theorem z_32 : sizeTy Try.prog 32 = some 2 := by kernel_rfl
theorem b_28 : hasBody Try.prog 28 = true := by kernel_rfl
theorem z_25 : sizeTy Try.prog 25 = some 1 := by kernel_rfl
theorem a_34 : aggTy Try.prog 34 = some 4 := by kernel_rfl
theorem z_34 : sizeTy Try.prog 34 = some 4 := by kernel_rfl
theorem b_23 : hasBody Try.prog 23 = true := by kernel_rfl
theorem b_13 : hasBody Try.prog 13 = true := by kernel_rfl
open Go.Sy.Bel1
theorem impl_IsPremise (w : World) (c_r : List Value) (r : Reason) (h_r : Gd.rd w c_r r) : Calls Try.prog 87 [(.agg c_r.toArray)].toArray w (Val w (.bool (isPremise r))) := by
  obtain ⟨u1, u3, rfl, hu2, hu4⟩ := open_Reason h_r
  have hm5 := rd_max hu2
  have hm6 := rd_max hu4
  refine enter 13 Try.func87 rfl rfl rfl ?_
  refine C_seq ?_
  refine C_reg ?_
  refine li rfl (D_box rfl rfl rfl rfl rfl fun g7 => ?_)
  refine p1 rfl ?_
  refine D_end ?_
  refine x_then ?_
  refine D_H ([bx g7 [(.int .i64 r.For), u1, u3]]) rfl ?_
  refine C_seq ?_
  refine C_reg ?_
  refine q1 rfl (D_fb f_72_1 rfl rfl (q := 1) rfl) ?_
  refine q1 rfl (lb 0 o_25 rfl rfl rfl rfl) ?_
  refine q1 rfl (D_len s_25 rfl rfl (rd_sl hu2)) ?_
  refine p1 rfl <| p1 rfl ?_
  refine gs 7 rfl rfl (fun h8 => ?_) (fun h8 => ?_)
  · have pr8 : (((r.In.length : Nat) : Int) : Int) = 0 := eq_of_beq h8
    refine q1 rfl (D_fb f_72_2 rfl rfl (q := 2) rfl) ?_
    refine q1 rfl (lb 0 o_25 rfl rfl rfl rfl) ?_
    refine q1 rfl (D_len s_25 rfl rfl (rd_sl hu4)) ?_
    refine p1 rfl <| p1 rfl <| p1 rfl ?_
    refine D_end ?_
    refine x_then ?_
    refine C_ret ?_
    refine R_1 rfl rfl fun w' hs => ⟨congrArg (fun z => Ending.returned (Value.bool z)) ?_, hs.bel⟩
    show (((((r.Out.length : Nat) : Int) : Int) == 0) : Bool) = isPremise r
    rw [Bool.eq_iff_iff]; simp_all [isPremise]; try omega
  · have pr8 : (((r.In.length : Nat) : Int) : Int) ≠ 0 := ne_of_beq_false h8
    refine n1 rfl ?_
    refine n1 rfl ?_
    refine n1 rfl ?_
    refine n1 rfl ?_
    refine p1 rfl <| p1 rfl ?_
    refine D_end ?_
    refine x_then ?_
    refine C_ret ?_
    refine R_1 rfl rfl fun w' hs => ⟨congrArg (fun z => Ending.returned (Value.bool z)) ?_, hs.bel⟩
    show (false : Bool) = isPremise r
    rw [Bool.eq_iff_iff]; simp_all [isPremise]; try omega

theorem spec_IsPremise (w : World) (c_r : List Value) (r : Reason) (h_r : Gd.rd w c_r r) : Calls Try.prog 86 [(.agg c_r.toArray)].toArray w (Val w (.bool (isPremise r))) := by
  obtain ⟨u1, u3, rfl, hu2, hu4⟩ := open_Reason h_r
  have hm5 := rd_max hu2
  have hm6 := rd_max hu4
  refine enter 13 Try.func86 rfl rfl rfl ?_
  refine C_seq ?_
  refine C_reg ?_
  refine li rfl (D_box rfl rfl rfl rfl rfl fun g7 => ?_)
  refine p1 rfl ?_
  refine D_end ?_
  refine x_then ?_
  refine D_H ([bx g7 [(.int .i64 r.For), u1, u3]]) rfl ?_
  refine C_seq ?_
  refine C_reg ?_
  refine q1 rfl (D_fb f_72_1 rfl rfl (q := 1) rfl) ?_
  refine q1 rfl (lb 0 o_25 rfl rfl rfl rfl) ?_
  refine q1 rfl (D_len s_25 rfl rfl (rd_sl hu2)) ?_
  refine p1 rfl <| p1 rfl ?_
  refine gs 7 rfl rfl (fun h8 => ?_) (fun h8 => ?_)
  · have pr8 : (((r.In.length : Nat) : Int) : Int) = 0 := eq_of_beq h8
    refine q1 rfl (D_fb f_72_2 rfl rfl (q := 2) rfl) ?_
    refine q1 rfl (lb 0 o_25 rfl rfl rfl rfl) ?_
    refine q1 rfl (D_len s_25 rfl rfl (rd_sl hu4)) ?_
    refine p1 rfl <| p1 rfl <| p1 rfl ?_
    refine D_end ?_
    refine x_then ?_
    refine C_ret ?_
    refine R_1 rfl rfl fun w' hs => ⟨congrArg (fun z => Ending.returned (Value.bool z)) ?_, hs.bel⟩
    show (((((r.Out.length : Nat) : Int) : Int) == 0) : Bool) = isPremise r
    rw [Bool.eq_iff_iff]; simp_all [isPremise]; try omega
  · have pr8 : (((r.In.length : Nat) : Int) : Int) ≠ 0 := ne_of_beq_false h8
    refine n1 rfl ?_
    refine n1 rfl ?_
    refine n1 rfl ?_
    refine n1 rfl ?_
    refine p1 rfl <| p1 rfl ?_
    refine D_end ?_
    refine x_then ?_
    refine C_ret ?_
    refine R_1 rfl rfl fun w' hs => ⟨congrArg (fun z => Ending.returned (Value.bool z)) ?_, hs.bel⟩
    show (false : Bool) = isPremise r
    rw [Bool.eq_iff_iff]; simp_all [isPremise]; try omega

theorem impl_IsFrame (w : World) (c_f : List Value) (f : Frame) (h_f : Gd.rd w c_f f) : Calls Try.prog 40 [(.agg c_f.toArray)].toArray w (Val w (.bool (isFrame f))) := by
  obtain ⟨u1, u3, u5, rfl, hu2, hu4, hu6⟩ := open_Frame h_f
  have hm7 := rd_max hu2
  have hm8 := rd_max hu4
  have hm9 := rd_max hu6
  have hb10 := sub_Frame_Beliefs h_f
  refine enter 46 Try.func40 rfl rfl rfl ?_
  refine C_seq ?_
  refine C_reg ?_
  refine li rfl (D_box rfl rfl rfl rfl rfl fun g11 => ?_)
  refine p1 rfl ?_
  refine D_end ?_
  refine x_then ?_
  refine D_H ([bx g11 [(.int .i64 f.Beliefs.Nodes), u1, u3, u5]]) rfl ?_
  refine C_seq ?_
  refine C_seq ?_
  refine C_reg ?_
  refine q1 rfl (D_fb f_34_0 rfl rfl (q := 0) rfl) ?_
  refine q1 rfl (lba (es := [(.int .i64 f.Beliefs.Nodes), u1]) 0 a_32 rfl rfl rfl rfl) ?_
  refine li rfl (cv b_67 rfl rfl rfl rfl (fun w' hs => (impl_IsBeliefs w' [(.int .i64 f.Beliefs.Nodes), u1] f.Beliefs (rd_at hs hb10))) ?_)
  refine p1 rfl <| p1 rfl ?_
  refine gs 9 rfl rfl (fun h12 => ?_) (fun h12 => ?_)
  · have h12n : (isBeliefs f.Beliefs) = false := not_t h12
    refine n1 rfl ?_
    refine n1 rfl ?_
    refine n1 rfl ?_
    refine n1 rfl ?_
    refine p1 rfl <| p1 rfl ?_
    refine n1 rfl ?_
    refine n1 rfl ?_
    refine n1 rfl ?_
    refine n1 rfl ?_
    refine n1 rfl ?_
    refine n1 rfl ?_
    refine n1 rfl ?_
    refine p1 rfl <| p1 rfl ?_
    refine n1 rfl ?_
    refine n1 rfl ?_
    refine n1 rfl ?_
    refine n1 rfl ?_
    refine n1 rfl ?_
    refine n1 rfl ?_
    refine n1 rfl ?_
    refine p1 rfl ?_
    refine D_end ?_
    refine x_then ?_
    refine D_weak [(1, (.pointer (some ⟨g11, 0, none⟩))), (32, (.bool true))] ⟨rfl, rfl, trivial⟩ ?_
    refine C_t rfl ?_
    refine C_seq ?_
    refine C_reg ?_
    refine p1 rfl ?_
    refine D_end ?_
    refine x_then ?_
    refine C_ret ?_
    refine x_then_ret ?_
    refine R_1 rfl rfl fun w' hs => ⟨congrArg (fun z => Ending.returned (Value.bool z)) ?_, hs.bel⟩
    show (false : Bool) = isFrame f
    simp [isFrame, h12n]
  · have h12n : (isBeliefs f.Beliefs) = true := not_f h12
    refine q1 rfl (D_fb f_34_1 rfl rfl (q := 2) rfl) ?_
    refine q1 rfl (lb 0 o_25 rfl rfl rfl rfl) ?_
    refine q1 rfl (D_len s_25 rfl rfl (rd_sl hu4)) ?_
    refine p1 rfl <| p1 rfl <| p1 rfl ?_
    refine gs 15 rfl rfl (fun h13 => ?_) (fun h13 => ?_)
    · have pr13 : (6 : Int) < ((f.Assumed.length : Nat) : Int) := of_decide_eq_true h13
      refine n1 rfl ?_
      refine n1 rfl ?_
      refine n1 rfl ?_
      refine n1 rfl ?_
      refine n1 rfl ?_
      refine n1 rfl ?_
      refine n1 rfl ?_
      refine p1 rfl <| p1 rfl ?_
      refine n1 rfl ?_
      refine n1 rfl ?_
      refine n1 rfl ?_
      refine n1 rfl ?_
      refine n1 rfl ?_
      refine n1 rfl ?_
      refine n1 rfl ?_
      refine p1 rfl ?_
      refine D_end ?_
      refine x_then ?_
      refine D_weak [(1, (.pointer (some ⟨g11, 0, none⟩))), (32, (.bool true))] ⟨rfl, rfl, trivial⟩ ?_
      refine C_t rfl ?_
      refine C_seq ?_
      refine C_reg ?_
      refine p1 rfl ?_
      refine D_end ?_
      refine x_then ?_
      refine C_ret ?_
      refine x_then_ret ?_
      refine R_1 rfl rfl fun w' hs => ⟨congrArg (fun z => Ending.returned (Value.bool z)) ?_, hs.bel⟩
      show (false : Bool) = isFrame f
      simp [isFrame]; intros; omega
    · have pr13 : ¬ (6 : Int) < ((f.Assumed.length : Nat) : Int) := of_decide_eq_false h13
      refine q1 rfl (D_fb f_34_1 rfl rfl (q := 2) rfl) ?_
      refine q1 rfl (lb 0 o_25 rfl rfl rfl rfl) ?_
      refine q1 rfl (D_fb f_34_0 rfl rfl (q := 0) rfl) ?_
      refine q1 rfl (D_fb f_32_0 rfl rfl (q := 0) rfl) ?_
      refine q1 rfl (lb 0 o_3 rfl rfl rfl rfl) ?_
      refine li rfl (cv b_68 rfl rfl rfl rfl (fun w' hs => (impl_ascendingNodes w' u3 f.Assumed f.Beliefs.Nodes (rd_at hs hu4))) ?_)
      refine p1 rfl <| p1 rfl <| p1 rfl ?_
      refine gs 24 rfl rfl (fun h14 => ?_) (fun h14 => ?_)
      · have h14n : (asc f.Assumed f.Beliefs.Nodes) = false := not_t h14
        refine n1 rfl ?_
        refine n1 rfl ?_
        refine n1 rfl ?_
        refine n1 rfl ?_
        refine n1 rfl ?_
        refine n1 rfl ?_
        refine n1 rfl ?_
        refine p1 rfl ?_
        refine D_end ?_
        refine x_then ?_
        refine D_weak [(1, (.pointer (some ⟨g11, 0, none⟩))), (32, (.bool true))] ⟨rfl, rfl, trivial⟩ ?_
        refine C_t rfl ?_
        refine C_seq ?_
        refine C_reg ?_
        refine p1 rfl ?_
        refine D_end ?_
        refine x_then ?_
        refine C_ret ?_
        refine x_then_ret ?_
        refine R_1 rfl rfl fun w' hs => ⟨congrArg (fun z => Ending.returned (Value.bool z)) ?_, hs.bel⟩
        show (false : Bool) = isFrame f
        simp [isFrame, h14n]
      · have h14n : (asc f.Assumed f.Beliefs.Nodes) = true := not_f h14
        refine q1 rfl (D_fb f_34_2 rfl rfl (q := 3) rfl) ?_
        refine q1 rfl (lb 0 o_25 rfl rfl rfl rfl) ?_
        refine q1 rfl (D_fb f_34_0 rfl rfl (q := 0) rfl) ?_
        refine q1 rfl (D_fb f_32_0 rfl rfl (q := 0) rfl) ?_
        refine q1 rfl (lb 0 o_3 rfl rfl rfl rfl) ?_
        refine li rfl (cv b_68 rfl rfl rfl rfl (fun w' hs => (impl_ascendingNodes w' u5 f.Bad f.Beliefs.Nodes (rd_at hs hu6))) ?_)
        refine p1 rfl <| p1 rfl ?_
        refine D_end ?_
        refine x_then ?_
        refine D_weak [(1, (.pointer (some ⟨g11, 0, none⟩))), (32, (.bool (!(asc f.Bad f.Beliefs.Nodes))))] ⟨rfl, rfl, trivial⟩ ?_
        refine C_if _ rfl (fun h15 => ?_) (fun h15 => ?_)
        · have h15n : (asc f.Bad f.Beliefs.Nodes) = false := not_t h15
          refine C_seq ?_
          refine C_reg ?_
          refine p1 rfl ?_
          refine D_end ?_
          refine x_then ?_
          refine C_ret ?_
          refine x_then_ret ?_
          refine R_1 rfl rfl fun w' hs => ⟨congrArg (fun z => Ending.returned (Value.bool z)) ?_, hs.bel⟩
          show (false : Bool) = isFrame f
          simp [isFrame, h15n]
        · have h15n : (asc f.Bad f.Beliefs.Nodes) = true := not_f h15
          refine C_skip ?_
          refine x_then ?_
          refine C_seq ?_
          refine C_seq ?_
          refine C_reg ?_
          refine q1 rfl (D_fb f_34_0 rfl rfl (q := 0) rfl) ?_
          refine q1 rfl (D_fb f_32_1 rfl rfl (q := 1) rfl) ?_
          refine q1 rfl (lb 0 o_30 rfl rfl rfl rfl) ?_
          refine q1 rfl (D_len s_30 rfl rfl (rd_sl hu2)) ?_
          refine p1 rfl ?_
          refine D_end ?_
          refine x_then ?_
          refine C_block ?_
          refine C_loop (fun m_ ac w' => ∃ (k : Nat), (k ≤ f.Beliefs.Reasons.length) ∧ (∀ i, i < k → ∀ r, f.Beliefs.Reasons[i]? = some r → noOut r = true) ∧ m_ = f.Beliefs.Reasons.length - k ∧ Fits ac 46 [(35, u1), (36, (.int .i64 ((f.Beliefs.Reasons.length : Nat) : Int))), (37, (.int .i64 ((k : Nat) : Int)))] ∧ St w ([bx g11 [(.int .i64 f.Beliefs.Nodes), u1, u3, u5]]) w') ?_ ?_
          · refine fun ac w' hf hs => ⟨_, 0, ?_, ?_, rfl, hf.weak ⟨rfl, rfl, rfl, trivial⟩, hs⟩
            · first | assumption | omega | simp
            · intro i hi; omega
          · rintro m_ ac w' ⟨k, hk, hi, rfl, hf, hs⟩
            refine D.use ?_ hf hs
            clear hf hs ac w'
            refine C_seq ?_
            refine C_reg ?_
            refine p1 rfl ?_
            refine D_end ?_
            refine x_then ?_
            refine C_seq ?_
            refine C_if _ rfl (fun h16 => ?_) (fun h16 => ?_)
            · have pr16 : (((k : Nat) : Int) : Int) < ((f.Beliefs.Reasons.length : Nat) : Int) := of_decide_eq_true h16
              refine C_skip ?_
              refine x_then ?_
              refine C_seq ?_
              refine C_block ?_
              refine C_seq ?_
              refine C_reg ?_
              obtain ⟨x17, hx18⟩ := some_of_lt (l := f.Beliefs.Reasons) (i := k) (by omega)
              obtain ⟨es19, at20, hr21⟩ := rd_elem (n := 3) rfl hu2 hx18
              obtain ⟨u22, u24, rfl, hu23, hu25⟩ := open_Reason hr21
              have hm26 := rd_max hu23
              have hm27 := rd_max hu25
              refine q1 rfl (D_ix (l := f.Beliefs.Reasons) (j := k) s_30 rfl rfl rfl (fun w' hs => (rd_at hs hu2)) rfl (lt_of_some hx18)) ?_
              refine q1 rfl (lra a_72 rfl rfl at20) ?_
              refine li rfl (D_alloc y_72 rfl rfl rfl rfl fun g28 => ?_)
              refine li rfl (D_stb (vs := [(.int .i64 x17.For), u22, u24]) (cs' := [(.int .i64 x17.For), u22, u24]) 0 z_72 rfl rfl rfl rfl rfl rfl (ocons rfl (ocons (one_rd hu23) (ocons (one_rd hu25) onil))) (by simp) rfl ?_)
              refine D_end ?_
              refine x_then ?_
              refine D_H ([bx g28 [(.int .i64 x17.For), u22, u24], bx g11 [(.int .i64 f.Beliefs.Nodes), u1, u3, u5]]) rfl ?_
              refine C_seq ?_
              refine C_reg ?_
              refine q1 rfl (D_fb f_72_2 rfl rfl (q := 2) rfl) ?_
              refine q1 rfl (lb 0 o_25 rfl rfl rfl rfl) ?_
              refine q1 rfl (D_len s_25 rfl rfl (rd_sl hu25)) ?_
              refine p1 rfl ?_
              refine D_end ?_
              refine x_then ?_
              refine C_if _ rfl (fun h29 => ?_) (fun h29 => ?_)
              · have pr29 : (0 : Int) < ((x17.Out.length : Nat) : Int) := of_decide_eq_true h29
                refine C_seq ?_
                refine C_reg ?_
                refine p1 rfl ?_
                refine D_end ?_
                refine x_then ?_
                refine C_ret ?_
                refine x_blk_ret ?_
                refine x_then_ret ?_
                refine x_then_ret ?_
                refine x_blk_ret ?_
                refine x_then_ret ?_
                refine R_1 rfl rfl fun w' hs => ⟨congrArg (fun z => Ending.returned (Value.bool z)) ?_, hs.bel⟩
                show (false : Bool) = isFrame f
                exact all_bad_f (by assumption) (noOut_f (by omega))
              · have pr29 : ¬ (0 : Int) < ((x17.Out.length : Nat) : Int) := of_decide_eq_false h29
                refine C_skip ?_
                refine x_blk ?_
                refine x_then ?_
                refine C_reg ?_
                refine q1 rfl (D_add rfl rfl rfl (r := ((k + 1 : Nat) : Int)) (by omega) (by omega)) ?_
                refine p1 rfl ?_
                refine D_end ?_
                refine x_then ?_
                refine fun ac w' hf hs => ⟨_, ?_, k + 1, ?_, ?_, rfl, hf.weak ⟨rfl, rfl, rfl, trivial⟩, hs.pk [1] rfl rfl⟩
                · omega
                · first | assumption | omega | simp
                · refine forall_step hi ?_; intro r hr; obtain rfl : r = x17 := Option.some.inj (hr.symm.trans hx18); exact noOut_t (by omega)
            · have pr16 : ¬ (((k : Nat) : Int) : Int) < ((f.Beliefs.Reasons.length : Nat) : Int) := of_decide_eq_false h16
              refine C_exit ?_
              refine x_then_exit ?_
              refine x_then_exit ?_
              refine x_blk_eq ?_
              refine x_then ?_
              refine C_seq ?_
              refine C_reg ?_
              refine p1 rfl ?_
              refine D_end ?_
              refine x_then ?_
              refine C_ret ?_
              refine R_1 rfl rfl fun w' hs => ⟨congrArg (fun z => Ending.returned (Value.bool z)) ?_, hs.bel⟩
              show (true : Bool) = isFrame f
              unfold isFrame; rw [all_of_idx (p := noOut) (fun i h x hx => hi i (by omega) x hx), decide_eq_true (by omega)]; simp_all only [Bool.and_self]

theorem spec_IsFrame (w : World) (c_f : List Value) (f : Frame) (h_f : Gd.rd w c_f f) : Calls Try.prog 65 [(.agg c_f.toArray)].toArray w (Val w (.bool (isFrameW f))) := by
  obtain ⟨u1, u3, u5, rfl, hu2, hu4, hu6⟩ := open_Frame h_f
  have hm7 := rd_max hu2
  have hm8 := rd_max hu4
  have hm9 := rd_max hu6
  have hb10 := sub_Frame_Beliefs h_f
  refine enter 46 Try.func65 rfl rfl rfl ?_
  refine C_seq ?_
  refine C_reg ?_
  refine li rfl (D_box rfl rfl rfl rfl rfl fun g11 => ?_)
  refine p1 rfl ?_
  refine D_end ?_
  refine x_then ?_
  refine D_H ([bx g11 [(.int .i64 f.Beliefs.Nodes), u1, u3, u5]]) rfl ?_
  refine C_seq ?_
  refine C_seq ?_
  refine C_reg ?_
  refine p1 rfl ?_
  refine D_end ?_
  refine x_then ?_
  refine C_block ?_
  refine C_loop (fun m_ ac w' => ∃ (k : Nat), (k ≤ f.Beliefs.Reasons.length) ∧ (∀ i, i < k → ∀ r, f.Beliefs.Reasons[i]? = some r → noOut r = true) ∧ m_ = f.Beliefs.Reasons.length - k ∧ Fits ac 46 [(1, (.pointer (some ⟨g11, 0, none⟩))), (3, (.int .i64 ((k : Nat) : Int)))] ∧ St w ([bx g11 [(.int .i64 f.Beliefs.Nodes), u1, u3, u5]]) w') ?_ ?_
  · refine fun ac w' hf hs => ⟨_, 0, ?_, ?_, rfl, hf.weak ⟨rfl, rfl, trivial⟩, hs⟩
    · first | assumption | omega | simp
    · intro i hi; omega
  · rintro m_ ac w' ⟨k, hk, hi, rfl, hf, hs⟩
    refine D.use ?_ hf hs
    clear hf hs ac w'
    refine C_seq ?_
    refine C_seq ?_
    refine C_reg ?_
    refine p1 rfl ?_
    refine q1 rfl (D_fb f_34_0 rfl rfl (q := 0) rfl) ?_
    refine q1 rfl (D_fb f_32_1 rfl rfl (q := 1) rfl) ?_
    refine q1 rfl (lb 0 o_30 rfl rfl rfl rfl) ?_
    refine q1 rfl (D_len s_30 rfl rfl (rd_sl hu2)) ?_
    refine p1 rfl ?_
    refine D_end ?_
    refine x_then ?_
    refine C_if _ rfl (fun h12 => ?_) (fun h12 => ?_)
    · have pr12 : (((k : Nat) : Int) : Int) < ((f.Beliefs.Reasons.length : Nat) : Int) := of_decide_eq_true h12
      refine C_skip ?_
      refine x_then ?_
      refine C_seq ?_
      refine C_block ?_
      refine C_seq ?_
      refine C_reg ?_
      refine q1 rfl (D_fb f_34_0 rfl rfl (q := 0) rfl) ?_
      refine q1 rfl (D_fb f_32_1 rfl rfl (q := 1) rfl) ?_
      refine q1 rfl (lb 0 o_30 rfl rfl rfl rfl) ?_
      refine p1 rfl ?_
      obtain ⟨x13, hx14⟩ := some_of_lt (l := f.Beliefs.Reasons) (i := k) (by omega)
      obtain ⟨es15, at16, hr17⟩ := rd_elem (n := 3) rfl hu2 hx14
      obtain ⟨u18, u20, rfl, hu19, hu21⟩ := open_Reason hr17
      have hm22 := rd_max hu19
      have hm23 := rd_max hu21
      refine q1 rfl (D_ix (l := f.Beliefs.Reasons) (j := k) s_30 rfl rfl rfl (fun w' hs => (rd_at hs hu2)) rfl (lt_of_some hx14)) ?_
      refine q1 rfl (D_fa f_72_2 rfl rfl) ?_
      refine q1 rfl (lr o_25 rfl rfl at16 rfl) ?_
      refine q1 rfl (D_len s_25 rfl rfl (rd_sl hu21)) ?_
      refine p1 rfl ?_
      refine D_end ?_
      refine x_then ?_
      refine C_if _ rfl (fun h24 => ?_) (fun h24 => ?_)
      · have pr24 : (0 : Int) < ((x13.Out.length : Nat) : Int) := of_decide_eq_true h24
        refine C_seq ?_
        refine C_reg ?_
        refine p1 rfl ?_
        refine D_end ?_
        refine x_then ?_
        refine D_weak [(2, (.bool false))] ⟨rfl, trivial⟩ ?_
        refine C_ret ?_
        refine x_blk_ret ?_
        refine x_then_ret ?_
        refine x_then_ret ?_
        refine x_blk_ret ?_
        refine x_then_ret ?_
        refine R_1 rfl rfl fun w' hs => ⟨congrArg (fun z => Ending.returned (Value.bool z)) ?_, hs.bel⟩
        show (false : Bool) = isFrameW f
        unfold isFrameW; rw [all_bad (p := noOut) (by assumption) (noOut_f (by omega))]; rfl
      · have pr24 : ¬ (0 : Int) < ((x13.Out.length : Nat) : Int) := of_decide_eq_false h24
        refine C_skip ?_
        refine x_blk ?_
        refine x_then ?_
        refine D_weak [(1, (.pointer (some ⟨g11, 0, none⟩))), (3, (.int .i64 ((k : Nat) : Int)))] ⟨rfl, rfl, trivial⟩ ?_
        refine C_reg ?_
        refine p1 rfl ?_
        refine q1 rfl (D_add rfl rfl rfl (r := ((k + 1 : Nat) : Int)) (by omega) (by omega)) ?_
        refine p1 rfl ?_
        refine D_end ?_
        refine x_then ?_
        refine fun ac w' hf hs => ⟨_, ?_, k + 1, ?_, ?_, rfl, hf.weak ⟨rfl, rfl, trivial⟩, hs⟩
        · omega
        · first | assumption | omega | simp
        · refine forall_step hi ?_; intro r hr; obtain rfl : r = x13 := Option.some.inj (hr.symm.trans hx14); exact noOut_t (by omega)
    · have pr12 : ¬ (((k : Nat) : Int) : Int) < ((f.Beliefs.Reasons.length : Nat) : Int) := of_decide_eq_false h12
      refine C_exit ?_
      refine x_then_exit ?_
      refine x_then_exit ?_
      refine x_blk_eq ?_
      refine x_then ?_
      refine C_seq ?_
      refine C_reg ?_
      refine q1 rfl (D_fb f_34_0 rfl rfl (q := 0) rfl) ?_
      refine q1 rfl (lba (es := [(.int .i64 f.Beliefs.Nodes), u1]) 0 a_32 rfl rfl rfl rfl) ?_
      refine li rfl (cv b_77 rfl rfl rfl rfl (fun w' hs => (spec_IsBeliefs w' [(.int .i64 f.Beliefs.Nodes), u1] f.Beliefs (rd_at hs hb10))) ?_)
      refine p1 rfl ?_
      refine gs 24 rfl rfl (fun h25 => ?_) (fun h25 => ?_)
      · refine q1 rfl (D_fb f_34_1 rfl rfl (q := 2) rfl) ?_
        refine q1 rfl (lb 0 o_25 rfl rfl rfl rfl) ?_
        refine q1 rfl (D_fb f_34_0 rfl rfl (q := 0) rfl) ?_
        refine q1 rfl (D_fb f_32_0 rfl rfl (q := 0) rfl) ?_
        refine q1 rfl (lb 0 o_3 rfl rfl rfl rfl) ?_
        refine li rfl (cv b_85 rfl rfl rfl rfl (fun w' hs => (spec_l11List w' u3 f.Assumed f.Beliefs.Nodes (rd_at hs hu4))) ?_)
        refine p1 rfl <| p1 rfl ?_
        refine gs 32 rfl rfl (fun h26 => ?_) (fun h26 => ?_)
        · refine q1 rfl (D_fb f_34_1 rfl rfl (q := 2) rfl) ?_
          refine q1 rfl (lb 0 o_25 rfl rfl rfl rfl) ?_
          refine q1 rfl (D_len s_25 rfl rfl (rd_sl hu4)) ?_
          refine p1 rfl <| p1 rfl <| p1 rfl ?_
          refine gs 38 rfl rfl (fun h27 => ?_) (fun h27 => ?_)
          · have pr27 : (((f.Assumed.length : Nat) : Int) : Int) ≤ 6 := of_decide_eq_true h27
            refine q1 rfl (D_fb f_34_2 rfl rfl (q := 3) rfl) ?_
            refine q1 rfl (lb 0 o_25 rfl rfl rfl rfl) ?_
            refine q1 rfl (D_fb f_34_0 rfl rfl (q := 0) rfl) ?_
            refine q1 rfl (D_fb f_32_0 rfl rfl (q := 0) rfl) ?_
            refine q1 rfl (lb 0 o_3 rfl rfl rfl rfl) ?_
            refine li rfl (cv b_85 rfl rfl rfl rfl (fun w' hs => (spec_l11List w' u5 f.Bad f.Beliefs.Nodes (rd_at hs hu6))) ?_)
            refine p1 rfl <| p1 rfl ?_
            refine D_end ?_
            refine x_then ?_
            refine D_weak [(2, (.bool (ascW f.Bad f.Beliefs.Nodes)))] ⟨rfl, trivial⟩ ?_
            refine D_sel (H' := []) [false] rfl ?_
            refine C_ret ?_
            refine R_1 rfl rfl fun w' hs => ⟨congrArg (fun z => Ending.returned (Value.bool z)) ?_, hs.bel⟩
            show ((ascW f.Bad f.Beliefs.Nodes) : Bool) = isFrameW f
            unfold isFrameW; rw [all_of_idx (p := noOut) (fun i h x hx => hi i (by omega) x hx)]; rw [Bool.eq_iff_iff]; simp_all; try omega
          · have pr27 : ¬ (((f.Assumed.length : Nat) : Int) : Int) ≤ 6 := of_decide_eq_false h27
            refine n1 rfl ?_
            refine n1 rfl ?_
            refine n1 rfl ?_
            refine n1 rfl ?_
            refine n1 rfl ?_
            refine n1 rfl ?_
            refine p1 rfl <| p1 rfl ?_
            refine D_end ?_
            refine x_then ?_
            refine D_weak [(2, (.bool false))] ⟨rfl, trivial⟩ ?_
            refine D_sel (H' := []) [false] rfl ?_
            refine C_ret ?_
            refine R_1 rfl rfl fun w' hs => ⟨congrArg (fun z => Ending.returned (Value.bool z)) ?_, hs.bel⟩
            show (false : Bool) = isFrameW f
            unfold isFrameW; rw [all_of_idx (p := noOut) (fun i h x hx => hi i (by omega) x hx)]; rw [Bool.eq_iff_iff]; simp_all; try omega
        · refine n1 rfl ?_
          refine n1 rfl ?_
          refine n1 rfl ?_
          refine n1 rfl ?_
          refine p1 rfl <| p1 rfl ?_
          refine n1 rfl ?_
          refine n1 rfl ?_
          refine n1 rfl ?_
          refine n1 rfl ?_
          refine n1 rfl ?_
          refine n1 rfl ?_
          refine p1 rfl <| p1 rfl ?_
          refine D_end ?_
          refine x_then ?_
          refine D_weak [(2, (.bool false))] ⟨rfl, trivial⟩ ?_
          refine D_sel (H' := []) [false] rfl ?_
          refine C_ret ?_
          refine R_1 rfl rfl fun w' hs => ⟨congrArg (fun z => Ending.returned (Value.bool z)) ?_, hs.bel⟩
          show (false : Bool) = isFrameW f
          unfold isFrameW; rw [all_of_idx (p := noOut) (fun i h x hx => hi i (by omega) x hx)]; rw [Bool.eq_iff_iff]; simp_all; try omega
      · refine n1 rfl ?_
        refine n1 rfl ?_
        refine n1 rfl ?_
        refine n1 rfl ?_
        refine n1 rfl ?_
        refine n1 rfl ?_
        refine p1 rfl <| p1 rfl ?_
        refine n1 rfl ?_
        refine n1 rfl ?_
        refine n1 rfl ?_
        refine n1 rfl ?_
        refine p1 rfl <| p1 rfl ?_
        refine n1 rfl ?_
        refine n1 rfl ?_
        refine n1 rfl ?_
        refine n1 rfl ?_
        refine n1 rfl ?_
        refine n1 rfl ?_
        refine p1 rfl <| p1 rfl ?_
        refine D_end ?_
        refine x_then ?_
        refine D_weak [(2, (.bool false))] ⟨rfl, trivial⟩ ?_
        refine D_sel (H' := []) [false] rfl ?_
        refine C_ret ?_
        refine R_1 rfl rfl fun w' hs => ⟨congrArg (fun z => Ending.returned (Value.bool z)) ?_, hs.bel⟩
        show (false : Bool) = isFrameW f
        unfold isFrameW; rw [all_of_idx (p := noOut) (fun i h x hx => hi i (by omega) x hx)]; rw [Bool.eq_iff_iff]; simp_all; try omega

theorem laws_szFrame (w : World) (c_a : List Value) (a : Frame) (left : Int) (h_a : Gd.rd w c_a a) (h0 : 0 ≤ left) (h1 : left ≤ 1048576) : Calls Try.prog 9 [(.agg c_a.toArray), (.int .i64 left)].toArray w (Val w (.int .i64 (szm (szF a) left))) := by
  obtain ⟨u1, u3, u5, rfl, hu2, hu4, hu6⟩ := open_Frame h_a
  have hm7 := rd_max hu2
  have hm8 := rd_max hu4
  have hm9 := rd_max hu6
  have hb10 := sub_Frame_Beliefs h_a
  refine enter 24 Try.func9 rfl rfl rfl ?_
  refine C_seq ?_
  refine C_reg ?_
  refine li rfl (D_box rfl rfl rfl rfl rfl fun g11 => ?_)
  refine p1 rfl ?_
  refine D_end ?_
  refine x_then ?_
  refine D_H ([bx g11 [(.int .i64 a.Beliefs.Nodes), u1, u3, u5]]) rfl ?_
  refine C_seq ?_
  refine C_reg ?_
  refine q1 rfl (D_fb f_27_0 rfl rfl (q := 0) rfl) ?_
  refine q1 rfl (lba (es := [(.int .i64 a.Beliefs.Nodes), u1]) 0 a_24 rfl rfl rfl rfl) ?_
  refine p1 rfl ?_
  refine li rfl (cv b_18 rfl rfl rfl rfl (fun w' hs => (laws_szBeliefs w' [(.int .i64 a.Beliefs.Nodes), u1] a.Beliefs left (rd_at hs hb10) (by first | assumption | omega | (unfold szm at *; split at * <;> omega)) (by first | assumption | omega | (unfold szm at *; split at * <;> omega)))) ?_)
  refine p1 rfl ?_
  refine D_end ?_
  refine x_then ?_
  refine C_seq ?_
  refine C_seq ?_
  refine C_reg ?_
  refine p1 rfl <| p1 rfl ?_
  refine D_end ?_
  refine x_then ?_
  refine C_if _ rfl (fun h12 => ?_) (fun h12 => ?_)
  · have pr12 : ((szm (szB a.Beliefs) left) : Int) < 0 := of_decide_eq_true h12
    refine C_seq ?_
    refine C_reg ?_
    refine p1 rfl ?_
    refine D_end ?_
    refine x_then ?_
    refine C_ret ?_
    refine x_then_ret ?_
    refine R_1 rfl rfl fun w' hs => ⟨congrArg (fun z => Ending.returned (Value.int .i64 z)) ?_, hs.bel⟩
    show ((-1) : Int) = szm (szF a) left
    unfold szF szm at *; repeat (split at * <;> try omega)
  · have pr12 : ¬ ((szm (szB a.Beliefs) left) : Int) < 0 := of_decide_eq_false h12
    have pr12z := szm_val (n := (szB a.Beliefs)) (left := left) pr12
    refine C_skip ?_
    refine x_then ?_
    refine C_seq ?_
    refine C_reg ?_
    refine q1 rfl (D_fb f_27_1 rfl rfl (q := 2) rfl) ?_
    refine q1 rfl (lb 0 o_25 rfl rfl rfl rfl) ?_
    refine p1 rfl ?_
    refine li rfl (cv b_36 rfl rfl rfl rfl (fun w' hs => (laws_szIntS w' u3 a.Assumed (szm (szB a.Beliefs) left) (rd_at hs hu4) (by first | assumption | omega | (unfold szm at *; split at * <;> omega)) (by first | assumption | omega | (unfold szm at *; split at * <;> omega)))) ?_)
    refine p1 rfl ?_
    refine D_end ?_
    refine x_then ?_
    refine C_seq ?_
    refine C_seq ?_
    refine C_reg ?_
    refine p1 rfl <| p1 rfl ?_
    refine D_end ?_
    refine x_then ?_
    refine C_if _ rfl (fun h13 => ?_) (fun h13 => ?_)
    · have pr13 : ((szm a.Assumed.length (szm (szB a.Beliefs) left)) : Int) < 0 := of_decide_eq_true h13
      refine C_seq ?_
      refine C_reg ?_
      refine p1 rfl ?_
      refine D_end ?_
      refine x_then ?_
      refine D_weak [(4, (.int .i64 (-1)))] ⟨rfl, trivial⟩ ?_
      refine D_sel (H' := []) [false] rfl ?_
      refine C_ret ?_
      refine x_then_ret ?_
      refine R_1 rfl rfl fun w' hs => ⟨congrArg (fun z => Ending.returned (Value.int .i64 z)) ?_, hs.bel⟩
      show ((-1) : Int) = szm (szF a) left
      unfold szF szm at *; repeat (split at * <;> try omega)
    · have pr13 : ¬ ((szm a.Assumed.length (szm (szB a.Beliefs) left)) : Int) < 0 := of_decide_eq_false h13
      have pr13z := szm_val (n := a.Assumed.length) (left := (szm (szB a.Beliefs) left)) pr13
      refine C_skip ?_
      refine x_then ?_
      refine C_seq ?_
      refine C_reg ?_
      refine q1 rfl (D_fb f_27_2 rfl rfl (q := 3) rfl) ?_
      refine q1 rfl (lb 0 o_25 rfl rfl rfl rfl) ?_
      refine p1 rfl ?_
      refine li rfl (cv b_36 rfl rfl rfl rfl (fun w' hs => (laws_szIntS w' u5 a.Bad (szm a.Assumed.length (szm (szB a.Beliefs) left)) (rd_at hs hu6) (by first | assumption | omega | (unfold szm at *; split at * <;> omega)) (by first | assumption | omega | (unfold szm at *; split at * <;> omega)))) ?_)
      refine p1 rfl ?_
      refine D_end ?_
      refine x_then ?_
      refine D_weak [(1, (.int .i64 (szm a.Bad.length (szm a.Assumed.length (szm (szB a.Beliefs) left)))))] ⟨rfl, trivial⟩ ?_
      refine D_sel (H' := []) [false] rfl ?_
      refine C_seq ?_
      refine C_seq ?_
      refine C_reg ?_
      refine p1 rfl <| p1 rfl ?_
      refine D_end ?_
      refine x_then ?_
      refine C_if _ rfl (fun h14 => ?_) (fun h14 => ?_)
      · have pr14 : ((szm a.Bad.length (szm a.Assumed.length (szm (szB a.Beliefs) left))) : Int) < 0 := of_decide_eq_true h14
        refine C_seq ?_
        refine C_reg ?_
        refine p1 rfl ?_
        refine D_end ?_
        refine x_then ?_
        refine C_ret ?_
        refine x_then_ret ?_
        refine R_1 rfl rfl fun w' hs => ⟨congrArg (fun z => Ending.returned (Value.int .i64 z)) ?_, hs.bel⟩
        show ((-1) : Int) = szm (szF a) left
        unfold szF szm at *; repeat (split at * <;> try omega)
      · have pr14 : ¬ ((szm a.Bad.length (szm a.Assumed.length (szm (szB a.Beliefs) left))) : Int) < 0 := of_decide_eq_false h14
        have pr14z := szm_val (n := a.Bad.length) (left := (szm a.Assumed.length (szm (szB a.Beliefs) left))) pr14
        refine C_skip ?_
        refine x_then ?_
        refine C_seq ?_
        refine C_reg ?_
        refine p1 rfl <| p1 rfl ?_
        refine D_end ?_
        refine x_then ?_
        refine C_ret ?_
        refine R_1 rfl rfl fun w' hs => ⟨congrArg (fun z => Ending.returned (Value.int .i64 z)) ?_, hs.bel⟩
        show ((szm a.Bad.length (szm a.Assumed.length (szm (szB a.Beliefs) left))) : Int) = szm (szF a) left
        unfold szF szm at *; repeat (split at * <;> try omega)

theorem laws_toFrame (w : World) (c_a : List Value) (a : Frame) (h_a : Gd.rd w c_a a) (hn : szF a ≤ 1048576) : Calls Try.prog 11 [(.agg c_a.toArray)].toArray w (Res w (a : Frame)) := by
  obtain ⟨u1, u3, u5, rfl, hu2, hu4, hu6⟩ := open_Frame h_a
  have hm7 := rd_max hu2
  have hm8 := rd_max hu4
  have hm9 := rd_max hu6
  have hb10 := sub_Frame_Beliefs h_a
  unfold szF at hn
  refine enter 17 Try.func11 rfl rfl rfl ?_
  refine C_seq ?_
  refine C_reg ?_
  refine li rfl (D_box rfl rfl rfl rfl rfl fun g11 => ?_)
  refine li rfl (D_alloc y_34 rfl rfl rfl rfl fun g12 => ?_)
  refine D_end ?_
  refine x_then ?_
  refine D_H ([bx g12 [(.int .i64 0), (.slice none 0 0), (.slice none 0 0), (.slice none 0 0)], bx g11 [(.int .i64 a.Beliefs.Nodes), u1, u3, u5]]) rfl ?_
  refine C_seq ?_
  refine C_reg ?_
  refine li rfl (D_alloc y_34 rfl rfl rfl rfl fun g13 => ?_)
  refine D_end ?_
  refine x_then ?_
  refine D_H ([bx g13 [(.int .i64 0), (.slice none 0 0), (.slice none 0 0), (.slice none 0 0)], bx g12 [(.int .i64 0), (.slice none 0 0), (.slice none 0 0), (.slice none 0 0)], bx g11 [(.int .i64 a.Beliefs.Nodes), u1, u3, u5]]) rfl ?_
  refine C_seq ?_
  refine C_reg ?_
  refine q1 rfl (D_fb f_27_0 rfl rfl (q := 0) rfl) ?_
  refine q1 rfl (lba (es := [(.int .i64 a.Beliefs.Nodes), u1]) 2 a_24 rfl rfl rfl rfl) ?_
  refine li rfl (crs rfl b_20 rfl rfl rfl rfl (fun w' hs => (laws_toBeliefs w' [(.int .i64 a.Beliefs.Nodes), u1] a.Beliefs (rd_at hs hb10) (by first | assumption | omega | (unfold szm at *; split at * <;> omega)))) fun cs14 => ?_)
  refine D_pre (fun w' hs => shape_Beliefs (rd_own (k := 0) hs rfl)) ?_
  rintro ⟨v15, rfl, ho16⟩
  refine q1 rfl (D_fb f_34_0 rfl rfl (q := 0) rfl) ?_
  refine li rfl (D_stb (vs := [(.int .i64 a.Beliefs.Nodes), v15]) (cs' := [(.int .i64 a.Beliefs.Nodes), v15, (.slice none 0 0), (.slice none 0 0)]) 1 z_32 rfl rfl rfl rfl rfl rfl (ocons rfl (ocons ho16 onil)) (by simp) rfl ?_)
  refine D_end ?_
  refine x_then ?_
  refine D_H ([ov [(.int .i64 a.Beliefs.Nodes), v15] (a.Beliefs : Beliefs), bx g13 [(.int .i64 a.Beliefs.Nodes), v15, (.slice none 0 0), (.slice none 0 0)], bx g12 [(.int .i64 0), (.slice none 0 0), (.slice none 0 0), (.slice none 0 0)], bx g11 [(.int .i64 a.Beliefs.Nodes), u1, u3, u5]]) rfl ?_
  refine C_seq ?_
  refine C_reg ?_
  refine q1 rfl (D_fb f_27_1 rfl rfl (q := 2) rfl) ?_
  refine q1 rfl (lb 3 o_25 rfl rfl rfl rfl) ?_
  refine li rfl (crl b_28 rfl rfl rfl rfl (fun w' hs => (laws_toIntS w' u3 a.Assumed (rd_at hs hu4) (by first | assumption | omega | (unfold szm at *; split at * <;> omega)))) fun v17 => ?_)
  refine q1 rfl (D_fb f_34_1 rfl rfl (q := 2) rfl) ?_
  refine D_pre (fun w' hs => one_own (k := 0) hs rfl) ?_
  intro ho18
  refine li rfl (D_stb (vs := [v17]) (cs' := [(.int .i64 a.Beliefs.Nodes), v15, v17, (.slice none 0 0)]) 2 z_25 rfl rfl rfl rfl rfl (cells_of_one ho18) (ocons ho18 onil) (by simp) rfl ?_)
  refine D_end ?_
  refine x_then ?_
  refine D_H ([ov [v17] (a.Assumed : (List Int)), ov [(.int .i64 a.Beliefs.Nodes), v15] (a.Beliefs : Beliefs), bx g13 [(.int .i64 a.Beliefs.Nodes), v15, v17, (.slice none 0 0)], bx g12 [(.int .i64 0), (.slice none 0 0), (.slice none 0 0), (.slice none 0 0)], bx g11 [(.int .i64 a.Beliefs.Nodes), u1, u3, u5]]) rfl ?_
  refine C_seq ?_
  refine C_reg ?_
  refine q1 rfl (D_fb f_27_2 rfl rfl (q := 3) rfl) ?_
  refine q1 rfl (lb 4 o_25 rfl rfl rfl rfl) ?_
  refine li rfl (crl b_28 rfl rfl rfl rfl (fun w' hs => (laws_toIntS w' u5 a.Bad (rd_at hs hu6) (by first | assumption | omega | (unfold szm at *; split at * <;> omega)))) fun v19 => ?_)
  refine q1 rfl (D_fb f_34_2 rfl rfl (q := 3) rfl) ?_
  refine D_pre (fun w' hs => one_own (k := 0) hs rfl) ?_
  intro ho20
  refine li rfl (D_stb (vs := [v19]) (cs' := [(.int .i64 a.Beliefs.Nodes), v15, v17, v19]) 3 z_25 rfl rfl rfl rfl rfl (cells_of_one ho20) (ocons ho20 onil) (by simp) rfl ?_)
  refine D_end ?_
  refine x_then ?_
  refine D_H ([ov [v19] (a.Bad : (List Int)), ov [v17] (a.Assumed : (List Int)), ov [(.int .i64 a.Beliefs.Nodes), v15] (a.Beliefs : Beliefs), bx g13 [(.int .i64 a.Beliefs.Nodes), v15, v17, v19], bx g12 [(.int .i64 0), (.slice none 0 0), (.slice none 0 0), (.slice none 0 0)], bx g11 [(.int .i64 a.Beliefs.Nodes), u1, u3, u5]]) rfl ?_
  refine C_seq ?_
  refine C_reg ?_
  refine q1 rfl (lbw 3 a_34 rfl rfl rfl) ?_
  refine li rfl (D_stb (vs := [(.int .i64 a.Beliefs.Nodes), v15, v17, v19]) (cs' := [(.int .i64 a.Beliefs.Nodes), v15, v17, v19]) 4 z_34 rfl rfl rfl rfl rfl rfl (ocons rfl (ocons ho16 (ocons ho18 (ocons ho20 onil)))) (by simp) rfl ?_)
  refine D_end ?_
  refine x_then ?_
  refine D_weak [(2, (.pointer (some ⟨g12, 0, none⟩)))] ⟨rfl, trivial⟩ ?_
  refine D_sel (H' := [ov [v19] (a.Bad : (List Int)), ov [v17] (a.Assumed : (List Int)), ov [(.int .i64 a.Beliefs.Nodes), v15] (a.Beliefs : Beliefs), bx g12 [(.int .i64 a.Beliefs.Nodes), v15, v17, v19]]) [true, true, true, false, true, false] rfl ?_
  refine C_ret ?_
  refine D_pk (H' := [ov [(.int .i64 a.Beliefs.Nodes), v15] (a.Beliefs : Beliefs), ov [v19] (a.Bad : (List Int)), ov [v17] (a.Assumed : (List Int)), bx g12 [(.int .i64 a.Beliefs.Nodes), v15, v17, v19]]) [2, 0, 1, 3] rfl rfl ?_
  refine D_unpair (α := Int) (β := (List Reason)) (c1 := [(.int .i64 a.Beliefs.Nodes)]) (c2 := [v15]) (x := a.Beliefs.Nodes) (y := (a.Beliefs.Reasons)) rfl rfl ?_
  refine D_fd [] 1 rfl ?_
  refine D_pk (H' := [ov [v15] (a.Beliefs.Reasons : (List Reason)), ov [v17] (a.Assumed : (List Int)), ov [v19] (a.Bad : (List Int)), bx g12 [(.int .i64 a.Beliefs.Nodes), v15, v17, v19]]) [0, 2, 1, 3] rfl rfl ?_
  refine pk_Frame (r := (⟨⟨a.Beliefs.Nodes, a.Beliefs.Reasons⟩, a.Assumed, a.Bad⟩ : Frame)) ?_
  refine R_c 1 a_34 rfl rfl rfl fun w' hs => res_of (k := 0) hs rfl ?_
  show (⟨⟨a.Beliefs.Nodes, a.Beliefs.Reasons⟩, a.Assumed, a.Bad⟩ : Frame) = a
  rfl

theorem laws_eqFrame (w : World) (c_a : List Value) (a : Frame) (c_b : List Value) (b : Frame) (h_a : Gd.rd w c_a a) (h_b : Gd.rd w c_b b) : Calls Try.prog 14 [(.agg c_a.toArray), (.agg c_b.toArray)].toArray w (Val w (.bool (decide (a = b)))) := by
  obtain ⟨u1, u3, u5, rfl, hu2, hu4, hu6⟩ := open_Frame h_a
  have hm7 := rd_max hu2
  have hm8 := rd_max hu4
  have hm9 := rd_max hu6
  have hb10 := sub_Frame_Beliefs h_a
  obtain ⟨u11, u13, u15, rfl, hu12, hu14, hu16⟩ := open_Frame h_b
  have hm17 := rd_max hu12
  have hm18 := rd_max hu14
  have hm19 := rd_max hu16
  have hb20 := sub_Frame_Beliefs h_b
  refine enter 23 Try.func14 rfl rfl rfl ?_
  refine C_seq ?_
  refine C_reg ?_
  refine li rfl (D_box rfl rfl rfl rfl rfl fun g21 => ?_)
  refine li rfl (D_box rfl rfl rfl rfl rfl fun g22 => ?_)
  refine p1 rfl ?_
  refine D_end ?_
  refine x_then ?_
  refine D_H ([bx g22 [(.int .i64 b.Beliefs.Nodes), u11, u13, u15], bx g21 [(.int .i64 a.Beliefs.Nodes), u1, u3, u5]]) rfl ?_
  refine C_seq ?_
  refine C_seq ?_
  refine C_reg ?_
  refine q1 rfl (D_fb f_34_0 rfl rfl (q := 0) rfl) ?_
  refine q1 rfl (lba (es := [(.int .i64 a.Beliefs.Nodes), u1]) 1 a_32 rfl rfl rfl rfl) ?_
  refine q1 rfl (D_fb f_34_0 rfl rfl (q := 0) rfl) ?_
  refine q1 rfl (lba (es := [(.int .i64 b.Beliefs.Nodes), u11]) 0 a_32 rfl rfl rfl rfl) ?_
  refine li rfl (cv b_23 rfl rfl rfl rfl (fun w' hs => (laws_eqBeliefs w' [(.int .i64 a.Beliefs.Nodes), u1] a.Beliefs [(.int .i64 b.Beliefs.Nodes), u11] b.Beliefs (rd_at hs hb10) (rd_at hs hb20))) ?_)
  refine p1 rfl ?_
  refine D_end ?_
  refine x_then ?_
  refine C_if _ rfl (fun h23 => ?_) (fun h23 => ?_)
  · have h23n : (decide (a.Beliefs = b.Beliefs)) = false := not_t h23
    refine C_seq ?_
    refine C_reg ?_
    refine p1 rfl ?_
    refine D_end ?_
    refine x_then ?_
    refine C_ret ?_
    refine x_then_ret ?_
    refine R_1 rfl rfl fun w' hs => ⟨congrArg (fun z => Ending.returned (Value.bool z)) ?_, hs.bel⟩
    show (false : Bool) = decide (a = b)
    cases a; cases b; simp_all
  · have h23n : (decide (a.Beliefs = b.Beliefs)) = true := not_f h23
    refine C_skip ?_
    refine x_then ?_
    refine C_seq ?_
    refine C_seq ?_
    refine C_reg ?_
    refine q1 rfl (D_fb f_34_1 rfl rfl (q := 2) rfl) ?_
    refine q1 rfl (lb 1 o_25 rfl rfl rfl rfl) ?_
    refine q1 rfl (D_fb f_34_1 rfl rfl (q := 2) rfl) ?_
    refine q1 rfl (lb 0 o_25 rfl rfl rfl rfl) ?_
    refine li rfl (cv b_13 rfl rfl rfl rfl (fun w' hs => (laws_eqIntS w' u3 a.Assumed u13 b.Assumed (rd_at hs hu4) (rd_at hs hu14))) ?_)
    refine p1 rfl ?_
    refine D_end ?_
    refine x_then ?_
    refine C_if _ rfl (fun h24 => ?_) (fun h24 => ?_)
    · have h24n : (decide (a.Assumed = b.Assumed)) = false := not_t h24
      refine C_seq ?_
      refine C_reg ?_
      refine p1 rfl ?_
      refine D_end ?_
      refine x_then ?_
      refine D_weak [(4, (.bool false))] ⟨rfl, trivial⟩ ?_
      refine D_sel (H' := []) [false, false] rfl ?_
      refine C_ret ?_
      refine x_then_ret ?_
      refine R_1 rfl rfl fun w' hs => ⟨congrArg (fun z => Ending.returned (Value.bool z)) ?_, hs.bel⟩
      show (false : Bool) = decide (a = b)
      cases a; cases b; simp_all
    · have h24n : (decide (a.Assumed = b.Assumed)) = true := not_f h24
      refine C_skip ?_
      refine x_then ?_
      refine D_weak [(2, (.pointer (some ⟨g21, 0, none⟩))), (3, (.pointer (some ⟨g22, 0, none⟩)))] ⟨rfl, rfl, trivial⟩ ?_
      refine C_seq ?_
      refine C_seq ?_
      refine C_reg ?_
      refine q1 rfl (D_fb f_34_2 rfl rfl (q := 3) rfl) ?_
      refine q1 rfl (lb 1 o_25 rfl rfl rfl rfl) ?_
      refine q1 rfl (D_fb f_34_2 rfl rfl (q := 3) rfl) ?_
      refine q1 rfl (lb 0 o_25 rfl rfl rfl rfl) ?_
      refine li rfl (cv b_13 rfl rfl rfl rfl (fun w' hs => (laws_eqIntS w' u5 a.Bad u15 b.Bad (rd_at hs hu6) (rd_at hs hu16))) ?_)
      refine p1 rfl ?_
      refine D_end ?_
      refine x_then ?_
      refine C_if _ rfl (fun h25 => ?_) (fun h25 => ?_)
      · have h25n : (decide (a.Bad = b.Bad)) = false := not_t h25
        refine C_seq ?_
        refine C_reg ?_
        refine p1 rfl ?_
        refine D_end ?_
        refine x_then ?_
        refine C_ret ?_
        refine x_then_ret ?_
        refine R_1 rfl rfl fun w' hs => ⟨congrArg (fun z => Ending.returned (Value.bool z)) ?_, hs.bel⟩
        show (false : Bool) = decide (a = b)
        cases a; cases b; simp_all
      · have h25n : (decide (a.Bad = b.Bad)) = true := not_f h25
        refine C_skip ?_
        refine x_then ?_
        refine C_seq ?_
        refine C_reg ?_
        refine p1 rfl ?_
        refine D_end ?_
        refine x_then ?_
        refine C_ret ?_
        refine R_1 rfl rfl fun w' hs => ⟨congrArg (fun z => Ending.returned (Value.bool z)) ?_, hs.bel⟩
        show (true : Bool) = decide (a = b)
        cases a; cases b; simp_all
end Go.Sy.Bel2
