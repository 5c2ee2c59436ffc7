/-
  Contracts of functions of the program, walked (printed by a program of ours).
  Conditions: those that each theorem states.
-/
import Derived.Test.YtamkdpknhaninaaEv1
import Derived.Test.YtamkdpknhaninaaFme
import Derived.Test.YtamkdpknhaninaaShelf
set_option linter.unusedVariables false
set_option maxRecDepth 20000
namespace Go.Sy.Fmt2
open Go Go.RowKit Go.Proofs Go.Sy
theorem mixed : Try.prog.follows .mixedOrders = true := by kernel_rfl
theorem b_70 : hasBody Try.prog 70 = true := by kernel_rfl
theorem s_22 : sliceTy Try.prog 22 = some (9, 1, 16) := by kernel_rfl
theorem o_9 : oneTy Try.prog 9 = true := by kernel_rfl
theorem a_29 : aggTy Try.prog 29 = some 2 := by kernel_rfl
theorem b_22 : hasBody Try.prog 22 = true := by kernel_rfl
theorem f_29_0 : fieldOff Try.prog 29 0 = some 0 := by kernel_rfl
theorem f_29_1 : fieldOff Try.prog 29 1 = some 1 := by kernel_rfl
theorem o_22 : oneTy Try.prog 22 = true := by kernel_rfl
theorem b_54 : hasBody Try.prog 54 = true := by kernel_rfl
theorem b_19 : hasBody Try.prog 19 = true := by kernel_rfl
theorem b_53 : hasBody Try.prog 53 = true := by kernel_rfl
theorem a_31 : aggTy Try.prog 31 = some 4 := by kernel_rfl
theorem b_9 : hasBody Try.prog 9 = true := by kernel_rfl
theorem f_31_2 : fieldOff Try.prog 31 2 = some 2 := by kernel_rfl
theorem b_26 : hasBody Try.prog 26 = true := by kernel_rfl
theorem f_31_0 : fieldOff Try.prog 31 0 = some 0 := by kernel_rfl
theorem o_3 : oneTy Try.prog 3 = true := by kernel_rfl
theorem f_31_1 : fieldOff Try.prog 31 1 = some 1 := by kernel_rfl
theorem b_7 : hasBody Try.prog 7 = true := by kernel_rfl
theorem b_25 : hasBody Try.prog 25 = true := by kernel_rfl
theorem a_26 : aggTy Try.prog 26 = some 4 := by kernel_rfl
theorem b_6 : hasBody Try.prog 6 = true := by kernel_rfl
theorem b_8 : hasBody Try.prog 8 = true := by kernel_rfl
theorem b_11 : hasBody Try.prog 11 = true := by kernel_rfl
theorem y_31 : zeroTy Try.prog 31 = some (.agg #[(.int .i64 0), (.string ⟨#[]⟩), (.string ⟨#[]⟩), (.slice none 0 0)]) := by kernel_rfl
theorem z_31 : sizeTy Try.prog 31 = some 4 := by kernel_rfl
theorem b_12 : hasBody Try.prog 12 = true := by kernel_rfl
theorem b_10 : hasBody Try.prog 10 = true := by kernel_rfl
open Go.Sy.Bel1 Go.Sy.Ev1
theorem strings_Join_c (w : World) (v_l : Value) (l : List ByteArray) (sep : ByteArray) (h_l : Gd.rd w [v_l] l) (hj : l.length ≤ 1048576 ∧ (joinB l sep).size ≤ 140737488355328) : Calls Try.prog 70 [v_l, Value.string sep].toArray w (Val w (.string (joinB l sep))) := by
  by_cases hp : 0 < l.length
  · obtain ⟨bk, o, c, rfl, h1, h2, h3⟩ := rd_texts h_l hp
    refine (Try.strings_Join bk o c l sep w h3 h2 (by omega) h1 ?_).mono fun e w' ⟨he, hb⟩ => ⟨he, hb⟩
    have := hj.2
    rw [bb_size] at this
    simpa [joinB] using this
  · have : l = [] := List.eq_nil_of_length_eq_zero (by omega)
    subst this
    obtain ⟨a, c, e, _⟩ := h_l
    simp only [List.cons.injEq, and_true] at e
    subst e
    exact (Try.strings_Join_none a c sep w).mono fun e w' ⟨he, hw⟩ => ⟨he, hw ▸ Ex.refl w⟩
theorem impl_Join (w : World) (v_l : Value) (l : (List ByteArray)) (sep : ByteArray) (h_l : Gd.rd w [v_l] l) (hj : l.length ≤ 1048576 ∧ (joinB l sep).size ≤ 140737488355328) : Calls Try.prog 54 [v_l, (.string sep)].toArray w (Val w (.string (joinB l sep))) := by
  have hm1 := rd_max h_l
  refine enter 8 Try.func54 rfl rfl rfl ?_
  refine C_seq ?_
  refine C_reg ?_
  refine p1 rfl ?_
  refine D_end ?_
  refine x_then ?_
  refine C_seq ?_
  refine C_reg ?_
  refine p1 rfl <| p1 rfl ?_
  refine li rfl (cv b_70 rfl rfl rfl rfl (fun w' hs => (strings_Join_c w' v_l l sep (rd_at hs h_l) (by first | assumption | omega | (unfold szm at *; split at * <;> omega)))) ?_)
  refine p1 rfl ?_
  refine D_end ?_
  refine x_then ?_
  refine C_ret ?_
  refine R_1 rfl rfl fun w' hs => ⟨congrArg (fun z => Ending.returned (Value.string z)) ?_, hs.bel⟩
  show ((joinB l sep) : ByteArray) = joinB l sep
  rfl

theorem spec_Join (w : World) (v_l : Value) (l : (List ByteArray)) (sep : ByteArray) (h_l : Gd.rd w [v_l] l) (hj : l.length ≤ 1048576 ∧ (l.map (·.size)).sum ≤ 1048576 ∧ sep.size ≤ 1048576) : Calls Try.prog 53 [v_l, (.string sep)].toArray w (Val w (.string (joinB l sep))) := by
  have hm1 := rd_max h_l
  refine enter 25 Try.func53 rfl rfl rfl ?_
  refine C_seq ?_
  refine C_reg ?_
  refine p1 rfl ?_
  refine D_end ?_
  refine x_then ?_
  refine C_seq ?_
  refine C_reg ?_
  refine p1 rfl ?_
  refine D_end ?_
  refine x_then ?_
  refine C_seq ?_
  refine C_seq ?_
  refine C_reg ?_
  refine p1 rfl ?_
  refine D_end ?_
  refine x_then ?_
  refine C_block ?_
  refine C_loop (fun m_ ac w' => ∃ (k : Nat), ∃ (s : ByteArray), (k ≤ l.length) ∧ (s = joinB (l.take k) sep) ∧ m_ = l.length - k ∧ Fits ac 25 [(0, v_l), (1, (.string sep)), (5, (.string s)), (6, (.int .i64 ((k : Nat) : Int)))] ∧ St w ([]) w') ?_ ?_
  · refine fun ac w' hf hs => ⟨_, 0, ⟨#[]⟩, ?_, ?_, rfl, hf.weak ⟨rfl, rfl, rfl, rfl, trivial⟩, hs⟩
    · first | assumption | omega | simp
    · rfl
  · rintro m_ ac w' ⟨k, s, hk, hsv, rfl, hf, hs⟩
    refine D.use ?_ hf hs
    clear hf hs ac w'
    have hz := joinT_sz l sep k
    rw [← hsv] at hz
    have hzk := sums_take_le l k
    have hzm : k * sep.size ≤ 1048576 * 1048576 := Nat.mul_le_mul (by omega) (by omega)
    refine C_seq ?_
    refine C_seq ?_
    refine C_reg ?_
    refine p1 rfl <| p1 rfl ?_
    refine q1 rfl (D_len s_22 rfl rfl (rd_sl h_l)) ?_
    refine p1 rfl ?_
    refine D_end ?_
    refine x_then ?_
    refine C_if _ rfl (fun h2 => ?_) (fun h2 => ?_)
    · have pr2 : (((k : Nat) : Int) : Int) < ((l.length : Nat) : Int) := of_decide_eq_true h2
      refine C_skip ?_
      refine x_then ?_
      refine C_seq ?_
      refine C_block ?_
      refine C_seq ?_
      refine C_seq ?_
      refine C_reg ?_
      refine p1 rfl <| p1 rfl ?_
      refine D_end ?_
      refine x_then ?_
      refine C_if _ rfl (fun h3 => ?_) (fun h3 => ?_)
      · have pr3 : (0 : Int) < ((k : Nat) : Int) := of_decide_eq_true h3
        refine C_reg ?_
        refine p1 rfl <| p1 rfl ?_
        refine q1 rfl (D_cat rfl rfl rfl (by first | omega | (simp only [ByteArray.size_append]; omega))) ?_
        refine p1 rfl ?_
        refine D_end ?_
        refine x_then ?_
        refine C_reg ?_
        refine p1 rfl <| p1 rfl <| p1 rfl ?_
        obtain ⟨x0, hx0⟩ := some_of_lt (l := l) (i := k) (by omega)
        have hxm := sums_mem (List.mem_of_getElem? hx0)
        obtain ⟨es4, at5, hr6⟩ := rd_elem (n := 1) rfl h_l hx0
        obtain rfl : es4 = [.string x0] := hr6
        refine q1 rfl (D_ix (l := l) (j := k) s_22 rfl rfl rfl (fun w' hs => (rd_at hs h_l)) rfl (lt_of_some hx0)) ?_
        refine q1 rfl (lr0 o_9 rfl rfl at5 rfl) ?_
        refine q1 rfl (D_cat rfl rfl rfl (by first | omega | (simp only [ByteArray.size_append]; omega))) ?_
        refine p1 rfl ?_
        refine D_end ?_
        refine x_blk ?_
        refine x_then ?_
        refine D_weak [(0, v_l), (1, (.string sep)), (5, (.string ((s ++ sep) ++ x0))), (6, (.int .i64 ((k : Nat) : Int)))] ⟨rfl, rfl, rfl, rfl, trivial⟩ ?_
        refine C_reg ?_
        refine p1 rfl ?_
        refine q1 rfl (D_add rfl rfl rfl (r := ((k + 1 : Nat) : Int)) (by omega) (by omega)) ?_
        refine p1 rfl ?_
        refine D_end ?_
        refine x_then ?_
        refine fun ac w' hf hs => ⟨_, ?_, k + 1, ((s ++ sep) ++ x0), ?_, ?_, rfl, hf.weak ⟨rfl, rfl, rfl, rfl, trivial⟩, hs⟩
        · omega
        · first | assumption | omega | simp
        · first | exact joinT_step (by omega) hx0 hsv | exact joinT_step0 (by omega) hx0 hsv
      · have pr3 : ¬ (0 : Int) < ((k : Nat) : Int) := of_decide_eq_false h3
        refine C_skip ?_
        refine x_then ?_
        refine C_reg ?_
        refine p1 rfl <| p1 rfl <| p1 rfl ?_
        obtain ⟨x0, hx0⟩ := some_of_lt (l := l) (i := k) (by omega)
        have hxm := sums_mem (List.mem_of_getElem? hx0)
        obtain ⟨es7, at8, hr9⟩ := rd_elem (n := 1) rfl h_l hx0
        obtain rfl : es7 = [.string x0] := hr9
        refine q1 rfl (D_ix (l := l) (j := k) s_22 rfl rfl rfl (fun w' hs => (rd_at hs h_l)) rfl (lt_of_some hx0)) ?_
        refine q1 rfl (lr0 o_9 rfl rfl at8 rfl) ?_
        refine q1 rfl (D_cat rfl rfl rfl (by first | omega | (simp only [ByteArray.size_append]; omega))) ?_
        refine p1 rfl ?_
        refine D_end ?_
        refine x_blk ?_
        refine x_then ?_
        refine C_reg ?_
        refine p1 rfl ?_
        refine q1 rfl (D_add rfl rfl rfl (r := ((k + 1 : Nat) : Int)) (by omega) (by omega)) ?_
        refine p1 rfl ?_
        refine D_end ?_
        refine x_then ?_
        refine fun ac w' hf hs => ⟨_, ?_, k + 1, (s ++ x0), ?_, ?_, rfl, hf.weak ⟨rfl, rfl, rfl, rfl, trivial⟩, hs⟩
        · omega
        · first | assumption | omega | simp
        · first | exact joinT_step (by omega) hx0 hsv | exact joinT_step0 (by omega) hx0 hsv
    · have pr2 : ¬ (((k : Nat) : Int) : Int) < ((l.length : Nat) : Int) := of_decide_eq_false h2
      refine C_exit ?_
      refine x_then_exit ?_
      refine x_then_exit ?_
      refine x_blk_eq ?_
      refine x_then ?_
      refine C_seq ?_
      refine C_reg ?_
      refine p1 rfl <| p1 rfl ?_
      refine D_end ?_
      refine x_then ?_
      refine C_ret ?_
      refine R_1 rfl rfl fun w' hs => ⟨congrArg (fun z => Ending.returned (Value.string z)) ?_, hs.bel⟩
      show (s : ByteArray) = joinB l sep
      rw [hsv, List.take_of_length_le (by omega)]

theorem impl_FormatFact (w : World) (c_f : List Value) (f : Fact) (h_f : Gd.rd w c_f f) : Calls Try.prog 26 [(.agg c_f.toArray)].toArray w (Val w (.string (fmtF f))) := by
  obtain ⟨u1, rfl, hu2⟩ := open_Fact h_f
  have hm3 := rd_max hu2
  have hc1 : (⟨#[40]⟩ : ByteArray).size = 1 := rfl
  have hc2 : (⟨#[41]⟩ : ByteArray).size = 1 := rfl
  have hc3 : (⟨#[44]⟩ : ByteArray).size = 1 := rfl
  refine enter 14 Try.func26 rfl rfl rfl ?_
  refine C_seq ?_
  refine C_reg ?_
  refine li rfl (D_box rfl rfl rfl rfl rfl fun g4 => ?_)
  refine p1 rfl ?_
  refine D_end ?_
  refine x_then ?_
  refine D_H ([bx g4 [(.string f.Rel), u1]]) rfl ?_
  refine C_seq ?_
  refine C_seq ?_
  refine C_reg ?_
  refine q1 rfl (lbw 0 a_29 rfl rfl rfl) ?_
  refine li rfl (cv b_22 rfl rfl rfl rfl (fun w' hs => (impl_IsFact w' [(.string f.Rel), u1] f (rd_at hs h_f))) ?_)
  refine p1 rfl ?_
  refine D_end ?_
  refine x_then ?_
  refine C_if _ rfl (fun h5 => ?_) (fun h5 => ?_)
  · have h5n : (isFactB f) = false := not_t h5
    refine C_seq ?_
    refine C_reg ?_
    refine p1 rfl ?_
    refine D_end ?_
    refine x_then ?_
    refine C_ret ?_
    refine x_then_ret ?_
    refine R_1 rfl rfl fun w' hs => ⟨congrArg (fun z => Ending.returned (Value.string z)) ?_, hs.bel⟩
    show (⟨#[]⟩ : ByteArray) = fmtF f
    exact fmtF_n h5n
  · have h5n : (isFactB f) = true := not_f h5
    refine C_skip ?_
    refine x_then ?_
    refine C_seq ?_
    have hfz := fact_sz (f := f) (by assumption)
    have hfs := fact_sum (f := f) (by assumption)
    refine C_draw mixed [] (by kernel_rfl) ?_
    refine tk 0 rfl (by kernel_rfl) (by kernel_rfl) (by kernel_rfl) rfl (fun _ hs => hs) (D_fb f_29_0 rfl rfl (q := 0) rfl) ?_
    refine tk 1 rfl (by kernel_rfl) (by kernel_rfl) (by kernel_rfl) rfl (fun _ hs => hs) (lb 0 o_9 rfl rfl rfl rfl) ?_
    refine tk 2 rfl (by kernel_rfl) (by kernel_rfl) (by kernel_rfl) rfl (fun _ hs => hs) (D_cat rfl rfl rfl (by first | omega | (simp only [ByteArray.size_append]; omega))) ?_
    refine tk 3 rfl (by kernel_rfl) (by kernel_rfl) (by kernel_rfl) rfl (fun _ hs => hs) (D_fb f_29_1 rfl rfl (q := 1) rfl) ?_
    refine tk 4 rfl (by kernel_rfl) (by kernel_rfl) (by kernel_rfl) rfl (fun _ hs => hs) (lb 0 o_22 rfl rfl rfl rfl) ?_
    refine ty 5 rfl (by kernel_rfl) rfl (cv b_54 rfl rfl rfl rfl (fun w' hs => (impl_Join w' u1 f.Args ⟨#[44]⟩ (rd_at hs hu2) (by omega))) ?_)
    refine tS (fun _ hs => hs) ?_
    refine tk 6 rfl (by kernel_rfl) (by kernel_rfl) (by kernel_rfl) rfl (fun _ hs => hs) (D_cat rfl rfl rfl (by first | omega | (simp only [ByteArray.size_append]; omega))) ?_
    refine tk 7 rfl (by kernel_rfl) (by kernel_rfl) (by kernel_rfl) rfl (fun _ hs => hs) (D_cat rfl rfl rfl (by first | omega | (simp only [ByteArray.size_append]; omega))) ?_
    refine tk 8 rfl (by kernel_rfl) (by kernel_rfl) (by kernel_rfl) rfl (fun _ hs => hs) (rp rfl) ?_
    refine tE (by kernel_rfl) ?_
    refine x_then ?_
    refine C_ret ?_
    refine R_1 rfl rfl fun w' hs => ⟨congrArg (fun z => Ending.returned (Value.string z)) ?_, hs.bel⟩
    show ((((f.Rel ++ ⟨#[40]⟩) ++ (joinB f.Args (⟨#[44]⟩))) ++ ⟨#[41]⟩) : ByteArray) = fmtF f
    exact fmtF_y (not_f (by assumption))

theorem spec_FormatFact (w : World) (c_f : List Value) (f : Fact) (h_f : Gd.rd w c_f f) (hf0 : okFa f) : Calls Try.prog 25 [(.agg c_f.toArray)].toArray w (Val w (.string (fmtF f))) := by
  obtain ⟨u1, rfl, hu2⟩ := open_Fact h_f
  have hm3 := rd_max hu2
  have hc1 : (⟨#[40]⟩ : ByteArray).size = 1 := rfl
  have hc2 : (⟨#[41]⟩ : ByteArray).size = 1 := rfl
  have hc3 : (⟨#[44]⟩ : ByteArray).size = 1 := rfl
  refine enter 14 Try.func25 rfl rfl rfl ?_
  refine C_seq ?_
  refine C_reg ?_
  refine li rfl (D_box rfl rfl rfl rfl rfl fun g4 => ?_)
  refine p1 rfl ?_
  refine D_end ?_
  refine x_then ?_
  refine D_H ([bx g4 [(.string f.Rel), u1]]) rfl ?_
  refine C_seq ?_
  refine C_seq ?_
  refine C_reg ?_
  refine q1 rfl (lbw 0 a_29 rfl rfl rfl) ?_
  refine li rfl (cv b_19 rfl rfl rfl rfl (fun w' hs => (spec_IsFact w' [(.string f.Rel), u1] f (rd_at hs h_f) hf0)) ?_)
  refine p1 rfl ?_
  refine D_end ?_
  refine x_then ?_
  refine C_if _ rfl (fun h5 => ?_) (fun h5 => ?_)
  · have h5n : (isFactB f) = false := not_t h5
    refine C_seq ?_
    refine C_reg ?_
    refine p1 rfl ?_
    refine D_end ?_
    refine x_then ?_
    refine C_ret ?_
    refine x_then_ret ?_
    refine R_1 rfl rfl fun w' hs => ⟨congrArg (fun z => Ending.returned (Value.string z)) ?_, hs.bel⟩
    show (⟨#[]⟩ : ByteArray) = fmtF f
    exact fmtF_n h5n
  · have h5n : (isFactB f) = true := not_f h5
    refine C_skip ?_
    refine x_then ?_
    refine C_seq ?_
    have hfz := fact_sz (f := f) (by assumption)
    have hfs := fact_sum (f := f) (by assumption)
    refine C_draw mixed [] (by kernel_rfl) ?_
    refine tk 0 rfl (by kernel_rfl) (by kernel_rfl) (by kernel_rfl) rfl (fun _ hs => hs) (D_fb f_29_0 rfl rfl (q := 0) rfl) ?_
    refine tk 1 rfl (by kernel_rfl) (by kernel_rfl) (by kernel_rfl) rfl (fun _ hs => hs) (lb 0 o_9 rfl rfl rfl rfl) ?_
    refine tk 2 rfl (by kernel_rfl) (by kernel_rfl) (by kernel_rfl) rfl (fun _ hs => hs) (D_cat rfl rfl rfl (by first | omega | (simp only [ByteArray.size_append]; omega))) ?_
    refine tk 3 rfl (by kernel_rfl) (by kernel_rfl) (by kernel_rfl) rfl (fun _ hs => hs) (D_fb f_29_1 rfl rfl (q := 1) rfl) ?_
    refine tk 4 rfl (by kernel_rfl) (by kernel_rfl) (by kernel_rfl) rfl (fun _ hs => hs) (lb 0 o_22 rfl rfl rfl rfl) ?_
    refine ty 5 rfl (by kernel_rfl) rfl (cv b_53 rfl rfl rfl rfl (fun w' hs => (spec_Join w' u1 f.Args ⟨#[44]⟩ (rd_at hs hu2) (by omega))) ?_)
    refine tS (fun _ hs => hs) ?_
    refine tk 6 rfl (by kernel_rfl) (by kernel_rfl) (by kernel_rfl) rfl (fun _ hs => hs) (D_cat rfl rfl rfl (by first | omega | (simp only [ByteArray.size_append]; omega))) ?_
    refine tk 7 rfl (by kernel_rfl) (by kernel_rfl) (by kernel_rfl) rfl (fun _ hs => hs) (D_cat rfl rfl rfl (by first | omega | (simp only [ByteArray.size_append]; omega))) ?_
    refine tk 8 rfl (by kernel_rfl) (by kernel_rfl) (by kernel_rfl) rfl (fun _ hs => hs) (rp rfl) ?_
    refine tE (by kernel_rfl) ?_
    refine x_then ?_
    refine C_ret ?_
    refine R_1 rfl rfl fun w' hs => ⟨congrArg (fun z => Ending.returned (Value.string z)) ?_, hs.bel⟩
    show ((((f.Rel ++ ⟨#[40]⟩) ++ (joinB f.Args (⟨#[44]⟩))) ++ ⟨#[41]⟩) : ByteArray) = fmtF f
    exact fmtF_y (not_f (by assumption))

theorem impl_FormatEvent (w : World) (c_x : List Value) (x : Event) (h_x : Gd.rd w c_x x) : Calls Try.prog 12 [(.agg c_x.toArray)].toArray w (Val w (.string (fmtE x))) := by
  obtain ⟨u1, rfl, hu2⟩ := open_Event h_x
  have hm3 := rd_max hu2
  have hb4 := sub_Event_Fact h_x
  have hc0 : (⟨#[112, 117, 116, 32]⟩ : ByteArray).size = 4 := rfl
  have hc1 : (⟨#[116, 97, 107, 101, 32]⟩ : ByteArray).size = 5 := rfl
  have hc2 : (⟨#[102, 105, 114, 101, 32]⟩ : ByteArray).size = 5 := rfl
  have hc3 : (⟨#[97, 100, 100, 32]⟩ : ByteArray).size = 4 := rfl
  have hc4 : (⟨#[100, 114, 111, 112, 32]⟩ : ByteArray).size = 5 := rfl
  have hc5 : (⟨#[32, 98, 121, 32]⟩ : ByteArray).size = 4 := rfl
  have hc6 : (⟨#[115, 116, 111, 112, 32, 98, 121, 32]⟩ : ByteArray).size = 8 := rfl
  have hff := fmtF_sz x.Fact
  refine enter 44 Try.func12 rfl rfl rfl ?_
  refine C_seq ?_
  refine C_reg ?_
  refine li rfl (D_box rfl rfl rfl rfl rfl fun g5 => ?_)
  refine p1 rfl ?_
  refine D_end ?_
  refine x_then ?_
  refine D_H ([bx g5 [(.int .i64 x.Kind), (.string x.Rule), (.string x.Fact.Rel), u1]]) rfl ?_
  refine C_seq ?_
  refine C_seq ?_
  refine C_reg ?_
  refine q1 rfl (lbw 0 a_31 rfl rfl rfl) ?_
  refine li rfl (cv b_9 rfl rfl rfl rfl (fun w' hs => (impl_IsEvent w' [(.int .i64 x.Kind), (.string x.Rule), (.string x.Fact.Rel), u1] x (rd_at hs h_x))) ?_)
  refine p1 rfl ?_
  refine D_end ?_
  refine x_then ?_
  refine C_if _ rfl (fun h6 => ?_) (fun h6 => ?_)
  · have h6n : (isEventB x) = false := not_t h6
    refine C_seq ?_
    refine C_reg ?_
    refine p1 rfl ?_
    refine D_end ?_
    refine x_then ?_
    refine C_ret ?_
    refine x_then_ret ?_
    refine R_1 rfl rfl fun w' hs => ⟨congrArg (fun z => Ending.returned (Value.string z)) ?_, hs.bel⟩
    show (⟨#[]⟩ : ByteArray) = fmtE x
    exact fe_n h6n
  · have h6n : (isEventB x) = true := not_f h6
    refine C_skip ?_
    refine x_then ?_
    refine C_seq ?_
    have hev : isEventB x = true := by assumption
    have her := ev_rule hev
    refine C_reg ?_
    refine q1 rfl (D_fb f_31_2 rfl rfl (q := 2) rfl) ?_
    refine q1 rfl (lba (es := [(.string x.Fact.Rel), u1]) 0 a_29 rfl rfl rfl rfl) ?_
    refine li rfl (cv b_26 rfl rfl rfl rfl (fun w' hs => (impl_FormatFact w' [(.string x.Fact.Rel), u1] x.Fact (rd_at hs hb4))) ?_)
    refine p1 rfl ?_
    refine D_end ?_
    refine x_then ?_
    refine C_seq ?_
    refine C_seq ?_
    refine C_reg ?_
    refine q1 rfl (D_fb f_31_0 rfl rfl (q := 0) rfl) ?_
    refine q1 rfl (lb 0 o_3 rfl rfl rfl rfl) ?_
    refine D_end ?_
    refine x_then ?_
    refine C_block ?_
    refine C_seq ?_
    refine C_reg ?_
    refine p1 rfl <| p1 rfl ?_
    refine D_end ?_
    refine x_then ?_
    refine C_if _ rfl (fun h7 => ?_) (fun h7 => ?_)
    · have pr7 : (x.Kind : Int) = 1 := eq_of_beq h7
      refine C_seq ?_
      refine C_reg ?_
      refine p1 rfl ?_
      refine q1 rfl (D_cat rfl rfl rfl (by first | omega | (simp only [ByteArray.size_append]; omega))) ?_
      refine p1 rfl ?_
      refine D_end ?_
      refine x_then ?_
      refine D_weak [(2, (.string (⟨#[112, 117, 116, 32]⟩ ++ (fmtF x.Fact))))] ⟨rfl, trivial⟩ ?_
      refine D_sel (H' := []) [false] rfl ?_
      refine C_ret ?_
      refine x_blk_ret ?_
      refine x_then_ret ?_
      refine R_1 rfl rfl fun w' hs => ⟨congrArg (fun z => Ending.returned (Value.string z)) ?_, hs.bel⟩
      show ((⟨#[112, 117, 116, 32]⟩ ++ (fmtF x.Fact)) : ByteArray) = fmtE x
      first | exact fe_1 hev (by omega) | exact fe_2 hev (by omega) | exact fe_3 hev (by omega) | exact fe_4 hev (by omega) | exact fe_5 hev (by omega) | exact fe_6 hev (by omega)
    · have pr7 : (x.Kind : Int) ≠ 1 := ne_of_beq_false h7
      refine C_seq ?_
      refine C_reg ?_
      refine p1 rfl <| p1 rfl ?_
      refine D_end ?_
      refine x_then ?_
      refine C_if _ rfl (fun h8 => ?_) (fun h8 => ?_)
      · have pr8 : (x.Kind : Int) = 2 := eq_of_beq h8
        refine C_seq ?_
        refine C_reg ?_
        refine p1 rfl ?_
        refine q1 rfl (D_cat rfl rfl rfl (by first | omega | (simp only [ByteArray.size_append]; omega))) ?_
        refine p1 rfl ?_
        refine D_end ?_
        refine x_then ?_
        refine D_weak [(2, (.string (⟨#[116, 97, 107, 101, 32]⟩ ++ (fmtF x.Fact))))] ⟨rfl, trivial⟩ ?_
        refine D_sel (H' := []) [false] rfl ?_
        refine C_ret ?_
        refine x_blk_ret ?_
        refine x_then_ret ?_
        refine R_1 rfl rfl fun w' hs => ⟨congrArg (fun z => Ending.returned (Value.string z)) ?_, hs.bel⟩
        show ((⟨#[116, 97, 107, 101, 32]⟩ ++ (fmtF x.Fact)) : ByteArray) = fmtE x
        first | exact fe_1 hev (by omega) | exact fe_2 hev (by omega) | exact fe_3 hev (by omega) | exact fe_4 hev (by omega) | exact fe_5 hev (by omega) | exact fe_6 hev (by omega)
      · have pr8 : (x.Kind : Int) ≠ 2 := ne_of_beq_false h8
        refine C_seq ?_
        refine C_reg ?_
        refine p1 rfl <| p1 rfl ?_
        refine D_end ?_
        refine x_then ?_
        refine C_if _ rfl (fun h9 => ?_) (fun h9 => ?_)
        · have pr9 : (x.Kind : Int) = 3 := eq_of_beq h9
          refine C_seq ?_
          refine C_reg ?_
          refine q1 rfl (D_fb f_31_1 rfl rfl (q := 1) rfl) ?_
          refine q1 rfl (lb 0 o_9 rfl rfl rfl rfl) ?_
          refine q1 rfl (D_cat rfl rfl rfl (by first | omega | (simp only [ByteArray.size_append]; omega))) ?_
          refine p1 rfl ?_
          refine D_end ?_
          refine x_then ?_
          refine D_weak [(2, (.string (⟨#[102, 105, 114, 101, 32]⟩ ++ x.Rule)))] ⟨rfl, trivial⟩ ?_
          refine D_sel (H' := []) [false] rfl ?_
          refine C_ret ?_
          refine x_blk_ret ?_
          refine x_then_ret ?_
          refine R_1 rfl rfl fun w' hs => ⟨congrArg (fun z => Ending.returned (Value.string z)) ?_, hs.bel⟩
          show ((⟨#[102, 105, 114, 101, 32]⟩ ++ x.Rule) : ByteArray) = fmtE x
          first | exact fe_1 hev (by omega) | exact fe_2 hev (by omega) | exact fe_3 hev (by omega) | exact fe_4 hev (by omega) | exact fe_5 hev (by omega) | exact fe_6 hev (by omega)
        · have pr9 : (x.Kind : Int) ≠ 3 := ne_of_beq_false h9
          refine C_seq ?_
          refine C_reg ?_
          refine p1 rfl <| p1 rfl ?_
          refine D_end ?_
          refine x_then ?_
          refine D_weak [(1, (.pointer (some ⟨g5, 0, none⟩))), (3, (.string (fmtF x.Fact))), (11, (.int .i64 x.Kind)), (25, (.bool ((x.Kind : Int) == 4)))] ⟨rfl, rfl, rfl, rfl, trivial⟩ ?_
          refine C_if _ rfl (fun h10 => ?_) (fun h10 => ?_)
          · have pr10 : (x.Kind : Int) = 4 := eq_of_beq h10
            refine C_seq ?_
            refine C_reg ?_
            refine p1 rfl ?_
            refine q1 rfl (D_cat rfl rfl rfl (by first | omega | (simp only [ByteArray.size_append]; omega))) ?_
            refine q1 rfl (D_cat rfl rfl rfl (by first | omega | (simp only [ByteArray.size_append]; omega))) ?_
            refine q1 rfl (D_fb f_31_1 rfl rfl (q := 1) rfl) ?_
            refine q1 rfl (lb 0 o_9 rfl rfl rfl rfl) ?_
            refine q1 rfl (D_cat rfl rfl rfl (by first | omega | (simp only [ByteArray.size_append]; omega))) ?_
            refine p1 rfl ?_
            refine D_end ?_
            refine x_then ?_
            refine C_ret ?_
            refine x_blk_ret ?_
            refine x_then_ret ?_
            refine R_1 rfl rfl fun w' hs => ⟨congrArg (fun z => Ending.returned (Value.string z)) ?_, hs.bel⟩
            show ((((⟨#[97, 100, 100, 32]⟩ ++ (fmtF x.Fact)) ++ ⟨#[32, 98, 121, 32]⟩) ++ x.Rule) : ByteArray) = fmtE x
            first | exact fe_1 hev (by omega) | exact fe_2 hev (by omega) | exact fe_3 hev (by omega) | exact fe_4 hev (by omega) | exact fe_5 hev (by omega) | exact fe_6 hev (by omega)
          · have pr10 : (x.Kind : Int) ≠ 4 := ne_of_beq_false h10
            refine C_seq ?_
            refine C_reg ?_
            refine p1 rfl <| p1 rfl ?_
            refine D_end ?_
            refine x_then ?_
            refine C_if _ rfl (fun h11 => ?_) (fun h11 => ?_)
            · have pr11 : (x.Kind : Int) = 5 := eq_of_beq h11
              refine C_seq ?_
              refine C_reg ?_
              refine p1 rfl ?_
              refine q1 rfl (D_cat rfl rfl rfl (by first | omega | (simp only [ByteArray.size_append]; omega))) ?_
              refine q1 rfl (D_cat rfl rfl rfl (by first | omega | (simp only [ByteArray.size_append]; omega))) ?_
              refine q1 rfl (D_fb f_31_1 rfl rfl (q := 1) rfl) ?_
              refine q1 rfl (lb 0 o_9 rfl rfl rfl rfl) ?_
              refine q1 rfl (D_cat rfl rfl rfl (by first | omega | (simp only [ByteArray.size_append]; omega))) ?_
              refine p1 rfl ?_
              refine D_end ?_
              refine x_then ?_
              refine C_ret ?_
              refine x_blk_ret ?_
              refine x_then_ret ?_
              refine R_1 rfl rfl fun w' hs => ⟨congrArg (fun z => Ending.returned (Value.string z)) ?_, hs.bel⟩
              show ((((⟨#[100, 114, 111, 112, 32]⟩ ++ (fmtF x.Fact)) ++ ⟨#[32, 98, 121, 32]⟩) ++ x.Rule) : ByteArray) = fmtE x
              first | exact fe_1 hev (by omega) | exact fe_2 hev (by omega) | exact fe_3 hev (by omega) | exact fe_4 hev (by omega) | exact fe_5 hev (by omega) | exact fe_6 hev (by omega)
            · have pr11 : (x.Kind : Int) ≠ 5 := ne_of_beq_false h11
              refine C_skip ?_
              refine x_blk ?_
              refine x_then ?_
              refine C_seq ?_
              refine C_reg ?_
              refine q1 rfl (D_fb f_31_1 rfl rfl (q := 1) rfl) ?_
              refine q1 rfl (lb 0 o_9 rfl rfl rfl rfl) ?_
              refine q1 rfl (D_cat rfl rfl rfl (by first | omega | (simp only [ByteArray.size_append]; omega))) ?_
              refine p1 rfl ?_
              refine D_end ?_
              refine x_then ?_
              refine C_ret ?_
              refine R_1 rfl rfl fun w' hs => ⟨congrArg (fun z => Ending.returned (Value.string z)) ?_, hs.bel⟩
              show ((⟨#[115, 116, 111, 112, 32, 98, 121, 32]⟩ ++ x.Rule) : ByteArray) = fmtE x
              first | exact fe_1 hev (by omega) | exact fe_2 hev (by omega) | exact fe_3 hev (by omega) | exact fe_4 hev (by omega) | exact fe_5 hev (by omega) | exact fe_6 hev (by omega)

theorem spec_FormatEvent (w : World) (c_x : List Value) (x : Event) (h_x : Gd.rd w c_x x) (hx0 : okEv x) : Calls Try.prog 11 [(.agg c_x.toArray)].toArray w (Val w (.string (fmtE x))) := by
  obtain ⟨u1, rfl, hu2⟩ := open_Event h_x
  have hm3 := rd_max hu2
  have hb4 := sub_Event_Fact h_x
  have hc0 : (⟨#[112, 117, 116, 32]⟩ : ByteArray).size = 4 := rfl
  have hc1 : (⟨#[116, 97, 107, 101, 32]⟩ : ByteArray).size = 5 := rfl
  have hc2 : (⟨#[102, 105, 114, 101, 32]⟩ : ByteArray).size = 5 := rfl
  have hc3 : (⟨#[97, 100, 100, 32]⟩ : ByteArray).size = 4 := rfl
  have hc4 : (⟨#[100, 114, 111, 112, 32]⟩ : ByteArray).size = 5 := rfl
  have hc5 : (⟨#[32, 98, 121, 32]⟩ : ByteArray).size = 4 := rfl
  have hc6 : (⟨#[115, 116, 111, 112, 32, 98, 121, 32]⟩ : ByteArray).size = 8 := rfl
  have hff := fmtF_sz x.Fact
  refine enter 48 Try.func11 rfl rfl rfl ?_
  refine C_seq ?_
  refine C_reg ?_
  refine li rfl (D_box rfl rfl rfl rfl rfl fun g5 => ?_)
  refine p1 rfl ?_
  refine D_end ?_
  refine x_then ?_
  refine D_H ([bx g5 [(.int .i64 x.Kind), (.string x.Rule), (.string x.Fact.Rel), u1]]) rfl ?_
  refine C_seq ?_
  refine C_seq ?_
  refine C_reg ?_
  refine q1 rfl (lbw 0 a_31 rfl rfl rfl) ?_
  refine li rfl (cv b_7 rfl rfl rfl rfl (fun w' hs => (spec_IsEvent w' [(.int .i64 x.Kind), (.string x.Rule), (.string x.Fact.Rel), u1] x (rd_at hs h_x) hx0)) ?_)
  refine p1 rfl ?_
  refine D_end ?_
  refine x_then ?_
  refine C_if _ rfl (fun h6 => ?_) (fun h6 => ?_)
  · have h6n : (isEventB x) = false := not_t h6
    refine C_seq ?_
    refine C_reg ?_
    refine p1 rfl ?_
    refine D_end ?_
    refine x_then ?_
    refine C_ret ?_
    refine x_then_ret ?_
    refine R_1 rfl rfl fun w' hs => ⟨congrArg (fun z => Ending.returned (Value.string z)) ?_, hs.bel⟩
    show (⟨#[]⟩ : ByteArray) = fmtE x
    exact fe_n h6n
  · have h6n : (isEventB x) = true := not_f h6
    refine C_skip ?_
    refine x_then ?_
    refine C_seq ?_
    refine C_seq ?_
    have hev : isEventB x = true := by assumption
    have her := ev_rule hev
    refine C_reg ?_
    refine q1 rfl (D_fb f_31_0 rfl rfl (q := 0) rfl) ?_
    refine q1 rfl (lb 0 o_3 rfl rfl rfl rfl) ?_
    refine D_end ?_
    refine x_then ?_
    refine C_block ?_
    refine C_seq ?_
    refine C_reg ?_
    refine p1 rfl <| p1 rfl ?_
    refine D_end ?_
    refine x_then ?_
    refine C_if _ rfl (fun h7 => ?_) (fun h7 => ?_)
    · have pr7 : (x.Kind : Int) = 1 := eq_of_beq h7
      refine C_seq ?_
      refine C_reg ?_
      refine q1 rfl (D_fb f_31_2 rfl rfl (q := 2) rfl) ?_
      refine q1 rfl (lba (es := [(.string x.Fact.Rel), u1]) 0 a_29 rfl rfl rfl rfl) ?_
      refine li rfl (cv b_25 rfl rfl rfl rfl (fun w' hs => (spec_FormatFact w' [(.string x.Fact.Rel), u1] x.Fact (rd_at hs hb4) hx0.2.2)) ?_)
      refine q1 rfl (D_cat rfl rfl rfl (by first | omega | (simp only [ByteArray.size_append]; omega))) ?_
      refine p1 rfl ?_
      refine D_end ?_
      refine x_then ?_
      refine C_ret ?_
      refine x_blk_ret ?_
      refine x_then_ret ?_
      refine R_1 rfl rfl fun w' hs => ⟨congrArg (fun z => Ending.returned (Value.string z)) ?_, hs.bel⟩
      show ((⟨#[112, 117, 116, 32]⟩ ++ (fmtF x.Fact)) : ByteArray) = fmtE x
      first | exact fe_1 hev (by omega) | exact fe_2 hev (by omega) | exact fe_3 hev (by omega) | exact fe_4 hev (by omega) | exact fe_5 hev (by omega) | exact fe_6 hev (by omega)
    · have pr7 : (x.Kind : Int) ≠ 1 := ne_of_beq_false h7
      refine C_seq ?_
      refine C_reg ?_
      refine p1 rfl <| p1 rfl ?_
      refine D_end ?_
      refine x_then ?_
      refine C_if _ rfl (fun h8 => ?_) (fun h8 => ?_)
      · have pr8 : (x.Kind : Int) = 2 := eq_of_beq h8
        refine C_seq ?_
        refine C_reg ?_
        refine q1 rfl (D_fb f_31_2 rfl rfl (q := 2) rfl) ?_
        refine q1 rfl (lba (es := [(.string x.Fact.Rel), u1]) 0 a_29 rfl rfl rfl rfl) ?_
        refine li rfl (cv b_25 rfl rfl rfl rfl (fun w' hs => (spec_FormatFact w' [(.string x.Fact.Rel), u1] x.Fact (rd_at hs hb4) hx0.2.2)) ?_)
        refine q1 rfl (D_cat rfl rfl rfl (by first | omega | (simp only [ByteArray.size_append]; omega))) ?_
        refine p1 rfl ?_
        refine D_end ?_
        refine x_then ?_
        refine D_weak [(2, (.string (⟨#[116, 97, 107, 101, 32]⟩ ++ (fmtF x.Fact))))] ⟨rfl, trivial⟩ ?_
        refine D_sel (H' := []) [false] rfl ?_
        refine C_ret ?_
        refine x_blk_ret ?_
        refine x_then_ret ?_
        refine R_1 rfl rfl fun w' hs => ⟨congrArg (fun z => Ending.returned (Value.string z)) ?_, hs.bel⟩
        show ((⟨#[116, 97, 107, 101, 32]⟩ ++ (fmtF x.Fact)) : ByteArray) = fmtE x
        first | exact fe_1 hev (by omega) | exact fe_2 hev (by omega) | exact fe_3 hev (by omega) | exact fe_4 hev (by omega) | exact fe_5 hev (by omega) | exact fe_6 hev (by omega)
      · have pr8 : (x.Kind : Int) ≠ 2 := ne_of_beq_false h8
        refine C_seq ?_
        refine C_reg ?_
        refine p1 rfl <| p1 rfl ?_
        refine D_end ?_
        refine x_then ?_
        refine C_if _ rfl (fun h9 => ?_) (fun h9 => ?_)
        · have pr9 : (x.Kind : Int) = 3 := eq_of_beq h9
          refine C_seq ?_
          refine C_reg ?_
          refine q1 rfl (D_fb f_31_1 rfl rfl (q := 1) rfl) ?_
          refine q1 rfl (lb 0 o_9 rfl rfl rfl rfl) ?_
          refine q1 rfl (D_cat rfl rfl rfl (by first | omega | (simp only [ByteArray.size_append]; omega))) ?_
          refine p1 rfl ?_
          refine D_end ?_
          refine x_then ?_
          refine D_weak [(2, (.string (⟨#[102, 105, 114, 101, 32]⟩ ++ x.Rule)))] ⟨rfl, trivial⟩ ?_
          refine D_sel (H' := []) [false] rfl ?_
          refine C_ret ?_
          refine x_blk_ret ?_
          refine x_then_ret ?_
          refine R_1 rfl rfl fun w' hs => ⟨congrArg (fun z => Ending.returned (Value.string z)) ?_, hs.bel⟩
          show ((⟨#[102, 105, 114, 101, 32]⟩ ++ x.Rule) : ByteArray) = fmtE x
          first | exact fe_1 hev (by omega) | exact fe_2 hev (by omega) | exact fe_3 hev (by omega) | exact fe_4 hev (by omega) | exact fe_5 hev (by omega) | exact fe_6 hev (by omega)
        · have pr9 : (x.Kind : Int) ≠ 3 := ne_of_beq_false h9
          refine C_seq ?_
          refine C_reg ?_
          refine p1 rfl <| p1 rfl ?_
          refine D_end ?_
          refine x_then ?_
          refine C_if _ rfl (fun h10 => ?_) (fun h10 => ?_)
          · have pr10 : (x.Kind : Int) = 4 := eq_of_beq h10
            refine C_seq ?_
            refine C_draw mixed [] (by kernel_rfl) ?_
            refine tk 0 rfl (by kernel_rfl) (by kernel_rfl) (by kernel_rfl) rfl (fun _ hs => hs) (D_fb f_31_2 rfl rfl (q := 2) rfl) ?_
            refine tk 1 rfl (by kernel_rfl) (by kernel_rfl) (by kernel_rfl) rfl (fun _ hs => hs) (lba (es := [(.string x.Fact.Rel), u1]) 0 a_29 rfl rfl rfl rfl) ?_
            refine tk 5 rfl (by kernel_rfl) (by kernel_rfl) (by kernel_rfl) rfl (fun _ hs => hs) (D_fb f_31_1 rfl rfl (q := 1) rfl) ?_
            refine tk 6 rfl (by kernel_rfl) (by kernel_rfl) (by kernel_rfl) rfl (fun _ hs => hs) (lb 0 o_9 rfl rfl rfl rfl) ?_
            refine ty 2 rfl (by kernel_rfl) rfl (cv b_25 rfl rfl rfl rfl (fun w' hs => (spec_FormatFact w' [(.string x.Fact.Rel), u1] x.Fact (rd_at hs hb4) hx0.2.2)) ?_)
            refine tS (fun _ hs => hs) ?_
            refine tk 3 rfl (by kernel_rfl) (by kernel_rfl) (by kernel_rfl) rfl (fun _ hs => hs) (D_cat rfl rfl rfl (by first | omega | (simp only [ByteArray.size_append]; omega))) ?_
            refine tk 4 rfl (by kernel_rfl) (by kernel_rfl) (by kernel_rfl) rfl (fun _ hs => hs) (D_cat rfl rfl rfl (by first | omega | (simp only [ByteArray.size_append]; omega))) ?_
            refine tk 7 rfl (by kernel_rfl) (by kernel_rfl) (by kernel_rfl) rfl (fun _ hs => hs) (D_cat rfl rfl rfl (by first | omega | (simp only [ByteArray.size_append]; omega))) ?_
            refine tk 8 rfl (by kernel_rfl) (by kernel_rfl) (by kernel_rfl) rfl (fun _ hs => hs) (rp rfl) ?_
            refine tE (by kernel_rfl) ?_
            refine x_then ?_
            refine D_weak [(2, (.string (((⟨#[97, 100, 100, 32]⟩ ++ (fmtF x.Fact)) ++ ⟨#[32, 98, 121, 32]⟩) ++ x.Rule)))] ⟨rfl, trivial⟩ ?_
            refine D_sel (H' := []) [false] rfl ?_
            refine C_ret ?_
            refine x_blk_ret ?_
            refine x_then_ret ?_
            refine R_1 rfl rfl fun w' hs => ⟨congrArg (fun z => Ending.returned (Value.string z)) ?_, hs.bel⟩
            show ((((⟨#[97, 100, 100, 32]⟩ ++ (fmtF x.Fact)) ++ ⟨#[32, 98, 121, 32]⟩) ++ x.Rule) : ByteArray) = fmtE x
            first | exact fe_1 hev (by omega) | exact fe_2 hev (by omega) | exact fe_3 hev (by omega) | exact fe_4 hev (by omega) | exact fe_5 hev (by omega) | exact fe_6 hev (by omega)
          · have pr10 : (x.Kind : Int) ≠ 4 := ne_of_beq_false h10
            refine C_seq ?_
            refine C_reg ?_
            refine p1 rfl <| p1 rfl ?_
            refine D_end ?_
            refine x_then ?_
            refine D_weak [(1, (.pointer (some ⟨g5, 0, none⟩))), (35, (.bool ((x.Kind : Int) == 5)))] ⟨rfl, rfl, trivial⟩ ?_
            refine C_if _ rfl (fun h11 => ?_) (fun h11 => ?_)
            · have pr11 : (x.Kind : Int) = 5 := eq_of_beq h11
              refine C_seq ?_
              refine C_draw mixed [] (by kernel_rfl) ?_
              refine tk 0 rfl (by kernel_rfl) (by kernel_rfl) (by kernel_rfl) rfl (fun _ hs => hs) (D_fb f_31_2 rfl rfl (q := 2) rfl) ?_
              refine tk 1 rfl (by kernel_rfl) (by kernel_rfl) (by kernel_rfl) rfl (fun _ hs => hs) (lba (es := [(.string x.Fact.Rel), u1]) 0 a_29 rfl rfl rfl rfl) ?_
              refine tk 5 rfl (by kernel_rfl) (by kernel_rfl) (by kernel_rfl) rfl (fun _ hs => hs) (D_fb f_31_1 rfl rfl (q := 1) rfl) ?_
              refine tk 6 rfl (by kernel_rfl) (by kernel_rfl) (by kernel_rfl) rfl (fun _ hs => hs) (lb 0 o_9 rfl rfl rfl rfl) ?_
              refine ty 2 rfl (by kernel_rfl) rfl (cv b_25 rfl rfl rfl rfl (fun w' hs => (spec_FormatFact w' [(.string x.Fact.Rel), u1] x.Fact (rd_at hs hb4) hx0.2.2)) ?_)
              refine tS (fun _ hs => hs) ?_
              refine tk 3 rfl (by kernel_rfl) (by kernel_rfl) (by kernel_rfl) rfl (fun _ hs => hs) (D_cat rfl rfl rfl (by first | omega | (simp only [ByteArray.size_append]; omega))) ?_
              refine tk 4 rfl (by kernel_rfl) (by kernel_rfl) (by kernel_rfl) rfl (fun _ hs => hs) (D_cat rfl rfl rfl (by first | omega | (simp only [ByteArray.size_append]; omega))) ?_
              refine tk 7 rfl (by kernel_rfl) (by kernel_rfl) (by kernel_rfl) rfl (fun _ hs => hs) (D_cat rfl rfl rfl (by first | omega | (simp only [ByteArray.size_append]; omega))) ?_
              refine tk 8 rfl (by kernel_rfl) (by kernel_rfl) (by kernel_rfl) rfl (fun _ hs => hs) (rp rfl) ?_
              refine tE (by kernel_rfl) ?_
              refine x_then ?_
              refine C_ret ?_
              refine x_blk_ret ?_
              refine x_then_ret ?_
              refine R_1 rfl rfl fun w' hs => ⟨congrArg (fun z => Ending.returned (Value.string z)) ?_, hs.bel⟩
              show ((((⟨#[100, 114, 111, 112, 32]⟩ ++ (fmtF x.Fact)) ++ ⟨#[32, 98, 121, 32]⟩) ++ x.Rule) : ByteArray) = fmtE x
              first | exact fe_1 hev (by omega) | exact fe_2 hev (by omega) | exact fe_3 hev (by omega) | exact fe_4 hev (by omega) | exact fe_5 hev (by omega) | exact fe_6 hev (by omega)
            · have pr11 : (x.Kind : Int) ≠ 5 := ne_of_beq_false h11
              refine C_skip ?_
              refine x_blk ?_
              refine x_then ?_
              refine C_seq ?_
              refine C_reg ?_
              refine q1 rfl (D_fb f_31_1 rfl rfl (q := 1) rfl) ?_
              refine q1 rfl (lb 0 o_9 rfl rfl rfl rfl) ?_
              refine q1 rfl (D_cat rfl rfl rfl (by first | omega | (simp only [ByteArray.size_append]; omega))) ?_
              refine p1 rfl ?_
              refine D_end ?_
              refine x_then ?_
              refine C_ret ?_
              refine R_1 rfl rfl fun w' hs => ⟨congrArg (fun z => Ending.returned (Value.string z)) ?_, hs.bel⟩
              show ((⟨#[115, 116, 111, 112, 32, 98, 121, 32]⟩ ++ x.Rule) : ByteArray) = fmtE x
              first | exact fe_1 hev (by omega) | exact fe_2 hev (by omega) | exact fe_3 hev (by omega) | exact fe_4 hev (by omega) | exact fe_5 hev (by omega) | exact fe_6 hev (by omega)

theorem laws_FnExactFormatEvent (w : World) (c_aX : List Value) (aX : Event) (h_aX : Gd.rd w c_aX aX) (hok : okEv aX) : Calls Try.prog 4 [(.agg c_aX.toArray)].toArray w (Val w (.bool (true))) := by
  obtain ⟨u1, rfl, hu2⟩ := open_Event h_aX
  have hm3 := rd_max hu2
  have hb4 := sub_Event_Fact h_aX
  refine enter 27 Try.func4 rfl rfl rfl ?_
  refine C_seq ?_
  refine C_reg ?_
  refine li rfl (D_box rfl rfl rfl rfl rfl fun g5 => ?_)
  refine p1 rfl ?_
  refine D_end ?_
  refine x_then ?_
  refine D_H ([bx g5 [(.int .i64 aX.Kind), (.string aX.Rule), (.string aX.Fact.Rel), u1]]) rfl ?_
  refine C_seq ?_
  refine C_reg ?_
  refine p1 rfl ?_
  refine D_end ?_
  refine x_then ?_
  refine C_seq ?_
  refine C_reg ?_
  refine q1 rfl (lbw 0 a_26 rfl rfl rfl) ?_
  refine p1 rfl ?_
  refine li rfl (cv b_6 rfl rfl rfl rfl (fun w' hs => (laws_szEvent w' [(.int .i64 aX.Kind), (.string aX.Rule), (.string aX.Fact.Rel), u1] aX 1048576 (rd_at hs h_aX) (by first | assumption | omega | (unfold szm at *; split at * <;> omega)) (by first | assumption | omega | (unfold szm at *; split at * <;> omega)) (by first | assumption | omega | (unfold szm at *; split at * <;> omega)))) ?_)
  refine p1 rfl ?_
  refine D_end ?_
  refine x_then ?_
  refine C_seq ?_
  refine C_seq ?_
  refine C_reg ?_
  refine p1 rfl <| p1 rfl ?_
  refine D_end ?_
  refine x_then ?_
  refine C_if _ rfl (fun h6 => ?_) (fun h6 => ?_)
  · have pr6 : ((szm (szEv aX) 1048576) : Int) < 0 := of_decide_eq_true h6
    refine C_seq ?_
    refine C_reg ?_
    refine p1 rfl ?_
    refine D_end ?_
    refine x_then ?_
    refine C_ret ?_
    refine x_then_ret ?_
    refine R_1 rfl rfl fun w' hs => ⟨congrArg (fun z => Ending.returned (Value.bool z)) ?_, hs.bel⟩
    show (true : Bool) = true
    first | rfl | (exfalso; omega) | (exfalso; simp only [mapS_len, sumB_mk, sumR_mk] at *; omega) | exact absurd h6 (by simp [mapS_len])
  · have pr6 : ¬ ((szm (szEv aX) 1048576) : Int) < 0 := of_decide_eq_false h6
    have pr6z := szm_val (n := (szEv aX)) (left := 1048576) pr6
    refine C_skip ?_
    refine x_then ?_
    refine C_seq ?_
    refine C_reg ?_
    refine q1 rfl (lbw 0 a_26 rfl rfl rfl) ?_
    refine li rfl (crs rfl b_8 rfl rfl rfl rfl (fun w' hs => (laws_toEvent w' [(.int .i64 aX.Kind), (.string aX.Rule), (.string aX.Fact.Rel), u1] aX (rd_at hs h_aX) (by first | assumption | omega | (unfold szm at *; split at * <;> omega)))) fun cs7 => ?_)
    refine D_pre (fun w' hs => shape_Event (rd_own (k := 0) hs rfl)) ?_
    rintro ⟨v8, rfl, ho9⟩
    refine li rfl (cv b_11 rfl rfl rfl rfl (fun w' hs => (spec_FormatEvent w' [(.int .i64 aX.Kind), (.string aX.Rule), (.string aX.Fact.Rel), v8] aX (rd_own (k := 0) hs rfl) (by first | assumption | omega | (unfold szm at *; split at * <;> omega)))) ?_)
    refine p1 rfl ?_
    refine D_end ?_
    refine x_then ?_
    refine D_H ([ov [(.int .i64 aX.Kind), (.string aX.Rule), (.string aX.Fact.Rel), v8] (aX : Event), bx g5 [(.int .i64 aX.Kind), (.string aX.Rule), (.string aX.Fact.Rel), u1]]) rfl ?_
    refine C_seq ?_
    refine C_reg ?_
    refine q1 rfl (lbw 1 a_26 rfl rfl rfl) ?_
    refine li rfl (crs rfl b_8 rfl rfl rfl rfl (fun w' hs => (laws_toEvent w' [(.int .i64 aX.Kind), (.string aX.Rule), (.string aX.Fact.Rel), u1] aX (rd_at hs h_aX) (by first | assumption | omega | (unfold szm at *; split at * <;> omega)))) fun cs10 => ?_)
    refine D_pre (fun w' hs => shape_Event (rd_own (k := 0) hs rfl)) ?_
    rintro ⟨v11, rfl, ho12⟩
    refine li rfl (D_alloc y_31 rfl rfl rfl rfl fun g13 => ?_)
    refine li rfl (D_stb (vs := [(.int .i64 aX.Kind), (.string aX.Rule), (.string aX.Fact.Rel), v11]) (cs' := [(.int .i64 aX.Kind), (.string aX.Rule), (.string aX.Fact.Rel), v11]) 0 z_31 rfl rfl rfl rfl rfl rfl (ocons rfl (ocons rfl (ocons rfl (ocons ho12 onil)))) (by simp) rfl ?_)
    refine D_end ?_
    refine x_then ?_
    refine D_H ([bx g13 [(.int .i64 aX.Kind), (.string aX.Rule), (.string aX.Fact.Rel), v11], ov [(.int .i64 aX.Kind), (.string aX.Rule), (.string aX.Fact.Rel), v11] (aX : Event), ov [(.int .i64 aX.Kind), (.string aX.Rule), (.string aX.Fact.Rel), v8] (aX : Event), bx g5 [(.int .i64 aX.Kind), (.string aX.Rule), (.string aX.Fact.Rel), u1]]) rfl ?_
    refine C_seq ?_
    refine C_reg ?_
    refine q1 rfl (lbw 0 a_31 rfl rfl rfl) ?_
    refine li rfl (cv b_12 rfl rfl rfl rfl (fun w' hs => (impl_FormatEvent w' [(.int .i64 aX.Kind), (.string aX.Rule), (.string aX.Fact.Rel), v11] aX (rd_own (k := 1) hs rfl))) ?_)
    refine p1 rfl ?_
    refine D_end ?_
    refine x_then ?_
    refine D_weak [(1, (.pointer (some ⟨g5, 0, none⟩))), (4, (.string (fmtE aX))), (5, (.pointer (some ⟨g13, 0, none⟩))), (6, (.string (fmtE aX)))] ⟨rfl, rfl, rfl, rfl, trivial⟩ ?_
    refine D_sel (H' := [bx g13 [(.int .i64 aX.Kind), (.string aX.Rule), (.string aX.Fact.Rel), v11], ov [(.int .i64 aX.Kind), (.string aX.Rule), (.string aX.Fact.Rel), v11] (aX : Event), bx g5 [(.int .i64 aX.Kind), (.string aX.Rule), (.string aX.Fact.Rel), u1]]) [true, true, false, true] rfl ?_
    refine C_seq ?_
    refine C_seq ?_
    refine C_reg ?_
    refine p1 rfl <| p1 rfl ?_
    refine q1 rfl (D_neS rfl rfl rfl) ?_
    refine D_end ?_
    refine x_then ?_
    refine C_if _ rfl (fun h14 => ?_) (fun h14 => ?_)
    · have pr14 : ¬ ((fmtE aX) : ByteArray) = (fmtE aX) := of_decide_eq_false (not_t h14)
      refine C_seq ?_
      refine C_reg ?_
      refine p1 rfl ?_
      refine D_end ?_
      refine x_then ?_
      refine C_ret ?_
      refine x_then_ret ?_
      refine R_1 rfl rfl fun w' hs => ⟨congrArg (fun z => Ending.returned (Value.bool z)) ?_, hs.bel⟩
      show (false : Bool) = true
      first | rfl | (exfalso; omega) | (exfalso; simp only [mapS_len, sumB_mk, sumR_mk] at *; omega) | exact absurd h14 (by simp [mapS_len])
    · have pr14 : ((fmtE aX) : ByteArray) = (fmtE aX) := of_decide_eq_true (not_f h14)
      refine C_skip ?_
      refine x_then ?_
      refine C_seq ?_
      refine C_seq ?_
      refine C_draw mixed [3, 4] (by kernel_rfl) ?_
      refine tk 0 rfl (by kernel_rfl) (by kernel_rfl) (by kernel_rfl) rfl (fun _ hs => hs) (lbw 0 a_31 rfl rfl rfl) ?_
      refine tk 1 rfl (by kernel_rfl) (by kernel_rfl) (by kernel_rfl) rfl (fun _ hs => hs) (lbw 2 a_26 rfl rfl rfl) ?_
      refine ty 2 rfl (by kernel_rfl) rfl (crs rfl b_8 rfl rfl rfl rfl (fun w' hs => (laws_toEvent w' [(.int .i64 aX.Kind), (.string aX.Rule), (.string aX.Fact.Rel), u1] aX (rd_at hs h_aX) (by first | assumption | omega | (unfold szm at *; split at * <;> omega)))) fun cs15 => ?_)
      refine D_pre (fun w' hs => shape_Event (rd_own (k := 0) hs rfl)) ?_
      rintro ⟨v16, rfl, ho17⟩
      refine tS (fun _ hs => hs.pk [1, 2, 3] rfl rfl) ?_
      refine ty 3 rfl (by kernel_rfl) rfl (cv b_10 rfl rfl rfl rfl (fun w' hs => (laws_eqEvent w' [(.int .i64 aX.Kind), (.string aX.Rule), (.string aX.Fact.Rel), v11] aX [(.int .i64 aX.Kind), (.string aX.Rule), (.string aX.Fact.Rel), v16] aX (rd_own (k := 2) hs rfl) (rd_own (k := 0) hs rfl))) ?_)
      refine tZ rfl ?_
      refine ty 4 rfl (by kernel_rfl) rfl (sv rfl rfl (rp rfl) ?_)
      refine tZ rfl ?_
      refine tE (by kernel_rfl) ?_
      refine x_then ?_
      refine D_H ([ov [(.int .i64 aX.Kind), (.string aX.Rule), (.string aX.Fact.Rel), v16] (aX : Event), bx g13 [(.int .i64 aX.Kind), (.string aX.Rule), (.string aX.Fact.Rel), v11], ov [(.int .i64 aX.Kind), (.string aX.Rule), (.string aX.Fact.Rel), v11] (aX : Event), bx g5 [(.int .i64 aX.Kind), (.string aX.Rule), (.string aX.Fact.Rel), u1]]) rfl ?_
      refine C_if _ rfl (fun h18 => ?_) (fun h18 => ?_)
      · have h18n : (decide (aX = aX)) = false := not_t h18
        refine C_seq ?_
        refine C_reg ?_
        refine p1 rfl ?_
        refine D_end ?_
        refine x_then ?_
        refine C_ret ?_
        refine x_then_ret ?_
        refine R_1 rfl rfl fun w' hs => ⟨congrArg (fun z => Ending.returned (Value.bool z)) ?_, hs.bel⟩
        show (false : Bool) = true
        first | rfl | (exfalso; omega) | (exfalso; simp only [mapS_len, sumB_mk, sumR_mk] at *; omega) | exact absurd h18 (by simp [mapS_len])
      · have h18n : (decide (aX = aX)) = true := not_f h18
        refine C_skip ?_
        refine x_then ?_
        refine C_seq ?_
        refine C_reg ?_
        refine p1 rfl ?_
        refine D_end ?_
        refine x_then ?_
        refine C_ret ?_
        refine R_1 rfl rfl fun w' hs => ⟨congrArg (fun z => Ending.returned (Value.bool z)) ?_, hs.bel⟩
        show (true : Bool) = true
        first | rfl | (exfalso; omega) | (exfalso; simp only [mapS_len, sumB_mk, sumR_mk] at *; omega) | exact absurd h18 (by simp [mapS_len])
end Go.Sy.Fmt2
