/-
  Contracts of functions of the program, walked (printed by a program of ours).
  Conditions: those that each theorem states.
-/
import Derived.Test.YtfpjllklccfliaaBeld
import Derived.Test.YtfpjllklccfliaaPrem
import Derived.Test.YtfpjllklccfliaaClo
set_option linter.unusedVariables false
set_option maxRecDepth 20000
namespace Go.Sy.Belf
open Go Go.RowKit Go.Proofs Go.Sy
theorem mixed : Try.prog.follows .mixedOrders = true := by kernel_rfl
theorem f_34_2 : fieldOff Try.prog 34 2 = some 3 := by kernel_rfl
theorem o_25 : oneTy Try.prog 25 = true := by kernel_rfl
theorem a_34 : aggTy Try.prog 34 = some 4 := by kernel_rfl
theorem b_44 : hasBody Try.prog 44 = true := by kernel_rfl
theorem b_43 : hasBody Try.prog 43 = true := by kernel_rfl
theorem f_34_1 : fieldOff Try.prog 34 1 = some 2 := by kernel_rfl
theorem s_25 : sliceTy Try.prog 25 = some (3, 1, 8) := by kernel_rfl
theorem y_3 : zeroTy Try.prog 3 = some (.int .i64 0) := by kernel_rfl
theorem b_40 : hasBody Try.prog 40 = true := by kernel_rfl
theorem b_42 : hasBody Try.prog 42 = true := by kernel_rfl
theorem b_41 : hasBody Try.prog 41 = true := by kernel_rfl
theorem o_3 : oneTy Try.prog 3 = true := by kernel_rfl
theorem b_45 : hasBody Try.prog 45 = true := by kernel_rfl
theorem b_37 : hasBody Try.prog 37 = true := by kernel_rfl
theorem b_38 : hasBody Try.prog 38 = true := by kernel_rfl
theorem b_39 : hasBody Try.prog 39 = true := by kernel_rfl
theorem a_27 : aggTy Try.prog 27 = some 4 := by kernel_rfl
theorem b_9 : hasBody Try.prog 9 = true := by kernel_rfl
theorem b_11 : hasBody Try.prog 11 = true := by kernel_rfl
theorem b_10 : hasBody Try.prog 10 = true := by kernel_rfl
theorem y_34 : zeroTy Try.prog 34 = some (.agg #[(.int .i64 0), (.slice none 0 0), (.slice none 0 0), (.slice none 0 0)]) := by kernel_rfl
theorem z_34 : sizeTy Try.prog 34 = some 4 := by kernel_rfl
theorem b_12 : hasBody Try.prog 12 = true := by kernel_rfl
theorem b_13 : hasBody Try.prog 13 = true := by kernel_rfl
theorem b_14 : hasBody Try.prog 14 = true := by kernel_rfl
theorem b_15 : hasBody Try.prog 15 = true := by kernel_rfl
theorem b_16 : hasBody Try.prog 16 = true := by kernel_rfl
theorem b_17 : hasBody Try.prog 17 = true := by kernel_rfl
open Go.Sy.Bel1 Go.Sy.Bel2 Go.Sy.Bel3 Go.Sy.Bel4 Go.Sy.Bel5 Go.Sy.Bel6 Go.Sy.Bel7 Go.Sy.Bel8 Go.Sy.Bel9 Go.Sy.Bela Go.Sy.Belb Go.Sy.Belc Go.Sy.Beld
theorem impl_IsPart (w : World) (a : Int) (b : Int) : Calls Try.prog 45 [(.int .i64 a), (.int .i64 b)].toArray w (Val w (.bool (isPartB a b))) := by
  refine enter 18 Try.func45 rfl rfl rfl ?_
  refine C_seq ?_
  refine C_reg ?_
  refine p1 rfl ?_
  refine D_end ?_
  refine x_then ?_
  refine C_seq ?_
  refine C_reg ?_
  refine p1 rfl <| p1 rfl <| p1 rfl ?_
  refine gs 7 rfl rfl (fun h1 => ?_) (fun h1 => ?_)
  · have pr1 : (0 : Int) ≤ a := of_decide_eq_true h1
    refine p1 rfl <| p1 rfl <| p1 rfl <| p1 rfl ?_
    refine gs 11 rfl rfl (fun h2 => ?_) (fun h2 => ?_)
    · have pr2 : (0 : Int) ≤ b := of_decide_eq_true h2
      refine p1 rfl <| p1 rfl ?_
      refine q1 rfl (D_and rfl rfl rfl) ?_
      refine p1 rfl <| p1 rfl <| p1 rfl <| p1 rfl ?_
      refine D_end ?_
      refine x_then ?_
      refine D_weak [(4, (.bool (((andZ a b) : Int) == a)))] ⟨rfl, trivial⟩ ?_
      refine C_ret ?_
      refine R_1 rfl rfl fun w' hs => ⟨congrArg (fun z => Ending.returned (Value.bool z)) ?_, hs.bel⟩
      show ((((andZ a b) : Int) == a) : Bool) = isPartB a b
      unfold isPartB; simp_all; try (intros; omega)
    · have pr2 : ¬ (0 : Int) ≤ b := of_decide_eq_false h2
      refine n1 rfl ?_
      refine n1 rfl ?_
      refine n1 rfl ?_
      refine n1 rfl ?_
      refine n1 rfl ?_
      refine p1 rfl <| p1 rfl ?_
      refine D_end ?_
      refine x_then ?_
      refine D_weak [(4, (.bool false))] ⟨rfl, trivial⟩ ?_
      refine C_ret ?_
      refine R_1 rfl rfl fun w' hs => ⟨congrArg (fun z => Ending.returned (Value.bool z)) ?_, hs.bel⟩
      show (false : Bool) = isPartB a b
      unfold isPartB; simp_all; try (intros; omega)
  · have pr1 : ¬ (0 : Int) ≤ a := of_decide_eq_false h1
    refine n1 rfl ?_
    refine n1 rfl ?_
    refine p1 rfl <| p1 rfl ?_
    refine n1 rfl ?_
    refine n1 rfl ?_
    refine n1 rfl ?_
    refine n1 rfl ?_
    refine n1 rfl ?_
    refine p1 rfl <| p1 rfl ?_
    refine D_end ?_
    refine x_then ?_
    refine D_weak [(4, (.bool false))] ⟨rfl, trivial⟩ ?_
    refine C_ret ?_
    refine R_1 rfl rfl fun w' hs => ⟨congrArg (fun z => Ending.returned (Value.bool z)) ?_, hs.bel⟩
    show (false : Bool) = isPartB a b
    unfold isPartB; simp_all; try (intros; omega)

theorem spec_IsPart (w : World) (a : Int) (b : Int) : Calls Try.prog 39 [(.int .i64 a), (.int .i64 b)].toArray w (Val w (.bool (isPartB a b))) := by
  refine enter 18 Try.func39 rfl rfl rfl ?_
  refine C_seq ?_
  refine C_reg ?_
  refine p1 rfl ?_
  refine D_end ?_
  refine x_then ?_
  refine C_seq ?_
  refine C_reg ?_
  refine p1 rfl <| p1 rfl <| p1 rfl ?_
  refine gs 7 rfl rfl (fun h1 => ?_) (fun h1 => ?_)
  · have pr1 : (0 : Int) ≤ a := of_decide_eq_true h1
    refine p1 rfl <| p1 rfl <| p1 rfl <| p1 rfl ?_
    refine gs 11 rfl rfl (fun h2 => ?_) (fun h2 => ?_)
    · have pr2 : (0 : Int) ≤ b := of_decide_eq_true h2
      refine p1 rfl <| p1 rfl ?_
      refine q1 rfl (D_and rfl rfl rfl) ?_
      refine p1 rfl <| p1 rfl <| p1 rfl <| p1 rfl ?_
      refine D_end ?_
      refine x_then ?_
      refine D_weak [(4, (.bool (((andZ a b) : Int) == a)))] ⟨rfl, trivial⟩ ?_
      refine C_ret ?_
      refine R_1 rfl rfl fun w' hs => ⟨congrArg (fun z => Ending.returned (Value.bool z)) ?_, hs.bel⟩
      show ((((andZ a b) : Int) == a) : Bool) = isPartB a b
      unfold isPartB; simp_all; try (intros; omega)
    · have pr2 : ¬ (0 : Int) ≤ b := of_decide_eq_false h2
      refine n1 rfl ?_
      refine n1 rfl ?_
      refine n1 rfl ?_
      refine n1 rfl ?_
      refine n1 rfl ?_
      refine p1 rfl <| p1 rfl ?_
      refine D_end ?_
      refine x_then ?_
      refine D_weak [(4, (.bool false))] ⟨rfl, trivial⟩ ?_
      refine C_ret ?_
      refine R_1 rfl rfl fun w' hs => ⟨congrArg (fun z => Ending.returned (Value.bool z)) ?_, hs.bel⟩
      show (false : Bool) = isPartB a b
      unfold isPartB; simp_all; try (intros; omega)
  · have pr1 : ¬ (0 : Int) ≤ a := of_decide_eq_false h1
    refine n1 rfl ?_
    refine n1 rfl ?_
    refine p1 rfl <| p1 rfl ?_
    refine n1 rfl ?_
    refine n1 rfl ?_
    refine n1 rfl ?_
    refine n1 rfl ?_
    refine n1 rfl ?_
    refine p1 rfl <| p1 rfl ?_
    refine D_end ?_
    refine x_then ?_
    refine D_weak [(4, (.bool false))] ⟨rfl, trivial⟩ ?_
    refine C_ret ?_
    refine R_1 rfl rfl fun w' hs => ⟨congrArg (fun z => Ending.returned (Value.bool z)) ?_, hs.bel⟩
    show (false : Bool) = isPartB a b
    unfold isPartB; simp_all; try (intros; omega)

theorem impl_GreatestSets_1 (w : World) (set : Int) (p_f : Addr) (c_f : List Value) (f : Frame) (a_f : AtE w p_f c_f) (h_f : Gd.rd w c_f f) (hfr : isFrame f = true) : Calls Try.prog 42 [(.int .i64 set), (.pointer (some p_f))].toArray w (Val w (.bool (consB f set))) := by
  obtain ⟨u1, u3, u5, rfl, hu2, hu4, hu6⟩ := open_Frame h_f
  have hm7 := rd_max hu2
  have hm8 := rd_max hu4
  have hm9 := rd_max hu6
  have hb10 := sub_Frame_Beliefs h_f
  refine enter 10 Try.func42 rfl rfl rfl ?_
  refine C_seq ?_
  refine C_reg ?_
  refine p1 rfl ?_
  refine D_end ?_
  refine x_then ?_
  refine C_seq ?_
  refine C_draw mixed [5, 6] (by kernel_rfl) ?_
  refine tk 0 rfl (by kernel_rfl) (by kernel_rfl) (by kernel_rfl) rfl (fun _ hs => hs) (D_fa f_34_2 rfl rfl) ?_
  refine tk 1 rfl (by kernel_rfl) (by kernel_rfl) (by kernel_rfl) rfl (fun _ hs => hs) (lr o_25 rfl rfl a_f rfl) ?_
  refine tk 2 rfl (by kernel_rfl) (by kernel_rfl) (by kernel_rfl) rfl (fun _ hs => hs) (lra a_34 rfl rfl a_f) ?_
  refine tk 3 rfl (by kernel_rfl) (by kernel_rfl) (by kernel_rfl) rfl (fun _ hs => hs) (rp rfl) ?_
  refine ty 4 rfl (by kernel_rfl) rfl (crl b_44 rfl rfl rfl rfl (fun w' hs => (impl_under w' [(.int .i64 f.Beliefs.Nodes), u1, u3, u5] f set (rd_at hs h_f) (by first | assumption | omega | (unfold szm at *; split at * <;> omega)))) fun v11 => ?_)
  refine tS (fun _ hs => hs.pk [] rfl rfl) ?_
  refine ty 5 rfl (by kernel_rfl) rfl (cv b_43 rfl rfl rfl rfl (fun w' hs => (impl_noneIn w' u5 f.Bad v11 (unds f set) (rd_at hs hu6) (rd_own (k := 0) hs rfl) (unds_asc hfr (frame_bad hfr)))) ?_)
  refine tZ rfl ?_
  refine ty 6 rfl (by kernel_rfl) rfl (sv rfl rfl (rp rfl) ?_)
  refine tZ rfl ?_
  refine tE (by kernel_rfl) ?_
  refine x_then ?_
  refine D_H ([ov [v11] (unds f set : (List Bool))]) rfl ?_
  refine C_ret ?_
  refine R_1 rfl rfl fun w' hs => ⟨congrArg (fun z => Ending.returned (Value.bool z)) ?_, hs.bel⟩
  show ((f.Bad.all (lO (unds f set))) : Bool) = consB f set
  rfl

theorem impl_setsWith (w : World) (c_f : List Value) (f : Frame) (kf : Nat) (kc : List Value) (pk : Int → Bool) (h_f : Gd.rd w c_f f) (hkb : hasBody Try.prog kf = true) (hkc : ∀ w' (z : Nat), Ex w w' → (z : Int) < shlZ 1 f.Assumed.length → Calls Try.prog kf ([Value.int .i64 (z : Int)] ++ kc).toArray w' (Val w' (.bool (pk (z : Int))))) (hal : f.Assumed.length ≤ 8) : Calls Try.prog 41 [(.agg c_f.toArray), (.func (.func kf) #[] kc.toArray)].toArray w (Res w (fidZ pk (shlZ 1 f.Assumed.length).toNat : List Int)) := by
  obtain ⟨u1, u3, u5, rfl, hu2, hu4, hu6⟩ := open_Frame h_f
  have hm7 := rd_max hu2
  have hm8 := rd_max hu4
  have hm9 := rd_max hu6
  have hb10 := sub_Frame_Beliefs h_f
  have hsh := shl_rng hal
  refine enter 23 Try.func41 rfl rfl rfl ?_
  refine C_seq ?_
  refine C_reg ?_
  refine li rfl (D_box rfl rfl rfl rfl rfl fun g11 => ?_)
  refine p1 rfl ?_
  refine D_end ?_
  refine x_then ?_
  refine D_H ([bx g11 [(.int .i64 f.Beliefs.Nodes), u1, u3, u5]]) rfl ?_
  refine C_seq ?_
  refine C_reg ?_
  refine p1 rfl ?_
  refine D_end ?_
  refine x_then ?_
  refine C_seq ?_
  refine C_seq ?_
  refine C_reg ?_
  refine q1 rfl (D_fb f_34_1 rfl rfl (q := 2) rfl) ?_
  refine q1 rfl (lb 0 o_25 rfl rfl rfl rfl) ?_
  refine q1 rfl (D_len s_25 rfl rfl (rd_sl hu4)) ?_
  refine q1 rfl (D_shl (k := f.Assumed.length) rfl rfl rfl) ?_
  refine p1 rfl ?_
  refine D_end ?_
  refine x_then ?_
  refine C_block ?_
  refine C_loop (fun m_ ac w' => ∃ (k : Nat), ∃ (v : Value), ((k : Int) ≤ shlZ 1 f.Assumed.length) ∧ m_ = (shlZ 1 f.Assumed.length - k).toNat ∧ Fits ac 23 [(1, (.func (.func kf) #[] kc.toArray)), (5, v), (10, (.int .i64 (shlZ 1 f.Assumed.length))), (11, (.int .i64 ((k : Nat) : Int)))] ∧ St w ([ov [v] (fidZ pk k : (List Int)), bx g11 [(.int .i64 f.Beliefs.Nodes), u1, u3, u5]]) w') ?_ ?_
  · refine D_nil (α := Int) ?_
    refine D_eq 0 rfl (show ([] : (List Int)) = fidZ pk 0 from by rfl) ?_
    refine fun ac w' hf hs => ⟨_, 0, (.slice none 0 0), ?_, rfl, hf.weak ⟨rfl, rfl, rfl, rfl, trivial⟩, hs⟩
    · first | assumption | omega | simp
  · rintro m_ ac w' ⟨k, v, hk, rfl, hf, hs⟩
    refine D.use ?_ hf hs
    clear hf hs ac w'
    have hcl := fidZ_len pk k
    refine C_seq ?_
    refine C_reg ?_
    refine p1 rfl ?_
    refine D_end ?_
    refine x_then ?_
    refine D_H ([ov [v] (fidZ pk k : (List Int)), bx g11 [(.int .i64 f.Beliefs.Nodes), u1, u3, u5]]) rfl ?_
    refine C_seq ?_
    refine C_if _ rfl (fun h12 => ?_) (fun h12 => ?_)
    · have pr12 : (((k : Nat) : Int) : Int) < (shlZ 1 f.Assumed.length) := of_decide_eq_true h12
      refine C_skip ?_
      refine x_then ?_
      refine C_seq ?_
      refine C_block ?_
      refine C_seq ?_
      refine C_reg ?_
      refine p1 rfl <| p1 rfl ?_
      refine D_end ?_
      refine x_then ?_
      refine C_seq ?_
      refine C_reg ?_
      refine p1 rfl <| p1 rfl ?_
      refine li rfl (cvf hkb rfl rfl rfl rfl rfl (fun w' hs => hkc w' k hs.bel (by omega)) ?_)
      refine D_end ?_
      refine x_then ?_
      refine C_if _ rfl (fun h13 => ?_) (fun h13 => ?_)
      · refine C_reg ?_
        refine p1 rfl <| p1 rfl ?_
        refine li rfl (D_bs s_25 y_3 rfl (by decide) (by decide) rfl rfl rfl rfl rfl rfl fun g14 => ?_)
        refine D_fi ((k : Nat) : Int) ?_
        refine D_pk (H' := [ov [v] (fidZ pk k : (List Int)), ov [(.int .i64 ((k : Nat) : Int))] (((k : Nat) : Int) : Int), bx g14 [(.int .i64 ((k : Nat) : Int))], bx g11 [(.int .i64 f.Beliefs.Nodes), u1, u3, u5]]) [2, 0, 1, 3] rfl rfl ?_
        refine li rfl (D_ap s_25 y_3 rfl (by decide) rfl rfl rfl rfl rfl rfl (by first | omega | (simp; omega)) (by first | omega | (simp; omega)) fun v15 => ?_)
        refine p1 rfl ?_
        refine D_end ?_
        refine x_blk ?_
        refine x_then ?_
        refine D_H ([ov [v15] ((fidZ pk k) ++ [((k : Nat) : Int)] : (List Int)), bx g11 [(.int .i64 f.Beliefs.Nodes), u1, u3, u5]]) rfl ?_
        refine C_reg ?_
        refine q1 rfl (D_add rfl rfl rfl (r := ((k + 1 : Nat) : Int)) (by omega) (by omega)) ?_
        refine p1 rfl ?_
        refine D_end ?_
        refine x_then ?_
        refine D_eq 0 rfl (show ((fidZ pk k) ++ [((k : Nat) : Int)] : (List Int)) = fidZ pk (k + 1) from by first | exact fidZ_t h13 | exact fidZ_f h13) ?_
        refine fun ac w' hf hs => ⟨_, ?_, k + 1, v15, ?_, rfl, hf.weak ⟨rfl, rfl, rfl, rfl, trivial⟩, hs⟩
        · omega
        · first | assumption | omega | simp
      · refine C_skip ?_
        refine x_blk ?_
        refine x_then ?_
        refine C_reg ?_
        refine q1 rfl (D_add rfl rfl rfl (r := ((k + 1 : Nat) : Int)) (by omega) (by omega)) ?_
        refine p1 rfl ?_
        refine D_end ?_
        refine x_then ?_
        refine D_eq 0 rfl (show (fidZ pk k : (List Int)) = fidZ pk (k + 1) from by first | exact fidZ_t h13 | exact fidZ_f h13) ?_
        refine fun ac w' hf hs => ⟨_, ?_, k + 1, v, ?_, rfl, hf.weak ⟨rfl, rfl, rfl, rfl, trivial⟩, hs⟩
        · omega
        · first | assumption | omega | simp
    · have pr12 : ¬ (((k : Nat) : Int) : Int) < (shlZ 1 f.Assumed.length) := of_decide_eq_false h12
      refine C_exit ?_
      refine x_then_exit ?_
      refine x_then_exit ?_
      refine x_blk_eq ?_
      refine x_then ?_
      refine C_seq ?_
      refine C_reg ?_
      refine p1 rfl <| p1 rfl ?_
      refine D_end ?_
      refine x_then ?_
      refine C_ret ?_
      refine R_1 rfl rfl fun w' hs => res_of (k := 0) hs rfl ?_
      show fidZ pk k = fidZ pk (shlZ 1 f.Assumed.length).toNat
      rw [show k = (shlZ 1 f.Assumed.length).toNat by omega]

set_option maxHeartbeats 4000000 in
theorem impl_GreatestSets (w : World) (c_f : List Value) (f : Frame) (h_f : Gd.rd w c_f f) : Calls Try.prog 12 [(.agg c_f.toArray)].toArray w (Res w (greatS f : List Int)) := by
  obtain ⟨u1, u3, u5, rfl, hu2, hu4, hu6⟩ := open_Frame h_f
  have hm7 := rd_max hu2
  have hm8 := rd_max hu4
  have hm9 := rd_max hu6
  have hb10 := sub_Frame_Beliefs h_f
  refine enter 48 Try.func12 rfl rfl rfl ?_
  refine C_seq ?_
  refine C_reg ?_
  refine li rfl (D_box rfl rfl rfl rfl rfl fun g11 => ?_)
  refine p1 rfl ?_
  refine D_end ?_
  refine x_then ?_
  refine D_H ([bx g11 [(.int .i64 f.Beliefs.Nodes), u1, u3, u5]]) rfl ?_
  refine C_seq ?_
  refine C_seq ?_
  refine C_reg ?_
  refine q1 rfl (lbw 0 a_34 rfl rfl rfl) ?_
  refine li rfl (cv b_40 rfl rfl rfl rfl (fun w' hs => (impl_IsFrame w' [(.int .i64 f.Beliefs.Nodes), u1, u3, u5] f (rd_at hs h_f))) ?_)
  refine p1 rfl ?_
  refine D_end ?_
  refine x_then ?_
  refine C_if _ rfl (fun h12 => ?_) (fun h12 => ?_)
  · have h12n : (isFrame f) = false := not_t h12
    refine C_seq ?_
    refine C_reg ?_
    refine p1 rfl ?_
    refine D_end ?_
    refine x_then ?_
    refine C_ret ?_
    refine x_then_ret ?_
    refine D_nil (α := Int) ?_
    refine R_1 rfl rfl fun w' hs => res_of (k := 0) hs rfl ?_
    show [] = greatS f
    exact greatS_f h12n
  · have h12n : (isFrame f) = true := not_f h12
    refine C_skip ?_
    refine x_then ?_
    refine C_seq ?_
    have hfr : isFrame f = true := by assumption
    have hal := frame_al hfr
    have hasl := allS_len f
    refine C_reg ?_
    refine q1 rfl (lbw 0 a_34 rfl rfl rfl) ?_
    refine q1 rfl (D_mf rfl rfl) ?_
    refine li rfl (crl b_41 rfl rfl rfl rfl (fun w' hs => (impl_setsWith w' [(.int .i64 f.Beliefs.Nodes), u1, u3, u5] f 42 [(.pointer (some ⟨g11, 0, none⟩))] (fun z_ => consB f z_) (rd_at hs h_f) b_42 (fun w'' z hx hz => impl_GreatestSets_1 w'' (z : Int) ⟨g11, 0, none⟩ [(.int .i64 f.Beliefs.Nodes), u1, u3, u5] f ((bx_at (k := 0) hs rfl).ext hx) (Gd.rd_ext hx (rd_at hs h_f)) (by first | assumption | omega)) (by first | assumption | omega | (unfold szm at *; split at * <;> omega)))) fun v13 => ?_)
    refine D_eq 0 rfl (show (fidZ (fun z_ => consB f z_) (shlZ 1 f.Assumed.length).toNat : (List Int)) = allS f from allS_eq hfr) ?_
    refine p1 rfl ?_
    refine D_end ?_
    refine x_then ?_
    refine D_H ([ov [v13] (allS f : (List Int)), bx g11 [(.int .i64 f.Beliefs.Nodes), u1, u3, u5]]) rfl ?_
    refine C_seq ?_
    refine C_reg ?_
    refine p1 rfl ?_
    refine D_end ?_
    refine x_then ?_
    refine C_seq ?_
    refine C_seq ?_
    refine C_reg ?_
    refine p1 rfl ?_
    refine q1 rfl (D_leno 0 s_25 rfl rfl rfl) ?_
    refine p1 rfl ?_
    refine D_end ?_
    refine x_then ?_
    refine C_block ?_
    refine C_loop (fun m_ ac w' => ∃ (k : Nat), ∃ (v : Value), (k ≤ (allS f).length) ∧ m_ = (allS f).length - k ∧ Fits ac 48 [(3, v13), (4, v), (16, v13), (17, (.int .i64 (((allS f).length : Nat) : Int))), (18, (.int .i64 ((k : Nat) : Int)))] ∧ St w ([ov [v] (filtT (grB (allS f)) (allS f) k : (List Int)), ov [v13] (allS f : (List Int)), bx g11 [(.int .i64 f.Beliefs.Nodes), u1, u3, u5]]) w') ?_ ?_
    · refine D_nil (α := Int) ?_
      refine D_eq 0 rfl (show ([] : (List Int)) = filtT (grB (allS f)) (allS f) 0 from by rfl) ?_
      refine fun ac w' hf hs => ⟨_, 0, (.slice none 0 0), ?_, rfl, hf.weak ⟨rfl, rfl, rfl, rfl, rfl, trivial⟩, hs⟩
      · first | assumption | omega | simp
    · rintro m_ ac w' ⟨k, v, hk, rfl, hf, hs⟩
      refine D.use ?_ hf hs
      clear hf hs ac w'
      have hcl := filtT_len (grB (allS f)) (allS f) k
      refine C_seq ?_
      refine C_reg ?_
      refine p1 rfl ?_
      refine D_end ?_
      refine x_then ?_
      refine D_H ([ov [v] (filtT (grB (allS f)) (allS f) k : (List Int)), ov [v13] (allS f : (List Int)), bx g11 [(.int .i64 f.Beliefs.Nodes), u1, u3, u5]]) rfl ?_
      refine C_seq ?_
      refine C_if _ rfl (fun h14 => ?_) (fun h14 => ?_)
      · have pr14 : (((k : Nat) : Int) : Int) < (((allS f).length : Nat) : Int) := of_decide_eq_true h14
        refine C_skip ?_
        refine x_then ?_
        refine C_seq ?_
        refine C_block ?_
        refine C_seq ?_
        refine C_reg ?_
        obtain ⟨s0, hs0⟩ := some_of_lt (l := (allS f)) (i := k) (by omega)
        refine q1 rfl (D_ix (l := (allS f)) (j := k) s_25 rfl rfl rfl (fun w' hs => (rd_own (k := 1) hs rfl)) rfl (lt_of_some hs0)) ?_
        refine q1 rfl (lo (α := Int) 1 o_3 rfl rfl rfl hs0) ?_
        refine p1 rfl ?_
        refine D_end ?_
        refine x_then ?_
        refine C_seq ?_
        refine C_reg ?_
        refine p1 rfl ?_
        refine D_end ?_
        refine x_then ?_
        refine C_seq ?_
        refine C_seq ?_
        refine C_reg ?_
        refine p1 rfl ?_
        refine q1 rfl (D_leno 1 s_25 rfl rfl rfl) ?_
        refine p1 rfl ?_
        refine D_end ?_
        refine x_then ?_
        refine C_block ?_
        refine C_loop (fun m_ ac w' => ∃ (q : Nat), ∃ (great : Bool), (q ≤ (allS f).length) ∧ (great = grT (allS f) s0 q) ∧ m_ = (allS f).length - q ∧ Fits ac 48 [(3, v13), (4, v), (6, (.int .i64 s0)), (7, (.bool great)), (16, v13), (17, (.int .i64 (((allS f).length : Nat) : Int))), (18, (.int .i64 ((k : Nat) : Int))), (22, v13), (23, (.int .i64 (((allS f).length : Nat) : Int))), (24, (.int .i64 ((q : Nat) : Int)))] ∧ St w ([ov [v] (filtT (grB (allS f)) (allS f) k : (List Int)), ov [v13] (allS f : (List Int)), bx g11 [(.int .i64 f.Beliefs.Nodes), u1, u3, u5]]) w') ?_ ?_
        · refine D_nil (α := Int) ?_
          refine fun ac w' hf hs => ⟨_, 0, true, ?_, ?_, rfl, hf.weak ⟨rfl, rfl, rfl, rfl, rfl, rfl, rfl, rfl, rfl, rfl, trivial⟩, hs.pk [1, 2, 3] rfl rfl⟩
          · first | assumption | omega | simp
          · rfl
        · rintro m_ ac w' ⟨q, great, hq, hgr, rfl, hf, hs⟩
          refine D.use ?_ hf hs
          clear hf hs ac w'
          refine C_seq ?_
          refine C_reg ?_
          refine p1 rfl ?_
          refine D_end ?_
          refine x_then ?_
          refine C_seq ?_
          refine C_if _ rfl (fun h15 => ?_) (fun h15 => ?_)
          · have pr15 : (((q : Nat) : Int) : Int) < (((allS f).length : Nat) : Int) := of_decide_eq_true h15
            refine C_skip ?_
            refine x_then ?_
            refine C_seq ?_
            refine C_block ?_
            refine C_seq ?_
            refine C_reg ?_
            obtain ⟨t0, ht0⟩ := some_of_lt (l := (allS f)) (i := q) (by omega)
            refine q1 rfl (D_ix (l := (allS f)) (j := q) s_25 rfl rfl rfl (fun w' hs => (rd_own (k := 1) hs rfl)) rfl (lt_of_some ht0)) ?_
            refine q1 rfl (lo (α := Int) 1 o_3 rfl rfl rfl ht0) ?_
            refine p1 rfl ?_
            refine D_end ?_
            refine x_then ?_
            refine C_reg ?_
            refine p1 rfl <| p1 rfl ?_
            refine gs 29 rfl rfl (fun h16 => ?_) (fun h16 => ?_)
            · refine p1 rfl <| p1 rfl <| p1 rfl <| p1 rfl ?_
              refine gs 33 rfl rfl (fun h17 => ?_) (fun h17 => ?_)
              · have pr17 : (t0 : Int) = s0 := eq_of_beq h17
                refine n1 rfl ?_
                refine n1 rfl ?_
                refine n1 rfl ?_
                refine n1 rfl ?_
                refine p1 rfl <| p1 rfl <| p1 rfl ?_
                refine D_end ?_
                refine x_blk ?_
                refine x_then ?_
                refine D_weak [(3, v13), (4, v), (6, (.int .i64 s0)), (7, (.bool true)), (16, v13), (17, (.int .i64 (((allS f).length : Nat) : Int))), (18, (.int .i64 ((k : Nat) : Int))), (22, v13), (23, (.int .i64 (((allS f).length : Nat) : Int))), (24, (.int .i64 ((q : Nat) : Int)))] ⟨rfl, rfl, rfl, rfl, rfl, rfl, rfl, rfl, rfl, rfl, trivial⟩ ?_
                refine C_reg ?_
                refine q1 rfl (D_add rfl rfl rfl (r := ((q + 1 : Nat) : Int)) (by omega) (by omega)) ?_
                refine p1 rfl ?_
                refine D_end ?_
                refine x_then ?_
                refine fun ac w' hf hs => ⟨_, ?_, q + 1, true, ?_, ?_, rfl, hf.weak ⟨rfl, rfl, rfl, rfl, rfl, rfl, rfl, rfl, rfl, rfl, trivial⟩, hs⟩
                · omega
                · first | assumption | omega | simp
                · first | (refine grT_step ht0 ?_; rw [← hgr, show great = true by assumption]; unfold grOne; first | (rw [show (t0 == s0) = true by assumption]; rfl) | (rw [show (t0 == s0) = false by assumption]; rfl)) | (obtain ⟨t0, ht0⟩ := some_of_lt (l := allS f) (i := q) (by omega); refine grT_step ht0 ?_; rw [← hgr, show great = false by assumption]; rfl)
              · have pr17 : (t0 : Int) ≠ s0 := ne_of_beq_false h17
                refine p1 rfl <| p1 rfl ?_
                refine li rfl (cv b_45 rfl rfl rfl rfl (fun w' hs => (impl_IsPart w' s0 t0)) ?_)
                refine p1 rfl <| p1 rfl <| p1 rfl <| p1 rfl ?_
                refine D_end ?_
                refine x_blk ?_
                refine x_then ?_
                refine D_weak [(3, v13), (4, v), (6, (.int .i64 s0)), (7, (.bool (!(isPartB s0 t0)))), (16, v13), (17, (.int .i64 (((allS f).length : Nat) : Int))), (18, (.int .i64 ((k : Nat) : Int))), (22, v13), (23, (.int .i64 (((allS f).length : Nat) : Int))), (24, (.int .i64 ((q : Nat) : Int)))] ⟨rfl, rfl, rfl, rfl, rfl, rfl, rfl, rfl, rfl, rfl, trivial⟩ ?_
                refine C_reg ?_
                refine q1 rfl (D_add rfl rfl rfl (r := ((q + 1 : Nat) : Int)) (by omega) (by omega)) ?_
                refine p1 rfl ?_
                refine D_end ?_
                refine x_then ?_
                refine fun ac w' hf hs => ⟨_, ?_, q + 1, (!(isPartB s0 t0)), ?_, ?_, rfl, hf.weak ⟨rfl, rfl, rfl, rfl, rfl, rfl, rfl, rfl, rfl, rfl, trivial⟩, hs⟩
                · omega
                · first | assumption | omega | simp
                · first | (refine grT_step ht0 ?_; rw [← hgr, show great = true by assumption]; unfold grOne; first | (rw [show (t0 == s0) = true by assumption]; rfl) | (rw [show (t0 == s0) = false by assumption]; rfl)) | (obtain ⟨t0, ht0⟩ := some_of_lt (l := allS f) (i := q) (by omega); refine grT_step ht0 ?_; rw [← hgr, show great = false by assumption]; rfl)
            · refine n1 rfl ?_
              refine n1 rfl ?_
              refine n1 rfl ?_
              refine n1 rfl ?_
              refine n1 rfl ?_
              refine n1 rfl ?_
              refine n1 rfl ?_
              refine n1 rfl ?_
              refine n1 rfl ?_
              refine p1 rfl <| p1 rfl ?_
              refine D_end ?_
              refine x_blk ?_
              refine x_then ?_
              refine D_weak [(3, v13), (4, v), (6, (.int .i64 s0)), (7, (.bool false)), (16, v13), (17, (.int .i64 (((allS f).length : Nat) : Int))), (18, (.int .i64 ((k : Nat) : Int))), (22, v13), (23, (.int .i64 (((allS f).length : Nat) : Int))), (24, (.int .i64 ((q : Nat) : Int)))] ⟨rfl, rfl, rfl, rfl, rfl, rfl, rfl, rfl, rfl, rfl, trivial⟩ ?_
              refine C_reg ?_
              refine q1 rfl (D_add rfl rfl rfl (r := ((q + 1 : Nat) : Int)) (by omega) (by omega)) ?_
              refine p1 rfl ?_
              refine D_end ?_
              refine x_then ?_
              refine fun ac w' hf hs => ⟨_, ?_, q + 1, false, ?_, ?_, rfl, hf.weak ⟨rfl, rfl, rfl, rfl, rfl, rfl, rfl, rfl, rfl, rfl, trivial⟩, hs⟩
              · omega
              · first | assumption | omega | simp
              · first | (refine grT_step ht0 ?_; rw [← hgr, show great = true by assumption]; unfold grOne; first | (rw [show (t0 == s0) = true by assumption]; rfl) | (rw [show (t0 == s0) = false by assumption]; rfl)) | (obtain ⟨t0, ht0⟩ := some_of_lt (l := allS f) (i := q) (by omega); refine grT_step ht0 ?_; rw [← hgr, show great = false by assumption]; rfl)
          · have pr15 : ¬ (((q : Nat) : Int) : Int) < (((allS f).length : Nat) : Int) := of_decide_eq_false h15
            refine C_exit ?_
            refine x_then_exit ?_
            refine x_then_exit ?_
            refine x_blk_eq ?_
            refine x_then ?_
            refine C_seq ?_
            refine C_reg ?_
            refine p1 rfl ?_
            refine D_end ?_
            refine x_then ?_
            refine C_if _ rfl (fun h18 => ?_) (fun h18 => ?_)
            · refine C_reg ?_
              refine p1 rfl <| p1 rfl ?_
              refine li rfl (D_bs s_25 y_3 rfl (by decide) (by decide) rfl rfl rfl rfl rfl rfl fun g19 => ?_)
              refine D_fi s0 ?_
              refine D_pk (H' := [ov [v] (filtT (grB (allS f)) (allS f) k : (List Int)), ov [(.int .i64 s0)] (s0 : Int), bx g19 [(.int .i64 s0)], ov [v13] (allS f : (List Int)), bx g11 [(.int .i64 f.Beliefs.Nodes), u1, u3, u5]]) [2, 0, 1, 3, 4] rfl rfl ?_
              refine li rfl (D_ap s_25 y_3 rfl (by decide) rfl rfl rfl rfl rfl rfl (by first | omega | (simp; omega)) (by first | omega | (simp; omega)) fun v20 => ?_)
              refine p1 rfl ?_
              refine D_end ?_
              refine x_blk ?_
              refine x_then ?_
              refine D_H ([ov [v20] ((filtT (grB (allS f)) (allS f) k) ++ [s0] : (List Int)), ov [v13] (allS f : (List Int)), bx g11 [(.int .i64 f.Beliefs.Nodes), u1, u3, u5]]) rfl ?_
              refine C_reg ?_
              refine q1 rfl (D_add rfl rfl rfl (r := ((k + 1 : Nat) : Int)) (by omega) (by omega)) ?_
              refine p1 rfl ?_
              refine D_end ?_
              refine x_then ?_
              refine D_eq 0 rfl (show ((filtT (grB (allS f)) (allS f) k) ++ [s0] : (List Int)) = filtT (grB (allS f)) (allS f) (k + 1) from by first | exact filtT_t hs0 ((grT_done (by omega)).symm.trans (hgr.symm.trans (by assumption))) | exact filtT_f hs0 ((grT_done (by omega)).symm.trans (hgr.symm.trans (by assumption)))) ?_
              refine fun ac w' hf hs => ⟨_, ?_, k + 1, v20, ?_, rfl, hf.weak ⟨rfl, rfl, rfl, rfl, rfl, trivial⟩, hs⟩
              · omega
              · first | assumption | omega | simp
            · refine C_skip ?_
              refine x_blk ?_
              refine x_then ?_
              refine C_reg ?_
              refine q1 rfl (D_add rfl rfl rfl (r := ((k + 1 : Nat) : Int)) (by omega) (by omega)) ?_
              refine p1 rfl ?_
              refine D_end ?_
              refine x_then ?_
              refine D_eq 0 rfl (show (filtT (grB (allS f)) (allS f) k : (List Int)) = filtT (grB (allS f)) (allS f) (k + 1) from by first | exact filtT_t hs0 ((grT_done (by omega)).symm.trans (hgr.symm.trans (by assumption))) | exact filtT_f hs0 ((grT_done (by omega)).symm.trans (hgr.symm.trans (by assumption)))) ?_
              refine fun ac w' hf hs => ⟨_, ?_, k + 1, v, ?_, rfl, hf.weak ⟨rfl, rfl, rfl, rfl, rfl, trivial⟩, hs⟩
              · omega
              · first | assumption | omega | simp
      · have pr14 : ¬ (((k : Nat) : Int) : Int) < (((allS f).length : Nat) : Int) := of_decide_eq_false h14
        refine C_exit ?_
        refine x_then_exit ?_
        refine x_then_exit ?_
        refine x_blk_eq ?_
        refine x_then ?_
        refine C_seq ?_
        refine C_reg ?_
        refine p1 rfl <| p1 rfl ?_
        refine D_end ?_
        refine x_then ?_
        refine C_ret ?_
        refine R_1 rfl rfl fun w' hs => res_of (k := 0) hs rfl ?_
        show filtT (grB (allS f)) (allS f) k = greatS f
        exact filtT_done (by omega)

set_option maxHeartbeats 4000000 in
theorem spec_GreatestSets (w : World) (c_f : List Value) (f : Frame) (h_f : Gd.rd w c_f f) : Calls Try.prog 10 [(.agg c_f.toArray)].toArray w (Res w (greatS f : List Int)) := by
  obtain ⟨u1, u3, u5, rfl, hu2, hu4, hu6⟩ := open_Frame h_f
  have hm7 := rd_max hu2
  have hm8 := rd_max hu4
  have hm9 := rd_max hu6
  have hb10 := sub_Frame_Beliefs h_f
  refine enter 68 Try.func10 rfl rfl rfl ?_
  refine C_seq ?_
  refine C_reg ?_
  refine li rfl (D_box rfl rfl rfl rfl rfl fun g11 => ?_)
  refine p1 rfl ?_
  refine D_end ?_
  refine x_then ?_
  refine D_H ([bx g11 [(.int .i64 f.Beliefs.Nodes), u1, u3, u5]]) rfl ?_
  refine C_seq ?_
  refine C_reg ?_
  refine li rfl (D_bs0 (α := Int) s_25 rfl rfl rfl fun v12 => ?_)
  refine p1 rfl ?_
  refine D_end ?_
  refine x_then ?_
  refine D_H ([ov [v12] ([] : (List Int)), bx g11 [(.int .i64 f.Beliefs.Nodes), u1, u3, u5]]) rfl ?_
  refine C_seq ?_
  refine C_seq ?_
  refine C_reg ?_
  refine p1 rfl ?_
  refine D_end ?_
  refine x_then ?_
  refine C_block ?_
  refine C_loop (fun m_ ac w' => ∃ (k : Nat), ∃ (v : Value), (k ≤ setN f) ∧ m_ = setN f - k ∧ Fits ac 68 [(1, (.pointer (some ⟨g11, 0, none⟩))), (3, v), (4, (.int .i64 ((k : Nat) : Int)))] ∧ St w ([ov [v] (fidZ (isCons f) k : (List Int)), bx g11 [(.int .i64 f.Beliefs.Nodes), u1, u3, u5]]) w') ?_ ?_
  · refine D_eq 0 rfl (show ([] : (List Int)) = fidZ (isCons f) 0 from by rfl) ?_
    refine fun ac w' hf hs => ⟨_, 0, v12, ?_, rfl, hf.weak ⟨rfl, rfl, rfl, trivial⟩, hs⟩
    · first | assumption | omega | simp
  · rintro m_ ac w' ⟨k, v, hk, rfl, hf, hs⟩
    refine D.use ?_ hf hs
    clear hf hs ac w'
    have hcl := fidZ_len (isCons f) k
    have hsn := setN_le f
    refine C_seq ?_
    refine C_seq ?_
    refine C_reg ?_
    refine q1 rfl (lbw 1 a_34 rfl rfl rfl) ?_
    refine p1 rfl ?_
    refine li rfl (cv b_37 rfl rfl rfl rfl (fun w' hs => (spec_l13Set w' [(.int .i64 f.Beliefs.Nodes), u1, u3, u5] f ((k : Nat) : Int) (rd_at hs h_f))) ?_)
    refine D_end ?_
    refine x_then ?_
    refine D_H ([ov [v] (fidZ (isCons f) k : (List Int)), bx g11 [(.int .i64 f.Beliefs.Nodes), u1, u3, u5]]) rfl ?_
    refine C_if _ rfl (fun h13 => ?_) (fun h13 => ?_)
    · refine C_skip ?_
      refine x_then ?_
      refine C_seq ?_
      refine C_block ?_
      refine C_seq ?_
      have hlt : k < setN f := by rw [setN_iff] at h13; exact of_decide_eq_true h13
      refine C_reg ?_
      refine q1 rfl (lbw 1 a_34 rfl rfl rfl) ?_
      refine p1 rfl ?_
      refine li rfl (cv b_38 rfl rfl rfl rfl (fun w' hs => (spec_IsConsistent w' [(.int .i64 f.Beliefs.Nodes), u1, u3, u5] f ((k : Nat) : Int) (rd_at hs h_f))) ?_)
      refine D_end ?_
      refine x_then ?_
      refine C_if _ rfl (fun h14 => ?_) (fun h14 => ?_)
      · refine C_reg ?_
        refine p1 rfl <| p1 rfl ?_
        refine li rfl (D_bs s_25 y_3 rfl (by decide) (by decide) rfl rfl rfl rfl rfl rfl fun g15 => ?_)
        refine D_fi ((k : Nat) : Int) ?_
        refine D_pk (H' := [ov [v] (fidZ (isCons f) k : (List Int)), ov [(.int .i64 ((k : Nat) : Int))] (((k : Nat) : Int) : Int), bx g15 [(.int .i64 ((k : Nat) : Int))], bx g11 [(.int .i64 f.Beliefs.Nodes), u1, u3, u5]]) [2, 0, 1, 3] rfl rfl ?_
        refine li rfl (D_ap s_25 y_3 rfl (by decide) rfl rfl rfl rfl rfl rfl (by first | omega | (simp; omega)) (by first | omega | (simp; omega)) fun v16 => ?_)
        refine p1 rfl ?_
        refine D_end ?_
        refine x_blk ?_
        refine x_then ?_
        refine D_H ([ov [v16] ((fidZ (isCons f) k) ++ [((k : Nat) : Int)] : (List Int)), bx g11 [(.int .i64 f.Beliefs.Nodes), u1, u3, u5]]) rfl ?_
        refine C_reg ?_
        refine p1 rfl ?_
        refine q1 rfl (D_add rfl rfl rfl (r := ((k + 1 : Nat) : Int)) (by omega) (by omega)) ?_
        refine p1 rfl ?_
        refine D_end ?_
        refine x_then ?_
        refine D_eq 0 rfl (show ((fidZ (isCons f) k) ++ [((k : Nat) : Int)] : (List Int)) = fidZ (isCons f) (k + 1) from by first | exact fidZ_t h14 | exact fidZ_f h14) ?_
        refine fun ac w' hf hs => ⟨_, ?_, k + 1, v16, ?_, rfl, hf.weak ⟨rfl, rfl, rfl, trivial⟩, hs⟩
        · omega
        · first | assumption | omega | simp
      · refine C_skip ?_
        refine x_blk ?_
        refine x_then ?_
        refine C_reg ?_
        refine p1 rfl ?_
        refine q1 rfl (D_add rfl rfl rfl (r := ((k + 1 : Nat) : Int)) (by omega) (by omega)) ?_
        refine p1 rfl ?_
        refine D_end ?_
        refine x_then ?_
        refine D_eq 0 rfl (show (fidZ (isCons f) k : (List Int)) = fidZ (isCons f) (k + 1) from by first | exact fidZ_t h14 | exact fidZ_f h14) ?_
        refine fun ac w' hf hs => ⟨_, ?_, k + 1, v, ?_, rfl, hf.weak ⟨rfl, rfl, rfl, trivial⟩, hs⟩
        · omega
        · first | assumption | omega | simp
    · refine C_exit ?_
      refine x_then_exit ?_
      refine x_then_exit ?_
      refine x_blk_eq ?_
      refine x_then ?_
      refine C_seq ?_
      have hge : ¬ k < setN f := by rw [setN_iff] at h13; exact of_decide_eq_false h13
      have hasl := allS_len f
      refine C_reg ?_
      refine li rfl (D_bs0 (α := Int) s_25 rfl rfl rfl fun v17 => ?_)
      refine p1 rfl ?_
      refine D_end ?_
      refine x_then ?_
      refine D_H ([ov [v17] ([] : (List Int)), ov [v] (fidZ (isCons f) k : (List Int)), bx g11 [(.int .i64 f.Beliefs.Nodes), u1, u3, u5]]) rfl ?_
      refine C_seq ?_
      refine C_seq ?_
      refine C_reg ?_
      refine p1 rfl ?_
      refine D_end ?_
      refine x_then ?_
      refine C_block ?_
      refine C_loop (fun m_ ac w' => ∃ (k2 : Nat), ∃ (v2 : Value), (k2 ≤ (allS f).length) ∧ m_ = (allS f).length - k2 ∧ Fits ac 68 [(3, v), (5, v2), (6, (.int .i64 ((k2 : Nat) : Int)))] ∧ St w ([ov [v2] (filtT (grB (allS f)) (allS f) k2 : (List Int)), ov [v] (allS f : (List Int)), bx g11 [(.int .i64 f.Beliefs.Nodes), u1, u3, u5]]) w') ?_ ?_
      · refine D_eq 0 rfl (show ([] : (List Int)) = filtT (grB (allS f)) (allS f) 0 from by rfl) ?_
        refine D_eq 1 rfl (show (fidZ (isCons f) k : (List Int)) = allS f from by rw [show k = setN f by omega]; rfl) ?_
        refine fun ac w' hf hs => ⟨_, 0, v17, ?_, rfl, hf.weak ⟨rfl, rfl, rfl, trivial⟩, hs⟩
        · first | assumption | omega | simp
      · rintro m_ ac w' ⟨k2, v2, hk2, rfl, hf, hs⟩
        refine D.use ?_ hf hs
        clear hf hs ac w'
        have hcl2 := filtT_len (grB (allS f)) (allS f) k2
        refine C_seq ?_
        refine C_seq ?_
        refine C_reg ?_
        refine p1 rfl <| p1 rfl ?_
        refine q1 rfl (D_leno 1 s_25 rfl rfl rfl) ?_
        refine p1 rfl ?_
        refine D_end ?_
        refine x_then ?_
        refine D_H ([ov [v2] (filtT (grB (allS f)) (allS f) k2 : (List Int)), ov [v] (allS f : (List Int)), bx g11 [(.int .i64 f.Beliefs.Nodes), u1, u3, u5]]) rfl ?_
        refine C_if _ rfl (fun h18 => ?_) (fun h18 => ?_)
        · have pr18 : (((k2 : Nat) : Int) : Int) < (((allS f).length : Nat) : Int) := of_decide_eq_true h18
          refine C_skip ?_
          refine x_then ?_
          refine C_seq ?_
          refine C_block ?_
          refine C_seq ?_
          obtain ⟨s0, hs0⟩ := some_of_lt (l := allS f) (i := k2) (by omega)
          refine C_reg ?_
          refine p1 rfl ?_
          refine D_end ?_
          refine x_then ?_
          refine C_seq ?_
          refine C_seq ?_
          refine C_reg ?_
          refine p1 rfl ?_
          refine D_end ?_
          refine x_then ?_
          refine C_block ?_
          refine C_loop (fun m_ ac w' => ∃ (q : Nat), ∃ (great : Bool), (q ≤ (allS f).length) ∧ (great = grT (allS f) s0 q) ∧ m_ = (allS f).length - q ∧ Fits ac 68 [(3, v), (5, v2), (6, (.int .i64 ((k2 : Nat) : Int))), (7, (.bool great)), (8, (.int .i64 ((q : Nat) : Int)))] ∧ St w ([ov [v2] (filtT (grB (allS f)) (allS f) k2 : (List Int)), ov [v] (allS f : (List Int)), bx g11 [(.int .i64 f.Beliefs.Nodes), u1, u3, u5]]) w') ?_ ?_
          · refine fun ac w' hf hs => ⟨_, 0, true, ?_, ?_, rfl, hf.weak ⟨rfl, rfl, rfl, rfl, rfl, trivial⟩, hs⟩
            · first | assumption | omega | simp
            · rfl
          · rintro m_ ac w' ⟨q, great, hq, hgr, rfl, hf, hs⟩
            refine D.use ?_ hf hs
            clear hf hs ac w'
            refine C_seq ?_
            refine C_seq ?_
            refine C_reg ?_
            refine p1 rfl <| p1 rfl ?_
            refine q1 rfl (D_leno 1 s_25 rfl rfl rfl) ?_
            refine p1 rfl ?_
            refine D_end ?_
            refine x_then ?_
            refine C_if _ rfl (fun h19 => ?_) (fun h19 => ?_)
            · have pr19 : (((q : Nat) : Int) : Int) < (((allS f).length : Nat) : Int) := of_decide_eq_true h19
              refine C_skip ?_
              refine x_then ?_
              refine C_seq ?_
              refine C_block ?_
              refine C_draw mixed [10, 11, 12, 21, 22, 23, 24] (by kernel_rfl) ?_
              refine tk 0 rfl (by kernel_rfl) (by kernel_rfl) (by kernel_rfl) rfl (fun _ hs => hs) (rp rfl) ?_
              refine tk 1 rfl (by kernel_rfl) (by kernel_rfl) (by kernel_rfl) rfl (fun _ hs => hs) (rp rfl) ?_
              refine gs 36 rfl rfl (fun h20 => ?_) (fun h20 => ?_)
              · refine tk 2 rfl (by kernel_rfl) (by kernel_rfl) (by kernel_rfl) rfl (fun _ hs => hs) (rp rfl) ?_
                refine tk 3 rfl (by kernel_rfl) (by kernel_rfl) (by kernel_rfl) rfl (fun _ hs => hs) (rp rfl) ?_
                obtain ⟨s1, hs1⟩ := some_of_lt (l := (allS f)) (i := k2) (by omega)
                have e10 : s1 = s0 := Option.some.inj (hs1.symm.trans hs0)
                refine tk 4 rfl (by kernel_rfl) (by kernel_rfl) (by kernel_rfl) rfl (fun _ hs => hs) (D_ix (l := (allS f)) (j := k2) s_25 rfl rfl rfl (fun w' hs => (rd_own (k := 1) hs rfl)) rfl (lt_of_some hs1)) ?_
                refine tk 5 rfl (by kernel_rfl) (by kernel_rfl) (by kernel_rfl) rfl (fun _ hs => hs) (lo (α := Int) 1 o_3 rfl rfl rfl hs1) ?_
                refine tk 6 rfl (by kernel_rfl) (by kernel_rfl) (by kernel_rfl) rfl (fun _ hs => hs) (rp rfl) ?_
                refine tk 7 rfl (by kernel_rfl) (by kernel_rfl) (by kernel_rfl) rfl (fun _ hs => hs) (rp rfl) ?_
                obtain ⟨t0, ht0⟩ := some_of_lt (l := (allS f)) (i := q) (by omega)
                refine tk 8 rfl (by kernel_rfl) (by kernel_rfl) (by kernel_rfl) rfl (fun _ hs => hs) (D_ix (l := (allS f)) (j := q) s_25 rfl rfl rfl (fun w' hs => (rd_own (k := 1) hs rfl)) rfl (lt_of_some ht0)) ?_
                refine tk 9 rfl (by kernel_rfl) (by kernel_rfl) (by kernel_rfl) rfl (fun _ hs => hs) (lo (α := Int) 1 o_3 rfl rfl rfl ht0) ?_
                refine ty 10 rfl (by kernel_rfl) rfl (cv b_39 rfl rfl rfl rfl (fun w' hs => (spec_IsPart w' s1 t0)) ?_)
                refine tZ rfl ?_
                refine ty 11 rfl (by kernel_rfl) rfl (sv rfl rfl (rp rfl) ?_)
                refine tZ rfl ?_
                refine ty 12 rfl (by kernel_rfl) rfl (sv rfl rfl (rp rfl) ?_)
                refine tZ rfl ?_
                refine gs 47 rfl rfl (fun h21 => ?_) (fun h21 => ?_)
                · have h21n : (isPartB s1 t0) = false := not_t h21
                  refine tn 13 rfl (by kernel_rfl) (by kernel_rfl) (by kernel_rfl) rfl rfl rfl (fun _ hs => hs) ?_
                  refine tn 14 rfl (by kernel_rfl) (by kernel_rfl) (by kernel_rfl) rfl rfl rfl (fun _ hs => hs) ?_
                  refine tn 15 rfl (by kernel_rfl) (by kernel_rfl) (by kernel_rfl) rfl rfl rfl (fun _ hs => hs) ?_
                  refine tn 16 rfl (by kernel_rfl) (by kernel_rfl) (by kernel_rfl) rfl rfl rfl (fun _ hs => hs) ?_
                  refine tn 17 rfl (by kernel_rfl) (by kernel_rfl) (by kernel_rfl) rfl rfl rfl (fun _ hs => hs) ?_
                  refine tn 18 rfl (by kernel_rfl) (by kernel_rfl) (by kernel_rfl) rfl rfl rfl (fun _ hs => hs) ?_
                  refine tn 19 rfl (by kernel_rfl) (by kernel_rfl) (by kernel_rfl) rfl rfl rfl (fun _ hs => hs) ?_
                  refine tn 20 rfl (by kernel_rfl) (by kernel_rfl) (by kernel_rfl) rfl rfl rfl (fun _ hs => hs) ?_
                  refine tn 21 rfl (by kernel_rfl) (by kernel_rfl) (by kernel_rfl) rfl rfl rfl (fun _ hs => hs) ?_
                  refine ty 22 rfl (by kernel_rfl) rfl (sv rfl rfl (rp rfl) ?_)
                  refine tZ rfl ?_
                  refine ty 23 rfl (by kernel_rfl) rfl (sv rfl rfl (rp rfl) ?_)
                  refine tZ rfl ?_
                  refine ty 24 rfl (by kernel_rfl) rfl (sv rfl rfl (rp rfl) ?_)
                  refine tZ rfl ?_
                  refine tE (by kernel_rfl) ?_
                  refine x_blk ?_
                  refine x_then ?_
                  refine D_weak [(3, v), (5, v2), (6, (.int .i64 ((k2 : Nat) : Int))), (7, (.bool true)), (8, (.int .i64 ((q : Nat) : Int)))] ⟨rfl, rfl, rfl, rfl, rfl, trivial⟩ ?_
                  refine C_reg ?_
                  refine p1 rfl ?_
                  refine q1 rfl (D_add rfl rfl rfl (r := ((q + 1 : Nat) : Int)) (by omega) (by omega)) ?_
                  refine p1 rfl ?_
                  refine D_end ?_
                  refine x_then ?_
                  refine fun ac w' hf hs => ⟨_, ?_, q + 1, true, ?_, ?_, rfl, hf.weak ⟨rfl, rfl, rfl, rfl, rfl, trivial⟩, hs⟩
                  · omega
                  · first | assumption | omega | simp
                  · first | (refine grT_step ht0 ?_; rw [← hgr, show great = true by assumption, ← e10]; unfold grOne; first | (rw [show isPartB s1 t0 = false by assumption]; simp) | (rw [show isPartB s1 t0 = true by assumption]; simp)) | (obtain ⟨t0, ht0⟩ := some_of_lt (l := allS f) (i := q) (by omega); refine grT_step ht0 ?_; rw [← hgr, show great = false by assumption]; rfl)
                · have h21n : (isPartB s1 t0) = true := not_f h21
                  refine tk 13 rfl (by kernel_rfl) (by kernel_rfl) (by kernel_rfl) rfl (fun _ hs => hs) (rp rfl) ?_
                  refine tk 14 rfl (by kernel_rfl) (by kernel_rfl) (by kernel_rfl) rfl (fun _ hs => hs) (rp rfl) ?_
                  refine tk 15 rfl (by kernel_rfl) (by kernel_rfl) (by kernel_rfl) rfl (fun _ hs => hs) (D_ix (l := (allS f)) (j := q) s_25 rfl rfl rfl (fun w' hs => (rd_own (k := 1) hs rfl)) rfl (lt_of_some ht0)) ?_
                  refine tk 16 rfl (by kernel_rfl) (by kernel_rfl) (by kernel_rfl) rfl (fun _ hs => hs) (lo (α := Int) 1 o_3 rfl rfl rfl ht0) ?_
                  refine tk 17 rfl (by kernel_rfl) (by kernel_rfl) (by kernel_rfl) rfl (fun _ hs => hs) (rp rfl) ?_
                  refine tk 18 rfl (by kernel_rfl) (by kernel_rfl) (by kernel_rfl) rfl (fun _ hs => hs) (rp rfl) ?_
                  refine tk 19 rfl (by kernel_rfl) (by kernel_rfl) (by kernel_rfl) rfl (fun _ hs => hs) (D_ix (l := (allS f)) (j := k2) s_25 rfl rfl rfl (fun w' hs => (rd_own (k := 1) hs rfl)) rfl (lt_of_some hs1)) ?_
                  refine tk 20 rfl (by kernel_rfl) (by kernel_rfl) (by kernel_rfl) rfl (fun _ hs => hs) (lo (α := Int) 1 o_3 rfl rfl rfl hs1) ?_
                  refine ty 21 rfl (by kernel_rfl) rfl (sv rfl rfl (rp rfl) ?_)
                  refine tZ rfl ?_
                  refine ty 22 rfl (by kernel_rfl) rfl (sv rfl rfl (rp rfl) ?_)
                  refine tZ rfl ?_
                  refine ty 23 rfl (by kernel_rfl) rfl (sv rfl rfl (rp rfl) ?_)
                  refine tZ rfl ?_
                  refine ty 24 rfl (by kernel_rfl) rfl (sv rfl rfl (rp rfl) ?_)
                  refine tZ rfl ?_
                  refine tE (by kernel_rfl) ?_
                  refine x_blk ?_
                  refine x_then ?_
                  refine D_weak [(3, v), (5, v2), (6, (.int .i64 ((k2 : Nat) : Int))), (7, (.bool ((t0 : Int) == s1))), (8, (.int .i64 ((q : Nat) : Int)))] ⟨rfl, rfl, rfl, rfl, rfl, trivial⟩ ?_
                  refine C_reg ?_
                  refine p1 rfl ?_
                  refine q1 rfl (D_add rfl rfl rfl (r := ((q + 1 : Nat) : Int)) (by omega) (by omega)) ?_
                  refine p1 rfl ?_
                  refine D_end ?_
                  refine x_then ?_
                  refine fun ac w' hf hs => ⟨_, ?_, q + 1, ((t0 : Int) == s1), ?_, ?_, rfl, hf.weak ⟨rfl, rfl, rfl, rfl, rfl, trivial⟩, hs⟩
                  · omega
                  · first | assumption | omega | simp
                  · first | (refine grT_step ht0 ?_; rw [← hgr, show great = true by assumption, ← e10]; unfold grOne; first | (rw [show isPartB s1 t0 = false by assumption]; simp) | (rw [show isPartB s1 t0 = true by assumption]; simp)) | (obtain ⟨t0, ht0⟩ := some_of_lt (l := allS f) (i := q) (by omega); refine grT_step ht0 ?_; rw [← hgr, show great = false by assumption]; rfl)
              · refine tn 2 rfl (by kernel_rfl) (by kernel_rfl) (by kernel_rfl) rfl rfl rfl (fun _ hs => hs) ?_
                refine tn 3 rfl (by kernel_rfl) (by kernel_rfl) (by kernel_rfl) rfl rfl rfl (fun _ hs => hs) ?_
                refine tn 4 rfl (by kernel_rfl) (by kernel_rfl) (by kernel_rfl) rfl rfl rfl (fun _ hs => hs) ?_
                refine tn 5 rfl (by kernel_rfl) (by kernel_rfl) (by kernel_rfl) rfl rfl rfl (fun _ hs => hs) ?_
                refine tn 6 rfl (by kernel_rfl) (by kernel_rfl) (by kernel_rfl) rfl rfl rfl (fun _ hs => hs) ?_
                refine tn 7 rfl (by kernel_rfl) (by kernel_rfl) (by kernel_rfl) rfl rfl rfl (fun _ hs => hs) ?_
                refine tn 8 rfl (by kernel_rfl) (by kernel_rfl) (by kernel_rfl) rfl rfl rfl (fun _ hs => hs) ?_
                refine tn 9 rfl (by kernel_rfl) (by kernel_rfl) (by kernel_rfl) rfl rfl rfl (fun _ hs => hs) ?_
                refine tn 10 rfl (by kernel_rfl) (by kernel_rfl) (by kernel_rfl) rfl rfl rfl (fun _ hs => hs) ?_
                refine tn 11 rfl (by kernel_rfl) (by kernel_rfl) (by kernel_rfl) rfl rfl rfl (fun _ hs => hs) ?_
                refine tn 12 rfl (by kernel_rfl) (by kernel_rfl) (by kernel_rfl) rfl rfl rfl (fun _ hs => hs) ?_
                refine tn 13 rfl (by kernel_rfl) (by kernel_rfl) (by kernel_rfl) rfl rfl rfl (fun _ hs => hs) ?_
                refine tn 14 rfl (by kernel_rfl) (by kernel_rfl) (by kernel_rfl) rfl rfl rfl (fun _ hs => hs) ?_
                refine tn 15 rfl (by kernel_rfl) (by kernel_rfl) (by kernel_rfl) rfl rfl rfl (fun _ hs => hs) ?_
                refine tn 16 rfl (by kernel_rfl) (by kernel_rfl) (by kernel_rfl) rfl rfl rfl (fun _ hs => hs) ?_
                refine tn 17 rfl (by kernel_rfl) (by kernel_rfl) (by kernel_rfl) rfl rfl rfl (fun _ hs => hs) ?_
                refine tn 18 rfl (by kernel_rfl) (by kernel_rfl) (by kernel_rfl) rfl rfl rfl (fun _ hs => hs) ?_
                refine tn 19 rfl (by kernel_rfl) (by kernel_rfl) (by kernel_rfl) rfl rfl rfl (fun _ hs => hs) ?_
                refine tn 20 rfl (by kernel_rfl) (by kernel_rfl) (by kernel_rfl) rfl rfl rfl (fun _ hs => hs) ?_
                refine tn 21 rfl (by kernel_rfl) (by kernel_rfl) (by kernel_rfl) rfl rfl rfl (fun _ hs => hs) ?_
                refine tn 22 rfl (by kernel_rfl) (by kernel_rfl) (by kernel_rfl) rfl rfl rfl (fun _ hs => hs) ?_
                refine ty 23 rfl (by kernel_rfl) rfl (sv rfl rfl (rp rfl) ?_)
                refine tZ rfl ?_
                refine ty 24 rfl (by kernel_rfl) rfl (sv rfl rfl (rp rfl) ?_)
                refine tZ rfl ?_
                refine tE (by kernel_rfl) ?_
                refine x_blk ?_
                refine x_then ?_
                refine D_weak [(3, v), (5, v2), (6, (.int .i64 ((k2 : Nat) : Int))), (7, (.bool false)), (8, (.int .i64 ((q : Nat) : Int)))] ⟨rfl, rfl, rfl, rfl, rfl, trivial⟩ ?_
                refine C_reg ?_
                refine p1 rfl ?_
                refine q1 rfl (D_add rfl rfl rfl (r := ((q + 1 : Nat) : Int)) (by omega) (by omega)) ?_
                refine p1 rfl ?_
                refine D_end ?_
                refine x_then ?_
                refine fun ac w' hf hs => ⟨_, ?_, q + 1, false, ?_, ?_, rfl, hf.weak ⟨rfl, rfl, rfl, rfl, rfl, trivial⟩, hs⟩
                · omega
                · first | assumption | omega | simp
                · first | (refine grT_step ht0 ?_; rw [← hgr, show great = true by assumption, ← e10]; unfold grOne; first | (rw [show isPartB s1 t0 = false by assumption]; simp) | (rw [show isPartB s1 t0 = true by assumption]; simp)) | (obtain ⟨t0, ht0⟩ := some_of_lt (l := allS f) (i := q) (by omega); refine grT_step ht0 ?_; rw [← hgr, show great = false by assumption]; rfl)
            · have pr19 : ¬ (((q : Nat) : Int) : Int) < (((allS f).length : Nat) : Int) := of_decide_eq_false h19
              refine C_exit ?_
              refine x_then_exit ?_
              refine x_then_exit ?_
              refine x_blk_eq ?_
              refine x_then ?_
              refine C_seq ?_
              refine C_reg ?_
              refine p1 rfl ?_
              refine D_end ?_
              refine x_then ?_
              refine C_if _ rfl (fun h22 => ?_) (fun h22 => ?_)
              · refine C_reg ?_
                refine p1 rfl <| p1 rfl <| p1 rfl ?_
                obtain ⟨s2, hs2⟩ := some_of_lt (l := (allS f)) (i := k2) (by omega)
                have e11 : s2 = s0 := Option.some.inj (hs2.symm.trans hs0)
                refine q1 rfl (D_ix (l := (allS f)) (j := k2) s_25 rfl rfl rfl (fun w' hs => (rd_own (k := 1) hs rfl)) rfl (lt_of_some hs2)) ?_
                refine q1 rfl (lo (α := Int) 1 o_3 rfl rfl rfl hs2) ?_
                refine li rfl (D_bs s_25 y_3 rfl (by decide) (by decide) rfl rfl rfl rfl rfl rfl fun g23 => ?_)
                refine D_fi s2 ?_
                refine D_pk (H' := [ov [v2] (filtT (grB (allS f)) (allS f) k2 : (List Int)), ov [(.int .i64 s2)] (s2 : Int), bx g23 [(.int .i64 s2)], ov [v] (allS f : (List Int)), bx g11 [(.int .i64 f.Beliefs.Nodes), u1, u3, u5]]) [2, 0, 1, 3, 4] rfl rfl ?_
                refine li rfl (D_ap s_25 y_3 rfl (by decide) rfl rfl rfl rfl rfl rfl (by first | omega | (simp; omega)) (by first | omega | (simp; omega)) fun v24 => ?_)
                refine p1 rfl ?_
                refine D_end ?_
                refine x_blk ?_
                refine x_then ?_
                refine D_H ([ov [v24] ((filtT (grB (allS f)) (allS f) k2) ++ [s2] : (List Int)), ov [v] (allS f : (List Int)), bx g11 [(.int .i64 f.Beliefs.Nodes), u1, u3, u5]]) rfl ?_
                refine C_reg ?_
                refine p1 rfl ?_
                refine q1 rfl (D_add rfl rfl rfl (r := ((k2 + 1 : Nat) : Int)) (by omega) (by omega)) ?_
                refine p1 rfl ?_
                refine D_end ?_
                refine x_then ?_
                refine D_eq 0 rfl (show ((filtT (grB (allS f)) (allS f) k2) ++ [s2] : (List Int)) = filtT (grB (allS f)) (allS f) (k2 + 1) from by first | exact filtT_t hs2 (by rw [e11]; exact (grT_done (by omega)).symm.trans (hgr.symm.trans (by assumption))) | exact filtT_f hs0 ((grT_done (by omega)).symm.trans (hgr.symm.trans (by assumption)))) ?_
                refine fun ac w' hf hs => ⟨_, ?_, k2 + 1, v24, ?_, rfl, hf.weak ⟨rfl, rfl, rfl, trivial⟩, hs⟩
                · omega
                · first | assumption | omega | simp
              · refine C_skip ?_
                refine x_blk ?_
                refine x_then ?_
                refine C_reg ?_
                refine p1 rfl ?_
                refine q1 rfl (D_add rfl rfl rfl (r := ((k2 + 1 : Nat) : Int)) (by omega) (by omega)) ?_
                refine p1 rfl ?_
                refine D_end ?_
                refine x_then ?_
                refine D_eq 0 rfl (show (filtT (grB (allS f)) (allS f) k2 : (List Int)) = filtT (grB (allS f)) (allS f) (k2 + 1) from by first | exact filtT_t hs2 (by rw [e11]; exact (grT_done (by omega)).symm.trans (hgr.symm.trans (by assumption))) | exact filtT_f hs0 ((grT_done (by omega)).symm.trans (hgr.symm.trans (by assumption)))) ?_
                refine fun ac w' hf hs => ⟨_, ?_, k2 + 1, v2, ?_, rfl, hf.weak ⟨rfl, rfl, rfl, trivial⟩, hs⟩
                · omega
                · first | assumption | omega | simp
        · have pr18 : ¬ (((k2 : Nat) : Int) : Int) < (((allS f).length : Nat) : Int) := of_decide_eq_false h18
          refine C_exit ?_
          refine x_then_exit ?_
          refine x_then_exit ?_
          refine x_blk_eq ?_
          refine x_then ?_
          refine C_seq ?_
          refine C_reg ?_
          refine p1 rfl <| p1 rfl ?_
          refine D_end ?_
          refine x_then ?_
          refine C_ret ?_
          refine R_1 rfl rfl fun w' hs => res_of (k := 0) hs rfl ?_
          show filtT (grB (allS f)) (allS f) k2 = greatS f
          exact filtT_done (by omega)

set_option maxHeartbeats 4000000 in
theorem laws_FnExactGreatestSets (w : World) (c_aF : List Value) (aF : Frame) (h_aF : Gd.rd w c_aF aF) : Calls Try.prog 3 [(.agg c_aF.toArray)].toArray w (Val w (.bool (true))) := by
  obtain ⟨u1, u3, u5, rfl, hu2, hu4, hu6⟩ := open_Frame h_aF
  have hm7 := rd_max hu2
  have hm8 := rd_max hu4
  have hm9 := rd_max hu6
  have hb10 := sub_Frame_Beliefs h_aF
  have hz1 := szF_c aF
  have hz3 := greatS_len aF
  refine enter 69 Try.func3 rfl rfl rfl ?_
  refine C_seq ?_
  refine C_reg ?_
  refine li rfl (D_box rfl rfl rfl rfl rfl fun g11 => ?_)
  refine p1 rfl ?_
  refine D_end ?_
  refine x_then ?_
  refine D_H ([bx g11 [(.int .i64 aF.Beliefs.Nodes), u1, u3, u5]]) rfl ?_
  refine C_seq ?_
  refine C_reg ?_
  refine p1 rfl ?_
  refine D_end ?_
  refine x_then ?_
  refine C_seq ?_
  refine C_reg ?_
  refine q1 rfl (lbw 0 a_27 rfl rfl rfl) ?_
  refine p1 rfl ?_
  refine li rfl (cv b_9 rfl rfl rfl rfl (fun w' hs => (laws_szFrame w' [(.int .i64 aF.Beliefs.Nodes), u1, u3, u5] aF 1048576 (rd_at hs h_aF) (by first | assumption | omega | (unfold szm at *; split at * <;> omega)) (by first | assumption | omega | (unfold szm at *; split at * <;> omega)))) ?_)
  refine p1 rfl ?_
  refine D_end ?_
  refine x_then ?_
  refine C_seq ?_
  refine C_seq ?_
  refine C_reg ?_
  refine p1 rfl <| p1 rfl ?_
  refine D_end ?_
  refine x_then ?_
  refine C_if _ rfl (fun h12 => ?_) (fun h12 => ?_)
  · have pr12 : ((szm (szF aF) 1048576) : Int) < 0 := of_decide_eq_true h12
    refine C_seq ?_
    refine C_reg ?_
    refine p1 rfl ?_
    refine D_end ?_
    refine x_then ?_
    refine C_ret ?_
    refine x_then_ret ?_
    refine R_1 rfl rfl fun w' hs => ⟨congrArg (fun z => Ending.returned (Value.bool z)) ?_, hs.bel⟩
    show (true : Bool) = true
    first | rfl | (exfalso; omega) | (exfalso; simp only [mapS_len, sumB_mk, sumR_mk] at *; omega) | exact absurd h12 (by simp [mapS_len])
  · have pr12 : ¬ ((szm (szF aF) 1048576) : Int) < 0 := of_decide_eq_false h12
    have pr12z := szm_val (n := (szF aF)) (left := 1048576) pr12
    refine C_skip ?_
    refine x_then ?_
    refine C_seq ?_
    refine C_reg ?_
    refine q1 rfl (lbw 0 a_27 rfl rfl rfl) ?_
    refine li rfl (crs rfl b_11 rfl rfl rfl rfl (fun w' hs => (laws_toFrame w' [(.int .i64 aF.Beliefs.Nodes), u1, u3, u5] aF (rd_at hs h_aF) (by first | assumption | omega | (unfold szm at *; split at * <;> omega)))) fun cs13 => ?_)
    refine D_pre (fun w' hs => shape_Frame (rd_own (k := 0) hs rfl)) ?_
    rintro ⟨v14, v15, v16, rfl, ho17, ho18, ho19⟩
    refine li rfl (crl b_10 rfl rfl rfl rfl (fun w' hs => (spec_GreatestSets w' [(.int .i64 aF.Beliefs.Nodes), v14, v15, v16] aF (rd_own (k := 0) hs rfl))) fun v20 => ?_)
    refine p1 rfl ?_
    refine D_end ?_
    refine x_then ?_
    refine D_H ([ov [v20] (greatS aF : (List Int)), ov [(.int .i64 aF.Beliefs.Nodes), v14, v15, v16] (aF : Frame), bx g11 [(.int .i64 aF.Beliefs.Nodes), u1, u3, u5]]) rfl ?_
    refine C_seq ?_
    refine C_reg ?_
    refine q1 rfl (lbw 2 a_27 rfl rfl rfl) ?_
    refine li rfl (crs rfl b_11 rfl rfl rfl rfl (fun w' hs => (laws_toFrame w' [(.int .i64 aF.Beliefs.Nodes), u1, u3, u5] aF (rd_at hs h_aF) (by first | assumption | omega | (unfold szm at *; split at * <;> omega)))) fun cs21 => ?_)
    refine D_pre (fun w' hs => shape_Frame (rd_own (k := 0) hs rfl)) ?_
    rintro ⟨v22, v23, v24, rfl, ho25, ho26, ho27⟩
    refine li rfl (D_alloc y_34 rfl rfl rfl rfl fun g28 => ?_)
    refine li rfl (D_stb (vs := [(.int .i64 aF.Beliefs.Nodes), v22, v23, v24]) (cs' := [(.int .i64 aF.Beliefs.Nodes), v22, v23, v24]) 0 z_34 rfl rfl rfl rfl rfl rfl (ocons rfl (ocons ho25 (ocons ho26 (ocons ho27 onil)))) (by simp) rfl ?_)
    refine D_end ?_
    refine x_then ?_
    refine D_H ([bx g28 [(.int .i64 aF.Beliefs.Nodes), v22, v23, v24], ov [(.int .i64 aF.Beliefs.Nodes), v22, v23, v24] (aF : Frame), ov [v20] (greatS aF : (List Int)), ov [(.int .i64 aF.Beliefs.Nodes), v14, v15, v16] (aF : Frame), bx g11 [(.int .i64 aF.Beliefs.Nodes), u1, u3, u5]]) rfl ?_
    refine C_seq ?_
    refine C_reg ?_
    refine q1 rfl (lbw 0 a_34 rfl rfl rfl) ?_
    refine li rfl (crl b_12 rfl rfl rfl rfl (fun w' hs => (impl_GreatestSets w' [(.int .i64 aF.Beliefs.Nodes), v22, v23, v24] aF (rd_own (k := 1) hs rfl))) fun v29 => ?_)
    refine p1 rfl ?_
    refine D_end ?_
    refine x_then ?_
    refine D_weak [(1, (.pointer (some ⟨g11, 0, none⟩))), (4, v20), (5, (.pointer (some ⟨g28, 0, none⟩))), (6, v29)] ⟨rfl, rfl, rfl, rfl, trivial⟩ ?_
    refine D_sel (H' := [ov [v29] (greatS aF : (List Int)), bx g28 [(.int .i64 aF.Beliefs.Nodes), v22, v23, v24], ov [(.int .i64 aF.Beliefs.Nodes), v22, v23, v24] (aF : Frame), ov [v20] (greatS aF : (List Int)), bx g11 [(.int .i64 aF.Beliefs.Nodes), u1, u3, u5]]) [true, true, true, true, false, true] rfl ?_
    refine C_seq ?_
    refine C_seq ?_
    refine C_reg ?_
    refine p1 rfl <| p1 rfl ?_
    refine li rfl (cv b_13 rfl rfl rfl rfl (fun w' hs => (laws_eqIntS w' v29 (greatS aF) v20 (greatS aF) (rd_own (k := 0) hs rfl) (rd_own (k := 3) hs rfl))) ?_)
    refine p1 rfl ?_
    refine D_end ?_
    refine x_then ?_
    refine C_if _ rfl (fun h30 => ?_) (fun h30 => ?_)
    · have h30n : (decide ((greatS aF) = (greatS aF))) = false := not_t h30
      refine C_seq ?_
      refine C_reg ?_
      refine p1 rfl ?_
      refine D_end ?_
      refine x_then ?_
      refine C_ret ?_
      refine x_then_ret ?_
      refine R_1 rfl rfl fun w' hs => ⟨congrArg (fun z => Ending.returned (Value.bool z)) ?_, hs.bel⟩
      show (false : Bool) = true
      first | rfl | (exfalso; omega) | (exfalso; simp only [mapS_len, sumB_mk, sumR_mk] at *; omega) | exact absurd h30 (by simp [mapS_len])
    · have h30n : (decide ((greatS aF) = (greatS aF))) = true := not_f h30
      refine C_skip ?_
      refine x_then ?_
      refine C_seq ?_
      refine C_seq ?_
      refine C_draw mixed [3, 4] (by kernel_rfl) ?_
      refine tk 0 rfl (by kernel_rfl) (by kernel_rfl) (by kernel_rfl) rfl (fun _ hs => hs) (lbw 1 a_34 rfl rfl rfl) ?_
      refine tk 1 rfl (by kernel_rfl) (by kernel_rfl) (by kernel_rfl) rfl (fun _ hs => hs) (lbw 4 a_27 rfl rfl rfl) ?_
      refine ty 2 rfl (by kernel_rfl) rfl (crs rfl b_11 rfl rfl rfl rfl (fun w' hs => (laws_toFrame w' [(.int .i64 aF.Beliefs.Nodes), u1, u3, u5] aF (rd_at hs h_aF) (by first | assumption | omega | (unfold szm at *; split at * <;> omega)))) fun cs31 => ?_)
      refine D_pre (fun w' hs => shape_Frame (rd_own (k := 0) hs rfl)) ?_
      rintro ⟨v32, v33, v34, rfl, ho35, ho36, ho37⟩
      refine tS (fun _ hs => hs.pk [1, 2, 3, 4, 5] rfl rfl) ?_
      refine ty 3 rfl (by kernel_rfl) rfl (cv b_14 rfl rfl rfl rfl (fun w' hs => (laws_eqFrame w' [(.int .i64 aF.Beliefs.Nodes), v22, v23, v24] aF [(.int .i64 aF.Beliefs.Nodes), v32, v33, v34] aF (rd_own (k := 3) hs rfl) (rd_own (k := 0) hs rfl))) ?_)
      refine tZ rfl ?_
      refine ty 4 rfl (by kernel_rfl) rfl (sv rfl rfl (rp rfl) ?_)
      refine tZ rfl ?_
      refine tE (by kernel_rfl) ?_
      refine x_then ?_
      refine D_H ([ov [(.int .i64 aF.Beliefs.Nodes), v32, v33, v34] (aF : Frame), ov [v29] (greatS aF : (List Int)), bx g28 [(.int .i64 aF.Beliefs.Nodes), v22, v23, v24], ov [(.int .i64 aF.Beliefs.Nodes), v22, v23, v24] (aF : Frame), ov [v20] (greatS aF : (List Int)), bx g11 [(.int .i64 aF.Beliefs.Nodes), u1, u3, u5]]) rfl ?_
      refine C_if _ rfl (fun h38 => ?_) (fun h38 => ?_)
      · have h38n : (decide (aF = aF)) = false := not_t h38
        refine C_seq ?_
        refine C_reg ?_
        refine p1 rfl ?_
        refine D_end ?_
        refine x_then ?_
        refine C_ret ?_
        refine x_then_ret ?_
        refine R_1 rfl rfl fun w' hs => ⟨congrArg (fun z => Ending.returned (Value.bool z)) ?_, hs.bel⟩
        show (false : Bool) = true
        first | rfl | (exfalso; omega) | (exfalso; simp only [mapS_len, sumB_mk, sumR_mk] at *; omega) | exact absurd h38 (by simp [mapS_len])
      · have h38n : (decide (aF = aF)) = true := not_f h38
        refine C_skip ?_
        refine x_then ?_
        refine C_seq ?_
        refine C_reg ?_
        refine p1 rfl ?_
        refine D_end ?_
        refine x_then ?_
        refine C_seq ?_
        refine C_reg ?_
        refine q1 rfl (lbw 2 a_34 rfl rfl rfl) ?_
        refine p1 rfl ?_
        refine D_pk (H' := [ov [(.int .i64 aF.Beliefs.Nodes), v22, v23, v24] (aF : Frame), ov [(.int .i64 aF.Beliefs.Nodes), v32, v33, v34] (aF : Frame), ov [v29] (greatS aF : (List Int)), bx g28 [(.int .i64 aF.Beliefs.Nodes), v22, v23, v24], ov [v20] (greatS aF : (List Int)), bx g11 [(.int .i64 aF.Beliefs.Nodes), u1, u3, u5]]) [3, 0, 1, 2, 4, 5] rfl rfl ?_
        refine li rfl (cm b_15 rfl rfl rfl rfl (fun w' hs => laws_markFrame _ _ w' [(.int .i64 aF.Beliefs.Nodes), v22, v23, v24] aF 1 (by first | assumption | omega | (simp only; omega)) (by first | assumption | omega | (simp only; omega)) hs) ?_)
        refine p1 rfl ?_
        refine D_end ?_
        refine x_then ?_
        refine D_H ([ov [(.int .i64 aF.Beliefs.Nodes), v22, v23, v24] (mkFr 1 aF : Frame), ov [(.int .i64 aF.Beliefs.Nodes), v32, v33, v34] (aF : Frame), ov [v29] (greatS aF : (List Int)), bx g28 [(.int .i64 aF.Beliefs.Nodes), v22, v23, v24], ov [v20] (greatS aF : (List Int)), bx g11 [(.int .i64 aF.Beliefs.Nodes), u1, u3, u5]]) rfl ?_
        refine C_seq ?_
        refine C_seq ?_
        refine C_reg ?_
        refine p1 rfl <| p1 rfl <| p1 rfl ?_
        refine gs 37 rfl rfl (fun h39 => ?_) (fun h39 => ?_)
        · have pr39 : ((1 + cFr aF) : Int) < 0 := of_decide_eq_true h39
          refine n1 rfl ?_
          refine n1 rfl ?_
          refine n1 rfl ?_
          refine n1 rfl ?_
          refine p1 rfl ?_
          refine D_end ?_
          refine x_then ?_
          refine D_weak [(1, (.pointer (some ⟨g11, 0, none⟩))), (4, v20), (6, v29), (42, (.bool true))] ⟨rfl, rfl, rfl, rfl, trivial⟩ ?_
          refine D_sel (H' := [ov [v29] (greatS aF : (List Int)), ov [v20] (greatS aF : (List Int)), bx g11 [(.int .i64 aF.Beliefs.Nodes), u1, u3, u5]]) [false, false, true, false, true, true] rfl ?_
          refine C_t rfl ?_
          refine C_seq ?_
          refine C_reg ?_
          refine p1 rfl ?_
          refine D_end ?_
          refine x_then ?_
          refine C_ret ?_
          refine x_then_ret ?_
          refine R_1 rfl rfl fun w' hs => ⟨congrArg (fun z => Ending.returned (Value.bool z)) ?_, hs.bel⟩
          show (false : Bool) = true
          first | rfl | (exfalso; omega) | (exfalso; simp only [mapS_len, sumB_mk, sumR_mk] at *; omega) | exact absurd h39 (by simp [mapS_len])
        · have pr39 : ¬ ((1 + cFr aF) : Int) < 0 := of_decide_eq_false h39
          refine p1 rfl <| p1 rfl ?_
          refine li rfl (cv b_13 rfl rfl rfl rfl (fun w' hs => (laws_eqIntS w' v29 (greatS aF) v20 (greatS aF) (rd_own (k := 2) hs rfl) (rd_own (k := 4) hs rfl))) ?_)
          refine p1 rfl <| p1 rfl ?_
          refine D_end ?_
          refine x_then ?_
          refine D_weak [(1, (.pointer (some ⟨g11, 0, none⟩))), (4, v20), (6, v29), (42, (.bool (!(decide ((greatS aF) = (greatS aF))))))] ⟨rfl, rfl, rfl, rfl, trivial⟩ ?_
          refine D_sel (H' := [ov [v29] (greatS aF : (List Int)), ov [v20] (greatS aF : (List Int)), bx g11 [(.int .i64 aF.Beliefs.Nodes), u1, u3, u5]]) [false, false, true, false, true, true] rfl ?_
          refine C_if _ rfl (fun h40 => ?_) (fun h40 => ?_)
          · have h40n : (decide ((greatS aF) = (greatS aF))) = false := not_t h40
            refine C_seq ?_
            refine C_reg ?_
            refine p1 rfl ?_
            refine D_end ?_
            refine x_then ?_
            refine C_ret ?_
            refine x_then_ret ?_
            refine R_1 rfl rfl fun w' hs => ⟨congrArg (fun z => Ending.returned (Value.bool z)) ?_, hs.bel⟩
            show (false : Bool) = true
            first | rfl | (exfalso; omega) | (exfalso; simp only [mapS_len, sumB_mk, sumR_mk] at *; omega) | exact absurd h40 (by simp [mapS_len])
          · have h40n : (decide ((greatS aF) = (greatS aF))) = true := not_f h40
            refine C_skip ?_
            refine x_then ?_
            refine C_seq ?_
            refine C_reg ?_
            refine p1 rfl ?_
            refine D_end ?_
            refine x_then ?_
            refine C_seq ?_
            refine C_reg ?_
            refine p1 rfl <| p1 rfl ?_
            refine li rfl (cm b_16 rfl rfl rfl rfl (fun w' hs => laws_markIntS _ _ w' v29 (greatS aF) 1 (by first | assumption | omega | (simp only; omega)) (by first | assumption | omega | (simp only; omega)) hs) ?_)
            refine p1 rfl ?_
            refine D_end ?_
            refine x_then ?_
            refine D_H ([ov [v29] (mkI 1 (greatS aF) : (List Int)), ov [v20] (greatS aF : (List Int)), bx g11 [(.int .i64 aF.Beliefs.Nodes), u1, u3, u5]]) rfl ?_
            refine C_seq ?_
            refine C_reg ?_
            refine p1 rfl ?_
            refine D_end ?_
            refine x_then ?_
            refine C_seq ?_
            refine C_reg ?_
            refine p1 rfl <| p1 rfl ?_
            refine li rfl (cv b_17 rfl rfl rfl rfl (fun w' hs => (laws_heldIntS w' v29 (mkI 1 (greatS aF)) 1 (rd_own (k := 0) hs rfl) (by first | assumption | omega | (unfold szm at *; split at * <;> omega)) (by rw [mapS_len]; omega) (mkI_idem _ _))) ?_)
            refine p1 rfl ?_
            refine D_end ?_
            refine x_then ?_
            refine C_seq ?_
            refine C_seq ?_
            refine C_reg ?_
            refine p1 rfl <| p1 rfl ?_
            refine D_end ?_
            refine x_then ?_
            refine C_if _ rfl (fun h41 => ?_) (fun h41 => ?_)
            · have pr41 : ((1 + (mkI 1 (greatS aF)).length) : Int) < 0 := of_decide_eq_true h41
              refine C_seq ?_
              refine C_reg ?_
              refine p1 rfl ?_
              refine D_end ?_
              refine x_then ?_
              refine C_ret ?_
              refine x_then_ret ?_
              refine R_1 rfl rfl fun w' hs => ⟨congrArg (fun z => Ending.returned (Value.bool z)) ?_, hs.bel⟩
              show (false : Bool) = true
              first | rfl | (exfalso; omega) | (exfalso; simp only [mapS_len, sumB_mk, sumR_mk] at *; omega) | exact absurd h41 (by simp [mapS_len])
            · have pr41 : ¬ ((1 + (mkI 1 (greatS aF)).length) : Int) < 0 := of_decide_eq_false h41
              refine C_skip ?_
              refine x_then ?_
              refine C_seq ?_
              refine C_seq ?_
              refine C_reg ?_
              refine p1 rfl <| p1 rfl <| p1 rfl ?_
              refine D_end ?_
              refine x_then ?_
              refine C_if _ rfl (fun h42 => ?_) (fun h42 => ?_)
              · have pr42 : ((1 + (mkI 1 (greatS aF)).length) : Int) ≠ (1 + (greatS aF).length) := bne_iff_ne.1 h42
                refine C_seq ?_
                refine C_reg ?_
                refine p1 rfl ?_
                refine D_end ?_
                refine x_then ?_
                refine D_weak [(2, (.bool false))] ⟨rfl, trivial⟩ ?_
                refine D_sel (H' := []) [false, false, false] rfl ?_
                refine C_ret ?_
                refine x_then_ret ?_
                refine R_1 rfl rfl fun w' hs => ⟨congrArg (fun z => Ending.returned (Value.bool z)) ?_, hs.bel⟩
                show (false : Bool) = true
                first | rfl | (exfalso; omega) | (exfalso; simp only [mapS_len, sumB_mk, sumR_mk] at *; omega) | exact absurd h42 (by simp [mapS_len])
              · have pr42 : ((1 + (mkI 1 (greatS aF)).length) : Int) = (1 + (greatS aF).length) := eq_of_bne_f h42
                refine C_skip ?_
                refine x_then ?_
                refine C_seq ?_
                refine C_reg ?_
                refine q1 rfl (lbw 2 a_27 rfl rfl rfl) ?_
                refine li rfl (crs rfl b_11 rfl rfl rfl rfl (fun w' hs => (laws_toFrame w' [(.int .i64 aF.Beliefs.Nodes), u1, u3, u5] aF (rd_at hs h_aF) (by first | assumption | omega | (unfold szm at *; split at * <;> omega)))) fun cs43 => ?_)
                refine D_pre (fun w' hs => shape_Frame (rd_own (k := 0) hs rfl)) ?_
                rintro ⟨v44, v45, v46, rfl, ho47, ho48, ho49⟩
                refine li rfl (crl b_12 rfl rfl rfl rfl (fun w' hs => (impl_GreatestSets w' [(.int .i64 aF.Beliefs.Nodes), v44, v45, v46] aF (rd_own (k := 0) hs rfl))) fun v50 => ?_)
                refine p1 rfl ?_
                refine D_end ?_
                refine x_then ?_
                refine D_weak [(4, v20), (6, v29), (8, (.int .i64 (1 + (greatS aF).length))), (10, v50)] ⟨rfl, rfl, rfl, rfl, trivial⟩ ?_
                refine D_sel (H' := [ov [v50] (greatS aF : (List Int)), ov [v29] (mkI 1 (greatS aF) : (List Int)), ov [v20] (greatS aF : (List Int))]) [true, false, true, true, false] rfl ?_
                refine C_seq ?_
                refine C_seq ?_
                refine C_reg ?_
                refine p1 rfl <| p1 rfl ?_
                refine li rfl (cv b_13 rfl rfl rfl rfl (fun w' hs => (laws_eqIntS w' v50 (greatS aF) v20 (greatS aF) (rd_own (k := 0) hs rfl) (rd_own (k := 2) hs rfl))) ?_)
                refine p1 rfl ?_
                refine D_end ?_
                refine x_then ?_
                refine C_if _ rfl (fun h51 => ?_) (fun h51 => ?_)
                · have h51n : (decide ((greatS aF) = (greatS aF))) = false := not_t h51
                  refine C_seq ?_
                  refine C_reg ?_
                  refine p1 rfl ?_
                  refine D_end ?_
                  refine x_then ?_
                  refine C_ret ?_
                  refine x_then_ret ?_
                  refine R_1 rfl rfl fun w' hs => ⟨congrArg (fun z => Ending.returned (Value.bool z)) ?_, hs.bel⟩
                  show (false : Bool) = true
                  first | rfl | (exfalso; omega) | (exfalso; simp only [mapS_len, sumB_mk, sumR_mk] at *; omega) | exact absurd h51 (by simp [mapS_len])
                · have h51n : (decide ((greatS aF) = (greatS aF))) = true := not_f h51
                  refine C_skip ?_
                  refine x_then ?_
                  refine C_seq ?_
                  refine C_reg ?_
                  refine p1 rfl ?_
                  refine D_end ?_
                  refine x_then ?_
                  refine C_seq ?_
                  refine C_reg ?_
                  refine p1 rfl <| p1 rfl ?_
                  refine li rfl (cv b_17 rfl rfl rfl rfl (fun w' hs => (laws_heldIntS w' v29 (mkI 1 (greatS aF)) 1 (rd_own (k := 1) hs rfl) (by first | assumption | omega | (unfold szm at *; split at * <;> omega)) (by rw [mapS_len]; omega) (mkI_idem _ _))) ?_)
                  refine p1 rfl ?_
                  refine D_end ?_
                  refine x_then ?_
                  refine C_seq ?_
                  refine C_seq ?_
                  refine C_reg ?_
                  refine p1 rfl <| p1 rfl ?_
                  refine D_end ?_
                  refine x_then ?_
                  refine C_if _ rfl (fun h52 => ?_) (fun h52 => ?_)
                  · have pr52 : ((1 + (mkI 1 (greatS aF)).length) : Int) < 0 := of_decide_eq_true h52
                    refine C_seq ?_
                    refine C_reg ?_
                    refine p1 rfl ?_
                    refine D_end ?_
                    refine x_then ?_
                    refine C_ret ?_
                    refine x_then_ret ?_
                    refine R_1 rfl rfl fun w' hs => ⟨congrArg (fun z => Ending.returned (Value.bool z)) ?_, hs.bel⟩
                    show (false : Bool) = true
                    first | rfl | (exfalso; omega) | (exfalso; simp only [mapS_len, sumB_mk, sumR_mk] at *; omega) | exact absurd h52 (by simp [mapS_len])
                  · have pr52 : ¬ ((1 + (mkI 1 (greatS aF)).length) : Int) < 0 := of_decide_eq_false h52
                    refine C_skip ?_
                    refine x_then ?_
                    refine C_seq ?_
                    refine C_seq ?_
                    refine C_reg ?_
                    refine p1 rfl <| p1 rfl <| p1 rfl ?_
                    refine D_end ?_
                    refine x_then ?_
                    refine D_weak [(68, (.bool (((1 + (mkI 1 (greatS aF)).length) : Int) != (1 + (greatS aF).length))))] ⟨rfl, trivial⟩ ?_
                    refine D_sel (H' := []) [false, false, false] rfl ?_
                    refine C_if _ rfl (fun h53 => ?_) (fun h53 => ?_)
                    · have pr53 : ((1 + (mkI 1 (greatS aF)).length) : Int) ≠ (1 + (greatS aF).length) := bne_iff_ne.1 h53
                      refine C_seq ?_
                      refine C_reg ?_
                      refine p1 rfl ?_
                      refine D_end ?_
                      refine x_then ?_
                      refine C_ret ?_
                      refine x_then_ret ?_
                      refine R_1 rfl rfl fun w' hs => ⟨congrArg (fun z => Ending.returned (Value.bool z)) ?_, hs.bel⟩
                      show (false : Bool) = true
                      first | rfl | (exfalso; omega) | (exfalso; simp only [mapS_len, sumB_mk, sumR_mk] at *; omega) | exact absurd h53 (by simp [mapS_len])
                    · have pr53 : ((1 + (mkI 1 (greatS aF)).length) : Int) = (1 + (greatS aF).length) := eq_of_bne_f h53
                      refine C_skip ?_
                      refine x_then ?_
                      refine C_seq ?_
                      refine C_reg ?_
                      refine p1 rfl ?_
                      refine D_end ?_
                      refine x_then ?_
                      refine C_ret ?_
                      refine R_1 rfl rfl fun w' hs => ⟨congrArg (fun z => Ending.returned (Value.bool z)) ?_, hs.bel⟩
                      show (true : Bool) = true
                      first | rfl | (exfalso; omega) | (exfalso; simp only [mapS_len, sumB_mk, sumR_mk] at *; omega) | exact absurd h53 (by simp [mapS_len])
end Go.Sy.Belf
