/-
  Contracts of functions of the program, walked (printed by a program of ours).
  Conditions: those that each theorem states.
-/
import Derived.Test.YtbdpjgblbbckbaaBelb
import Derived.Test.YtbdpjgblbbckbaaFound
import Derived.Test.YtbdpjgblbbckbaaRep
import Derived.Test.YtbdpjgblbbckbaaPrem
set_option linter.unusedVariables false
set_option maxRecDepth 20000
namespace Go.Sy.Bele
open Go Go.RowKit Go.Proofs Go.Sy
theorem mixed : Try.prog.follows .mixedOrders = true := by kernel_rfl
theorem y_31 : zeroTy Try.prog 31 = some (.agg #[(.int .i64 0), (.slice none 0 0)]) := by kernel_rfl
theorem a_35 : aggTy Try.prog 35 = some 4 := by kernel_rfl
theorem b_37 : hasBody Try.prog 37 = true := by kernel_rfl
theorem z_31 : sizeTy Try.prog 31 = some 2 := by kernel_rfl
theorem a_31 : aggTy Try.prog 31 = some 2 := by kernel_rfl
theorem f_35_0 : fieldOff Try.prog 35 0 = some 0 := by kernel_rfl
theorem f_31_1 : fieldOff Try.prog 31 1 = some 1 := by kernel_rfl
theorem o_29 : oneTy Try.prog 29 = true := by kernel_rfl
theorem s_29 : sliceTy Try.prog 29 = some (57, 3, 56) := by kernel_rfl
theorem f_35_1 : fieldOff Try.prog 35 1 = some 2 := by kernel_rfl
theorem o_25 : oneTy Try.prog 25 = true := by kernel_rfl
theorem s_25 : sliceTy Try.prog 25 = some (3, 1, 8) := by kernel_rfl
theorem b_38 : hasBody Try.prog 38 = true := by kernel_rfl
theorem o_3 : oneTy Try.prog 3 = true := by kernel_rfl
theorem y_3 : zeroTy Try.prog 3 = some (.int .i64 0) := by kernel_rfl
theorem y_57 : zeroTy Try.prog 57 = some (.agg #[(.int .i64 0), (.slice none 0 0), (.slice none 0 0)]) := by kernel_rfl
theorem z_29 : sizeTy Try.prog 29 = some 1 := by kernel_rfl
theorem b_34 : hasBody Try.prog 34 = true := by kernel_rfl
theorem b_35 : hasBody Try.prog 35 = true := by kernel_rfl
theorem a_27 : aggTy Try.prog 27 = some 4 := by kernel_rfl
theorem b_9 : hasBody Try.prog 9 = true := by kernel_rfl
theorem b_11 : hasBody Try.prog 11 = true := by kernel_rfl
theorem b_10 : hasBody Try.prog 10 = true := by kernel_rfl
theorem y_35 : zeroTy Try.prog 35 = some (.agg #[(.int .i64 0), (.slice none 0 0), (.slice none 0 0), (.slice none 0 0)]) := by kernel_rfl
theorem z_35 : sizeTy Try.prog 35 = some 4 := by kernel_rfl
theorem b_12 : hasBody Try.prog 12 = true := by kernel_rfl
theorem b_13 : hasBody Try.prog 13 = true := by kernel_rfl
theorem b_14 : hasBody Try.prog 14 = true := by kernel_rfl
theorem ub_4 : Try.prog.underlying 4 = some .bool := by kernel_rfl
theorem b_15 : hasBody Try.prog 15 = true := by kernel_rfl
theorem b_16 : hasBody Try.prog 16 = true := by kernel_rfl
theorem b_17 : hasBody Try.prog 17 = true := by kernel_rfl
theorem b_18 : hasBody Try.prog 18 = true := by kernel_rfl
theorem b_19 : hasBody Try.prog 19 = true := by kernel_rfl
theorem b_20 : hasBody Try.prog 20 = true := by kernel_rfl
open Go.Sy.Bel1 Go.Sy.Bel2 Go.Sy.Bel3 Go.Sy.Bel4 Go.Sy.Bel5 Go.Sy.Bel6 Go.Sy.Bel7 Go.Sy.Bel8 Go.Sy.Belb
theorem impl_PremisesFrom (w : World) (c_f : List Value) (f : Frame) (h_f : Gd.rd w c_f f) : Calls Try.prog 12 [(.agg c_f.toArray)].toArray w (Res3 w (pfB f : Beliefs) (pfL f : List Int) (pfOk f : Bool)) := by
  obtain ⟨u1, u3, u5, rfl, hu2, hu4, hu6⟩ := open_Frame h_f
  have hm7 := rd_max hu2
  have hm8 := rd_max hu4
  have hm9 := rd_max hu6
  have hb10 := sub_Frame_Beliefs h_f
  refine enter 50 Try.func12 rfl rfl rfl ?_
  refine C_seq ?_
  refine C_reg ?_
  refine li rfl (D_box rfl rfl rfl rfl rfl fun g11 => ?_)
  refine li rfl (D_alloc y_31 rfl rfl rfl rfl fun g12 => ?_)
  refine p1 rfl <| p1 rfl ?_
  refine D_end ?_
  refine x_then ?_
  refine D_H ([bx g12 [(.int .i64 0), (.slice none 0 0)], bx g11 [(.int .i64 f.Beliefs.Nodes), u1, u3, u5]]) rfl ?_
  refine C_seq ?_
  refine C_seq ?_
  refine C_reg ?_
  refine q1 rfl (lbw 1 a_35 rfl rfl rfl) ?_
  refine li rfl (cv b_37 rfl rfl rfl rfl (fun w' hs => (impl_IsFrame w' [(.int .i64 f.Beliefs.Nodes), u1, u3, u5] f (rd_at hs h_f))) ?_)
  refine p1 rfl <| p1 rfl ?_
  refine gs 12 rfl rfl (fun h13 => ?_) (fun h13 => ?_)
  · have h13n : (isFrame f) = false := not_t h13
    refine n1 rfl ?_
    refine n1 rfl ?_
    refine n1 rfl ?_
    refine n1 rfl ?_
    refine n1 rfl ?_
    refine n1 rfl ?_
    refine n1 rfl ?_
    refine n1 rfl ?_
    refine n1 rfl ?_
    refine p1 rfl ?_
    refine D_end ?_
    refine x_then ?_
    refine D_weak [(1, (.pointer (some ⟨g11, 0, none⟩))), (2, (.pointer (some ⟨g12, 0, none⟩))), (22, (.bool true))] ⟨rfl, rfl, rfl, trivial⟩ ?_
    refine C_t rfl ?_
    refine C_seq ?_
    refine C_reg ?_
    refine q1 rfl (D_build (vs := []) (cs := [(.int .i64 0), (.slice none 0 0)]) rfl (fun _ => by kernel_rfl) rfl) ?_
    refine li rfl (D_stb (vs := [(.int .i64 0), (.slice none 0 0)]) (cs' := [(.int .i64 0), (.slice none 0 0)]) 0 z_31 rfl rfl rfl rfl rfl rfl (ocons rfl (ocons rfl onil)) (by simp) rfl ?_)
    refine p1 rfl <| p1 rfl ?_
    refine D_end ?_
    refine x_then ?_
    refine C_ret ?_
    refine x_then_ret ?_
    refine D_nil (α := Reason) ?_
    refine pk_Beliefs (r := (⟨0, []⟩ : Beliefs)) ?_
    refine D_nil (α := Int) ?_
    refine D_fbool false ?_
    refine D_pk (H' := [ov [(.int .i64 0), (.slice none 0 0)] ((⟨0, []⟩ : Beliefs) : Beliefs), ov [(.slice none 0 0)] ([] : (List Int)), ov [(.bool false)] (false : Bool), bx g12 [(.int .i64 0), (.slice none 0 0)], bx g11 [(.int .i64 f.Beliefs.Nodes), u1, u3, u5]]) [2, 1, 0, 3, 4] rfl rfl ?_
    refine R_3g rfl (rvc (cs := [(.int .i64 0), (.slice none 0 0)]) 3 a_31 rfl rfl) (rvt rfl) (rvt rfl) fun w' hs => res3_of (c1 := [(.int .i64 0), (.slice none 0 0)]) (c2 := [(.slice none 0 0)]) (c3 := [(.bool false)]) hs ?_ ?_ ?_
    · show ((⟨0, []⟩ : Beliefs) : Beliefs) = pfB f
      first | exact (pf_f (pf_1 (by assumption))).1 | exact (pf_f (pf_1 (by assumption))).2.1 | exact (pf_f (pf_1 (by assumption))).2.2
    · show ([] : List Int) = pfL f
      first | exact (pf_f (pf_1 (by assumption))).1 | exact (pf_f (pf_1 (by assumption))).2.1 | exact (pf_f (pf_1 (by assumption))).2.2
    · show (false : Bool) = pfOk f
      first | exact (pf_f (pf_1 (by assumption))).1 | exact (pf_f (pf_1 (by assumption))).2.1 | exact (pf_f (pf_1 (by assumption))).2.2
  · have h13n : (isFrame f) = true := not_f h13
    refine q1 rfl (D_fb f_35_0 rfl rfl (q := 0) rfl) ?_
    refine q1 rfl (D_fb f_31_1 rfl rfl (q := 1) rfl) ?_
    refine q1 rfl (lb 1 o_29 rfl rfl rfl rfl) ?_
    refine q1 rfl (D_len s_29 rfl rfl (rd_sl hu2)) ?_
    refine q1 rfl (D_fb f_35_1 rfl rfl (q := 2) rfl) ?_
    refine q1 rfl (lb 1 o_25 rfl rfl rfl rfl) ?_
    refine q1 rfl (D_len s_25 rfl rfl (rd_sl hu4)) ?_
    have hq1 := isB_len (frame_b (f := f) (by assumption))
    have hq2 := frame_al (f := f) (by assumption)
    refine q1 rfl (D_add rfl rfl rfl (r := ((f.Beliefs.Reasons.length + f.Assumed.length : Nat) : Int)) (by omega) (by omega)) ?_
    refine p1 rfl <| p1 rfl ?_
    refine D_end ?_
    refine x_then ?_
    refine D_weak [(1, (.pointer (some ⟨g11, 0, none⟩))), (2, (.pointer (some ⟨g12, 0, none⟩))), (22, (.bool (decide ((60 : Int) < ((f.Beliefs.Reasons.length + f.Assumed.length : Nat) : Int)))))] ⟨rfl, rfl, rfl, trivial⟩ ?_
    refine C_if _ rfl (fun h14 => ?_) (fun h14 => ?_)
    · have pr14 : (60 : Int) < ((f.Beliefs.Reasons.length + f.Assumed.length : Nat) : Int) := of_decide_eq_true h14
      refine C_seq ?_
      refine C_reg ?_
      refine q1 rfl (D_build (vs := []) (cs := [(.int .i64 0), (.slice none 0 0)]) rfl (fun _ => by kernel_rfl) rfl) ?_
      refine li rfl (D_stb (vs := [(.int .i64 0), (.slice none 0 0)]) (cs' := [(.int .i64 0), (.slice none 0 0)]) 0 z_31 rfl rfl rfl rfl rfl rfl (ocons rfl (ocons rfl onil)) (by simp) rfl ?_)
      refine p1 rfl <| p1 rfl ?_
      refine D_end ?_
      refine x_then ?_
      refine C_ret ?_
      refine x_then_ret ?_
      refine D_nil (α := Reason) ?_
      refine pk_Beliefs (r := (⟨0, []⟩ : Beliefs)) ?_
      refine D_nil (α := Int) ?_
      refine D_fbool false ?_
      refine D_pk (H' := [ov [(.int .i64 0), (.slice none 0 0)] ((⟨0, []⟩ : Beliefs) : Beliefs), ov [(.slice none 0 0)] ([] : (List Int)), ov [(.bool false)] (false : Bool), bx g12 [(.int .i64 0), (.slice none 0 0)], bx g11 [(.int .i64 f.Beliefs.Nodes), u1, u3, u5]]) [2, 1, 0, 3, 4] rfl rfl ?_
      refine R_3g rfl (rvc (cs := [(.int .i64 0), (.slice none 0 0)]) 3 a_31 rfl rfl) (rvt rfl) (rvt rfl) fun w' hs => res3_of (c1 := [(.int .i64 0), (.slice none 0 0)]) (c2 := [(.slice none 0 0)]) (c3 := [(.bool false)]) hs ?_ ?_ ?_
      · show ((⟨0, []⟩ : Beliefs) : Beliefs) = pfB f
        first | exact (pf_f (pf_2 (by omega))).1 | exact (pf_f (pf_2 (by omega))).2.1 | exact (pf_f (pf_2 (by omega))).2.2
      · show ([] : List Int) = pfL f
        first | exact (pf_f (pf_2 (by omega))).1 | exact (pf_f (pf_2 (by omega))).2.1 | exact (pf_f (pf_2 (by omega))).2.2
      · show (false : Bool) = pfOk f
        first | exact (pf_f (pf_2 (by omega))).1 | exact (pf_f (pf_2 (by omega))).2.1 | exact (pf_f (pf_2 (by omega))).2.2
    · have pr14 : ¬ (60 : Int) < ((f.Beliefs.Reasons.length + f.Assumed.length : Nat) : Int) := of_decide_eq_false h14
      refine C_skip ?_
      refine x_then ?_
      refine C_seq ?_
      have hfr : isFrame f = true := by assumption
      have hib := frame_b hfr
      have hsz := szB_small hib
      have hrl := isB_len hib
      have hal := frame_al hfr
      refine C_reg ?_
      refine q1 rfl (D_fb f_35_0 rfl rfl (q := 0) rfl) ?_
      refine q1 rfl (lba (es := [(.int .i64 f.Beliefs.Nodes), u1]) 1 a_31 rfl rfl rfl rfl) ?_
      refine li rfl (crs rfl b_38 rfl rfl rfl rfl (fun w' hs => (impl_copyBeliefs w' [(.int .i64 f.Beliefs.Nodes), u1] f.Beliefs (rd_at hs hb10) (by first | assumption | omega | (unfold szm at *; split at * <;> omega)))) fun cs15 => ?_)
      refine D_pre (fun w' hs => shape_Beliefs (rd_own (k := 0) hs rfl)) ?_
      rintro ⟨v16, rfl, ho17⟩
      refine li rfl (D_alloc y_31 rfl rfl rfl rfl fun g18 => ?_)
      refine li rfl (D_stb (vs := [(.int .i64 f.Beliefs.Nodes), v16]) (cs' := [(.int .i64 f.Beliefs.Nodes), v16]) 0 z_31 rfl rfl rfl rfl rfl rfl (ocons rfl (ocons ho17 onil)) (by simp) rfl ?_)
      refine D_end ?_
      refine x_then ?_
      refine D_H ([bx g18 [(.int .i64 f.Beliefs.Nodes), v16], ov [(.int .i64 f.Beliefs.Nodes), v16] (f.Beliefs : Beliefs), bx g12 [(.int .i64 0), (.slice none 0 0)], bx g11 [(.int .i64 f.Beliefs.Nodes), u1, u3, u5]]) rfl ?_
      refine C_seq ?_
      refine C_reg ?_
      refine p1 rfl ?_
      refine D_end ?_
      refine x_then ?_
      refine C_seq ?_
      refine C_seq ?_
      refine C_reg ?_
      refine q1 rfl (D_fb f_35_1 rfl rfl (q := 2) rfl) ?_
      refine q1 rfl (lb 3 o_25 rfl rfl rfl rfl) ?_
      refine q1 rfl (D_len s_25 rfl rfl (rd_sl hu4)) ?_
      refine p1 rfl ?_
      refine D_end ?_
      refine x_then ?_
      refine C_block ?_
      refine D_pk (H' := [ov [(.int .i64 f.Beliefs.Nodes), v16] (f.Beliefs : Beliefs), bx g18 [(.int .i64 f.Beliefs.Nodes), v16], bx g12 [(.int .i64 0), (.slice none 0 0)], bx g11 [(.int .i64 f.Beliefs.Nodes), u1, u3, u5]]) [1, 0, 2, 3] rfl rfl ?_
      refine D_unpair (α := Int) (β := (List Reason)) (c1 := [(.int .i64 f.Beliefs.Nodes)]) (c2 := [v16]) (x := f.Beliefs.Nodes) (y := (f.Beliefs.Reasons)) rfl rfl ?_
      refine D_fd [] 1 rfl ?_
      refine C_loop (fun m_ ac w' => ∃ (k : Nat), ∃ (v : Value), ∃ (vl : Value), (k ≤ f.Assumed.length) ∧ m_ = f.Assumed.length - k ∧ Fits ac 50 [(2, (.pointer (some ⟨g12, 0, none⟩))), (5, (.pointer (some ⟨g18, 0, none⟩))), (6, vl), (28, u3), (29, (.int .i64 ((f.Assumed.length : Nat) : Int))), (30, (.int .i64 ((k : Nat) : Int)))] ∧ St w ([ov [vl] (pfLT f k : (List Int)), ov [v] (pfT f k : (List Reason)), bx g18 [(.int .i64 f.Beliefs.Nodes), v], bx g12 [(.int .i64 0), (.slice none 0 0)], bx g11 [(.int .i64 f.Beliefs.Nodes), u1, u3, u5]]) w') ?_ ?_
      · refine D_nil (α := Int) ?_
        refine D_eq 0 rfl (show ([] : (List Int)) = pfLT f 0 from by rfl) ?_
        refine D_eq 1 rfl (show (f.Beliefs.Reasons : (List Reason)) = pfT f 0 from by exact pfT_zero f) ?_
        refine fun ac w' hf hs => ⟨_, 0, v16, (.slice none 0 0), ?_, rfl, hf.weak ⟨rfl, rfl, rfl, rfl, rfl, rfl, trivial⟩, hs⟩
        · first | assumption | omega | simp
      · rintro m_ ac w' ⟨k, v, vl, hk, rfl, hf, hs⟩
        refine D.use ?_ hf hs
        clear hf hs ac w'
        have hpl := pfT_len (f := f) hk
        have hpl2 := pfLT_len f k
        refine C_seq ?_
        refine C_reg ?_
        refine p1 rfl ?_
        refine D_end ?_
        refine x_then ?_
        refine D_H ([ov [vl] (pfLT f k : (List Int)), ov [v] (pfT f k : (List Reason)), bx g18 [(.int .i64 f.Beliefs.Nodes), v], bx g12 [(.int .i64 0), (.slice none 0 0)], bx g11 [(.int .i64 f.Beliefs.Nodes), u1, u3, u5]]) rfl ?_
        refine C_seq ?_
        refine C_if _ rfl (fun h19 => ?_) (fun h19 => ?_)
        · have pr19 : (((k : Nat) : Int) : Int) < ((f.Assumed.length : Nat) : Int) := of_decide_eq_true h19
          refine C_skip ?_
          refine x_then ?_
          refine C_seq ?_
          refine C_block ?_
          refine C_seq ?_
          refine C_reg ?_
          obtain ⟨x20, hx21⟩ := some_of_lt (l := f.Assumed) (i := k) (by omega)
          obtain ⟨es22, at23, hr24⟩ := rd_elem (n := 1) rfl hu4 hx21
          obtain rfl : es22 = [.int .i64 x20] := hr24
          refine q1 rfl (D_ix (l := f.Assumed) (j := k) s_25 rfl rfl rfl (fun w' hs => (rd_at hs hu4)) rfl (lt_of_some hx21)) ?_
          refine q1 rfl (lr0 o_3 rfl rfl at23 rfl) ?_
          refine p1 rfl ?_
          refine D_end ?_
          refine x_then ?_
          refine C_seq ?_
          refine C_reg ?_
          refine p1 rfl ?_
          refine q1 rfl (D_fb f_31_1 rfl rfl (q := 1) rfl) ?_
          refine q1 rfl (lb 2 o_29 rfl rfl rfl rfl) ?_
          refine q1 rfl (D_leno 1 s_29 rfl rfl rfl) ?_
          refine li rfl (D_bs s_25 y_3 rfl (by decide) (by decide) rfl rfl rfl rfl rfl rfl fun g25 => ?_)
          refine D_fi (((pfT f k).length : Nat) : Int) ?_
          refine D_pk (H' := [ov [vl] (pfLT f k : (List Int)), ov [(.int .i64 (((pfT f k).length : Nat) : Int))] ((((pfT f k).length : Nat) : Int) : Int), bx g25 [(.int .i64 (((pfT f k).length : Nat) : Int))], ov [v] (pfT f k : (List Reason)), bx g18 [(.int .i64 f.Beliefs.Nodes), v], bx g12 [(.int .i64 0), (.slice none 0 0)], bx g11 [(.int .i64 f.Beliefs.Nodes), u1, u3, u5]]) [2, 0, 1, 3, 4, 5, 6] rfl rfl ?_
          refine li rfl (D_ap s_25 y_3 rfl (by decide) rfl rfl rfl rfl rfl rfl (by first | omega | (simp; omega)) (by first | omega | (simp; omega)) fun v26 => ?_)
          refine p1 rfl ?_
          refine D_end ?_
          refine x_then ?_
          refine D_H ([ov [v26] ((pfLT f k) ++ [(((pfT f k).length : Nat) : Int)] : (List Int)), ov [v] (pfT f k : (List Reason)), bx g18 [(.int .i64 f.Beliefs.Nodes), v], bx g12 [(.int .i64 0), (.slice none 0 0)], bx g11 [(.int .i64 f.Beliefs.Nodes), u1, u3, u5]]) rfl ?_
          refine C_reg ?_
          refine q1 rfl (D_fb f_31_1 rfl rfl (q := 1) rfl) ?_
          refine q1 rfl (lb 2 o_29 rfl rfl rfl rfl) ?_
          refine p1 rfl ?_
          refine q1 rfl (D_build (vs := [(0, (.int .i64 x20))]) (cs := [(.int .i64 x20), (.slice none 0 0), (.slice none 0 0)]) rfl (fun _ => by kernel_rfl) rfl) ?_
          refine li rfl (D_bs s_29 y_57 rfl (by decide) (by decide) rfl rfl rfl rfl rfl rfl fun g27 => ?_)
          refine D_nil (α := Int) ?_
          refine D_nil (α := Int) ?_
          refine pk_Reason (r := (⟨x20, [], []⟩ : Reason)) ?_
          refine D_pk (H' := [ov [v] (pfT f k : (List Reason)), ov [(.int .i64 x20), (.slice none 0 0), (.slice none 0 0)] ((⟨x20, [], []⟩ : Reason) : Reason), bx g27 [(.int .i64 x20), (.slice none 0 0), (.slice none 0 0)], ov [v26] ((pfLT f k) ++ [(((pfT f k).length : Nat) : Int)] : (List Int)), bx g18 [(.int .i64 f.Beliefs.Nodes), v], bx g12 [(.int .i64 0), (.slice none 0 0)], bx g11 [(.int .i64 f.Beliefs.Nodes), u1, u3, u5]]) [3, 0, 1, 2, 4, 5, 6] rfl rfl ?_
          refine li rfl (D_ap s_29 y_57 rfl (by decide) rfl rfl rfl rfl rfl rfl (by first | omega | (simp; omega)) (by first | omega | (simp; omega)) fun v28 => ?_)
          refine q1 rfl (D_fb f_31_1 rfl rfl (q := 1) rfl) ?_
          refine D_pre (fun w' hs => one_own (k := 0) hs rfl) ?_
          intro ho29
          refine li rfl (D_stb (vs := [v28]) (cs' := [(.int .i64 f.Beliefs.Nodes), v28]) 2 z_29 rfl rfl rfl rfl rfl (cells_of_one ho29) (ocons ho29 onil) (by simp) rfl ?_)
          refine D_end ?_
          refine x_blk ?_
          refine x_then ?_
          refine D_weak [(2, (.pointer (some ⟨g12, 0, none⟩))), (5, (.pointer (some ⟨g18, 0, none⟩))), (6, v26), (28, u3), (29, (.int .i64 ((f.Assumed.length : Nat) : Int))), (30, (.int .i64 ((k : Nat) : Int)))] ⟨rfl, rfl, rfl, rfl, rfl, rfl, trivial⟩ ?_
          refine D_H ([ov [v28] ((pfT f k) ++ [(⟨x20, [], []⟩ : Reason)] : (List Reason)), ov [v26] ((pfLT f k) ++ [(((pfT f k).length : Nat) : Int)] : (List Int)), bx g18 [(.int .i64 f.Beliefs.Nodes), v28], bx g12 [(.int .i64 0), (.slice none 0 0)], bx g11 [(.int .i64 f.Beliefs.Nodes), u1, u3, u5]]) rfl ?_
          refine C_reg ?_
          refine q1 rfl (D_add rfl rfl rfl (r := ((k + 1 : Nat) : Int)) (by omega) (by omega)) ?_
          refine p1 rfl ?_
          refine D_end ?_
          refine x_then ?_
          refine D_eq 1 rfl (show ((pfLT f k) ++ [(((pfT f k).length : Nat) : Int)] : (List Int)) = pfLT f (k + 1) from by exact pfLT_step hk) ?_
          refine D_eq 0 rfl (show ((pfT f k) ++ [(⟨x20, [], []⟩ : Reason)] : (List Reason)) = pfT f (k + 1) from by exact pfT_step hx21) ?_
          refine fun ac w' hf hs => ⟨_, ?_, k + 1, v28, v26, ?_, rfl, hf.weak ⟨rfl, rfl, rfl, rfl, rfl, rfl, trivial⟩, hs.pk [1, 0, 2, 3, 4] rfl rfl⟩
          · omega
          · first | assumption | omega | simp
        · have pr19 : ¬ (((k : Nat) : Int) : Int) < ((f.Assumed.length : Nat) : Int) := of_decide_eq_false h19
          refine C_exit ?_
          refine x_then_exit ?_
          refine x_then_exit ?_
          refine x_blk_eq ?_
          refine x_then ?_
          refine C_seq ?_
          refine C_reg ?_
          refine q1 rfl (lbw 2 a_31 rfl rfl rfl) ?_
          refine p1 rfl ?_
          refine D_pre (fun w' hs => one_own (k := 1) hs rfl) ?_
          intro ho30
          refine li rfl (D_stb (vs := [(.int .i64 f.Beliefs.Nodes), v]) (cs' := [(.int .i64 f.Beliefs.Nodes), v]) 3 z_31 rfl rfl rfl rfl rfl rfl (ocons rfl (ocons ho30 onil)) (by simp) rfl ?_)
          refine p1 rfl <| p1 rfl ?_
          refine D_end ?_
          refine x_then ?_
          refine D_H ([ov [vl] (pfLT f k : (List Int)), ov [v] (pfT f k : (List Reason)), bx g18 [(.int .i64 f.Beliefs.Nodes), v], bx g12 [(.int .i64 f.Beliefs.Nodes), v], bx g11 [(.int .i64 f.Beliefs.Nodes), u1, u3, u5]]) rfl ?_
          refine C_ret ?_
          refine D_pk (H' := [ov [v] (pfT f k : (List Reason)), ov [vl] (pfLT f k : (List Int)), bx g18 [(.int .i64 f.Beliefs.Nodes), v], bx g12 [(.int .i64 f.Beliefs.Nodes), v], bx g11 [(.int .i64 f.Beliefs.Nodes), u1, u3, u5]]) [1, 0, 2, 3, 4] rfl rfl ?_
          refine pk_Beliefs (r := (⟨f.Beliefs.Nodes, pfT f k⟩ : Beliefs)) ?_
          refine D_fbool true ?_
          refine D_pk (H' := [ov [(.int .i64 f.Beliefs.Nodes), v] ((⟨f.Beliefs.Nodes, pfT f k⟩ : Beliefs) : Beliefs), ov [vl] (pfLT f k : (List Int)), ov [(.bool true)] (true : Bool), bx g18 [(.int .i64 f.Beliefs.Nodes), v], bx g12 [(.int .i64 f.Beliefs.Nodes), v], bx g11 [(.int .i64 f.Beliefs.Nodes), u1, u3, u5]]) [1, 2, 0, 3, 4, 5] rfl rfl ?_
          refine R_3g rfl (rvc (cs := [(.int .i64 f.Beliefs.Nodes), v]) 4 a_31 rfl rfl) (rvt rfl) (rvt rfl) fun w' hs => res3_of (c1 := [(.int .i64 f.Beliefs.Nodes), v]) (c2 := [vl]) (c3 := [(.bool true)]) hs ?_ ?_ ?_
          · show ((⟨f.Beliefs.Nodes, pfT f k⟩ : Beliefs) : Beliefs) = pfB f
            first | exact (pf_t (k := k) hfr (by omega) (by omega)).1 | exact (pf_t (k := k) hfr (by omega) (by omega)).2.1 | exact (pf_t (k := k) hfr (by omega) (by omega)).2.2
          · show (pfLT f k : List Int) = pfL f
            first | exact (pf_t (k := k) hfr (by omega) (by omega)).1 | exact (pf_t (k := k) hfr (by omega) (by omega)).2.1 | exact (pf_t (k := k) hfr (by omega) (by omega)).2.2
          · show (true : Bool) = pfOk f
            first | exact (pf_t (k := k) hfr (by omega) (by omega)).1 | exact (pf_t (k := k) hfr (by omega) (by omega)).2.1 | exact (pf_t (k := k) hfr (by omega) (by omega)).2.2

theorem spec_PremisesFrom (w : World) (c_f : List Value) (f : Frame) (h_f : Gd.rd w c_f f) : Calls Try.prog 10 [(.agg c_f.toArray)].toArray w (Res3 w (pfB f : Beliefs) (pfL f : List Int) (pfOk f : Bool)) := by
  obtain ⟨u1, u3, u5, rfl, hu2, hu4, hu6⟩ := open_Frame h_f
  have hm7 := rd_max hu2
  have hm8 := rd_max hu4
  have hm9 := rd_max hu6
  have hb10 := sub_Frame_Beliefs h_f
  refine enter 54 Try.func10 rfl rfl rfl ?_
  refine C_seq ?_
  refine C_reg ?_
  refine li rfl (D_box rfl rfl rfl rfl rfl fun g11 => ?_)
  refine li rfl (D_alloc y_31 rfl rfl rfl rfl fun g12 => ?_)
  refine p1 rfl <| p1 rfl ?_
  refine D_end ?_
  refine x_then ?_
  refine D_H ([bx g12 [(.int .i64 0), (.slice none 0 0)], bx g11 [(.int .i64 f.Beliefs.Nodes), u1, u3, u5]]) rfl ?_
  refine C_seq ?_
  refine C_seq ?_
  refine C_reg ?_
  refine q1 rfl (lbw 1 a_35 rfl rfl rfl) ?_
  refine li rfl (cv b_34 rfl rfl rfl rfl (fun w' hs => (spec_IsFrame w' [(.int .i64 f.Beliefs.Nodes), u1, u3, u5] f (rd_at hs h_f))) ?_)
  refine p1 rfl <| p1 rfl ?_
  refine gs 11 rfl rfl (fun h13 => ?_) (fun h13 => ?_)
  · have h13n : (isFrameW f) = false := not_t h13
    refine n1 rfl ?_
    refine n1 rfl ?_
    refine n1 rfl ?_
    refine n1 rfl ?_
    refine n1 rfl ?_
    refine n1 rfl ?_
    refine n1 rfl ?_
    refine n1 rfl ?_
    refine n1 rfl ?_
    refine p1 rfl ?_
    refine D_end ?_
    refine x_then ?_
    refine D_weak [(1, (.pointer (some ⟨g11, 0, none⟩))), (2, (.pointer (some ⟨g12, 0, none⟩))), (21, (.bool true))] ⟨rfl, rfl, rfl, trivial⟩ ?_
    refine C_t rfl ?_
    refine C_seq ?_
    refine C_reg ?_
    refine q1 rfl (D_build (vs := []) (cs := [(.int .i64 0), (.slice none 0 0)]) rfl (fun _ => by kernel_rfl) rfl) ?_
    refine li rfl (D_bs0 (α := Int) s_25 rfl rfl rfl fun v14 => ?_)
    refine li rfl (D_stb (vs := [(.int .i64 0), (.slice none 0 0)]) (cs' := [(.int .i64 0), (.slice none 0 0)]) 1 z_31 rfl rfl rfl rfl rfl rfl (ocons rfl (ocons rfl onil)) (by simp) rfl ?_)
    refine p1 rfl <| p1 rfl ?_
    refine D_end ?_
    refine x_then ?_
    refine D_H ([ov [v14] ([] : (List Int)), bx g12 [(.int .i64 0), (.slice none 0 0)], bx g11 [(.int .i64 f.Beliefs.Nodes), u1, u3, u5]]) rfl ?_
    refine C_ret ?_
    refine x_then_ret ?_
    refine D_nil (α := Reason) ?_
    refine pk_Beliefs (r := (⟨0, []⟩ : Beliefs)) ?_
    refine D_fbool false ?_
    refine D_pk (H' := [ov [(.int .i64 0), (.slice none 0 0)] ((⟨0, []⟩ : Beliefs) : Beliefs), ov [v14] ([] : (List Int)), ov [(.bool false)] (false : Bool), bx g12 [(.int .i64 0), (.slice none 0 0)], bx g11 [(.int .i64 f.Beliefs.Nodes), u1, u3, u5]]) [1, 2, 0, 3, 4] rfl rfl ?_
    refine R_3g rfl (rvc (cs := [(.int .i64 0), (.slice none 0 0)]) 3 a_31 rfl rfl) (rvt rfl) (rvt rfl) fun w' hs => res3_of (c1 := [(.int .i64 0), (.slice none 0 0)]) (c2 := [v14]) (c3 := [(.bool false)]) hs ?_ ?_ ?_
    · show ((⟨0, []⟩ : Beliefs) : Beliefs) = pfB f
      first | exact (pf_f (pf_1 (by rw [← isFrameW_eq]; assumption))).1 | exact (pf_f (pf_1 (by rw [← isFrameW_eq]; assumption))).2.1 | exact (pf_f (pf_1 (by rw [← isFrameW_eq]; assumption))).2.2
    · show ([] : List Int) = pfL f
      first | exact (pf_f (pf_1 (by rw [← isFrameW_eq]; assumption))).1 | exact (pf_f (pf_1 (by rw [← isFrameW_eq]; assumption))).2.1 | exact (pf_f (pf_1 (by rw [← isFrameW_eq]; assumption))).2.2
    · show (false : Bool) = pfOk f
      first | exact (pf_f (pf_1 (by rw [← isFrameW_eq]; assumption))).1 | exact (pf_f (pf_1 (by rw [← isFrameW_eq]; assumption))).2.1 | exact (pf_f (pf_1 (by rw [← isFrameW_eq]; assumption))).2.2
  · have h13n : (isFrameW f) = true := not_f h13
    refine q1 rfl (D_fb f_35_0 rfl rfl (q := 0) rfl) ?_
    refine q1 rfl (D_fb f_31_1 rfl rfl (q := 1) rfl) ?_
    refine q1 rfl (lb 1 o_29 rfl rfl rfl rfl) ?_
    refine q1 rfl (D_len s_29 rfl rfl (rd_sl hu2)) ?_
    refine q1 rfl (D_fb f_35_1 rfl rfl (q := 2) rfl) ?_
    refine q1 rfl (lb 1 o_25 rfl rfl rfl rfl) ?_
    refine q1 rfl (D_len s_25 rfl rfl (rd_sl hu4)) ?_
    have hq1 := isB_len (frame_b (frame_w (f := f) (by assumption)))
    have hq2 := frame_al (frame_w (f := f) (by assumption))
    refine q1 rfl (D_add rfl rfl rfl (r := ((f.Beliefs.Reasons.length + f.Assumed.length : Nat) : Int)) (by omega) (by omega)) ?_
    refine p1 rfl <| p1 rfl ?_
    refine D_end ?_
    refine x_then ?_
    refine D_weak [(1, (.pointer (some ⟨g11, 0, none⟩))), (2, (.pointer (some ⟨g12, 0, none⟩))), (21, (.bool (decide ((60 : Int) < ((f.Beliefs.Reasons.length + f.Assumed.length : Nat) : Int)))))] ⟨rfl, rfl, rfl, trivial⟩ ?_
    refine C_if _ rfl (fun h15 => ?_) (fun h15 => ?_)
    · have pr15 : (60 : Int) < ((f.Beliefs.Reasons.length + f.Assumed.length : Nat) : Int) := of_decide_eq_true h15
      refine C_seq ?_
      refine C_reg ?_
      refine q1 rfl (D_build (vs := []) (cs := [(.int .i64 0), (.slice none 0 0)]) rfl (fun _ => by kernel_rfl) rfl) ?_
      refine li rfl (D_bs0 (α := Int) s_25 rfl rfl rfl fun v16 => ?_)
      refine li rfl (D_stb (vs := [(.int .i64 0), (.slice none 0 0)]) (cs' := [(.int .i64 0), (.slice none 0 0)]) 1 z_31 rfl rfl rfl rfl rfl rfl (ocons rfl (ocons rfl onil)) (by simp) rfl ?_)
      refine p1 rfl <| p1 rfl ?_
      refine D_end ?_
      refine x_then ?_
      refine D_H ([ov [v16] ([] : (List Int)), bx g12 [(.int .i64 0), (.slice none 0 0)], bx g11 [(.int .i64 f.Beliefs.Nodes), u1, u3, u5]]) rfl ?_
      refine C_ret ?_
      refine x_then_ret ?_
      refine D_nil (α := Reason) ?_
      refine pk_Beliefs (r := (⟨0, []⟩ : Beliefs)) ?_
      refine D_fbool false ?_
      refine D_pk (H' := [ov [(.int .i64 0), (.slice none 0 0)] ((⟨0, []⟩ : Beliefs) : Beliefs), ov [v16] ([] : (List Int)), ov [(.bool false)] (false : Bool), bx g12 [(.int .i64 0), (.slice none 0 0)], bx g11 [(.int .i64 f.Beliefs.Nodes), u1, u3, u5]]) [1, 2, 0, 3, 4] rfl rfl ?_
      refine R_3g rfl (rvc (cs := [(.int .i64 0), (.slice none 0 0)]) 3 a_31 rfl rfl) (rvt rfl) (rvt rfl) fun w' hs => res3_of (c1 := [(.int .i64 0), (.slice none 0 0)]) (c2 := [v16]) (c3 := [(.bool false)]) hs ?_ ?_ ?_
      · show ((⟨0, []⟩ : Beliefs) : Beliefs) = pfB f
        first | exact (pf_f (pf_2 (by omega))).1 | exact (pf_f (pf_2 (by omega))).2.1 | exact (pf_f (pf_2 (by omega))).2.2
      · show ([] : List Int) = pfL f
        first | exact (pf_f (pf_2 (by omega))).1 | exact (pf_f (pf_2 (by omega))).2.1 | exact (pf_f (pf_2 (by omega))).2.2
      · show (false : Bool) = pfOk f
        first | exact (pf_f (pf_2 (by omega))).1 | exact (pf_f (pf_2 (by omega))).2.1 | exact (pf_f (pf_2 (by omega))).2.2
    · have pr15 : ¬ (60 : Int) < ((f.Beliefs.Reasons.length + f.Assumed.length : Nat) : Int) := of_decide_eq_false h15
      refine C_skip ?_
      refine x_then ?_
      refine C_seq ?_
      have hfr : isFrame f = true := frame_w (by assumption)
      have hib := frame_b hfr
      have hsz := szB_small hib
      have hrl := isB_len hib
      have hal := frame_al hfr
      refine C_reg ?_
      refine q1 rfl (D_fb f_35_0 rfl rfl (q := 0) rfl) ?_
      refine q1 rfl (lba (es := [(.int .i64 f.Beliefs.Nodes), u1]) 1 a_31 rfl rfl rfl rfl) ?_
      refine li rfl (crs rfl b_35 rfl rfl rfl rfl (fun w' hs => (spec_l11Copy w' [(.int .i64 f.Beliefs.Nodes), u1] f.Beliefs (rd_at hs hb10) (by first | assumption | omega | (unfold szm at *; split at * <;> omega)))) fun cs17 => ?_)
      refine D_pre (fun w' hs => shape_Beliefs (rd_own (k := 0) hs rfl)) ?_
      rintro ⟨v18, rfl, ho19⟩
      refine li rfl (D_alloc y_31 rfl rfl rfl rfl fun g20 => ?_)
      refine li rfl (D_stb (vs := [(.int .i64 f.Beliefs.Nodes), v18]) (cs' := [(.int .i64 f.Beliefs.Nodes), v18]) 0 z_31 rfl rfl rfl rfl rfl rfl (ocons rfl (ocons ho19 onil)) (by simp) rfl ?_)
      refine D_end ?_
      refine x_then ?_
      refine D_H ([bx g20 [(.int .i64 f.Beliefs.Nodes), v18], ov [(.int .i64 f.Beliefs.Nodes), v18] (f.Beliefs : Beliefs), bx g12 [(.int .i64 0), (.slice none 0 0)], bx g11 [(.int .i64 f.Beliefs.Nodes), u1, u3, u5]]) rfl ?_
      refine C_seq ?_
      refine C_reg ?_
      refine li rfl (D_bs0 (α := Int) s_25 rfl rfl rfl fun v21 => ?_)
      refine p1 rfl ?_
      refine D_end ?_
      refine x_then ?_
      refine D_H ([ov [v21] ([] : (List Int)), bx g20 [(.int .i64 f.Beliefs.Nodes), v18], ov [(.int .i64 f.Beliefs.Nodes), v18] (f.Beliefs : Beliefs), bx g12 [(.int .i64 0), (.slice none 0 0)], bx g11 [(.int .i64 f.Beliefs.Nodes), u1, u3, u5]]) rfl ?_
      refine C_seq ?_
      refine C_seq ?_
      refine C_reg ?_
      refine p1 rfl ?_
      refine D_end ?_
      refine x_then ?_
      refine C_block ?_
      refine D_pk (H' := [ov [(.int .i64 f.Beliefs.Nodes), v18] (f.Beliefs : Beliefs), ov [v21] ([] : (List Int)), bx g20 [(.int .i64 f.Beliefs.Nodes), v18], bx g12 [(.int .i64 0), (.slice none 0 0)], bx g11 [(.int .i64 f.Beliefs.Nodes), u1, u3, u5]]) [2, 0, 1, 3, 4] rfl rfl ?_
      refine D_unpair (α := Int) (β := (List Reason)) (c1 := [(.int .i64 f.Beliefs.Nodes)]) (c2 := [v18]) (x := f.Beliefs.Nodes) (y := (f.Beliefs.Reasons)) rfl rfl ?_
      refine D_fd [] 1 rfl ?_
      refine C_loop (fun m_ ac w' => ∃ (k : Nat), ∃ (v : Value), ∃ (vl : Value), (k ≤ f.Assumed.length) ∧ m_ = f.Assumed.length - k ∧ Fits ac 54 [(1, (.pointer (some ⟨g11, 0, none⟩))), (2, (.pointer (some ⟨g12, 0, none⟩))), (5, (.pointer (some ⟨g20, 0, none⟩))), (6, vl), (7, (.int .i64 ((k : Nat) : Int)))] ∧ St w ([ov [v] (pfT f k : (List Reason)), ov [vl] (pfLT f k : (List Int)), bx g20 [(.int .i64 f.Beliefs.Nodes), v], bx g12 [(.int .i64 0), (.slice none 0 0)], bx g11 [(.int .i64 f.Beliefs.Nodes), u1, u3, u5]]) w') ?_ ?_
      · refine D_eq 0 rfl (show (f.Beliefs.Reasons : (List Reason)) = pfT f 0 from by exact pfT_zero f) ?_
        refine D_eq 1 rfl (show ([] : (List Int)) = pfLT f 0 from by rfl) ?_
        refine fun ac w' hf hs => ⟨_, 0, v18, v21, ?_, rfl, hf.weak ⟨rfl, rfl, rfl, rfl, rfl, trivial⟩, hs⟩
        · first | assumption | omega | simp
      · rintro m_ ac w' ⟨k, v, vl, hk, rfl, hf, hs⟩
        refine D.use ?_ hf hs
        clear hf hs ac w'
        have hpl := pfT_len (f := f) hk
        have hpl2 := pfLT_len f k
        refine C_seq ?_
        refine C_seq ?_
        refine C_reg ?_
        refine p1 rfl ?_
        refine q1 rfl (D_fb f_35_1 rfl rfl (q := 2) rfl) ?_
        refine q1 rfl (lb 4 o_25 rfl rfl rfl rfl) ?_
        refine q1 rfl (D_len s_25 rfl rfl (rd_sl hu4)) ?_
        refine p1 rfl ?_
        refine D_end ?_
        refine x_then ?_
        refine D_H ([ov [v] (pfT f k : (List Reason)), ov [vl] (pfLT f k : (List Int)), bx g20 [(.int .i64 f.Beliefs.Nodes), v], bx g12 [(.int .i64 0), (.slice none 0 0)], bx g11 [(.int .i64 f.Beliefs.Nodes), u1, u3, u5]]) rfl ?_
        refine C_if _ rfl (fun h22 => ?_) (fun h22 => ?_)
        · have pr22 : (((k : Nat) : Int) : Int) < ((f.Assumed.length : Nat) : Int) := of_decide_eq_true h22
          refine C_skip ?_
          refine x_then ?_
          refine C_seq ?_
          refine C_block ?_
          refine C_seq ?_
          refine C_reg ?_
          refine p1 rfl ?_
          refine q1 rfl (D_fb f_31_1 rfl rfl (q := 1) rfl) ?_
          refine q1 rfl (lb 2 o_29 rfl rfl rfl rfl) ?_
          refine q1 rfl (D_leno 0 s_29 rfl rfl rfl) ?_
          refine li rfl (D_bs s_25 y_3 rfl (by decide) (by decide) rfl rfl rfl rfl rfl rfl fun g23 => ?_)
          refine D_fi (((pfT f k).length : Nat) : Int) ?_
          refine D_pk (H' := [ov [vl] (pfLT f k : (List Int)), ov [(.int .i64 (((pfT f k).length : Nat) : Int))] ((((pfT f k).length : Nat) : Int) : Int), bx g23 [(.int .i64 (((pfT f k).length : Nat) : Int))], ov [v] (pfT f k : (List Reason)), bx g20 [(.int .i64 f.Beliefs.Nodes), v], bx g12 [(.int .i64 0), (.slice none 0 0)], bx g11 [(.int .i64 f.Beliefs.Nodes), u1, u3, u5]]) [3, 0, 1, 2, 4, 5, 6] rfl rfl ?_
          refine li rfl (D_ap s_25 y_3 rfl (by decide) rfl rfl rfl rfl rfl rfl (by first | omega | (simp; omega)) (by first | omega | (simp; omega)) fun v24 => ?_)
          refine p1 rfl ?_
          refine D_end ?_
          refine x_then ?_
          refine D_H ([ov [v24] ((pfLT f k) ++ [(((pfT f k).length : Nat) : Int)] : (List Int)), ov [v] (pfT f k : (List Reason)), bx g20 [(.int .i64 f.Beliefs.Nodes), v], bx g12 [(.int .i64 0), (.slice none 0 0)], bx g11 [(.int .i64 f.Beliefs.Nodes), u1, u3, u5]]) rfl ?_
          refine C_draw mixed [9, 10, 11] (by kernel_rfl) ?_
          refine tk 0 rfl (by kernel_rfl) (by kernel_rfl) (by kernel_rfl) rfl (fun _ hs => hs) (D_fb f_31_1 rfl rfl (q := 1) rfl) ?_
          refine tk 1 rfl (by kernel_rfl) (by kernel_rfl) (by kernel_rfl) rfl (fun _ hs => hs) (lb 2 o_29 rfl rfl rfl rfl) ?_
          refine tk 2 rfl (by kernel_rfl) (by kernel_rfl) (by kernel_rfl) rfl (fun _ hs => hs) (D_fb f_35_1 rfl rfl (q := 2) rfl) ?_
          refine tk 3 rfl (by kernel_rfl) (by kernel_rfl) (by kernel_rfl) rfl (fun _ hs => hs) (lb 4 o_25 rfl rfl rfl rfl) ?_
          refine tk 4 rfl (by kernel_rfl) (by kernel_rfl) (by kernel_rfl) rfl (fun _ hs => hs) (rp rfl) ?_
          obtain ⟨x25, hx26⟩ := some_of_lt (l := f.Assumed) (i := k) (by omega)
          obtain ⟨es27, at28, hr29⟩ := rd_elem (n := 1) rfl hu4 hx26
          obtain rfl : es27 = [.int .i64 x25] := hr29
          refine tk 5 rfl (by kernel_rfl) (by kernel_rfl) (by kernel_rfl) rfl (fun _ hs => hs) (D_ix (l := f.Assumed) (j := k) s_25 rfl rfl rfl (fun w' hs => (rd_at hs hu4)) rfl (lt_of_some hx26)) ?_
          refine tk 6 rfl (by kernel_rfl) (by kernel_rfl) (by kernel_rfl) rfl (fun _ hs => hs) (lr0 o_3 rfl rfl at28 rfl) ?_
          refine tk 7 rfl (by kernel_rfl) (by kernel_rfl) (by kernel_rfl) rfl (fun _ hs => hs) (D_build (vs := [(0, (.int .i64 x25))]) (cs := [(.int .i64 x25), (.slice none 0 0), (.slice none 0 0)]) rfl (fun _ => by kernel_rfl) rfl) ?_
          refine ty 8 rfl (by kernel_rfl) rfl (D_bs s_29 y_57 rfl (by decide) (by decide) rfl rfl rfl rfl rfl rfl fun g30 => ?_)
          refine tS (fun _ hs => hs.pk [1, 2, 3, 4, 5] rfl rfl) ?_
          refine D_nil (α := Int) ?_
          refine D_nil (α := Int) ?_
          refine pk_Reason (r := (⟨x25, [], []⟩ : Reason)) ?_
          refine D_pk (H' := [ov [v] (pfT f k : (List Reason)), ov [(.int .i64 x25), (.slice none 0 0), (.slice none 0 0)] ((⟨x25, [], []⟩ : Reason) : Reason), bx g30 [(.int .i64 x25), (.slice none 0 0), (.slice none 0 0)], ov [v24] ((pfLT f k) ++ [(((pfT f k).length : Nat) : Int)] : (List Int)), bx g20 [(.int .i64 f.Beliefs.Nodes), v], bx g12 [(.int .i64 0), (.slice none 0 0)], bx g11 [(.int .i64 f.Beliefs.Nodes), u1, u3, u5]]) [3, 0, 1, 2, 4, 5, 6] rfl rfl ?_
          refine ty 9 rfl (by kernel_rfl) rfl (D_ap s_29 y_57 rfl (by decide) rfl rfl rfl rfl rfl rfl (by first | omega | (simp; omega)) (by first | omega | (simp; omega)) fun v31 => ?_)
          refine tZ rfl ?_
          refine ty 10 rfl (by kernel_rfl) rfl (sv rfl rfl (D_fb f_31_1 rfl rfl (q := 1) rfl) ?_)
          refine tZ rfl ?_
          refine D_pre (fun w' hs => one_own (k := 0) hs rfl) ?_
          intro ho32
          refine ty 11 rfl (by kernel_rfl) rfl (D_stb (vs := [v31]) (cs' := [(.int .i64 f.Beliefs.Nodes), v31]) 2 z_29 rfl rfl rfl rfl rfl (cells_of_one ho32) (ocons ho32 onil) (by simp) rfl ?_)
          refine tZ rfl ?_
          refine tE (by kernel_rfl) ?_
          refine x_blk ?_
          refine x_then ?_
          refine D_weak [(1, (.pointer (some ⟨g11, 0, none⟩))), (2, (.pointer (some ⟨g12, 0, none⟩))), (5, (.pointer (some ⟨g20, 0, none⟩))), (6, v24), (7, (.int .i64 ((k : Nat) : Int)))] ⟨rfl, rfl, rfl, rfl, rfl, trivial⟩ ?_
          refine D_H ([ov [v31] ((pfT f k) ++ [(⟨x25, [], []⟩ : Reason)] : (List Reason)), ov [v24] ((pfLT f k) ++ [(((pfT f k).length : Nat) : Int)] : (List Int)), bx g20 [(.int .i64 f.Beliefs.Nodes), v31], bx g12 [(.int .i64 0), (.slice none 0 0)], bx g11 [(.int .i64 f.Beliefs.Nodes), u1, u3, u5]]) rfl ?_
          refine C_reg ?_
          refine p1 rfl ?_
          refine q1 rfl (D_add rfl rfl rfl (r := ((k + 1 : Nat) : Int)) (by omega) (by omega)) ?_
          refine p1 rfl ?_
          refine D_end ?_
          refine x_then ?_
          refine D_eq 0 rfl (show ((pfT f k) ++ [(⟨x25, [], []⟩ : Reason)] : (List Reason)) = pfT f (k + 1) from by exact pfT_step hx26) ?_
          refine D_eq 1 rfl (show ((pfLT f k) ++ [(((pfT f k).length : Nat) : Int)] : (List Int)) = pfLT f (k + 1) from by exact pfLT_step hk) ?_
          refine fun ac w' hf hs => ⟨_, ?_, k + 1, v31, v24, ?_, rfl, hf.weak ⟨rfl, rfl, rfl, rfl, rfl, trivial⟩, hs⟩
          · omega
          · first | assumption | omega | simp
        · have pr22 : ¬ (((k : Nat) : Int) : Int) < ((f.Assumed.length : Nat) : Int) := of_decide_eq_false h22
          refine C_exit ?_
          refine x_then_exit ?_
          refine x_then_exit ?_
          refine x_blk_eq ?_
          refine x_then ?_
          refine C_seq ?_
          refine C_reg ?_
          refine q1 rfl (lbw 2 a_31 rfl rfl rfl) ?_
          refine p1 rfl ?_
          refine D_pre (fun w' hs => one_own (k := 0) hs rfl) ?_
          intro ho33
          refine li rfl (D_stb (vs := [(.int .i64 f.Beliefs.Nodes), v]) (cs' := [(.int .i64 f.Beliefs.Nodes), v]) 3 z_31 rfl rfl rfl rfl rfl rfl (ocons rfl (ocons ho33 onil)) (by simp) rfl ?_)
          refine p1 rfl <| p1 rfl ?_
          refine D_end ?_
          refine x_then ?_
          refine D_H ([ov [v] (pfT f k : (List Reason)), ov [vl] (pfLT f k : (List Int)), bx g20 [(.int .i64 f.Beliefs.Nodes), v], bx g12 [(.int .i64 f.Beliefs.Nodes), v], bx g11 [(.int .i64 f.Beliefs.Nodes), u1, u3, u5]]) rfl ?_
          refine C_ret ?_
          refine pk_Beliefs (r := (⟨f.Beliefs.Nodes, pfT f k⟩ : Beliefs)) ?_
          refine D_fbool true ?_
          refine D_pk (H' := [ov [(.int .i64 f.Beliefs.Nodes), v] ((⟨f.Beliefs.Nodes, pfT f k⟩ : Beliefs) : Beliefs), ov [vl] (pfLT f k : (List Int)), ov [(.bool true)] (true : Bool), bx g20 [(.int .i64 f.Beliefs.Nodes), v], bx g12 [(.int .i64 f.Beliefs.Nodes), v], bx g11 [(.int .i64 f.Beliefs.Nodes), u1, u3, u5]]) [1, 2, 0, 3, 4, 5] rfl rfl ?_
          refine R_3g rfl (rvc (cs := [(.int .i64 f.Beliefs.Nodes), v]) 4 a_31 rfl rfl) (rvt rfl) (rvt rfl) fun w' hs => res3_of (c1 := [(.int .i64 f.Beliefs.Nodes), v]) (c2 := [vl]) (c3 := [(.bool true)]) hs ?_ ?_ ?_
          · show ((⟨f.Beliefs.Nodes, pfT f k⟩ : Beliefs) : Beliefs) = pfB f
            first | exact (pf_t (k := k) hfr (by omega) (by omega)).1 | exact (pf_t (k := k) hfr (by omega) (by omega)).2.1 | exact (pf_t (k := k) hfr (by omega) (by omega)).2.2
          · show (pfLT f k : List Int) = pfL f
            first | exact (pf_t (k := k) hfr (by omega) (by omega)).1 | exact (pf_t (k := k) hfr (by omega) (by omega)).2.1 | exact (pf_t (k := k) hfr (by omega) (by omega)).2.2
          · show (true : Bool) = pfOk f
            first | exact (pf_t (k := k) hfr (by omega) (by omega)).1 | exact (pf_t (k := k) hfr (by omega) (by omega)).2.1 | exact (pf_t (k := k) hfr (by omega) (by omega)).2.2

set_option maxHeartbeats 4000000 in
theorem laws_FnExactPremisesFrom (w : World) (c_aF : List Value) (aF : Frame) (h_aF : Gd.rd w c_aF aF) : Calls Try.prog 3 [(.agg c_aF.toArray)].toArray w (Val w (.bool (true))) := by
  obtain ⟨u1, u3, u5, rfl, hu2, hu4, hu6⟩ := open_Frame h_aF
  have hm7 := rd_max hu2
  have hm8 := rd_max hu4
  have hm9 := rd_max hu6
  have hb10 := sub_Frame_Beliefs h_aF
  have hz1 := szF_c aF
  have hz2 := pfB_sum aF
  have hz3 := pfL_len aF
  refine enter 133 Try.func3 rfl rfl rfl ?_
  refine C_seq ?_
  refine C_reg ?_
  refine li rfl (D_box rfl rfl rfl rfl rfl fun g11 => ?_)
  refine p1 rfl ?_
  refine D_end ?_
  refine x_then ?_
  refine D_H ([bx g11 [(.int .i64 aF.Beliefs.Nodes), u1, u3, u5]]) rfl ?_
  refine C_seq ?_
  refine C_reg ?_
  refine p1 rfl ?_
  refine D_end ?_
  refine x_then ?_
  refine C_seq ?_
  refine C_reg ?_
  refine q1 rfl (lbw 0 a_27 rfl rfl rfl) ?_
  refine p1 rfl ?_
  refine li rfl (cv b_9 rfl rfl rfl rfl (fun w' hs => (laws_szFrame w' [(.int .i64 aF.Beliefs.Nodes), u1, u3, u5] aF 1048576 (rd_at hs h_aF) (by first | assumption | omega | (unfold szm at *; split at * <;> omega)) (by first | assumption | omega | (unfold szm at *; split at * <;> omega)))) ?_)
  refine p1 rfl ?_
  refine D_end ?_
  refine x_then ?_
  refine C_seq ?_
  refine C_seq ?_
  refine C_reg ?_
  refine p1 rfl <| p1 rfl ?_
  refine D_end ?_
  refine x_then ?_
  refine C_if _ rfl (fun h12 => ?_) (fun h12 => ?_)
  · have pr12 : ((szm (szF aF) 1048576) : Int) < 0 := of_decide_eq_true h12
    refine C_seq ?_
    refine C_reg ?_
    refine p1 rfl ?_
    refine D_end ?_
    refine x_then ?_
    refine C_ret ?_
    refine x_then_ret ?_
    refine R_1 rfl rfl fun w' hs => ⟨congrArg (fun z => Ending.returned (Value.bool z)) ?_, hs.bel⟩
    show (true : Bool) = true
    first | rfl | (exfalso; omega) | (exfalso; simp only [mapS_len, sumB_mk, sumR_mk] at *; omega) | exact absurd h12 (by simp [mapS_len])
  · have pr12 : ¬ ((szm (szF aF) 1048576) : Int) < 0 := of_decide_eq_false h12
    have pr12z := szm_val (n := (szF aF)) (left := 1048576) pr12
    refine C_skip ?_
    refine x_then ?_
    refine C_seq ?_
    refine C_reg ?_
    refine q1 rfl (lbw 0 a_27 rfl rfl rfl) ?_
    refine li rfl (crs rfl b_11 rfl rfl rfl rfl (fun w' hs => (laws_toFrame w' [(.int .i64 aF.Beliefs.Nodes), u1, u3, u5] aF (rd_at hs h_aF) (by first | assumption | omega | (unfold szm at *; split at * <;> omega)))) fun cs13 => ?_)
    refine D_pre (fun w' hs => shape_Frame (rd_own (k := 0) hs rfl)) ?_
    rintro ⟨v14, v15, v16, rfl, ho17, ho18, ho19⟩
    refine li rfl (cr3 b_10 rfl rfl rfl rfl (fun w' hs => (spec_PremisesFrom w' [(.int .i64 aF.Beliefs.Nodes), v14, v15, v16] aF (rd_own (k := 0) hs rfl))) fun cs20 cs21 cs22 => ?_)
    refine D_pre (fun w' hs => shape_Beliefs (rd_own (k := 0) hs rfl)) ?_
    rintro ⟨v23, rfl, ho24⟩
    refine D_pre (fun w' hs => rd_cell (rd_own (k := 1) hs rfl)) ?_
    rintro ⟨v25, rfl⟩
    refine D_pre (fun w' hs => show cs22 = [(.bool (pfOk aF))] from rd_own (k := 2) hs rfl) ?_
    rintro rfl
    refine D_re 25 (v' := (.tuple #[(.agg #[(.int .i64 ((pfB aF).Nodes)), v23]), v25, (.bool (pfOk aF))])) rfl rfl rfl ?_
    refine D_pk (H' := [ov [(.int .i64 ((pfB aF).Nodes)), v23] (pfB aF : Beliefs), ov [v25] (pfL aF : (List Int)), ov [(.int .i64 aF.Beliefs.Nodes), v14, v15, v16] (aF : Frame), bx g11 [(.int .i64 aF.Beliefs.Nodes), u1, u3, u5]]) [0, 1, 3, 4] rfl rfl ?_
    refine p1 rfl <| p1 rfl <| p1 rfl <| p1 rfl ?_
    refine li rfl (D_alloc y_31 rfl rfl rfl rfl fun g26 => ?_)
    refine li rfl (D_stb (vs := [(.int .i64 ((pfB aF).Nodes)), v23]) (cs' := [(.int .i64 ((pfB aF).Nodes)), v23]) 0 z_31 rfl rfl rfl rfl rfl rfl (ocons rfl (ocons ho24 onil)) (by simp) rfl ?_)
    refine p1 rfl <| p1 rfl ?_
    refine D_end ?_
    refine x_then ?_
    refine D_weak [(1, (.pointer (some ⟨g11, 0, none⟩))), (4, (.pointer (some ⟨g26, 0, none⟩))), (5, v25), (6, (.bool (pfOk aF)))] ⟨rfl, rfl, rfl, rfl, trivial⟩ ?_
    refine D_sel (H' := [bx g26 [(.int .i64 ((pfB aF).Nodes)), v23], ov [(.int .i64 ((pfB aF).Nodes)), v23] (pfB aF : Beliefs), ov [v25] (pfL aF : (List Int)), bx g11 [(.int .i64 aF.Beliefs.Nodes), u1, u3, u5]]) [true, true, true, false, true] rfl ?_
    refine C_seq ?_
    refine C_reg ?_
    refine q1 rfl (lbw 3 a_27 rfl rfl rfl) ?_
    refine li rfl (crs rfl b_11 rfl rfl rfl rfl (fun w' hs => (laws_toFrame w' [(.int .i64 aF.Beliefs.Nodes), u1, u3, u5] aF (rd_at hs h_aF) (by first | assumption | omega | (unfold szm at *; split at * <;> omega)))) fun cs27 => ?_)
    refine D_pre (fun w' hs => shape_Frame (rd_own (k := 0) hs rfl)) ?_
    rintro ⟨v28, v29, v30, rfl, ho31, ho32, ho33⟩
    refine li rfl (D_alloc y_35 rfl rfl rfl rfl fun g34 => ?_)
    refine li rfl (D_stb (vs := [(.int .i64 aF.Beliefs.Nodes), v28, v29, v30]) (cs' := [(.int .i64 aF.Beliefs.Nodes), v28, v29, v30]) 0 z_35 rfl rfl rfl rfl rfl rfl (ocons rfl (ocons ho31 (ocons ho32 (ocons ho33 onil)))) (by simp) rfl ?_)
    refine D_end ?_
    refine x_then ?_
    refine D_H ([bx g34 [(.int .i64 aF.Beliefs.Nodes), v28, v29, v30], ov [(.int .i64 aF.Beliefs.Nodes), v28, v29, v30] (aF : Frame), bx g26 [(.int .i64 ((pfB aF).Nodes)), v23], ov [(.int .i64 ((pfB aF).Nodes)), v23] (pfB aF : Beliefs), ov [v25] (pfL aF : (List Int)), bx g11 [(.int .i64 aF.Beliefs.Nodes), u1, u3, u5]]) rfl ?_
    refine C_seq ?_
    refine C_reg ?_
    refine q1 rfl (lbw 0 a_35 rfl rfl rfl) ?_
    refine li rfl (cr3 b_12 rfl rfl rfl rfl (fun w' hs => (impl_PremisesFrom w' [(.int .i64 aF.Beliefs.Nodes), v28, v29, v30] aF (rd_own (k := 1) hs rfl))) fun cs35 cs36 cs37 => ?_)
    refine D_pre (fun w' hs => shape_Beliefs (rd_own (k := 0) hs rfl)) ?_
    rintro ⟨v38, rfl, ho39⟩
    refine D_pre (fun w' hs => rd_cell (rd_own (k := 1) hs rfl)) ?_
    rintro ⟨v40, rfl⟩
    refine D_pre (fun w' hs => show cs37 = [(.bool (pfOk aF))] from rd_own (k := 2) hs rfl) ?_
    rintro rfl
    refine D_re 33 (v' := (.tuple #[(.agg #[(.int .i64 ((pfB aF).Nodes)), v38]), v40, (.bool (pfOk aF))])) rfl rfl rfl ?_
    refine D_pk (H' := [ov [(.int .i64 ((pfB aF).Nodes)), v38] (pfB aF : Beliefs), ov [v40] (pfL aF : (List Int)), bx g34 [(.int .i64 aF.Beliefs.Nodes), v28, v29, v30], ov [(.int .i64 aF.Beliefs.Nodes), v28, v29, v30] (aF : Frame), bx g26 [(.int .i64 ((pfB aF).Nodes)), v23], ov [(.int .i64 ((pfB aF).Nodes)), v23] (pfB aF : Beliefs), ov [v25] (pfL aF : (List Int)), bx g11 [(.int .i64 aF.Beliefs.Nodes), u1, u3, u5]]) [0, 1, 3, 4, 5, 6, 7, 8] rfl rfl ?_
    refine p1 rfl <| p1 rfl <| p1 rfl <| p1 rfl ?_
    refine li rfl (D_alloc y_31 rfl rfl rfl rfl fun g41 => ?_)
    refine li rfl (D_stb (vs := [(.int .i64 ((pfB aF).Nodes)), v38]) (cs' := [(.int .i64 ((pfB aF).Nodes)), v38]) 0 z_31 rfl rfl rfl rfl rfl rfl (ocons rfl (ocons ho39 onil)) (by simp) rfl ?_)
    refine p1 rfl <| p1 rfl ?_
    refine D_end ?_
    refine x_then ?_
    refine D_H ([bx g41 [(.int .i64 ((pfB aF).Nodes)), v38], ov [(.int .i64 ((pfB aF).Nodes)), v38] (pfB aF : Beliefs), ov [v40] (pfL aF : (List Int)), bx g34 [(.int .i64 aF.Beliefs.Nodes), v28, v29, v30], ov [(.int .i64 aF.Beliefs.Nodes), v28, v29, v30] (aF : Frame), bx g26 [(.int .i64 ((pfB aF).Nodes)), v23], ov [(.int .i64 ((pfB aF).Nodes)), v23] (pfB aF : Beliefs), ov [v25] (pfL aF : (List Int)), bx g11 [(.int .i64 aF.Beliefs.Nodes), u1, u3, u5]]) rfl ?_
    refine C_seq ?_
    refine C_seq ?_
    refine C_reg ?_
    refine q1 rfl (lbw 0 a_31 rfl rfl rfl) ?_
    refine q1 rfl (lbw 5 a_31 rfl rfl rfl) ?_
    refine li rfl (cv b_13 rfl rfl rfl rfl (fun w' hs => (laws_eqBeliefs w' [(.int .i64 ((pfB aF).Nodes)), v38] (pfB aF) [(.int .i64 ((pfB aF).Nodes)), v23] (pfB aF) (rd_own (k := 1) hs rfl) (rd_own (k := 6) hs rfl))) ?_)
    refine p1 rfl <| p1 rfl ?_
    refine gs 41 rfl rfl (fun h42 => ?_) (fun h42 => ?_)
    · have h42n : (decide ((pfB aF) = (pfB aF))) = false := not_t h42
      refine n1 rfl ?_
      refine n1 rfl ?_
      refine n1 rfl ?_
      refine n1 rfl ?_
      refine p1 rfl <| p1 rfl ?_
      refine n1 rfl ?_
      refine n1 rfl ?_
      refine n1 rfl ?_
      refine p1 rfl ?_
      refine D_end ?_
      refine x_then ?_
      refine D_weak [(1, (.pointer (some ⟨g11, 0, none⟩))), (4, (.pointer (some ⟨g26, 0, none⟩))), (5, v25), (6, (.bool (pfOk aF))), (7, (.pointer (some ⟨g34, 0, none⟩))), (8, (.pointer (some ⟨g41, 0, none⟩))), (9, v40), (10, (.bool (pfOk aF))), (51, (.bool true))] ⟨rfl, rfl, rfl, rfl, rfl, rfl, rfl, rfl, rfl, trivial⟩ ?_
      refine C_t rfl ?_
      refine C_seq ?_
      refine C_reg ?_
      refine p1 rfl ?_
      refine D_end ?_
      refine x_then ?_
      refine C_ret ?_
      refine x_then_ret ?_
      refine R_1 rfl rfl fun w' hs => ⟨congrArg (fun z => Ending.returned (Value.bool z)) ?_, hs.bel⟩
      show (false : Bool) = true
      first | rfl | (exfalso; omega) | (exfalso; simp only [mapS_len, sumB_mk, sumR_mk] at *; omega) | exact absurd h42 (by simp [mapS_len])
    · have h42n : (decide ((pfB aF) = (pfB aF))) = true := not_f h42
      refine p1 rfl <| p1 rfl ?_
      refine li rfl (cv b_14 rfl rfl rfl rfl (fun w' hs => (laws_eqIntS w' v40 (pfL aF) v25 (pfL aF) (rd_own (k := 2) hs rfl) (rd_own (k := 7) hs rfl))) ?_)
      refine p1 rfl <| p1 rfl <| p1 rfl ?_
      refine gs 47 rfl rfl (fun h43 => ?_) (fun h43 => ?_)
      · have h43n : (decide ((pfL aF) = (pfL aF))) = false := not_t h43
        refine n1 rfl ?_
        refine n1 rfl ?_
        refine n1 rfl ?_
        refine p1 rfl ?_
        refine D_end ?_
        refine x_then ?_
        refine D_weak [(1, (.pointer (some ⟨g11, 0, none⟩))), (4, (.pointer (some ⟨g26, 0, none⟩))), (5, v25), (6, (.bool (pfOk aF))), (7, (.pointer (some ⟨g34, 0, none⟩))), (8, (.pointer (some ⟨g41, 0, none⟩))), (9, v40), (10, (.bool (pfOk aF))), (51, (.bool true))] ⟨rfl, rfl, rfl, rfl, rfl, rfl, rfl, rfl, rfl, trivial⟩ ?_
        refine C_t rfl ?_
        refine C_seq ?_
        refine C_reg ?_
        refine p1 rfl ?_
        refine D_end ?_
        refine x_then ?_
        refine C_ret ?_
        refine x_then_ret ?_
        refine R_1 rfl rfl fun w' hs => ⟨congrArg (fun z => Ending.returned (Value.bool z)) ?_, hs.bel⟩
        show (false : Bool) = true
        first | rfl | (exfalso; omega) | (exfalso; simp only [mapS_len, sumB_mk, sumR_mk] at *; omega) | exact absurd h43 (by simp [mapS_len])
      · have h43n : (decide ((pfL aF) = (pfL aF))) = true := not_f h43
        refine p1 rfl <| p1 rfl ?_
        refine q1 rfl (D_neB ub_4 rfl rfl rfl) ?_
        refine p1 rfl ?_
        refine D_end ?_
        refine x_then ?_
        refine D_weak [(1, (.pointer (some ⟨g11, 0, none⟩))), (4, (.pointer (some ⟨g26, 0, none⟩))), (5, v25), (6, (.bool (pfOk aF))), (7, (.pointer (some ⟨g34, 0, none⟩))), (8, (.pointer (some ⟨g41, 0, none⟩))), (9, v40), (10, (.bool (pfOk aF))), (51, (.bool (!((pfOk aF) == (pfOk aF)))))] ⟨rfl, rfl, rfl, rfl, rfl, rfl, rfl, rfl, rfl, trivial⟩ ?_
        refine C_if _ rfl (fun h44 => ?_) (fun h44 => ?_)
        · refine C_seq ?_
          refine C_reg ?_
          refine p1 rfl ?_
          refine D_end ?_
          refine x_then ?_
          refine C_ret ?_
          refine x_then_ret ?_
          refine R_1 rfl rfl fun w' hs => ⟨congrArg (fun z => Ending.returned (Value.bool z)) ?_, hs.bel⟩
          show (false : Bool) = true
          first | rfl | (exfalso; omega) | (exfalso; simp only [mapS_len, sumB_mk, sumR_mk] at *; omega) | exact absurd h44 (by simp [mapS_len])
        · have pr44 : (pfOk aF) = (pfOk aF) := beq_of_not h44
          refine C_skip ?_
          refine x_then ?_
          refine C_seq ?_
          refine C_seq ?_
          refine C_draw mixed [3, 4] (by kernel_rfl) ?_
          refine tk 0 rfl (by kernel_rfl) (by kernel_rfl) (by kernel_rfl) rfl (fun _ hs => hs) (lbw 3 a_35 rfl rfl rfl) ?_
          refine tk 1 rfl (by kernel_rfl) (by kernel_rfl) (by kernel_rfl) rfl (fun _ hs => hs) (lbw 8 a_27 rfl rfl rfl) ?_
          refine ty 2 rfl (by kernel_rfl) rfl (crs rfl b_11 rfl rfl rfl rfl (fun w' hs => (laws_toFrame w' [(.int .i64 aF.Beliefs.Nodes), u1, u3, u5] aF (rd_at hs h_aF) (by first | assumption | omega | (unfold szm at *; split at * <;> omega)))) fun cs45 => ?_)
          refine D_pre (fun w' hs => shape_Frame (rd_own (k := 0) hs rfl)) ?_
          rintro ⟨v46, v47, v48, rfl, ho49, ho50, ho51⟩
          refine tS (fun _ hs => hs.pk [1, 2, 3, 4, 5, 6, 7, 8, 9] rfl rfl) ?_
          refine ty 3 rfl (by kernel_rfl) rfl (cv b_15 rfl rfl rfl rfl (fun w' hs => (laws_eqFrame w' [(.int .i64 aF.Beliefs.Nodes), v28, v29, v30] aF [(.int .i64 aF.Beliefs.Nodes), v46, v47, v48] aF (rd_own (k := 5) hs rfl) (rd_own (k := 0) hs rfl))) ?_)
          refine tZ rfl ?_
          refine ty 4 rfl (by kernel_rfl) rfl (sv rfl rfl (rp rfl) ?_)
          refine tZ rfl ?_
          refine tE (by kernel_rfl) ?_
          refine x_then ?_
          refine D_H ([ov [(.int .i64 aF.Beliefs.Nodes), v46, v47, v48] (aF : Frame), bx g41 [(.int .i64 ((pfB aF).Nodes)), v38], ov [(.int .i64 ((pfB aF).Nodes)), v38] (pfB aF : Beliefs), ov [v40] (pfL aF : (List Int)), bx g34 [(.int .i64 aF.Beliefs.Nodes), v28, v29, v30], ov [(.int .i64 aF.Beliefs.Nodes), v28, v29, v30] (aF : Frame), bx g26 [(.int .i64 ((pfB aF).Nodes)), v23], ov [(.int .i64 ((pfB aF).Nodes)), v23] (pfB aF : Beliefs), ov [v25] (pfL aF : (List Int)), bx g11 [(.int .i64 aF.Beliefs.Nodes), u1, u3, u5]]) rfl ?_
          refine C_if _ rfl (fun h52 => ?_) (fun h52 => ?_)
          · have h52n : (decide (aF = aF)) = false := not_t h52
            refine C_seq ?_
            refine C_reg ?_
            refine p1 rfl ?_
            refine D_end ?_
            refine x_then ?_
            refine C_ret ?_
            refine x_then_ret ?_
            refine R_1 rfl rfl fun w' hs => ⟨congrArg (fun z => Ending.returned (Value.bool z)) ?_, hs.bel⟩
            show (false : Bool) = true
            first | rfl | (exfalso; omega) | (exfalso; simp only [mapS_len, sumB_mk, sumR_mk] at *; omega) | exact absurd h52 (by simp [mapS_len])
          · have h52n : (decide (aF = aF)) = true := not_f h52
            refine C_skip ?_
            refine x_then ?_
            refine C_seq ?_
            refine C_reg ?_
            refine p1 rfl ?_
            refine D_end ?_
            refine x_then ?_
            refine C_seq ?_
            refine C_reg ?_
            refine q1 rfl (lbw 4 a_35 rfl rfl rfl) ?_
            refine p1 rfl ?_
            refine D_pk (H' := [ov [(.int .i64 aF.Beliefs.Nodes), v28, v29, v30] (aF : Frame), ov [(.int .i64 aF.Beliefs.Nodes), v46, v47, v48] (aF : Frame), bx g41 [(.int .i64 ((pfB aF).Nodes)), v38], ov [(.int .i64 ((pfB aF).Nodes)), v38] (pfB aF : Beliefs), ov [v40] (pfL aF : (List Int)), bx g34 [(.int .i64 aF.Beliefs.Nodes), v28, v29, v30], bx g26 [(.int .i64 ((pfB aF).Nodes)), v23], ov [(.int .i64 ((pfB aF).Nodes)), v23] (pfB aF : Beliefs), ov [v25] (pfL aF : (List Int)), bx g11 [(.int .i64 aF.Beliefs.Nodes), u1, u3, u5]]) [5, 0, 1, 2, 3, 4, 6, 7, 8, 9] rfl rfl ?_
            refine li rfl (cm b_16 rfl rfl rfl rfl (fun w' hs => laws_markFrame _ _ w' [(.int .i64 aF.Beliefs.Nodes), v28, v29, v30] aF 1 (by first | assumption | omega | (simp only; omega)) (by first | assumption | omega | (simp only; omega)) hs) ?_)
            refine p1 rfl ?_
            refine D_end ?_
            refine x_then ?_
            refine D_H ([ov [(.int .i64 aF.Beliefs.Nodes), v28, v29, v30] (mkFr 1 aF : Frame), ov [(.int .i64 aF.Beliefs.Nodes), v46, v47, v48] (aF : Frame), bx g41 [(.int .i64 ((pfB aF).Nodes)), v38], ov [(.int .i64 ((pfB aF).Nodes)), v38] (pfB aF : Beliefs), ov [v40] (pfL aF : (List Int)), bx g34 [(.int .i64 aF.Beliefs.Nodes), v28, v29, v30], bx g26 [(.int .i64 ((pfB aF).Nodes)), v23], ov [(.int .i64 ((pfB aF).Nodes)), v23] (pfB aF : Beliefs), ov [v25] (pfL aF : (List Int)), bx g11 [(.int .i64 aF.Beliefs.Nodes), u1, u3, u5]]) rfl ?_
            refine C_seq ?_
            refine C_seq ?_
            refine C_reg ?_
            refine p1 rfl <| p1 rfl <| p1 rfl ?_
            refine gs 62 rfl rfl (fun h53 => ?_) (fun h53 => ?_)
            · have pr53 : ((1 + cFr aF) : Int) < 0 := of_decide_eq_true h53
              refine n1 rfl ?_
              refine n1 rfl ?_
              refine n1 rfl ?_
              refine n1 rfl ?_
              refine p1 rfl <| p1 rfl ?_
              refine n1 rfl ?_
              refine n1 rfl ?_
              refine n1 rfl ?_
              refine n1 rfl ?_
              refine p1 rfl <| p1 rfl ?_
              refine n1 rfl ?_
              refine n1 rfl ?_
              refine n1 rfl ?_
              refine p1 rfl ?_
              refine D_end ?_
              refine x_then ?_
              refine D_weak [(1, (.pointer (some ⟨g11, 0, none⟩))), (4, (.pointer (some ⟨g26, 0, none⟩))), (5, v25), (6, (.bool (pfOk aF))), (8, (.pointer (some ⟨g41, 0, none⟩))), (9, v40), (78, (.bool true))] ⟨rfl, rfl, rfl, rfl, rfl, rfl, rfl, trivial⟩ ?_
              refine D_sel (H' := [bx g41 [(.int .i64 ((pfB aF).Nodes)), v38], ov [(.int .i64 ((pfB aF).Nodes)), v38] (pfB aF : Beliefs), ov [v40] (pfL aF : (List Int)), bx g26 [(.int .i64 ((pfB aF).Nodes)), v23], ov [(.int .i64 ((pfB aF).Nodes)), v23] (pfB aF : Beliefs), ov [v25] (pfL aF : (List Int)), bx g11 [(.int .i64 aF.Beliefs.Nodes), u1, u3, u5]]) [false, false, true, true, true, false, true, true, true, true] rfl ?_
              refine C_t rfl ?_
              refine C_seq ?_
              refine C_reg ?_
              refine p1 rfl ?_
              refine D_end ?_
              refine x_then ?_
              refine C_ret ?_
              refine x_then_ret ?_
              refine R_1 rfl rfl fun w' hs => ⟨congrArg (fun z => Ending.returned (Value.bool z)) ?_, hs.bel⟩
              show (false : Bool) = true
              first | rfl | (exfalso; omega) | (exfalso; simp only [mapS_len, sumB_mk, sumR_mk] at *; omega) | exact absurd h53 (by simp [mapS_len])
            · have pr53 : ¬ ((1 + cFr aF) : Int) < 0 := of_decide_eq_false h53
              refine q1 rfl (lbw 2 a_31 rfl rfl rfl) ?_
              refine q1 rfl (lbw 6 a_31 rfl rfl rfl) ?_
              refine li rfl (cv b_13 rfl rfl rfl rfl (fun w' hs => (laws_eqBeliefs w' [(.int .i64 ((pfB aF).Nodes)), v38] (pfB aF) [(.int .i64 ((pfB aF).Nodes)), v23] (pfB aF) (rd_own (k := 3) hs rfl) (rd_own (k := 7) hs rfl))) ?_)
              refine p1 rfl <| p1 rfl <| p1 rfl ?_
              refine gs 68 rfl rfl (fun h54 => ?_) (fun h54 => ?_)
              · have h54n : (decide ((pfB aF) = (pfB aF))) = false := not_t h54
                refine n1 rfl ?_
                refine n1 rfl ?_
                refine n1 rfl ?_
                refine n1 rfl ?_
                refine p1 rfl <| p1 rfl ?_
                refine n1 rfl ?_
                refine n1 rfl ?_
                refine n1 rfl ?_
                refine p1 rfl ?_
                refine D_end ?_
                refine x_then ?_
                refine D_weak [(1, (.pointer (some ⟨g11, 0, none⟩))), (4, (.pointer (some ⟨g26, 0, none⟩))), (5, v25), (6, (.bool (pfOk aF))), (8, (.pointer (some ⟨g41, 0, none⟩))), (9, v40), (78, (.bool true))] ⟨rfl, rfl, rfl, rfl, rfl, rfl, rfl, trivial⟩ ?_
                refine D_sel (H' := [bx g41 [(.int .i64 ((pfB aF).Nodes)), v38], ov [(.int .i64 ((pfB aF).Nodes)), v38] (pfB aF : Beliefs), ov [v40] (pfL aF : (List Int)), bx g26 [(.int .i64 ((pfB aF).Nodes)), v23], ov [(.int .i64 ((pfB aF).Nodes)), v23] (pfB aF : Beliefs), ov [v25] (pfL aF : (List Int)), bx g11 [(.int .i64 aF.Beliefs.Nodes), u1, u3, u5]]) [false, false, true, true, true, false, true, true, true, true] rfl ?_
                refine C_t rfl ?_
                refine C_seq ?_
                refine C_reg ?_
                refine p1 rfl ?_
                refine D_end ?_
                refine x_then ?_
                refine C_ret ?_
                refine x_then_ret ?_
                refine R_1 rfl rfl fun w' hs => ⟨congrArg (fun z => Ending.returned (Value.bool z)) ?_, hs.bel⟩
                show (false : Bool) = true
                first | rfl | (exfalso; omega) | (exfalso; simp only [mapS_len, sumB_mk, sumR_mk] at *; omega) | exact absurd h54 (by simp [mapS_len])
              · have h54n : (decide ((pfB aF) = (pfB aF))) = true := not_f h54
                refine p1 rfl <| p1 rfl ?_
                refine li rfl (cv b_14 rfl rfl rfl rfl (fun w' hs => (laws_eqIntS w' v40 (pfL aF) v25 (pfL aF) (rd_own (k := 4) hs rfl) (rd_own (k := 8) hs rfl))) ?_)
                refine p1 rfl <| p1 rfl <| p1 rfl ?_
                refine gs 74 rfl rfl (fun h55 => ?_) (fun h55 => ?_)
                · have h55n : (decide ((pfL aF) = (pfL aF))) = false := not_t h55
                  refine n1 rfl ?_
                  refine n1 rfl ?_
                  refine n1 rfl ?_
                  refine p1 rfl ?_
                  refine D_end ?_
                  refine x_then ?_
                  refine D_weak [(1, (.pointer (some ⟨g11, 0, none⟩))), (4, (.pointer (some ⟨g26, 0, none⟩))), (5, v25), (6, (.bool (pfOk aF))), (8, (.pointer (some ⟨g41, 0, none⟩))), (9, v40), (78, (.bool true))] ⟨rfl, rfl, rfl, rfl, rfl, rfl, rfl, trivial⟩ ?_
                  refine D_sel (H' := [bx g41 [(.int .i64 ((pfB aF).Nodes)), v38], ov [(.int .i64 ((pfB aF).Nodes)), v38] (pfB aF : Beliefs), ov [v40] (pfL aF : (List Int)), bx g26 [(.int .i64 ((pfB aF).Nodes)), v23], ov [(.int .i64 ((pfB aF).Nodes)), v23] (pfB aF : Beliefs), ov [v25] (pfL aF : (List Int)), bx g11 [(.int .i64 aF.Beliefs.Nodes), u1, u3, u5]]) [false, false, true, true, true, false, true, true, true, true] rfl ?_
                  refine C_t rfl ?_
                  refine C_seq ?_
                  refine C_reg ?_
                  refine p1 rfl ?_
                  refine D_end ?_
                  refine x_then ?_
                  refine C_ret ?_
                  refine x_then_ret ?_
                  refine R_1 rfl rfl fun w' hs => ⟨congrArg (fun z => Ending.returned (Value.bool z)) ?_, hs.bel⟩
                  show (false : Bool) = true
                  first | rfl | (exfalso; omega) | (exfalso; simp only [mapS_len, sumB_mk, sumR_mk] at *; omega) | exact absurd h55 (by simp [mapS_len])
                · have h55n : (decide ((pfL aF) = (pfL aF))) = true := not_f h55
                  refine p1 rfl <| p1 rfl ?_
                  refine q1 rfl (D_neB ub_4 rfl rfl rfl) ?_
                  refine p1 rfl ?_
                  refine D_end ?_
                  refine x_then ?_
                  refine D_weak [(1, (.pointer (some ⟨g11, 0, none⟩))), (4, (.pointer (some ⟨g26, 0, none⟩))), (5, v25), (6, (.bool (pfOk aF))), (8, (.pointer (some ⟨g41, 0, none⟩))), (9, v40), (78, (.bool (!((pfOk aF) == (pfOk aF)))))] ⟨rfl, rfl, rfl, rfl, rfl, rfl, rfl, trivial⟩ ?_
                  refine D_sel (H' := [bx g41 [(.int .i64 ((pfB aF).Nodes)), v38], ov [(.int .i64 ((pfB aF).Nodes)), v38] (pfB aF : Beliefs), ov [v40] (pfL aF : (List Int)), bx g26 [(.int .i64 ((pfB aF).Nodes)), v23], ov [(.int .i64 ((pfB aF).Nodes)), v23] (pfB aF : Beliefs), ov [v25] (pfL aF : (List Int)), bx g11 [(.int .i64 aF.Beliefs.Nodes), u1, u3, u5]]) [false, false, true, true, true, false, true, true, true, true] rfl ?_
                  refine C_if _ rfl (fun h56 => ?_) (fun h56 => ?_)
                  · refine C_seq ?_
                    refine C_reg ?_
                    refine p1 rfl ?_
                    refine D_end ?_
                    refine x_then ?_
                    refine C_ret ?_
                    refine x_then_ret ?_
                    refine R_1 rfl rfl fun w' hs => ⟨congrArg (fun z => Ending.returned (Value.bool z)) ?_, hs.bel⟩
                    show (false : Bool) = true
                    first | rfl | (exfalso; omega) | (exfalso; simp only [mapS_len, sumB_mk, sumR_mk] at *; omega) | exact absurd h56 (by simp [mapS_len])
                  · have pr56 : (pfOk aF) = (pfOk aF) := beq_of_not h56
                    refine C_skip ?_
                    refine x_then ?_
                    refine C_seq ?_
                    refine C_reg ?_
                    refine p1 rfl ?_
                    refine D_end ?_
                    refine x_then ?_
                    refine C_seq ?_
                    refine C_reg ?_
                    refine q1 rfl (lbw 0 a_31 rfl rfl rfl) ?_
                    refine p1 rfl ?_
                    refine D_pk (H' := [ov [(.int .i64 ((pfB aF).Nodes)), v38] (pfB aF : Beliefs), bx g41 [(.int .i64 ((pfB aF).Nodes)), v38], ov [v40] (pfL aF : (List Int)), bx g26 [(.int .i64 ((pfB aF).Nodes)), v23], ov [(.int .i64 ((pfB aF).Nodes)), v23] (pfB aF : Beliefs), ov [v25] (pfL aF : (List Int)), bx g11 [(.int .i64 aF.Beliefs.Nodes), u1, u3, u5]]) [1, 0, 2, 3, 4, 5, 6] rfl rfl ?_
                    refine li rfl (cm b_17 rfl rfl rfl rfl (fun w' hs => laws_markBeliefs _ _ w' [(.int .i64 ((pfB aF).Nodes)), v38] (pfB aF) 1 (by first | assumption | omega | (simp only; omega)) (by first | assumption | omega | (simp only; omega)) hs) ?_)
                    refine p1 rfl ?_
                    refine D_end ?_
                    refine x_then ?_
                    refine D_H ([ov [(.int .i64 ((pfB aF).Nodes)), v38] (mkB 1 (pfB aF) : Beliefs), bx g41 [(.int .i64 ((pfB aF).Nodes)), v38], ov [v40] (pfL aF : (List Int)), bx g26 [(.int .i64 ((pfB aF).Nodes)), v23], ov [(.int .i64 ((pfB aF).Nodes)), v23] (pfB aF : Beliefs), ov [v25] (pfL aF : (List Int)), bx g11 [(.int .i64 aF.Beliefs.Nodes), u1, u3, u5]]) rfl ?_
                    refine C_seq ?_
                    refine C_reg ?_
                    refine p1 rfl <| p1 rfl ?_
                    refine D_pk (H' := [ov [v40] (pfL aF : (List Int)), ov [(.int .i64 ((pfB aF).Nodes)), v38] (mkB 1 (pfB aF) : Beliefs), bx g41 [(.int .i64 ((pfB aF).Nodes)), v38], bx g26 [(.int .i64 ((pfB aF).Nodes)), v23], ov [(.int .i64 ((pfB aF).Nodes)), v23] (pfB aF : Beliefs), ov [v25] (pfL aF : (List Int)), bx g11 [(.int .i64 aF.Beliefs.Nodes), u1, u3, u5]]) [2, 0, 1, 3, 4, 5, 6] rfl rfl ?_
                    refine li rfl (cm b_18 rfl rfl rfl rfl (fun w' hs => laws_markIntS _ _ w' v40 (pfL aF) (1 + sumC cR (pfB aF).Reasons) (by first | assumption | omega | (simp only; omega)) (by first | assumption | omega | (simp only; omega)) hs) ?_)
                    refine p1 rfl ?_
                    refine D_end ?_
                    refine x_then ?_
                    refine D_H ([ov [v40] (mkI (1 + sumC cR (pfB aF).Reasons) (pfL aF) : (List Int)), ov [(.int .i64 ((pfB aF).Nodes)), v38] (mkB 1 (pfB aF) : Beliefs), bx g41 [(.int .i64 ((pfB aF).Nodes)), v38], bx g26 [(.int .i64 ((pfB aF).Nodes)), v23], ov [(.int .i64 ((pfB aF).Nodes)), v23] (pfB aF : Beliefs), ov [v25] (pfL aF : (List Int)), bx g11 [(.int .i64 aF.Beliefs.Nodes), u1, u3, u5]]) rfl ?_
                    refine C_seq ?_
                    refine C_reg ?_
                    refine p1 rfl ?_
                    refine D_end ?_
                    refine x_then ?_
                    refine C_seq ?_
                    refine C_reg ?_
                    refine q1 rfl (lbw 2 a_31 rfl rfl rfl) ?_
                    refine p1 rfl ?_
                    refine li rfl (cv b_19 rfl rfl rfl rfl (fun w' hs => (laws_heldBeliefs w' [(.int .i64 ((pfB aF).Nodes)), v38] (mkB 1 (pfB aF)) 1 (rd_own (k := 1) hs rfl) (by first | assumption | omega | (unfold szm at *; split at * <;> omega)) (by rw [sumB_mk]; omega) (mkRs_idem _ _))) ?_)
                    refine p1 rfl ?_
                    refine D_end ?_
                    refine x_then ?_
                    refine C_seq ?_
                    refine C_seq ?_
                    refine C_reg ?_
                    refine p1 rfl <| p1 rfl ?_
                    refine D_end ?_
                    refine x_then ?_
                    refine C_if _ rfl (fun h57 => ?_) (fun h57 => ?_)
                    · have pr57 : ((1 + sumC cR (mkB 1 (pfB aF)).Reasons) : Int) < 0 := of_decide_eq_true h57
                      refine C_seq ?_
                      refine C_reg ?_
                      refine p1 rfl ?_
                      refine D_end ?_
                      refine x_then ?_
                      refine D_weak [(2, (.bool false))] ⟨rfl, trivial⟩ ?_
                      refine D_sel (H' := []) [false, false, false, false, false, false, false] rfl ?_
                      refine C_ret ?_
                      refine x_then_ret ?_
                      refine R_1 rfl rfl fun w' hs => ⟨congrArg (fun z => Ending.returned (Value.bool z)) ?_, hs.bel⟩
                      show (false : Bool) = true
                      first | rfl | (exfalso; omega) | (exfalso; simp only [mapS_len, sumB_mk, sumR_mk] at *; omega) | exact absurd h57 (by simp [mapS_len])
                    · have pr57 : ¬ ((1 + sumC cR (mkB 1 (pfB aF)).Reasons) : Int) < 0 := of_decide_eq_false h57
                      refine C_skip ?_
                      refine x_then ?_
                      refine C_seq ?_
                      refine C_reg ?_
                      refine p1 rfl <| p1 rfl ?_
                      refine li rfl (cv b_20 rfl rfl rfl rfl (fun w' hs => (laws_heldIntS w' v40 (mkI (1 + sumC cR (pfB aF).Reasons) (pfL aF)) (1 + sumC cR (mkB 1 (pfB aF)).Reasons) (rd_own (k := 0) hs rfl) (by first | assumption | omega | (unfold szm at *; split at * <;> omega)) (by rw [mapS_len, sumB_mk]; omega) (by rw [sumB_mk]; exact mkI_idem _ _))) ?_)
                      refine p1 rfl ?_
                      refine D_end ?_
                      refine x_then ?_
                      refine D_weak [(1, (.pointer (some ⟨g11, 0, none⟩))), (4, (.pointer (some ⟨g26, 0, none⟩))), (5, v25), (6, (.bool (pfOk aF))), (8, (.pointer (some ⟨g41, 0, none⟩))), (9, v40), (12, (.int .i64 ((1 + sumC cR (pfB aF).Reasons) + (pfL aF).length))), (13, (.int .i64 ((1 + sumC cR (mkB 1 (pfB aF)).Reasons) + (mkI (1 + sumC cR (pfB aF).Reasons) (pfL aF)).length)))] ⟨rfl, rfl, rfl, rfl, rfl, rfl, rfl, rfl, trivial⟩ ?_
                      refine C_seq ?_
                      refine C_seq ?_
                      refine C_reg ?_
                      refine p1 rfl <| p1 rfl ?_
                      refine D_end ?_
                      refine x_then ?_
                      refine C_if _ rfl (fun h58 => ?_) (fun h58 => ?_)
                      · have pr58 : (((1 + sumC cR (mkB 1 (pfB aF)).Reasons) + (mkI (1 + sumC cR (pfB aF).Reasons) (pfL aF)).length) : Int) < 0 := of_decide_eq_true h58
                        refine C_seq ?_
                        refine C_reg ?_
                        refine p1 rfl ?_
                        refine D_end ?_
                        refine x_then ?_
                        refine C_ret ?_
                        refine x_then_ret ?_
                        refine R_1 rfl rfl fun w' hs => ⟨congrArg (fun z => Ending.returned (Value.bool z)) ?_, hs.bel⟩
                        show (false : Bool) = true
                        first | rfl | (exfalso; omega) | (exfalso; simp only [mapS_len, sumB_mk, sumR_mk] at *; omega) | exact absurd h58 (by simp [mapS_len])
                      · have pr58 : ¬ (((1 + sumC cR (mkB 1 (pfB aF)).Reasons) + (mkI (1 + sumC cR (pfB aF).Reasons) (pfL aF)).length) : Int) < 0 := of_decide_eq_false h58
                        refine C_skip ?_
                        refine x_then ?_
                        refine C_seq ?_
                        refine C_seq ?_
                        refine C_reg ?_
                        refine p1 rfl <| p1 rfl <| p1 rfl ?_
                        refine D_end ?_
                        refine x_then ?_
                        refine C_if _ rfl (fun h59 => ?_) (fun h59 => ?_)
                        · have pr59 : (((1 + sumC cR (mkB 1 (pfB aF)).Reasons) + (mkI (1 + sumC cR (pfB aF).Reasons) (pfL aF)).length) : Int) ≠ ((1 + sumC cR (pfB aF).Reasons) + (pfL aF).length) := bne_iff_ne.1 h59
                          refine C_seq ?_
                          refine C_reg ?_
                          refine p1 rfl ?_
                          refine D_end ?_
                          refine x_then ?_
                          refine C_ret ?_
                          refine x_then_ret ?_
                          refine R_1 rfl rfl fun w' hs => ⟨congrArg (fun z => Ending.returned (Value.bool z)) ?_, hs.bel⟩
                          show (false : Bool) = true
                          first | rfl | (exfalso; omega) | (exfalso; simp only [mapS_len, sumB_mk, sumR_mk] at *; omega) | exact absurd h59 (by simp [mapS_len])
                        · have pr59 : (((1 + sumC cR (mkB 1 (pfB aF)).Reasons) + (mkI (1 + sumC cR (pfB aF).Reasons) (pfL aF)).length) : Int) = ((1 + sumC cR (pfB aF).Reasons) + (pfL aF).length) := eq_of_bne_f h59
                          refine C_skip ?_
                          refine x_then ?_
                          refine C_seq ?_
                          refine C_reg ?_
                          refine q1 rfl (lbw 6 a_27 rfl rfl rfl) ?_
                          refine li rfl (crs rfl b_11 rfl rfl rfl rfl (fun w' hs => (laws_toFrame w' [(.int .i64 aF.Beliefs.Nodes), u1, u3, u5] aF (rd_at hs h_aF) (by first | assumption | omega | (unfold szm at *; split at * <;> omega)))) fun cs60 => ?_)
                          refine D_pre (fun w' hs => shape_Frame (rd_own (k := 0) hs rfl)) ?_
                          rintro ⟨v61, v62, v63, rfl, ho64, ho65, ho66⟩
                          refine li rfl (cr3 b_12 rfl rfl rfl rfl (fun w' hs => (impl_PremisesFrom w' [(.int .i64 aF.Beliefs.Nodes), v61, v62, v63] aF (rd_own (k := 0) hs rfl))) fun cs67 cs68 cs69 => ?_)
                          refine D_pre (fun w' hs => shape_Beliefs (rd_own (k := 0) hs rfl)) ?_
                          rintro ⟨v70, rfl, ho71⟩
                          refine D_pre (fun w' hs => rd_cell (rd_own (k := 1) hs rfl)) ?_
                          rintro ⟨v72, rfl⟩
                          refine D_pre (fun w' hs => show cs69 = [(.bool (pfOk aF))] from rd_own (k := 2) hs rfl) ?_
                          rintro rfl
                          refine D_re 101 (v' := (.tuple #[(.agg #[(.int .i64 ((pfB aF).Nodes)), v70]), v72, (.bool (pfOk aF))])) rfl rfl rfl ?_
                          refine D_pk (H' := [ov [(.int .i64 ((pfB aF).Nodes)), v70] (pfB aF : Beliefs), ov [v72] (pfL aF : (List Int)), ov [(.int .i64 aF.Beliefs.Nodes), v61, v62, v63] (aF : Frame), ov [v40] (mkI (1 + sumC cR (pfB aF).Reasons) (pfL aF) : (List Int)), ov [(.int .i64 ((pfB aF).Nodes)), v38] (mkB 1 (pfB aF) : Beliefs), bx g41 [(.int .i64 ((pfB aF).Nodes)), v38], bx g26 [(.int .i64 ((pfB aF).Nodes)), v23], ov [(.int .i64 ((pfB aF).Nodes)), v23] (pfB aF : Beliefs), ov [v25] (pfL aF : (List Int)), bx g11 [(.int .i64 aF.Beliefs.Nodes), u1, u3, u5]]) [0, 1, 3, 4, 5, 6, 7, 8, 9, 10] rfl rfl ?_
                          refine p1 rfl <| p1 rfl <| p1 rfl <| p1 rfl ?_
                          refine li rfl (D_alloc y_31 rfl rfl rfl rfl fun g73 => ?_)
                          refine li rfl (D_stb (vs := [(.int .i64 ((pfB aF).Nodes)), v70]) (cs' := [(.int .i64 ((pfB aF).Nodes)), v70]) 0 z_31 rfl rfl rfl rfl rfl rfl (ocons rfl (ocons ho71 onil)) (by simp) rfl ?_)
                          refine p1 rfl <| p1 rfl ?_
                          refine D_end ?_
                          refine x_then ?_
                          refine D_H ([bx g73 [(.int .i64 ((pfB aF).Nodes)), v70], ov [(.int .i64 ((pfB aF).Nodes)), v70] (pfB aF : Beliefs), ov [v72] (pfL aF : (List Int)), ov [(.int .i64 aF.Beliefs.Nodes), v61, v62, v63] (aF : Frame), ov [v40] (mkI (1 + sumC cR (pfB aF).Reasons) (pfL aF) : (List Int)), ov [(.int .i64 ((pfB aF).Nodes)), v38] (mkB 1 (pfB aF) : Beliefs), bx g41 [(.int .i64 ((pfB aF).Nodes)), v38], bx g26 [(.int .i64 ((pfB aF).Nodes)), v23], ov [(.int .i64 ((pfB aF).Nodes)), v23] (pfB aF : Beliefs), ov [v25] (pfL aF : (List Int)), bx g11 [(.int .i64 aF.Beliefs.Nodes), u1, u3, u5]]) rfl ?_
                          refine C_seq ?_
                          refine C_seq ?_
                          refine C_reg ?_
                          refine q1 rfl (lbw 0 a_31 rfl rfl rfl) ?_
                          refine q1 rfl (lbw 7 a_31 rfl rfl rfl) ?_
                          refine li rfl (cv b_13 rfl rfl rfl rfl (fun w' hs => (laws_eqBeliefs w' [(.int .i64 ((pfB aF).Nodes)), v70] (pfB aF) [(.int .i64 ((pfB aF).Nodes)), v23] (pfB aF) (rd_own (k := 1) hs rfl) (rd_own (k := 8) hs rfl))) ?_)
                          refine p1 rfl <| p1 rfl ?_
                          refine gs 109 rfl rfl (fun h74 => ?_) (fun h74 => ?_)
                          · have h74n : (decide ((pfB aF) = (pfB aF))) = false := not_t h74
                            refine n1 rfl ?_
                            refine n1 rfl ?_
                            refine n1 rfl ?_
                            refine n1 rfl ?_
                            refine p1 rfl <| p1 rfl ?_
                            refine n1 rfl ?_
                            refine n1 rfl ?_
                            refine n1 rfl ?_
                            refine p1 rfl ?_
                            refine D_end ?_
                            refine x_then ?_
                            refine D_weak [(8, (.pointer (some ⟨g41, 0, none⟩))), (9, v40), (12, (.int .i64 ((1 + sumC cR (pfB aF).Reasons) + (pfL aF).length))), (119, (.bool true))] ⟨rfl, rfl, rfl, rfl, trivial⟩ ?_
                            refine D_sel (H' := [ov [v40] (mkI (1 + sumC cR (pfB aF).Reasons) (pfL aF) : (List Int)), ov [(.int .i64 ((pfB aF).Nodes)), v38] (mkB 1 (pfB aF) : Beliefs), bx g41 [(.int .i64 ((pfB aF).Nodes)), v38]]) [false, false, false, false, true, true, true, false, false, false, false] rfl ?_
                            refine C_t rfl ?_
                            refine C_seq ?_
                            refine C_reg ?_
                            refine p1 rfl ?_
                            refine D_end ?_
                            refine x_then ?_
                            refine C_ret ?_
                            refine x_then_ret ?_
                            refine R_1 rfl rfl fun w' hs => ⟨congrArg (fun z => Ending.returned (Value.bool z)) ?_, hs.bel⟩
                            show (false : Bool) = true
                            first | rfl | (exfalso; omega) | (exfalso; simp only [mapS_len, sumB_mk, sumR_mk] at *; omega) | exact absurd h74 (by simp [mapS_len])
                          · have h74n : (decide ((pfB aF) = (pfB aF))) = true := not_f h74
                            refine p1 rfl <| p1 rfl ?_
                            refine li rfl (cv b_14 rfl rfl rfl rfl (fun w' hs => (laws_eqIntS w' v72 (pfL aF) v25 (pfL aF) (rd_own (k := 2) hs rfl) (rd_own (k := 9) hs rfl))) ?_)
                            refine p1 rfl <| p1 rfl <| p1 rfl ?_
                            refine gs 115 rfl rfl (fun h75 => ?_) (fun h75 => ?_)
                            · have h75n : (decide ((pfL aF) = (pfL aF))) = false := not_t h75
                              refine n1 rfl ?_
                              refine n1 rfl ?_
                              refine n1 rfl ?_
                              refine p1 rfl ?_
                              refine D_end ?_
                              refine x_then ?_
                              refine D_weak [(8, (.pointer (some ⟨g41, 0, none⟩))), (9, v40), (12, (.int .i64 ((1 + sumC cR (pfB aF).Reasons) + (pfL aF).length))), (119, (.bool true))] ⟨rfl, rfl, rfl, rfl, trivial⟩ ?_
                              refine D_sel (H' := [ov [v40] (mkI (1 + sumC cR (pfB aF).Reasons) (pfL aF) : (List Int)), ov [(.int .i64 ((pfB aF).Nodes)), v38] (mkB 1 (pfB aF) : Beliefs), bx g41 [(.int .i64 ((pfB aF).Nodes)), v38]]) [false, false, false, false, true, true, true, false, false, false, false] rfl ?_
                              refine C_t rfl ?_
                              refine C_seq ?_
                              refine C_reg ?_
                              refine p1 rfl ?_
                              refine D_end ?_
                              refine x_then ?_
                              refine C_ret ?_
                              refine x_then_ret ?_
                              refine R_1 rfl rfl fun w' hs => ⟨congrArg (fun z => Ending.returned (Value.bool z)) ?_, hs.bel⟩
                              show (false : Bool) = true
                              first | rfl | (exfalso; omega) | (exfalso; simp only [mapS_len, sumB_mk, sumR_mk] at *; omega) | exact absurd h75 (by simp [mapS_len])
                            · have h75n : (decide ((pfL aF) = (pfL aF))) = true := not_f h75
                              refine p1 rfl <| p1 rfl ?_
                              refine q1 rfl (D_neB ub_4 rfl rfl rfl) ?_
                              refine p1 rfl ?_
                              refine D_end ?_
                              refine x_then ?_
                              refine D_weak [(8, (.pointer (some ⟨g41, 0, none⟩))), (9, v40), (12, (.int .i64 ((1 + sumC cR (pfB aF).Reasons) + (pfL aF).length))), (119, (.bool (!((pfOk aF) == (pfOk aF)))))] ⟨rfl, rfl, rfl, rfl, trivial⟩ ?_
                              refine D_sel (H' := [ov [v40] (mkI (1 + sumC cR (pfB aF).Reasons) (pfL aF) : (List Int)), ov [(.int .i64 ((pfB aF).Nodes)), v38] (mkB 1 (pfB aF) : Beliefs), bx g41 [(.int .i64 ((pfB aF).Nodes)), v38]]) [false, false, false, false, true, true, true, false, false, false, false] rfl ?_
                              refine C_if _ rfl (fun h76 => ?_) (fun h76 => ?_)
                              · refine C_seq ?_
                                refine C_reg ?_
                                refine p1 rfl ?_
                                refine D_end ?_
                                refine x_then ?_
                                refine C_ret ?_
                                refine x_then_ret ?_
                                refine R_1 rfl rfl fun w' hs => ⟨congrArg (fun z => Ending.returned (Value.bool z)) ?_, hs.bel⟩
                                show (false : Bool) = true
                                first | rfl | (exfalso; omega) | (exfalso; simp only [mapS_len, sumB_mk, sumR_mk] at *; omega) | exact absurd h76 (by simp [mapS_len])
                              · have pr76 : (pfOk aF) = (pfOk aF) := beq_of_not h76
                                refine C_skip ?_
                                refine x_then ?_
                                refine C_seq ?_
                                refine C_reg ?_
                                refine p1 rfl ?_
                                refine D_end ?_
                                refine x_then ?_
                                refine C_seq ?_
                                refine C_reg ?_
                                refine q1 rfl (lbw 2 a_31 rfl rfl rfl) ?_
                                refine p1 rfl ?_
                                refine li rfl (cv b_19 rfl rfl rfl rfl (fun w' hs => (laws_heldBeliefs w' [(.int .i64 ((pfB aF).Nodes)), v38] (mkB 1 (pfB aF)) 1 (rd_own (k := 1) hs rfl) (by first | assumption | omega | (unfold szm at *; split at * <;> omega)) (by rw [sumB_mk]; omega) (mkRs_idem _ _))) ?_)
                                refine p1 rfl ?_
                                refine D_end ?_
                                refine x_then ?_
                                refine C_seq ?_
                                refine C_seq ?_
                                refine C_reg ?_
                                refine p1 rfl <| p1 rfl ?_
                                refine D_end ?_
                                refine x_then ?_
                                refine C_if _ rfl (fun h77 => ?_) (fun h77 => ?_)
                                · have pr77 : ((1 + sumC cR (mkB 1 (pfB aF)).Reasons) : Int) < 0 := of_decide_eq_true h77
                                  refine C_seq ?_
                                  refine C_reg ?_
                                  refine p1 rfl ?_
                                  refine D_end ?_
                                  refine x_then ?_
                                  refine C_ret ?_
                                  refine x_then_ret ?_
                                  refine R_1 rfl rfl fun w' hs => ⟨congrArg (fun z => Ending.returned (Value.bool z)) ?_, hs.bel⟩
                                  show (false : Bool) = true
                                  first | rfl | (exfalso; omega) | (exfalso; simp only [mapS_len, sumB_mk, sumR_mk] at *; omega) | exact absurd h77 (by simp [mapS_len])
                                · have pr77 : ¬ ((1 + sumC cR (mkB 1 (pfB aF)).Reasons) : Int) < 0 := of_decide_eq_false h77
                                  refine C_skip ?_
                                  refine x_then ?_
                                  refine C_seq ?_
                                  refine C_reg ?_
                                  refine p1 rfl <| p1 rfl ?_
                                  refine li rfl (cv b_20 rfl rfl rfl rfl (fun w' hs => (laws_heldIntS w' v40 (mkI (1 + sumC cR (pfB aF).Reasons) (pfL aF)) (1 + sumC cR (mkB 1 (pfB aF)).Reasons) (rd_own (k := 0) hs rfl) (by first | assumption | omega | (unfold szm at *; split at * <;> omega)) (by rw [mapS_len, sumB_mk]; omega) (by rw [sumB_mk]; exact mkI_idem _ _))) ?_)
                                  refine p1 rfl ?_
                                  refine D_end ?_
                                  refine x_then ?_
                                  refine C_seq ?_
                                  refine C_seq ?_
                                  refine C_reg ?_
                                  refine p1 rfl <| p1 rfl ?_
                                  refine D_end ?_
                                  refine x_then ?_
                                  refine C_if _ rfl (fun h78 => ?_) (fun h78 => ?_)
                                  · have pr78 : (((1 + sumC cR (mkB 1 (pfB aF)).Reasons) + (mkI (1 + sumC cR (pfB aF).Reasons) (pfL aF)).length) : Int) < 0 := of_decide_eq_true h78
                                    refine C_seq ?_
                                    refine C_reg ?_
                                    refine p1 rfl ?_
                                    refine D_end ?_
                                    refine x_then ?_
                                    refine D_weak [(2, (.bool false))] ⟨rfl, trivial⟩ ?_
                                    refine D_sel (H' := []) [false, false, false] rfl ?_
                                    refine C_ret ?_
                                    refine x_then_ret ?_
                                    refine R_1 rfl rfl fun w' hs => ⟨congrArg (fun z => Ending.returned (Value.bool z)) ?_, hs.bel⟩
                                    show (false : Bool) = true
                                    first | rfl | (exfalso; omega) | (exfalso; simp only [mapS_len, sumB_mk, sumR_mk] at *; omega) | exact absurd h78 (by simp [mapS_len])
                                  · have pr78 : ¬ (((1 + sumC cR (mkB 1 (pfB aF)).Reasons) + (mkI (1 + sumC cR (pfB aF).Reasons) (pfL aF)).length) : Int) < 0 := of_decide_eq_false h78
                                    refine C_skip ?_
                                    refine x_then ?_
                                    refine C_seq ?_
                                    refine C_seq ?_
                                    refine C_reg ?_
                                    refine p1 rfl <| p1 rfl <| p1 rfl ?_
                                    refine D_end ?_
                                    refine x_then ?_
                                    refine D_weak [(132, (.bool ((((1 + sumC cR (mkB 1 (pfB aF)).Reasons) + (mkI (1 + sumC cR (pfB aF).Reasons) (pfL aF)).length) : Int) != ((1 + sumC cR (pfB aF).Reasons) + (pfL aF).length))))] ⟨rfl, trivial⟩ ?_
                                    refine D_sel (H' := []) [false, false, false] rfl ?_
                                    refine C_if _ rfl (fun h79 => ?_) (fun h79 => ?_)
                                    · have pr79 : (((1 + sumC cR (mkB 1 (pfB aF)).Reasons) + (mkI (1 + sumC cR (pfB aF).Reasons) (pfL aF)).length) : Int) ≠ ((1 + sumC cR (pfB aF).Reasons) + (pfL aF).length) := bne_iff_ne.1 h79
                                      refine C_seq ?_
                                      refine C_reg ?_
                                      refine p1 rfl ?_
                                      refine D_end ?_
                                      refine x_then ?_
                                      refine C_ret ?_
                                      refine x_then_ret ?_
                                      refine R_1 rfl rfl fun w' hs => ⟨congrArg (fun z => Ending.returned (Value.bool z)) ?_, hs.bel⟩
                                      show (false : Bool) = true
                                      first | rfl | (exfalso; omega) | (exfalso; simp only [mapS_len, sumB_mk, sumR_mk] at *; omega) | exact absurd h79 (by simp [mapS_len])
                                    · have pr79 : (((1 + sumC cR (mkB 1 (pfB aF)).Reasons) + (mkI (1 + sumC cR (pfB aF).Reasons) (pfL aF)).length) : Int) = ((1 + sumC cR (pfB aF).Reasons) + (pfL aF).length) := eq_of_bne_f h79
                                      refine C_skip ?_
                                      refine x_then ?_
                                      refine C_seq ?_
                                      refine C_reg ?_
                                      refine p1 rfl ?_
                                      refine D_end ?_
                                      refine x_then ?_
                                      refine C_ret ?_
                                      refine R_1 rfl rfl fun w' hs => ⟨congrArg (fun z => Ending.returned (Value.bool z)) ?_, hs.bel⟩
                                      show (true : Bool) = true
                                      first | rfl | (exfalso; omega) | (exfalso; simp only [mapS_len, sumB_mk, sumR_mk] at *; omega) | exact absurd h79 (by simp [mapS_len])
end Go.Sy.Bele
