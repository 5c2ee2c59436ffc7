/-
  Contracts of functions of the program, walked (printed by a program of ours).
  Conditions: those that each theorem states.
-/
import Derived.Test.YtfpjllklccfliaaBela
import Derived.Test.YtfpjllklccfliaaFrame
set_option linter.unusedVariables false
set_option maxRecDepth 20000
namespace Go.Sy.Belb
open Go Go.RowKit Go.Proofs Go.Sy
theorem mixed : Try.prog.follows .mixedOrders = true := by kernel_rfl
theorem s_25 : sliceTy Try.prog 25 = some (3, 1, 8) := by kernel_rfl
theorem o_3 : oneTy Try.prog 3 = true := by kernel_rfl
theorem y_3 : zeroTy Try.prog 3 = some (.int .i64 0) := by kernel_rfl
theorem f_34_0 : fieldOff Try.prog 34 0 = some 0 := by kernel_rfl
theorem a_32 : aggTy Try.prog 32 = some 2 := by kernel_rfl
theorem b_69 : hasBody Try.prog 69 = true := by kernel_rfl
theorem y_32 : zeroTy Try.prog 32 = some (.agg #[(.int .i64 0), (.slice none 0 0)]) := by kernel_rfl
theorem z_32 : sizeTy Try.prog 32 = some 2 := by kernel_rfl
theorem f_34_1 : fieldOff Try.prog 34 1 = some 2 := by kernel_rfl
theorem o_25 : oneTy Try.prog 25 = true := by kernel_rfl
theorem b_70 : hasBody Try.prog 70 = true := by kernel_rfl
theorem f_32_1 : fieldOff Try.prog 32 1 = some 1 := by kernel_rfl
theorem o_30 : oneTy Try.prog 30 = true := by kernel_rfl
theorem s_30 : sliceTy Try.prog 30 = some (72, 3, 56) := by kernel_rfl
theorem y_72 : zeroTy Try.prog 72 = some (.agg #[(.int .i64 0), (.slice none 0 0), (.slice none 0 0)]) := by kernel_rfl
theorem z_30 : sizeTy Try.prog 30 = some 1 := by kernel_rfl
theorem b_50 : hasBody Try.prog 50 = true := by kernel_rfl
theorem s_42 : sliceTy Try.prog 42 = some (4, 1, 1) := by kernel_rfl
theorem o_4 : oneTy Try.prog 4 = true := by kernel_rfl
theorem f_32_0 : fieldOff Try.prog 32 0 = some 0 := by kernel_rfl
theorem y_4 : zeroTy Try.prog 4 = some (.bool false) := by kernel_rfl
theorem z_4 : sizeTy Try.prog 4 = some 1 := by kernel_rfl
theorem a_72 : aggTy Try.prog 72 = some 3 := by kernel_rfl
theorem z_72 : sizeTy Try.prog 72 = some 3 := by kernel_rfl
theorem f_72_1 : fieldOff Try.prog 72 1 = some 1 := by kernel_rfl
theorem f_72_0 : fieldOff Try.prog 72 0 = some 0 := by kernel_rfl
theorem a_34 : aggTy Try.prog 34 = some 4 := by kernel_rfl
theorem b_65 : hasBody Try.prog 65 = true := by kernel_rfl
theorem b_54 : hasBody Try.prog 54 = true := by kernel_rfl
theorem b_37 : hasBody Try.prog 37 = true := by kernel_rfl
theorem b_66 : hasBody Try.prog 66 = true := by kernel_rfl
theorem f_34_2 : fieldOff Try.prog 34 2 = some 3 := by kernel_rfl
theorem b_24 : hasBody Try.prog 24 = true := by kernel_rfl
theorem b_16 : hasBody Try.prog 16 = true := by kernel_rfl
open Go.Sy.Bel1 Go.Sy.Bel2 Go.Sy.Bel3 Go.Sy.Bel4 Go.Sy.Bel5 Go.Sy.Bel6 Go.Sy.Bel7 Go.Sy.Bel8 Go.Sy.Bel9 Go.Sy.Bela
theorem impl_chosen (w : World) (v_l : Value) (l : (List Int)) (set : Int) (h_l : Gd.rd w [v_l] l) (hl : l.length ≤ 1048576) : Calls Try.prog 70 [v_l, (.int .i64 set)].toArray w (Res w (chs l set : List Int)) := by
  have hm1 := rd_max h_l
  refine enter 26 Try.func70 rfl rfl rfl ?_
  refine C_seq ?_
  refine C_reg ?_
  refine p1 rfl ?_
  refine D_end ?_
  refine x_then ?_
  refine C_seq ?_
  refine C_reg ?_
  refine p1 rfl ?_
  refine D_end ?_
  refine x_then ?_
  refine C_seq ?_
  refine C_seq ?_
  refine C_reg ?_
  refine p1 rfl ?_
  refine q1 rfl (D_len s_25 rfl rfl (rd_sl h_l)) ?_
  refine p1 rfl ?_
  refine D_end ?_
  refine x_then ?_
  refine C_block ?_
  refine C_loop (fun m_ ac w' => ∃ (k : Nat), ∃ (v : Value), (k ≤ l.length) ∧ m_ = l.length - k ∧ Fits ac 26 [(1, (.int .i64 set)), (5, v), (8, v_l), (9, (.int .i64 ((l.length : Nat) : Int))), (10, (.int .i64 ((k : Nat) : Int)))] ∧ St w ([ov [v] (chsT l set k : (List Int))]) w') ?_ ?_
  · refine D_nil (α := Int) ?_
    refine D_eq 0 rfl (show ([] : (List Int)) = chsT l set 0 from by rfl) ?_
    refine fun ac w' hf hs => ⟨_, 0, (.slice none 0 0), ?_, rfl, hf.weak ⟨rfl, rfl, rfl, rfl, rfl, trivial⟩, hs⟩
    · first | assumption | omega | simp
  · rintro m_ ac w' ⟨k, v, hk, rfl, hf, hs⟩
    refine D.use ?_ hf hs
    clear hf hs ac w'
    have hcl : (chsT l set k).length ≤ k := keepT_len _ _ _
    refine C_seq ?_
    refine C_reg ?_
    refine p1 rfl ?_
    refine D_end ?_
    refine x_then ?_
    refine D_H ([ov [v] (chsT l set k : (List Int))]) rfl ?_
    refine C_seq ?_
    refine C_if _ rfl (fun h2 => ?_) (fun h2 => ?_)
    · have pr2 : (((k : Nat) : Int) : Int) < ((l.length : Nat) : Int) := of_decide_eq_true h2
      refine C_skip ?_
      refine x_then ?_
      refine C_seq ?_
      refine C_block ?_
      refine C_seq ?_
      refine C_reg ?_
      refine p1 rfl ?_
      obtain ⟨x3, hx4⟩ := some_of_lt (l := l) (i := k) (by omega)
      obtain ⟨es5, at6, hr7⟩ := rd_elem (n := 1) rfl h_l hx4
      obtain rfl : es5 = [.int .i64 x3] := hr7
      refine q1 rfl (D_ix (l := l) (j := k) s_25 rfl rfl rfl (fun w' hs => (rd_at hs h_l)) rfl (lt_of_some hx4)) ?_
      refine q1 rfl (lr0 o_3 rfl rfl at6 rfl) ?_
      refine p1 rfl <| p1 rfl ?_
      refine D_end ?_
      refine x_then ?_
      refine C_seq ?_
      refine C_reg ?_
      refine p1 rfl <| p1 rfl ?_
      refine q1 rfl (D_shr (k := k) rfl rfl rfl) ?_
      refine q1 rfl (D_and rfl rfl rfl) ?_
      refine p1 rfl ?_
      refine D_end ?_
      refine x_then ?_
      refine C_if _ rfl (fun h8 => ?_) (fun h8 => ?_)
      · have pr8 : ((andZ (shrZ set k) 1) : Int) = 1 := eq_of_beq h8
        refine C_reg ?_
        refine p1 rfl <| p1 rfl ?_
        refine li rfl (D_bs s_25 y_3 rfl (by decide) (by decide) rfl rfl rfl rfl rfl rfl fun g9 => ?_)
        refine D_fi x3 ?_
        refine D_pk (H' := [ov [v] (chsT l set k : (List Int)), ov [(.int .i64 x3)] (x3 : Int), bx g9 [(.int .i64 x3)]]) [2, 0, 1] rfl rfl ?_
        refine li rfl (D_ap s_25 y_3 rfl (by decide) rfl rfl rfl rfl rfl rfl (by first | omega | (simp; omega)) (by first | omega | (simp; omega)) fun v10 => ?_)
        refine p1 rfl ?_
        refine D_end ?_
        refine x_blk ?_
        refine x_then ?_
        refine D_weak [(1, (.int .i64 set)), (5, v10), (8, v_l), (9, (.int .i64 ((l.length : Nat) : Int))), (10, (.int .i64 ((k : Nat) : Int)))] ⟨rfl, rfl, rfl, rfl, rfl, trivial⟩ ?_
        refine D_H ([ov [v10] ((chsT l set k) ++ [x3] : (List Int))]) rfl ?_
        refine C_reg ?_
        refine q1 rfl (D_add rfl rfl rfl (r := ((k + 1 : Nat) : Int)) (by omega) (by omega)) ?_
        refine p1 rfl ?_
        refine D_end ?_
        refine x_then ?_
        refine D_eq 0 rfl (show ((chsT l set k) ++ [x3] : (List Int)) = chsT l set (k + 1) from by first | exact keepT_t hx4 h8 | exact keepT_f h8) ?_
        refine fun ac w' hf hs => ⟨_, ?_, k + 1, v10, ?_, rfl, hf.weak ⟨rfl, rfl, rfl, rfl, rfl, trivial⟩, hs⟩
        · omega
        · first | assumption | omega | simp
      · have pr8 : ((andZ (shrZ set k) 1) : Int) ≠ 1 := ne_of_beq_false h8
        refine C_skip ?_
        refine x_blk ?_
        refine x_then ?_
        refine C_reg ?_
        refine q1 rfl (D_add rfl rfl rfl (r := ((k + 1 : Nat) : Int)) (by omega) (by omega)) ?_
        refine p1 rfl ?_
        refine D_end ?_
        refine x_then ?_
        refine D_eq 0 rfl (show (chsT l set k : (List Int)) = chsT l set (k + 1) from by first | exact keepT_t hx4 h8 | exact keepT_f h8) ?_
        refine fun ac w' hf hs => ⟨_, ?_, k + 1, v, ?_, rfl, hf.weak ⟨rfl, rfl, rfl, rfl, rfl, trivial⟩, hs⟩
        · omega
        · first | assumption | omega | simp
    · have pr2 : ¬ (((k : Nat) : Int) : Int) < ((l.length : Nat) : Int) := of_decide_eq_false h2
      refine C_exit ?_
      refine x_then_exit ?_
      refine x_then_exit ?_
      refine x_blk_eq ?_
      refine x_then ?_
      refine C_seq ?_
      refine C_reg ?_
      refine p1 rfl <| p1 rfl ?_
      refine D_end ?_
      refine x_then ?_
      refine C_ret ?_
      refine R_1 rfl rfl fun w' hs => res_of (k := 0) hs rfl ?_
      show chsT l set k = chs l set
      exact keepT_done (by omega) hk

theorem impl_under (w : World) (c_f : List Value) (f : Frame) (set : Int) (h_f : Gd.rd w c_f f) (hfr : isFrame f = true) : Calls Try.prog 44 [(.agg c_f.toArray), (.int .i64 set)].toArray w (Res w (unds f set : List Bool)) := by
  obtain ⟨u1, u3, u5, rfl, hu2, hu4, hu6⟩ := open_Frame h_f
  have hm7 := rd_max hu2
  have hm8 := rd_max hu4
  have hm9 := rd_max hu6
  have hb10 := sub_Frame_Beliefs h_f
  have hib := frame_b hfr
  have hal := frame_al hfr
  have hrl := isB_len hib
  have hsz := szB_small hib
  have hcl : (chs f.Assumed set).length ≤ f.Assumed.length := keep_len _ _
  refine enter 30 Try.func44 rfl rfl rfl ?_
  refine C_seq ?_
  refine C_reg ?_
  refine li rfl (D_box rfl rfl rfl rfl rfl fun g11 => ?_)
  refine p1 rfl ?_
  refine D_end ?_
  refine x_then ?_
  refine D_H ([bx g11 [(.int .i64 f.Beliefs.Nodes), u1, u3, u5]]) rfl ?_
  refine C_seq ?_
  refine C_reg ?_
  refine q1 rfl (D_fb f_34_0 rfl rfl (q := 0) rfl) ?_
  refine q1 rfl (lba (es := [(.int .i64 f.Beliefs.Nodes), u1]) 0 a_32 rfl rfl rfl rfl) ?_
  refine li rfl (crs rfl b_69 rfl rfl rfl rfl (fun w' hs => (impl_copyBeliefs w' [(.int .i64 f.Beliefs.Nodes), u1] f.Beliefs (rd_at hs hb10) (by first | assumption | omega | (unfold szm at *; split at * <;> omega)))) fun cs12 => ?_)
  refine D_pre (fun w' hs => shape_Beliefs (rd_own (k := 0) hs rfl)) ?_
  rintro ⟨v13, rfl, ho14⟩
  refine li rfl (D_alloc y_32 rfl rfl rfl rfl fun g15 => ?_)
  refine li rfl (D_stb (vs := [(.int .i64 f.Beliefs.Nodes), v13]) (cs' := [(.int .i64 f.Beliefs.Nodes), v13]) 0 z_32 rfl rfl rfl rfl rfl rfl (ocons rfl (ocons ho14 onil)) (by simp) rfl ?_)
  refine D_end ?_
  refine x_then ?_
  refine D_H ([bx g15 [(.int .i64 f.Beliefs.Nodes), v13], ov [(.int .i64 f.Beliefs.Nodes), v13] (f.Beliefs : Beliefs), bx g11 [(.int .i64 f.Beliefs.Nodes), u1, u3, u5]]) rfl ?_
  refine C_seq ?_
  refine C_seq ?_
  refine C_reg ?_
  refine q1 rfl (D_fb f_34_1 rfl rfl (q := 2) rfl) ?_
  refine q1 rfl (lb 2 o_25 rfl rfl rfl rfl) ?_
  refine p1 rfl ?_
  refine li rfl (crl b_70 rfl rfl rfl rfl (fun w' hs => (impl_chosen w' u3 f.Assumed set (rd_at hs hu4) (by first | assumption | omega | (unfold szm at *; split at * <;> omega)))) fun v16 => ?_)
  refine q1 rfl (D_leno 0 s_25 rfl rfl rfl) ?_
  refine p1 rfl ?_
  refine D_end ?_
  refine x_then ?_
  refine D_H ([ov [v16] (chs f.Assumed set : (List Int)), bx g15 [(.int .i64 f.Beliefs.Nodes), v13], ov [(.int .i64 f.Beliefs.Nodes), v13] (f.Beliefs : Beliefs), bx g11 [(.int .i64 f.Beliefs.Nodes), u1, u3, u5]]) rfl ?_
  refine C_block ?_
  refine D_pk (H' := [ov [(.int .i64 f.Beliefs.Nodes), v13] (f.Beliefs : Beliefs), ov [v16] (chs f.Assumed set : (List Int)), bx g15 [(.int .i64 f.Beliefs.Nodes), v13], bx g11 [(.int .i64 f.Beliefs.Nodes), u1, u3, u5]]) [2, 0, 1, 3] rfl rfl ?_
  refine D_unpair (α := Int) (β := (List Reason)) (c1 := [(.int .i64 f.Beliefs.Nodes)]) (c2 := [v13]) (x := f.Beliefs.Nodes) (y := (f.Beliefs.Reasons)) rfl rfl ?_
  refine D_fd [] 1 rfl ?_
  refine C_loop (fun m_ ac w' => ∃ (k : Nat), ∃ (v : Value), (k ≤ (chs f.Assumed set).length) ∧ m_ = (chs f.Assumed set).length - k ∧ Fits ac 30 [(5, (.pointer (some ⟨g15, 0, none⟩))), (14, v16), (15, (.int .i64 (((chs f.Assumed set).length : Nat) : Int))), (16, (.int .i64 ((k : Nat) : Int)))] ∧ St w ([ov [v] (undT f set k : (List Reason)), ov [v16] (chs f.Assumed set : (List Int)), bx g15 [(.int .i64 f.Beliefs.Nodes), v], bx g11 [(.int .i64 f.Beliefs.Nodes), u1, u3, u5]]) w') ?_ ?_
  · refine D_eq 0 rfl (show (f.Beliefs.Reasons : (List Reason)) = undT f set 0 from by exact undT_zero f set) ?_
    refine fun ac w' hf hs => ⟨_, 0, v13, ?_, rfl, hf.weak ⟨rfl, rfl, rfl, rfl, trivial⟩, hs⟩
    · first | assumption | omega | simp
  · rintro m_ ac w' ⟨k, v, hk, rfl, hf, hs⟩
    refine D.use ?_ hf hs
    clear hf hs ac w'
    have hul := undT_len f set k
    refine C_seq ?_
    refine C_reg ?_
    refine p1 rfl ?_
    refine D_end ?_
    refine x_then ?_
    refine D_H ([ov [v] (undT f set k : (List Reason)), ov [v16] (chs f.Assumed set : (List Int)), bx g15 [(.int .i64 f.Beliefs.Nodes), v], bx g11 [(.int .i64 f.Beliefs.Nodes), u1, u3, u5]]) rfl ?_
    refine C_seq ?_
    refine C_if _ rfl (fun h17 => ?_) (fun h17 => ?_)
    · have pr17 : (((k : Nat) : Int) : Int) < (((chs f.Assumed set).length : Nat) : Int) := of_decide_eq_true h17
      refine C_skip ?_
      refine x_then ?_
      refine C_seq ?_
      refine C_block ?_
      refine C_seq ?_
      refine C_reg ?_
      obtain ⟨x18, hx19⟩ := some_of_lt (l := (chs f.Assumed set)) (i := k) (by omega)
      refine q1 rfl (D_ix (l := (chs f.Assumed set)) (j := k) s_25 rfl rfl rfl (fun w' hs => (rd_own (k := 1) hs rfl)) rfl (lt_of_some hx19)) ?_
      refine q1 rfl (lo (α := Int) 1 o_3 rfl rfl rfl hx19) ?_
      refine p1 rfl ?_
      refine D_end ?_
      refine x_then ?_
      refine C_reg ?_
      refine q1 rfl (D_fb f_32_1 rfl rfl (q := 1) rfl) ?_
      refine q1 rfl (lb 2 o_30 rfl rfl rfl rfl) ?_
      refine p1 rfl ?_
      refine q1 rfl (D_build (vs := [(0, (.int .i64 x18))]) (cs := [(.int .i64 x18), (.slice none 0 0), (.slice none 0 0)]) rfl (fun _ => by kernel_rfl) rfl) ?_
      refine li rfl (D_bs s_30 y_72 rfl (by decide) (by decide) rfl rfl rfl rfl rfl rfl fun g20 => ?_)
      refine D_nil (α := Int) ?_
      refine D_nil (α := Int) ?_
      refine pk_Reason (r := (⟨x18, [], []⟩ : Reason)) ?_
      refine D_pk (H' := [ov [v] (undT f set k : (List Reason)), ov [(.int .i64 x18), (.slice none 0 0), (.slice none 0 0)] ((⟨x18, [], []⟩ : Reason) : Reason), bx g20 [(.int .i64 x18), (.slice none 0 0), (.slice none 0 0)], ov [v16] (chs f.Assumed set : (List Int)), bx g15 [(.int .i64 f.Beliefs.Nodes), v], bx g11 [(.int .i64 f.Beliefs.Nodes), u1, u3, u5]]) [2, 0, 1, 3, 4, 5] rfl rfl ?_
      refine li rfl (D_ap s_30 y_72 rfl (by decide) rfl rfl rfl rfl rfl rfl (by first | omega | (simp; omega)) (by first | omega | (simp; omega)) fun v21 => ?_)
      refine q1 rfl (D_fb f_32_1 rfl rfl (q := 1) rfl) ?_
      refine D_pre (fun w' hs => one_own (k := 0) hs rfl) ?_
      intro ho22
      refine li rfl (D_stb (vs := [v21]) (cs' := [(.int .i64 f.Beliefs.Nodes), v21]) 2 z_30 rfl rfl rfl rfl rfl (cells_of_one ho22) (ocons ho22 onil) (by simp) rfl ?_)
      refine D_end ?_
      refine x_blk ?_
      refine x_then ?_
      refine D_H ([ov [v21] ((undT f set k) ++ [(⟨x18, [], []⟩ : Reason)] : (List Reason)), ov [v16] (chs f.Assumed set : (List Int)), bx g15 [(.int .i64 f.Beliefs.Nodes), v21], bx g11 [(.int .i64 f.Beliefs.Nodes), u1, u3, u5]]) rfl ?_
      refine C_reg ?_
      refine q1 rfl (D_add rfl rfl rfl (r := ((k + 1 : Nat) : Int)) (by omega) (by omega)) ?_
      refine p1 rfl ?_
      refine D_end ?_
      refine x_then ?_
      refine D_eq 0 rfl (show ((undT f set k) ++ [(⟨x18, [], []⟩ : Reason)] : (List Reason)) = undT f set (k + 1) from by exact undT_step hx19) ?_
      refine fun ac w' hf hs => ⟨_, ?_, k + 1, v21, ?_, rfl, hf.weak ⟨rfl, rfl, rfl, rfl, trivial⟩, hs⟩
      · omega
      · first | assumption | omega | simp
    · have pr17 : ¬ (((k : Nat) : Int) : Int) < (((chs f.Assumed set).length : Nat) : Int) := of_decide_eq_false h17
      refine C_exit ?_
      refine x_then_exit ?_
      refine x_then_exit ?_
      refine x_blk_eq ?_
      refine x_then ?_
      refine C_seq ?_
      refine C_reg ?_
      refine q1 rfl (lbw 2 a_32 rfl rfl rfl) ?_
      refine pk_Beliefs (r := (⟨f.Beliefs.Nodes, undT f set k⟩ : Beliefs)) ?_
      refine li rfl (crl b_50 rfl rfl rfl rfl (fun w' hs => (impl_labels w' [(.int .i64 f.Beliefs.Nodes), v] (⟨f.Beliefs.Nodes, undT f set k⟩ : Beliefs) (rd_own (k := 0) hs rfl) (by rw [undT_done (by omega)]; exact undB_ok hfr) (by rw [undT_done (by omega)]; exact undB_sol hfr) (by rw [undT_done (by omega)]; have := undB_len (set := set) hfr; omega))) fun v23 => ?_)
      refine p1 rfl ?_
      refine D_end ?_
      refine x_then ?_
      refine D_H ([ov [v23] (vec (⟨f.Beliefs.Nodes, undT f set k⟩ : Beliefs).Nodes.toNat (lbs (⟨f.Beliefs.Nodes, undT f set k⟩ : Beliefs)) : (List Bool)), ov [(.int .i64 f.Beliefs.Nodes), v] ((⟨f.Beliefs.Nodes, undT f set k⟩ : Beliefs) : Beliefs), ov [v16] (chs f.Assumed set : (List Int)), bx g15 [(.int .i64 f.Beliefs.Nodes), v], bx g11 [(.int .i64 f.Beliefs.Nodes), u1, u3, u5]]) rfl ?_
      refine C_ret ?_
      refine R_1 rfl rfl fun w' hs => res_of (k := 0) hs rfl ?_
      show vec (⟨f.Beliefs.Nodes, undT f set k⟩ : Beliefs).Nodes.toNat (lbs (⟨f.Beliefs.Nodes, undT f set k⟩ : Beliefs)) = unds f set
      rw [undT_done (by omega)]; rfl

theorem impl_noneIn (w : World) (v_l : Value) (l : (List Int)) (v_inn : Value) (inn : (List Bool)) (h_l : Gd.rd w [v_l] l) (h_inn : Gd.rd w [v_inn] inn) (hl : asc l (inn.length : Int) = true) : Calls Try.prog 43 [v_l, v_inn].toArray w (Val w (.bool (l.all (lO inn)))) := by
  have hm1 := rd_max h_l
  have hm2 := rd_max h_inn
  refine enter 18 Try.func43 rfl rfl rfl ?_
  refine C_seq ?_
  refine C_reg ?_
  refine p1 rfl ?_
  refine D_end ?_
  refine x_then ?_
  refine C_seq ?_
  refine C_seq ?_
  refine C_reg ?_
  refine p1 rfl ?_
  refine q1 rfl (D_len s_25 rfl rfl (rd_sl h_l)) ?_
  refine p1 rfl ?_
  refine D_end ?_
  refine x_then ?_
  refine C_block ?_
  refine C_loop (fun m_ ac w' => ∃ (k : Nat), (k ≤ l.length) ∧ (∀ i, i < k → ∀ y, l[i]? = some y → lO inn y = true) ∧ m_ = l.length - k ∧ Fits ac 18 [(1, v_inn), (7, v_l), (8, (.int .i64 ((l.length : Nat) : Int))), (9, (.int .i64 ((k : Nat) : Int)))] ∧ St w ([]) w') ?_ ?_
  · refine fun ac w' hf hs => ⟨_, 0, ?_, ?_, rfl, hf.weak ⟨rfl, rfl, rfl, rfl, trivial⟩, hs⟩
    · first | assumption | omega | simp
    · intro i hi; omega
  · rintro m_ ac w' ⟨k, hk, hi, rfl, hf, hs⟩
    refine D.use ?_ hf hs
    clear hf hs ac w'
    refine C_seq ?_
    refine C_reg ?_
    refine p1 rfl ?_
    refine D_end ?_
    refine x_then ?_
    refine C_seq ?_
    refine C_if _ rfl (fun h3 => ?_) (fun h3 => ?_)
    · have pr3 : (((k : Nat) : Int) : Int) < ((l.length : Nat) : Int) := of_decide_eq_true h3
      refine C_skip ?_
      refine x_then ?_
      refine C_seq ?_
      refine C_block ?_
      refine C_seq ?_
      refine C_reg ?_
      obtain ⟨y2, hy2⟩ := some_of_lt (l := l) (i := k) (by omega)
      have hyn := asc_at hl hy2
      obtain ⟨es4, at5, hr6⟩ := rd_elem (n := 1) rfl h_l hy2
      obtain rfl : es4 = [.int .i64 y2] := hr6
      refine q1 rfl (D_ix (l := l) (j := k) s_25 rfl rfl rfl (fun w' hs => (rd_at hs h_l)) rfl (lt_of_some hy2)) ?_
      refine q1 rfl (lr0 o_3 rfl rfl at5 rfl) ?_
      refine p1 rfl ?_
      refine D_end ?_
      refine x_then ?_
      refine C_seq ?_
      refine C_reg ?_
      refine p1 rfl <| p1 rfl ?_
      obtain ⟨z2, hz2⟩ := some_of_lt (l := inn) (i := (y2.toNat)) (by omega)
      obtain ⟨es7, at8, hr9⟩ := rd_elem (n := 1) rfl h_inn hz2
      obtain rfl : es7 = [.bool z2] := hr9
      refine q1 rfl (D_ix (l := inn) (j := (y2.toNat)) s_42 rfl rfl rfl (fun w' hs => (rd_at hs h_inn)) (Int.toNat_of_nonneg (by omega)).symm (lt_of_some hz2)) ?_
      refine q1 rfl (lr0 o_4 rfl rfl at8 rfl) ?_
      refine D_end ?_
      refine x_then ?_
      refine C_if _ rfl (fun h10 => ?_) (fun h10 => ?_)
      · refine C_seq ?_
        refine C_reg ?_
        refine p1 rfl ?_
        refine D_end ?_
        refine x_then ?_
        refine C_ret ?_
        refine x_blk_ret ?_
        refine x_then_ret ?_
        refine x_then_ret ?_
        refine x_blk_ret ?_
        refine x_then_ret ?_
        refine R_1 rfl rfl fun w' hs => ⟨congrArg (fun z => Ending.returned (Value.bool z)) ?_, hs.bel⟩
        show (false : Bool) = l.all (lO inn)
        exact (all_bad hy2 (by rw [lO_of hz2, h10]; rfl)).symm
      · refine C_skip ?_
        refine x_blk ?_
        refine x_then ?_
        refine C_reg ?_
        refine q1 rfl (D_add rfl rfl rfl (r := ((k + 1 : Nat) : Int)) (by omega) (by omega)) ?_
        refine p1 rfl ?_
        refine D_end ?_
        refine x_then ?_
        refine fun ac w' hf hs => ⟨_, ?_, k + 1, ?_, ?_, rfl, hf.weak ⟨rfl, rfl, rfl, rfl, trivial⟩, hs⟩
        · omega
        · first | assumption | omega | simp
        · refine forall_step hi ?_; intro y hy; obtain rfl : y = y2 := Option.some.inj (hy.symm.trans hy2); rw [lO_of hz2, h10]; rfl
    · have pr3 : ¬ (((k : Nat) : Int) : Int) < ((l.length : Nat) : Int) := of_decide_eq_false h3
      refine C_exit ?_
      refine x_then_exit ?_
      refine x_then_exit ?_
      refine x_blk_eq ?_
      refine x_then ?_
      refine C_seq ?_
      refine C_reg ?_
      refine p1 rfl ?_
      refine D_end ?_
      refine x_then ?_
      refine C_ret ?_
      refine R_1 rfl rfl fun w' hs => ⟨congrArg (fun z => Ending.returned (Value.bool z)) ?_, hs.bel⟩
      show (true : Bool) = l.all (lO inn)
      exact (all_of_idx (fun i h => hi i (by omega))).symm

set_option maxHeartbeats 4000000 in
theorem spec_l13Under (w : World) (c_f : List Value) (f : Frame) (set : Int) (h_f : Gd.rd w c_f f) (hfr : isFrame f = true) : Calls Try.prog 66 [(.agg c_f.toArray), (.int .i64 set)].toArray w (Res w (unds f set : List Bool)) := by
  obtain ⟨u1, u3, u5, rfl, hu2, hu4, hu6⟩ := open_Frame h_f
  have hm7 := rd_max hu2
  have hm8 := rd_max hu4
  have hm9 := rd_max hu6
  have hb10 := sub_Frame_Beliefs h_f
  have hib := frame_b hfr
  have ho := isB_ok2 hib
  have hbn := okB_nodes ho
  have hal := frame_al hfr
  obtain ⟨n, hn⟩ : ∃ n : Nat, f.Beliefs.Nodes = (n : Int) := ⟨f.Beliefs.Nodes.toNat, by omega⟩
  refine enter 87 Try.func66 rfl rfl rfl ?_
  refine C_seq ?_
  refine C_reg ?_
  refine li rfl (D_box rfl rfl rfl rfl rfl fun g11 => ?_)
  refine p1 rfl ?_
  refine D_end ?_
  refine x_then ?_
  refine D_H ([bx g11 [(.int .i64 f.Beliefs.Nodes), u1, u3, u5]]) rfl ?_
  refine C_seq ?_
  refine C_reg ?_
  refine q1 rfl (D_fb f_34_0 rfl rfl (q := 0) rfl) ?_
  refine q1 rfl (D_fb f_32_0 rfl rfl (q := 0) rfl) ?_
  refine q1 rfl (lb 0 o_3 rfl rfl rfl rfl) ?_
  refine li rfl (D_mk (α := Bool) (z := false) s_42 y_4 rfl (congrArg (fun z => some (Value.int .i64 z)) hn) rfl rfl (by omega) (by omega) fun v12 => ?_)
  refine D_eq 0 rfl (vec_rep _ _) ?_
  refine p1 rfl ?_
  refine D_end ?_
  refine x_then ?_
  refine D_H ([ov [v12] (vec n (fun _ => false) : (List Bool)), bx g11 [(.int .i64 f.Beliefs.Nodes), u1, u3, u5]]) rfl ?_
  refine C_seq ?_
  refine C_seq ?_
  refine C_reg ?_
  refine p1 rfl ?_
  refine D_end ?_
  refine x_then ?_
  refine C_block ?_
  refine C_loop (fun m_ ac w' => ∃ (k : Nat), ∃ (ga : Nat → Bool), (k ≤ f.Assumed.length) ∧ (DvS f set ga) ∧ (DvA f set ga k) ∧ m_ = f.Assumed.length - k ∧ Fits ac 87 [(1, (.int .i64 set)), (2, (.pointer (some ⟨g11, 0, none⟩))), (5, v12), (6, (.int .i64 ((k : Nat) : Int)))] ∧ St w ([ov [v12] (vec n ga : (List Bool)), bx g11 [(.int .i64 f.Beliefs.Nodes), u1, u3, u5]]) w') ?_ ?_
  · refine fun ac w' hf hs => ⟨_, 0, (fun _ => false), ?_, ?_, ?_, rfl, hf.weak ⟨rfl, rfl, rfl, rfl, trivial⟩, hs⟩
    · first | assumption | omega | simp
    · intro x h; cases h
    · intro x hx; cases hx
  · rintro m_ ac w' ⟨k, ga, hk, hS, hA, rfl, hf, hs⟩
    refine D.use ?_ hf hs
    clear hf hs ac w'
    refine C_seq ?_
    refine C_seq ?_
    refine C_reg ?_
    refine p1 rfl ?_
    refine q1 rfl (D_fb f_34_1 rfl rfl (q := 2) rfl) ?_
    refine q1 rfl (lb 1 o_25 rfl rfl rfl rfl) ?_
    refine q1 rfl (D_len s_25 rfl rfl (rd_sl hu4)) ?_
    refine p1 rfl ?_
    refine D_end ?_
    refine x_then ?_
    refine D_H ([ov [v12] (vec n ga : (List Bool)), bx g11 [(.int .i64 f.Beliefs.Nodes), u1, u3, u5]]) rfl ?_
    refine C_if _ rfl (fun h13 => ?_) (fun h13 => ?_)
    · have pr13 : (((k : Nat) : Int) : Int) < ((f.Assumed.length : Nat) : Int) := of_decide_eq_true h13
      refine C_skip ?_
      refine x_then ?_
      refine C_seq ?_
      refine C_block ?_
      refine C_seq ?_
      refine C_reg ?_
      refine p1 rfl <| p1 rfl ?_
      refine q1 rfl (D_shr (k := k) rfl rfl rfl) ?_
      refine q1 rfl (D_and rfl rfl rfl) ?_
      refine p1 rfl ?_
      refine D_end ?_
      refine x_then ?_
      refine C_if _ rfl (fun h14 => ?_) (fun h14 => ?_)
      · have pr14 : ((andZ (shrZ set k) 1) : Int) = 1 := eq_of_beq h14
        refine C_reg ?_
        refine p1 rfl ?_
        refine q1 rfl (D_fb f_34_1 rfl rfl (q := 2) rfl) ?_
        refine q1 rfl (lb 1 o_25 rfl rfl rfl rfl) ?_
        refine p1 rfl ?_
        obtain ⟨a0, ha0⟩ := some_of_lt (l := f.Assumed) (i := k) (by omega)
        have han := asc_at (frame_a hfr) ha0
        obtain ⟨es15, at16, hr17⟩ := rd_elem (n := 1) rfl hu4 ha0
        obtain rfl : es15 = [.int .i64 a0] := hr17
        refine q1 rfl (D_ix (l := f.Assumed) (j := k) s_25 rfl rfl rfl (fun w' hs => (rd_at hs hu4)) rfl (lt_of_some ha0)) ?_
        refine q1 rfl (lr0 o_3 rfl rfl at16 rfl) ?_
        have hx19 : (vec n ga)[(a0.toNat)]? = some (ga (a0.toNat)) := vec_get (by omega)
        refine q1 rfl (D_ix (l := (vec n ga)) (j := (a0.toNat)) s_42 rfl rfl rfl (fun w' hs => (rd_own (k := 0) hs rfl)) (Int.toNat_of_nonneg (by omega)).symm (lt_of_some hx19)) ?_
        refine li rfl (so (α := Bool) (z := true) 0 z_4 rfl rfl rfl rfl rfl (lt_of_some hx19) ?_)
        refine D_eq 0 rfl (vec_set _ _ _ _) ?_
        refine D_end ?_
        refine x_blk ?_
        refine x_then ?_
        refine D_weak [(1, (.int .i64 set)), (2, (.pointer (some ⟨g11, 0, none⟩))), (5, v12), (6, (.int .i64 ((k : Nat) : Int)))] ⟨rfl, rfl, rfl, rfl, trivial⟩ ?_
        refine D_H ([ov [v12] (vec n (upd ga (a0.toNat) true) : (List Bool)), bx g11 [(.int .i64 f.Beliefs.Nodes), u1, u3, u5]]) rfl ?_
        refine C_reg ?_
        refine p1 rfl ?_
        refine q1 rfl (D_add rfl rfl rfl (r := ((k + 1 : Nat) : Int)) (by omega) (by omega)) ?_
        refine p1 rfl ?_
        refine D_end ?_
        refine x_then ?_
        refine fun ac w' hf hs => ⟨_, ?_, k + 1, (upd ga (a0.toNat) true), ?_, ?_, ?_, rfl, hf.weak ⟨rfl, rfl, rfl, rfl, trivial⟩, hs⟩
        · omega
        · first | assumption | omega | simp
        · first | exact hS | exact hS.set (fun _ => dv_base (chs_at ha0 h14))
        · first | exact hA.on ha0 | exact hA.off h14
      · have pr14 : ((andZ (shrZ set k) 1) : Int) ≠ 1 := ne_of_beq_false h14
        refine C_skip ?_
        refine x_blk ?_
        refine x_then ?_
        refine C_reg ?_
        refine p1 rfl ?_
        refine q1 rfl (D_add rfl rfl rfl (r := ((k + 1 : Nat) : Int)) (by omega) (by omega)) ?_
        refine p1 rfl ?_
        refine D_end ?_
        refine x_then ?_
        refine fun ac w' hf hs => ⟨_, ?_, k + 1, ga, ?_, ?_, ?_, rfl, hf.weak ⟨rfl, rfl, rfl, rfl, trivial⟩, hs⟩
        · omega
        · first | assumption | omega | simp
        · first | exact hS | exact hS.set (fun _ => dv_base (chs_at ha0 h14))
        · first | exact hA.on ha0 | exact hA.off h14
    · have pr13 : ¬ (((k : Nat) : Int) : Int) < ((f.Assumed.length : Nat) : Int) := of_decide_eq_false h13
      refine C_exit ?_
      refine x_then_exit ?_
      refine x_then_exit ?_
      refine x_blk_eq ?_
      refine x_then ?_
      refine C_seq ?_
      refine C_seq ?_
      refine C_reg ?_
      refine p1 rfl ?_
      refine D_end ?_
      refine x_then ?_
      refine C_block ?_
      refine C_loop (fun m_ ac w' => ∃ (q : Nat), ∃ (gb : Nat → Bool), (q ≤ n + 1) ∧ (DvS f set gb) ∧ (DvB f set gb) ∧ (q ≤ cnt n gb ∨ DvC f gb) ∧ m_ = n + 1 - q ∧ Fits ac 87 [(2, (.pointer (some ⟨g11, 0, none⟩))), (5, v12), (7, (.int .i64 ((q : Nat) : Int)))] ∧ St w ([ov [v12] (vec n gb : (List Bool)), bx g11 [(.int .i64 f.Beliefs.Nodes), u1, u3, u5]]) w') ?_ ?_
      · refine fun ac w' hf hs => ⟨_, 0, ga, ?_, ?_, ?_, ?_, rfl, hf.weak ⟨rfl, rfl, rfl, trivial⟩, hs⟩
        · first | assumption | omega | simp
        · first | assumption | omega | simp
        · exact hA.done (by omega)
        · exact .inl (Nat.zero_le _)
      · rintro m_ ac w' ⟨q, gb, hq, hS1, hB, hQ, rfl, hf, hs⟩
        refine D.use ?_ hf hs
        clear hf hs ac w'
        refine C_seq ?_
        refine C_seq ?_
        refine C_reg ?_
        refine p1 rfl ?_
        refine q1 rfl (D_fb f_34_0 rfl rfl (q := 0) rfl) ?_
        refine q1 rfl (D_fb f_32_0 rfl rfl (q := 0) rfl) ?_
        refine q1 rfl (lb 1 o_3 rfl rfl rfl rfl) ?_
        refine p1 rfl ?_
        refine D_end ?_
        refine x_then ?_
        refine D_H ([ov [v12] (vec n gb : (List Bool)), bx g11 [(.int .i64 f.Beliefs.Nodes), u1, u3, u5]]) rfl ?_
        refine C_if _ rfl (fun h20 => ?_) (fun h20 => ?_)
        · have pr20 : (((q : Nat) : Int) : Int) ≤ f.Beliefs.Nodes := of_decide_eq_true h20
          refine C_skip ?_
          refine x_then ?_
          refine C_seq ?_
          refine C_block ?_
          refine C_seq ?_
          refine C_reg ?_
          refine p1 rfl ?_
          refine D_end ?_
          refine x_then ?_
          refine C_block ?_
          refine C_loop (fun m_ ac w' => ∃ (k2 : Nat), ∃ (gc : Nat → Bool), (k2 ≤ f.Beliefs.Reasons.length) ∧ (DvS f set gc) ∧ (DvI f gb gc k2) ∧ m_ = f.Beliefs.Reasons.length - k2 ∧ Fits ac 87 [(2, (.pointer (some ⟨g11, 0, none⟩))), (5, v12), (7, (.int .i64 ((q : Nat) : Int))), (8, (.int .i64 ((k2 : Nat) : Int)))] ∧ St w ([ov [v12] (vec n gc : (List Bool)), bx g11 [(.int .i64 f.Beliefs.Nodes), u1, u3, u5]]) w') ?_ ?_
          · refine fun ac w' hf hs => ⟨_, 0, gb, ?_, ?_, ?_, rfl, hf.weak ⟨rfl, rfl, rfl, rfl, trivial⟩, hs⟩
            · first | assumption | omega | simp
            · first | assumption | omega | simp
            · exact DvI.zero f gb
          · rintro m_ ac w' ⟨k2, gc, hk2, hS2, hP, rfl, hf, hs⟩
            refine D.use ?_ hf hs
            clear hf hs ac w'
            refine C_seq ?_
            refine C_seq ?_
            refine C_reg ?_
            refine p1 rfl ?_
            refine q1 rfl (D_fb f_34_0 rfl rfl (q := 0) rfl) ?_
            refine q1 rfl (D_fb f_32_1 rfl rfl (q := 1) rfl) ?_
            refine q1 rfl (lb 1 o_30 rfl rfl rfl rfl) ?_
            refine q1 rfl (D_len s_30 rfl rfl (rd_sl hu2)) ?_
            refine p1 rfl ?_
            refine D_end ?_
            refine x_then ?_
            refine D_H ([ov [v12] (vec n gc : (List Bool)), bx g11 [(.int .i64 f.Beliefs.Nodes), u1, u3, u5]]) rfl ?_
            refine C_if _ rfl (fun h21 => ?_) (fun h21 => ?_)
            · have pr21 : (((k2 : Nat) : Int) : Int) < ((f.Beliefs.Reasons.length : Nat) : Int) := of_decide_eq_true h21
              refine C_skip ?_
              refine x_then ?_
              refine C_seq ?_
              refine C_block ?_
              refine C_seq ?_
              refine C_reg ?_
              refine q1 rfl (D_fb f_34_0 rfl rfl (q := 0) rfl) ?_
              refine q1 rfl (D_fb f_32_1 rfl rfl (q := 1) rfl) ?_
              refine q1 rfl (lb 1 o_30 rfl rfl rfl rfl) ?_
              refine p1 rfl ?_
              obtain ⟨r0, hr0⟩ := some_of_lt (l := f.Beliefs.Reasons) (i := k2) (by omega)
              have hv0 := okB_r ho hr0
              have hF := isR_for hv0
              obtain ⟨es22, at23, hr24⟩ := rd_elem (n := 3) rfl hu2 hr0
              obtain ⟨u25, u27, rfl, hu26, hu28⟩ := open_Reason hr24
              have hm29 := rd_max hu26
              have hm30 := rd_max hu28
              refine q1 rfl (D_ix (l := f.Beliefs.Reasons) (j := k2) s_30 rfl rfl rfl (fun w' hs => (rd_at hs hu2)) rfl (lt_of_some hr0)) ?_
              refine q1 rfl (lra a_72 rfl rfl at23) ?_
              refine li rfl (D_alloc y_72 rfl rfl rfl rfl fun g31 => ?_)
              refine li rfl (D_stb (vs := [(.int .i64 r0.For), u25, u27]) (cs' := [(.int .i64 r0.For), u25, u27]) 0 z_72 rfl rfl rfl rfl rfl rfl (ocons rfl (ocons (one_rd hu26) (ocons (one_rd hu28) onil))) (by simp) rfl ?_)
              refine D_end ?_
              refine x_then ?_
              refine D_H ([bx g31 [(.int .i64 r0.For), u25, u27], ov [v12] (vec n gc : (List Bool)), bx g11 [(.int .i64 f.Beliefs.Nodes), u1, u3, u5]]) rfl ?_
              refine C_seq ?_
              refine C_reg ?_
              refine p1 rfl ?_
              refine D_end ?_
              refine x_then ?_
              refine C_seq ?_
              refine C_seq ?_
              refine C_reg ?_
              refine p1 rfl ?_
              refine D_end ?_
              refine x_then ?_
              refine C_block ?_
              refine C_loop (fun m_ ac w' => ∃ (m : Nat), ∃ (fine : Bool), (m ≤ r0.In.length) ∧ (fine = (r0.In.take m).all (lI (vec n gc))) ∧ m_ = r0.In.length - m ∧ Fits ac 87 [(2, (.pointer (some ⟨g11, 0, none⟩))), (5, v12), (7, (.int .i64 ((q : Nat) : Int))), (8, (.int .i64 ((k2 : Nat) : Int))), (9, (.pointer (some ⟨g31, 0, none⟩))), (10, (.bool fine)), (11, (.int .i64 ((m : Nat) : Int)))] ∧ St w ([bx g31 [(.int .i64 r0.For), u25, u27], ov [v12] (vec n gc : (List Bool)), bx g11 [(.int .i64 f.Beliefs.Nodes), u1, u3, u5]]) w') ?_ ?_
              · refine fun ac w' hf hs => ⟨_, 0, true, ?_, ?_, rfl, hf.weak ⟨rfl, rfl, rfl, rfl, rfl, rfl, rfl, trivial⟩, hs⟩
                · first | assumption | omega | simp
                · rfl
              · rintro m_ ac w' ⟨m, fine, hm, hfi, rfl, hf, hs⟩
                refine D.use ?_ hf hs
                clear hf hs ac w'
                refine C_seq ?_
                refine C_seq ?_
                refine C_reg ?_
                refine p1 rfl ?_
                refine q1 rfl (D_fb f_72_1 rfl rfl (q := 1) rfl) ?_
                refine q1 rfl (lb 0 o_25 rfl rfl rfl rfl) ?_
                refine q1 rfl (D_len s_25 rfl rfl (rd_sl hu26)) ?_
                refine p1 rfl ?_
                refine D_end ?_
                refine x_then ?_
                refine C_if _ rfl (fun h32 => ?_) (fun h32 => ?_)
                · have pr32 : (((m : Nat) : Int) : Int) < ((r0.In.length : Nat) : Int) := of_decide_eq_true h32
                  refine C_skip ?_
                  refine x_then ?_
                  refine C_seq ?_
                  refine C_block ?_
                  refine C_reg ?_
                  refine p1 rfl <| p1 rfl ?_
                  refine gs 64 rfl rfl (fun h33 => ?_) (fun h33 => ?_)
                  · refine p1 rfl ?_
                    refine q1 rfl (D_fb f_72_1 rfl rfl (q := 1) rfl) ?_
                    refine q1 rfl (lb 0 o_25 rfl rfl rfl rfl) ?_
                    refine p1 rfl ?_
                    obtain ⟨y2, hy2⟩ := some_of_lt (l := r0.In) (i := m) (by omega)
                    have hyn := asc_at (isR_in hv0) hy2
                    obtain ⟨es34, at35, hr36⟩ := rd_elem (n := 1) rfl hu26 hy2
                    obtain rfl : es34 = [.int .i64 y2] := hr36
                    refine q1 rfl (D_ix (l := r0.In) (j := m) s_25 rfl rfl rfl (fun w' hs => (rd_at hs hu26)) rfl (lt_of_some hy2)) ?_
                    refine q1 rfl (lr0 o_3 rfl rfl at35 rfl) ?_
                    have hx38 : (vec n gc)[(y2.toNat)]? = some (gc (y2.toNat)) := vec_get (by omega)
                    refine q1 rfl (D_ix (l := (vec n gc)) (j := (y2.toNat)) s_42 rfl rfl rfl (fun w' hs => (rd_own (k := 1) hs rfl)) (Int.toNat_of_nonneg (by omega)).symm (lt_of_some hx38)) ?_
                    refine q1 rfl (lo (α := Bool) 1 o_4 rfl rfl rfl hx38) ?_
                    refine p1 rfl <| p1 rfl ?_
                    refine D_end ?_
                    refine x_blk ?_
                    refine x_then ?_
                    refine D_weak [(2, (.pointer (some ⟨g11, 0, none⟩))), (5, v12), (7, (.int .i64 ((q : Nat) : Int))), (8, (.int .i64 ((k2 : Nat) : Int))), (9, (.pointer (some ⟨g31, 0, none⟩))), (10, (.bool (gc (y2.toNat)))), (11, (.int .i64 ((m : Nat) : Int)))] ⟨rfl, rfl, rfl, rfl, rfl, rfl, rfl, trivial⟩ ?_
                    refine C_reg ?_
                    refine p1 rfl ?_
                    refine q1 rfl (D_add rfl rfl rfl (r := ((m + 1 : Nat) : Int)) (by omega) (by omega)) ?_
                    refine p1 rfl ?_
                    refine D_end ?_
                    refine x_then ?_
                    refine fun ac w' hf hs => ⟨_, ?_, m + 1, (gc (y2.toNat)), ?_, ?_, rfl, hf.weak ⟨rfl, rfl, rfl, rfl, rfl, rfl, rfl, trivial⟩, hs⟩
                    · omega
                    · first | assumption | omega | simp
                    · first | exact dv_fine hfi hy2 (by omega) (by rw [show fine = true by assumption]; rfl) | (rw [show fine = false by assumption] at hfi; obtain ⟨y2, hy2⟩ := some_of_lt (l := r0.In) (i := m) (by omega); have hyn := asc_at (isR_in hv0) hy2; exact dv_fine hfi hy2 (by omega) rfl)
                  · refine n1 rfl ?_
                    refine n1 rfl ?_
                    refine n1 rfl ?_
                    refine n1 rfl ?_
                    refine n1 rfl ?_
                    refine n1 rfl ?_
                    refine n1 rfl ?_
                    refine n1 rfl ?_
                    refine p1 rfl <| p1 rfl ?_
                    refine D_end ?_
                    refine x_blk ?_
                    refine x_then ?_
                    refine D_weak [(2, (.pointer (some ⟨g11, 0, none⟩))), (5, v12), (7, (.int .i64 ((q : Nat) : Int))), (8, (.int .i64 ((k2 : Nat) : Int))), (9, (.pointer (some ⟨g31, 0, none⟩))), (10, (.bool false)), (11, (.int .i64 ((m : Nat) : Int)))] ⟨rfl, rfl, rfl, rfl, rfl, rfl, rfl, trivial⟩ ?_
                    refine C_reg ?_
                    refine p1 rfl ?_
                    refine q1 rfl (D_add rfl rfl rfl (r := ((m + 1 : Nat) : Int)) (by omega) (by omega)) ?_
                    refine p1 rfl ?_
                    refine D_end ?_
                    refine x_then ?_
                    refine fun ac w' hf hs => ⟨_, ?_, m + 1, false, ?_, ?_, rfl, hf.weak ⟨rfl, rfl, rfl, rfl, rfl, rfl, rfl, trivial⟩, hs⟩
                    · omega
                    · first | assumption | omega | simp
                    · first | exact dv_fine hfi hy2 (by omega) (by rw [show fine = true by assumption]; rfl) | (rw [show fine = false by assumption] at hfi; obtain ⟨y2, hy2⟩ := some_of_lt (l := r0.In) (i := m) (by omega); have hyn := asc_at (isR_in hv0) hy2; exact dv_fine hfi hy2 (by omega) rfl)
                · have pr32 : ¬ (((m : Nat) : Int) : Int) < ((r0.In.length : Nat) : Int) := of_decide_eq_false h32
                  refine C_exit ?_
                  refine x_then_exit ?_
                  refine x_then_exit ?_
                  refine x_blk_eq ?_
                  refine x_then ?_
                  refine C_draw mixed [12] (by kernel_rfl) ?_
                  refine tk 0 rfl (by kernel_rfl) (by kernel_rfl) (by kernel_rfl) rfl (fun _ hs => hs) (rp rfl) ?_
                  refine tk 1 rfl (by kernel_rfl) (by kernel_rfl) (by kernel_rfl) rfl (fun _ hs => hs) (D_fb f_72_0 rfl rfl (q := 0) rfl) ?_
                  refine tk 2 rfl (by kernel_rfl) (by kernel_rfl) (by kernel_rfl) rfl (fun _ hs => hs) (lb 0 o_3 rfl rfl rfl rfl) ?_
                  refine tk 3 rfl (by kernel_rfl) (by kernel_rfl) (by kernel_rfl) rfl (fun _ hs => hs) (rp rfl) ?_
                  refine tk 4 rfl (by kernel_rfl) (by kernel_rfl) (by kernel_rfl) rfl (fun _ hs => hs) (D_fb f_72_0 rfl rfl (q := 0) rfl) ?_
                  refine tk 5 rfl (by kernel_rfl) (by kernel_rfl) (by kernel_rfl) rfl (fun _ hs => hs) (lb 0 o_3 rfl rfl rfl rfl) ?_
                  have hx40 : (vec n gc)[(r0.For.toNat)]? = some (gc (r0.For.toNat)) := vec_get (by omega)
                  refine tk 6 rfl (by kernel_rfl) (by kernel_rfl) (by kernel_rfl) rfl (fun _ hs => hs) (D_ix (l := (vec n gc)) (j := (r0.For.toNat)) s_42 rfl rfl rfl (fun w' hs => (rd_own (k := 1) hs rfl)) (Int.toNat_of_nonneg (by omega)).symm (lt_of_some hx40)) ?_
                  refine tk 7 rfl (by kernel_rfl) (by kernel_rfl) (by kernel_rfl) rfl (fun _ hs => hs) (lo (α := Bool) 1 o_4 rfl rfl rfl hx40) ?_
                  refine tk 8 rfl (by kernel_rfl) (by kernel_rfl) (by kernel_rfl) rfl (fun _ hs => hs) (rp rfl) ?_
                  refine gs 82 rfl rfl (fun h41 => ?_) (fun h41 => ?_)
                  · refine tn 9 rfl (by kernel_rfl) (by kernel_rfl) (by kernel_rfl) rfl rfl rfl (fun _ hs => hs) ?_
                    refine tk 10 rfl (by kernel_rfl) (by kernel_rfl) (by kernel_rfl) rfl (fun _ hs => hs) (rp rfl) ?_
                    refine tk 11 rfl (by kernel_rfl) (by kernel_rfl) (by kernel_rfl) rfl (fun _ hs => hs) (D_ix (l := (vec n gc)) (j := (r0.For.toNat)) s_42 rfl rfl rfl (fun w' hs => (rd_own (k := 1) hs rfl)) (Int.toNat_of_nonneg (by omega)).symm (lt_of_some hx40)) ?_
                    refine ty 12 rfl (by kernel_rfl) rfl (so (α := Bool) (z := true) 1 z_4 rfl rfl rfl rfl rfl (lt_of_some hx40) ?_)
                    refine D_eq 1 rfl (vec_set _ _ _ _) ?_
                    refine tZ rfl ?_
                    refine tE (by kernel_rfl) ?_
                    refine x_blk ?_
                    refine x_then ?_
                    refine D_weak [(2, (.pointer (some ⟨g11, 0, none⟩))), (5, v12), (7, (.int .i64 ((q : Nat) : Int))), (8, (.int .i64 ((k2 : Nat) : Int)))] ⟨rfl, rfl, rfl, rfl, trivial⟩ ?_
                    refine D_sel (H' := [ov [v12] (vec n (upd gc (r0.For.toNat) true) : (List Bool)), bx g11 [(.int .i64 f.Beliefs.Nodes), u1, u3, u5]]) [false, true, true] rfl ?_
                    refine C_reg ?_
                    refine p1 rfl ?_
                    refine q1 rfl (D_add rfl rfl rfl (r := ((k2 + 1 : Nat) : Int)) (by omega) (by omega)) ?_
                    refine p1 rfl ?_
                    refine D_end ?_
                    refine x_then ?_
                    refine fun ac w' hf hs => ⟨_, ?_, k2 + 1, (upd gc (r0.For.toNat) true), ?_, ?_, ?_, rfl, hf.weak ⟨rfl, rfl, rfl, rfl, trivial⟩, hs⟩
                    · omega
                    · first | assumption | omega | simp
                    · refine hS2.set (fun e => ?_); first | exact hS2 _ (by assumption) | (rw [e] at hfi; have hfi2 := hfi.symm; rw [List.take_of_length_le (by omega)] at hfi2; exact dv_of hS2 hr0 (by rw [← hn]; exact isR_in hv0) hfi2)
                    · exact hP.next (fine := fine) hr0 (by rw [← hn]; exact isR_in hv0) (by rwa [show m = r0.In.length by omega] at hfi) (by first | (rw [show gc r0.For.toNat = true by assumption]; rfl) | (rw [show gc r0.For.toNat = false by assumption]; rfl))
                  · refine tk 9 rfl (by kernel_rfl) (by kernel_rfl) (by kernel_rfl) rfl (fun _ hs => hs) (rp rfl) ?_
                    refine tk 10 rfl (by kernel_rfl) (by kernel_rfl) (by kernel_rfl) rfl (fun _ hs => hs) (rp rfl) ?_
                    refine tk 11 rfl (by kernel_rfl) (by kernel_rfl) (by kernel_rfl) rfl (fun _ hs => hs) (D_ix (l := (vec n gc)) (j := (r0.For.toNat)) s_42 rfl rfl rfl (fun w' hs => (rd_own (k := 1) hs rfl)) (Int.toNat_of_nonneg (by omega)).symm (lt_of_some hx40)) ?_
                    refine ty 12 rfl (by kernel_rfl) rfl (so (α := Bool) (z := fine) 1 z_4 rfl rfl rfl rfl rfl (lt_of_some hx40) ?_)
                    refine D_eq 1 rfl (vec_set _ _ _ _) ?_
                    refine tZ rfl ?_
                    refine tE (by kernel_rfl) ?_
                    refine x_blk ?_
                    refine x_then ?_
                    refine D_weak [(2, (.pointer (some ⟨g11, 0, none⟩))), (5, v12), (7, (.int .i64 ((q : Nat) : Int))), (8, (.int .i64 ((k2 : Nat) : Int)))] ⟨rfl, rfl, rfl, rfl, trivial⟩ ?_
                    refine D_sel (H' := [ov [v12] (vec n (upd gc (r0.For.toNat) fine) : (List Bool)), bx g11 [(.int .i64 f.Beliefs.Nodes), u1, u3, u5]]) [false, true, true] rfl ?_
                    refine C_reg ?_
                    refine p1 rfl ?_
                    refine q1 rfl (D_add rfl rfl rfl (r := ((k2 + 1 : Nat) : Int)) (by omega) (by omega)) ?_
                    refine p1 rfl ?_
                    refine D_end ?_
                    refine x_then ?_
                    refine fun ac w' hf hs => ⟨_, ?_, k2 + 1, (upd gc (r0.For.toNat) fine), ?_, ?_, ?_, rfl, hf.weak ⟨rfl, rfl, rfl, rfl, trivial⟩, hs⟩
                    · omega
                    · first | assumption | omega | simp
                    · refine hS2.set (fun e => ?_); first | exact hS2 _ (by assumption) | (rw [e] at hfi; have hfi2 := hfi.symm; rw [List.take_of_length_le (by omega)] at hfi2; exact dv_of hS2 hr0 (by rw [← hn]; exact isR_in hv0) hfi2)
                    · exact hP.next (fine := fine) hr0 (by rw [← hn]; exact isR_in hv0) (by rwa [show m = r0.In.length by omega] at hfi) (by first | (rw [show gc r0.For.toNat = true by assumption]; rfl) | (rw [show gc r0.For.toNat = false by assumption]; rfl))
            · have pr21 : ¬ (((k2 : Nat) : Int) : Int) < ((f.Beliefs.Reasons.length : Nat) : Int) := of_decide_eq_false h21
              refine C_exit ?_
              refine x_then_exit ?_
              refine x_then_exit ?_
              refine x_blk_eq ?_
              refine x_blk ?_
              refine x_then ?_
              refine C_reg ?_
              refine p1 rfl ?_
              refine q1 rfl (D_add rfl rfl rfl (r := ((q + 1 : Nat) : Int)) (by omega) (by omega)) ?_
              refine p1 rfl ?_
              refine D_end ?_
              refine x_then ?_
              refine fun ac w' hf hs => ⟨_, ?_, q + 1, gc, ?_, ?_, ?_, ?_, rfl, hf.weak ⟨rfl, rfl, rfl, trivial⟩, hs⟩
              · omega
              · first | assumption | omega | simp
              · exact hS2
              · exact hB.mono hP
              · exact dv_pass hn ho hS2 hB (by rwa [show k2 = f.Beliefs.Reasons.length by omega] at hP) hQ
        · have pr20 : ¬ (((q : Nat) : Int) : Int) ≤ f.Beliefs.Nodes := of_decide_eq_false h20
          refine C_exit ?_
          refine x_then_exit ?_
          refine x_then_exit ?_
          refine x_blk_eq ?_
          refine x_then ?_
          refine C_seq ?_
          refine C_reg ?_
          refine p1 rfl <| p1 rfl ?_
          refine D_end ?_
          refine x_then ?_
          refine C_ret ?_
          refine R_1 rfl rfl fun w' hs => res_of (k := 0) hs rfl ?_
          show vec n gb = unds f set
          exact dv_done hn hfr hS1 hB (by rcases hQ with h | h; (· have := cnt_le n gb; omega); (· exact h))

theorem spec_l13Set (w : World) (c_f : List Value) (f : Frame) (set : Int) (h_f : Gd.rd w c_f f) : Calls Try.prog 37 [(.agg c_f.toArray), (.int .i64 set)].toArray w (Val w (.bool ((isFrame f && isSetB f set)))) := by
  obtain ⟨u1, u3, u5, rfl, hu2, hu4, hu6⟩ := open_Frame h_f
  have hm7 := rd_max hu2
  have hm8 := rd_max hu4
  have hm9 := rd_max hu6
  have hb10 := sub_Frame_Beliefs h_f
  refine enter 16 Try.func37 rfl rfl rfl ?_
  refine C_seq ?_
  refine C_reg ?_
  refine li rfl (D_box rfl rfl rfl rfl rfl fun g11 => ?_)
  refine p1 rfl ?_
  refine D_end ?_
  refine x_then ?_
  refine D_H ([bx g11 [(.int .i64 f.Beliefs.Nodes), u1, u3, u5]]) rfl ?_
  refine C_seq ?_
  refine C_reg ?_
  refine q1 rfl (lbw 0 a_34 rfl rfl rfl) ?_
  refine li rfl (cv b_65 rfl rfl rfl rfl (fun w' hs => (spec_IsFrame w' [(.int .i64 f.Beliefs.Nodes), u1, u3, u5] f (rd_at hs h_f))) ?_)
  refine p1 rfl ?_
  refine gs 7 rfl rfl (fun h12 => ?_) (fun h12 => ?_)
  · have hsh := shl_rng (k := f.Assumed.length) (by have := frame_al (frame_w (f := f) (by assumption)); omega)
    refine p1 rfl ?_
    refine q1 rfl (D_fb f_34_1 rfl rfl (q := 2) rfl) ?_
    refine q1 rfl (lb 0 o_25 rfl rfl rfl rfl) ?_
    refine q1 rfl (D_len s_25 rfl rfl (rd_sl hu4)) ?_
    refine q1 rfl (D_shl (k := f.Assumed.length) rfl rfl rfl) ?_
    refine q1 rfl (D_sub rfl rfl rfl rfl (by omega)) ?_
    refine li rfl (cv b_54 rfl rfl rfl rfl (fun w' hs => (spec_l1In w' set 0 ((shlZ 1 f.Assumed.length) - 1))) ?_)
    refine p1 rfl <| p1 rfl ?_
    refine D_end ?_
    refine x_then ?_
    refine C_ret ?_
    refine R_1 rfl rfl fun w' hs => ⟨congrArg (fun z => Ending.returned (Value.bool z)) ?_, hs.bel⟩
    show ((inR set 0 ((shlZ 1 f.Assumed.length) - 1)) : Bool) = (isFrame f && isSetB f set)
    rw [isSet_in, frame_w (by assumption)]; rfl
  · refine n1 rfl ?_
    refine n1 rfl ?_
    refine n1 rfl ?_
    refine n1 rfl ?_
    refine n1 rfl ?_
    refine n1 rfl ?_
    refine n1 rfl ?_
    refine p1 rfl <| p1 rfl ?_
    refine D_end ?_
    refine x_then ?_
    refine C_ret ?_
    refine R_1 rfl rfl fun w' hs => ⟨congrArg (fun z => Ending.returned (Value.bool z)) ?_, hs.bel⟩
    show (false : Bool) = (isFrame f && isSetB f set)
    rw [show isFrame f = false by rw [← isFrameW_eq]; assumption]; rfl

theorem spec_IsConsistent (w : World) (c_f : List Value) (f : Frame) (set : Int) (h_f : Gd.rd w c_f f) : Calls Try.prog 38 [(.agg c_f.toArray), (.int .i64 set)].toArray w (Val w (.bool (isCons f set))) := by
  obtain ⟨u1, u3, u5, rfl, hu2, hu4, hu6⟩ := open_Frame h_f
  have hm7 := rd_max hu2
  have hm8 := rd_max hu4
  have hm9 := rd_max hu6
  have hb10 := sub_Frame_Beliefs h_f
  refine enter 29 Try.func38 rfl rfl rfl ?_
  refine C_seq ?_
  refine C_reg ?_
  refine li rfl (D_box rfl rfl rfl rfl rfl fun g11 => ?_)
  refine p1 rfl ?_
  refine D_end ?_
  refine x_then ?_
  refine D_H ([bx g11 [(.int .i64 f.Beliefs.Nodes), u1, u3, u5]]) rfl ?_
  refine C_seq ?_
  refine C_seq ?_
  refine C_reg ?_
  refine q1 rfl (lbw 0 a_34 rfl rfl rfl) ?_
  refine p1 rfl ?_
  refine li rfl (cv b_37 rfl rfl rfl rfl (fun w' hs => (spec_l13Set w' [(.int .i64 f.Beliefs.Nodes), u1, u3, u5] f set (rd_at hs h_f))) ?_)
  refine p1 rfl ?_
  refine D_end ?_
  refine x_then ?_
  refine C_if _ rfl (fun h12 => ?_) (fun h12 => ?_)
  · have h12n : (isFrame f && isSetB f set) = false := not_t h12
    refine C_seq ?_
    refine C_reg ?_
    refine p1 rfl ?_
    refine D_end ?_
    refine x_then ?_
    refine C_ret ?_
    refine x_then_ret ?_
    refine R_1 rfl rfl fun w' hs => ⟨congrArg (fun z => Ending.returned (Value.bool z)) ?_, hs.bel⟩
    show (false : Bool) = isCons f set
    exact isCons_n (by assumption)
  · have h12n : (isFrame f && isSetB f set) = true := not_f h12
    refine C_skip ?_
    refine x_then ?_
    refine C_seq ?_
    have hss : (isFrame f && isSetB f set) = true := by simp_all
    have hfr : isFrame f = true := by simp only [Bool.and_eq_true] at hss; exact hss.1
    have hbn := isBeliefs_nodes (frame_b hfr)
    have hul := unds_len f set
    refine C_reg ?_
    refine q1 rfl (lbw 0 a_34 rfl rfl rfl) ?_
    refine p1 rfl ?_
    refine li rfl (crl b_66 rfl rfl rfl rfl (fun w' hs => (spec_l13Under w' [(.int .i64 f.Beliefs.Nodes), u1, u3, u5] f set (rd_at hs h_f) (by first | assumption | omega | (unfold szm at *; split at * <;> omega)))) fun v13 => ?_)
    refine p1 rfl ?_
    refine D_end ?_
    refine x_then ?_
    refine D_H ([ov [v13] (unds f set : (List Bool)), bx g11 [(.int .i64 f.Beliefs.Nodes), u1, u3, u5]]) rfl ?_
    refine C_seq ?_
    refine C_seq ?_
    refine C_reg ?_
    refine p1 rfl ?_
    refine D_end ?_
    refine x_then ?_
    refine C_block ?_
    refine C_loop (fun m_ ac w' => ∃ (k : Nat), (k ≤ f.Bad.length) ∧ (∀ i, i < k → ∀ y, f.Bad[i]? = some y → lO (unds f set) y = true) ∧ m_ = f.Bad.length - k ∧ Fits ac 29 [(2, (.pointer (some ⟨g11, 0, none⟩))), (5, v13), (6, (.int .i64 ((k : Nat) : Int)))] ∧ St w ([ov [v13] (unds f set : (List Bool)), bx g11 [(.int .i64 f.Beliefs.Nodes), u1, u3, u5]]) w') ?_ ?_
    · refine fun ac w' hf hs => ⟨_, 0, ?_, ?_, rfl, hf.weak ⟨rfl, rfl, rfl, trivial⟩, hs⟩
      · first | assumption | omega | simp
      · intro i hi; omega
    · rintro m_ ac w' ⟨k, hk, hi, rfl, hf, hs⟩
      refine D.use ?_ hf hs
      clear hf hs ac w'
      refine C_seq ?_
      refine C_seq ?_
      refine C_reg ?_
      refine p1 rfl ?_
      refine q1 rfl (D_fb f_34_2 rfl rfl (q := 3) rfl) ?_
      refine q1 rfl (lb 1 o_25 rfl rfl rfl rfl) ?_
      refine q1 rfl (D_len s_25 rfl rfl (rd_sl hu6)) ?_
      refine p1 rfl ?_
      refine D_end ?_
      refine x_then ?_
      refine C_if _ rfl (fun h14 => ?_) (fun h14 => ?_)
      · have pr14 : (((k : Nat) : Int) : Int) < ((f.Bad.length : Nat) : Int) := of_decide_eq_true h14
        refine C_skip ?_
        refine x_then ?_
        refine C_seq ?_
        refine C_block ?_
        refine C_seq ?_
        refine C_reg ?_
        refine p1 rfl ?_
        refine q1 rfl (D_fb f_34_2 rfl rfl (q := 3) rfl) ?_
        refine q1 rfl (lb 1 o_25 rfl rfl rfl rfl) ?_
        refine p1 rfl ?_
        obtain ⟨y2, hy2⟩ := some_of_lt (l := f.Bad) (i := k) (by omega)
        have hyn := asc_at (frame_bad hfr) hy2
        obtain ⟨es15, at16, hr17⟩ := rd_elem (n := 1) rfl hu6 hy2
        obtain rfl : es15 = [.int .i64 y2] := hr17
        refine q1 rfl (D_ix (l := f.Bad) (j := k) s_25 rfl rfl rfl (fun w' hs => (rd_at hs hu6)) rfl (lt_of_some hy2)) ?_
        refine q1 rfl (lr0 o_3 rfl rfl at16 rfl) ?_
        obtain ⟨z2, hz2⟩ := some_of_lt (l := (unds f set)) (i := (y2.toNat)) (by omega)
        refine q1 rfl (D_ix (l := (unds f set)) (j := (y2.toNat)) s_42 rfl rfl rfl (fun w' hs => (rd_own (k := 0) hs rfl)) (Int.toNat_of_nonneg (by omega)).symm (lt_of_some hz2)) ?_
        refine q1 rfl (lo (α := Bool) 0 o_4 rfl rfl rfl hz2) ?_
        refine D_end ?_
        refine x_then ?_
        refine C_if _ rfl (fun h18 => ?_) (fun h18 => ?_)
        · refine C_seq ?_
          refine C_reg ?_
          refine p1 rfl ?_
          refine D_end ?_
          refine x_then ?_
          refine D_weak [(4, (.bool false))] ⟨rfl, trivial⟩ ?_
          refine C_ret ?_
          refine x_blk_ret ?_
          refine x_then_ret ?_
          refine x_then_ret ?_
          refine x_blk_ret ?_
          refine x_then_ret ?_
          refine R_1 rfl rfl fun w' hs => ⟨congrArg (fun z => Ending.returned (Value.bool z)) ?_, hs.bel⟩
          show (false : Bool) = isCons f set
          exact isCons_b hy2 (by rw [lO_of hz2, h18]; rfl)
        · refine C_skip ?_
          refine x_blk ?_
          refine x_then ?_
          refine C_reg ?_
          refine p1 rfl ?_
          refine q1 rfl (D_add rfl rfl rfl (r := ((k + 1 : Nat) : Int)) (by omega) (by omega)) ?_
          refine p1 rfl ?_
          refine D_end ?_
          refine x_then ?_
          refine fun ac w' hf hs => ⟨_, ?_, k + 1, ?_, ?_, rfl, hf.weak ⟨rfl, rfl, rfl, trivial⟩, hs⟩
          · omega
          · first | assumption | omega | simp
          · refine forall_step hi ?_; intro y hy; obtain rfl : y = y2 := Option.some.inj (hy.symm.trans hy2); rw [lO_of hz2, h18]; rfl
      · have pr14 : ¬ (((k : Nat) : Int) : Int) < ((f.Bad.length : Nat) : Int) := of_decide_eq_false h14
        refine C_exit ?_
        refine x_then_exit ?_
        refine x_then_exit ?_
        refine x_blk_eq ?_
        refine x_then ?_
        refine C_seq ?_
        refine C_reg ?_
        refine p1 rfl ?_
        refine D_end ?_
        refine x_then ?_
        refine C_ret ?_
        refine R_1 rfl rfl fun w' hs => ⟨congrArg (fun z => Ending.returned (Value.bool z)) ?_, hs.bel⟩
        show (true : Bool) = isCons f set
        exact isCons_y hss (fun i h => hi i (by omega))

theorem laws_markFrame (w0 : World) (Hs : List Chunk) (w : World) (c_a : List Value) (a : Frame) (k : Int) (h0 : 0 ≤ k) (h1 : k + cFr a ≤ 4611686018427387904) (hst : St w0 (ov c_a (a : Frame) :: Hs) w) : Calls Try.prog 15 [(.agg c_a.toArray), (.int .i64 k)].toArray w (fun e w' => e = .returned (.int .i64 (k + cFr a)) ∧ St w0 (ov c_a (mkFr k a : Frame) :: Hs) w') := by
  obtain ⟨v1, v2, v3, rfl, ho_v1, ho_v2, ho_v3⟩ := shape_Frame (rd_own (k := 0) hst rfl)
  unfold cFr at h1
  refine enterS 18 Try.func15 rfl rfl rfl hst ?_
  refine C_seq ?_
  refine C_reg ?_
  refine li rfl (D_box rfl rfl rfl rfl rfl fun g4 => ?_)
  refine p1 rfl ?_
  refine D_end ?_
  refine x_then ?_
  refine D_H (bx g4 [(.int .i64 a.Beliefs.Nodes), v1, v2, v3] :: ov [(.int .i64 a.Beliefs.Nodes), v1, v2, v3] (a : Frame) :: Hs) rfl ?_
  refine C_seq ?_
  refine C_reg ?_
  refine q1 rfl (D_fb f_34_0 rfl rfl (q := 0) rfl) ?_
  refine q1 rfl (lba (es := [(.int .i64 a.Beliefs.Nodes), v1]) 0 a_32 rfl rfl rfl rfl) ?_
  refine p1 rfl ?_
  refine D_fd [1] 0 rfl ?_
  refine D_unpair (α := Go.Sy.Beliefs) (β := (List Int) × (List Int)) (c1 := [(.int .i64 a.Beliefs.Nodes), v1]) (c2 := [v2, v3]) (x := a.Beliefs) (y := (a.Assumed, a.Bad)) rfl rfl ?_
  refine D_fd [1] 0 rfl ?_
  refine D_unpair (α := (List Int)) (β := (List Int)) (c1 := [v2]) (c2 := [v3]) (x := a.Assumed) (y := (a.Bad)) rfl rfl ?_
  refine D_fd [1] 0 rfl ?_
  refine D_fd [2] 0 rfl ?_
  refine D_unpair (α := Int) (β := (List Reason)) (c1 := [(.int .i64 a.Beliefs.Nodes)]) (c2 := [v1]) (x := a.Beliefs.Nodes) (y := (a.Beliefs.Reasons)) rfl rfl ?_
  refine D_fd [] 1 rfl ?_
  refine pk_Beliefs (r := (⟨a.Beliefs.Nodes, a.Beliefs.Reasons⟩ : Beliefs)) ?_
  refine li rfl (cm b_24 rfl rfl rfl rfl (fun w' hs => laws_markBeliefs _ _ w' [(.int .i64 a.Beliefs.Nodes), v1] (⟨a.Beliefs.Nodes, a.Beliefs.Reasons⟩ : Beliefs) k (by first | assumption | omega | (simp only; omega)) (by first | assumption | omega | (simp only; omega)) hs) ?_)
  refine p1 rfl ?_
  refine D_end ?_
  refine x_then ?_
  refine D_H (ov [(.int .i64 a.Beliefs.Nodes), v1] (mkB k (⟨a.Beliefs.Nodes, a.Beliefs.Reasons⟩ : Beliefs) : Beliefs) :: ov [v3] (a.Bad : (List Int)) :: ov [v2] (a.Assumed : (List Int)) :: bx g4 [(.int .i64 a.Beliefs.Nodes), v1, v2, v3] :: Hs) rfl ?_
  refine C_seq ?_
  refine C_reg ?_
  refine q1 rfl (D_fb f_34_1 rfl rfl (q := 2) rfl) ?_
  refine q1 rfl (lb 3 o_25 rfl rfl rfl rfl) ?_
  refine p1 rfl ?_
  refine D_fd [2] 0 rfl ?_
  refine li rfl (cm b_16 rfl rfl rfl rfl (fun w' hs => laws_markIntS _ _ w' v2 a.Assumed (k + sumC cR (⟨a.Beliefs.Nodes, a.Beliefs.Reasons⟩ : Beliefs).Reasons) (by first | assumption | omega | (simp only; omega)) (by first | assumption | omega | (simp only; omega)) hs) ?_)
  refine p1 rfl ?_
  refine D_end ?_
  refine x_then ?_
  refine D_H (ov [v2] (mkI (k + sumC cR (⟨a.Beliefs.Nodes, a.Beliefs.Reasons⟩ : Beliefs).Reasons) a.Assumed : (List Int)) :: ov [(.int .i64 a.Beliefs.Nodes), v1] (mkB k (⟨a.Beliefs.Nodes, a.Beliefs.Reasons⟩ : Beliefs) : Beliefs) :: ov [v3] (a.Bad : (List Int)) :: bx g4 [(.int .i64 a.Beliefs.Nodes), v1, v2, v3] :: Hs) rfl ?_
  refine C_seq ?_
  refine C_reg ?_
  refine q1 rfl (D_fb f_34_2 rfl rfl (q := 3) rfl) ?_
  refine q1 rfl (lb 3 o_25 rfl rfl rfl rfl) ?_
  refine p1 rfl ?_
  refine D_fd [2] 0 rfl ?_
  refine li rfl (cm b_16 rfl rfl rfl rfl (fun w' hs => laws_markIntS _ _ w' v3 a.Bad ((k + sumC cR (⟨a.Beliefs.Nodes, a.Beliefs.Reasons⟩ : Beliefs).Reasons) + a.Assumed.length) (by first | assumption | omega | (simp only; omega)) (by first | assumption | omega | (simp only; omega)) hs) ?_)
  refine p1 rfl ?_
  refine D_end ?_
  refine x_then ?_
  refine D_weak [(1, (.int .i64 (((k + sumC cR (⟨a.Beliefs.Nodes, a.Beliefs.Reasons⟩ : Beliefs).Reasons) + a.Assumed.length) + a.Bad.length)))] ⟨rfl, trivial⟩ ?_
  refine D_H (ov [v3] (mkI ((k + sumC cR (⟨a.Beliefs.Nodes, a.Beliefs.Reasons⟩ : Beliefs).Reasons) + a.Assumed.length) a.Bad : (List Int)) :: ov [v2] (mkI (k + sumC cR (⟨a.Beliefs.Nodes, a.Beliefs.Reasons⟩ : Beliefs).Reasons) a.Assumed : (List Int)) :: ov [(.int .i64 a.Beliefs.Nodes), v1] (mkB k (⟨a.Beliefs.Nodes, a.Beliefs.Reasons⟩ : Beliefs) : Beliefs) :: bx g4 [(.int .i64 a.Beliefs.Nodes), v1, v2, v3] :: Hs) rfl ?_
  refine C_seq ?_
  refine C_reg ?_
  refine p1 rfl <| p1 rfl ?_
  refine D_end ?_
  refine x_then ?_
  refine C_ret ?_
  refine D_fd [2] 0 rfl ?_
  refine D_unpair (α := Int) (β := (List Reason)) (c1 := [(.int .i64 a.Beliefs.Nodes)]) (c2 := [v1]) (x := (mkB k (⟨a.Beliefs.Nodes, a.Beliefs.Reasons⟩ : Beliefs)).Nodes) (y := ((mkB k (⟨a.Beliefs.Nodes, a.Beliefs.Reasons⟩ : Beliefs)).Reasons)) rfl rfl ?_
  refine D_fd [] 1 rfl ?_
  refine D_fd [1, 2, 2] 0 rfl ?_
  refine pk_Frame (r := (⟨⟨a.Beliefs.Nodes, (mkB k (⟨a.Beliefs.Nodes, a.Beliefs.Reasons⟩ : Beliefs)).Reasons⟩, mkI (k + sumC cR (⟨a.Beliefs.Nodes, a.Beliefs.Reasons⟩ : Beliefs).Reasons) a.Assumed, mkI ((k + sumC cR (⟨a.Beliefs.Nodes, a.Beliefs.Reasons⟩ : Beliefs).Reasons) + a.Assumed.length) a.Bad⟩ : Frame)) ?_
  refine D_eq 0 rfl (show ((⟨⟨a.Beliefs.Nodes, (mkB k (⟨a.Beliefs.Nodes, a.Beliefs.Reasons⟩ : Beliefs)).Reasons⟩, mkI (k + sumC cR (⟨a.Beliefs.Nodes, a.Beliefs.Reasons⟩ : Beliefs).Reasons) a.Assumed, mkI ((k + sumC cR (⟨a.Beliefs.Nodes, a.Beliefs.Reasons⟩ : Beliefs).Reasons) + a.Assumed.length) a.Bad⟩ : Frame) : Frame) = mkFr k a from by rfl) ?_
  refine R_1 rfl rfl fun w' hs => ⟨congrArg (fun z => Ending.returned (Value.int .i64 z)) ?_, hs.fd [0, 1] 1 rfl⟩
  show ((((k + sumC cR (⟨a.Beliefs.Nodes, a.Beliefs.Reasons⟩ : Beliefs).Reasons) + a.Assumed.length) + a.Bad.length) : Int) = k + cFr a
  unfold cFr; simp only; omega
end Go.Sy.Belb
