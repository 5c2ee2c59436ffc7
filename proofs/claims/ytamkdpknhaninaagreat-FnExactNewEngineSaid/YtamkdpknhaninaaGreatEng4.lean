/-
  Contracts of functions of the program, walked (printed by a program of ours).
  Conditions: those that each theorem states.
-/
import Derived.Test.YtamkdpknhaninaaGreatEng3
set_option linter.unusedVariables false
set_option maxRecDepth 20000
namespace Go.Sy.Eng4
open Go Go.RowKit Go.Proofs Go.Sy
theorem mixed : Tryz.prog.follows .mixedOrders = true := by kernel_rfl
theorem y_83 : zeroTy Tryz.prog 83 = some (.agg #[(.string ⟨#[]⟩), (.slice none 0 0)]) := by kernel_rfl
theorem f_83_0 : fieldOff Tryz.prog 83 0 = some 0 := by kernel_rfl
theorem o_9 : oneTy Tryz.prog 9 = true := by kernel_rfl
theorem f_83_1 : fieldOff Tryz.prog 83 1 = some 1 := by kernel_rfl
theorem o_68 : oneTy Tryz.prog 68 = true := by kernel_rfl
theorem b_104 : hasBody Tryz.prog 104 = true := by kernel_rfl
theorem pl_83 : placeTy Tryz.prog 83 = some ([(0, 1), (1, 1)], [(.string ⟨#[]⟩), (.slice none 0 0)]) := by kernel_rfl
theorem z_83 : sizeTy Tryz.prog 83 = some 2 := by kernel_rfl
theorem a_83 : aggTy Tryz.prog 83 = some 2 := by kernel_rfl
theorem b_93 : hasBody Tryz.prog 93 = true := by kernel_rfl
theorem y_85 : zeroTy Tryz.prog 85 = some (.agg #[(.int .i64 0), (.string ⟨#[]⟩), (.slice none 0 0), (.string ⟨#[]⟩), (.string ⟨#[]⟩)]) := by kernel_rfl
theorem f_85_1 : fieldOff Tryz.prog 85 1 = some 1 := by kernel_rfl
theorem b_81 : hasBody Tryz.prog 81 = true := by kernel_rfl
theorem a_85 : aggTy Tryz.prog 85 = some 5 := by kernel_rfl
theorem z_85 : sizeTy Tryz.prog 85 = some 5 := by kernel_rfl
theorem s_127 : sliceTy Tryz.prog 127 = some (130, 2, 32) := by kernel_rfl
theorem f_85_0 : fieldOff Tryz.prog 85 0 = some 0 := by kernel_rfl
theorem o_3 : oneTy Tryz.prog 3 = true := by kernel_rfl
theorem f_85_2 : fieldOff Tryz.prog 85 2 = some 3 := by kernel_rfl
theorem f_85_3 : fieldOff Tryz.prog 85 3 = some 4 := by kernel_rfl
theorem b_108 : hasBody Tryz.prog 108 = true := by kernel_rfl
theorem s_68 : sliceTy Tryz.prog 68 = some (9, 1, 16) := by kernel_rfl
theorem y_9 : zeroTy Tryz.prog 9 = some (.string ⟨#[]⟩) := by kernel_rfl
theorem z_68 : sizeTy Tryz.prog 68 = some 1 := by kernel_rfl
theorem b_92 : hasBody Tryz.prog 92 = true := by kernel_rfl
theorem s_45 : sliceTy Tryz.prog 45 = some (85, 5, 80) := by kernel_rfl
theorem b_103 : hasBody Tryz.prog 103 = true := by kernel_rfl
theorem y_48 : zeroTy Tryz.prog 48 = some (.agg #[(.string ⟨#[]⟩), (.int .i64 0), (.slice none 0 0), (.slice none 0 0)]) := by kernel_rfl
theorem f_48_0 : fieldOff Tryz.prog 48 0 = some 0 := by kernel_rfl
theorem f_48_1 : fieldOff Tryz.prog 48 1 = some 1 := by kernel_rfl
theorem f_48_2 : fieldOff Tryz.prog 48 2 = some 2 := by kernel_rfl
theorem o_45 : oneTy Tryz.prog 45 = true := by kernel_rfl
theorem b_80 : hasBody Tryz.prog 80 = true := by kernel_rfl
theorem pl_48 : placeTy Tryz.prog 48 = some ([(0, 1), (1, 1), (2, 1), (3, 1)], [(.string ⟨#[]⟩), (.int .i64 0), (.slice none 0 0), (.slice none 0 0)]) := by kernel_rfl
theorem z_48 : sizeTy Tryz.prog 48 = some 4 := by kernel_rfl
theorem f_48_3 : fieldOff Tryz.prog 48 3 = some 3 := by kernel_rfl
theorem o_46 : oneTy Tryz.prog 46 = true := by kernel_rfl
theorem s_46 : sliceTy Tryz.prog 46 = some (88, 3, 48) := by kernel_rfl
theorem a_88 : aggTy Tryz.prog 88 = some 3 := by kernel_rfl
theorem y_88 : zeroTy Tryz.prog 88 = some (.agg #[(.int .i64 0), (.string ⟨#[]⟩), (.slice none 0 0)]) := by kernel_rfl
theorem z_88 : sizeTy Tryz.prog 88 = some 3 := by kernel_rfl
theorem f_88_0 : fieldOff Tryz.prog 88 0 = some 0 := by kernel_rfl
theorem f_88_1 : fieldOff Tryz.prog 88 1 = some 1 := by kernel_rfl
theorem pl_88 : placeTy Tryz.prog 88 = some ([(0, 1), (1, 2)], [(.int .i64 0), (.string ⟨#[]⟩), (.slice none 0 0)]) := by kernel_rfl
theorem z_46 : sizeTy Tryz.prog 46 = some 1 := by kernel_rfl
theorem a_48 : aggTy Tryz.prog 48 = some 4 := by kernel_rfl
theorem s_24 : sliceTy Tryz.prog 24 = some (48, 4, 72) := by kernel_rfl
theorem b_42 : hasBody Tryz.prog 42 = true := by kernel_rfl
theorem b_67 : hasBody Tryz.prog 67 = true := by kernel_rfl
theorem z_45 : sizeTy Tryz.prog 45 = some 1 := by kernel_rfl
theorem b_68 : hasBody Tryz.prog 68 = true := by kernel_rfl
theorem b_37 : hasBody Tryz.prog 37 = true := by kernel_rfl
theorem y_29 : zeroTy Tryz.prog 29 = some (.agg #[(.slice none 0 0), (.slice none 0 0), (.int .i64 0), (.slice none 0 0), (.bool false), (.slice none 0 0)]) := by kernel_rfl
theorem b_17 : hasBody Tryz.prog 17 = true := by kernel_rfl
theorem z_29 : sizeTy Tryz.prog 29 = some 6 := by kernel_rfl
theorem a_29 : aggTy Tryz.prog 29 = some 6 := by kernel_rfl
theorem b_18 : hasBody Tryz.prog 18 = true := by kernel_rfl
theorem pl_29 : placeTy Tryz.prog 29 = some ([(0, 1), (1, 1), (2, 1), (3, 1), (4, 1), (5, 1)], [(.slice none 0 0), (.slice none 0 0), (.int .i64 0), (.slice none 0 0), (.bool false), (.slice none 0 0)]) := by kernel_rfl
theorem b_14 : hasBody Tryz.prog 14 = true := by kernel_rfl
theorem b_15 : hasBody Tryz.prog 15 = true := by kernel_rfl
open Go.Sy.Bel1 Go.Sy.Ev1 Go.Sy.Ev2 Go.Sy.Eng1 Go.Sy.Eng2 Go.Sy.Eng3
theorem impl_copyPattern (w : World) (c_p : List Value) (p : Pattern) (h_p : Gd.rd w c_p p) (hp : szPattern p ≤ 1048576) : Calls Tryz.prog 81 [(.agg c_p.toArray)].toArray w (Res w (p : Pattern)) := by
  obtain ⟨u1, rfl, hu2⟩ := open_Pattern h_p
  have hm3 := rd_max hu2
  have hpa := szPat_args p
  refine enter 9 Tryz.func81 rfl rfl rfl ?_
  refine C_seq ?_
  refine C_reg ?_
  refine li rfl (D_box rfl rfl rfl rfl rfl fun g4 => ?_)
  refine li rfl (D_alloc y_83 rfl rfl rfl rfl fun g5 => ?_)
  refine D_end ?_
  refine x_then ?_
  refine D_H ([bx g5 [(.string ⟨#[]⟩), (.slice none 0 0)], bx g4 [(.string p.Rel), u1]]) rfl ?_
  refine C_seq ?_
  refine C_draw mixed [6] (by kernel_rfl) ?_
  refine tk 0 rfl (by kernel_rfl) (by kernel_rfl) (by kernel_rfl) rfl (fun _ hs => hs) (D_fb f_83_0 rfl rfl (q := 0) rfl) ?_
  refine tk 1 rfl (by kernel_rfl) (by kernel_rfl) (by kernel_rfl) rfl (fun _ hs => hs) (lb 1 o_9 rfl rfl rfl rfl) ?_
  refine tk 2 rfl (by kernel_rfl) (by kernel_rfl) (by kernel_rfl) rfl (fun _ hs => hs) (D_fb f_83_1 rfl rfl (q := 1) rfl) ?_
  refine tk 3 rfl (by kernel_rfl) (by kernel_rfl) (by kernel_rfl) rfl (fun _ hs => hs) (lb 1 o_68 rfl rfl rfl rfl) ?_
  refine ty 4 rfl (by kernel_rfl) rfl (crl b_104 rfl rfl rfl rfl (fun w' hs => (impl_copyTexts w' u1 p.Args (rd_at hs hu2) (by first | assumption | omega | (unfold szm at *; split at * <;> omega)))) fun v6 => ?_)
  refine tS (fun _ hs => hs.pk [1, 2] rfl rfl) ?_
  refine D_pre (fun w' hs => one_own (k := 0) hs rfl) ?_
  intro ho8
  refine ty 5 rfl (by kernel_rfl) rfl (sv rfl rfl (D_built (vs := [(0, (.string p.Rel)), (1, v6)]) (xs := [(0, [(.string p.Rel)]), (1, [v6])]) (cs := [(.string p.Rel), v6]) pl_83 rfl ⟨rfl, rfl, ⟨rfl, (cells_of_one ho8), trivial⟩⟩ rfl rfl) ?_)
  refine tS (fun _ hs => hs.pk [1, 2] rfl rfl) ?_
  refine ty 6 rfl (by kernel_rfl) rfl (D_stb (vs := [(.string p.Rel), v6]) (cs' := [(.string p.Rel), v6]) 1 z_83 rfl rfl rfl rfl rfl rfl (ocons rfl (ocons ho8 onil)) (by simp) rfl ?_)
  refine tZ rfl ?_
  refine tE (by kernel_rfl) ?_
  refine x_then ?_
  refine D_H ([ov [v6] (p.Args : (List ByteArray)), bx g5 [(.string p.Rel), v6], bx g4 [(.string p.Rel), u1]]) rfl ?_
  refine C_ret ?_
  refine pk_Pattern (r := (⟨p.Rel, p.Args⟩ : Pattern)) ?_
  refine R_c 1 a_83 rfl rfl rfl fun w' hs => res_of (k := 0) hs rfl ?_
  show (⟨p.Rel, p.Args⟩ : Pattern) = p
  rfl

theorem spec_l3CopyPattern (w : World) (c_p : List Value) (p : Pattern) (h_p : Gd.rd w c_p p) (hp : szPattern p ≤ 1048576) : Calls Tryz.prog 68 [(.agg c_p.toArray)].toArray w (Res w (p : Pattern)) := by
  obtain ⟨u1, rfl, hu2⟩ := open_Pattern h_p
  have hm3 := rd_max hu2
  have hpa := szPat_args p
  refine enter 9 Tryz.func68 rfl rfl rfl ?_
  refine C_seq ?_
  refine C_reg ?_
  refine li rfl (D_box rfl rfl rfl rfl rfl fun g4 => ?_)
  refine li rfl (D_alloc y_83 rfl rfl rfl rfl fun g5 => ?_)
  refine D_end ?_
  refine x_then ?_
  refine D_H ([bx g5 [(.string ⟨#[]⟩), (.slice none 0 0)], bx g4 [(.string p.Rel), u1]]) rfl ?_
  refine C_seq ?_
  refine C_draw mixed [6] (by kernel_rfl) ?_
  refine tk 0 rfl (by kernel_rfl) (by kernel_rfl) (by kernel_rfl) rfl (fun _ hs => hs) (D_fb f_83_0 rfl rfl (q := 0) rfl) ?_
  refine tk 1 rfl (by kernel_rfl) (by kernel_rfl) (by kernel_rfl) rfl (fun _ hs => hs) (lb 1 o_9 rfl rfl rfl rfl) ?_
  refine tk 2 rfl (by kernel_rfl) (by kernel_rfl) (by kernel_rfl) rfl (fun _ hs => hs) (D_fb f_83_1 rfl rfl (q := 1) rfl) ?_
  refine tk 3 rfl (by kernel_rfl) (by kernel_rfl) (by kernel_rfl) rfl (fun _ hs => hs) (lb 1 o_68 rfl rfl rfl rfl) ?_
  refine ty 4 rfl (by kernel_rfl) rfl (crl b_93 rfl rfl rfl rfl (fun w' hs => (spec_l1Texts w' u1 p.Args (rd_at hs hu2) (by first | assumption | omega | (unfold szm at *; split at * <;> omega)))) fun v6 => ?_)
  refine tS (fun _ hs => hs.pk [1, 2] rfl rfl) ?_
  refine D_pre (fun w' hs => one_own (k := 0) hs rfl) ?_
  intro ho8
  refine ty 5 rfl (by kernel_rfl) rfl (sv rfl rfl (D_built (vs := [(0, (.string p.Rel)), (1, v6)]) (xs := [(0, [(.string p.Rel)]), (1, [v6])]) (cs := [(.string p.Rel), v6]) pl_83 rfl ⟨rfl, rfl, ⟨rfl, (cells_of_one ho8), trivial⟩⟩ rfl rfl) ?_)
  refine tS (fun _ hs => hs.pk [1, 2] rfl rfl) ?_
  refine ty 6 rfl (by kernel_rfl) rfl (D_stb (vs := [(.string p.Rel), v6]) (cs' := [(.string p.Rel), v6]) 1 z_83 rfl rfl rfl rfl rfl rfl (ocons rfl (ocons ho8 onil)) (by simp) rfl ?_)
  refine tZ rfl ?_
  refine tE (by kernel_rfl) ?_
  refine x_then ?_
  refine D_H ([ov [v6] (p.Args : (List ByteArray)), bx g5 [(.string p.Rel), v6], bx g4 [(.string p.Rel), u1]]) rfl ?_
  refine C_ret ?_
  refine pk_Pattern (r := (⟨p.Rel, p.Args⟩ : Pattern)) ?_
  refine R_c 1 a_83 rfl rfl rfl fun w' hs => res_of (k := 0) hs rfl ?_
  show (⟨p.Rel, p.Args⟩ : Pattern) = p
  rfl

theorem impl_copyCond (w : World) (c_x : List Value) (x : Cond) (h_x : Gd.rd w c_x x) (hx : szCond x ≤ 1048576) : Calls Tryz.prog 103 [(.agg c_x.toArray)].toArray w (Res w (x : Cond)) := by
  obtain ⟨u1, rfl, hu2⟩ := open_Cond h_x
  have hm3 := rd_max hu2
  have hb4 := sub_Cond_Pattern h_x
  unfold szCond at hx
  have hpa := szPat_args x.Pattern
  refine enter 8 Tryz.func103 rfl rfl rfl ?_
  refine C_seq ?_
  refine C_reg ?_
  refine li rfl (D_box rfl rfl rfl rfl rfl fun g5 => ?_)
  refine li rfl (D_alloc y_85 rfl rfl rfl rfl fun g6 => ?_)
  refine D_end ?_
  refine x_then ?_
  refine D_H ([bx g6 [(.int .i64 0), (.string ⟨#[]⟩), (.slice none 0 0), (.string ⟨#[]⟩), (.string ⟨#[]⟩)], bx g5 [(.int .i64 x.Kind), (.string x.Pattern.Rel), u1, (.string x.Left), (.string x.Right)]]) rfl ?_
  refine C_seq ?_
  refine C_reg ?_
  refine q1 rfl (D_fb f_85_1 rfl rfl (q := 1) rfl) ?_
  refine q1 rfl (lba (es := [(.string x.Pattern.Rel), u1]) 1 a_83 rfl rfl rfl rfl) ?_
  refine li rfl (crs rfl b_81 rfl rfl rfl rfl (fun w' hs => (impl_copyPattern w' [(.string x.Pattern.Rel), u1] x.Pattern (rd_at hs hb4) (by first | assumption | omega | (unfold szm at *; split at * <;> omega)))) fun cs7 => ?_)
  refine D_pre (fun w' hs => shape_Pattern (rd_own (k := 0) hs rfl)) ?_
  rintro ⟨v8, rfl, ho9⟩
  refine q1 rfl (D_fb f_85_1 rfl rfl (q := 1) rfl) ?_
  refine li rfl (D_stb (vs := [(.string x.Pattern.Rel), v8]) (cs' := [(.int .i64 x.Kind), (.string x.Pattern.Rel), v8, (.string x.Left), (.string x.Right)]) 2 z_83 rfl rfl rfl rfl rfl rfl (ocons rfl (ocons ho9 onil)) (by simp) rfl ?_)
  refine D_end ?_
  refine x_then ?_
  refine D_H ([ov [(.string x.Pattern.Rel), v8] (x.Pattern : Pattern), bx g6 [(.int .i64 0), (.string ⟨#[]⟩), (.slice none 0 0), (.string ⟨#[]⟩), (.string ⟨#[]⟩)], bx g5 [(.int .i64 x.Kind), (.string x.Pattern.Rel), v8, (.string x.Left), (.string x.Right)]]) rfl ?_
  refine C_seq ?_
  refine C_reg ?_
  refine q1 rfl (lbw 2 a_85 rfl rfl rfl) ?_
  refine li rfl (D_stb (vs := [(.int .i64 x.Kind), (.string x.Pattern.Rel), v8, (.string x.Left), (.string x.Right)]) (cs' := [(.int .i64 x.Kind), (.string x.Pattern.Rel), v8, (.string x.Left), (.string x.Right)]) 1 z_85 rfl rfl rfl rfl rfl rfl (ocons rfl (ocons rfl (ocons ho9 (ocons rfl (ocons rfl onil))))) (by simp) rfl ?_)
  refine D_end ?_
  refine x_then ?_
  refine D_H ([ov [(.string x.Pattern.Rel), v8] (x.Pattern : Pattern), bx g6 [(.int .i64 x.Kind), (.string x.Pattern.Rel), v8, (.string x.Left), (.string x.Right)], bx g5 [(.int .i64 x.Kind), (.string x.Pattern.Rel), v8, (.string x.Left), (.string x.Right)]]) rfl ?_
  refine C_ret ?_
  refine D_unpair (α := ByteArray) (β := (List ByteArray)) (c1 := [(.string x.Pattern.Rel)]) (c2 := [v8]) (x := x.Pattern.Rel) (y := (x.Pattern.Args)) rfl rfl ?_
  refine D_fd [] 1 rfl ?_
  refine pk_Cond (r := (⟨x.Kind, ⟨x.Pattern.Rel, x.Pattern.Args⟩, x.Left, x.Right⟩ : Cond)) ?_
  refine R_c 1 a_85 rfl rfl rfl fun w' hs => res_of (k := 0) hs rfl ?_
  show (⟨x.Kind, ⟨x.Pattern.Rel, x.Pattern.Args⟩, x.Left, x.Right⟩ : Cond) = x
  rfl

theorem spec_l4Renamed (w : World) (s : ByteArray) : Calls Tryz.prog 108 [(.string s), (.slice none 0 0)].toArray w (Val w (.string (s))) := by
  refine enter 25 Tryz.func108 rfl rfl rfl ?_
  refine C_seq ?_
  refine C_reg ?_
  refine p1 rfl ?_
  refine D_end ?_
  refine x_then ?_
  refine C_seq ?_
  refine C_seq ?_
  refine C_reg ?_
  refine p1 rfl ?_
  refine D_end ?_
  refine x_then ?_
  refine C_block ?_
  refine C_loop (fun m_ ac w' => ∃ (k : Nat), (k ≤ 0) ∧ m_ = 0 - k ∧ Fits ac 25 [(0, (.string s)), (1, (.slice none 0 0)), (5, (.int .i64 ((k : Nat) : Int)))] ∧ St w ([]) w') ?_ ?_
  · refine fun ac w' hf hs => ⟨_, 0, ?_, rfl, hf.weak ⟨rfl, rfl, rfl, trivial⟩, hs⟩
    · first | assumption | omega | simp
  · rintro m_ ac w' ⟨k, hk, rfl, hf, hs⟩
    refine D.use ?_ hf hs
    clear hf hs ac w'
    refine C_seq ?_
    refine C_seq ?_
    refine C_reg ?_
    refine p1 rfl <| p1 rfl ?_
    refine q1 rfl (D_len s_127 rfl rfl (n := 0) ⟨_, _, rfl⟩) ?_
    refine p1 rfl ?_
    refine D_end ?_
    refine x_then ?_
    refine C_if _ rfl (fun h1 => ?_) (fun h1 => ?_)
    · have pr1 : (((k : Nat) : Int) : Int) < 0 := of_decide_eq_true h1
      refine C_skip ?_
      refine x_then ?_
      refine C_seq ?_
      refine C_block ?_
      refine C_seq ?_
      exfalso; omega
    · have pr1 : ¬ (((k : Nat) : Int) : Int) < 0 := of_decide_eq_false h1
      refine C_exit ?_
      refine x_then_exit ?_
      refine x_then_exit ?_
      refine x_blk_eq ?_
      refine x_then ?_
      refine C_seq ?_
      refine C_reg ?_
      refine p1 rfl <| p1 rfl ?_
      refine D_end ?_
      refine x_then ?_
      refine C_ret ?_
      refine R_1 rfl rfl fun w' hs => ⟨congrArg (fun z => Ending.returned (Value.string z)) ?_, hs.bel⟩
      show (s : ByteArray) = s
      rfl

theorem spec_RenameCond (w : World) (c_x : List Value) (x : Cond) (h_x : Gd.rd w c_x x) (hx : szCond x ≤ 1048576) : Calls Tryz.prog 92 [(.agg c_x.toArray), (.slice none 0 0)].toArray w (Res w (x : Cond)) := by
  obtain ⟨u1, rfl, hu2⟩ := open_Cond h_x
  have hm3 := rd_max hu2
  have hb4 := sub_Cond_Pattern h_x
  unfold szCond at hx
  have hpa := szPat_args x.Pattern
  refine enter 46 Tryz.func92 rfl rfl rfl ?_
  refine C_seq ?_
  refine C_reg ?_
  refine li rfl (D_box rfl rfl rfl rfl rfl fun g5 => ?_)
  refine li rfl (D_alloc y_85 rfl rfl rfl rfl fun g6 => ?_)
  refine D_end ?_
  refine x_then ?_
  refine D_H ([bx g6 [(.int .i64 0), (.string ⟨#[]⟩), (.slice none 0 0), (.string ⟨#[]⟩), (.string ⟨#[]⟩)], bx g5 [(.int .i64 x.Kind), (.string x.Pattern.Rel), u1, (.string x.Left), (.string x.Right)]]) rfl ?_
  refine C_seq ?_
  refine C_join (fun ac w' => ∃ (g7 : Nat), Fits ac 46 [(1, (.slice none 0 0)), (2, (.pointer (some ⟨g5, 0, none⟩))), (4, (.pointer (some ⟨g6, 0, none⟩))), (5, (.pointer (some ⟨g7, 0, none⟩)))] ∧ St w ([bx g7 [(.int .i64 x.Kind), (.string x.Pattern.Rel), (.slice none 0 0), (.string x.Left), (.string x.Right)], bx g6 [(.int .i64 0), (.string ⟨#[]⟩), (.slice none 0 0), (.string ⟨#[]⟩), (.string ⟨#[]⟩)], bx g5 [(.int .i64 x.Kind), (.string x.Pattern.Rel), u1, (.string x.Left), (.string x.Right)]]) w') ?_ ?_
  · refine C_draw mixed [16] (by kernel_rfl) ?_
    refine tk 0 rfl (by kernel_rfl) (by kernel_rfl) (by kernel_rfl) rfl (fun _ hs => hs) (D_fb f_85_0 rfl rfl (q := 0) rfl) ?_
    refine tk 1 rfl (by kernel_rfl) (by kernel_rfl) (by kernel_rfl) rfl (fun _ hs => hs) (lb 1 o_3 rfl rfl rfl rfl) ?_
    refine tk 2 rfl (by kernel_rfl) (by kernel_rfl) (by kernel_rfl) rfl (fun _ hs => hs) (D_fb f_85_1 rfl rfl (q := 1) rfl) ?_
    refine tk 3 rfl (by kernel_rfl) (by kernel_rfl) (by kernel_rfl) rfl (fun _ hs => hs) (D_fb f_83_0 rfl rfl (q := 1) rfl) ?_
    refine tk 4 rfl (by kernel_rfl) (by kernel_rfl) (by kernel_rfl) rfl (fun _ hs => hs) (lb 1 o_9 rfl rfl rfl rfl) ?_
    refine tk 5 rfl (by kernel_rfl) (by kernel_rfl) (by kernel_rfl) rfl (fun _ hs => hs) (D_build (vs := [(0, (.string x.Pattern.Rel))]) (cs := [(.string x.Pattern.Rel), (.slice none 0 0)]) rfl (fun _ => by kernel_rfl) rfl) ?_
    refine tk 6 rfl (by kernel_rfl) (by kernel_rfl) (by kernel_rfl) rfl (fun _ hs => hs) (D_fb f_85_2 rfl rfl (q := 3) rfl) ?_
    refine tk 7 rfl (by kernel_rfl) (by kernel_rfl) (by kernel_rfl) rfl (fun _ hs => hs) (lb 1 o_9 rfl rfl rfl rfl) ?_
    refine tk 8 rfl (by kernel_rfl) (by kernel_rfl) (by kernel_rfl) rfl (fun _ hs => hs) (rp rfl) ?_
    refine tk 10 rfl (by kernel_rfl) (by kernel_rfl) (by kernel_rfl) rfl (fun _ hs => hs) (D_fb f_85_3 rfl rfl (q := 4) rfl) ?_
    refine tk 11 rfl (by kernel_rfl) (by kernel_rfl) (by kernel_rfl) rfl (fun _ hs => hs) (lb 1 o_9 rfl rfl rfl rfl) ?_
    refine tk 12 rfl (by kernel_rfl) (by kernel_rfl) (by kernel_rfl) rfl (fun _ hs => hs) (rp rfl) ?_
    refine tyN [9, 15] rfl (by kernel_rfl) ⟨⟨_, rfl, rfl, ?_⟩, ⟨_, rfl, rfl, ?_⟩, trivial⟩
    · refine id (cv b_108 rfl rfl rfl rfl (fun w' hs => (spec_l4Renamed w' x.Left)) ?_)
      refine tS (fun _ hs => hs) ?_
      refine tyN [13, 15] rfl (by kernel_rfl) ⟨⟨_, rfl, rfl, ?_⟩, ⟨_, rfl, rfl, ?_⟩, trivial⟩
      · refine id (cv b_108 rfl rfl rfl rfl (fun w' hs => (spec_l4Renamed w' x.Right)) ?_)
        refine tS (fun _ hs => hs) ?_
        refine tk 14 rfl (by kernel_rfl) (by kernel_rfl) (by kernel_rfl) rfl (fun _ hs => hs) (D_build (vs := [(0, (.int .i64 x.Kind)), (1, (.agg #[(.string x.Pattern.Rel), (.slice none 0 0)])), (2, (.string x.Left)), (3, (.string x.Right))]) (cs := [(.int .i64 x.Kind), (.string x.Pattern.Rel), (.slice none 0 0), (.string x.Left), (.string x.Right)]) rfl (fun _ => by kernel_rfl) rfl) ?_
        refine ty 15 rfl (by kernel_rfl) rfl (D_alloc y_85 rfl rfl rfl rfl fun g7 => ?_)
        refine tS (fun _ hs => hs.pk [1, 2] rfl rfl) ?_
        refine ty 16 rfl (by kernel_rfl) rfl (D_stb (vs := [(.int .i64 x.Kind), (.string x.Pattern.Rel), (.slice none 0 0), (.string x.Left), (.string x.Right)]) (cs' := [(.int .i64 x.Kind), (.string x.Pattern.Rel), (.slice none 0 0), (.string x.Left), (.string x.Right)]) 0 z_85 rfl rfl rfl rfl rfl rfl (ocons rfl (ocons rfl (ocons rfl (ocons rfl (ocons rfl onil))))) (by simp) rfl ?_)
        refine tZ rfl ?_
        refine tE (by kernel_rfl) ?_
        refine x_then ?_
        refine fun ac w' hf hs => ⟨g7, hf.weak ⟨rfl, rfl, rfl, rfl, trivial⟩, hs⟩
      · refine id (D_alloc y_85 rfl rfl rfl rfl fun g8 => ?_)
        refine tS (fun _ hs => hs.pk [1, 2] rfl rfl) ?_
        refine ty 13 rfl (by kernel_rfl) rfl (cv b_108 rfl rfl rfl rfl (fun w' hs => (spec_l4Renamed w' x.Right)) ?_)
        refine tS (fun _ hs => hs.pk [1, 2] rfl rfl) ?_
        refine tk 14 rfl (by kernel_rfl) (by kernel_rfl) (by kernel_rfl) rfl (fun _ hs => hs.pk [1, 2] rfl rfl) (D_build (vs := [(0, (.int .i64 x.Kind)), (1, (.agg #[(.string x.Pattern.Rel), (.slice none 0 0)])), (2, (.string x.Left)), (3, (.string x.Right))]) (cs := [(.int .i64 x.Kind), (.string x.Pattern.Rel), (.slice none 0 0), (.string x.Left), (.string x.Right)]) rfl (fun _ => by kernel_rfl) rfl) ?_
        refine ty 16 rfl (by kernel_rfl) rfl (D_stb (vs := [(.int .i64 x.Kind), (.string x.Pattern.Rel), (.slice none 0 0), (.string x.Left), (.string x.Right)]) (cs' := [(.int .i64 x.Kind), (.string x.Pattern.Rel), (.slice none 0 0), (.string x.Left), (.string x.Right)]) 0 z_85 rfl rfl rfl rfl rfl rfl (ocons rfl (ocons rfl (ocons rfl (ocons rfl (ocons rfl onil))))) (by simp) rfl ?_)
        refine tZ rfl ?_
        refine tE (by kernel_rfl) ?_
        refine x_then ?_
        refine fun ac w' hf hs => ⟨g8, hf.weak ⟨rfl, rfl, rfl, rfl, trivial⟩, hs⟩
    · refine id (D_alloc y_85 rfl rfl rfl rfl fun g9 => ?_)
      refine tS (fun _ hs => hs.pk [1, 2] rfl rfl) ?_
      refine ty 9 rfl (by kernel_rfl) rfl (cv b_108 rfl rfl rfl rfl (fun w' hs => (spec_l4Renamed w' x.Left)) ?_)
      refine tS (fun _ hs => hs.pk [1, 2] rfl rfl) ?_
      refine ty 13 rfl (by kernel_rfl) rfl (cv b_108 rfl rfl rfl rfl (fun w' hs => (spec_l4Renamed w' x.Right)) ?_)
      refine tS (fun _ hs => hs.pk [1, 2] rfl rfl) ?_
      refine tk 14 rfl (by kernel_rfl) (by kernel_rfl) (by kernel_rfl) rfl (fun _ hs => hs.pk [1, 2] rfl rfl) (D_build (vs := [(0, (.int .i64 x.Kind)), (1, (.agg #[(.string x.Pattern.Rel), (.slice none 0 0)])), (2, (.string x.Left)), (3, (.string x.Right))]) (cs := [(.int .i64 x.Kind), (.string x.Pattern.Rel), (.slice none 0 0), (.string x.Left), (.string x.Right)]) rfl (fun _ => by kernel_rfl) rfl) ?_
      refine ty 16 rfl (by kernel_rfl) rfl (D_stb (vs := [(.int .i64 x.Kind), (.string x.Pattern.Rel), (.slice none 0 0), (.string x.Left), (.string x.Right)]) (cs' := [(.int .i64 x.Kind), (.string x.Pattern.Rel), (.slice none 0 0), (.string x.Left), (.string x.Right)]) 0 z_85 rfl rfl rfl rfl rfl rfl (ocons rfl (ocons rfl (ocons rfl (ocons rfl (ocons rfl onil))))) (by simp) rfl ?_)
      refine tZ rfl ?_
      refine tE (by kernel_rfl) ?_
      refine x_then ?_
      refine fun ac w' hf hs => ⟨g9, hf.weak ⟨rfl, rfl, rfl, rfl, trivial⟩, hs⟩
  rintro ac w' ⟨g7, hf, hs⟩
  refine D.use ?_ hf hs
  clear hf hs ac w'
  refine x_then ?_
  refine D_H ([bx g7 [(.int .i64 x.Kind), (.string x.Pattern.Rel), (.slice none 0 0), (.string x.Left), (.string x.Right)], bx g6 [(.int .i64 0), (.string ⟨#[]⟩), (.slice none 0 0), (.string ⟨#[]⟩), (.string ⟨#[]⟩)], bx g5 [(.int .i64 x.Kind), (.string x.Pattern.Rel), u1, (.string x.Left), (.string x.Right)]]) rfl ?_
  refine C_seq ?_
  refine C_seq ?_
  refine C_reg ?_
  refine p1 rfl ?_
  refine D_end ?_
  refine x_then ?_
  refine C_block ?_
  refine C_loop (fun m_ ac w' => ∃ (k : Nat), ∃ (v : Value), (k ≤ x.Pattern.Args.length) ∧ m_ = x.Pattern.Args.length - k ∧ Fits ac 46 [(1, (.slice none 0 0)), (2, (.pointer (some ⟨g5, 0, none⟩))), (4, (.pointer (some ⟨g6, 0, none⟩))), (5, (.pointer (some ⟨g7, 0, none⟩))), (6, (.int .i64 ((k : Nat) : Int)))] ∧ St w ([ov [v] (x.Pattern.Args.take k : (List ByteArray)), bx g7 [(.int .i64 x.Kind), (.string x.Pattern.Rel), v, (.string x.Left), (.string x.Right)], bx g6 [(.int .i64 0), (.string ⟨#[]⟩), (.slice none 0 0), (.string ⟨#[]⟩), (.string ⟨#[]⟩)], bx g5 [(.int .i64 x.Kind), (.string x.Pattern.Rel), u1, (.string x.Left), (.string x.Right)]]) w') ?_ ?_
  · refine D_nil (α := ByteArray) ?_
    refine D_eq 0 rfl (show ([] : (List ByteArray)) = x.Pattern.Args.take 0 from by simp) ?_
    refine fun ac w' hf hs => ⟨_, 0, (.slice none 0 0), ?_, rfl, hf.weak ⟨rfl, rfl, rfl, rfl, rfl, trivial⟩, hs⟩
    · first | assumption | omega | simp
  · rintro m_ ac w' ⟨k, v, hk, rfl, hf, hs⟩
    refine D.use ?_ hf hs
    clear hf hs ac w'
    have hcl : (x.Pattern.Args.take k).length ≤ k := by rw [List.length_take]; omega
    refine C_seq ?_
    refine C_seq ?_
    refine C_reg ?_
    refine p1 rfl ?_
    refine q1 rfl (D_fb f_85_1 rfl rfl (q := 1) rfl) ?_
    refine q1 rfl (D_fb f_83_1 rfl rfl (q := 2) rfl) ?_
    refine q1 rfl (lb 3 o_68 rfl rfl rfl rfl) ?_
    refine q1 rfl (D_len s_68 rfl rfl (rd_sl hu2)) ?_
    refine p1 rfl ?_
    refine D_end ?_
    refine x_then ?_
    refine D_H ([ov [v] (x.Pattern.Args.take k : (List ByteArray)), bx g7 [(.int .i64 x.Kind), (.string x.Pattern.Rel), v, (.string x.Left), (.string x.Right)], bx g6 [(.int .i64 0), (.string ⟨#[]⟩), (.slice none 0 0), (.string ⟨#[]⟩), (.string ⟨#[]⟩)], bx g5 [(.int .i64 x.Kind), (.string x.Pattern.Rel), u1, (.string x.Left), (.string x.Right)]]) rfl ?_
    refine C_if _ rfl (fun h10 => ?_) (fun h10 => ?_)
    · have pr10 : (((k : Nat) : Int) : Int) < ((x.Pattern.Args.length : Nat) : Int) := of_decide_eq_true h10
      refine C_skip ?_
      refine x_then ?_
      refine C_seq ?_
      refine C_block ?_
      refine C_draw mixed [12, 13, 14, 15] (by kernel_rfl) ?_
      refine tk 0 rfl (by kernel_rfl) (by kernel_rfl) (by kernel_rfl) rfl (fun _ hs => hs) (D_fb f_85_1 rfl rfl (q := 1) rfl) ?_
      refine tk 1 rfl (by kernel_rfl) (by kernel_rfl) (by kernel_rfl) rfl (fun _ hs => hs) (D_fb f_83_1 rfl rfl (q := 2) rfl) ?_
      refine tk 2 rfl (by kernel_rfl) (by kernel_rfl) (by kernel_rfl) rfl (fun _ hs => hs) (lb 1 o_68 rfl rfl rfl rfl) ?_
      refine tk 3 rfl (by kernel_rfl) (by kernel_rfl) (by kernel_rfl) rfl (fun _ hs => hs) (D_fb f_85_1 rfl rfl (q := 1) rfl) ?_
      refine tk 4 rfl (by kernel_rfl) (by kernel_rfl) (by kernel_rfl) rfl (fun _ hs => hs) (D_fb f_83_1 rfl rfl (q := 2) rfl) ?_
      refine tk 5 rfl (by kernel_rfl) (by kernel_rfl) (by kernel_rfl) rfl (fun _ hs => hs) (lb 3 o_68 rfl rfl rfl rfl) ?_
      refine tk 6 rfl (by kernel_rfl) (by kernel_rfl) (by kernel_rfl) rfl (fun _ hs => hs) (rp rfl) ?_
      obtain ⟨x0, x0h⟩ := some_of_lt (l := x.Pattern.Args) (i := k) (by omega)
      obtain ⟨es11, at12, hr13⟩ := rd_elem (n := 1) rfl hu2 x0h
      obtain rfl : es11 = [.string x0] := hr13
      refine tk 7 rfl (by kernel_rfl) (by kernel_rfl) (by kernel_rfl) rfl (fun _ hs => hs) (D_ix (l := x.Pattern.Args) (j := k) s_68 rfl rfl rfl (fun w' hs => (rd_at hs hu2)) rfl (lt_of_some x0h)) ?_
      refine tk 8 rfl (by kernel_rfl) (by kernel_rfl) (by kernel_rfl) rfl (fun _ hs => hs) (lr0 o_9 rfl rfl at12 rfl) ?_
      refine tk 9 rfl (by kernel_rfl) (by kernel_rfl) (by kernel_rfl) rfl (fun _ hs => hs) (rp rfl) ?_
      refine ty 10 rfl (by kernel_rfl) rfl (cv b_108 rfl rfl rfl rfl (fun w' hs => (spec_l4Renamed w' x0)) ?_)
      refine tS (fun _ hs => hs) ?_
      refine ty 11 rfl (by kernel_rfl) rfl (D_bs s_68 y_9 rfl (by decide) (by decide) rfl rfl rfl rfl rfl rfl fun g14 => ?_)
      refine tS (fun _ hs => hs.pk [1, 2, 3, 4] rfl rfl) ?_
      refine D_fs x0 ?_
      refine D_pk (H' := [ov [v] (x.Pattern.Args.take k : (List ByteArray)), ov [(.string x0)] (x0 : ByteArray), bx g14 [(.string x0)], bx g7 [(.int .i64 x.Kind), (.string x.Pattern.Rel), v, (.string x.Left), (.string x.Right)], bx g6 [(.int .i64 0), (.string ⟨#[]⟩), (.slice none 0 0), (.string ⟨#[]⟩), (.string ⟨#[]⟩)], bx g5 [(.int .i64 x.Kind), (.string x.Pattern.Rel), u1, (.string x.Left), (.string x.Right)]]) [2, 0, 1, 3, 4, 5] rfl rfl ?_
      refine ty 12 rfl (by kernel_rfl) rfl (D_ap s_68 y_9 rfl (by decide) rfl rfl rfl rfl rfl rfl (by first | omega | (simp; omega)) (by first | omega | (simp; omega)) fun v15 => ?_)
      refine tZ rfl ?_
      refine ty 13 rfl (by kernel_rfl) rfl (sv rfl rfl (D_fb f_85_1 rfl rfl (q := 1) rfl) ?_)
      refine tZ rfl ?_
      refine ty 14 rfl (by kernel_rfl) rfl (sv rfl rfl (D_fb f_83_1 rfl rfl (q := 2) rfl) ?_)
      refine tZ rfl ?_
      refine D_pre (fun w' hs => one_own (k := 0) hs rfl) ?_
      intro ho16
      refine ty 15 rfl (by kernel_rfl) rfl (D_stb (vs := [v15]) (cs' := [(.int .i64 x.Kind), (.string x.Pattern.Rel), v15, (.string x.Left), (.string x.Right)]) 1 z_68 rfl rfl rfl rfl rfl (cells_of_one ho16) (ocons ho16 onil) (by simp) rfl ?_)
      refine tZ rfl ?_
      refine tE (by kernel_rfl) ?_
      refine x_blk ?_
      refine x_then ?_
      refine D_weak [(1, (.slice none 0 0)), (2, (.pointer (some ⟨g5, 0, none⟩))), (4, (.pointer (some ⟨g6, 0, none⟩))), (5, (.pointer (some ⟨g7, 0, none⟩))), (6, (.int .i64 ((k : Nat) : Int)))] ⟨rfl, rfl, rfl, rfl, rfl, trivial⟩ ?_
      refine D_H ([ov [v15] ((x.Pattern.Args.take k) ++ [x0] : (List ByteArray)), bx g7 [(.int .i64 x.Kind), (.string x.Pattern.Rel), v15, (.string x.Left), (.string x.Right)], bx g6 [(.int .i64 0), (.string ⟨#[]⟩), (.slice none 0 0), (.string ⟨#[]⟩), (.string ⟨#[]⟩)], bx g5 [(.int .i64 x.Kind), (.string x.Pattern.Rel), u1, (.string x.Left), (.string x.Right)]]) rfl ?_
      refine C_reg ?_
      refine p1 rfl ?_
      refine q1 rfl (D_add rfl rfl rfl (r := ((k + 1 : Nat) : Int)) (by omega) (by omega)) ?_
      refine p1 rfl ?_
      refine D_end ?_
      refine x_then ?_
      refine D_eq 0 rfl (show ((x.Pattern.Args.take k) ++ [x0] : (List ByteArray)) = x.Pattern.Args.take (k + 1) from by exact (take_snoc x0h).symm) ?_
      refine fun ac w' hf hs => ⟨_, ?_, k + 1, v15, ?_, rfl, hf.weak ⟨rfl, rfl, rfl, rfl, rfl, trivial⟩, hs⟩
      · omega
      · first | assumption | omega | simp
    · have pr10 : ¬ (((k : Nat) : Int) : Int) < ((x.Pattern.Args.length : Nat) : Int) := of_decide_eq_false h10
      refine C_exit ?_
      refine x_then_exit ?_
      refine x_then_exit ?_
      refine x_blk_eq ?_
      refine x_then ?_
      refine C_seq ?_
      refine C_reg ?_
      refine q1 rfl (lbw 1 a_85 rfl rfl rfl) ?_
      refine D_pre (fun w' hs => one_own (k := 0) hs rfl) ?_
      intro ho17
      refine li rfl (D_stb (vs := [(.int .i64 x.Kind), (.string x.Pattern.Rel), v, (.string x.Left), (.string x.Right)]) (cs' := [(.int .i64 x.Kind), (.string x.Pattern.Rel), v, (.string x.Left), (.string x.Right)]) 2 z_85 rfl rfl rfl rfl rfl rfl (ocons rfl (ocons rfl (ocons ho17 (ocons rfl (ocons rfl onil))))) (by simp) rfl ?_)
      refine D_end ?_
      refine x_then ?_
      refine D_H ([ov [v] (x.Pattern.Args.take k : (List ByteArray)), bx g7 [(.int .i64 x.Kind), (.string x.Pattern.Rel), v, (.string x.Left), (.string x.Right)], bx g6 [(.int .i64 x.Kind), (.string x.Pattern.Rel), v, (.string x.Left), (.string x.Right)], bx g5 [(.int .i64 x.Kind), (.string x.Pattern.Rel), u1, (.string x.Left), (.string x.Right)]]) rfl ?_
      refine C_ret ?_
      refine pk_Cond (r := (⟨x.Kind, ⟨x.Pattern.Rel, x.Pattern.Args.take k⟩, x.Left, x.Right⟩ : Cond)) ?_
      refine R_c 2 a_85 rfl rfl rfl fun w' hs => res_of (k := 0) hs rfl ?_
      show (⟨x.Kind, ⟨x.Pattern.Rel, x.Pattern.Args.take k⟩, x.Left, x.Right⟩ : Cond) = x
      show (⟨x.Kind, ⟨x.Pattern.Rel, x.Pattern.Args.take k⟩, x.Left, x.Right⟩ : Cond) = x; rw [List.take_of_length_le (by omega)]

theorem spec_l4Copy (w : World) (c_x : List Value) (x : Cond) (h_x : Gd.rd w c_x x) (hx : szCond x ≤ 1048576) : Calls Tryz.prog 67 [(.agg c_x.toArray)].toArray w (Res w (x : Cond)) := by
  obtain ⟨u1, rfl, hu2⟩ := open_Cond h_x
  have hm3 := rd_max hu2
  have hb4 := sub_Cond_Pattern h_x
  refine enter 5 Tryz.func67 rfl rfl rfl ?_
  refine C_seq ?_
  refine C_reg ?_
  refine li rfl (D_box rfl rfl rfl rfl rfl fun g5 => ?_)
  refine li rfl (D_alloc y_85 rfl rfl rfl rfl fun g6 => ?_)
  refine D_end ?_
  refine x_then ?_
  refine D_H ([bx g6 [(.int .i64 0), (.string ⟨#[]⟩), (.slice none 0 0), (.string ⟨#[]⟩), (.string ⟨#[]⟩)], bx g5 [(.int .i64 x.Kind), (.string x.Pattern.Rel), u1, (.string x.Left), (.string x.Right)]]) rfl ?_
  refine C_seq ?_
  refine C_reg ?_
  refine q1 rfl (lbw 1 a_85 rfl rfl rfl) ?_
  refine li rfl (crs rfl b_92 rfl rfl rfl rfl (fun w' hs => (spec_RenameCond w' [(.int .i64 x.Kind), (.string x.Pattern.Rel), u1, (.string x.Left), (.string x.Right)] x (rd_at hs h_x) (by first | assumption | omega | (unfold szm at *; split at * <;> omega)))) fun cs7 => ?_)
  refine D_pre (fun w' hs => shape_Cond (rd_own (k := 0) hs rfl)) ?_
  rintro ⟨v8, rfl, ho9⟩
  refine li rfl (D_stb (vs := [(.int .i64 x.Kind), (.string x.Pattern.Rel), v8, (.string x.Left), (.string x.Right)]) (cs' := [(.int .i64 x.Kind), (.string x.Pattern.Rel), v8, (.string x.Left), (.string x.Right)]) 1 z_85 rfl rfl rfl rfl rfl rfl (ocons rfl (ocons rfl (ocons ho9 (ocons rfl (ocons rfl onil))))) (by simp) rfl ?_)
  refine D_end ?_
  refine x_then ?_
  refine D_H ([ov [(.int .i64 x.Kind), (.string x.Pattern.Rel), v8, (.string x.Left), (.string x.Right)] (x : Cond), bx g6 [(.int .i64 x.Kind), (.string x.Pattern.Rel), v8, (.string x.Left), (.string x.Right)], bx g5 [(.int .i64 x.Kind), (.string x.Pattern.Rel), u1, (.string x.Left), (.string x.Right)]]) rfl ?_
  refine C_ret ?_
  refine R_c 1 a_85 rfl rfl rfl fun w' hs => res_of (k := 0) hs rfl ?_
  show x = x
  rfl

theorem impl_copyConds (w : World) (v_l : Value) (l : (List Cond)) (h_l : Gd.rd w [v_l] l) (hn : szL szCond l ≤ 1048576) : Calls Tryz.prog 80 [v_l].toArray w (Res w (l : List Cond)) := by
  have hm1 := rd_max h_l
  unfold szL at hn
  refine enter 19 Tryz.func80 rfl rfl rfl ?_
  refine C_seq ?_
  refine C_reg ?_
  refine p1 rfl ?_
  refine D_end ?_
  refine x_then ?_
  refine C_seq ?_
  refine C_reg ?_
  refine p1 rfl ?_
  refine D_end ?_
  refine x_then ?_
  refine C_seq ?_
  refine C_seq ?_
  refine C_reg ?_
  refine p1 rfl ?_
  refine q1 rfl (D_len s_45 rfl rfl (rd_sl h_l)) ?_
  refine p1 rfl ?_
  refine D_end ?_
  refine x_then ?_
  refine C_block ?_
  refine C_loop (fun m_ ac w' => ∃ (k : Nat), ∃ (v : Value), (k ≤ l.length) ∧ m_ = l.length - k ∧ Fits ac 19 [(3, v), (6, v_l), (7, (.int .i64 ((l.length : Nat) : Int))), (8, (.int .i64 ((k : Nat) : Int)))] ∧ St w ([ov [v] (l.take k : (List Cond))]) w') ?_ ?_
  · refine D_nil (α := Cond) ?_
    refine D_eq 0 rfl (show ([] : (List Cond)) = l.take 0 from by simp) ?_
    refine fun ac w' hf hs => ⟨_, 0, (.slice none 0 0), ?_, rfl, hf.weak ⟨rfl, rfl, rfl, rfl, trivial⟩, hs⟩
    · first | assumption | omega | simp
  · rintro m_ ac w' ⟨k, v, hk, rfl, hf, hs⟩
    refine D.use ?_ hf hs
    clear hf hs ac w'
    have hcl : (l.take k).length ≤ k := by rw [List.length_take]; omega
    refine C_seq ?_
    refine C_reg ?_
    refine p1 rfl ?_
    refine D_end ?_
    refine x_then ?_
    refine D_H ([ov [v] (l.take k : (List Cond))]) rfl ?_
    refine C_seq ?_
    refine C_if _ rfl (fun h2 => ?_) (fun h2 => ?_)
    · have pr2 : (((k : Nat) : Int) : Int) < ((l.length : Nat) : Int) := of_decide_eq_true h2
      refine C_skip ?_
      refine x_then ?_
      refine C_seq ?_
      refine C_block ?_
      refine C_seq ?_
      refine C_reg ?_
      obtain ⟨x0, x0h⟩ := some_of_lt (l := l) (i := k) (by omega)
      have hle := sumC_mem (c := szCond) (List.mem_of_getElem? x0h)
      obtain ⟨es3, at4, hr5⟩ := rd_elem (n := 5) rfl h_l x0h
      obtain ⟨u6, rfl, hu7⟩ := open_Cond hr5
      have hm8 := rd_max hu7
      have hb9 := sub_Cond_Pattern hr5
      refine q1 rfl (D_ix (l := l) (j := k) s_45 rfl rfl rfl (fun w' hs => (rd_at hs h_l)) rfl (lt_of_some x0h)) ?_
      refine q1 rfl (lra a_85 rfl rfl at4) ?_
      refine li rfl (D_alloc y_85 rfl rfl rfl rfl fun g10 => ?_)
      refine li rfl (D_stb (vs := [(.int .i64 x0.Kind), (.string x0.Pattern.Rel), u6, (.string x0.Left), (.string x0.Right)]) (cs' := [(.int .i64 x0.Kind), (.string x0.Pattern.Rel), u6, (.string x0.Left), (.string x0.Right)]) 0 z_85 rfl rfl rfl rfl rfl rfl (ocons rfl (ocons rfl (ocons (one_rd hu7) (ocons rfl (ocons rfl onil))))) (by simp) rfl ?_)
      refine D_end ?_
      refine x_then ?_
      refine D_H ([bx g10 [(.int .i64 x0.Kind), (.string x0.Pattern.Rel), u6, (.string x0.Left), (.string x0.Right)], ov [v] (l.take k : (List Cond))]) rfl ?_
      refine C_reg ?_
      refine p1 rfl ?_
      refine q1 rfl (lbw 0 a_85 rfl rfl rfl) ?_
      refine li rfl (crs rfl b_103 rfl rfl rfl rfl (fun w' hs => (impl_copyCond w' [(.int .i64 x0.Kind), (.string x0.Pattern.Rel), u6, (.string x0.Left), (.string x0.Right)] x0 (rd_at hs hr5) (by first | assumption | omega | (unfold szm at *; split at * <;> omega)))) fun cs11 => ?_)
      refine D_pre (fun w' hs => shape_Cond (rd_own (k := 0) hs rfl)) ?_
      rintro ⟨v12, rfl, ho13⟩
      refine li rfl (D_bs s_45 y_85 rfl (by decide) (by decide) rfl rfl rfl rfl rfl rfl fun g14 => ?_)
      refine D_pk (H' := [ov [v] (l.take k : (List Cond)), ov [(.int .i64 x0.Kind), (.string x0.Pattern.Rel), v12, (.string x0.Left), (.string x0.Right)] (x0 : Cond), bx g14 [(.int .i64 x0.Kind), (.string x0.Pattern.Rel), v12, (.string x0.Left), (.string x0.Right)], bx g10 [(.int .i64 x0.Kind), (.string x0.Pattern.Rel), u6, (.string x0.Left), (.string x0.Right)]]) [3, 1, 0, 2] rfl rfl ?_
      refine li rfl (D_ap s_45 y_85 rfl (by decide) rfl rfl rfl rfl rfl rfl (by first | omega | (simp; omega)) (by first | omega | (simp; omega)) fun v15 => ?_)
      refine p1 rfl ?_
      refine D_end ?_
      refine x_blk ?_
      refine x_then ?_
      refine D_H ([ov [v15] ((l.take k) ++ [x0] : (List Cond)), bx g10 [(.int .i64 x0.Kind), (.string x0.Pattern.Rel), u6, (.string x0.Left), (.string x0.Right)]]) rfl ?_
      refine C_reg ?_
      refine q1 rfl (D_add rfl rfl rfl (r := ((k + 1 : Nat) : Int)) (by omega) (by omega)) ?_
      refine p1 rfl ?_
      refine D_end ?_
      refine x_then ?_
      refine D_eq 0 rfl (show ((l.take k) ++ [x0] : (List Cond)) = l.take (k + 1) from by exact (take_snoc x0h).symm) ?_
      refine fun ac w' hf hs => ⟨_, ?_, k + 1, v15, ?_, rfl, hf.weak ⟨rfl, rfl, rfl, rfl, trivial⟩, hs.pk [0] rfl rfl⟩
      · omega
      · first | assumption | omega | simp
    · have pr2 : ¬ (((k : Nat) : Int) : Int) < ((l.length : Nat) : Int) := of_decide_eq_false h2
      refine C_exit ?_
      refine x_then_exit ?_
      refine x_then_exit ?_
      refine x_blk_eq ?_
      refine x_then ?_
      refine C_seq ?_
      refine C_reg ?_
      refine p1 rfl <| p1 rfl ?_
      refine D_end ?_
      refine x_then ?_
      refine C_ret ?_
      refine R_1 rfl rfl fun w' hs => res_of (k := 0) hs rfl ?_
      show l.take k = l
      rw [List.take_of_length_le (by omega)]

theorem impl_copyRule (w : World) (c_r : List Value) (r : Rule) (h_r : Gd.rd w c_r r) (hn : szRule r ≤ 1048576) : Calls Tryz.prog 42 [(.agg c_r.toArray)].toArray w (Res w (r : Rule)) := by
  obtain ⟨u1, u3, rfl, hu2, hu4⟩ := open_Rule h_r
  have hm5 := rd_max hu2
  have hm6 := rd_max hu4
  unfold szRule szL at hn
  refine enter 34 Tryz.func42 rfl rfl rfl ?_
  refine C_seq ?_
  refine C_reg ?_
  refine li rfl (D_box rfl rfl rfl rfl rfl fun g7 => ?_)
  refine li rfl (D_alloc y_48 rfl rfl rfl rfl fun g8 => ?_)
  refine D_end ?_
  refine x_then ?_
  refine D_H ([bx g8 [(.string ⟨#[]⟩), (.int .i64 0), (.slice none 0 0), (.slice none 0 0)], bx g7 [(.string r.Name), (.int .i64 r.Priority), u1, u3]]) rfl ?_
  refine C_seq ?_
  refine C_join (fun ac w' => ∃ (g12 : Nat), ∃ (v9 : Value), (v9.oneCell' = true) ∧ Fits ac 34 [(1, (.pointer (some ⟨g7, 0, none⟩))), (2, (.pointer (some ⟨g8, 0, none⟩))), (3, (.pointer (some ⟨g12, 0, none⟩)))] ∧ St w ([bx g12 [(.string r.Name), (.int .i64 r.Priority), v9, (.slice none 0 0)], ov [v9] (r.If : (List Cond)), bx g8 [(.string ⟨#[]⟩), (.int .i64 0), (.slice none 0 0), (.slice none 0 0)], bx g7 [(.string r.Name), (.int .i64 r.Priority), u1, u3]]) w') ?_ ?_
  · refine C_draw mixed [9] (by kernel_rfl) ?_
    refine tk 0 rfl (by kernel_rfl) (by kernel_rfl) (by kernel_rfl) rfl (fun _ hs => hs) (D_fb f_48_0 rfl rfl (q := 0) rfl) ?_
    refine tk 1 rfl (by kernel_rfl) (by kernel_rfl) (by kernel_rfl) rfl (fun _ hs => hs) (lb 1 o_9 rfl rfl rfl rfl) ?_
    refine tk 2 rfl (by kernel_rfl) (by kernel_rfl) (by kernel_rfl) rfl (fun _ hs => hs) (D_fb f_48_1 rfl rfl (q := 1) rfl) ?_
    refine tk 3 rfl (by kernel_rfl) (by kernel_rfl) (by kernel_rfl) rfl (fun _ hs => hs) (lb 1 o_3 rfl rfl rfl rfl) ?_
    refine tk 4 rfl (by kernel_rfl) (by kernel_rfl) (by kernel_rfl) rfl (fun _ hs => hs) (D_fb f_48_2 rfl rfl (q := 2) rfl) ?_
    refine tk 5 rfl (by kernel_rfl) (by kernel_rfl) (by kernel_rfl) rfl (fun _ hs => hs) (lb 1 o_45 rfl rfl rfl rfl) ?_
    refine tyN [6, 8] rfl (by kernel_rfl) ⟨⟨_, rfl, rfl, ?_⟩, ⟨_, rfl, rfl, ?_⟩, trivial⟩
    · refine id (crl b_80 rfl rfl rfl rfl (fun w' hs => (impl_copyConds w' u1 r.If (rd_at hs hu2) (by unfold szL; omega))) fun v9 => ?_)
      refine tS (fun _ hs => hs.pk [1, 2] rfl rfl) ?_
      refine tyN [7, 8] rfl (by kernel_rfl) ⟨⟨_, rfl, rfl, ?_⟩, ⟨_, rfl, rfl, ?_⟩, trivial⟩
      · refine D_pre (fun w' hs => one_own (k := 0) hs rfl) ?_
        intro ho11
        refine sv rfl rfl (D_built (vs := [(0, (.string r.Name)), (1, (.int .i64 r.Priority)), (2, v9)]) (xs := [(0, [(.string r.Name)]), (1, [(.int .i64 r.Priority)]), (2, [v9])]) (cs := [(.string r.Name), (.int .i64 r.Priority), v9, (.slice none 0 0)]) pl_48 rfl ⟨rfl, rfl, ⟨rfl, rfl, ⟨rfl, (cells_of_one ho11), trivial⟩⟩⟩ rfl rfl) ?_
        refine tS (fun _ hs => hs.pk [1, 2] rfl rfl) ?_
        refine ty 8 rfl (by kernel_rfl) rfl (D_alloc y_48 rfl rfl rfl rfl fun g12 => ?_)
        refine tS (fun _ hs => hs.pk [2, 3] rfl rfl) ?_
        refine ty 9 rfl (by kernel_rfl) rfl (D_stb (vs := [(.string r.Name), (.int .i64 r.Priority), v9, (.slice none 0 0)]) (cs' := [(.string r.Name), (.int .i64 r.Priority), v9, (.slice none 0 0)]) 0 z_48 rfl rfl rfl rfl rfl rfl (ocons rfl (ocons rfl (ocons ho11 (ocons rfl onil)))) (by simp) rfl ?_)
        refine tZ rfl ?_
        refine tE (by kernel_rfl) ?_
        refine x_then ?_
        refine fun ac w' hf hs => ⟨g12, v9, ho11, hf.weak ⟨rfl, rfl, rfl, trivial⟩, hs⟩
      · refine id (D_alloc y_48 rfl rfl rfl rfl fun g13 => ?_)
        refine tS (fun _ hs => hs.pk [2, 3] rfl rfl) ?_
        refine D_pre (fun w' hs => one_own (k := 1) hs rfl) ?_
        intro ho15
        refine ty 7 rfl (by kernel_rfl) rfl (sv rfl rfl (D_built (vs := [(0, (.string r.Name)), (1, (.int .i64 r.Priority)), (2, v9)]) (xs := [(0, [(.string r.Name)]), (1, [(.int .i64 r.Priority)]), (2, [v9])]) (cs := [(.string r.Name), (.int .i64 r.Priority), v9, (.slice none 0 0)]) pl_48 rfl ⟨rfl, rfl, ⟨rfl, rfl, ⟨rfl, (cells_of_one ho15), trivial⟩⟩⟩ rfl rfl) ?_)
        refine tS (fun _ hs => hs.pk [2, 3] rfl rfl) ?_
        refine ty 9 rfl (by kernel_rfl) rfl (D_stb (vs := [(.string r.Name), (.int .i64 r.Priority), v9, (.slice none 0 0)]) (cs' := [(.string r.Name), (.int .i64 r.Priority), v9, (.slice none 0 0)]) 0 z_48 rfl rfl rfl rfl rfl rfl (ocons rfl (ocons rfl (ocons ho15 (ocons rfl onil)))) (by simp) rfl ?_)
        refine tZ rfl ?_
        refine tE (by kernel_rfl) ?_
        refine x_then ?_
        refine fun ac w' hf hs => ⟨g13, v9, ho15, hf.weak ⟨rfl, rfl, rfl, trivial⟩, hs⟩
    · refine id (D_alloc y_48 rfl rfl rfl rfl fun g16 => ?_)
      refine tS (fun _ hs => hs.pk [1, 2] rfl rfl) ?_
      refine ty 6 rfl (by kernel_rfl) rfl (crl b_80 rfl rfl rfl rfl (fun w' hs => (impl_copyConds w' u1 r.If (rd_at hs hu2) (by unfold szL; omega))) fun v17 => ?_)
      refine tS (fun _ hs => hs.pk [2, 3] rfl rfl) ?_
      refine D_pre (fun w' hs => one_own (k := 0) hs rfl) ?_
      intro ho19
      refine ty 7 rfl (by kernel_rfl) rfl (sv rfl rfl (D_built (vs := [(0, (.string r.Name)), (1, (.int .i64 r.Priority)), (2, v17)]) (xs := [(0, [(.string r.Name)]), (1, [(.int .i64 r.Priority)]), (2, [v17])]) (cs := [(.string r.Name), (.int .i64 r.Priority), v17, (.slice none 0 0)]) pl_48 rfl ⟨rfl, rfl, ⟨rfl, rfl, ⟨rfl, (cells_of_one ho19), trivial⟩⟩⟩ rfl rfl) ?_)
      refine tS (fun _ hs => hs.pk [2, 3] rfl rfl) ?_
      refine ty 9 rfl (by kernel_rfl) rfl (D_stb (vs := [(.string r.Name), (.int .i64 r.Priority), v17, (.slice none 0 0)]) (cs' := [(.string r.Name), (.int .i64 r.Priority), v17, (.slice none 0 0)]) 1 z_48 rfl rfl rfl rfl rfl rfl (ocons rfl (ocons rfl (ocons ho19 (ocons rfl onil)))) (by simp) rfl ?_)
      refine tZ rfl ?_
      refine tE (by kernel_rfl) ?_
      refine x_then ?_
      refine fun ac w' hf hs => ⟨g16, v17, ho19, hf.weak ⟨rfl, rfl, rfl, trivial⟩, hs.pk [1, 0, 2, 3] rfl rfl⟩
  rintro ac w' ⟨g12, v9, ho11, hf, hs⟩
  refine D.use ?_ hf hs
  clear hf hs ac w'
  refine x_then ?_
  refine D_H ([bx g12 [(.string r.Name), (.int .i64 r.Priority), v9, (.slice none 0 0)], ov [v9] (r.If : (List Cond)), bx g8 [(.string ⟨#[]⟩), (.int .i64 0), (.slice none 0 0), (.slice none 0 0)], bx g7 [(.string r.Name), (.int .i64 r.Priority), u1, u3]]) rfl ?_
  refine C_seq ?_
  refine C_seq ?_
  refine C_reg ?_
  refine q1 rfl (D_fb f_48_3 rfl rfl (q := 3) rfl) ?_
  refine q1 rfl (lb 3 o_46 rfl rfl rfl rfl) ?_
  refine q1 rfl (D_len s_46 rfl rfl (rd_sl hu4)) ?_
  refine p1 rfl ?_
  refine D_end ?_
  refine x_then ?_
  refine C_block ?_
  refine C_loop (fun m_ ac w' => ∃ (k : Nat), ∃ (v : Value), (k ≤ r.Then.length) ∧ m_ = r.Then.length - k ∧ Fits ac 34 [(2, (.pointer (some ⟨g8, 0, none⟩))), (3, (.pointer (some ⟨g12, 0, none⟩))), (15, u3), (16, (.int .i64 ((r.Then.length : Nat) : Int))), (17, (.int .i64 ((k : Nat) : Int)))] ∧ St w ([ov [v] (r.Then.take k : (List Action)), bx g12 [(.string r.Name), (.int .i64 r.Priority), v9, v], ov [v9] (r.If : (List Cond)), bx g8 [(.string ⟨#[]⟩), (.int .i64 0), (.slice none 0 0), (.slice none 0 0)], bx g7 [(.string r.Name), (.int .i64 r.Priority), u1, u3]]) w') ?_ ?_
  · refine D_nil (α := Action) ?_
    refine D_eq 0 rfl (show ([] : (List Action)) = r.Then.take 0 from by simp) ?_
    refine fun ac w' hf hs => ⟨_, 0, (.slice none 0 0), ?_, rfl, hf.weak ⟨rfl, rfl, rfl, rfl, rfl, trivial⟩, hs⟩
    · first | assumption | omega | simp
  · rintro m_ ac w' ⟨k, v, hk, rfl, hf, hs⟩
    refine D.use ?_ hf hs
    clear hf hs ac w'
    have hclk : (r.Then.take k).length ≤ k := by rw [List.length_take]; omega
    refine C_seq ?_
    refine C_reg ?_
    refine p1 rfl ?_
    refine D_end ?_
    refine x_then ?_
    refine D_H ([ov [v] (r.Then.take k : (List Action)), bx g12 [(.string r.Name), (.int .i64 r.Priority), v9, v], ov [v9] (r.If : (List Cond)), bx g8 [(.string ⟨#[]⟩), (.int .i64 0), (.slice none 0 0), (.slice none 0 0)], bx g7 [(.string r.Name), (.int .i64 r.Priority), u1, u3]]) rfl ?_
    refine C_seq ?_
    refine C_if _ rfl (fun h20 => ?_) (fun h20 => ?_)
    · have pr20 : (((k : Nat) : Int) : Int) < ((r.Then.length : Nat) : Int) := of_decide_eq_true h20
      refine C_skip ?_
      refine x_then ?_
      refine C_seq ?_
      refine C_block ?_
      refine C_seq ?_
      refine C_reg ?_
      obtain ⟨a0, a0h⟩ := some_of_lt (l := r.Then) (i := k) (by omega)
      have haz := act_sz a0h
      have hap : szAction a0 = szPattern a0.Pattern := rfl
      have hpa := szPat_args a0.Pattern
      obtain ⟨es21, at22, hr23⟩ := rd_elem (n := 3) rfl hu4 a0h
      obtain ⟨u24, rfl, hu25⟩ := open_Action hr23
      have hm26 := rd_max hu25
      have hb27 := sub_Action_Pattern hr23
      refine q1 rfl (D_ix (l := r.Then) (j := k) s_46 rfl rfl rfl (fun w' hs => (rd_at hs hu4)) rfl (lt_of_some a0h)) ?_
      refine q1 rfl (lra a_88 rfl rfl at22) ?_
      refine li rfl (D_alloc y_88 rfl rfl rfl rfl fun g28 => ?_)
      refine li rfl (D_stb (vs := [(.int .i64 a0.Kind), (.string a0.Pattern.Rel), u24]) (cs' := [(.int .i64 a0.Kind), (.string a0.Pattern.Rel), u24]) 0 z_88 rfl rfl rfl rfl rfl rfl (ocons rfl (ocons rfl (ocons (one_rd hu25) onil))) (by simp) rfl ?_)
      refine D_end ?_
      refine x_then ?_
      refine D_H ([bx g28 [(.int .i64 a0.Kind), (.string a0.Pattern.Rel), u24], ov [v] (r.Then.take k : (List Action)), bx g12 [(.string r.Name), (.int .i64 r.Priority), v9, v], ov [v9] (r.If : (List Cond)), bx g8 [(.string ⟨#[]⟩), (.int .i64 0), (.slice none 0 0), (.slice none 0 0)], bx g7 [(.string r.Name), (.int .i64 r.Priority), u1, u3]]) rfl ?_
      refine C_draw mixed [9, 10, 11] (by kernel_rfl) ?_
      refine tk 0 rfl (by kernel_rfl) (by kernel_rfl) (by kernel_rfl) rfl (fun _ hs => hs) (D_fb f_48_3 rfl rfl (q := 3) rfl) ?_
      refine tk 1 rfl (by kernel_rfl) (by kernel_rfl) (by kernel_rfl) rfl (fun _ hs => hs) (lb 2 o_46 rfl rfl rfl rfl) ?_
      refine tk 2 rfl (by kernel_rfl) (by kernel_rfl) (by kernel_rfl) rfl (fun _ hs => hs) (D_fb f_88_0 rfl rfl (q := 0) rfl) ?_
      refine tk 3 rfl (by kernel_rfl) (by kernel_rfl) (by kernel_rfl) rfl (fun _ hs => hs) (lb 0 o_3 rfl rfl rfl rfl) ?_
      refine tk 4 rfl (by kernel_rfl) (by kernel_rfl) (by kernel_rfl) rfl (fun _ hs => hs) (D_fb f_88_1 rfl rfl (q := 1) rfl) ?_
      refine tk 5 rfl (by kernel_rfl) (by kernel_rfl) (by kernel_rfl) rfl (fun _ hs => hs) (lba (es := [(.string a0.Pattern.Rel), u24]) 0 a_83 rfl rfl rfl rfl) ?_
      refine ty 6 rfl (by kernel_rfl) rfl (crs rfl b_81 rfl rfl rfl rfl (fun w' hs => (impl_copyPattern w' [(.string a0.Pattern.Rel), u24] a0.Pattern (rd_at hs hb27) (by first | assumption | omega | (unfold szm at *; split at * <;> omega)))) fun cs29 => ?_)
      refine D_pre (fun w' hs => shape_Pattern (rd_own (k := 0) hs rfl)) ?_
      rintro ⟨v30, rfl, ho31⟩
      refine tS (fun _ hs => hs.pk [1, 2, 3, 4, 5, 6] rfl rfl) ?_
      refine tk 7 rfl (by kernel_rfl) (by kernel_rfl) (by kernel_rfl) rfl (fun _ hs => hs.pk [1, 2, 3, 4, 5, 6] rfl rfl) (D_built (vs := [(0, (.int .i64 a0.Kind)), (1, (.agg #[(.string a0.Pattern.Rel), v30]))]) (xs := [(0, [(.int .i64 a0.Kind)]), (1, [(.string a0.Pattern.Rel), v30])]) (cs := [(.int .i64 a0.Kind), (.string a0.Pattern.Rel), v30]) pl_88 rfl ⟨rfl, rfl, ⟨rfl, rfl, trivial⟩⟩ rfl rfl) ?_
      refine ty 8 rfl (by kernel_rfl) rfl (D_bs s_46 y_88 rfl (by decide) (by decide) rfl rfl rfl rfl rfl rfl fun g32 => ?_)
      refine tS (fun _ hs => hs.pk [2, 3, 4, 5, 6, 7] rfl rfl) ?_
      refine D_pk (H' := [ov [(.string a0.Pattern.Rel), v30] (a0.Pattern : Pattern), bx g32 [(.int .i64 a0.Kind), (.string a0.Pattern.Rel), v30], bx g28 [(.int .i64 a0.Kind), (.string a0.Pattern.Rel), u24], ov [v] (r.Then.take k : (List Action)), bx g12 [(.string r.Name), (.int .i64 r.Priority), v9, v], ov [v9] (r.If : (List Cond)), bx g8 [(.string ⟨#[]⟩), (.int .i64 0), (.slice none 0 0), (.slice none 0 0)], bx g7 [(.string r.Name), (.int .i64 r.Priority), u1, u3]]) [1, 0, 2, 3, 4, 5, 6, 7] rfl rfl ?_
      refine D_unpair (α := ByteArray) (β := (List ByteArray)) (c1 := [(.string a0.Pattern.Rel)]) (c2 := [v30]) (x := a0.Pattern.Rel) (y := (a0.Pattern.Args)) rfl rfl ?_
      refine D_fd [] 1 rfl ?_
      refine pk_Action (r := (⟨a0.Kind, ⟨a0.Pattern.Rel, a0.Pattern.Args⟩⟩ : Action)) ?_
      refine D_pk (H' := [ov [v] (r.Then.take k : (List Action)), ov [(.int .i64 a0.Kind), (.string a0.Pattern.Rel), v30] ((⟨a0.Kind, ⟨a0.Pattern.Rel, a0.Pattern.Args⟩⟩ : Action) : Action), bx g32 [(.int .i64 a0.Kind), (.string a0.Pattern.Rel), v30], bx g28 [(.int .i64 a0.Kind), (.string a0.Pattern.Rel), u24], bx g12 [(.string r.Name), (.int .i64 r.Priority), v9, v], ov [v9] (r.If : (List Cond)), bx g8 [(.string ⟨#[]⟩), (.int .i64 0), (.slice none 0 0), (.slice none 0 0)], bx g7 [(.string r.Name), (.int .i64 r.Priority), u1, u3]]) [3, 0, 1, 2, 4, 5, 6, 7] rfl rfl ?_
      refine ty 9 rfl (by kernel_rfl) rfl (D_ap s_46 y_88 rfl (by decide) rfl rfl rfl rfl rfl rfl (by first | omega | (simp; omega)) (by first | omega | (simp; omega)) fun v33 => ?_)
      refine tZ rfl ?_
      refine ty 10 rfl (by kernel_rfl) rfl (sv rfl rfl (D_fb f_48_3 rfl rfl (q := 3) rfl) ?_)
      refine tZ rfl ?_
      refine D_pre (fun w' hs => one_own (k := 0) hs rfl) ?_
      intro ho34
      refine ty 11 rfl (by kernel_rfl) rfl (D_stb (vs := [v33]) (cs' := [(.string r.Name), (.int .i64 r.Priority), v9, v33]) 2 z_46 rfl rfl rfl rfl rfl (cells_of_one ho34) (ocons ho34 onil) (by simp) rfl ?_)
      refine tZ rfl ?_
      refine tE (by kernel_rfl) ?_
      refine x_blk ?_
      refine x_then ?_
      refine D_weak [(2, (.pointer (some ⟨g8, 0, none⟩))), (3, (.pointer (some ⟨g12, 0, none⟩))), (15, u3), (16, (.int .i64 ((r.Then.length : Nat) : Int))), (17, (.int .i64 ((k : Nat) : Int)))] ⟨rfl, rfl, rfl, rfl, rfl, trivial⟩ ?_
      refine D_sel (H' := [ov [v33] ((r.Then.take k) ++ [(⟨a0.Kind, ⟨a0.Pattern.Rel, a0.Pattern.Args⟩⟩ : Action)] : (List Action)), bx g12 [(.string r.Name), (.int .i64 r.Priority), v9, v33], ov [v9] (r.If : (List Cond)), bx g8 [(.string ⟨#[]⟩), (.int .i64 0), (.slice none 0 0), (.slice none 0 0)], bx g7 [(.string r.Name), (.int .i64 r.Priority), u1, u3]]) [true, false, true, true, true, true] rfl ?_
      refine C_reg ?_
      refine q1 rfl (D_add rfl rfl rfl (r := ((k + 1 : Nat) : Int)) (by omega) (by omega)) ?_
      refine p1 rfl ?_
      refine D_end ?_
      refine x_then ?_
      refine D_eq 0 rfl (show ((r.Then.take k) ++ [(⟨a0.Kind, ⟨a0.Pattern.Rel, a0.Pattern.Args⟩⟩ : Action)] : (List Action)) = r.Then.take (k + 1) from by exact (take_snoc a0h).symm) ?_
      refine fun ac w' hf hs => ⟨_, ?_, k + 1, v33, ?_, rfl, hf.weak ⟨rfl, rfl, rfl, rfl, rfl, trivial⟩, hs⟩
      · omega
      · first | assumption | omega | simp
    · have pr20 : ¬ (((k : Nat) : Int) : Int) < ((r.Then.length : Nat) : Int) := of_decide_eq_false h20
      refine C_exit ?_
      refine x_then_exit ?_
      refine x_then_exit ?_
      refine x_blk_eq ?_
      refine x_then ?_
      refine C_seq ?_
      refine C_reg ?_
      refine q1 rfl (lbw 1 a_48 rfl rfl rfl) ?_
      refine D_pre (fun w' hs => one_own (k := 0) hs rfl) ?_
      intro ho35
      refine D_pre (fun w' hs => one_own (k := 2) hs rfl) ?_
      intro ho36
      refine li rfl (D_stb (vs := [(.string r.Name), (.int .i64 r.Priority), v9, v]) (cs' := [(.string r.Name), (.int .i64 r.Priority), v9, v]) 3 z_48 rfl rfl rfl rfl rfl rfl (ocons rfl (ocons rfl (ocons ho36 (ocons ho35 onil)))) (by simp) rfl ?_)
      refine D_end ?_
      refine x_then ?_
      refine D_H ([ov [v] (r.Then.take k : (List Action)), bx g12 [(.string r.Name), (.int .i64 r.Priority), v9, v], ov [v9] (r.If : (List Cond)), bx g8 [(.string r.Name), (.int .i64 r.Priority), v9, v], bx g7 [(.string r.Name), (.int .i64 r.Priority), u1, u3]]) rfl ?_
      refine C_ret ?_
      refine D_pk (H' := [ov [v9] (r.If : (List Cond)), ov [v] (r.Then.take k : (List Action)), bx g12 [(.string r.Name), (.int .i64 r.Priority), v9, v], bx g8 [(.string r.Name), (.int .i64 r.Priority), v9, v], bx g7 [(.string r.Name), (.int .i64 r.Priority), u1, u3]]) [2, 0, 1, 3, 4] rfl rfl ?_
      refine pk_Rule (r := (⟨r.Name, r.Priority, r.If, r.Then.take k⟩ : Rule)) ?_
      refine R_c 2 a_48 rfl rfl rfl fun w' hs => res_of (k := 0) hs rfl ?_
      show (⟨r.Name, r.Priority, r.If, r.Then.take k⟩ : Rule) = r
      show (⟨r.Name, r.Priority, r.If, r.Then.take k⟩ : Rule) = r; rw [List.take_of_length_le (by omega)]

theorem impl_copyRules (w : World) (v_l : Value) (l : (List Rule)) (h_l : Gd.rd w [v_l] l) (hn : szL szRule l ≤ 1048576) : Calls Tryz.prog 18 [v_l].toArray w (Res w (l : List Rule)) := by
  have hm1 := rd_max h_l
  unfold szL at hn
  refine enter 19 Tryz.func18 rfl rfl rfl ?_
  refine C_seq ?_
  refine C_reg ?_
  refine p1 rfl ?_
  refine D_end ?_
  refine x_then ?_
  refine C_seq ?_
  refine C_reg ?_
  refine p1 rfl ?_
  refine D_end ?_
  refine x_then ?_
  refine C_seq ?_
  refine C_seq ?_
  refine C_reg ?_
  refine p1 rfl ?_
  refine q1 rfl (D_len s_24 rfl rfl (rd_sl h_l)) ?_
  refine p1 rfl ?_
  refine D_end ?_
  refine x_then ?_
  refine C_block ?_
  refine C_loop (fun m_ ac w' => ∃ (k : Nat), ∃ (v : Value), (k ≤ l.length) ∧ m_ = l.length - k ∧ Fits ac 19 [(3, v), (6, v_l), (7, (.int .i64 ((l.length : Nat) : Int))), (8, (.int .i64 ((k : Nat) : Int)))] ∧ St w ([ov [v] (l.take k : (List Rule))]) w') ?_ ?_
  · refine D_nil (α := Rule) ?_
    refine D_eq 0 rfl (show ([] : (List Rule)) = l.take 0 from by simp) ?_
    refine fun ac w' hf hs => ⟨_, 0, (.slice none 0 0), ?_, rfl, hf.weak ⟨rfl, rfl, rfl, rfl, trivial⟩, hs⟩
    · first | assumption | omega | simp
  · rintro m_ ac w' ⟨k, v, hk, rfl, hf, hs⟩
    refine D.use ?_ hf hs
    clear hf hs ac w'
    have hcl : (l.take k).length ≤ k := by rw [List.length_take]; omega
    refine C_seq ?_
    refine C_reg ?_
    refine p1 rfl ?_
    refine D_end ?_
    refine x_then ?_
    refine D_H ([ov [v] (l.take k : (List Rule))]) rfl ?_
    refine C_seq ?_
    refine C_if _ rfl (fun h2 => ?_) (fun h2 => ?_)
    · have pr2 : (((k : Nat) : Int) : Int) < ((l.length : Nat) : Int) := of_decide_eq_true h2
      refine C_skip ?_
      refine x_then ?_
      refine C_seq ?_
      refine C_block ?_
      refine C_seq ?_
      refine C_reg ?_
      obtain ⟨x0, x0h⟩ := some_of_lt (l := l) (i := k) (by omega)
      have hle := sumC_mem (c := szRule) (List.mem_of_getElem? x0h)
      obtain ⟨es3, at4, hr5⟩ := rd_elem (n := 4) rfl h_l x0h
      obtain ⟨u6, u9, rfl, hu7, hu10⟩ := open_Rule hr5
      have hm11 := rd_max hu7
      have hm12 := rd_max hu10
      refine q1 rfl (D_ix (l := l) (j := k) s_24 rfl rfl rfl (fun w' hs => (rd_at hs h_l)) rfl (lt_of_some x0h)) ?_
      refine q1 rfl (lra a_48 rfl rfl at4) ?_
      refine li rfl (D_alloc y_48 rfl rfl rfl rfl fun g13 => ?_)
      refine li rfl (D_stb (vs := [(.string x0.Name), (.int .i64 x0.Priority), u6, u9]) (cs' := [(.string x0.Name), (.int .i64 x0.Priority), u6, u9]) 0 z_48 rfl rfl rfl rfl rfl rfl (ocons rfl (ocons rfl (ocons (one_rd hu7) (ocons (one_rd hu10) onil)))) (by simp) rfl ?_)
      refine D_end ?_
      refine x_then ?_
      refine D_H ([bx g13 [(.string x0.Name), (.int .i64 x0.Priority), u6, u9], ov [v] (l.take k : (List Rule))]) rfl ?_
      refine C_reg ?_
      refine p1 rfl ?_
      refine q1 rfl (lbw 0 a_48 rfl rfl rfl) ?_
      refine li rfl (crs rfl b_42 rfl rfl rfl rfl (fun w' hs => (impl_copyRule w' [(.string x0.Name), (.int .i64 x0.Priority), u6, u9] x0 (rd_at hs hr5) (by first | assumption | omega | (unfold szm at *; split at * <;> omega)))) fun cs14 => ?_)
      refine D_pre (fun w' hs => shape_Rule (rd_own (k := 0) hs rfl)) ?_
      rintro ⟨v15, v16, rfl, ho17, ho18⟩
      refine li rfl (D_bs s_24 y_48 rfl (by decide) (by decide) rfl rfl rfl rfl rfl rfl fun g19 => ?_)
      refine D_pk (H' := [ov [v] (l.take k : (List Rule)), ov [(.string x0.Name), (.int .i64 x0.Priority), v15, v16] (x0 : Rule), bx g19 [(.string x0.Name), (.int .i64 x0.Priority), v15, v16], bx g13 [(.string x0.Name), (.int .i64 x0.Priority), u6, u9]]) [3, 1, 0, 2] rfl rfl ?_
      refine li rfl (D_ap s_24 y_48 rfl (by decide) rfl rfl rfl rfl rfl rfl (by first | omega | (simp; omega)) (by first | omega | (simp; omega)) fun v20 => ?_)
      refine p1 rfl ?_
      refine D_end ?_
      refine x_blk ?_
      refine x_then ?_
      refine D_H ([ov [v20] ((l.take k) ++ [x0] : (List Rule)), bx g13 [(.string x0.Name), (.int .i64 x0.Priority), u6, u9]]) rfl ?_
      refine C_reg ?_
      refine q1 rfl (D_add rfl rfl rfl (r := ((k + 1 : Nat) : Int)) (by omega) (by omega)) ?_
      refine p1 rfl ?_
      refine D_end ?_
      refine x_then ?_
      refine D_eq 0 rfl (show ((l.take k) ++ [x0] : (List Rule)) = l.take (k + 1) from by exact (take_snoc x0h).symm) ?_
      refine fun ac w' hf hs => ⟨_, ?_, k + 1, v20, ?_, rfl, hf.weak ⟨rfl, rfl, rfl, rfl, trivial⟩, hs.pk [0] rfl rfl⟩
      · omega
      · first | assumption | omega | simp
    · have pr2 : ¬ (((k : Nat) : Int) : Int) < ((l.length : Nat) : Int) := of_decide_eq_false h2
      refine C_exit ?_
      refine x_then_exit ?_
      refine x_then_exit ?_
      refine x_blk_eq ?_
      refine x_then ?_
      refine C_seq ?_
      refine C_reg ?_
      refine p1 rfl <| p1 rfl ?_
      refine D_end ?_
      refine x_then ?_
      refine C_ret ?_
      refine R_1 rfl rfl fun w' hs => res_of (k := 0) hs rfl ?_
      show l.take k = l
      rw [List.take_of_length_le (by omega)]

theorem spec_l5Copy (w : World) (c_r : List Value) (r : Rule) (h_r : Gd.rd w c_r r) (hn : szRule r ≤ 1048576) : Calls Tryz.prog 37 [(.agg c_r.toArray)].toArray w (Res w (r : Rule)) := by
  obtain ⟨u1, u3, rfl, hu2, hu4⟩ := open_Rule h_r
  have hm5 := rd_max hu2
  have hm6 := rd_max hu4
  unfold szRule szL at hn
  refine enter 56 Tryz.func37 rfl rfl rfl ?_
  refine C_seq ?_
  refine C_reg ?_
  refine li rfl (D_box rfl rfl rfl rfl rfl fun g7 => ?_)
  refine li rfl (D_alloc y_48 rfl rfl rfl rfl fun g8 => ?_)
  refine D_end ?_
  refine x_then ?_
  refine D_H ([bx g8 [(.string ⟨#[]⟩), (.int .i64 0), (.slice none 0 0), (.slice none 0 0)], bx g7 [(.string r.Name), (.int .i64 r.Priority), u1, u3]]) rfl ?_
  refine C_seq ?_
  refine C_reg ?_
  refine q1 rfl (D_fb f_48_0 rfl rfl (q := 0) rfl) ?_
  refine q1 rfl (lb 1 o_9 rfl rfl rfl rfl) ?_
  refine q1 rfl (D_fb f_48_1 rfl rfl (q := 1) rfl) ?_
  refine q1 rfl (lb 1 o_3 rfl rfl rfl rfl) ?_
  refine q1 rfl (D_build (vs := [(0, (.string r.Name)), (1, (.int .i64 r.Priority))]) (cs := [(.string r.Name), (.int .i64 r.Priority), (.slice none 0 0), (.slice none 0 0)]) rfl (fun _ => by kernel_rfl) rfl) ?_
  refine li rfl (D_alloc y_48 rfl rfl rfl rfl fun g9 => ?_)
  refine li rfl (D_stb (vs := [(.string r.Name), (.int .i64 r.Priority), (.slice none 0 0), (.slice none 0 0)]) (cs' := [(.string r.Name), (.int .i64 r.Priority), (.slice none 0 0), (.slice none 0 0)]) 0 z_48 rfl rfl rfl rfl rfl rfl (ocons rfl (ocons rfl (ocons rfl (ocons rfl onil)))) (by simp) rfl ?_)
  refine D_end ?_
  refine x_then ?_
  refine D_H ([bx g9 [(.string r.Name), (.int .i64 r.Priority), (.slice none 0 0), (.slice none 0 0)], bx g8 [(.string ⟨#[]⟩), (.int .i64 0), (.slice none 0 0), (.slice none 0 0)], bx g7 [(.string r.Name), (.int .i64 r.Priority), u1, u3]]) rfl ?_
  refine C_seq ?_
  refine C_seq ?_
  refine C_reg ?_
  refine p1 rfl ?_
  refine D_end ?_
  refine x_then ?_
  refine C_block ?_
  refine C_loop (fun m_ ac w' => ∃ (k : Nat), ∃ (v : Value), (k ≤ r.If.length) ∧ m_ = r.If.length - k ∧ Fits ac 56 [(1, (.pointer (some ⟨g7, 0, none⟩))), (2, (.pointer (some ⟨g8, 0, none⟩))), (3, (.pointer (some ⟨g9, 0, none⟩))), (4, (.int .i64 ((k : Nat) : Int)))] ∧ St w ([ov [v] (r.If.take k : (List Cond)), bx g9 [(.string r.Name), (.int .i64 r.Priority), v, (.slice none 0 0)], bx g8 [(.string ⟨#[]⟩), (.int .i64 0), (.slice none 0 0), (.slice none 0 0)], bx g7 [(.string r.Name), (.int .i64 r.Priority), u1, u3]]) w') ?_ ?_
  · refine D_nil (α := Cond) ?_
    refine D_eq 0 rfl (show ([] : (List Cond)) = r.If.take 0 from by simp) ?_
    refine fun ac w' hf hs => ⟨_, 0, (.slice none 0 0), ?_, rfl, hf.weak ⟨rfl, rfl, rfl, rfl, trivial⟩, hs⟩
    · first | assumption | omega | simp
  · rintro m_ ac w' ⟨k, v, hk, rfl, hf, hs⟩
    refine D.use ?_ hf hs
    clear hf hs ac w'
    have hclk : (r.If.take k).length ≤ k := by rw [List.length_take]; omega
    refine C_seq ?_
    refine C_seq ?_
    refine C_reg ?_
    refine p1 rfl ?_
    refine q1 rfl (D_fb f_48_2 rfl rfl (q := 2) rfl) ?_
    refine q1 rfl (lb 3 o_45 rfl rfl rfl rfl) ?_
    refine q1 rfl (D_len s_45 rfl rfl (rd_sl hu2)) ?_
    refine p1 rfl ?_
    refine D_end ?_
    refine x_then ?_
    refine D_H ([ov [v] (r.If.take k : (List Cond)), bx g9 [(.string r.Name), (.int .i64 r.Priority), v, (.slice none 0 0)], bx g8 [(.string ⟨#[]⟩), (.int .i64 0), (.slice none 0 0), (.slice none 0 0)], bx g7 [(.string r.Name), (.int .i64 r.Priority), u1, u3]]) rfl ?_
    refine C_if _ rfl (fun h10 => ?_) (fun h10 => ?_)
    · have pr10 : (((k : Nat) : Int) : Int) < ((r.If.length : Nat) : Int) := of_decide_eq_true h10
      refine C_skip ?_
      refine x_then ?_
      refine C_seq ?_
      refine C_block ?_
      refine C_draw mixed [9, 10, 11] (by kernel_rfl) ?_
      refine tk 0 rfl (by kernel_rfl) (by kernel_rfl) (by kernel_rfl) rfl (fun _ hs => hs) (D_fb f_48_2 rfl rfl (q := 2) rfl) ?_
      refine tk 1 rfl (by kernel_rfl) (by kernel_rfl) (by kernel_rfl) rfl (fun _ hs => hs) (lb 1 o_45 rfl rfl rfl rfl) ?_
      refine tk 2 rfl (by kernel_rfl) (by kernel_rfl) (by kernel_rfl) rfl (fun _ hs => hs) (D_fb f_48_2 rfl rfl (q := 2) rfl) ?_
      refine tk 3 rfl (by kernel_rfl) (by kernel_rfl) (by kernel_rfl) rfl (fun _ hs => hs) (lb 3 o_45 rfl rfl rfl rfl) ?_
      refine tk 4 rfl (by kernel_rfl) (by kernel_rfl) (by kernel_rfl) rfl (fun _ hs => hs) (rp rfl) ?_
      obtain ⟨x0, x0h⟩ := some_of_lt (l := r.If) (i := k) (by omega)
      have hcz := cond_sz x0h
      obtain ⟨es11, at12, hr13⟩ := rd_elem (n := 5) rfl hu2 x0h
      obtain ⟨u14, rfl, hu15⟩ := open_Cond hr13
      have hm16 := rd_max hu15
      have hb17 := sub_Cond_Pattern hr13
      refine tk 5 rfl (by kernel_rfl) (by kernel_rfl) (by kernel_rfl) rfl (fun _ hs => hs) (D_ix (l := r.If) (j := k) s_45 rfl rfl rfl (fun w' hs => (rd_at hs hu2)) rfl (lt_of_some x0h)) ?_
      refine tk 6 rfl (by kernel_rfl) (by kernel_rfl) (by kernel_rfl) rfl (fun _ hs => hs) (lra a_85 rfl rfl at12) ?_
      refine ty 7 rfl (by kernel_rfl) rfl (crs rfl b_67 rfl rfl rfl rfl (fun w' hs => (spec_l4Copy w' [(.int .i64 x0.Kind), (.string x0.Pattern.Rel), u14, (.string x0.Left), (.string x0.Right)] x0 (rd_at hs hr13) (by first | assumption | omega | (unfold szm at *; split at * <;> omega)))) fun cs18 => ?_)
      refine D_pre (fun w' hs => shape_Cond (rd_own (k := 0) hs rfl)) ?_
      rintro ⟨v19, rfl, ho20⟩
      refine tS (fun _ hs => hs.pk [1, 2, 3, 4] rfl rfl) ?_
      refine ty 8 rfl (by kernel_rfl) rfl (D_bs s_45 y_85 rfl (by decide) (by decide) rfl rfl rfl rfl rfl rfl fun g21 => ?_)
      refine tS (fun _ hs => hs.pk [2, 3, 4, 5] rfl rfl) ?_
      refine D_pk (H' := [ov [v] (r.If.take k : (List Cond)), ov [(.int .i64 x0.Kind), (.string x0.Pattern.Rel), v19, (.string x0.Left), (.string x0.Right)] (x0 : Cond), bx g21 [(.int .i64 x0.Kind), (.string x0.Pattern.Rel), v19, (.string x0.Left), (.string x0.Right)], bx g9 [(.string r.Name), (.int .i64 r.Priority), v, (.slice none 0 0)], bx g8 [(.string ⟨#[]⟩), (.int .i64 0), (.slice none 0 0), (.slice none 0 0)], bx g7 [(.string r.Name), (.int .i64 r.Priority), u1, u3]]) [2, 1, 0, 3, 4, 5] rfl rfl ?_
      refine ty 9 rfl (by kernel_rfl) rfl (D_ap s_45 y_85 rfl (by decide) rfl rfl rfl rfl rfl rfl (by first | omega | (simp; omega)) (by first | omega | (simp; omega)) fun v22 => ?_)
      refine tZ rfl ?_
      refine ty 10 rfl (by kernel_rfl) rfl (sv rfl rfl (D_fb f_48_2 rfl rfl (q := 2) rfl) ?_)
      refine tZ rfl ?_
      refine D_pre (fun w' hs => one_own (k := 0) hs rfl) ?_
      intro ho23
      refine ty 11 rfl (by kernel_rfl) rfl (D_stb (vs := [v22]) (cs' := [(.string r.Name), (.int .i64 r.Priority), v22, (.slice none 0 0)]) 1 z_45 rfl rfl rfl rfl rfl (cells_of_one ho23) (ocons ho23 onil) (by simp) rfl ?_)
      refine tZ rfl ?_
      refine tE (by kernel_rfl) ?_
      refine x_blk ?_
      refine x_then ?_
      refine D_weak [(1, (.pointer (some ⟨g7, 0, none⟩))), (2, (.pointer (some ⟨g8, 0, none⟩))), (3, (.pointer (some ⟨g9, 0, none⟩))), (4, (.int .i64 ((k : Nat) : Int)))] ⟨rfl, rfl, rfl, rfl, trivial⟩ ?_
      refine D_H ([ov [v22] ((r.If.take k) ++ [x0] : (List Cond)), bx g9 [(.string r.Name), (.int .i64 r.Priority), v22, (.slice none 0 0)], bx g8 [(.string ⟨#[]⟩), (.int .i64 0), (.slice none 0 0), (.slice none 0 0)], bx g7 [(.string r.Name), (.int .i64 r.Priority), u1, u3]]) rfl ?_
      refine C_reg ?_
      refine p1 rfl ?_
      refine q1 rfl (D_add rfl rfl rfl (r := ((k + 1 : Nat) : Int)) (by omega) (by omega)) ?_
      refine p1 rfl ?_
      refine D_end ?_
      refine x_then ?_
      refine D_eq 0 rfl (show ((r.If.take k) ++ [x0] : (List Cond)) = r.If.take (k + 1) from by exact (take_snoc x0h).symm) ?_
      refine fun ac w' hf hs => ⟨_, ?_, k + 1, v22, ?_, rfl, hf.weak ⟨rfl, rfl, rfl, rfl, trivial⟩, hs⟩
      · omega
      · first | assumption | omega | simp
    · have pr10 : ¬ (((k : Nat) : Int) : Int) < ((r.If.length : Nat) : Int) := of_decide_eq_false h10
      refine C_exit ?_
      refine x_then_exit ?_
      refine x_then_exit ?_
      refine x_blk_eq ?_
      refine x_then ?_
      refine C_seq ?_
      refine C_seq ?_
      refine C_reg ?_
      refine p1 rfl ?_
      refine D_end ?_
      refine x_then ?_
      refine C_block ?_
      refine C_loop (fun m_ ac w' => ∃ (j : Nat), ∃ (v2 : Value), (j ≤ r.Then.length) ∧ m_ = r.Then.length - j ∧ Fits ac 56 [(1, (.pointer (some ⟨g7, 0, none⟩))), (2, (.pointer (some ⟨g8, 0, none⟩))), (3, (.pointer (some ⟨g9, 0, none⟩))), (5, (.int .i64 ((j : Nat) : Int)))] ∧ St w ([ov [v2] (r.Then.take j : (List Action)), ov [v] (r.If.take k : (List Cond)), bx g9 [(.string r.Name), (.int .i64 r.Priority), v, v2], bx g8 [(.string ⟨#[]⟩), (.int .i64 0), (.slice none 0 0), (.slice none 0 0)], bx g7 [(.string r.Name), (.int .i64 r.Priority), u1, u3]]) w') ?_ ?_
      · refine D_nil (α := Action) ?_
        refine D_eq 0 rfl (show ([] : (List Action)) = r.Then.take 0 from by simp) ?_
        refine fun ac w' hf hs => ⟨_, 0, (.slice none 0 0), ?_, rfl, hf.weak ⟨rfl, rfl, rfl, rfl, trivial⟩, hs⟩
        · first | assumption | omega | simp
      · rintro m_ ac w' ⟨j, v2, hj, rfl, hf, hs⟩
        refine D.use ?_ hf hs
        clear hf hs ac w'
        have hclj : (r.Then.take j).length ≤ j := by rw [List.length_take]; omega
        refine C_seq ?_
        refine C_seq ?_
        refine C_reg ?_
        refine p1 rfl ?_
        refine q1 rfl (D_fb f_48_3 rfl rfl (q := 3) rfl) ?_
        refine q1 rfl (lb 4 o_46 rfl rfl rfl rfl) ?_
        refine q1 rfl (D_len s_46 rfl rfl (rd_sl hu4)) ?_
        refine p1 rfl ?_
        refine D_end ?_
        refine x_then ?_
        refine D_H ([ov [v2] (r.Then.take j : (List Action)), ov [v] (r.If.take k : (List Cond)), bx g9 [(.string r.Name), (.int .i64 r.Priority), v, v2], bx g8 [(.string ⟨#[]⟩), (.int .i64 0), (.slice none 0 0), (.slice none 0 0)], bx g7 [(.string r.Name), (.int .i64 r.Priority), u1, u3]]) rfl ?_
        refine C_if _ rfl (fun h24 => ?_) (fun h24 => ?_)
        · have pr24 : (((j : Nat) : Int) : Int) < ((r.Then.length : Nat) : Int) := of_decide_eq_true h24
          refine C_skip ?_
          refine x_then ?_
          refine C_seq ?_
          refine C_block ?_
          refine C_draw mixed [17, 18, 19] (by kernel_rfl) ?_
          refine tk 0 rfl (by kernel_rfl) (by kernel_rfl) (by kernel_rfl) rfl (fun _ hs => hs) (D_fb f_48_3 rfl rfl (q := 3) rfl) ?_
          refine tk 1 rfl (by kernel_rfl) (by kernel_rfl) (by kernel_rfl) rfl (fun _ hs => hs) (lb 2 o_46 rfl rfl rfl rfl) ?_
          refine tk 2 rfl (by kernel_rfl) (by kernel_rfl) (by kernel_rfl) rfl (fun _ hs => hs) (D_fb f_48_3 rfl rfl (q := 3) rfl) ?_
          refine tk 3 rfl (by kernel_rfl) (by kernel_rfl) (by kernel_rfl) rfl (fun _ hs => hs) (lb 4 o_46 rfl rfl rfl rfl) ?_
          refine tk 4 rfl (by kernel_rfl) (by kernel_rfl) (by kernel_rfl) rfl (fun _ hs => hs) (rp rfl) ?_
          obtain ⟨a0, a0h⟩ := some_of_lt (l := r.Then) (i := j) (by omega)
          have haz := act_sz a0h
          have hap : szAction a0 = szPattern a0.Pattern := rfl
          have hpa := szPat_args a0.Pattern
          obtain ⟨es25, at26, hr27⟩ := rd_elem (n := 3) rfl hu4 a0h
          obtain ⟨u28, rfl, hu29⟩ := open_Action hr27
          have hm30 := rd_max hu29
          have hb31 := sub_Action_Pattern hr27
          refine tk 5 rfl (by kernel_rfl) (by kernel_rfl) (by kernel_rfl) rfl (fun _ hs => hs) (D_ix (l := r.Then) (j := j) s_46 rfl rfl rfl (fun w' hs => (rd_at hs hu4)) rfl (lt_of_some a0h)) ?_
          refine tk 6 rfl (by kernel_rfl) (by kernel_rfl) (by kernel_rfl) rfl (fun _ hs => hs) (D_fa f_88_0 rfl rfl) ?_
          refine tk 7 rfl (by kernel_rfl) (by kernel_rfl) (by kernel_rfl) rfl (fun _ hs => hs) (lr o_3 rfl rfl at26 rfl) ?_
          refine tk 8 rfl (by kernel_rfl) (by kernel_rfl) (by kernel_rfl) rfl (fun _ hs => hs) (D_fb f_48_3 rfl rfl (q := 3) rfl) ?_
          refine tk 9 rfl (by kernel_rfl) (by kernel_rfl) (by kernel_rfl) rfl (fun _ hs => hs) (lb 4 o_46 rfl rfl rfl rfl) ?_
          refine tk 10 rfl (by kernel_rfl) (by kernel_rfl) (by kernel_rfl) rfl (fun _ hs => hs) (rp rfl) ?_
          refine tk 11 rfl (by kernel_rfl) (by kernel_rfl) (by kernel_rfl) rfl (fun _ hs => hs) (D_ix (l := r.Then) (j := j) s_46 rfl rfl rfl (fun w' hs => (rd_at hs hu4)) rfl (lt_of_some a0h)) ?_
          refine tk 12 rfl (by kernel_rfl) (by kernel_rfl) (by kernel_rfl) rfl (fun _ hs => hs) (D_fa f_88_1 rfl rfl) ?_
          refine tk 13 rfl (by kernel_rfl) (by kernel_rfl) (by kernel_rfl) rfl (fun _ hs => hs) (lra a_83 rfl rfl (at_sub (f := 1) (n := 2) at26 rfl)) ?_
          refine ty 14 rfl (by kernel_rfl) rfl (crs rfl b_68 rfl rfl rfl rfl (fun w' hs => (spec_l3CopyPattern w' [(.string a0.Pattern.Rel), u28] a0.Pattern (rd_at hs hb31) (by first | assumption | omega | (unfold szm at *; split at * <;> omega)))) fun cs32 => ?_)
          refine D_pre (fun w' hs => shape_Pattern (rd_own (k := 0) hs rfl)) ?_
          rintro ⟨v33, rfl, ho34⟩
          refine tS (fun _ hs => hs.pk [1, 2, 3, 4, 5] rfl rfl) ?_
          refine tk 15 rfl (by kernel_rfl) (by kernel_rfl) (by kernel_rfl) rfl (fun _ hs => hs.pk [1, 2, 3, 4, 5] rfl rfl) (D_built (vs := [(0, (.int .i64 a0.Kind)), (1, (.agg #[(.string a0.Pattern.Rel), v33]))]) (xs := [(0, [(.int .i64 a0.Kind)]), (1, [(.string a0.Pattern.Rel), v33])]) (cs := [(.int .i64 a0.Kind), (.string a0.Pattern.Rel), v33]) pl_88 rfl ⟨rfl, rfl, ⟨rfl, rfl, trivial⟩⟩ rfl rfl) ?_
          refine ty 16 rfl (by kernel_rfl) rfl (D_bs s_46 y_88 rfl (by decide) (by decide) rfl rfl rfl rfl rfl rfl fun g35 => ?_)
          refine tS (fun _ hs => hs.pk [2, 3, 4, 5, 6] rfl rfl) ?_
          refine D_pk (H' := [ov [(.string a0.Pattern.Rel), v33] (a0.Pattern : Pattern), bx g35 [(.int .i64 a0.Kind), (.string a0.Pattern.Rel), v33], ov [v2] (r.Then.take j : (List Action)), ov [v] (r.If.take k : (List Cond)), bx g9 [(.string r.Name), (.int .i64 r.Priority), v, v2], bx g8 [(.string ⟨#[]⟩), (.int .i64 0), (.slice none 0 0), (.slice none 0 0)], bx g7 [(.string r.Name), (.int .i64 r.Priority), u1, u3]]) [1, 0, 2, 3, 4, 5, 6] rfl rfl ?_
          refine D_unpair (α := ByteArray) (β := (List ByteArray)) (c1 := [(.string a0.Pattern.Rel)]) (c2 := [v33]) (x := a0.Pattern.Rel) (y := (a0.Pattern.Args)) rfl rfl ?_
          refine D_fd [] 1 rfl ?_
          refine pk_Action (r := (⟨a0.Kind, ⟨a0.Pattern.Rel, a0.Pattern.Args⟩⟩ : Action)) ?_
          refine D_pk (H' := [ov [v2] (r.Then.take j : (List Action)), ov [(.int .i64 a0.Kind), (.string a0.Pattern.Rel), v33] ((⟨a0.Kind, ⟨a0.Pattern.Rel, a0.Pattern.Args⟩⟩ : Action) : Action), bx g35 [(.int .i64 a0.Kind), (.string a0.Pattern.Rel), v33], ov [v] (r.If.take k : (List Cond)), bx g9 [(.string r.Name), (.int .i64 r.Priority), v, v2], bx g8 [(.string ⟨#[]⟩), (.int .i64 0), (.slice none 0 0), (.slice none 0 0)], bx g7 [(.string r.Name), (.int .i64 r.Priority), u1, u3]]) [2, 0, 1, 3, 4, 5, 6] rfl rfl ?_
          refine ty 17 rfl (by kernel_rfl) rfl (D_ap s_46 y_88 rfl (by decide) rfl rfl rfl rfl rfl rfl (by first | omega | (simp; omega)) (by first | omega | (simp; omega)) fun v36 => ?_)
          refine tZ rfl ?_
          refine ty 18 rfl (by kernel_rfl) rfl (sv rfl rfl (D_fb f_48_3 rfl rfl (q := 3) rfl) ?_)
          refine tZ rfl ?_
          refine D_pre (fun w' hs => one_own (k := 0) hs rfl) ?_
          intro ho37
          refine ty 19 rfl (by kernel_rfl) rfl (D_stb (vs := [v36]) (cs' := [(.string r.Name), (.int .i64 r.Priority), v, v36]) 2 z_46 rfl rfl rfl rfl rfl (cells_of_one ho37) (ocons ho37 onil) (by simp) rfl ?_)
          refine tZ rfl ?_
          refine tE (by kernel_rfl) ?_
          refine x_blk ?_
          refine x_then ?_
          refine D_weak [(1, (.pointer (some ⟨g7, 0, none⟩))), (2, (.pointer (some ⟨g8, 0, none⟩))), (3, (.pointer (some ⟨g9, 0, none⟩))), (5, (.int .i64 ((j : Nat) : Int)))] ⟨rfl, rfl, rfl, rfl, trivial⟩ ?_
          refine D_H ([ov [v36] ((r.Then.take j) ++ [(⟨a0.Kind, ⟨a0.Pattern.Rel, a0.Pattern.Args⟩⟩ : Action)] : (List Action)), ov [v] (r.If.take k : (List Cond)), bx g9 [(.string r.Name), (.int .i64 r.Priority), v, v36], bx g8 [(.string ⟨#[]⟩), (.int .i64 0), (.slice none 0 0), (.slice none 0 0)], bx g7 [(.string r.Name), (.int .i64 r.Priority), u1, u3]]) rfl ?_
          refine C_reg ?_
          refine p1 rfl ?_
          refine q1 rfl (D_add rfl rfl rfl (r := ((j + 1 : Nat) : Int)) (by omega) (by omega)) ?_
          refine p1 rfl ?_
          refine D_end ?_
          refine x_then ?_
          refine D_eq 0 rfl (show ((r.Then.take j) ++ [(⟨a0.Kind, ⟨a0.Pattern.Rel, a0.Pattern.Args⟩⟩ : Action)] : (List Action)) = r.Then.take (j + 1) from by exact (take_snoc a0h).symm) ?_
          refine fun ac w' hf hs => ⟨_, ?_, j + 1, v36, ?_, rfl, hf.weak ⟨rfl, rfl, rfl, rfl, trivial⟩, hs⟩
          · omega
          · first | assumption | omega | simp
        · have pr24 : ¬ (((j : Nat) : Int) : Int) < ((r.Then.length : Nat) : Int) := of_decide_eq_false h24
          refine C_exit ?_
          refine x_then_exit ?_
          refine x_then_exit ?_
          refine x_blk_eq ?_
          refine x_then ?_
          refine C_seq ?_
          refine C_reg ?_
          refine q1 rfl (lbw 2 a_48 rfl rfl rfl) ?_
          refine D_pre (fun w' hs => one_own (k := 0) hs rfl) ?_
          intro ho38
          refine D_pre (fun w' hs => one_own (k := 1) hs rfl) ?_
          intro ho39
          refine li rfl (D_stb (vs := [(.string r.Name), (.int .i64 r.Priority), v, v2]) (cs' := [(.string r.Name), (.int .i64 r.Priority), v, v2]) 3 z_48 rfl rfl rfl rfl rfl rfl (ocons rfl (ocons rfl (ocons ho39 (ocons ho38 onil)))) (by simp) rfl ?_)
          refine D_end ?_
          refine x_then ?_
          refine D_H ([ov [v2] (r.Then.take j : (List Action)), ov [v] (r.If.take k : (List Cond)), bx g9 [(.string r.Name), (.int .i64 r.Priority), v, v2], bx g8 [(.string r.Name), (.int .i64 r.Priority), v, v2], bx g7 [(.string r.Name), (.int .i64 r.Priority), u1, u3]]) rfl ?_
          refine C_ret ?_
          refine D_pk (H' := [ov [v] (r.If.take k : (List Cond)), ov [v2] (r.Then.take j : (List Action)), bx g9 [(.string r.Name), (.int .i64 r.Priority), v, v2], bx g8 [(.string r.Name), (.int .i64 r.Priority), v, v2], bx g7 [(.string r.Name), (.int .i64 r.Priority), u1, u3]]) [1, 0, 2, 3, 4] rfl rfl ?_
          refine pk_Rule (r := (⟨r.Name, r.Priority, r.If.take k, r.Then.take j⟩ : Rule)) ?_
          refine R_c 2 a_48 rfl rfl rfl fun w' hs => res_of (k := 0) hs rfl ?_
          show (⟨r.Name, r.Priority, r.If.take k, r.Then.take j⟩ : Rule) = r
          show (⟨r.Name, r.Priority, r.If.take k, r.Then.take j⟩ : Rule) = r; rw [List.take_of_length_le (by omega), List.take_of_length_le (by omega)]

theorem spec_l5Copies (w : World) (v_l : Value) (l : (List Rule)) (h_l : Gd.rd w [v_l] l) (hn : szL szRule l ≤ 1048576) : Calls Tryz.prog 15 [v_l].toArray w (Res w (l : List Rule)) := by
  have hm1 := rd_max h_l
  unfold szL at hn
  refine enter 21 Tryz.func15 rfl rfl rfl ?_
  refine C_seq ?_
  refine C_reg ?_
  refine p1 rfl ?_
  refine D_end ?_
  refine x_then ?_
  refine C_seq ?_
  refine C_reg ?_
  refine li rfl (D_bs0 (α := Rule) s_24 rfl rfl rfl fun v2 => ?_)
  refine p1 rfl ?_
  refine D_end ?_
  refine x_then ?_
  refine D_H ([ov [v2] ([] : (List Rule))]) rfl ?_
  refine C_seq ?_
  refine C_seq ?_
  refine C_reg ?_
  refine p1 rfl ?_
  refine D_end ?_
  refine x_then ?_
  refine C_block ?_
  refine C_loop (fun m_ ac w' => ∃ (k : Nat), ∃ (v : Value), (k ≤ l.length) ∧ m_ = l.length - k ∧ Fits ac 21 [(0, v_l), (3, v), (4, (.int .i64 ((k : Nat) : Int)))] ∧ St w ([ov [v] (l.take k : (List Rule))]) w') ?_ ?_
  · refine D_eq 0 rfl (show ([] : (List Rule)) = l.take 0 from by simp) ?_
    refine fun ac w' hf hs => ⟨_, 0, v2, ?_, rfl, hf.weak ⟨rfl, rfl, rfl, trivial⟩, hs⟩
    · first | assumption | omega | simp
  · rintro m_ ac w' ⟨k, v, hk, rfl, hf, hs⟩
    refine D.use ?_ hf hs
    clear hf hs ac w'
    have hcl : (l.take k).length ≤ k := by rw [List.length_take]; omega
    refine C_seq ?_
    refine C_seq ?_
    refine C_reg ?_
    refine p1 rfl <| p1 rfl ?_
    refine q1 rfl (D_len s_24 rfl rfl (rd_sl h_l)) ?_
    refine p1 rfl ?_
    refine D_end ?_
    refine x_then ?_
    refine D_H ([ov [v] (l.take k : (List Rule))]) rfl ?_
    refine C_if _ rfl (fun h3 => ?_) (fun h3 => ?_)
    · have pr3 : (((k : Nat) : Int) : Int) < ((l.length : Nat) : Int) := of_decide_eq_true h3
      refine C_skip ?_
      refine x_then ?_
      refine C_seq ?_
      refine C_block ?_
      refine C_reg ?_
      refine p1 rfl <| p1 rfl <| p1 rfl ?_
      obtain ⟨x0, x0h⟩ := some_of_lt (l := l) (i := k) (by omega)
      have hle := sumC_mem (c := szRule) (List.mem_of_getElem? x0h)
      obtain ⟨es4, at5, hr6⟩ := rd_elem (n := 4) rfl h_l x0h
      obtain ⟨u7, u9, rfl, hu8, hu10⟩ := open_Rule hr6
      have hm11 := rd_max hu8
      have hm12 := rd_max hu10
      refine q1 rfl (D_ix (l := l) (j := k) s_24 rfl rfl rfl (fun w' hs => (rd_at hs h_l)) rfl (lt_of_some x0h)) ?_
      refine q1 rfl (lra a_48 rfl rfl at5) ?_
      refine li rfl (crs rfl b_37 rfl rfl rfl rfl (fun w' hs => (spec_l5Copy w' [(.string x0.Name), (.int .i64 x0.Priority), u7, u9] x0 (rd_at hs hr6) (by first | assumption | omega | (unfold szm at *; split at * <;> omega)))) fun cs13 => ?_)
      refine D_pre (fun w' hs => shape_Rule (rd_own (k := 0) hs rfl)) ?_
      rintro ⟨v14, v15, rfl, ho16, ho17⟩
      refine li rfl (D_bs s_24 y_48 rfl (by decide) (by decide) rfl rfl rfl rfl rfl rfl fun g18 => ?_)
      refine D_pk (H' := [ov [v] (l.take k : (List Rule)), ov [(.string x0.Name), (.int .i64 x0.Priority), v14, v15] (x0 : Rule), bx g18 [(.string x0.Name), (.int .i64 x0.Priority), v14, v15]]) [2, 1, 0] rfl rfl ?_
      refine li rfl (D_ap s_24 y_48 rfl (by decide) rfl rfl rfl rfl rfl rfl (by first | omega | (simp; omega)) (by first | omega | (simp; omega)) fun v19 => ?_)
      refine p1 rfl ?_
      refine D_end ?_
      refine x_blk ?_
      refine x_then ?_
      refine D_H ([ov [v19] ((l.take k) ++ [x0] : (List Rule))]) rfl ?_
      refine C_reg ?_
      refine p1 rfl ?_
      refine q1 rfl (D_add rfl rfl rfl (r := ((k + 1 : Nat) : Int)) (by omega) (by omega)) ?_
      refine p1 rfl ?_
      refine D_end ?_
      refine x_then ?_
      refine D_eq 0 rfl (show ((l.take k) ++ [x0] : (List Rule)) = l.take (k + 1) from by exact (take_snoc x0h).symm) ?_
      refine fun ac w' hf hs => ⟨_, ?_, k + 1, v19, ?_, rfl, hf.weak ⟨rfl, rfl, rfl, trivial⟩, hs⟩
      · omega
      · first | assumption | omega | simp
    · have pr3 : ¬ (((k : Nat) : Int) : Int) < ((l.length : Nat) : Int) := of_decide_eq_false h3
      refine C_exit ?_
      refine x_then_exit ?_
      refine x_then_exit ?_
      refine x_blk_eq ?_
      refine x_then ?_
      refine C_seq ?_
      refine C_reg ?_
      refine p1 rfl <| p1 rfl ?_
      refine D_end ?_
      refine x_then ?_
      refine C_ret ?_
      refine R_1 rfl rfl fun w' hs => res_of (k := 0) hs rfl ?_
      show l.take k = l
      rw [List.take_of_length_le (by omega)]

theorem impl_NewEngine (w : World) (v_rules : Value) (rules : (List Rule)) (h_rules : Gd.rd w [v_rules] rules) (hn : szL szRule rules ≤ 1048576) : Calls Tryz.prog 7 [v_rules].toArray w (Res2 w (newE rules : Engine) (areRulesB rules : Bool)) := by
  have hm1 := rd_max h_rules
  refine enter 11 Tryz.func7 rfl rfl rfl ?_
  refine C_seq ?_
  refine C_reg ?_
  refine li rfl (D_alloc y_29 rfl rfl rfl rfl fun g2 => ?_)
  refine p1 rfl ?_
  refine D_end ?_
  refine x_then ?_
  refine D_H ([bx g2 [(.slice none 0 0), (.slice none 0 0), (.int .i64 0), (.slice none 0 0), (.bool false), (.slice none 0 0)]]) rfl ?_
  refine C_seq ?_
  refine C_seq ?_
  refine C_reg ?_
  refine p1 rfl ?_
  refine li rfl (cv b_17 rfl rfl rfl rfl (fun w' hs => (impl_AreRules w' v_rules rules (rd_at hs h_rules) (by first | assumption | omega | (unfold szm at *; split at * <;> omega)))) ?_)
  refine p1 rfl ?_
  refine D_end ?_
  refine x_then ?_
  refine C_if _ rfl (fun h3 => ?_) (fun h3 => ?_)
  · have h3n : (areRulesB rules) = false := not_t h3
    refine C_seq ?_
    refine C_reg ?_
    refine q1 rfl (D_build (vs := []) (cs := [(.slice none 0 0), (.slice none 0 0), (.int .i64 0), (.slice none 0 0), (.bool false), (.slice none 0 0)]) rfl (fun _ => by kernel_rfl) rfl) ?_
    refine li rfl (D_stb (vs := [(.slice none 0 0), (.slice none 0 0), (.int .i64 0), (.slice none 0 0), (.bool false), (.slice none 0 0)]) (cs' := [(.slice none 0 0), (.slice none 0 0), (.int .i64 0), (.slice none 0 0), (.bool false), (.slice none 0 0)]) 0 z_29 rfl rfl rfl rfl rfl rfl (ocons rfl (ocons rfl (ocons rfl (ocons rfl (ocons rfl (ocons rfl onil)))))) (by simp) rfl ?_)
    refine p1 rfl ?_
    refine D_end ?_
    refine x_then ?_
    refine C_ret ?_
    refine x_then_ret ?_
    refine D_nil (α := Rule) ?_
    refine D_nil (α := Stamp) ?_
    refine D_nil (α := Firing) ?_
    refine D_nil (α := Event) ?_
    refine D_pk (H' := [ov [(.slice none 0 0)] ([] : (List Rule)), ov [(.slice none 0 0)] ([] : (List Stamp)), ov [(.slice none 0 0)] ([] : (List Firing)), ov [(.slice none 0 0)] ([] : (List Event)), bx g2 [(.slice none 0 0), (.slice none 0 0), (.int .i64 0), (.slice none 0 0), (.bool false), (.slice none 0 0)]]) [3, 2, 1, 0, 4] rfl rfl ?_
    refine pk_Engine (r := (⟨[], [], 0, [], false, []⟩ : Engine)) ?_
    refine D_fbool false ?_
    refine D_pk (H' := [ov [(.slice none 0 0), (.slice none 0 0), (.int .i64 0), (.slice none 0 0), (.bool false), (.slice none 0 0)] ((⟨[], [], 0, [], false, []⟩ : Engine) : Engine), ov [(.bool false)] (false : Bool), bx g2 [(.slice none 0 0), (.slice none 0 0), (.int .i64 0), (.slice none 0 0), (.bool false), (.slice none 0 0)]]) [1, 0, 2] rfl rfl ?_
    refine R_2g rfl (rvc (cs := [(.slice none 0 0), (.slice none 0 0), (.int .i64 0), (.slice none 0 0), (.bool false), (.slice none 0 0)]) 2 a_29 rfl rfl) (rvt rfl) fun w' hs => res2_of (c1 := [(.slice none 0 0), (.slice none 0 0), (.int .i64 0), (.slice none 0 0), (.bool false), (.slice none 0 0)]) (c2 := [(.bool false)]) hs ?_ ?_
    · show ((⟨[], [], 0, [], false, []⟩ : Engine) : Engine) = newE rules
      first | exact (newE_t (by assumption)).1 | exact (newE_t (by assumption)).2 | exact (newE_f (by assumption)).1 | exact (newE_f (by assumption)).2
    · show (false : Bool) = areRulesB rules
      first | exact (newE_t (by assumption)).1 | exact (newE_t (by assumption)).2 | exact (newE_f (by assumption)).1 | exact (newE_f (by assumption)).2
  · have h3n : (areRulesB rules) = true := not_f h3
    refine C_skip ?_
    refine x_then ?_
    refine C_seq ?_
    refine C_reg ?_
    refine p1 rfl ?_
    refine li rfl (crl b_18 rfl rfl rfl rfl (fun w' hs => (impl_copyRules w' v_rules rules (rd_at hs h_rules) (by first | assumption | omega | (unfold szm at *; split at * <;> omega)))) fun v4 => ?_)
    refine D_pre (fun w' hs => one_own (k := 0) hs rfl) ?_
    intro ho5
    refine q1 rfl (D_built (vs := [(0, v4)]) (xs := [(0, [v4])]) (cs := [v4, (.slice none 0 0), (.int .i64 0), (.slice none 0 0), (.bool false), (.slice none 0 0)]) pl_29 rfl ⟨rfl, (cells_of_one ho5), trivial⟩ rfl rfl) ?_
    refine li rfl (D_stb (vs := [v4, (.slice none 0 0), (.int .i64 0), (.slice none 0 0), (.bool false), (.slice none 0 0)]) (cs' := [v4, (.slice none 0 0), (.int .i64 0), (.slice none 0 0), (.bool false), (.slice none 0 0)]) 1 z_29 rfl rfl rfl rfl rfl rfl (ocons ho5 (ocons rfl (ocons rfl (ocons rfl (ocons rfl (ocons rfl onil)))))) (by simp) rfl ?_)
    refine p1 rfl ?_
    refine D_end ?_
    refine x_then ?_
    refine D_H ([ov [v4] (rules : (List Rule)), bx g2 [v4, (.slice none 0 0), (.int .i64 0), (.slice none 0 0), (.bool false), (.slice none 0 0)]]) rfl ?_
    refine C_ret ?_
    refine D_nil (α := Stamp) ?_
    refine D_nil (α := Firing) ?_
    refine D_nil (α := Event) ?_
    refine D_pk (H' := [ov [v4] (rules : (List Rule)), ov [(.slice none 0 0)] ([] : (List Stamp)), ov [(.slice none 0 0)] ([] : (List Firing)), ov [(.slice none 0 0)] ([] : (List Event)), bx g2 [v4, (.slice none 0 0), (.int .i64 0), (.slice none 0 0), (.bool false), (.slice none 0 0)]]) [3, 2, 1, 0, 4] rfl rfl ?_
    refine pk_Engine (r := (⟨rules, [], 0, [], false, []⟩ : Engine)) ?_
    refine D_fbool true ?_
    refine D_pk (H' := [ov [v4, (.slice none 0 0), (.int .i64 0), (.slice none 0 0), (.bool false), (.slice none 0 0)] ((⟨rules, [], 0, [], false, []⟩ : Engine) : Engine), ov [(.bool true)] (true : Bool), bx g2 [v4, (.slice none 0 0), (.int .i64 0), (.slice none 0 0), (.bool false), (.slice none 0 0)]]) [1, 0, 2] rfl rfl ?_
    refine R_2g rfl (rvc (cs := [v4, (.slice none 0 0), (.int .i64 0), (.slice none 0 0), (.bool false), (.slice none 0 0)]) 2 a_29 rfl rfl) (rvt rfl) fun w' hs => res2_of (c1 := [v4, (.slice none 0 0), (.int .i64 0), (.slice none 0 0), (.bool false), (.slice none 0 0)]) (c2 := [(.bool true)]) hs ?_ ?_
    · show ((⟨rules, [], 0, [], false, []⟩ : Engine) : Engine) = newE rules
      first | exact (newE_t (by assumption)).1 | exact (newE_t (by assumption)).2 | exact (newE_f (by assumption)).1 | exact (newE_f (by assumption)).2
    · show (true : Bool) = areRulesB rules
      first | exact (newE_t (by assumption)).1 | exact (newE_t (by assumption)).2 | exact (newE_f (by assumption)).1 | exact (newE_f (by assumption)).2

theorem spec_NewEngine (w : World) (v_rules : Value) (rules : (List Rule)) (h_rules : Gd.rd w [v_rules] rules) (hn : szL szRule rules ≤ 1048576) (ho : okL okRule rules) : Calls Tryz.prog 5 [v_rules].toArray w (Res2 w (newE rules : Engine) (areRulesB rules : Bool)) := by
  have hm1 := rd_max h_rules
  refine enter 11 Tryz.func5 rfl rfl rfl ?_
  refine C_seq ?_
  refine C_reg ?_
  refine li rfl (D_alloc y_29 rfl rfl rfl rfl fun g2 => ?_)
  refine p1 rfl ?_
  refine D_end ?_
  refine x_then ?_
  refine D_H ([bx g2 [(.slice none 0 0), (.slice none 0 0), (.int .i64 0), (.slice none 0 0), (.bool false), (.slice none 0 0)]]) rfl ?_
  refine C_seq ?_
  refine C_seq ?_
  refine C_reg ?_
  refine p1 rfl ?_
  refine li rfl (cv b_14 rfl rfl rfl rfl (fun w' hs => (spec_AreRules w' v_rules rules (rd_at hs h_rules) (by first | assumption | omega | (unfold szm at *; split at * <;> omega)) (by first | assumption | omega | (unfold szm at *; split at * <;> omega)))) ?_)
  refine p1 rfl ?_
  refine D_end ?_
  refine x_then ?_
  refine C_if _ rfl (fun h3 => ?_) (fun h3 => ?_)
  · have h3n : (areRulesB rules) = false := not_t h3
    refine C_seq ?_
    refine C_reg ?_
    refine q1 rfl (D_build (vs := []) (cs := [(.slice none 0 0), (.slice none 0 0), (.int .i64 0), (.slice none 0 0), (.bool false), (.slice none 0 0)]) rfl (fun _ => by kernel_rfl) rfl) ?_
    refine li rfl (D_stb (vs := [(.slice none 0 0), (.slice none 0 0), (.int .i64 0), (.slice none 0 0), (.bool false), (.slice none 0 0)]) (cs' := [(.slice none 0 0), (.slice none 0 0), (.int .i64 0), (.slice none 0 0), (.bool false), (.slice none 0 0)]) 0 z_29 rfl rfl rfl rfl rfl rfl (ocons rfl (ocons rfl (ocons rfl (ocons rfl (ocons rfl (ocons rfl onil)))))) (by simp) rfl ?_)
    refine p1 rfl ?_
    refine D_end ?_
    refine x_then ?_
    refine C_ret ?_
    refine x_then_ret ?_
    refine D_nil (α := Rule) ?_
    refine D_nil (α := Stamp) ?_
    refine D_nil (α := Firing) ?_
    refine D_nil (α := Event) ?_
    refine D_pk (H' := [ov [(.slice none 0 0)] ([] : (List Rule)), ov [(.slice none 0 0)] ([] : (List Stamp)), ov [(.slice none 0 0)] ([] : (List Firing)), ov [(.slice none 0 0)] ([] : (List Event)), bx g2 [(.slice none 0 0), (.slice none 0 0), (.int .i64 0), (.slice none 0 0), (.bool false), (.slice none 0 0)]]) [3, 2, 1, 0, 4] rfl rfl ?_
    refine pk_Engine (r := (⟨[], [], 0, [], false, []⟩ : Engine)) ?_
    refine D_fbool false ?_
    refine D_pk (H' := [ov [(.slice none 0 0), (.slice none 0 0), (.int .i64 0), (.slice none 0 0), (.bool false), (.slice none 0 0)] ((⟨[], [], 0, [], false, []⟩ : Engine) : Engine), ov [(.bool false)] (false : Bool), bx g2 [(.slice none 0 0), (.slice none 0 0), (.int .i64 0), (.slice none 0 0), (.bool false), (.slice none 0 0)]]) [1, 0, 2] rfl rfl ?_
    refine R_2g rfl (rvc (cs := [(.slice none 0 0), (.slice none 0 0), (.int .i64 0), (.slice none 0 0), (.bool false), (.slice none 0 0)]) 2 a_29 rfl rfl) (rvt rfl) fun w' hs => res2_of (c1 := [(.slice none 0 0), (.slice none 0 0), (.int .i64 0), (.slice none 0 0), (.bool false), (.slice none 0 0)]) (c2 := [(.bool false)]) hs ?_ ?_
    · show ((⟨[], [], 0, [], false, []⟩ : Engine) : Engine) = newE rules
      first | exact (newE_t (by assumption)).1 | exact (newE_t (by assumption)).2 | exact (newE_f (by assumption)).1 | exact (newE_f (by assumption)).2
    · show (false : Bool) = areRulesB rules
      first | exact (newE_t (by assumption)).1 | exact (newE_t (by assumption)).2 | exact (newE_f (by assumption)).1 | exact (newE_f (by assumption)).2
  · have h3n : (areRulesB rules) = true := not_f h3
    refine C_skip ?_
    refine x_then ?_
    refine C_seq ?_
    refine C_reg ?_
    refine p1 rfl ?_
    refine li rfl (crl b_15 rfl rfl rfl rfl (fun w' hs => (spec_l5Copies w' v_rules rules (rd_at hs h_rules) (by first | assumption | omega | (unfold szm at *; split at * <;> omega)))) fun v4 => ?_)
    refine D_pre (fun w' hs => one_own (k := 0) hs rfl) ?_
    intro ho5
    refine q1 rfl (D_built (vs := [(0, v4)]) (xs := [(0, [v4])]) (cs := [v4, (.slice none 0 0), (.int .i64 0), (.slice none 0 0), (.bool false), (.slice none 0 0)]) pl_29 rfl ⟨rfl, (cells_of_one ho5), trivial⟩ rfl rfl) ?_
    refine li rfl (D_stb (vs := [v4, (.slice none 0 0), (.int .i64 0), (.slice none 0 0), (.bool false), (.slice none 0 0)]) (cs' := [v4, (.slice none 0 0), (.int .i64 0), (.slice none 0 0), (.bool false), (.slice none 0 0)]) 1 z_29 rfl rfl rfl rfl rfl rfl (ocons ho5 (ocons rfl (ocons rfl (ocons rfl (ocons rfl (ocons rfl onil)))))) (by simp) rfl ?_)
    refine p1 rfl ?_
    refine D_end ?_
    refine x_then ?_
    refine D_H ([ov [v4] (rules : (List Rule)), bx g2 [v4, (.slice none 0 0), (.int .i64 0), (.slice none 0 0), (.bool false), (.slice none 0 0)]]) rfl ?_
    refine C_ret ?_
    refine D_nil (α := Stamp) ?_
    refine D_nil (α := Firing) ?_
    refine D_nil (α := Event) ?_
    refine D_pk (H' := [ov [v4] (rules : (List Rule)), ov [(.slice none 0 0)] ([] : (List Stamp)), ov [(.slice none 0 0)] ([] : (List Firing)), ov [(.slice none 0 0)] ([] : (List Event)), bx g2 [v4, (.slice none 0 0), (.int .i64 0), (.slice none 0 0), (.bool false), (.slice none 0 0)]]) [3, 2, 1, 0, 4] rfl rfl ?_
    refine pk_Engine (r := (⟨rules, [], 0, [], false, []⟩ : Engine)) ?_
    refine D_fbool true ?_
    refine D_pk (H' := [ov [v4, (.slice none 0 0), (.int .i64 0), (.slice none 0 0), (.bool false), (.slice none 0 0)] ((⟨rules, [], 0, [], false, []⟩ : Engine) : Engine), ov [(.bool true)] (true : Bool), bx g2 [v4, (.slice none 0 0), (.int .i64 0), (.slice none 0 0), (.bool false), (.slice none 0 0)]]) [1, 0, 2] rfl rfl ?_
    refine R_2g rfl (rvc (cs := [v4, (.slice none 0 0), (.int .i64 0), (.slice none 0 0), (.bool false), (.slice none 0 0)]) 2 a_29 rfl rfl) (rvt rfl) fun w' hs => res2_of (c1 := [v4, (.slice none 0 0), (.int .i64 0), (.slice none 0 0), (.bool false), (.slice none 0 0)]) (c2 := [(.bool true)]) hs ?_ ?_
    · show ((⟨rules, [], 0, [], false, []⟩ : Engine) : Engine) = newE rules
      first | exact (newE_t (by assumption)).1 | exact (newE_t (by assumption)).2 | exact (newE_f (by assumption)).1 | exact (newE_f (by assumption)).2
    · show (true : Bool) = areRulesB rules
      first | exact (newE_t (by assumption)).1 | exact (newE_t (by assumption)).2 | exact (newE_f (by assumption)).1 | exact (newE_f (by assumption)).2
end Go.Sy.Eng4
