/-
  Contracts of functions of the program, walked (printed by a program of ours).
  Conditions: those that each theorem states.
-/
import Derived.Test.YtamkdpknhaninaaGreatEv1
import Derived.Test.YtamkdpknhaninaaGreatEng
set_option linter.unusedVariables false
set_option maxRecDepth 20000
namespace Go.Sy.Ev2
open Go Go.RowKit Go.Proofs Go.Sy
theorem mixed : Tryz.prog.follows .mixedOrders = true := by kernel_rfl
theorem f_91_0 : fieldOff Tryz.prog 91 0 = some 0 := by kernel_rfl
theorem o_9 : oneTy Tryz.prog 9 = true := by kernel_rfl
theorem us_9 : Tryz.prog.underlying 9 = some .string := by kernel_rfl
theorem f_91_1 : fieldOff Tryz.prog 91 1 = some 1 := by kernel_rfl
theorem o_68 : oneTy Tryz.prog 68 = true := by kernel_rfl
theorem b_107 : hasBody Tryz.prog 107 = true := by kernel_rfl
theorem y_83 : zeroTy Tryz.prog 83 = some (.agg #[(.string ⟨#[]⟩), (.slice none 0 0)]) := by kernel_rfl
theorem f_83_0 : fieldOff Tryz.prog 83 0 = some 0 := by kernel_rfl
theorem z_9 : sizeTy Tryz.prog 9 = some 1 := by kernel_rfl
theorem b_109 : hasBody Tryz.prog 109 = true := by kernel_rfl
theorem f_83_1 : fieldOff Tryz.prog 83 1 = some 1 := by kernel_rfl
theorem z_68 : sizeTy Tryz.prog 68 = some 1 := by kernel_rfl
theorem a_83 : aggTy Tryz.prog 83 = some 2 := by kernel_rfl
theorem z_83 : sizeTy Tryz.prog 83 = some 2 := by kernel_rfl
theorem b_105 : hasBody Tryz.prog 105 = true := by kernel_rfl
theorem f_93_1 : fieldOff Tryz.prog 93 1 = some 1 := by kernel_rfl
theorem a_91 : aggTy Tryz.prog 91 = some 2 := by kernel_rfl
theorem b_86 : hasBody Tryz.prog 86 = true := by kernel_rfl
theorem f_93_2 : fieldOff Tryz.prog 93 2 = some 3 := by kernel_rfl
theorem f_93_3 : fieldOff Tryz.prog 93 3 = some 4 := by kernel_rfl
theorem y_85 : zeroTy Tryz.prog 85 = some (.agg #[(.int .i64 0), (.string ⟨#[]⟩), (.slice none 0 0), (.string ⟨#[]⟩), (.string ⟨#[]⟩)]) := by kernel_rfl
theorem f_93_0 : fieldOff Tryz.prog 93 0 = some 0 := by kernel_rfl
theorem o_3 : oneTy Tryz.prog 3 = true := by kernel_rfl
theorem f_85_0 : fieldOff Tryz.prog 85 0 = some 0 := by kernel_rfl
theorem z_3 : sizeTy Tryz.prog 3 = some 1 := by kernel_rfl
theorem b_94 : hasBody Tryz.prog 94 = true := by kernel_rfl
theorem f_85_1 : fieldOff Tryz.prog 85 1 = some 1 := by kernel_rfl
theorem f_85_2 : fieldOff Tryz.prog 85 2 = some 3 := by kernel_rfl
theorem f_85_3 : fieldOff Tryz.prog 85 3 = some 4 := by kernel_rfl
theorem a_85 : aggTy Tryz.prog 85 = some 5 := by kernel_rfl
theorem z_85 : sizeTy Tryz.prog 85 = some 5 := by kernel_rfl
theorem b_106 : hasBody Tryz.prog 106 = true := by kernel_rfl
theorem f_96_1 : fieldOff Tryz.prog 96 1 = some 1 := by kernel_rfl
theorem y_88 : zeroTy Tryz.prog 88 = some (.agg #[(.int .i64 0), (.string ⟨#[]⟩), (.slice none 0 0)]) := by kernel_rfl
theorem f_96_0 : fieldOff Tryz.prog 96 0 = some 0 := by kernel_rfl
theorem f_88_0 : fieldOff Tryz.prog 88 0 = some 0 := by kernel_rfl
theorem f_88_1 : fieldOff Tryz.prog 88 1 = some 1 := by kernel_rfl
theorem a_88 : aggTy Tryz.prog 88 = some 3 := by kernel_rfl
theorem z_88 : sizeTy Tryz.prog 88 = some 3 := by kernel_rfl
theorem s_39 : sliceTy Tryz.prog 39 = some (93, 5, 80) := by kernel_rfl
theorem a_93 : aggTy Tryz.prog 93 = some 5 := by kernel_rfl
theorem b_54 : hasBody Tryz.prog 54 = true := by kernel_rfl
theorem s_45 : sliceTy Tryz.prog 45 = some (85, 5, 80) := by kernel_rfl
theorem b_69 : hasBody Tryz.prog 69 = true := by kernel_rfl
theorem b_84 : hasBody Tryz.prog 84 = true := by kernel_rfl
theorem s_40 : sliceTy Tryz.prog 40 = some (96, 3, 48) := by kernel_rfl
theorem a_96 : aggTy Tryz.prog 96 = some 3 := by kernel_rfl
theorem b_55 : hasBody Tryz.prog 55 = true := by kernel_rfl
theorem s_46 : sliceTy Tryz.prog 46 = some (88, 3, 48) := by kernel_rfl
theorem b_70 : hasBody Tryz.prog 70 = true := by kernel_rfl
theorem b_85 : hasBody Tryz.prog 85 = true := by kernel_rfl
theorem f_42_0 : fieldOff Tryz.prog 42 0 = some 0 := by kernel_rfl
theorem f_42_2 : fieldOff Tryz.prog 42 2 = some 2 := by kernel_rfl
theorem o_39 : oneTy Tryz.prog 39 = true := by kernel_rfl
theorem b_33 : hasBody Tryz.prog 33 = true := by kernel_rfl
theorem f_42_3 : fieldOff Tryz.prog 42 3 = some 3 := by kernel_rfl
theorem o_40 : oneTy Tryz.prog 40 = true := by kernel_rfl
theorem b_34 : hasBody Tryz.prog 34 = true := by kernel_rfl
theorem y_48 : zeroTy Tryz.prog 48 = some (.agg #[(.string ⟨#[]⟩), (.int .i64 0), (.slice none 0 0), (.slice none 0 0)]) := by kernel_rfl
theorem f_48_0 : fieldOff Tryz.prog 48 0 = some 0 := by kernel_rfl
theorem f_42_1 : fieldOff Tryz.prog 42 1 = some 1 := by kernel_rfl
theorem f_48_1 : fieldOff Tryz.prog 48 1 = some 1 := by kernel_rfl
theorem b_38 : hasBody Tryz.prog 38 = true := by kernel_rfl
theorem f_48_2 : fieldOff Tryz.prog 48 2 = some 2 := by kernel_rfl
theorem z_45 : sizeTy Tryz.prog 45 = some 1 := by kernel_rfl
theorem b_39 : hasBody Tryz.prog 39 = true := by kernel_rfl
theorem f_48_3 : fieldOff Tryz.prog 48 3 = some 3 := by kernel_rfl
theorem z_46 : sizeTy Tryz.prog 46 = some 1 := by kernel_rfl
theorem a_48 : aggTy Tryz.prog 48 = some 4 := by kernel_rfl
theorem z_48 : sizeTy Tryz.prog 48 = some 4 := by kernel_rfl
theorem o_45 : oneTy Tryz.prog 45 = true := by kernel_rfl
theorem b_46 : hasBody Tryz.prog 46 = true := by kernel_rfl
theorem o_46 : oneTy Tryz.prog 46 = true := by kernel_rfl
theorem b_47 : hasBody Tryz.prog 47 = true := by kernel_rfl
theorem f_72_0 : fieldOff Tryz.prog 72 0 = some 0 := by kernel_rfl
theorem a_70 : aggTy Tryz.prog 70 = some 2 := by kernel_rfl
theorem b_82 : hasBody Tryz.prog 82 = true := by kernel_rfl
theorem f_72_1 : fieldOff Tryz.prog 72 1 = some 2 := by kernel_rfl
theorem f_76_0 : fieldOff Tryz.prog 76 0 = some 0 := by kernel_rfl
theorem f_76_1 : fieldOff Tryz.prog 76 1 = some 1 := by kernel_rfl
theorem o_74 : oneTy Tryz.prog 74 = true := by kernel_rfl
theorem b_83 : hasBody Tryz.prog 83 = true := by kernel_rfl
theorem s_22 : sliceTy Tryz.prog 22 = some (42, 4, 72) := by kernel_rfl
theorem a_42 : aggTy Tryz.prog 42 = some 4 := by kernel_rfl
theorem b_13 : hasBody Tryz.prog 13 = true := by kernel_rfl
theorem s_24 : sliceTy Tryz.prog 24 = some (48, 4, 72) := by kernel_rfl
theorem b_16 : hasBody Tryz.prog 16 = true := by kernel_rfl
theorem b_22 : hasBody Tryz.prog 22 = true := by kernel_rfl
theorem s_25 : sliceTy Tryz.prog 25 = some (72, 3, 48) := by kernel_rfl
theorem a_72 : aggTy Tryz.prog 72 = some 3 := by kernel_rfl
theorem b_43 : hasBody Tryz.prog 43 = true := by kernel_rfl
theorem s_26 : sliceTy Tryz.prog 26 = some (76, 2, 40) := by kernel_rfl
theorem a_76 : aggTy Tryz.prog 76 = some 2 := by kernel_rfl
theorem b_44 : hasBody Tryz.prog 44 = true := by kernel_rfl
theorem s_27 : sliceTy Tryz.prog 27 = some (79, 4, 64) := by kernel_rfl
theorem a_79 : aggTy Tryz.prog 79 = some 4 := by kernel_rfl
theorem b_45 : hasBody Tryz.prog 45 = true := by kernel_rfl
theorem f_29_0 : fieldOff Tryz.prog 29 0 = some 0 := by kernel_rfl
theorem o_24 : oneTy Tryz.prog 24 = true := by kernel_rfl
theorem b_9 : hasBody Tryz.prog 9 = true := by kernel_rfl
theorem f_29_1 : fieldOff Tryz.prog 29 1 = some 1 := by kernel_rfl
theorem o_25 : oneTy Tryz.prog 25 = true := by kernel_rfl
theorem b_19 : hasBody Tryz.prog 19 = true := by kernel_rfl
theorem f_29_2 : fieldOff Tryz.prog 29 2 = some 2 := by kernel_rfl
theorem f_29_3 : fieldOff Tryz.prog 29 3 = some 3 := by kernel_rfl
theorem o_26 : oneTy Tryz.prog 26 = true := by kernel_rfl
theorem b_20 : hasBody Tryz.prog 20 = true := by kernel_rfl
theorem f_29_4 : fieldOff Tryz.prog 29 4 = some 4 := by kernel_rfl
theorem o_4 : oneTy Tryz.prog 4 = true := by kernel_rfl
theorem ub_4 : Tryz.prog.underlying 4 = some .bool := by kernel_rfl
theorem f_29_5 : fieldOff Tryz.prog 29 5 = some 5 := by kernel_rfl
theorem o_27 : oneTy Tryz.prog 27 = true := by kernel_rfl
theorem b_21 : hasBody Tryz.prog 21 = true := by kernel_rfl
open Go.Sy.Bel1 Go.Sy.Ev1
theorem laws_szPattern (w : World) (c_a : List Value) (a : Pattern) (left : Int) (h_a : Gd.rd w c_a a) (h0 : 0 ≤ left) (h1 : left ≤ 1048576) (ho : okPattern a) : Calls Tryz.prog 86 [(.agg c_a.toArray), (.int .i64 left)].toArray w (Val w (.int .i64 (szm (szPattern a) left))) := by
  obtain ⟨u1, rfl, hu2⟩ := open_Pattern h_a
  have hm3 := rd_max hu2
  have ho1 : a.Rel.size ≤ 9223372036854775807 := ho.1
  refine enter 19 Tryz.func86 rfl rfl rfl ?_
  refine C_seq ?_
  refine C_reg ?_
  refine li rfl (D_box rfl rfl rfl rfl rfl fun g4 => ?_)
  refine p1 rfl ?_
  refine D_end ?_
  refine x_then ?_
  refine D_H ([bx g4 [(.string a.Rel), u1]]) rfl ?_
  refine C_seq ?_
  refine C_reg ?_
  refine p1 rfl ?_
  refine q1 rfl (D_fb f_91_0 rfl rfl (q := 0) rfl) ?_
  refine q1 rfl (lb 0 o_9 rfl rfl rfl rfl) ?_
  refine q1 rfl (D_lens us_9 rfl rfl) ?_
  refine q1 rfl (D_sub rfl rfl rfl rfl (by omega)) ?_
  refine p1 rfl ?_
  refine D_end ?_
  refine x_then ?_
  refine C_seq ?_
  refine C_seq ?_
  refine C_reg ?_
  refine p1 rfl <| p1 rfl ?_
  refine D_end ?_
  refine x_then ?_
  refine C_if _ rfl (fun h5 => ?_) (fun h5 => ?_)
  · have pr5 : ((left - ((a.Rel.size : Nat) : Int)) : Int) < 0 := of_decide_eq_true h5
    refine C_seq ?_
    refine C_reg ?_
    refine p1 rfl ?_
    refine D_end ?_
    refine x_then ?_
    refine C_ret ?_
    refine x_then_ret ?_
    refine R_1 rfl rfl fun w' hs => ⟨congrArg (fun z => Ending.returned (Value.int .i64 z)) ?_, hs.bel⟩
    show ((-1) : Int) = szm (szPattern a) left
    unfold szPattern szm at *; repeat (split at * <;> try omega)
  · have pr5 : ¬ ((left - ((a.Rel.size : Nat) : Int)) : Int) < 0 := of_decide_eq_false h5
    refine C_skip ?_
    refine x_then ?_
    refine C_seq ?_
    refine C_reg ?_
    refine q1 rfl (D_fb f_91_1 rfl rfl (q := 1) rfl) ?_
    refine q1 rfl (lb 0 o_68 rfl rfl rfl rfl) ?_
    refine p1 rfl ?_
    refine li rfl (cv b_107 rfl rfl rfl rfl (fun w' hs => (laws_szStringS w' u1 a.Args (left - ((a.Rel.size : Nat) : Int)) (rd_at hs hu2) (by first | assumption | omega | (unfold szm at *; split at * <;> omega)) (by first | assumption | omega | (unfold szm at *; split at * <;> omega)) ho.2)) ?_)
    refine p1 rfl ?_
    refine D_end ?_
    refine x_then ?_
    refine C_seq ?_
    refine C_seq ?_
    refine C_reg ?_
    refine p1 rfl <| p1 rfl ?_
    refine D_end ?_
    refine x_then ?_
    refine D_weak [(1, (.int .i64 (szm (szSs a.Args) (left - ((a.Rel.size : Nat) : Int))))), (17, (.bool (decide (((szm (szSs a.Args) (left - ((a.Rel.size : Nat) : Int))) : Int) < 0))))] ⟨rfl, rfl, trivial⟩ ?_
    refine D_sel (H' := []) [false] rfl ?_
    refine C_if _ rfl (fun h6 => ?_) (fun h6 => ?_)
    · have pr6 : ((szm (szSs a.Args) (left - ((a.Rel.size : Nat) : Int))) : Int) < 0 := of_decide_eq_true h6
      refine C_seq ?_
      refine C_reg ?_
      refine p1 rfl ?_
      refine D_end ?_
      refine x_then ?_
      refine C_ret ?_
      refine x_then_ret ?_
      refine R_1 rfl rfl fun w' hs => ⟨congrArg (fun z => Ending.returned (Value.int .i64 z)) ?_, hs.bel⟩
      show ((-1) : Int) = szm (szPattern a) left
      unfold szPattern szm at *; repeat (split at * <;> try omega)
    · have pr6 : ¬ ((szm (szSs a.Args) (left - ((a.Rel.size : Nat) : Int))) : Int) < 0 := of_decide_eq_false h6
      have pr6z := szm_val (n := (szSs a.Args)) (left := (left - ((a.Rel.size : Nat) : Int))) pr6
      refine C_skip ?_
      refine x_then ?_
      refine C_seq ?_
      refine C_reg ?_
      refine p1 rfl <| p1 rfl ?_
      refine D_end ?_
      refine x_then ?_
      refine C_ret ?_
      refine R_1 rfl rfl fun w' hs => ⟨congrArg (fun z => Ending.returned (Value.int .i64 z)) ?_, hs.bel⟩
      show ((szm (szSs a.Args) (left - ((a.Rel.size : Nat) : Int))) : Int) = szm (szPattern a) left
      unfold szPattern szm at *; repeat (split at * <;> try omega)

theorem laws_toPattern (w : World) (c_a : List Value) (a : Pattern) (h_a : Gd.rd w c_a a) (hn : szPattern a ≤ 1048576) : Calls Tryz.prog 94 [(.agg c_a.toArray)].toArray w (Res w (a : Pattern)) := by
  obtain ⟨u1, rfl, hu2⟩ := open_Pattern h_a
  have hm3 := rd_max hu2
  unfold szPattern at hn
  unfold szSs at hn
  refine enter 12 Tryz.func94 rfl rfl rfl ?_
  refine C_seq ?_
  refine C_reg ?_
  refine li rfl (D_box rfl rfl rfl rfl rfl fun g4 => ?_)
  refine li rfl (D_alloc y_83 rfl rfl rfl rfl fun g5 => ?_)
  refine D_end ?_
  refine x_then ?_
  refine D_H ([bx g5 [(.string ⟨#[]⟩), (.slice none 0 0)], bx g4 [(.string a.Rel), u1]]) rfl ?_
  refine C_seq ?_
  refine C_reg ?_
  refine li rfl (D_alloc y_83 rfl rfl rfl rfl fun g6 => ?_)
  refine D_end ?_
  refine x_then ?_
  refine D_H ([bx g6 [(.string ⟨#[]⟩), (.slice none 0 0)], bx g5 [(.string ⟨#[]⟩), (.slice none 0 0)], bx g4 [(.string a.Rel), u1]]) rfl ?_
  refine C_seq ?_
  refine C_reg ?_
  refine q1 rfl (D_fb f_91_0 rfl rfl (q := 0) rfl) ?_
  refine q1 rfl (lb 2 o_9 rfl rfl rfl rfl) ?_
  refine q1 rfl (D_fb f_83_0 rfl rfl (q := 0) rfl) ?_
  refine li rfl (D_stb (vs := [(.string a.Rel)]) (cs' := [(.string a.Rel), (.slice none 0 0)]) 0 z_9 rfl rfl rfl rfl rfl rfl (ocons rfl onil) (by simp) rfl ?_)
  refine D_end ?_
  refine x_then ?_
  refine D_H ([bx g6 [(.string a.Rel), (.slice none 0 0)], bx g5 [(.string ⟨#[]⟩), (.slice none 0 0)], bx g4 [(.string a.Rel), u1]]) rfl ?_
  refine C_seq ?_
  refine C_reg ?_
  refine q1 rfl (D_fb f_91_1 rfl rfl (q := 1) rfl) ?_
  refine q1 rfl (lb 2 o_68 rfl rfl rfl rfl) ?_
  refine li rfl (crl b_109 rfl rfl rfl rfl (fun w' hs => (laws_toStringS w' u1 a.Args (rd_at hs hu2) (by first | assumption | omega | (unfold szm at *; split at * <;> omega)))) fun v7 => ?_)
  refine q1 rfl (D_fb f_83_1 rfl rfl (q := 1) rfl) ?_
  refine D_pre (fun w' hs => one_own (k := 0) hs rfl) ?_
  intro ho8
  refine li rfl (D_stb (vs := [v7]) (cs' := [(.string a.Rel), v7]) 1 z_68 rfl rfl rfl rfl rfl (cells_of_one ho8) (ocons ho8 onil) (by simp) rfl ?_)
  refine D_end ?_
  refine x_then ?_
  refine D_H ([ov [v7] (a.Args : (List ByteArray)), bx g6 [(.string a.Rel), v7], bx g5 [(.string ⟨#[]⟩), (.slice none 0 0)], bx g4 [(.string a.Rel), u1]]) rfl ?_
  refine C_seq ?_
  refine C_reg ?_
  refine q1 rfl (lbw 1 a_83 rfl rfl rfl) ?_
  refine li rfl (D_stb (vs := [(.string a.Rel), v7]) (cs' := [(.string a.Rel), v7]) 2 z_83 rfl rfl rfl rfl rfl rfl (ocons rfl (ocons ho8 onil)) (by simp) rfl ?_)
  refine D_end ?_
  refine x_then ?_
  refine D_H ([ov [v7] (a.Args : (List ByteArray)), bx g6 [(.string a.Rel), v7], bx g5 [(.string a.Rel), v7], bx g4 [(.string a.Rel), u1]]) rfl ?_
  refine C_ret ?_
  refine pk_Pattern (r := (⟨a.Rel, a.Args⟩ : Pattern)) ?_
  refine R_c 2 a_83 rfl rfl rfl fun w' hs => res_of (k := 0) hs rfl ?_
  show (⟨a.Rel, a.Args⟩ : Pattern) = a
  rfl

theorem laws_eqPattern (w : World) (c_a : List Value) (a : Pattern) (c_b : List Value) (b : Pattern) (h_a : Gd.rd w c_a a) (h_b : Gd.rd w c_b b) : Calls Tryz.prog 106 [(.agg c_a.toArray), (.agg c_b.toArray)].toArray w (Val w (.bool (decide (a = b)))) := by
  obtain ⟨u1, rfl, hu2⟩ := open_Pattern h_a
  have hm3 := rd_max hu2
  obtain ⟨u4, rfl, hu5⟩ := open_Pattern h_b
  have hm6 := rd_max hu5
  refine enter 16 Tryz.func106 rfl rfl rfl ?_
  refine C_seq ?_
  refine C_reg ?_
  refine li rfl (D_box rfl rfl rfl rfl rfl fun g7 => ?_)
  refine li rfl (D_box rfl rfl rfl rfl rfl fun g8 => ?_)
  refine p1 rfl ?_
  refine D_end ?_
  refine x_then ?_
  refine D_H ([bx g8 [(.string b.Rel), u4], bx g7 [(.string a.Rel), u1]]) rfl ?_
  refine C_seq ?_
  refine C_seq ?_
  refine C_reg ?_
  refine q1 rfl (D_fb f_83_0 rfl rfl (q := 0) rfl) ?_
  refine q1 rfl (lb 1 o_9 rfl rfl rfl rfl) ?_
  refine q1 rfl (D_fb f_83_0 rfl rfl (q := 0) rfl) ?_
  refine q1 rfl (lb 0 o_9 rfl rfl rfl rfl) ?_
  refine q1 rfl (D_neS rfl rfl rfl) ?_
  refine D_end ?_
  refine x_then ?_
  refine C_if _ rfl (fun h9 => ?_) (fun h9 => ?_)
  · have pr9 : ¬ (a.Rel : ByteArray) = b.Rel := of_decide_eq_false (not_t h9)
    refine C_seq ?_
    refine C_reg ?_
    refine p1 rfl ?_
    refine D_end ?_
    refine x_then ?_
    refine C_ret ?_
    refine x_then_ret ?_
    refine R_1 rfl rfl fun w' hs => ⟨congrArg (fun z => Ending.returned (Value.bool z)) ?_, hs.bel⟩
    show (false : Bool) = decide (a = b)
    cases a; cases b; simp_all
  · have pr9 : (a.Rel : ByteArray) = b.Rel := of_decide_eq_true (not_f h9)
    refine C_skip ?_
    refine x_then ?_
    refine C_seq ?_
    refine C_seq ?_
    refine C_reg ?_
    refine q1 rfl (D_fb f_83_1 rfl rfl (q := 1) rfl) ?_
    refine q1 rfl (lb 1 o_68 rfl rfl rfl rfl) ?_
    refine q1 rfl (D_fb f_83_1 rfl rfl (q := 1) rfl) ?_
    refine q1 rfl (lb 0 o_68 rfl rfl rfl rfl) ?_
    refine li rfl (cv b_105 rfl rfl rfl rfl (fun w' hs => (laws_eqStringS w' u1 a.Args u4 b.Args (rd_at hs hu2) (rd_at hs hu5))) ?_)
    refine p1 rfl ?_
    refine D_end ?_
    refine x_then ?_
    refine D_weak [(15, (.bool (!(decide (a.Args = b.Args)))))] ⟨rfl, trivial⟩ ?_
    refine D_sel (H' := []) [false, false] rfl ?_
    refine C_if _ rfl (fun h10 => ?_) (fun h10 => ?_)
    · have h10n : (decide (a.Args = b.Args)) = false := not_t h10
      refine C_seq ?_
      refine C_reg ?_
      refine p1 rfl ?_
      refine D_end ?_
      refine x_then ?_
      refine C_ret ?_
      refine x_then_ret ?_
      refine R_1 rfl rfl fun w' hs => ⟨congrArg (fun z => Ending.returned (Value.bool z)) ?_, hs.bel⟩
      show (false : Bool) = decide (a = b)
      cases a; cases b; simp_all
    · have h10n : (decide (a.Args = b.Args)) = true := not_f h10
      refine C_skip ?_
      refine x_then ?_
      refine C_seq ?_
      refine C_reg ?_
      refine p1 rfl ?_
      refine D_end ?_
      refine x_then ?_
      refine C_ret ?_
      refine R_1 rfl rfl fun w' hs => ⟨congrArg (fun z => Ending.returned (Value.bool z)) ?_, hs.bel⟩
      show (true : Bool) = decide (a = b)
      cases a; cases b; simp_all

theorem laws_szCond (w : World) (c_a : List Value) (a : Cond) (left : Int) (h_a : Gd.rd w c_a a) (h0 : 0 ≤ left) (h1 : left ≤ 1048576) (ho : okCond a) : Calls Tryz.prog 54 [(.agg c_a.toArray), (.int .i64 left)].toArray w (Val w (.int .i64 (szm (szCond a) left))) := by
  obtain ⟨u1, rfl, hu2⟩ := open_Cond h_a
  have hm3 := rd_max hu2
  have hb4 := sub_Cond_Pattern h_a
  have ho1 : a.Left.size ≤ 9223372036854775807 := ho.2.2.1
  have ho2 : a.Right.size ≤ 9223372036854775807 := ho.2.2.2
  refine enter 26 Tryz.func54 rfl rfl rfl ?_
  refine C_seq ?_
  refine C_reg ?_
  refine li rfl (D_box rfl rfl rfl rfl rfl fun g5 => ?_)
  refine p1 rfl ?_
  refine D_end ?_
  refine x_then ?_
  refine D_H ([bx g5 [(.int .i64 a.Kind), (.string a.Pattern.Rel), u1, (.string a.Left), (.string a.Right)]]) rfl ?_
  refine C_seq ?_
  refine C_reg ?_
  refine q1 rfl (D_fb f_93_1 rfl rfl (q := 1) rfl) ?_
  refine q1 rfl (lba (es := [(.string a.Pattern.Rel), u1]) 0 a_91 rfl rfl rfl rfl) ?_
  refine p1 rfl ?_
  refine li rfl (cv b_86 rfl rfl rfl rfl (fun w' hs => (laws_szPattern w' [(.string a.Pattern.Rel), u1] a.Pattern left (rd_at hs hb4) (by first | assumption | omega | (unfold szm at *; split at * <;> omega)) (by first | assumption | omega | (unfold szm at *; split at * <;> omega)) ho.2.1)) ?_)
  refine p1 rfl ?_
  refine D_end ?_
  refine x_then ?_
  refine C_seq ?_
  refine C_seq ?_
  refine C_reg ?_
  refine p1 rfl <| p1 rfl ?_
  refine D_end ?_
  refine x_then ?_
  refine C_if _ rfl (fun h6 => ?_) (fun h6 => ?_)
  · have pr6 : ((szm (szPattern a.Pattern) left) : Int) < 0 := of_decide_eq_true h6
    refine C_seq ?_
    refine C_reg ?_
    refine p1 rfl ?_
    refine D_end ?_
    refine x_then ?_
    refine C_ret ?_
    refine x_then_ret ?_
    refine R_1 rfl rfl fun w' hs => ⟨congrArg (fun z => Ending.returned (Value.int .i64 z)) ?_, hs.bel⟩
    show ((-1) : Int) = szm (szCond a) left
    unfold szCond szm at *; repeat (split at * <;> try omega)
  · have pr6 : ¬ ((szm (szPattern a.Pattern) left) : Int) < 0 := of_decide_eq_false h6
    have pr6z := szm_val (n := (szPattern a.Pattern)) (left := left) pr6
    refine C_skip ?_
    refine x_then ?_
    refine C_seq ?_
    refine C_reg ?_
    refine p1 rfl ?_
    refine q1 rfl (D_fb f_93_2 rfl rfl (q := 3) rfl) ?_
    refine q1 rfl (lb 0 o_9 rfl rfl rfl rfl) ?_
    refine q1 rfl (D_lens us_9 rfl rfl) ?_
    refine q1 rfl (D_sub rfl rfl rfl rfl (by omega)) ?_
    refine p1 rfl ?_
    refine D_end ?_
    refine x_then ?_
    refine C_seq ?_
    refine C_seq ?_
    refine C_reg ?_
    refine p1 rfl <| p1 rfl ?_
    refine D_end ?_
    refine x_then ?_
    refine C_if _ rfl (fun h7 => ?_) (fun h7 => ?_)
    · have pr7 : (((szm (szPattern a.Pattern) left) - ((a.Left.size : Nat) : Int)) : Int) < 0 := of_decide_eq_true h7
      refine C_seq ?_
      refine C_reg ?_
      refine p1 rfl ?_
      refine D_end ?_
      refine x_then ?_
      refine D_weak [(4, (.int .i64 (-1)))] ⟨rfl, trivial⟩ ?_
      refine D_sel (H' := []) [false] rfl ?_
      refine C_ret ?_
      refine x_then_ret ?_
      refine R_1 rfl rfl fun w' hs => ⟨congrArg (fun z => Ending.returned (Value.int .i64 z)) ?_, hs.bel⟩
      show ((-1) : Int) = szm (szCond a) left
      unfold szCond szm at *; repeat (split at * <;> try omega)
    · have pr7 : ¬ (((szm (szPattern a.Pattern) left) - ((a.Left.size : Nat) : Int)) : Int) < 0 := of_decide_eq_false h7
      refine C_skip ?_
      refine x_then ?_
      refine D_weak [(1, (.int .i64 ((szm (szPattern a.Pattern) left) - ((a.Left.size : Nat) : Int)))), (2, (.pointer (some ⟨g5, 0, none⟩)))] ⟨rfl, rfl, trivial⟩ ?_
      refine C_seq ?_
      refine C_reg ?_
      refine p1 rfl ?_
      refine q1 rfl (D_fb f_93_3 rfl rfl (q := 4) rfl) ?_
      refine q1 rfl (lb 0 o_9 rfl rfl rfl rfl) ?_
      refine q1 rfl (D_lens us_9 rfl rfl) ?_
      refine q1 rfl (D_sub rfl rfl rfl rfl (by omega)) ?_
      refine p1 rfl ?_
      refine D_end ?_
      refine x_then ?_
      refine C_seq ?_
      refine C_seq ?_
      refine C_reg ?_
      refine p1 rfl <| p1 rfl ?_
      refine D_end ?_
      refine x_then ?_
      refine C_if _ rfl (fun h8 => ?_) (fun h8 => ?_)
      · have pr8 : ((((szm (szPattern a.Pattern) left) - ((a.Left.size : Nat) : Int)) - ((a.Right.size : Nat) : Int)) : Int) < 0 := of_decide_eq_true h8
        refine C_seq ?_
        refine C_reg ?_
        refine p1 rfl ?_
        refine D_end ?_
        refine x_then ?_
        refine C_ret ?_
        refine x_then_ret ?_
        refine R_1 rfl rfl fun w' hs => ⟨congrArg (fun z => Ending.returned (Value.int .i64 z)) ?_, hs.bel⟩
        show ((-1) : Int) = szm (szCond a) left
        unfold szCond szm at *; repeat (split at * <;> try omega)
      · have pr8 : ¬ ((((szm (szPattern a.Pattern) left) - ((a.Left.size : Nat) : Int)) - ((a.Right.size : Nat) : Int)) : Int) < 0 := of_decide_eq_false h8
        refine C_skip ?_
        refine x_then ?_
        refine C_seq ?_
        refine C_reg ?_
        refine p1 rfl <| p1 rfl ?_
        refine D_end ?_
        refine x_then ?_
        refine C_ret ?_
        refine R_1 rfl rfl fun w' hs => ⟨congrArg (fun z => Ending.returned (Value.int .i64 z)) ?_, hs.bel⟩
        show ((((szm (szPattern a.Pattern) left) - ((a.Left.size : Nat) : Int)) - ((a.Right.size : Nat) : Int)) : Int) = szm (szCond a) left
        unfold szCond szm at *; repeat (split at * <;> try omega)

theorem laws_toCond (w : World) (c_a : List Value) (a : Cond) (h_a : Gd.rd w c_a a) (hn : szCond a ≤ 1048576) : Calls Tryz.prog 69 [(.agg c_a.toArray)].toArray w (Res w (a : Cond)) := by
  obtain ⟨u1, rfl, hu2⟩ := open_Cond h_a
  have hm3 := rd_max hu2
  have hb4 := sub_Cond_Pattern h_a
  unfold szCond at hn
  refine enter 18 Tryz.func69 rfl rfl rfl ?_
  refine C_seq ?_
  refine C_reg ?_
  refine li rfl (D_box rfl rfl rfl rfl rfl fun g5 => ?_)
  refine li rfl (D_alloc y_85 rfl rfl rfl rfl fun g6 => ?_)
  refine D_end ?_
  refine x_then ?_
  refine D_H ([bx g6 [(.int .i64 0), (.string ⟨#[]⟩), (.slice none 0 0), (.string ⟨#[]⟩), (.string ⟨#[]⟩)], bx g5 [(.int .i64 a.Kind), (.string a.Pattern.Rel), u1, (.string a.Left), (.string a.Right)]]) rfl ?_
  refine C_seq ?_
  refine C_reg ?_
  refine li rfl (D_alloc y_85 rfl rfl rfl rfl fun g7 => ?_)
  refine D_end ?_
  refine x_then ?_
  refine D_H ([bx g7 [(.int .i64 0), (.string ⟨#[]⟩), (.slice none 0 0), (.string ⟨#[]⟩), (.string ⟨#[]⟩)], bx g6 [(.int .i64 0), (.string ⟨#[]⟩), (.slice none 0 0), (.string ⟨#[]⟩), (.string ⟨#[]⟩)], bx g5 [(.int .i64 a.Kind), (.string a.Pattern.Rel), u1, (.string a.Left), (.string a.Right)]]) rfl ?_
  refine C_seq ?_
  refine C_reg ?_
  refine q1 rfl (D_fb f_93_0 rfl rfl (q := 0) rfl) ?_
  refine q1 rfl (lb 2 o_3 rfl rfl rfl rfl) ?_
  refine q1 rfl (D_fb f_85_0 rfl rfl (q := 0) rfl) ?_
  refine li rfl (D_stb (vs := [(.int .i64 a.Kind)]) (cs' := [(.int .i64 a.Kind), (.string ⟨#[]⟩), (.slice none 0 0), (.string ⟨#[]⟩), (.string ⟨#[]⟩)]) 0 z_3 rfl rfl rfl rfl rfl rfl (ocons rfl onil) (by simp) rfl ?_)
  refine D_end ?_
  refine x_then ?_
  refine D_H ([bx g7 [(.int .i64 a.Kind), (.string ⟨#[]⟩), (.slice none 0 0), (.string ⟨#[]⟩), (.string ⟨#[]⟩)], bx g6 [(.int .i64 0), (.string ⟨#[]⟩), (.slice none 0 0), (.string ⟨#[]⟩), (.string ⟨#[]⟩)], bx g5 [(.int .i64 a.Kind), (.string a.Pattern.Rel), u1, (.string a.Left), (.string a.Right)]]) rfl ?_
  refine C_seq ?_
  refine C_reg ?_
  refine q1 rfl (D_fb f_93_1 rfl rfl (q := 1) rfl) ?_
  refine q1 rfl (lba (es := [(.string a.Pattern.Rel), u1]) 2 a_91 rfl rfl rfl rfl) ?_
  refine li rfl (crs rfl b_94 rfl rfl rfl rfl (fun w' hs => (laws_toPattern w' [(.string a.Pattern.Rel), u1] a.Pattern (rd_at hs hb4) (by first | assumption | omega | (unfold szm at *; split at * <;> omega)))) fun cs8 => ?_)
  refine D_pre (fun w' hs => shape_Pattern (rd_own (k := 0) hs rfl)) ?_
  rintro ⟨v9, rfl, ho10⟩
  refine q1 rfl (D_fb f_85_1 rfl rfl (q := 1) rfl) ?_
  refine li rfl (D_stb (vs := [(.string a.Pattern.Rel), v9]) (cs' := [(.int .i64 a.Kind), (.string a.Pattern.Rel), v9, (.string ⟨#[]⟩), (.string ⟨#[]⟩)]) 1 z_83 rfl rfl rfl rfl rfl rfl (ocons rfl (ocons ho10 onil)) (by simp) rfl ?_)
  refine D_end ?_
  refine x_then ?_
  refine D_H ([ov [(.string a.Pattern.Rel), v9] (a.Pattern : Pattern), bx g7 [(.int .i64 a.Kind), (.string a.Pattern.Rel), v9, (.string ⟨#[]⟩), (.string ⟨#[]⟩)], bx g6 [(.int .i64 0), (.string ⟨#[]⟩), (.slice none 0 0), (.string ⟨#[]⟩), (.string ⟨#[]⟩)], bx g5 [(.int .i64 a.Kind), (.string a.Pattern.Rel), u1, (.string a.Left), (.string a.Right)]]) rfl ?_
  refine C_seq ?_
  refine C_reg ?_
  refine q1 rfl (D_fb f_93_2 rfl rfl (q := 3) rfl) ?_
  refine q1 rfl (lb 3 o_9 rfl rfl rfl rfl) ?_
  refine q1 rfl (D_fb f_85_2 rfl rfl (q := 3) rfl) ?_
  refine li rfl (D_stb (vs := [(.string a.Left)]) (cs' := [(.int .i64 a.Kind), (.string a.Pattern.Rel), v9, (.string a.Left), (.string ⟨#[]⟩)]) 1 z_9 rfl rfl rfl rfl rfl rfl (ocons rfl onil) (by simp) rfl ?_)
  refine D_end ?_
  refine x_then ?_
  refine D_H ([ov [(.string a.Pattern.Rel), v9] (a.Pattern : Pattern), bx g7 [(.int .i64 a.Kind), (.string a.Pattern.Rel), v9, (.string a.Left), (.string ⟨#[]⟩)], bx g6 [(.int .i64 0), (.string ⟨#[]⟩), (.slice none 0 0), (.string ⟨#[]⟩), (.string ⟨#[]⟩)], bx g5 [(.int .i64 a.Kind), (.string a.Pattern.Rel), u1, (.string a.Left), (.string a.Right)]]) rfl ?_
  refine C_seq ?_
  refine C_reg ?_
  refine q1 rfl (D_fb f_93_3 rfl rfl (q := 4) rfl) ?_
  refine q1 rfl (lb 3 o_9 rfl rfl rfl rfl) ?_
  refine q1 rfl (D_fb f_85_3 rfl rfl (q := 4) rfl) ?_
  refine li rfl (D_stb (vs := [(.string a.Right)]) (cs' := [(.int .i64 a.Kind), (.string a.Pattern.Rel), v9, (.string a.Left), (.string a.Right)]) 1 z_9 rfl rfl rfl rfl rfl rfl (ocons rfl onil) (by simp) rfl ?_)
  refine D_end ?_
  refine x_then ?_
  refine D_weak [(2, (.pointer (some ⟨g6, 0, none⟩))), (3, (.pointer (some ⟨g7, 0, none⟩)))] ⟨rfl, rfl, trivial⟩ ?_
  refine D_sel (H' := [ov [(.string a.Pattern.Rel), v9] (a.Pattern : Pattern), bx g7 [(.int .i64 a.Kind), (.string a.Pattern.Rel), v9, (.string a.Left), (.string a.Right)], bx g6 [(.int .i64 0), (.string ⟨#[]⟩), (.slice none 0 0), (.string ⟨#[]⟩), (.string ⟨#[]⟩)]]) [true, true, true, false] rfl ?_
  refine C_seq ?_
  refine C_reg ?_
  refine q1 rfl (lbw 1 a_85 rfl rfl rfl) ?_
  refine li rfl (D_stb (vs := [(.int .i64 a.Kind), (.string a.Pattern.Rel), v9, (.string a.Left), (.string a.Right)]) (cs' := [(.int .i64 a.Kind), (.string a.Pattern.Rel), v9, (.string a.Left), (.string a.Right)]) 2 z_85 rfl rfl rfl rfl rfl rfl (ocons rfl (ocons rfl (ocons ho10 (ocons rfl (ocons rfl onil))))) (by simp) rfl ?_)
  refine D_end ?_
  refine x_then ?_
  refine D_H ([ov [(.string a.Pattern.Rel), v9] (a.Pattern : Pattern), bx g7 [(.int .i64 a.Kind), (.string a.Pattern.Rel), v9, (.string a.Left), (.string a.Right)], bx g6 [(.int .i64 a.Kind), (.string a.Pattern.Rel), v9, (.string a.Left), (.string a.Right)]]) rfl ?_
  refine C_ret ?_
  refine D_unpair (α := ByteArray) (β := (List ByteArray)) (c1 := [(.string a.Pattern.Rel)]) (c2 := [v9]) (x := a.Pattern.Rel) (y := (a.Pattern.Args)) rfl rfl ?_
  refine D_fd [] 1 rfl ?_
  refine pk_Cond (r := (⟨a.Kind, ⟨a.Pattern.Rel, a.Pattern.Args⟩, a.Left, a.Right⟩ : Cond)) ?_
  refine R_c 2 a_85 rfl rfl rfl fun w' hs => res_of (k := 0) hs rfl ?_
  show (⟨a.Kind, ⟨a.Pattern.Rel, a.Pattern.Args⟩, a.Left, a.Right⟩ : Cond) = a
  rfl

theorem laws_eqCond (w : World) (c_a : List Value) (a : Cond) (c_b : List Value) (b : Cond) (h_a : Gd.rd w c_a a) (h_b : Gd.rd w c_b b) : Calls Tryz.prog 84 [(.agg c_a.toArray), (.agg c_b.toArray)].toArray w (Val w (.bool (decide (a = b)))) := by
  obtain ⟨u1, rfl, hu2⟩ := open_Cond h_a
  have hm3 := rd_max hu2
  have hb4 := sub_Cond_Pattern h_a
  obtain ⟨u5, rfl, hu6⟩ := open_Cond h_b
  have hm7 := rd_max hu6
  have hb8 := sub_Cond_Pattern h_b
  refine enter 26 Tryz.func84 rfl rfl rfl ?_
  refine C_seq ?_
  refine C_reg ?_
  refine li rfl (D_box rfl rfl rfl rfl rfl fun g9 => ?_)
  refine li rfl (D_box rfl rfl rfl rfl rfl fun g10 => ?_)
  refine p1 rfl ?_
  refine D_end ?_
  refine x_then ?_
  refine D_H ([bx g10 [(.int .i64 b.Kind), (.string b.Pattern.Rel), u5, (.string b.Left), (.string b.Right)], bx g9 [(.int .i64 a.Kind), (.string a.Pattern.Rel), u1, (.string a.Left), (.string a.Right)]]) rfl ?_
  refine C_seq ?_
  refine C_seq ?_
  refine C_reg ?_
  refine q1 rfl (D_fb f_85_0 rfl rfl (q := 0) rfl) ?_
  refine q1 rfl (lb 1 o_3 rfl rfl rfl rfl) ?_
  refine q1 rfl (D_fb f_85_0 rfl rfl (q := 0) rfl) ?_
  refine q1 rfl (lb 0 o_3 rfl rfl rfl rfl) ?_
  refine p1 rfl ?_
  refine D_end ?_
  refine x_then ?_
  refine C_if _ rfl (fun h11 => ?_) (fun h11 => ?_)
  · have pr11 : (a.Kind : Int) ≠ b.Kind := bne_iff_ne.1 h11
    refine C_seq ?_
    refine C_reg ?_
    refine p1 rfl ?_
    refine D_end ?_
    refine x_then ?_
    refine C_ret ?_
    refine x_then_ret ?_
    refine R_1 rfl rfl fun w' hs => ⟨congrArg (fun z => Ending.returned (Value.bool z)) ?_, hs.bel⟩
    show (false : Bool) = decide (a = b)
    cases a; cases b; simp_all
  · have pr11 : (a.Kind : Int) = b.Kind := eq_of_bne_f h11
    refine C_skip ?_
    refine x_then ?_
    refine C_seq ?_
    refine C_seq ?_
    refine C_reg ?_
    refine q1 rfl (D_fb f_85_1 rfl rfl (q := 1) rfl) ?_
    refine q1 rfl (lba (es := [(.string a.Pattern.Rel), u1]) 1 a_83 rfl rfl rfl rfl) ?_
    refine q1 rfl (D_fb f_85_1 rfl rfl (q := 1) rfl) ?_
    refine q1 rfl (lba (es := [(.string b.Pattern.Rel), u5]) 0 a_83 rfl rfl rfl rfl) ?_
    refine li rfl (cv b_106 rfl rfl rfl rfl (fun w' hs => (laws_eqPattern w' [(.string a.Pattern.Rel), u1] a.Pattern [(.string b.Pattern.Rel), u5] b.Pattern (rd_at hs hb4) (rd_at hs hb8))) ?_)
    refine p1 rfl ?_
    refine D_end ?_
    refine x_then ?_
    refine C_if _ rfl (fun h12 => ?_) (fun h12 => ?_)
    · have h12n : (decide (a.Pattern = b.Pattern)) = false := not_t h12
      refine C_seq ?_
      refine C_reg ?_
      refine p1 rfl ?_
      refine D_end ?_
      refine x_then ?_
      refine D_weak [(4, (.bool false))] ⟨rfl, trivial⟩ ?_
      refine D_sel (H' := []) [false, false] rfl ?_
      refine C_ret ?_
      refine x_then_ret ?_
      refine R_1 rfl rfl fun w' hs => ⟨congrArg (fun z => Ending.returned (Value.bool z)) ?_, hs.bel⟩
      show (false : Bool) = decide (a = b)
      cases a; cases b; simp_all
    · have h12n : (decide (a.Pattern = b.Pattern)) = true := not_f h12
      refine C_skip ?_
      refine x_then ?_
      refine C_seq ?_
      refine C_seq ?_
      refine C_reg ?_
      refine q1 rfl (D_fb f_85_2 rfl rfl (q := 3) rfl) ?_
      refine q1 rfl (lb 1 o_9 rfl rfl rfl rfl) ?_
      refine q1 rfl (D_fb f_85_2 rfl rfl (q := 3) rfl) ?_
      refine q1 rfl (lb 0 o_9 rfl rfl rfl rfl) ?_
      refine q1 rfl (D_neS rfl rfl rfl) ?_
      refine D_end ?_
      refine x_then ?_
      refine D_weak [(2, (.pointer (some ⟨g9, 0, none⟩))), (3, (.pointer (some ⟨g10, 0, none⟩))), (20, (.bool (!(decide ((a.Left : ByteArray) = b.Left)))))] ⟨rfl, rfl, rfl, trivial⟩ ?_
      refine C_if _ rfl (fun h13 => ?_) (fun h13 => ?_)
      · have pr13 : ¬ (a.Left : ByteArray) = b.Left := of_decide_eq_false (not_t h13)
        refine C_seq ?_
        refine C_reg ?_
        refine p1 rfl ?_
        refine D_end ?_
        refine x_then ?_
        refine C_ret ?_
        refine x_then_ret ?_
        refine R_1 rfl rfl fun w' hs => ⟨congrArg (fun z => Ending.returned (Value.bool z)) ?_, hs.bel⟩
        show (false : Bool) = decide (a = b)
        cases a; cases b; simp_all
      · have pr13 : (a.Left : ByteArray) = b.Left := of_decide_eq_true (not_f h13)
        refine C_skip ?_
        refine x_then ?_
        refine C_seq ?_
        refine C_seq ?_
        refine C_reg ?_
        refine q1 rfl (D_fb f_85_3 rfl rfl (q := 4) rfl) ?_
        refine q1 rfl (lb 1 o_9 rfl rfl rfl rfl) ?_
        refine q1 rfl (D_fb f_85_3 rfl rfl (q := 4) rfl) ?_
        refine q1 rfl (lb 0 o_9 rfl rfl rfl rfl) ?_
        refine q1 rfl (D_neS rfl rfl rfl) ?_
        refine D_end ?_
        refine x_then ?_
        refine C_if _ rfl (fun h14 => ?_) (fun h14 => ?_)
        · have pr14 : ¬ (a.Right : ByteArray) = b.Right := of_decide_eq_false (not_t h14)
          refine C_seq ?_
          refine C_reg ?_
          refine p1 rfl ?_
          refine D_end ?_
          refine x_then ?_
          refine C_ret ?_
          refine x_then_ret ?_
          refine R_1 rfl rfl fun w' hs => ⟨congrArg (fun z => Ending.returned (Value.bool z)) ?_, hs.bel⟩
          show (false : Bool) = decide (a = b)
          cases a; cases b; simp_all
        · have pr14 : (a.Right : ByteArray) = b.Right := of_decide_eq_true (not_f h14)
          refine C_skip ?_
          refine x_then ?_
          refine C_seq ?_
          refine C_reg ?_
          refine p1 rfl ?_
          refine D_end ?_
          refine x_then ?_
          refine C_ret ?_
          refine R_1 rfl rfl fun w' hs => ⟨congrArg (fun z => Ending.returned (Value.bool z)) ?_, hs.bel⟩
          show (true : Bool) = decide (a = b)
          cases a; cases b; simp_all

theorem laws_szAction (w : World) (c_a : List Value) (a : Action) (left : Int) (h_a : Gd.rd w c_a a) (h0 : 0 ≤ left) (h1 : left ≤ 1048576) (ho : okAction a) : Calls Tryz.prog 55 [(.agg c_a.toArray), (.int .i64 left)].toArray w (Val w (.int .i64 (szm (szAction a) left))) := by
  obtain ⟨u1, rfl, hu2⟩ := open_Action h_a
  have hm3 := rd_max hu2
  have hb4 := sub_Action_Pattern h_a
  refine enter 12 Tryz.func55 rfl rfl rfl ?_
  refine C_seq ?_
  refine C_reg ?_
  refine li rfl (D_box rfl rfl rfl rfl rfl fun g5 => ?_)
  refine p1 rfl ?_
  refine D_end ?_
  refine x_then ?_
  refine D_H ([bx g5 [(.int .i64 a.Kind), (.string a.Pattern.Rel), u1]]) rfl ?_
  refine C_seq ?_
  refine C_reg ?_
  refine q1 rfl (D_fb f_96_1 rfl rfl (q := 1) rfl) ?_
  refine q1 rfl (lba (es := [(.string a.Pattern.Rel), u1]) 0 a_91 rfl rfl rfl rfl) ?_
  refine p1 rfl ?_
  refine li rfl (cv b_86 rfl rfl rfl rfl (fun w' hs => (laws_szPattern w' [(.string a.Pattern.Rel), u1] a.Pattern left (rd_at hs hb4) (by first | assumption | omega | (unfold szm at *; split at * <;> omega)) (by first | assumption | omega | (unfold szm at *; split at * <;> omega)) ho.2)) ?_)
  refine p1 rfl ?_
  refine D_end ?_
  refine x_then ?_
  refine C_seq ?_
  refine C_seq ?_
  refine C_reg ?_
  refine p1 rfl <| p1 rfl ?_
  refine D_end ?_
  refine x_then ?_
  refine C_if _ rfl (fun h6 => ?_) (fun h6 => ?_)
  · have pr6 : ((szm (szPattern a.Pattern) left) : Int) < 0 := of_decide_eq_true h6
    refine C_seq ?_
    refine C_reg ?_
    refine p1 rfl ?_
    refine D_end ?_
    refine x_then ?_
    refine C_ret ?_
    refine x_then_ret ?_
    refine R_1 rfl rfl fun w' hs => ⟨congrArg (fun z => Ending.returned (Value.int .i64 z)) ?_, hs.bel⟩
    show ((-1) : Int) = szm (szAction a) left
    unfold szAction szm at *; repeat (split at * <;> try omega)
  · have pr6 : ¬ ((szm (szPattern a.Pattern) left) : Int) < 0 := of_decide_eq_false h6
    have pr6z := szm_val (n := (szPattern a.Pattern)) (left := left) pr6
    refine C_skip ?_
    refine x_then ?_
    refine C_seq ?_
    refine C_reg ?_
    refine p1 rfl <| p1 rfl ?_
    refine D_end ?_
    refine x_then ?_
    refine C_ret ?_
    refine R_1 rfl rfl fun w' hs => ⟨congrArg (fun z => Ending.returned (Value.int .i64 z)) ?_, hs.bel⟩
    show ((szm (szPattern a.Pattern) left) : Int) = szm (szAction a) left
    unfold szAction szm at *; repeat (split at * <;> try omega)

theorem laws_toAction (w : World) (c_a : List Value) (a : Action) (h_a : Gd.rd w c_a a) (hn : szAction a ≤ 1048576) : Calls Tryz.prog 70 [(.agg c_a.toArray)].toArray w (Res w (a : Action)) := by
  obtain ⟨u1, rfl, hu2⟩ := open_Action h_a
  have hm3 := rd_max hu2
  have hb4 := sub_Action_Pattern h_a
  unfold szAction at hn
  refine enter 12 Tryz.func70 rfl rfl rfl ?_
  refine C_seq ?_
  refine C_reg ?_
  refine li rfl (D_box rfl rfl rfl rfl rfl fun g5 => ?_)
  refine li rfl (D_alloc y_88 rfl rfl rfl rfl fun g6 => ?_)
  refine D_end ?_
  refine x_then ?_
  refine D_H ([bx g6 [(.int .i64 0), (.string ⟨#[]⟩), (.slice none 0 0)], bx g5 [(.int .i64 a.Kind), (.string a.Pattern.Rel), u1]]) rfl ?_
  refine C_seq ?_
  refine C_reg ?_
  refine li rfl (D_alloc y_88 rfl rfl rfl rfl fun g7 => ?_)
  refine D_end ?_
  refine x_then ?_
  refine D_H ([bx g7 [(.int .i64 0), (.string ⟨#[]⟩), (.slice none 0 0)], bx g6 [(.int .i64 0), (.string ⟨#[]⟩), (.slice none 0 0)], bx g5 [(.int .i64 a.Kind), (.string a.Pattern.Rel), u1]]) rfl ?_
  refine C_seq ?_
  refine C_reg ?_
  refine q1 rfl (D_fb f_96_0 rfl rfl (q := 0) rfl) ?_
  refine q1 rfl (lb 2 o_3 rfl rfl rfl rfl) ?_
  refine q1 rfl (D_fb f_88_0 rfl rfl (q := 0) rfl) ?_
  refine li rfl (D_stb (vs := [(.int .i64 a.Kind)]) (cs' := [(.int .i64 a.Kind), (.string ⟨#[]⟩), (.slice none 0 0)]) 0 z_3 rfl rfl rfl rfl rfl rfl (ocons rfl onil) (by simp) rfl ?_)
  refine D_end ?_
  refine x_then ?_
  refine D_H ([bx g7 [(.int .i64 a.Kind), (.string ⟨#[]⟩), (.slice none 0 0)], bx g6 [(.int .i64 0), (.string ⟨#[]⟩), (.slice none 0 0)], bx g5 [(.int .i64 a.Kind), (.string a.Pattern.Rel), u1]]) rfl ?_
  refine C_seq ?_
  refine C_reg ?_
  refine q1 rfl (D_fb f_96_1 rfl rfl (q := 1) rfl) ?_
  refine q1 rfl (lba (es := [(.string a.Pattern.Rel), u1]) 2 a_91 rfl rfl rfl rfl) ?_
  refine li rfl (crs rfl b_94 rfl rfl rfl rfl (fun w' hs => (laws_toPattern w' [(.string a.Pattern.Rel), u1] a.Pattern (rd_at hs hb4) (by first | assumption | omega | (unfold szm at *; split at * <;> omega)))) fun cs8 => ?_)
  refine D_pre (fun w' hs => shape_Pattern (rd_own (k := 0) hs rfl)) ?_
  rintro ⟨v9, rfl, ho10⟩
  refine q1 rfl (D_fb f_88_1 rfl rfl (q := 1) rfl) ?_
  refine li rfl (D_stb (vs := [(.string a.Pattern.Rel), v9]) (cs' := [(.int .i64 a.Kind), (.string a.Pattern.Rel), v9]) 1 z_83 rfl rfl rfl rfl rfl rfl (ocons rfl (ocons ho10 onil)) (by simp) rfl ?_)
  refine D_end ?_
  refine x_then ?_
  refine D_H ([ov [(.string a.Pattern.Rel), v9] (a.Pattern : Pattern), bx g7 [(.int .i64 a.Kind), (.string a.Pattern.Rel), v9], bx g6 [(.int .i64 0), (.string ⟨#[]⟩), (.slice none 0 0)], bx g5 [(.int .i64 a.Kind), (.string a.Pattern.Rel), u1]]) rfl ?_
  refine C_seq ?_
  refine C_reg ?_
  refine q1 rfl (lbw 1 a_88 rfl rfl rfl) ?_
  refine li rfl (D_stb (vs := [(.int .i64 a.Kind), (.string a.Pattern.Rel), v9]) (cs' := [(.int .i64 a.Kind), (.string a.Pattern.Rel), v9]) 2 z_88 rfl rfl rfl rfl rfl rfl (ocons rfl (ocons rfl (ocons ho10 onil))) (by simp) rfl ?_)
  refine D_end ?_
  refine x_then ?_
  refine D_H ([ov [(.string a.Pattern.Rel), v9] (a.Pattern : Pattern), bx g7 [(.int .i64 a.Kind), (.string a.Pattern.Rel), v9], bx g6 [(.int .i64 a.Kind), (.string a.Pattern.Rel), v9], bx g5 [(.int .i64 a.Kind), (.string a.Pattern.Rel), u1]]) rfl ?_
  refine C_ret ?_
  refine D_unpair (α := ByteArray) (β := (List ByteArray)) (c1 := [(.string a.Pattern.Rel)]) (c2 := [v9]) (x := a.Pattern.Rel) (y := (a.Pattern.Args)) rfl rfl ?_
  refine D_fd [] 1 rfl ?_
  refine pk_Action (r := (⟨a.Kind, ⟨a.Pattern.Rel, a.Pattern.Args⟩⟩ : Action)) ?_
  refine R_c 2 a_88 rfl rfl rfl fun w' hs => res_of (k := 0) hs rfl ?_
  show (⟨a.Kind, ⟨a.Pattern.Rel, a.Pattern.Args⟩⟩ : Action) = a
  rfl

theorem laws_eqAction (w : World) (c_a : List Value) (a : Action) (c_b : List Value) (b : Action) (h_a : Gd.rd w c_a a) (h_b : Gd.rd w c_b b) : Calls Tryz.prog 85 [(.agg c_a.toArray), (.agg c_b.toArray)].toArray w (Val w (.bool (decide (a = b)))) := by
  obtain ⟨u1, rfl, hu2⟩ := open_Action h_a
  have hm3 := rd_max hu2
  have hb4 := sub_Action_Pattern h_a
  obtain ⟨u5, rfl, hu6⟩ := open_Action h_b
  have hm7 := rd_max hu6
  have hb8 := sub_Action_Pattern h_b
  refine enter 16 Tryz.func85 rfl rfl rfl ?_
  refine C_seq ?_
  refine C_reg ?_
  refine li rfl (D_box rfl rfl rfl rfl rfl fun g9 => ?_)
  refine li rfl (D_box rfl rfl rfl rfl rfl fun g10 => ?_)
  refine p1 rfl ?_
  refine D_end ?_
  refine x_then ?_
  refine D_H ([bx g10 [(.int .i64 b.Kind), (.string b.Pattern.Rel), u5], bx g9 [(.int .i64 a.Kind), (.string a.Pattern.Rel), u1]]) rfl ?_
  refine C_seq ?_
  refine C_seq ?_
  refine C_reg ?_
  refine q1 rfl (D_fb f_88_0 rfl rfl (q := 0) rfl) ?_
  refine q1 rfl (lb 1 o_3 rfl rfl rfl rfl) ?_
  refine q1 rfl (D_fb f_88_0 rfl rfl (q := 0) rfl) ?_
  refine q1 rfl (lb 0 o_3 rfl rfl rfl rfl) ?_
  refine p1 rfl ?_
  refine D_end ?_
  refine x_then ?_
  refine C_if _ rfl (fun h11 => ?_) (fun h11 => ?_)
  · have pr11 : (a.Kind : Int) ≠ b.Kind := bne_iff_ne.1 h11
    refine C_seq ?_
    refine C_reg ?_
    refine p1 rfl ?_
    refine D_end ?_
    refine x_then ?_
    refine C_ret ?_
    refine x_then_ret ?_
    refine R_1 rfl rfl fun w' hs => ⟨congrArg (fun z => Ending.returned (Value.bool z)) ?_, hs.bel⟩
    show (false : Bool) = decide (a = b)
    cases a; cases b; simp_all
  · have pr11 : (a.Kind : Int) = b.Kind := eq_of_bne_f h11
    refine C_skip ?_
    refine x_then ?_
    refine C_seq ?_
    refine C_seq ?_
    refine C_reg ?_
    refine q1 rfl (D_fb f_88_1 rfl rfl (q := 1) rfl) ?_
    refine q1 rfl (lba (es := [(.string a.Pattern.Rel), u1]) 1 a_83 rfl rfl rfl rfl) ?_
    refine q1 rfl (D_fb f_88_1 rfl rfl (q := 1) rfl) ?_
    refine q1 rfl (lba (es := [(.string b.Pattern.Rel), u5]) 0 a_83 rfl rfl rfl rfl) ?_
    refine li rfl (cv b_106 rfl rfl rfl rfl (fun w' hs => (laws_eqPattern w' [(.string a.Pattern.Rel), u1] a.Pattern [(.string b.Pattern.Rel), u5] b.Pattern (rd_at hs hb4) (rd_at hs hb8))) ?_)
    refine p1 rfl ?_
    refine D_end ?_
    refine x_then ?_
    refine D_weak [(15, (.bool (!(decide (a.Pattern = b.Pattern)))))] ⟨rfl, trivial⟩ ?_
    refine D_sel (H' := []) [false, false] rfl ?_
    refine C_if _ rfl (fun h12 => ?_) (fun h12 => ?_)
    · have h12n : (decide (a.Pattern = b.Pattern)) = false := not_t h12
      refine C_seq ?_
      refine C_reg ?_
      refine p1 rfl ?_
      refine D_end ?_
      refine x_then ?_
      refine C_ret ?_
      refine x_then_ret ?_
      refine R_1 rfl rfl fun w' hs => ⟨congrArg (fun z => Ending.returned (Value.bool z)) ?_, hs.bel⟩
      show (false : Bool) = decide (a = b)
      cases a; cases b; simp_all
    · have h12n : (decide (a.Pattern = b.Pattern)) = true := not_f h12
      refine C_skip ?_
      refine x_then ?_
      refine C_seq ?_
      refine C_reg ?_
      refine p1 rfl ?_
      refine D_end ?_
      refine x_then ?_
      refine C_ret ?_
      refine R_1 rfl rfl fun w' hs => ⟨congrArg (fun z => Ending.returned (Value.bool z)) ?_, hs.bel⟩
      show (true : Bool) = decide (a = b)
      cases a; cases b; simp_all

theorem laws_szCondS (w : World) (v_a : Value) (a : (List Cond)) (left : Int) (h_a : Gd.rd w [v_a] a) (h0 : 0 ≤ left) (h1 : left ≤ 1048576) (ho : okL okCond a) : Calls Tryz.prog 33 [v_a, (.int .i64 left)].toArray w (Val w (.int .i64 (szm (szL szCond a) left))) := by
  have hm1 := rd_max h_a
  refine enter 27 Tryz.func33 rfl rfl rfl ?_
  refine C_seq ?_
  refine C_reg ?_
  refine p1 rfl ?_
  refine D_end ?_
  refine x_then ?_
  refine C_seq ?_
  refine C_reg ?_
  refine p1 rfl <| p1 rfl ?_
  refine q1 rfl (D_len s_39 rfl rfl (rd_sl h_a)) ?_
  refine q1 rfl (D_sub rfl rfl rfl rfl (by omega)) ?_
  refine p1 rfl ?_
  refine D_end ?_
  refine x_then ?_
  refine C_seq ?_
  refine C_seq ?_
  refine C_reg ?_
  refine p1 rfl <| p1 rfl ?_
  refine D_end ?_
  refine x_then ?_
  refine C_if _ rfl (fun h2 => ?_) (fun h2 => ?_)
  · have pr2 : ((left - ((a.length : Nat) : Int)) : Int) < 0 := of_decide_eq_true h2
    refine C_seq ?_
    refine C_reg ?_
    refine p1 rfl ?_
    refine D_end ?_
    refine x_then ?_
    refine C_ret ?_
    refine x_then_ret ?_
    refine R_1 rfl rfl fun w' hs => ⟨congrArg (fun z => Ending.returned (Value.int .i64 z)) ?_, hs.bel⟩
    show ((-1) : Int) = szm (szL szCond a) left
    refine (szm_neg ?_).symm; unfold szL; omega
  · have pr2 : ¬ ((left - ((a.length : Nat) : Int)) : Int) < 0 := of_decide_eq_false h2
    refine C_skip ?_
    refine x_then ?_
    refine C_seq ?_
    refine C_seq ?_
    refine C_reg ?_
    refine p1 rfl ?_
    refine D_end ?_
    refine x_then ?_
    refine C_block ?_
    refine C_loop (fun m_ ac w' => ∃ (k : Nat), ∃ (lf : Int), (k ≤ a.length) ∧ (0 ≤ lf ∧ lf = left - a.length - sumC szCond (a.take k)) ∧ m_ = a.length - k ∧ Fits ac 27 [(0, v_a), (1, (.int .i64 lf)), (5, (.int .i64 ((k : Nat) : Int)))] ∧ St w ([]) w') ?_ ?_
    · refine fun ac w' hf hs => ⟨_, 0, (left - ((a.length : Nat) : Int)), ?_, ?_, rfl, hf.weak ⟨rfl, rfl, rfl, trivial⟩, hs⟩
      · first | assumption | omega | simp
      · simp [sumC]; omega
    · rintro m_ ac w' ⟨k, lf, hk, hl, rfl, hf, hs⟩
      refine D.use ?_ hf hs
      clear hf hs ac w'
      have ht := sumC_take_le a szCond k
      refine C_seq ?_
      refine C_seq ?_
      refine C_reg ?_
      refine p1 rfl <| p1 rfl ?_
      refine q1 rfl (D_len s_39 rfl rfl (rd_sl h_a)) ?_
      refine p1 rfl ?_
      refine D_end ?_
      refine x_then ?_
      refine C_if _ rfl (fun h3 => ?_) (fun h3 => ?_)
      · have pr3 : (((k : Nat) : Int) : Int) < ((a.length : Nat) : Int) := of_decide_eq_true h3
        refine C_skip ?_
        refine x_then ?_
        refine C_seq ?_
        refine C_block ?_
        refine C_seq ?_
        refine C_reg ?_
        refine p1 rfl <| p1 rfl ?_
        obtain ⟨r0, hr0⟩ := some_of_lt (l := a) (i := k) (by omega)
        have hro := ho _ (List.mem_of_getElem? hr0)
        have ht1 := sumC_take_le a szCond (k + 1)
        have hst := sumC_take (c := szCond) hr0
        obtain ⟨es4, at5, hr6⟩ := rd_elem (n := 5) rfl h_a hr0
        obtain ⟨u7, rfl, hu8⟩ := open_Cond hr6
        have hm9 := rd_max hu8
        have hb10 := sub_Cond_Pattern hr6
        refine q1 rfl (D_ix (l := a) (j := k) s_39 rfl rfl rfl (fun w' hs => (rd_at hs h_a)) rfl (lt_of_some hr0)) ?_
        refine q1 rfl (lra a_93 rfl rfl at5) ?_
        refine p1 rfl ?_
        refine li rfl (cv b_54 rfl rfl rfl rfl (fun w' hs => (laws_szCond w' [(.int .i64 r0.Kind), (.string r0.Pattern.Rel), u7, (.string r0.Left), (.string r0.Right)] r0 lf (rd_at hs hr6) (by first | assumption | omega | (unfold szm at *; split at * <;> omega)) (by first | assumption | omega | (unfold szm at *; split at * <;> omega)) hro)) ?_)
        refine p1 rfl ?_
        refine D_end ?_
        refine x_then ?_
        refine C_seq ?_
        refine C_reg ?_
        refine p1 rfl <| p1 rfl ?_
        refine D_end ?_
        refine x_then ?_
        refine C_if _ rfl (fun h11 => ?_) (fun h11 => ?_)
        · have pr11 : ((szm (szCond r0) lf) : Int) < 0 := of_decide_eq_true h11
          refine C_seq ?_
          refine C_reg ?_
          refine p1 rfl ?_
          refine D_end ?_
          refine x_then ?_
          refine D_weak [(4, (.int .i64 (-1)))] ⟨rfl, trivial⟩ ?_
          refine C_ret ?_
          refine x_blk_ret ?_
          refine x_then_ret ?_
          refine x_then_ret ?_
          refine x_blk_ret ?_
          refine x_then_ret ?_
          refine R_1 rfl rfl fun w' hs => ⟨congrArg (fun z => Ending.returned (Value.int .i64 z)) ?_, hs.bel⟩
          show ((-1) : Int) = szm (szL szCond a) left
          refine (szm_neg ?_).symm; unfold szL; unfold szm at *; split at * <;> omega
        · have pr11 : ¬ ((szm (szCond r0) lf) : Int) < 0 := of_decide_eq_false h11
          have pr11z := szm_val (n := (szCond r0)) (left := lf) pr11
          refine C_skip ?_
          refine x_blk ?_
          refine x_then ?_
          refine C_reg ?_
          refine p1 rfl ?_
          refine q1 rfl (D_add rfl rfl rfl (r := ((k + 1 : Nat) : Int)) (by omega) (by omega)) ?_
          refine p1 rfl ?_
          refine D_end ?_
          refine x_then ?_
          refine fun ac w' hf hs => ⟨_, ?_, k + 1, (szm (szCond r0) lf), ?_, ?_, rfl, hf.weak ⟨rfl, rfl, rfl, trivial⟩, hs⟩
          · omega
          · first | assumption | omega | simp
          · rw [hst]; unfold szm at *; split at * <;> omega
      · have pr3 : ¬ (((k : Nat) : Int) : Int) < ((a.length : Nat) : Int) := of_decide_eq_false h3
        refine C_exit ?_
        refine x_then_exit ?_
        refine x_then_exit ?_
        refine x_blk_eq ?_
        refine x_then ?_
        refine C_seq ?_
        refine C_reg ?_
        refine p1 rfl <| p1 rfl ?_
        refine D_end ?_
        refine x_then ?_
        refine C_ret ?_
        refine R_1 rfl rfl fun w' hs => ⟨congrArg (fun z => Ending.returned (Value.int .i64 z)) ?_, hs.bel⟩
        show (lf : Int) = szm (szL szCond a) left
        rw [szm_pos]; all_goals (unfold szL; rw [List.take_of_length_le (by omega)] at hl; omega)

theorem laws_toCondS (w : World) (v_a : Value) (a : (List Cond)) (h_a : Gd.rd w [v_a] a) (hn : szL szCond a ≤ 1048576) : Calls Tryz.prog 38 [v_a].toArray w (Res w (a : List Cond)) := by
  have hm1 := rd_max h_a
  unfold szL at hn
  refine enter 23 Tryz.func38 rfl rfl rfl ?_
  refine C_seq ?_
  refine C_reg ?_
  refine p1 rfl ?_
  refine D_end ?_
  refine x_then ?_
  refine C_seq ?_
  refine C_reg ?_
  refine p1 rfl ?_
  refine q1 rfl (D_len s_39 rfl rfl (rd_sl h_a)) ?_
  refine li rfl (D_mkG (α := Cond) (z0 := z0_Cond) s_45 y_85 rfl rfl rfl rfl rfl rfl zz_Cond (by omega) (by omega) fun v2 => ?_)
  refine p1 rfl ?_
  refine D_end ?_
  refine x_then ?_
  refine D_H ([ov [v2] (List.replicate a.length z0_Cond : (List Cond))]) rfl ?_
  refine C_seq ?_
  refine C_seq ?_
  refine C_reg ?_
  refine p1 rfl ?_
  refine D_end ?_
  refine x_then ?_
  refine C_block ?_
  refine C_loop (fun m_ ac w' => ∃ (k : Nat), ∃ (v : Value), (k ≤ a.length) ∧ m_ = a.length - k ∧ Fits ac 23 [(0, v_a), (3, v), (4, (.int .i64 ((k : Nat) : Int)))] ∧ St w ([ov [v] (cp a z0_Cond k : (List Cond))]) w') ?_ ?_
  · refine D_eq 0 rfl (show (List.replicate a.length z0_Cond : (List Cond)) = cp a z0_Cond 0 from by rw [cp_zero]) ?_
    refine fun ac w' hf hs => ⟨_, 0, v2, ?_, rfl, hf.weak ⟨rfl, rfl, rfl, trivial⟩, hs⟩
    · first | assumption | omega | simp
  · rintro m_ ac w' ⟨k, v, hk, rfl, hf, hs⟩
    refine D.use ?_ hf hs
    clear hf hs ac w'
    have hcl := cp_len a z0_Cond k hk
    refine C_seq ?_
    refine C_seq ?_
    refine C_reg ?_
    refine p1 rfl <| p1 rfl ?_
    refine q1 rfl (D_len s_39 rfl rfl (rd_sl h_a)) ?_
    refine p1 rfl ?_
    refine D_end ?_
    refine x_then ?_
    refine D_H ([ov [v] (cp a z0_Cond k : (List Cond))]) rfl ?_
    refine C_if _ rfl (fun h3 => ?_) (fun h3 => ?_)
    · have pr3 : (((k : Nat) : Int) : Int) < ((a.length : Nat) : Int) := of_decide_eq_true h3
      refine C_skip ?_
      refine x_then ?_
      refine C_seq ?_
      refine C_block ?_
      refine C_reg ?_
      refine p1 rfl <| p1 rfl <| p1 rfl <| p1 rfl ?_
      obtain ⟨x4, hx5⟩ := some_of_lt (l := a) (i := k) (by omega)
      have hle := sumC_mem (c := szCond) (mem_idx hx5)
      obtain ⟨es6, at7, hr8⟩ := rd_elem (n := 5) rfl h_a hx5
      obtain ⟨u9, rfl, hu10⟩ := open_Cond hr8
      have hm11 := rd_max hu10
      have hb12 := sub_Cond_Pattern hr8
      refine q1 rfl (D_ix (l := a) (j := k) s_39 rfl rfl rfl (fun w' hs => (rd_at hs h_a)) rfl (lt_of_some hx5)) ?_
      refine q1 rfl (lra a_93 rfl rfl at7) ?_
      refine li rfl (crs rfl b_69 rfl rfl rfl rfl (fun w' hs => (laws_toCond w' [(.int .i64 x4.Kind), (.string x4.Pattern.Rel), u9, (.string x4.Left), (.string x4.Right)] x4 (rd_at hs hr8) (by first | assumption | omega | (unfold szm at *; split at * <;> omega)))) fun cs13 => ?_)
      refine D_pre (fun w' hs => shape_Cond (rd_own (k := 0) hs rfl)) ?_
      rintro ⟨v14, rfl, ho15⟩
      obtain ⟨x16, hx17⟩ := some_of_lt (l := (cp a z0_Cond k)) (i := k) (by omega)
      refine q1 rfl (D_ix (l := (cp a z0_Cond k)) (j := k) s_45 rfl rfl rfl (fun w' hs => (rd_own (k := 1) hs rfl)) rfl (lt_of_some hx17)) ?_
      refine D_pk (H' := [ov [v] (cp a z0_Cond k : (List Cond)), ov [(.int .i64 x4.Kind), (.string x4.Pattern.Rel), v14, (.string x4.Left), (.string x4.Right)] (x4 : Cond)]) [1, 0] rfl rfl ?_
      refine li rfl (soG (α := Cond) rfl z_85 rfl rfl rfl rfl rfl (lt_of_some hx17) ?_)
      refine D_end ?_
      refine x_blk ?_
      refine x_then ?_
      refine D_H ([ov [v] ((cp a z0_Cond k).set k x4 : (List Cond))]) rfl ?_
      refine C_reg ?_
      refine p1 rfl ?_
      refine q1 rfl (D_add rfl rfl rfl (r := ((k + 1 : Nat) : Int)) (by omega) (by omega)) ?_
      refine p1 rfl ?_
      refine D_end ?_
      refine x_then ?_
      refine D_eq 0 rfl (show ((cp a z0_Cond k).set k x4 : (List Cond)) = cp a z0_Cond (k + 1) from by rw [cp_set (by assumption)]) ?_
      refine fun ac w' hf hs => ⟨_, ?_, k + 1, v, ?_, rfl, hf.weak ⟨rfl, rfl, rfl, trivial⟩, hs⟩
      · omega
      · first | assumption | omega | simp
    · have pr3 : ¬ (((k : Nat) : Int) : Int) < ((a.length : Nat) : Int) := of_decide_eq_false h3
      refine C_exit ?_
      refine x_then_exit ?_
      refine x_then_exit ?_
      refine x_blk_eq ?_
      refine x_then ?_
      refine C_seq ?_
      refine C_reg ?_
      refine p1 rfl <| p1 rfl ?_
      refine D_end ?_
      refine x_then ?_
      refine C_ret ?_
      refine R_1 rfl rfl fun w' hs => res_of (k := 0) hs rfl ?_
      show cp a z0_Cond k = a
      exact cp_done (by omega)

theorem laws_eqCondS (w : World) (v_a : Value) (a : (List Cond)) (v_b : Value) (b : (List Cond)) (h_a : Gd.rd w [v_a] a) (h_b : Gd.rd w [v_b] b) : Calls Tryz.prog 46 [v_a, v_b].toArray w (Val w (.bool (decide (a = b)))) := by
  have hm1 := rd_max h_a
  have hm2 := rd_max h_b
  refine enter 27 Tryz.func46 rfl rfl rfl ?_
  refine C_seq ?_
  refine C_reg ?_
  refine p1 rfl ?_
  refine D_end ?_
  refine x_then ?_
  refine C_seq ?_
  refine C_seq ?_
  refine C_reg ?_
  refine p1 rfl ?_
  refine q1 rfl (D_len s_45 rfl rfl (rd_sl h_a)) ?_
  refine p1 rfl ?_
  refine q1 rfl (D_len s_45 rfl rfl (rd_sl h_b)) ?_
  refine p1 rfl ?_
  refine D_end ?_
  refine x_then ?_
  refine C_if _ rfl (fun h3 => ?_) (fun h3 => ?_)
  · have pr3 : (((a.length : Nat) : Int) : Int) ≠ ((b.length : Nat) : Int) := bne_iff_ne.1 h3
    refine C_seq ?_
    refine C_reg ?_
    refine p1 rfl ?_
    refine D_end ?_
    refine x_then ?_
    refine C_ret ?_
    refine x_then_ret ?_
    refine R_1 rfl rfl fun w' hs => ⟨congrArg (fun z => Ending.returned (Value.bool z)) ?_, hs.bel⟩
    show (false : Bool) = decide (a = b)
    simp; intro e; subst e; simp_all
  · have pr3 : (((a.length : Nat) : Int) : Int) = ((b.length : Nat) : Int) := eq_of_bne_f h3
    refine C_skip ?_
    refine x_then ?_
    refine C_seq ?_
    refine C_seq ?_
    refine C_reg ?_
    refine p1 rfl ?_
    refine D_end ?_
    refine x_then ?_
    refine C_block ?_
    refine C_loop (fun m_ ac w' => ∃ (k : Nat), (k ≤ a.length) ∧ (∀ i, i < k → a[i]? = b[i]?) ∧ m_ = a.length - k ∧ Fits ac 27 [(0, v_a), (1, v_b), (5, (.int .i64 ((k : Nat) : Int)))] ∧ St w ([]) w') ?_ ?_
    · refine fun ac w' hf hs => ⟨_, 0, ?_, ?_, rfl, hf.weak ⟨rfl, rfl, rfl, trivial⟩, hs⟩
      · first | assumption | omega | simp
      · intro i hi; omega
    · rintro m_ ac w' ⟨k, hk, hi, rfl, hf, hs⟩
      refine D.use ?_ hf hs
      clear hf hs ac w'
      refine C_seq ?_
      refine C_seq ?_
      refine C_reg ?_
      refine p1 rfl <| p1 rfl ?_
      refine q1 rfl (D_len s_45 rfl rfl (rd_sl h_a)) ?_
      refine p1 rfl ?_
      refine D_end ?_
      refine x_then ?_
      refine C_if _ rfl (fun h4 => ?_) (fun h4 => ?_)
      · have pr4 : (((k : Nat) : Int) : Int) < ((a.length : Nat) : Int) := of_decide_eq_true h4
        refine C_skip ?_
        refine x_then ?_
        refine C_seq ?_
        refine C_block ?_
        refine C_seq ?_
        refine C_draw mixed [8, 9] (by kernel_rfl) ?_
        refine tk 0 rfl (by kernel_rfl) (by kernel_rfl) (by kernel_rfl) rfl (fun _ hs => hs) (rp rfl) ?_
        refine tk 1 rfl (by kernel_rfl) (by kernel_rfl) (by kernel_rfl) rfl (fun _ hs => hs) (rp rfl) ?_
        obtain ⟨x5, hx6⟩ := some_of_lt (l := a) (i := k) (by omega)
        obtain ⟨es7, at8, hr9⟩ := rd_elem (n := 5) rfl h_a hx6
        obtain ⟨u10, rfl, hu11⟩ := open_Cond hr9
        have hm12 := rd_max hu11
        have hb13 := sub_Cond_Pattern hr9
        refine tk 2 rfl (by kernel_rfl) (by kernel_rfl) (by kernel_rfl) rfl (fun _ hs => hs) (D_ix (l := a) (j := k) s_45 rfl rfl rfl (fun w' hs => (rd_at hs h_a)) rfl (lt_of_some hx6)) ?_
        refine tk 3 rfl (by kernel_rfl) (by kernel_rfl) (by kernel_rfl) rfl (fun _ hs => hs) (lra a_85 rfl rfl at8) ?_
        refine tk 4 rfl (by kernel_rfl) (by kernel_rfl) (by kernel_rfl) rfl (fun _ hs => hs) (rp rfl) ?_
        refine tk 5 rfl (by kernel_rfl) (by kernel_rfl) (by kernel_rfl) rfl (fun _ hs => hs) (rp rfl) ?_
        obtain ⟨x14, hx15⟩ := some_of_lt (l := b) (i := k) (by omega)
        obtain ⟨es16, at17, hr18⟩ := rd_elem (n := 5) rfl h_b hx15
        obtain ⟨u19, rfl, hu20⟩ := open_Cond hr18
        have hm21 := rd_max hu20
        have hb22 := sub_Cond_Pattern hr18
        refine tk 6 rfl (by kernel_rfl) (by kernel_rfl) (by kernel_rfl) rfl (fun _ hs => hs) (D_ix (l := b) (j := k) s_45 rfl rfl rfl (fun w' hs => (rd_at hs h_b)) rfl (lt_of_some hx15)) ?_
        refine tk 7 rfl (by kernel_rfl) (by kernel_rfl) (by kernel_rfl) rfl (fun _ hs => hs) (lra a_85 rfl rfl at17) ?_
        refine ty 8 rfl (by kernel_rfl) rfl (cv b_84 rfl rfl rfl rfl (fun w' hs => (laws_eqCond w' [(.int .i64 x5.Kind), (.string x5.Pattern.Rel), u10, (.string x5.Left), (.string x5.Right)] x5 [(.int .i64 x14.Kind), (.string x14.Pattern.Rel), u19, (.string x14.Left), (.string x14.Right)] x14 (rd_at hs hr9) (rd_at hs hr18))) ?_)
        refine tZ rfl ?_
        refine ty 9 rfl (by kernel_rfl) rfl (sv rfl rfl (rp rfl) ?_)
        refine tZ rfl ?_
        refine tE (by kernel_rfl) ?_
        refine x_then ?_
        refine C_if _ rfl (fun h23 => ?_) (fun h23 => ?_)
        · have h23n : (decide (x5 = x14)) = false := not_t h23
          refine C_seq ?_
          refine C_reg ?_
          refine p1 rfl ?_
          refine D_end ?_
          refine x_then ?_
          refine D_weak [(4, (.bool false))] ⟨rfl, trivial⟩ ?_
          refine C_ret ?_
          refine x_blk_ret ?_
          refine x_then_ret ?_
          refine x_then_ret ?_
          refine x_blk_ret ?_
          refine x_then_ret ?_
          refine R_1 rfl rfl fun w' hs => ⟨congrArg (fun z => Ending.returned (Value.bool z)) ?_, hs.bel⟩
          show (false : Bool) = decide (a = b)
          simp; intro e; subst e; simp_all
        · have h23n : (decide (x5 = x14)) = true := not_f h23
          refine C_skip ?_
          refine x_blk ?_
          refine x_then ?_
          refine C_reg ?_
          refine p1 rfl ?_
          refine q1 rfl (D_add rfl rfl rfl (r := ((k + 1 : Nat) : Int)) (by omega) (by omega)) ?_
          refine p1 rfl ?_
          refine D_end ?_
          refine x_then ?_
          refine fun ac w' hf hs => ⟨_, ?_, k + 1, ?_, ?_, rfl, hf.weak ⟨rfl, rfl, rfl, trivial⟩, hs⟩
          · omega
          · first | assumption | omega | simp
          · refine idx_step hi (by assumption) (by assumption) ?_; first | (simp_all; done) | (apply Fact.mk_eq <;> simp_all)
      · have pr4 : ¬ (((k : Nat) : Int) : Int) < ((a.length : Nat) : Int) := of_decide_eq_false h4
        refine C_exit ?_
        refine x_then_exit ?_
        refine x_then_exit ?_
        refine x_blk_eq ?_
        refine x_then ?_
        refine C_seq ?_
        refine C_reg ?_
        refine p1 rfl ?_
        refine D_end ?_
        refine x_then ?_
        refine C_ret ?_
        refine R_1 rfl rfl fun w' hs => ⟨congrArg (fun z => Ending.returned (Value.bool z)) ?_, hs.bel⟩
        show (true : Bool) = decide (a = b)
        simp; exact eq_of_idx (by omega) (fun i h => hi i (by omega))

theorem laws_szActionS (w : World) (v_a : Value) (a : (List Action)) (left : Int) (h_a : Gd.rd w [v_a] a) (h0 : 0 ≤ left) (h1 : left ≤ 1048576) (ho : okL okAction a) : Calls Tryz.prog 34 [v_a, (.int .i64 left)].toArray w (Val w (.int .i64 (szm (szL szAction a) left))) := by
  have hm1 := rd_max h_a
  refine enter 27 Tryz.func34 rfl rfl rfl ?_
  refine C_seq ?_
  refine C_reg ?_
  refine p1 rfl ?_
  refine D_end ?_
  refine x_then ?_
  refine C_seq ?_
  refine C_reg ?_
  refine p1 rfl <| p1 rfl ?_
  refine q1 rfl (D_len s_40 rfl rfl (rd_sl h_a)) ?_
  refine q1 rfl (D_sub rfl rfl rfl rfl (by omega)) ?_
  refine p1 rfl ?_
  refine D_end ?_
  refine x_then ?_
  refine C_seq ?_
  refine C_seq ?_
  refine C_reg ?_
  refine p1 rfl <| p1 rfl ?_
  refine D_end ?_
  refine x_then ?_
  refine C_if _ rfl (fun h2 => ?_) (fun h2 => ?_)
  · have pr2 : ((left - ((a.length : Nat) : Int)) : Int) < 0 := of_decide_eq_true h2
    refine C_seq ?_
    refine C_reg ?_
    refine p1 rfl ?_
    refine D_end ?_
    refine x_then ?_
    refine C_ret ?_
    refine x_then_ret ?_
    refine R_1 rfl rfl fun w' hs => ⟨congrArg (fun z => Ending.returned (Value.int .i64 z)) ?_, hs.bel⟩
    show ((-1) : Int) = szm (szL szAction a) left
    refine (szm_neg ?_).symm; unfold szL; omega
  · have pr2 : ¬ ((left - ((a.length : Nat) : Int)) : Int) < 0 := of_decide_eq_false h2
    refine C_skip ?_
    refine x_then ?_
    refine C_seq ?_
    refine C_seq ?_
    refine C_reg ?_
    refine p1 rfl ?_
    refine D_end ?_
    refine x_then ?_
    refine C_block ?_
    refine C_loop (fun m_ ac w' => ∃ (k : Nat), ∃ (lf : Int), (k ≤ a.length) ∧ (0 ≤ lf ∧ lf = left - a.length - sumC szAction (a.take k)) ∧ m_ = a.length - k ∧ Fits ac 27 [(0, v_a), (1, (.int .i64 lf)), (5, (.int .i64 ((k : Nat) : Int)))] ∧ St w ([]) w') ?_ ?_
    · refine fun ac w' hf hs => ⟨_, 0, (left - ((a.length : Nat) : Int)), ?_, ?_, rfl, hf.weak ⟨rfl, rfl, rfl, trivial⟩, hs⟩
      · first | assumption | omega | simp
      · simp [sumC]; omega
    · rintro m_ ac w' ⟨k, lf, hk, hl, rfl, hf, hs⟩
      refine D.use ?_ hf hs
      clear hf hs ac w'
      have ht := sumC_take_le a szAction k
      refine C_seq ?_
      refine C_seq ?_
      refine C_reg ?_
      refine p1 rfl <| p1 rfl ?_
      refine q1 rfl (D_len s_40 rfl rfl (rd_sl h_a)) ?_
      refine p1 rfl ?_
      refine D_end ?_
      refine x_then ?_
      refine C_if _ rfl (fun h3 => ?_) (fun h3 => ?_)
      · have pr3 : (((k : Nat) : Int) : Int) < ((a.length : Nat) : Int) := of_decide_eq_true h3
        refine C_skip ?_
        refine x_then ?_
        refine C_seq ?_
        refine C_block ?_
        refine C_seq ?_
        refine C_reg ?_
        refine p1 rfl <| p1 rfl ?_
        obtain ⟨r0, hr0⟩ := some_of_lt (l := a) (i := k) (by omega)
        have hro := ho _ (List.mem_of_getElem? hr0)
        have ht1 := sumC_take_le a szAction (k + 1)
        have hst := sumC_take (c := szAction) hr0
        obtain ⟨es4, at5, hr6⟩ := rd_elem (n := 3) rfl h_a hr0
        obtain ⟨u7, rfl, hu8⟩ := open_Action hr6
        have hm9 := rd_max hu8
        have hb10 := sub_Action_Pattern hr6
        refine q1 rfl (D_ix (l := a) (j := k) s_40 rfl rfl rfl (fun w' hs => (rd_at hs h_a)) rfl (lt_of_some hr0)) ?_
        refine q1 rfl (lra a_96 rfl rfl at5) ?_
        refine p1 rfl ?_
        refine li rfl (cv b_55 rfl rfl rfl rfl (fun w' hs => (laws_szAction w' [(.int .i64 r0.Kind), (.string r0.Pattern.Rel), u7] r0 lf (rd_at hs hr6) (by first | assumption | omega | (unfold szm at *; split at * <;> omega)) (by first | assumption | omega | (unfold szm at *; split at * <;> omega)) hro)) ?_)
        refine p1 rfl ?_
        refine D_end ?_
        refine x_then ?_
        refine C_seq ?_
        refine C_reg ?_
        refine p1 rfl <| p1 rfl ?_
        refine D_end ?_
        refine x_then ?_
        refine C_if _ rfl (fun h11 => ?_) (fun h11 => ?_)
        · have pr11 : ((szm (szAction r0) lf) : Int) < 0 := of_decide_eq_true h11
          refine C_seq ?_
          refine C_reg ?_
          refine p1 rfl ?_
          refine D_end ?_
          refine x_then ?_
          refine D_weak [(4, (.int .i64 (-1)))] ⟨rfl, trivial⟩ ?_
          refine C_ret ?_
          refine x_blk_ret ?_
          refine x_then_ret ?_
          refine x_then_ret ?_
          refine x_blk_ret ?_
          refine x_then_ret ?_
          refine R_1 rfl rfl fun w' hs => ⟨congrArg (fun z => Ending.returned (Value.int .i64 z)) ?_, hs.bel⟩
          show ((-1) : Int) = szm (szL szAction a) left
          refine (szm_neg ?_).symm; unfold szL; unfold szm at *; split at * <;> omega
        · have pr11 : ¬ ((szm (szAction r0) lf) : Int) < 0 := of_decide_eq_false h11
          have pr11z := szm_val (n := (szAction r0)) (left := lf) pr11
          refine C_skip ?_
          refine x_blk ?_
          refine x_then ?_
          refine C_reg ?_
          refine p1 rfl ?_
          refine q1 rfl (D_add rfl rfl rfl (r := ((k + 1 : Nat) : Int)) (by omega) (by omega)) ?_
          refine p1 rfl ?_
          refine D_end ?_
          refine x_then ?_
          refine fun ac w' hf hs => ⟨_, ?_, k + 1, (szm (szAction r0) lf), ?_, ?_, rfl, hf.weak ⟨rfl, rfl, rfl, trivial⟩, hs⟩
          · omega
          · first | assumption | omega | simp
          · rw [hst]; unfold szm at *; split at * <;> omega
      · have pr3 : ¬ (((k : Nat) : Int) : Int) < ((a.length : Nat) : Int) := of_decide_eq_false h3
        refine C_exit ?_
        refine x_then_exit ?_
        refine x_then_exit ?_
        refine x_blk_eq ?_
        refine x_then ?_
        refine C_seq ?_
        refine C_reg ?_
        refine p1 rfl <| p1 rfl ?_
        refine D_end ?_
        refine x_then ?_
        refine C_ret ?_
        refine R_1 rfl rfl fun w' hs => ⟨congrArg (fun z => Ending.returned (Value.int .i64 z)) ?_, hs.bel⟩
        show (lf : Int) = szm (szL szAction a) left
        rw [szm_pos]; all_goals (unfold szL; rw [List.take_of_length_le (by omega)] at hl; omega)

theorem laws_toActionS (w : World) (v_a : Value) (a : (List Action)) (h_a : Gd.rd w [v_a] a) (hn : szL szAction a ≤ 1048576) : Calls Tryz.prog 39 [v_a].toArray w (Res w (a : List Action)) := by
  have hm1 := rd_max h_a
  unfold szL at hn
  refine enter 23 Tryz.func39 rfl rfl rfl ?_
  refine C_seq ?_
  refine C_reg ?_
  refine p1 rfl ?_
  refine D_end ?_
  refine x_then ?_
  refine C_seq ?_
  refine C_reg ?_
  refine p1 rfl ?_
  refine q1 rfl (D_len s_40 rfl rfl (rd_sl h_a)) ?_
  refine li rfl (D_mkG (α := Action) (z0 := z0_Action) s_46 y_88 rfl rfl rfl rfl rfl rfl zz_Action (by omega) (by omega) fun v2 => ?_)
  refine p1 rfl ?_
  refine D_end ?_
  refine x_then ?_
  refine D_H ([ov [v2] (List.replicate a.length z0_Action : (List Action))]) rfl ?_
  refine C_seq ?_
  refine C_seq ?_
  refine C_reg ?_
  refine p1 rfl ?_
  refine D_end ?_
  refine x_then ?_
  refine C_block ?_
  refine C_loop (fun m_ ac w' => ∃ (k : Nat), ∃ (v : Value), (k ≤ a.length) ∧ m_ = a.length - k ∧ Fits ac 23 [(0, v_a), (3, v), (4, (.int .i64 ((k : Nat) : Int)))] ∧ St w ([ov [v] (cp a z0_Action k : (List Action))]) w') ?_ ?_
  · refine D_eq 0 rfl (show (List.replicate a.length z0_Action : (List Action)) = cp a z0_Action 0 from by rw [cp_zero]) ?_
    refine fun ac w' hf hs => ⟨_, 0, v2, ?_, rfl, hf.weak ⟨rfl, rfl, rfl, trivial⟩, hs⟩
    · first | assumption | omega | simp
  · rintro m_ ac w' ⟨k, v, hk, rfl, hf, hs⟩
    refine D.use ?_ hf hs
    clear hf hs ac w'
    have hcl := cp_len a z0_Action k hk
    refine C_seq ?_
    refine C_seq ?_
    refine C_reg ?_
    refine p1 rfl <| p1 rfl ?_
    refine q1 rfl (D_len s_40 rfl rfl (rd_sl h_a)) ?_
    refine p1 rfl ?_
    refine D_end ?_
    refine x_then ?_
    refine D_H ([ov [v] (cp a z0_Action k : (List Action))]) rfl ?_
    refine C_if _ rfl (fun h3 => ?_) (fun h3 => ?_)
    · have pr3 : (((k : Nat) : Int) : Int) < ((a.length : Nat) : Int) := of_decide_eq_true h3
      refine C_skip ?_
      refine x_then ?_
      refine C_seq ?_
      refine C_block ?_
      refine C_reg ?_
      refine p1 rfl <| p1 rfl <| p1 rfl <| p1 rfl ?_
      obtain ⟨x4, hx5⟩ := some_of_lt (l := a) (i := k) (by omega)
      have hle := sumC_mem (c := szAction) (mem_idx hx5)
      obtain ⟨es6, at7, hr8⟩ := rd_elem (n := 3) rfl h_a hx5
      obtain ⟨u9, rfl, hu10⟩ := open_Action hr8
      have hm11 := rd_max hu10
      have hb12 := sub_Action_Pattern hr8
      refine q1 rfl (D_ix (l := a) (j := k) s_40 rfl rfl rfl (fun w' hs => (rd_at hs h_a)) rfl (lt_of_some hx5)) ?_
      refine q1 rfl (lra a_96 rfl rfl at7) ?_
      refine li rfl (crs rfl b_70 rfl rfl rfl rfl (fun w' hs => (laws_toAction w' [(.int .i64 x4.Kind), (.string x4.Pattern.Rel), u9] x4 (rd_at hs hr8) (by first | assumption | omega | (unfold szm at *; split at * <;> omega)))) fun cs13 => ?_)
      refine D_pre (fun w' hs => shape_Action (rd_own (k := 0) hs rfl)) ?_
      rintro ⟨v14, rfl, ho15⟩
      obtain ⟨x16, hx17⟩ := some_of_lt (l := (cp a z0_Action k)) (i := k) (by omega)
      refine q1 rfl (D_ix (l := (cp a z0_Action k)) (j := k) s_46 rfl rfl rfl (fun w' hs => (rd_own (k := 1) hs rfl)) rfl (lt_of_some hx17)) ?_
      refine D_pk (H' := [ov [v] (cp a z0_Action k : (List Action)), ov [(.int .i64 x4.Kind), (.string x4.Pattern.Rel), v14] (x4 : Action)]) [1, 0] rfl rfl ?_
      refine li rfl (soG (α := Action) rfl z_88 rfl rfl rfl rfl rfl (lt_of_some hx17) ?_)
      refine D_end ?_
      refine x_blk ?_
      refine x_then ?_
      refine D_H ([ov [v] ((cp a z0_Action k).set k x4 : (List Action))]) rfl ?_
      refine C_reg ?_
      refine p1 rfl ?_
      refine q1 rfl (D_add rfl rfl rfl (r := ((k + 1 : Nat) : Int)) (by omega) (by omega)) ?_
      refine p1 rfl ?_
      refine D_end ?_
      refine x_then ?_
      refine D_eq 0 rfl (show ((cp a z0_Action k).set k x4 : (List Action)) = cp a z0_Action (k + 1) from by rw [cp_set (by assumption)]) ?_
      refine fun ac w' hf hs => ⟨_, ?_, k + 1, v, ?_, rfl, hf.weak ⟨rfl, rfl, rfl, trivial⟩, hs⟩
      · omega
      · first | assumption | omega | simp
    · have pr3 : ¬ (((k : Nat) : Int) : Int) < ((a.length : Nat) : Int) := of_decide_eq_false h3
      refine C_exit ?_
      refine x_then_exit ?_
      refine x_then_exit ?_
      refine x_blk_eq ?_
      refine x_then ?_
      refine C_seq ?_
      refine C_reg ?_
      refine p1 rfl <| p1 rfl ?_
      refine D_end ?_
      refine x_then ?_
      refine C_ret ?_
      refine R_1 rfl rfl fun w' hs => res_of (k := 0) hs rfl ?_
      show cp a z0_Action k = a
      exact cp_done (by omega)

theorem laws_eqActionS (w : World) (v_a : Value) (a : (List Action)) (v_b : Value) (b : (List Action)) (h_a : Gd.rd w [v_a] a) (h_b : Gd.rd w [v_b] b) : Calls Tryz.prog 47 [v_a, v_b].toArray w (Val w (.bool (decide (a = b)))) := by
  have hm1 := rd_max h_a
  have hm2 := rd_max h_b
  refine enter 27 Tryz.func47 rfl rfl rfl ?_
  refine C_seq ?_
  refine C_reg ?_
  refine p1 rfl ?_
  refine D_end ?_
  refine x_then ?_
  refine C_seq ?_
  refine C_seq ?_
  refine C_reg ?_
  refine p1 rfl ?_
  refine q1 rfl (D_len s_46 rfl rfl (rd_sl h_a)) ?_
  refine p1 rfl ?_
  refine q1 rfl (D_len s_46 rfl rfl (rd_sl h_b)) ?_
  refine p1 rfl ?_
  refine D_end ?_
  refine x_then ?_
  refine C_if _ rfl (fun h3 => ?_) (fun h3 => ?_)
  · have pr3 : (((a.length : Nat) : Int) : Int) ≠ ((b.length : Nat) : Int) := bne_iff_ne.1 h3
    refine C_seq ?_
    refine C_reg ?_
    refine p1 rfl ?_
    refine D_end ?_
    refine x_then ?_
    refine C_ret ?_
    refine x_then_ret ?_
    refine R_1 rfl rfl fun w' hs => ⟨congrArg (fun z => Ending.returned (Value.bool z)) ?_, hs.bel⟩
    show (false : Bool) = decide (a = b)
    simp; intro e; subst e; simp_all
  · have pr3 : (((a.length : Nat) : Int) : Int) = ((b.length : Nat) : Int) := eq_of_bne_f h3
    refine C_skip ?_
    refine x_then ?_
    refine C_seq ?_
    refine C_seq ?_
    refine C_reg ?_
    refine p1 rfl ?_
    refine D_end ?_
    refine x_then ?_
    refine C_block ?_
    refine C_loop (fun m_ ac w' => ∃ (k : Nat), (k ≤ a.length) ∧ (∀ i, i < k → a[i]? = b[i]?) ∧ m_ = a.length - k ∧ Fits ac 27 [(0, v_a), (1, v_b), (5, (.int .i64 ((k : Nat) : Int)))] ∧ St w ([]) w') ?_ ?_
    · refine fun ac w' hf hs => ⟨_, 0, ?_, ?_, rfl, hf.weak ⟨rfl, rfl, rfl, trivial⟩, hs⟩
      · first | assumption | omega | simp
      · intro i hi; omega
    · rintro m_ ac w' ⟨k, hk, hi, rfl, hf, hs⟩
      refine D.use ?_ hf hs
      clear hf hs ac w'
      refine C_seq ?_
      refine C_seq ?_
      refine C_reg ?_
      refine p1 rfl <| p1 rfl ?_
      refine q1 rfl (D_len s_46 rfl rfl (rd_sl h_a)) ?_
      refine p1 rfl ?_
      refine D_end ?_
      refine x_then ?_
      refine C_if _ rfl (fun h4 => ?_) (fun h4 => ?_)
      · have pr4 : (((k : Nat) : Int) : Int) < ((a.length : Nat) : Int) := of_decide_eq_true h4
        refine C_skip ?_
        refine x_then ?_
        refine C_seq ?_
        refine C_block ?_
        refine C_seq ?_
        refine C_draw mixed [8, 9] (by kernel_rfl) ?_
        refine tk 0 rfl (by kernel_rfl) (by kernel_rfl) (by kernel_rfl) rfl (fun _ hs => hs) (rp rfl) ?_
        refine tk 1 rfl (by kernel_rfl) (by kernel_rfl) (by kernel_rfl) rfl (fun _ hs => hs) (rp rfl) ?_
        obtain ⟨x5, hx6⟩ := some_of_lt (l := a) (i := k) (by omega)
        obtain ⟨es7, at8, hr9⟩ := rd_elem (n := 3) rfl h_a hx6
        obtain ⟨u10, rfl, hu11⟩ := open_Action hr9
        have hm12 := rd_max hu11
        have hb13 := sub_Action_Pattern hr9
        refine tk 2 rfl (by kernel_rfl) (by kernel_rfl) (by kernel_rfl) rfl (fun _ hs => hs) (D_ix (l := a) (j := k) s_46 rfl rfl rfl (fun w' hs => (rd_at hs h_a)) rfl (lt_of_some hx6)) ?_
        refine tk 3 rfl (by kernel_rfl) (by kernel_rfl) (by kernel_rfl) rfl (fun _ hs => hs) (lra a_88 rfl rfl at8) ?_
        refine tk 4 rfl (by kernel_rfl) (by kernel_rfl) (by kernel_rfl) rfl (fun _ hs => hs) (rp rfl) ?_
        refine tk 5 rfl (by kernel_rfl) (by kernel_rfl) (by kernel_rfl) rfl (fun _ hs => hs) (rp rfl) ?_
        obtain ⟨x14, hx15⟩ := some_of_lt (l := b) (i := k) (by omega)
        obtain ⟨es16, at17, hr18⟩ := rd_elem (n := 3) rfl h_b hx15
        obtain ⟨u19, rfl, hu20⟩ := open_Action hr18
        have hm21 := rd_max hu20
        have hb22 := sub_Action_Pattern hr18
        refine tk 6 rfl (by kernel_rfl) (by kernel_rfl) (by kernel_rfl) rfl (fun _ hs => hs) (D_ix (l := b) (j := k) s_46 rfl rfl rfl (fun w' hs => (rd_at hs h_b)) rfl (lt_of_some hx15)) ?_
        refine tk 7 rfl (by kernel_rfl) (by kernel_rfl) (by kernel_rfl) rfl (fun _ hs => hs) (lra a_88 rfl rfl at17) ?_
        refine ty 8 rfl (by kernel_rfl) rfl (cv b_85 rfl rfl rfl rfl (fun w' hs => (laws_eqAction w' [(.int .i64 x5.Kind), (.string x5.Pattern.Rel), u10] x5 [(.int .i64 x14.Kind), (.string x14.Pattern.Rel), u19] x14 (rd_at hs hr9) (rd_at hs hr18))) ?_)
        refine tZ rfl ?_
        refine ty 9 rfl (by kernel_rfl) rfl (sv rfl rfl (rp rfl) ?_)
        refine tZ rfl ?_
        refine tE (by kernel_rfl) ?_
        refine x_then ?_
        refine C_if _ rfl (fun h23 => ?_) (fun h23 => ?_)
        · have h23n : (decide (x5 = x14)) = false := not_t h23
          refine C_seq ?_
          refine C_reg ?_
          refine p1 rfl ?_
          refine D_end ?_
          refine x_then ?_
          refine D_weak [(4, (.bool false))] ⟨rfl, trivial⟩ ?_
          refine C_ret ?_
          refine x_blk_ret ?_
          refine x_then_ret ?_
          refine x_then_ret ?_
          refine x_blk_ret ?_
          refine x_then_ret ?_
          refine R_1 rfl rfl fun w' hs => ⟨congrArg (fun z => Ending.returned (Value.bool z)) ?_, hs.bel⟩
          show (false : Bool) = decide (a = b)
          simp; intro e; subst e; simp_all
        · have h23n : (decide (x5 = x14)) = true := not_f h23
          refine C_skip ?_
          refine x_blk ?_
          refine x_then ?_
          refine C_reg ?_
          refine p1 rfl ?_
          refine q1 rfl (D_add rfl rfl rfl (r := ((k + 1 : Nat) : Int)) (by omega) (by omega)) ?_
          refine p1 rfl ?_
          refine D_end ?_
          refine x_then ?_
          refine fun ac w' hf hs => ⟨_, ?_, k + 1, ?_, ?_, rfl, hf.weak ⟨rfl, rfl, rfl, trivial⟩, hs⟩
          · omega
          · first | assumption | omega | simp
          · refine idx_step hi (by assumption) (by assumption) ?_; first | (simp_all; done) | (apply Fact.mk_eq <;> simp_all)
      · have pr4 : ¬ (((k : Nat) : Int) : Int) < ((a.length : Nat) : Int) := of_decide_eq_false h4
        refine C_exit ?_
        refine x_then_exit ?_
        refine x_then_exit ?_
        refine x_blk_eq ?_
        refine x_then ?_
        refine C_seq ?_
        refine C_reg ?_
        refine p1 rfl ?_
        refine D_end ?_
        refine x_then ?_
        refine C_ret ?_
        refine R_1 rfl rfl fun w' hs => ⟨congrArg (fun z => Ending.returned (Value.bool z)) ?_, hs.bel⟩
        show (true : Bool) = decide (a = b)
        simp; exact eq_of_idx (by omega) (fun i h => hi i (by omega))

theorem laws_szRule (w : World) (c_a : List Value) (a : Rule) (left : Int) (h_a : Gd.rd w c_a a) (h0 : 0 ≤ left) (h1 : left ≤ 1048576) (ho : okRule a) : Calls Tryz.prog 13 [(.agg c_a.toArray), (.int .i64 left)].toArray w (Val w (.int .i64 (szm (szRule a) left))) := by
  obtain ⟨u1, u3, rfl, hu2, hu4⟩ := open_Rule h_a
  have hm5 := rd_max hu2
  have hm6 := rd_max hu4
  have ho1 : a.Name.size ≤ 9223372036854775807 := ho.1
  refine enter 25 Tryz.func13 rfl rfl rfl ?_
  refine C_seq ?_
  refine C_reg ?_
  refine li rfl (D_box rfl rfl rfl rfl rfl fun g7 => ?_)
  refine p1 rfl ?_
  refine D_end ?_
  refine x_then ?_
  refine D_H ([bx g7 [(.string a.Name), (.int .i64 a.Priority), u1, u3]]) rfl ?_
  refine C_seq ?_
  refine C_reg ?_
  refine p1 rfl ?_
  refine q1 rfl (D_fb f_42_0 rfl rfl (q := 0) rfl) ?_
  refine q1 rfl (lb 0 o_9 rfl rfl rfl rfl) ?_
  refine q1 rfl (D_lens us_9 rfl rfl) ?_
  refine q1 rfl (D_sub rfl rfl rfl rfl (by omega)) ?_
  refine p1 rfl ?_
  refine D_end ?_
  refine x_then ?_
  refine C_seq ?_
  refine C_seq ?_
  refine C_reg ?_
  refine p1 rfl <| p1 rfl ?_
  refine D_end ?_
  refine x_then ?_
  refine C_if _ rfl (fun h8 => ?_) (fun h8 => ?_)
  · have pr8 : ((left - ((a.Name.size : Nat) : Int)) : Int) < 0 := of_decide_eq_true h8
    refine C_seq ?_
    refine C_reg ?_
    refine p1 rfl ?_
    refine D_end ?_
    refine x_then ?_
    refine C_ret ?_
    refine x_then_ret ?_
    refine R_1 rfl rfl fun w' hs => ⟨congrArg (fun z => Ending.returned (Value.int .i64 z)) ?_, hs.bel⟩
    show ((-1) : Int) = szm (szRule a) left
    unfold szRule szm at *; repeat (split at * <;> try omega)
  · have pr8 : ¬ ((left - ((a.Name.size : Nat) : Int)) : Int) < 0 := of_decide_eq_false h8
    refine C_skip ?_
    refine x_then ?_
    refine C_seq ?_
    refine C_reg ?_
    refine q1 rfl (D_fb f_42_2 rfl rfl (q := 2) rfl) ?_
    refine q1 rfl (lb 0 o_39 rfl rfl rfl rfl) ?_
    refine p1 rfl ?_
    refine li rfl (cv b_33 rfl rfl rfl rfl (fun w' hs => (laws_szCondS w' u1 a.If (left - ((a.Name.size : Nat) : Int)) (rd_at hs hu2) (by first | assumption | omega | (unfold szm at *; split at * <;> omega)) (by first | assumption | omega | (unfold szm at *; split at * <;> omega)) ho.2.2.1)) ?_)
    refine p1 rfl ?_
    refine D_end ?_
    refine x_then ?_
    refine C_seq ?_
    refine C_seq ?_
    refine C_reg ?_
    refine p1 rfl <| p1 rfl ?_
    refine D_end ?_
    refine x_then ?_
    refine C_if _ rfl (fun h9 => ?_) (fun h9 => ?_)
    · have pr9 : ((szm (szL szCond a.If) (left - ((a.Name.size : Nat) : Int))) : Int) < 0 := of_decide_eq_true h9
      refine C_seq ?_
      refine C_reg ?_
      refine p1 rfl ?_
      refine D_end ?_
      refine x_then ?_
      refine D_weak [(4, (.int .i64 (-1)))] ⟨rfl, trivial⟩ ?_
      refine D_sel (H' := []) [false] rfl ?_
      refine C_ret ?_
      refine x_then_ret ?_
      refine R_1 rfl rfl fun w' hs => ⟨congrArg (fun z => Ending.returned (Value.int .i64 z)) ?_, hs.bel⟩
      show ((-1) : Int) = szm (szRule a) left
      unfold szRule szm at *; repeat (split at * <;> try omega)
    · have pr9 : ¬ ((szm (szL szCond a.If) (left - ((a.Name.size : Nat) : Int))) : Int) < 0 := of_decide_eq_false h9
      have pr9z := szm_val (n := (szL szCond a.If)) (left := (left - ((a.Name.size : Nat) : Int))) pr9
      refine C_skip ?_
      refine x_then ?_
      refine D_weak [(1, (.int .i64 (szm (szL szCond a.If) (left - ((a.Name.size : Nat) : Int))))), (2, (.pointer (some ⟨g7, 0, none⟩)))] ⟨rfl, rfl, trivial⟩ ?_
      refine C_seq ?_
      refine C_reg ?_
      refine q1 rfl (D_fb f_42_3 rfl rfl (q := 3) rfl) ?_
      refine q1 rfl (lb 0 o_40 rfl rfl rfl rfl) ?_
      refine p1 rfl ?_
      refine li rfl (cv b_34 rfl rfl rfl rfl (fun w' hs => (laws_szActionS w' u3 a.Then (szm (szL szCond a.If) (left - ((a.Name.size : Nat) : Int))) (rd_at hs hu4) (by first | assumption | omega | (unfold szm at *; split at * <;> omega)) (by first | assumption | omega | (unfold szm at *; split at * <;> omega)) ho.2.2.2)) ?_)
      refine p1 rfl ?_
      refine D_end ?_
      refine x_then ?_
      refine C_seq ?_
      refine C_seq ?_
      refine C_reg ?_
      refine p1 rfl <| p1 rfl ?_
      refine D_end ?_
      refine x_then ?_
      refine C_if _ rfl (fun h10 => ?_) (fun h10 => ?_)
      · have pr10 : ((szm (szL szAction a.Then) (szm (szL szCond a.If) (left - ((a.Name.size : Nat) : Int)))) : Int) < 0 := of_decide_eq_true h10
        refine C_seq ?_
        refine C_reg ?_
        refine p1 rfl ?_
        refine D_end ?_
        refine x_then ?_
        refine C_ret ?_
        refine x_then_ret ?_
        refine R_1 rfl rfl fun w' hs => ⟨congrArg (fun z => Ending.returned (Value.int .i64 z)) ?_, hs.bel⟩
        show ((-1) : Int) = szm (szRule a) left
        unfold szRule szm at *; repeat (split at * <;> try omega)
      · have pr10 : ¬ ((szm (szL szAction a.Then) (szm (szL szCond a.If) (left - ((a.Name.size : Nat) : Int)))) : Int) < 0 := of_decide_eq_false h10
        have pr10z := szm_val (n := (szL szAction a.Then)) (left := (szm (szL szCond a.If) (left - ((a.Name.size : Nat) : Int)))) pr10
        refine C_skip ?_
        refine x_then ?_
        refine C_seq ?_
        refine C_reg ?_
        refine p1 rfl <| p1 rfl ?_
        refine D_end ?_
        refine x_then ?_
        refine C_ret ?_
        refine R_1 rfl rfl fun w' hs => ⟨congrArg (fun z => Ending.returned (Value.int .i64 z)) ?_, hs.bel⟩
        show ((szm (szL szAction a.Then) (szm (szL szCond a.If) (left - ((a.Name.size : Nat) : Int)))) : Int) = szm (szRule a) left
        unfold szRule szm at *; repeat (split at * <;> try omega)

theorem laws_toRule (w : World) (c_a : List Value) (a : Rule) (h_a : Gd.rd w c_a a) (hn : szRule a ≤ 1048576) : Calls Tryz.prog 16 [(.agg c_a.toArray)].toArray w (Res w (a : Rule)) := by
  obtain ⟨u1, u3, rfl, hu2, hu4⟩ := open_Rule h_a
  have hm5 := rd_max hu2
  have hm6 := rd_max hu4
  unfold szRule at hn
  refine enter 19 Tryz.func16 rfl rfl rfl ?_
  refine C_seq ?_
  refine C_reg ?_
  refine li rfl (D_box rfl rfl rfl rfl rfl fun g7 => ?_)
  refine li rfl (D_alloc y_48 rfl rfl rfl rfl fun g8 => ?_)
  refine D_end ?_
  refine x_then ?_
  refine D_H ([bx g8 [(.string ⟨#[]⟩), (.int .i64 0), (.slice none 0 0), (.slice none 0 0)], bx g7 [(.string a.Name), (.int .i64 a.Priority), u1, u3]]) rfl ?_
  refine C_seq ?_
  refine C_reg ?_
  refine li rfl (D_alloc y_48 rfl rfl rfl rfl fun g9 => ?_)
  refine D_end ?_
  refine x_then ?_
  refine D_H ([bx g9 [(.string ⟨#[]⟩), (.int .i64 0), (.slice none 0 0), (.slice none 0 0)], bx g8 [(.string ⟨#[]⟩), (.int .i64 0), (.slice none 0 0), (.slice none 0 0)], bx g7 [(.string a.Name), (.int .i64 a.Priority), u1, u3]]) rfl ?_
  refine C_seq ?_
  refine C_reg ?_
  refine q1 rfl (D_fb f_42_0 rfl rfl (q := 0) rfl) ?_
  refine q1 rfl (lb 2 o_9 rfl rfl rfl rfl) ?_
  refine q1 rfl (D_fb f_48_0 rfl rfl (q := 0) rfl) ?_
  refine li rfl (D_stb (vs := [(.string a.Name)]) (cs' := [(.string a.Name), (.int .i64 0), (.slice none 0 0), (.slice none 0 0)]) 0 z_9 rfl rfl rfl rfl rfl rfl (ocons rfl onil) (by simp) rfl ?_)
  refine D_end ?_
  refine x_then ?_
  refine D_H ([bx g9 [(.string a.Name), (.int .i64 0), (.slice none 0 0), (.slice none 0 0)], bx g8 [(.string ⟨#[]⟩), (.int .i64 0), (.slice none 0 0), (.slice none 0 0)], bx g7 [(.string a.Name), (.int .i64 a.Priority), u1, u3]]) rfl ?_
  refine C_seq ?_
  refine C_reg ?_
  refine q1 rfl (D_fb f_42_1 rfl rfl (q := 1) rfl) ?_
  refine q1 rfl (lb 2 o_3 rfl rfl rfl rfl) ?_
  refine q1 rfl (D_fb f_48_1 rfl rfl (q := 1) rfl) ?_
  refine li rfl (D_stb (vs := [(.int .i64 a.Priority)]) (cs' := [(.string a.Name), (.int .i64 a.Priority), (.slice none 0 0), (.slice none 0 0)]) 0 z_3 rfl rfl rfl rfl rfl rfl (ocons rfl onil) (by simp) rfl ?_)
  refine D_end ?_
  refine x_then ?_
  refine D_H ([bx g9 [(.string a.Name), (.int .i64 a.Priority), (.slice none 0 0), (.slice none 0 0)], bx g8 [(.string ⟨#[]⟩), (.int .i64 0), (.slice none 0 0), (.slice none 0 0)], bx g7 [(.string a.Name), (.int .i64 a.Priority), u1, u3]]) rfl ?_
  refine C_seq ?_
  refine C_reg ?_
  refine q1 rfl (D_fb f_42_2 rfl rfl (q := 2) rfl) ?_
  refine q1 rfl (lb 2 o_39 rfl rfl rfl rfl) ?_
  refine li rfl (crl b_38 rfl rfl rfl rfl (fun w' hs => (laws_toCondS w' u1 a.If (rd_at hs hu2) (by first | assumption | omega | (unfold szm at *; split at * <;> omega)))) fun v10 => ?_)
  refine q1 rfl (D_fb f_48_2 rfl rfl (q := 2) rfl) ?_
  refine D_pre (fun w' hs => one_own (k := 0) hs rfl) ?_
  intro ho11
  refine li rfl (D_stb (vs := [v10]) (cs' := [(.string a.Name), (.int .i64 a.Priority), v10, (.slice none 0 0)]) 1 z_45 rfl rfl rfl rfl rfl (cells_of_one ho11) (ocons ho11 onil) (by simp) rfl ?_)
  refine D_end ?_
  refine x_then ?_
  refine D_H ([ov [v10] (a.If : (List Cond)), bx g9 [(.string a.Name), (.int .i64 a.Priority), v10, (.slice none 0 0)], bx g8 [(.string ⟨#[]⟩), (.int .i64 0), (.slice none 0 0), (.slice none 0 0)], bx g7 [(.string a.Name), (.int .i64 a.Priority), u1, u3]]) rfl ?_
  refine C_seq ?_
  refine C_reg ?_
  refine q1 rfl (D_fb f_42_3 rfl rfl (q := 3) rfl) ?_
  refine q1 rfl (lb 3 o_40 rfl rfl rfl rfl) ?_
  refine li rfl (crl b_39 rfl rfl rfl rfl (fun w' hs => (laws_toActionS w' u3 a.Then (rd_at hs hu4) (by first | assumption | omega | (unfold szm at *; split at * <;> omega)))) fun v12 => ?_)
  refine q1 rfl (D_fb f_48_3 rfl rfl (q := 3) rfl) ?_
  refine D_pre (fun w' hs => one_own (k := 0) hs rfl) ?_
  intro ho13
  refine li rfl (D_stb (vs := [v12]) (cs' := [(.string a.Name), (.int .i64 a.Priority), v10, v12]) 2 z_46 rfl rfl rfl rfl rfl (cells_of_one ho13) (ocons ho13 onil) (by simp) rfl ?_)
  refine D_end ?_
  refine x_then ?_
  refine D_weak [(2, (.pointer (some ⟨g8, 0, none⟩))), (3, (.pointer (some ⟨g9, 0, none⟩)))] ⟨rfl, rfl, trivial⟩ ?_
  refine D_sel (H' := [ov [v12] (a.Then : (List Action)), ov [v10] (a.If : (List Cond)), bx g9 [(.string a.Name), (.int .i64 a.Priority), v10, v12], bx g8 [(.string ⟨#[]⟩), (.int .i64 0), (.slice none 0 0), (.slice none 0 0)]]) [true, true, true, true, false] rfl ?_
  refine C_seq ?_
  refine C_reg ?_
  refine q1 rfl (lbw 2 a_48 rfl rfl rfl) ?_
  refine li rfl (D_stb (vs := [(.string a.Name), (.int .i64 a.Priority), v10, v12]) (cs' := [(.string a.Name), (.int .i64 a.Priority), v10, v12]) 3 z_48 rfl rfl rfl rfl rfl rfl (ocons rfl (ocons rfl (ocons ho11 (ocons ho13 onil)))) (by simp) rfl ?_)
  refine D_end ?_
  refine x_then ?_
  refine D_H ([ov [v12] (a.Then : (List Action)), ov [v10] (a.If : (List Cond)), bx g9 [(.string a.Name), (.int .i64 a.Priority), v10, v12], bx g8 [(.string a.Name), (.int .i64 a.Priority), v10, v12]]) rfl ?_
  refine C_ret ?_
  refine D_pk (H' := [ov [v10] (a.If : (List Cond)), ov [v12] (a.Then : (List Action)), bx g9 [(.string a.Name), (.int .i64 a.Priority), v10, v12], bx g8 [(.string a.Name), (.int .i64 a.Priority), v10, v12]]) [1, 0, 2, 3] rfl rfl ?_
  refine pk_Rule (r := (⟨a.Name, a.Priority, a.If, a.Then⟩ : Rule)) ?_
  refine R_c 2 a_48 rfl rfl rfl fun w' hs => res_of (k := 0) hs rfl ?_
  show (⟨a.Name, a.Priority, a.If, a.Then⟩ : Rule) = a
  rfl

theorem laws_eqRule (w : World) (c_a : List Value) (a : Rule) (c_b : List Value) (b : Rule) (h_a : Gd.rd w c_a a) (h_b : Gd.rd w c_b b) : Calls Tryz.prog 22 [(.agg c_a.toArray), (.agg c_b.toArray)].toArray w (Val w (.bool (decide (a = b)))) := by
  obtain ⟨u1, u3, rfl, hu2, hu4⟩ := open_Rule h_a
  have hm5 := rd_max hu2
  have hm6 := rd_max hu4
  obtain ⟨u7, u9, rfl, hu8, hu10⟩ := open_Rule h_b
  have hm11 := rd_max hu8
  have hm12 := rd_max hu10
  refine enter 27 Tryz.func22 rfl rfl rfl ?_
  refine C_seq ?_
  refine C_reg ?_
  refine li rfl (D_box rfl rfl rfl rfl rfl fun g13 => ?_)
  refine li rfl (D_box rfl rfl rfl rfl rfl fun g14 => ?_)
  refine p1 rfl ?_
  refine D_end ?_
  refine x_then ?_
  refine D_H ([bx g14 [(.string b.Name), (.int .i64 b.Priority), u7, u9], bx g13 [(.string a.Name), (.int .i64 a.Priority), u1, u3]]) rfl ?_
  refine C_seq ?_
  refine C_seq ?_
  refine C_reg ?_
  refine q1 rfl (D_fb f_48_0 rfl rfl (q := 0) rfl) ?_
  refine q1 rfl (lb 1 o_9 rfl rfl rfl rfl) ?_
  refine q1 rfl (D_fb f_48_0 rfl rfl (q := 0) rfl) ?_
  refine q1 rfl (lb 0 o_9 rfl rfl rfl rfl) ?_
  refine q1 rfl (D_neS rfl rfl rfl) ?_
  refine D_end ?_
  refine x_then ?_
  refine C_if _ rfl (fun h15 => ?_) (fun h15 => ?_)
  · have pr15 : ¬ (a.Name : ByteArray) = b.Name := of_decide_eq_false (not_t h15)
    refine C_seq ?_
    refine C_reg ?_
    refine p1 rfl ?_
    refine D_end ?_
    refine x_then ?_
    refine C_ret ?_
    refine x_then_ret ?_
    refine R_1 rfl rfl fun w' hs => ⟨congrArg (fun z => Ending.returned (Value.bool z)) ?_, hs.bel⟩
    show (false : Bool) = decide (a = b)
    cases a; cases b; simp_all
  · have pr15 : (a.Name : ByteArray) = b.Name := of_decide_eq_true (not_f h15)
    refine C_skip ?_
    refine x_then ?_
    refine C_seq ?_
    refine C_seq ?_
    refine C_reg ?_
    refine q1 rfl (D_fb f_48_1 rfl rfl (q := 1) rfl) ?_
    refine q1 rfl (lb 1 o_3 rfl rfl rfl rfl) ?_
    refine q1 rfl (D_fb f_48_1 rfl rfl (q := 1) rfl) ?_
    refine q1 rfl (lb 0 o_3 rfl rfl rfl rfl) ?_
    refine p1 rfl ?_
    refine D_end ?_
    refine x_then ?_
    refine C_if _ rfl (fun h16 => ?_) (fun h16 => ?_)
    · have pr16 : (a.Priority : Int) ≠ b.Priority := bne_iff_ne.1 h16
      refine C_seq ?_
      refine C_reg ?_
      refine p1 rfl ?_
      refine D_end ?_
      refine x_then ?_
      refine C_ret ?_
      refine x_then_ret ?_
      refine R_1 rfl rfl fun w' hs => ⟨congrArg (fun z => Ending.returned (Value.bool z)) ?_, hs.bel⟩
      show (false : Bool) = decide (a = b)
      cases a; cases b; simp_all
    · have pr16 : (a.Priority : Int) = b.Priority := eq_of_bne_f h16
      refine C_skip ?_
      refine x_then ?_
      refine C_seq ?_
      refine C_seq ?_
      refine C_reg ?_
      refine q1 rfl (D_fb f_48_2 rfl rfl (q := 2) rfl) ?_
      refine q1 rfl (lb 1 o_45 rfl rfl rfl rfl) ?_
      refine q1 rfl (D_fb f_48_2 rfl rfl (q := 2) rfl) ?_
      refine q1 rfl (lb 0 o_45 rfl rfl rfl rfl) ?_
      refine li rfl (cv b_46 rfl rfl rfl rfl (fun w' hs => (laws_eqCondS w' u1 a.If u7 b.If (rd_at hs hu2) (rd_at hs hu8))) ?_)
      refine p1 rfl ?_
      refine D_end ?_
      refine x_then ?_
      refine D_weak [(2, (.pointer (some ⟨g13, 0, none⟩))), (3, (.pointer (some ⟨g14, 0, none⟩))), (20, (.bool (!(decide (a.If = b.If)))))] ⟨rfl, rfl, rfl, trivial⟩ ?_
      refine C_if _ rfl (fun h17 => ?_) (fun h17 => ?_)
      · have h17n : (decide (a.If = b.If)) = false := not_t h17
        refine C_seq ?_
        refine C_reg ?_
        refine p1 rfl ?_
        refine D_end ?_
        refine x_then ?_
        refine C_ret ?_
        refine x_then_ret ?_
        refine R_1 rfl rfl fun w' hs => ⟨congrArg (fun z => Ending.returned (Value.bool z)) ?_, hs.bel⟩
        show (false : Bool) = decide (a = b)
        cases a; cases b; simp_all
      · have h17n : (decide (a.If = b.If)) = true := not_f h17
        refine C_skip ?_
        refine x_then ?_
        refine C_seq ?_
        refine C_seq ?_
        refine C_reg ?_
        refine q1 rfl (D_fb f_48_3 rfl rfl (q := 3) rfl) ?_
        refine q1 rfl (lb 1 o_46 rfl rfl rfl rfl) ?_
        refine q1 rfl (D_fb f_48_3 rfl rfl (q := 3) rfl) ?_
        refine q1 rfl (lb 0 o_46 rfl rfl rfl rfl) ?_
        refine li rfl (cv b_47 rfl rfl rfl rfl (fun w' hs => (laws_eqActionS w' u3 a.Then u9 b.Then (rd_at hs hu4) (rd_at hs hu10))) ?_)
        refine p1 rfl ?_
        refine D_end ?_
        refine x_then ?_
        refine C_if _ rfl (fun h18 => ?_) (fun h18 => ?_)
        · have h18n : (decide (a.Then = b.Then)) = false := not_t h18
          refine C_seq ?_
          refine C_reg ?_
          refine p1 rfl ?_
          refine D_end ?_
          refine x_then ?_
          refine C_ret ?_
          refine x_then_ret ?_
          refine R_1 rfl rfl fun w' hs => ⟨congrArg (fun z => Ending.returned (Value.bool z)) ?_, hs.bel⟩
          show (false : Bool) = decide (a = b)
          cases a; cases b; simp_all
        · have h18n : (decide (a.Then = b.Then)) = true := not_f h18
          refine C_skip ?_
          refine x_then ?_
          refine C_seq ?_
          refine C_reg ?_
          refine p1 rfl ?_
          refine D_end ?_
          refine x_then ?_
          refine C_ret ?_
          refine R_1 rfl rfl fun w' hs => ⟨congrArg (fun z => Ending.returned (Value.bool z)) ?_, hs.bel⟩
          show (true : Bool) = decide (a = b)
          cases a; cases b; simp_all

theorem laws_eqStamp (w : World) (c_a : List Value) (a : Stamp) (c_b : List Value) (b : Stamp) (h_a : Gd.rd w c_a a) (h_b : Gd.rd w c_b b) : Calls Tryz.prog 43 [(.agg c_a.toArray), (.agg c_b.toArray)].toArray w (Val w (.bool (decide (a = b)))) := by
  obtain ⟨u1, rfl, hu2⟩ := open_Stamp h_a
  have hm3 := rd_max hu2
  have hb4 := sub_Stamp_Fact h_a
  obtain ⟨u5, rfl, hu6⟩ := open_Stamp h_b
  have hm7 := rd_max hu6
  have hb8 := sub_Stamp_Fact h_b
  refine enter 16 Tryz.func43 rfl rfl rfl ?_
  refine C_seq ?_
  refine C_reg ?_
  refine li rfl (D_box rfl rfl rfl rfl rfl fun g9 => ?_)
  refine li rfl (D_box rfl rfl rfl rfl rfl fun g10 => ?_)
  refine p1 rfl ?_
  refine D_end ?_
  refine x_then ?_
  refine D_H ([bx g10 [(.string b.Fact.Rel), u5, (.int .i64 b.Time)], bx g9 [(.string a.Fact.Rel), u1, (.int .i64 a.Time)]]) rfl ?_
  refine C_seq ?_
  refine C_seq ?_
  refine C_reg ?_
  refine q1 rfl (D_fb f_72_0 rfl rfl (q := 0) rfl) ?_
  refine q1 rfl (lba (es := [(.string a.Fact.Rel), u1]) 1 a_70 rfl rfl rfl rfl) ?_
  refine q1 rfl (D_fb f_72_0 rfl rfl (q := 0) rfl) ?_
  refine q1 rfl (lba (es := [(.string b.Fact.Rel), u5]) 0 a_70 rfl rfl rfl rfl) ?_
  refine li rfl (cv b_82 rfl rfl rfl rfl (fun w' hs => (laws_eqFact w' [(.string a.Fact.Rel), u1] a.Fact [(.string b.Fact.Rel), u5] b.Fact (rd_at hs hb4) (rd_at hs hb8))) ?_)
  refine p1 rfl ?_
  refine D_end ?_
  refine x_then ?_
  refine C_if _ rfl (fun h11 => ?_) (fun h11 => ?_)
  · have h11n : (decide (a.Fact = b.Fact)) = false := not_t h11
    refine C_seq ?_
    refine C_reg ?_
    refine p1 rfl ?_
    refine D_end ?_
    refine x_then ?_
    refine C_ret ?_
    refine x_then_ret ?_
    refine R_1 rfl rfl fun w' hs => ⟨congrArg (fun z => Ending.returned (Value.bool z)) ?_, hs.bel⟩
    show (false : Bool) = decide (a = b)
    cases a; cases b; simp_all
  · have h11n : (decide (a.Fact = b.Fact)) = true := not_f h11
    refine C_skip ?_
    refine x_then ?_
    refine C_seq ?_
    refine C_seq ?_
    refine C_reg ?_
    refine q1 rfl (D_fb f_72_1 rfl rfl (q := 2) rfl) ?_
    refine q1 rfl (lb 1 o_3 rfl rfl rfl rfl) ?_
    refine q1 rfl (D_fb f_72_1 rfl rfl (q := 2) rfl) ?_
    refine q1 rfl (lb 0 o_3 rfl rfl rfl rfl) ?_
    refine p1 rfl ?_
    refine D_end ?_
    refine x_then ?_
    refine D_weak [(15, (.bool ((a.Time : Int) != b.Time)))] ⟨rfl, trivial⟩ ?_
    refine D_sel (H' := []) [false, false] rfl ?_
    refine C_if _ rfl (fun h12 => ?_) (fun h12 => ?_)
    · have pr12 : (a.Time : Int) ≠ b.Time := bne_iff_ne.1 h12
      refine C_seq ?_
      refine C_reg ?_
      refine p1 rfl ?_
      refine D_end ?_
      refine x_then ?_
      refine C_ret ?_
      refine x_then_ret ?_
      refine R_1 rfl rfl fun w' hs => ⟨congrArg (fun z => Ending.returned (Value.bool z)) ?_, hs.bel⟩
      show (false : Bool) = decide (a = b)
      cases a; cases b; simp_all
    · have pr12 : (a.Time : Int) = b.Time := eq_of_bne_f h12
      refine C_skip ?_
      refine x_then ?_
      refine C_seq ?_
      refine C_reg ?_
      refine p1 rfl ?_
      refine D_end ?_
      refine x_then ?_
      refine C_ret ?_
      refine R_1 rfl rfl fun w' hs => ⟨congrArg (fun z => Ending.returned (Value.bool z)) ?_, hs.bel⟩
      show (true : Bool) = decide (a = b)
      cases a; cases b; simp_all

theorem laws_eqFiring (w : World) (c_a : List Value) (a : Firing) (c_b : List Value) (b : Firing) (h_a : Gd.rd w c_a a) (h_b : Gd.rd w c_b b) : Calls Tryz.prog 44 [(.agg c_a.toArray), (.agg c_b.toArray)].toArray w (Val w (.bool (decide (a = b)))) := by
  obtain ⟨u1, rfl, hu2⟩ := open_Firing h_a
  have hm3 := rd_max hu2
  obtain ⟨u4, rfl, hu5⟩ := open_Firing h_b
  have hm6 := rd_max hu5
  refine enter 16 Tryz.func44 rfl rfl rfl ?_
  refine C_seq ?_
  refine C_reg ?_
  refine li rfl (D_box rfl rfl rfl rfl rfl fun g7 => ?_)
  refine li rfl (D_box rfl rfl rfl rfl rfl fun g8 => ?_)
  refine p1 rfl ?_
  refine D_end ?_
  refine x_then ?_
  refine D_H ([bx g8 [(.string b.Rule), u4], bx g7 [(.string a.Rule), u1]]) rfl ?_
  refine C_seq ?_
  refine C_seq ?_
  refine C_reg ?_
  refine q1 rfl (D_fb f_76_0 rfl rfl (q := 0) rfl) ?_
  refine q1 rfl (lb 1 o_9 rfl rfl rfl rfl) ?_
  refine q1 rfl (D_fb f_76_0 rfl rfl (q := 0) rfl) ?_
  refine q1 rfl (lb 0 o_9 rfl rfl rfl rfl) ?_
  refine q1 rfl (D_neS rfl rfl rfl) ?_
  refine D_end ?_
  refine x_then ?_
  refine C_if _ rfl (fun h9 => ?_) (fun h9 => ?_)
  · have pr9 : ¬ (a.Rule : ByteArray) = b.Rule := of_decide_eq_false (not_t h9)
    refine C_seq ?_
    refine C_reg ?_
    refine p1 rfl ?_
    refine D_end ?_
    refine x_then ?_
    refine C_ret ?_
    refine x_then_ret ?_
    refine R_1 rfl rfl fun w' hs => ⟨congrArg (fun z => Ending.returned (Value.bool z)) ?_, hs.bel⟩
    show (false : Bool) = decide (a = b)
    cases a; cases b; simp_all
  · have pr9 : (a.Rule : ByteArray) = b.Rule := of_decide_eq_true (not_f h9)
    refine C_skip ?_
    refine x_then ?_
    refine C_seq ?_
    refine C_seq ?_
    refine C_reg ?_
    refine q1 rfl (D_fb f_76_1 rfl rfl (q := 1) rfl) ?_
    refine q1 rfl (lb 1 o_74 rfl rfl rfl rfl) ?_
    refine q1 rfl (D_fb f_76_1 rfl rfl (q := 1) rfl) ?_
    refine q1 rfl (lb 0 o_74 rfl rfl rfl rfl) ?_
    refine li rfl (cv b_83 rfl rfl rfl rfl (fun w' hs => (laws_eqIntS w' u1 a.Times u4 b.Times (rd_at hs hu2) (rd_at hs hu5))) ?_)
    refine p1 rfl ?_
    refine D_end ?_
    refine x_then ?_
    refine D_weak [(15, (.bool (!(decide (a.Times = b.Times)))))] ⟨rfl, trivial⟩ ?_
    refine D_sel (H' := []) [false, false] rfl ?_
    refine C_if _ rfl (fun h10 => ?_) (fun h10 => ?_)
    · have h10n : (decide (a.Times = b.Times)) = false := not_t h10
      refine C_seq ?_
      refine C_reg ?_
      refine p1 rfl ?_
      refine D_end ?_
      refine x_then ?_
      refine C_ret ?_
      refine x_then_ret ?_
      refine R_1 rfl rfl fun w' hs => ⟨congrArg (fun z => Ending.returned (Value.bool z)) ?_, hs.bel⟩
      show (false : Bool) = decide (a = b)
      cases a; cases b; simp_all
    · have h10n : (decide (a.Times = b.Times)) = true := not_f h10
      refine C_skip ?_
      refine x_then ?_
      refine C_seq ?_
      refine C_reg ?_
      refine p1 rfl ?_
      refine D_end ?_
      refine x_then ?_
      refine C_ret ?_
      refine R_1 rfl rfl fun w' hs => ⟨congrArg (fun z => Ending.returned (Value.bool z)) ?_, hs.bel⟩
      show (true : Bool) = decide (a = b)
      cases a; cases b; simp_all

theorem laws_szRuleS (w : World) (v_a : Value) (a : (List Rule)) (left : Int) (h_a : Gd.rd w [v_a] a) (h0 : 0 ≤ left) (h1 : left ≤ 1048576) (ho : okL okRule a) : Calls Tryz.prog 4 [v_a, (.int .i64 left)].toArray w (Val w (.int .i64 (szm (szL szRule a) left))) := by
  have hm1 := rd_max h_a
  refine enter 27 Tryz.func4 rfl rfl rfl ?_
  refine C_seq ?_
  refine C_reg ?_
  refine p1 rfl ?_
  refine D_end ?_
  refine x_then ?_
  refine C_seq ?_
  refine C_reg ?_
  refine p1 rfl <| p1 rfl ?_
  refine q1 rfl (D_len s_22 rfl rfl (rd_sl h_a)) ?_
  refine q1 rfl (D_sub rfl rfl rfl rfl (by omega)) ?_
  refine p1 rfl ?_
  refine D_end ?_
  refine x_then ?_
  refine C_seq ?_
  refine C_seq ?_
  refine C_reg ?_
  refine p1 rfl <| p1 rfl ?_
  refine D_end ?_
  refine x_then ?_
  refine C_if _ rfl (fun h2 => ?_) (fun h2 => ?_)
  · have pr2 : ((left - ((a.length : Nat) : Int)) : Int) < 0 := of_decide_eq_true h2
    refine C_seq ?_
    refine C_reg ?_
    refine p1 rfl ?_
    refine D_end ?_
    refine x_then ?_
    refine C_ret ?_
    refine x_then_ret ?_
    refine R_1 rfl rfl fun w' hs => ⟨congrArg (fun z => Ending.returned (Value.int .i64 z)) ?_, hs.bel⟩
    show ((-1) : Int) = szm (szL szRule a) left
    refine (szm_neg ?_).symm; unfold szL; omega
  · have pr2 : ¬ ((left - ((a.length : Nat) : Int)) : Int) < 0 := of_decide_eq_false h2
    refine C_skip ?_
    refine x_then ?_
    refine C_seq ?_
    refine C_seq ?_
    refine C_reg ?_
    refine p1 rfl ?_
    refine D_end ?_
    refine x_then ?_
    refine C_block ?_
    refine C_loop (fun m_ ac w' => ∃ (k : Nat), ∃ (lf : Int), (k ≤ a.length) ∧ (0 ≤ lf ∧ lf = left - a.length - sumC szRule (a.take k)) ∧ m_ = a.length - k ∧ Fits ac 27 [(0, v_a), (1, (.int .i64 lf)), (5, (.int .i64 ((k : Nat) : Int)))] ∧ St w ([]) w') ?_ ?_
    · refine fun ac w' hf hs => ⟨_, 0, (left - ((a.length : Nat) : Int)), ?_, ?_, rfl, hf.weak ⟨rfl, rfl, rfl, trivial⟩, hs⟩
      · first | assumption | omega | simp
      · simp [sumC]; omega
    · rintro m_ ac w' ⟨k, lf, hk, hl, rfl, hf, hs⟩
      refine D.use ?_ hf hs
      clear hf hs ac w'
      have ht := sumC_take_le a szRule k
      refine C_seq ?_
      refine C_seq ?_
      refine C_reg ?_
      refine p1 rfl <| p1 rfl ?_
      refine q1 rfl (D_len s_22 rfl rfl (rd_sl h_a)) ?_
      refine p1 rfl ?_
      refine D_end ?_
      refine x_then ?_
      refine C_if _ rfl (fun h3 => ?_) (fun h3 => ?_)
      · have pr3 : (((k : Nat) : Int) : Int) < ((a.length : Nat) : Int) := of_decide_eq_true h3
        refine C_skip ?_
        refine x_then ?_
        refine C_seq ?_
        refine C_block ?_
        refine C_seq ?_
        refine C_reg ?_
        refine p1 rfl <| p1 rfl ?_
        obtain ⟨r0, hr0⟩ := some_of_lt (l := a) (i := k) (by omega)
        have hro := ho _ (List.mem_of_getElem? hr0)
        have ht1 := sumC_take_le a szRule (k + 1)
        have hst := sumC_take (c := szRule) hr0
        obtain ⟨es4, at5, hr6⟩ := rd_elem (n := 4) rfl h_a hr0
        obtain ⟨u7, u9, rfl, hu8, hu10⟩ := open_Rule hr6
        have hm11 := rd_max hu8
        have hm12 := rd_max hu10
        refine q1 rfl (D_ix (l := a) (j := k) s_22 rfl rfl rfl (fun w' hs => (rd_at hs h_a)) rfl (lt_of_some hr0)) ?_
        refine q1 rfl (lra a_42 rfl rfl at5) ?_
        refine p1 rfl ?_
        refine li rfl (cv b_13 rfl rfl rfl rfl (fun w' hs => (laws_szRule w' [(.string r0.Name), (.int .i64 r0.Priority), u7, u9] r0 lf (rd_at hs hr6) (by first | assumption | omega | (unfold szm at *; split at * <;> omega)) (by first | assumption | omega | (unfold szm at *; split at * <;> omega)) hro)) ?_)
        refine p1 rfl ?_
        refine D_end ?_
        refine x_then ?_
        refine C_seq ?_
        refine C_reg ?_
        refine p1 rfl <| p1 rfl ?_
        refine D_end ?_
        refine x_then ?_
        refine C_if _ rfl (fun h13 => ?_) (fun h13 => ?_)
        · have pr13 : ((szm (szRule r0) lf) : Int) < 0 := of_decide_eq_true h13
          refine C_seq ?_
          refine C_reg ?_
          refine p1 rfl ?_
          refine D_end ?_
          refine x_then ?_
          refine D_weak [(4, (.int .i64 (-1)))] ⟨rfl, trivial⟩ ?_
          refine C_ret ?_
          refine x_blk_ret ?_
          refine x_then_ret ?_
          refine x_then_ret ?_
          refine x_blk_ret ?_
          refine x_then_ret ?_
          refine R_1 rfl rfl fun w' hs => ⟨congrArg (fun z => Ending.returned (Value.int .i64 z)) ?_, hs.bel⟩
          show ((-1) : Int) = szm (szL szRule a) left
          refine (szm_neg ?_).symm; unfold szL; unfold szm at *; split at * <;> omega
        · have pr13 : ¬ ((szm (szRule r0) lf) : Int) < 0 := of_decide_eq_false h13
          have pr13z := szm_val (n := (szRule r0)) (left := lf) pr13
          refine C_skip ?_
          refine x_blk ?_
          refine x_then ?_
          refine C_reg ?_
          refine p1 rfl ?_
          refine q1 rfl (D_add rfl rfl rfl (r := ((k + 1 : Nat) : Int)) (by omega) (by omega)) ?_
          refine p1 rfl ?_
          refine D_end ?_
          refine x_then ?_
          refine fun ac w' hf hs => ⟨_, ?_, k + 1, (szm (szRule r0) lf), ?_, ?_, rfl, hf.weak ⟨rfl, rfl, rfl, trivial⟩, hs⟩
          · omega
          · first | assumption | omega | simp
          · rw [hst]; unfold szm at *; split at * <;> omega
      · have pr3 : ¬ (((k : Nat) : Int) : Int) < ((a.length : Nat) : Int) := of_decide_eq_false h3
        refine C_exit ?_
        refine x_then_exit ?_
        refine x_then_exit ?_
        refine x_blk_eq ?_
        refine x_then ?_
        refine C_seq ?_
        refine C_reg ?_
        refine p1 rfl <| p1 rfl ?_
        refine D_end ?_
        refine x_then ?_
        refine C_ret ?_
        refine R_1 rfl rfl fun w' hs => ⟨congrArg (fun z => Ending.returned (Value.int .i64 z)) ?_, hs.bel⟩
        show (lf : Int) = szm (szL szRule a) left
        rw [szm_pos]; all_goals (unfold szL; rw [List.take_of_length_le (by omega)] at hl; omega)

theorem laws_toRuleS (w : World) (v_a : Value) (a : (List Rule)) (h_a : Gd.rd w [v_a] a) (hn : szL szRule a ≤ 1048576) : Calls Tryz.prog 6 [v_a].toArray w (Res w (a : List Rule)) := by
  have hm1 := rd_max h_a
  unfold szL at hn
  refine enter 23 Tryz.func6 rfl rfl rfl ?_
  refine C_seq ?_
  refine C_reg ?_
  refine p1 rfl ?_
  refine D_end ?_
  refine x_then ?_
  refine C_seq ?_
  refine C_reg ?_
  refine p1 rfl ?_
  refine q1 rfl (D_len s_22 rfl rfl (rd_sl h_a)) ?_
  refine li rfl (D_mkG (α := Rule) (z0 := z0_Rule) s_24 y_48 rfl rfl rfl rfl rfl rfl zz_Rule (by omega) (by omega) fun v2 => ?_)
  refine p1 rfl ?_
  refine D_end ?_
  refine x_then ?_
  refine D_H ([ov [v2] (List.replicate a.length z0_Rule : (List Rule))]) rfl ?_
  refine C_seq ?_
  refine C_seq ?_
  refine C_reg ?_
  refine p1 rfl ?_
  refine D_end ?_
  refine x_then ?_
  refine C_block ?_
  refine C_loop (fun m_ ac w' => ∃ (k : Nat), ∃ (v : Value), (k ≤ a.length) ∧ m_ = a.length - k ∧ Fits ac 23 [(0, v_a), (3, v), (4, (.int .i64 ((k : Nat) : Int)))] ∧ St w ([ov [v] (cp a z0_Rule k : (List Rule))]) w') ?_ ?_
  · refine D_eq 0 rfl (show (List.replicate a.length z0_Rule : (List Rule)) = cp a z0_Rule 0 from by rw [cp_zero]) ?_
    refine fun ac w' hf hs => ⟨_, 0, v2, ?_, rfl, hf.weak ⟨rfl, rfl, rfl, trivial⟩, hs⟩
    · first | assumption | omega | simp
  · rintro m_ ac w' ⟨k, v, hk, rfl, hf, hs⟩
    refine D.use ?_ hf hs
    clear hf hs ac w'
    have hcl := cp_len a z0_Rule k hk
    refine C_seq ?_
    refine C_seq ?_
    refine C_reg ?_
    refine p1 rfl <| p1 rfl ?_
    refine q1 rfl (D_len s_22 rfl rfl (rd_sl h_a)) ?_
    refine p1 rfl ?_
    refine D_end ?_
    refine x_then ?_
    refine D_H ([ov [v] (cp a z0_Rule k : (List Rule))]) rfl ?_
    refine C_if _ rfl (fun h3 => ?_) (fun h3 => ?_)
    · have pr3 : (((k : Nat) : Int) : Int) < ((a.length : Nat) : Int) := of_decide_eq_true h3
      refine C_skip ?_
      refine x_then ?_
      refine C_seq ?_
      refine C_block ?_
      refine C_reg ?_
      refine p1 rfl <| p1 rfl <| p1 rfl <| p1 rfl ?_
      obtain ⟨x4, hx5⟩ := some_of_lt (l := a) (i := k) (by omega)
      have hle := sumC_mem (c := szRule) (mem_idx hx5)
      obtain ⟨es6, at7, hr8⟩ := rd_elem (n := 4) rfl h_a hx5
      obtain ⟨u9, u11, rfl, hu10, hu12⟩ := open_Rule hr8
      have hm13 := rd_max hu10
      have hm14 := rd_max hu12
      refine q1 rfl (D_ix (l := a) (j := k) s_22 rfl rfl rfl (fun w' hs => (rd_at hs h_a)) rfl (lt_of_some hx5)) ?_
      refine q1 rfl (lra a_42 rfl rfl at7) ?_
      refine li rfl (crs rfl b_16 rfl rfl rfl rfl (fun w' hs => (laws_toRule w' [(.string x4.Name), (.int .i64 x4.Priority), u9, u11] x4 (rd_at hs hr8) (by first | assumption | omega | (unfold szm at *; split at * <;> omega)))) fun cs15 => ?_)
      refine D_pre (fun w' hs => shape_Rule (rd_own (k := 0) hs rfl)) ?_
      rintro ⟨v16, v17, rfl, ho18, ho19⟩
      obtain ⟨x20, hx21⟩ := some_of_lt (l := (cp a z0_Rule k)) (i := k) (by omega)
      refine q1 rfl (D_ix (l := (cp a z0_Rule k)) (j := k) s_24 rfl rfl rfl (fun w' hs => (rd_own (k := 1) hs rfl)) rfl (lt_of_some hx21)) ?_
      refine D_pk (H' := [ov [v] (cp a z0_Rule k : (List Rule)), ov [(.string x4.Name), (.int .i64 x4.Priority), v16, v17] (x4 : Rule)]) [1, 0] rfl rfl ?_
      refine li rfl (soG (α := Rule) rfl z_48 rfl rfl rfl rfl rfl (lt_of_some hx21) ?_)
      refine D_end ?_
      refine x_blk ?_
      refine x_then ?_
      refine D_H ([ov [v] ((cp a z0_Rule k).set k x4 : (List Rule))]) rfl ?_
      refine C_reg ?_
      refine p1 rfl ?_
      refine q1 rfl (D_add rfl rfl rfl (r := ((k + 1 : Nat) : Int)) (by omega) (by omega)) ?_
      refine p1 rfl ?_
      refine D_end ?_
      refine x_then ?_
      refine D_eq 0 rfl (show ((cp a z0_Rule k).set k x4 : (List Rule)) = cp a z0_Rule (k + 1) from by rw [cp_set (by assumption)]) ?_
      refine fun ac w' hf hs => ⟨_, ?_, k + 1, v, ?_, rfl, hf.weak ⟨rfl, rfl, rfl, trivial⟩, hs⟩
      · omega
      · first | assumption | omega | simp
    · have pr3 : ¬ (((k : Nat) : Int) : Int) < ((a.length : Nat) : Int) := of_decide_eq_false h3
      refine C_exit ?_
      refine x_then_exit ?_
      refine x_then_exit ?_
      refine x_blk_eq ?_
      refine x_then ?_
      refine C_seq ?_
      refine C_reg ?_
      refine p1 rfl <| p1 rfl ?_
      refine D_end ?_
      refine x_then ?_
      refine C_ret ?_
      refine R_1 rfl rfl fun w' hs => res_of (k := 0) hs rfl ?_
      show cp a z0_Rule k = a
      exact cp_done (by omega)

theorem laws_eqRuleS (w : World) (v_a : Value) (a : (List Rule)) (v_b : Value) (b : (List Rule)) (h_a : Gd.rd w [v_a] a) (h_b : Gd.rd w [v_b] b) : Calls Tryz.prog 9 [v_a, v_b].toArray w (Val w (.bool (decide (a = b)))) := by
  have hm1 := rd_max h_a
  have hm2 := rd_max h_b
  refine enter 27 Tryz.func9 rfl rfl rfl ?_
  refine C_seq ?_
  refine C_reg ?_
  refine p1 rfl ?_
  refine D_end ?_
  refine x_then ?_
  refine C_seq ?_
  refine C_seq ?_
  refine C_reg ?_
  refine p1 rfl ?_
  refine q1 rfl (D_len s_24 rfl rfl (rd_sl h_a)) ?_
  refine p1 rfl ?_
  refine q1 rfl (D_len s_24 rfl rfl (rd_sl h_b)) ?_
  refine p1 rfl ?_
  refine D_end ?_
  refine x_then ?_
  refine C_if _ rfl (fun h3 => ?_) (fun h3 => ?_)
  · have pr3 : (((a.length : Nat) : Int) : Int) ≠ ((b.length : Nat) : Int) := bne_iff_ne.1 h3
    refine C_seq ?_
    refine C_reg ?_
    refine p1 rfl ?_
    refine D_end ?_
    refine x_then ?_
    refine C_ret ?_
    refine x_then_ret ?_
    refine R_1 rfl rfl fun w' hs => ⟨congrArg (fun z => Ending.returned (Value.bool z)) ?_, hs.bel⟩
    show (false : Bool) = decide (a = b)
    simp; intro e; subst e; simp_all
  · have pr3 : (((a.length : Nat) : Int) : Int) = ((b.length : Nat) : Int) := eq_of_bne_f h3
    refine C_skip ?_
    refine x_then ?_
    refine C_seq ?_
    refine C_seq ?_
    refine C_reg ?_
    refine p1 rfl ?_
    refine D_end ?_
    refine x_then ?_
    refine C_block ?_
    refine C_loop (fun m_ ac w' => ∃ (k : Nat), (k ≤ a.length) ∧ (∀ i, i < k → a[i]? = b[i]?) ∧ m_ = a.length - k ∧ Fits ac 27 [(0, v_a), (1, v_b), (5, (.int .i64 ((k : Nat) : Int)))] ∧ St w ([]) w') ?_ ?_
    · refine fun ac w' hf hs => ⟨_, 0, ?_, ?_, rfl, hf.weak ⟨rfl, rfl, rfl, trivial⟩, hs⟩
      · first | assumption | omega | simp
      · intro i hi; omega
    · rintro m_ ac w' ⟨k, hk, hi, rfl, hf, hs⟩
      refine D.use ?_ hf hs
      clear hf hs ac w'
      refine C_seq ?_
      refine C_seq ?_
      refine C_reg ?_
      refine p1 rfl <| p1 rfl ?_
      refine q1 rfl (D_len s_24 rfl rfl (rd_sl h_a)) ?_
      refine p1 rfl ?_
      refine D_end ?_
      refine x_then ?_
      refine C_if _ rfl (fun h4 => ?_) (fun h4 => ?_)
      · have pr4 : (((k : Nat) : Int) : Int) < ((a.length : Nat) : Int) := of_decide_eq_true h4
        refine C_skip ?_
        refine x_then ?_
        refine C_seq ?_
        refine C_block ?_
        refine C_seq ?_
        refine C_draw mixed [8, 9] (by kernel_rfl) ?_
        refine tk 0 rfl (by kernel_rfl) (by kernel_rfl) (by kernel_rfl) rfl (fun _ hs => hs) (rp rfl) ?_
        refine tk 1 rfl (by kernel_rfl) (by kernel_rfl) (by kernel_rfl) rfl (fun _ hs => hs) (rp rfl) ?_
        obtain ⟨x5, hx6⟩ := some_of_lt (l := a) (i := k) (by omega)
        obtain ⟨es7, at8, hr9⟩ := rd_elem (n := 4) rfl h_a hx6
        obtain ⟨u10, u12, rfl, hu11, hu13⟩ := open_Rule hr9
        have hm14 := rd_max hu11
        have hm15 := rd_max hu13
        refine tk 2 rfl (by kernel_rfl) (by kernel_rfl) (by kernel_rfl) rfl (fun _ hs => hs) (D_ix (l := a) (j := k) s_24 rfl rfl rfl (fun w' hs => (rd_at hs h_a)) rfl (lt_of_some hx6)) ?_
        refine tk 3 rfl (by kernel_rfl) (by kernel_rfl) (by kernel_rfl) rfl (fun _ hs => hs) (lra a_48 rfl rfl at8) ?_
        refine tk 4 rfl (by kernel_rfl) (by kernel_rfl) (by kernel_rfl) rfl (fun _ hs => hs) (rp rfl) ?_
        refine tk 5 rfl (by kernel_rfl) (by kernel_rfl) (by kernel_rfl) rfl (fun _ hs => hs) (rp rfl) ?_
        obtain ⟨x16, hx17⟩ := some_of_lt (l := b) (i := k) (by omega)
        obtain ⟨es18, at19, hr20⟩ := rd_elem (n := 4) rfl h_b hx17
        obtain ⟨u21, u23, rfl, hu22, hu24⟩ := open_Rule hr20
        have hm25 := rd_max hu22
        have hm26 := rd_max hu24
        refine tk 6 rfl (by kernel_rfl) (by kernel_rfl) (by kernel_rfl) rfl (fun _ hs => hs) (D_ix (l := b) (j := k) s_24 rfl rfl rfl (fun w' hs => (rd_at hs h_b)) rfl (lt_of_some hx17)) ?_
        refine tk 7 rfl (by kernel_rfl) (by kernel_rfl) (by kernel_rfl) rfl (fun _ hs => hs) (lra a_48 rfl rfl at19) ?_
        refine ty 8 rfl (by kernel_rfl) rfl (cv b_22 rfl rfl rfl rfl (fun w' hs => (laws_eqRule w' [(.string x5.Name), (.int .i64 x5.Priority), u10, u12] x5 [(.string x16.Name), (.int .i64 x16.Priority), u21, u23] x16 (rd_at hs hr9) (rd_at hs hr20))) ?_)
        refine tZ rfl ?_
        refine ty 9 rfl (by kernel_rfl) rfl (sv rfl rfl (rp rfl) ?_)
        refine tZ rfl ?_
        refine tE (by kernel_rfl) ?_
        refine x_then ?_
        refine C_if _ rfl (fun h27 => ?_) (fun h27 => ?_)
        · have h27n : (decide (x5 = x16)) = false := not_t h27
          refine C_seq ?_
          refine C_reg ?_
          refine p1 rfl ?_
          refine D_end ?_
          refine x_then ?_
          refine D_weak [(4, (.bool false))] ⟨rfl, trivial⟩ ?_
          refine C_ret ?_
          refine x_blk_ret ?_
          refine x_then_ret ?_
          refine x_then_ret ?_
          refine x_blk_ret ?_
          refine x_then_ret ?_
          refine R_1 rfl rfl fun w' hs => ⟨congrArg (fun z => Ending.returned (Value.bool z)) ?_, hs.bel⟩
          show (false : Bool) = decide (a = b)
          simp; intro e; subst e; simp_all
        · have h27n : (decide (x5 = x16)) = true := not_f h27
          refine C_skip ?_
          refine x_blk ?_
          refine x_then ?_
          refine C_reg ?_
          refine p1 rfl ?_
          refine q1 rfl (D_add rfl rfl rfl (r := ((k + 1 : Nat) : Int)) (by omega) (by omega)) ?_
          refine p1 rfl ?_
          refine D_end ?_
          refine x_then ?_
          refine fun ac w' hf hs => ⟨_, ?_, k + 1, ?_, ?_, rfl, hf.weak ⟨rfl, rfl, rfl, trivial⟩, hs⟩
          · omega
          · first | assumption | omega | simp
          · refine idx_step hi (by assumption) (by assumption) ?_; first | (simp_all; done) | (apply Fact.mk_eq <;> simp_all)
      · have pr4 : ¬ (((k : Nat) : Int) : Int) < ((a.length : Nat) : Int) := of_decide_eq_false h4
        refine C_exit ?_
        refine x_then_exit ?_
        refine x_then_exit ?_
        refine x_blk_eq ?_
        refine x_then ?_
        refine C_seq ?_
        refine C_reg ?_
        refine p1 rfl ?_
        refine D_end ?_
        refine x_then ?_
        refine C_ret ?_
        refine R_1 rfl rfl fun w' hs => ⟨congrArg (fun z => Ending.returned (Value.bool z)) ?_, hs.bel⟩
        show (true : Bool) = decide (a = b)
        simp; exact eq_of_idx (by omega) (fun i h => hi i (by omega))

theorem laws_eqStampS (w : World) (v_a : Value) (a : (List Stamp)) (v_b : Value) (b : (List Stamp)) (h_a : Gd.rd w [v_a] a) (h_b : Gd.rd w [v_b] b) : Calls Tryz.prog 19 [v_a, v_b].toArray w (Val w (.bool (decide (a = b)))) := by
  have hm1 := rd_max h_a
  have hm2 := rd_max h_b
  refine enter 27 Tryz.func19 rfl rfl rfl ?_
  refine C_seq ?_
  refine C_reg ?_
  refine p1 rfl ?_
  refine D_end ?_
  refine x_then ?_
  refine C_seq ?_
  refine C_seq ?_
  refine C_reg ?_
  refine p1 rfl ?_
  refine q1 rfl (D_len s_25 rfl rfl (rd_sl h_a)) ?_
  refine p1 rfl ?_
  refine q1 rfl (D_len s_25 rfl rfl (rd_sl h_b)) ?_
  refine p1 rfl ?_
  refine D_end ?_
  refine x_then ?_
  refine C_if _ rfl (fun h3 => ?_) (fun h3 => ?_)
  · have pr3 : (((a.length : Nat) : Int) : Int) ≠ ((b.length : Nat) : Int) := bne_iff_ne.1 h3
    refine C_seq ?_
    refine C_reg ?_
    refine p1 rfl ?_
    refine D_end ?_
    refine x_then ?_
    refine C_ret ?_
    refine x_then_ret ?_
    refine R_1 rfl rfl fun w' hs => ⟨congrArg (fun z => Ending.returned (Value.bool z)) ?_, hs.bel⟩
    show (false : Bool) = decide (a = b)
    simp; intro e; subst e; simp_all
  · have pr3 : (((a.length : Nat) : Int) : Int) = ((b.length : Nat) : Int) := eq_of_bne_f h3
    refine C_skip ?_
    refine x_then ?_
    refine C_seq ?_
    refine C_seq ?_
    refine C_reg ?_
    refine p1 rfl ?_
    refine D_end ?_
    refine x_then ?_
    refine C_block ?_
    refine C_loop (fun m_ ac w' => ∃ (k : Nat), (k ≤ a.length) ∧ (∀ i, i < k → a[i]? = b[i]?) ∧ m_ = a.length - k ∧ Fits ac 27 [(0, v_a), (1, v_b), (5, (.int .i64 ((k : Nat) : Int)))] ∧ St w ([]) w') ?_ ?_
    · refine fun ac w' hf hs => ⟨_, 0, ?_, ?_, rfl, hf.weak ⟨rfl, rfl, rfl, trivial⟩, hs⟩
      · first | assumption | omega | simp
      · intro i hi; omega
    · rintro m_ ac w' ⟨k, hk, hi, rfl, hf, hs⟩
      refine D.use ?_ hf hs
      clear hf hs ac w'
      refine C_seq ?_
      refine C_seq ?_
      refine C_reg ?_
      refine p1 rfl <| p1 rfl ?_
      refine q1 rfl (D_len s_25 rfl rfl (rd_sl h_a)) ?_
      refine p1 rfl ?_
      refine D_end ?_
      refine x_then ?_
      refine C_if _ rfl (fun h4 => ?_) (fun h4 => ?_)
      · have pr4 : (((k : Nat) : Int) : Int) < ((a.length : Nat) : Int) := of_decide_eq_true h4
        refine C_skip ?_
        refine x_then ?_
        refine C_seq ?_
        refine C_block ?_
        refine C_seq ?_
        refine C_draw mixed [8, 9] (by kernel_rfl) ?_
        refine tk 0 rfl (by kernel_rfl) (by kernel_rfl) (by kernel_rfl) rfl (fun _ hs => hs) (rp rfl) ?_
        refine tk 1 rfl (by kernel_rfl) (by kernel_rfl) (by kernel_rfl) rfl (fun _ hs => hs) (rp rfl) ?_
        obtain ⟨x5, hx6⟩ := some_of_lt (l := a) (i := k) (by omega)
        obtain ⟨es7, at8, hr9⟩ := rd_elem (n := 3) rfl h_a hx6
        obtain ⟨u10, rfl, hu11⟩ := open_Stamp hr9
        have hm12 := rd_max hu11
        have hb13 := sub_Stamp_Fact hr9
        refine tk 2 rfl (by kernel_rfl) (by kernel_rfl) (by kernel_rfl) rfl (fun _ hs => hs) (D_ix (l := a) (j := k) s_25 rfl rfl rfl (fun w' hs => (rd_at hs h_a)) rfl (lt_of_some hx6)) ?_
        refine tk 3 rfl (by kernel_rfl) (by kernel_rfl) (by kernel_rfl) rfl (fun _ hs => hs) (lra a_72 rfl rfl at8) ?_
        refine tk 4 rfl (by kernel_rfl) (by kernel_rfl) (by kernel_rfl) rfl (fun _ hs => hs) (rp rfl) ?_
        refine tk 5 rfl (by kernel_rfl) (by kernel_rfl) (by kernel_rfl) rfl (fun _ hs => hs) (rp rfl) ?_
        obtain ⟨x14, hx15⟩ := some_of_lt (l := b) (i := k) (by omega)
        obtain ⟨es16, at17, hr18⟩ := rd_elem (n := 3) rfl h_b hx15
        obtain ⟨u19, rfl, hu20⟩ := open_Stamp hr18
        have hm21 := rd_max hu20
        have hb22 := sub_Stamp_Fact hr18
        refine tk 6 rfl (by kernel_rfl) (by kernel_rfl) (by kernel_rfl) rfl (fun _ hs => hs) (D_ix (l := b) (j := k) s_25 rfl rfl rfl (fun w' hs => (rd_at hs h_b)) rfl (lt_of_some hx15)) ?_
        refine tk 7 rfl (by kernel_rfl) (by kernel_rfl) (by kernel_rfl) rfl (fun _ hs => hs) (lra a_72 rfl rfl at17) ?_
        refine ty 8 rfl (by kernel_rfl) rfl (cv b_43 rfl rfl rfl rfl (fun w' hs => (laws_eqStamp w' [(.string x5.Fact.Rel), u10, (.int .i64 x5.Time)] x5 [(.string x14.Fact.Rel), u19, (.int .i64 x14.Time)] x14 (rd_at hs hr9) (rd_at hs hr18))) ?_)
        refine tZ rfl ?_
        refine ty 9 rfl (by kernel_rfl) rfl (sv rfl rfl (rp rfl) ?_)
        refine tZ rfl ?_
        refine tE (by kernel_rfl) ?_
        refine x_then ?_
        refine C_if _ rfl (fun h23 => ?_) (fun h23 => ?_)
        · have h23n : (decide (x5 = x14)) = false := not_t h23
          refine C_seq ?_
          refine C_reg ?_
          refine p1 rfl ?_
          refine D_end ?_
          refine x_then ?_
          refine D_weak [(4, (.bool false))] ⟨rfl, trivial⟩ ?_
          refine C_ret ?_
          refine x_blk_ret ?_
          refine x_then_ret ?_
          refine x_then_ret ?_
          refine x_blk_ret ?_
          refine x_then_ret ?_
          refine R_1 rfl rfl fun w' hs => ⟨congrArg (fun z => Ending.returned (Value.bool z)) ?_, hs.bel⟩
          show (false : Bool) = decide (a = b)
          simp; intro e; subst e; simp_all
        · have h23n : (decide (x5 = x14)) = true := not_f h23
          refine C_skip ?_
          refine x_blk ?_
          refine x_then ?_
          refine C_reg ?_
          refine p1 rfl ?_
          refine q1 rfl (D_add rfl rfl rfl (r := ((k + 1 : Nat) : Int)) (by omega) (by omega)) ?_
          refine p1 rfl ?_
          refine D_end ?_
          refine x_then ?_
          refine fun ac w' hf hs => ⟨_, ?_, k + 1, ?_, ?_, rfl, hf.weak ⟨rfl, rfl, rfl, trivial⟩, hs⟩
          · omega
          · first | assumption | omega | simp
          · refine idx_step hi (by assumption) (by assumption) ?_; first | (simp_all; done) | (apply Fact.mk_eq <;> simp_all)
      · have pr4 : ¬ (((k : Nat) : Int) : Int) < ((a.length : Nat) : Int) := of_decide_eq_false h4
        refine C_exit ?_
        refine x_then_exit ?_
        refine x_then_exit ?_
        refine x_blk_eq ?_
        refine x_then ?_
        refine C_seq ?_
        refine C_reg ?_
        refine p1 rfl ?_
        refine D_end ?_
        refine x_then ?_
        refine C_ret ?_
        refine R_1 rfl rfl fun w' hs => ⟨congrArg (fun z => Ending.returned (Value.bool z)) ?_, hs.bel⟩
        show (true : Bool) = decide (a = b)
        simp; exact eq_of_idx (by omega) (fun i h => hi i (by omega))

theorem laws_eqFiringS (w : World) (v_a : Value) (a : (List Firing)) (v_b : Value) (b : (List Firing)) (h_a : Gd.rd w [v_a] a) (h_b : Gd.rd w [v_b] b) : Calls Tryz.prog 20 [v_a, v_b].toArray w (Val w (.bool (decide (a = b)))) := by
  have hm1 := rd_max h_a
  have hm2 := rd_max h_b
  refine enter 27 Tryz.func20 rfl rfl rfl ?_
  refine C_seq ?_
  refine C_reg ?_
  refine p1 rfl ?_
  refine D_end ?_
  refine x_then ?_
  refine C_seq ?_
  refine C_seq ?_
  refine C_reg ?_
  refine p1 rfl ?_
  refine q1 rfl (D_len s_26 rfl rfl (rd_sl h_a)) ?_
  refine p1 rfl ?_
  refine q1 rfl (D_len s_26 rfl rfl (rd_sl h_b)) ?_
  refine p1 rfl ?_
  refine D_end ?_
  refine x_then ?_
  refine C_if _ rfl (fun h3 => ?_) (fun h3 => ?_)
  · have pr3 : (((a.length : Nat) : Int) : Int) ≠ ((b.length : Nat) : Int) := bne_iff_ne.1 h3
    refine C_seq ?_
    refine C_reg ?_
    refine p1 rfl ?_
    refine D_end ?_
    refine x_then ?_
    refine C_ret ?_
    refine x_then_ret ?_
    refine R_1 rfl rfl fun w' hs => ⟨congrArg (fun z => Ending.returned (Value.bool z)) ?_, hs.bel⟩
    show (false : Bool) = decide (a = b)
    simp; intro e; subst e; simp_all
  · have pr3 : (((a.length : Nat) : Int) : Int) = ((b.length : Nat) : Int) := eq_of_bne_f h3
    refine C_skip ?_
    refine x_then ?_
    refine C_seq ?_
    refine C_seq ?_
    refine C_reg ?_
    refine p1 rfl ?_
    refine D_end ?_
    refine x_then ?_
    refine C_block ?_
    refine C_loop (fun m_ ac w' => ∃ (k : Nat), (k ≤ a.length) ∧ (∀ i, i < k → a[i]? = b[i]?) ∧ m_ = a.length - k ∧ Fits ac 27 [(0, v_a), (1, v_b), (5, (.int .i64 ((k : Nat) : Int)))] ∧ St w ([]) w') ?_ ?_
    · refine fun ac w' hf hs => ⟨_, 0, ?_, ?_, rfl, hf.weak ⟨rfl, rfl, rfl, trivial⟩, hs⟩
      · first | assumption | omega | simp
      · intro i hi; omega
    · rintro m_ ac w' ⟨k, hk, hi, rfl, hf, hs⟩
      refine D.use ?_ hf hs
      clear hf hs ac w'
      refine C_seq ?_
      refine C_seq ?_
      refine C_reg ?_
      refine p1 rfl <| p1 rfl ?_
      refine q1 rfl (D_len s_26 rfl rfl (rd_sl h_a)) ?_
      refine p1 rfl ?_
      refine D_end ?_
      refine x_then ?_
      refine C_if _ rfl (fun h4 => ?_) (fun h4 => ?_)
      · have pr4 : (((k : Nat) : Int) : Int) < ((a.length : Nat) : Int) := of_decide_eq_true h4
        refine C_skip ?_
        refine x_then ?_
        refine C_seq ?_
        refine C_block ?_
        refine C_seq ?_
        refine C_draw mixed [8, 9] (by kernel_rfl) ?_
        refine tk 0 rfl (by kernel_rfl) (by kernel_rfl) (by kernel_rfl) rfl (fun _ hs => hs) (rp rfl) ?_
        refine tk 1 rfl (by kernel_rfl) (by kernel_rfl) (by kernel_rfl) rfl (fun _ hs => hs) (rp rfl) ?_
        obtain ⟨x5, hx6⟩ := some_of_lt (l := a) (i := k) (by omega)
        obtain ⟨es7, at8, hr9⟩ := rd_elem (n := 2) rfl h_a hx6
        obtain ⟨u10, rfl, hu11⟩ := open_Firing hr9
        have hm12 := rd_max hu11
        refine tk 2 rfl (by kernel_rfl) (by kernel_rfl) (by kernel_rfl) rfl (fun _ hs => hs) (D_ix (l := a) (j := k) s_26 rfl rfl rfl (fun w' hs => (rd_at hs h_a)) rfl (lt_of_some hx6)) ?_
        refine tk 3 rfl (by kernel_rfl) (by kernel_rfl) (by kernel_rfl) rfl (fun _ hs => hs) (lra a_76 rfl rfl at8) ?_
        refine tk 4 rfl (by kernel_rfl) (by kernel_rfl) (by kernel_rfl) rfl (fun _ hs => hs) (rp rfl) ?_
        refine tk 5 rfl (by kernel_rfl) (by kernel_rfl) (by kernel_rfl) rfl (fun _ hs => hs) (rp rfl) ?_
        obtain ⟨x13, hx14⟩ := some_of_lt (l := b) (i := k) (by omega)
        obtain ⟨es15, at16, hr17⟩ := rd_elem (n := 2) rfl h_b hx14
        obtain ⟨u18, rfl, hu19⟩ := open_Firing hr17
        have hm20 := rd_max hu19
        refine tk 6 rfl (by kernel_rfl) (by kernel_rfl) (by kernel_rfl) rfl (fun _ hs => hs) (D_ix (l := b) (j := k) s_26 rfl rfl rfl (fun w' hs => (rd_at hs h_b)) rfl (lt_of_some hx14)) ?_
        refine tk 7 rfl (by kernel_rfl) (by kernel_rfl) (by kernel_rfl) rfl (fun _ hs => hs) (lra a_76 rfl rfl at16) ?_
        refine ty 8 rfl (by kernel_rfl) rfl (cv b_44 rfl rfl rfl rfl (fun w' hs => (laws_eqFiring w' [(.string x5.Rule), u10] x5 [(.string x13.Rule), u18] x13 (rd_at hs hr9) (rd_at hs hr17))) ?_)
        refine tZ rfl ?_
        refine ty 9 rfl (by kernel_rfl) rfl (sv rfl rfl (rp rfl) ?_)
        refine tZ rfl ?_
        refine tE (by kernel_rfl) ?_
        refine x_then ?_
        refine C_if _ rfl (fun h21 => ?_) (fun h21 => ?_)
        · have h21n : (decide (x5 = x13)) = false := not_t h21
          refine C_seq ?_
          refine C_reg ?_
          refine p1 rfl ?_
          refine D_end ?_
          refine x_then ?_
          refine D_weak [(4, (.bool false))] ⟨rfl, trivial⟩ ?_
          refine C_ret ?_
          refine x_blk_ret ?_
          refine x_then_ret ?_
          refine x_then_ret ?_
          refine x_blk_ret ?_
          refine x_then_ret ?_
          refine R_1 rfl rfl fun w' hs => ⟨congrArg (fun z => Ending.returned (Value.bool z)) ?_, hs.bel⟩
          show (false : Bool) = decide (a = b)
          simp; intro e; subst e; simp_all
        · have h21n : (decide (x5 = x13)) = true := not_f h21
          refine C_skip ?_
          refine x_blk ?_
          refine x_then ?_
          refine C_reg ?_
          refine p1 rfl ?_
          refine q1 rfl (D_add rfl rfl rfl (r := ((k + 1 : Nat) : Int)) (by omega) (by omega)) ?_
          refine p1 rfl ?_
          refine D_end ?_
          refine x_then ?_
          refine fun ac w' hf hs => ⟨_, ?_, k + 1, ?_, ?_, rfl, hf.weak ⟨rfl, rfl, rfl, trivial⟩, hs⟩
          · omega
          · first | assumption | omega | simp
          · refine idx_step hi (by assumption) (by assumption) ?_; first | (simp_all; done) | (apply Fact.mk_eq <;> simp_all)
      · have pr4 : ¬ (((k : Nat) : Int) : Int) < ((a.length : Nat) : Int) := of_decide_eq_false h4
        refine C_exit ?_
        refine x_then_exit ?_
        refine x_then_exit ?_
        refine x_blk_eq ?_
        refine x_then ?_
        refine C_seq ?_
        refine C_reg ?_
        refine p1 rfl ?_
        refine D_end ?_
        refine x_then ?_
        refine C_ret ?_
        refine R_1 rfl rfl fun w' hs => ⟨congrArg (fun z => Ending.returned (Value.bool z)) ?_, hs.bel⟩
        show (true : Bool) = decide (a = b)
        simp; exact eq_of_idx (by omega) (fun i h => hi i (by omega))

theorem laws_eqEventS (w : World) (v_a : Value) (a : (List Event)) (v_b : Value) (b : (List Event)) (h_a : Gd.rd w [v_a] a) (h_b : Gd.rd w [v_b] b) : Calls Tryz.prog 21 [v_a, v_b].toArray w (Val w (.bool (decide (a = b)))) := by
  have hm1 := rd_max h_a
  have hm2 := rd_max h_b
  refine enter 27 Tryz.func21 rfl rfl rfl ?_
  refine C_seq ?_
  refine C_reg ?_
  refine p1 rfl ?_
  refine D_end ?_
  refine x_then ?_
  refine C_seq ?_
  refine C_seq ?_
  refine C_reg ?_
  refine p1 rfl ?_
  refine q1 rfl (D_len s_27 rfl rfl (rd_sl h_a)) ?_
  refine p1 rfl ?_
  refine q1 rfl (D_len s_27 rfl rfl (rd_sl h_b)) ?_
  refine p1 rfl ?_
  refine D_end ?_
  refine x_then ?_
  refine C_if _ rfl (fun h3 => ?_) (fun h3 => ?_)
  · have pr3 : (((a.length : Nat) : Int) : Int) ≠ ((b.length : Nat) : Int) := bne_iff_ne.1 h3
    refine C_seq ?_
    refine C_reg ?_
    refine p1 rfl ?_
    refine D_end ?_
    refine x_then ?_
    refine C_ret ?_
    refine x_then_ret ?_
    refine R_1 rfl rfl fun w' hs => ⟨congrArg (fun z => Ending.returned (Value.bool z)) ?_, hs.bel⟩
    show (false : Bool) = decide (a = b)
    simp; intro e; subst e; simp_all
  · have pr3 : (((a.length : Nat) : Int) : Int) = ((b.length : Nat) : Int) := eq_of_bne_f h3
    refine C_skip ?_
    refine x_then ?_
    refine C_seq ?_
    refine C_seq ?_
    refine C_reg ?_
    refine p1 rfl ?_
    refine D_end ?_
    refine x_then ?_
    refine C_block ?_
    refine C_loop (fun m_ ac w' => ∃ (k : Nat), (k ≤ a.length) ∧ (∀ i, i < k → a[i]? = b[i]?) ∧ m_ = a.length - k ∧ Fits ac 27 [(0, v_a), (1, v_b), (5, (.int .i64 ((k : Nat) : Int)))] ∧ St w ([]) w') ?_ ?_
    · refine fun ac w' hf hs => ⟨_, 0, ?_, ?_, rfl, hf.weak ⟨rfl, rfl, rfl, trivial⟩, hs⟩
      · first | assumption | omega | simp
      · intro i hi; omega
    · rintro m_ ac w' ⟨k, hk, hi, rfl, hf, hs⟩
      refine D.use ?_ hf hs
      clear hf hs ac w'
      refine C_seq ?_
      refine C_seq ?_
      refine C_reg ?_
      refine p1 rfl <| p1 rfl ?_
      refine q1 rfl (D_len s_27 rfl rfl (rd_sl h_a)) ?_
      refine p1 rfl ?_
      refine D_end ?_
      refine x_then ?_
      refine C_if _ rfl (fun h4 => ?_) (fun h4 => ?_)
      · have pr4 : (((k : Nat) : Int) : Int) < ((a.length : Nat) : Int) := of_decide_eq_true h4
        refine C_skip ?_
        refine x_then ?_
        refine C_seq ?_
        refine C_block ?_
        refine C_seq ?_
        refine C_draw mixed [8, 9] (by kernel_rfl) ?_
        refine tk 0 rfl (by kernel_rfl) (by kernel_rfl) (by kernel_rfl) rfl (fun _ hs => hs) (rp rfl) ?_
        refine tk 1 rfl (by kernel_rfl) (by kernel_rfl) (by kernel_rfl) rfl (fun _ hs => hs) (rp rfl) ?_
        obtain ⟨x5, hx6⟩ := some_of_lt (l := a) (i := k) (by omega)
        obtain ⟨es7, at8, hr9⟩ := rd_elem (n := 4) rfl h_a hx6
        obtain ⟨u10, rfl, hu11⟩ := open_Event hr9
        have hm12 := rd_max hu11
        have hb13 := sub_Event_Fact hr9
        refine tk 2 rfl (by kernel_rfl) (by kernel_rfl) (by kernel_rfl) rfl (fun _ hs => hs) (D_ix (l := a) (j := k) s_27 rfl rfl rfl (fun w' hs => (rd_at hs h_a)) rfl (lt_of_some hx6)) ?_
        refine tk 3 rfl (by kernel_rfl) (by kernel_rfl) (by kernel_rfl) rfl (fun _ hs => hs) (lra a_79 rfl rfl at8) ?_
        refine tk 4 rfl (by kernel_rfl) (by kernel_rfl) (by kernel_rfl) rfl (fun _ hs => hs) (rp rfl) ?_
        refine tk 5 rfl (by kernel_rfl) (by kernel_rfl) (by kernel_rfl) rfl (fun _ hs => hs) (rp rfl) ?_
        obtain ⟨x14, hx15⟩ := some_of_lt (l := b) (i := k) (by omega)
        obtain ⟨es16, at17, hr18⟩ := rd_elem (n := 4) rfl h_b hx15
        obtain ⟨u19, rfl, hu20⟩ := open_Event hr18
        have hm21 := rd_max hu20
        have hb22 := sub_Event_Fact hr18
        refine tk 6 rfl (by kernel_rfl) (by kernel_rfl) (by kernel_rfl) rfl (fun _ hs => hs) (D_ix (l := b) (j := k) s_27 rfl rfl rfl (fun w' hs => (rd_at hs h_b)) rfl (lt_of_some hx15)) ?_
        refine tk 7 rfl (by kernel_rfl) (by kernel_rfl) (by kernel_rfl) rfl (fun _ hs => hs) (lra a_79 rfl rfl at17) ?_
        refine ty 8 rfl (by kernel_rfl) rfl (cv b_45 rfl rfl rfl rfl (fun w' hs => (laws_eqEvent w' [(.int .i64 x5.Kind), (.string x5.Rule), (.string x5.Fact.Rel), u10] x5 [(.int .i64 x14.Kind), (.string x14.Rule), (.string x14.Fact.Rel), u19] x14 (rd_at hs hr9) (rd_at hs hr18))) ?_)
        refine tZ rfl ?_
        refine ty 9 rfl (by kernel_rfl) rfl (sv rfl rfl (rp rfl) ?_)
        refine tZ rfl ?_
        refine tE (by kernel_rfl) ?_
        refine x_then ?_
        refine C_if _ rfl (fun h23 => ?_) (fun h23 => ?_)
        · have h23n : (decide (x5 = x14)) = false := not_t h23
          refine C_seq ?_
          refine C_reg ?_
          refine p1 rfl ?_
          refine D_end ?_
          refine x_then ?_
          refine D_weak [(4, (.bool false))] ⟨rfl, trivial⟩ ?_
          refine C_ret ?_
          refine x_blk_ret ?_
          refine x_then_ret ?_
          refine x_then_ret ?_
          refine x_blk_ret ?_
          refine x_then_ret ?_
          refine R_1 rfl rfl fun w' hs => ⟨congrArg (fun z => Ending.returned (Value.bool z)) ?_, hs.bel⟩
          show (false : Bool) = decide (a = b)
          simp; intro e; subst e; simp_all
        · have h23n : (decide (x5 = x14)) = true := not_f h23
          refine C_skip ?_
          refine x_blk ?_
          refine x_then ?_
          refine C_reg ?_
          refine p1 rfl ?_
          refine q1 rfl (D_add rfl rfl rfl (r := ((k + 1 : Nat) : Int)) (by omega) (by omega)) ?_
          refine p1 rfl ?_
          refine D_end ?_
          refine x_then ?_
          refine fun ac w' hf hs => ⟨_, ?_, k + 1, ?_, ?_, rfl, hf.weak ⟨rfl, rfl, rfl, trivial⟩, hs⟩
          · omega
          · first | assumption | omega | simp
          · refine idx_step hi (by assumption) (by assumption) ?_; first | (simp_all; done) | (apply Fact.mk_eq <;> simp_all)
      · have pr4 : ¬ (((k : Nat) : Int) : Int) < ((a.length : Nat) : Int) := of_decide_eq_false h4
        refine C_exit ?_
        refine x_then_exit ?_
        refine x_then_exit ?_
        refine x_blk_eq ?_
        refine x_then ?_
        refine C_seq ?_
        refine C_reg ?_
        refine p1 rfl ?_
        refine D_end ?_
        refine x_then ?_
        refine C_ret ?_
        refine R_1 rfl rfl fun w' hs => ⟨congrArg (fun z => Ending.returned (Value.bool z)) ?_, hs.bel⟩
        show (true : Bool) = decide (a = b)
        simp; exact eq_of_idx (by omega) (fun i h => hi i (by omega))

theorem laws_eqEngine (w : World) (c_a : List Value) (a : Engine) (c_b : List Value) (b : Engine) (h_a : Gd.rd w c_a a) (h_b : Gd.rd w c_b b) : Calls Tryz.prog 8 [(.agg c_a.toArray), (.agg c_b.toArray)].toArray w (Val w (.bool (decide (a = b)))) := by
  obtain ⟨u1, u3, u5, u7, rfl, hu2, hu4, hu6, hu8⟩ := open_Engine h_a
  have hm9 := rd_max hu2
  have hm10 := rd_max hu4
  have hm11 := rd_max hu6
  have hm12 := rd_max hu8
  obtain ⟨u13, u15, u17, u19, rfl, hu14, hu16, hu18, hu20⟩ := open_Engine h_b
  have hm21 := rd_max hu14
  have hm22 := rd_max hu16
  have hm23 := rd_max hu18
  have hm24 := rd_max hu20
  refine enter 39 Tryz.func8 rfl rfl rfl ?_
  refine C_seq ?_
  refine C_reg ?_
  refine li rfl (D_box rfl rfl rfl rfl rfl fun g25 => ?_)
  refine li rfl (D_box rfl rfl rfl rfl rfl fun g26 => ?_)
  refine p1 rfl ?_
  refine D_end ?_
  refine x_then ?_
  refine D_H ([bx g26 [u13, u15, (.int .i64 b.Clock), u17, (.bool b.Halted), u19], bx g25 [u1, u3, (.int .i64 a.Clock), u5, (.bool a.Halted), u7]]) rfl ?_
  refine C_seq ?_
  refine C_seq ?_
  refine C_reg ?_
  refine q1 rfl (D_fb f_29_0 rfl rfl (q := 0) rfl) ?_
  refine q1 rfl (lb 1 o_24 rfl rfl rfl rfl) ?_
  refine q1 rfl (D_fb f_29_0 rfl rfl (q := 0) rfl) ?_
  refine q1 rfl (lb 0 o_24 rfl rfl rfl rfl) ?_
  refine li rfl (cv b_9 rfl rfl rfl rfl (fun w' hs => (laws_eqRuleS w' u1 a.Rules u13 b.Rules (rd_at hs hu2) (rd_at hs hu14))) ?_)
  refine p1 rfl ?_
  refine D_end ?_
  refine x_then ?_
  refine C_if _ rfl (fun h27 => ?_) (fun h27 => ?_)
  · have h27n : (decide (a.Rules = b.Rules)) = false := not_t h27
    refine C_seq ?_
    refine C_reg ?_
    refine p1 rfl ?_
    refine D_end ?_
    refine x_then ?_
    refine C_ret ?_
    refine x_then_ret ?_
    refine R_1 rfl rfl fun w' hs => ⟨congrArg (fun z => Ending.returned (Value.bool z)) ?_, hs.bel⟩
    show (false : Bool) = decide (a = b)
    cases a; cases b; simp_all
  · have h27n : (decide (a.Rules = b.Rules)) = true := not_f h27
    refine C_skip ?_
    refine x_then ?_
    refine C_seq ?_
    refine C_seq ?_
    refine C_reg ?_
    refine q1 rfl (D_fb f_29_1 rfl rfl (q := 1) rfl) ?_
    refine q1 rfl (lb 1 o_25 rfl rfl rfl rfl) ?_
    refine q1 rfl (D_fb f_29_1 rfl rfl (q := 1) rfl) ?_
    refine q1 rfl (lb 0 o_25 rfl rfl rfl rfl) ?_
    refine li rfl (cv b_19 rfl rfl rfl rfl (fun w' hs => (laws_eqStampS w' u3 a.Memory u15 b.Memory (rd_at hs hu4) (rd_at hs hu16))) ?_)
    refine p1 rfl ?_
    refine D_end ?_
    refine x_then ?_
    refine C_if _ rfl (fun h28 => ?_) (fun h28 => ?_)
    · have h28n : (decide (a.Memory = b.Memory)) = false := not_t h28
      refine C_seq ?_
      refine C_reg ?_
      refine p1 rfl ?_
      refine D_end ?_
      refine x_then ?_
      refine D_weak [(4, (.bool false))] ⟨rfl, trivial⟩ ?_
      refine D_sel (H' := []) [false, false] rfl ?_
      refine C_ret ?_
      refine x_then_ret ?_
      refine R_1 rfl rfl fun w' hs => ⟨congrArg (fun z => Ending.returned (Value.bool z)) ?_, hs.bel⟩
      show (false : Bool) = decide (a = b)
      cases a; cases b; simp_all
    · have h28n : (decide (a.Memory = b.Memory)) = true := not_f h28
      refine C_skip ?_
      refine x_then ?_
      refine D_weak [(2, (.pointer (some ⟨g25, 0, none⟩))), (3, (.pointer (some ⟨g26, 0, none⟩)))] ⟨rfl, rfl, trivial⟩ ?_
      refine C_seq ?_
      refine C_seq ?_
      refine C_reg ?_
      refine q1 rfl (D_fb f_29_2 rfl rfl (q := 2) rfl) ?_
      refine q1 rfl (lb 1 o_3 rfl rfl rfl rfl) ?_
      refine q1 rfl (D_fb f_29_2 rfl rfl (q := 2) rfl) ?_
      refine q1 rfl (lb 0 o_3 rfl rfl rfl rfl) ?_
      refine p1 rfl ?_
      refine D_end ?_
      refine x_then ?_
      refine C_if _ rfl (fun h29 => ?_) (fun h29 => ?_)
      · have pr29 : (a.Clock : Int) ≠ b.Clock := bne_iff_ne.1 h29
        refine C_seq ?_
        refine C_reg ?_
        refine p1 rfl ?_
        refine D_end ?_
        refine x_then ?_
        refine C_ret ?_
        refine x_then_ret ?_
        refine R_1 rfl rfl fun w' hs => ⟨congrArg (fun z => Ending.returned (Value.bool z)) ?_, hs.bel⟩
        show (false : Bool) = decide (a = b)
        cases a; cases b; simp_all
      · have pr29 : (a.Clock : Int) = b.Clock := eq_of_bne_f h29
        refine C_skip ?_
        refine x_then ?_
        refine C_seq ?_
        refine C_seq ?_
        refine C_reg ?_
        refine q1 rfl (D_fb f_29_3 rfl rfl (q := 3) rfl) ?_
        refine q1 rfl (lb 1 o_26 rfl rfl rfl rfl) ?_
        refine q1 rfl (D_fb f_29_3 rfl rfl (q := 3) rfl) ?_
        refine q1 rfl (lb 0 o_26 rfl rfl rfl rfl) ?_
        refine li rfl (cv b_20 rfl rfl rfl rfl (fun w' hs => (laws_eqFiringS w' u5 a.Fired u17 b.Fired (rd_at hs hu6) (rd_at hs hu18))) ?_)
        refine p1 rfl ?_
        refine D_end ?_
        refine x_then ?_
        refine C_if _ rfl (fun h30 => ?_) (fun h30 => ?_)
        · have h30n : (decide (a.Fired = b.Fired)) = false := not_t h30
          refine C_seq ?_
          refine C_reg ?_
          refine p1 rfl ?_
          refine D_end ?_
          refine x_then ?_
          refine C_ret ?_
          refine x_then_ret ?_
          refine R_1 rfl rfl fun w' hs => ⟨congrArg (fun z => Ending.returned (Value.bool z)) ?_, hs.bel⟩
          show (false : Bool) = decide (a = b)
          cases a; cases b; simp_all
        · have h30n : (decide (a.Fired = b.Fired)) = true := not_f h30
          refine C_skip ?_
          refine x_then ?_
          refine C_seq ?_
          refine C_seq ?_
          refine C_reg ?_
          refine q1 rfl (D_fb f_29_4 rfl rfl (q := 4) rfl) ?_
          refine q1 rfl (lb 1 o_4 rfl rfl rfl rfl) ?_
          refine q1 rfl (D_fb f_29_4 rfl rfl (q := 4) rfl) ?_
          refine q1 rfl (lb 0 o_4 rfl rfl rfl rfl) ?_
          refine q1 rfl (D_neB ub_4 rfl rfl rfl) ?_
          refine D_end ?_
          refine x_then ?_
          refine D_weak [(2, (.pointer (some ⟨g25, 0, none⟩))), (3, (.pointer (some ⟨g26, 0, none⟩))), (32, (.bool (!(a.Halted == b.Halted))))] ⟨rfl, rfl, rfl, trivial⟩ ?_
          refine C_if _ rfl (fun h31 => ?_) (fun h31 => ?_)
          · refine C_seq ?_
            refine C_reg ?_
            refine p1 rfl ?_
            refine D_end ?_
            refine x_then ?_
            refine C_ret ?_
            refine x_then_ret ?_
            refine R_1 rfl rfl fun w' hs => ⟨congrArg (fun z => Ending.returned (Value.bool z)) ?_, hs.bel⟩
            show (false : Bool) = decide (a = b)
            cases a; cases b; simp_all
          · have pr31 : a.Halted = b.Halted := beq_of_not h31
            refine C_skip ?_
            refine x_then ?_
            refine C_seq ?_
            refine C_seq ?_
            refine C_reg ?_
            refine q1 rfl (D_fb f_29_5 rfl rfl (q := 5) rfl) ?_
            refine q1 rfl (lb 1 o_27 rfl rfl rfl rfl) ?_
            refine q1 rfl (D_fb f_29_5 rfl rfl (q := 5) rfl) ?_
            refine q1 rfl (lb 0 o_27 rfl rfl rfl rfl) ?_
            refine li rfl (cv b_21 rfl rfl rfl rfl (fun w' hs => (laws_eqEventS w' u7 a.Log u19 b.Log (rd_at hs hu8) (rd_at hs hu20))) ?_)
            refine p1 rfl ?_
            refine D_end ?_
            refine x_then ?_
            refine C_if _ rfl (fun h32 => ?_) (fun h32 => ?_)
            · have h32n : (decide (a.Log = b.Log)) = false := not_t h32
              refine C_seq ?_
              refine C_reg ?_
              refine p1 rfl ?_
              refine D_end ?_
              refine x_then ?_
              refine C_ret ?_
              refine x_then_ret ?_
              refine R_1 rfl rfl fun w' hs => ⟨congrArg (fun z => Ending.returned (Value.bool z)) ?_, hs.bel⟩
              show (false : Bool) = decide (a = b)
              cases a; cases b; simp_all
            · have h32n : (decide (a.Log = b.Log)) = true := not_f h32
              refine C_skip ?_
              refine x_then ?_
              refine C_seq ?_
              refine C_reg ?_
              refine p1 rfl ?_
              refine D_end ?_
              refine x_then ?_
              refine C_ret ?_
              refine R_1 rfl rfl fun w' hs => ⟨congrArg (fun z => Ending.returned (Value.bool z)) ?_, hs.bel⟩
              show (true : Bool) = decide (a = b)
              cases a; cases b; simp_all
end Go.Sy.Ev2
