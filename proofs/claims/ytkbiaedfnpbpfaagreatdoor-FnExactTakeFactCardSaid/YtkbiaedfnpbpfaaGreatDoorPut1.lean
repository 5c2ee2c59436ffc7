/-
  Contracts of functions of the program, walked (printed by a program of ours).
  Conditions: those that each theorem states.
-/
import Derived.Test.YtkbiaedfnpbpfaaGreatDoorCho2
import Derived.Test.YtkbiaedfnpbpfaaGreatDoorNum3
import Derived.Test.YtkbiaedfnpbpfaaGreatDoorPut
set_option linter.unusedVariables false
set_option maxRecDepth 20000
namespace Go.Sy.Put1
open Go Go.RowKit Go.Proofs Go.Sy
theorem mixed : Tryz.prog.follows .mixedOrders = true := by kernel_rfl
theorem y_171 : zeroTy Tryz.prog 171 = some (.agg #[(.int .i64 0), (.string ⟨#[]⟩), (.string ⟨#[]⟩), (.slice none 0 0)]) := by kernel_rfl
theorem f_171_2 : fieldOff Tryz.prog 171 2 = some 2 := by kernel_rfl
theorem a_70 : aggTy Tryz.prog 70 = some 2 := by kernel_rfl
theorem b_132 : hasBody Tryz.prog 132 = true := by kernel_rfl
theorem z_70 : sizeTy Tryz.prog 70 = some 2 := by kernel_rfl
theorem a_171 : aggTy Tryz.prog 171 = some 4 := by kernel_rfl
theorem z_171 : sizeTy Tryz.prog 171 = some 4 := by kernel_rfl
theorem y_66 : zeroTy Tryz.prog 66 = some (.agg #[(.slice none 0 0), (.slice none 0 0), (.int .i64 0), (.slice none 0 0), (.bool false), (.slice none 0 0)]) := by kernel_rfl
theorem f_66_0 : fieldOff Tryz.prog 66 0 = some 0 := by kernel_rfl
theorem o_40 : oneTy Tryz.prog 40 = true := by kernel_rfl
theorem f_66_2 : fieldOff Tryz.prog 66 2 = some 2 := by kernel_rfl
theorem o_3 : oneTy Tryz.prog 3 = true := by kernel_rfl
theorem f_66_4 : fieldOff Tryz.prog 66 4 = some 4 := by kernel_rfl
theorem o_4 : oneTy Tryz.prog 4 = true := by kernel_rfl
theorem b_131 : hasBody Tryz.prog 131 = true := by kernel_rfl
theorem pl_66 : placeTy Tryz.prog 66 = some ([(0, 1), (1, 1), (2, 1), (3, 1), (4, 1), (5, 1)], [(.slice none 0 0), (.slice none 0 0), (.int .i64 0), (.slice none 0 0), (.bool false), (.slice none 0 0)]) := by kernel_rfl
theorem z_66 : sizeTy Tryz.prog 66 = some 6 := by kernel_rfl
theorem f_66_1 : fieldOff Tryz.prog 66 1 = some 1 := by kernel_rfl
theorem o_42 : oneTy Tryz.prog 42 = true := by kernel_rfl
theorem s_42 : sliceTy Tryz.prog 42 = some (100, 3, 48) := by kernel_rfl
theorem a_100 : aggTy Tryz.prog 100 = some 3 := by kernel_rfl
theorem y_100 : zeroTy Tryz.prog 100 = some (.agg #[(.string ⟨#[]⟩), (.slice none 0 0), (.int .i64 0)]) := by kernel_rfl
theorem z_100 : sizeTy Tryz.prog 100 = some 3 := by kernel_rfl
theorem f_100_0 : fieldOff Tryz.prog 100 0 = some 0 := by kernel_rfl
theorem f_100_1 : fieldOff Tryz.prog 100 1 = some 2 := by kernel_rfl
theorem pl_100 : placeTy Tryz.prog 100 = some ([(0, 2), (2, 1)], [(.string ⟨#[]⟩), (.slice none 0 0), (.int .i64 0)]) := by kernel_rfl
theorem z_42 : sizeTy Tryz.prog 42 = some 1 := by kernel_rfl
theorem f_66_3 : fieldOff Tryz.prog 66 3 = some 3 := by kernel_rfl
theorem o_63 : oneTy Tryz.prog 63 = true := by kernel_rfl
theorem s_63 : sliceTy Tryz.prog 63 = some (168, 2, 40) := by kernel_rfl
theorem a_168 : aggTy Tryz.prog 168 = some 2 := by kernel_rfl
theorem y_168 : zeroTy Tryz.prog 168 = some (.agg #[(.string ⟨#[]⟩), (.slice none 0 0)]) := by kernel_rfl
theorem z_168 : sizeTy Tryz.prog 168 = some 2 := by kernel_rfl
theorem f_168_0 : fieldOff Tryz.prog 168 0 = some 0 := by kernel_rfl
theorem o_9 : oneTy Tryz.prog 9 = true := by kernel_rfl
theorem f_168_1 : fieldOff Tryz.prog 168 1 = some 1 := by kernel_rfl
theorem o_35 : oneTy Tryz.prog 35 = true := by kernel_rfl
theorem b_133 : hasBody Tryz.prog 133 = true := by kernel_rfl
theorem pl_168 : placeTy Tryz.prog 168 = some ([(0, 1), (1, 1)], [(.string ⟨#[]⟩), (.slice none 0 0)]) := by kernel_rfl
theorem z_63 : sizeTy Tryz.prog 63 = some 1 := by kernel_rfl
theorem f_66_5 : fieldOff Tryz.prog 66 5 = some 5 := by kernel_rfl
theorem o_64 : oneTy Tryz.prog 64 = true := by kernel_rfl
theorem s_64 : sliceTy Tryz.prog 64 = some (171, 4, 64) := by kernel_rfl
theorem b_134 : hasBody Tryz.prog 134 = true := by kernel_rfl
theorem z_64 : sizeTy Tryz.prog 64 = some 1 := by kernel_rfl
theorem a_66 : aggTy Tryz.prog 66 = some 6 := by kernel_rfl
theorem b_122 : hasBody Tryz.prog 122 = true := by kernel_rfl
theorem b_123 : hasBody Tryz.prog 123 = true := by kernel_rfl
theorem b_124 : hasBody Tryz.prog 124 = true := by kernel_rfl
theorem f_171_0 : fieldOff Tryz.prog 171 0 = some 0 := by kernel_rfl
theorem f_171_1 : fieldOff Tryz.prog 171 1 = some 1 := by kernel_rfl
theorem pl_171 : placeTy Tryz.prog 171 = some ([(0, 1), (1, 1), (2, 2)], [(.int .i64 0), (.string ⟨#[]⟩), (.string ⟨#[]⟩), (.slice none 0 0)]) := by kernel_rfl
theorem b_138 : hasBody Tryz.prog 138 = true := by kernel_rfl
theorem b_139 : hasBody Tryz.prog 139 = true := by kernel_rfl
theorem b_128 : hasBody Tryz.prog 128 = true := by kernel_rfl
open Go.Sy.Bel1 Go.Sy.Bel3 Go.Sy.Ev1 Go.Sy.Ev2 Go.Sy.Ev3 Go.Sy.Fmt1 Go.Sy.Eng1 Go.Sy.Eng2 Go.Sy.Eng3 Go.Sy.Eng4 Go.Sy.Eng5 Go.Sy.Num1 Go.Sy.Num2 Go.Sy.Cho1 Go.Sy.Cho2 Go.Sy.Num3
theorem impl_copyEvent (w : World) (c_x : List Value) (x : Event) (h_x : Gd.rd w c_x x) (hx : szEv x ≤ 1048576) : Calls Tryz.prog 134 [(.agg c_x.toArray)].toArray w (Res w (x : Event)) := by
 obtain ⟨u1, rfl, hu2⟩ := open_Event h_x
 have hm3 := rd_max hu2
 have hb4 := sub_Event_Fact h_x
 unfold szEv at hx
 refine enter 8 Tryz.func134 rfl rfl rfl (Sr (li rfl (D_box rfl rfl rfl rfl rfl fun g5 => ?_)))
 refine li rfl (D_alloc y_171 rfl rfl rfl rfl fun g6 => ?_)
 refine Dx (Dh ([bx g6 [(.int .i64 0), (.string ⟨#[]⟩), (.string ⟨#[]⟩), (.slice none 0 0)], bx g5 [(.int .i64 x.Kind), (.string x.Rule), (.string x.Fact.Rel), u1]]) rfl (Sr (q1 rfl (Db f_171_2 rfl rfl (q := 2) rfl) (q1 rfl (lba (es := [(.string x.Fact.Rel), u1]) 1 a_70 rfl rfl rfl rfl) (li rfl (crs rfl b_132 rfl rfl rfl rfl (fun w' hs => (impl_copyFact w' [(.string x.Fact.Rel), u1] x.Fact (rA hs hb4) (by first | assumption | omega | (unfold szm at *; split at * <;> omega)))) fun cs7 => ?_))))))
 refine Dp (fun w' hs => shape_Fact (rO (k := 0) hs rfl)) ?_
 rintro ⟨v8, rfl, ho9⟩
 refine q1 rfl (Db f_171_2 rfl rfl (q := 2) rfl) (li rfl (D_stb (vs := [(.string x.Fact.Rel), v8]) (cs' := [(.int .i64 x.Kind), (.string x.Rule), (.string x.Fact.Rel), v8]) 2 z_70 rfl rfl rfl rfl rfl rfl (ocons rfl (ocons ho9 onil)) (by simp) rfl ?_))
 refine Dx (Dh ([ov [(.string x.Fact.Rel), v8] (x.Fact : Fact), bx g6 [(.int .i64 0), (.string ⟨#[]⟩), (.string ⟨#[]⟩), (.slice none 0 0)], bx g5 [(.int .i64 x.Kind), (.string x.Rule), (.string x.Fact.Rel), v8]]) rfl (Sr (q1 rfl (lbw 2 a_171 rfl rfl rfl) (li rfl (D_stb (vs := [(.int .i64 x.Kind), (.string x.Rule), (.string x.Fact.Rel), v8]) (cs' := [(.int .i64 x.Kind), (.string x.Rule), (.string x.Fact.Rel), v8]) 1 z_171 rfl rfl rfl rfl rfl rfl (ocons rfl (ocons rfl (ocons rfl (ocons ho9 onil)))) (by simp) rfl ?_)))))
 refine Dx (Ct (D_unpair (α := ByteArray) (β := (List ByteArray)) (c1 := [(.string x.Fact.Rel)]) (c2 := [v8]) (x := x.Fact.Rel) (y := (x.Fact.Args)) rfl rfl (D_fd [] 1 rfl (pk_Event (r := (x : Event)) (R_c 1 a_171 rfl rfl rfl fun w' hs => res_of (k := 0) hs rfl ?_)))))
 show (x : Event) = x
 rfl
set_option maxHeartbeats 4000000 in
theorem impl_copyEngine (w : World) (c_e : List Value) (e : Engine) (h_e : Gd.rd w c_e e) (hn : szEngine e ≤ 1048576) : Calls Tryz.prog 78 [(.agg c_e.toArray)].toArray w (Res w (e : Engine)) := by
 obtain ⟨u1, u3, u5, u7, rfl, hu2, hu4, hu6, hu8⟩ := open_Engine h_e
 have hm9 := rd_max hu2
 have hm10 := rd_max hu4
 have hm11 := rd_max hu6
 have hm12 := rd_max hu8
 unfold szEngine szL at hn
 refine enter 72 Tryz.func78 rfl rfl rfl (Sr (li rfl (D_box rfl rfl rfl rfl rfl fun g13 => ?_)))
 refine li rfl (D_alloc y_66 rfl rfl rfl rfl fun g14 => ?_)
 refine Dx (Dh ([bx g14 [(.slice none 0 0), (.slice none 0 0), (.int .i64 0), (.slice none 0 0), (.bool false), (.slice none 0 0)], bx g13 [u1, u3, (.int .i64 e.Clock), u5, (.bool e.Halted), u7]]) rfl (Cq (C_join (fun ac w' => ∃ (g17 : Nat), ∃ (v15 : Value), (v15.oneCell' = true) ∧ Fits ac 72 [(1, (.pointer (some ⟨g13, 0, none⟩))), (2, (.pointer (some ⟨g14, 0, none⟩))), (3, (.pointer (some ⟨g17, 0, none⟩)))] ∧ St w ([bx g17 [v15, (.slice none 0 0), (.int .i64 e.Clock), (.slice none 0 0), (.bool e.Halted), (.slice none 0 0)], ov [v15] (e.Rules : (List Rule)), bx g14 [(.slice none 0 0), (.slice none 0 0), (.int .i64 0), (.slice none 0 0), (.bool false), (.slice none 0 0)], bx g13 [u1, u3, (.int .i64 e.Clock), u5, (.bool e.Halted), u7]]) w') ?_ ?_)))
 ·refine C_draw mixed [9] (by kernel_rfl) (Tk 0 rfl (by kernel_rfl) rfl (Db f_66_0 rfl rfl (q := 0) rfl) (Tk 1 rfl (by kernel_rfl) rfl (lb 1 o_40 rfl rfl rfl rfl) (Tk 3 rfl (by kernel_rfl) rfl (Db f_66_2 rfl rfl (q := 2) rfl) (Tk 4 rfl (by kernel_rfl) rfl (lb 1 o_3 rfl rfl rfl rfl) (Tk 5 rfl (by kernel_rfl) rfl (Db f_66_4 rfl rfl (q := 4) rfl) (Tk 6 rfl (by kernel_rfl) rfl (lb 1 o_4 rfl rfl rfl rfl) (tyN [2, 8] rfl (by kernel_rfl) ⟨⟨_, rfl, rfl, ?_⟩, ⟨_, rfl, rfl, ?_⟩, trivial⟩)))))))
  ·refine id (crl b_131 rfl rfl rfl rfl (fun w' hs => (impl_copyRules w' u1 e.Rules (rA hs hu2) (by unfold szL; omega))) fun v15 => ?_)
   refine tS (fun _ hs => hs.pk [1, 2] rfl rfl) (Dp (fun w' hs => one_own (k := 0) hs rfl) ?_)
   intro ho16
   refine Tj 7 rfl (by kernel_rfl) rfl (fun _ hs => hs.pk [1, 2] rfl rfl) (D_built (vs := [(0, v15), (2, (.int .i64 e.Clock)), (4, (.bool e.Halted))]) (xs := [(0, [v15]), (2, [(.int .i64 e.Clock)]), (4, [(.bool e.Halted)])]) (cs := [v15, (.slice none 0 0), (.int .i64 e.Clock), (.slice none 0 0), (.bool e.Halted), (.slice none 0 0)]) pl_66 rfl ⟨rfl, (cells_of_one ho16), ⟨rfl, rfl, ⟨rfl, rfl, trivial⟩⟩⟩ rfl rfl) (ty 8 rfl (by kernel_rfl) rfl (D_alloc y_66 rfl rfl rfl rfl fun g17 => ?_))
   refine tS (fun _ hs => hs.pk [2, 3] rfl rfl) (ty 9 rfl (by kernel_rfl) rfl (D_stb (vs := [v15, (.slice none 0 0), (.int .i64 e.Clock), (.slice none 0 0), (.bool e.Halted), (.slice none 0 0)]) (cs' := [v15, (.slice none 0 0), (.int .i64 e.Clock), (.slice none 0 0), (.bool e.Halted), (.slice none 0 0)]) 0 z_66 rfl rfl rfl rfl rfl rfl (ocons ho16 (ocons rfl (ocons rfl (ocons rfl (ocons rfl (ocons rfl onil)))))) (by simp) rfl ?_))
   refine tZ rfl (tE (by kernel_rfl) (Xt (fun ac w' hf hs => ⟨g17, v15, ho16, hf.weak ⟨rfl, rfl, rfl, trivial⟩, hs⟩)))
  ·refine id (D_alloc y_66 rfl rfl rfl rfl fun g18 => ?_)
   refine tS (fun _ hs => hs.pk [1, 2] rfl rfl) (ty 2 rfl (by kernel_rfl) rfl (crl b_131 rfl rfl rfl rfl (fun w' hs => (impl_copyRules w' u1 e.Rules (rA hs hu2) (by unfold szL; omega))) fun v19 => ?_))
   refine tS (fun _ hs => hs.pk [2, 3] rfl rfl) (Dp (fun w' hs => one_own (k := 0) hs rfl) ?_)
   intro ho20
   refine Tj 7 rfl (by kernel_rfl) rfl (fun _ hs => hs.pk [2, 3] rfl rfl) (D_built (vs := [(0, v19), (2, (.int .i64 e.Clock)), (4, (.bool e.Halted))]) (xs := [(0, [v19]), (2, [(.int .i64 e.Clock)]), (4, [(.bool e.Halted)])]) (cs := [v19, (.slice none 0 0), (.int .i64 e.Clock), (.slice none 0 0), (.bool e.Halted), (.slice none 0 0)]) pl_66 rfl ⟨rfl, (cells_of_one ho20), ⟨rfl, rfl, ⟨rfl, rfl, trivial⟩⟩⟩ rfl rfl) (ty 9 rfl (by kernel_rfl) rfl (D_stb (vs := [v19, (.slice none 0 0), (.int .i64 e.Clock), (.slice none 0 0), (.bool e.Halted), (.slice none 0 0)]) (cs' := [v19, (.slice none 0 0), (.int .i64 e.Clock), (.slice none 0 0), (.bool e.Halted), (.slice none 0 0)]) 1 z_66 rfl rfl rfl rfl rfl rfl (ocons ho20 (ocons rfl (ocons rfl (ocons rfl (ocons rfl (ocons rfl onil)))))) (by simp) rfl ?_))
   refine tZ rfl (tE (by kernel_rfl) (Xt (fun ac w' hf hs => ⟨g18, v19, ho20, hf.weak ⟨rfl, rfl, rfl, trivial⟩, hs.pk [1, 0, 2, 3] rfl rfl⟩)))
 rintro ac w' ⟨g17, v15, ho16, hf, hs⟩
 refine D.use ?_ hf hs
 clear hf hs ac w'
 refine Xt (Dh ([bx g17 [v15, (.slice none 0 0), (.int .i64 e.Clock), (.slice none 0 0), (.bool e.Halted), (.slice none 0 0)], ov [v15] (e.Rules : (List Rule)), bx g14 [(.slice none 0 0), (.slice none 0 0), (.int .i64 0), (.slice none 0 0), (.bool false), (.slice none 0 0)], bx g13 [u1, u3, (.int .i64 e.Clock), u5, (.bool e.Halted), u7]]) rfl (Cq (Sr (q1 rfl (Db f_66_1 rfl rfl (q := 1) rfl) (q1 rfl (lb 3 o_42 rfl rfl rfl rfl) (q1 rfl (Dl s_42 rfl rfl (rd_sl hu4)) (Pe rfl (Cb (Cl (fun m_ ac w' => ∃ (k : Nat), ∃ (v : Value), (k ≤ e.Memory.length) ∧ m_ = e.Memory.length - k ∧ Fits ac 72 [(1, (.pointer (some ⟨g13, 0, none⟩))), (2, (.pointer (some ⟨g14, 0, none⟩))), (3, (.pointer (some ⟨g17, 0, none⟩))), (19, u3), (20, (.int .i64 ((e.Memory.length : Nat) : Int))), (21, (.int .i64 ((k : Nat) : Int)))] ∧ St w ([ov [v] (e.Memory.take k : (List Stamp)), bx g17 [v15, v, (.int .i64 e.Clock), (.slice none 0 0), (.bool e.Halted), (.slice none 0 0)], ov [v15] (e.Rules : (List Rule)), bx g14 [(.slice none 0 0), (.slice none 0 0), (.int .i64 0), (.slice none 0 0), (.bool false), (.slice none 0 0)], bx g13 [u1, u3, (.int .i64 e.Clock), u5, (.bool e.Halted), u7]]) w') ?_ ?_)))))))))
 ·refine D_nil (α := Stamp) (D_eq 0 rfl (show ([] : (List Stamp)) = e.Memory.take 0 from by simp) (fun ac w' hf hs => ⟨_, 0, (.slice none 0 0), ?_, rfl, hf.weak ⟨rfl, rfl, rfl, rfl, rfl, rfl, trivial⟩, hs⟩))
  ·first | assumption | omega | simp
 ·rintro m_ ac w' ⟨k, v, hk, rfl, hf, hs⟩
  refine D.use ?_ hf hs
  clear hf hs ac w'
  have hclk : (e.Memory.take k).length ≤ k := by rw [List.length_take]; omega
  refine Sr (Pe rfl (Dh ([ov [v] (e.Memory.take k : (List Stamp)), bx g17 [v15, v, (.int .i64 e.Clock), (.slice none 0 0), (.bool e.Halted), (.slice none 0 0)], ov [v15] (e.Rules : (List Rule)), bx g14 [(.slice none 0 0), (.slice none 0 0), (.int .i64 0), (.slice none 0 0), (.bool false), (.slice none 0 0)], bx g13 [u1, u3, (.int .i64 e.Clock), u5, (.bool e.Halted), u7]]) rfl (Cq (Ci _ rfl (fun h21 => ?_) (fun h21 => ?_)))))
  ·have pr21 : (((k : Nat) : Int) : Int) < ((e.Memory.length : Nat) : Int) := odT h21
   refine Sk (Cq (Cb (Sr ?_)))
   obtain ⟨s0, s0h⟩ := sL (l := e.Memory) (i := k) (by omega)
   have hle := sumC_mem (c := szStamp) (List.mem_of_getElem? s0h)
   have hle2 : szStamp s0 = szFa s0.Fact := rfl
   obtain ⟨es22, at23, hr24⟩ := rd_elem (n := 3) rfl hu4 s0h
   obtain ⟨u25, rfl, hu26⟩ := open_Stamp hr24
   have hm27 := rd_max hu26
   have hb28 := sub_Stamp_Fact hr24
   refine q1 rfl (D_ix (l := e.Memory) (j := k) s_42 rfl rfl rfl (fun w' hs => (rA hs hu4)) rfl (lS s0h)) (q1 rfl (lra a_100 rfl rfl at23) (li rfl (D_alloc y_100 rfl rfl rfl rfl fun g29 => ?_)))
   refine li rfl (D_stb (vs := [(.string s0.Fact.Rel), u25, (.int .i64 s0.Time)]) (cs' := [(.string s0.Fact.Rel), u25, (.int .i64 s0.Time)]) 0 z_100 rfl rfl rfl rfl rfl rfl (ocons rfl (ocons (one_rd hu26) (ocons rfl onil))) (by simp) rfl ?_)
   refine Dx (Dh ([bx g29 [(.string s0.Fact.Rel), u25, (.int .i64 s0.Time)], ov [v] (e.Memory.take k : (List Stamp)), bx g17 [v15, v, (.int .i64 e.Clock), (.slice none 0 0), (.bool e.Halted), (.slice none 0 0)], ov [v15] (e.Rules : (List Rule)), bx g14 [(.slice none 0 0), (.slice none 0 0), (.int .i64 0), (.slice none 0 0), (.bool false), (.slice none 0 0)], bx g13 [u1, u3, (.int .i64 e.Clock), u5, (.bool e.Halted), u7]]) rfl (C_draw mixed [9, 10, 11] (by kernel_rfl) (Tk 0 rfl (by kernel_rfl) rfl (Db f_66_1 rfl rfl (q := 1) rfl) (Tk 1 rfl (by kernel_rfl) rfl (lb 2 o_42 rfl rfl rfl rfl) (Tk 2 rfl (by kernel_rfl) rfl (Db f_100_0 rfl rfl (q := 0) rfl) (Tk 3 rfl (by kernel_rfl) rfl (lba (es := [(.string s0.Fact.Rel), u25]) 0 a_70 rfl rfl rfl rfl) (Tk 5 rfl (by kernel_rfl) rfl (Db f_100_1 rfl rfl (q := 2) rfl) (Tk 6 rfl (by kernel_rfl) rfl (lb 0 o_3 rfl rfl rfl rfl) (ty 4 rfl (by kernel_rfl) rfl (crs rfl b_132 rfl rfl rfl rfl (fun w' hs => (impl_copyFact w' [(.string s0.Fact.Rel), u25] s0.Fact (rA hs hb28) (by first | assumption | omega | (unfold szm at *; split at * <;> omega)))) fun cs30 => ?_))))))))))
   refine Dp (fun w' hs => shape_Fact (rO (k := 0) hs rfl)) ?_
   rintro ⟨v31, rfl, ho32⟩
   refine tS (fun _ hs => hs.pk [1, 2, 3, 4, 5, 6] rfl rfl) (Tj 7 rfl (by kernel_rfl) rfl (fun _ hs => hs.pk [1, 2, 3, 4, 5, 6] rfl rfl) (D_built (vs := [(0, (.agg #[(.string s0.Fact.Rel), v31])), (1, (.int .i64 s0.Time))]) (xs := [(0, [(.string s0.Fact.Rel), v31]), (1, [(.int .i64 s0.Time)])]) (cs := [(.string s0.Fact.Rel), v31, (.int .i64 s0.Time)]) pl_100 rfl ⟨rfl, rfl, ⟨rfl, rfl, trivial⟩⟩ rfl rfl) (ty 8 rfl (by kernel_rfl) rfl (D_bs s_42 y_100 rfl (by decide) (by decide) rfl rfl rfl rfl rfl rfl fun g33 => ?_)))
   refine tS (fun _ hs => hs.pk [2, 3, 4, 5, 6, 7] rfl rfl) (D_pk (H' := [ov [(.string s0.Fact.Rel), v31] (s0.Fact : Fact), bx g33 [(.string s0.Fact.Rel), v31, (.int .i64 s0.Time)], bx g29 [(.string s0.Fact.Rel), u25, (.int .i64 s0.Time)], ov [v] (e.Memory.take k : (List Stamp)), bx g17 [v15, v, (.int .i64 e.Clock), (.slice none 0 0), (.bool e.Halted), (.slice none 0 0)], ov [v15] (e.Rules : (List Rule)), bx g14 [(.slice none 0 0), (.slice none 0 0), (.int .i64 0), (.slice none 0 0), (.bool false), (.slice none 0 0)], bx g13 [u1, u3, (.int .i64 e.Clock), u5, (.bool e.Halted), u7]]) [1, 0, 2, 3, 4, 5, 6, 7] rfl rfl (D_unpair (α := ByteArray) (β := (List ByteArray)) (c1 := [(.string s0.Fact.Rel)]) (c2 := [v31]) (x := s0.Fact.Rel) (y := (s0.Fact.Args)) rfl rfl (D_fd [] 1 rfl (pk_Stamp (r := (s0 : Stamp)) (D_pk (H' := [ov [v] (e.Memory.take k : (List Stamp)), ov [(.string s0.Fact.Rel), v31, (.int .i64 s0.Time)] ((s0 : Stamp) : Stamp), bx g33 [(.string s0.Fact.Rel), v31, (.int .i64 s0.Time)], bx g29 [(.string s0.Fact.Rel), u25, (.int .i64 s0.Time)], bx g17 [v15, v, (.int .i64 e.Clock), (.slice none 0 0), (.bool e.Halted), (.slice none 0 0)], ov [v15] (e.Rules : (List Rule)), bx g14 [(.slice none 0 0), (.slice none 0 0), (.int .i64 0), (.slice none 0 0), (.bool false), (.slice none 0 0)], bx g13 [u1, u3, (.int .i64 e.Clock), u5, (.bool e.Halted), u7]]) [3, 0, 1, 2, 4, 5, 6, 7] rfl rfl (ty 9 rfl (by kernel_rfl) rfl (D_ap s_42 y_100 rfl (by decide) rfl rfl rfl rfl rfl rfl (by first | omega | (simp; omega)) (by first | omega | (simp; omega)) fun v34 => ?_)))))))
   refine tZ rfl (ty 10 rfl (by kernel_rfl) rfl (sv rfl rfl (Db f_66_1 rfl rfl (q := 1) rfl) ?_))
   refine tZ rfl (Dp (fun w' hs => one_own (k := 0) hs rfl) ?_)
   intro ho35
   refine ty 11 rfl (by kernel_rfl) rfl (D_stb (vs := [v34]) (cs' := [v15, v34, (.int .i64 e.Clock), (.slice none 0 0), (.bool e.Halted), (.slice none 0 0)]) 2 z_42 rfl rfl rfl rfl rfl (cells_of_one ho35) (ocons ho35 onil) (by simp) rfl ?_)
   refine tZ rfl (tE (by kernel_rfl) (Xb (Xt (Dw [(1, (.pointer (some ⟨g13, 0, none⟩))), (2, (.pointer (some ⟨g14, 0, none⟩))), (3, (.pointer (some ⟨g17, 0, none⟩))), (19, u3), (20, (.int .i64 ((e.Memory.length : Nat) : Int))), (21, (.int .i64 ((k : Nat) : Int)))] ⟨rfl, rfl, rfl, rfl, rfl, rfl, trivial⟩ (Ds (H' := [ov [v34] ((e.Memory.take k) ++ [(s0 : Stamp)] : (List Stamp)), bx g17 [v15, v34, (.int .i64 e.Clock), (.slice none 0 0), (.bool e.Halted), (.slice none 0 0)], ov [v15] (e.Rules : (List Rule)), bx g14 [(.slice none 0 0), (.slice none 0 0), (.int .i64 0), (.slice none 0 0), (.bool false), (.slice none 0 0)], bx g13 [u1, u3, (.int .i64 e.Clock), u5, (.bool e.Halted), u7]]) [true, false, true, true, true, true] rfl (Cr (q1 rfl (D_add rfl rfl rfl (r := ((k + 1 : Nat) : Int)) (by omega) (by omega)) (Pe rfl (D_eq 0 rfl (show ((e.Memory.take k) ++ [(s0 : Stamp)] : (List Stamp)) = e.Memory.take (k + 1) from by exact (take_snoc s0h).symm) (fun ac w' hf hs => ⟨_, ?_, k + 1, v34, ?_, rfl, hf.weak ⟨rfl, rfl, rfl, rfl, rfl, rfl, trivial⟩, hs⟩))))))))))
   ·omega
   ·first | assumption | omega | simp
  ·have pr21 : ¬ (((k : Nat) : Int) : Int) < ((e.Memory.length : Nat) : Int) := odF h21
   refine Cx (Xx (Xx (Xe (Xt (Cq (Sr (q1 rfl (Db f_66_3 rfl rfl (q := 3) rfl) (q1 rfl (lb 4 o_63 rfl rfl rfl rfl) (q1 rfl (Dl s_63 rfl rfl (rd_sl hu6)) (Pe rfl (Cb (Cl (fun m_ ac w' => ∃ (j : Nat), ∃ (v2 : Value), (j ≤ e.Fired.length) ∧ m_ = e.Fired.length - j ∧ Fits ac 72 [(1, (.pointer (some ⟨g13, 0, none⟩))), (2, (.pointer (some ⟨g14, 0, none⟩))), (3, (.pointer (some ⟨g17, 0, none⟩))), (38, u5), (39, (.int .i64 ((e.Fired.length : Nat) : Int))), (40, (.int .i64 ((j : Nat) : Int)))] ∧ St w ([ov [v2] (e.Fired.take j : (List Firing)), ov [v] (e.Memory.take k : (List Stamp)), bx g17 [v15, v, (.int .i64 e.Clock), v2, (.bool e.Halted), (.slice none 0 0)], ov [v15] (e.Rules : (List Rule)), bx g14 [(.slice none 0 0), (.slice none 0 0), (.int .i64 0), (.slice none 0 0), (.bool false), (.slice none 0 0)], bx g13 [u1, u3, (.int .i64 e.Clock), u5, (.bool e.Halted), u7]]) w') ?_ ?_))))))))))))
   ·refine D_nil (α := Firing) (D_eq 0 rfl (show ([] : (List Firing)) = e.Fired.take 0 from by simp) (fun ac w' hf hs => ⟨_, 0, (.slice none 0 0), ?_, rfl, hf.weak ⟨rfl, rfl, rfl, rfl, rfl, rfl, trivial⟩, hs⟩))
    ·first | assumption | omega | simp
   ·rintro m_ ac w' ⟨j, v2, hj, rfl, hf, hs⟩
    refine D.use ?_ hf hs
    clear hf hs ac w'
    have hclj : (e.Fired.take j).length ≤ j := by rw [List.length_take]; omega
    refine Sr (Pe rfl (Dh ([ov [v2] (e.Fired.take j : (List Firing)), ov [v] (e.Memory.take k : (List Stamp)), bx g17 [v15, v, (.int .i64 e.Clock), v2, (.bool e.Halted), (.slice none 0 0)], ov [v15] (e.Rules : (List Rule)), bx g14 [(.slice none 0 0), (.slice none 0 0), (.int .i64 0), (.slice none 0 0), (.bool false), (.slice none 0 0)], bx g13 [u1, u3, (.int .i64 e.Clock), u5, (.bool e.Halted), u7]]) rfl (Cq (Ci _ rfl (fun h36 => ?_) (fun h36 => ?_)))))
    ·have pr36 : (((j : Nat) : Int) : Int) < ((e.Fired.length : Nat) : Int) := odT h36
     refine Sk (Cq (Cb (Sr ?_)))
     obtain ⟨f0, f0h⟩ := sL (l := e.Fired) (i := j) (by omega)
     have hle := sumC_mem (c := szFiring) (List.mem_of_getElem? f0h)
     have hle2 : szFiring f0 = f0.Rule.size + f0.Times.length := rfl
     obtain ⟨es37, at38, hr39⟩ := rd_elem (n := 2) rfl hu6 f0h
     obtain ⟨u40, rfl, hu41⟩ := open_Firing hr39
     have hm42 := rd_max hu41
     refine q1 rfl (D_ix (l := e.Fired) (j := j) s_63 rfl rfl rfl (fun w' hs => (rA hs hu6)) rfl (lS f0h)) (q1 rfl (lra a_168 rfl rfl at38) (li rfl (D_alloc y_168 rfl rfl rfl rfl fun g43 => ?_)))
     refine li rfl (D_stb (vs := [(.string f0.Rule), u40]) (cs' := [(.string f0.Rule), u40]) 0 z_168 rfl rfl rfl rfl rfl rfl (ocons rfl (ocons (one_rd hu41) onil)) (by simp) rfl ?_)
     refine Dx (Dh ([bx g43 [(.string f0.Rule), u40], ov [v2] (e.Fired.take j : (List Firing)), ov [v] (e.Memory.take k : (List Stamp)), bx g17 [v15, v, (.int .i64 e.Clock), v2, (.bool e.Halted), (.slice none 0 0)], ov [v15] (e.Rules : (List Rule)), bx g14 [(.slice none 0 0), (.slice none 0 0), (.int .i64 0), (.slice none 0 0), (.bool false), (.slice none 0 0)], bx g13 [u1, u3, (.int .i64 e.Clock), u5, (.bool e.Halted), u7]]) rfl (C_draw mixed [9, 10, 11] (by kernel_rfl) (Tk 0 rfl (by kernel_rfl) rfl (Db f_66_3 rfl rfl (q := 3) rfl) (Tk 1 rfl (by kernel_rfl) rfl (lb 3 o_63 rfl rfl rfl rfl) (Tk 2 rfl (by kernel_rfl) rfl (Db f_168_0 rfl rfl (q := 0) rfl) (Tk 3 rfl (by kernel_rfl) rfl (lb 0 o_9 rfl rfl rfl rfl) (Tk 4 rfl (by kernel_rfl) rfl (Db f_168_1 rfl rfl (q := 1) rfl) (Tk 5 rfl (by kernel_rfl) rfl (lb 0 o_35 rfl rfl rfl rfl) (ty 6 rfl (by kernel_rfl) rfl (crl b_133 rfl rfl rfl rfl (fun w' hs => (impl_copyInts w' u40 f0.Times (rA hs hu41) (by first | assumption | omega | (unfold szm at *; split at * <;> omega)))) fun v44 => ?_))))))))))
     refine tS (fun _ hs => hs.pk [1, 2, 3, 4, 5, 6, 7] rfl rfl) (Dp (fun w' hs => one_own (k := 0) hs rfl) ?_)
     intro ho45
     refine Tj 7 rfl (by kernel_rfl) rfl (fun _ hs => hs.pk [1, 2, 3, 4, 5, 6, 7] rfl rfl) (D_built (vs := [(0, (.string f0.Rule)), (1, v44)]) (xs := [(0, [(.string f0.Rule)]), (1, [v44])]) (cs := [(.string f0.Rule), v44]) pl_168 rfl ⟨rfl, rfl, ⟨rfl, (cells_of_one ho45), trivial⟩⟩ rfl rfl) (ty 8 rfl (by kernel_rfl) rfl (D_bs s_63 y_168 rfl (by decide) (by decide) rfl rfl rfl rfl rfl rfl fun g46 => ?_))
     refine tS (fun _ hs => hs.pk [2, 3, 4, 5, 6, 7, 8] rfl rfl) (D_pk (H' := [ov [v44] (f0.Times : (List Int)), bx g46 [(.string f0.Rule), v44], bx g43 [(.string f0.Rule), u40], ov [v2] (e.Fired.take j : (List Firing)), ov [v] (e.Memory.take k : (List Stamp)), bx g17 [v15, v, (.int .i64 e.Clock), v2, (.bool e.Halted), (.slice none 0 0)], ov [v15] (e.Rules : (List Rule)), bx g14 [(.slice none 0 0), (.slice none 0 0), (.int .i64 0), (.slice none 0 0), (.bool false), (.slice none 0 0)], bx g13 [u1, u3, (.int .i64 e.Clock), u5, (.bool e.Halted), u7]]) [1, 0, 2, 3, 4, 5, 6, 7, 8] rfl rfl (pk_Firing (r := (f0 : Firing)) (D_pk (H' := [ov [v2] (e.Fired.take j : (List Firing)), ov [(.string f0.Rule), v44] ((f0 : Firing) : Firing), bx g46 [(.string f0.Rule), v44], bx g43 [(.string f0.Rule), u40], ov [v] (e.Memory.take k : (List Stamp)), bx g17 [v15, v, (.int .i64 e.Clock), v2, (.bool e.Halted), (.slice none 0 0)], ov [v15] (e.Rules : (List Rule)), bx g14 [(.slice none 0 0), (.slice none 0 0), (.int .i64 0), (.slice none 0 0), (.bool false), (.slice none 0 0)], bx g13 [u1, u3, (.int .i64 e.Clock), u5, (.bool e.Halted), u7]]) [3, 0, 1, 2, 4, 5, 6, 7, 8] rfl rfl (ty 9 rfl (by kernel_rfl) rfl (D_ap s_63 y_168 rfl (by decide) rfl rfl rfl rfl rfl rfl (by first | omega | (simp; omega)) (by first | omega | (simp; omega)) fun v47 => ?_)))))
     refine tZ rfl (ty 10 rfl (by kernel_rfl) rfl (sv rfl rfl (Db f_66_3 rfl rfl (q := 3) rfl) ?_))
     refine tZ rfl (Dp (fun w' hs => one_own (k := 0) hs rfl) ?_)
     intro ho48
     refine ty 11 rfl (by kernel_rfl) rfl (D_stb (vs := [v47]) (cs' := [v15, v, (.int .i64 e.Clock), v47, (.bool e.Halted), (.slice none 0 0)]) 3 z_63 rfl rfl rfl rfl rfl (cells_of_one ho48) (ocons ho48 onil) (by simp) rfl ?_)
     refine tZ rfl (tE (by kernel_rfl) (Xb (Xt (Dw [(1, (.pointer (some ⟨g13, 0, none⟩))), (2, (.pointer (some ⟨g14, 0, none⟩))), (3, (.pointer (some ⟨g17, 0, none⟩))), (38, u5), (39, (.int .i64 ((e.Fired.length : Nat) : Int))), (40, (.int .i64 ((j : Nat) : Int)))] ⟨rfl, rfl, rfl, rfl, rfl, rfl, trivial⟩ (Ds (H' := [ov [v47] ((e.Fired.take j) ++ [(f0 : Firing)] : (List Firing)), ov [v] (e.Memory.take k : (List Stamp)), bx g17 [v15, v, (.int .i64 e.Clock), v47, (.bool e.Halted), (.slice none 0 0)], ov [v15] (e.Rules : (List Rule)), bx g14 [(.slice none 0 0), (.slice none 0 0), (.int .i64 0), (.slice none 0 0), (.bool false), (.slice none 0 0)], bx g13 [u1, u3, (.int .i64 e.Clock), u5, (.bool e.Halted), u7]]) [true, false, true, true, true, true, true] rfl (Cr (q1 rfl (D_add rfl rfl rfl (r := ((j + 1 : Nat) : Int)) (by omega) (by omega)) (Pe rfl (D_eq 0 rfl (show ((e.Fired.take j) ++ [(f0 : Firing)] : (List Firing)) = e.Fired.take (j + 1) from by exact (take_snoc f0h).symm) (fun ac w' hf hs => ⟨_, ?_, j + 1, v47, ?_, rfl, hf.weak ⟨rfl, rfl, rfl, rfl, rfl, rfl, trivial⟩, hs⟩))))))))))
     ·omega
     ·first | assumption | omega | simp
    ·have pr36 : ¬ (((j : Nat) : Int) : Int) < ((e.Fired.length : Nat) : Int) := odF h36
     refine Cx (Xx (Xx (Xe (Xt (Cq (Sr (q1 rfl (Db f_66_5 rfl rfl (q := 5) rfl) (q1 rfl (lb 5 o_64 rfl rfl rfl rfl) (q1 rfl (Dl s_64 rfl rfl (rd_sl hu8)) (Pe rfl (Cb (Cl (fun m_ ac w' => ∃ (p : Nat), ∃ (v3 : Value), (p ≤ e.Log.length) ∧ m_ = e.Log.length - p ∧ Fits ac 72 [(2, (.pointer (some ⟨g14, 0, none⟩))), (3, (.pointer (some ⟨g17, 0, none⟩))), (57, u7), (58, (.int .i64 ((e.Log.length : Nat) : Int))), (59, (.int .i64 ((p : Nat) : Int)))] ∧ St w ([ov [v3] (e.Log.take p : (List Event)), ov [v2] (e.Fired.take j : (List Firing)), ov [v] (e.Memory.take k : (List Stamp)), bx g17 [v15, v, (.int .i64 e.Clock), v2, (.bool e.Halted), v3], ov [v15] (e.Rules : (List Rule)), bx g14 [(.slice none 0 0), (.slice none 0 0), (.int .i64 0), (.slice none 0 0), (.bool false), (.slice none 0 0)], bx g13 [u1, u3, (.int .i64 e.Clock), u5, (.bool e.Halted), u7]]) w') ?_ ?_))))))))))))
     ·refine D_nil (α := Event) (D_eq 0 rfl (show ([] : (List Event)) = e.Log.take 0 from by simp) (fun ac w' hf hs => ⟨_, 0, (.slice none 0 0), ?_, rfl, hf.weak ⟨rfl, rfl, rfl, rfl, rfl, trivial⟩, hs⟩))
      ·first | assumption | omega | simp
     ·rintro m_ ac w' ⟨p, v3, hp, rfl, hf, hs⟩
      refine D.use ?_ hf hs
      clear hf hs ac w'
      have hclp : (e.Log.take p).length ≤ p := by rw [List.length_take]; omega
      refine Sr (Pe rfl (Dh ([ov [v3] (e.Log.take p : (List Event)), ov [v2] (e.Fired.take j : (List Firing)), ov [v] (e.Memory.take k : (List Stamp)), bx g17 [v15, v, (.int .i64 e.Clock), v2, (.bool e.Halted), v3], ov [v15] (e.Rules : (List Rule)), bx g14 [(.slice none 0 0), (.slice none 0 0), (.int .i64 0), (.slice none 0 0), (.bool false), (.slice none 0 0)], bx g13 [u1, u3, (.int .i64 e.Clock), u5, (.bool e.Halted), u7]]) rfl (Cq (Ci _ rfl (fun h49 => ?_) (fun h49 => ?_)))))
      ·have pr49 : (((p : Nat) : Int) : Int) < ((e.Log.length : Nat) : Int) := odT h49
       refine Sk (Cq (Cb (Sr ?_)))
       obtain ⟨v0, v0h⟩ := sL (l := e.Log) (i := p) (by omega)
       have hle := sumC_mem (c := szEv) (List.mem_of_getElem? v0h)
       have hle2 : szEv v0 = v0.Rule.size + szFa v0.Fact := rfl
       obtain ⟨es50, at51, hr52⟩ := rd_elem (n := 4) rfl hu8 v0h
       obtain ⟨u53, rfl, hu54⟩ := open_Event hr52
       have hm55 := rd_max hu54
       have hb56 := sub_Event_Fact hr52
       refine q1 rfl (D_ix (l := e.Log) (j := p) s_64 rfl rfl rfl (fun w' hs => (rA hs hu8)) rfl (lS v0h)) (q1 rfl (lra a_171 rfl rfl at51) (li rfl (D_alloc y_171 rfl rfl rfl rfl fun g57 => ?_)))
       refine li rfl (D_stb (vs := [(.int .i64 v0.Kind), (.string v0.Rule), (.string v0.Fact.Rel), u53]) (cs' := [(.int .i64 v0.Kind), (.string v0.Rule), (.string v0.Fact.Rel), u53]) 0 z_171 rfl rfl rfl rfl rfl rfl (ocons rfl (ocons rfl (ocons rfl (ocons (one_rd hu54) onil)))) (by simp) rfl ?_)
       refine Dx (Dh ([bx g57 [(.int .i64 v0.Kind), (.string v0.Rule), (.string v0.Fact.Rel), u53], ov [v3] (e.Log.take p : (List Event)), ov [v2] (e.Fired.take j : (List Firing)), ov [v] (e.Memory.take k : (List Stamp)), bx g17 [v15, v, (.int .i64 e.Clock), v2, (.bool e.Halted), v3], ov [v15] (e.Rules : (List Rule)), bx g14 [(.slice none 0 0), (.slice none 0 0), (.int .i64 0), (.slice none 0 0), (.bool false), (.slice none 0 0)], bx g13 [u1, u3, (.int .i64 e.Clock), u5, (.bool e.Halted), u7]]) rfl (C_draw mixed [5, 6, 7] (by kernel_rfl) (Tk 0 rfl (by kernel_rfl) rfl (Db f_66_5 rfl rfl (q := 5) rfl) (Tk 1 rfl (by kernel_rfl) rfl (lb 4 o_64 rfl rfl rfl rfl) (Tk 2 rfl (by kernel_rfl) rfl (lbw 0 a_171 rfl rfl rfl) (ty 3 rfl (by kernel_rfl) rfl (crs rfl b_134 rfl rfl rfl rfl (fun w' hs => (impl_copyEvent w' [(.int .i64 v0.Kind), (.string v0.Rule), (.string v0.Fact.Rel), u53] v0 (rA hs hr52) (by first | assumption | omega | (unfold szm at *; split at * <;> omega)))) fun cs58 => ?_)))))))
       refine Dp (fun w' hs => shape_Event (rO (k := 0) hs rfl)) ?_
       rintro ⟨v59, rfl, ho60⟩
       refine tS (fun _ hs => hs.pk [1, 2, 3, 4, 5, 6, 7, 8] rfl rfl) (ty 4 rfl (by kernel_rfl) rfl (D_bs s_64 y_171 rfl (by decide) (by decide) rfl rfl rfl rfl rfl rfl fun g61 => ?_))
       refine tS (fun _ hs => hs.pk [2, 3, 4, 5, 6, 7, 8, 9] rfl rfl) (D_pk (H' := [ov [v3] (e.Log.take p : (List Event)), ov [(.int .i64 v0.Kind), (.string v0.Rule), (.string v0.Fact.Rel), v59] (v0 : Event), bx g61 [(.int .i64 v0.Kind), (.string v0.Rule), (.string v0.Fact.Rel), v59], bx g57 [(.int .i64 v0.Kind), (.string v0.Rule), (.string v0.Fact.Rel), u53], ov [v2] (e.Fired.take j : (List Firing)), ov [v] (e.Memory.take k : (List Stamp)), bx g17 [v15, v, (.int .i64 e.Clock), v2, (.bool e.Halted), v3], ov [v15] (e.Rules : (List Rule)), bx g14 [(.slice none 0 0), (.slice none 0 0), (.int .i64 0), (.slice none 0 0), (.bool false), (.slice none 0 0)], bx g13 [u1, u3, (.int .i64 e.Clock), u5, (.bool e.Halted), u7]]) [3, 1, 0, 2, 4, 5, 6, 7, 8, 9] rfl rfl (ty 5 rfl (by kernel_rfl) rfl (D_ap s_64 y_171 rfl (by decide) rfl rfl rfl rfl rfl rfl (by first | omega | (simp; omega)) (by first | omega | (simp; omega)) fun v62 => ?_)))
       refine tZ rfl (ty 6 rfl (by kernel_rfl) rfl (sv rfl rfl (Db f_66_5 rfl rfl (q := 5) rfl) ?_))
       refine tZ rfl (Dp (fun w' hs => one_own (k := 0) hs rfl) ?_)
       intro ho63
       refine ty 7 rfl (by kernel_rfl) rfl (D_stb (vs := [v62]) (cs' := [v15, v, (.int .i64 e.Clock), v2, (.bool e.Halted), v62]) 4 z_64 rfl rfl rfl rfl rfl (cells_of_one ho63) (ocons ho63 onil) (by simp) rfl ?_)
       refine tZ rfl (tE (by kernel_rfl) (Xb (Xt (Dh ([ov [v62] ((e.Log.take p) ++ [v0] : (List Event)), bx g57 [(.int .i64 v0.Kind), (.string v0.Rule), (.string v0.Fact.Rel), u53], ov [v2] (e.Fired.take j : (List Firing)), ov [v] (e.Memory.take k : (List Stamp)), bx g17 [v15, v, (.int .i64 e.Clock), v2, (.bool e.Halted), v62], ov [v15] (e.Rules : (List Rule)), bx g14 [(.slice none 0 0), (.slice none 0 0), (.int .i64 0), (.slice none 0 0), (.bool false), (.slice none 0 0)], bx g13 [u1, u3, (.int .i64 e.Clock), u5, (.bool e.Halted), u7]]) rfl (Cr (q1 rfl (D_add rfl rfl rfl (r := ((p + 1 : Nat) : Int)) (by omega) (by omega)) (Pe rfl (D_eq 0 rfl (show ((e.Log.take p) ++ [v0] : (List Event)) = e.Log.take (p + 1) from by exact (take_snoc v0h).symm) (fun ac w' hf hs => ⟨_, ?_, p + 1, v62, ?_, rfl, hf.weak ⟨rfl, rfl, rfl, rfl, rfl, trivial⟩, hs.pk [0, 2, 3, 4, 5, 6, 7] rfl rfl⟩)))))))))
       ·omega
       ·first | assumption | omega | simp
      ·have pr49 : ¬ (((p : Nat) : Int) : Int) < ((e.Log.length : Nat) : Int) := odF h49
       refine Cx (Xx (Xx (Xe (Xt (Sr (q1 rfl (lbw 3 a_66 rfl rfl rfl) (Dp (fun w' hs => one_own (k := 0) hs rfl) ?_)))))))
       intro ho64
       refine Dp (fun w' hs => one_own (k := 1) hs rfl) ?_
       intro ho65
       refine Dp (fun w' hs => one_own (k := 2) hs rfl) ?_
       intro ho66
       refine Dp (fun w' hs => one_own (k := 4) hs rfl) ?_
       intro ho67
       refine li rfl (D_stb (vs := [v15, v, (.int .i64 e.Clock), v2, (.bool e.Halted), v3]) (cs' := [v15, v, (.int .i64 e.Clock), v2, (.bool e.Halted), v3]) 5 z_66 rfl rfl rfl rfl rfl rfl (ocons ho67 (ocons ho66 (ocons rfl (ocons ho65 (ocons rfl (ocons ho64 onil)))))) (by simp) rfl ?_)
       refine Dx (Ct (D_pk (H' := [ov [v15] (e.Rules : (List Rule)), ov [v] (e.Memory.take k : (List Stamp)), ov [v2] (e.Fired.take j : (List Firing)), ov [v3] (e.Log.take p : (List Event)), bx g17 [v15, v, (.int .i64 e.Clock), v2, (.bool e.Halted), v3], bx g14 [v15, v, (.int .i64 e.Clock), v2, (.bool e.Halted), v3], bx g13 [u1, u3, (.int .i64 e.Clock), u5, (.bool e.Halted), u7]]) [4, 2, 1, 0, 3, 5, 6] rfl rfl (pk_Engine (r := (⟨e.Rules, e.Memory.take k, e.Clock, e.Fired.take j, e.Halted, e.Log.take p⟩ : Engine)) (R_c 2 a_66 rfl rfl rfl fun w' hs => res_of (k := 0) hs rfl ?_))))
       show (⟨e.Rules, e.Memory.take k, e.Clock, e.Fired.take j, e.Halted, e.Log.take p⟩ : Engine) = e
       show (⟨e.Rules, e.Memory.take k, e.Clock, e.Fired.take j, e.Halted, e.Log.take p⟩ : Engine) = e; rw [List.take_of_length_le (by omega), List.take_of_length_le (by omega), List.take_of_length_le (by omega)]
set_option maxHeartbeats 4000000 in
theorem spec_l10Copy (w : World) (c_e : List Value) (e : Engine) (h_e : Gd.rd w c_e e) (hn : szEngine e ≤ 1048576) : Calls Tryz.prog 71 [(.agg c_e.toArray)].toArray w (Res w (e : Engine)) := by
 obtain ⟨u1, u3, u5, u7, rfl, hu2, hu4, hu6, hu8⟩ := open_Engine h_e
 have hm9 := rd_max hu2
 have hm10 := rd_max hu4
 have hm11 := rd_max hu6
 have hm12 := rd_max hu8
 unfold szEngine szL at hn
 refine enter 100 Tryz.func71 rfl rfl rfl (Sr (li rfl (D_box rfl rfl rfl rfl rfl fun g13 => ?_)))
 refine li rfl (D_alloc y_66 rfl rfl rfl rfl fun g14 => ?_)
 refine Dx (Dh ([bx g14 [(.slice none 0 0), (.slice none 0 0), (.int .i64 0), (.slice none 0 0), (.bool false), (.slice none 0 0)], bx g13 [u1, u3, (.int .i64 e.Clock), u5, (.bool e.Halted), u7]]) rfl (Cq (C_join (fun ac w' => ∃ (g17 : Nat), ∃ (v15 : Value), (v15.oneCell' = true) ∧ Fits ac 100 [(1, (.pointer (some ⟨g13, 0, none⟩))), (2, (.pointer (some ⟨g14, 0, none⟩))), (3, (.pointer (some ⟨g17, 0, none⟩)))] ∧ St w ([bx g17 [v15, (.slice none 0 0), (.int .i64 e.Clock), (.slice none 0 0), (.bool e.Halted), (.slice none 0 0)], ov [v15] (e.Rules : (List Rule)), bx g14 [(.slice none 0 0), (.slice none 0 0), (.int .i64 0), (.slice none 0 0), (.bool false), (.slice none 0 0)], bx g13 [u1, u3, (.int .i64 e.Clock), u5, (.bool e.Halted), u7]]) w') ?_ ?_)))
 ·refine C_draw mixed [9] (by kernel_rfl) (Tk 0 rfl (by kernel_rfl) rfl (Db f_66_0 rfl rfl (q := 0) rfl) (Tk 1 rfl (by kernel_rfl) rfl (lb 1 o_40 rfl rfl rfl rfl) (Tk 3 rfl (by kernel_rfl) rfl (Db f_66_2 rfl rfl (q := 2) rfl) (Tk 4 rfl (by kernel_rfl) rfl (lb 1 o_3 rfl rfl rfl rfl) (Tk 5 rfl (by kernel_rfl) rfl (Db f_66_4 rfl rfl (q := 4) rfl) (Tk 6 rfl (by kernel_rfl) rfl (lb 1 o_4 rfl rfl rfl rfl) (tyN [2, 8] rfl (by kernel_rfl) ⟨⟨_, rfl, rfl, ?_⟩, ⟨_, rfl, rfl, ?_⟩, trivial⟩)))))))
  ·refine id (crl b_122 rfl rfl rfl rfl (fun w' hs => (spec_l5Copies w' u1 e.Rules (rA hs hu2) (by unfold szL; omega))) fun v15 => ?_)
   refine tS (fun _ hs => hs.pk [1, 2] rfl rfl) (Dp (fun w' hs => one_own (k := 0) hs rfl) ?_)
   intro ho16
   refine Tj 7 rfl (by kernel_rfl) rfl (fun _ hs => hs.pk [1, 2] rfl rfl) (D_built (vs := [(0, v15), (2, (.int .i64 e.Clock)), (4, (.bool e.Halted))]) (xs := [(0, [v15]), (2, [(.int .i64 e.Clock)]), (4, [(.bool e.Halted)])]) (cs := [v15, (.slice none 0 0), (.int .i64 e.Clock), (.slice none 0 0), (.bool e.Halted), (.slice none 0 0)]) pl_66 rfl ⟨rfl, (cells_of_one ho16), ⟨rfl, rfl, ⟨rfl, rfl, trivial⟩⟩⟩ rfl rfl) (ty 8 rfl (by kernel_rfl) rfl (D_alloc y_66 rfl rfl rfl rfl fun g17 => ?_))
   refine tS (fun _ hs => hs.pk [2, 3] rfl rfl) (ty 9 rfl (by kernel_rfl) rfl (D_stb (vs := [v15, (.slice none 0 0), (.int .i64 e.Clock), (.slice none 0 0), (.bool e.Halted), (.slice none 0 0)]) (cs' := [v15, (.slice none 0 0), (.int .i64 e.Clock), (.slice none 0 0), (.bool e.Halted), (.slice none 0 0)]) 0 z_66 rfl rfl rfl rfl rfl rfl (ocons ho16 (ocons rfl (ocons rfl (ocons rfl (ocons rfl (ocons rfl onil)))))) (by simp) rfl ?_))
   refine tZ rfl (tE (by kernel_rfl) (Xt (fun ac w' hf hs => ⟨g17, v15, ho16, hf.weak ⟨rfl, rfl, rfl, trivial⟩, hs⟩)))
  ·refine id (D_alloc y_66 rfl rfl rfl rfl fun g18 => ?_)
   refine tS (fun _ hs => hs.pk [1, 2] rfl rfl) (ty 2 rfl (by kernel_rfl) rfl (crl b_122 rfl rfl rfl rfl (fun w' hs => (spec_l5Copies w' u1 e.Rules (rA hs hu2) (by unfold szL; omega))) fun v19 => ?_))
   refine tS (fun _ hs => hs.pk [2, 3] rfl rfl) (Dp (fun w' hs => one_own (k := 0) hs rfl) ?_)
   intro ho20
   refine Tj 7 rfl (by kernel_rfl) rfl (fun _ hs => hs.pk [2, 3] rfl rfl) (D_built (vs := [(0, v19), (2, (.int .i64 e.Clock)), (4, (.bool e.Halted))]) (xs := [(0, [v19]), (2, [(.int .i64 e.Clock)]), (4, [(.bool e.Halted)])]) (cs := [v19, (.slice none 0 0), (.int .i64 e.Clock), (.slice none 0 0), (.bool e.Halted), (.slice none 0 0)]) pl_66 rfl ⟨rfl, (cells_of_one ho20), ⟨rfl, rfl, ⟨rfl, rfl, trivial⟩⟩⟩ rfl rfl) (ty 9 rfl (by kernel_rfl) rfl (D_stb (vs := [v19, (.slice none 0 0), (.int .i64 e.Clock), (.slice none 0 0), (.bool e.Halted), (.slice none 0 0)]) (cs' := [v19, (.slice none 0 0), (.int .i64 e.Clock), (.slice none 0 0), (.bool e.Halted), (.slice none 0 0)]) 1 z_66 rfl rfl rfl rfl rfl rfl (ocons ho20 (ocons rfl (ocons rfl (ocons rfl (ocons rfl (ocons rfl onil)))))) (by simp) rfl ?_))
   refine tZ rfl (tE (by kernel_rfl) (Xt (fun ac w' hf hs => ⟨g18, v19, ho20, hf.weak ⟨rfl, rfl, rfl, trivial⟩, hs.pk [1, 0, 2, 3] rfl rfl⟩)))
 rintro ac w' ⟨g17, v15, ho16, hf, hs⟩
 refine D.use ?_ hf hs
 clear hf hs ac w'
 refine Xt (Dh ([bx g17 [v15, (.slice none 0 0), (.int .i64 e.Clock), (.slice none 0 0), (.bool e.Halted), (.slice none 0 0)], ov [v15] (e.Rules : (List Rule)), bx g14 [(.slice none 0 0), (.slice none 0 0), (.int .i64 0), (.slice none 0 0), (.bool false), (.slice none 0 0)], bx g13 [u1, u3, (.int .i64 e.Clock), u5, (.bool e.Halted), u7]]) rfl (Cq (Sr (Pe rfl (Cb (Cl (fun m_ ac w' => ∃ (k : Nat), ∃ (v : Value), (k ≤ e.Memory.length) ∧ m_ = e.Memory.length - k ∧ Fits ac 100 [(1, (.pointer (some ⟨g13, 0, none⟩))), (2, (.pointer (some ⟨g14, 0, none⟩))), (3, (.pointer (some ⟨g17, 0, none⟩))), (4, (.int .i64 ((k : Nat) : Int)))] ∧ St w ([ov [v] (e.Memory.take k : (List Stamp)), bx g17 [v15, v, (.int .i64 e.Clock), (.slice none 0 0), (.bool e.Halted), (.slice none 0 0)], ov [v15] (e.Rules : (List Rule)), bx g14 [(.slice none 0 0), (.slice none 0 0), (.int .i64 0), (.slice none 0 0), (.bool false), (.slice none 0 0)], bx g13 [u1, u3, (.int .i64 e.Clock), u5, (.bool e.Halted), u7]]) w') ?_ ?_))))))
 ·refine D_nil (α := Stamp) (D_eq 0 rfl (show ([] : (List Stamp)) = e.Memory.take 0 from by simp) (fun ac w' hf hs => ⟨_, 0, (.slice none 0 0), ?_, rfl, hf.weak ⟨rfl, rfl, rfl, rfl, trivial⟩, hs⟩))
  ·first | assumption | omega | simp
 ·rintro m_ ac w' ⟨k, v, hk, rfl, hf, hs⟩
  refine D.use ?_ hf hs
  clear hf hs ac w'
  have hclk : (e.Memory.take k).length ≤ k := by rw [List.length_take]; omega
  refine Cq (Sr (p1 rfl (q1 rfl (Db f_66_1 rfl rfl (q := 1) rfl) (q1 rfl (lb 4 o_42 rfl rfl rfl rfl) (q1 rfl (Dl s_42 rfl rfl (rd_sl hu4)) (Pe rfl (Dh ([ov [v] (e.Memory.take k : (List Stamp)), bx g17 [v15, v, (.int .i64 e.Clock), (.slice none 0 0), (.bool e.Halted), (.slice none 0 0)], ov [v15] (e.Rules : (List Rule)), bx g14 [(.slice none 0 0), (.slice none 0 0), (.int .i64 0), (.slice none 0 0), (.bool false), (.slice none 0 0)], bx g13 [u1, u3, (.int .i64 e.Clock), u5, (.bool e.Halted), u7]]) rfl (Ci _ rfl (fun h21 => ?_) (fun h21 => ?_)))))))))
  ·have pr21 : (((k : Nat) : Int) : Int) < ((e.Memory.length : Nat) : Int) := odT h21
   refine Sk (Cq (Cb (C_draw mixed [17, 18, 19] (by kernel_rfl) (Tk 0 rfl (by kernel_rfl) rfl (Db f_66_1 rfl rfl (q := 1) rfl) (Tk 1 rfl (by kernel_rfl) rfl (lb 1 o_42 rfl rfl rfl rfl) (Tk 2 rfl (by kernel_rfl) rfl (Db f_66_1 rfl rfl (q := 1) rfl) (Tk 3 rfl (by kernel_rfl) rfl (lb 4 o_42 rfl rfl rfl rfl) (Tk 4 rfl (by kernel_rfl) rfl (rp rfl) ?_))))))))
   obtain ⟨s0, s0h⟩ := sL (l := e.Memory) (i := k) (by omega)
   have hle := sumC_mem (c := szStamp) (List.mem_of_getElem? s0h)
   have hle2 : szStamp s0 = szFa s0.Fact := rfl
   obtain ⟨es22, at23, hr24⟩ := rd_elem (n := 3) rfl hu4 s0h
   obtain ⟨u25, rfl, hu26⟩ := open_Stamp hr24
   have hm27 := rd_max hu26
   have hb28 := sub_Stamp_Fact hr24
   refine Tk 5 rfl (by kernel_rfl) rfl (D_ix (l := e.Memory) (j := k) s_42 rfl rfl rfl (fun w' hs => (rA hs hu4)) rfl (lS s0h)) (Tk 6 rfl (by kernel_rfl) rfl (D_fa f_100_0 rfl rfl) (Tk 7 rfl (by kernel_rfl) rfl (lra a_70 rfl rfl (at_sub (f := 0) (n := 2) at23 rfl)) (Tk 9 rfl (by kernel_rfl) rfl (Db f_66_1 rfl rfl (q := 1) rfl) (Tk 10 rfl (by kernel_rfl) rfl (lb 4 o_42 rfl rfl rfl rfl) (Tk 11 rfl (by kernel_rfl) rfl (rp rfl) (Tk 12 rfl (by kernel_rfl) rfl (D_ix (l := e.Memory) (j := k) s_42 rfl rfl rfl (fun w' hs => (rA hs hu4)) rfl (lS s0h)) (Tk 13 rfl (by kernel_rfl) rfl (D_fa f_100_1 rfl rfl) (Tk 14 rfl (by kernel_rfl) rfl (lr o_3 rfl rfl at23 rfl) (ty 8 rfl (by kernel_rfl) rfl (crs rfl b_123 rfl rfl rfl rfl (fun w' hs => (spec_l2Copy w' [(.string s0.Fact.Rel), u25] s0.Fact (rA hs hb28) (by first | assumption | omega | (unfold szm at *; split at * <;> omega)))) fun cs29 => ?_))))))))))
   refine Dp (fun w' hs => shape_Fact (rO (k := 0) hs rfl)) ?_
   rintro ⟨v30, rfl, ho31⟩
   refine tS (fun _ hs => hs.pk [1, 2, 3, 4, 5] rfl rfl) (Tj 15 rfl (by kernel_rfl) rfl (fun _ hs => hs.pk [1, 2, 3, 4, 5] rfl rfl) (D_built (vs := [(0, (.agg #[(.string s0.Fact.Rel), v30])), (1, (.int .i64 s0.Time))]) (xs := [(0, [(.string s0.Fact.Rel), v30]), (1, [(.int .i64 s0.Time)])]) (cs := [(.string s0.Fact.Rel), v30, (.int .i64 s0.Time)]) pl_100 rfl ⟨rfl, rfl, ⟨rfl, rfl, trivial⟩⟩ rfl rfl) (ty 16 rfl (by kernel_rfl) rfl (D_bs s_42 y_100 rfl (by decide) (by decide) rfl rfl rfl rfl rfl rfl fun g32 => ?_)))
   refine tS (fun _ hs => hs.pk [2, 3, 4, 5, 6] rfl rfl) (D_pk (H' := [ov [(.string s0.Fact.Rel), v30] (s0.Fact : Fact), bx g32 [(.string s0.Fact.Rel), v30, (.int .i64 s0.Time)], ov [v] (e.Memory.take k : (List Stamp)), bx g17 [v15, v, (.int .i64 e.Clock), (.slice none 0 0), (.bool e.Halted), (.slice none 0 0)], ov [v15] (e.Rules : (List Rule)), bx g14 [(.slice none 0 0), (.slice none 0 0), (.int .i64 0), (.slice none 0 0), (.bool false), (.slice none 0 0)], bx g13 [u1, u3, (.int .i64 e.Clock), u5, (.bool e.Halted), u7]]) [1, 0, 2, 3, 4, 5, 6] rfl rfl (D_unpair (α := ByteArray) (β := (List ByteArray)) (c1 := [(.string s0.Fact.Rel)]) (c2 := [v30]) (x := s0.Fact.Rel) (y := (s0.Fact.Args)) rfl rfl (D_fd [] 1 rfl (pk_Stamp (r := (s0 : Stamp)) (D_pk (H' := [ov [v] (e.Memory.take k : (List Stamp)), ov [(.string s0.Fact.Rel), v30, (.int .i64 s0.Time)] ((s0 : Stamp) : Stamp), bx g32 [(.string s0.Fact.Rel), v30, (.int .i64 s0.Time)], bx g17 [v15, v, (.int .i64 e.Clock), (.slice none 0 0), (.bool e.Halted), (.slice none 0 0)], ov [v15] (e.Rules : (List Rule)), bx g14 [(.slice none 0 0), (.slice none 0 0), (.int .i64 0), (.slice none 0 0), (.bool false), (.slice none 0 0)], bx g13 [u1, u3, (.int .i64 e.Clock), u5, (.bool e.Halted), u7]]) [2, 0, 1, 3, 4, 5, 6] rfl rfl (ty 17 rfl (by kernel_rfl) rfl (D_ap s_42 y_100 rfl (by decide) rfl rfl rfl rfl rfl rfl (by first | omega | (simp; omega)) (by first | omega | (simp; omega)) fun v33 => ?_)))))))
   refine tZ rfl (ty 18 rfl (by kernel_rfl) rfl (sv rfl rfl (Db f_66_1 rfl rfl (q := 1) rfl) ?_))
   refine tZ rfl (Dp (fun w' hs => one_own (k := 0) hs rfl) ?_)
   intro ho34
   refine ty 19 rfl (by kernel_rfl) rfl (D_stb (vs := [v33]) (cs' := [v15, v33, (.int .i64 e.Clock), (.slice none 0 0), (.bool e.Halted), (.slice none 0 0)]) 1 z_42 rfl rfl rfl rfl rfl (cells_of_one ho34) (ocons ho34 onil) (by simp) rfl ?_)
   refine tZ rfl (tE (by kernel_rfl) (Xb (Xt (Dw [(1, (.pointer (some ⟨g13, 0, none⟩))), (2, (.pointer (some ⟨g14, 0, none⟩))), (3, (.pointer (some ⟨g17, 0, none⟩))), (4, (.int .i64 ((k : Nat) : Int)))] ⟨rfl, rfl, rfl, rfl, trivial⟩ (Dh ([ov [v33] ((e.Memory.take k) ++ [(s0 : Stamp)] : (List Stamp)), bx g17 [v15, v33, (.int .i64 e.Clock), (.slice none 0 0), (.bool e.Halted), (.slice none 0 0)], ov [v15] (e.Rules : (List Rule)), bx g14 [(.slice none 0 0), (.slice none 0 0), (.int .i64 0), (.slice none 0 0), (.bool false), (.slice none 0 0)], bx g13 [u1, u3, (.int .i64 e.Clock), u5, (.bool e.Halted), u7]]) rfl (Cr (p1 rfl (q1 rfl (D_add rfl rfl rfl (r := ((k + 1 : Nat) : Int)) (by omega) (by omega)) (Pe rfl (D_eq 0 rfl (show ((e.Memory.take k) ++ [(s0 : Stamp)] : (List Stamp)) = e.Memory.take (k + 1) from by exact (take_snoc s0h).symm) (fun ac w' hf hs => ⟨_, ?_, k + 1, v33, ?_, rfl, hf.weak ⟨rfl, rfl, rfl, rfl, trivial⟩, hs⟩)))))))))))
   ·omega
   ·first | assumption | omega | simp
  ·have pr21 : ¬ (((k : Nat) : Int) : Int) < ((e.Memory.length : Nat) : Int) := odF h21
   refine Cx (Xx (Xx (Xe (Xt (Cq (Sr (Pe rfl (Cb (Cl (fun m_ ac w' => ∃ (j : Nat), ∃ (v2 : Value), (j ≤ e.Fired.length) ∧ m_ = e.Fired.length - j ∧ Fits ac 100 [(1, (.pointer (some ⟨g13, 0, none⟩))), (2, (.pointer (some ⟨g14, 0, none⟩))), (3, (.pointer (some ⟨g17, 0, none⟩))), (5, (.int .i64 ((j : Nat) : Int)))] ∧ St w ([ov [v2] (e.Fired.take j : (List Firing)), ov [v] (e.Memory.take k : (List Stamp)), bx g17 [v15, v, (.int .i64 e.Clock), v2, (.bool e.Halted), (.slice none 0 0)], ov [v15] (e.Rules : (List Rule)), bx g14 [(.slice none 0 0), (.slice none 0 0), (.int .i64 0), (.slice none 0 0), (.bool false), (.slice none 0 0)], bx g13 [u1, u3, (.int .i64 e.Clock), u5, (.bool e.Halted), u7]]) w') ?_ ?_)))))))))
   ·refine D_nil (α := Firing) (D_eq 0 rfl (show ([] : (List Firing)) = e.Fired.take 0 from by simp) (fun ac w' hf hs => ⟨_, 0, (.slice none 0 0), ?_, rfl, hf.weak ⟨rfl, rfl, rfl, rfl, trivial⟩, hs⟩))
    ·first | assumption | omega | simp
   ·rintro m_ ac w' ⟨j, v2, hj, rfl, hf, hs⟩
    refine D.use ?_ hf hs
    clear hf hs ac w'
    have hclj : (e.Fired.take j).length ≤ j := by rw [List.length_take]; omega
    refine Cq (Sr (p1 rfl (q1 rfl (Db f_66_3 rfl rfl (q := 3) rfl) (q1 rfl (lb 5 o_63 rfl rfl rfl rfl) (q1 rfl (Dl s_63 rfl rfl (rd_sl hu6)) (Pe rfl (Dh ([ov [v2] (e.Fired.take j : (List Firing)), ov [v] (e.Memory.take k : (List Stamp)), bx g17 [v15, v, (.int .i64 e.Clock), v2, (.bool e.Halted), (.slice none 0 0)], ov [v15] (e.Rules : (List Rule)), bx g14 [(.slice none 0 0), (.slice none 0 0), (.int .i64 0), (.slice none 0 0), (.bool false), (.slice none 0 0)], bx g13 [u1, u3, (.int .i64 e.Clock), u5, (.bool e.Halted), u7]]) rfl (Ci _ rfl (fun h35 => ?_) (fun h35 => ?_)))))))))
    ·have pr35 : (((j : Nat) : Int) : Int) < ((e.Fired.length : Nat) : Int) := odT h35
     refine Sk (Cq (Cb (C_draw mixed [17, 18, 19] (by kernel_rfl) (Tk 0 rfl (by kernel_rfl) rfl (Db f_66_3 rfl rfl (q := 3) rfl) (Tk 1 rfl (by kernel_rfl) rfl (lb 2 o_63 rfl rfl rfl rfl) (Tk 2 rfl (by kernel_rfl) rfl (Db f_66_3 rfl rfl (q := 3) rfl) (Tk 3 rfl (by kernel_rfl) rfl (lb 5 o_63 rfl rfl rfl rfl) (Tk 4 rfl (by kernel_rfl) rfl (rp rfl) ?_))))))))
     obtain ⟨f0, f0h⟩ := sL (l := e.Fired) (i := j) (by omega)
     have hle := sumC_mem (c := szFiring) (List.mem_of_getElem? f0h)
     have hle2 : szFiring f0 = f0.Rule.size + f0.Times.length := rfl
     obtain ⟨es36, at37, hr38⟩ := rd_elem (n := 2) rfl hu6 f0h
     obtain ⟨u39, rfl, hu40⟩ := open_Firing hr38
     have hm41 := rd_max hu40
     refine Tk 5 rfl (by kernel_rfl) rfl (D_ix (l := e.Fired) (j := j) s_63 rfl rfl rfl (fun w' hs => (rA hs hu6)) rfl (lS f0h)) (Tk 6 rfl (by kernel_rfl) rfl (D_fa f_168_0 rfl rfl) (Tk 7 rfl (by kernel_rfl) rfl (lr o_9 rfl rfl at37 rfl) (Tk 8 rfl (by kernel_rfl) rfl (Db f_66_3 rfl rfl (q := 3) rfl) (Tk 9 rfl (by kernel_rfl) rfl (lb 5 o_63 rfl rfl rfl rfl) (Tk 10 rfl (by kernel_rfl) rfl (rp rfl) (Tk 11 rfl (by kernel_rfl) rfl (D_ix (l := e.Fired) (j := j) s_63 rfl rfl rfl (fun w' hs => (rA hs hu6)) rfl (lS f0h)) (Tk 12 rfl (by kernel_rfl) rfl (D_fa f_168_1 rfl rfl) (Tk 13 rfl (by kernel_rfl) rfl (lr o_35 rfl rfl at37 rfl) (ty 14 rfl (by kernel_rfl) rfl (crl b_124 rfl rfl rfl rfl (fun w' hs => (spec_l1Ints w' u39 f0.Times (rA hs hu40) (by first | assumption | omega | (unfold szm at *; split at * <;> omega)))) fun v42 => ?_))))))))))
     refine tS (fun _ hs => hs.pk [1, 2, 3, 4, 5, 6] rfl rfl) (Dp (fun w' hs => one_own (k := 0) hs rfl) ?_)
     intro ho43
     refine Tj 15 rfl (by kernel_rfl) rfl (fun _ hs => hs.pk [1, 2, 3, 4, 5, 6] rfl rfl) (D_built (vs := [(0, (.string f0.Rule)), (1, v42)]) (xs := [(0, [(.string f0.Rule)]), (1, [v42])]) (cs := [(.string f0.Rule), v42]) pl_168 rfl ⟨rfl, rfl, ⟨rfl, (cells_of_one ho43), trivial⟩⟩ rfl rfl) (ty 16 rfl (by kernel_rfl) rfl (D_bs s_63 y_168 rfl (by decide) (by decide) rfl rfl rfl rfl rfl rfl fun g44 => ?_))
     refine tS (fun _ hs => hs.pk [2, 3, 4, 5, 6, 7] rfl rfl) (D_pk (H' := [ov [v42] (f0.Times : (List Int)), bx g44 [(.string f0.Rule), v42], ov [v2] (e.Fired.take j : (List Firing)), ov [v] (e.Memory.take k : (List Stamp)), bx g17 [v15, v, (.int .i64 e.Clock), v2, (.bool e.Halted), (.slice none 0 0)], ov [v15] (e.Rules : (List Rule)), bx g14 [(.slice none 0 0), (.slice none 0 0), (.int .i64 0), (.slice none 0 0), (.bool false), (.slice none 0 0)], bx g13 [u1, u3, (.int .i64 e.Clock), u5, (.bool e.Halted), u7]]) [1, 0, 2, 3, 4, 5, 6, 7] rfl rfl (pk_Firing (r := (f0 : Firing)) (D_pk (H' := [ov [v2] (e.Fired.take j : (List Firing)), ov [(.string f0.Rule), v42] ((f0 : Firing) : Firing), bx g44 [(.string f0.Rule), v42], ov [v] (e.Memory.take k : (List Stamp)), bx g17 [v15, v, (.int .i64 e.Clock), v2, (.bool e.Halted), (.slice none 0 0)], ov [v15] (e.Rules : (List Rule)), bx g14 [(.slice none 0 0), (.slice none 0 0), (.int .i64 0), (.slice none 0 0), (.bool false), (.slice none 0 0)], bx g13 [u1, u3, (.int .i64 e.Clock), u5, (.bool e.Halted), u7]]) [2, 0, 1, 3, 4, 5, 6, 7] rfl rfl (ty 17 rfl (by kernel_rfl) rfl (D_ap s_63 y_168 rfl (by decide) rfl rfl rfl rfl rfl rfl (by first | omega | (simp; omega)) (by first | omega | (simp; omega)) fun v45 => ?_)))))
     refine tZ rfl (ty 18 rfl (by kernel_rfl) rfl (sv rfl rfl (Db f_66_3 rfl rfl (q := 3) rfl) ?_))
     refine tZ rfl (Dp (fun w' hs => one_own (k := 0) hs rfl) ?_)
     intro ho46
     refine ty 19 rfl (by kernel_rfl) rfl (D_stb (vs := [v45]) (cs' := [v15, v, (.int .i64 e.Clock), v45, (.bool e.Halted), (.slice none 0 0)]) 2 z_63 rfl rfl rfl rfl rfl (cells_of_one ho46) (ocons ho46 onil) (by simp) rfl ?_)
     refine tZ rfl (tE (by kernel_rfl) (Xb (Xt (Dw [(1, (.pointer (some ⟨g13, 0, none⟩))), (2, (.pointer (some ⟨g14, 0, none⟩))), (3, (.pointer (some ⟨g17, 0, none⟩))), (5, (.int .i64 ((j : Nat) : Int)))] ⟨rfl, rfl, rfl, rfl, trivial⟩ (Dh ([ov [v45] ((e.Fired.take j) ++ [(f0 : Firing)] : (List Firing)), ov [v] (e.Memory.take k : (List Stamp)), bx g17 [v15, v, (.int .i64 e.Clock), v45, (.bool e.Halted), (.slice none 0 0)], ov [v15] (e.Rules : (List Rule)), bx g14 [(.slice none 0 0), (.slice none 0 0), (.int .i64 0), (.slice none 0 0), (.bool false), (.slice none 0 0)], bx g13 [u1, u3, (.int .i64 e.Clock), u5, (.bool e.Halted), u7]]) rfl (Cr (p1 rfl (q1 rfl (D_add rfl rfl rfl (r := ((j + 1 : Nat) : Int)) (by omega) (by omega)) (Pe rfl (D_eq 0 rfl (show ((e.Fired.take j) ++ [(f0 : Firing)] : (List Firing)) = e.Fired.take (j + 1) from by exact (take_snoc f0h).symm) (fun ac w' hf hs => ⟨_, ?_, j + 1, v45, ?_, rfl, hf.weak ⟨rfl, rfl, rfl, rfl, trivial⟩, hs⟩)))))))))))
     ·omega
     ·first | assumption | omega | simp
    ·have pr35 : ¬ (((j : Nat) : Int) : Int) < ((e.Fired.length : Nat) : Int) := odF h35
     refine Cx (Xx (Xx (Xe (Xt (Cq (Sr (Pe rfl (Cb (Cl (fun m_ ac w' => ∃ (p : Nat), ∃ (v3 : Value), (p ≤ e.Log.length) ∧ m_ = e.Log.length - p ∧ Fits ac 100 [(1, (.pointer (some ⟨g13, 0, none⟩))), (2, (.pointer (some ⟨g14, 0, none⟩))), (3, (.pointer (some ⟨g17, 0, none⟩))), (6, (.int .i64 ((p : Nat) : Int)))] ∧ St w ([ov [v3] (e.Log.take p : (List Event)), ov [v2] (e.Fired.take j : (List Firing)), ov [v] (e.Memory.take k : (List Stamp)), bx g17 [v15, v, (.int .i64 e.Clock), v2, (.bool e.Halted), v3], ov [v15] (e.Rules : (List Rule)), bx g14 [(.slice none 0 0), (.slice none 0 0), (.int .i64 0), (.slice none 0 0), (.bool false), (.slice none 0 0)], bx g13 [u1, u3, (.int .i64 e.Clock), u5, (.bool e.Halted), u7]]) w') ?_ ?_)))))))))
     ·refine D_nil (α := Event) (D_eq 0 rfl (show ([] : (List Event)) = e.Log.take 0 from by simp) (fun ac w' hf hs => ⟨_, 0, (.slice none 0 0), ?_, rfl, hf.weak ⟨rfl, rfl, rfl, rfl, trivial⟩, hs⟩))
      ·first | assumption | omega | simp
     ·rintro m_ ac w' ⟨p, v3, hp, rfl, hf, hs⟩
      refine D.use ?_ hf hs
      clear hf hs ac w'
      have hclp : (e.Log.take p).length ≤ p := by rw [List.length_take]; omega
      refine Cq (Sr (p1 rfl (q1 rfl (Db f_66_5 rfl rfl (q := 5) rfl) (q1 rfl (lb 6 o_64 rfl rfl rfl rfl) (q1 rfl (Dl s_64 rfl rfl (rd_sl hu8)) (Pe rfl (Dh ([ov [v3] (e.Log.take p : (List Event)), ov [v2] (e.Fired.take j : (List Firing)), ov [v] (e.Memory.take k : (List Stamp)), bx g17 [v15, v, (.int .i64 e.Clock), v2, (.bool e.Halted), v3], ov [v15] (e.Rules : (List Rule)), bx g14 [(.slice none 0 0), (.slice none 0 0), (.int .i64 0), (.slice none 0 0), (.bool false), (.slice none 0 0)], bx g13 [u1, u3, (.int .i64 e.Clock), u5, (.bool e.Halted), u7]]) rfl (Ci _ rfl (fun h47 => ?_) (fun h47 => ?_)))))))))
      ·have pr47 : (((p : Nat) : Int) : Int) < ((e.Log.length : Nat) : Int) := odT h47
       refine Sk (Cq (Cb (C_draw mixed [23, 24, 25] (by kernel_rfl) (Tk 0 rfl (by kernel_rfl) rfl (Db f_66_5 rfl rfl (q := 5) rfl) (Tk 1 rfl (by kernel_rfl) rfl (lb 3 o_64 rfl rfl rfl rfl) (Tk 2 rfl (by kernel_rfl) rfl (Db f_66_5 rfl rfl (q := 5) rfl) (Tk 3 rfl (by kernel_rfl) rfl (lb 6 o_64 rfl rfl rfl rfl) (Tk 4 rfl (by kernel_rfl) rfl (rp rfl) ?_))))))))
       obtain ⟨v0, v0h⟩ := sL (l := e.Log) (i := p) (by omega)
       have hle := sumC_mem (c := szEv) (List.mem_of_getElem? v0h)
       have hle2 : szEv v0 = v0.Rule.size + szFa v0.Fact := rfl
       obtain ⟨es48, at49, hr50⟩ := rd_elem (n := 4) rfl hu8 v0h
       obtain ⟨u51, rfl, hu52⟩ := open_Event hr50
       have hm53 := rd_max hu52
       have hb54 := sub_Event_Fact hr50
       refine Tk 5 rfl (by kernel_rfl) rfl (D_ix (l := e.Log) (j := p) s_64 rfl rfl rfl (fun w' hs => (rA hs hu8)) rfl (lS v0h)) (Tk 6 rfl (by kernel_rfl) rfl (D_fa f_171_0 rfl rfl) (Tk 7 rfl (by kernel_rfl) rfl (lr o_3 rfl rfl at49 rfl) (Tk 8 rfl (by kernel_rfl) rfl (Db f_66_5 rfl rfl (q := 5) rfl) (Tk 9 rfl (by kernel_rfl) rfl (lb 6 o_64 rfl rfl rfl rfl) (Tk 10 rfl (by kernel_rfl) rfl (rp rfl) (Tk 11 rfl (by kernel_rfl) rfl (D_ix (l := e.Log) (j := p) s_64 rfl rfl rfl (fun w' hs => (rA hs hu8)) rfl (lS v0h)) (Tk 12 rfl (by kernel_rfl) rfl (D_fa f_171_1 rfl rfl) (Tk 13 rfl (by kernel_rfl) rfl (lr o_9 rfl rfl at49 rfl) (Tk 14 rfl (by kernel_rfl) rfl (Db f_66_5 rfl rfl (q := 5) rfl) (Tk 15 rfl (by kernel_rfl) rfl (lb 6 o_64 rfl rfl rfl rfl) (Tk 16 rfl (by kernel_rfl) rfl (rp rfl) (Tk 17 rfl (by kernel_rfl) rfl (D_ix (l := e.Log) (j := p) s_64 rfl rfl rfl (fun w' hs => (rA hs hu8)) rfl (lS v0h)) (Tk 18 rfl (by kernel_rfl) rfl (D_fa f_171_2 rfl rfl) (Tk 19 rfl (by kernel_rfl) rfl (lra a_70 rfl rfl (at_sub (f := 2) (n := 2) at49 rfl)) (ty 20 rfl (by kernel_rfl) rfl (crs rfl b_123 rfl rfl rfl rfl (fun w' hs => (spec_l2Copy w' [(.string v0.Fact.Rel), u51] v0.Fact (rA hs hb54) (by first | assumption | omega | (unfold szm at *; split at * <;> omega)))) fun cs55 => ?_))))))))))))))))
       refine Dp (fun w' hs => shape_Fact (rO (k := 0) hs rfl)) ?_
       rintro ⟨v56, rfl, ho57⟩
       refine tS (fun _ hs => hs.pk [1, 2, 3, 4, 5, 6, 7] rfl rfl) (Tj 21 rfl (by kernel_rfl) rfl (fun _ hs => hs.pk [1, 2, 3, 4, 5, 6, 7] rfl rfl) (D_built (vs := [(0, (.int .i64 v0.Kind)), (1, (.string v0.Rule)), (2, (.agg #[(.string v0.Fact.Rel), v56]))]) (xs := [(0, [(.int .i64 v0.Kind)]), (1, [(.string v0.Rule)]), (2, [(.string v0.Fact.Rel), v56])]) (cs := [(.int .i64 v0.Kind), (.string v0.Rule), (.string v0.Fact.Rel), v56]) pl_171 rfl ⟨rfl, rfl, ⟨rfl, rfl, ⟨rfl, rfl, trivial⟩⟩⟩ rfl rfl) (ty 22 rfl (by kernel_rfl) rfl (D_bs s_64 y_171 rfl (by decide) (by decide) rfl rfl rfl rfl rfl rfl fun g58 => ?_)))
       refine tS (fun _ hs => hs.pk [2, 3, 4, 5, 6, 7, 8] rfl rfl) (D_pk (H' := [ov [(.string v0.Fact.Rel), v56] (v0.Fact : Fact), bx g58 [(.int .i64 v0.Kind), (.string v0.Rule), (.string v0.Fact.Rel), v56], ov [v3] (e.Log.take p : (List Event)), ov [v2] (e.Fired.take j : (List Firing)), ov [v] (e.Memory.take k : (List Stamp)), bx g17 [v15, v, (.int .i64 e.Clock), v2, (.bool e.Halted), v3], ov [v15] (e.Rules : (List Rule)), bx g14 [(.slice none 0 0), (.slice none 0 0), (.int .i64 0), (.slice none 0 0), (.bool false), (.slice none 0 0)], bx g13 [u1, u3, (.int .i64 e.Clock), u5, (.bool e.Halted), u7]]) [1, 0, 2, 3, 4, 5, 6, 7, 8] rfl rfl (D_unpair (α := ByteArray) (β := (List ByteArray)) (c1 := [(.string v0.Fact.Rel)]) (c2 := [v56]) (x := v0.Fact.Rel) (y := (v0.Fact.Args)) rfl rfl (D_fd [] 1 rfl (pk_Event (r := (v0 : Event)) (D_pk (H' := [ov [v3] (e.Log.take p : (List Event)), ov [(.int .i64 v0.Kind), (.string v0.Rule), (.string v0.Fact.Rel), v56] ((v0 : Event) : Event), bx g58 [(.int .i64 v0.Kind), (.string v0.Rule), (.string v0.Fact.Rel), v56], ov [v2] (e.Fired.take j : (List Firing)), ov [v] (e.Memory.take k : (List Stamp)), bx g17 [v15, v, (.int .i64 e.Clock), v2, (.bool e.Halted), v3], ov [v15] (e.Rules : (List Rule)), bx g14 [(.slice none 0 0), (.slice none 0 0), (.int .i64 0), (.slice none 0 0), (.bool false), (.slice none 0 0)], bx g13 [u1, u3, (.int .i64 e.Clock), u5, (.bool e.Halted), u7]]) [2, 0, 1, 3, 4, 5, 6, 7, 8] rfl rfl (ty 23 rfl (by kernel_rfl) rfl (D_ap s_64 y_171 rfl (by decide) rfl rfl rfl rfl rfl rfl (by first | omega | (simp; omega)) (by first | omega | (simp; omega)) fun v59 => ?_)))))))
       refine tZ rfl (ty 24 rfl (by kernel_rfl) rfl (sv rfl rfl (Db f_66_5 rfl rfl (q := 5) rfl) ?_))
       refine tZ rfl (Dp (fun w' hs => one_own (k := 0) hs rfl) ?_)
       intro ho60
       refine ty 25 rfl (by kernel_rfl) rfl (D_stb (vs := [v59]) (cs' := [v15, v, (.int .i64 e.Clock), v2, (.bool e.Halted), v59]) 3 z_64 rfl rfl rfl rfl rfl (cells_of_one ho60) (ocons ho60 onil) (by simp) rfl ?_)
       refine tZ rfl (tE (by kernel_rfl) (Xb (Xt (Dw [(1, (.pointer (some ⟨g13, 0, none⟩))), (2, (.pointer (some ⟨g14, 0, none⟩))), (3, (.pointer (some ⟨g17, 0, none⟩))), (6, (.int .i64 ((p : Nat) : Int)))] ⟨rfl, rfl, rfl, rfl, trivial⟩ (Dh ([ov [v59] ((e.Log.take p) ++ [(v0 : Event)] : (List Event)), ov [v2] (e.Fired.take j : (List Firing)), ov [v] (e.Memory.take k : (List Stamp)), bx g17 [v15, v, (.int .i64 e.Clock), v2, (.bool e.Halted), v59], ov [v15] (e.Rules : (List Rule)), bx g14 [(.slice none 0 0), (.slice none 0 0), (.int .i64 0), (.slice none 0 0), (.bool false), (.slice none 0 0)], bx g13 [u1, u3, (.int .i64 e.Clock), u5, (.bool e.Halted), u7]]) rfl (Cr (p1 rfl (q1 rfl (D_add rfl rfl rfl (r := ((p + 1 : Nat) : Int)) (by omega) (by omega)) (Pe rfl (D_eq 0 rfl (show ((e.Log.take p) ++ [(v0 : Event)] : (List Event)) = e.Log.take (p + 1) from by exact (take_snoc v0h).symm) (fun ac w' hf hs => ⟨_, ?_, p + 1, v59, ?_, rfl, hf.weak ⟨rfl, rfl, rfl, rfl, trivial⟩, hs⟩)))))))))))
       ·omega
       ·first | assumption | omega | simp
      ·have pr47 : ¬ (((p : Nat) : Int) : Int) < ((e.Log.length : Nat) : Int) := odF h47
       refine Cx (Xx (Xx (Xe (Xt (Sr (q1 rfl (lbw 3 a_66 rfl rfl rfl) (Dp (fun w' hs => one_own (k := 0) hs rfl) ?_)))))))
       intro ho61
       refine Dp (fun w' hs => one_own (k := 1) hs rfl) ?_
       intro ho62
       refine Dp (fun w' hs => one_own (k := 2) hs rfl) ?_
       intro ho63
       refine Dp (fun w' hs => one_own (k := 4) hs rfl) ?_
       intro ho64
       refine li rfl (D_stb (vs := [v15, v, (.int .i64 e.Clock), v2, (.bool e.Halted), v3]) (cs' := [v15, v, (.int .i64 e.Clock), v2, (.bool e.Halted), v3]) 5 z_66 rfl rfl rfl rfl rfl rfl (ocons ho64 (ocons ho63 (ocons rfl (ocons ho62 (ocons rfl (ocons ho61 onil)))))) (by simp) rfl ?_)
       refine Dx (Ct (D_pk (H' := [ov [v15] (e.Rules : (List Rule)), ov [v] (e.Memory.take k : (List Stamp)), ov [v2] (e.Fired.take j : (List Firing)), ov [v3] (e.Log.take p : (List Event)), bx g17 [v15, v, (.int .i64 e.Clock), v2, (.bool e.Halted), v3], bx g14 [v15, v, (.int .i64 e.Clock), v2, (.bool e.Halted), v3], bx g13 [u1, u3, (.int .i64 e.Clock), u5, (.bool e.Halted), u7]]) [4, 2, 1, 0, 3, 5, 6] rfl rfl (pk_Engine (r := (⟨e.Rules, e.Memory.take k, e.Clock, e.Fired.take j, e.Halted, e.Log.take p⟩ : Engine)) (R_c 2 a_66 rfl rfl rfl fun w' hs => res_of (k := 0) hs rfl ?_))))
       show (⟨e.Rules, e.Memory.take k, e.Clock, e.Fired.take j, e.Halted, e.Log.take p⟩ : Engine) = e
       show (⟨e.Rules, e.Memory.take k, e.Clock, e.Fired.take j, e.Halted, e.Log.take p⟩ : Engine) = e; rw [List.take_of_length_le (by omega), List.take_of_length_le (by omega), List.take_of_length_le (by omega)]
theorem impl_write (w0 : World) (Hs : List Chunk) (w : World) (g_e : Nat) (e : Engine) (kind : Int) (rule : ByteArray) (c_f : List Value) (f : Fact) (h_f : ∀ w', St w0 Hs w' → Gd.rd w' c_f f) (hfz : szFa f ≤ 1048576) (hll : e.Log.length ≤ 4294967296) (hst : St w0 (pb g_e (e : Engine) :: Hs) w) : Calls Tryz.prog 139 [(.pointer (some ⟨g_e, 0, none⟩)), (.int .i64 kind), (.string rule), (.agg c_f.toArray)].toArray w (fun r_ w' => r_ = .returned (.tuple #[]) ∧ St w0 (pb g_e (wrE e kind rule f : Engine) :: Hs) w') := by
 obtain ⟨u1, rfl, hu2⟩ := open_Fact (h_f w hst.tail)
 refine enterS 22 Tryz.func139 rfl rfl rfl hst (D_pbo fun cs3 => ?_)
 refine Dp (fun w' hs => shape_Engine (rO (k := 1) hs rfl)) ?_
 rintro ⟨v4, v5, v6, v7, rfl, ho8, ho9, ho10, ho11⟩
 refine Sr (li rfl (D_box rfl rfl rfl rfl rfl fun g12 => ?_))
 refine Dx (Dh (bx g12 [(.string f.Rel), u1] :: bx g_e [v4, v5, (.int .i64 e.Clock), v6, (.bool e.Halted), v7] :: ov [v4, v5, (.int .i64 e.Clock), v6, (.bool e.Halted), v7] (e : Engine) :: Hs) rfl (C_drawW (bx g12 [(.string f.Rel), u1] :: bx g_e [v4, v5, (.int .i64 e.Clock), v6, (.bool e.Halted), v7] :: Hs) mixed [14] (by kernel_rfl) (Tj 0 rfl (by kernel_rfl) rfl (fun _ hs => hs.fd [1, 1, 2] 1 rfl) (rp rfl) (Tj 1 rfl (by kernel_rfl) rfl (fun _ hs => hs.fd [1, 1, 2] 1 rfl) (rp rfl) (Tj 2 rfl (by kernel_rfl) rfl (fun _ hs => hs.fd [1, 1, 2] 1 rfl) (D_nilc rfl rfl) (Tj 3 rfl (by kernel_rfl) rfl (fun _ hs => hs.fd [1, 1, 2] 1 rfl) (Db f_66_5 rfl rfl (q := 5) rfl) (Tj 4 rfl (by kernel_rfl) rfl (fun _ hs => hs.fd [1, 1, 2] 1 rfl) (lb 1 o_64 rfl rfl rfl rfl) (Tj 5 rfl (by kernel_rfl) rfl (fun _ hs => hs.fd [1, 1, 2] 1 rfl) (rp rfl) (Tj 6 rfl (by kernel_rfl) rfl (fun _ hs => hs.fd [1, 1, 2] 1 rfl) (rp rfl) (Tj 7 rfl (by kernel_rfl) rfl (fun _ hs => hs.fd [1, 1, 2] 1 rfl) (lbw 0 a_70 rfl rfl rfl) (ty 8 rfl (by kernel_rfl) rfl (crs rfl b_132 rfl rfl rfl rfl (fun w' hs => (impl_copyFact w' [(.string f.Rel), u1] f (h_f w' (hs.fd [] 3 rfl)) (by first | assumption | omega | (unfold szm at *; split at * <;> omega)))) fun cs13 => ?_))))))))))))
 refine Dp (fun w' hs => shape_Fact (rO (k := 0) hs rfl)) ?_
 rintro ⟨v14, rfl, ho15⟩
 refine tS (fun _ hs => hs.fd [2, 2, 3, 3] 2 rfl) (Tj 9 rfl (by kernel_rfl) rfl (fun _ hs => hs.fd [2, 2, 3, 3] 2 rfl) (D_built (vs := [(0, (.int .i64 kind)), (1, (.string rule)), (2, (.agg #[(.string f.Rel), v14]))]) (xs := [(0, [(.int .i64 kind)]), (1, [(.string rule)]), (2, [(.string f.Rel), v14])]) (cs := [(.int .i64 kind), (.string rule), (.string f.Rel), v14]) pl_171 rfl ⟨rfl, rfl, ⟨rfl, rfl, ⟨rfl, rfl, trivial⟩⟩⟩ rfl rfl) (ty 10 rfl (by kernel_rfl) rfl (D_bs s_64 y_171 rfl (by decide) (by decide) rfl rfl rfl rfl rfl rfl fun g16 => ?_)))
 refine tS (fun _ hs => hs.fd [3, 3, 4, 4, 4] 3 rfl) (D_fd [4] 0 rfl (D_unpair (α := (List Rule)) (β := (List Stamp) × Int × (List Firing) × Bool × (List Event)) (c1 := [v4]) (c2 := [v5, (.int .i64 e.Clock), v6, (.bool e.Halted), v7]) (x := e.Rules) (y := (e.Memory, e.Clock, e.Fired, e.Halted, e.Log)) rfl rfl (D_fd [1] 0 rfl (D_unpair (α := (List Stamp)) (β := Int × (List Firing) × Bool × (List Event)) (c1 := [v5]) (c2 := [(.int .i64 e.Clock), v6, (.bool e.Halted), v7]) (x := e.Memory) (y := (e.Clock, e.Fired, e.Halted, e.Log)) rfl rfl (D_fd [1] 0 rfl (D_unpair (α := Int) (β := (List Firing) × Bool × (List Event)) (c1 := [(.int .i64 e.Clock)]) (c2 := [v6, (.bool e.Halted), v7]) (x := e.Clock) (y := (e.Fired, e.Halted, e.Log)) rfl rfl (D_fd [] 1 rfl (D_unpair (α := (List Firing)) (β := Bool × (List Event)) (c1 := [v6]) (c2 := [(.bool e.Halted), v7]) (x := e.Fired) (y := (e.Halted, e.Log)) rfl rfl (D_fd [1] 0 rfl (D_unpair (α := Bool) (β := (List Event)) (c1 := [(.bool e.Halted)]) (c2 := [v7]) (x := e.Halted) (y := (e.Log)) rfl rfl (D_fd [] 1 rfl (D_fd [5] 0 rfl (D_unpair (α := ByteArray) (β := (List ByteArray)) (c1 := [(.string f.Rel)]) (c2 := [v14]) (x := f.Rel) (y := (f.Args)) rfl rfl (D_fd [] 1 rfl (pk_Event (r := (⟨kind, rule, f⟩ : Event)) (D_fd [5, 1, 2] 0 rfl (ty 11 rfl (by kernel_rfl) rfl (D_ap s_64 y_171 rfl (by decide) rfl rfl rfl rfl rfl rfl (by first | omega | (simp; omega)) (by first | omega | (simp; omega)) fun v17 => ?_))))))))))))))))))
 refine tS (fun _ hs => hs.fd [] 4 rfl) (Tj 12 rfl (by kernel_rfl) rfl (fun _ hs => hs.fd [] 4 rfl) (D_nilc rfl rfl) (Tj 13 rfl (by kernel_rfl) rfl (fun _ hs => hs.fd [] 4 rfl) (Db f_66_5 rfl rfl (q := 5) rfl) (Dp (fun w' hs => one_own (k := 0) hs rfl) ?_)))
 intro ho18
 refine ty 14 rfl (by kernel_rfl) rfl (D_stb (vs := [v17]) (cs' := [v4, v5, (.int .i64 e.Clock), v6, (.bool e.Halted), v17]) 5 z_64 rfl rfl rfl rfl rfl (cells_of_one ho18) (ocons ho18 onil) (by simp) rfl ?_)
 refine tZ rfl (tE (by kernel_rfl) (D_fd [0, 1, 2, 3] 0 rfl (pk_Engine (r := (⟨e.Rules, e.Memory, e.Clock, e.Fired, e.Halted, e.Log ++ [(⟨kind, rule, f⟩ : Event)]⟩ : Engine)) (D_eq 0 rfl (show ((⟨e.Rules, e.Memory, e.Clock, e.Fired, e.Halted, e.Log ++ [(⟨kind, rule, f⟩ : Event)]⟩ : Engine) : Engine) = wrE e kind rule f from by rfl) (D_fd [0, 2] 0 rfl (D_pbc ?_))))))
 exact Rn rfl fun w' hs => ⟨rfl, hs.fd [0, 1] 1 rfl⟩
theorem impl_drop (w0 : World) (Hs : List Chunk) (w : World) (g_e : Nat) (e : Engine) (c_f : List Value) (f : Fact) (kind : Int) (rule : ByteArray) (h_f : ∀ w', St w0 Hs w' → Gd.rd w' c_f f) (hfz : szFa f ≤ 1048576) (hll : e.Log.length ≤ 4294967296) (hml : e.Memory.length ≤ 4294967296) (hst : St w0 (pb g_e (e : Engine) :: Hs) w) : Calls Tryz.prog 81 [(.pointer (some ⟨g_e, 0, none⟩)), (.agg c_f.toArray), (.int .i64 kind), (.string rule)].toArray w (fun r_ w' => r_ = .returned (.tuple #[]) ∧ St w0 (pb g_e (dropE e f kind rule : Engine) :: Hs) w') := by
 obtain ⟨u1, rfl, hu2⟩ := open_Fact (h_f w hst.tail)
 refine enterS 39 Tryz.func81 rfl rfl rfl hst (D_pbo fun cs3 => ?_)
 refine Dp (fun w' hs => shape_Engine (rO (k := 1) hs rfl)) ?_
 rintro ⟨v4, v5, v6, v7, rfl, ho8, ho9, ho10, ho11⟩
 refine Sr (li rfl (D_box rfl rfl rfl rfl rfl fun g12 => ?_))
 refine Dx (Dh (bx g12 [(.string f.Rel), u1] :: bx g_e [v4, v5, (.int .i64 e.Clock), v6, (.bool e.Halted), v7] :: ov [v4, v5, (.int .i64 e.Clock), v6, (.bool e.Halted), v7] (e : Engine) :: Hs) rfl (Sr (Pe rfl (Cq (Sr (p1 rfl (q1 rfl (D_nilc rfl rfl) (q1 rfl (Db f_66_1 rfl rfl (q := 1) rfl) (q1 rfl (lb 1 o_42 rfl rfl rfl rfl) (q1 rfl (D_lenr s_42 rfl rfl (fun w' hs => (by obtain ⟨z0_, z1_, z3_, z5_, e_, hz0_, hz1_, hz3_, hz5_⟩ := open_Engine (rO (k := 2) hs rfl); cases e_; exact hz1_))) (Pe rfl (Cb (D_fd [2] 0 rfl (D_unpair (α := (List Rule)) (β := (List Stamp) × Int × (List Firing) × Bool × (List Event)) (c1 := [v4]) (c2 := [v5, (.int .i64 e.Clock), v6, (.bool e.Halted), v7]) (x := e.Rules) (y := (e.Memory, e.Clock, e.Fired, e.Halted, e.Log)) rfl rfl (D_fd [1] 0 rfl (D_unpair (α := (List Stamp)) (β := Int × (List Firing) × Bool × (List Event)) (c1 := [v5]) (c2 := [(.int .i64 e.Clock), v6, (.bool e.Halted), v7]) (x := e.Memory) (y := (e.Clock, e.Fired, e.Halted, e.Log)) rfl rfl ?_))))))))))))))))
 refine D_fd [1] 0 rfl (D_unpair (α := Int) (β := (List Firing) × Bool × (List Event)) (c1 := [(.int .i64 e.Clock)]) (c2 := [v6, (.bool e.Halted), v7]) (x := e.Clock) (y := (e.Fired, e.Halted, e.Log)) rfl rfl (D_fd [] 1 rfl (D_unpair (α := (List Firing)) (β := Bool × (List Event)) (c1 := [v6]) (c2 := [(.bool e.Halted), v7]) (x := e.Fired) (y := (e.Halted, e.Log)) rfl rfl (D_fd [1] 0 rfl (D_unpair (α := Bool) (β := (List Event)) (c1 := [(.bool e.Halted)]) (c2 := [v7]) (x := e.Halted) (y := (e.Log)) rfl rfl (D_fd [] 1 rfl (D_fd [2] 0 rfl (D_mo (Cl (fun m_ ac w' => ∃ (k : Nat), ∃ (v : Value), (k ≤ e.Memory.length) ∧ m_ = e.Memory.length - k ∧ Fits ac 39 [(0, (.pointer (some ⟨g_e, 0, none⟩))), (2, (.int .i64 kind)), (3, (.string rule)), (5, (.pointer (some ⟨g12, 0, none⟩))), (8, v), (14, v5), (15, (.int .i64 ((e.Memory.length : Nat) : Int))), (16, (.int .i64 ((k : Nat) : Int)))] ∧ St w0 (ov [v] (drL (e.Memory.take k) f : (List Stamp)) :: ov [v5] (mvT e.Memory k : (List (Mo Stamp))) :: ov [v7] (e.Log : (List Event)) :: ov [v6] (e.Fired : (List Firing)) :: ov [v4] (e.Rules : (List Rule)) :: bx g12 [(.string f.Rel), u1] :: bx g_e [v4, v5, (.int .i64 e.Clock), v6, (.bool e.Halted), v7] :: Hs) w') ?_ ?_)))))))))
 ·refine D_nil (α := Stamp) (D_eq 0 rfl (show ([] : (List Stamp)) = drL (e.Memory.take 0) f from by exact drL_z _ _) (fun ac w' hf hs => ⟨_, 0, (.slice none 0 0), ?_, rfl, hf.weak ⟨rfl, rfl, rfl, rfl, rfl, rfl, rfl, rfl, trivial⟩, hs⟩))
  ·first | assumption | omega | simp
 ·rintro m_ ac w' ⟨k, v, hk, rfl, hf, hs⟩
  refine D.use ?_ hf hs
  clear hf hs ac w'
  have hcl := drL_len e.Memory f k
  refine Sr (Pe rfl (Dh (ov [v] (drL (e.Memory.take k) f : (List Stamp)) :: ov [v5] (mvT e.Memory k : (List (Mo Stamp))) :: ov [v7] (e.Log : (List Event)) :: ov [v6] (e.Fired : (List Firing)) :: ov [v4] (e.Rules : (List Rule)) :: bx g12 [(.string f.Rel), u1] :: bx g_e [v4, v5, (.int .i64 e.Clock), v6, (.bool e.Halted), v7] :: Hs) rfl (Cq (Ci _ rfl (fun h13 => ?_) (fun h13 => ?_)))))
  ·have pr13 : (((k : Nat) : Int) : Int) < ((e.Memory.length : Nat) : Int) := odT h13
   refine Sk (Cq (Cb (Sr (D_fd [1] 0 rfl ?_))))
   obtain ⟨s0, s0h⟩ := sL (l := e.Memory) (i := k) (by omega)
   refine D_mt s0h fun es14 => ?_
   refine Dp (fun w' hs => shape_Stamp (rO (k := 0) hs rfl)) ?_
   rintro ⟨v15, rfl, ho16⟩
   refine q1 rfl (D_ixh 1 s_42 rfl rfl rfl rfl rfl) (q1 rfl (lha (n := 3) 1 rfl a_100 rfl rfl rfl) (li rfl (D_alloc y_100 rfl rfl rfl rfl fun g17 => ?_)))
   refine li rfl (D_stb (vs := [(.string s0.Fact.Rel), v15, (.int .i64 s0.Time)]) (cs' := [(.string s0.Fact.Rel), v15, (.int .i64 s0.Time)]) 0 z_100 rfl rfl rfl rfl rfl rfl (ocons rfl (ocons ho16 (ocons rfl onil))) (by simp) rfl ?_)
   refine Dx (Sr (q1 rfl (Db f_100_0 rfl rfl (q := 0) rfl) (q1 rfl (lba (es := [(.string s0.Fact.Rel), v15]) 0 a_70 rfl rfl rfl rfl) (q1 rfl (lbw 7 a_70 rfl rfl rfl) (li rfl (cv b_138 rfl rfl rfl rfl (fun w' hs => (impl_sameFact w' [(.string s0.Fact.Rel), v15] s0.Fact [(.string f.Rel), u1] f (sub_Stamp_Fact (rO (k := 1) hs rfl)) (h_f w' (hs.fd [] 9 rfl)))) ?_))))))
   refine Pe rfl (Ci _ rfl (fun h18 => ?_) (fun h18 => ?_))
   ·have h18n : (decide (s0.Fact = f)) = false := not_t h18
    refine Cr (p1 rfl (q1 rfl (lbw 0 a_100 rfl rfl rfl) (li rfl (D_bs s_42 y_100 rfl (by decide) (by decide) rfl rfl rfl rfl rfl rfl fun g19 => ?_))))
    refine D_fd [0, 2, 4] 0 rfl (li rfl (D_ap s_42 y_100 rfl (by decide) rfl rfl rfl rfl rfl rfl (by first | omega | (simp; omega)) (by first | omega | (simp; omega)) fun v20 => ?_))
    refine p1 rfl (De (Xb (Xt (Cr (q1 rfl (D_add rfl rfl rfl (r := ((k + 1 : Nat) : Int)) (by omega) (by omega)) (Pe rfl (D_fd [2] 0 rfl (D_mn (lS s0h) (ocons rfl (ocons ho16 (ocons rfl onil))) rfl (D_eq 1 rfl (show ((drL (e.Memory.take k) f) ++ [s0] : (List Stamp)) = drL (e.Memory.take (k + 1)) f from by first | exact drL_t s0h (by simp_all) | exact drL_f s0h (by simp_all)) (fun ac w' hf hs => ⟨_, ?_, k + 1, v20, ?_, rfl, hf.weak ⟨rfl, rfl, rfl, rfl, rfl, rfl, rfl, rfl, trivial⟩, hs.fd [7, 7, 7, 7, 7, 5, 6, 7] 1 rfl⟩))))))))))
    ·omega
    ·first | assumption | omega | simp
   ·have h18n : (decide (s0.Fact = f)) = true := not_f h18
    refine Ck (Xb (Xt (Cr (q1 rfl (D_add rfl rfl rfl (r := ((k + 1 : Nat) : Int)) (by omega) (by omega)) (Pe rfl (D_fd [2] 0 rfl (D_mn (lS s0h) (ocons rfl (ocons ho16 (ocons rfl onil))) rfl (D_eq 3 rfl (show (drL (e.Memory.take k) f : (List Stamp)) = drL (e.Memory.take (k + 1)) f from by first | exact drL_t s0h (by simp_all) | exact drL_f s0h (by simp_all)) (fun ac w' hf hs => ⟨_, ?_, k + 1, v, ?_, rfl, hf.weak ⟨rfl, rfl, rfl, rfl, rfl, rfl, rfl, rfl, trivial⟩, hs.fd [8, 8, 8, 8, 8, 5, 8, 8, 8] 2 rfl⟩)))))))))
    ·omega
    ·first | assumption | omega | simp
  ·have pr13 : ¬ (((k : Nat) : Int) : Int) < ((e.Memory.length : Nat) : Int) := odF h13
   refine Cx (Xx (Xx (Xe (Xt (Sr (P2 rfl rfl (q1 rfl (D_nilc rfl rfl) (q1 rfl (Db f_66_1 rfl rfl (q := 1) rfl) (Dp (fun w' hs => one_own (k := 0) hs rfl) ?_)))))))))
   intro ho21
   refine li rfl (D_stb (vs := [v]) (cs' := [v4, v, (.int .i64 e.Clock), v6, (.bool e.Halted), v7]) 6 z_42 rfl rfl rfl rfl rfl (cells_of_one ho21) (ocons ho21 onil) (by simp) rfl ?_)
   refine Dx (Dh (ov [v] (drL (e.Memory.take k) f : (List Stamp)) :: ov [v5] (mvT e.Memory k : (List (Mo Stamp))) :: ov [v7] (e.Log : (List Event)) :: ov [v6] (e.Fired : (List Firing)) :: ov [v4] (e.Rules : (List Rule)) :: bx g12 [(.string f.Rel), u1] :: bx g_e [v4, v, (.int .i64 e.Clock), v6, (.bool e.Halted), v7] :: Hs) rfl (Cr (P3 rfl rfl rfl (q1 rfl (lbw 5 a_70 rfl rfl rfl) (D_fd [2, 3, 2, 4] 0 rfl (pk_Engine (r := (⟨e.Rules, drL (e.Memory.take k) f, e.Clock, e.Fired, e.Halted, e.Log⟩ : Engine)) (D_fd [0, 3] 0 rfl (D_pbc (li rfl (cm b_139 rfl rfl rfl rfl (fun w' hs => impl_write _ _ w' g_e (⟨e.Rules, drL (e.Memory.take k) f, e.Clock, e.Fired, e.Halted, e.Log⟩ : Engine) kind rule [(.string f.Rel), u1] f (fun w' hs => (h_f w' (hs.fd [] 2 rfl))) (by first | assumption | omega) (by first | assumption | omega) hs) ?_))))))))))
   refine D_pbo fun cs22 => ?_
   refine Dp (fun w' hs => shape_Engine (rO (k := 1) hs rfl)) ?_
   rintro ⟨v23, v24, v25, v26, rfl, ho27, ho28, ho29, ho30⟩
   refine De (D_eq 1 rfl (show (wrE (⟨e.Rules, drL (e.Memory.take k) f, e.Clock, e.Fired, e.Halted, e.Log⟩ : Engine) kind rule f : Engine) = dropE e f kind rule from by unfold dropE; (try unfold wrE); (try simp only []); rw [drL_end (by omega)]) (D_pbc ?_))
   exact Rn rfl fun w' hs => ⟨rfl, hs.fd [0, 2, 2] 2 rfl⟩
theorem spec_l10Drop (w0 : World) (Hs : List Chunk) (w : World) (g_e : Nat) (e : Engine) (c_f : List Value) (f : Fact) (kind : Int) (rule : ByteArray) (h_f : ∀ w', St w0 Hs w' → Gd.rd w' c_f f) (hfz : szFa f ≤ 1048576) (hll : e.Log.length ≤ 4294967296) (hml : e.Memory.length ≤ 4294967296) (hst : St w0 (pb g_e (e : Engine) :: Hs) w) : Calls Tryz.prog 74 [(.pointer (some ⟨g_e, 0, none⟩)), (.agg c_f.toArray), (.int .i64 kind), (.string rule)].toArray w (fun r_ w' => r_ = .returned (.tuple #[]) ∧ St w0 (pb g_e (dropE e f kind rule : Engine) :: Hs) w') := by
 obtain ⟨u1, rfl, hu2⟩ := open_Fact (h_f w hst.tail)
 refine enterS 59 Tryz.func74 rfl rfl rfl hst (D_pbo fun cs3 => ?_)
 refine Dp (fun w' hs => shape_Engine (rO (k := 1) hs rfl)) ?_
 rintro ⟨v4, v5, v6, v7, rfl, ho8, ho9, ho10, ho11⟩
 refine Sr (li rfl (D_box rfl rfl rfl rfl rfl fun g12 => ?_))
 refine Dx (Dh (bx g12 [(.string f.Rel), u1] :: bx g_e [v4, v5, (.int .i64 e.Clock), v6, (.bool e.Halted), v7] :: ov [v4, v5, (.int .i64 e.Clock), v6, (.bool e.Halted), v7] (e : Engine) :: Hs) rfl (Sr (li rfl (D_bs0 (α := Stamp) s_42 rfl rfl rfl fun v13 => ?_))))
 refine Pe rfl (Dh (ov [v13] ([] : (List Stamp)) :: bx g12 [(.string f.Rel), u1] :: bx g_e [v4, v5, (.int .i64 e.Clock), v6, (.bool e.Halted), v7] :: ov [v4, v5, (.int .i64 e.Clock), v6, (.bool e.Halted), v7] (e : Engine) :: Hs) rfl (Cq (Sr (Pe rfl (Cb (D_fd [3] 0 rfl (D_unpair (α := (List Rule)) (β := (List Stamp) × Int × (List Firing) × Bool × (List Event)) (c1 := [v4]) (c2 := [v5, (.int .i64 e.Clock), v6, (.bool e.Halted), v7]) (x := e.Rules) (y := (e.Memory, e.Clock, e.Fired, e.Halted, e.Log)) rfl rfl (D_fd [1] 0 rfl (D_unpair (α := (List Stamp)) (β := Int × (List Firing) × Bool × (List Event)) (c1 := [v5]) (c2 := [(.int .i64 e.Clock), v6, (.bool e.Halted), v7]) (x := e.Memory) (y := (e.Clock, e.Fired, e.Halted, e.Log)) rfl rfl (D_fd [1] 0 rfl (D_unpair (α := Int) (β := (List Firing) × Bool × (List Event)) (c1 := [(.int .i64 e.Clock)]) (c2 := [v6, (.bool e.Halted), v7]) (x := e.Clock) (y := (e.Fired, e.Halted, e.Log)) rfl rfl (D_fd [] 1 rfl (D_unpair (α := (List Firing)) (β := Bool × (List Event)) (c1 := [v6]) (c2 := [(.bool e.Halted), v7]) (x := e.Fired) (y := (e.Halted, e.Log)) rfl rfl (D_fd [1] 0 rfl (D_unpair (α := Bool) (β := (List Event)) (c1 := [(.bool e.Halted)]) (c2 := [v7]) (x := e.Halted) (y := (e.Log)) rfl rfl (D_fd [] 1 rfl (D_fd [2] 0 rfl (D_mo ?_))))))))))))))))))
 refine Cl (fun m_ ac w' => ∃ (k : Nat), ∃ (v : Value), (k ≤ e.Memory.length) ∧ m_ = e.Memory.length - k ∧ Fits ac 59 [(0, (.pointer (some ⟨g_e, 0, none⟩))), (2, (.int .i64 kind)), (3, (.string rule)), (5, (.pointer (some ⟨g12, 0, none⟩))), (8, v), (9, (.int .i64 ((k : Nat) : Int)))] ∧ St w0 (ov [v5] (mvT e.Memory k : (List (Mo Stamp))) :: ov [v7] (e.Log : (List Event)) :: ov [v6] (e.Fired : (List Firing)) :: ov [v4] (e.Rules : (List Rule)) :: ov [v] (drL (e.Memory.take k) f : (List Stamp)) :: bx g12 [(.string f.Rel), u1] :: bx g_e [v4, v5, (.int .i64 e.Clock), v6, (.bool e.Halted), v7] :: Hs) w') ?_ ?_
 ·refine D_eq 4 rfl (show ([] : (List Stamp)) = drL (e.Memory.take 0) f from by exact drL_z _ _) (fun ac w' hf hs => ⟨_, 0, v13, ?_, rfl, hf.weak ⟨rfl, rfl, rfl, rfl, rfl, rfl, trivial⟩, hs⟩)
  ·first | assumption | omega | simp
 ·rintro m_ ac w' ⟨k, v, hk, rfl, hf, hs⟩
  refine D.use ?_ hf hs
  clear hf hs ac w'
  have hcl := drL_len e.Memory f k
  refine Cq (Sr (P2 rfl rfl (q1 rfl (D_nilc rfl rfl) (q1 rfl (Db f_66_1 rfl rfl (q := 1) rfl) (q1 rfl (lb 6 o_42 rfl rfl rfl rfl) (q1 rfl (lenv s_42 rfl rfl (fun w' hs => (rO (k := 0) hs rfl)) (mvT_len _ _)) (Pe rfl (Dh (ov [v5] (mvT e.Memory k : (List (Mo Stamp))) :: ov [v7] (e.Log : (List Event)) :: ov [v6] (e.Fired : (List Firing)) :: ov [v4] (e.Rules : (List Rule)) :: ov [v] (drL (e.Memory.take k) f : (List Stamp)) :: bx g12 [(.string f.Rel), u1] :: bx g_e [v4, v5, (.int .i64 e.Clock), v6, (.bool e.Halted), v7] :: Hs) rfl (Ci _ rfl (fun h14 => ?_) (fun h14 => ?_))))))))))
  ·have pr14 : (((k : Nat) : Int) : Int) < ((e.Memory.length : Nat) : Int) := odT h14
   refine Sk (Cq (Cb (Cq ?_)))
   obtain ⟨s0, s0h⟩ := sL (l := e.Memory) (i := k) (by omega)
   refine D_mt s0h fun es15 => ?_
   refine Dp (fun w' hs => shape_Stamp (rO (k := 0) hs rfl)) ?_
   rintro ⟨v16, rfl, ho17⟩
   refine C_draw mixed [9, 10] (by kernel_rfl) (Tk 0 rfl (by kernel_rfl) rfl (rp rfl) (Tk 1 rfl (by kernel_rfl) rfl (D_nilc rfl rfl) (Tk 2 rfl (by kernel_rfl) rfl (Db f_66_1 rfl rfl (q := 1) rfl) (Tk 3 rfl (by kernel_rfl) rfl (lb 7 o_42 rfl rfl rfl rfl) (Tk 4 rfl (by kernel_rfl) rfl (rp rfl) (Tk 5 rfl (by kernel_rfl) rfl (D_ixh 1 s_42 rfl rfl rfl rfl rfl) (Tk 6 rfl (by kernel_rfl) rfl (D_fa f_100_0 rfl rfl) (Tk 7 rfl (by kernel_rfl) rfl (lhs (n := 3) (m := 2) (fs := [(.string s0.Fact.Rel), v16]) 1 rfl a_70 rfl rfl rfl rfl) (Tk 8 rfl (by kernel_rfl) rfl (lbw 6 a_70 rfl rfl rfl) (ty 9 rfl (by kernel_rfl) rfl (cv b_128 rfl rfl rfl rfl (fun w' hs => (spec_l2Same w' [(.string s0.Fact.Rel), v16] s0.Fact [(.string f.Rel), u1] f (sub_Stamp_Fact (rO (k := 0) hs rfl)) (h_f w' (hs.fd [] 8 rfl)))) ?_)))))))))))
   refine tZ rfl (ty 10 rfl (by kernel_rfl) rfl (sv rfl rfl (rp rfl) ?_))
   refine tZ rfl (tE (by kernel_rfl) (Xt (Dw [(0, (.pointer (some ⟨g_e, 0, none⟩))), (2, (.int .i64 kind)), (3, (.string rule)), (5, (.pointer (some ⟨g12, 0, none⟩))), (8, v), (9, (.int .i64 ((k : Nat) : Int))), (30, (.bool (!(decide (s0.Fact = f)))))] ⟨rfl, rfl, rfl, rfl, rfl, rfl, rfl, trivial⟩ (Ci _ rfl (fun h18 => ?_) (fun h18 => ?_)))))
   ·have h18n : (decide (s0.Fact = f)) = false := not_t h18
    refine Cr (P2 rfl rfl (q1 rfl (D_nilc rfl rfl) (q1 rfl (Db f_66_1 rfl rfl (q := 1) rfl) (q1 rfl (lb 7 o_42 rfl rfl rfl rfl) (p1 rfl (q1 rfl (D_ixh 1 s_42 rfl rfl rfl rfl rfl) (q1 rfl (lha (n := 3) 1 rfl a_100 rfl rfl rfl) (li rfl (D_bs s_42 y_100 rfl (by decide) (by decide) rfl rfl rfl rfl rfl rfl fun g19 => ?_)))))))))
    refine D_fd [0, 1, 6] 0 rfl (li rfl (D_ap s_42 y_100 rfl (by decide) rfl rfl rfl rfl rfl rfl (by first | omega | (simp; omega)) (by first | omega | (simp; omega)) fun v20 => ?_))
    refine p1 rfl (De (Xb (Xt (Cr (p1 rfl (q1 rfl (D_add rfl rfl rfl (r := ((k + 1 : Nat) : Int)) (by omega) (by omega)) (Pe rfl (D_fd [1] 0 rfl (D_mn (lS s0h) (ocons rfl (ocons ho17 (ocons rfl onil))) rfl (D_eq 1 rfl (show ((drL (e.Memory.take k) f) ++ [s0] : (List Stamp)) = drL (e.Memory.take (k + 1)) f from by first | exact drL_t s0h (by simp_all) | exact drL_f s0h (by simp_all)) (fun ac w' hf hs => ⟨_, ?_, k + 1, v20, ?_, rfl, hf.weak ⟨rfl, rfl, rfl, rfl, rfl, rfl, trivial⟩, hs.fd [6, 6, 3, 6, 6, 6, 6] 0 rfl⟩)))))))))))
    ·omega
    ·first | assumption | omega | simp
   ·have h18n : (decide (s0.Fact = f)) = true := not_f h18
    refine Ck (Xb (Xt (Cr (p1 rfl (q1 rfl (D_add rfl rfl rfl (r := ((k + 1 : Nat) : Int)) (by omega) (by omega)) (Pe rfl (D_fd [1] 0 rfl (D_mn (lS s0h) (ocons rfl (ocons ho17 (ocons rfl onil))) rfl (D_eq 5 rfl (show (drL (e.Memory.take k) f : (List Stamp)) = drL (e.Memory.take (k + 1)) f from by first | exact drL_t s0h (by simp_all) | exact drL_f s0h (by simp_all)) (fun ac w' hf hs => ⟨_, ?_, k + 1, v, ?_, rfl, hf.weak ⟨rfl, rfl, rfl, rfl, rfl, rfl, trivial⟩, hs.fd [7, 7, 7, 7, 7, 7, 6, 7] 1 rfl⟩))))))))))
    ·omega
    ·first | assumption | omega | simp
  ·have pr14 : ¬ (((k : Nat) : Int) : Int) < ((e.Memory.length : Nat) : Int) := odF h14
   refine Cx (Xx (Xx (Xe (Xt (Sr (P2 rfl rfl (q1 rfl (D_nilc rfl rfl) (q1 rfl (Db f_66_1 rfl rfl (q := 1) rfl) (Dp (fun w' hs => one_own (k := 4) hs rfl) ?_)))))))))
   intro ho21
   refine li rfl (D_stb (vs := [v]) (cs' := [v4, v, (.int .i64 e.Clock), v6, (.bool e.Halted), v7]) 6 z_42 rfl rfl rfl rfl rfl (cells_of_one ho21) (ocons ho21 onil) (by simp) rfl ?_)
   refine Dx (Dh (ov [v5] (mvT e.Memory k : (List (Mo Stamp))) :: ov [v7] (e.Log : (List Event)) :: ov [v6] (e.Fired : (List Firing)) :: ov [v4] (e.Rules : (List Rule)) :: ov [v] (drL (e.Memory.take k) f : (List Stamp)) :: bx g12 [(.string f.Rel), u1] :: bx g_e [v4, v, (.int .i64 e.Clock), v6, (.bool e.Halted), v7] :: Hs) rfl (C_drawW (ov [v5] (mvT e.Memory k : (List (Mo Stamp))) :: ov [v6] (e.Fired : (List Firing)) :: ov [v4] (e.Rules : (List Rule)) :: ov [v] (drL (e.Memory.take k) f : (List Stamp)) :: bx g12 [(.string f.Rel), u1] :: bx g_e [v4, v, (.int .i64 e.Clock), v6, (.bool e.Halted), v7] :: Hs) mixed [14] (by kernel_rfl) (Tj 0 rfl (by kernel_rfl) rfl (fun _ hs => hs.fd [6, 6, 6, 6, 6, 5, 6] 1 rfl) (rp rfl) (Tj 1 rfl (by kernel_rfl) rfl (fun _ hs => hs.fd [6, 6, 6, 6, 6, 5, 6] 1 rfl) (rp rfl) (Tj 2 rfl (by kernel_rfl) rfl (fun _ hs => hs.fd [6, 6, 6, 6, 6, 5, 6] 1 rfl) (D_nilc rfl rfl) (Tj 3 rfl (by kernel_rfl) rfl (fun _ hs => hs.fd [6, 6, 6, 6, 6, 5, 6] 1 rfl) (Db f_66_5 rfl rfl (q := 5) rfl) (Tj 4 rfl (by kernel_rfl) rfl (fun _ hs => hs.fd [6, 6, 6, 6, 6, 5, 6] 1 rfl) (lb 5 o_64 rfl rfl rfl rfl) (Tj 5 rfl (by kernel_rfl) rfl (fun _ hs => hs.fd [6, 6, 6, 6, 6, 5, 6] 1 rfl) (rp rfl) (Tj 6 rfl (by kernel_rfl) rfl (fun _ hs => hs.fd [6, 6, 6, 6, 6, 5, 6] 1 rfl) (rp rfl) (Tj 7 rfl (by kernel_rfl) rfl (fun _ hs => hs.fd [6, 6, 6, 6, 6, 5, 6] 1 rfl) (lbw 4 a_70 rfl rfl rfl) (ty 8 rfl (by kernel_rfl) rfl (crs rfl b_123 rfl rfl rfl rfl (fun w' hs => (spec_l2Copy w' [(.string f.Rel), u1] f (h_f w' (hs.fd [] 7 rfl)) (by first | assumption | omega | (unfold szm at *; split at * <;> omega)))) fun cs22 => ?_))))))))))))
   refine Dp (fun w' hs => shape_Fact (rO (k := 0) hs rfl)) ?_
   rintro ⟨v23, rfl, ho24⟩
   refine tS (fun _ hs => hs.fd [7, 7, 7, 7, 7, 6, 7, 7] 2 rfl) (Tj 9 rfl (by kernel_rfl) rfl (fun _ hs => hs.fd [7, 7, 7, 7, 7, 6, 7, 7] 2 rfl) (D_built (vs := [(0, (.int .i64 kind)), (1, (.string rule)), (2, (.agg #[(.string f.Rel), v23]))]) (xs := [(0, [(.int .i64 kind)]), (1, [(.string rule)]), (2, [(.string f.Rel), v23])]) (cs := [(.int .i64 kind), (.string rule), (.string f.Rel), v23]) pl_171 rfl ⟨rfl, rfl, ⟨rfl, rfl, ⟨rfl, rfl, trivial⟩⟩⟩ rfl rfl) (ty 10 rfl (by kernel_rfl) rfl (D_bs s_64 y_171 rfl (by decide) (by decide) rfl rfl rfl rfl rfl rfl fun g25 => ?_)))
   refine tS (fun _ hs => hs.fd [8, 8, 8, 8, 8, 7, 8, 8, 8] 3 rfl) (D_fd [1] 0 rfl (D_unpair (α := ByteArray) (β := (List ByteArray)) (c1 := [(.string f.Rel)]) (c2 := [v23]) (x := f.Rel) (y := (f.Args)) rfl rfl (D_fd [] 1 rfl (pk_Event (r := (⟨kind, rule, f⟩ : Event)) (D_fd [1, 1, 3] 0 rfl (ty 11 rfl (by kernel_rfl) rfl (D_ap s_64 y_171 rfl (by decide) rfl rfl rfl rfl rfl rfl (by first | omega | (simp; omega)) (by first | omega | (simp; omega)) fun v26 => ?_)))))))
   refine tS (fun _ hs => hs.fd [] 1 rfl) (Tj 12 rfl (by kernel_rfl) rfl (fun _ hs => hs.fd [] 1 rfl) (D_nilc rfl rfl) (Tj 13 rfl (by kernel_rfl) rfl (fun _ hs => hs.fd [] 1 rfl) (Db f_66_5 rfl rfl (q := 5) rfl) (Dp (fun w' hs => one_own (k := 0) hs rfl) ?_)))
   intro ho27
   refine ty 14 rfl (by kernel_rfl) rfl (D_stb (vs := [v26]) (cs' := [v4, v, (.int .i64 e.Clock), v6, (.bool e.Halted), v26]) 6 z_64 rfl rfl rfl rfl rfl (cells_of_one ho27) (ocons ho27 onil) (by simp) rfl ?_)
   refine tZ rfl (tE (by kernel_rfl) (D_fd [0, 2, 4, 4] 0 rfl (pk_Engine (r := (⟨e.Rules, drL (e.Memory.take k) f, e.Clock, e.Fired, e.Halted, e.Log ++ [(⟨kind, rule, f⟩ : Event)]⟩ : Engine)) (D_eq 0 rfl (show ((⟨e.Rules, drL (e.Memory.take k) f, e.Clock, e.Fired, e.Halted, e.Log ++ [(⟨kind, rule, f⟩ : Event)]⟩ : Engine) : Engine) = dropE e f kind rule from by unfold dropE; (try unfold wrE); (try simp only []); rw [drL_end (by omega)]) (D_fd [0, 3] 0 rfl (D_pbc ?_))))))
   exact Rn rfl fun w' hs => ⟨rfl, hs.fd [0, 2, 2] 2 rfl⟩
end Go.Sy.Put1
