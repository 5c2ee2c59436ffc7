/-
  Contracts of functions of the program, walked (printed by a program of ours).
  Conditions: those that each theorem states.
-/
import Derived.Test.YtkbiaedfnpbpfaaGreatDoorCho2
import Derived.Test.YtkbiaedfnpbpfaaGreatDoorNum3
import Derived.Test.YtkbiaedfnpbpfaaGreatDoorPut
set_option linter.unusedVariables false
set_option maxRecDepth 20000
namespace Go.Sy.Put1
open Go Go.RowKit Go.Proofs Go.Sy
theorem mixed : Tryz.prog.follows .mixedOrders = true := by kernel_rfl
theorem y_171 : zeroTy Tryz.prog 171 = some (.agg #[(.int .i64 0), (.string ⟨#[]⟩), (.string ⟨#[]⟩), (.slice none 0 0)]) := by kernel_rfl
theorem f_171_2 : fieldOff Tryz.prog 171 2 = some 2 := by kernel_rfl
theorem a_70 : aggTy Tryz.prog 70 = some 2 := by kernel_rfl
theorem b_132 : hasBody Tryz.prog 132 = true := by kernel_rfl
theorem z_70 : sizeTy Tryz.prog 70 = some 2 := by kernel_rfl
theorem a_171 : aggTy Tryz.prog 171 = some 4 := by kernel_rfl
theorem z_171 : sizeTy Tryz.prog 171 = some 4 := by kernel_rfl
theorem y_66 : zeroTy Tryz.prog 66 = some (.agg #[(.slice none 0 0), (.slice none 0 0), (.int .i64 0), (.slice none 0 0), (.bool false), (.slice none 0 0)]) := by kernel_rfl
theorem f_66_0 : fieldOff Tryz.prog 66 0 = some 0 := by kernel_rfl
theorem o_40 : oneTy Tryz.prog 40 = true := by kernel_rfl
theorem f_66_2 : fieldOff Tryz.prog 66 2 = some 2 := by kernel_rfl
theorem o_3 : oneTy Tryz.prog 3 = true := by kernel_rfl
theorem f_66_4 : fieldOff Tryz.prog 66 4 = some 4 := by kernel_rfl
theorem o_4 : oneTy Tryz.prog 4 = true := by kernel_rfl
theorem b_131 : hasBody Tryz.prog 131 = true := by kernel_rfl
theorem pl_66 : placeTy Tryz.prog 66 = some ([(0, 1), (1, 1), (2, 1), (3, 1), (4, 1), (5, 1)], [(.slice none 0 0), (.slice none 0 0), (iv 0), (.slice none 0 0), (.bool false), (.slice none 0 0)]) := by kernel_rfl
theorem z_66 : sizeTy Tryz.prog 66 = some 6 := by kernel_rfl
theorem f_66_1 : fieldOff Tryz.prog 66 1 = some 1 := by kernel_rfl
theorem o_42 : oneTy Tryz.prog 42 = true := by kernel_rfl
theorem s_42 : sliceTy Tryz.prog 42 = some (100, 3, 48) := by kernel_rfl
theorem a_100 : aggTy Tryz.prog 100 = some 3 := by kernel_rfl
theorem y_100 : zeroTy Tryz.prog 100 = some (.agg #[(.string ⟨#[]⟩), (.slice none 0 0), (.int .i64 0)]) := by kernel_rfl
theorem z_100 : sizeTy Tryz.prog 100 = some 3 := by kernel_rfl
theorem f_100_0 : fieldOff Tryz.prog 100 0 = some 0 := by kernel_rfl
theorem f_100_1 : fieldOff Tryz.prog 100 1 = some 2 := by kernel_rfl
theorem pl_100 : placeTy Tryz.prog 100 = some ([(0, 2), (2, 1)], [(.string ⟨#[]⟩), (.slice none 0 0), (iv 0)]) := by kernel_rfl
theorem z_42 : sizeTy Tryz.prog 42 = some 1 := by kernel_rfl
theorem f_66_3 : fieldOff Tryz.prog 66 3 = some 3 := by kernel_rfl
theorem o_63 : oneTy Tryz.prog 63 = true := by kernel_rfl
theorem s_63 : sliceTy Tryz.prog 63 = some (168, 2, 40) := by kernel_rfl
theorem a_168 : aggTy Tryz.prog 168 = some 2 := by kernel_rfl
theorem y_168 : zeroTy Tryz.prog 168 = some (.agg #[(.string ⟨#[]⟩), (.slice none 0 0)]) := by kernel_rfl
theorem z_168 : sizeTy Tryz.prog 168 = some 2 := by kernel_rfl
theorem f_168_0 : fieldOff Tryz.prog 168 0 = some 0 := by kernel_rfl
theorem o_9 : oneTy Tryz.prog 9 = true := by kernel_rfl
theorem f_168_1 : fieldOff Tryz.prog 168 1 = some 1 := by kernel_rfl
theorem o_35 : oneTy Tryz.prog 35 = true := by kernel_rfl
theorem b_133 : hasBody Tryz.prog 133 = true := by kernel_rfl
theorem pl_168 : placeTy Tryz.prog 168 = some ([(0, 1), (1, 1)], [(.string ⟨#[]⟩), (.slice none 0 0)]) := by kernel_rfl
theorem z_63 : sizeTy Tryz.prog 63 = some 1 := by kernel_rfl
theorem f_66_5 : fieldOff Tryz.prog 66 5 = some 5 := by kernel_rfl
theorem o_64 : oneTy Tryz.prog 64 = true := by kernel_rfl
theorem s_64 : sliceTy Tryz.prog 64 = some (171, 4, 64) := by kernel_rfl
theorem b_134 : hasBody Tryz.prog 134 = true := by kernel_rfl
theorem z_64 : sizeTy Tryz.prog 64 = some 1 := by kernel_rfl
theorem a_66 : aggTy Tryz.prog 66 = some 6 := by kernel_rfl
theorem b_122 : hasBody Tryz.prog 122 = true := by kernel_rfl
theorem b_123 : hasBody Tryz.prog 123 = true := by kernel_rfl
theorem b_124 : hasBody Tryz.prog 124 = true := by kernel_rfl
theorem f_171_0 : fieldOff Tryz.prog 171 0 = some 0 := by kernel_rfl
theorem f_171_1 : fieldOff Tryz.prog 171 1 = some 1 := by kernel_rfl
theorem pl_171 : placeTy Tryz.prog 171 = some ([(0, 1), (1, 1), (2, 2)], [(iv 0), (.string ⟨#[]⟩), (.string ⟨#[]⟩), (.slice none 0 0)]) := by kernel_rfl
theorem z_3 : sizeTy Tryz.prog 3 = some 1 := by kernel_rfl
theorem b_149 : hasBody Tryz.prog 149 = true := by kernel_rfl
theorem b_139 : hasBody Tryz.prog 139 = true := by kernel_rfl
theorem b_146 : hasBody Tryz.prog 146 = true := by kernel_rfl
open Go.Sy.Bel1 Go.Sy.Bel3 Go.Sy.Ev1 Go.Sy.Ev2 Go.Sy.Ev3 Go.Sy.Fmt1 Go.Sy.Eng1 Go.Sy.Eng2 Go.Sy.Eng3 Go.Sy.Eng4 Go.Sy.Eng5 Go.Sy.Num1 Go.Sy.Num2 Go.Sy.Cho1 Go.Sy.Cho2 Go.Sy.Num3
theorem impl_copyEvent {w : World} {c_x : List Value} {x : Event} (h_x : Gd.rd w c_x x) (hx : szEv x ≤ 1048576) : Calls Tryz.prog 134 [(.agg c_x.toArray)].toArray w (Res w (x : Event)) := by
 obtain ⟨u1, rfl, hu2⟩ := open_Event h_x
 have hm3 := rd_max hu2
 have hb4 := sub_Event_Fact h_x
 unfold szEv at hx
 refine enter 8 Tryz.func134 Y Y Y (Sr (li Y (D_box Y Y Y Y Y fun g5 => ?_)))
 refine li Y (D_alloc y_171 Y Y Y Y fun g6 => ?_)
 refine Dx (Dh ([bx g6 [(iv 0), (.string ⟨#[]⟩), (.string ⟨#[]⟩), (.slice none 0 0)], bx g5 [(iv x.Kind), (.string x.Rule), (.string x.Fact.Rel), u1]]) Y (Sr (q1 Y (Db f_171_2 Y Y (q := 2) Y) (q1 Y (lba (es := [(.string x.Fact.Rel), u1]) 1 a_70 Y Y Y Y) (li Y (crs Y b_132 Y Y Y Y (fun w' hs => (impl_copyFact (rA hs hb4) (by first | assumption | omega | (unfold szm at *; split at * <;> omega)))) fun cs7 => ?_))))))
 refine Dp (fun w' hs => shape_Fact (rO (k := 0) hs Y)) ?_
 rintro ⟨v8, rfl, ho9⟩
 refine q1 Y (Db f_171_2 Y Y (q := 2) Y) (li Y (D_stb (vs := [(.string x.Fact.Rel), v8]) (cs' := [(iv x.Kind), (.string x.Rule), (.string x.Fact.Rel), v8]) 2 z_70 Y Y Y Y Y Y (ocons Y (ocons ho9 onil)) (by simp) Y ?_))
 refine Dx (Dh ([ov [(.string x.Fact.Rel), v8] (x.Fact : Fact), _, bx g5 [(iv x.Kind), (.string x.Rule), (.string x.Fact.Rel), v8]]) Y (Sr (q1 Y (lbw 2 a_171 Y Y Y) (li Y (D_stb (vs := [(iv x.Kind), (.string x.Rule), (.string x.Fact.Rel), v8]) (cs' := [(iv x.Kind), (.string x.Rule), (.string x.Fact.Rel), v8]) 1 z_171 Y Y Y Y Y Y (ocons Y (ocons Y (ocons Y (ocons ho9 onil)))) (by simp) Y ?_)))))
 refine Dx (Ct (D_unpair (α := ByteArray) (β := (List ByteArray)) (c1 := [(.string x.Fact.Rel)]) (c2 := [v8]) (x := x.Fact.Rel) (y := (x.Fact.Args)) Y Y (D_fd [] 1 Y (pk_Event (r := (x : Event)) (R_c 1 a_171 Y Y Y fun w' hs => res_of (k := 0) hs Y ?_)))))
 show (x : Event) = x
 rfl
set_option maxHeartbeats 4000000 in
theorem impl_copyEngine {w : World} {c_e : List Value} {e : Engine} (h_e : Gd.rd w c_e e) (hn : szEngine e ≤ 1048576) : Calls Tryz.prog 78 [(.agg c_e.toArray)].toArray w (Res w (e : Engine)) := by
 obtain ⟨u1, u3, u5, u7, rfl, hu2, hu4, hu6, hu8⟩ := open_Engine h_e
 have hm9 := rd_max hu2
 have hm10 := rd_max hu4
 have hm11 := rd_max hu6
 have hm12 := rd_max hu8
 unfold szEngine szL at hn
 refine enter 72 Tryz.func78 Y Y Y (Sr (li Y (D_box Y Y Y Y Y fun g13 => ?_)))
 refine li Y (D_alloc y_66 Y Y Y Y fun g14 => ?_)
 refine Dx (Dh ([bx g14 [(.slice none 0 0), (.slice none 0 0), (iv 0), (.slice none 0 0), (.bool false), (.slice none 0 0)], bx g13 [u1, u3, (iv e.Clock), u5, (.bool e.Halted), u7]]) Y (Cq (C_join (fun ac w' => ∃ (g17 : Nat), ∃ (v15 : Value), (v15.oneCell' = true) ∧ Fits ac 72 [(1, (pv g13)), (2, (pv g14)), (3, (pv g17))] ∧ St w ([bx g17 [v15, (.slice none 0 0), (iv e.Clock), (.slice none 0 0), (.bool e.Halted), (.slice none 0 0)], ov [v15] (e.Rules : (List Rule)), bx g14 [(.slice none 0 0), (.slice none 0 0), (iv 0), (.slice none 0 0), (.bool false), (.slice none 0 0)], bx g13 [u1, u3, (iv e.Clock), u5, (.bool e.Halted), u7]]) w') ?_ ?_)))
 ·refine C_draw mixed [9] (by kernel_rfl) (Tk 0 Y (by kernel_rfl) Y (Db f_66_0 Y Y (q := 0) Y) (Tk 1 Y (by kernel_rfl) Y (lb 1 o_40 Y Y Y Y) (Tk 3 Y (by kernel_rfl) Y (Db f_66_2 Y Y (q := 2) Y) (Tk 4 Y (by kernel_rfl) Y (lb 1 o_3 Y Y Y Y) (Tk 5 Y (by kernel_rfl) Y (Db f_66_4 Y Y (q := 4) Y) (Tk 6 Y (by kernel_rfl) Y (lb 1 o_4 Y Y Y Y) (tyN [2, 8] Y (by kernel_rfl) ⟨⟨_, Y, Y, ?_⟩, ⟨_, Y, Y, ?_⟩, trivial⟩)))))))
  ·refine id (crl b_131 Y Y Y Y (fun w' hs => (impl_copyRules (rA hs hu2) (by unfold szL; omega))) fun v15 => ?_)
   refine tS (fun _ hs => hs.pk [1, 2] Y Y) (Dp (fun w' hs => one_own (k := 0) hs Y) ?_)
   intro ho16
   refine Tj 7 Y (by kernel_rfl) Y (fun _ hs => hs.pk [1, 2] Y Y) (D_built (vs := [(0, v15), (2, (iv e.Clock)), (4, (.bool e.Halted))]) (xs := [(0, [v15]), (2, [(iv e.Clock)]), (4, [(.bool e.Halted)])]) (cs := [v15, (.slice none 0 0), (iv e.Clock), (.slice none 0 0), (.bool e.Halted), (.slice none 0 0)]) pl_66 Y ⟨Y, (cells_of_one ho16), ⟨Y, Y, ⟨Y, Y, trivial⟩⟩⟩ Y Y) (ty 8 Y (by kernel_rfl) Y (D_alloc y_66 Y Y Y Y fun g17 => ?_))
   refine tS (fun _ hs => hs.pk [2, 3] Y Y) (ty 9 Y (by kernel_rfl) Y (D_stb (vs := [v15, (.slice none 0 0), (iv e.Clock), (.slice none 0 0), (.bool e.Halted), (.slice none 0 0)]) (cs' := [v15, (.slice none 0 0), (iv e.Clock), (.slice none 0 0), (.bool e.Halted), (.slice none 0 0)]) 0 z_66 Y Y Y Y Y Y (ocons ho16 (ocons Y (ocons Y (ocons Y (ocons Y (ocons Y onil)))))) (by simp) Y ?_))
   refine tZ Y (tE (by kernel_rfl) (Xt (fun ac w' hf hs => ⟨g17, v15, ho16, hf.wk Y, hs⟩)))
  ·refine id (D_alloc y_66 Y Y Y Y fun g18 => ?_)
   refine tS (fun _ hs => hs.pk [1, 2] Y Y) (ty 2 Y (by kernel_rfl) Y (crl b_131 Y Y Y Y (fun w' hs => (impl_copyRules (rA hs hu2) (by unfold szL; omega))) fun v19 => ?_))
   refine tS (fun _ hs => hs.pk [2, 3] Y Y) (Dp (fun w' hs => one_own (k := 0) hs Y) ?_)
   intro ho20
   refine Tj 7 Y (by kernel_rfl) Y (fun _ hs => hs.pk [2, 3] Y Y) (D_built (vs := [(0, v19), (2, (iv e.Clock)), (4, (.bool e.Halted))]) (xs := [(0, [v19]), (2, [(iv e.Clock)]), (4, [(.bool e.Halted)])]) (cs := [v19, (.slice none 0 0), (iv e.Clock), (.slice none 0 0), (.bool e.Halted), (.slice none 0 0)]) pl_66 Y ⟨Y, (cells_of_one ho20), ⟨Y, Y, ⟨Y, Y, trivial⟩⟩⟩ Y Y) (ty 9 Y (by kernel_rfl) Y (D_stb (vs := [v19, (.slice none 0 0), (iv e.Clock), (.slice none 0 0), (.bool e.Halted), (.slice none 0 0)]) (cs' := [v19, (.slice none 0 0), (iv e.Clock), (.slice none 0 0), (.bool e.Halted), (.slice none 0 0)]) 1 z_66 Y Y Y Y Y Y (ocons ho20 (ocons Y (ocons Y (ocons Y (ocons Y (ocons Y onil)))))) (by simp) Y ?_))
   refine tZ Y (tE (by kernel_rfl) (Xt (fun ac w' hf hs => ⟨g18, v19, ho20, hf.wk Y, hs.pk [1, 0, 2, 3] Y Y⟩)))
 rintro ac w' ⟨g17, v15, ho16, hf, hs⟩
 refine D.use ?_ hf hs
 clear hf hs ac w'
 refine Xt (Dh ([_, _, _, _]) Y (Cq (Sr (q1 Y (Db f_66_1 Y Y (q := 1) Y) (q1 Y (lb 3 o_42 Y Y Y Y) (q1 Y (Dl s_42 Y Y (rd_sl hu4)) (Pe Y (Cb (Cl (fun m_ ac w' => ∃ (k : Nat), ∃ (v : Value), (k ≤ e.Memory.length) ∧ m_ = e.Memory.length - k ∧ Fits ac 72 [(1, (pv g13)), (2, (pv g14)), (3, (pv g17)), (19, u3), (20, (nv e.Memory.length)), (21, (nv k))] ∧ St w ([ov [v] (e.Memory.take k : (List Stamp)), bx g17 [v15, v, (iv e.Clock), (.slice none 0 0), (.bool e.Halted), (.slice none 0 0)], ov [v15] (e.Rules : (List Rule)), bx g14 [(.slice none 0 0), (.slice none 0 0), (iv 0), (.slice none 0 0), (.bool false), (.slice none 0 0)], bx g13 [u1, u3, (iv e.Clock), u5, (.bool e.Halted), u7]]) w') ?_ ?_)))))))))
 ·refine D_nil (α := Stamp) (D_eq 0 Y (show ([] : (List Stamp)) = e.Memory.take 0 from by simp) (fun ac w' hf hs => ⟨_, 0, (.slice none 0 0), ?_, Y, hf.wk Y, hs⟩))
  ·first | assumption | omega | simp
 ·rintro m_ ac w' ⟨k, v, hk, rfl, hf, hs⟩
  refine D.use ?_ hf hs
  clear hf hs ac w'
  have hclk : (e.Memory.take k).length ≤ k := by rw [List.length_take]; omega
  refine Sr (Pe Y (Dh ([_, _, _, _, _]) Y (Cq (Ci _ Y (fun h21 => ?_) (fun h21 => ?_)))))
  ·have pr21 := odT h21
   refine Sk (Cq (Cb (Sr ?_)))
   obtain ⟨s0, s0h⟩ := sL (l := e.Memory) (i := k) (by omega)
   have hle := sumC_mem (c := szStamp) (List.mem_of_getElem? s0h)
   have hle2 : szStamp s0 = szFa s0.Fact := rfl
   obtain ⟨es22, at23, hr24⟩ := rd_elem (n := 3) rfl hu4 s0h
   obtain ⟨u25, rfl, hu26⟩ := open_Stamp hr24
   have hm27 := rd_max hu26
   have hb28 := sub_Stamp_Fact hr24
   refine q1 Y (D_ix (l := e.Memory) (j := k) s_42 Y Y Y (fun w' hs => (rA hs hu4)) Y (lS s0h)) (q1 Y (lra a_100 Y Y at23) (li Y (D_alloc y_100 Y Y Y Y fun g29 => ?_)))
   refine li Y (D_stb (vs := [(.string s0.Fact.Rel), u25, (iv s0.Time)]) (cs' := [(.string s0.Fact.Rel), u25, (iv s0.Time)]) 0 z_100 Y Y Y Y Y Y (ocons Y (ocons (one_rd hu26) (ocons Y onil))) (by simp) Y ?_)
   refine Dx (Dh ([bx g29 [(.string s0.Fact.Rel), u25, (iv s0.Time)], _, _, _, _, _]) Y (C_draw mixed [9, 10, 11] (by kernel_rfl) (Tk 0 Y (by kernel_rfl) Y (Db f_66_1 Y Y (q := 1) Y) (Tk 1 Y (by kernel_rfl) Y (lb 2 o_42 Y Y Y Y) (Tk 2 Y (by kernel_rfl) Y (Db f_100_0 Y Y (q := 0) Y) (Tk 3 Y (by kernel_rfl) Y (lba (es := [(.string s0.Fact.Rel), u25]) 0 a_70 Y Y Y Y) (Tk 5 Y (by kernel_rfl) Y (Db f_100_1 Y Y (q := 2) Y) (Tk 6 Y (by kernel_rfl) Y (lb 0 o_3 Y Y Y Y) (ty 4 Y (by kernel_rfl) Y (crs Y b_132 Y Y Y Y (fun w' hs => (impl_copyFact (rA hs hb28) (by first | assumption | omega | (unfold szm at *; split at * <;> omega)))) fun cs30 => ?_))))))))))
   refine Dp (fun w' hs => shape_Fact (rO (k := 0) hs Y)) ?_
   rintro ⟨v31, rfl, ho32⟩
   refine tS (fun _ hs => hs.pk [1, 2, 3, 4, 5, 6] Y Y) (Tj 7 Y (by kernel_rfl) Y (fun _ hs => hs.pk [1, 2, 3, 4, 5, 6] Y Y) (D_built (vs := [(0, (.agg #[(.string s0.Fact.Rel), v31])), (1, (iv s0.Time))]) (xs := [(0, [(.string s0.Fact.Rel), v31]), (1, [(iv s0.Time)])]) (cs := [(.string s0.Fact.Rel), v31, (iv s0.Time)]) pl_100 Y ⟨Y, Y, ⟨Y, Y, trivial⟩⟩ Y Y) (ty 8 Y (by kernel_rfl) Y (D_bs s_42 y_100 Y (by decide) (by decide) Y Y Y Y Y Y fun g33 => ?_)))
   refine tS (fun _ hs => hs.pk [2, 3, 4, 5, 6, 7] Y Y) (D_pkO [1, 0, 2, 3, 4, 5, 6, 7] Y (D_unpair (α := ByteArray) (β := (List ByteArray)) (c1 := [(.string s0.Fact.Rel)]) (c2 := [v31]) (x := s0.Fact.Rel) (y := (s0.Fact.Args)) Y Y (D_fd [] 1 Y (pk_Stamp (r := (s0 : Stamp)) (D_pkO [3, 0, 1, 2, 4, 5, 6, 7] Y (ty 9 Y (by kernel_rfl) Y (D_ap s_42 y_100 Y (by decide) Y Y Y Y Y Y (by first | omega | (simp; omega)) (by first | omega | (simp; omega)) fun v34 => ?_)))))))
   refine tZ Y (ty 10 Y (by kernel_rfl) Y (sv Y Y (Db f_66_1 Y Y (q := 1) Y) ?_))
   refine tZ Y (Dp (fun w' hs => one_own (k := 0) hs Y) ?_)
   intro ho35
   refine ty 11 Y (by kernel_rfl) Y (D_stb (vs := [v34]) (cs' := [v15, v34, (iv e.Clock), (.slice none 0 0), (.bool e.Halted), (.slice none 0 0)]) 2 z_42 Y Y Y Y Y (cells_of_one ho35) (ocons ho35 onil) (by simp) Y ?_)
   refine tZ Y (tE (by kernel_rfl) (Xb (Xt (D_wk [1, 2, 3, 19, 20, 21] Y (D_pkO [0, 2, 3, 4, 5] Y (Dh ([ov [v34] ((e.Memory.take k) ++ [(s0 : Stamp)] : (List Stamp)), bx g17 [v15, v34, (iv e.Clock), (.slice none 0 0), (.bool e.Halted), (.slice none 0 0)], _, _, _]) Y (Cr (q1 Y (D_add Y Y Y (r := ((k + 1 : Nat) : Int)) (by omega) (by omega)) (Pe Y (D_eq 0 Y (show ((e.Memory.take k) ++ [(s0 : Stamp)] : (List Stamp)) = e.Memory.take (k + 1) from by exact (take_snoc s0h).symm) (fun ac w' hf hs => ⟨_, ?_, k + 1, v34, ?_, Y, hf.wk Y, hs⟩)))))))))))
   ·omega
   ·first | assumption | omega | simp
  ·have pr21 := odF h21
   refine Cx (Xx (Xx (Xe (Xt (Cq (Sr (q1 Y (Db f_66_3 Y Y (q := 3) Y) (q1 Y (lb 4 o_63 Y Y Y Y) (q1 Y (Dl s_63 Y Y (rd_sl hu6)) (Pe Y (Cb (Cl (fun m_ ac w' => ∃ (j : Nat), ∃ (v2 : Value), (j ≤ e.Fired.length) ∧ m_ = e.Fired.length - j ∧ Fits ac 72 [(1, (pv g13)), (2, (pv g14)), (3, (pv g17)), (38, u5), (39, (nv e.Fired.length)), (40, (nv j))] ∧ St w ([ov [v2] (e.Fired.take j : (List Firing)), ov [v] (e.Memory.take k : (List Stamp)), bx g17 [v15, v, (iv e.Clock), v2, (.bool e.Halted), (.slice none 0 0)], ov [v15] (e.Rules : (List Rule)), bx g14 [(.slice none 0 0), (.slice none 0 0), (iv 0), (.slice none 0 0), (.bool false), (.slice none 0 0)], bx g13 [u1, u3, (iv e.Clock), u5, (.bool e.Halted), u7]]) w') ?_ ?_))))))))))))
   ·refine D_nil (α := Firing) (D_eq 0 Y (show ([] : (List Firing)) = e.Fired.take 0 from by simp) (fun ac w' hf hs => ⟨_, 0, (.slice none 0 0), ?_, Y, hf.wk Y, hs⟩))
    ·first | assumption | omega | simp
   ·rintro m_ ac w' ⟨j, v2, hj, rfl, hf, hs⟩
    refine D.use ?_ hf hs
    clear hf hs ac w'
    have hclj : (e.Fired.take j).length ≤ j := by rw [List.length_take]; omega
    refine Sr (Pe Y (Dh ([_, _, _, _, _, _]) Y (Cq (Ci _ Y (fun h36 => ?_) (fun h36 => ?_)))))
    ·have pr36 := odT h36
     refine Sk (Cq (Cb (Sr ?_)))
     obtain ⟨f0, f0h⟩ := sL (l := e.Fired) (i := j) (by omega)
     have hle := sumC_mem (c := szFiring) (List.mem_of_getElem? f0h)
     have hle2 : szFiring f0 = f0.Rule.size + f0.Times.length := rfl
     obtain ⟨es37, at38, hr39⟩ := rd_elem (n := 2) rfl hu6 f0h
     obtain ⟨u40, rfl, hu41⟩ := open_Firing hr39
     have hm42 := rd_max hu41
     refine q1 Y (D_ix (l := e.Fired) (j := j) s_63 Y Y Y (fun w' hs => (rA hs hu6)) Y (lS f0h)) (q1 Y (lra a_168 Y Y at38) (li Y (D_alloc y_168 Y Y Y Y fun g43 => ?_)))
     refine li Y (D_stb (vs := [(.string f0.Rule), u40]) (cs' := [(.string f0.Rule), u40]) 0 z_168 Y Y Y Y Y Y (ocons Y (ocons (one_rd hu41) onil)) (by simp) Y ?_)
     refine Dx (Dh ([bx g43 [(.string f0.Rule), u40], _, _, _, _, _, _]) Y (C_draw mixed [9, 10, 11] (by kernel_rfl) (Tk 0 Y (by kernel_rfl) Y (Db f_66_3 Y Y (q := 3) Y) (Tk 1 Y (by kernel_rfl) Y (lb 3 o_63 Y Y Y Y) (Tk 2 Y (by kernel_rfl) Y (Db f_168_0 Y Y (q := 0) Y) (Tk 3 Y (by kernel_rfl) Y (lb 0 o_9 Y Y Y Y) (Tk 4 Y (by kernel_rfl) Y (Db f_168_1 Y Y (q := 1) Y) (Tk 5 Y (by kernel_rfl) Y (lb 0 o_35 Y Y Y Y) (ty 6 Y (by kernel_rfl) Y (crl b_133 Y Y Y Y (fun w' hs => (impl_copyInts (rA hs hu41) (by first | assumption | omega | (unfold szm at *; split at * <;> omega)))) fun v44 => ?_))))))))))
     refine tS (fun _ hs => hs.pk [1, 2, 3, 4, 5, 6, 7] Y Y) (Dp (fun w' hs => one_own (k := 0) hs Y) ?_)
     intro ho45
     refine Tj 7 Y (by kernel_rfl) Y (fun _ hs => hs.pk [1, 2, 3, 4, 5, 6, 7] Y Y) (D_built (vs := [(0, (.string f0.Rule)), (1, v44)]) (xs := [(0, [(.string f0.Rule)]), (1, [v44])]) (cs := [(.string f0.Rule), v44]) pl_168 Y ⟨Y, Y, ⟨Y, (cells_of_one ho45), trivial⟩⟩ Y Y) (ty 8 Y (by kernel_rfl) Y (D_bs s_63 y_168 Y (by decide) (by decide) Y Y Y Y Y Y fun g46 => ?_))
     refine tS (fun _ hs => hs.pk [2, 3, 4, 5, 6, 7, 8] Y Y) (D_pkO [1, 0, 2, 3, 4, 5, 6, 7, 8] Y (pk_Firing (r := (f0 : Firing)) (D_pkO [3, 0, 1, 2, 4, 5, 6, 7, 8] Y (ty 9 Y (by kernel_rfl) Y (D_ap s_63 y_168 Y (by decide) Y Y Y Y Y Y (by first | omega | (simp; omega)) (by first | omega | (simp; omega)) fun v47 => ?_)))))
     refine tZ Y (ty 10 Y (by kernel_rfl) Y (sv Y Y (Db f_66_3 Y Y (q := 3) Y) ?_))
     refine tZ Y (Dp (fun w' hs => one_own (k := 0) hs Y) ?_)
     intro ho48
     refine ty 11 Y (by kernel_rfl) Y (D_stb (vs := [v47]) (cs' := [v15, v, (iv e.Clock), v47, (.bool e.Halted), (.slice none 0 0)]) 3 z_63 Y Y Y Y Y (cells_of_one ho48) (ocons ho48 onil) (by simp) Y ?_)
     refine tZ Y (tE (by kernel_rfl) (Xb (Xt (D_wk [1, 2, 3, 38, 39, 40] Y (D_pkO [0, 2, 3, 4, 5, 6] Y (Dh ([ov [v47] ((e.Fired.take j) ++ [(f0 : Firing)] : (List Firing)), _, bx g17 [v15, v, (iv e.Clock), v47, (.bool e.Halted), (.slice none 0 0)], _, _, _]) Y (Cr (q1 Y (D_add Y Y Y (r := ((j + 1 : Nat) : Int)) (by omega) (by omega)) (Pe Y (D_eq 0 Y (show ((e.Fired.take j) ++ [(f0 : Firing)] : (List Firing)) = e.Fired.take (j + 1) from by exact (take_snoc f0h).symm) (fun ac w' hf hs => ⟨_, ?_, j + 1, v47, ?_, Y, hf.wk Y, hs⟩)))))))))))
     ·omega
     ·first | assumption | omega | simp
    ·have pr36 := odF h36
     refine Cx (Xx (Xx (Xe (Xt (Cq (Sr (q1 Y (Db f_66_5 Y Y (q := 5) Y) (q1 Y (lb 5 o_64 Y Y Y Y) (q1 Y (Dl s_64 Y Y (rd_sl hu8)) (Pe Y (Cb (Cl (fun m_ ac w' => ∃ (p : Nat), ∃ (v3 : Value), (p ≤ e.Log.length) ∧ m_ = e.Log.length - p ∧ Fits ac 72 [(2, (pv g14)), (3, (pv g17)), (57, u7), (58, (nv e.Log.length)), (59, (nv p))] ∧ St w ([ov [v3] (e.Log.take p : (List Event)), ov [v2] (e.Fired.take j : (List Firing)), ov [v] (e.Memory.take k : (List Stamp)), bx g17 [v15, v, (iv e.Clock), v2, (.bool e.Halted), v3], ov [v15] (e.Rules : (List Rule)), bx g14 [(.slice none 0 0), (.slice none 0 0), (iv 0), (.slice none 0 0), (.bool false), (.slice none 0 0)], bx g13 [u1, u3, (iv e.Clock), u5, (.bool e.Halted), u7]]) w') ?_ ?_))))))))))))
     ·refine D_nil (α := Event) (D_eq 0 Y (show ([] : (List Event)) = e.Log.take 0 from by simp) (fun ac w' hf hs => ⟨_, 0, (.slice none 0 0), ?_, Y, hf.wk Y, hs⟩))
      ·first | assumption | omega | simp
     ·rintro m_ ac w' ⟨p, v3, hp, rfl, hf, hs⟩
      refine D.use ?_ hf hs
      clear hf hs ac w'
      have hclp : (e.Log.take p).length ≤ p := by rw [List.length_take]; omega
      refine Sr (Pe Y (Dh ([_, _, _, _, _, _, _]) Y (Cq (Ci _ Y (fun h49 => ?_) (fun h49 => ?_)))))
      ·have pr49 := odT h49
       refine Sk (Cq (Cb (Sr ?_)))
       obtain ⟨v0, v0h⟩ := sL (l := e.Log) (i := p) (by omega)
       have hle := sumC_mem (c := szEv) (List.mem_of_getElem? v0h)
       have hle2 : szEv v0 = v0.Rule.size + szFa v0.Fact := rfl
       obtain ⟨es50, at51, hr52⟩ := rd_elem (n := 4) rfl hu8 v0h
       obtain ⟨u53, rfl, hu54⟩ := open_Event hr52
       have hm55 := rd_max hu54
       have hb56 := sub_Event_Fact hr52
       refine q1 Y (D_ix (l := e.Log) (j := p) s_64 Y Y Y (fun w' hs => (rA hs hu8)) Y (lS v0h)) (q1 Y (lra a_171 Y Y at51) (li Y (D_alloc y_171 Y Y Y Y fun g57 => ?_)))
       refine li Y (D_stb (vs := [(iv v0.Kind), (.string v0.Rule), (.string v0.Fact.Rel), u53]) (cs' := [(iv v0.Kind), (.string v0.Rule), (.string v0.Fact.Rel), u53]) 0 z_171 Y Y Y Y Y Y (ocons Y (ocons Y (ocons Y (ocons (one_rd hu54) onil)))) (by simp) Y ?_)
       refine Dx (Dh ([bx g57 [(iv v0.Kind), (.string v0.Rule), (.string v0.Fact.Rel), u53], _, _, _, _, _, _, _]) Y (C_draw mixed [5, 6, 7] (by kernel_rfl) (Tk 0 Y (by kernel_rfl) Y (Db f_66_5 Y Y (q := 5) Y) (Tk 1 Y (by kernel_rfl) Y (lb 4 o_64 Y Y Y Y) (Tk 2 Y (by kernel_rfl) Y (lbw 0 a_171 Y Y Y) (ty 3 Y (by kernel_rfl) Y (crs Y b_134 Y Y Y Y (fun w' hs => (impl_copyEvent (rA hs hr52) (by first | assumption | omega | (unfold szm at *; split at * <;> omega)))) fun cs58 => ?_)))))))
       refine Dp (fun w' hs => shape_Event (rO (k := 0) hs Y)) ?_
       rintro ⟨v59, rfl, ho60⟩
       refine tS (fun _ hs => hs.pk [1, 2, 3, 4, 5, 6, 7, 8] Y Y) (ty 4 Y (by kernel_rfl) Y (D_bs s_64 y_171 Y (by decide) (by decide) Y Y Y Y Y Y fun g61 => ?_))
       refine tS (fun _ hs => hs.pk [2, 3, 4, 5, 6, 7, 8, 9] Y Y) (D_pkO [3, 1, 0, 2, 4, 5, 6, 7, 8, 9] Y (ty 5 Y (by kernel_rfl) Y (D_ap s_64 y_171 Y (by decide) Y Y Y Y Y Y (by first | omega | (simp; omega)) (by first | omega | (simp; omega)) fun v62 => ?_)))
       refine tZ Y (ty 6 Y (by kernel_rfl) Y (sv Y Y (Db f_66_5 Y Y (q := 5) Y) ?_))
       refine tZ Y (Dp (fun w' hs => one_own (k := 0) hs Y) ?_)
       intro ho63
       refine ty 7 Y (by kernel_rfl) Y (D_stb (vs := [v62]) (cs' := [v15, v, (iv e.Clock), v2, (.bool e.Halted), v62]) 4 z_64 Y Y Y Y Y (cells_of_one ho63) (ocons ho63 onil) (by simp) Y ?_)
       refine tZ Y (tE (by kernel_rfl) (Xb (Xt (Dh ([ov [v62] ((e.Log.take p) ++ [v0] : (List Event)), _, _, _, bx g17 [v15, v, (iv e.Clock), v2, (.bool e.Halted), v62], _, _, _]) Y (Cr (q1 Y (D_add Y Y Y (r := ((p + 1 : Nat) : Int)) (by omega) (by omega)) (Pe Y (D_eq 0 Y (show ((e.Log.take p) ++ [v0] : (List Event)) = e.Log.take (p + 1) from by exact (take_snoc v0h).symm) (fun ac w' hf hs => ⟨_, ?_, p + 1, v62, ?_, Y, hf.wk Y, hs.pk [0, 2, 3, 4, 5, 6, 7] Y Y⟩)))))))))
       ·omega
       ·first | assumption | omega | simp
      ·have pr49 := odF h49
       refine Cx (Xx (Xx (Xe (Xt (Sr (q1 Y (lbw 3 a_66 Y Y Y) (Dp (fun w' hs => one_own (k := 0) hs Y) ?_)))))))
       intro ho64
       refine Dp (fun w' hs => one_own (k := 1) hs Y) ?_
       intro ho65
       refine Dp (fun w' hs => one_own (k := 2) hs Y) ?_
       intro ho66
       refine Dp (fun w' hs => one_own (k := 4) hs Y) ?_
       intro ho67
       refine li Y (D_stb (vs := [v15, v, (iv e.Clock), v2, (.bool e.Halted), v3]) (cs' := [v15, v, (iv e.Clock), v2, (.bool e.Halted), v3]) 5 z_66 Y Y Y Y Y Y (ocons ho67 (ocons ho66 (ocons Y (ocons ho65 (ocons Y (ocons ho64 onil)))))) (by simp) Y ?_)
       refine Dx (Ct (D_pkO [4, 2, 1, 0, 3, 5, 6] Y (pk_Engine (r := (⟨e.Rules, e.Memory.take k, e.Clock, e.Fired.take j, e.Halted, e.Log.take p⟩ : Engine)) (R_c 2 a_66 Y Y Y fun w' hs => res_of (k := 0) hs Y ?_))))
       show (⟨e.Rules, e.Memory.take k, e.Clock, e.Fired.take j, e.Halted, e.Log.take p⟩ : Engine) = e
       show (⟨e.Rules, e.Memory.take k, e.Clock, e.Fired.take j, e.Halted, e.Log.take p⟩ : Engine) = e; rw [List.take_of_length_le (by omega), List.take_of_length_le (by omega), List.take_of_length_le (by omega)]
set_option maxHeartbeats 4000000 in
theorem spec_l10Copy {w : World} {c_e : List Value} {e : Engine} (h_e : Gd.rd w c_e e) (hn : szEngine e ≤ 1048576) : Calls Tryz.prog 71 [(.agg c_e.toArray)].toArray w (Res w (e : Engine)) := by
 obtain ⟨u1, u3, u5, u7, rfl, hu2, hu4, hu6, hu8⟩ := open_Engine h_e
 have hm9 := rd_max hu2
 have hm10 := rd_max hu4
 have hm11 := rd_max hu6
 have hm12 := rd_max hu8
 unfold szEngine szL at hn
 refine enter 100 Tryz.func71 Y Y Y (Sr (li Y (D_box Y Y Y Y Y fun g13 => ?_)))
 refine li Y (D_alloc y_66 Y Y Y Y fun g14 => ?_)
 refine Dx (Dh ([bx g14 [(.slice none 0 0), (.slice none 0 0), (iv 0), (.slice none 0 0), (.bool false), (.slice none 0 0)], bx g13 [u1, u3, (iv e.Clock), u5, (.bool e.Halted), u7]]) Y (Cq (C_join (fun ac w' => ∃ (g17 : Nat), ∃ (v15 : Value), (v15.oneCell' = true) ∧ Fits ac 100 [(1, (pv g13)), (2, (pv g14)), (3, (pv g17))] ∧ St w ([bx g17 [v15, (.slice none 0 0), (iv e.Clock), (.slice none 0 0), (.bool e.Halted), (.slice none 0 0)], ov [v15] (e.Rules : (List Rule)), bx g14 [(.slice none 0 0), (.slice none 0 0), (iv 0), (.slice none 0 0), (.bool false), (.slice none 0 0)], bx g13 [u1, u3, (iv e.Clock), u5, (.bool e.Halted), u7]]) w') ?_ ?_)))
 ·refine C_draw mixed [9] (by kernel_rfl) (Tk 0 Y (by kernel_rfl) Y (Db f_66_0 Y Y (q := 0) Y) (Tk 1 Y (by kernel_rfl) Y (lb 1 o_40 Y Y Y Y) (Tk 3 Y (by kernel_rfl) Y (Db f_66_2 Y Y (q := 2) Y) (Tk 4 Y (by kernel_rfl) Y (lb 1 o_3 Y Y Y Y) (Tk 5 Y (by kernel_rfl) Y (Db f_66_4 Y Y (q := 4) Y) (Tk 6 Y (by kernel_rfl) Y (lb 1 o_4 Y Y Y Y) (tyN [2, 8] Y (by kernel_rfl) ⟨⟨_, Y, Y, ?_⟩, ⟨_, Y, Y, ?_⟩, trivial⟩)))))))
  ·refine id (crl b_122 Y Y Y Y (fun w' hs => (spec_l5Copies (rA hs hu2) (by unfold szL; omega))) fun v15 => ?_)
   refine tS (fun _ hs => hs.pk [1, 2] Y Y) (Dp (fun w' hs => one_own (k := 0) hs Y) ?_)
   intro ho16
   refine Tj 7 Y (by kernel_rfl) Y (fun _ hs => hs.pk [1, 2] Y Y) (D_built (vs := [(0, v15), (2, (iv e.Clock)), (4, (.bool e.Halted))]) (xs := [(0, [v15]), (2, [(iv e.Clock)]), (4, [(.bool e.Halted)])]) (cs := [v15, (.slice none 0 0), (iv e.Clock), (.slice none 0 0), (.bool e.Halted), (.slice none 0 0)]) pl_66 Y ⟨Y, (cells_of_one ho16), ⟨Y, Y, ⟨Y, Y, trivial⟩⟩⟩ Y Y) (ty 8 Y (by kernel_rfl) Y (D_alloc y_66 Y Y Y Y fun g17 => ?_))
   refine tS (fun _ hs => hs.pk [2, 3] Y Y) (ty 9 Y (by kernel_rfl) Y (D_stb (vs := [v15, (.slice none 0 0), (iv e.Clock), (.slice none 0 0), (.bool e.Halted), (.slice none 0 0)]) (cs' := [v15, (.slice none 0 0), (iv e.Clock), (.slice none 0 0), (.bool e.Halted), (.slice none 0 0)]) 0 z_66 Y Y Y Y Y Y (ocons ho16 (ocons Y (ocons Y (ocons Y (ocons Y (ocons Y onil)))))) (by simp) Y ?_))
   refine tZ Y (tE (by kernel_rfl) (Xt (fun ac w' hf hs => ⟨g17, v15, ho16, hf.wk Y, hs⟩)))
  ·refine id (D_alloc y_66 Y Y Y Y fun g18 => ?_)
   refine tS (fun _ hs => hs.pk [1, 2] Y Y) (ty 2 Y (by kernel_rfl) Y (crl b_122 Y Y Y Y (fun w' hs => (spec_l5Copies (rA hs hu2) (by unfold szL; omega))) fun v19 => ?_))
   refine tS (fun _ hs => hs.pk [2, 3] Y Y) (Dp (fun w' hs => one_own (k := 0) hs Y) ?_)
   intro ho20
   refine Tj 7 Y (by kernel_rfl) Y (fun _ hs => hs.pk [2, 3] Y Y) (D_built (vs := [(0, v19), (2, (iv e.Clock)), (4, (.bool e.Halted))]) (xs := [(0, [v19]), (2, [(iv e.Clock)]), (4, [(.bool e.Halted)])]) (cs := [v19, (.slice none 0 0), (iv e.Clock), (.slice none 0 0), (.bool e.Halted), (.slice none 0 0)]) pl_66 Y ⟨Y, (cells_of_one ho20), ⟨Y, Y, ⟨Y, Y, trivial⟩⟩⟩ Y Y) (ty 9 Y (by kernel_rfl) Y (D_stb (vs := [v19, (.slice none 0 0), (iv e.Clock), (.slice none 0 0), (.bool e.Halted), (.slice none 0 0)]) (cs' := [v19, (.slice none 0 0), (iv e.Clock), (.slice none 0 0), (.bool e.Halted), (.slice none 0 0)]) 1 z_66 Y Y Y Y Y Y (ocons ho20 (ocons Y (ocons Y (ocons Y (ocons Y (ocons Y onil)))))) (by simp) Y ?_))
   refine tZ Y (tE (by kernel_rfl) (Xt (fun ac w' hf hs => ⟨g18, v19, ho20, hf.wk Y, hs.pk [1, 0, 2, 3] Y Y⟩)))
 rintro ac w' ⟨g17, v15, ho16, hf, hs⟩
 refine D.use ?_ hf hs
 clear hf hs ac w'
 refine Xt (Dh ([_, _, _, _]) Y (Cq (Sr (Pe Y (Cb (Cl (fun m_ ac w' => ∃ (k : Nat), ∃ (v : Value), (k ≤ e.Memory.length) ∧ m_ = e.Memory.length - k ∧ Fits ac 100 [(1, (pv g13)), (2, (pv g14)), (3, (pv g17)), (4, (nv k))] ∧ St w ([ov [v] (e.Memory.take k : (List Stamp)), bx g17 [v15, v, (iv e.Clock), (.slice none 0 0), (.bool e.Halted), (.slice none 0 0)], ov [v15] (e.Rules : (List Rule)), bx g14 [(.slice none 0 0), (.slice none 0 0), (iv 0), (.slice none 0 0), (.bool false), (.slice none 0 0)], bx g13 [u1, u3, (iv e.Clock), u5, (.bool e.Halted), u7]]) w') ?_ ?_))))))
 ·refine D_nil (α := Stamp) (D_eq 0 Y (show ([] : (List Stamp)) = e.Memory.take 0 from by simp) (fun ac w' hf hs => ⟨_, 0, (.slice none 0 0), ?_, Y, hf.wk Y, hs⟩))
  ·first | assumption | omega | simp
 ·rintro m_ ac w' ⟨k, v, hk, rfl, hf, hs⟩
  refine D.use ?_ hf hs
  clear hf hs ac w'
  have hclk : (e.Memory.take k).length ≤ k := by rw [List.length_take]; omega
  refine Cq (Sr (p1 Y (q1 Y (Db f_66_1 Y Y (q := 1) Y) (q1 Y (lb 4 o_42 Y Y Y Y) (q1 Y (Dl s_42 Y Y (rd_sl hu4)) (Pe Y (Dh ([_, _, _, _, _]) Y (Ci _ Y (fun h21 => ?_) (fun h21 => ?_)))))))))
  ·have pr21 := odT h21
   refine Sk (Cq (Cb (C_draw mixed [17, 18, 19] (by kernel_rfl) (Tk 0 Y (by kernel_rfl) Y (Db f_66_1 Y Y (q := 1) Y) (Tk 1 Y (by kernel_rfl) Y (lb 1 o_42 Y Y Y Y) (Tk 2 Y (by kernel_rfl) Y (Db f_66_1 Y Y (q := 1) Y) (Tk 3 Y (by kernel_rfl) Y (lb 4 o_42 Y Y Y Y) (Tk 4 Y (by kernel_rfl) Y (rp Y) ?_))))))))
   obtain ⟨s0, s0h⟩ := sL (l := e.Memory) (i := k) (by omega)
   have hle := sumC_mem (c := szStamp) (List.mem_of_getElem? s0h)
   have hle2 : szStamp s0 = szFa s0.Fact := rfl
   obtain ⟨es22, at23, hr24⟩ := rd_elem (n := 3) rfl hu4 s0h
   obtain ⟨u25, rfl, hu26⟩ := open_Stamp hr24
   have hm27 := rd_max hu26
   have hb28 := sub_Stamp_Fact hr24
   refine Tk 5 Y (by kernel_rfl) Y (D_ix (l := e.Memory) (j := k) s_42 Y Y Y (fun w' hs => (rA hs hu4)) Y (lS s0h)) (Tk 6 Y (by kernel_rfl) Y (D_fa f_100_0 Y Y) (Tk 7 Y (by kernel_rfl) Y (lra a_70 Y Y (at_sub (f := 0) (n := 2) at23 Y)) (Tk 9 Y (by kernel_rfl) Y (Db f_66_1 Y Y (q := 1) Y) (Tk 10 Y (by kernel_rfl) Y (lb 4 o_42 Y Y Y Y) (Tk 11 Y (by kernel_rfl) Y (rp Y) (Tk 12 Y (by kernel_rfl) Y (D_ix (l := e.Memory) (j := k) s_42 Y Y Y (fun w' hs => (rA hs hu4)) Y (lS s0h)) (Tk 13 Y (by kernel_rfl) Y (D_fa f_100_1 Y Y) (Tk 14 Y (by kernel_rfl) Y (lr o_3 Y Y at23 Y) (ty 8 Y (by kernel_rfl) Y (crs Y b_123 Y Y Y Y (fun w' hs => (spec_l2Copy (rA hs hb28) (by first | assumption | omega | (unfold szm at *; split at * <;> omega)))) fun cs29 => ?_))))))))))
   refine Dp (fun w' hs => shape_Fact (rO (k := 0) hs Y)) ?_
   rintro ⟨v30, rfl, ho31⟩
   refine tS (fun _ hs => hs.pk [1, 2, 3, 4, 5] Y Y) (Tj 15 Y (by kernel_rfl) Y (fun _ hs => hs.pk [1, 2, 3, 4, 5] Y Y) (D_built (vs := [(0, (.agg #[(.string s0.Fact.Rel), v30])), (1, (iv s0.Time))]) (xs := [(0, [(.string s0.Fact.Rel), v30]), (1, [(iv s0.Time)])]) (cs := [(.string s0.Fact.Rel), v30, (iv s0.Time)]) pl_100 Y ⟨Y, Y, ⟨Y, Y, trivial⟩⟩ Y Y) (ty 16 Y (by kernel_rfl) Y (D_bs s_42 y_100 Y (by decide) (by decide) Y Y Y Y Y Y fun g32 => ?_)))
   refine tS (fun _ hs => hs.pk [2, 3, 4, 5, 6] Y Y) (D_pkO [1, 0, 2, 3, 4, 5, 6] Y (D_unpair (α := ByteArray) (β := (List ByteArray)) (c1 := [(.string s0.Fact.Rel)]) (c2 := [v30]) (x := s0.Fact.Rel) (y := (s0.Fact.Args)) Y Y (D_fd [] 1 Y (pk_Stamp (r := (s0 : Stamp)) (D_pkO [2, 0, 1, 3, 4, 5, 6] Y (ty 17 Y (by kernel_rfl) Y (D_ap s_42 y_100 Y (by decide) Y Y Y Y Y Y (by first | omega | (simp; omega)) (by first | omega | (simp; omega)) fun v33 => ?_)))))))
   refine tZ Y (ty 18 Y (by kernel_rfl) Y (sv Y Y (Db f_66_1 Y Y (q := 1) Y) ?_))
   refine tZ Y (Dp (fun w' hs => one_own (k := 0) hs Y) ?_)
   intro ho34
   refine ty 19 Y (by kernel_rfl) Y (D_stb (vs := [v33]) (cs' := [v15, v33, (iv e.Clock), (.slice none 0 0), (.bool e.Halted), (.slice none 0 0)]) 1 z_42 Y Y Y Y Y (cells_of_one ho34) (ocons ho34 onil) (by simp) Y ?_)
   refine tZ Y (tE (by kernel_rfl) (Xb (Xt (D_wk [1, 2, 3, 4] Y (Dh ([ov [v33] ((e.Memory.take k) ++ [(s0 : Stamp)] : (List Stamp)), bx g17 [v15, v33, (iv e.Clock), (.slice none 0 0), (.bool e.Halted), (.slice none 0 0)], _, _, _]) Y (Cr (p1 Y (q1 Y (D_add Y Y Y (r := ((k + 1 : Nat) : Int)) (by omega) (by omega)) (Pe Y (D_eq 0 Y (show ((e.Memory.take k) ++ [(s0 : Stamp)] : (List Stamp)) = e.Memory.take (k + 1) from by exact (take_snoc s0h).symm) (fun ac w' hf hs => ⟨_, ?_, k + 1, v33, ?_, Y, hf.wk Y, hs⟩)))))))))))
   ·omega
   ·first | assumption | omega | simp
  ·have pr21 := odF h21
   refine Cx (Xx (Xx (Xe (Xt (Cq (Sr (Pe Y (Cb (Cl (fun m_ ac w' => ∃ (j : Nat), ∃ (v2 : Value), (j ≤ e.Fired.length) ∧ m_ = e.Fired.length - j ∧ Fits ac 100 [(1, (pv g13)), (2, (pv g14)), (3, (pv g17)), (5, (nv j))] ∧ St w ([ov [v2] (e.Fired.take j : (List Firing)), ov [v] (e.Memory.take k : (List Stamp)), bx g17 [v15, v, (iv e.Clock), v2, (.bool e.Halted), (.slice none 0 0)], ov [v15] (e.Rules : (List Rule)), bx g14 [(.slice none 0 0), (.slice none 0 0), (iv 0), (.slice none 0 0), (.bool false), (.slice none 0 0)], bx g13 [u1, u3, (iv e.Clock), u5, (.bool e.Halted), u7]]) w') ?_ ?_)))))))))
   ·refine D_nil (α := Firing) (D_eq 0 Y (show ([] : (List Firing)) = e.Fired.take 0 from by simp) (fun ac w' hf hs => ⟨_, 0, (.slice none 0 0), ?_, Y, hf.wk Y, hs⟩))
    ·first | assumption | omega | simp
   ·rintro m_ ac w' ⟨j, v2, hj, rfl, hf, hs⟩
    refine D.use ?_ hf hs
    clear hf hs ac w'
    have hclj : (e.Fired.take j).length ≤ j := by rw [List.length_take]; omega
    refine Cq (Sr (p1 Y (q1 Y (Db f_66_3 Y Y (q := 3) Y) (q1 Y (lb 5 o_63 Y Y Y Y) (q1 Y (Dl s_63 Y Y (rd_sl hu6)) (Pe Y (Dh ([_, _, _, _, _, _]) Y (Ci _ Y (fun h35 => ?_) (fun h35 => ?_)))))))))
    ·have pr35 := odT h35
     refine Sk (Cq (Cb (C_draw mixed [17, 18, 19] (by kernel_rfl) (Tk 0 Y (by kernel_rfl) Y (Db f_66_3 Y Y (q := 3) Y) (Tk 1 Y (by kernel_rfl) Y (lb 2 o_63 Y Y Y Y) (Tk 2 Y (by kernel_rfl) Y (Db f_66_3 Y Y (q := 3) Y) (Tk 3 Y (by kernel_rfl) Y (lb 5 o_63 Y Y Y Y) (Tk 4 Y (by kernel_rfl) Y (rp Y) ?_))))))))
     obtain ⟨f0, f0h⟩ := sL (l := e.Fired) (i := j) (by omega)
     have hle := sumC_mem (c := szFiring) (List.mem_of_getElem? f0h)
     have hle2 : szFiring f0 = f0.Rule.size + f0.Times.length := rfl
     obtain ⟨es36, at37, hr38⟩ := rd_elem (n := 2) rfl hu6 f0h
     obtain ⟨u39, rfl, hu40⟩ := open_Firing hr38
     have hm41 := rd_max hu40
     refine Tk 5 Y (by kernel_rfl) Y (D_ix (l := e.Fired) (j := j) s_63 Y Y Y (fun w' hs => (rA hs hu6)) Y (lS f0h)) (Tk 6 Y (by kernel_rfl) Y (D_fa f_168_0 Y Y) (Tk 7 Y (by kernel_rfl) Y (lr o_9 Y Y at37 Y) (Tk 8 Y (by kernel_rfl) Y (Db f_66_3 Y Y (q := 3) Y) (Tk 9 Y (by kernel_rfl) Y (lb 5 o_63 Y Y Y Y) (Tk 10 Y (by kernel_rfl) Y (rp Y) (Tk 11 Y (by kernel_rfl) Y (D_ix (l := e.Fired) (j := j) s_63 Y Y Y (fun w' hs => (rA hs hu6)) Y (lS f0h)) (Tk 12 Y (by kernel_rfl) Y (D_fa f_168_1 Y Y) (Tk 13 Y (by kernel_rfl) Y (lr o_35 Y Y at37 Y) (ty 14 Y (by kernel_rfl) Y (crl b_124 Y Y Y Y (fun w' hs => (spec_l1Ints (rA hs hu40) (by first | assumption | omega | (unfold szm at *; split at * <;> omega)))) fun v42 => ?_))))))))))
     refine tS (fun _ hs => hs.pk [1, 2, 3, 4, 5, 6] Y Y) (Dp (fun w' hs => one_own (k := 0) hs Y) ?_)
     intro ho43
     refine Tj 15 Y (by kernel_rfl) Y (fun _ hs => hs.pk [1, 2, 3, 4, 5, 6] Y Y) (D_built (vs := [(0, (.string f0.Rule)), (1, v42)]) (xs := [(0, [(.string f0.Rule)]), (1, [v42])]) (cs := [(.string f0.Rule), v42]) pl_168 Y ⟨Y, Y, ⟨Y, (cells_of_one ho43), trivial⟩⟩ Y Y) (ty 16 Y (by kernel_rfl) Y (D_bs s_63 y_168 Y (by decide) (by decide) Y Y Y Y Y Y fun g44 => ?_))
     refine tS (fun _ hs => hs.pk [2, 3, 4, 5, 6, 7] Y Y) (D_pkO [1, 0, 2, 3, 4, 5, 6, 7] Y (pk_Firing (r := (f0 : Firing)) (D_pkO [2, 0, 1, 3, 4, 5, 6, 7] Y (ty 17 Y (by kernel_rfl) Y (D_ap s_63 y_168 Y (by decide) Y Y Y Y Y Y (by first | omega | (simp; omega)) (by first | omega | (simp; omega)) fun v45 => ?_)))))
     refine tZ Y (ty 18 Y (by kernel_rfl) Y (sv Y Y (Db f_66_3 Y Y (q := 3) Y) ?_))
     refine tZ Y (Dp (fun w' hs => one_own (k := 0) hs Y) ?_)
     intro ho46
     refine ty 19 Y (by kernel_rfl) Y (D_stb (vs := [v45]) (cs' := [v15, v, (iv e.Clock), v45, (.bool e.Halted), (.slice none 0 0)]) 2 z_63 Y Y Y Y Y (cells_of_one ho46) (ocons ho46 onil) (by simp) Y ?_)
     refine tZ Y (tE (by kernel_rfl) (Xb (Xt (D_wk [1, 2, 3, 5] Y (Dh ([ov [v45] ((e.Fired.take j) ++ [(f0 : Firing)] : (List Firing)), _, bx g17 [v15, v, (iv e.Clock), v45, (.bool e.Halted), (.slice none 0 0)], _, _, _]) Y (Cr (p1 Y (q1 Y (D_add Y Y Y (r := ((j + 1 : Nat) : Int)) (by omega) (by omega)) (Pe Y (D_eq 0 Y (show ((e.Fired.take j) ++ [(f0 : Firing)] : (List Firing)) = e.Fired.take (j + 1) from by exact (take_snoc f0h).symm) (fun ac w' hf hs => ⟨_, ?_, j + 1, v45, ?_, Y, hf.wk Y, hs⟩)))))))))))
     ·omega
     ·first | assumption | omega | simp
    ·have pr35 := odF h35
     refine Cx (Xx (Xx (Xe (Xt (Cq (Sr (Pe Y (Cb (Cl (fun m_ ac w' => ∃ (p : Nat), ∃ (v3 : Value), (p ≤ e.Log.length) ∧ m_ = e.Log.length - p ∧ Fits ac 100 [(1, (pv g13)), (2, (pv g14)), (3, (pv g17)), (6, (nv p))] ∧ St w ([ov [v3] (e.Log.take p : (List Event)), ov [v2] (e.Fired.take j : (List Firing)), ov [v] (e.Memory.take k : (List Stamp)), bx g17 [v15, v, (iv e.Clock), v2, (.bool e.Halted), v3], ov [v15] (e.Rules : (List Rule)), bx g14 [(.slice none 0 0), (.slice none 0 0), (iv 0), (.slice none 0 0), (.bool false), (.slice none 0 0)], bx g13 [u1, u3, (iv e.Clock), u5, (.bool e.Halted), u7]]) w') ?_ ?_)))))))))
     ·refine D_nil (α := Event) (D_eq 0 Y (show ([] : (List Event)) = e.Log.take 0 from by simp) (fun ac w' hf hs => ⟨_, 0, (.slice none 0 0), ?_, Y, hf.wk Y, hs⟩))
      ·first | assumption | omega | simp
     ·rintro m_ ac w' ⟨p, v3, hp, rfl, hf, hs⟩
      refine D.use ?_ hf hs
      clear hf hs ac w'
      have hclp : (e.Log.take p).length ≤ p := by rw [List.length_take]; omega
      refine Cq (Sr (p1 Y (q1 Y (Db f_66_5 Y Y (q := 5) Y) (q1 Y (lb 6 o_64 Y Y Y Y) (q1 Y (Dl s_64 Y Y (rd_sl hu8)) (Pe Y (Dh ([_, _, _, _, _, _, _]) Y (Ci _ Y (fun h47 => ?_) (fun h47 => ?_)))))))))
      ·have pr47 := odT h47
       refine Sk (Cq (Cb (C_draw mixed [23, 24, 25] (by kernel_rfl) (Tk 0 Y (by kernel_rfl) Y (Db f_66_5 Y Y (q := 5) Y) (Tk 1 Y (by kernel_rfl) Y (lb 3 o_64 Y Y Y Y) (Tk 2 Y (by kernel_rfl) Y (Db f_66_5 Y Y (q := 5) Y) (Tk 3 Y (by kernel_rfl) Y (lb 6 o_64 Y Y Y Y) (Tk 4 Y (by kernel_rfl) Y (rp Y) ?_))))))))
       obtain ⟨v0, v0h⟩ := sL (l := e.Log) (i := p) (by omega)
       have hle := sumC_mem (c := szEv) (List.mem_of_getElem? v0h)
       have hle2 : szEv v0 = v0.Rule.size + szFa v0.Fact := rfl
       obtain ⟨es48, at49, hr50⟩ := rd_elem (n := 4) rfl hu8 v0h
       obtain ⟨u51, rfl, hu52⟩ := open_Event hr50
       have hm53 := rd_max hu52
       have hb54 := sub_Event_Fact hr50
       refine Tk 5 Y (by kernel_rfl) Y (D_ix (l := e.Log) (j := p) s_64 Y Y Y (fun w' hs => (rA hs hu8)) Y (lS v0h)) (Tk 6 Y (by kernel_rfl) Y (D_fa f_171_0 Y Y) (Tk 7 Y (by kernel_rfl) Y (lr o_3 Y Y at49 Y) (Tk 8 Y (by kernel_rfl) Y (Db f_66_5 Y Y (q := 5) Y) (Tk 9 Y (by kernel_rfl) Y (lb 6 o_64 Y Y Y Y) (Tk 10 Y (by kernel_rfl) Y (rp Y) (Tk 11 Y (by kernel_rfl) Y (D_ix (l := e.Log) (j := p) s_64 Y Y Y (fun w' hs => (rA hs hu8)) Y (lS v0h)) (Tk 12 Y (by kernel_rfl) Y (D_fa f_171_1 Y Y) (Tk 13 Y (by kernel_rfl) Y (lr o_9 Y Y at49 Y) (Tk 14 Y (by kernel_rfl) Y (Db f_66_5 Y Y (q := 5) Y) (Tk 15 Y (by kernel_rfl) Y (lb 6 o_64 Y Y Y Y) (Tk 16 Y (by kernel_rfl) Y (rp Y) (Tk 17 Y (by kernel_rfl) Y (D_ix (l := e.Log) (j := p) s_64 Y Y Y (fun w' hs => (rA hs hu8)) Y (lS v0h)) (Tk 18 Y (by kernel_rfl) Y (D_fa f_171_2 Y Y) (Tk 19 Y (by kernel_rfl) Y (lra a_70 Y Y (at_sub (f := 2) (n := 2) at49 Y)) (ty 20 Y (by kernel_rfl) Y (crs Y b_123 Y Y Y Y (fun w' hs => (spec_l2Copy (rA hs hb54) (by first | assumption | omega | (unfold szm at *; split at * <;> omega)))) fun cs55 => ?_))))))))))))))))
       refine Dp (fun w' hs => shape_Fact (rO (k := 0) hs Y)) ?_
       rintro ⟨v56, rfl, ho57⟩
       refine tS (fun _ hs => hs.pk [1, 2, 3, 4, 5, 6, 7] Y Y) (Tj 21 Y (by kernel_rfl) Y (fun _ hs => hs.pk [1, 2, 3, 4, 5, 6, 7] Y Y) (D_built (vs := [(0, (iv v0.Kind)), (1, (.string v0.Rule)), (2, (.agg #[(.string v0.Fact.Rel), v56]))]) (xs := [(0, [(iv v0.Kind)]), (1, [(.string v0.Rule)]), (2, [(.string v0.Fact.Rel), v56])]) (cs := [(iv v0.Kind), (.string v0.Rule), (.string v0.Fact.Rel), v56]) pl_171 Y ⟨Y, Y, ⟨Y, Y, ⟨Y, Y, trivial⟩⟩⟩ Y Y) (ty 22 Y (by kernel_rfl) Y (D_bs s_64 y_171 Y (by decide) (by decide) Y Y Y Y Y Y fun g58 => ?_)))
       refine tS (fun _ hs => hs.pk [2, 3, 4, 5, 6, 7, 8] Y Y) (D_pkO [1, 0, 2, 3, 4, 5, 6, 7, 8] Y (D_unpair (α := ByteArray) (β := (List ByteArray)) (c1 := [(.string v0.Fact.Rel)]) (c2 := [v56]) (x := v0.Fact.Rel) (y := (v0.Fact.Args)) Y Y (D_fd [] 1 Y (pk_Event (r := (v0 : Event)) (D_pkO [2, 0, 1, 3, 4, 5, 6, 7, 8] Y (ty 23 Y (by kernel_rfl) Y (D_ap s_64 y_171 Y (by decide) Y Y Y Y Y Y (by first | omega | (simp; omega)) (by first | omega | (simp; omega)) fun v59 => ?_)))))))
       refine tZ Y (ty 24 Y (by kernel_rfl) Y (sv Y Y (Db f_66_5 Y Y (q := 5) Y) ?_))
       refine tZ Y (Dp (fun w' hs => one_own (k := 0) hs Y) ?_)
       intro ho60
       refine ty 25 Y (by kernel_rfl) Y (D_stb (vs := [v59]) (cs' := [v15, v, (iv e.Clock), v2, (.bool e.Halted), v59]) 3 z_64 Y Y Y Y Y (cells_of_one ho60) (ocons ho60 onil) (by simp) Y ?_)
       refine tZ Y (tE (by kernel_rfl) (Xb (Xt (D_wk [1, 2, 3, 6] Y (Dh ([ov [v59] ((e.Log.take p) ++ [(v0 : Event)] : (List Event)), _, _, bx g17 [v15, v, (iv e.Clock), v2, (.bool e.Halted), v59], _, _, _]) Y (Cr (p1 Y (q1 Y (D_add Y Y Y (r := ((p + 1 : Nat) : Int)) (by omega) (by omega)) (Pe Y (D_eq 0 Y (show ((e.Log.take p) ++ [(v0 : Event)] : (List Event)) = e.Log.take (p + 1) from by exact (take_snoc v0h).symm) (fun ac w' hf hs => ⟨_, ?_, p + 1, v59, ?_, Y, hf.wk Y, hs⟩)))))))))))
       ·omega
       ·first | assumption | omega | simp
      ·have pr47 := odF h47
       refine Cx (Xx (Xx (Xe (Xt (Sr (q1 Y (lbw 3 a_66 Y Y Y) (Dp (fun w' hs => one_own (k := 0) hs Y) ?_)))))))
       intro ho61
       refine Dp (fun w' hs => one_own (k := 1) hs Y) ?_
       intro ho62
       refine Dp (fun w' hs => one_own (k := 2) hs Y) ?_
       intro ho63
       refine Dp (fun w' hs => one_own (k := 4) hs Y) ?_
       intro ho64
       refine li Y (D_stb (vs := [v15, v, (iv e.Clock), v2, (.bool e.Halted), v3]) (cs' := [v15, v, (iv e.Clock), v2, (.bool e.Halted), v3]) 5 z_66 Y Y Y Y Y Y (ocons ho64 (ocons ho63 (ocons Y (ocons ho62 (ocons Y (ocons ho61 onil)))))) (by simp) Y ?_)
       refine Dx (Ct (D_pkO [4, 2, 1, 0, 3, 5, 6] Y (pk_Engine (r := (⟨e.Rules, e.Memory.take k, e.Clock, e.Fired.take j, e.Halted, e.Log.take p⟩ : Engine)) (R_c 2 a_66 Y Y Y fun w' hs => res_of (k := 0) hs Y ?_))))
       show (⟨e.Rules, e.Memory.take k, e.Clock, e.Fired.take j, e.Halted, e.Log.take p⟩ : Engine) = e
       show (⟨e.Rules, e.Memory.take k, e.Clock, e.Fired.take j, e.Halted, e.Log.take p⟩ : Engine) = e; rw [List.take_of_length_le (by omega), List.take_of_length_le (by omega), List.take_of_length_le (by omega)]
theorem impl_write (w0 : World) (Hs : List Chunk) (w : World) (g_e : Nat) (e : Engine) (kind : Int) (rule : ByteArray) (c_f : List Value) (f : Fact) (h_f : ∀ w', St w0 Hs w' → Gd.rd w' c_f f) (hfz : szFa f ≤ 1048576) (hll : e.Log.length ≤ 4294967296) (hst : St w0 (pb g_e (e : Engine) :: Hs) w) : Calls Tryz.prog 139 [(pv g_e), (iv kind), (.string rule), (.agg c_f.toArray)].toArray w (fun r_ w' => r_ = .returned (.tuple #[]) ∧ St w0 (pb g_e (wrE e kind rule f : Engine) :: Hs) w') := by
 obtain ⟨u1, rfl, hu2⟩ := open_Fact (h_f w hst.tail)
 refine enterS 22 Tryz.func139 Y Y Y hst (D_pbo fun cs3 => ?_)
 refine Dp (fun w' hs => shape_Engine (rO (k := 1) hs Y)) ?_
 rintro ⟨v4, v5, v6, v7, rfl, ho8, ho9, ho10, ho11⟩
 refine Sr (li Y (D_box Y Y Y Y Y fun g12 => ?_))
 refine Dx (Dh (bx g12 [(.string f.Rel), u1] :: bx g_e [v4, v5, (iv e.Clock), v6, (.bool e.Halted), v7] :: ov [v4, v5, (iv e.Clock), v6, (.bool e.Halted), v7] (e : Engine) :: Hs) Y (C_drawW (bx g12 [(.string f.Rel), u1] :: bx g_e [v4, v5, (iv e.Clock), v6, (.bool e.Halted), v7] :: Hs) mixed [14] (by kernel_rfl) (Tj 0 Y (by kernel_rfl) Y (fun _ hs => hs.fd [1, 1, 2] 1 Y) (rp Y) (Tj 1 Y (by kernel_rfl) Y (fun _ hs => hs.fd [1, 1, 2] 1 Y) (rp Y) (Tj 2 Y (by kernel_rfl) Y (fun _ hs => hs.fd [1, 1, 2] 1 Y) (D_nilc Y Y) (Tj 3 Y (by kernel_rfl) Y (fun _ hs => hs.fd [1, 1, 2] 1 Y) (Db f_66_5 Y Y (q := 5) Y) (Tj 4 Y (by kernel_rfl) Y (fun _ hs => hs.fd [1, 1, 2] 1 Y) (lb 1 o_64 Y Y Y Y) (Tj 5 Y (by kernel_rfl) Y (fun _ hs => hs.fd [1, 1, 2] 1 Y) (rp Y) (Tj 6 Y (by kernel_rfl) Y (fun _ hs => hs.fd [1, 1, 2] 1 Y) (rp Y) (Tj 7 Y (by kernel_rfl) Y (fun _ hs => hs.fd [1, 1, 2] 1 Y) (lbw 0 a_70 Y Y Y) (ty 8 Y (by kernel_rfl) Y (crs Y b_132 Y Y Y Y (fun w' hs => (impl_copyFact (h_f w' (hs.fd [] 3 Y)) (by first | assumption | omega | (unfold szm at *; split at * <;> omega)))) fun cs13 => ?_))))))))))))
 refine Dp (fun w' hs => shape_Fact (rO (k := 0) hs Y)) ?_
 rintro ⟨v14, rfl, ho15⟩
 refine tS (fun _ hs => hs.fd [2, 2, 3, 3] 2 Y) (Tj 9 Y (by kernel_rfl) Y (fun _ hs => hs.fd [2, 2, 3, 3] 2 Y) (D_built (vs := [(0, (iv kind)), (1, (.string rule)), (2, (.agg #[(.string f.Rel), v14]))]) (xs := [(0, [(iv kind)]), (1, [(.string rule)]), (2, [(.string f.Rel), v14])]) (cs := [(iv kind), (.string rule), (.string f.Rel), v14]) pl_171 Y ⟨Y, Y, ⟨Y, Y, ⟨Y, Y, trivial⟩⟩⟩ Y Y) (ty 10 Y (by kernel_rfl) Y (D_bs s_64 y_171 Y (by decide) (by decide) Y Y Y Y Y Y fun g16 => ?_)))
 refine tS (fun _ hs => hs.fd [3, 3, 4, 4, 4] 3 Y) (D_fd [4] 0 Y (D_unpair (α := (List Rule)) (β := (List Stamp) × Int × (List Firing) × Bool × (List Event)) (c1 := [v4]) (c2 := [v5, (iv e.Clock), v6, (.bool e.Halted), v7]) (x := e.Rules) (y := (e.Memory, e.Clock, e.Fired, e.Halted, e.Log)) Y Y (D_fd [1] 0 Y (D_unpair (α := (List Stamp)) (β := Int × (List Firing) × Bool × (List Event)) (c1 := [v5]) (c2 := [(iv e.Clock), v6, (.bool e.Halted), v7]) (x := e.Memory) (y := (e.Clock, e.Fired, e.Halted, e.Log)) Y Y (D_fd [1] 0 Y (D_unpair (α := Int) (β := (List Firing) × Bool × (List Event)) (c1 := [(iv e.Clock)]) (c2 := [v6, (.bool e.Halted), v7]) (x := e.Clock) (y := (e.Fired, e.Halted, e.Log)) Y Y (D_fd [] 1 Y (D_unpair (α := (List Firing)) (β := Bool × (List Event)) (c1 := [v6]) (c2 := [(.bool e.Halted), v7]) (x := e.Fired) (y := (e.Halted, e.Log)) Y Y (D_fd [1] 0 Y (D_unpair (α := Bool) (β := (List Event)) (c1 := [(.bool e.Halted)]) (c2 := [v7]) (x := e.Halted) (y := (e.Log)) Y Y (D_fd [] 1 Y (D_fd [5] 0 Y (D_unpair (α := ByteArray) (β := (List ByteArray)) (c1 := [(.string f.Rel)]) (c2 := [v14]) (x := f.Rel) (y := (f.Args)) Y Y (D_fd [] 1 Y (pk_Event (r := (⟨kind, rule, f⟩ : Event)) (D_fd [5, 1, 2] 0 Y (ty 11 Y (by kernel_rfl) Y (D_ap s_64 y_171 Y (by decide) Y Y Y Y Y Y (by first | omega | (simp; omega)) (by first | omega | (simp; omega)) fun v17 => ?_))))))))))))))))))
 refine tS (fun _ hs => hs.fd [] 4 Y) (Tj 12 Y (by kernel_rfl) Y (fun _ hs => hs.fd [] 4 Y) (D_nilc Y Y) (Tj 13 Y (by kernel_rfl) Y (fun _ hs => hs.fd [] 4 Y) (Db f_66_5 Y Y (q := 5) Y) (Dp (fun w' hs => one_own (k := 0) hs Y) ?_)))
 intro ho18
 refine ty 14 Y (by kernel_rfl) Y (D_stb (vs := [v17]) (cs' := [v4, v5, (iv e.Clock), v6, (.bool e.Halted), v17]) 5 z_64 Y Y Y Y Y (cells_of_one ho18) (ocons ho18 onil) (by simp) Y ?_)
 refine tZ Y (tE (by kernel_rfl) (D_fd [0, 1, 2, 3] 0 Y (pk_Engine (r := (⟨e.Rules, e.Memory, e.Clock, e.Fired, e.Halted, e.Log ++ [(⟨kind, rule, f⟩ : Event)]⟩ : Engine)) (D_eq 0 Y (show ((⟨e.Rules, e.Memory, e.Clock, e.Fired, e.Halted, e.Log ++ [(⟨kind, rule, f⟩ : Event)]⟩ : Engine) : Engine) = wrE e kind rule f from by rfl) (D_fd [0, 2] 0 Y (D_pbc ?_))))))
 exact Rn rfl fun w' hs => ⟨rfl, hs.fd [0, 1] 1 rfl⟩
set_option maxHeartbeats 4000000 in
theorem impl_add (w0 : World) (Hs : List Chunk) (w : World) (g_e : Nat) (e : Engine) (c_f : List Value) (f : Fact) (kind : Int) (rule : ByteArray) (h_f : ∀ w', St w0 Hs w' → Gd.rd w' c_f f) (hfz : szFa f ≤ 1048576) (hll : e.Log.length ≤ 4294967296) (hml : e.Memory.length ≤ 4294967296) (hcl0 : -1000 ≤ e.Clock ∧ e.Clock ≤ 1000) (htb : Tb w0) (hst : St w0 (pb g_e (e : Engine) :: Hs) w) : Calls Tryz.prog 94 [(pv g_e), (.agg c_f.toArray), (iv kind), (.string rule)].toArray w (fun r_ w' => r_ = .returned (.tuple #[]) ∧ St w0 (pb g_e (addE e f kind rule : Engine) :: Hs) w') := by
 obtain ⟨u1, rfl, hu2⟩ := open_Fact (h_f w hst.tail)
 refine enterS 73 Tryz.func94 Y Y Y hst (D_pbo fun cs3 => ?_)
 refine Dp (fun w' hs => shape_Engine (rO (k := 1) hs Y)) ?_
 rintro ⟨v4, v5, v6, v7, rfl, ho8, ho9, ho10, ho11⟩
 refine Sr (li Y (D_box Y Y Y Y Y fun g12 => ?_))
 refine Dx (Dh (bx g12 [(.string f.Rel), u1] :: bx g_e [v4, v5, (iv e.Clock), v6, (.bool e.Halted), v7] :: ov [v4, v5, (iv e.Clock), v6, (.bool e.Halted), v7] (e : Engine) :: Hs) Y (Sr (p1 Y (q1 Y (D_nilc Y Y) (q1 Y (Db f_66_2 Y Y (q := 2) Y) (q1 Y (lb 1 o_3 Y Y Y Y) (q1 Y (D_add Y Y Y Y (by omega)) (q1 Y (D_nilc Y Y) (q1 Y (Db f_66_2 Y Y (q := 2) Y) (li Y (D_stb (vs := [(iv (e.Clock + 1))]) (cs' := [v4, v5, (iv (e.Clock + 1)), v6, (.bool e.Halted), v7]) 1 z_3 Y Y Y Y Y Y (ocons Y onil) (by simp) Y ?_)))))))))))
 refine Dx (Dh (_ :: bx g_e [v4, v5, (iv (e.Clock + 1)), v6, (.bool e.Halted), v7] :: _ :: Hs) Y (Sr (Pe Y (Sr (Pe Y (Cq (Sr (p1 Y (q1 Y (D_nilc Y Y) (q1 Y (Db f_66_1 Y Y (q := 1) Y) (q1 Y (lb 1 o_42 Y Y Y Y) (q1 Y (D_lenr s_42 Y Y (fun w' hs => (by obtain ⟨z0_, z1_, z3_, z5_, e_, hz0_, hz1_, hz3_, hz5_⟩ := open_Engine (rO (k := 2) hs rfl); cases e_; exact hz1_))) (Pe rfl ?_)))))))))))))
 refine Cb (D_fd [2] 0 Y (D_unpair (α := (List Rule)) (β := (List Stamp) × Int × (List Firing) × Bool × (List Event)) (c1 := [v4]) (c2 := [v5, (iv e.Clock), v6, (.bool e.Halted), v7]) (x := e.Rules) (y := (e.Memory, e.Clock, e.Fired, e.Halted, e.Log)) Y Y (D_fd [1] 0 Y (D_unpair (α := (List Stamp)) (β := Int × (List Firing) × Bool × (List Event)) (c1 := [v5]) (c2 := [(iv e.Clock), v6, (.bool e.Halted), v7]) (x := e.Memory) (y := (e.Clock, e.Fired, e.Halted, e.Log)) Y Y (D_fd [1] 0 Y (D_unpair (α := Int) (β := (List Firing) × Bool × (List Event)) (c1 := [(iv e.Clock)]) (c2 := [v6, (.bool e.Halted), v7]) (x := e.Clock) (y := (e.Fired, e.Halted, e.Log)) Y Y (D_fd [] 1 Y (D_unpair (α := (List Firing)) (β := Bool × (List Event)) (c1 := [v6]) (c2 := [(.bool e.Halted), v7]) (x := e.Fired) (y := (e.Halted, e.Log)) Y Y (D_fd [1] 0 Y (D_unpair (α := Bool) (β := (List Event)) (c1 := [(.bool e.Halted)]) (c2 := [v7]) (x := e.Halted) (y := (e.Log)) Y Y (D_fd [] 1 Y (D_fd [2] 0 Y (D_mo (Cl (fun m_ ac w' => ∃ (k : Nat), ∃ (dn : Bool), ∃ (v : Value), (k ≤ e.Memory.length) ∧ (dn = (addK f (⟨f, e.Clock + 1⟩ : Stamp) e.Memory k).2) ∧ m_ = e.Memory.length - k ∧ Fits ac 73 [(0, (pv g_e)), (2, (iv kind)), (3, (.string rule)), (5, (pv g12)), (8, v), (9, (.bool dn)), (22, v5), (23, (nv e.Memory.length)), (24, (nv k))] ∧ St w0 (ov [v] ((addK f (⟨f, e.Clock + 1⟩ : Stamp) e.Memory k).1 : (List Stamp)) :: ov [v5] (mvT e.Memory k : (List (Mo Stamp))) :: ov [v7] (e.Log : (List Event)) :: ov [v6] (e.Fired : (List Firing)) :: ov [v4] (e.Rules : (List Rule)) :: bx g12 [(.string f.Rel), u1] :: bx g_e [v4, v5, (iv (e.Clock + 1)), v6, (.bool e.Halted), v7] :: Hs) w') ?_ ?_))))))))))))))
 ·refine D_nil (α := Stamp) (D_eq 0 Y (show ([] : (List Stamp)) = (addK f (⟨f, e.Clock + 1⟩ : Stamp) e.Memory 0).1 from by exact addK_z _ _ _) (fun ac w' hf hs => ⟨_, 0, false, (.slice none 0 0), ?_, ?_, Y, hf.wk Y, hs⟩))
  ·first | assumption | omega | simp
  ·rfl
 ·rintro m_ ac w' ⟨k, dn, v, hk, hd, rfl, hf, hs⟩
  refine D.use ?_ hf hs
  clear hf hs ac w'
  have hcl := addK_len f (⟨f, e.Clock + 1⟩ : Stamp) e.Memory k
  refine Sr (Pe Y (Dh (_ :: _ :: _ :: _ :: _ :: _ :: _ :: Hs) Y (Cq (Ci _ Y (fun h13 => ?_) (fun h13 => ?_)))))
  ·have pr13 := odT h13
   refine Sk (Cq (Cb (Sr (D_fd [1] 0 Y ?_))))
   obtain ⟨s0, s0h⟩ := sL (l := e.Memory) (i := k) (by omega)
   refine D_mt s0h fun es14 => ?_
   refine Dp (fun w' hs => shape_Stamp (rO (k := 0) hs Y)) ?_
   rintro ⟨v15, rfl, ho16⟩
   refine q1 Y (D_ixh 1 s_42 Y Y Y Y Y) (q1 Y (lha (n := 3) 1 Y a_100 Y Y Y) (li Y (D_alloc y_100 Y Y Y Y fun g17 => ?_)))
   refine li Y (D_stb (vs := [(.string s0.Fact.Rel), v15, (iv s0.Time)]) (cs' := [(.string s0.Fact.Rel), v15, (iv s0.Time)]) 0 z_100 Y Y Y Y Y Y (ocons Y (ocons ho16 (ocons Y onil))) (by simp) Y ?_)
   refine Dx (Cq (Sr (P3 Y Y Y (gs 30 Y Y (fun h18 => ?_) (fun h18 => ?_)))))
   ·have h18n := not_t h18
    refine q1 Y (Db f_100_0 Y Y (q := 0) Y) (q1 Y (lba (es := [(.string s0.Fact.Rel), v15]) 0 a_70 Y Y Y Y) (q1 Y (lbw 7 a_70 Y Y Y) (li Y (cv b_149 Y Y Y Y (fun w' hs => (impl_CompareFacts (sub_Stamp_Fact (rO (k := 1) hs Y)) (h_f w' (hs.fd [] 9 Y)) (Tb.ext htb hs.bel))) ?_))))
    refine P2 Y Y (Dx (Ci _ Y (fun h19 => ?_) (fun h19 => ?_)))
    ·have pr19 := odT h19
     refine Cq (C_draw mixed [9, 10] (by kernel_rfl) (Tk 0 Y (by kernel_rfl) Y (rp Y) (Tk 1 Y (by kernel_rfl) Y (lbw 7 a_70 Y Y Y) (Tk 3 Y (by kernel_rfl) Y (rp Y) (Tk 4 Y (by kernel_rfl) Y (D_nilc Y Y) (Tk 5 Y (by kernel_rfl) Y (Db f_66_2 Y Y (q := 2) Y) (Tk 6 Y (by kernel_rfl) Y (lb 8 o_3 Y Y Y Y) (ty 2 Y (by kernel_rfl) Y (crs Y b_132 Y Y Y Y (fun w' hs => (impl_copyFact (h_f w' (hs.fd [] 9 Y)) (by first | assumption | omega | (unfold szm at *; split at * <;> omega)))) fun cs20 => ?_)))))))))
     refine Dp (fun w' hs => shape_Fact (rO (k := 0) hs Y)) ?_
     rintro ⟨v21, rfl, ho22⟩
     refine tS (fun _ hs => hs.fd [] 1 Y) (Tj 7 Y (by kernel_rfl) Y (fun _ hs => hs.fd [] 1 Y) (D_built (vs := [(0, (.agg #[(.string f.Rel), v21])), (1, (iv (e.Clock + 1)))]) (xs := [(0, [(.string f.Rel), v21]), (1, [(iv (e.Clock + 1))])]) (cs := [(.string f.Rel), v21, (iv (e.Clock + 1))]) pl_100 Y ⟨Y, Y, ⟨Y, Y, trivial⟩⟩ Y Y) (ty 8 Y (by kernel_rfl) Y (D_bs s_42 y_100 Y (by decide) (by decide) Y Y Y Y Y Y fun g23 => ?_)))
     refine tS (fun _ hs => hs.fd [] 2 Y) (D_fd [1] 0 Y (D_unpair (α := ByteArray) (β := (List ByteArray)) (c1 := [(.string f.Rel)]) (c2 := [v21]) (x := f.Rel) (y := (f.Args)) Y Y (D_fd [] 1 Y (pk_Stamp (r := (⟨f, (e.Clock + 1)⟩ : Stamp)) (D_fd [1, 1, 5] 0 Y (ty 9 Y (by kernel_rfl) Y (D_ap s_42 y_100 Y (by decide) Y Y Y Y Y Y (by first | omega | (simp; omega)) (by first | omega | (simp; omega)) fun v24 => ?_)))))))
     refine tZ Y (ty 10 Y (by kernel_rfl) Y (sv Y Y (rp Y) ?_))
     refine tZ Y (tE (by kernel_rfl) (Xt (Cr (Pe Y (D_wk [0, 2, 3, 5, 8, 9, 11, 22, 23, 24] Y (Cr (p1 Y (q1 Y (lbw 1 a_100 Y Y Y) (li Y (D_bs s_42 y_100 Y (by decide) (by decide) Y Y Y Y Y Y fun g25 => ?_))))))))))
     refine D_fd [0, 3, 2] 0 Y (li Y (D_ap s_42 y_100 Y (by decide) Y Y Y Y Y Y (by first | omega | (simp; omega)) (by first | omega | (simp; omega)) fun v26 => ?_))
     refine p1 Y (De (Xb (Xt (Cr (q1 Y (D_add Y Y Y (r := ((k + 1 : Nat) : Int)) (by omega) (by omega)) (Pe Y (D_fd [2] 0 Y (D_mn (lS s0h) (ocons Y (ocons ho16 (ocons Y onil))) Y (D_eq 1 Y (show ((((addK f (⟨f, e.Clock + 1⟩ : Stamp) e.Memory k).1) ++ [(⟨f, (e.Clock + 1)⟩ : Stamp)]) ++ [s0] : (List Stamp)) = (addK f (⟨f, e.Clock + 1⟩ : Stamp) e.Memory (k + 1)).1 from by first | exact addK_put s0h (hd.symm.trans (by assumption)) (by omega) | exact addK_k1 s0h (by omega) | exact addK_k2 s0h (hd.symm.trans (by assumption))) (fun ac w' hf hs => ⟨_, ?_, k + 1, true, v26, ?_, ?_, Y, hf.wk Y, hs.fd [7, 7, 7, 7, 7, 5, 6, 7] 1 Y⟩))))))))))
     ·omega
     ·first | assumption | omega | simp
     ·first | exact addK_d1 s0h (by omega) | exact addK_dk1 s0h hd (by assumption) | exact addK_dk2 s0h hd (by assumption) (by omega)
    ·have pr19 := odF h19
     refine Sk (Cr (p1 Y (q1 Y (lbw 0 a_100 Y Y Y) (li Y (D_bs s_42 y_100 Y (by decide) (by decide) Y Y Y Y Y Y fun g27 => ?_)))))
     refine D_fd [0, 2, 4] 0 Y (li Y (D_ap s_42 y_100 Y (by decide) Y Y Y Y Y Y (by first | omega | (simp; omega)) (by first | omega | (simp; omega)) fun v28 => ?_))
     refine p1 Y (De (Xb (Xt (D_wk [0, 2, 3, 5, 8, 9, 22, 23, 24] Y (Cr (q1 Y (D_add Y Y Y (r := ((k + 1 : Nat) : Int)) (by omega) (by omega)) (Pe Y (D_fd [2] 0 Y (D_mn (lS s0h) (ocons Y (ocons ho16 (ocons Y onil))) Y (D_eq 1 Y (show (((addK f (⟨f, e.Clock + 1⟩ : Stamp) e.Memory k).1) ++ [s0] : (List Stamp)) = (addK f (⟨f, e.Clock + 1⟩ : Stamp) e.Memory (k + 1)).1 from by first | exact addK_put s0h (hd.symm.trans (by assumption)) (by omega) | exact addK_k1 s0h (by omega) | exact addK_k2 s0h (hd.symm.trans (by assumption))) (fun ac w' hf hs => ⟨_, ?_, k + 1, dn, v28, ?_, ?_, Y, hf.wk Y, hs.fd [7, 7, 7, 7, 7, 5, 6, 7] 1 Y⟩)))))))))))
     ·omega
     ·first | assumption | omega | simp
     ·first | exact addK_d1 s0h (by omega) | exact addK_dk1 s0h hd (by assumption) | exact addK_dk2 s0h hd (by assumption) (by omega)
   ·have h18n := not_f h18
    refine n1 Y (n1 Y (n1 Y (n1 Y (n1 Y (Pe Y (C_f Y (Sk (Cr (p1 Y (q1 Y (lbw 0 a_100 Y Y Y) (li Y (D_bs s_42 y_100 Y (by decide) (by decide) Y Y Y Y Y Y fun g29 => ?_))))))))))))
    refine D_fd [0, 2, 4] 0 Y (li Y (D_ap s_42 y_100 Y (by decide) Y Y Y Y Y Y (by first | omega | (simp; omega)) (by first | omega | (simp; omega)) fun v30 => ?_))
    refine p1 Y (De (Xb (Xt (D_wk [0, 2, 3, 5, 8, 9, 22, 23, 24] Y (Cr (q1 Y (D_add Y Y Y (r := ((k + 1 : Nat) : Int)) (by omega) (by omega)) (Pe Y (D_fd [2] 0 Y (D_mn (lS s0h) (ocons Y (ocons ho16 (ocons Y onil))) Y (D_eq 1 Y (show (((addK f (⟨f, e.Clock + 1⟩ : Stamp) e.Memory k).1) ++ [s0] : (List Stamp)) = (addK f (⟨f, e.Clock + 1⟩ : Stamp) e.Memory (k + 1)).1 from by first | exact addK_put s0h (hd.symm.trans (by assumption)) (by omega) | exact addK_k1 s0h (by omega) | exact addK_k2 s0h (hd.symm.trans (by assumption))) (fun ac w' hf hs => ⟨_, ?_, k + 1, dn, v30, ?_, ?_, Y, hf.wk Y, hs.fd [7, 7, 7, 7, 7, 5, 6, 7] 1 Y⟩)))))))))))
    ·omega
    ·first | assumption | omega | simp
    ·first | exact addK_d1 s0h (by omega) | exact addK_dk1 s0h hd (by assumption) | exact addK_dk2 s0h hd (by assumption) (by omega)
  ·have pr13 := odF h13
   refine Cx (Xx (Xx (Xe (Xt (Cq (Sr (P2 Y Y (Dx (Ci _ Y (fun h31 => ?_) (fun h31 => ?_))))))))))
   ·have h31n := not_t h31
    refine C_draw mixed [9, 10] (by kernel_rfl) (Tk 0 Y (by kernel_rfl) Y (rp Y) (Tk 1 Y (by kernel_rfl) Y (lbw 5 a_70 Y Y Y) (Tk 3 Y (by kernel_rfl) Y (rp Y) (Tk 4 Y (by kernel_rfl) Y (D_nilc Y Y) (Tk 5 Y (by kernel_rfl) Y (Db f_66_2 Y Y (q := 2) Y) (Tk 6 Y (by kernel_rfl) Y (lb 6 o_3 Y Y Y Y) (ty 2 Y (by kernel_rfl) Y (crs Y b_132 Y Y Y Y (fun w' hs => (impl_copyFact (h_f w' (hs.fd [] 7 Y)) (by first | assumption | omega | (unfold szm at *; split at * <;> omega)))) fun cs32 => ?_))))))))
    refine Dp (fun w' hs => shape_Fact (rO (k := 0) hs Y)) ?_
    rintro ⟨v33, rfl, ho34⟩
    refine tS (fun _ hs => hs.fd [] 1 Y) (Tj 7 Y (by kernel_rfl) Y (fun _ hs => hs.fd [] 1 Y) (D_built (vs := [(0, (.agg #[(.string f.Rel), v33])), (1, (iv (e.Clock + 1)))]) (xs := [(0, [(.string f.Rel), v33]), (1, [(iv (e.Clock + 1))])]) (cs := [(.string f.Rel), v33, (iv (e.Clock + 1))]) pl_100 Y ⟨Y, Y, ⟨Y, Y, trivial⟩⟩ Y Y) (ty 8 Y (by kernel_rfl) Y (D_bs s_42 y_100 Y (by decide) (by decide) Y Y Y Y Y Y fun g35 => ?_)))
    refine tS (fun _ hs => hs.fd [] 2 Y) (D_fd [1] 0 Y (D_unpair (α := ByteArray) (β := (List ByteArray)) (c1 := [(.string f.Rel)]) (c2 := [v33]) (x := f.Rel) (y := (f.Args)) Y Y (D_fd [] 1 Y (pk_Stamp (r := (⟨f, (e.Clock + 1)⟩ : Stamp)) (D_fd [1, 1, 2] 0 Y (ty 9 Y (by kernel_rfl) Y (D_ap s_42 y_100 Y (by decide) Y Y Y Y Y Y (by first | omega | (simp; omega)) (by first | omega | (simp; omega)) fun v36 => ?_)))))))
    refine tZ Y (ty 10 Y (by kernel_rfl) Y (sv Y Y (rp Y) ?_))
    refine tZ Y (tE (by kernel_rfl) (Xt (D_wk [0, 2, 3, 5, 8] Y (Dh (ov [v36] (((addK f (⟨f, e.Clock + 1⟩ : Stamp) e.Memory k).1) ++ [(⟨f, (e.Clock + 1)⟩ : Stamp)] : (List Stamp)) :: _ :: _ :: _ :: _ :: _ :: _ :: Hs) Y (Sr (P2 Y Y (q1 Y (D_nilc Y Y) (q1 Y (Db f_66_1 Y Y (q := 1) Y) (Dp (fun w' hs => one_own (k := 0) hs Y) ?_)))))))))
    intro ho37
    refine li Y (D_stb (vs := [v36]) (cs' := [v4, v36, (iv (e.Clock + 1)), v6, (.bool e.Halted), v7]) 6 z_42 Y Y Y Y Y (cells_of_one ho37) (ocons ho37 onil) (by simp) Y ?_)
    refine Dx (Dh (_ :: _ :: _ :: _ :: _ :: _ :: bx g_e [v4, v36, (iv (e.Clock + 1)), v6, (.bool e.Halted), v7] :: Hs) Y (Cr (P3 Y Y Y (q1 Y (lbw 5 a_70 Y Y Y) (D_fd [2, 3, 2, 4] 0 Y (pk_Engine (r := (⟨e.Rules, ((addK f (⟨f, e.Clock + 1⟩ : Stamp) e.Memory k).1) ++ [(⟨f, (e.Clock + 1)⟩ : Stamp)], (e.Clock + 1), e.Fired, e.Halted, e.Log⟩ : Engine)) (D_fd [0, 3] 0 Y (D_pbc (li Y (cm b_139 Y Y Y Y (fun w' hs => impl_write _ _ w' g_e (⟨e.Rules, ((addK f (⟨f, e.Clock + 1⟩ : Stamp) e.Memory k).1) ++ [(⟨f, (e.Clock + 1)⟩ : Stamp)], (e.Clock + 1), e.Fired, e.Halted, e.Log⟩ : Engine) kind rule [(.string f.Rel), u1] f (fun w' hs => (h_f w' (hs.fd [] 2 Y))) (by first | assumption | omega) (by first | assumption | omega) hs) ?_))))))))))
    refine D_pbo fun cs38 => ?_
    refine Dp (fun w' hs => shape_Engine (rO (k := 1) hs Y)) ?_
    rintro ⟨v39, v40, v41, v42, rfl, ho43, ho44, ho45, ho46⟩
    refine De (D_eq 1 Y (show (wrE (⟨e.Rules, ((addK f (⟨f, e.Clock + 1⟩ : Stamp) e.Memory k).1) ++ [(⟨f, (e.Clock + 1)⟩ : Stamp)], (e.Clock + 1), e.Fired, e.Halted, e.Log⟩ : Engine) kind rule f : Engine) = addE e f kind rule from by first | (show _ = addE e f kind rule; unfold addE; (try unfold wrE); (try simp only []); rw [← addL_t hk (by omega) (hd.symm.trans (by assumption))]; done) | (show _ = addE e f kind rule; unfold addE; (try unfold wrE); (try simp only []); rw [← addL_f hk (by omega) (hd.symm.trans (by assumption))]; done)) (D_pbc ?_))
    exact Rn rfl fun w' hs => ⟨rfl, hs.fd [0, 2, 2] 2 rfl⟩
   ·have h31n := not_f h31
    refine Sk (Sr (P2 Y Y (q1 Y (D_nilc Y Y) (q1 Y (Db f_66_1 Y Y (q := 1) Y) (Dp (fun w' hs => one_own (k := 0) hs Y) ?_)))))
    intro ho47
    refine li Y (D_stb (vs := [v]) (cs' := [v4, v, (iv (e.Clock + 1)), v6, (.bool e.Halted), v7]) 6 z_42 Y Y Y Y Y (cells_of_one ho47) (ocons ho47 onil) (by simp) Y ?_)
    refine Dx (Dh (_ :: _ :: _ :: _ :: _ :: _ :: bx g_e [v4, v, (iv (e.Clock + 1)), v6, (.bool e.Halted), v7] :: Hs) Y (Cr (P3 Y Y Y (q1 Y (lbw 5 a_70 Y Y Y) (D_fd [2, 3, 2, 4] 0 Y (pk_Engine (r := (⟨e.Rules, (addK f (⟨f, e.Clock + 1⟩ : Stamp) e.Memory k).1, (e.Clock + 1), e.Fired, e.Halted, e.Log⟩ : Engine)) (D_fd [0, 3] 0 Y (D_pbc (li Y (cm b_139 Y Y Y Y (fun w' hs => impl_write _ _ w' g_e (⟨e.Rules, (addK f (⟨f, e.Clock + 1⟩ : Stamp) e.Memory k).1, (e.Clock + 1), e.Fired, e.Halted, e.Log⟩ : Engine) kind rule [(.string f.Rel), u1] f (fun w' hs => (h_f w' (hs.fd [] 2 Y))) (by first | assumption | omega) (by first | assumption | omega) hs) ?_))))))))))
    refine D_pbo fun cs48 => ?_
    refine Dp (fun w' hs => shape_Engine (rO (k := 1) hs Y)) ?_
    rintro ⟨v49, v50, v51, v52, rfl, ho53, ho54, ho55, ho56⟩
    refine De (D_eq 1 Y (show (wrE (⟨e.Rules, (addK f (⟨f, e.Clock + 1⟩ : Stamp) e.Memory k).1, (e.Clock + 1), e.Fired, e.Halted, e.Log⟩ : Engine) kind rule f : Engine) = addE e f kind rule from by first | (show _ = addE e f kind rule; unfold addE; (try unfold wrE); (try simp only []); rw [← addL_t hk (by omega) (hd.symm.trans (by assumption))]; done) | (show _ = addE e f kind rule; unfold addE; (try unfold wrE); (try simp only []); rw [← addL_f hk (by omega) (hd.symm.trans (by assumption))]; done)) (D_pbc ?_))
    exact Rn rfl fun w' hs => ⟨rfl, hs.fd [0, 2, 2] 2 rfl⟩
set_option maxHeartbeats 4000000 in
theorem spec_l10Add (w0 : World) (Hs : List Chunk) (w : World) (g_e : Nat) (e : Engine) (c_f : List Value) (f : Fact) (kind : Int) (rule : ByteArray) (h_f : ∀ w', St w0 Hs w' → Gd.rd w' c_f f) (hfz : szFa f ≤ 1048576) (hll : e.Log.length ≤ 4294967296) (hml : e.Memory.length ≤ 4294967296) (hcl0 : -1000 ≤ e.Clock ∧ e.Clock ≤ 1000) (hst : St w0 (pb g_e (e : Engine) :: Hs) w) : Calls Tryz.prog 92 [(pv g_e), (.agg c_f.toArray), (iv kind), (.string rule)].toArray w (fun r_ w' => r_ = .returned (.tuple #[]) ∧ St w0 (pb g_e (addE e f kind rule : Engine) :: Hs) w') := by
 obtain ⟨u1, rfl, hu2⟩ := open_Fact (h_f w hst.tail)
 refine enterS 94 Tryz.func92 Y Y Y hst (D_pbo fun cs3 => ?_)
 refine Dp (fun w' hs => shape_Engine (rO (k := 1) hs Y)) ?_
 rintro ⟨v4, v5, v6, v7, rfl, ho8, ho9, ho10, ho11⟩
 refine Sr (li Y (D_box Y Y Y Y Y fun g12 => ?_))
 refine Dx (Dh (bx g12 [(.string f.Rel), u1] :: bx g_e [v4, v5, (iv e.Clock), v6, (.bool e.Halted), v7] :: ov [v4, v5, (iv e.Clock), v6, (.bool e.Halted), v7] (e : Engine) :: Hs) Y (Sr (P2 Y Y (q1 Y (D_nilc Y Y) (q1 Y (Db f_66_2 Y Y (q := 2) Y) (q1 Y (lb 1 o_3 Y Y Y Y) (q1 Y (D_add Y Y Y Y (by omega)) (q1 Y (D_nilc Y Y) (q1 Y (Db f_66_2 Y Y (q := 2) Y) (li Y (D_stb (vs := [(iv (e.Clock + 1))]) (cs' := [v4, v5, (iv (e.Clock + 1)), v6, (.bool e.Halted), v7]) 1 z_3 Y Y Y Y Y Y (ocons Y onil) (by simp) Y ?_)))))))))))
 refine Dx (Dh (_ :: bx g_e [v4, v5, (iv (e.Clock + 1)), v6, (.bool e.Halted), v7] :: _ :: Hs) Y (Sr (li Y (D_bs0 (α := Stamp) s_42 Y Y Y fun v13 => ?_))))
 refine Pe Y (Dh (ov [v13] ([] : (List Stamp)) :: _ :: _ :: _ :: Hs) Y (Sr (Pe Y (Cq (Sr (Pe Y (Cb (D_fd [3] 0 Y (D_unpair (α := (List Rule)) (β := (List Stamp) × Int × (List Firing) × Bool × (List Event)) (c1 := [v4]) (c2 := [v5, (iv e.Clock), v6, (.bool e.Halted), v7]) (x := e.Rules) (y := (e.Memory, e.Clock, e.Fired, e.Halted, e.Log)) Y Y (D_fd [1] 0 Y (D_unpair (α := (List Stamp)) (β := Int × (List Firing) × Bool × (List Event)) (c1 := [v5]) (c2 := [(iv e.Clock), v6, (.bool e.Halted), v7]) (x := e.Memory) (y := (e.Clock, e.Fired, e.Halted, e.Log)) Y Y (D_fd [1] 0 Y (D_unpair (α := Int) (β := (List Firing) × Bool × (List Event)) (c1 := [(iv e.Clock)]) (c2 := [v6, (.bool e.Halted), v7]) (x := e.Clock) (y := (e.Fired, e.Halted, e.Log)) Y Y (D_fd [] 1 Y (D_unpair (α := (List Firing)) (β := Bool × (List Event)) (c1 := [v6]) (c2 := [(.bool e.Halted), v7]) (x := e.Fired) (y := (e.Halted, e.Log)) Y Y ?_)))))))))))))))
 refine D_fd [1] 0 Y (D_unpair (α := Bool) (β := (List Event)) (c1 := [(.bool e.Halted)]) (c2 := [v7]) (x := e.Halted) (y := (e.Log)) Y Y (D_fd [] 1 Y (D_fd [2] 0 Y (D_mo (Cl (fun m_ ac w' => ∃ (k : Nat), ∃ (dn : Bool), ∃ (v : Value), (k ≤ e.Memory.length) ∧ (dn = (addK f (⟨f, e.Clock + 1⟩ : Stamp) e.Memory k).2) ∧ m_ = e.Memory.length - k ∧ Fits ac 94 [(0, (pv g_e)), (2, (iv kind)), (3, (.string rule)), (5, (pv g12)), (8, v), (9, (.bool dn)), (10, (nv k))] ∧ St w0 (ov [v5] (mvT e.Memory k : (List (Mo Stamp))) :: ov [v7] (e.Log : (List Event)) :: ov [v6] (e.Fired : (List Firing)) :: ov [v4] (e.Rules : (List Rule)) :: ov [v] ((addK f (⟨f, e.Clock + 1⟩ : Stamp) e.Memory k).1 : (List Stamp)) :: bx g12 [(.string f.Rel), u1] :: bx g_e [v4, v5, (iv (e.Clock + 1)), v6, (.bool e.Halted), v7] :: Hs) w') ?_ ?_)))))
 ·refine D_eq 4 Y (show ([] : (List Stamp)) = (addK f (⟨f, e.Clock + 1⟩ : Stamp) e.Memory 0).1 from by exact addK_z _ _ _) (fun ac w' hf hs => ⟨_, 0, false, v13, ?_, ?_, Y, hf.wk Y, hs⟩)
  ·first | assumption | omega | simp
  ·rfl
 ·rintro m_ ac w' ⟨k, dn, v, hk, hd, rfl, hf, hs⟩
  refine D.use ?_ hf hs
  clear hf hs ac w'
  have hcl := addK_len f (⟨f, e.Clock + 1⟩ : Stamp) e.Memory k
  refine Cq (Sr (P2 Y Y (q1 Y (D_nilc Y Y) (q1 Y (Db f_66_1 Y Y (q := 1) Y) (q1 Y (lb 6 o_42 Y Y Y Y) (q1 Y (lenv s_42 Y Y (fun w' hs => (rO (k := 0) hs Y)) (mvT_len _ _)) (Pe Y (Dh (_ :: _ :: _ :: _ :: _ :: _ :: _ :: Hs) Y (Ci _ Y (fun h14 => ?_) (fun h14 => ?_))))))))))
  ·have pr14 := odT h14
   refine Sk (Cq (Cb (Cq (Cq ?_))))
   obtain ⟨s0, s0h⟩ := sL (l := e.Memory) (i := k) (by omega)
   refine D_mt s0h fun es15 => ?_
   refine Dp (fun w' hs => shape_Stamp (rO (k := 0) hs Y)) ?_
   rintro ⟨v16, rfl, ho17⟩
   refine C_draw mixed [12, 13, 14] (by kernel_rfl) (Tk 0 Y (by kernel_rfl) Y (rp Y) (Tk 1 Y (by kernel_rfl) Y (rp Y) (Tk 2 Y (by kernel_rfl) Y (rp Y) (gs 31 Y Y (fun h18 => ?_) (fun h18 => ?_)))))
   ·have h18n := not_t h18
    refine Tk 3 Y (by kernel_rfl) Y (rp Y) (Tk 4 Y (by kernel_rfl) Y (D_nilc Y Y) (Tk 5 Y (by kernel_rfl) Y (Db f_66_1 Y Y (q := 1) Y) (Tk 6 Y (by kernel_rfl) Y (lb 7 o_42 Y Y Y Y) (Tk 7 Y (by kernel_rfl) Y (rp Y) (Tk 8 Y (by kernel_rfl) Y (D_ixh 1 s_42 Y Y Y Y Y) (Tk 9 Y (by kernel_rfl) Y (D_fa f_100_0 Y Y) (Tk 10 Y (by kernel_rfl) Y (lhs (n := 3) (m := 2) (fs := [(.string s0.Fact.Rel), v16]) 1 Y a_70 Y Y Y Y) (Tk 11 Y (by kernel_rfl) Y (lbw 6 a_70 Y Y Y) (ty 12 Y (by kernel_rfl) Y (cv b_146 Y Y Y Y (fun w' hs => (spec_CompareFacts (sub_Stamp_Fact (rO (k := 0) hs Y)) (h_f w' (hs.fd [] 8 Y)))) ?_))))))))))
    refine tZ Y (ty 13 Y (by kernel_rfl) Y (sv Y Y (rp Y) ?_))
    refine tZ Y (ty 14 Y (by kernel_rfl) Y (sv Y Y (rp Y) ?_))
    refine tZ Y (tE (by kernel_rfl) (Xt (D_wk [0, 2, 3, 5, 8, 9, 10, 43] Y (Ci _ Y (fun h19 => ?_) (fun h19 => ?_)))))
    ·have pr19 := odT h19
     refine Cq (C_draw mixed [9, 10] (by kernel_rfl) (Tk 0 Y (by kernel_rfl) Y (rp Y) (Tk 1 Y (by kernel_rfl) Y (lbw 6 a_70 Y Y Y) (Tk 3 Y (by kernel_rfl) Y (rp Y) (Tk 4 Y (by kernel_rfl) Y (D_nilc Y Y) (Tk 5 Y (by kernel_rfl) Y (Db f_66_2 Y Y (q := 2) Y) (Tk 6 Y (by kernel_rfl) Y (lb 7 o_3 Y Y Y Y) (ty 2 Y (by kernel_rfl) Y (crs Y b_123 Y Y Y Y (fun w' hs => (spec_l2Copy (h_f w' (hs.fd [] 8 Y)) (by first | assumption | omega | (unfold szm at *; split at * <;> omega)))) fun cs20 => ?_)))))))))
     refine Dp (fun w' hs => shape_Fact (rO (k := 0) hs Y)) ?_
     rintro ⟨v21, rfl, ho22⟩
     refine tS (fun _ hs => hs.fd [] 1 Y) (Tj 7 Y (by kernel_rfl) Y (fun _ hs => hs.fd [] 1 Y) (D_built (vs := [(0, (.agg #[(.string f.Rel), v21])), (1, (iv (e.Clock + 1)))]) (xs := [(0, [(.string f.Rel), v21]), (1, [(iv (e.Clock + 1))])]) (cs := [(.string f.Rel), v21, (iv (e.Clock + 1))]) pl_100 Y ⟨Y, Y, ⟨Y, Y, trivial⟩⟩ Y Y) (ty 8 Y (by kernel_rfl) Y (D_bs s_42 y_100 Y (by decide) (by decide) Y Y Y Y Y Y fun g23 => ?_)))
     refine tS (fun _ hs => hs.fd [] 2 Y) (D_fd [1] 0 Y (D_unpair (α := ByteArray) (β := (List ByteArray)) (c1 := [(.string f.Rel)]) (c2 := [v21]) (x := f.Rel) (y := (f.Args)) Y Y (D_fd [] 1 Y (pk_Stamp (r := (⟨f, (e.Clock + 1)⟩ : Stamp)) (D_fd [1, 1, 7] 0 Y (ty 9 Y (by kernel_rfl) Y (D_ap s_42 y_100 Y (by decide) Y Y Y Y Y Y (by first | omega | (simp; omega)) (by first | omega | (simp; omega)) fun v24 => ?_)))))))
     refine tZ Y (ty 10 Y (by kernel_rfl) Y (sv Y Y (rp Y) ?_))
     refine tZ Y (tE (by kernel_rfl) (Xt (Cr (Pe Y (Cr (P2 Y Y (q1 Y (D_nilc Y Y) (q1 Y (Db f_66_1 Y Y (q := 1) Y) (q1 Y (lb 7 o_42 Y Y Y Y) (p1 Y (q1 Y (D_ixh 2 s_42 Y Y Y Y Y) (q1 Y (lha (n := 3) 2 Y a_100 Y Y Y) (li Y (D_bs s_42 y_100 Y (by decide) (by decide) Y Y Y Y Y Y fun g25 => ?_))))))))))))))
     refine D_fd [0, 2, 2] 0 Y (li Y (D_ap s_42 y_100 Y (by decide) Y Y Y Y Y Y (by first | omega | (simp; omega)) (by first | omega | (simp; omega)) fun v26 => ?_))
     refine p1 Y (De (Xb (Xt (D_wk [0, 2, 3, 5, 8, 9, 10] Y (Cr (p1 Y (q1 Y (D_add Y Y Y (r := ((k + 1 : Nat) : Int)) (by omega) (by omega)) (Pe Y (D_fd [1] 0 Y (D_mn (lS s0h) (ocons Y (ocons ho17 (ocons Y onil))) Y (D_eq 1 Y (show ((((addK f (⟨f, e.Clock + 1⟩ : Stamp) e.Memory k).1) ++ [(⟨f, (e.Clock + 1)⟩ : Stamp)]) ++ [s0] : (List Stamp)) = (addK f (⟨f, e.Clock + 1⟩ : Stamp) e.Memory (k + 1)).1 from by first | exact addK_put s0h (hd.symm.trans (by assumption)) (by omega) | exact addK_k1 s0h (by omega) | exact addK_k2 s0h (hd.symm.trans (by assumption))) (fun ac w' hf hs => ⟨_, ?_, k + 1, true, v26, ?_, ?_, Y, hf.wk Y, hs.fd [6, 6, 3, 6, 6, 6, 6] 0 Y⟩))))))))))))
     ·omega
     ·first | assumption | omega | simp
     ·first | exact addK_d1 s0h (by omega) | exact addK_dk1 s0h hd (by assumption) | exact addK_dk2 s0h hd (by assumption) (by omega)
    ·have pr19 := odF h19
     refine Sk (Cr (P2 Y Y (q1 Y (D_nilc Y Y) (q1 Y (Db f_66_1 Y Y (q := 1) Y) (q1 Y (lb 7 o_42 Y Y Y Y) (p1 Y (q1 Y (D_ixh 1 s_42 Y Y Y Y Y) (q1 Y (lha (n := 3) 1 Y a_100 Y Y Y) (li Y (D_bs s_42 y_100 Y (by decide) (by decide) Y Y Y Y Y Y fun g27 => ?_))))))))))
     refine D_fd [0, 1, 6] 0 Y (li Y (D_ap s_42 y_100 Y (by decide) Y Y Y Y Y Y (by first | omega | (simp; omega)) (by first | omega | (simp; omega)) fun v28 => ?_))
     refine p1 Y (De (Xb (Xt (Cr (p1 Y (q1 Y (D_add Y Y Y (r := ((k + 1 : Nat) : Int)) (by omega) (by omega)) (Pe Y (D_fd [1] 0 Y (D_mn (lS s0h) (ocons Y (ocons ho17 (ocons Y onil))) Y (D_eq 1 Y (show (((addK f (⟨f, e.Clock + 1⟩ : Stamp) e.Memory k).1) ++ [s0] : (List Stamp)) = (addK f (⟨f, e.Clock + 1⟩ : Stamp) e.Memory (k + 1)).1 from by first | exact addK_put s0h (hd.symm.trans (by assumption)) (by omega) | exact addK_k1 s0h (by omega) | exact addK_k2 s0h (hd.symm.trans (by assumption))) (fun ac w' hf hs => ⟨_, ?_, k + 1, dn, v28, ?_, ?_, Y, hf.wk Y, hs.fd [6, 6, 3, 6, 6, 6, 6] 0 Y⟩)))))))))))
     ·omega
     ·first | assumption | omega | simp
     ·first | exact addK_d1 s0h (by omega) | exact addK_dk1 s0h hd (by assumption) | exact addK_dk2 s0h hd (by assumption) (by omega)
   ·have h18n := not_f h18
    refine tn 3 Y (by kernel_rfl) (by kernel_rfl) (by kernel_rfl) Y Y Y (fun _ hs => hs) (tn 4 Y (by kernel_rfl) (by kernel_rfl) (by kernel_rfl) Y Y Y (fun _ hs => hs) (tn 5 Y (by kernel_rfl) (by kernel_rfl) (by kernel_rfl) Y Y Y (fun _ hs => hs) (tn 6 Y (by kernel_rfl) (by kernel_rfl) (by kernel_rfl) Y Y Y (fun _ hs => hs) (tn 7 Y (by kernel_rfl) (by kernel_rfl) (by kernel_rfl) Y Y Y (fun _ hs => hs) (tn 8 Y (by kernel_rfl) (by kernel_rfl) (by kernel_rfl) Y Y Y (fun _ hs => hs) (tn 9 Y (by kernel_rfl) (by kernel_rfl) (by kernel_rfl) Y Y Y (fun _ hs => hs) (tn 10 Y (by kernel_rfl) (by kernel_rfl) (by kernel_rfl) Y Y Y (fun _ hs => hs) (tn 11 Y (by kernel_rfl) (by kernel_rfl) (by kernel_rfl) Y Y Y (fun _ hs => hs) (tn 12 Y (by kernel_rfl) (by kernel_rfl) (by kernel_rfl) Y Y Y (fun _ hs => hs) (tn 13 Y (by kernel_rfl) (by kernel_rfl) (by kernel_rfl) Y Y Y (fun _ hs => hs) (Tk 14 Y (by kernel_rfl) Y (rp Y) (tE (by kernel_rfl) (Xt (D_wk [0, 2, 3, 5, 8, 9, 10, 43] Y (C_f Y (Sk (Cr (P2 Y Y (q1 Y (D_nilc Y Y) (q1 Y (Db f_66_1 Y Y (q := 1) Y) (q1 Y (lb 7 o_42 Y Y Y Y) (p1 Y ?_))))))))))))))))))))))
    refine q1 Y (D_ixh 1 s_42 Y Y Y Y Y) (q1 Y (lha (n := 3) 1 Y a_100 Y Y Y) (li Y (D_bs s_42 y_100 Y (by decide) (by decide) Y Y Y Y Y Y fun g29 => ?_)))
    refine D_fd [0, 1, 6] 0 Y (li Y (D_ap s_42 y_100 Y (by decide) Y Y Y Y Y Y (by first | omega | (simp; omega)) (by first | omega | (simp; omega)) fun v30 => ?_))
    refine p1 Y (De (Xb (Xt (Cr (p1 Y (q1 Y (D_add Y Y Y (r := ((k + 1 : Nat) : Int)) (by omega) (by omega)) (Pe Y (D_fd [1] 0 Y (D_mn (lS s0h) (ocons Y (ocons ho17 (ocons Y onil))) Y (D_eq 1 Y (show (((addK f (⟨f, e.Clock + 1⟩ : Stamp) e.Memory k).1) ++ [s0] : (List Stamp)) = (addK f (⟨f, e.Clock + 1⟩ : Stamp) e.Memory (k + 1)).1 from by first | exact addK_put s0h (hd.symm.trans (by assumption)) (by omega) | exact addK_k1 s0h (by omega) | exact addK_k2 s0h (hd.symm.trans (by assumption))) (fun ac w' hf hs => ⟨_, ?_, k + 1, dn, v30, ?_, ?_, Y, hf.wk Y, hs.fd [6, 6, 3, 6, 6, 6, 6] 0 Y⟩)))))))))))
    ·omega
    ·first | assumption | omega | simp
    ·first | exact addK_d1 s0h (by omega) | exact addK_dk1 s0h hd (by assumption) | exact addK_dk2 s0h hd (by assumption) (by omega)
  ·have pr14 := odF h14
   refine Cx (Xx (Xx (Xe (Xt (Cq (Sr (P2 Y Y (Dx (Ci _ Y (fun h31 => ?_) (fun h31 => ?_))))))))))
   ·have h31n := not_t h31
    refine C_draw mixed [9, 10] (by kernel_rfl) (Tk 0 Y (by kernel_rfl) Y (rp Y) (Tk 1 Y (by kernel_rfl) Y (lbw 5 a_70 Y Y Y) (Tk 3 Y (by kernel_rfl) Y (rp Y) (Tk 4 Y (by kernel_rfl) Y (D_nilc Y Y) (Tk 5 Y (by kernel_rfl) Y (Db f_66_2 Y Y (q := 2) Y) (Tk 6 Y (by kernel_rfl) Y (lb 6 o_3 Y Y Y Y) (ty 2 Y (by kernel_rfl) Y (crs Y b_123 Y Y Y Y (fun w' hs => (spec_l2Copy (h_f w' (hs.fd [] 7 Y)) (by first | assumption | omega | (unfold szm at *; split at * <;> omega)))) fun cs32 => ?_))))))))
    refine Dp (fun w' hs => shape_Fact (rO (k := 0) hs Y)) ?_
    rintro ⟨v33, rfl, ho34⟩
    refine tS (fun _ hs => hs.fd [] 1 Y) (Tj 7 Y (by kernel_rfl) Y (fun _ hs => hs.fd [] 1 Y) (D_built (vs := [(0, (.agg #[(.string f.Rel), v33])), (1, (iv (e.Clock + 1)))]) (xs := [(0, [(.string f.Rel), v33]), (1, [(iv (e.Clock + 1))])]) (cs := [(.string f.Rel), v33, (iv (e.Clock + 1))]) pl_100 Y ⟨Y, Y, ⟨Y, Y, trivial⟩⟩ Y Y) (ty 8 Y (by kernel_rfl) Y (D_bs s_42 y_100 Y (by decide) (by decide) Y Y Y Y Y Y fun g35 => ?_)))
    refine tS (fun _ hs => hs.fd [] 2 Y) (D_fd [1] 0 Y (D_unpair (α := ByteArray) (β := (List ByteArray)) (c1 := [(.string f.Rel)]) (c2 := [v33]) (x := f.Rel) (y := (f.Args)) Y Y (D_fd [] 1 Y (pk_Stamp (r := (⟨f, (e.Clock + 1)⟩ : Stamp)) (D_fd [1, 1, 6] 0 Y (ty 9 Y (by kernel_rfl) Y (D_ap s_42 y_100 Y (by decide) Y Y Y Y Y Y (by first | omega | (simp; omega)) (by first | omega | (simp; omega)) fun v36 => ?_)))))))
    refine tZ Y (ty 10 Y (by kernel_rfl) Y (sv Y Y (rp Y) ?_))
    refine tZ Y (tE (by kernel_rfl) (Xt (D_wk [0, 2, 3, 5, 8] Y (Dh (ov [v36] (((addK f (⟨f, e.Clock + 1⟩ : Stamp) e.Memory k).1) ++ [(⟨f, (e.Clock + 1)⟩ : Stamp)] : (List Stamp)) :: _ :: _ :: _ :: _ :: _ :: _ :: Hs) Y (Sr (P2 Y Y (q1 Y (D_nilc Y Y) (q1 Y (Db f_66_1 Y Y (q := 1) Y) (Dp (fun w' hs => one_own (k := 0) hs Y) ?_)))))))))
    intro ho37
    refine li Y (D_stb (vs := [v36]) (cs' := [v4, v36, (iv (e.Clock + 1)), v6, (.bool e.Halted), v7]) 6 z_42 Y Y Y Y Y (cells_of_one ho37) (ocons ho37 onil) (by simp) Y ?_)
    refine Dx (Dh (_ :: _ :: _ :: _ :: _ :: _ :: bx g_e [v4, v36, (iv (e.Clock + 1)), v6, (.bool e.Halted), v7] :: Hs) Y (C_drawW (ov [v36] (((addK f (⟨f, e.Clock + 1⟩ : Stamp) e.Memory k).1) ++ [(⟨f, (e.Clock + 1)⟩ : Stamp)] : (List Stamp)) :: ov [v5] (mvT e.Memory k : (List (Mo Stamp))) :: ov [v6] (e.Fired : (List Firing)) :: ov [v4] (e.Rules : (List Rule)) :: bx g12 [(.string f.Rel), u1] :: bx g_e [v4, v36, (iv (e.Clock + 1)), v6, (.bool e.Halted), v7] :: Hs) mixed [14] (by kernel_rfl) (Tj 0 Y (by kernel_rfl) Y (fun _ hs => hs.fd [6, 6, 6, 6, 5, 5, 6] 1 Y) (rp Y) (Tj 1 Y (by kernel_rfl) Y (fun _ hs => hs.fd [6, 6, 6, 6, 5, 5, 6] 1 Y) (rp Y) (Tj 2 Y (by kernel_rfl) Y (fun _ hs => hs.fd [6, 6, 6, 6, 5, 5, 6] 1 Y) (D_nilc Y Y) (Tj 3 Y (by kernel_rfl) Y (fun _ hs => hs.fd [6, 6, 6, 6, 5, 5, 6] 1 Y) (Db f_66_5 Y Y (q := 5) Y) (Tj 4 Y (by kernel_rfl) Y (fun _ hs => hs.fd [6, 6, 6, 6, 5, 5, 6] 1 Y) (lb 5 o_64 Y Y Y Y) (Tj 5 Y (by kernel_rfl) Y (fun _ hs => hs.fd [6, 6, 6, 6, 5, 5, 6] 1 Y) (rp Y) (Tj 6 Y (by kernel_rfl) Y (fun _ hs => hs.fd [6, 6, 6, 6, 5, 5, 6] 1 Y) (rp Y) (Tj 7 Y (by kernel_rfl) Y (fun _ hs => hs.fd [6, 6, 6, 6, 5, 5, 6] 1 Y) (lbw 4 a_70 Y Y Y) (ty 8 Y (by kernel_rfl) Y (crs Y b_123 Y Y Y Y (fun w' hs => (spec_l2Copy (h_f w' (hs.fd [] 7 Y)) (by first | assumption | omega | (unfold szm at *; split at * <;> omega)))) fun cs38 => ?_))))))))))))
    refine Dp (fun w' hs => shape_Fact (rO (k := 0) hs Y)) ?_
    rintro ⟨v39, rfl, ho40⟩
    refine tS (fun _ hs => hs.fd [7, 7, 7, 7, 6, 6, 7, 7] 2 Y) (Tj 9 Y (by kernel_rfl) Y (fun _ hs => hs.fd [7, 7, 7, 7, 6, 6, 7, 7] 2 Y) (D_built (vs := [(0, (iv kind)), (1, (.string rule)), (2, (.agg #[(.string f.Rel), v39]))]) (xs := [(0, [(iv kind)]), (1, [(.string rule)]), (2, [(.string f.Rel), v39])]) (cs := [(iv kind), (.string rule), (.string f.Rel), v39]) pl_171 Y ⟨Y, Y, ⟨Y, Y, ⟨Y, Y, trivial⟩⟩⟩ Y Y) (ty 10 Y (by kernel_rfl) Y (D_bs s_64 y_171 Y (by decide) (by decide) Y Y Y Y Y Y fun g41 => ?_)))
    refine tS (fun _ hs => hs.fd [8, 8, 8, 8, 7, 7, 8, 8, 8] 3 Y) (D_fd [1] 0 Y (D_unpair (α := ByteArray) (β := (List ByteArray)) (c1 := [(.string f.Rel)]) (c2 := [v39]) (x := f.Rel) (y := (f.Args)) Y Y (D_fd [] 1 Y (pk_Event (r := (⟨kind, rule, f⟩ : Event)) (D_fd [1, 1, 4] 0 Y (ty 11 Y (by kernel_rfl) Y (D_ap s_64 y_171 Y (by decide) Y Y Y Y Y Y (by first | omega | (simp; omega)) (by first | omega | (simp; omega)) fun v42 => ?_)))))))
    refine tS (fun _ hs => hs.fd [] 1 Y) (Tj 12 Y (by kernel_rfl) Y (fun _ hs => hs.fd [] 1 Y) (D_nilc Y Y) (Tj 13 Y (by kernel_rfl) Y (fun _ hs => hs.fd [] 1 Y) (Db f_66_5 Y Y (q := 5) Y) (Dp (fun w' hs => one_own (k := 0) hs Y) ?_)))
    intro ho43
    refine ty 14 Y (by kernel_rfl) Y (D_stb (vs := [v42]) (cs' := [v4, v36, (iv (e.Clock + 1)), v6, (.bool e.Halted), v42]) 6 z_64 Y Y Y Y Y (cells_of_one ho43) (ocons ho43 onil) (by simp) Y ?_)
    refine tZ Y (tE (by kernel_rfl) (D_fd [0, 3, 2, 4] 0 Y (pk_Engine (r := (⟨e.Rules, ((addK f (⟨f, e.Clock + 1⟩ : Stamp) e.Memory k).1) ++ [(⟨f, (e.Clock + 1)⟩ : Stamp)], (e.Clock + 1), e.Fired, e.Halted, e.Log ++ [(⟨kind, rule, f⟩ : Event)]⟩ : Engine)) (D_eq 0 Y (show ((⟨e.Rules, ((addK f (⟨f, e.Clock + 1⟩ : Stamp) e.Memory k).1) ++ [(⟨f, (e.Clock + 1)⟩ : Stamp)], (e.Clock + 1), e.Fired, e.Halted, e.Log ++ [(⟨kind, rule, f⟩ : Event)]⟩ : Engine) : Engine) = addE e f kind rule from by first | (show _ = addE e f kind rule; unfold addE; (try unfold wrE); (try simp only []); rw [← addL_t hk (by omega) (hd.symm.trans (by assumption))]; done) | (show _ = addE e f kind rule; unfold addE; (try unfold wrE); (try simp only []); rw [← addL_f hk (by omega) (hd.symm.trans (by assumption))]; done)) (D_fd [0, 3] 0 Y (D_pbc ?_))))))
    exact Rn rfl fun w' hs => ⟨rfl, hs.fd [0, 2, 2] 2 rfl⟩
   ·have h31n := not_f h31
    refine Sk (Sr (P2 Y Y (q1 Y (D_nilc Y Y) (q1 Y (Db f_66_1 Y Y (q := 1) Y) (Dp (fun w' hs => one_own (k := 4) hs Y) ?_)))))
    intro ho44
    refine li Y (D_stb (vs := [v]) (cs' := [v4, v, (iv (e.Clock + 1)), v6, (.bool e.Halted), v7]) 6 z_42 Y Y Y Y Y (cells_of_one ho44) (ocons ho44 onil) (by simp) Y ?_)
    refine Dx (D_wk [0, 2, 3, 5] Y (Dh (_ :: _ :: _ :: _ :: _ :: _ :: bx g_e [v4, v, (iv (e.Clock + 1)), v6, (.bool e.Halted), v7] :: Hs) Y (C_drawW (ov [v5] (mvT e.Memory k : (List (Mo Stamp))) :: ov [v6] (e.Fired : (List Firing)) :: ov [v4] (e.Rules : (List Rule)) :: ov [v] ((addK f (⟨f, e.Clock + 1⟩ : Stamp) e.Memory k).1 : (List Stamp)) :: bx g12 [(.string f.Rel), u1] :: bx g_e [v4, v, (iv (e.Clock + 1)), v6, (.bool e.Halted), v7] :: Hs) mixed [14] (by kernel_rfl) (Tj 0 Y (by kernel_rfl) Y (fun _ hs => hs.fd [6, 6, 6, 6, 6, 5, 6] 1 Y) (rp Y) (Tj 1 Y (by kernel_rfl) Y (fun _ hs => hs.fd [6, 6, 6, 6, 6, 5, 6] 1 Y) (rp Y) (Tj 2 Y (by kernel_rfl) Y (fun _ hs => hs.fd [6, 6, 6, 6, 6, 5, 6] 1 Y) (D_nilc Y Y) (Tj 3 Y (by kernel_rfl) Y (fun _ hs => hs.fd [6, 6, 6, 6, 6, 5, 6] 1 Y) (Db f_66_5 Y Y (q := 5) Y) (Tj 4 Y (by kernel_rfl) Y (fun _ hs => hs.fd [6, 6, 6, 6, 6, 5, 6] 1 Y) (lb 5 o_64 Y Y Y Y) (Tj 5 Y (by kernel_rfl) Y (fun _ hs => hs.fd [6, 6, 6, 6, 6, 5, 6] 1 Y) (rp Y) (Tj 6 Y (by kernel_rfl) Y (fun _ hs => hs.fd [6, 6, 6, 6, 6, 5, 6] 1 Y) (rp Y) (Tj 7 Y (by kernel_rfl) Y (fun _ hs => hs.fd [6, 6, 6, 6, 6, 5, 6] 1 Y) (lbw 4 a_70 Y Y Y) (ty 8 Y (by kernel_rfl) Y (crs Y b_123 Y Y Y Y (fun w' hs => (spec_l2Copy (h_f w' (hs.fd [] 7 Y)) (by first | assumption | omega | (unfold szm at *; split at * <;> omega)))) fun cs45 => ?_)))))))))))))
    refine Dp (fun w' hs => shape_Fact (rO (k := 0) hs Y)) ?_
    rintro ⟨v46, rfl, ho47⟩
    refine tS (fun _ hs => hs.fd [7, 7, 7, 7, 7, 6, 7, 7] 2 Y) (Tj 9 Y (by kernel_rfl) Y (fun _ hs => hs.fd [7, 7, 7, 7, 7, 6, 7, 7] 2 Y) (D_built (vs := [(0, (iv kind)), (1, (.string rule)), (2, (.agg #[(.string f.Rel), v46]))]) (xs := [(0, [(iv kind)]), (1, [(.string rule)]), (2, [(.string f.Rel), v46])]) (cs := [(iv kind), (.string rule), (.string f.Rel), v46]) pl_171 Y ⟨Y, Y, ⟨Y, Y, ⟨Y, Y, trivial⟩⟩⟩ Y Y) (ty 10 Y (by kernel_rfl) Y (D_bs s_64 y_171 Y (by decide) (by decide) Y Y Y Y Y Y fun g48 => ?_)))
    refine tS (fun _ hs => hs.fd [8, 8, 8, 8, 8, 7, 8, 8, 8] 3 Y) (D_fd [1] 0 Y (D_unpair (α := ByteArray) (β := (List ByteArray)) (c1 := [(.string f.Rel)]) (c2 := [v46]) (x := f.Rel) (y := (f.Args)) Y Y (D_fd [] 1 Y (pk_Event (r := (⟨kind, rule, f⟩ : Event)) (D_fd [1, 1, 3] 0 Y (ty 11 Y (by kernel_rfl) Y (D_ap s_64 y_171 Y (by decide) Y Y Y Y Y Y (by first | omega | (simp; omega)) (by first | omega | (simp; omega)) fun v49 => ?_)))))))
    refine tS (fun _ hs => hs.fd [] 1 Y) (Tj 12 Y (by kernel_rfl) Y (fun _ hs => hs.fd [] 1 Y) (D_nilc Y Y) (Tj 13 Y (by kernel_rfl) Y (fun _ hs => hs.fd [] 1 Y) (Db f_66_5 Y Y (q := 5) Y) (Dp (fun w' hs => one_own (k := 0) hs Y) ?_)))
    intro ho50
    refine ty 14 Y (by kernel_rfl) Y (D_stb (vs := [v49]) (cs' := [v4, v, (iv (e.Clock + 1)), v6, (.bool e.Halted), v49]) 6 z_64 Y Y Y Y Y (cells_of_one ho50) (ocons ho50 onil) (by simp) Y ?_)
    refine tZ Y (tE (by kernel_rfl) (D_fd [0, 2, 4, 4] 0 Y (pk_Engine (r := (⟨e.Rules, (addK f (⟨f, e.Clock + 1⟩ : Stamp) e.Memory k).1, (e.Clock + 1), e.Fired, e.Halted, e.Log ++ [(⟨kind, rule, f⟩ : Event)]⟩ : Engine)) (D_eq 0 Y (show ((⟨e.Rules, (addK f (⟨f, e.Clock + 1⟩ : Stamp) e.Memory k).1, (e.Clock + 1), e.Fired, e.Halted, e.Log ++ [(⟨kind, rule, f⟩ : Event)]⟩ : Engine) : Engine) = addE e f kind rule from by first | (show _ = addE e f kind rule; unfold addE; (try unfold wrE); (try simp only []); rw [← addL_t hk (by omega) (hd.symm.trans (by assumption))]; done) | (show _ = addE e f kind rule; unfold addE; (try unfold wrE); (try simp only []); rw [← addL_f hk (by omega) (hd.symm.trans (by assumption))]; done)) (D_fd [0, 3] 0 Y (D_pbc ?_))))))
    exact Rn rfl fun w' hs => ⟨rfl, hs.fd [0, 2, 2] 2 rfl⟩
end Go.Sy.Put1
