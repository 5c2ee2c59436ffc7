/-
  Contracts of functions of the program, walked (printed by a program of ours).
  Conditions: those that each theorem states.
-/
import Derived.Test.YtkbiaedfnpbpfaaGreatDoorPut1
set_option linter.unusedVariables false
set_option maxRecDepth 20000
namespace Go.Sy.Put2
open Go Go.RowKit Go.Proofs Go.Sy
theorem mixed : Tryz.prog.follows .mixedOrders = true := by kernel_rfl
theorem y_66 : zeroTy Tryz.prog 66 = some (.agg #[(.slice none 0 0), (.slice none 0 0), (.int .i64 0), (.slice none 0 0), (.bool false), (.slice none 0 0)]) := by kernel_rfl
theorem a_66 : aggTy Tryz.prog 66 = some 6 := by kernel_rfl
theorem b_78 : hasBody Tryz.prog 78 = true := by kernel_rfl
theorem z_66 : sizeTy Tryz.prog 66 = some 6 := by kernel_rfl
theorem b_79 : hasBody Tryz.prog 79 = true := by kernel_rfl
theorem a_70 : aggTy Tryz.prog 70 = some 2 := by kernel_rfl
theorem b_93 : hasBody Tryz.prog 93 = true := by kernel_rfl
theorem f_66_1 : fieldOff Tryz.prog 66 1 = some 1 := by kernel_rfl
theorem o_42 : oneTy Tryz.prog 42 = true := by kernel_rfl
theorem b_80 : hasBody Tryz.prog 80 = true := by kernel_rfl
theorem s_42 : sliceTy Tryz.prog 42 = some (100, 3, 48) := by kernel_rfl
theorem f_66_2 : fieldOff Tryz.prog 66 2 = some 2 := by kernel_rfl
theorem o_3 : oneTy Tryz.prog 3 = true := by kernel_rfl
theorem f_66_5 : fieldOff Tryz.prog 66 5 = some 5 := by kernel_rfl
theorem o_64 : oneTy Tryz.prog 64 = true := by kernel_rfl
theorem s_64 : sliceTy Tryz.prog 64 = some (171, 4, 64) := by kernel_rfl
theorem b_94 : hasBody Tryz.prog 94 = true := by kernel_rfl
theorem b_71 : hasBody Tryz.prog 71 = true := by kernel_rfl
theorem b_72 : hasBody Tryz.prog 72 = true := by kernel_rfl
theorem b_91 : hasBody Tryz.prog 91 = true := by kernel_rfl
theorem b_73 : hasBody Tryz.prog 73 = true := by kernel_rfl
theorem b_92 : hasBody Tryz.prog 92 = true := by kernel_rfl
theorem a_57 : aggTy Tryz.prog 57 = some 6 := by kernel_rfl
theorem b_23 : hasBody Tryz.prog 23 = true := by kernel_rfl
theorem a_60 : aggTy Tryz.prog 60 = some 2 := by kernel_rfl
theorem b_24 : hasBody Tryz.prog 24 = true := by kernel_rfl
theorem b_26 : hasBody Tryz.prog 26 = true := by kernel_rfl
theorem b_27 : hasBody Tryz.prog 27 = true := by kernel_rfl
theorem b_34 : hasBody Tryz.prog 34 = true := by kernel_rfl
theorem y_70 : zeroTy Tryz.prog 70 = some (.agg #[(.string ⟨#[]⟩), (.slice none 0 0)]) := by kernel_rfl
theorem z_70 : sizeTy Tryz.prog 70 = some 2 := by kernel_rfl
theorem b_35 : hasBody Tryz.prog 35 = true := by kernel_rfl
theorem b_29 : hasBody Tryz.prog 29 = true := by kernel_rfl
theorem ub_4 : Tryz.prog.underlying 4 = some .bool := by kernel_rfl
theorem b_30 : hasBody Tryz.prog 30 = true := by kernel_rfl
theorem b_31 : hasBody Tryz.prog 31 = true := by kernel_rfl
theorem b_32 : hasBody Tryz.prog 32 = true := by kernel_rfl
theorem b_33 : hasBody Tryz.prog 33 = true := by kernel_rfl
open Go.Sy.Bel1 Go.Sy.Bel3 Go.Sy.Ev1 Go.Sy.Ev2 Go.Sy.Ev3 Go.Sy.Fmt1 Go.Sy.Eng1 Go.Sy.Eng2 Go.Sy.Eng3 Go.Sy.Eng4 Go.Sy.Eng5 Go.Sy.Num1 Go.Sy.Num2 Go.Sy.Cho1 Go.Sy.Cho2 Go.Sy.Num3 Go.Sy.Put1
theorem impl_PutFact {w : World} {c_e : List Value} {e : Engine} {c_f : List Value} {f : Fact} (h_e : Gd.rd w c_e e) (h_f : Gd.rd w c_f f) (hn : szEngine e ≤ 1048576) (hfz : szFa f ≤ 1048576) (htb : Tb w) : Calls Tryz.prog 35 [(.agg c_e.toArray), (.agg c_f.toArray)].toArray w (Res2 w (putE e f : Engine) (putB e f : Bool)) := by
 obtain ⟨u1, u3, u5, u7, rfl, hu2, hu4, hu6, hu8⟩ := open_Engine h_e
 have hm9 := rd_max hu2
 have hm10 := rd_max hu4
 have hm11 := rd_max hu6
 have hm12 := rd_max hu8
 obtain ⟨u13, rfl, hu14⟩ := open_Fact h_f
 have hm15 := rd_max hu14
 have hn0 := hn
 unfold szEngine szL at hn
 refine enter 44 Tryz.func35 Y Y Y (Sr (li Y (D_box Y Y Y Y Y fun g16 => ?_)))
 refine li Y (D_box Y Y Y Y Y fun g17 => ?_)
 refine li Y (D_alloc y_66 Y Y Y Y fun g18 => ?_)
 refine Pe Y (Dh ([bx g18 [(.slice none 0 0), (.slice none 0 0), (iv 0), (.slice none 0 0), (.bool false), (.slice none 0 0)], bx g17 [(.string f.Rel), u13], bx g16 [u1, u3, (iv e.Clock), u5, (.bool e.Halted), u7]]) Y (Sr (q1 Y (lbw 2 a_66 Y Y Y) (li Y (crs Y b_78 Y Y Y Y (fun w' hs => (impl_copyEngine (rA hs h_e) hn0)) fun cs19 => ?_)))))
 refine Dp (fun w' hs => shape_Engine (rO (k := 0) hs Y)) ?_
 rintro ⟨v20, v21, v22, v23, rfl, ho24, ho25, ho26, ho27⟩
 refine li Y (D_alloc y_66 Y Y Y Y fun g28 => ?_)
 refine li Y (D_stb (vs := [v20, v21, (iv e.Clock), v22, (.bool e.Halted), v23]) (cs' := [v20, v21, (iv e.Clock), v22, (.bool e.Halted), v23]) 0 z_66 Y Y Y Y Y Y (ocons ho24 (ocons ho25 (ocons Y (ocons ho26 (ocons Y (ocons ho27 onil)))))) (by simp) Y ?_)
 refine Dx (Dh ([bx g28 [v20, v21, (iv e.Clock), v22, (.bool e.Halted), v23], ov [v20, v21, (iv e.Clock), v22, (.bool e.Halted), v23] (e : Engine), _, _, _]) Y (Cq (Cq (C_join (fun ac w' => ∃ (jb : Bool), (jb = true → putB e f = false) ∧ (jb = false → putB e f = true) ∧ Fits ac 44 [(3, (pv g17)), (4, (pv g18)), (6, (pv g28)), (39, (.bool jb))] ∧ St w ([bx g28 [v20, v21, (iv e.Clock), v22, (.bool e.Halted), v23], ov [v20, v21, (iv e.Clock), v22, (.bool e.Halted), v23] (e : Engine), bx g18 [(.slice none 0 0), (.slice none 0 0), (iv 0), (.slice none 0 0), (.bool false), (.slice none 0 0)], bx g17 [(.string f.Rel), u13], bx g16 [u1, u3, (iv e.Clock), u5, (.bool e.Halted), u7]]) w') ?_ ?_))))
 ·refine Cr (q1 Y (lbw 4 a_66 Y Y Y) (li Y (cv b_79 Y Y Y Y (fun w' hs => (impl_IsEngine (rA hs h_e) hn0 (Tb.ext htb hs.bel))) ?_)))
  refine P2 Y Y (gs 12 Y Y (fun h29 => ?_) (fun h29 => ?_))
  ·have h29n := not_t h29
   refine n1 Y (n1 Y (n1 Y (P2 Y Y (n1 Y (n1 Y (n1 Y (n1 Y (P2 Y Y (n1 Y (n1 Y (n1 Y (n1 Y (P2 Y Y (n1 Y (n1 Y (n1 Y (P2 Y Y (n1 Y (n1 Y (n1 Y (n1 Y (p1 Y (De ?_)))))))))))))))))))))))
   refine Xt (fun ac w' hf hs => ⟨true, (fun hj => ?_), (fun hj => by cases hj), hf.wk Y, hs⟩)
   ·first | exact pb_y (by assumption) (by assumption) (by assumption) (by omega) (by omega) (by omega) | exact pb_s (by assumption) (by assumption) (by omega) (by omega) (by omega) (by omega) | exact pb_n1 (by assumption) | exact pb_n2 (by assumption) | exact pb_n3 (by assumption) | exact pb_n3s (by assumption) (by omega) | exact pb_n4 (by omega)
  ·have h29n := not_f h29
   refine q1 Y (lbw 3 a_70 Y Y Y) (li Y (cv b_93 Y Y Y Y (fun w' hs => (impl_IsFact (rA hs h_f))) ?_))
   refine P3 Y Y Y (gs 17 Y Y (fun h30 => ?_) (fun h30 => ?_))
   ·have h30n := not_t h30
    refine n1 Y (n1 Y (n1 Y (n1 Y (P2 Y Y (n1 Y (n1 Y (n1 Y (n1 Y (P2 Y Y (n1 Y (n1 Y (n1 Y (P2 Y Y (n1 Y (n1 Y (n1 Y (n1 Y (Pe Y (fun ac w' hf hs => ⟨true, (fun hj => ?_), (fun hj => by cases hj), hf.wk Y, hs⟩)))))))))))))))))))
    ·first | exact pb_y (by assumption) (by assumption) (by assumption) (by omega) (by omega) (by omega) | exact pb_s (by assumption) (by assumption) (by omega) (by omega) (by omega) (by omega) | exact pb_n1 (by assumption) | exact pb_n2 (by assumption) | exact pb_n3 (by assumption) | exact pb_n3s (by assumption) (by omega) | exact pb_n4 (by omega)
   ·have h30n := not_f h30
    refine q1 Y (Db f_66_1 Y Y (q := 1) Y) (q1 Y (lb 4 o_42 Y Y Y Y) (q1 Y (lbw 3 a_70 Y Y Y) (li Y (cv b_80 Y Y Y Y (fun w' hs => (impl_hasStamp (rA hs hu4) (rA hs h_f))) ?_))))
    refine P2 Y Y (gs 23 Y Y (fun h31 => ?_) (fun h31 => ?_))
    ·refine n1 Y (n1 Y (n1 Y (n1 Y (P2 Y Y (n1 Y (n1 Y (n1 Y (P2 Y Y (n1 Y (n1 Y (n1 Y (n1 Y (Pe Y (fun ac w' hf hs => ⟨true, (fun hj => ?_), (fun hj => by cases hj), hf.wk Y, hs⟩))))))))))))))
     ·first | exact pb_y (by assumption) (by assumption) (by assumption) (by omega) (by omega) (by omega) | exact pb_s (by assumption) (by assumption) (by omega) (by omega) (by omega) (by omega) | exact pb_n1 (by assumption) | exact pb_n2 (by assumption) | exact pb_n3 (by assumption) | exact pb_n3s (by assumption) (by omega) | exact pb_n4 (by omega)
    ·refine q1 Y (Db f_66_1 Y Y (q := 1) Y) (q1 Y (lb 4 o_42 Y Y Y Y) (q1 Y (Dl s_42 Y Y (rd_sl hu4)) (P3 Y Y Y (gs 29 Y Y (fun h32 => ?_) (fun h32 => ?_)))))
     ·have pr32 := odT h32
      refine n1 Y (n1 Y (n1 Y (P2 Y Y (n1 Y (n1 Y (n1 Y (n1 Y (Pe Y (fun ac w' hf hs => ⟨true, (fun hj => ?_), (fun hj => by cases hj), hf.wk Y, hs⟩)))))))))
      ·first | exact pb_y (by assumption) (by assumption) (by assumption) (by omega) (by omega) (by omega) | exact pb_s (by assumption) (by assumption) (by omega) (by omega) (by omega) (by omega) | exact pb_n1 (by assumption) | exact pb_n2 (by assumption) | exact pb_n3 (by assumption) | exact pb_n3s (by assumption) (by omega) | exact pb_n4 (by omega)
     ·have pr32 := odF h32
      refine q1 Y (Db f_66_2 Y Y (q := 2) Y) (q1 Y (lb 4 o_3 Y Y Y Y) (P3 Y Y Y (gs 34 Y Y (fun h33 => ?_) (fun h33 => ?_))))
      ·have pr33 := odT h33
       refine n1 Y (n1 Y (n1 Y (n1 Y (Pe Y (fun ac w' hf hs => ⟨true, (fun hj => ?_), (fun hj => by cases hj), hf.wk Y, hs⟩)))))
       ·first | exact pb_y (by assumption) (by assumption) (by assumption) (by omega) (by omega) (by omega) | exact pb_s (by assumption) (by assumption) (by omega) (by omega) (by omega) (by omega) | exact pb_n1 (by assumption) | exact pb_n2 (by assumption) | exact pb_n3 (by assumption) | exact pb_n3s (by assumption) (by omega) | exact pb_n4 (by omega)
      ·have pr33 := odF h33
       refine q1 Y (Db f_66_5 Y Y (q := 5) Y) (q1 Y (lb 4 o_64 Y Y Y Y) (q1 Y (Dl s_64 Y Y (rd_sl hu8)) (P2 Y Y (Dx (fun ac w' hf hs => ⟨(decide ((500 : Int) ≤ ((e.Log.length : Nat) : Int))), (fun hj => ?_), (fun hj => ?_), hf.wk Y, hs⟩)))))
       ·have prj := odT hj ; first | exact pb_y (by assumption) (by assumption) (by assumption) (by omega) (by omega) (by omega) | exact pb_s (by assumption) (by assumption) (by omega) (by omega) (by omega) (by omega) | exact pb_n1 (by assumption) | exact pb_n2 (by assumption) | exact pb_n3 (by assumption) | exact pb_n3s (by assumption) (by omega) | exact pb_n4 (by omega)
       ·have prj := odF hj ; first | exact pb_y (by assumption) (by assumption) (by assumption) (by omega) (by omega) (by omega) | exact pb_s (by assumption) (by assumption) (by omega) (by omega) (by omega) (by omega) | exact pb_n1 (by assumption) | exact pb_n2 (by assumption) | exact pb_n3 (by assumption) | exact pb_n3s (by assumption) (by omega) | exact pb_n4 (by omega)
 rintro ac w' ⟨jb34, hT35, hF36, hf, hs⟩
 refine D.use ?_ hf hs
 clear hf hs ac w'
 refine Xt (Ci _ Y (fun h37 => ?_) (fun h37 => ?_))
 ·have pr37 := hT35 h37
  refine Sr (q1 Y (lbw 0 a_66 Y Y Y) (li Y (D_stb (vs := [v20, v21, (iv e.Clock), v22, (.bool e.Halted), v23]) (cs' := [v20, v21, (iv e.Clock), v22, (.bool e.Halted), v23]) 2 z_66 Y Y Y Y Y Y (ocons ho24 (ocons ho25 (ocons Y (ocons ho26 (ocons Y (ocons ho27 onil)))))) (by simp) Y ?_)))
  refine Pe Y (Ct (Xr (D_fbool false (D_pkO [2, 0, 1, 3, 4, 5] Y (R_2g Y (rvc (cs := [v20, v21, (iv e.Clock), v22, (.bool e.Halted), v23]) 3 a_66 Y Y) (rvt Y) fun w' hs => res2_of (c1 := [v20, v21, (iv e.Clock), v22, (.bool e.Halted), v23]) (c2 := [(.bool false)]) hs ?_ ?_)))))
  ·show (e : Engine) = putE e f
   first | exact (put_y (by assumption)).1 | exact (put_y (by assumption)).2 | exact (put_n (by assumption)).1 | exact (put_n (by assumption)).2
  ·show (false : Bool) = putB e f
   first | exact (put_y (by assumption)).1 | exact (put_y (by assumption)).2 | exact (put_n (by assumption)).1 | exact (put_n (by assumption)).2
 ·have pr37 := hF36 h37
  refine Sk (Sr (q1 Y (lbw 3 a_70 Y Y Y) (D_pbc (li Y (cm b_94 Y Y Y Y (fun w' hs => impl_add _ _ w' g28 e [(.string f.Rel), u13] f 1 ⟨#[]⟩ (fun w' hs => (rA hs h_f)) (by first | assumption | omega) (by first | assumption | omega) (by first | assumption | omega) (by have := eng_parts (pb_eng (by assumption : putB e f = true)); omega) htb hs) ?_)))))
  refine D_pbo fun cs38 => ?_
  refine Dp (fun w' hs => shape_Engine (rO (k := 1) hs Y)) ?_
  rintro ⟨v39, v40, v41, v42, rfl, ho43, ho44, ho45, ho46⟩
  refine Dx (Dh ([bx g28 [v39, v40, (iv ((addE e f 1 (⟨#[]⟩)).Clock)), v41, (.bool ((addE e f 1 (⟨#[]⟩)).Halted)), v42], ov [v39, v40, (iv ((addE e f 1 (⟨#[]⟩)).Clock)), v41, (.bool ((addE e f 1 (⟨#[]⟩)).Halted)), v42] (addE e f 1 (⟨#[]⟩) : Engine), _, _, _]) Y (Sr (q1 Y (lbw 0 a_66 Y Y Y) (li Y (D_stb (vs := [v39, v40, (iv ((addE e f 1 (⟨#[]⟩)).Clock)), v41, (.bool ((addE e f 1 (⟨#[]⟩)).Halted)), v42]) (cs' := [v39, v40, (iv ((addE e f 1 (⟨#[]⟩)).Clock)), v41, (.bool ((addE e f 1 (⟨#[]⟩)).Halted)), v42]) 2 z_66 Y Y Y Y Y Y (ocons ho43 (ocons ho44 (ocons Y (ocons ho45 (ocons Y (ocons ho46 onil)))))) (by simp) Y ?_)))))
  refine Pe Y (Ct (D_fbool true (D_pkO [2, 0, 1, 3, 4, 5] Y (R_2g Y (rvc (cs := [v39, v40, (iv ((addE e f 1 (⟨#[]⟩)).Clock)), v41, (.bool ((addE e f 1 (⟨#[]⟩)).Halted)), v42]) 3 a_66 Y Y) (rvt Y) fun w' hs => res2_of (c1 := [v39, v40, (iv ((addE e f 1 (⟨#[]⟩)).Clock)), v41, (.bool ((addE e f 1 (⟨#[]⟩)).Halted)), v42]) (c2 := [(.bool true)]) hs ?_ ?_))))
  ·show (addE e f 1 (⟨#[]⟩) : Engine) = putE e f
   first | exact (put_y (by assumption)).1 | exact (put_y (by assumption)).2 | exact (put_n (by assumption)).1 | exact (put_n (by assumption)).2
  ·show (true : Bool) = putB e f
   first | exact (put_y (by assumption)).1 | exact (put_y (by assumption)).2 | exact (put_n (by assumption)).1 | exact (put_n (by assumption)).2
theorem spec_PutFact {w : World} {c_e : List Value} {e : Engine} {c_f : List Value} {f : Fact} (h_e : Gd.rd w c_e e) (h_f : Gd.rd w c_f f) (hn : szEngine e ≤ 1048576) (hfz : szFa f ≤ 1048576) (ho : okEngine e) (hof : okFa f) : Calls Tryz.prog 34 [(.agg c_e.toArray), (.agg c_f.toArray)].toArray w (Res2 w (putE e f : Engine) (putB e f : Bool)) := by
 obtain ⟨u1, u3, u5, u7, rfl, hu2, hu4, hu6, hu8⟩ := open_Engine h_e
 have hm9 := rd_max hu2
 have hm10 := rd_max hu4
 have hm11 := rd_max hu6
 have hm12 := rd_max hu8
 obtain ⟨u13, rfl, hu14⟩ := open_Fact h_f
 have hm15 := rd_max hu14
 have hn0 := hn
 unfold szEngine szL at hn
 refine enter 45 Tryz.func34 Y Y Y (Sr (li Y (D_box Y Y Y Y Y fun g16 => ?_)))
 refine li Y (D_box Y Y Y Y Y fun g17 => ?_)
 refine li Y (D_alloc y_66 Y Y Y Y fun g18 => ?_)
 refine Pe Y (Dh ([bx g18 [(.slice none 0 0), (.slice none 0 0), (iv 0), (.slice none 0 0), (.bool false), (.slice none 0 0)], bx g17 [(.string f.Rel), u13], bx g16 [u1, u3, (iv e.Clock), u5, (.bool e.Halted), u7]]) Y (Sr (q1 Y (lbw 2 a_66 Y Y Y) (li Y (crs Y b_71 Y Y Y Y (fun w' hs => (spec_l10Copy (rA hs h_e) hn0)) fun cs19 => ?_)))))
 refine Dp (fun w' hs => shape_Engine (rO (k := 0) hs Y)) ?_
 rintro ⟨v20, v21, v22, v23, rfl, ho24, ho25, ho26, ho27⟩
 refine li Y (D_alloc y_66 Y Y Y Y fun g28 => ?_)
 refine li Y (D_stb (vs := [v20, v21, (iv e.Clock), v22, (.bool e.Halted), v23]) (cs' := [v20, v21, (iv e.Clock), v22, (.bool e.Halted), v23]) 0 z_66 Y Y Y Y Y Y (ocons ho24 (ocons ho25 (ocons Y (ocons ho26 (ocons Y (ocons ho27 onil)))))) (by simp) Y ?_)
 refine Dx (Dh ([bx g28 [v20, v21, (iv e.Clock), v22, (.bool e.Halted), v23], ov [v20, v21, (iv e.Clock), v22, (.bool e.Halted), v23] (e : Engine), _, _, _]) Y (Cq (Cq (C_join (fun ac w' => ∃ (jb : Bool), (jb = true → putB e f = false) ∧ (jb = false → putB e f = true) ∧ Fits ac 45 [(3, (pv g17)), (4, (pv g18)), (6, (pv g28)), (40, (.bool jb))] ∧ St w ([bx g28 [v20, v21, (iv e.Clock), v22, (.bool e.Halted), v23], ov [v20, v21, (iv e.Clock), v22, (.bool e.Halted), v23] (e : Engine), bx g18 [(.slice none 0 0), (.slice none 0 0), (iv 0), (.slice none 0 0), (.bool false), (.slice none 0 0)], bx g17 [(.string f.Rel), u13], bx g16 [u1, u3, (iv e.Clock), u5, (.bool e.Halted), u7]]) w') ?_ ?_))))
 ·refine Cr (q1 Y (lbw 4 a_66 Y Y Y) (li Y (cv b_72 Y Y Y Y (fun w' hs => (spec_IsEngine (rA hs h_e) hn0 ho)) ?_)))
  refine P2 Y Y (gs 12 Y Y (fun h29 => ?_) (fun h29 => ?_))
  ·have h29n := not_t h29
   refine n1 Y (n1 Y (n1 Y (P2 Y Y (n1 Y (n1 Y (n1 Y (n1 Y (n1 Y (P2 Y Y (n1 Y (n1 Y (n1 Y (n1 Y (P2 Y Y (n1 Y (n1 Y (n1 Y (P2 Y Y (n1 Y (n1 Y (n1 Y (n1 Y (p1 Y ?_)))))))))))))))))))))))
   refine Dx (fun ac w' hf hs => ⟨true, (fun hj => ?_), (fun hj => by cases hj), hf.wk Y, hs⟩)
   ·first | exact pb_y (by assumption) (by assumption) (by assumption) (by omega) (by omega) (by omega) | exact pb_s (by assumption) (by assumption) (by omega) (by omega) (by omega) (by omega) | exact pb_n1 (by assumption) | exact pb_n2 (by assumption) | exact pb_n3 (by assumption) | exact pb_n3s (by assumption) (by omega) | exact pb_n4 (by omega)
  ·have h29n := not_f h29
   refine q1 Y (lbw 3 a_70 Y Y Y) (li Y (cv b_91 Y Y Y Y (fun w' hs => (spec_IsFact (rA hs h_f) hof)) ?_))
   refine P3 Y Y Y (gs 17 Y Y (fun h30 => ?_) (fun h30 => ?_))
   ·have h30n := not_t h30
    refine n1 Y (n1 Y (n1 Y (n1 Y (n1 Y (P2 Y Y (n1 Y (n1 Y (n1 Y (n1 Y (P2 Y Y (n1 Y (n1 Y (n1 Y (P2 Y Y (n1 Y (n1 Y (n1 Y (n1 Y (Pe Y (fun ac w' hf hs => ⟨true, (fun hj => ?_), (fun hj => by cases hj), hf.wk Y, hs⟩))))))))))))))))))))
    ·first | exact pb_y (by assumption) (by assumption) (by assumption) (by omega) (by omega) (by omega) | exact pb_s (by assumption) (by assumption) (by omega) (by omega) (by omega) (by omega) | exact pb_n1 (by assumption) | exact pb_n2 (by assumption) | exact pb_n3 (by assumption) | exact pb_n3s (by assumption) (by omega) | exact pb_n4 (by omega)
   ·have h30n := not_f h30
    refine q1 Y (Db f_66_1 Y Y (q := 1) Y) (q1 Y (lb 4 o_42 Y Y Y Y) (q1 Y (lbw 3 a_70 Y Y Y) (li Y (cv b_73 Y Y Y Y (fun w' hs => (spec_TimeOf (rA hs hu4) (rA hs h_f))) ?_))))
    refine P3 Y Y Y (gs 24 Y Y (fun h31 => ?_) (fun h31 => ?_))
    ·have pr31 := odT h31
     refine n1 Y (n1 Y (n1 Y (n1 Y (P2 Y Y (n1 Y (n1 Y (n1 Y (P2 Y Y (n1 Y (n1 Y (n1 Y (n1 Y (Pe Y (fun ac w' hf hs => ⟨true, (fun hj => ?_), (fun hj => by cases hj), hf.wk Y, hs⟩))))))))))))))
     ·first | exact pb_y (by assumption) (by assumption) (by assumption) (by omega) (by omega) (by omega) | exact pb_s (by assumption) (by assumption) (by omega) (by omega) (by omega) (by omega) | exact pb_n1 (by assumption) | exact pb_n2 (by assumption) | exact pb_n3 (by assumption) | exact pb_n3s (by assumption) (by omega) | exact pb_n4 (by omega)
    ·have pr31 := odF h31
     refine q1 Y (Db f_66_1 Y Y (q := 1) Y) (q1 Y (lb 4 o_42 Y Y Y Y) (q1 Y (Dl s_42 Y Y (rd_sl hu4)) (P3 Y Y Y (gs 30 Y Y (fun h32 => ?_) (fun h32 => ?_)))))
     ·have pr32 := eq_of_beq h32
      refine n1 Y (n1 Y (n1 Y (P2 Y Y (n1 Y (n1 Y (n1 Y (n1 Y (Pe Y (fun ac w' hf hs => ⟨true, (fun hj => ?_), (fun hj => by cases hj), hf.wk Y, hs⟩)))))))))
      ·first | exact pb_y (by assumption) (by assumption) (by assumption) (by omega) (by omega) (by omega) | exact pb_s (by assumption) (by assumption) (by omega) (by omega) (by omega) (by omega) | exact pb_n1 (by assumption) | exact pb_n2 (by assumption) | exact pb_n3 (by assumption) | exact pb_n3s (by assumption) (by omega) | exact pb_n4 (by omega)
     ·have pr32 := ne_of_beq_false h32
      refine q1 Y (Db f_66_2 Y Y (q := 2) Y) (q1 Y (lb 4 o_3 Y Y Y Y) (P3 Y Y Y (gs 35 Y Y (fun h33 => ?_) (fun h33 => ?_))))
      ·have pr33 := eq_of_beq h33
       refine n1 Y (n1 Y (n1 Y (n1 Y (Pe Y (fun ac w' hf hs => ⟨true, (fun hj => ?_), (fun hj => by cases hj), hf.wk Y, hs⟩)))))
       ·first | exact pb_y (by assumption) (by assumption) (by assumption) (by omega) (by omega) (by omega) | exact pb_s (by assumption) (by assumption) (by omega) (by omega) (by omega) (by omega) | exact pb_n1 (by assumption) | exact pb_n2 (by assumption) | exact pb_n3 (by assumption) | exact pb_n3s (by assumption) (by omega) | exact pb_n4 (by omega)
      ·have pr33 := ne_of_beq_false h33
       refine q1 Y (Db f_66_5 Y Y (q := 5) Y) (q1 Y (lb 4 o_64 Y Y Y Y) (q1 Y (Dl s_64 Y Y (rd_sl hu8)) (P2 Y Y (Dx (fun ac w' hf hs => ⟨((((e.Log.length : Nat) : Int) : Int) == 500), (fun hj => ?_), (fun hj => ?_), hf.wk Y, hs⟩)))))
       ·have prj := eq_of_beq hj ; first | exact pb_y (by assumption) (by assumption) (by assumption) (by omega) (by omega) (by omega) | exact pb_s (by assumption) (by assumption) (by omega) (by omega) (by omega) (by omega) | exact pb_n1 (by assumption) | exact pb_n2 (by assumption) | exact pb_n3 (by assumption) | exact pb_n3s (by assumption) (by omega) | exact pb_n4 (by omega)
       ·have prj := ne_of_beq_false hj ; first | exact pb_y (by assumption) (by assumption) (by assumption) (by omega) (by omega) (by omega) | exact pb_s (by assumption) (by assumption) (by omega) (by omega) (by omega) (by omega) | exact pb_n1 (by assumption) | exact pb_n2 (by assumption) | exact pb_n3 (by assumption) | exact pb_n3s (by assumption) (by omega) | exact pb_n4 (by omega)
 rintro ac w' ⟨jb34, hT35, hF36, hf, hs⟩
 refine D.use ?_ hf hs
 clear hf hs ac w'
 refine Xt (Ci _ Y (fun h37 => ?_) (fun h37 => ?_))
 ·have pr37 := hT35 h37
  refine Sr (q1 Y (lbw 0 a_66 Y Y Y) (li Y (D_stb (vs := [v20, v21, (iv e.Clock), v22, (.bool e.Halted), v23]) (cs' := [v20, v21, (iv e.Clock), v22, (.bool e.Halted), v23]) 2 z_66 Y Y Y Y Y Y (ocons ho24 (ocons ho25 (ocons Y (ocons ho26 (ocons Y (ocons ho27 onil)))))) (by simp) Y ?_)))
  refine Pe Y (Ct (Xr (D_fbool false (D_pkO [2, 0, 1, 3, 4, 5] Y (R_2g Y (rvc (cs := [v20, v21, (iv e.Clock), v22, (.bool e.Halted), v23]) 3 a_66 Y Y) (rvt Y) fun w' hs => res2_of (c1 := [v20, v21, (iv e.Clock), v22, (.bool e.Halted), v23]) (c2 := [(.bool false)]) hs ?_ ?_)))))
  ·show (e : Engine) = putE e f
   first | exact (put_y (by assumption)).1 | exact (put_y (by assumption)).2 | exact (put_n (by assumption)).1 | exact (put_n (by assumption)).2
  ·show (false : Bool) = putB e f
   first | exact (put_y (by assumption)).1 | exact (put_y (by assumption)).2 | exact (put_n (by assumption)).1 | exact (put_n (by assumption)).2
 ·have pr37 := hF36 h37
  refine Sk (Sr (q1 Y (lbw 3 a_70 Y Y Y) (D_pbc (li Y (cm b_92 Y Y Y Y (fun w' hs => spec_l10Add _ _ w' g28 e [(.string f.Rel), u13] f 1 ⟨#[]⟩ (fun w' hs => (rA hs h_f)) (by first | assumption | omega) (by first | assumption | omega) (by first | assumption | omega) (by have := eng_parts (pb_eng (by assumption : putB e f = true)); omega) hs) ?_)))))
  refine D_pbo fun cs38 => ?_
  refine Dp (fun w' hs => shape_Engine (rO (k := 1) hs Y)) ?_
  rintro ⟨v39, v40, v41, v42, rfl, ho43, ho44, ho45, ho46⟩
  refine Dx (Dh ([bx g28 [v39, v40, (iv ((addE e f 1 (⟨#[]⟩)).Clock)), v41, (.bool ((addE e f 1 (⟨#[]⟩)).Halted)), v42], ov [v39, v40, (iv ((addE e f 1 (⟨#[]⟩)).Clock)), v41, (.bool ((addE e f 1 (⟨#[]⟩)).Halted)), v42] (addE e f 1 (⟨#[]⟩) : Engine), _, _, _]) Y (Sr (q1 Y (lbw 0 a_66 Y Y Y) (li Y (D_stb (vs := [v39, v40, (iv ((addE e f 1 (⟨#[]⟩)).Clock)), v41, (.bool ((addE e f 1 (⟨#[]⟩)).Halted)), v42]) (cs' := [v39, v40, (iv ((addE e f 1 (⟨#[]⟩)).Clock)), v41, (.bool ((addE e f 1 (⟨#[]⟩)).Halted)), v42]) 2 z_66 Y Y Y Y Y Y (ocons ho43 (ocons ho44 (ocons Y (ocons ho45 (ocons Y (ocons ho46 onil)))))) (by simp) Y ?_)))))
  refine Pe Y (Ct (D_fbool true (D_pkO [2, 0, 1, 3, 4, 5] Y (R_2g Y (rvc (cs := [v39, v40, (iv ((addE e f 1 (⟨#[]⟩)).Clock)), v41, (.bool ((addE e f 1 (⟨#[]⟩)).Halted)), v42]) 3 a_66 Y Y) (rvt Y) fun w' hs => res2_of (c1 := [v39, v40, (iv ((addE e f 1 (⟨#[]⟩)).Clock)), v41, (.bool ((addE e f 1 (⟨#[]⟩)).Halted)), v42]) (c2 := [(.bool true)]) hs ?_ ?_))))
  ·show (addE e f 1 (⟨#[]⟩) : Engine) = putE e f
   first | exact (put_y (by assumption)).1 | exact (put_y (by assumption)).2 | exact (put_n (by assumption)).1 | exact (put_n (by assumption)).2
  ·show (true : Bool) = putB e f
   first | exact (put_y (by assumption)).1 | exact (put_y (by assumption)).2 | exact (put_n (by assumption)).1 | exact (put_n (by assumption)).2
set_option maxHeartbeats 4000000 in
theorem laws_FnExactPutFact (w : World) (c_aE : List Value) (aE : Engine) (c_aF : List Value) (aF : Fact) (h_aE : Gd.rd w c_aE aE) (h_aF : Gd.rd w c_aF aF) (hok : okEngine aE) (hok2 : okFa aF) (htb : Tb w) : Calls Tryz.prog 5 [(.agg c_aE.toArray), (.agg c_aF.toArray)].toArray w (Val w (.bool (true))) := by
 obtain ⟨u1, u3, u5, u7, rfl, hu2, hu4, hu6, hu8⟩ := open_Engine h_aE
 have hm9 := rd_max hu2
 have hm10 := rd_max hu4
 have hm11 := rd_max hu6
 have hm12 := rd_max hu8
 obtain ⟨u13, rfl, hu14⟩ := open_Fact h_aF
 have hm15 := rd_max hu14
 have hz2 := cEn_put aE aF
 have hz4 := cEn_mk 1 (putE aE aF)
 have hz5 := cEn_le aE
 have hz6 := cF1_le aF
 refine enter 119 Tryz.func5 Y Y Y (Sr (li Y (D_box Y Y Y Y Y fun g16 => ?_)))
 refine li Y (D_box Y Y Y Y Y fun g17 => ?_)
 refine Pe Y (Dh ([bx g17 [(.string aF.Rel), u13], bx g16 [u1, u3, (iv aE.Clock), u5, (.bool aE.Halted), u7]]) Y (Sr (Pe Y (Sr (q1 Y (lbw 1 a_57 Y Y Y) (p1 Y (li Y (cv b_23 Y Y Y Y (fun w' hs => (laws_szEngine (rA hs h_aE) (by first | assumption | omega | (unfold szm at *; split at * <;> omega)) (by first | assumption | omega | (unfold szm at *; split at * <;> omega)) hok)) ?_))))))))
 refine Pe Y (Cq (Sr (P2 Y Y (Dx (Ci _ Y (fun h18 => ?_) (fun h18 => ?_))))))
 ·have pr18 := odT h18
  refine Sr (Pe Y (Ct (Xr (Rb Y Y ?_))))
  first | rfl | (exfalso; omega) | (exfalso; simp only [cEn_mk] at *; omega) | exact absurd h18 (by simp)
 ·have pr18 := odF h18
  have pr18z := szm_val pr18
  refine Sk (Sr (q1 Y (lbw 0 a_60 Y Y Y) (p1 Y (li Y (cv b_24 Y Y Y Y (fun w' hs => (laws_szFact (rA hs h_aF) (by first | assumption | omega | (unfold szm at *; split at * <;> omega)) (by first | assumption | omega | (unfold szm at *; split at * <;> omega)) hok2)) ?_)))))
  refine Pe Y (Cq (Sr (P2 Y Y (Dx (Ci _ Y (fun h19 => ?_) (fun h19 => ?_))))))
  ·have pr19 := odT h19
   refine Sr (Pe Y (Ct (Xr (Rb Y Y ?_))))
   first | rfl | (exfalso; omega) | (exfalso; simp only [cEn_mk] at *; omega) | exact absurd h19 (by simp)
  ·have pr19 := odF h19
   have pr19z := szm_val pr19
   refine Sk (Cq (C_join (fun ac w' => ∃ (g42 : Nat), ∃ (v34 : Value), ∃ (v35 : Value), ∃ (v36 : Value), ∃ (v37 : Value), (v34.oneCell' = true) ∧ (v35.oneCell' = true) ∧ (v36.oneCell' = true) ∧ (v37.oneCell' = true) ∧ Fits ac 119 [(2, (pv g16)), (3, (pv g17)), (6, (pv g42)), (7, (.bool (putB aE aF)))] ∧ St w ([bx g42 [v34, v35, (iv ((putE aE aF).Clock)), v36, (.bool ((putE aE aF).Halted)), v37], ov [v34, v35, (iv ((putE aE aF).Clock)), v36, (.bool ((putE aE aF).Halted)), v37] (putE aE aF : Engine), bx g17 [(.string aF.Rel), u13], bx g16 [u1, u3, (iv aE.Clock), u5, (.bool aE.Halted), u7]]) w') ?_ ?_))
   ·refine C_draw mixed [] (by kernel_rfl) (Tk 0 Y (by kernel_rfl) Y (lbw 1 a_57 Y Y Y) (Tk 2 Y (by kernel_rfl) Y (lbw 0 a_60 Y Y Y) (tyN [1, 8] Y (by kernel_rfl) ⟨⟨_, Y, Y, ?_⟩, ⟨_, Y, Y, ?_⟩, trivial⟩)))
    ·refine id (crs Y b_26 Y Y Y Y (fun w' hs => (laws_toEngine (rA hs h_aE) (by first | assumption | omega | (unfold szm at *; split at * <;> omega)))) fun cs20 => ?_)
     refine Dp (fun w' hs => shape_Engine (rO (k := 0) hs Y)) ?_
     rintro ⟨v21, v22, v23, v24, rfl, ho25, ho26, ho27, ho28⟩
     refine tS (fun _ hs => hs.pk [1, 2] Y Y) (tyN [3, 8] Y (by kernel_rfl) ⟨⟨_, Y, Y, ?_⟩, ⟨_, Y, Y, ?_⟩, trivial⟩)
     ·refine id (crs Y b_27 Y Y Y Y (fun w' hs => (laws_toFact (rA hs h_aF) (by first | assumption | omega | (unfold szm at *; split at * <;> omega)))) fun cs29 => ?_)
      refine Dp (fun w' hs => shape_Fact (rO (k := 0) hs Y)) ?_
      rintro ⟨v30, rfl, ho31⟩
      refine tS (fun _ hs => hs.pk [2, 3] Y Y) (tyN [4, 8] Y (by kernel_rfl) ⟨⟨_, Y, Y, ?_⟩, ⟨_, Y, Y, ?_⟩, trivial⟩)
      ·refine id (cr2 b_34 Y Y Y Y (fun w' hs => (spec_PutFact (rO (k := 1) hs Y) (rO (k := 0) hs Y) (by first | assumption | omega | (unfold szm at *; split at * <;> omega)) (by first | assumption | omega | (unfold szm at *; split at * <;> omega)) hok hok2)) fun cs32 cs33 => ?_)
       refine Dp (fun w' hs => shape_Engine (rO (k := 0) hs Y)) ?_
       rintro ⟨v34, v35, v36, v37, rfl, ho38, ho39, ho40, ho41⟩
       refine Dp (fun w' hs => show cs33 = [(.bool (putB aE aF))] from rO (k := 1) hs Y) ?_
       rintro rfl
       refine D_re 32 (v' := (.tuple #[(.agg #[v34, v35, (iv ((putE aE aF).Clock)), v36, (.bool ((putE aE aF).Halted)), v37]), (.bool (putB aE aF))])) Y Y Y (D_pkO [0, 2, 3, 4, 5] Y (tS (fun _ hs => hs.pk [3, 4] Y Y) (Tj 5 Y (by kernel_rfl) Y (fun _ hs => hs.pk [3, 4] Y Y) (rp Y) (Tj 6 Y (by kernel_rfl) Y (fun _ hs => hs.pk [3, 4] Y Y) (rp Y) (Tj 7 Y (by kernel_rfl) Y (fun _ hs => hs.pk [3, 4] Y Y) (rp Y) (ty 8 Y (by kernel_rfl) Y (D_alloc y_66 Y Y Y Y fun g42 => ?_)))))))
       refine tS (fun _ hs => hs.pk [4, 5] Y Y) (ty 9 Y (by kernel_rfl) Y (D_stb (vs := [v34, v35, (iv ((putE aE aF).Clock)), v36, (.bool ((putE aE aF).Halted)), v37]) (cs' := [v34, v35, (iv ((putE aE aF).Clock)), v36, (.bool ((putE aE aF).Halted)), v37]) 0 z_66 Y Y Y Y Y Y (ocons ho38 (ocons ho39 (ocons Y (ocons ho40 (ocons Y (ocons ho41 onil)))))) (by simp) Y ?_))
       refine tS (fun _ hs => hs.pk [4, 5] Y Y) (Tj 10 Y (by kernel_rfl) Y (fun _ hs => hs.pk [4, 5] Y Y) (rp Y) (tE (by kernel_rfl) (Xt (fun ac w' hf hs => ⟨g42, v34, v35, v36, v37, ho38, ho39, ho40, ho41, hf.wk Y, hs.pk [0, 1, 4, 5] Y Y⟩))))
      ·refine id (D_alloc y_66 Y Y Y Y fun g43 => ?_)
       refine tS (fun _ hs => hs.pk [3, 4] Y Y) (ty 4 Y (by kernel_rfl) Y (cr2 b_34 Y Y Y Y (fun w' hs => (spec_PutFact (rO (k := 2) hs Y) (rO (k := 1) hs Y) (by first | assumption | omega | (unfold szm at *; split at * <;> omega)) (by first | assumption | omega | (unfold szm at *; split at * <;> omega)) hok hok2)) fun cs44 cs45 => ?_))
       refine Dp (fun w' hs => shape_Engine (rO (k := 0) hs Y)) ?_
       rintro ⟨v46, v47, v48, v49, rfl, ho50, ho51, ho52, ho53⟩
       refine Dp (fun w' hs => show cs45 = [(.bool (putB aE aF))] from rO (k := 1) hs Y) ?_
       rintro rfl
       refine D_re 32 (v' := (.tuple #[(.agg #[v46, v47, (iv ((putE aE aF).Clock)), v48, (.bool ((putE aE aF).Halted)), v49]), (.bool (putB aE aF))])) Y Y Y (D_pkO [0, 2, 3, 4, 5, 6] Y (tS (fun _ hs => hs.pk [4, 5] Y Y) (Tj 5 Y (by kernel_rfl) Y (fun _ hs => hs.pk [4, 5] Y Y) (rp Y) (Tj 6 Y (by kernel_rfl) Y (fun _ hs => hs.pk [4, 5] Y Y) (rp Y) (Tj 7 Y (by kernel_rfl) Y (fun _ hs => hs.pk [4, 5] Y Y) (rp Y) (ty 9 Y (by kernel_rfl) Y (D_stb (vs := [v46, v47, (iv ((putE aE aF).Clock)), v48, (.bool ((putE aE aF).Halted)), v49]) (cs' := [v46, v47, (iv ((putE aE aF).Clock)), v48, (.bool ((putE aE aF).Halted)), v49]) 1 z_66 Y Y Y Y Y Y (ocons ho50 (ocons ho51 (ocons Y (ocons ho52 (ocons Y (ocons ho53 onil)))))) (by simp) Y ?_)))))))
       refine tS (fun _ hs => hs.pk [4, 5] Y Y) (Tj 10 Y (by kernel_rfl) Y (fun _ hs => hs.pk [4, 5] Y Y) (rp Y) (tE (by kernel_rfl) (Xt (fun ac w' hf hs => ⟨g43, v46, v47, v48, v49, ho50, ho51, ho52, ho53, hf.wk Y, hs.pk [1, 0, 4, 5] Y Y⟩))))
     ·refine id (D_alloc y_66 Y Y Y Y fun g54 => ?_)
      refine tS (fun _ hs => hs.pk [2, 3] Y Y) (ty 3 Y (by kernel_rfl) Y (crs Y b_27 Y Y Y Y (fun w' hs => (laws_toFact (rA hs h_aF) (by first | assumption | omega | (unfold szm at *; split at * <;> omega)))) fun cs55 => ?_))
      refine Dp (fun w' hs => shape_Fact (rO (k := 0) hs Y)) ?_
      rintro ⟨v56, rfl, ho57⟩
      refine tS (fun _ hs => hs.pk [3, 4] Y Y) (ty 4 Y (by kernel_rfl) Y (cr2 b_34 Y Y Y Y (fun w' hs => (spec_PutFact (rO (k := 2) hs Y) (rO (k := 0) hs Y) (by first | assumption | omega | (unfold szm at *; split at * <;> omega)) (by first | assumption | omega | (unfold szm at *; split at * <;> omega)) hok hok2)) fun cs58 cs59 => ?_))
      refine Dp (fun w' hs => shape_Engine (rO (k := 0) hs Y)) ?_
      rintro ⟨v60, v61, v62, v63, rfl, ho64, ho65, ho66, ho67⟩
      refine Dp (fun w' hs => show cs59 = [(.bool (putB aE aF))] from rO (k := 1) hs Y) ?_
      rintro rfl
      refine D_re 32 (v' := (.tuple #[(.agg #[v60, v61, (iv ((putE aE aF).Clock)), v62, (.bool ((putE aE aF).Halted)), v63]), (.bool (putB aE aF))])) Y Y Y (D_pkO [0, 2, 3, 4, 5, 6] Y (tS (fun _ hs => hs.pk [4, 5] Y Y) (Tj 5 Y (by kernel_rfl) Y (fun _ hs => hs.pk [4, 5] Y Y) (rp Y) (Tj 6 Y (by kernel_rfl) Y (fun _ hs => hs.pk [4, 5] Y Y) (rp Y) (Tj 7 Y (by kernel_rfl) Y (fun _ hs => hs.pk [4, 5] Y Y) (rp Y) (ty 9 Y (by kernel_rfl) Y (D_stb (vs := [v60, v61, (iv ((putE aE aF).Clock)), v62, (.bool ((putE aE aF).Halted)), v63]) (cs' := [v60, v61, (iv ((putE aE aF).Clock)), v62, (.bool ((putE aE aF).Halted)), v63]) 2 z_66 Y Y Y Y Y Y (ocons ho64 (ocons ho65 (ocons Y (ocons ho66 (ocons Y (ocons ho67 onil)))))) (by simp) Y ?_)))))))
      refine tS (fun _ hs => hs.pk [4, 5] Y Y) (Tj 10 Y (by kernel_rfl) Y (fun _ hs => hs.pk [4, 5] Y Y) (rp Y) (tE (by kernel_rfl) (Xt (fun ac w' hf hs => ⟨g54, v60, v61, v62, v63, ho64, ho65, ho66, ho67, hf.wk Y, hs.pk [2, 0, 4, 5] Y Y⟩))))
    ·refine id (D_alloc y_66 Y Y Y Y fun g68 => ?_)
     refine tS (fun _ hs => hs.pk [1, 2] Y Y) (ty 1 Y (by kernel_rfl) Y (crs Y b_26 Y Y Y Y (fun w' hs => (laws_toEngine (rA hs h_aE) (by first | assumption | omega | (unfold szm at *; split at * <;> omega)))) fun cs69 => ?_))
     refine Dp (fun w' hs => shape_Engine (rO (k := 0) hs Y)) ?_
     rintro ⟨v70, v71, v72, v73, rfl, ho74, ho75, ho76, ho77⟩
     refine tS (fun _ hs => hs.pk [2, 3] Y Y) (ty 3 Y (by kernel_rfl) Y (crs Y b_27 Y Y Y Y (fun w' hs => (laws_toFact (rA hs h_aF) (by first | assumption | omega | (unfold szm at *; split at * <;> omega)))) fun cs78 => ?_))
     refine Dp (fun w' hs => shape_Fact (rO (k := 0) hs Y)) ?_
     rintro ⟨v79, rfl, ho80⟩
     refine tS (fun _ hs => hs.pk [3, 4] Y Y) (ty 4 Y (by kernel_rfl) Y (cr2 b_34 Y Y Y Y (fun w' hs => (spec_PutFact (rO (k := 1) hs Y) (rO (k := 0) hs Y) (by first | assumption | omega | (unfold szm at *; split at * <;> omega)) (by first | assumption | omega | (unfold szm at *; split at * <;> omega)) hok hok2)) fun cs81 cs82 => ?_))
     refine Dp (fun w' hs => shape_Engine (rO (k := 0) hs Y)) ?_
     rintro ⟨v83, v84, v85, v86, rfl, ho87, ho88, ho89, ho90⟩
     refine Dp (fun w' hs => show cs82 = [(.bool (putB aE aF))] from rO (k := 1) hs Y) ?_
     rintro rfl
     refine D_re 32 (v' := (.tuple #[(.agg #[v83, v84, (iv ((putE aE aF).Clock)), v85, (.bool ((putE aE aF).Halted)), v86]), (.bool (putB aE aF))])) Y Y Y (D_pkO [0, 2, 3, 4, 5, 6] Y (tS (fun _ hs => hs.pk [4, 5] Y Y) (Tj 5 Y (by kernel_rfl) Y (fun _ hs => hs.pk [4, 5] Y Y) (rp Y) (Tj 6 Y (by kernel_rfl) Y (fun _ hs => hs.pk [4, 5] Y Y) (rp Y) (Tj 7 Y (by kernel_rfl) Y (fun _ hs => hs.pk [4, 5] Y Y) (rp Y) (ty 9 Y (by kernel_rfl) Y (D_stb (vs := [v83, v84, (iv ((putE aE aF).Clock)), v85, (.bool ((putE aE aF).Halted)), v86]) (cs' := [v83, v84, (iv ((putE aE aF).Clock)), v85, (.bool ((putE aE aF).Halted)), v86]) 3 z_66 Y Y Y Y Y Y (ocons ho87 (ocons ho88 (ocons Y (ocons ho89 (ocons Y (ocons ho90 onil)))))) (by simp) Y ?_)))))))
     refine tS (fun _ hs => hs.pk [4, 5] Y Y) (Tj 10 Y (by kernel_rfl) Y (fun _ hs => hs.pk [4, 5] Y Y) (rp Y) (tE (by kernel_rfl) (Xt (fun ac w' hf hs => ⟨g68, v83, v84, v85, v86, ho87, ho88, ho89, ho90, hf.wk Y, hs.pk [3, 0, 4, 5] Y Y⟩))))
   rintro ac w' ⟨g42, v34, v35, v36, v37, ho38, ho39, ho40, ho41, hf, hs⟩
   refine D.use ?_ hf hs
   clear hf hs ac w'
   refine Xt (Dh ([_, _, _, _]) Y (Sr (q1 Y (lbw 3 a_57 Y Y Y) (li Y (crs Y b_26 Y Y Y Y (fun w' hs => (laws_toEngine (rA hs h_aE) (by first | assumption | omega | (unfold szm at *; split at * <;> omega)))) fun cs91 => ?_)))))
   refine Dp (fun w' hs => shape_Engine (rO (k := 0) hs Y)) ?_
   rintro ⟨v92, v93, v94, v95, rfl, ho96, ho97, ho98, ho99⟩
   refine li Y (D_alloc y_66 Y Y Y Y fun g100 => ?_)
   refine li Y (D_stb (vs := [v92, v93, (iv aE.Clock), v94, (.bool aE.Halted), v95]) (cs' := [v92, v93, (iv aE.Clock), v94, (.bool aE.Halted), v95]) 0 z_66 Y Y Y Y Y Y (ocons ho96 (ocons ho97 (ocons Y (ocons ho98 (ocons Y (ocons ho99 onil)))))) (by simp) Y ?_)
   refine Dx (Dh ([bx g100 [v92, v93, (iv aE.Clock), v94, (.bool aE.Halted), v95], ov [v92, v93, (iv aE.Clock), v94, (.bool aE.Halted), v95] (aE : Engine), _, _, _, _]) Y (Sr (q1 Y (lbw 4 a_60 Y Y Y) (li Y (crs Y b_27 Y Y Y Y (fun w' hs => (laws_toFact (rA hs h_aF) (by first | assumption | omega | (unfold szm at *; split at * <;> omega)))) fun cs101 => ?_)))))
   refine Dp (fun w' hs => shape_Fact (rO (k := 0) hs Y)) ?_
   rintro ⟨v102, rfl, ho103⟩
   refine li Y (D_alloc y_70 Y Y Y Y fun g104 => ?_)
   refine li Y (D_stb (vs := [(.string aF.Rel), v102]) (cs' := [(.string aF.Rel), v102]) 0 z_70 Y Y Y Y Y Y (ocons Y (ocons ho103 onil)) (by simp) Y ?_)
   refine Dx (Dh ([bx g104 [(.string aF.Rel), v102], ov [(.string aF.Rel), v102] (aF : Fact), _, _, _, _, _, _]) Y (Sr (q1 Y (lbw 2 a_66 Y Y Y) (q1 Y (lbw 0 a_70 Y Y Y) (li Y (cr2 b_35 Y Y Y Y (fun w' hs => (impl_PutFact (rO (k := 3) hs Y) (rO (k := 1) hs Y) (by first | assumption | omega | (unfold szm at *; split at * <;> omega)) (by first | assumption | omega | (unfold szm at *; split at * <;> omega)) (Tb.ext htb hs.bel))) fun cs105 cs106 => ?_))))))
   refine Dp (fun w' hs => shape_Engine (rO (k := 0) hs Y)) ?_
   rintro ⟨v107, v108, v109, v110, rfl, ho111, ho112, ho113, ho114⟩
   refine Dp (fun w' hs => show cs106 = [(.bool (putB aE aF))] from rO (k := 1) hs Y) ?_
   rintro rfl
   refine D_re 42 (v' := (.tuple #[(.agg #[v107, v108, (iv ((putE aE aF).Clock)), v109, (.bool ((putE aE aF).Halted)), v110]), (.bool (putB aE aF))])) Y Y Y (D_pkO [0, 2, 3, 4, 5, 6, 7, 8, 9] Y (P3 Y Y Y (li Y (D_alloc y_66 Y Y Y Y fun g115 => ?_))))
   refine li Y (D_stb (vs := [v107, v108, (iv ((putE aE aF).Clock)), v109, (.bool ((putE aE aF).Halted)), v110]) (cs' := [v107, v108, (iv ((putE aE aF).Clock)), v109, (.bool ((putE aE aF).Halted)), v110]) 0 z_66 Y Y Y Y Y Y (ocons ho111 (ocons ho112 (ocons Y (ocons ho113 (ocons Y (ocons ho114 onil)))))) (by simp) Y ?_)
   refine Pe Y (Dh ([bx g115 [v107, v108, (iv ((putE aE aF).Clock)), v109, (.bool ((putE aE aF).Halted)), v110], ov [v107, v108, (iv ((putE aE aF).Clock)), v109, (.bool ((putE aE aF).Halted)), v110] (putE aE aF : Engine), _, _, _, _, _, _, _, _]) Y (Cq (Sr (q1 Y (lbw 0 a_66 Y Y Y) (q1 Y (lbw 6 a_66 Y Y Y) (li Y (cv b_29 Y Y Y Y (fun w' hs => (laws_eqEngine (rO (k := 1) hs Y) (rO (k := 7) hs Y))) ?_)))))))
   refine P2 Y Y (gs 49 Y Y (fun h116 => ?_) (fun h116 => ?_))
   ·have h116n := not_t h116
    refine n1 Y (n1 Y (n1 Y (Pe Y (D_wk [2, 3, 6, 7, 8, 9, 10, 11, 53] Y (C_t Y (Sr (Pe Y (Ct (Xr (Rb Y Y ?_))))))))))
    first | rfl | (exfalso; omega) | (exfalso; simp only [cEn_mk] at *; omega) | exact absurd h116 (by simp)
   ·have h116n := not_f h116
    refine P2 Y Y (q1 Y (D_neB ub_4 Y Y Y) (Pe Y (D_wk [2, 3, 6, 7, 8, 9, 10, 11, 53] Y (Ci _ Y (fun h117 => ?_) (fun h117 => ?_)))))
    ·refine Sr (Pe Y (Ct (Xr (Rb Y Y ?_))))
     first | rfl | (exfalso; omega) | (exfalso; simp only [cEn_mk] at *; omega) | exact absurd h117 (by simp)
    ·have pr117 := beq_of_not h117
     refine Sk (Cq (Cq (C_draw mixed [3, 4] (by kernel_rfl) (Tk 0 Y (by kernel_rfl) Y (lbw 4 a_66 Y Y Y) (Tk 1 Y (by kernel_rfl) Y (lbw 9 a_57 Y Y Y) (ty 2 Y (by kernel_rfl) Y (crs Y b_26 Y Y Y Y (fun w' hs => (laws_toEngine (rA hs h_aE) (by first | assumption | omega | (unfold szm at *; split at * <;> omega)))) fun cs118 => ?_)))))))
     refine Dp (fun w' hs => shape_Engine (rO (k := 0) hs Y)) ?_
     rintro ⟨v119, v120, v121, v122, rfl, ho123, ho124, ho125, ho126⟩
     refine tS (fun _ hs => hs.pk [1, 2, 3, 4, 5, 6, 7, 8, 9, 10] Y Y) (ty 3 Y (by kernel_rfl) Y (cv b_29 Y Y Y Y (fun w' hs => (laws_eqEngine (rO (k := 6) hs Y) (rO (k := 0) hs Y))) ?_))
     refine tZ Y (ty 4 Y (by kernel_rfl) Y (sv Y Y (rp Y) ?_))
     refine tZ Y (tE (by kernel_rfl) (Xt (Dh ([ov [v119, v120, (iv aE.Clock), v121, (.bool aE.Halted), v122] (aE : Engine), _, _, _, _, _, _, _, _, _, _]) Y (Ci _ Y (fun h127 => ?_) (fun h127 => ?_)))))
     ·have h127n := not_t h127
      refine Sr (Pe Y (Ct (Xr (Rb Y Y ?_))))
      first | rfl | (exfalso; omega) | (exfalso; simp only [cEn_mk] at *; omega) | exact absurd h127 (by simp)
     ·have h127n := not_f h127
      refine Sk (Cq (Cq (C_draw mixed [3, 4] (by kernel_rfl) (Tk 0 Y (by kernel_rfl) Y (lbw 3 a_70 Y Y Y) (Tk 1 Y (by kernel_rfl) Y (lbw 9 a_60 Y Y Y) (ty 2 Y (by kernel_rfl) Y (crs Y b_27 Y Y Y Y (fun w' hs => (laws_toFact (rA hs h_aF) (by first | assumption | omega | (unfold szm at *; split at * <;> omega)))) fun cs128 => ?_)))))))
      refine Dp (fun w' hs => shape_Fact (rO (k := 0) hs Y)) ?_
      rintro ⟨v129, rfl, ho130⟩
      refine tS (fun _ hs => hs.pk [1, 2, 3, 4, 5, 6, 7, 8, 9, 10, 11] Y Y) (ty 3 Y (by kernel_rfl) Y (cv b_30 Y Y Y Y (fun w' hs => (laws_eqFact (rO (k := 5) hs Y) (rO (k := 0) hs Y))) ?_))
      refine tZ Y (ty 4 Y (by kernel_rfl) Y (sv Y Y (rp Y) ?_))
      refine tZ Y (tE (by kernel_rfl) (Xt (Dh ([ov [(.string aF.Rel), v129] (aF : Fact), _, _, _, _, _, _, _, _, _, _, _]) Y (Ci _ Y (fun h131 => ?_) (fun h131 => ?_)))))
      ·have h131n := not_t h131
       refine Sr (Pe Y (Ct (Xr (Rb Y Y ?_))))
       first | rfl | (exfalso; omega) | (exfalso; simp only [cEn_mk] at *; omega) | exact absurd h131 (by simp)
      ·have h131n := not_f h131
       refine Sk (Sr (Pe Y (Sr (q1 Y (lbw 6 a_66 Y Y Y) (p1 Y (D_pkO [7, 0, 1, 2, 3, 4, 5, 6, 8, 9, 10, 11] Y (li Y (cm b_31 Y Y Y Y (fun w' hs => laws_markEngine _ _ w' [v92, v93, (iv aE.Clock), v94, (.bool aE.Halted), v95] aE 1 (by first | assumption | omega | (simp only; omega)) (by first | assumption | omega | (simp only; omega)) hs) ?_))))))))
       refine Pe Y (D_wk [2, 3, 6, 7, 9, 10, 11, 12] Y (D_pkO [3, 4, 5, 6, 8, 9, 10, 11] Y (Sr (q1 Y (lbw 2 a_70 Y Y Y) (p1 Y (D_pkO [3, 0, 1, 2, 4, 5, 6, 7] Y (li Y (cm b_32 Y Y Y Y (fun w' hs => laws_markFact _ _ w' [(.string aF.Rel), v102] aF (1 + cEn aE) (by first | assumption | omega | (simp only; omega)) (by first | assumption | omega | (simp only; omega)) hs) ?_))))))))
       refine Pe Y (Dh ([ov [(.string aF.Rel), v102] (mkF1 (1 + cEn aE) aF : Fact), _, _, _, _, _, _, _]) Y (Cq (Sr (P3 Y Y Y (gs 72 Y Y (fun h132 => ?_) (fun h132 => ?_))))))
       ·have pr132 := odT h132
        refine n1 Y (n1 Y (n1 Y (n1 Y (P2 Y Y (n1 Y (n1 Y (n1 Y (Pe Y (D_wk [2, 3, 6, 7, 10, 82] Y (D_pkO [1, 2, 4, 5, 6, 7] Y (C_t Y (Sr (Pe Y (Ct (Xr (Rb Y Y ?_))))))))))))))))
        first | rfl | (exfalso; omega) | (exfalso; simp only [cEn_mk] at *; omega) | exact absurd h132 (by simp)
       ·have pr132 := odF h132
        refine q1 Y (lbw 1 a_66 Y Y Y) (q1 Y (lbw 4 a_66 Y Y Y) (li Y (cv b_29 Y Y Y Y (fun w' hs => (laws_eqEngine (rO (k := 2) hs Y) (rO (k := 5) hs Y))) ?_)))
        refine P3 Y Y Y (gkf 78 Y Y h116 (P2 Y Y (q1 Y (D_neB ub_4 Y Y Y) (Pe Y (D_wk [2, 3, 6, 7, 10, 82] Y (D_pkO [1, 2, 4, 5, 6, 7] Y (C_kf Y h117 (Sk (Sr (Pe Y (Sr (q1 Y (lbw 0 a_66 Y Y Y) (p1 Y (D_pkO [1, 0, 2, 3, 4, 5] Y (li Y (cm b_31 Y Y Y Y (fun w' hs => laws_markEngine _ _ w' [v107, v108, (iv ((putE aE aF).Clock)), v109, (.bool ((putE aE aF).Halted)), v110] (putE aE aF) 1 (by first | assumption | omega | (simp only; omega)) (by first | assumption | omega | (simp only; omega)) hs) ?_))))))))))))))))
        refine Pe Y (Dh ([ov [v107, v108, (iv ((putE aE aF).Clock)), v109, (.bool ((putE aE aF).Halted)), v110] (mkE 1 (putE aE aF) : Engine), _, _, _, _, _]) Y (Sr (Pe Y (Sr (q1 Y (lbw 1 a_66 Y Y Y) (p1 Y (li Y (cv b_33 Y Y Y Y (fun w' hs => (laws_heldEngine (rO (k := 0) hs Y) (by first | assumption | omega | (unfold szm at *; split at * <;> omega)) (by rw [cEn_mk]; omega) (mkE_idem _ _))) ?_))))))))
        refine Pe Y (Cq (Sr (P2 Y Y (Dx (Ci _ Y (fun h135 => ?_) (fun h135 => ?_))))))
        ·have pr135 := odT h135
         refine Sr (Pe Y (Ct (Xr (Rb Y Y ?_))))
         first | rfl | (exfalso; omega) | (exfalso; simp only [cEn_mk] at *; omega) | exact absurd h135 (by simp)
        ·have pr135 := odF h135
         refine Sk (Cq (Sr (P3 Y Y Y (Dx (Ci _ Y (fun h136 => ?_) (fun h136 => ?_))))))
         ·have pr136 := bne_iff_ne.1 h136
          refine Sr (Pe Y (Ct (Xr (Rb Y Y ?_))))
          first | rfl | (exfalso; omega) | (exfalso; simp only [cEn_mk] at *; omega) | exact absurd h136 (by simp)
         ·have pr136 := eq_of_bne_f h136
          refine Sk (Cq (C_join (fun ac w' => ∃ (g159 : Nat), ∃ (v151 : Value), ∃ (v152 : Value), ∃ (v153 : Value), ∃ (v154 : Value), (v151.oneCell' = true) ∧ (v152.oneCell' = true) ∧ (v153.oneCell' = true) ∧ (v154.oneCell' = true) ∧ Fits ac 119 [(6, (pv g42)), (7, (.bool (putB aE aF))), (10, (pv g115)), (13, (iv (1 + cEn (putE aE aF)))), (15, (pv g159)), (16, (.bool (putB aE aF)))] ∧ St w ([bx g159 [v151, v152, (iv ((putE aE aF).Clock)), v153, (.bool ((putE aE aF).Halted)), v154], ov [v151, v152, (iv ((putE aE aF).Clock)), v153, (.bool ((putE aE aF).Halted)), v154] (putE aE aF : Engine), ov [v107, v108, (iv ((putE aE aF).Clock)), v109, (.bool ((putE aE aF).Halted)), v110] (mkE 1 (putE aE aF) : Engine), bx g115 [v107, v108, (iv ((putE aE aF).Clock)), v109, (.bool ((putE aE aF).Halted)), v110], bx g42 [v34, v35, (iv ((putE aE aF).Clock)), v36, (.bool ((putE aE aF).Halted)), v37], ov [v34, v35, (iv ((putE aE aF).Clock)), v36, (.bool ((putE aE aF).Halted)), v37] (putE aE aF : Engine), bx g17 [(.string aF.Rel), u13], bx g16 [u1, u3, (iv aE.Clock), u5, (.bool aE.Halted), u7]]) w') ?_ ?_))
          ·refine C_draw mixed [] (by kernel_rfl) (Tk 0 Y (by kernel_rfl) Y (lbw 5 a_57 Y Y Y) (Tk 2 Y (by kernel_rfl) Y (lbw 4 a_60 Y Y Y) (tyN [1, 8] Y (by kernel_rfl) ⟨⟨_, Y, Y, ?_⟩, ⟨_, Y, Y, ?_⟩, trivial⟩)))
           ·refine id (crs Y b_26 Y Y Y Y (fun w' hs => (laws_toEngine (rA hs h_aE) (by first | assumption | omega | (unfold szm at *; split at * <;> omega)))) fun cs137 => ?_)
            refine Dp (fun w' hs => shape_Engine (rO (k := 0) hs Y)) ?_
            rintro ⟨v138, v139, v140, v141, rfl, ho142, ho143, ho144, ho145⟩
            refine tS (fun _ hs => hs.pk [1, 2, 3, 4, 5, 6] Y Y) (tyN [3, 8] Y (by kernel_rfl) ⟨⟨_, Y, Y, ?_⟩, ⟨_, Y, Y, ?_⟩, trivial⟩)
            ·refine id (crs Y b_27 Y Y Y Y (fun w' hs => (laws_toFact (rA hs h_aF) (by first | assumption | omega | (unfold szm at *; split at * <;> omega)))) fun cs146 => ?_)
             refine Dp (fun w' hs => shape_Fact (rO (k := 0) hs Y)) ?_
             rintro ⟨v147, rfl, ho148⟩
             refine tS (fun _ hs => hs.pk [2, 3, 4, 5, 6, 7] Y Y) (tyN [4, 8] Y (by kernel_rfl) ⟨⟨_, Y, Y, ?_⟩, ⟨_, Y, Y, ?_⟩, trivial⟩)
             ·refine id (cr2 b_35 Y Y Y Y (fun w' hs => (impl_PutFact (rO (k := 1) hs Y) (rO (k := 0) hs Y) (by first | assumption | omega | (unfold szm at *; split at * <;> omega)) (by first | assumption | omega | (unfold szm at *; split at * <;> omega)) (Tb.ext htb hs.bel))) fun cs149 cs150 => ?_)
              refine Dp (fun w' hs => shape_Engine (rO (k := 0) hs Y)) ?_
              rintro ⟨v151, v152, v153, v154, rfl, ho155, ho156, ho157, ho158⟩
              refine Dp (fun w' hs => show cs150 = [(.bool (putB aE aF))] from rO (k := 1) hs Y) ?_
              rintro rfl
              refine D_re 99 (v' := (.tuple #[(.agg #[v151, v152, (iv ((putE aE aF).Clock)), v153, (.bool ((putE aE aF).Halted)), v154]), (.bool (putB aE aF))])) Y Y Y (D_pkO [0, 2, 3, 4, 5, 6, 7, 8, 9] Y (tS (fun _ hs => hs.pk [3, 4, 5, 6, 7, 8] Y Y) (Tj 5 Y (by kernel_rfl) Y (fun _ hs => hs.pk [3, 4, 5, 6, 7, 8] Y Y) (rp Y) (Tj 6 Y (by kernel_rfl) Y (fun _ hs => hs.pk [3, 4, 5, 6, 7, 8] Y Y) (rp Y) (Tj 7 Y (by kernel_rfl) Y (fun _ hs => hs.pk [3, 4, 5, 6, 7, 8] Y Y) (rp Y) (ty 8 Y (by kernel_rfl) Y (D_alloc y_66 Y Y Y Y fun g159 => ?_)))))))
              refine tS (fun _ hs => hs.pk [4, 5, 6, 7, 8, 9] Y Y) (ty 9 Y (by kernel_rfl) Y (D_stb (vs := [v151, v152, (iv ((putE aE aF).Clock)), v153, (.bool ((putE aE aF).Halted)), v154]) (cs' := [v151, v152, (iv ((putE aE aF).Clock)), v153, (.bool ((putE aE aF).Halted)), v154]) 0 z_66 Y Y Y Y Y Y (ocons ho155 (ocons ho156 (ocons Y (ocons ho157 (ocons Y (ocons ho158 onil)))))) (by simp) Y ?_))
              refine tS (fun _ hs => hs.pk [4, 5, 6, 7, 8, 9] Y Y) (Tj 10 Y (by kernel_rfl) Y (fun _ hs => hs.pk [4, 5, 6, 7, 8, 9] Y Y) (rp Y) (tE (by kernel_rfl) (Xt (fun ac w' hf hs => ⟨g159, v151, v152, v153, v154, ho155, ho156, ho157, ho158, hf.wk Y, hs.pk [0, 1, 4, 5, 6, 7, 8, 9] Y Y⟩))))
             ·refine id (D_alloc y_66 Y Y Y Y fun g160 => ?_)
              refine tS (fun _ hs => hs.pk [3, 4, 5, 6, 7, 8] Y Y) (ty 4 Y (by kernel_rfl) Y (cr2 b_35 Y Y Y Y (fun w' hs => (impl_PutFact (rO (k := 2) hs Y) (rO (k := 1) hs Y) (by first | assumption | omega | (unfold szm at *; split at * <;> omega)) (by first | assumption | omega | (unfold szm at *; split at * <;> omega)) (Tb.ext htb hs.bel))) fun cs161 cs162 => ?_))
              refine Dp (fun w' hs => shape_Engine (rO (k := 0) hs Y)) ?_
              rintro ⟨v163, v164, v165, v166, rfl, ho167, ho168, ho169, ho170⟩
              refine Dp (fun w' hs => show cs162 = [(.bool (putB aE aF))] from rO (k := 1) hs Y) ?_
              rintro rfl
              refine D_re 99 (v' := (.tuple #[(.agg #[v163, v164, (iv ((putE aE aF).Clock)), v165, (.bool ((putE aE aF).Halted)), v166]), (.bool (putB aE aF))])) Y Y Y (D_pkO [0, 2, 3, 4, 5, 6, 7, 8, 9, 10] Y (tS (fun _ hs => hs.pk [4, 5, 6, 7, 8, 9] Y Y) (Tj 5 Y (by kernel_rfl) Y (fun _ hs => hs.pk [4, 5, 6, 7, 8, 9] Y Y) (rp Y) (Tj 6 Y (by kernel_rfl) Y (fun _ hs => hs.pk [4, 5, 6, 7, 8, 9] Y Y) (rp Y) (Tj 7 Y (by kernel_rfl) Y (fun _ hs => hs.pk [4, 5, 6, 7, 8, 9] Y Y) (rp Y) (ty 9 Y (by kernel_rfl) Y (D_stb (vs := [v163, v164, (iv ((putE aE aF).Clock)), v165, (.bool ((putE aE aF).Halted)), v166]) (cs' := [v163, v164, (iv ((putE aE aF).Clock)), v165, (.bool ((putE aE aF).Halted)), v166]) 1 z_66 Y Y Y Y Y Y (ocons ho167 (ocons ho168 (ocons Y (ocons ho169 (ocons Y (ocons ho170 onil)))))) (by simp) Y ?_)))))))
              refine tS (fun _ hs => hs.pk [4, 5, 6, 7, 8, 9] Y Y) (Tj 10 Y (by kernel_rfl) Y (fun _ hs => hs.pk [4, 5, 6, 7, 8, 9] Y Y) (rp Y) (tE (by kernel_rfl) (Xt (fun ac w' hf hs => ⟨g160, v163, v164, v165, v166, ho167, ho168, ho169, ho170, hf.wk Y, hs.pk [1, 0, 4, 5, 6, 7, 8, 9] Y Y⟩))))
            ·refine id (D_alloc y_66 Y Y Y Y fun g171 => ?_)
             refine tS (fun _ hs => hs.pk [2, 3, 4, 5, 6, 7] Y Y) (ty 3 Y (by kernel_rfl) Y (crs Y b_27 Y Y Y Y (fun w' hs => (laws_toFact (rA hs h_aF) (by first | assumption | omega | (unfold szm at *; split at * <;> omega)))) fun cs172 => ?_))
             refine Dp (fun w' hs => shape_Fact (rO (k := 0) hs Y)) ?_
             rintro ⟨v173, rfl, ho174⟩
             refine tS (fun _ hs => hs.pk [3, 4, 5, 6, 7, 8] Y Y) (ty 4 Y (by kernel_rfl) Y (cr2 b_35 Y Y Y Y (fun w' hs => (impl_PutFact (rO (k := 2) hs Y) (rO (k := 0) hs Y) (by first | assumption | omega | (unfold szm at *; split at * <;> omega)) (by first | assumption | omega | (unfold szm at *; split at * <;> omega)) (Tb.ext htb hs.bel))) fun cs175 cs176 => ?_))
             refine Dp (fun w' hs => shape_Engine (rO (k := 0) hs Y)) ?_
             rintro ⟨v177, v178, v179, v180, rfl, ho181, ho182, ho183, ho184⟩
             refine Dp (fun w' hs => show cs176 = [(.bool (putB aE aF))] from rO (k := 1) hs Y) ?_
             rintro rfl
             refine D_re 99 (v' := (.tuple #[(.agg #[v177, v178, (iv ((putE aE aF).Clock)), v179, (.bool ((putE aE aF).Halted)), v180]), (.bool (putB aE aF))])) Y Y Y (D_pkO [0, 2, 3, 4, 5, 6, 7, 8, 9, 10] Y (tS (fun _ hs => hs.pk [4, 5, 6, 7, 8, 9] Y Y) (Tj 5 Y (by kernel_rfl) Y (fun _ hs => hs.pk [4, 5, 6, 7, 8, 9] Y Y) (rp Y) (Tj 6 Y (by kernel_rfl) Y (fun _ hs => hs.pk [4, 5, 6, 7, 8, 9] Y Y) (rp Y) (Tj 7 Y (by kernel_rfl) Y (fun _ hs => hs.pk [4, 5, 6, 7, 8, 9] Y Y) (rp Y) (ty 9 Y (by kernel_rfl) Y (D_stb (vs := [v177, v178, (iv ((putE aE aF).Clock)), v179, (.bool ((putE aE aF).Halted)), v180]) (cs' := [v177, v178, (iv ((putE aE aF).Clock)), v179, (.bool ((putE aE aF).Halted)), v180]) 2 z_66 Y Y Y Y Y Y (ocons ho181 (ocons ho182 (ocons Y (ocons ho183 (ocons Y (ocons ho184 onil)))))) (by simp) Y ?_)))))))
             refine tS (fun _ hs => hs.pk [4, 5, 6, 7, 8, 9] Y Y) (Tj 10 Y (by kernel_rfl) Y (fun _ hs => hs.pk [4, 5, 6, 7, 8, 9] Y Y) (rp Y) (tE (by kernel_rfl) (Xt (fun ac w' hf hs => ⟨g171, v177, v178, v179, v180, ho181, ho182, ho183, ho184, hf.wk Y, hs.pk [2, 0, 4, 5, 6, 7, 8, 9] Y Y⟩))))
           ·refine id (D_alloc y_66 Y Y Y Y fun g185 => ?_)
            refine tS (fun _ hs => hs.pk [1, 2, 3, 4, 5, 6] Y Y) (ty 1 Y (by kernel_rfl) Y (crs Y b_26 Y Y Y Y (fun w' hs => (laws_toEngine (rA hs h_aE) (by first | assumption | omega | (unfold szm at *; split at * <;> omega)))) fun cs186 => ?_))
            refine Dp (fun w' hs => shape_Engine (rO (k := 0) hs Y)) ?_
            rintro ⟨v187, v188, v189, v190, rfl, ho191, ho192, ho193, ho194⟩
            refine tS (fun _ hs => hs.pk [2, 3, 4, 5, 6, 7] Y Y) (ty 3 Y (by kernel_rfl) Y (crs Y b_27 Y Y Y Y (fun w' hs => (laws_toFact (rA hs h_aF) (by first | assumption | omega | (unfold szm at *; split at * <;> omega)))) fun cs195 => ?_))
            refine Dp (fun w' hs => shape_Fact (rO (k := 0) hs Y)) ?_
            rintro ⟨v196, rfl, ho197⟩
            refine tS (fun _ hs => hs.pk [3, 4, 5, 6, 7, 8] Y Y) (ty 4 Y (by kernel_rfl) Y (cr2 b_35 Y Y Y Y (fun w' hs => (impl_PutFact (rO (k := 1) hs Y) (rO (k := 0) hs Y) (by first | assumption | omega | (unfold szm at *; split at * <;> omega)) (by first | assumption | omega | (unfold szm at *; split at * <;> omega)) (Tb.ext htb hs.bel))) fun cs198 cs199 => ?_))
            refine Dp (fun w' hs => shape_Engine (rO (k := 0) hs Y)) ?_
            rintro ⟨v200, v201, v202, v203, rfl, ho204, ho205, ho206, ho207⟩
            refine Dp (fun w' hs => show cs199 = [(.bool (putB aE aF))] from rO (k := 1) hs Y) ?_
            rintro rfl
            refine D_re 99 (v' := (.tuple #[(.agg #[v200, v201, (iv ((putE aE aF).Clock)), v202, (.bool ((putE aE aF).Halted)), v203]), (.bool (putB aE aF))])) Y Y Y (D_pkO [0, 2, 3, 4, 5, 6, 7, 8, 9, 10] Y (tS (fun _ hs => hs.pk [4, 5, 6, 7, 8, 9] Y Y) (Tj 5 Y (by kernel_rfl) Y (fun _ hs => hs.pk [4, 5, 6, 7, 8, 9] Y Y) (rp Y) (Tj 6 Y (by kernel_rfl) Y (fun _ hs => hs.pk [4, 5, 6, 7, 8, 9] Y Y) (rp Y) (Tj 7 Y (by kernel_rfl) Y (fun _ hs => hs.pk [4, 5, 6, 7, 8, 9] Y Y) (rp Y) (ty 9 Y (by kernel_rfl) Y (D_stb (vs := [v200, v201, (iv ((putE aE aF).Clock)), v202, (.bool ((putE aE aF).Halted)), v203]) (cs' := [v200, v201, (iv ((putE aE aF).Clock)), v202, (.bool ((putE aE aF).Halted)), v203]) 3 z_66 Y Y Y Y Y Y (ocons ho204 (ocons ho205 (ocons Y (ocons ho206 (ocons Y (ocons ho207 onil)))))) (by simp) Y ?_)))))))
            refine tS (fun _ hs => hs.pk [4, 5, 6, 7, 8, 9] Y Y) (Tj 10 Y (by kernel_rfl) Y (fun _ hs => hs.pk [4, 5, 6, 7, 8, 9] Y Y) (rp Y) (tE (by kernel_rfl) (Xt (fun ac w' hf hs => ⟨g185, v200, v201, v202, v203, ho204, ho205, ho206, ho207, hf.wk Y, hs.pk [3, 0, 4, 5, 6, 7, 8, 9] Y Y⟩))))
          rintro ac w' ⟨g159, v151, v152, v153, v154, ho155, ho156, ho157, ho158, hf, hs⟩
          refine D.use ?_ hf hs
          clear hf hs ac w'
          refine Xt (Dh ([_, _, _, _, _, _, _, _]) Y (Cq (Sr (q1 Y (lbw 0 a_66 Y Y Y) (q1 Y (lbw 4 a_66 Y Y Y) (li Y (cv b_29 Y Y Y Y (fun w' hs => (laws_eqEngine (rO (k := 1) hs Y) (rO (k := 5) hs Y))) ?_)))))))
          refine P2 Y Y (gkf 106 Y Y h116 (P2 Y Y (q1 Y (D_neB ub_4 Y Y Y) (Pe Y (C_kf Y h117 (Sk (Sr (Pe Y (Sr (q1 Y (lbw 3 a_66 Y Y Y) (p1 Y (li Y (cv b_33 Y Y Y Y (fun w' hs => (laws_heldEngine (rO (k := 2) hs Y) (by first | assumption | omega | (unfold szm at *; split at * <;> omega)) (by rw [cEn_mk]; omega) (mkE_idem _ _))) ?_)))))))))))))
          refine Pe Y (D_wk [13, 14] Y (D_pkO [] Y (Cq (Sr (P2 Y Y (Dx (C_kf Y h135 (Sk (Cq (Sr (P3 Y Y Y (Dx (C_kf Y h136 (Sk (Cq ?_)))))))))))))))
          refine Cr (Pe Y (Ct (Rb Y Y ?_)))
          first | rfl | (exfalso; omega) | (exfalso; simp only [cEn_mk] at *; omega) | exact absurd h136 (by simp)
end Go.Sy.Put2
