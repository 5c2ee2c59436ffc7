/-
  Contracts of functions of the program, walked (printed by a program of ours).
  Conditions: those that each theorem states.
-/
import Derived.Test.YtobihkjhlopggaaGreatDoorFct
import Derived.Test.YtobihkjhlopggaaGreatDoorCmp1
set_option linter.unusedVariables false
set_option maxRecDepth 20000
namespace Go.Sy.Cmp3
open Go Go.RowKit Go.Proofs Go.Sy
open Go.Sy.Bel1 Go.Sy.Ev1 Go.Sy.Fmt1 Go.Sy.Num1 Go.Sy.Cho1 Go.Sy.Fal2 Go.Sy.Pdqs Go.Sy.Fal1 Go.Sy.Cmp1
theorem laws_FnExactCompareChoices (w : World) (c_aA : List Value) (aA : Choice) (c_aB : List Value) (aB : Choice) (h_aA : Gd.rd w c_aA aA) (h_aB : Gd.rd w c_aB aB) (hok : okChoice aA) (hok2 : okChoice aB) (htb : Tb w) : Calls Tryz.prog 3 [(.agg c_aA.toArray), (.agg c_aB.toArray)].toArray w (Val w (.bool (true))) := by
 obtain ⟨u1, u3, u5, rfl, hu2, hu4, hu6⟩ := open_Choice h_aA
 have hm7 := rd_max hu2
 have hm8 := rd_max hu4
 have hm9 := rd_max hu6
 have hb10 := sub_Choice_Match h_aA
 obtain ⟨u11, u13, u15, rfl, hu12, hu14, hu16⟩ := open_Choice h_aB
 have hm17 := rd_max hu12
 have hm18 := rd_max hu14
 have hm19 := rd_max hu16
 have hb20 := sub_Choice_Match h_aB
 have hz1 : szChoice aA = szMatch aA.Match + aA.Times.length := rfl
 have hz2 : szChoice aB = szMatch aB.Match + aB.Times.length := rfl
 refine enter 45 Tryz.func3 Y Y Y (Sr (li Y (D_box Y Y Y Y Y fun g21 => ?_)))
 refine li Y (D_box Y Y Y Y Y fun g22 => ?_)
 refine Pe Y (Dh ([bx g22 [(.string aB.Match.Rule), u11, u13, (iv aB.Priority), u15, (iv aB.Specific), (iv aB.Order)], bx g21 [(.string aA.Match.Rule), u1, u3, (iv aA.Priority), u5, (iv aA.Specific), (iv aA.Order)]]) Y (Sr (Pe Y (Sr (q1 Y (lbw 1 a_28 Y Y Y) (p1 Y (li Y (cv b_8 Y Y Y Y (fun w' hs => (laws_szChoice (rA hs h_aA) (by omega) (by omega) (by exact hok))) ?_))))))))
 refine Pe Y (Cq (Sr (P2 Y Y (Dx (Ci _ Y (fun h23 => ?_) (fun h23 => ?_))))))
 ·have pr23 := odT h23
  refine Sr (Pe Y (Ct (Xr (Rb Y Y ?_))))
  rfl
 ·have pr23 := odF h23
  have pr23z := szm_val pr23
  refine Sk (Sr (q1 Y (lbw 0 a_28 Y Y Y) (p1 Y (li Y (cv b_8 Y Y Y Y (fun w' hs => (laws_szChoice (rA hs h_aB) (by omega) (by omega) (by exact hok2))) ?_)))))
  refine Pe Y (Cq (Sr (P2 Y Y (Dx (Ci _ Y (fun h24 => ?_) (fun h24 => ?_))))))
  ·have pr24 := odT h24
   refine Sr (Pe Y (Ct (Xr (Rb Y Y ?_))))
   rfl
  ·have pr24 := odF h24
   have pr24z := szm_val pr24
   refine Sk (Cq (C_draw mixed [3, 4, 5] (by kernel_rfl) (Tk 0 Y (by kernel_rfl) Y (lbw 1 a_28 Y Y Y) (Tk 2 Y (by kernel_rfl) Y (lbw 0 a_28 Y Y Y) (ty 1 Y (by kernel_rfl) Y (crs Y b_10 Y Y Y Y (fun w' hs => (laws_toChoice (rA hs h_aA) (by omega))) fun cs25 => ?_))))))
   refine Dp (fun w' hs => shape_Choice (rO (k := 0) hs Y)) ?_
   rintro ⟨v26, v27, v28, rfl, ho29, ho30, ho31⟩
   refine tS (fun _ hs => hs.pk [1, 2] Y Y) (ty 3 Y (by kernel_rfl) Y (crs Y b_10 Y Y Y Y (fun w' hs => (laws_toChoice (rA hs h_aB) (by omega))) fun cs32 => ?_))
   refine Dp (fun w' hs => shape_Choice (rO (k := 0) hs Y)) ?_
   rintro ⟨v33, v34, v35, rfl, ho36, ho37, ho38⟩
   refine tZ Y (ty 4 Y (by kernel_rfl) Y (cv b_9 Y Y Y Y (fun w' hs => (spec_CompareChoices (rO (k := 1) hs Y) (rO (k := 0) hs Y) (by omega) (by omega))) ?_))
   refine tZ Y (ty 5 Y (by kernel_rfl) Y (sv Y Y (rp Y) ?_))
   refine tZ Y (tE (by kernel_rfl) (Xt (D_wk [2, 3, 6] Y (D_pkO [2, 3] Y (Sr (q1 Y (lbw 1 a_28 Y Y Y) (li Y (crs Y b_10 Y Y Y Y (fun w' hs => (laws_toChoice (rA hs h_aA) (by omega))) fun cs39 => ?_))))))))
   refine Dp (fun w' hs => shape_Choice (rO (k := 0) hs Y)) ?_
   rintro ⟨v40, v41, v42, rfl, ho43, ho44, ho45⟩
   refine li Y (D_alloc y_36 Y Y Y Y fun g46 => ?_)
   refine li Y (D_stb (vs := [(.string aA.Match.Rule), v40, v41, (iv aA.Priority), v42, (iv aA.Specific), (iv aA.Order)]) (cs' := [(.string aA.Match.Rule), v40, v41, (iv aA.Priority), v42, (iv aA.Specific), (iv aA.Order)]) 0 z_36 Y Y Y Y Y Y (ocons Y (ocons ho43 (ocons ho44 (ocons Y (ocons ho45 (ocons Y (ocons Y onil))))))) (by simp) Y ?_)
   refine Dx (Dh ([bx g46 [(.string aA.Match.Rule), v40, v41, (iv aA.Priority), v42, (iv aA.Specific), (iv aA.Order)], ov [(.string aA.Match.Rule), v40, v41, (iv aA.Priority), v42, (iv aA.Specific), (iv aA.Order)] (aA : Choice), _, _]) Y (Sr (q1 Y (lbw 2 a_28 Y Y Y) (li Y (crs Y b_10 Y Y Y Y (fun w' hs => (laws_toChoice (rA hs h_aB) (by omega))) fun cs47 => ?_)))))
   refine Dp (fun w' hs => shape_Choice (rO (k := 0) hs Y)) ?_
   rintro ⟨v48, v49, v50, rfl, ho51, ho52, ho53⟩
   refine li Y (D_alloc y_36 Y Y Y Y fun g54 => ?_)
   refine li Y (D_stb (vs := [(.string aB.Match.Rule), v48, v49, (iv aB.Priority), v50, (iv aB.Specific), (iv aB.Order)]) (cs' := [(.string aB.Match.Rule), v48, v49, (iv aB.Priority), v50, (iv aB.Specific), (iv aB.Order)]) 0 z_36 Y Y Y Y Y Y (ocons Y (ocons ho51 (ocons ho52 (ocons Y (ocons ho53 (ocons Y (ocons Y onil))))))) (by simp) Y ?_)
   refine Dx (Dh ([bx g54 [(.string aB.Match.Rule), v48, v49, (iv aB.Priority), v50, (iv aB.Specific), (iv aB.Order)], ov [(.string aB.Match.Rule), v48, v49, (iv aB.Priority), v50, (iv aB.Specific), (iv aB.Order)] (aB : Choice), _, _, _, _]) Y (Sr (q1 Y (lbw 2 a_36 Y Y Y) (q1 Y (lbw 0 a_36 Y Y Y) (li Y (cv b_11 Y Y Y Y (fun w' hs => (impl_CompareChoices (rO (k := 3) hs Y) (rO (k := 1) hs Y) (Tb.ext htb hs.bel) (by omega) (by omega))) ?_))))))
   refine Pe Y (Cq (Sr (P3 Y Y Y (Dx (Ci _ Y (fun h55 => ?_) (fun h55 => ?_))))))
   ·have pr55 := bne_iff_ne.1 h55
    refine Sr (Pe Y (Ct (Xr (Rb Y Y ?_))))
    exfalso; omega
   ·have pr55 := eq_of_bne_f h55
    refine Sk (Cq (Cq (C_draw mixed [3, 4] (by kernel_rfl) (Tk 0 Y (by kernel_rfl) Y (lbw 2 a_36 Y Y Y) (Tk 1 Y (by kernel_rfl) Y (lbw 5 a_28 Y Y Y) (ty 2 Y (by kernel_rfl) Y (crs Y b_10 Y Y Y Y (fun w' hs => (laws_toChoice (rA hs h_aA) (by omega))) fun cs56 => ?_)))))))
    refine Dp (fun w' hs => shape_Choice (rO (k := 0) hs Y)) ?_
    rintro ⟨v57, v58, v59, rfl, ho60, ho61, ho62⟩
    refine tS (fun _ hs => hs.pk [1, 2, 3, 4, 5, 6] Y Y) (ty 3 Y (by kernel_rfl) Y (cv b_12 Y Y Y Y (fun w' hs => (laws_eqChoice (rO (k := 4) hs Y) (rO (k := 0) hs Y))) ?_))
    refine tZ Y (ty 4 Y (by kernel_rfl) Y (sv Y Y (rp Y) ?_))
    refine tZ Y (tE (by kernel_rfl) (Xt (D_wk [3, 8, 39] Y (D_pkO [1, 2, 5] Y (Ci _ Y (fun h63 => ?_) (fun h63 => ?_))))))
    ·have h63n := not_t h63
     refine Sr (Pe Y (Ct (Xr (Rb Y Y ?_))))
     exact absurd h63 (by simp)
    ·have h63n := not_f h63
     refine Sk (Cq (Cq (C_draw mixed [3, 4] (by kernel_rfl) (Tk 0 Y (by kernel_rfl) Y (lbw 0 a_36 Y Y Y) (Tk 1 Y (by kernel_rfl) Y (lbw 2 a_28 Y Y Y) (ty 2 Y (by kernel_rfl) Y (crs Y b_10 Y Y Y Y (fun w' hs => (laws_toChoice (rA hs h_aB) (by omega))) fun cs64 => ?_)))))))
     refine Dp (fun w' hs => shape_Choice (rO (k := 0) hs Y)) ?_
     rintro ⟨v65, v66, v67, rfl, ho68, ho69, ho70⟩
     refine tS (fun _ hs => hs.pk [1, 2, 3] Y Y) (ty 3 Y (by kernel_rfl) Y (cv b_12 Y Y Y Y (fun w' hs => (laws_eqChoice (rO (k := 2) hs Y) (rO (k := 0) hs Y))) ?_))
     refine tZ Y (ty 4 Y (by kernel_rfl) Y (sv Y Y (rp Y) ?_))
     refine tZ Y (tE (by kernel_rfl) (Xt (Dh ([ov [(.string aB.Match.Rule), v65, v66, (iv aB.Priority), v67, (iv aB.Specific), (iv aB.Order)] (aB : Choice), _, _, _]) Y (Ci _ Y (fun h71 => ?_) (fun h71 => ?_)))))
     ·have h71n := not_t h71
      refine Sr (Pe Y (Ct (Xr (Rb Y Y ?_))))
      exact absurd h71 (by simp)
     ·have h71n := not_f h71
      refine Sk (Sr (Pe Y (Ct (Rb Y Y ?_))))
      rfl
end Go.Sy.Cmp3
