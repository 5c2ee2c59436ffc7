/-
  Contracts of functions of the program, walked (printed by a program of ours).
  Conditions: those that each theorem states.
-/
import Derived.Test.YtfmjgnjaoihefaaGreatDoorFct
import Derived.Test.YtfmjgnjaoihefaaGreatDoorMat3
import Derived.Test.YtfmjgnjaoihefaaGreatDoorCmp4
set_option linter.unusedVariables false
set_option maxRecDepth 20000
namespace Go.Sy.Mat4
open Go Go.RowKit Go.Proofs Go.Sy
open Go.Sy.Bel1 Go.Sy.Bel3 Go.Sy.Ev1 Go.Sy.Ev2 Go.Sy.Fmt1 Go.Sy.Eng1 Go.Sy.Eng2 Go.Sy.Eng3 Go.Sy.Eng5 Go.Sy.Num1 Go.Sy.Num2 Go.Sy.Cho1 Go.Sy.Fal2 Go.Sy.Cho2 Go.Sy.Mat1 Go.Sy.Num3 Go.Sy.Mat2 Go.Sy.Cmp2 Go.Sy.Mat3 Go.Sy.Cmp4
set_option maxHeartbeats 8000000 in
theorem laws_FnExactConflicts(w:World)(l:List Value)(aE:Engine)(d:Gd.rd w l aE)(o:QC aE)(p:Tb w):Cy 7 [(.agg l.toArray)] w (Val w (.bool (true))):=by
 obtain⟨u1,u3,u5,u7,rfl,q,r,s,t⟩:=C6 d;have bb:=rM q;have ae:=rM r;have af:=rM s;have ag:=rM t;refine CX 69 Tryz.func7 Y Y Y (GL w w) (Sr (bX Y λg13=>?_));refine Pe Y (Dh ([bx g13 [u1,u3,(iv aE.Clock),u5,(.bool aE.Halted),u7],fz w w]) Y (Sr (Pe Y (Sr (q1 Y (C9 0 qM Y Y Y) (p1 Y (qv b_8 Y (λw' hs=>(V2 (B0 1 (E4.refl _) hs Y d) (by first|assumption|omega|(unfold ED at*;split at* <;>omega)) (by first|assumption|omega|(unfold ED at*;split at* <;>omega)) o)) (Pe Y (Cq (Sr (P2 Y Y (Dx (Cd Y (λg=>?_) (λg=>?_))))))))))))))
 ·refine Sr (Pe Y (Ct (Xr (Rb Y Y ?_))))
  first|rfl|(exfalso;omega)|(exfalso;simp only[LL] at*;omega)|exact absurd (decide_eq_true g) (by simp)
 ·have a9:=EE g;refine Sk (Cq ?_);have bc:DI aE<=1048576:=by unfold ED at*;split at* <;>omega
  have bd:=A2H aE;have be:=nM aE;have bf:=LL 1 (HY aE);refine Cr (q1 Y (C9 0 qM Y Y Y) (qs Y wG Y (λw' hs=>(IW (B0 1 (E4.refl _) hs Y d) (by first|assumption|omega|(unfold ED at*;split at* <;>omega)))) λah=>?_));refine Dp (λw' hs=>H5 (rO (k:=0) hs Y)) ?_;rintro⟨aa,v17,ab,ac,rfl,ai,aj,ak,al⟩;refine AG [0,2,1] Y (MY (E4.refl _) λam b h=>?_);have u:=Gd.rd_sub b q;have v:=Gd.rd_sub b r;have x:=Gd.rd_sub b s;have y:=Gd.rd_sub b t;have z:=Gd.rd_sub b d;obtain⟨zhu32_,zhu33_,zhu34_,zhu35_,e_,a0,a1,a2,a3⟩:=C6 h
  cases e_
  refine li Y (cz (α:=List Choice) A7L Y Y Y Y (E4.refl _) (λw' hsb=>VH w' _ hsb [aa,v17,(iv aE.Clock),ab,(.bool aE.Halted),ac] aE h (by first|assumption|omega) o) λan a4 a c=>?_);have ao:=Gd.rd_sub a u;have ap:=Gd.rd_sub a v;have aq:=Gd.rd_sub a x;have ar:=Gd.rd_sub a y;have au:=Gd.rd_sub a a0;have av:=Gd.rd_sub a a1;have aw:=Gd.rd_sub a a2;have ax:=Gd.rd_sub a a3;have i:=Gd.rd_sub a z;have ay:=Gd.rd_sub a h;obtain⟨v50,rfl⟩:=CL c;have az:=rM c;refine MS 18 (v':=v50) Y Y Y (Pe Y (Dh ([fz w a4,_]) Y (Sr (q1 Y (C9 1 qM Y Y Y) (qs Y wG Y (λw' hs=>(IW (B0 0 (E4.refl _) hs Y i) (by first|assumption|omega|(unfold ED at*;split at* <;>omega)))) λb0=>?_)))));refine Dp (λw' hs=>H5 (rO (k:=0) hs Y)) ?_;rintro⟨v53,v54,v55,v56,rfl,a5,a6,a7,a8⟩;refine aL A1S Y λad=>?_
  refine li Y (AZ (vs:=[v53,v54,(iv aE.Clock),v55,(.bool aE.Halted),v56]) (cs':=[v53,v54,(iv aE.Clock),v55,(.bool aE.Halted),v56]) 0 A3b Y Y Y Y Y Y (AB a5 (AB a6 (AB Y (AB a7 (AB Y (AB a8 BR)))))) (by simp) Y ?_);refine Dx (Dh ([bx ad [v53,v54,(iv aE.Clock),v55,(.bool aE.Halted),v56],ov [v53,v54,(iv aE.Clock),v55,(.bool aE.Halted),v56] (aE:Engine),_,_]) Y (Sr (q1 Y (C9 0 YR Y Y Y) (ql A5B Y (λw' hs=>(N3 (rO (k:=1) hs Y) (by first|assumption|omega|(unfold ED at*;split at* <;>omega)) (Tb.ext p hs.bel))) λv62=>?_))));refine Pe Y (AH [1,4,5,6] Y (Dh ([ov [v62] (HY aE:(List Choice)),_,_,_,_]) Y (Cq (Sr (P2 Y Y (qv A1Y Y (λw' hs=>(KH (rO (k:=0) hs Y) (B0 3 (E4.refl _) hs Y c))) (Pe Y (CN Y (λe=>?_) (λe=>?_)))))))))
  ·refine Sr (Pe Y (Ct (Xr (Rb Y Y ?_))))
   first|rfl|(exfalso;omega)|(exfalso;simp only[LL] at*;omega)|exact absurd (VJ e) (by simp)
  ·refine Sk (Cq (Cq (A0 mixed [3,4] (by kernel_rfl) (Tk 0 Y Y (C9 1 YR Y Y Y) (Tk 1 Y Y (C9 4 qM Y Y Y) (ty 2 Y Y (zE Y wG Y Y Y Y (λw' hs=>(IW (B0 3 (E4.refl _) hs Y i) (by first|assumption|omega|(unfold ED at*;split at* <;>omega)))) λb1=>?_)))))));refine Dp (λw' hs=>H5 (rO (k:=0) hs Y)) ?_;rintro⟨v65,v66,v67,v68,rfl,b2,b3,b4,b5⟩;refine tS (λ_ hs=>hs.pk [1,2,3,4,5] Y Y) (ty 3 Y Y (cv A7M Y Y Y Y (λw' hs=>(V3 (rO (k:=3) hs Y) (rO (k:=0) hs Y))) ?_));refine tZ Y (tW 4 Y Y Y (tE (Xt (Dh ([ov [v65,v66,(iv aE.Clock),v67,(.bool aE.Halted),v68] (aE:Engine),_,_,_,_,_]) Y (CN Y (λm=>?_) (λm=>?_))))))
   ·refine Sr (Pe Y (Ct (Xr (Rb Y Y ?_))))
    first|rfl|(exfalso;omega)|(exfalso;simp only[LL] at*;omega)|exact absurd (VJ m) (by simp)
   ·refine Sk (Sr (Pe Y (Sr (q1 Y (C9 2 YR Y Y Y) (p1 Y (AG [3,0,1,2,4,5] Y (li Y (cm A7N Y Y Y Y (λw' hs=>SV _ _ w' [v53,v54,(iv aE.Clock),v55,(.bool aE.Halted),v56] aE 1 (by first|assumption|omega|(simp only;omega)) (by first|assumption|omega|(simp only;omega)) hs) ?_))))))));refine Pe Y (Dh ([ov [v53,v54,(iv aE.Clock),v55,(.bool aE.Halted),v56] (mkE 1 aE:Engine),_,_,_,_,_]) Y (Cq (Sr (P3 Y Y Y (EY 37 Y Y (λn=>?_) (λn=>?_))))))
    ·refine n1 Y (n1 Y (n1 Y (n1 Y (Pe Y (AH [1,4,6,42] Y (AG [2,4,5] Y (GF Y (Sr (Pe Y (Ct (Xr (Rb Y Y ?_))))))))))))
     first|rfl|(exfalso;omega)|(exfalso;simp only[LL] at*;omega)|exact absurd (decide_eq_true n) (by simp)
    ·refine P2 Y Y (qv A1Y Y (λw' hs=>(KH (rO (k:=2) hs Y) (B0 4 (E4.refl _) hs Y c))) (P2 Y Y (Dx (AH [1,4,6,42] Y (AG [2,4,5] Y (aM Y (TI e) (Sk (Sr (Pe Y (Sr (P2 Y Y (li Y (cm A7O Y Y Y Y (λw' hs=>R3 _ _ w' v62 (HY aE) 1 (by first|assumption|omega|(simp only;omega)) (by first|assumption|omega|(simp only;omega)) hs) ?_)))))))))))));refine Pe Y (Dh ([ov [v62] (CP aH OE 1 (HY aE):(List Choice)),_,_]) Y (Sr (Pe Y (Sr (P2 Y Y (qv A5C Y (λw' hs=>(L2 (rO (k:=0) hs Y) (by first|assumption|omega|(unfold ED at*;split at* <;>omega)) (by rw[LL];omega) (X1 _ _))) (Pe Y (Cq (Sr (P2 Y Y (Dx (Cd Y (λj=>?_) (λj=>?_)))))))))))))
     ·refine Sr (Pe Y (Ct (Xr (Rb Y Y ?_))))
      first|rfl|(exfalso;omega)|(exfalso;simp only[LL] at*;omega)|exact absurd (decide_eq_true j) (by simp)
     ·refine Sk (Cq (Sr (P3 Y Y Y (Dx (Cn Y (λf=>?_) (λf=>?_))))))
      ·refine Sr (Pe Y (Ct (Xr (Rb Y Y ?_))))
       first|rfl|(exfalso;omega)|(exfalso;simp only[LL] at*;omega)|exact absurd (bne_iff_ne.2 f) (by simp)
      ·refine Sk (Sr (q1 Y (C9 2 qM Y Y Y) (qs Y wG Y (λw' hs=>(IW (B0 1 (E4.refl _) hs Y i) (by first|assumption|omega|(unfold ED at*;split at* <;>omega)))) λb6=>?_)));refine Dp (λw' hs=>H5 (rO (k:=0) hs Y)) ?_;rintro⟨v79,v80,bg,v82,rfl,b7,b8,b9,ba⟩;refine ql A5B Y (λw' hs=>(N3 (rO (k:=0) hs Y) (by first|assumption|omega|(unfold ED at*;split at* <;>omega)) (Tb.ext p hs.bel))) λv87=>?_
       refine Pe Y (AH [4,6,8,10] Y (AG [0,2,3] Y (Dh ([ov [v87] (HY aE:(List Choice)),_,_]) Y (Cq (Sr (P2 Y Y (qv A1Y Y (λw' hs=>(KH (rO (k:=0) hs Y) (B0 2 (E4.refl _) hs Y c))) (Pe Y (aM Y (TI e) (Sk (Sr (Pe Y (Sr ?_)))))))))))));refine P2 Y Y (qv A5C Y (λw' hs=>(L2 (rO (k:=1) hs Y) (by first|assumption|omega|(unfold ED at*;split at* <;>omega)) (by rw[LL];omega) (X1 _ _))) (Pe Y (Cq (Sr (P2 Y Y (Dx (aM Y (decide_eq_false j) (Sk (Cq (Sr (P3 Y Y Y (Dx (AH [68] Y (AG [2] Y (aM Y (bG f) (Ck ?_))))))))))))))));refine Xt (Sr (Pe Y (Ct (Rb Y Y ?_))))
       first|rfl|(exfalso;omega)|(exfalso;simp only[LL] at*;omega)|exact absurd (bG f) (by simp)
end Go.Sy.Mat4
